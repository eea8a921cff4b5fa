/- What the functions of this program answer, part sb. -/
import Derived.Test.YtmamlgjbendjhaaGreatXsa
import Derived.Test.YtmamlgjbendjhaaGreatXrh
set_option linter.unusedVariables false
set_option maxHeartbeats 2000000
open Go.IntKind (i64)
namespace Go.Abs.Xz
open Go Go.Abs
structure Two (w:aW) (p q:Int):Prop where
 pn:p.toNat<w.1.length∧0≤p
 qn:q.toNat<w.1.length∧0≤q
 ne:p≠q
 pid:(gt w.1 p.toNat).1=p
 qid:(gt w.1 q.toNat).1=q
theorem BK{w:aW}{p q:Int}(h:exB w p q=true):Two w p q:=by
 unfold exB at h
 simp only[Bool.and_eq_true,bH,bne_iff_ne] at h
 obtain⟨h1,h2,h3,h4⟩:=h
 have h5:=h1
 unfold cW at h5
 simp only[Bool.and_eq_true,bH] at h5
 obtain⟨h6,_,_,h7,_⟩:=h5
 rw[IntKind.wrap_i64] at h2 h3
 have id:∀ i:Int,0≤i→i.toNat<w.1.length→(gt w.1 i.toNat).1=i:=fun i h0 hi=>by
  have:=cG.1 h7 i.toNat hi
  unfold kI at this
  simp only[Bool.and_eq_true,beq_iff_eq] at this
  rw[this.2.2];omega
 exact⟨by omega,by omega,h4,id p (by omega) (by omega),id q (by omega) (by omega)⟩
def A7(w:aW)(b:Bool):Out:=⟨[⟨K78,w⟩,⟨K4,(b,())⟩],[]⟩
theorem f203(w:aW)(p' q:Int)(hz:SzW w):Ran p 9 203 [va K78 w, vf K3 (p',()), vf K3 (q,())] (rO K4 (exB w p' q,())):=go203 fun n hn=>Ev.now fun aA=>by
 unfold T203 exB;refine(aC (f210 w hz n (by omega))).trans ?_;refine eH fun _=>?_;refine(aC (f211 p' 0 (i64.wrap ((w.1.length:Int) - 1)) n (by omega))).trans ?_;refine eH fun _=>?_;refine(aC (f211 q 0 (i64.wrap ((w.1.length:Int) - 1)) n (by omega))).trans ?_;cases inB q 0 (i64.wrap ((w.1.length:Int) - 1))<;>rfl
theorem xE{w:aW}{p q:Int}(h:eV w p q=false):exN w p q=w:=by unfold exN;rw[h];rfl
theorem q0{w:aW}{p q:Int}(h:eV w p q=true):exN w p q=exW w p q:=by unfold exN;rw[h];rfl
theorem oH{qs:List MsgT}(h:∀ q∈qs,SzM q)(hl:0<qs.length):SzM (gt qs 0):=h _ (d9 hl)
theorem f65(w:aW)(a b:Int)(hz:SzX w):Ran p 11 65 [va K78 w, vf K3 (a,()), vf K3 (b,())] (A7 (exN w a b) (eV w a b)):=go65 fun n hn=>Ev.now fun aA=>by
 have bad:eV w a b=false→(some ⟨[⟨K78,w⟩,⟨K4,(false,())⟩],[]⟩:Option Out)=some (A7 (exN w a b) (eV w a b)):=fun h=>by rw[xE h,h];rfl
 unfold T65;refine(aC (f203 w a b hz.toSzW n (by omega))).trans ?_
 cases hB:exB w a b with
 | false=>refine(aN rfl).trans ?_;refine(aC (f144 w hz n (by omega))).trans ?_;exact bad (by unfold eV;rw[hB];rfl)
 | true=>
 have H:=BK hB
 have z1:=hz.node _ H.pn.1
 have z2:=hz.node _ H.qn.1
 have zs:=yI z1 b
 refine(aL rfl).trans ?_;refine(aC (f144 w hz n (by omega))).trans ?_;refine(aE H.pn.2).trans ?_;refine(aR H.pn.1).trans ?_;refine(fE (f18 (gt w.1 a.toNat) b z1 n (by omega))).trans ?_
 cases hs:(cO w a b).2.2 with
 | false=>refine(aN (show(!(cO w a b).2.2)=true by rw[hs];rfl)).trans ?_;exact bad (by unfold eV;rw[hB,hs];rfl)
 | true=>
 refine(aL (show(!(cO w a b).2.2)=false by rw[hs];rfl)).trans ?_;refine(aE H.qn.2).trans ?_;refine(aR H.qn.1).trans ?_;refine(fE (f27 (gt w.1 b.toNat) (cO w a b).2.1 z2 zs.2 n (by omega))).trans ?_
 have r1:RecSz _ (d4 w a b):=mD z2 zs.2
 have g1:fP (d4 w a b)=false→eV w a b=false:=fun h=>by unfold eV;rw[hB,hs,h];rfl
 cases c1:(d4 w a b).2.2==0 with
 | false=>refine(aN (show((d4 w a b).2.2 != 0)=true by unfold bne;rw[c1];rfl)).trans ?_;exact bad (g1 (by unfold fP;rw[c1];rfl))
 | true=>
 refine(aL (show((d4 w a b).2.2 != 0)=false by unfold bne;rw[c1];rfl)).trans ?_
 cases l1:(((d4 w a b).2.1.length:Nat):Int)==0 with
 | true=>refine(aN l1).trans ?_;exact bad (g1 (by unfold fP;rw[c1,l1];rfl))
 | false=>
 have p1:0<(d4 w a b).2.1.length:=by rw[beq_eq_false_iff_ne] at l1;omega
 have o1:fP (d4 w a b)=true:=by unfold fP;rw[c1,l1];rfl
 have m1:=oH r1.msg p1
 refine(aL l1).trans ?_;refine(aE (show(0:Int)≤0 by omega)).trans ?_;refine(aR p1).trans ?_;refine(aR p1).trans ?_;refine(fE (f27 (cO w a b).1 (gt (d4 w a b).2.1 0) zs.1 m1 n (by omega))).trans ?_
 have r2:RecSz _ (dY w a b):=mD zs.1 m1
 have g2:fP (dY w a b)=false→eV w a b=false:=fun h=>by unfold eV;rw[hB,hs,o1,h];rfl
 cases c2:(dY w a b).2.2==0 with
 | false=>refine(aN (show((dY w a b).2.2 != 0)=true by unfold bne;rw[c2];rfl)).trans ?_;exact bad (g2 (by unfold fP;rw[c2];rfl))
 | true=>
 refine(aL (show((dY w a b).2.2 != 0)=false by unfold bne;rw[c2];rfl)).trans ?_
 cases l2:(((dY w a b).2.1.length:Nat):Int)==0 with
 | true=>refine(aN l2).trans ?_;exact bad (g2 (by unfold fP;rw[c2,l2];rfl))
 | false=>
 have p2:0<(dY w a b).2.1.length:=by rw[beq_eq_false_iff_ne] at l2;omega
 have o2:fP (dY w a b)=true:=by unfold fP;rw[c2,l2];rfl
 have m2:=oH r2.msg p2
 refine(aL l2).trans ?_;refine(aE (show(0:Int)≤0 by omega)).trans ?_;refine(aR p2).trans ?_;refine(aR p2).trans ?_;refine(fE (f27 (d4 w a b).1 (gt (dY w a b).2.1 0) r1.node m2 n (by omega))).trans ?_
 cases c3:(iU w a b).2.2==0 with
 | false=>refine(aN (show((iU w a b).2.2 != 0)=true by unfold bne;rw[c3];rfl)).trans ?_;exact bad (by unfold eV;rw[hB,hs,o1,o2,c3];rfl)
 | true=>
 have ok:eV w a b=true:=by unfold eV;rw[hB,hs,o1,o2,c3];rfl
 have hb:b.toNat<(w.1.set a.toNat (dY w a b).1).length:=by rw[List.length_set];exact H.qn.1
 refine(aL (show((iU w a b).2.2 != 0)=false by unfold bne;rw[c3];rfl)).trans ?_
 rw[q0 ok,ok];refine(aE H.pn.2).trans ?_;refine(aR H.pn.1).trans ?_;refine(aR H.pn.1).trans ?_;refine(aE H.qn.2).trans ?_;refine(aR hb).trans ?_;refine(aR hb).trans ?_;rfl
theorem f66(w:aW)(a b:Int)(hz:SzX w):Ran p 13 66 [va K78 w, vf K3 (a,()), vf K3 (b,())] (A7 (exN w a b) (eV w a b)):=go66 fun n hn=>Ev.now fun aA=>by
 have bad:eV w a b=false→(some ⟨[⟨K78,w⟩,⟨K4,(false,())⟩],[]⟩:Option Out)=some (A7 (exN w a b) (eV w a b)):=fun h=>by rw[xE h,h];rfl
 unfold T66;refine(aC (f150 w hz n (by omega))).trans ?_;refine(aC (f204 w hz.toSzW n (by omega))).trans ?_
 cases e1:cW w with
 | false=>refine(aN rfl).trans ?_;exact bad (by unfold eV exB;rw[e1];rfl)
 | true=>
 refine(aL rfl).trans ?_;refine(aC (f152 w a n (by omega))).trans ?_
 cases e2:inB a 0 (i64.wrap ((w.1.length:Int) - 1))with
 | false=>refine(aN rfl).trans ?_;exact bad (by unfold eV exB;rw[e1,e2];rfl)
 | true=>
 refine(aL rfl).trans ?_;refine(aC (f152 w b n (by omega))).trans ?_
 cases e3:inB b 0 (i64.wrap ((w.1.length:Int) - 1))with
 | false=>refine(aN rfl).trans ?_;exact bad (by unfold eV exB;rw[e1,e2,e3];rfl)
 | true=>
 refine(aL rfl).trans ?_
 cases e4:a==b with
 | true=>(first | refine(aN e4).trans ?_ | refine(aN rfl).trans ?_);exact bad (by unfold eV exB bne;rw[e1,e2,e3,e4];rfl)
 | false=>
 (first | refine(aL e4).trans ?_ | refine(aL rfl).trans ?_)
 have hB:exB w a b=true:=by unfold exB bne;rw[e1,e2,e3,e4];rfl
 have H:=BK hB
 have z1:=hz.node _ H.pn.1
 have z2:=hz.node _ H.qn.1
 have zs:=yI z1 b
 have hne:a.toNat≠b.toNat:=by have h1:=H.ne;have h2:=H.pn;have h3:=H.qn;omega
 refine(aC (f150 w hz n (by omega))).trans ?_;refine(aE H.pn.2).trans ?_;refine(aR H.pn.1).trans ?_;refine(fE (f17 (gt w.1 a.toNat) b z1 n (by omega))).trans ?_
 cases hs:(cO w a b).2.2 with
 | false=>(first | refine(aN (show(!(cO w a b).2.2)=true by rw[hs];rfl)).trans ?_ | refine(aN rfl).trans ?_);exact bad (by unfold eV;rw[hB,hs];rfl)
 | true=>
 have hsb:jS (gt w.1 a.toNat) b=true:=by
  cases h:jS (gt w.1 a.toNat) b with
  | true=>rfl
  | false=>unfold cO at hs;rw[yJ h] at hs;cases hs
 have t0:(cO w a b).2.1.2.2.1=b∧(cO w a b).2.1.2.1=a:=by unfold cO;rw[uX hsb];exact⟨rfl,H.pid⟩
 (first | refine(aL (show(!(cO w a b).2.2)=false by rw[hs];rfl)).trans ?_ | refine(aL rfl).trans ?_);refine(aE H.pn.2).trans ?_;refine(aR H.pn.1).trans ?_;refine(aR H.pn.1).trans ?_
 have h1:b.toNat<(w.1.set a.toNat (cO w a b).1).length:=by rw[List.length_set];exact H.qn.1
 have k1:gt (w.1.set a.toNat (cO w a b).1) b.toNat=gt w.1 b.toNat:=eD hne _
 have u1:aG p n 22 [va K38 (gt (α:=NodeT) (w.1.set a.toNat (cO w a b).1) (cO w a b).2.1.2.2.1.toNat), va K43 ((cO w a b).2.1)]=some (pG (d4 w a b)):=by
  rw[t0.1,k1];exact f22 (gt w.1 b.toNat) (cO w a b).2.1 z2 zs.2 n (by omega)
 have i1:(cO w a b).2.1.2.2.1.toNat<(w.1.set a.toNat (cO w a b).1).length:=by rw[t0.1];exact h1
 have j1:(0:Int)≤(cO w a b).2.1.2.2.1:=by rw[t0.1];exact H.qn.2
 refine(aE j1).trans ?_;refine(aR i1).trans ?_;refine(aR i1).trans ?_;refine(fE u1).trans ?_;refine(aE j1).trans ?_;refine(aR i1).trans ?_;refine(aR i1).trans ?_
 have r1:RecSz _ (d4 w a b):=mD z2 zs.2
 have g1:fP (d4 w a b)=false→eV w a b=false:=fun h=>by unfold eV;rw[hB,hs,h];rfl
 cases l1:(((d4 w a b).2.1.length:Nat):Int)==0 with
 | true=>
  (first | refine(aN l1).trans ?_ | refine(aN rfl).trans ?_)
  have hb:=bad (g1 (by unfold fP;rw[l1];exact Bool.and_false _))
  refine Eq.trans ?_ hb
  cases (d4 w a b).2.2==0<;>rfl
 | false=>
 have p1:0<(d4 w a b).2.1.length:=by rw[beq_eq_false_iff_ne] at l1;omega
 (first | refine(aL l1).trans ?_ | refine(aL rfl).trans ?_);refine(aE (show(0:Int)≤0 by omega)).trans ?_;refine(aR p1).trans ?_;refine(aR p1).trans ?_
 cases c1:(d4 w a b).2.2==0 with
 | false=>(first | refine(aN (show(!((d4 w a b).2.2==0))=true by rw[c1];rfl)).trans ?_ | refine(aN rfl).trans ?_);exact bad (g1 (by unfold fP;rw[c1];rfl))
 | true=>
 (first | refine(aL (show(!((d4 w a b).2.2==0))=false by rw[c1];rfl)).trans ?_ | refine(aL rfl).trans ?_)
 have o1:fP (d4 w a b)=true:=by unfold fP;rw[c1,l1];rfl
 have m1:=oH r1.msg p1
 have t1:(gt (d4 w a b).2.1 0).2.2.1=a∧(gt (d4 w a b).2.1 0).2.1=b:=by
  have h:=C2 (x:=gt w.1 b.toNat) (m:=(cO w a b).2.1) (d9 p1)
  rw[t0.2,H.qid] at h;exact h
 have k2:gt ((w.1.set a.toNat (cO w a b).1).set (cO w a b).2.1.2.2.1.toNat (d4 w a b).1) (gt (d4 w a b).2.1 0).2.2.1.toNat=(cO w a b).1:=by
  rw[t1.1,t0.1,eD (Ne.symm hne),dG H.pn.1]
 have u2:aG p n 22 [va K38 (gt (α:=NodeT) ((w.1.set a.toNat (cO w a b).1).set (cO w a b).2.1.2.2.1.toNat (d4 w a b).1) (gt (d4 w a b).2.1 0).2.2.1.toNat), va K43 (gt (α:=MsgT) (d4 w a b).2.1 0)]=some (pG (dY w a b)):=by
  rw[k2];exact f22 (cO w a b).1 (gt (d4 w a b).2.1 0) zs.1 m1 n (by omega)
 have i2:(gt (d4 w a b).2.1 0).2.2.1.toNat<((w.1.set a.toNat (cO w a b).1).set (cO w a b).2.1.2.2.1.toNat (d4 w a b).1).length:=by rw[t1.1,List.length_set,List.length_set];exact H.pn.1
 have j2:(0:Int)≤(gt (d4 w a b).2.1 0).2.2.1:=by rw[t1.1];exact H.pn.2
 refine(aE j2).trans ?_;refine(aR i2).trans ?_;refine(aR i2).trans ?_;refine(fE u2).trans ?_;refine(aE j2).trans ?_;refine(aR i2).trans ?_;refine(aR i2).trans ?_
 have r2:RecSz _ (dY w a b):=mD zs.1 m1
 have g2:fP (dY w a b)=false→eV w a b=false:=fun h=>by unfold eV;rw[hB,hs,o1,h];rfl
 cases l2:(((dY w a b).2.1.length:Nat):Int)==0 with
 | true=>
  (first | refine(aN l2).trans ?_ | refine(aN rfl).trans ?_)
  have hb:=bad (g2 (by unfold fP;rw[l2];exact Bool.and_false _))
  refine Eq.trans ?_ hb
  cases (dY w a b).2.2==0<;>rfl
 | false=>
 have p2:0<(dY w a b).2.1.length:=by rw[beq_eq_false_iff_ne] at l2;omega
 (first | refine(aL l2).trans ?_ | refine(aL rfl).trans ?_);refine(aE (show(0:Int)≤0 by omega)).trans ?_;refine(aR p2).trans ?_;refine(aR p2).trans ?_
 cases c2:(dY w a b).2.2==0 with
 | false=>(first | refine(aN (show(!((dY w a b).2.2==0))=true by rw[c2];rfl)).trans ?_ | refine(aN rfl).trans ?_);exact bad (g2 (by unfold fP;rw[c2];rfl))
 | true=>
 (first | refine(aL (show(!((dY w a b).2.2==0))=false by rw[c2];rfl)).trans ?_ | refine(aL rfl).trans ?_)
 have o2:fP (dY w a b)=true:=by unfold fP;rw[c2,l2];rfl
 have m2:=oH r2.msg p2
 have t2:(gt (dY w a b).2.1 0).2.2.1=b:=by
  have h:=C2 (x:=(cO w a b).1) (m:=gt (d4 w a b).2.1 0) (d9 p2)
  rw[t1.2] at h;exact h.1
 have k3:gt (((w.1.set a.toNat (cO w a b).1).set (cO w a b).2.1.2.2.1.toNat (d4 w a b).1).set (gt (d4 w a b).2.1 0).2.2.1.toNat (dY w a b).1) (gt (dY w a b).2.1 0).2.2.1.toNat=(d4 w a b).1:=by
  rw[t2,t1.1,t0.1,eD hne,dG h1]
 have u3:aG p n 22 [va K38 (gt (α:=NodeT) (((w.1.set a.toNat (cO w a b).1).set (cO w a b).2.1.2.2.1.toNat (d4 w a b).1).set (gt (d4 w a b).2.1 0).2.2.1.toNat (dY w a b).1) (gt (dY w a b).2.1 0).2.2.1.toNat), va K43 (gt (α:=MsgT) (dY w a b).2.1 0)]=some (pG (iU w a b)):=by
  rw[k3];exact f22 (d4 w a b).1 (gt (dY w a b).2.1 0) r1.node m2 n (by omega)
 have i3:(gt (dY w a b).2.1 0).2.2.1.toNat<(((w.1.set a.toNat (cO w a b).1).set (cO w a b).2.1.2.2.1.toNat (d4 w a b).1).set (gt (d4 w a b).2.1 0).2.2.1.toNat (dY w a b).1).length:=by rw[t2,List.length_set,List.length_set,List.length_set];exact H.qn.1
 have j3:(0:Int)≤(gt (dY w a b).2.1 0).2.2.1:=by rw[t2];exact H.qn.2
 refine(aE j3).trans ?_;refine(aR i3).trans ?_;refine(aR i3).trans ?_;refine(fE u3).trans ?_;refine(aE j3).trans ?_;refine(aR i3).trans ?_;refine(aR i3).trans ?_
 have fin4:((((w.1.set a.toNat (cO w a b).1).set (cO w a b).2.1.2.2.1.toNat (d4 w a b).1).set (gt (d4 w a b).2.1 0).2.2.1.toNat (dY w a b).1).set (gt (dY w a b).2.1 0).2.2.1.toNat (iU w a b).1)=(w.1.set a.toNat (dY w a b).1).set b.toNat (iU w a b).1:=by
  rw[t2,t1.1,t0.1];exact FO hne _ _ _ _
 have good:(iU w a b).2.2==0→(some ⟨[⟨K78,((((w.1.set a.toNat (cO w a b).1).set (cO w a b).2.1.2.2.1.toNat (d4 w a b).1).set (gt (d4 w a b).2.1 0).2.2.1.toNat (dY w a b).1).set (gt (dY w a b).2.1 0).2.2.1.toNat (iU w a b).1,w.2.1,w.2.2.1,())⟩,⟨K4,(true,())⟩],[]⟩:Option Out)=some (A7 (exN w a b) (eV w a b)):=fun h=>by
  have ok:eV w a b=true:=by unfold eV;rw[hB,hs,o1,o2,h];rfl
  rw[q0 ok,ok,fin4];rfl
 have worse:((iU w a b).2.2==0)=false→eV w a b=false:=fun h=>by unfold eV;rw[hB,hs,o1,o2,h];rfl
 cases l3:(((iU w a b).2.1.length:Nat):Int)==0 with
 | true=>
  (first | refine(aN l3).trans ?_ | refine(aN rfl).trans ?_)
  cases c3:(iU w a b).2.2==0 with
  | false=>(first | refine(aN (show(!((iU w a b).2.2==0))=true by rw[c3];rfl)).trans ?_ | refine(aN rfl).trans ?_);exact bad (worse c3)
  | true=>(first | refine(aL (show(!((iU w a b).2.2==0))=false by rw[c3];rfl)).trans ?_ | refine(aL rfl).trans ?_);exact good c3
 | false=>
  have p3:0<(iU w a b).2.1.length:=by rw[beq_eq_false_iff_ne] at l3;omega
  (first | refine(aL l3).trans ?_ | refine(aL rfl).trans ?_);refine(aE (show(0:Int)≤0 by omega)).trans ?_;refine(aR p3).trans ?_;refine(aR p3).trans ?_
  cases c3:(iU w a b).2.2==0 with
  | false=>(first | refine(aN (show(!((iU w a b).2.2==0))=true by rw[c3];rfl)).trans ?_ | refine(aN rfl).trans ?_);exact bad (worse c3)
  | true=>(first | refine(aL (show(!((iU w a b).2.2==0))=false by rw[c3];rfl)).trans ?_ | refine(aL rfl).trans ?_);exact good c3
end Go.Abs.Xz
