/- What the functions of this program answer, part sb. -/
import Derived.Test.YtmamlgjbendjhaaGreatXsa
import Derived.Test.YtmamlgjbendjhaaGreatXrh
set_option linter.unusedVariables false
set_option maxHeartbeats 2000000
open Go.IntKind (i64)
namespace Go.Abs.Xz
open Go Go.Abs
structure Two (w:bS) (p q:Int):Prop where
 pn:p.toNat<w.1.length∧0≤p
 qn:q.toNat<w.1.length∧0≤q
 ne:p≠q
 pid:(gt w.1 p.toNat).1=p
 qid:(gt w.1 q.toNat).1=q
theorem AB{w:bS}{p q:Int}(h:exB w p q=true):Two w p q:=by
 unfold exB at h
 simp only[Bool.and_eq_true,bH,bne_iff_ne] at h
 obtain⟨h1,h2,h3,h4⟩:=h
 have h5:=h1
 unfold fF at h5
 simp only[Bool.and_eq_true,bH] at h5
 obtain⟨h6,_,_,h7,_⟩:=h5
 rw[IntKind.wrap_i64] at h2 h3
 have id:∀ i:Int,0≤i→i.toNat<w.1.length→(gt w.1 i.toNat).1=i:=fun i h0 hi=>by
  have:=cE.1 h7 i.toNat hi
  unfold k8 at this
  simp only[Bool.and_eq_true,beq_iff_eq] at this
  rw[this.2.2];omega
 exact⟨by omega,by omega,h4,id p (by omega) (by omega),id q (by omega) (by omega)⟩
def zQ(w:bS)(b:Bool):Out:=⟨[⟨K78,w⟩,⟨K4,(b,())⟩],[]⟩
theorem f203(w:bS)(p' q:Int)(hz:SzW w):Ran p 9 203 [.val true ⟨K78,w⟩, .val false ⟨K3,(p',())⟩, .val false ⟨K3,(q,())⟩] ⟨[⟨K4,(exB w p' q,())⟩],[]⟩:=go203 fun n hn=>Ev.now fun aA=>by
 unfold T203 exB;refine(aD (f210 w hz n (by omega))).trans ?_;refine d9 fun _=>?_;refine(aD (f211 p' 0 (i64.wrap (((w.1.length:Nat):Int) - 1)) n (by omega))).trans ?_;refine d9 fun _=>?_;refine(aD (f211 q 0 (i64.wrap (((w.1.length:Nat):Int) - 1)) n (by omega))).trans ?_;cases inB q 0 (i64.wrap (((w.1.length:Nat):Int) - 1))<;>rfl
theorem BW{w:bS}{p q:Int}(h:fE w p q=false):exN w p q=w:=by unfold exN;rw[h];rfl
theorem xA{w:bS}{p q:Int}(h:fE w p q=true):exN w p q=exW w p q:=by unfold exN;rw[h];rfl
theorem nQ{qs:List MsgT}(h:∀ q∈qs,SzM q)(hl:0<qs.length):SzM (gt qs 0):=h _ (dZ hl)
theorem f65(w:bS)(a b:Int)(hz:SzX w):Ran p 11 65 [.val true ⟨K78,w⟩, .val false ⟨K3,(a,())⟩, .val false ⟨K3,(b,())⟩] (zQ (exN w a b) (fE w a b)):=go65 fun n hn=>Ev.now fun aA=>by
 have bad:fE w a b=false→(some ⟨[⟨K78,w⟩,⟨K4,(false,())⟩],[]⟩:Option Out)=some (zQ (exN w a b) (fE w a b)):=fun h=>by rw[BW h,h];rfl
 unfold T65;refine(aD (f203 w a b hz.toSzW n (by omega))).trans ?_
 cases hB:exB w a b with
 | false=>refine(aO rfl).trans ?_;refine(aD (f144 w hz n (by omega))).trans ?_;exact bad (by unfold fE;rw[hB];rfl)
 | true=>
 have H:=AB hB
 have z1:=hz.node _ H.pn.1
 have z2:=hz.node _ H.qn.1
 have zs:=xH z1 b
 refine(aK rfl).trans ?_;refine(aD (f144 w hz n (by omega))).trans ?_;refine(aE H.pn.2).trans ?_;refine(aQ H.pn.1).trans ?_;refine(eU (f18 (gt w.1 a.toNat) b z1 n (by omega))).trans ?_
 cases hs:(cK w a b).2.2 with
 | false=>refine(aO (show(!(cK w a b).2.2)=true by rw[hs];rfl)).trans ?_;exact bad (by unfold fE;rw[hB,hs];rfl)
 | true=>
 refine(aK (show(!(cK w a b).2.2)=false by rw[hs];rfl)).trans ?_;refine(aE H.qn.2).trans ?_;refine(aQ H.qn.1).trans ?_;refine(eU (f27 (gt w.1 b.toNat) (cK w a b).2.1 z2 zs.2 n (by omega))).trans ?_
 have r1:RecSz _ (dU w a b):=lR z2 zs.2
 have g1:fH (dU w a b)=false→fE w a b=false:=fun h=>by unfold fE;rw[hB,hs,h];rfl
 cases c1:(dU w a b).2.2==0 with
 | false=>refine(aO (show((dU w a b).2.2 != 0)=true by unfold bne;rw[c1];rfl)).trans ?_;exact bad (g1 (by unfold fH;rw[c1];rfl))
 | true=>
 refine(aK (show((dU w a b).2.2 != 0)=false by unfold bne;rw[c1];rfl)).trans ?_
 cases l1:(((dU w a b).2.1.length:Nat):Int)==0 with
 | true=>refine(aO l1).trans ?_;exact bad (g1 (by unfold fH;rw[c1,l1];rfl))
 | false=>
 have p1:0<(dU w a b).2.1.length:=by rw[beq_eq_false_iff_ne] at l1;omega
 have o1:fH (dU w a b)=true:=by unfold fH;rw[c1,l1];rfl
 have m1:=nQ r1.msg p1
 refine(aK l1).trans ?_;refine(aE (show(0:Int)≤0 by omega)).trans ?_;refine(aQ p1).trans ?_;refine(aQ p1).trans ?_;refine(eU (f27 (cK w a b).1 (gt (dU w a b).2.1 0) zs.1 m1 n (by omega))).trans ?_
 have r2:RecSz _ (dT w a b):=lR zs.1 m1
 have g2:fH (dT w a b)=false→fE w a b=false:=fun h=>by unfold fE;rw[hB,hs,o1,h];rfl
 cases c2:(dT w a b).2.2==0 with
 | false=>refine(aO (show((dT w a b).2.2 != 0)=true by unfold bne;rw[c2];rfl)).trans ?_;exact bad (g2 (by unfold fH;rw[c2];rfl))
 | true=>
 refine(aK (show((dT w a b).2.2 != 0)=false by unfold bne;rw[c2];rfl)).trans ?_
 cases l2:(((dT w a b).2.1.length:Nat):Int)==0 with
 | true=>refine(aO l2).trans ?_;exact bad (g2 (by unfold fH;rw[c2,l2];rfl))
 | false=>
 have p2:0<(dT w a b).2.1.length:=by rw[beq_eq_false_iff_ne] at l2;omega
 have o2:fH (dT w a b)=true:=by unfold fH;rw[c2,l2];rfl
 have m2:=nQ r2.msg p2
 refine(aK l2).trans ?_;refine(aE (show(0:Int)≤0 by omega)).trans ?_;refine(aQ p2).trans ?_;refine(aQ p2).trans ?_;refine(eU (f27 (dU w a b).1 (gt (dT w a b).2.1 0) r1.node m2 n (by omega))).trans ?_
 cases c3:(iS w a b).2.2==0 with
 | false=>refine(aO (show((iS w a b).2.2 != 0)=true by unfold bne;rw[c3];rfl)).trans ?_;exact bad (by unfold fE;rw[hB,hs,o1,o2,c3];rfl)
 | true=>
 have ok:fE w a b=true:=by unfold fE;rw[hB,hs,o1,o2,c3];rfl
 have hb:b.toNat<(w.1.set a.toNat (dT w a b).1).length:=by rw[List.length_set];exact H.qn.1
 refine(aK (show((iS w a b).2.2 != 0)=false by unfold bne;rw[c3];rfl)).trans ?_
 rw[xA ok,ok];refine(aE H.pn.2).trans ?_;refine(aQ H.pn.1).trans ?_;refine(aQ H.pn.1).trans ?_;refine(aE H.qn.2).trans ?_;refine(aQ hb).trans ?_;refine(aQ hb).trans ?_;rfl
theorem f66(w:bS)(a b:Int)(hz:SzX w):Ran p 13 66 [.val true ⟨K78,w⟩, .val false ⟨K3,(a,())⟩, .val false ⟨K3,(b,())⟩] (zQ (exN w a b) (fE w a b)):=go66 fun n hn=>Ev.now fun aA=>by
 have bad:fE w a b=false→(some ⟨[⟨K78,w⟩,⟨K4,(false,())⟩],[]⟩:Option Out)=some (zQ (exN w a b) (fE w a b)):=fun h=>by rw[BW h,h];rfl
 unfold T66;refine(aD (f150 w hz n (by omega))).trans ?_;refine(aD (f204 w hz.toSzW n (by omega))).trans ?_
 cases e1:fF w with
 | false=>refine(aO rfl).trans ?_;exact bad (by unfold fE exB;rw[e1];rfl)
 | true=>
 refine(aK rfl).trans ?_;refine(aD (f152 w a n (by omega))).trans ?_
 cases e2:inB a 0 (i64.wrap (((w.1.length:Nat):Int) - 1))with
 | false=>refine(aO rfl).trans ?_;exact bad (by unfold fE exB;rw[e1,e2];rfl)
 | true=>
 refine(aK rfl).trans ?_;refine(aD (f152 w b n (by omega))).trans ?_
 cases e3:inB b 0 (i64.wrap (((w.1.length:Nat):Int) - 1))with
 | false=>refine(aO rfl).trans ?_;exact bad (by unfold fE exB;rw[e1,e2,e3];rfl)
 | true=>
 refine(aK rfl).trans ?_
 cases e4:a==b with
 | true=>(first | refine(aO e4).trans ?_ | refine(aO rfl).trans ?_);exact bad (by unfold fE exB bne;rw[e1,e2,e3,e4];rfl)
 | false=>
 (first | refine(aK e4).trans ?_ | refine(aK rfl).trans ?_)
 have hB:exB w a b=true:=by unfold exB bne;rw[e1,e2,e3,e4];rfl
 have H:=AB hB
 have z1:=hz.node _ H.pn.1
 have z2:=hz.node _ H.qn.1
 have zs:=xH z1 b
 have hne:a.toNat≠b.toNat:=by have h1:=H.ne;have h2:=H.pn;have h3:=H.qn;omega
 refine(aD (f150 w hz n (by omega))).trans ?_;refine(aE H.pn.2).trans ?_;refine(aQ H.pn.1).trans ?_;refine(eU (f17 (gt w.1 a.toNat) b z1 n (by omega))).trans ?_
 cases hs:(cK w a b).2.2 with
 | false=>(first | refine(aO (show(!(cK w a b).2.2)=true by rw[hs];rfl)).trans ?_ | refine(aO rfl).trans ?_);exact bad (by unfold fE;rw[hB,hs];rfl)
 | true=>
 have hsb:jF (gt w.1 a.toNat) b=true:=by
  cases h:jF (gt w.1 a.toNat) b with
  | true=>rfl
  | false=>unfold cK at hs;rw[xI h] at hs;cases hs
 have t0:(cK w a b).2.1.2.2.1=b∧(cK w a b).2.1.2.1=a:=by unfold cK;rw[tW hsb];exact⟨rfl,H.pid⟩
 (first | refine(aK (show(!(cK w a b).2.2)=false by rw[hs];rfl)).trans ?_ | refine(aK rfl).trans ?_);refine(aE H.pn.2).trans ?_;refine(aQ H.pn.1).trans ?_;refine(aQ H.pn.1).trans ?_
 have h1:b.toNat<(w.1.set a.toNat (cK w a b).1).length:=by rw[List.length_set];exact H.qn.1
 have k1:gt (w.1.set a.toNat (cK w a b).1) b.toNat=gt w.1 b.toNat:=eJ hne _
 have u1:aG p n 22 [.val true ⟨K38,gt (α:=NodeT) (w.1.set a.toNat (cK w a b).1) (cK w a b).2.1.2.2.1.toNat⟩, .val true ⟨K43,(cK w a b).2.1⟩]=some (oM (dU w a b)):=by
  rw[t0.1,k1];exact f22 (gt w.1 b.toNat) (cK w a b).2.1 z2 zs.2 n (by omega)
 have i1:(cK w a b).2.1.2.2.1.toNat<(w.1.set a.toNat (cK w a b).1).length:=by rw[t0.1];exact h1
 have j1:(0:Int)≤(cK w a b).2.1.2.2.1:=by rw[t0.1];exact H.qn.2
 refine(aE j1).trans ?_;refine(aQ i1).trans ?_;refine(aQ i1).trans ?_;refine(eU u1).trans ?_;refine(aE j1).trans ?_;refine(aQ i1).trans ?_;refine(aQ i1).trans ?_
 have r1:RecSz _ (dU w a b):=lR z2 zs.2
 have g1:fH (dU w a b)=false→fE w a b=false:=fun h=>by unfold fE;rw[hB,hs,h];rfl
 cases l1:(((dU w a b).2.1.length:Nat):Int)==0 with
 | true=>
  (first | refine(aO l1).trans ?_ | refine(aO rfl).trans ?_)
  have hb:=bad (g1 (by unfold fH;rw[l1];exact Bool.and_false _))
  refine Eq.trans ?_ hb
  cases (dU w a b).2.2==0<;>rfl
 | false=>
 have p1:0<(dU w a b).2.1.length:=by rw[beq_eq_false_iff_ne] at l1;omega
 (first | refine(aK l1).trans ?_ | refine(aK rfl).trans ?_);refine(aE (show(0:Int)≤0 by omega)).trans ?_;refine(aQ p1).trans ?_;refine(aQ p1).trans ?_
 cases c1:(dU w a b).2.2==0 with
 | false=>(first | refine(aO (show(!((dU w a b).2.2==0))=true by rw[c1];rfl)).trans ?_ | refine(aO rfl).trans ?_);exact bad (g1 (by unfold fH;rw[c1];rfl))
 | true=>
 (first | refine(aK (show(!((dU w a b).2.2==0))=false by rw[c1];rfl)).trans ?_ | refine(aK rfl).trans ?_)
 have o1:fH (dU w a b)=true:=by unfold fH;rw[c1,l1];rfl
 have m1:=nQ r1.msg p1
 have t1:(gt (dU w a b).2.1 0).2.2.1=a∧(gt (dU w a b).2.1 0).2.1=b:=by
  have h:=BR (x:=gt w.1 b.toNat) (m:=(cK w a b).2.1) (dZ p1)
  rw[t0.2,H.qid] at h;exact h
 have k2:gt ((w.1.set a.toNat (cK w a b).1).set (cK w a b).2.1.2.2.1.toNat (dU w a b).1) (gt (dU w a b).2.1 0).2.2.1.toNat=(cK w a b).1:=by
  rw[t1.1,t0.1,eJ (Ne.symm hne),dB H.pn.1]
 have u2:aG p n 22 [.val true ⟨K38,gt (α:=NodeT) ((w.1.set a.toNat (cK w a b).1).set (cK w a b).2.1.2.2.1.toNat (dU w a b).1) (gt (dU w a b).2.1 0).2.2.1.toNat⟩, .val true ⟨K43,gt (α:=MsgT) (dU w a b).2.1 0⟩]=some (oM (dT w a b)):=by
  rw[k2];exact f22 (cK w a b).1 (gt (dU w a b).2.1 0) zs.1 m1 n (by omega)
 have i2:(gt (dU w a b).2.1 0).2.2.1.toNat<((w.1.set a.toNat (cK w a b).1).set (cK w a b).2.1.2.2.1.toNat (dU w a b).1).length:=by rw[t1.1,List.length_set,List.length_set];exact H.pn.1
 have j2:(0:Int)≤(gt (dU w a b).2.1 0).2.2.1:=by rw[t1.1];exact H.pn.2
 refine(aE j2).trans ?_;refine(aQ i2).trans ?_;refine(aQ i2).trans ?_;refine(eU u2).trans ?_;refine(aE j2).trans ?_;refine(aQ i2).trans ?_;refine(aQ i2).trans ?_
 have r2:RecSz _ (dT w a b):=lR zs.1 m1
 have g2:fH (dT w a b)=false→fE w a b=false:=fun h=>by unfold fE;rw[hB,hs,o1,h];rfl
 cases l2:(((dT w a b).2.1.length:Nat):Int)==0 with
 | true=>
  (first | refine(aO l2).trans ?_ | refine(aO rfl).trans ?_)
  have hb:=bad (g2 (by unfold fH;rw[l2];exact Bool.and_false _))
  refine Eq.trans ?_ hb
  cases (dT w a b).2.2==0<;>rfl
 | false=>
 have p2:0<(dT w a b).2.1.length:=by rw[beq_eq_false_iff_ne] at l2;omega
 (first | refine(aK l2).trans ?_ | refine(aK rfl).trans ?_);refine(aE (show(0:Int)≤0 by omega)).trans ?_;refine(aQ p2).trans ?_;refine(aQ p2).trans ?_
 cases c2:(dT w a b).2.2==0 with
 | false=>(first | refine(aO (show(!((dT w a b).2.2==0))=true by rw[c2];rfl)).trans ?_ | refine(aO rfl).trans ?_);exact bad (g2 (by unfold fH;rw[c2];rfl))
 | true=>
 (first | refine(aK (show(!((dT w a b).2.2==0))=false by rw[c2];rfl)).trans ?_ | refine(aK rfl).trans ?_)
 have o2:fH (dT w a b)=true:=by unfold fH;rw[c2,l2];rfl
 have m2:=nQ r2.msg p2
 have t2:(gt (dT w a b).2.1 0).2.2.1=b:=by
  have h:=BR (x:=(cK w a b).1) (m:=gt (dU w a b).2.1 0) (dZ p2)
  rw[t1.2] at h;exact h.1
 have k3:gt (((w.1.set a.toNat (cK w a b).1).set (cK w a b).2.1.2.2.1.toNat (dU w a b).1).set (gt (dU w a b).2.1 0).2.2.1.toNat (dT w a b).1) (gt (dT w a b).2.1 0).2.2.1.toNat=(dU w a b).1:=by
  rw[t2,t1.1,t0.1,eJ hne,dB h1]
 have u3:aG p n 22 [.val true ⟨K38,gt (α:=NodeT) (((w.1.set a.toNat (cK w a b).1).set (cK w a b).2.1.2.2.1.toNat (dU w a b).1).set (gt (dU w a b).2.1 0).2.2.1.toNat (dT w a b).1) (gt (dT w a b).2.1 0).2.2.1.toNat⟩, .val true ⟨K43,gt (α:=MsgT) (dT w a b).2.1 0⟩]=some (oM (iS w a b)):=by
  rw[k3];exact f22 (dU w a b).1 (gt (dT w a b).2.1 0) r1.node m2 n (by omega)
 have i3:(gt (dT w a b).2.1 0).2.2.1.toNat<(((w.1.set a.toNat (cK w a b).1).set (cK w a b).2.1.2.2.1.toNat (dU w a b).1).set (gt (dU w a b).2.1 0).2.2.1.toNat (dT w a b).1).length:=by rw[t2,List.length_set,List.length_set,List.length_set];exact H.qn.1
 have j3:(0:Int)≤(gt (dT w a b).2.1 0).2.2.1:=by rw[t2];exact H.qn.2
 refine(aE j3).trans ?_;refine(aQ i3).trans ?_;refine(aQ i3).trans ?_;refine(eU u3).trans ?_;refine(aE j3).trans ?_;refine(aQ i3).trans ?_;refine(aQ i3).trans ?_
 have fin4:((((w.1.set a.toNat (cK w a b).1).set (cK w a b).2.1.2.2.1.toNat (dU w a b).1).set (gt (dU w a b).2.1 0).2.2.1.toNat (dT w a b).1).set (gt (dT w a b).2.1 0).2.2.1.toNat (iS w a b).1)=(w.1.set a.toNat (dT w a b).1).set b.toNat (iS w a b).1:=by
  rw[t2,t1.1,t0.1];exact D8 hne _ _ _ _
 have good:(iS w a b).2.2==0→(some ⟨[⟨K78,((((w.1.set a.toNat (cK w a b).1).set (cK w a b).2.1.2.2.1.toNat (dU w a b).1).set (gt (dU w a b).2.1 0).2.2.1.toNat (dT w a b).1).set (gt (dT w a b).2.1 0).2.2.1.toNat (iS w a b).1,w.2.1,w.2.2.1,())⟩,⟨K4,(true,())⟩],[]⟩:Option Out)=some (zQ (exN w a b) (fE w a b)):=fun h=>by
  have ok:fE w a b=true:=by unfold fE;rw[hB,hs,o1,o2,h];rfl
  rw[xA ok,ok,fin4];rfl
 have worse:((iS w a b).2.2==0)=false→fE w a b=false:=fun h=>by unfold fE;rw[hB,hs,o1,o2,h];rfl
 cases l3:(((iS w a b).2.1.length:Nat):Int)==0 with
 | true=>
  (first | refine(aO l3).trans ?_ | refine(aO rfl).trans ?_)
  cases c3:(iS w a b).2.2==0 with
  | false=>(first | refine(aO (show(!((iS w a b).2.2==0))=true by rw[c3];rfl)).trans ?_ | refine(aO rfl).trans ?_);exact bad (worse c3)
  | true=>(first | refine(aK (show(!((iS w a b).2.2==0))=false by rw[c3];rfl)).trans ?_ | refine(aK rfl).trans ?_);exact good c3
 | false=>
  have p3:0<(iS w a b).2.1.length:=by rw[beq_eq_false_iff_ne] at l3;omega
  (first | refine(aK l3).trans ?_ | refine(aK rfl).trans ?_);refine(aE (show(0:Int)≤0 by omega)).trans ?_;refine(aQ p3).trans ?_;refine(aQ p3).trans ?_
  cases c3:(iS w a b).2.2==0 with
  | false=>(first | refine(aO (show(!((iS w a b).2.2==0))=true by rw[c3];rfl)).trans ?_ | refine(aO rfl).trans ?_);exact bad (worse c3)
  | true=>(first | refine(aK (show(!((iS w a b).2.2==0))=false by rw[c3];rfl)).trans ?_ | refine(aK rfl).trans ?_);exact good c3
end Go.Abs.Xz
