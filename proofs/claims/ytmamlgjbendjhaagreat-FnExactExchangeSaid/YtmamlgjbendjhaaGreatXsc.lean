/- What the functions of this program answer, part sc. -/
import Derived.Test.YtmamlgjbendjhaaGreatXsb
set_option linter.unusedVariables false
namespace Go.Abs.Xz
open Go Go.Abs
theorem EP(x:NodeT):cnR K38 x=cnS K38 x+10:=by
 have e1:cnR K38 x=1+(1+(cnT (.sl K163) x.2.2.1+(cnT (.sl K165) x.2.2.2.1+(cnT (.sl K3) x.2.2.2.2.1+(1+(1+(1+(cnT (.sl K27) x.log.2.2.1+(cnT (.sl K3) x.got+(cnT (.sl K3) x.acked+(cnT (.sl K28) x.seen+(1+(1+(cnT (.sl K141) x.sess+(1+(1+(1+(cnT (.sl K147) x.rises+0)))))))))))))))))):=rfl
 have e2:cnS K38 x=cnT (.sl K163) x.2.2.1+(cnT (.sl K165) x.2.2.2.1+(cnT (.sl K3) x.2.2.2.2.1+(cnT (.sl K27) x.log.2.2.1+(cnT (.sl K3) x.got+(cnT (.sl K3) x.acked+(cnT (.sl K28) x.seen+(cnT (.sl K141) x.sess+(cnT (.sl K147) x.rises+0)))))))):=rfl
 omega
theorem tY{α:Type}{c:α→Int}(hc:∀ x,0≤c x):∀ (xs:List α) (i:Nat) (x:α),bQ c (xs.set i x)≤bQ c xs+c x
 | [],i,x=>by show(0:Int)≤0+c x;have:=hc x;omega
 | y::ys,0,x=>by show c x+bQ c ys≤c y+bQ c ys+c x;have:=hc y;omega
 | y::ys,i+1,x=>by have:=tY hc ys i x;show c y+bQ c (ys.set i x)≤c y+bQ c ys+c x;omega
theorem xK{α:Type}[Inhabited α]{c:α→Int}(hc:∀ x,0≤c x):∀ (xs:List α) (i:Nat),i<xs.length→c (gt xs i)≤bQ c xs
 | [],i,h=>absurd h (Nat.not_lt_zero _)
 | y::ys,0,_=>by
  have h0:0≤bQ c ys:=lL _ fun x _=>hc x
  show c y≤c y+bQ c ys;omega
 | y::ys,i+1,h=>by
  have h1:=xK hc ys i (Nat.lt_of_succ_lt_succ h)
  have h2:=hc y
  rw[x9];show c (gt ys i)≤c y+bQ c ys;omega
theorem D2(x:NodeT)(i:Int):cnS K38 (tV x i)≤cnS K38 x+4:=by
 rw[gJ,gJ]
 show 6*((x.2.2.1.length:Nat):Int)+(2*((x.2.2.2.1.length:Nat):Int)+(1*((x.2.2.2.2.1.length:Nat):Int)+(cnT (.sl K27) x.log.2.2.1+(1*((x.got.length:Nat):Int)+(1*((x.acked.length:Nat):Int)+(cnT (.sl K28) x.seen+(4*(((x.sess++[(i,IntKind.i64.wrap (x.num+1),false,(0:Int),())]).length:Nat):Int)+(3*((x.rises.length:Nat):Int)+0))))))))≤_
 rw[List.length_append,List.length_singleton];omega
theorem GC(x:NodeT)(i:Int):cnS K38 (pI x i).1≤cnS K38 x+4:=by
 unfold pI
 cases jF x i with
 | true=>exact D2 x i
 | false=>show cnS K38 x≤_;omega
structure ExSz (w:bS) (a b:Int):Prop where
 z2:SzN (dT w a b).1
 z3:SzN (iS w a b).1
 c2:cnS K38 (dT w a b).1≤cnS K38 (gt (α:=NodeT) w.1 a.toNat)+304
 c3:cnS K38 (iS w a b).1≤cnS K38 (gt (α:=NodeT) w.1 b.toNat)+600
theorem FP{r:sU}(h:fH r=true):0<r.2.1.length:=by
 unfold fH at h
 simp only[Bool.and_eq_true,Bool.not_eq_true',beq_eq_false_iff_ne] at h
 omega
theorem HM{w:bS}{a b:Int}(hz:SzW w)(h:fE w a b=true):ExSz w a b∧Two w a b:=by
 unfold fE at h
 simp only[Bool.and_eq_true] at h
 obtain⟨hB,_,o1,o2,_⟩:=h
 have H:=AB hB
 have z1:=hz.node _ H.pn.1
 have z2:=hz.node _ H.qn.1
 have zs:=xH z1 b
 have cs:cnS K38 (cK w a b).1≤cnS K38 (gt (α:=NodeT) w.1 a.toNat)+4:=GC _ b
 have r1:RecSz _ (dU w a b):=lR z2 zs.2
 have r2:RecSz _ (dT w a b):=lR zs.1 (nQ r1.msg (FP o1))
 have r3:RecSz _ (iS w a b):=lR r1.node (nQ r2.msg (FP o2))
 have h1:=r1.cn;have h2:=r2.cn;have h3:=r3.cn
 exact⟨⟨r2.node,r3.node,by omega,by omega⟩,H⟩
theorem IK(w:bS)(a b:Int)(hz:SzW w):cnS K78 (exN w a b)≤3*cnS K78 w+2000:=by
 have hw:0≤cnS K78 w:=nD _ _
 cases h:fE w a b with
 | false=>rw[BW h];omega
 | true=>
  obtain⟨E,H⟩:=HM hz h
  rw[xA h]
  have nn:∀ x:NodeT,0≤cnR K38 x:=fun x=>dN _ _
  have s1:bQ (cnR K38) (w.1.set a.toNat (dT w a b).1)≤bQ (cnR K38) w.1+cnR K38 (dT w a b).1:=tY (α:=NodeT) nn _ _ _
  have s2:bQ (cnR K38) ((w.1.set a.toNat (dT w a b).1).set b.toNat (iS w a b).1)≤bQ (cnR K38) (w.1.set a.toNat (dT w a b).1)+cnR K38 (iS w a b).1:=tY (α:=NodeT) nn _ _ _
  have a1:cnR K38 (gt (α:=NodeT) w.1 a.toNat)≤bQ (cnR K38) w.1:=xK (α:=NodeT) (c:=cnR K38) nn w.1 a.toNat H.pn.1
  have a2:cnR K38 (gt (α:=NodeT) w.1 b.toNat)≤bQ (cnR K38) w.1:=xK (α:=NodeT) (c:=cnR K38) nn w.1 b.toNat H.qn.1
  rw[EP] at a1 a2 s1 s2
  have c2:=E.c2;have c3:=E.c3
  have e1:cnS K78 (exW w a b)=bQ (cnR K38) ((w.1.set a.toNat (dT w a b).1).set b.toNat (iS w a b).1)+(cnT (.sl K195) w.2.1+(cnT (.sl K282) w.2.2.1+0)):=rfl
  have e2:cnS K78 w=bQ (cnR K38) w.1+(cnT (.sl K195) w.2.1+(cnT (.sl K282) w.2.2.1+0)):=rfl
  have p1:0≤cnT (.sl K195) w.2.1:=kB _ _
  have p2:0≤cnT (.sl K282) w.2.2.1:=kB _ _
  omega
theorem G2{w:bS}{a b:Int}(hz:SzW w)(h:fE w a b=true){i:Nat}(hi:i<w.1.length):SzN (gt (exW w a b).1 i):=by
 obtain⟨E,H⟩:=HM hz h
 show SzN (gt ((w.1.set a.toNat (dT w a b).1).set b.toNat (iS w a b).1) i)
 by_cases e1:b.toNat=i
 ·rw[← e1,dB (by rw[List.length_set];exact H.qn.1)];exact E.z3
 ·rw[eJ e1]
  by_cases e2:a.toNat=i
  ·rw[← e2,dB H.pn.1];exact E.z2
  ·rw[eJ e2];exact hz.node i hi
theorem G1(w:bS)(a b:Int):(exW w a b).1.length=w.1.length:=by
 show((w.1.set a.toNat (dT w a b).1).set b.toNat (iS w a b).1).length=_
 rw[List.length_set,List.length_set]
theorem IJ(w:bS)(a b:Int)(hz:SzX w)(h:LmR K78 w):LmR K78 (exN w a b):=by
 cases hg:fE w a b with
 | false=>rw[BW hg];exact h
 | true=>
  rw[xA hg]
  obtain⟨_,h2⟩:=h
  have hl:=G1 w a b
  have key:LmT (.sl K38) (exW w a b).1:=by
   refine⟨?_,fun i r hr=>?_⟩
   ·have h6:(exW w a b).1.length≤aW:=by rw[hl];exact hz.nodes
    exact jW h6
   ·obtain⟨h3,h4⟩:=F2 (α:=NodeT) (xs:=(exW w a b).1) hr
    have h5:i<w.1.length:=by rw[← hl];exact h3
    have h7:gt (exW w a b).1 i=r:=h4
    rw[← h7];exact GU _ (G2 hz.toSzW hg h5)
  exact⟨key,h2⟩
end Go.Abs.Xz
