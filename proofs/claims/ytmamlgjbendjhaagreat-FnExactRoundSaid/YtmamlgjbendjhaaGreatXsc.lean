/- What the functions of this program answer, part sc. -/
import Derived.Test.YtmamlgjbendjhaaGreatXsb
set_option linter.unusedVariables false
namespace Go.Abs.Xz
open Go Go.Abs
theorem qM(x:NodeT):cnR K38 x=cnS K38 x+10:=by
 have e1:cnR K38 x=1+(1+(cnT (.sl K163) x.2.2.1+(cnT (.sl K165) x.2.2.2.1+(cnT (.sl K3) x.2.2.2.2.1+(1+(1+(1+(cnT (.sl K27) x.log.2.2.1+(cnT (.sl K3) x.got+(cnT (.sl K3) x.acked+(cnT (.sl K28) x.seen+(1+(1+(cnT (.sl K141) x.sess+(1+(1+(1+(cnT (.sl K147) x.rises+0)))))))))))))))))):=rfl
 have e2:cnS K38 x=cnT (.sl K163) x.2.2.1+(cnT (.sl K165) x.2.2.2.1+(cnT (.sl K3) x.2.2.2.2.1+(cnT (.sl K27) x.log.2.2.1+(cnT (.sl K3) x.got+(cnT (.sl K3) x.acked+(cnT (.sl K28) x.seen+(cnT (.sl K141) x.sess+(cnT (.sl K147) x.rises+0)))))))):=rfl
 omega
theorem FI(x:NodeT)(i:Int):cnS K38 (uW x i)≤cnS K38 x+4:=by
 rw[gS,gS]
 show 6*(x.2.2.1.length:Int)+(2*(x.2.2.2.1.length:Int)+(1*(x.2.2.2.2.1.length:Int)+(cnT (.sl K27) x.log.2.2.1+(1*(x.got.length:Int)+(1*(x.acked.length:Int)+(cnT (.sl K28) x.seen+(4*(((x.sess++[(i,IntKind.i64.wrap (x.num+1),false,(0:Int),())]).length:Nat):Int)+(3*(x.rises.length:Int)+0))))))))≤_
 rw[List.length_append,List.length_singleton];omega
theorem HT(x:NodeT)(i:Int):cnS K38 (p5 x i).1≤cnS K38 x+4:=by
 unfold p5
 cases jS x i with
 | true=>exact FI x i
 | false=>show cnS K38 x≤_;omega
structure ExSz (w:aW) (a b:Int):Prop where
 z2:SzN (dY w a b).1
 z3:SzN (iU w a b).1
 c2:cnS K38 (dY w a b).1≤cnS K38 (gt (α:=NodeT) w.1 a.toNat)+304
 c3:cnS K38 (iU w a b).1≤cnS K38 (gt (α:=NodeT) w.1 b.toNat)+600
theorem G7{r:tZ}(h:fP r=true):0<r.2.1.length:=by
 unfold fP at h
 simp only[Bool.and_eq_true,Bool.not_eq_true',beq_eq_false_iff_ne] at h
 omega
theorem JB{w:aW}{a b:Int}(hz:SzW w)(h:eV w a b=true):ExSz w a b∧Two w a b:=by
 unfold eV at h
 simp only[Bool.and_eq_true] at h
 obtain⟨hB,_,o1,o2,_⟩:=h
 have H:=BK hB
 have z1:=hz.node _ H.pn.1
 have z2:=hz.node _ H.qn.1
 have zs:=yI z1 b
 have cs:cnS K38 (cO w a b).1≤cnS K38 (gt (α:=NodeT) w.1 a.toNat)+4:=HT _ b
 have r1:RecSz _ (d4 w a b):=mD z2 zs.2
 have r2:RecSz _ (dY w a b):=mD zs.1 (oH r1.msg (G7 o1))
 have r3:RecSz _ (iU w a b):=mD r1.node (oH r2.msg (G7 o2))
 have h1:=r1.cn;have h2:=r2.cn;have h3:=r3.cn
 exact⟨⟨r2.node,r3.node,by omega,by omega⟩,H⟩
theorem DD{w:aW}{a b:Int}(hz:SzW w)(h:eV w a b=true){i:Nat}(hi:i<w.1.length):SzN (gt (exW w a b).1 i):=by
 obtain⟨E,H⟩:=JB hz h
 show SzN (gt ((w.1.set a.toNat (dY w a b).1).set b.toNat (iU w a b).1) i)
 by_cases e1:b.toNat=i
 ·rw[← e1,dG (by rw[List.length_set];exact H.qn.1)];exact E.z3
 ·rw[eD e1]
  by_cases e2:a.toNat=i
  ·rw[← e2,dG H.pn.1];exact E.z2
  ·rw[eD e2];exact hz.node i hi
theorem zE(w:aW)(a b:Int):(exW w a b).1.length=w.1.length:=by
 show((w.1.set a.toNat (dY w a b).1).set b.toNat (iU w a b).1).length=_
 rw[List.length_set,List.length_set]
theorem CG{w:aW}(a b:Int)(hz:SzX w):SzX (exN w a b):=by
 cases h:eV w a b with
 | false=>rw[xE h];exact hz
 | true=>
  rw[q0 h]
  have hl:=zE w a b
  exact⟨⟨by rw[hl];exact hz.nodes,fun i hi=>DD hz.toSzW h (by rw[← hl];exact hi),hz.net,hz.said,hz.part⟩,hz.bytes⟩
theorem J5(w:aW)(a b:Int)(hz:SzX w)(h:LmR K78 w):LmR K78 (exN w a b):=by
 cases hg:eV w a b with
 | false=>rw[xE hg];exact h
 | true=>
  rw[q0 hg]
  obtain⟨_,h2⟩:=h
  have hl:=zE w a b
  have key:LmT (.sl K38) (exW w a b).1:=by
   refine⟨?_,fun i r hr=>?_⟩
   ·have h6:(exW w a b).1.length≤aX:=by rw[hl];exact hz.nodes
    exact jT h6
   ·obtain⟨h3,h4⟩:=DH (α:=NodeT) (xs:=(exW w a b).1) hr
    have h5:i<w.1.length:=by rw[← hl];exact h3
    have h7:gt (exW w a b).1 i=r:=h4
    rw[← h7];exact y3 _ (DD hz.toSzW hg h5)
  exact⟨key,h2⟩
end Go.Abs.Xz
