/- What the functions of this program answer, part rh. -/
import Derived.Test.YtmamlgjbendjhaaGreatXrg
import Derived.Test.YtmamlgjbendjhaaGreatXl
set_option linter.unusedVariables false
namespace Go.Abs.Xz
open Go Go.Abs
-- how H6 cells lie in what comes back
theorem HE(xs:List iP):cnT (.sl K147) xs=3*((xs.length:Nat):Int):=iQ (c:=cnR K147) (n:=3) (fun x=>rfl) xs
theorem jA(x:NodeT):cnS K38 x=6*((x.2.2.1.length:Nat):Int)+(2*((x.2.2.2.1.length:Nat):Int)+(1*((x.2.2.2.2.1.length:Nat):Int)+(cnT (.sl K27) x.log.2.2.1+(1*((x.got.length:Nat):Int)+(1*((x.acked.length:Nat):Int)+(cnT (.sl K28) x.seen+(4*((x.sess.length:Nat):Int)+(3*((x.rises.length:Nat):Int)+0)))))))):=by
 rw[← IM,← GD,← uD,← uD,← uD,← J9,← HE];rfl
theorem D0{t u:List bQ}(h:u.length=t.length)(h2:∀ i,(gt u i).1.length=(gt t i).1.length):cnT (.sl K28) u≤cnT (.sl K28) t:=
 xI (α:=bQ) (c:=cnR K28) u t h fun j hj=>by
  have e:∀ r:bQ,cnR K28 r=1*((r.1.length:Nat):Int)+0:=fun r=>by rw[← uD];rfl
  rw[e,e,h2 j];omega
theorem FM(x:NodeT)(s:aH):(tkP x s).1.length≤5∧(tkP x s).2.1.length≤5:=by
 unfold tkP prune
 cases aO (cJ x.state s)with
 | true=>exact jQ _ _
 | false=>exact jQ _ _
theorem z4(x:NodeT)(s:aH):cnS K38 (fF x s)≤cnS K38 x+100:=by
 rw[jA,jA]
 have h1:=FM x s
 have h2:(bX (tkP x s)).1.length≤4:=oX _
 have h3:cnT (.sl K28) (tkS x s)≤cnT (.sl K28) x.seen:=D0 (cT _ _ _) (eG _ _ _)
 have h4:(tkR x s).length=x.rises.length:=f0 _ _ _ _
 show 6*(((tkP x s).1.length:Nat):Int)+(2*(((tkP x s).2.1.length:Nat):Int)+(1*(((bX (tkP x s)).1.length:Nat):Int)+(cnT (.sl K27) x.log.2.2.1+(1*((x.got.length:Nat):Int)+(1*((x.acked.length:Nat):Int)+(cnT (.sl K28) (tkS x s)+(4*((x.sess.length:Nat):Int)+(3*(((tkR x s).length:Nat):Int)+0))))))))≤_
 omega
theorem rZ(x:NodeT)(m:MsgT):cnS K38 (bP x m)≤cnS K38 x+100:=by
 have h:=z4 (heard0 x m) iK
 have h3:cnT (.sl K28) (bB x.seen m.2.1 m.marks)≤cnT (.sl K28) x.seen:=D0 (cT _ _ _) (eG _ _ _)
 have h4:cnS K38 (heard0 x m)≤cnS K38 x:=by
  rw[jA,jA]
  show 6*((x.2.2.1.length:Nat):Int)+(2*((x.2.2.2.1.length:Nat):Int)+(1*((x.2.2.2.2.1.length:Nat):Int)+(cnT (.sl K27) x.log.2.2.1+(1*((x.got.length:Nat):Int)+(1*(((bU x.acked m.2.1 (mxI false (gt m.vec x.1.toNat).1 (bZ x.log))).length:Nat):Int)+(cnT (.sl K28) (bB x.seen m.2.1 m.marks)+(4*((x.sess.length:Nat):Int)+(3*((x.rises.length:Nat):Int)+0))))))))≤_
  rw[eZ];omega
 unfold bP;omega
theorem tT(x:NodeT)(m:MsgT):cnS K38 (bH x m)≤cnS K38 x+200:=by
 have h1:=rZ x m
 have h2:=z4 (bP x m) m.part
 have h3:∀ y:NodeT,cnS K38 (gotUp y m)=cnS K38 y:=fun y=>by
  rw[jA,jA]
  show 6*((y.2.2.1.length:Nat):Int)+(2*((y.2.2.2.1.length:Nat):Int)+(1*((y.2.2.2.2.1.length:Nat):Int)+(cnT (.sl K27) y.log.2.2.1+(1*(((bU y.got m.2.1 m.hi).length:Nat):Int)+(1*((y.acked.length:Nat):Int)+(cnT (.sl K28) y.seen+(4*((y.sess.length:Nat):Int)+(3*((y.rises.length:Nat):Int)+0))))))))=_
  rw[eZ]
 unfold bH;rw[h3];omega
theorem zX(x:NodeT){ss:List c5}(h:ss.length≤x.sess.length+1):cnS K38 (withS x ss)≤cnS K38 x+4:=by
 rw[jA,jA]
 show 6*((x.2.2.1.length:Nat):Int)+(2*((x.2.2.2.1.length:Nat):Int)+(1*((x.2.2.2.2.1.length:Nat):Int)+(cnT (.sl K27) x.log.2.2.1+(1*((x.got.length:Nat):Int)+(1*((x.acked.length:Nat):Int)+(cnT (.sl K28) x.seen+(4*((ss.length:Nat):Int)+(3*((x.rises.length:Nat):Int)+0))))))))≤_
 omega
theorem IY(x:NodeT)(k:Nat):cnS K38 (gV x k)≤cnS K38 x+4:=zX x (by rw[List.length_append,List.length_take,List.length_drop];omega)
structure RecSz (x:NodeT) (r:DU):Prop where
 node:SzN r.1
 cn:cnS K38 r.1≤cnS K38 x+300
 len:r.2.1.length≤1
 msg:∀ q∈r.2.1,SzM q
theorem uA{q:MsgT}(h:SzM q):∀ y∈[q],SzM y:=fun y hy=>by rw[List.mem_singleton.1 hy];exact h
theorem vK:∀ y∈([]:List MsgT),SzM y:=fun y hy=>by cases hy
theorem D6{x:NodeT}(h:SzN x)(a b c:Int):SzM (CO x a b c):=⟨Nat.zero_le _,h.got,Nat.zero_le _,oA,Nat.le_trans (dU _) (by decide)⟩
theorem E8{o x:NodeT}(h:SzN o)(m:MsgT):SzM (rS o x m):=⟨h.leaves,h.got,Nat.le_trans (j0 _ _) (by decide),jY _ _,Nat.le_trans (dU _) (by decide)⟩
theorem IG{o x:NodeT}(h:SzN o){m:MsgT}(hm:SzM m):SzM (LQ o x m):=⟨Nat.zero_le _,h.got,hm.list,jY _ _,Nat.le_trans (dU _) (by decide)⟩
theorem FC{x:NodeT}{m:MsgT}(hz:SzN x)(hm:SzM m)(R:RecOk x m):RecSz x (cY x m):=by
 unfold cY
 cases hf:eH x m with
 | true=>exact⟨hz,by show cnS K38 x≤_;omega,Nat.le_refl _,uA (D6 hz _ _ _)⟩
 | false=>
  have h1:=J5 hz R.node m
  have h2:=rZ (withS x (dN x m)) m
  have h3:=zX x (ss:=dN x m) (by
   unfold dN iT iH
   cases decide (bW x.sess m.2.1 true≥0)with
   | true=>show(List.set _ _ _).length≤_;rw[List.length_set];omega
   | false=>show(x.sess++[_]).length≤_;rw[List.length_append];exact Nat.le_refl _)
  exact⟨h1,by show cnS K38 (jS x m)≤_;unfold jS;omega,Nat.le_refl _,uA (E8 h1 m)⟩
theorem FE{x:NodeT}{m:MsgT}(hz:SzN x)(hm:SzM m)(k:Nat):RecSz x (eD x m k):=by
 have h1:=v5 hz k
 have h2:=IY x k
 have h3:=gY h1 m
 have h4:=tT (gV x k) m
 unfold eD
 cases m.1==5 with
 | true=>exact⟨h1,by show cnS K38 (gV x k)≤_;omega,Nat.zero_le _,vK⟩
 | false=>
  cases m.1==4 with
  | true=>exact⟨h3,by show cnS K38 (bH (gV x k) m)≤_;omega,Nat.zero_le _,vK⟩
  | false=>exact⟨h3,by show cnS K38 (bH (gV x k) m)≤_;omega,Nat.le_refl _,uA (IG h3 hm)⟩
theorem KD{x:NodeT}{m:MsgT}(hz:SzN x)(hm:SzM m):RecSz x (gC x m):=by
 unfold gC
 cases ho:dZ x m with
 | false=>exact⟨hz,by show cnS K38 x≤_;omega,Nat.zero_le _,vK⟩
 | true=>
  have R:=nB ho
  show RecSz x (fB x m)
  unfold fB
  have h3:=gY hz m
  have h4:=tT x m
  have h5:=fO hz m
  have h6:=rZ x m
  cases m.1==0 with
  | true=>exact⟨h3,by show cnS K38 (bH x m)≤_;omega,Nat.le_refl _,uA (D6 h3 _ _ _)⟩
  | false=>
   cases m.1==1 with
   | true=>exact⟨h5,by show cnS K38 (bP x m)≤_;omega,Nat.zero_le _,vK⟩
   | false=>
    cases m.1==2 with
    | true=>exact FC hz hm R
    | false=>
     cases decide (eP x m (m.1==4)<0)with
     | true=>exact⟨hz,by show cnS K38 x≤_;omega,Nat.zero_le _,vK⟩
     | false=>exact FE hz hm _
end Go.Abs.Xz
