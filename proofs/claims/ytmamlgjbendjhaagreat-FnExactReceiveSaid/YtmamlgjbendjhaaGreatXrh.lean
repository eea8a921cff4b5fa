/- What the functions of this program answer, part rh. -/
import Derived.Test.YtmamlgjbendjhaaGreatXrg
import Derived.Test.YtmamlgjbendjhaaGreatXl
set_option linter.unusedVariables false
namespace Go.Abs.Xz
open Go Go.Abs
-- how DA cells lie in what comes back
theorem CR(xs:List j7):cnT (.sl K147) xs=3*((xs.length:Nat):Int):=gZ (c:=cnR K147) (n:=3) (fun x=>rfl) xs
theorem iJ(x:NodeT):cnS K38 x=6*((x.2.2.1.length:Nat):Int)+(2*((x.2.2.2.1.length:Nat):Int)+(1*((x.2.2.2.2.1.length:Nat):Int)+(cnT (.sl K27) x.log.2.2.1+(1*((x.got.length:Nat):Int)+(1*((x.acked.length:Nat):Int)+(cnT (.sl K28) x.seen+(4*((x.sess.length:Nat):Int)+(3*((x.rises.length:Nat):Int)+0)))))))):=by
 rw[← yC,← p9,← lG,← lG,← lG,← E9,← CR];rfl
theorem AB{t u:List cS}(h:u.length=t.length)(h2:∀ i,(gt u i).1.length=(gt t i).1.length):cnT (.sl K28) u≤cnT (.sl K28) t:=
 uX (α:=cS) (c:=cnR K28) u t h fun j hj=>by
  have e:∀ r:cS,cnR K28 r=1*((r.1.length:Nat):Int)+0:=fun r=>by rw[← lG];rfl
  rw[e,e,h2 j];omega
theorem BI(x:NodeT)(s:aO):(tkP x s).1.length≤5∧(tkP x s).2.1.length≤5:=by
 unfold tkP jX
 cases aZ (eA x.state s)with
 | true=>exact m8 _ _
 | false=>exact m8 _ _
theorem xH(x:NodeT)(s:aO):cnS K38 (lX x s)≤cnS K38 x+100:=by
 rw[iJ,iJ]
 have h1:=BI x s
 have h2:(cW (tkP x s)).1.length≤4:=yV _
 have h3:cnT (.sl K28) (tkS x s)≤cnT (.sl K28) x.seen:=AB (dT _ _ _) (gO _ _ _)
 have h4:(tkR x s).length=x.rises.length:=gH _ _ _ _
 show 6*(((tkP x s).1.length:Nat):Int)+(2*(((tkP x s).2.1.length:Nat):Int)+(1*(((cW (tkP x s)).1.length:Nat):Int)+(cnT (.sl K27) x.log.2.2.1+(1*((x.got.length:Nat):Int)+(1*((x.acked.length:Nat):Int)+(cnT (.sl K28) (tkS x s)+(4*((x.sess.length:Nat):Int)+(3*(((tkR x s).length:Nat):Int)+0))))))))≤_
 omega
theorem p6(x:NodeT)(m:MsgT):cnS K38 (cK x m)≤cnS K38 x+100:=by
 have h:=xH (heard0 x m) rS
 have h3:cnT (.sl K28) (bL x.seen m.2.1 m.marks)≤cnT (.sl K28) x.seen:=AB (dT _ _ _) (gO _ _ _)
 have h4:cnS K38 (heard0 x m)≤cnS K38 x:=by
  rw[iJ,iJ]
  show 6*((x.2.2.1.length:Nat):Int)+(2*((x.2.2.2.1.length:Nat):Int)+(1*((x.2.2.2.2.1.length:Nat):Int)+(cnT (.sl K27) x.log.2.2.1+(1*((x.got.length:Nat):Int)+(1*(((cT x.acked m.2.1 (mxI false (gt m.vec x.1.toNat).1 (dL x.log))).length:Nat):Int)+(cnT (.sl K28) (bL x.seen m.2.1 m.marks)+(4*((x.sess.length:Nat):Int)+(3*((x.rises.length:Nat):Int)+0))))))))≤_
  rw[fJ];omega
 unfold cK;omega
theorem rO(x:NodeT)(m:MsgT):cnS K38 (cV x m)≤cnS K38 x+200:=by
 have h1:=p6 x m
 have h2:=xH (cK x m) m.part
 have h3:∀ y:NodeT,cnS K38 (gotUp y m)=cnS K38 y:=fun y=>by
  rw[iJ,iJ]
  show 6*((y.2.2.1.length:Nat):Int)+(2*((y.2.2.2.1.length:Nat):Int)+(1*((y.2.2.2.2.1.length:Nat):Int)+(cnT (.sl K27) y.log.2.2.1+(1*(((cT y.got m.2.1 m.hi).length:Nat):Int)+(1*((y.acked.length:Nat):Int)+(cnT (.sl K28) y.seen+(4*((y.sess.length:Nat):Int)+(3*((y.rises.length:Nat):Int)+0))))))))=_
  rw[fJ]
 unfold cV;rw[h3];omega
theorem xD(x:NodeT){ss:List eJ}(h:ss.length≤x.sess.length+1):cnS K38 (withS x ss)≤cnS K38 x+4:=by
 rw[iJ,iJ]
 show 6*((x.2.2.1.length:Nat):Int)+(2*((x.2.2.2.1.length:Nat):Int)+(1*((x.2.2.2.2.1.length:Nat):Int)+(cnT (.sl K27) x.log.2.2.1+(1*((x.got.length:Nat):Int)+(1*((x.acked.length:Nat):Int)+(cnT (.sl K28) x.seen+(4*((ss.length:Nat):Int)+(3*((x.rises.length:Nat):Int)+0))))))))≤_
 omega
theorem DV(x:NodeT)(k:Nat):cnS K38 (gX x k)≤cnS K38 x+4:=xD x (by rw[List.length_append,List.length_take,List.length_drop];omega)
structure RecSz (x:NodeT) (r:CB):Prop where
 node:SzN r.1
 cn:cnS K38 r.1≤cnS K38 x+300
 len:r.2.1.length≤1
 msg:∀ q∈r.2.1,SzM q
theorem sB{q:MsgT}(h:SzM q):∀ y∈[q],SzM y:=fun y hy=>by rw[List.mem_singleton.1 hy];exact h
theorem tH:∀ y∈([]:List MsgT),SzM y:=fun y hy=>by cases hy
theorem AM{x:NodeT}(h:SzN x)(a b c:Int):SzM (C6 x a b c):=⟨Nat.zero_le _,h.got,Nat.zero_le _,sF,Nat.le_trans (iK _) (by decide)⟩
theorem BC{o x:NodeT}(h:SzN o)(m:MsgT):SzM (wM o x m):=⟨h.leaves,h.got,Nat.le_trans (jN _ _) (by decide),jL _ _,Nat.le_trans (iK _) (by decide)⟩
theorem DF{o x:NodeT}(h:SzN o){m:MsgT}(hm:SzM m):SzM (GA o x m):=⟨Nat.zero_le _,h.got,hm.list,jL _ _,Nat.le_trans (iK _) (by decide)⟩
theorem BD{x:NodeT}{m:MsgT}(hz:SzN x)(hm:SzM m)(R:RecOk x m):RecSz x (hI x m):=by
 unfold hI
 cases hf:iB x m with
 | true=>exact⟨hz,by show cnS K38 x≤_;omega,Nat.le_refl _,sB (AM hz _ _ _)⟩
 | false=>
  have h1:=E6 hz R.node m
  have h2:=p6 (withS x (eU x m)) m
  have h3:=xD x (ss:=eU x m) (by
   unfold eU lA gV
   cases decide (cX x.sess m.2.1 true≥0)with
   | true=>show(List.set _ _ _).length≤_;rw[List.length_set];omega
   | false=>show(x.sess++[_]).length≤_;rw[List.length_append];exact Nat.le_refl _)
  exact⟨h1,by show cnS K38 (y2 x m)≤_;unfold y2;omega,Nat.le_refl _,sB (BC h1 m)⟩
theorem BE{x:NodeT}{m:MsgT}(hz:SzN x)(hm:SzM m)(k:Nat):RecSz x (j9 x m k):=by
 have h1:=tT hz k
 have h2:=DV x k
 have h3:=gL h1 m
 have h4:=rO (gX x k) m
 unfold j9
 cases m.1==5 with
 | true=>exact⟨h1,by show cnS K38 (gX x k)≤_;omega,Nat.zero_le _,tH⟩
 | false=>
  cases m.1==4 with
  | true=>exact⟨h3,by show cnS K38 (cV (gX x k) m)≤_;omega,Nat.zero_le _,tH⟩
  | false=>exact⟨h3,by show cnS K38 (cV (gX x k) m)≤_;omega,Nat.le_refl _,sB (DF h3 hm)⟩
theorem FA{x:NodeT}{m:MsgT}(hz:SzN x)(hm:SzM m):RecSz x (eT x m):=by
 unfold eT
 cases ho:fU x m with
 | false=>exact⟨hz,by show cnS K38 x≤_;omega,Nat.zero_le _,tH⟩
 | true=>
  have R:=tB ho
  show RecSz x (nP x m)
  unfold nP
  have h3:=gL hz m
  have h4:=rO x m
  have h5:=fP hz m
  have h6:=p6 x m
  cases m.1==0 with
  | true=>exact⟨h3,by show cnS K38 (cV x m)≤_;omega,Nat.le_refl _,sB (AM h3 _ _ _)⟩
  | false=>
   cases m.1==1 with
   | true=>exact⟨h5,by show cnS K38 (cK x m)≤_;omega,Nat.zero_le _,tH⟩
   | false=>
    cases m.1==2 with
    | true=>exact BD hz hm R
    | false=>
     cases decide (nI x m (m.1==4)<0)with
     | true=>exact⟨hz,by show cnS K38 x≤_;omega,Nat.zero_le _,tH⟩
     | false=>exact BE hz hm _
theorem G6{q:MsgT}(h:SzM q):cnR K43 q≤100000000:=by
 have e:cnR K43 q=1+(1+(1+(1+(1+(1*((q.tree.1.length:Nat):Int)+(1+(1*((q.vec.length:Nat):Int)+(1*((q.leaves.length:Nat):Int)+(6*((q.part.1.length:Nat):Int)+(2*((q.part.2.1.length:Nat):Int)+(2*((q.marks.length:Nat):Int)+0))))))))))):=by
  rw[← lG,← lG,← lG,← yC,← p9,← p9];rfl
 have h1:=h.leaves;have h2:=h.vec;have h3:=h.list;have h4:=h.part.a;have h5:=h.part.b;have h6:=h.marks
 unfold bA at h1 h2 h3 h4 h5 h6
 omega
theorem G5{q:MsgT}(h:SzM q):LmR K43 q:=
 ⟨trivial,trivial,trivial,trivial,trivial,lF _ (fW h.leaves),trivial,lF _ (fW h.vec),lF _ (fW h.list),tQ _ (fW h.part.a),nB _ (fW h.part.b),nB _ (fW h.marks),trivial⟩
theorem FP{qs:List MsgT}(h:qs.length≤1)(h2:∀ q∈qs,SzM q):LmT (.sl K43) qs:=
 ⟨Nat.le_trans h (by decide),fun i r hr=>by obtain⟨h3,h4⟩:=EA (α:=MsgT) hr;exact h4▸G5 (h2 _ (dX h3))⟩
theorem FQ{qs:List MsgT}(h:qs.length≤1)(h2:∀ q∈qs,SzM q):cnT (.sl K43) qs≤100000000:=by
 have t:cI (cnR K43) qs≤100000000*((qs.length:Nat):Int):=uW (c:=cnR K43) (A:=100000000) qs fun q hq=>G6 (h2 q hq)
 show cI (cnR K43) qs≤_
 omega
theorem GZ{m:MsgT}(h:Small K43 m):SzM m where
 leaves:=(tsl (shd (stl (stl (stl (stl (stl h))))))).1
 vec:=(tsl (shd (stl (stl (stl (stl (stl (stl (stl h))))))))).1
 list:=(tsl (shd (stl (stl (stl (stl (stl (stl (stl (stl h)))))))))).1
 part:=⟨(tsl (shd (stl (stl (stl (stl (stl (stl (stl (stl (stl h))))))))))).1,(tsl (shd (stl (stl (stl (stl (stl (stl (stl (stl (stl (stl h)))))))))))).1⟩
 marks:=(tsl (shd (stl (stl (stl (stl (stl (stl (stl (stl (stl (stl (stl h))))))))))))).1
end Go.Abs.Xz
