/- What the functions of this program answer, part rh. -/
import Derived.Test.YtmamlgjbendjhaaGreatXrg
import Derived.Test.YtmamlgjbendjhaaGreatXl
set_option linter.unusedVariables false
namespace Go.Abs.Xz
open Go Go.Abs
-- how IU cells lie in what comes back
theorem HU(xs:List iT):cnT (.sl K147) xs=3*((xs.length:Nat):Int):=iU (c:=cnR K147) (n:=3) (fun x=>rfl) xs
theorem jF(x:NodeT):cnS K38 x=6*((x.2.2.1.length:Nat):Int)+(2*((x.2.2.2.1.length:Nat):Int)+(1*((x.2.2.2.2.1.length:Nat):Int)+(cnT (.sl K27) x.log.2.2.1+(1*((x.got.length:Nat):Int)+(1*((x.acked.length:Nat):Int)+(cnT (.sl K28) x.seen+(4*((x.sess.length:Nat):Int)+(3*((x.rises.length:Nat):Int)+0)))))))):=by
 rw[← I8,← GU,← uL,← uL,← uL,← KR,← HU];rfl
theorem EF{t u:List bQ}(h:u.length=t.length)(h2:∀ i,(gt u i).1.length=(gt t i).1.length):cnT (.sl K28) u≤cnT (.sl K28) t:=
 xP (α:=bQ) (c:=cnR K28) u t h fun j hj=>by
  have e:∀ r:bQ,cnR K28 r=1*((r.1.length:Nat):Int)+0:=fun r=>by rw[← uL];rfl
  rw[e,e,h2 j];omega
theorem F2(x:NodeT)(s:aH):(tkP x s).1.length≤5∧(tkP x s).2.1.length≤5:=by
 unfold tkP prune
 cases aO (cJ x.state s)with
 | true=>exact jW _ _
 | false=>exact jW _ _
theorem AB(x:NodeT)(s:aH):cnS K38 (fI x s)≤cnS K38 x+100:=by
 rw[jF,jF]
 have h1:=F2 x s
 have h2:(bX (tkP x s)).1.length≤4:=pE _
 have h3:cnT (.sl K28) (tkS x s)≤cnT (.sl K28) x.seen:=EF (cU _ _ _) (eN _ _ _)
 have h4:(tkR x s).length=x.rises.length:=f4 _ _ _ _
 show 6*(((tkP x s).1.length:Nat):Int)+(2*(((tkP x s).2.1.length:Nat):Int)+(1*(((bX (tkP x s)).1.length:Nat):Int)+(cnT (.sl K27) x.log.2.2.1+(1*((x.got.length:Nat):Int)+(1*((x.acked.length:Nat):Int)+(cnT (.sl K28) (tkS x s)+(4*((x.sess.length:Nat):Int)+(3*(((tkR x s).length:Nat):Int)+0))))))))≤_
 omega
theorem sH(x:NodeT)(m:MsgT):cnS K38 (bP x m)≤cnS K38 x+100:=by
 have h:=AB (heard0 x m) iA
 have h3:cnT (.sl K28) (bB x.seen m.2.1 m.marks)≤cnT (.sl K28) x.seen:=EF (cU _ _ _) (eN _ _ _)
 have h4:cnS K38 (heard0 x m)≤cnS K38 x:=by
  rw[jF,jF]
  show 6*((x.2.2.1.length:Nat):Int)+(2*((x.2.2.2.1.length:Nat):Int)+(1*((x.2.2.2.2.1.length:Nat):Int)+(cnT (.sl K27) x.log.2.2.1+(1*((x.got.length:Nat):Int)+(1*(((bU x.acked m.2.1 (mxI false (gt m.vec x.1.toNat).1 (cA x.log))).length:Nat):Int)+(cnT (.sl K28) (bB x.seen m.2.1 m.marks)+(4*((x.sess.length:Nat):Int)+(3*((x.rises.length:Nat):Int)+0))))))))≤_
  rw[fD];omega
 unfold bP;omega
theorem t8(x:NodeT)(m:MsgT):cnS K38 (bF x m)≤cnS K38 x+200:=by
 have h1:=sH x m
 have h2:=AB (bP x m) m.part
 have h3:∀ y:NodeT,cnS K38 (gotUp y m)=cnS K38 y:=fun y=>by
  rw[jF,jF]
  show 6*((y.2.2.1.length:Nat):Int)+(2*((y.2.2.2.1.length:Nat):Int)+(1*((y.2.2.2.2.1.length:Nat):Int)+(cnT (.sl K27) y.log.2.2.1+(1*(((bU y.got m.2.1 m.hi).length:Nat):Int)+(1*((y.acked.length:Nat):Int)+(cnT (.sl K28) y.seen+(4*((y.sess.length:Nat):Int)+(3*((y.rises.length:Nat):Int)+0))))))))=_
  rw[fD]
 unfold bF;rw[h3];omega
theorem z5(x:NodeT){ss:List c7}(h:ss.length≤x.sess.length+1):cnS K38 (withS x ss)≤cnS K38 x+4:=by
 rw[jF,jF]
 show 6*((x.2.2.1.length:Nat):Int)+(2*((x.2.2.2.1.length:Nat):Int)+(1*((x.2.2.2.2.1.length:Nat):Int)+(cnT (.sl K27) x.log.2.2.1+(1*((x.got.length:Nat):Int)+(1*((x.acked.length:Nat):Int)+(cnT (.sl K28) x.seen+(4*((ss.length:Nat):Int)+(3*((x.rises.length:Nat):Int)+0))))))))≤_
 omega
theorem JH(x:NodeT)(k:Nat):cnS K38 (gI x k)≤cnS K38 x+4:=z5 x (by rw[List.length_append,List.length_take,List.length_drop];omega)
structure RecSz (x:NodeT) (r:D9):Prop where
 node:SzN r.1
 cn:cnS K38 r.1≤cnS K38 x+300
 len:r.2.1.length≤1
 msg:∀ q∈r.2.1,SzM q
theorem uI{q:MsgT}(h:SzM q):∀ y∈[q],SzM y:=fun y hy=>by rw[List.mem_singleton.1 hy];exact h
theorem vU:∀ y∈([]:List MsgT),SzM y:=fun y hy=>by cases hy
theorem EM{x:NodeT}(h:SzN x)(a b c:Int):SzM (BC x a b c):=⟨Nat.zero_le _,h.got,Nat.zero_le _,oK,Nat.le_trans (dZ _) (by decide)⟩
theorem FN{o x:NodeT}(h:SzN o)(m:MsgT):SzM (pL o x m):=⟨h.leaves,h.got,Nat.le_trans (kA _ _) (by decide),jI _ _,Nat.le_trans (dZ _) (by decide)⟩
theorem I2{o x:NodeT}(h:SzN o){m:MsgT}(hm:SzM m):SzM (I3 o x m):=⟨Nat.zero_le _,h.got,hm.list,jI _ _,Nat.le_trans (dZ _) (by decide)⟩
theorem FQ{x:NodeT}{m:MsgT}(hz:SzN x)(hm:SzM m)(R:RecOk x m):RecSz x (cF x m):=by
 unfold cF
 cases hf:dP x m with
 | true=>exact⟨hz,by show cnS K38 x≤_;omega,Nat.le_refl _,uI (EM hz _ _ _)⟩
 | false=>
  have h1:=KN hz R.node m
  have h2:=sH (withS x (dU x m)) m
  have h3:=z5 x (ss:=dU x m) (by
   unfold dU iY iO
   cases decide (bW x.sess m.2.1 true≥0)with
   | true=>show(List.set _ _ _).length≤_;rw[List.length_set];omega
   | false=>show(x.sess++[_]).length≤_;rw[List.length_append];exact Nat.le_refl _)
  exact⟨h1,by show cnS K38 (jN x m)≤_;unfold jN;omega,Nat.le_refl _,uI (FN h1 m)⟩
theorem FU{x:NodeT}{m:MsgT}(hz:SzN x)(hm:SzM m)(k:Nat):RecSz x (cX x m k):=by
 have h1:=wC hz k
 have h2:=JH x k
 have h3:=hI h1 m
 have h4:=t8 (gI x k) m
 unfold cX
 cases m.1==5 with
 | true=>exact⟨h1,by show cnS K38 (gI x k)≤_;omega,Nat.zero_le _,vU⟩
 | false=>
  cases m.1==4 with
  | true=>exact⟨h3,by show cnS K38 (bF (gI x k) m)≤_;omega,Nat.zero_le _,vU⟩
  | false=>exact⟨h3,by show cnS K38 (bF (gI x k) m)≤_;omega,Nat.le_refl _,uI (I2 h3 hm)⟩
theorem KW{x:NodeT}{m:MsgT}(hz:SzN x)(hm:SzM m):RecSz x (eK x m):=by
 unfold eK
 cases ho:dM x m with
 | false=>exact⟨hz,by show cnS K38 x≤_;omega,Nat.zero_le _,vU⟩
 | true=>
  have R:=iE ho
  show RecSz x (dS x m)
  unfold dS
  have h3:=hI hz m
  have h4:=t8 x m
  have h5:=fP hz m
  have h6:=sH x m
  cases m.1==0 with
  | true=>exact⟨h3,by show cnS K38 (bF x m)≤_;omega,Nat.le_refl _,uI (EM h3 _ _ _)⟩
  | false=>
   cases m.1==1 with
   | true=>exact⟨h5,by show cnS K38 (bP x m)≤_;omega,Nat.zero_le _,vU⟩
   | false=>
    cases m.1==2 with
    | true=>exact FQ hz hm R
    | false=>
     cases decide (dK x m (m.1==4)<0)with
     | true=>exact⟨hz,by show cnS K38 x≤_;omega,Nat.zero_le _,vU⟩
     | false=>exact FU hz hm _
end Go.Abs.Xz
