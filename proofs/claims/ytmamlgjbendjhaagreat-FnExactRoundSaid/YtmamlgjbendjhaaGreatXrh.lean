/- What the functions of this program answer, part rh. -/
import Derived.Test.YtmamlgjbendjhaaGreatXrg
import Derived.Test.YtmamlgjbendjhaaGreatXl
set_option linter.unusedVariables false
namespace Go.Abs.Xz
open Go Go.Abs
-- how EI cells lie in what comes back
theorem FX(xs:List kP):cnT (.sl K147) xs=3*(xs.length:Int):=iY (c:=cnR K147) (n:=3) (fun x=>rfl) xs
theorem gS(x:NodeT):cnS K38 x=6*(x.2.2.1.length:Int)+(2*(x.2.2.2.1.length:Int)+(1*(x.2.2.2.2.1.length:Int)+(cnT (.sl K27) x.log.2.2.1+(1*(x.got.length:Int)+(1*(x.acked.length:Int)+(cnT (.sl K28) x.seen+(4*(x.sess.length:Int)+(3*(x.rises.length:Int)+0)))))))):=by
 rw[← GS,← EX,← uH,← uH,← uH,← yO,← FX];rfl
theorem CX{t u:List cV}(h:u.length=t.length)(h2:∀ i,(gt u i).1.length=(gt t i).1.length):cnT (.sl K28) u≤cnT (.sl K28) t:=
 rD (α:=cV) (c:=cnR K28) u t h fun j hj=>by
  have e:∀ r:cV,cnR K28 r=1*(r.1.length:Int)+0:=fun r=>by rw[← uH];rfl
  rw[e,e,h2 j];omega
theorem EA(x:NodeT)(s:aM):(tkP x s).1.length≤5∧(tkP x s).2.1.length≤5:=by
 unfold tkP kU
 cases bA (eQ x.state s)with
 | true=>exact oE _ _
 | false=>exact oE _ _
theorem zQ(x:NodeT)(s:aM):cnS K38 (m7 x s)≤cnS K38 x+100:=by
 rw[gS,gS]
 have h1:=EA x s
 have h2:(c9 (tkP x s)).1.length≤4:=BM _
 have h3:cnT (.sl K28) (tkS x s)≤cnT (.sl K28) x.seen:=CX (eE _ _ _) (iI _ _ _)
 have h4:(tkR x s).length=x.rises.length:=hO _ _ _ _
 show 6*(((tkP x s).1.length:Nat):Int)+(2*(((tkP x s).2.1.length:Nat):Int)+(1*(((c9 (tkP x s)).1.length:Nat):Int)+(cnT (.sl K27) x.log.2.2.1+(1*(x.got.length:Int)+(1*(x.acked.length:Int)+(cnT (.sl K28) (tkS x s)+(4*(x.sess.length:Int)+(3*(((tkR x s).length:Nat):Int)+0))))))))≤_
 omega
theorem rP(x:NodeT)(m:MsgT):cnS K38 (cK x m)≤cnS K38 x+100:=by
 have h:=zQ (heard0 x m) tW
 have h3:cnT (.sl K28) (bN x.seen m.2.1 m.marks)≤cnT (.sl K28) x.seen:=CX (eE _ _ _) (iI _ _ _)
 have h4:cnS K38 (heard0 x m)≤cnS K38 x:=by
  rw[gS,gS]
  show 6*(x.2.2.1.length:Int)+(2*(x.2.2.2.1.length:Int)+(1*(x.2.2.2.2.1.length:Int)+(cnT (.sl K27) x.log.2.2.1+(1*(x.got.length:Int)+(1*(((cY x.acked m.2.1 (mxI false (gt m.vec x.1.toNat).1 (dU x.log))).length:Nat):Int)+(cnT (.sl K28) (bN x.seen m.2.1 m.marks)+(4*(x.sess.length:Int)+(3*(x.rises.length:Int)+0))))))))≤_
  rw[gG];omega
 unfold cK;omega
theorem tR(x:NodeT)(m:MsgT):cnS K38 (c7 x m)≤cnS K38 x+200:=by
 have h1:=rP x m
 have h2:=zQ (cK x m) m.part
 have h3:∀ y:NodeT,cnS K38 (gotUp y m)=cnS K38 y:=fun y=>by
  rw[gS,gS]
  show 6*(y.2.2.1.length:Int)+(2*(y.2.2.2.1.length:Int)+(1*(y.2.2.2.2.1.length:Int)+(cnT (.sl K27) y.log.2.2.1+(1*(((cY y.got m.2.1 m.hi).length:Nat):Int)+(1*(y.acked.length:Int)+(cnT (.sl K28) y.seen+(4*(y.sess.length:Int)+(3*(y.rises.length:Int)+0))))))))=_
  rw[gG]
 unfold c7;rw[h3];omega
theorem zL(x:NodeT){ss:List dS}(h:ss.length≤x.sess.length+1):cnS K38 (withS x ss)≤cnS K38 x+4:=by
 rw[gS,gS]
 show 6*(x.2.2.1.length:Int)+(2*(x.2.2.2.1.length:Int)+(1*(x.2.2.2.2.1.length:Int)+(cnT (.sl K27) x.log.2.2.1+(1*(x.got.length:Int)+(1*(x.acked.length:Int)+(cnT (.sl K28) x.seen+(4*(ss.length:Int)+(3*(x.rises.length:Int)+0))))))))≤_
 omega
theorem G1(x:NodeT)(k:Nat):cnS K38 (iX x k)≤cnS K38 x+4:=zL x (by rw[List.length_append,List.length_take,List.length_drop];omega)
structure RecSz (x:NodeT) (r:tZ):Prop where
 node:SzN r.1
 cn:cnS K38 r.1≤cnS K38 x+300
 len:r.2.1.length≤1
 msg:∀ q∈r.2.1,SzM q
theorem uD{q:MsgT}(h:SzM q):∀ y∈[q],SzM y:=fun y hy=>by rw[List.mem_singleton.1 hy];exact h
theorem vJ:∀ y∈([]:List MsgT),SzM y:=fun y hy=>by cases hy
theorem C7{x:NodeT}(h:SzN x)(a b c:Int):SzM (GB x a b c):=⟨Nat.zero_le _,h.got,Nat.zero_le _,oD,Nat.le_trans (hY _) (by decide)⟩
theorem DZ{o x:NodeT}(h:SzN o)(m:MsgT):SzM (yW o x m):=⟨h.leaves,h.got,Nat.le_trans (kM _ _) (by decide),kK _ _,Nat.le_trans (hY _) (by decide)⟩
theorem GK{o x:NodeT}(h:SzN o){m:MsgT}(hm:SzM m):SzM (I8 o x m):=⟨Nat.zero_le _,h.got,hm.list,kK _ _,Nat.le_trans (hY _) (by decide)⟩
theorem D2{x:NodeT}{m:MsgT}(hz:SzN x)(hm:SzM m)(R:RecOk x m):RecSz x (hS x m):=by
 unfold hS
 cases hf:iJ x m with
 | true=>exact⟨hz,by show cnS K38 x≤_;omega,Nat.le_refl _,uD (C7 hz _ _ _)⟩
 | false=>
  have h1:=HU hz R.node m
  have h2:=rP (withS x (fO x m)) m
  have h3:=zL x (ss:=fO x m) (by
   unfold fO mE iS
   cases decide (cP x.sess m.2.1 true≥0)with
   | true=>show(List.set _ _ _).length≤_;rw[List.length_set];omega
   | false=>show(x.sess++[_]).length≤_;rw[List.length_append];exact Nat.le_refl _)
  exact⟨h1,by show cnS K38 (BR x m)≤_;unfold BR;omega,Nat.le_refl _,uD (DZ h1 m)⟩
theorem D4{x:NodeT}{m:MsgT}(hz:SzN x)(hm:SzM m)(k:Nat):RecSz x (jV x m k):=by
 have h1:=vU hz k
 have h2:=G1 x k
 have h3:=iB h1 m
 have h4:=tR (iX x k) m
 unfold jV
 cases m.1==5 with
 | true=>exact⟨h1,by show cnS K38 (iX x k)≤_;omega,Nat.zero_le _,vJ⟩
 | false=>
  cases m.1==4 with
  | true=>exact⟨h3,by show cnS K38 (c7 (iX x k) m)≤_;omega,Nat.zero_le _,vJ⟩
  | false=>exact⟨h3,by show cnS K38 (c7 (iX x k) m)≤_;omega,Nat.le_refl _,uD (GK h3 hm)⟩
theorem mD{x:NodeT}{m:MsgT}(hz:SzN x)(hm:SzM m):RecSz x (oO x m):=by
 unfold oO
 cases ho:fV x m with
 | false=>exact⟨hz,by show cnS K38 x≤_;omega,Nat.zero_le _,vJ⟩
 | true=>
  have R:=vC ho
  show RecSz x (nF x m)
  unfold nF
  have h3:=iB hz m
  have h4:=tR x m
  have h5:=gI hz m
  have h6:=rP x m
  cases m.1==0 with
  | true=>exact⟨h3,by show cnS K38 (c7 x m)≤_;omega,Nat.le_refl _,uD (C7 h3 _ _ _)⟩
  | false=>
   cases m.1==1 with
   | true=>exact⟨h5,by show cnS K38 (cK x m)≤_;omega,Nat.zero_le _,vJ⟩
   | false=>
    cases m.1==2 with
    | true=>exact D2 hz hm R
    | false=>
     cases decide (nR x m (m.1==4)<0)with
     | true=>exact⟨hz,by show cnS K38 x≤_;omega,Nat.zero_le _,vJ⟩
     | false=>exact D4 hz hm _
end Go.Abs.Xz
