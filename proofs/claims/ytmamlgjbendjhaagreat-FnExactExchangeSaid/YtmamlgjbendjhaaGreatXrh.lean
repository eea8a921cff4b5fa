/- What the functions of this program answer, part rh. -/
import Derived.Test.YtmamlgjbendjhaaGreatXrg
import Derived.Test.YtmamlgjbendjhaaGreatXl
set_option linter.unusedVariables false
namespace Go.Abs.Xz
open Go Go.Abs
-- how EX cells lie in what comes back
theorem ED(xs:List kN):cnT (.sl K147) xs=3*((xs.length:Nat):Int):=iM (c:=cnR K147) (n:=3) (fun x=>rfl) xs
theorem gJ(x:NodeT):cnS K38 x=6*((x.2.2.1.length:Nat):Int)+(2*((x.2.2.2.1.length:Nat):Int)+(1*((x.2.2.2.2.1.length:Nat):Int)+(cnT (.sl K27) x.log.2.2.1+(1*((x.got.length:Nat):Int)+(1*((x.acked.length:Nat):Int)+(cnT (.sl K28) x.seen+(4*((x.sess.length:Nat):Int)+(3*((x.rises.length:Nat):Int)+0)))))))):=by
 rw[← FB,← DM,← tF,← tF,← tF,← GH,← ED];rfl
theorem BO{t u:List cS}(h:u.length=t.length)(h2:∀ i,(gt u i).1.length=(gt t i).1.length):cnT (.sl K28) u≤cnT (.sl K28) t:=
 vW (α:=cS) (c:=cnR K28) u t h fun j hj=>by
  have e:∀ r:cS,cnR K28 r=1*((r.1.length:Nat):Int)+0:=fun r=>by rw[← tF];rfl
  rw[e,e,h2 j];omega
theorem C0(x:NodeT)(s:aM):(tkP x s).1.length≤5∧(tkP x s).2.1.length≤5:=by
 unfold tkP kJ
 cases aY (eH x.state s)with
 | true=>exact nO _ _
 | false=>exact nO _ _
theorem yK(x:NodeT)(s:aM):cnS K38 (mL x s)≤cnS K38 x+100:=by
 rw[gJ,gJ]
 have h1:=C0 x s
 have h2:(cZ (tkP x s)).1.length≤4:=AE _
 have h3:cnT (.sl K28) (tkS x s)≤cnT (.sl K28) x.seen:=BO (d6 _ _ _) (hX _ _ _)
 have h4:(tkR x s).length=x.rises.length:=gU _ _ _ _
 show 6*(((tkP x s).1.length:Nat):Int)+(2*(((tkP x s).2.1.length:Nat):Int)+(1*(((cZ (tkP x s)).1.length:Nat):Int)+(cnT (.sl K27) x.log.2.2.1+(1*((x.got.length:Nat):Int)+(1*((x.acked.length:Nat):Int)+(cnT (.sl K28) (tkS x s)+(4*((x.sess.length:Nat):Int)+(3*(((tkR x s).length:Nat):Int)+0))))))))≤_
 omega
theorem qQ(x:NodeT)(m:MsgT):cnS K38 (cG x m)≤cnS K38 x+100:=by
 have h:=yK (heard0 x m) sQ
 have h3:cnT (.sl K28) (bK x.seen m.2.1 m.marks)≤cnT (.sl K28) x.seen:=BO (d6 _ _ _) (hX _ _ _)
 have h4:cnS K38 (heard0 x m)≤cnS K38 x:=by
  rw[gJ,gJ]
  show 6*((x.2.2.1.length:Nat):Int)+(2*((x.2.2.2.1.length:Nat):Int)+(1*((x.2.2.2.2.1.length:Nat):Int)+(cnT (.sl K27) x.log.2.2.1+(1*((x.got.length:Nat):Int)+(1*(((cT x.acked m.2.1 (mxI false (gt m.vec x.1.toNat).1 (dM x.log))).length:Nat):Int)+(cnT (.sl K28) (bK x.seen m.2.1 m.marks)+(4*((x.sess.length:Nat):Int)+(3*((x.rises.length:Nat):Int)+0))))))))≤_
  rw[fX];omega
 unfold cG;omega
theorem sM(x:NodeT)(m:MsgT):cnS K38 (cX x m)≤cnS K38 x+200:=by
 have h1:=qQ x m
 have h2:=yK (cG x m) m.part
 have h3:∀ y:NodeT,cnS K38 (gotUp y m)=cnS K38 y:=fun y=>by
  rw[gJ,gJ]
  show 6*((y.2.2.1.length:Nat):Int)+(2*((y.2.2.2.1.length:Nat):Int)+(1*((y.2.2.2.2.1.length:Nat):Int)+(cnT (.sl K27) y.log.2.2.1+(1*(((cT y.got m.2.1 m.hi).length:Nat):Int)+(1*((y.acked.length:Nat):Int)+(cnT (.sl K28) y.seen+(4*((y.sess.length:Nat):Int)+(3*((y.rises.length:Nat):Int)+0))))))))=_
  rw[fX]
 unfold cX;rw[h3];omega
theorem yG(x:NodeT){ss:List eO}(h:ss.length≤x.sess.length+1):cnS K38 (withS x ss)≤cnS K38 x+4:=by
 rw[gJ,gJ]
 show 6*((x.2.2.1.length:Nat):Int)+(2*((x.2.2.2.1.length:Nat):Int)+(1*((x.2.2.2.2.1.length:Nat):Int)+(cnT (.sl K27) x.log.2.2.1+(1*((x.got.length:Nat):Int)+(1*((x.acked.length:Nat):Int)+(cnT (.sl K28) x.seen+(4*((ss.length:Nat):Int)+(3*((x.rises.length:Nat):Int)+0))))))))≤_
 omega
theorem FJ(x:NodeT)(k:Nat):cnS K38 (iL x k)≤cnS K38 x+4:=yG x (by rw[List.length_append,List.length_take,List.length_drop];omega)
structure RecSz (x:NodeT) (r:sU):Prop where
 node:SzN r.1
 cn:cnS K38 r.1≤cnS K38 x+300
 len:r.2.1.length≤1
 msg:∀ q∈r.2.1,SzM q
theorem tB{q:MsgT}(h:SzM q):∀ y∈[q],SzM y:=fun y hy=>by rw[List.mem_singleton.1 hy];exact h
theorem uI:∀ y∈([]:List MsgT),SzM y:=fun y hy=>by cases hy
theorem B0{x:NodeT}(h:SzN x)(a b c:Int):SzM (ES x a b c):=⟨Nat.zero_le _,h.got,Nat.zero_le _,nN,Nat.le_trans (gY _) (by decide)⟩
theorem CQ{o x:NodeT}(h:SzN o)(m:MsgT):SzM (xT o x m):=⟨h.leaves,h.got,Nat.le_trans (kA _ _) (by decide),j8 _ _,Nat.le_trans (gY _) (by decide)⟩
theorem E3{o x:NodeT}(h:SzN o){m:MsgT}(hm:SzM m):SzM (HJ o x m):=⟨Nat.zero_le _,h.got,hm.list,j8 _ _,Nat.le_trans (gY _) (by decide)⟩
theorem CS{x:NodeT}{m:MsgT}(hz:SzN x)(hm:SzM m)(R:RecOk x m):RecSz x (gV x m):=by
 unfold gV
 cases hf:hY x m with
 | true=>exact⟨hz,by show cnS K38 x≤_;omega,Nat.le_refl _,tB (B0 hz _ _ _)⟩
 | false=>
  have h1:=GD hz R.node m
  have h2:=qQ (withS x (fG x m)) m
  have h3:=yG x (ss:=fG x m) (by
   unfold fG lS iJ
   cases decide (cL x.sess m.2.1 true≥0)with
   | true=>show(List.set _ _ _).length≤_;rw[List.length_set];omega
   | false=>show(x.sess++[_]).length≤_;rw[List.length_append];exact Nat.le_refl _)
  exact⟨h1,by show cnS K38 (AK x m)≤_;unfold AK;omega,Nat.le_refl _,tB (CQ h1 m)⟩
theorem CU{x:NodeT}{m:MsgT}(hz:SzN x)(hm:SzM m)(k:Nat):RecSz x (jH x m k):=by
 have h1:=uR hz k
 have h2:=FJ x k
 have h3:=g9 h1 m
 have h4:=sM (iL x k) m
 unfold jH
 cases m.1==5 with
 | true=>exact⟨h1,by show cnS K38 (iL x k)≤_;omega,Nat.zero_le _,uI⟩
 | false=>
  cases m.1==4 with
  | true=>exact⟨h3,by show cnS K38 (cX (iL x k) m)≤_;omega,Nat.zero_le _,uI⟩
  | false=>exact⟨h3,by show cnS K38 (cX (iL x k) m)≤_;omega,Nat.le_refl _,tB (E3 h3 hm)⟩
theorem lR{x:NodeT}{m:MsgT}(hz:SzN x)(hm:SzM m):RecSz x (nU x m):=by
 unfold nU
 cases ho:fN x m with
 | false=>exact⟨hz,by show cnS K38 x≤_;omega,Nat.zero_le _,uI⟩
 | true=>
  have R:=uC ho
  show RecSz x (mU x m)
  unfold mU
  have h3:=g9 hz m
  have h4:=sM x m
  have h5:=fZ hz m
  have h6:=qQ x m
  cases m.1==0 with
  | true=>exact⟨h3,by show cnS K38 (cX x m)≤_;omega,Nat.le_refl _,tB (B0 h3 _ _ _)⟩
  | false=>
   cases m.1==1 with
   | true=>exact⟨h5,by show cnS K38 (cG x m)≤_;omega,Nat.zero_le _,uI⟩
   | false=>
    cases m.1==2 with
    | true=>exact CS hz hm R
    | false=>
     cases decide (nA x m (m.1==4)<0)with
     | true=>exact⟨hz,by show cnS K38 x≤_;omega,Nat.zero_le _,uI⟩
     | false=>exact CU hz hm _
end Go.Abs.Xz
