/- What the functions of this program answer, part w10. -/
import Derived.Test.YtmamlgjbendjhaaGreatXeu
import Derived.Test.YtmamlgjbendjhaaGreatXm
set_option linter.unusedVariables false
namespace Go.Abs.Xz
open Go Go.Abs
theorem law_receiveBytes(x:Row K97)(b:List (Row K5))(ho0:eB K97 x)(ho1:eB K22 (b,())):Ran p 13 10 [va K97 x, vf K22 (b,())] xE:=go10 fun n hn=>Ev.now fun aA=>by
 unfold T10
 by_cases hb1:(b.length:Int)>1048576
 ·exact cB hb1
 refine(aW hb1).trans ?_
 have hz1:szR K22 (b,())<=1048576:=by show(b.length:Int)+cJ (szR K5) b+0<=1048576;rw[kX (c:=szR K5) (fun x=>rfl) b];omega
 have hs1:Small K22 (b,()):=ssm (by unfold aQ;omega) fun i r _=>⟨trivial,trivial⟩
 obtain⟨r0,fr0,gr0⟩:=sz47 x 1048576 ho0 (by omega) (by omega)
 refine(aJ (fr0 n (by omega))).trans ?_
 by_cases hr0:r0<0
 ·exact cB hr0
 have hq0:=gr0 (by omega)
 have hs0:=hq0.2
 have hp0:r0+szR K38 x<=1048576:=hq0.1
 have hx0:=eQ K38 x
 have hz0:szR K38 x<=1048576:=by omega
 have hy0:r0<=1048576:=by omega
 refine(aW hr0).trans ?_
 have hc0:cnS K38 x<=67108864:=by have:=M5 K38 x (by decide);omega
 have hn0:0<=cnS K38 x:=sK _ _
 have hl0:LmR K38 x:=Small.lm _ _ hs0
 have hc1:cnT (.sl K5) b<=67108864:=by have e1:szR K22 (b,())=szT (.sl K5) b+0:=rfl;have:=GZ (.sl K5) b (by decide);rw[e1] at hz1;have e2:(bif iE (.sl K5)then(1:Int)else 0)=0:=rfl;rw[e2] at this;omega
 have hn1:0<=cnT (.sl K5) b:=c9 _ _
 have hl1:LmT (.sl K5) b:=TSm.lm _ _ (shd hs1)
 have hz:SzN x:=P0 hs0
 have hb8:B8 b:=RK ho1
 have hbl:b.length<=aQ:=by unfold aQ;omega
 have rs:=DW hz b
 have rc0:cnS K38 ((bM x b).1)<=1000000000000:=by have:=rs.cn;omega
 have rn0:0<=cnS K38 ((bM x b).1):=sK _ _
 have rl0:LmR K38 ((bM x b).1):=OQ _ rs.node
 have rc1:cnT (.sl K22) ((bM x b).2.1)<=1000000000000:=by have:=NE rs.len rs.row;omega
 have rn1:0<=cnT (.sl K22) ((bM x b).2.1):=c9 _ _
 have rl1:LmT (.sl K22) ((bM x b).2.1):=ND rs.len rs.row
 refine(aJ (to49 x hs0 n (by omega))).trans ?_
 refine(aJ (to59 b hs1 n (by omega))).trans ?_
 refine(oX (f34 x b hz hb8 hbl n (by omega))).trans ?_
 refine(aJ (to49 x hs0 n (by omega))).trans ?_
 refine(aJ (to59 b hs1 n (by omega))).trans ?_
 refine(oX (f33 x b hz hb8 hbl n (by omega))).trans ?_
 refine(aJ (eq51 ((bM x b).1) rl0 n (by omega))).trans ?_
 refine(dH rfl).trans ?_
 refine(aJ (eq60 ((bM x b).2.1) (lmk rl1 trivial) n (by omega))).trans ?_
 refine(dH rfl).trans ?_
 refine(dH (bne_self_eq_false _)).trans ?_
 refine(aJ (to49 x hs0 n (by omega))).trans ?_
 refine(aJ (eq51 x (Small.lm _ _ hs0) n (by omega))).trans ?_
 refine(dH rfl).trans ?_
 refine(aJ (to59 b hs1 n (by omega))).trans ?_
 refine(aJ (eq61 b (Small.lm _ _ hs1) n (by omega))).trans ?_
 refine(dH rfl).trans ?_
 refine(dD (mk54 x (1) (by omega) (by omega) hl0 n (by omega)) _).trans ?_
 refine(dD (mk62 b (1+cnS K38 x) (by omega) (by omega) hl1 n (by omega)) _).trans ?_
 refine(aW (show ¬ (1+cnS K38 x+cnT (.sl K5) b<0) by omega)).trans ?_
 refine(aJ (eq51 ((bM x b).1) rl0 n (by omega))).trans ?_
 refine(dH rfl).trans ?_
 refine(aJ (eq60 ((bM x b).2.1) (lmk rl1 trivial) n (by omega))).trans ?_
 refine(dH rfl).trans ?_
 refine(dH (bne_self_eq_false _)).trans ?_
 refine(dD (mk54 ((bM x b).1) (1) (by omega) (by omega) rl0 n (by omega)) _).trans ?_
 refine(dD (mk63 ((bM x b).2.1) (1+cnS K38 ((bM x b).1)) (by omega) (by omega) rl1 n (by omega)) _).trans ?_
 refine(aJ (hd57 ((bM x b).1) (1) (by omega) (by omega) rl0 n (by omega))).trans ?_
 refine(aW (show ¬ (1+cnS K38 ((bM x b).1)<0) by omega)).trans ?_
 refine(aJ (hd64 ((bM x b).2.1) (1+cnS K38 ((bM x b).1)) (by omega) (by omega) rl1 n (by omega))).trans ?_
 refine(aW (show ¬ (1+cnS K38 ((bM x b).1)+cnT (.sl K22) ((bM x b).2.1)<0) by omega)).trans ?_
 refine(dH (bne_self_eq_false _)).trans ?_
 refine(aJ (to49 x hs0 n (by omega))).trans ?_
 refine(aJ (to59 b hs1 n (by omega))).trans ?_
 refine(oX (f33 x b hz hb8 hbl n (by omega))).trans ?_
 refine(aJ (eq51 ((bM x b).1) rl0 n (by omega))).trans ?_
 refine(dH rfl).trans ?_
 refine(aJ (eq60 ((bM x b).2.1) (lmk rl1 trivial) n (by omega))).trans ?_
 refine(dH rfl).trans ?_
 refine(dH (bne_self_eq_false _)).trans ?_
 refine(aJ (hd57 ((bM x b).1) (1) (by omega) (by omega) rl0 n (by omega))).trans ?_
 refine(aW (show ¬ (1+cnS K38 ((bM x b).1)<0) by omega)).trans ?_
 refine(aJ (hd64 ((bM x b).2.1) (1+cnS K38 ((bM x b).1)) (by omega) (by omega) rl1 n (by omega))).trans ?_
 refine(aW (show ¬ (1+cnS K38 ((bM x b).1)+cnT (.sl K22) ((bM x b).2.1)<0) by omega)).trans ?_
 refine(dH (bne_self_eq_false _)).trans ?_
 rfl
end Go.Abs.Xz
