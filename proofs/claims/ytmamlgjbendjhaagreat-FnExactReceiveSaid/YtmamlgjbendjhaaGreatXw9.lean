/- What the functions of this program answer, part w9. -/
import Derived.Test.YtmamlgjbendjhaaGreatXrh
import Derived.Test.YtmamlgjbendjhaaGreatXm
set_option linter.unusedVariables false
namespace Go.Abs.Xz
open Go Go.Abs
theorem law_receive(x:Row K97)(m:Row K100)(ho0:dI K97 x)(ho1:dI K100 m):Ran p 12 9 [.val true ⟨K97,x⟩, .val true ⟨K100,m⟩] rU:=go9 fun n hn=>Ev.now fun aA=>by
 obtain⟨r0,fr0,gr0⟩:=sz47 x 1048576 ho0 (by omega) (by omega)
 unfold T9
 refine(aD (fr0 n (by omega))).trans ?_
 by_cases hr0:r0<0
 ·exact aF hr0
 have hq0:=gr0 (by omega)
 have hs0:=hq0.2
 have hp0:r0+szR K38 x≤1048576:=hq0.1
 have hx0:=c8 K38 x
 have hz0:szR K38 x≤1048576:=by omega
 have hy0:r0≤1048576:=by omega
 refine(aH hr0).trans ?_
 obtain⟨r1,fr1,gr1⟩:=sz48 m r0 ho1 (by omega) (by omega)
 refine(aD (fr1 n (by omega))).trans ?_
 by_cases hr1:r1<0
 ·exact aF hr1
 have hq1:=gr1 (by omega)
 have hs1:=hq1.2
 have hp1:r1+szR K43 m≤r0:=hq1.1
 have hx1:=c8 K43 m
 have hz1:szR K43 m≤1048576:=by omega
 have hy1:r1≤1048576:=by omega
 refine(aH hr1).trans ?_
 have hc0:cnS K38 x≤67108864:=by have:=zN K38 x (by decide);omega
 have hn0:0≤cnS K38 x:=mQ _ _
 have hl0:LmR K38 x:=Small.lm _ _ hs0
 have hc1:cnS K43 m≤67108864:=by have:=zN K43 m (by decide);omega
 have hn1:0≤cnS K43 m:=mQ _ _
 have hl1:LmR K43 m:=Small.lm _ _ hs1
 have hz:SzN x:=GY hs0
 have hm:SzM m:=GZ hs1
 have rs:=FA hz hm
 have rc0:cnS K38 ((eT x m).1)≤1000000000000:=by have:=rs.cn;omega
 have rn0:0≤cnS K38 ((eT x m).1):=mQ _ _
 have rl0:LmR K38 ((eT x m).1):=FO _ rs.node
 have rc1:cnT (.sl K43) ((eT x m).2.1)≤1000000000000:=by have:=FQ rs.len rs.msg;omega
 have rn1:0≤cnT (.sl K43) ((eT x m).2.1):=bM _ _
 have rl1:LmT (.sl K43) ((eT x m).2.1):=FP rs.len rs.msg
 refine(aD (to49 x hs0 n (by omega))).trans ?_
 refine(aD (to50 m hs1 n (by omega))).trans ?_
 refine(lQ (f27 x m hz hm n (by omega))).trans ?_
 refine(aD (to49 x hs0 n (by omega))).trans ?_
 refine(aD (to50 m hs1 n (by omega))).trans ?_
 refine(lQ (f22 x m hz hm n (by omega))).trans ?_
 refine(aD (eq51 ((eT x m).1) rl0 n (by omega))).trans ?_
 refine(aN rfl).trans ?_
 refine(aD (eq52 ((eT x m).2.1) (lmk rl1 trivial) n (by omega))).trans ?_
 refine(aN rfl).trans ?_
 refine(aN (bne_self_eq_false _)).trans ?_
 refine(aD (to49 x hs0 n (by omega))).trans ?_
 refine(aD (eq51 x (Small.lm _ _ hs0) n (by omega))).trans ?_
 refine(aN rfl).trans ?_
 refine(aD (to50 m hs1 n (by omega))).trans ?_
 refine(aD (eq53 m (Small.lm _ _ hs1) n (by omega))).trans ?_
 refine(aN rfl).trans ?_
 refine(bU (mk54 x (1) (by omega) (by omega) hl0 n (by omega)) _).trans ?_
 refine(bU (mk55 m (1+cnS K38 x) (by omega) (by omega) hl1 n (by omega)) _).trans ?_
 refine(aH (show ¬ (1+cnS K38 x+cnS K43 m<0) by omega)).trans ?_
 refine(aD (eq51 ((eT x m).1) rl0 n (by omega))).trans ?_
 refine(aN rfl).trans ?_
 refine(aD (eq52 ((eT x m).2.1) (lmk rl1 trivial) n (by omega))).trans ?_
 refine(aN rfl).trans ?_
 refine(aN (bne_self_eq_false _)).trans ?_
 refine(bU (mk54 ((eT x m).1) (1) (by omega) (by omega) rl0 n (by omega)) _).trans ?_
 refine(bU (mk56 ((eT x m).2.1) (1+cnS K38 ((eT x m).1)) (by omega) (by omega) rl1 n (by omega)) _).trans ?_
 refine(aD (hd57 ((eT x m).1) (1) (by omega) (by omega) rl0 n (by omega))).trans ?_
 refine(aH (show ¬ (1+cnS K38 ((eT x m).1)<0) by omega)).trans ?_
 refine(aD (hd58 ((eT x m).2.1) (1+cnS K38 ((eT x m).1)) (by omega) (by omega) rl1 n (by omega))).trans ?_
 refine(aH (show ¬ (1+cnS K38 ((eT x m).1)+cnT (.sl K43) ((eT x m).2.1)<0) by omega)).trans ?_
 refine(aN (bne_self_eq_false _)).trans ?_
 refine(aD (to49 x hs0 n (by omega))).trans ?_
 refine(aD (to50 m hs1 n (by omega))).trans ?_
 refine(lQ (f22 x m hz hm n (by omega))).trans ?_
 refine(aD (eq51 ((eT x m).1) rl0 n (by omega))).trans ?_
 refine(aN rfl).trans ?_
 refine(aD (eq52 ((eT x m).2.1) (lmk rl1 trivial) n (by omega))).trans ?_
 refine(aN rfl).trans ?_
 refine(aN (bne_self_eq_false _)).trans ?_
 refine(aD (hd57 ((eT x m).1) (1) (by omega) (by omega) rl0 n (by omega))).trans ?_
 refine(aH (show ¬ (1+cnS K38 ((eT x m).1)<0) by omega)).trans ?_
 refine(aD (hd58 ((eT x m).2.1) (1+cnS K38 ((eT x m).1)) (by omega) (by omega) rl1 n (by omega))).trans ?_
 refine(aH (show ¬ (1+cnS K38 ((eT x m).1)+cnT (.sl K43) ((eT x m).2.1)<0) by omega)).trans ?_
 refine(aN (bne_self_eq_false _)).trans ?_
 rfl
end Go.Abs.Xz
