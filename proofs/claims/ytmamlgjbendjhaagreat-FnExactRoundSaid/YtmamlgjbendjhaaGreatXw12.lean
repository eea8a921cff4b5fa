/- What the functions of this program answer, part w12. -/
import Derived.Test.YtmamlgjbendjhaaGreatXek
import Derived.Test.YtmamlgjbendjhaaGreatXm
set_option linter.unusedVariables false
namespace Go.Abs.Xz
open Go Go.Abs
theorem law_round(w:Row K72)(ho0:dE K72 w):Ran p 16 12 [va K72 w] t8:=go12 fun n hn=>Ev.now fun aA=>by
 obtain⟨r0,fr0,gr0⟩:=sz37 w 1048576 ho0 (by omega) (by omega)
 unfold T12
 refine(aC (fr0 n (by omega))).trans ?_
 by_cases hr0:r0<0
 ·exact aE hr0
 have hq0:=gr0 (by omega)
 have hs0:=hq0.2
 have hp0:r0+szR K78 w≤1048576:=hq0.1
 have hx0:=dA K78 w
 have hz0:szR K78 w≤1048576:=by omega
 have hy0:r0≤1048576:=by omega
 refine(aF hr0).trans ?_
 have hc0:cnS K78 w≤67108864:=by have:=HD K78 w (by decide);omega
 have hn0:0≤cnS K78 w:=nU _ _
 have hl0:LmR K78 w:=Small.lm _ _ hs0
 have hz:SzX w:=JK hs0
 have rc0:cnS K78 (eJ w)≤1000000000000:=by have:=FU w hz;omega
 have rn0:0≤cnS K78 (eJ w):=nU _ _
 have rl0:LmR K78 (eJ w):=FT w hz hl0
 refine(aC (to39 w hs0 n (by omega))).trans ?_
 refine(aC (f67 w hz n (by omega))).trans ?_
 refine(aC (to39 w hs0 n (by omega))).trans ?_
 refine(aC (f68 w hz n (by omega))).trans ?_
 refine(aC (eq42 (eJ w) rl0 n (by omega))).trans ?_
 refine(aL rfl).trans ?_
 refine(aC (to39 w hs0 n (by omega))).trans ?_
 refine(aC (eq42 w (Small.lm _ _ hs0) n (by omega))).trans ?_
 refine(aL rfl).trans ?_
 refine(c6 (mk44 w (1) (by omega) (by omega) hl0 n (by omega)) _).trans ?_
 refine(aF (show ¬ (1+cnS K78 w<0) by omega)).trans ?_
 refine(aC (eq42 (eJ w) rl0 n (by omega))).trans ?_
 refine(aL rfl).trans ?_
 refine(c6 (mk44 (eJ w) (1) (by omega) (by omega) rl0 n (by omega)) _).trans ?_
 refine(aC (hd46 (eJ w) (1) (by omega) (by omega) rl0 n (by omega))).trans ?_
 refine(aF (show ¬ (1+cnS K78 (eJ w)<0) by omega)).trans ?_
 refine(aL (bne_self_eq_false _)).trans ?_
 refine(aC (to39 w hs0 n (by omega))).trans ?_
 refine(aC (f68 w hz n (by omega))).trans ?_
 refine(aC (eq42 (eJ w) rl0 n (by omega))).trans ?_
 refine(aL rfl).trans ?_
 refine(aC (hd46 (eJ w) (1) (by omega) (by omega) rl0 n (by omega))).trans ?_
 refine(aF (show ¬ (1+cnS K78 (eJ w)<0) by omega)).trans ?_
 refine(aL (bne_self_eq_false _)).trans ?_
 rfl
end Go.Abs.Xz
