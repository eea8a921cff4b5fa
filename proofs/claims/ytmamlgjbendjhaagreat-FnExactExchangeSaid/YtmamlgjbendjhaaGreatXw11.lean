/- What the functions of this program answer, part w11. -/
import Derived.Test.YtmamlgjbendjhaaGreatXsc
import Derived.Test.YtmamlgjbendjhaaGreatXm
set_option linter.unusedVariables false
namespace Go.Abs.Xz
open Go Go.Abs
theorem rH(b:Bool):(!(lF b b))=false:=by rw[dQ];rfl
theorem law_exchange(w:Row K72)(a:Int)(b:Int)(ho0:cY K72 w)(ho1:cY K3 (a,()))(ho2:cY K3 (b,())):Ran p 14 11 [.val true ⟨K72,w⟩, .val false ⟨K3,(a,())⟩, .val false ⟨K3,(b,())⟩] sW:=go11 fun n hn=>Ev.now fun aA=>by
 obtain⟨r0,fr0,gr0⟩:=sz37 w 1048576 ho0 (by omega) (by omega)
 unfold T11
 refine(aD (fr0 n (by omega))).trans ?_
 by_cases hr0:r0<0
 ·exact aE hr0
 have hq0:=gr0 (by omega)
 have hs0:=hq0.2
 have hp0:r0+szR K78 w≤1048576:=hq0.1
 have hx0:=c5 K78 w
 have hz0:szR K78 w≤1048576:=by omega
 have hy0:r0≤1048576:=by omega
 refine(aF hr0).trans ?_
 have hc0:cnS K78 w≤67108864:=by have:=FW K78 w (by decide);omega
 have hn0:0≤cnS K78 w:=nD _ _
 have hl0:LmR K78 w:=Small.lm _ _ hs0
 have hz:SzX w:=HU hs0
 have rc0:cnS K78 (exN w a b)≤1000000000000:=by have:=IK w a b hz.toSzW;omega
 have rn0:0≤cnS K78 (exN w a b):=nD _ _
 have rl0:LmR K78 (exN w a b):=IJ w a b hz hl0
 refine(aD (to39 w hs0 n (by omega))).trans ?_
 refine(cH (f65 w a b hz n (by omega))).trans ?_
 refine(aD (to39 w hs0 n (by omega))).trans ?_
 refine(cH (f66 w a b hz n (by omega))).trans ?_
 refine(aD (eq42 (exN w a b) rl0 n (by omega))).trans ?_
 refine(aK rfl).trans ?_
 refine(aK (rH _)).trans ?_
 refine(aD (to39 w hs0 n (by omega))).trans ?_
 refine(aD (eq42 w (Small.lm _ _ hs0) n (by omega))).trans ?_
 refine(aK rfl).trans ?_
 refine(cW (mk44 w (1) (by omega) (by omega) hl0 n (by omega)) _).trans ?_
 refine(aF (show ¬ (1+cnS K78 w<0) by omega)).trans ?_
 refine(aD (eq42 (exN w a b) rl0 n (by omega))).trans ?_
 refine(aK rfl).trans ?_
 refine(aK (rH _)).trans ?_
 refine(cW (mk44 (exN w a b) (1) (by omega) (by omega) rl0 n (by omega)) _).trans ?_
 refine(aD (hd46 (exN w a b) (1) (by omega) (by omega) rl0 n (by omega))).trans ?_
 refine(aF (show ¬ (1+cnS K78 (exN w a b)<0) by omega)).trans ?_
 refine(aK (bne_self_eq_false _)).trans ?_
 refine(aD (to39 w hs0 n (by omega))).trans ?_
 refine(cH (f66 w a b hz n (by omega))).trans ?_
 refine(aD (eq42 (exN w a b) rl0 n (by omega))).trans ?_
 refine(aK rfl).trans ?_
 refine(aK (rH _)).trans ?_
 refine(aD (hd46 (exN w a b) (1) (by omega) (by omega) rl0 n (by omega))).trans ?_
 refine(aF (show ¬ (1+cnS K78 (exN w a b)<0) by omega)).trans ?_
 refine(aK (bne_self_eq_false _)).trans ?_
 rfl
end Go.Abs.Xz
