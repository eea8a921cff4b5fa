/- What the functions of this program answer, part l. -/
import Derived.Test.YtmamlgjbendjhaaGreatXk
import Derived.Test.YtmamlgjbendjhaaGreatXa
import Derived.Test.YtmamlgjbendjhaaGreatXm
import Derived.Test.YtmamlgjbendjhaaGreatW2
set_option linter.unusedVariables false
namespace Go.Abs.Xz
open Go Go.Abs
theorem I8(xs:List bM):cnT (.sl K163) xs=6*((xs.length:Nat):Int):=iU (c:=cnR K163) (n:=6) (fun x=>rfl) xs
theorem GU(xs:List aR):cnT (.sl K165) xs=2*((xs.length:Nat):Int):=iU (c:=cnR K165) (n:=2) (fun x=>rfl) xs
theorem uL(xs:List aX):cnT (.sl K3) xs=1*((xs.length:Nat):Int):=iU (c:=cnR K3) (n:=1) (fun x=>rfl) xs
end Go.Abs.Xz
