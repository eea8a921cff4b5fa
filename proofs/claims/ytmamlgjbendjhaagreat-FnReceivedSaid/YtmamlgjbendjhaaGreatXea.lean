/- What the functions of this program answer, part ea. -/
import Derived.Test.YtmamlgjbendjhaaGreatXdj
import Derived.Test.YtmamlgjbendjhaaGreatXns
import Derived.Test.YtmamlgjbendjhaaGreatXrg
set_option linter.unusedVariables false
namespace Go.Abs.Xz
open Go Go.Abs
structure Ticked (x:NodeT) (k:Nat) (y:NodeT):Prop where
 ok:NodeOk y
 id:y.1=x.1
 n:y.2.1=x.2.1
 num:y.num=x.num
 wait:y.wait=x.wait
 clock:y.clock=x.clock+((k:Nat):Int)
 age:∀ s∈y.sess,((k:Nat):Int)≤s.2.2.2.1
end Go.Abs.Xz
