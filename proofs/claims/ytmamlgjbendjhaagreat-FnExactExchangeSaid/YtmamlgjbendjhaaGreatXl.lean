/- What the functions of this program answer, part l. -/
import Derived.Test.YtmamlgjbendjhaaGreatXk
import Derived.Test.YtmamlgjbendjhaaGreatXa
import Derived.Test.YtmamlgjbendjhaaGreatXm
import Derived.Test.YtmamlgjbendjhaaGreatW2
set_option linter.unusedVariables false
namespace Go.Abs.Xz
open Go Go.Abs
theorem zG(xs:List cB)(h:xs.length≤4611686018427387904):LmT (.sl K163) xs:=⟨h,fun i r _=>⟨trivial,trivial,trivial,trivial,trivial,trivial,trivial⟩⟩
theorem wL(xs:List aV)(h:xs.length≤4611686018427387904):LmT (.sl K165) xs:=⟨h,fun i r _=>⟨trivial,trivial,trivial⟩⟩
theorem tE(xs:List aZ)(h:xs.length≤4611686018427387904):LmT (.sl K3) xs:=⟨h,fun i r _=>⟨trivial,trivial⟩⟩
theorem FB(xs:List cB):cnT (.sl K163) xs=6*((xs.length:Nat):Int):=iM (c:=cnR K163) (n:=6) (fun x=>rfl) xs
theorem DM(xs:List aV):cnT (.sl K165) xs=2*((xs.length:Nat):Int):=iM (c:=cnR K165) (n:=2) (fun x=>rfl) xs
theorem tF(xs:List aZ):cnT (.sl K3) xs=1*((xs.length:Nat):Int):=iM (c:=cnR K3) (n:=1) (fun x=>rfl) xs
theorem D4(s:aM)(h:SzS s):LmR K27 s:=⟨zG s.1 (Nat.le_trans h.1 (by decide)),wL s.2.1 (Nat.le_trans h.2 (by decide)),trivial⟩
end Go.Abs.Xz
