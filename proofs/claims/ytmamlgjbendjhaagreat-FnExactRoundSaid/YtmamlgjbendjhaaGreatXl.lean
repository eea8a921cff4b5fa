/- What the functions of this program answer, part l. -/
import Derived.Test.YtmamlgjbendjhaaGreatXk
import Derived.Test.YtmamlgjbendjhaaGreatXa
import Derived.Test.YtmamlgjbendjhaaGreatXm
import Derived.Test.YtmamlgjbendjhaaGreatW2
set_option linter.unusedVariables false
namespace Go.Abs.Xz
open Go Go.Abs
theorem AW(xs:List cE)(h:xs.length≤4611686018427387904):LmT (.sl K163) xs:=⟨h,fun i r _=>⟨trivial,trivial,trivial,trivial,trivial,trivial,trivial⟩⟩
theorem xR(xs:List aY)(h:xs.length≤4611686018427387904):LmT (.sl K165) xs:=⟨h,fun i r _=>⟨trivial,trivial,trivial⟩⟩
theorem uG(xs:List bB)(h:xs.length≤4611686018427387904):LmT (.sl K3) xs:=⟨h,fun i r _=>⟨trivial,trivial⟩⟩
theorem GS(xs:List cE):cnT (.sl K163) xs=6*(xs.length:Int):=iY (c:=cnR K163) (n:=6) (fun x=>rfl) xs
theorem EX(xs:List aY):cnT (.sl K165) xs=2*(xs.length:Int):=iY (c:=cnR K165) (n:=2) (fun x=>rfl) xs
theorem uH(xs:List bB):cnT (.sl K3) xs=1*(xs.length:Int):=iY (c:=cnR K3) (n:=1) (fun x=>rfl) xs
theorem FK(s:aM)(h:SzS s):LmR K27 s:=⟨AW s.1 (Nat.le_trans h.1 (by decide)),xR s.2.1 (Nat.le_trans h.2 (by decide)),trivial⟩
end Go.Abs.Xz
