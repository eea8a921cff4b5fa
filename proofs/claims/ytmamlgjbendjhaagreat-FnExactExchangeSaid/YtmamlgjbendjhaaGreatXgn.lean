/- What the functions of this program answer, part gn. -/
import Derived.Test.YtmamlgjbendjhaaGreatXl
set_option linter.unusedVariables false
namespace Go.Abs.Xz
open Go Go.Abs
theorem AE(s:aM):(cZ s).1.length≤4:=by
 unfold cZ;cases aY s with
 | true=>exact Nat.le_refl 4
 | false=>exact Nat.zero_le _
theorem GG(xs:List eO)(h:xs.length≤4611686018427387904):LmT (.sl K141) xs:=⟨h,fun i r _=>⟨trivial,trivial,trivial,trivial,trivial⟩⟩
theorem EC(xs:List kN)(h:xs.length≤4611686018427387904):LmT (.sl K147) xs:=⟨h,fun i r _=>⟨trivial,trivial,trivial,trivial⟩⟩
theorem F2{α:Type}[Inhabited α]{xs:List α}{i:Nat}{r:α}(h:at? xs i=some r):i<xs.length∧gt xs i=r:=by
 have h':xs[i]? =some r:=h
 have:=(List.getElem?_eq_some_iff.1 h').1
 exact⟨this,by rw[iG this];exact(List.getElem?_eq_some_iff.1 h').2⟩
theorem jW{n:Nat}(h:n≤aW):n≤4611686018427387904:=Nat.le_trans h (by decide)
theorem GU(x:NodeT)(h:SzN x):LmR K38 x:=
 ⟨trivial,trivial,zG _ (jW h.state.a),wL _ (jW h.state.b),tE _ (jW h.leaves),trivial,trivial,trivial,
  ⟨jW h.list,fun i r hr=>by obtain⟨h1,h2⟩:=F2 (α:=aM) hr;exact h2▸D4 _ (h.logs i h1)⟩,tE _ (jW h.got),tE _ (jW h.acked),
  ⟨jW h.seen,fun i r hr=>by obtain⟨h1,h2⟩:=F2 (α:=cS) hr;exact⟨tE _ (jW (h2▸h.lines i h1)),trivial⟩⟩,trivial,trivial,GG _ (jW h.sess),trivial,trivial,trivial,EC _ (jW h.rises),trivial⟩
end Go.Abs.Xz
