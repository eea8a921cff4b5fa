/- What the functions of this program answer, part gn. -/
import Derived.Test.YtmamlgjbendjhaaGreatXl
set_option linter.unusedVariables false
namespace Go.Abs.Xz
open Go Go.Abs
theorem BM(s:aM):(c9 s).1.length≤4:=by
 unfold c9;cases bA s with
 | true=>exact Nat.le_refl 4
 | false=>exact Nat.zero_le _
theorem HX(xs:List dS)(h:xs.length≤4611686018427387904):LmT (.sl K141) xs:=⟨h,fun i r _=>⟨trivial,trivial,trivial,trivial,trivial⟩⟩
theorem FW(xs:List kP)(h:xs.length≤4611686018427387904):LmT (.sl K147) xs:=⟨h,fun i r _=>⟨trivial,trivial,trivial,trivial⟩⟩
theorem DH{α:Type}[Inhabited α]{xs:List α}{i:Nat}{r:α}(h:at? xs i=some r):i<xs.length∧gt xs i=r:=by
 have h':xs[i]? =some r:=h
 have:=(List.getElem?_eq_some_iff.1 h').1
 exact⟨this,by rw[eX this];exact(List.getElem?_eq_some_iff.1 h').2⟩
theorem jT{n:Nat}(h:n≤aX):n≤4611686018427387904:=Nat.le_trans h (by decide)
theorem y3(x:NodeT)(h:SzN x):LmR K38 x:=
 ⟨trivial,trivial,AW _ (jT h.state.a),xR _ (jT h.state.b),uG _ (jT h.leaves),trivial,trivial,trivial,
  ⟨jT h.list,fun i r hr=>by obtain⟨h1,h2⟩:=DH (α:=aM) hr;exact h2▸FK _ (h.logs i h1)⟩,uG _ (jT h.got),uG _ (jT h.acked),
  ⟨jT h.seen,fun i r hr=>by obtain⟨h1,h2⟩:=DH (α:=cV) hr;exact⟨uG _ (jT (h2▸h.lines i h1)),trivial⟩⟩,trivial,trivial,HX _ (jT h.sess),trivial,trivial,trivial,FW _ (jT h.rises),trivial⟩
end Go.Abs.Xz
