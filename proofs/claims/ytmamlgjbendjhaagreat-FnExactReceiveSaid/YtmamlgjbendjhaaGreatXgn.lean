/- What the functions of this program answer, part gn. -/
import Derived.Test.YtmamlgjbendjhaaGreatXl
set_option linter.unusedVariables false
namespace Go.Abs.Xz
open Go Go.Abs
theorem yV(s:aO):(cW s).1.length≤4:=by
 unfold cW;cases aZ s with
 | true=>exact Nat.le_refl 4
 | false=>exact Nat.zero_le _
theorem uW{α:Type}{c:α→Int}{A:Int}:∀ (xs:List α),(∀ x∈xs,c x≤A)→cI c xs≤A*((xs.length:Nat):Int)
 | [],_=>by show(0:Int)≤A*((0:Nat):Int);omega
 | x::xs,h=>by
  have h1:=h x (List.mem_cons_self ..)
  have h2:=uW xs fun y hy=>h y (List.mem_cons_of_mem _ hy)
  show c x+cI c xs≤A*((xs.length+1:Nat):Int)
  rw[Int.natCast_succ,Int.mul_add];omega
theorem E8(xs:List eJ)(h:xs.length≤4611686018427387904):LmT (.sl K141) xs:=⟨h,fun i r _=>⟨trivial,trivial,trivial,trivial,trivial⟩⟩
theorem CQ(xs:List j7)(h:xs.length≤4611686018427387904):LmT (.sl K147) xs:=⟨h,fun i r _=>⟨trivial,trivial,trivial,trivial⟩⟩
theorem EA{α:Type}[Inhabited α]{xs:List α}{i:Nat}{r:α}(h:at? xs i=some r):i<xs.length∧gt xs i=r:=by
 have h':xs[i]? =some r:=h
 have:=(List.getElem?_eq_some_iff.1 h').1
 exact⟨this,by rw[gS this];exact(List.getElem?_eq_some_iff.1 h').2⟩
theorem fW{n:Nat}(h:n≤bA):n≤4611686018427387904:=Nat.le_trans h (by decide)
theorem FO(x:NodeT)(h:SzN x):LmR K38 x:=
 ⟨trivial,trivial,tQ _ (fW h.state.a),nB _ (fW h.state.b),lF _ (fW h.leaves),trivial,trivial,trivial,
  ⟨fW h.list,fun i r hr=>by obtain⟨h1,h2⟩:=EA (α:=aO) hr;exact h2▸CJ _ (h.logs i h1)⟩,lF _ (fW h.got),lF _ (fW h.acked),
  ⟨fW h.seen,fun i r hr=>by obtain⟨h1,h2⟩:=EA (α:=cS) hr;exact⟨lF _ (fW (h2▸h.lines i h1)),trivial⟩⟩,trivial,trivial,E8 _ (fW h.sess),trivial,trivial,trivial,CQ _ (fW h.rises),trivial⟩
end Go.Abs.Xz
