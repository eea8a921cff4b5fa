/- What the functions of this program answer, part n. -/
import Derived.Test.YthgekoledembcaaGreatXl
set_option linter.unusedVariables false
namespace Go.Abs.Gz
open Go Go.Abs
theorem sess_lm (xs : List SessT) (h : xs.length ≤ 4611686018427387904) : LmT (.sl K163) xs := ⟨h, fun i r _ => ⟨trivial, trivial, trivial, trivial, trivial⟩⟩
theorem rises_lm (xs : List RiseT) (h : xs.length ≤ 4611686018427387904) : LmT (.sl K171) xs := ⟨h, fun i r _ => ⟨trivial, trivial, trivial, trivial⟩⟩
theorem at_gt {α : Type} [Inhabited α] {xs : List α} {i : Nat} {r : α} (h : at? xs i = some r) : i < xs.length ∧ gt xs i = r := by
 have h' : xs[i]? = some r := h
 have := (List.getElem?_eq_some_iff.1 h').1
 exact ⟨this, by rw [gt_eq this]; exact (List.getElem?_eq_some_iff.1 h').2⟩
theorem sm_big {n : Nat} (h : n ≤ small) : n ≤ 4611686018427387904 := Nat.le_trans h (by decide)
theorem node_lm (x : NodeT) (h : SzN x) : LmR K73 x :=
 ⟨trivial, trivial, items_lm _ (sm_big h.state.a), floors_lm _ (sm_big h.state.b), nums_lm _ (sm_big h.leaves), trivial, trivial, trivial,
  ⟨sm_big h.list, fun i r hr => by obtain ⟨h1, h2⟩ := at_gt (α := StateT) hr; exact h2 ▸ state_lm _ (h.logs i h1)⟩, nums_lm _ (sm_big h.got), nums_lm _ (sm_big h.acked),
  ⟨sm_big h.seen, fun i r hr => by obtain ⟨h1, h2⟩ := at_gt (α := RowT) hr; exact ⟨nums_lm _ (sm_big (h2 ▸ h.lines i h1)), trivial⟩⟩, trivial, trivial, sess_lm _ (sm_big h.sess), trivial, trivial, trivial, rises_lm _ (sm_big h.rises), trivial⟩
end Go.Abs.Gz
