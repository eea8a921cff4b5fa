/- For every byte slice, the law FnNewsCount answers true and leaves its argument as it was. No condition. -/
import Derived.Test.YtbdgofceanjgpaaRows
import Derived.Test.YtbdgofceanjgpaaChecked
import Derived.Test.YtbdgofceanjgpaaXnc
import Derived.Test.YtbdgofceanjgpaaXncnq
import Derived.Test.YtbdgofceanjgpaaW2
import Derived.ProofKit
set_option linter.unusedVariables false
namespace Go.Proofs.Ytbdgofceanjgpaa
open Go Go.Abs Go.ChangeShapes Go.WideShapes Go.ChangeAt Go.RowKit
theorem ownNone3 : ownKnob Try.prog.godebug = none := by kernel_rfl
theorem law3 (xs : List Abs.Arg) (h : AsR Go.Abs.Pz.p.ti Try.f3.params.toList xs) : ∃ n, arun Go.Abs.Pz.p n 3 xs = some trueOut := by
 obtain ⟨i0, row0, ys0, h0a, h0b, h0c, h0d⟩ := h
 replace h0a : some (⟨.slice, 1, 24, Go.Abs.Pz.K22, [], 5⟩ : TyI) = some i0 := h0a
 cases h0a
 have e : ys0 = [] := h0d
 subst e
 subst h0b
 exact ⟨9, Go.Abs.Pz.law_newsCount row0.1 h0c 9 (Nat.le_refl _)⟩
set_option maxRecDepth 100000 in
theorem lifted3 (os : Os) (started : os.Started) (H : Type) (enc : TypeId × Value → H) :
  ReturnsInHanded {} Try.checked os 3 .any (Rows.fnNewsCountSpec.pre6 enc Try.prog Try.f3 Rows.fnNewsCountRow.domain false) (Rows.fnNewsCountSpec.post enc Try.prog Try.f3 false true false false) := by
 refine returnsInHanded_of_change (C := Try.checked) ownNone3 started (by kernel_rfl) Try.func3
  (ChangeSpec.witness6 (enc := enc) (C := Try.checked) false ⟨#[], #[.slice none 0 0], []⟩ 8 (by kernel_rfl) (by kernel_rfl) (by kernel_rfl) (by kernel_rfl)) ?_
 intro W base args ds gs before hval0 hW hcnd _
 refine law_contract (conds := []) (a := {}) (p := Go.Abs.Pz.p) Go.Abs.Pz.prg_ok Go.Abs.Pz.k_ok (fun t ht => ?_) (rt := 4) (by kernel_rfl) Try.underlying4 (by kernel_rfl) rfl (fun ds h => ?_) law3 W base args ds gs before hval0 hW
 ·replace ht : t ∈ [22] := ht
  simp only [List.mem_cons, List.not_mem_nil, or_false] at ht
  rcases ht with rfl
  ·exact ⟨⟨.slice, 1, 24, Go.Abs.Pz.K22, [], 5⟩, rfl, rfl⟩
 ·replace h : ds.length = 1 := h
  match ds, h with
  | [d0], _ => rfl
theorem holds3 : Rows.FnNewsCountSaid :=
 OpenClaim.holds_of_wide 3 Try.f3 rfl rfl rfl rfl rfl rfl rfl ⟨rfl, rfl, rfl, rfl, rfl⟩ rfl rfl rfl rfl rfl jn3 Try.func3 jf3 ji3 jw3
  (fun os started H enc _ => lifted3 os started H enc)
#print axioms holds3
end Go.Proofs.Ytbdgofceanjgpaa
