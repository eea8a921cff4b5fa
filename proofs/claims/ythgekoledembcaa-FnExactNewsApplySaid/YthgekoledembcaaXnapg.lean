/- For every list of items and every list of news, the law FnExactNewsApply answers true and leaves its arguments as they were. No condition. -/
import Derived.Test.YthgekoledembcaaRows
import Derived.Test.YthgekoledembcaaChecked
import Derived.Test.YthgekoledembcaaXw
import Derived.Test.YthgekoledembcaaXnapq
import Derived.Test.YthgekoledembcaaW2
import Derived.ProofKit
set_option linter.unusedVariables false
namespace Go.Proofs.Ythgekoledembcaa
open Go Go.Abs Go.ChangeShapes Go.WideShapes Go.ChangeAt Go.RowKit
theorem ownNone3 : ownKnob Try.prog.godebug = none := by kernel_rfl
theorem law3 (xs : List Abs.Arg) (h : AsR Go.Abs.Nz.p.ti Try.f3.params.toList xs) : ∃ n, arun Go.Abs.Nz.p n 3 xs = some trueOut := by
  obtain ⟨i0, row0, ys0, h0a, h0b, h0c, h0d⟩ := h
  replace h0a : some (⟨.slice, 1, 24, Go.Abs.Nz.K22, [], 63⟩ : TyI) = some i0 := h0a
  cases h0a
  obtain ⟨i1, row1, ys1, h1a, h1b, h1c, h1d⟩ := h0d
  replace h1a : some (⟨.slice, 1, 24, Go.Abs.Nz.K23, [], 66⟩ : TyI) = some i1 := h1a
  cases h1a
  have e : ys1 = [] := h1d
  subst e
  subst h1b
  subst h0b
  exact ⟨4, Go.Abs.Nz.law_newsApply row0.1 row1.1 h0c h1c 4 (Nat.le_refl _)⟩
set_option maxRecDepth 100000 in
theorem lifted3 (os : Os) (started : os.Started) (H : Type) (enc : TypeId × Value → H) :
    ReturnsInHanded {} Try.checked os 3 .any (Rows.fnExactNewsApplySpec.pre6 enc Try.prog Try.f3 Rows.fnExactNewsApplyRow.domain false) (Rows.fnExactNewsApplySpec.post enc Try.prog Try.f3 false true false false) := by
  refine returnsInHanded_of_change (C := Try.checked) ownNone3 started (by kernel_rfl) Try.func3
    (ChangeSpec.witness6 (enc := enc) (C := Try.checked) false ⟨#[], #[.slice none 0 0, .slice none 0 0], []⟩ 8 (by kernel_rfl) (by kernel_rfl) (by kernel_rfl) (by kernel_rfl)) ?_
  intro W base args ds gs before hval0 hW hcnd _
  refine law_contract (conds := []) (a := {}) (p := Go.Abs.Nz.p) Go.Abs.Nz.prg_ok Go.Abs.Nz.k_ok (fun t ht => ?_) (rt := 4) (by kernel_rfl) Try.underlying4 (by kernel_rfl) rfl (fun ds h => ?_) law3 W base args ds gs before hval0 hW
  · replace ht : t ∈ [22, 23] := ht
    simp only [List.mem_cons, List.not_mem_nil, or_false] at ht
    rcases ht with rfl | rfl
    · exact ⟨⟨.slice, 1, 24, Go.Abs.Nz.K22, [], 63⟩, rfl, rfl⟩
    · exact ⟨⟨.slice, 1, 24, Go.Abs.Nz.K23, [], 66⟩, rfl, rfl⟩
  · replace h : ds.length = 2 := h
    match ds, h with
    | [d0, d1], _ => rfl
theorem holds3 : Rows.FnExactNewsApplySaid :=
  OpenClaim.holds_of_wide 3 Try.f3 rfl rfl rfl rfl rfl rfl rfl ⟨rfl, rfl, rfl, rfl, rfl⟩ rfl rfl rfl rfl rfl jn3 Try.func3 jf3 ji3 jw3
    (fun os started H enc _ => lifted3 os started H enc)
#print axioms holds3
end Go.Proofs.Ythgekoledembcaa
