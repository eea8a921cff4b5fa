/- For every two states, the law FnExactNewsOf answers true and leaves its arguments as they were. No condition. -/
import Derived.Test.YthgekoledembcaaRows
import Derived.Test.YthgekoledembcaaChecked
import Derived.Test.YthgekoledembcaaXw
import Derived.Test.YthgekoledembcaaXnofq
import Derived.Test.YthgekoledembcaaW2
import Derived.ProofKit
set_option linter.unusedVariables false
namespace Go.Proofs.Ythgekoledembcaa
open Go Go.Abs Go.ChangeShapes Go.WideShapes Go.ChangeAt Go.RowKit
theorem ownNone5 : ownKnob Try.prog.godebug = none := by kernel_rfl
theorem law5 (xs : List Abs.Arg) (h : AsR Go.Abs.Nz.p.ti Try.f5.params.toList xs) : ∃ n, arun Go.Abs.Nz.p n 5 xs = some trueOut := by
  obtain ⟨i0, row0, ys0, h0a, h0b, h0c, h0d⟩ := h
  replace h0a : some (⟨.struct, 2, 48, Go.Abs.Nz.K54, [(0, 22), (1, 52)], 0⟩ : TyI) = some i0 := h0a
  cases h0a
  obtain ⟨i1, row1, ys1, h1a, h1b, h1c, h1d⟩ := h0d
  replace h1a : some (⟨.struct, 2, 48, Go.Abs.Nz.K54, [(0, 22), (1, 52)], 0⟩ : TyI) = some i1 := h1a
  cases h1a
  have e : ys1 = [] := h1d
  subst e
  subst h1b
  subst h0b
  exact ⟨7, Go.Abs.Nz.law_newsOf row0 row1 h0c h1c 7 (Nat.le_refl _)⟩
set_option maxRecDepth 100000 in
theorem lifted5 (os : Os) (started : os.Started) (H : Type) (enc : TypeId × Value → H) :
    ReturnsInHanded {} Try.checked os 5 .any (Rows.fnExactNewsOfSpec.pre6 enc Try.prog Try.f5 Rows.fnExactNewsOfRow.domain false) (Rows.fnExactNewsOfSpec.post enc Try.prog Try.f5 false true false false) := by
  refine returnsInHanded_of_change (C := Try.checked) ownNone5 started (by kernel_rfl) Try.func5
    (ChangeSpec.witness6 (enc := enc) (C := Try.checked) false ⟨#[], #[.agg #[.slice none 0 0, .slice none 0 0], .agg #[.slice none 0 0, .slice none 0 0]], []⟩ 8 (by kernel_rfl) (by kernel_rfl) (by kernel_rfl) (by kernel_rfl)) ?_
  intro W base args ds gs before hval0 hW hcnd _
  refine law_contract (conds := []) (a := {}) (p := Go.Abs.Nz.p) Go.Abs.Nz.prg_ok Go.Abs.Nz.k_ok (fun t ht => ?_) (rt := 4) (by kernel_rfl) Try.underlying4 (by kernel_rfl) rfl (fun ds h => ?_) law5 W base args ds gs before hval0 hW
  · replace ht : t ∈ [54, 54] := ht
    simp only [List.mem_cons, List.not_mem_nil, or_false] at ht
    rcases ht with rfl | rfl
    · exact ⟨⟨.struct, 2, 48, Go.Abs.Nz.K54, [(0, 22), (1, 52)], 0⟩, rfl, rfl⟩
    · exact ⟨⟨.struct, 2, 48, Go.Abs.Nz.K54, [(0, 22), (1, 52)], 0⟩, rfl, rfl⟩
  · replace h : ds.length = 2 := h
    match ds, h with
    | [d0, d1], _ => rfl
theorem holds5 : Rows.FnExactNewsOfSaid :=
  OpenClaim.holds_of_wide 5 Try.f5 rfl rfl rfl rfl rfl rfl rfl ⟨rfl, rfl, rfl, rfl, rfl⟩ rfl rfl rfl rfl rfl jn5 Try.func5 jf5 ji5 jw5
    (fun os started H enc _ => lifted5 os started H enc)
#print axioms holds5
end Go.Proofs.Ythgekoledembcaa
