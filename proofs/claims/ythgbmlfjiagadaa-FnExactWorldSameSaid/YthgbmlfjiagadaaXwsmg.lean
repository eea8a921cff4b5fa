/- For every two worlds, the program's WorldSame returns what the reference's WorldSame returns, and the arguments read afterwards as before; no condition. -/
import Derived.Test.YthgbmlfjiagadaaRows
import Derived.Test.YthgbmlfjiagadaaChecked
import Derived.Test.YthgbmlfjiagadaaXl
import Derived.Test.YthgbmlfjiagadaaXwsmq
import Derived.Test.YthgbmlfjiagadaaW1
import Derived.ProofKit
set_option linter.unusedVariables false
namespace Go.Proofs.Ythgbmlfjiagadaa
open Go Go.Abs Go.ChangeShapes Go.WideShapes Go.ChangeAt Go.RowKit
theorem ownNone6 : ownKnob Try.prog.godebug = none := by kernel_rfl
theorem law6 (xs : List Abs.Arg) (h : AsR Go.Abs.Uz.p.ti Try.f6.params.toList xs) : ∃ n, arun Go.Abs.Uz.p n 6 xs = some trueOut := by
  obtain ⟨i0, row0, ys0, h0a, h0b, h0c, h0d⟩ := h
  replace h0a : some (⟨.struct, 3, 72, Go.Abs.Uz.K64, [(0, 60), (1, 61), (2, 62)], 0⟩ : TyI) = some i0 := h0a
  cases h0a
  obtain ⟨i1, row1, ys1, h1a, h1b, h1c, h1d⟩ := h0d
  replace h1a : some (⟨.struct, 3, 72, Go.Abs.Uz.K64, [(0, 60), (1, 61), (2, 62)], 0⟩ : TyI) = some i1 := h1a
  cases h1a
  have e : ys1 = [] := h1d
  subst e
  subst h1b
  subst h0b
  exact ⟨10, Go.Abs.Uz.law_same row0 row1 h0c h1c 10 (Nat.le_refl _)⟩
set_option maxRecDepth 100000 in
theorem lifted6 (os : Os) (started : os.Started) (H : Type) (enc : TypeId × Value → H) :
    ReturnsInHanded {} Try.checked os 6 .any (Rows.fnExactWorldSameSpec.pre6 enc Try.prog Try.f6 Rows.fnExactWorldSameRow.domain false) (Rows.fnExactWorldSameSpec.post enc Try.prog Try.f6 false true false false) := by
  refine returnsInHanded_of_change (C := Try.checked) ownNone6 started (by kernel_rfl) Try.func6
    (ChangeSpec.witness6 (enc := enc) (C := Try.checked) false ⟨#[], #[.agg #[.slice none 0 0, .slice none 0 0, .slice none 0 0], .agg #[.slice none 0 0, .slice none 0 0, .slice none 0 0]], []⟩ 8 (by kernel_rfl) (by kernel_rfl) (by kernel_rfl) (by kernel_rfl)) ?_
  intro W base args ds gs before hval0 hW hcnd _
  refine law_contract (conds := []) (a := {}) (p := Go.Abs.Uz.p) Go.Abs.Uz.prg_ok Go.Abs.Uz.k_ok (fun t ht => ?_) (rt := 4) (by kernel_rfl) Try.underlying4 (by kernel_rfl) rfl (fun ds h => ?_) law6 W base args ds gs before hval0 hW
  · replace ht : t ∈ [64, 64] := ht
    simp only [List.mem_cons, List.not_mem_nil, or_false] at ht
    rcases ht with rfl | rfl
    · exact ⟨⟨.struct, 3, 72, Go.Abs.Uz.K64, [(0, 60), (1, 61), (2, 62)], 0⟩, rfl, rfl⟩
    · exact ⟨⟨.struct, 3, 72, Go.Abs.Uz.K64, [(0, 60), (1, 61), (2, 62)], 0⟩, rfl, rfl⟩
  · replace h : ds.length = 2 := h
    match ds, h with
    | [d0, d1], _ => rfl
theorem holds6 : Rows.FnExactWorldSameSaid :=
  OpenClaim.holds_of_wide 6 Try.f6 rfl rfl rfl rfl rfl rfl rfl ⟨rfl, rfl, rfl, rfl, rfl⟩ rfl rfl rfl rfl rfl jn6 Try.func6 jf6 ji6 jw6
    (fun os started H enc _ => lifted6 os started H enc)
#print axioms holds6
end Go.Proofs.Ythgbmlfjiagadaa
