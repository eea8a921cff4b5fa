/- For every two worlds, the program's JudgeGrown returns what the reference's JudgeGrown returns, and the arguments read afterwards as before; no condition. -/
import Derived.Test.YtcmcnofamieegaaGreatRows
import Derived.Test.YtcmcnofamieegaaGreatChecked
import Derived.Test.YtcmcnofamieegaaGreatXl
import Derived.Test.YtcmcnofamieegaaGreatXjgrq
import Derived.Test.YtcmcnofamieegaaGreatW1
import Derived.ProofKit
set_option linter.unusedVariables false
namespace Go.Proofs.YtcmcnofamieegaaGreat
open Go Go.Abs Go.ChangeShapes Go.WideShapes Go.ChangeAt Go.RowKit
theorem ownNone9 : ownKnob Tryz.prog.godebug = none := by kernel_rfl
theorem law9 (xs : List Abs.Arg) (h : AsR Go.Abs.Vz.p.ti Tryz.f9.params.toList xs) : ∃ n, arun Go.Abs.Vz.p n 9 xs = some trueOut := by
  obtain ⟨i0, row0, ys0, h0a, h0b, h0c, h0d⟩ := h
  replace h0a : some (⟨.struct, 3, 72, Go.Abs.Vz.K26, [(0, 22), (1, 23), (2, 24)], 0⟩ : TyI) = some i0 := h0a
  cases h0a
  obtain ⟨i1, row1, ys1, h1a, h1b, h1c, h1d⟩ := h0d
  replace h1a : some (⟨.struct, 3, 72, Go.Abs.Vz.K26, [(0, 22), (1, 23), (2, 24)], 0⟩ : TyI) = some i1 := h1a
  cases h1a
  have e : ys1 = [] := h1d
  subst e
  subst h1b
  subst h0b
  exact ⟨10, Go.Abs.Vz.law_grown row0 row1 h0c h1c 10 (Nat.le_refl _)⟩
set_option maxRecDepth 100000 in
theorem lifted9 (os : Os) (started : os.Started) (H : Type) (enc : TypeId × Value → H) :
    ReturnsInHanded {} Tryz.checked os 9 .any (Rows.fnExactJudgeGrownSpec.pre6 enc Tryz.prog Tryz.f9 Rows.fnExactJudgeGrownRow.domain false) (Rows.fnExactJudgeGrownSpec.post enc Tryz.prog Tryz.f9 false true false false) := by
  refine returnsInHanded_of_change (C := Tryz.checked) ownNone9 started (by kernel_rfl) Tryz.func9
    (ChangeSpec.witness6 (enc := enc) (C := Tryz.checked) false ⟨#[], #[.agg #[.slice none 0 0, .slice none 0 0, .slice none 0 0], .agg #[.slice none 0 0, .slice none 0 0, .slice none 0 0]], []⟩ 8 (by kernel_rfl) (by kernel_rfl) (by kernel_rfl) (by kernel_rfl)) ?_
  intro W base args ds gs before hval0 hW hcnd _
  refine law_contract (conds := []) (a := {}) (p := Go.Abs.Vz.p) Go.Abs.Vz.prg_ok Go.Abs.Vz.k_ok (fun t ht => ?_) (rt := 4) (by kernel_rfl) Tryz.underlying4 (by kernel_rfl) rfl (fun ds h => ?_) law9 W base args ds gs before hval0 hW
  · replace ht : t ∈ [26, 26] := ht
    simp only [List.mem_cons, List.not_mem_nil, or_false] at ht
    rcases ht with rfl | rfl
    · exact ⟨⟨.struct, 3, 72, Go.Abs.Vz.K26, [(0, 22), (1, 23), (2, 24)], 0⟩, rfl, rfl⟩
    · exact ⟨⟨.struct, 3, 72, Go.Abs.Vz.K26, [(0, 22), (1, 23), (2, 24)], 0⟩, rfl, rfl⟩
  · replace h : ds.length = 2 := h
    match ds, h with
    | [d0, d1], _ => rfl
theorem holds9 : Rows.FnExactJudgeGrownSaid :=
  OpenClaim.holds_of_wide 9 Tryz.f9 rfl rfl rfl rfl rfl rfl rfl ⟨rfl, rfl, rfl, rfl, rfl⟩ rfl rfl rfl rfl rfl jn9 Tryz.func9 jf9 ji9 jw9
    (fun os started H enc _ => lifted9 os started H enc)
#print axioms holds9
end Go.Proofs.YtcmcnofamieegaaGreat
