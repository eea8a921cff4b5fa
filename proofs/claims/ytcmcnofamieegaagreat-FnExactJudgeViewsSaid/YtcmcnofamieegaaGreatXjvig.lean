/- For every world, the program's JudgeViews returns what the reference's JudgeViews returns, and the world reads afterwards as before; no condition. -/
import Derived.Test.YtcmcnofamieegaaGreatRows
import Derived.Test.YtcmcnofamieegaaGreatChecked
import Derived.Test.YtcmcnofamieegaaGreatXl
import Derived.Test.YtcmcnofamieegaaGreatXjviq
import Derived.Test.YtcmcnofamieegaaGreatW1
import Derived.ProofKit
set_option linter.unusedVariables false
namespace Go.Proofs.YtcmcnofamieegaaGreat
open Go Go.Abs Go.ChangeShapes Go.WideShapes Go.ChangeAt Go.RowKit
theorem ownNone10 : ownKnob Tryz.prog.godebug = none := by kernel_rfl
theorem law10 (xs : List Abs.Arg) (h : AsR Go.Abs.Vz.p.ti Tryz.f10.params.toList xs) : ∃ n, arun Go.Abs.Vz.p n 10 xs = some trueOut := by
  obtain ⟨i0, row0, ys0, h0a, h0b, h0c, h0d⟩ := h
  replace h0a : some (⟨.struct, 3, 72, Go.Abs.Vz.K26, [(0, 22), (1, 23), (2, 24)], 0⟩ : TyI) = some i0 := h0a
  cases h0a
  have e : ys0 = [] := h0d
  subst e
  subst h0b
  exact ⟨12, Go.Abs.Vz.law_judgeViews row0 h0c 12 (Nat.le_refl _)⟩
set_option maxRecDepth 100000 in
theorem lifted10 (os : Os) (started : os.Started) (H : Type) (enc : TypeId × Value → H) :
    ReturnsInHanded {} Tryz.checked os 10 .any (Rows.fnExactJudgeViewsSpec.pre6 enc Tryz.prog Tryz.f10 Rows.fnExactJudgeViewsRow.domain false) (Rows.fnExactJudgeViewsSpec.post enc Tryz.prog Tryz.f10 false true false false) := by
  refine returnsInHanded_of_change (C := Tryz.checked) ownNone10 started (by kernel_rfl) Tryz.func10
    (ChangeSpec.witness6 (enc := enc) (C := Tryz.checked) false ⟨#[], #[.agg #[.slice none 0 0, .slice none 0 0, .slice none 0 0]], []⟩ 8 (by kernel_rfl) (by kernel_rfl) (by kernel_rfl) (by kernel_rfl)) ?_
  intro W base args ds gs before hval0 hW hcnd _
  refine law_contract (conds := []) (a := {}) (p := Go.Abs.Vz.p) Go.Abs.Vz.prg_ok Go.Abs.Vz.k_ok (fun t ht => ?_) (rt := 4) (by kernel_rfl) Tryz.underlying4 (by kernel_rfl) rfl (fun ds h => ?_) law10 W base args ds gs before hval0 hW
  · replace ht : t ∈ [26] := ht
    simp only [List.mem_cons, List.not_mem_nil, or_false] at ht
    rcases ht with rfl
    · exact ⟨⟨.struct, 3, 72, Go.Abs.Vz.K26, [(0, 22), (1, 23), (2, 24)], 0⟩, rfl, rfl⟩
  · replace h : ds.length = 1 := h
    match ds, h with
    | [d0], _ => rfl
theorem holds10 : Rows.FnExactJudgeViewsSaid :=
  OpenClaim.holds_of_wide 10 Tryz.f10 rfl rfl rfl rfl rfl rfl rfl ⟨rfl, rfl, rfl, rfl, rfl⟩ rfl rfl rfl rfl rfl jn10 Tryz.func10 jf10 ji10 jw10
    (fun os started H enc _ => lifted10 os started H enc)
#print axioms holds10
end Go.Proofs.YtcmcnofamieegaaGreat
