/- For every world, the program's JudgeAll returns what the reference's JudgeAll returns, and the world reads afterwards as before; no condition. -/
import Derived.Test.YtcmcnofamieegaaGreatRows
import Derived.Test.YtcmcnofamieegaaGreatChecked
import Derived.Test.YtcmcnofamieegaaGreatXl
import Derived.Test.YtcmcnofamieegaaGreatXjalq
import Derived.Test.YtcmcnofamieegaaGreatW1
import Derived.ProofKit
set_option linter.unusedVariables false
namespace Go.Proofs.YtcmcnofamieegaaGreat
open Go Go.Abs Go.ChangeShapes Go.WideShapes Go.ChangeAt Go.RowKit
theorem ownNone11 : ownKnob Tryz.prog.godebug = none := by kernel_rfl
theorem law11 (xs : List Abs.Arg) (h : AsR Go.Abs.Vz.p.ti Tryz.f11.params.toList xs) : ∃ n, arun Go.Abs.Vz.p n 11 xs = some trueOut := by
  obtain ⟨i0, row0, ys0, h0a, h0b, h0c, h0d⟩ := h
  replace h0a : some (⟨.struct, 3, 72, Go.Abs.Vz.K26, [(0, 22), (1, 23), (2, 24)], 0⟩ : TyI) = some i0 := h0a
  cases h0a
  have e : ys0 = [] := h0d
  subst e
  subst h0b
  exact ⟨13, Go.Abs.Vz.law_judgeAll row0 h0c 13 (Nat.le_refl _)⟩
set_option maxRecDepth 100000 in
theorem lifted11 (os : Os) (started : os.Started) (H : Type) (enc : TypeId × Value → H) :
    ReturnsInHanded {} Tryz.checked os 11 .any (Rows.fnExactJudgeAllSpec.pre6 enc Tryz.prog Tryz.f11 Rows.fnExactJudgeAllRow.domain false) (Rows.fnExactJudgeAllSpec.post enc Tryz.prog Tryz.f11 false true false false) := by
  refine returnsInHanded_of_change (C := Tryz.checked) ownNone11 started (by kernel_rfl) Tryz.func11
    (ChangeSpec.witness6 (enc := enc) (C := Tryz.checked) false ⟨#[], #[.agg #[.slice none 0 0, .slice none 0 0, .slice none 0 0]], []⟩ 8 (by kernel_rfl) (by kernel_rfl) (by kernel_rfl) (by kernel_rfl)) ?_
  intro W base args ds gs before hval0 hW hcnd _
  refine law_contract (conds := []) (a := {}) (p := Go.Abs.Vz.p) Go.Abs.Vz.prg_ok Go.Abs.Vz.k_ok (fun t ht => ?_) (rt := 4) (by kernel_rfl) Tryz.underlying4 (by kernel_rfl) rfl (fun ds h => ?_) law11 W base args ds gs before hval0 hW
  · replace ht : t ∈ [26] := ht
    simp only [List.mem_cons, List.not_mem_nil, or_false] at ht
    rcases ht with rfl
    · exact ⟨⟨.struct, 3, 72, Go.Abs.Vz.K26, [(0, 22), (1, 23), (2, 24)], 0⟩, rfl, rfl⟩
  · replace h : ds.length = 1 := h
    match ds, h with
    | [d0], _ => rfl
theorem holds11 : Rows.FnExactJudgeAllSaid :=
  OpenClaim.holds_of_wide 11 Tryz.f11 rfl rfl rfl rfl rfl rfl rfl ⟨rfl, rfl, rfl, rfl, rfl⟩ rfl rfl rfl rfl rfl jn11 Tryz.func11 jf11 ji11 jw11
    (fun os started H enc _ => lifted11 os started H enc)
#print axioms holds11
end Go.Proofs.YtcmcnofamieegaaGreat
