/- For every world, the program's JudgeOwn returns what the reference's JudgeOwn returns, and the world reads afterwards as before; no condition. -/
import Derived.Test.YtcmcnofamieegaaGreatRows
import Derived.Test.YtcmcnofamieegaaGreatChecked
import Derived.Test.YtcmcnofamieegaaGreatXl
import Derived.Test.YtcmcnofamieegaaGreatXjowq
import Derived.Test.YtcmcnofamieegaaGreatW1
import Derived.ProofKit
set_option linter.unusedVariables false
namespace Go.Proofs.YtcmcnofamieegaaGreat
open Go Go.Abs Go.ChangeShapes Go.WideShapes Go.ChangeAt Go.RowKit
theorem ownNone7 : ownKnob Tryz.prog.godebug = none := by kernel_rfl
theorem law7 (xs : List Abs.Arg) (h : AsR Go.Abs.Vz.p.ti Tryz.f7.params.toList xs) : ∃ n, arun Go.Abs.Vz.p n 7 xs = some trueOut := by
  obtain ⟨i0, row0, ys0, h0a, h0b, h0c, h0d⟩ := h
  replace h0a : some (⟨.struct, 3, 72, Go.Abs.Vz.K26, [(0, 22), (1, 23), (2, 24)], 0⟩ : TyI) = some i0 := h0a
  cases h0a
  have e : ys0 = [] := h0d
  subst e
  subst h0b
  exact ⟨11, Go.Abs.Vz.law_judgeOwn row0 h0c 11 (Nat.le_refl _)⟩
set_option maxRecDepth 100000 in
theorem lifted7 (os : Os) (started : os.Started) (H : Type) (enc : TypeId × Value → H) :
    ReturnsInHanded {} Tryz.checked os 7 .any (Rows.fnExactJudgeOwnSpec.pre6 enc Tryz.prog Tryz.f7 Rows.fnExactJudgeOwnRow.domain false) (Rows.fnExactJudgeOwnSpec.post enc Tryz.prog Tryz.f7 false true false false) := by
  refine returnsInHanded_of_change (C := Tryz.checked) ownNone7 started (by kernel_rfl) Tryz.func7
    (ChangeSpec.witness6 (enc := enc) (C := Tryz.checked) false ⟨#[], #[.agg #[.slice none 0 0, .slice none 0 0, .slice none 0 0]], []⟩ 8 (by kernel_rfl) (by kernel_rfl) (by kernel_rfl) (by kernel_rfl)) ?_
  intro W base args ds gs before hval0 hW hcnd _
  refine law_contract (conds := []) (a := {}) (p := Go.Abs.Vz.p) Go.Abs.Vz.prg_ok Go.Abs.Vz.k_ok (fun t ht => ?_) (rt := 4) (by kernel_rfl) Tryz.underlying4 (by kernel_rfl) rfl (fun ds h => ?_) law7 W base args ds gs before hval0 hW
  · replace ht : t ∈ [26] := ht
    simp only [List.mem_cons, List.not_mem_nil, or_false] at ht
    rcases ht with rfl
    · exact ⟨⟨.struct, 3, 72, Go.Abs.Vz.K26, [(0, 22), (1, 23), (2, 24)], 0⟩, rfl, rfl⟩
  · replace h : ds.length = 1 := h
    match ds, h with
    | [d0], _ => rfl
theorem holds7 : Rows.FnExactJudgeOwnSaid :=
  OpenClaim.holds_of_wide 7 Tryz.f7 rfl rfl rfl rfl rfl rfl rfl ⟨rfl, rfl, rfl, rfl, rfl⟩ rfl rfl rfl rfl rfl jn7 Tryz.func7 jf7 ji7 jw7
    (fun os started H enc _ => lifted7 os started H enc)
#print axioms holds7
end Go.Proofs.YtcmcnofamieegaaGreat
