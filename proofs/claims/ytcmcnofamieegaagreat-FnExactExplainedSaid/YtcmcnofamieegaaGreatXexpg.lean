/- For every world and state, the program's Explained returns what the reference's Explained returns, and the arguments read afterwards as before; no condition. -/
import Derived.Test.YtcmcnofamieegaaGreatRows
import Derived.Test.YtcmcnofamieegaaGreatChecked
import Derived.Test.YtcmcnofamieegaaGreatXl
import Derived.Test.YtcmcnofamieegaaGreatXexpq
import Derived.Test.YtcmcnofamieegaaGreatW1
import Derived.ProofKit
set_option linter.unusedVariables false
namespace Go.Proofs.YtcmcnofamieegaaGreat
open Go Go.Abs Go.ChangeShapes Go.WideShapes Go.ChangeAt Go.RowKit
theorem ownNone8 : ownKnob Tryz.prog.godebug = none := by kernel_rfl
theorem law8 (xs : List Abs.Arg) (h : AsR Go.Abs.Vz.p.ti Tryz.f8.params.toList xs) : ∃ n, arun Go.Abs.Vz.p n 8 xs = some trueOut := by
  obtain ⟨i0, row0, ys0, h0a, h0b, h0c, h0d⟩ := h
  replace h0a : some (⟨.struct, 3, 72, Go.Abs.Vz.K26, [(0, 22), (1, 23), (2, 24)], 0⟩ : TyI) = some i0 := h0a
  cases h0a
  obtain ⟨i1, row1, ys1, h1a, h1b, h1c, h1d⟩ := h0d
  replace h1a : some (⟨.struct, 2, 48, Go.Abs.Vz.K42, [(0, 39), (1, 40)], 0⟩ : TyI) = some i1 := h1a
  cases h1a
  have e : ys1 = [] := h1d
  subst e
  subst h1b
  subst h0b
  exact ⟨11, Go.Abs.Vz.law_explained row0 row1 h0c h1c 11 (Nat.le_refl _)⟩
set_option maxRecDepth 100000 in
theorem lifted8 (os : Os) (started : os.Started) (H : Type) (enc : TypeId × Value → H) :
    ReturnsInHanded {} Tryz.checked os 8 .any (Rows.fnExactExplainedSpec.pre6 enc Tryz.prog Tryz.f8 Rows.fnExactExplainedRow.domain false) (Rows.fnExactExplainedSpec.post enc Tryz.prog Tryz.f8 false true false false) := by
  refine returnsInHanded_of_change (C := Tryz.checked) ownNone8 started (by kernel_rfl) Tryz.func8
    (ChangeSpec.witness6 (enc := enc) (C := Tryz.checked) false ⟨#[], #[.agg #[.slice none 0 0, .slice none 0 0, .slice none 0 0], .agg #[.slice none 0 0, .slice none 0 0]], []⟩ 8 (by kernel_rfl) (by kernel_rfl) (by kernel_rfl) (by kernel_rfl)) ?_
  intro W base args ds gs before hval0 hW hcnd _
  refine law_contract (conds := []) (a := {}) (p := Go.Abs.Vz.p) Go.Abs.Vz.prg_ok Go.Abs.Vz.k_ok (fun t ht => ?_) (rt := 4) (by kernel_rfl) Tryz.underlying4 (by kernel_rfl) rfl (fun ds h => ?_) law8 W base args ds gs before hval0 hW
  · replace ht : t ∈ [26, 42] := ht
    simp only [List.mem_cons, List.not_mem_nil, or_false] at ht
    rcases ht with rfl | rfl
    · exact ⟨⟨.struct, 3, 72, Go.Abs.Vz.K26, [(0, 22), (1, 23), (2, 24)], 0⟩, rfl, rfl⟩
    · exact ⟨⟨.struct, 2, 48, Go.Abs.Vz.K42, [(0, 39), (1, 40)], 0⟩, rfl, rfl⟩
  · replace h : ds.length = 2 := h
    match ds, h with
    | [d0, d1], _ => rfl
theorem holds8 : Rows.FnExactExplainedSaid :=
  OpenClaim.holds_of_wide 8 Tryz.f8 rfl rfl rfl rfl rfl rfl rfl ⟨rfl, rfl, rfl, rfl, rfl⟩ rfl rfl rfl rfl rfl jn8 Tryz.func8 jf8 ji8 jw8
    (fun os started H enc _ => lifted8 os started H enc)
#print axioms holds8
end Go.Proofs.YtcmcnofamieegaaGreat
