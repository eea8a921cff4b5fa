/- For every world, the program's WorldOk returns what the reference's WorldOk returns, and the world reads afterwards as before; no condition. -/
import Derived.Test.YthgbmlfjiagadaaGreatRows
import Derived.Test.YthgbmlfjiagadaaGreatChecked
import Derived.Test.YthgbmlfjiagadaaGreatXf
import Derived.Test.YthgbmlfjiagadaaGreatXq
import Derived.ProofKit
set_option linter.unusedVariables false
namespace Go.Proofs.YthgbmlfjiagadaaGreat
open Go Go.Abs Go.ChangeShapes Go.WideShapes Go.ChangeAt Go.RowKit
theorem ownNone : ownKnob Tryz.prog.godebug = none := by kernel_rfl
theorem exactWorldOk_law (xs : List Abs.Arg) (h : AsR Go.Abs.Tz.p.ti Tryz.f4.params.toList xs) : ∃ n, arun Go.Abs.Tz.p n 4 xs = some trueOut := by
  obtain ⟨i, row, ys, h1, h2, h3, h4⟩ := h
  replace h1 : some (⟨.struct, 3, 72, Go.Abs.Tz.K37, [(0, 33), (1, 34), (2, 35)], 0⟩ : TyI) = some i := h1
  cases h1
  have e : ys = [] := h4
  subst e; subst h2
  exact ⟨10, Go.Abs.Tz.exactWorldOk row h3 10 (Nat.le_refl 10)⟩
set_option maxRecDepth 100000 in
theorem exactWorldOk_lifted (os : Os) (started : os.Started) (H : Type) (enc : TypeId × Value → H) :
    ReturnsInHanded {} Tryz.checked os 4 .any (Rows.fnExactWorldOkSpec.pre6 enc Tryz.prog Tryz.f4 Rows.fnExactWorldOkRow.domain false) (Rows.fnExactWorldOkSpec.post enc Tryz.prog Tryz.f4 false true false false) := by
  refine returnsInHanded_of_change (C := Tryz.checked) ownNone started (by kernel_rfl) Tryz.func4
    (ChangeSpec.witness6 (enc := enc) (C := Tryz.checked) false ⟨#[], #[.agg #[.slice none 0 0, .slice none 0 0, .slice none 0 0]], []⟩ 8 (by kernel_rfl) (by kernel_rfl) (by kernel_rfl) (by kernel_rfl)) ?_
  intro W base args ds gs before hval0 hW hcnd _
  refine law_contract (conds := []) (a := {}) (p := Go.Abs.Tz.p) Go.Abs.Tz.prg_ok Go.Abs.Tz.k_ok (fun t ht => ?_) (rt := 4) (by kernel_rfl) Tryz.underlying4 (by kernel_rfl) rfl (fun ds h => ?_) exactWorldOk_law W base args ds gs before hval0 hW
  · replace ht : t ∈ [37] := ht
    rcases List.mem_singleton.1 ht with rfl
    exact ⟨⟨.struct, 3, 72, Go.Abs.Tz.K37, [(0, 33), (1, 34), (2, 35)], 0⟩, rfl, rfl⟩
  · replace h : ds.length = 1 := h
    match ds, h with
    | [d], _ => rfl
/-- The program's WorldOk returns what the reference's returns, for all arguments. -/
theorem exactWorldOk_holds : Rows.FnExactWorldOkSaid :=
  OpenClaim.holds_of_wide 4 Tryz.f4 rfl rfl rfl rfl rfl rfl rfl ⟨rfl, rfl, rfl, rfl, rfl⟩ rfl rfl rfl rfl rfl jn4 Tryz.func4 jf4 ji4 jw4
    (fun os started H enc _ => exactWorldOk_lifted os started H enc)
#print axioms exactWorldOk_holds
end Go.Proofs.YthgbmlfjiagadaaGreat
