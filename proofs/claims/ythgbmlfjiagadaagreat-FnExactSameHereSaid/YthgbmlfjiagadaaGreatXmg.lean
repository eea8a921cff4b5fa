/- For every world and sides, the program's SameHere returns what the reference's SameHere returns, and the arguments read afterwards as before; no condition. -/
import Derived.Test.YthgbmlfjiagadaaGreatRows
import Derived.Test.YthgbmlfjiagadaaGreatChecked
import Derived.Test.YthgbmlfjiagadaaGreatXh
import Derived.Test.YthgbmlfjiagadaaGreatXmq
import Derived.Test.YthgbmlfjiagadaaGreatW1
import Derived.ProofKit
set_option linter.unusedVariables false
namespace Go.Proofs.YthgbmlfjiagadaaGreat
open Go Go.Abs Go.ChangeShapes Go.WideShapes Go.ChangeAt Go.RowKit
theorem ownNone7 : ownKnob Tryz.prog.godebug = none := by kernel_rfl
theorem law7 (xs : List Abs.Arg) (h : AsR Go.Abs.Tz.p.ti Tryz.f7.params.toList xs) : ∃ n, arun Go.Abs.Tz.p n 7 xs = some trueOut := by
  obtain ⟨i0, row0, ys0, h0a, h0b, h0c, h0d⟩ := h
  replace h0a : some (⟨.struct, 3, 72, Go.Abs.Tz.K37, [(0, 33), (1, 34), (2, 35)], 0⟩ : TyI) = some i0 := h0a
  cases h0a
  obtain ⟨i1, row1, ys1, h1a, h1b, h1c, h1d⟩ := h0d
  replace h1a : some (⟨.slice, 1, 24, Go.Abs.Tz.K41, [], 3⟩ : TyI) = some i1 := h1a
  cases h1a
  have e : ys1 = [] := h1d
  subst e
  subst h1b
  subst h0b
  exact ⟨11, Go.Abs.Tz.exactSameHere row0 row1.1 h0c h1c 11 (Nat.le_refl _)⟩
set_option maxRecDepth 100000 in
theorem lifted7 (os : Os) (started : os.Started) (H : Type) (enc : TypeId × Value → H) :
    ReturnsInHanded {} Tryz.checked os 7 .any (Rows.fnExactSameHereSpec.pre6 enc Tryz.prog Tryz.f7 Rows.fnExactSameHereRow.domain false) (Rows.fnExactSameHereSpec.post enc Tryz.prog Tryz.f7 false true false false) := by
  refine returnsInHanded_of_change (C := Tryz.checked) ownNone7 started (by kernel_rfl) Tryz.func7
    (ChangeSpec.witness6 (enc := enc) (C := Tryz.checked) false ⟨#[], #[.agg #[.slice none 0 0, .slice none 0 0, .slice none 0 0], .slice none 0 0], []⟩ 8 (by kernel_rfl) (by kernel_rfl) (by kernel_rfl) (by kernel_rfl)) ?_
  intro W base args ds gs before hval0 hW hcnd _
  refine law_contract (conds := []) (a := {}) (p := Go.Abs.Tz.p) Go.Abs.Tz.prg_ok Go.Abs.Tz.k_ok (fun t ht => ?_) (rt := 4) (by kernel_rfl) Tryz.underlying4 (by kernel_rfl) rfl (fun ds h => ?_) law7 W base args ds gs before hval0 hW
  · replace ht : t ∈ [37, 41] := ht
    simp only [List.mem_cons, List.not_mem_nil, or_false] at ht
    rcases ht with rfl | rfl
    · exact ⟨⟨.struct, 3, 72, Go.Abs.Tz.K37, [(0, 33), (1, 34), (2, 35)], 0⟩, rfl, rfl⟩
    · exact ⟨⟨.slice, 1, 24, Go.Abs.Tz.K41, [], 3⟩, rfl, rfl⟩
  · replace h : ds.length = 2 := h
    match ds, h with
    | [d0, d1], _ => rfl
theorem holds7 : Rows.FnExactSameHereSaid :=
  OpenClaim.holds_of_wide 7 Tryz.f7 rfl rfl rfl rfl rfl rfl rfl ⟨rfl, rfl, rfl, rfl, rfl⟩ rfl rfl rfl rfl rfl jn7 Tryz.func7 jf7 ji7 jw7
    (fun os started H enc _ => lifted7 os started H enc)
#print axioms holds7
end Go.Proofs.YthgbmlfjiagadaaGreat
