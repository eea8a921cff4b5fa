/- For every world and every two numbers, the law FnExactSaidBy answers true and leaves its arguments as they were. No condition. -/
import Derived.Test.YthgekoledembcaaGreatRows
import Derived.Test.YthgekoledembcaaGreatChecked
import Derived.Test.YthgekoledembcaaGreatXw
import Derived.Test.YthgekoledembcaaGreatXsbyq
import Derived.Test.YthgekoledembcaaGreatW2
import Derived.ProofKit
set_option linter.unusedVariables false
namespace Go.Proofs.YthgekoledembcaaGreat
open Go Go.Abs Go.ChangeShapes Go.WideShapes Go.ChangeAt Go.RowKit
theorem ownNone7 : ownKnob Tryz.prog.godebug = none := by kernel_rfl
theorem law7 (xs : List Abs.Arg) (h : AsR Go.Abs.Gz.p.ti Tryz.f7.params.toList xs) : ∃ n, arun Go.Abs.Gz.p n 7 xs = some trueOut := by
  obtain ⟨i0, row0, ys0, h0a, h0b, h0c, h0d⟩ := h
  replace h0a : some (⟨.struct, 3, 72, Go.Abs.Gz.K36, [(0, 32), (1, 33), (2, 34)], 0⟩ : TyI) = some i0 := h0a
  cases h0a
  obtain ⟨i1, row1, ys1, h1a, h1b, h1c, h1d⟩ := h0d
  replace h1a : some (⟨.int .i64, 1, 8, Go.Abs.Gz.K3, [], 0⟩ : TyI) = some i1 := h1a
  cases h1a
  obtain ⟨i2, row2, ys2, h2a, h2b, h2c, h2d⟩ := h1d
  replace h2a : some (⟨.int .i64, 1, 8, Go.Abs.Gz.K3, [], 0⟩ : TyI) = some i2 := h2a
  cases h2a
  have e : ys2 = [] := h2d
  subst e
  subst h2b
  subst h1b
  subst h0b
  exact ⟨10, Go.Abs.Gz.law_saidBy row0 row1.1 row2.1 h0c h1c h2c 10 (Nat.le_refl _)⟩
set_option maxRecDepth 100000 in
theorem lifted7 (os : Os) (started : os.Started) (H : Type) (enc : TypeId × Value → H) :
    ReturnsInHanded {} Tryz.checked os 7 .any (Rows.fnExactSaidBySpec.pre6 enc Tryz.prog Tryz.f7 Rows.fnExactSaidByRow.domain false) (Rows.fnExactSaidBySpec.post enc Tryz.prog Tryz.f7 false true false false) := by
  refine returnsInHanded_of_change (C := Tryz.checked) ownNone7 started (by kernel_rfl) Tryz.func7
    (ChangeSpec.witness6 (enc := enc) (C := Tryz.checked) false ⟨#[], #[.agg #[.slice none 0 0, .slice none 0 0, .slice none 0 0], .int .i64 0, .int .i64 0], []⟩ 8 (by kernel_rfl) (by kernel_rfl) (by kernel_rfl) (by kernel_rfl)) ?_
  intro W base args ds gs before hval0 hW hcnd _
  refine law_contract (conds := []) (a := {}) (p := Go.Abs.Gz.p) Go.Abs.Gz.prg_ok Go.Abs.Gz.k_ok (fun t ht => ?_) (rt := 4) (by kernel_rfl) Tryz.underlying4 (by kernel_rfl) rfl (fun ds h => ?_) law7 W base args ds gs before hval0 hW
  · replace ht : t ∈ [36, 3, 3] := ht
    simp only [List.mem_cons, List.not_mem_nil, or_false] at ht
    rcases ht with rfl | rfl | rfl
    · exact ⟨⟨.struct, 3, 72, Go.Abs.Gz.K36, [(0, 32), (1, 33), (2, 34)], 0⟩, rfl, rfl⟩
    · exact ⟨⟨.int .i64, 1, 8, Go.Abs.Gz.K3, [], 0⟩, rfl, rfl⟩
    · exact ⟨⟨.int .i64, 1, 8, Go.Abs.Gz.K3, [], 0⟩, rfl, rfl⟩
  · replace h : ds.length = 3 := h
    match ds, h with
    | [d0, d1, d2], _ => rfl
theorem holds7 : Rows.FnExactSaidBySaid :=
  OpenClaim.holds_of_wide 7 Tryz.f7 rfl rfl rfl rfl rfl rfl rfl ⟨rfl, rfl, rfl, rfl, rfl⟩ rfl rfl rfl rfl rfl jn7 Tryz.func7 jf7 ji7 jw7
    (fun os started H enc _ => lifted7 os started H enc)
#print axioms holds7
end Go.Proofs.YthgekoledembcaaGreat
