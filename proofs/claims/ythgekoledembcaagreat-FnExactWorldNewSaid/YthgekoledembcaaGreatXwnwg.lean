/- For every five numbers, the law FnExactWorldNew answers true: the program's WorldNew gives what the reference's gives, in memory of its own. No condition. -/
import Derived.Test.YthgekoledembcaaGreatRows
import Derived.Test.YthgekoledembcaaGreatChecked
import Derived.Test.YthgekoledembcaaGreatXw
import Derived.Test.YthgekoledembcaaGreatXwnwq
import Derived.Test.YthgekoledembcaaGreatW2
import Derived.ProofKit
set_option linter.unusedVariables false
namespace Go.Proofs.YthgekoledembcaaGreat
open Go Go.Abs Go.ChangeShapes Go.WideShapes Go.ChangeAt Go.RowKit
theorem ownNone3 : ownKnob Tryz.prog.godebug = none := by kernel_rfl
theorem law3 (xs : List Abs.Arg) (h : AsR Go.Abs.Gz.p.ti Tryz.f3.params.toList xs) : ∃ n, arun Go.Abs.Gz.p n 3 xs = some trueOut := by
  obtain ⟨i0, row0, ys0, h0a, h0b, h0c, h0d⟩ := h
  replace h0a : some (⟨.int .i64, 1, 8, Go.Abs.Gz.K3, [], 0⟩ : TyI) = some i0 := h0a
  cases h0a
  obtain ⟨i1, row1, ys1, h1a, h1b, h1c, h1d⟩ := h0d
  replace h1a : some (⟨.int .i64, 1, 8, Go.Abs.Gz.K3, [], 0⟩ : TyI) = some i1 := h1a
  cases h1a
  obtain ⟨i2, row2, ys2, h2a, h2b, h2c, h2d⟩ := h1d
  replace h2a : some (⟨.int .i64, 1, 8, Go.Abs.Gz.K3, [], 0⟩ : TyI) = some i2 := h2a
  cases h2a
  obtain ⟨i3, row3, ys3, h3a, h3b, h3c, h3d⟩ := h2d
  replace h3a : some (⟨.int .i64, 1, 8, Go.Abs.Gz.K3, [], 0⟩ : TyI) = some i3 := h3a
  cases h3a
  obtain ⟨i4, row4, ys4, h4a, h4b, h4c, h4d⟩ := h3d
  replace h4a : some (⟨.int .i64, 1, 8, Go.Abs.Gz.K3, [], 0⟩ : TyI) = some i4 := h4a
  cases h4a
  have e : ys4 = [] := h4d
  subst e
  subst h4b
  subst h3b
  subst h2b
  subst h1b
  subst h0b
  exact ⟨10, Go.Abs.Gz.law_worldNew row0.1 row1.1 row2.1 row3.1 row4.1 h0c h1c h2c h3c h4c 10 (Nat.le_refl _)⟩
set_option maxRecDepth 100000 in
theorem lifted3 (os : Os) (started : os.Started) (H : Type) (enc : TypeId × Value → H) :
    ReturnsInHanded {} Tryz.checked os 3 .any (Rows.fnExactWorldNewSpec.pre6 enc Tryz.prog Tryz.f3 Rows.fnExactWorldNewRow.domain false) (Rows.fnExactWorldNewSpec.post enc Tryz.prog Tryz.f3 false true false false) := by
  refine returnsInHanded_of_change (C := Tryz.checked) ownNone3 started (by kernel_rfl) Tryz.func3
    (ChangeSpec.witness6 (enc := enc) (C := Tryz.checked) false ⟨#[], #[.int .i64 0, .int .i64 0, .int .i64 0, .int .i64 0, .int .i64 0], []⟩ 8 (by kernel_rfl) (by kernel_rfl) (by kernel_rfl) (by kernel_rfl)) ?_
  intro W base args ds gs before hval0 hW hcnd _
  refine law_contract (conds := []) (a := {}) (p := Go.Abs.Gz.p) Go.Abs.Gz.prg_ok Go.Abs.Gz.k_ok (fun t ht => ?_) (rt := 4) (by kernel_rfl) Tryz.underlying4 (by kernel_rfl) rfl (fun ds h => ?_) law3 W base args ds gs before hval0 hW
  · replace ht : t ∈ [3, 3, 3, 3, 3] := ht
    simp only [List.mem_cons, List.not_mem_nil, or_false] at ht
    rcases ht with rfl | rfl | rfl | rfl | rfl
    · exact ⟨⟨.int .i64, 1, 8, Go.Abs.Gz.K3, [], 0⟩, rfl, rfl⟩
    · exact ⟨⟨.int .i64, 1, 8, Go.Abs.Gz.K3, [], 0⟩, rfl, rfl⟩
    · exact ⟨⟨.int .i64, 1, 8, Go.Abs.Gz.K3, [], 0⟩, rfl, rfl⟩
    · exact ⟨⟨.int .i64, 1, 8, Go.Abs.Gz.K3, [], 0⟩, rfl, rfl⟩
    · exact ⟨⟨.int .i64, 1, 8, Go.Abs.Gz.K3, [], 0⟩, rfl, rfl⟩
  · replace h : ds.length = 5 := h
    match ds, h with
    | [d0, d1, d2, d3, d4], _ => rfl
theorem holds3 : Rows.FnExactWorldNewSaid :=
  OpenClaim.holds_of_wide 3 Tryz.f3 rfl rfl rfl rfl rfl rfl rfl ⟨rfl, rfl, rfl, rfl, rfl⟩ rfl rfl rfl rfl rfl jn3 Tryz.func3 jf3 ji3 jw3
    (fun os started H enc _ => lifted3 os started H enc)
#print axioms holds3
end Go.Proofs.YthgekoledembcaaGreat
