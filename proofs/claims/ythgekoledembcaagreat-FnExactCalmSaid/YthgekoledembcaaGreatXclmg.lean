/- For every world, the law FnExactCalm answers true and leaves its argument as it was: the program's Calm gives what the reference's gives, in memory of its own. No condition. -/
import Derived.Test.YthgekoledembcaaGreatRows
import Derived.Test.YthgekoledembcaaGreatChecked
import Derived.Test.YthgekoledembcaaGreatXw
import Derived.Test.YthgekoledembcaaGreatXclmq
import Derived.Test.YthgekoledembcaaGreatW2
import Derived.ProofKit
set_option linter.unusedVariables false
namespace Go.Proofs.YthgekoledembcaaGreat
open Go Go.Abs Go.ChangeShapes Go.WideShapes Go.ChangeAt Go.RowKit
theorem ownNone8 : ownKnob Tryz.prog.godebug = none := by kernel_rfl
theorem law8 (xs : List Abs.Arg) (h : AsR Go.Abs.Gz.p.ti Tryz.f8.params.toList xs) : ∃ n, arun Go.Abs.Gz.p n 8 xs = some trueOut := by
 obtain ⟨i0, row0, ys0, h0a, h0b, h0c, h0d⟩ := h
 replace h0a : some (⟨.struct, 3, 72, Go.Abs.Gz.K36, [(0, 32), (1, 33), (2, 34)], 0⟩ : TyI) = some i0 := h0a
 cases h0a
 have e : ys0 = [] := h0d
 subst e
 subst h0b
 exact ⟨10, Go.Abs.Gz.law_calm row0 h0c 10 (Nat.le_refl _)⟩
set_option maxRecDepth 100000 in
theorem lifted8 (os : Os) (started : os.Started) (H : Type) (enc : TypeId × Value → H) :
  ReturnsInHanded {} Tryz.checked os 8 .any (Rows.fnExactCalmSpec.pre6 enc Tryz.prog Tryz.f8 Rows.fnExactCalmRow.domain false) (Rows.fnExactCalmSpec.post enc Tryz.prog Tryz.f8 false true false false) := by
 refine returnsInHanded_of_change (C := Tryz.checked) ownNone8 started (by kernel_rfl) Tryz.func8
  (ChangeSpec.witness6 (enc := enc) (C := Tryz.checked) false ⟨#[], #[.agg #[.slice none 0 0, .slice none 0 0, .slice none 0 0]], []⟩ 8 (by kernel_rfl) (by kernel_rfl) (by kernel_rfl) (by kernel_rfl)) ?_
 intro W base args ds gs before hval0 hW hcnd _
 refine law_contract (conds := []) (a := {}) (p := Go.Abs.Gz.p) Go.Abs.Gz.prg_ok Go.Abs.Gz.k_ok (fun t ht => ?_) (rt := 4) (by kernel_rfl) Tryz.underlying4 (by kernel_rfl) rfl (fun ds h => ?_) law8 W base args ds gs before hval0 hW
 ·replace ht : t ∈ [36] := ht
  simp only [List.mem_cons, List.not_mem_nil, or_false] at ht
  rcases ht with rfl
  ·exact ⟨⟨.struct, 3, 72, Go.Abs.Gz.K36, [(0, 32), (1, 33), (2, 34)], 0⟩, rfl, rfl⟩
 ·replace h : ds.length = 1 := h
  match ds, h with
  | [d0], _ => rfl
theorem holds8 : Rows.FnExactCalmSaid :=
 OpenClaim.holds_of_wide 8 Tryz.f8 rfl rfl rfl rfl rfl rfl rfl ⟨rfl, rfl, rfl, rfl, rfl⟩ rfl rfl rfl rfl rfl jn8 Tryz.func8 jf8 ji8 jw8
  (fun os started H enc _ => lifted8 os started H enc)
#print axioms holds8
end Go.Proofs.YthgekoledembcaaGreat
