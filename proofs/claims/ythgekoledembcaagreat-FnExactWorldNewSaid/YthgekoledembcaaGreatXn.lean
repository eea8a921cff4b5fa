/- What the functions of this program answer, part n. -/
import Derived.Test.YthgekoledembcaaGreatXl
set_option linter.unusedVariables false
namespace Go.Abs.Gz
open Go Go.Abs
def row5 : RowT := (List.replicate ((5 : Int)).toNat (zeroRow K3), ())
def tableNew (n : Int) : List RowT := bif inB n 1 5 then List.replicate n.toNat row5 else []
theorem f77 (a : Int) : Ran p 2 77 [.val false ⟨K3, (a, ())⟩] ⟨[⟨K69, (tableNew a, ())⟩], []⟩ := go77 fun n hn => by
  cases h : inB a 1 5 with
  | false => exact Ev.now fun fuel => by unfold T77 tableNew; refine (call_step (f70 a 1 5 n (by omega))).trans ?_; rw [h]; rfl
  | true =>
    have ha := inB_iff.1 h
    have lp : It (fun fuel (_ : Unit) => c77_5 (arun p n) fuel a) ((0 : Int), ([] : List (Row K43))) (fun _ => some ⟨[⟨K69, (tableNew a, ())⟩], []⟩) := by
      refine It.run (fun i => ((i : Int), List.replicate i row5)) a.toNat (fun i hi fuel u rec => ?_) (It.stop fun fuel u rec => ?_)
      · show c77_5 (arun p n) fuel a rec ((i : Int), List.replicate i row5) = rec (((i + 1 : Nat) : Int), List.replicate (i + 1) row5)
        unfold c77_5; dsimp only; rw [wrap_succ (by omega)]; refine (bif_pos (by omega)).trans ?_; refine (bif_tt (by decide)).trans ?_; refine (bif_pos ?_).trans ?_
        · show List.length (List.replicate i row5) + 1 ≤ bound; rw [List.length_replicate]; unfold bound; omega
        · rw [List.replicate_succ']; rfl
      · show c77_5 (arun p n) fuel a rec ((a.toNat : Int), List.replicate a.toNat row5) = _
        unfold c77_5; dsimp only; refine (bif_neg (by omega)).trans ?_; unfold tableNew; rw [h]; rfl
    exact Ev.eq (fun fuel => by unfold T77; refine (call_step (f70 a 1 5 n (by omega))).trans ?_; rw [h]; rfl) (lp.ev (i := ()) rfl)
theorem f80 (a : Int) : Ran p 2 80 [.val false ⟨K3, (a, ())⟩] ⟨[⟨K69, (tableNew a, ())⟩], []⟩ := go80 fun n hn => by
  cases h : inB a 1 5 with
  | false => exact Ev.now fun fuel => by unfold T80 tableNew; refine (call_step (f71 a 1 5 n (by omega))).trans ?_; rw [h]; rfl
  | true =>
    have ha := inB_iff.1 h
    have lp : It (fun fuel (_ : Unit) => c80_5 (arun p n) fuel a) ((0 : Int), ([] : List (Row K43))) (fun _ => some ⟨[⟨K69, (tableNew a, ())⟩], []⟩) := by
      refine It.run (fun i => ((i : Int), List.replicate i row5)) a.toNat (fun i hi fuel u rec => ?_) (It.stop fun fuel u rec => ?_)
      · show c80_5 (arun p n) fuel a rec ((i : Int), List.replicate i row5) = rec (((i + 1 : Nat) : Int), List.replicate (i + 1) row5)
        unfold c80_5; dsimp only; rw [wrap_succ (by omega)]; refine (bif_pos (by omega)).trans ?_; refine (bif_tt (by decide)).trans ?_; refine (bif_pos ?_).trans ?_
        · show List.length (List.replicate i row5) + 1 ≤ bound; rw [List.length_replicate]; unfold bound; omega
        · rw [List.replicate_succ']; rfl
      · show c80_5 (arun p n) fuel a rec ((a.toNat : Int), List.replicate a.toNat row5) = _
        unfold c80_5; dsimp only; refine (bif_neg (by omega)).trans ?_; unfold tableNew; rw [h]; rfl
    exact Ev.eq (fun fuel => by unfold T80; refine (call_step (f71 a 1 5 n (by omega))).trans ?_; rw [h]; rfl) (lp.ev (i := ()) rfl)
def node0 : NodeT := ((0 : Int), (0 : Int), [], [], [], (0 : Int), (0 : Int), (0 : Int), [], [], [], [], (0 : Int), (0 : Int), [], (0 : Int), (0 : Int), (0 : Int), [], ())
def nodeNew (id n cap slots wait lim : Int) : NodeT := (id, n, [], [], (treeOf ([], [], ())).1, (treeOf ([], [], ())).2.1, cap, (0 : Int), [], List.replicate n.toNat (zeroRow K3), List.replicate n.toNat (zeroRow K3), tableNew n,
  (0 : Int), slots, [], wait, lim, (0 : Int), List.replicate ((5 : Int)).toNat (zeroRow K171), ())
theorem treeOf_len (s : StateT) : (treeOf s).1.length ≤ 4 := by
  unfold treeOf; cases stateOk s with
  | true => exact Nat.le_refl 4
  | false => exact Nat.zero_le _
theorem node0_sz : SzN node0 := ⟨⟨Nat.zero_le _, Nat.zero_le _⟩, Nat.zero_le _, Nat.zero_le _, (fun i hi => absurd hi (Nat.not_lt_zero _)), Nat.zero_le _, Nat.zero_le _, Nat.zero_le _, (fun i hi => absurd hi (Nat.not_lt_zero _)), Nat.zero_le _, Nat.zero_le _⟩
theorem tableNew_len {n : Int} (h : inB n 1 5 = true) : (tableNew n).length ≤ 5 := by
  have := inB_iff.1 h
  unfold tableNew; rw [h]; show (List.replicate n.toNat row5).length ≤ 5; rw [List.length_replicate]; omega
theorem tableNew_row {n : Int} (h : inB n 1 5 = true) {i : Nat} (hi : i < (tableNew n).length) : gt (tableNew n) i = row5 := by
  rw [gt_eq hi]; unfold tableNew; simp [h]
theorem nodeNew_sz (id n cap slots wait lim : Int) (h : inB n 1 5 = true) : SzN (nodeNew id n cap slots wait lim) := by
  have hh := inB_iff.1 h
  have e : List.length (List.replicate n.toNat (zeroRow K3)) ≤ small := by rw [List.length_replicate]; unfold small; omega
  refine ⟨⟨Nat.zero_le _, Nat.zero_le _⟩, Nat.le_trans (treeOf_len _) (by decide), Nat.zero_le _, (fun i hi => absurd hi (Nat.not_lt_zero _)), e, e, Nat.le_trans (tableNew_len h) (by decide), fun i hi => ?_, Nat.zero_le _, ?_⟩
  · rw [show gt (nodeNew id n cap slots wait lim).seen i = row5 from tableNew_row h hi]; decide
  · show List.length (List.replicate ((5 : Int)).toNat (zeroRow K171)) ≤ small
    rw [List.length_replicate]; decide
def nnOk (id n cap slots wait lim : Int) : Bool := inB n 1 5 && nodeOk (nodeNew id n cap slots wait lim)
def nnRow (id n cap slots wait lim : Int) : NodeT := bif nnOk id n cap slots wait lim then nodeNew id n cap slots wait lim else node0
theorem s00 : SzS ([], [], ()) := ⟨Nat.zero_le _, Nat.zero_le _⟩
theorem dd {n : Int} (h : inB n 1 5 = true) : (decide (0 ≤ n) && decide (n ≤ (bound : Int)) && decide (n = n)) = true := by
  have := inB_iff.1 h
  unfold bound; simp; omega
theorem f35 (id m cap slots wait lim : Int) : Ran p 8 35 [.val false ⟨K3, (id, ())⟩, .val false ⟨K3, (m, ())⟩, .val false ⟨K3, (cap, ())⟩, .val false ⟨K3, (slots, ())⟩, .val false ⟨K3, (wait, ())⟩, .val false ⟨K3, (lim, ())⟩] ⟨[⟨K73, nnRow id m cap slots wait lim⟩, ⟨K4, (nnOk id m cap slots wait lim, ())⟩], []⟩ := go35 fun n hn => Ev.now fun fuel => by
  show T35 (arun p n) fuel id m cap slots wait lim = some ⟨[⟨K73, nnRow id m cap slots wait lim⟩, ⟨K4, (nnOk id m cap slots wait lim, ())⟩], []⟩
  unfold T35 nnRow nnOk
  refine (call_step (f70 m 1 5 n (by omega))).trans ?_
  cases h : inB m 1 5 with
  | false => rfl
  | true =>
    refine (bif_ff rfl).trans ?_
    refine (call_step (f76 ([], [], ()) s00 n (by omega))).trans ?_
    refine (bif_tt (dd h)).trans ?_; refine (bif_tt (dd h)).trans ?_
    refine (call_step (f77 m n (by omega))).trans ?_
    refine (bif_tt (by decide)).trans ?_
    refine (call_step (f78 (nodeNew id m cap slots wait lim) (nodeNew_sz _ _ _ _ _ _ h) n (by omega))).trans ?_
    cases nodeOk (nodeNew id m cap slots wait lim) <;> rfl
theorem f37 (id m cap slots wait lim : Int) : Ran p 8 37 [.val false ⟨K3, (id, ())⟩, .val false ⟨K3, (m, ())⟩, .val false ⟨K3, (cap, ())⟩, .val false ⟨K3, (slots, ())⟩, .val false ⟨K3, (wait, ())⟩, .val false ⟨K3, (lim, ())⟩] ⟨[⟨K73, nnRow id m cap slots wait lim⟩, ⟨K4, (nnOk id m cap slots wait lim, ())⟩], []⟩ := go37 fun n hn => Ev.now fun fuel => by
  show T37 (arun p n) fuel id m cap slots wait lim = some ⟨[⟨K73, nnRow id m cap slots wait lim⟩, ⟨K4, (nnOk id m cap slots wait lim, ())⟩], []⟩
  unfold T37 nnRow nnOk
  refine (call_step (f71 m 1 5 n (by omega))).trans ?_
  cases h : inB m 1 5 with
  | false => rfl
  | true =>
    refine (bif_ff rfl).trans ?_
    refine (call_step (f79 ([], [], ()) s00 n (by omega))).trans ?_
    refine (bif_tt (dd h)).trans ?_; refine (bif_tt (dd h)).trans ?_
    refine (call_step (f80 m n (by omega))).trans ?_
    refine (bif_tt (by decide)).trans ?_
    refine (call_step (f81 (nodeNew id m cap slots wait lim) (nodeNew_sz _ _ _ _ _ _ h) n (by omega))).trans ?_
    cases nodeOk (nodeNew id m cap slots wait lim) <;> rfl
theorem nnRow_sz (id n cap slots wait lim : Int) : SzN (nnRow id n cap slots wait lim) := by
  unfold nnRow
  cases h : nnOk id n cap slots wait lim with
  | false => exact node0_sz
  | true => exact nodeNew_sz _ _ _ _ _ _ (by unfold nnOk at h; simp only [Bool.and_eq_true] at h; exact h.1)
def nodesTo (n cap slots wait lim : Int) (k : Nat) : List NodeT := (List.range k).map fun (i : Nat) => nnRow (i : Int) n cap slots wait lim
theorem nodesTo_succ (n cap slots wait lim : Int) (k : Nat) : nodesTo n cap slots wait lim (k + 1) = nodesTo n cap slots wait lim k ++ [nnRow (k : Int) n cap slots wait lim] := by
  unfold nodesTo; rw [List.range_succ, List.map_append]; rfl
theorem nodesTo_len (n cap slots wait lim : Int) (k : Nat) : (nodesTo n cap slots wait lim k).length = k := by unfold nodesTo; simp
theorem nodesTo_gt (n cap slots wait lim : Int) {k i : Nat} (h : i < k) : gt (nodesTo n cap slots wait lim k) i = nnRow (i : Int) n cap slots wait lim := by
  rw [gt_eq (by rw [nodesTo_len]; exact h)]; unfold nodesTo; simp
def wnCount (n : Int) : Nat := min n.toNat 6
def wnW (n cap slots wait lim : Int) : WorldT := (nodesTo n cap slots wait lim (wnCount n), [], [], ())
def wnOk (n cap slots wait lim : Int) : Bool := worldOk (wnW n cap slots wait lim)
def wnRow (n cap slots wait lim : Int) : WorldT := bif wnOk n cap slots wait lim then wnW n cap slots wait lim else ([], [], [], ())
theorem wnCount_le (n : Int) : wnCount n ≤ 6 := Nat.min_le_right _ _
theorem wnW_sz (n cap slots wait lim : Int) : SzW (wnW n cap slots wait lim) := by
  have hc := wnCount_le n
  refine ⟨?_, fun i hi => ?_, Nat.zero_le _, Nat.zero_le _, fun i hi => absurd hi (Nat.not_lt_zero _)⟩
  · show (nodesTo n cap slots wait lim (wnCount n)).length ≤ small
    rw [nodesTo_len]; unfold small; omega
  · have hi' : i < wnCount n := by rw [← nodesTo_len n cap slots wait lim (wnCount n)]; exact hi
    rw [show gt (wnW n cap slots wait lim).1 i = _ from nodesTo_gt n cap slots wait lim hi']
    exact nnRow_sz _ _ _ _ _ _
theorem wn_false {n cap slots wait lim : Int} (h : allI (wnCount n) (fun i => nnOk (i : Int) n cap slots wait lim) = false) : wnOk n cap slots wait lim = false := by
  cases hw : wnOk n cap slots wait lim with
  | false => rfl
  | true =>
    have : allI (wnCount n) (fun i => nnOk (i : Int) n cap slots wait lim) = true := by
      rw [allI_iff]
      intro i hi
      have hn := worldOk_node (w := wnW n cap slots wait lim) hw (i := i) (by show i < (nodesTo n cap slots wait lim (wnCount n)).length; rw [nodesTo_len]; exact hi)
      rw [show gt (wnW n cap slots wait lim).1 i = _ from nodesTo_gt n cap slots wait lim hi] at hn
      cases hx : nnOk (i : Int) n cap slots wait lim with
      | true => rfl
      | false => unfold nnRow at hn; rw [hx] at hn; exact hn
    rw [this] at h; cases h
theorem f10 (m cap slots wait lim : Int) : Ran p 9 10 [.val false ⟨K3, (m, ())⟩, .val false ⟨K3, (cap, ())⟩, .val false ⟨K3, (slots, ())⟩, .val false ⟨K3, (wait, ())⟩, .val false ⟨K3, (lim, ())⟩] ⟨[⟨K26, wnRow m cap slots wait lim⟩, ⟨K4, (wnOk m cap slots wait lim, ())⟩], []⟩ := go10 fun n hn => by
  have hc := wnCount_le m
  have lp : It (fun fuel (_ : Unit) => c10_3 (arun p n) fuel m cap slots wait lim) ((0 : Int), ([] : List (Row K73))) (fun _ => some ⟨[⟨K26, wnRow m cap slots wait lim⟩, ⟨K4, (wnOk m cap slots wait lim, ())⟩], []⟩) := by
    refine It.run (fun i => ((i : Int), nodesTo m cap slots wait lim i)) (wnCount m) (fun i hi fuel u rec => ?_) (It.stop fun fuel u rec => ?_)
    · show c10_3 (arun p n) fuel m cap slots wait lim rec ((i : Int), nodesTo m cap slots wait lim i) = rec (((i + 1 : Nat) : Int), nodesTo m cap slots wait lim (i + 1))
      unfold c10_3; dsimp only; rw [wrap_succ (by omega)]; refine (bif_pos (by unfold mxI; unfold wnCount at hi; simp only [Bool.false_eq_true, if_false]; split <;> omega)).trans ?_
      refine (call_step2 (f37 (i : Int) m cap slots wait lim n (by omega))).trans ?_
      refine (bif_pos ?_).trans ?_
      · show List.length (nodesTo m cap slots wait lim i) + 1 ≤ bound; rw [nodesTo_len]; unfold bound; omega
      · rw [nodesTo_succ]; rfl
    · show c10_3 (arun p n) fuel m cap slots wait lim rec ((wnCount m : Int), nodesTo m cap slots wait lim (wnCount m)) = _
      unfold c10_3; dsimp only; refine (bif_neg (by unfold mxI wnCount; simp only [Bool.false_eq_true, if_false]; split <;> omega)).trans ?_
      refine (call_step (f38 (wnW m cap slots wait lim) (wnW_sz _ _ _ _ _) n (by omega))).trans ?_
      unfold wnRow wnOk
      cases worldOk (wnW m cap slots wait lim) <;> rfl
  exact Ev.eq (fun fuel => by unfold T10; rfl) (lp.ev (i := ()) rfl)
theorem f9 (m cap slots wait lim : Int) : Ran p 9 9 [.val false ⟨K3, (m, ())⟩, .val false ⟨K3, (cap, ())⟩, .val false ⟨K3, (slots, ())⟩, .val false ⟨K3, (wait, ())⟩, .val false ⟨K3, (lim, ())⟩] ⟨[⟨K26, wnRow m cap slots wait lim⟩, ⟨K4, (wnOk m cap slots wait lim, ())⟩], []⟩ := go9 fun n hn => by
  have hc := wnCount_le m
  have hrest : ∀ β, β = (((arun p n 36 [.val true ⟨K26, wnW m cap slots wait lim⟩]).bind (castOut [K4] [])).bind fun o2 => (bif (!(vB o2.1.1.1)) then (some (⟨[⟨K26, (([], [], [], ()) : WorldT)⟩, ⟨K4, (false, ())⟩], []⟩ : Out)) else (some ⟨[⟨K26, wnW m cap slots wait lim⟩, ⟨K4, (true, ())⟩], []⟩))) →
      β = some ⟨[⟨K26, wnRow m cap slots wait lim⟩, ⟨K4, (wnOk m cap slots wait lim, ())⟩], []⟩ := by
    intro β h
    rw [h]
    refine (call_step (f36 (wnW m cap slots wait lim) (wnW_sz _ _ _ _ _) n (by omega))).trans ?_
    unfold wnRow wnOk
    cases worldOk (wnW m cap slots wait lim) <;> rfl
  have lp : It (fun fuel (_ : Unit) => c9_3 (arun p n) fuel m cap slots wait lim) ((0 : Int), ([] : List (Row K73)))
      (fun _ => bif allI (wnCount m) (fun i => nnOk (i : Int) m cap slots wait lim) then some ⟨[⟨K26, wnRow m cap slots wait lim⟩, ⟨K4, (wnOk m cap slots wait lim, ())⟩], []⟩ else some ⟨[⟨K26, (([], [], [], ()) : WorldT)⟩, ⟨K4, (false, ())⟩], []⟩) := by
    refine It.all (fun i => ((i : Int), nodesTo m cap slots wait lim i)) (wnCount m) (fun i => nnOk (i : Int) m cap slots wait lim) (rA := fun _ => (some ⟨[⟨K26, wnRow m cap slots wait lim⟩, ⟨K4, (wnOk m cap slots wait lim, ())⟩], []⟩ : Option Out)) (rB := fun _ => (some ⟨[⟨K26, (([], [], [], ()) : WorldT)⟩, ⟨K4, (false, ())⟩], []⟩ : Option Out)) (fun i hi fuel u rec => ?_) (It.stop fun fuel u rec => ?_)
    · show c9_3 (arun p n) fuel m cap slots wait lim rec ((i : Int), nodesTo m cap slots wait lim i) = bif nnOk (i : Int) m cap slots wait lim then rec (((i + 1 : Nat) : Int), nodesTo m cap slots wait lim (i + 1)) else _
      have hi' : i < m.toNat ∧ i < 6 := by unfold wnCount at hi; omega
      unfold c9_3; dsimp only; rw [wrap_succ (by omega)]; refine (bif_pos (by omega)).trans ?_; refine (bif_pos (by omega)).trans ?_
      refine (call_step2 (f35 (i : Int) m cap slots wait lim n (by omega))).trans ?_
      cases hx : nnOk (i : Int) m cap slots wait lim with
      | false => rfl
      | true =>
        refine (bif_ff rfl).trans ?_
        refine (bif_pos ?_).trans ?_
        · show List.length (nodesTo m cap slots wait lim i) + 1 ≤ bound; rw [nodesTo_len]; unfold bound; omega
        · rw [nodesTo_succ]; rfl
    · show c9_3 (arun p n) fuel m cap slots wait lim rec ((wnCount m : Int), nodesTo m cap slots wait lim (wnCount m)) = _
      refine hrest _ ?_
      unfold c9_3; dsimp only
      by_cases h : ((wnCount m : Nat) : Int) < m
      · refine (bif_pos h).trans ?_
        refine (bif_neg (by unfold wnCount at h ⊢; omega)).trans ?_
        rfl
      · refine (bif_neg h).trans ?_
        rfl
  refine Ev.eq (fun fuel => by unfold T9; rfl) (lp.ev (i := ()) ?_)
  cases hx : allI (wnCount m) (fun i => nnOk (i : Int) m cap slots wait lim) with
  | true => rfl
  | false =>
    show some _ = some _
    unfold wnRow
    rw [wn_false hx]; rfl
theorem sumI_most {α : Type} {c : α → Int} {A : Int} : ∀ (xs : List α), (∀ x ∈ xs, c x ≤ A) → sumI c xs ≤ A * ((xs.length : Nat) : Int)
  | [], _ => by show (0 : Int) ≤ A * ((0 : Nat) : Int); omega
  | x :: xs, h => by
    have h1 := h x (List.mem_cons_self ..)
    have h2 := sumI_most xs fun y hy => h y (List.mem_cons_of_mem _ hy)
    show c x + sumI c xs ≤ A * ((xs.length + 1 : Nat) : Int)
    rw [Int.natCast_succ, Int.mul_add]; omega
theorem node_cn (id n cap slots wait lim : Int) : cnR K73 (nnRow id n cap slots wait lim) ≤ 1000 := by
  unfold nnRow
  cases h : nnOk id n cap slots wait lim with
  | false => exact (by decide : cnR K73 node0 ≤ 1000)
  | true =>
    have hi : inB n 1 5 = true := by unfold nnOk at h; simp only [Bool.and_eq_true] at h; exact h.1
    have hn := inB_iff.1 hi
    have e : cnR K73 (nodeNew id n cap slots wait lim) = 1 + (1 + (0 + (0 + (cnT (.sl K3) (treeOf ([], [], ())).1 + (1 + (1 + (1 + (0 + (cnT (.sl K3) (List.replicate n.toNat (zeroRow K3)) + (cnT (.sl K3) (List.replicate n.toNat (zeroRow K3)) + (cnT (.sl K43) (tableNew n) +
      (1 + (1 + (0 + (1 + (1 + (1 + (cnT (.sl K171) (List.replicate ((5 : Int)).toNat (zeroRow K171)) + 0)))))))))))))))))) := rfl
    have e1 := nums_cn (treeOf ([], [], ())).1
    have e2 : cnT (.sl K3) (List.replicate n.toNat (zeroRow K3)) = 1 * ((n.toNat : Nat) : Int) := (nums_cn _).trans (congrArg (fun k : Nat => 1 * ((k : Nat) : Int)) (List.length_replicate : (List.replicate n.toNat (zeroRow K3)).length = n.toNat))
    have e3 : cnT (.sl K43) (tableNew n) ≤ 100 * (((tableNew n).length : Nat) : Int) := sumI_most (c := cnR K43) _ fun x hx => by
      unfold tableNew at hx; rw [hi] at hx
      rw [List.eq_of_mem_replicate hx]; decide
    have e4 : cnT (.sl K171) (List.replicate ((5 : Int)).toNat (zeroRow K171)) = 15 := by decide
    have l1 := treeOf_len ([], [], ())
    have l2 := tableNew_len hi
    show cnR K73 (nodeNew id n cap slots wait lim) ≤ 1000
    omega
theorem sess_lm (xs : List SessT) (h : xs.length ≤ 4611686018427387904) : LmT (.sl K163) xs := ⟨h, fun i r _ => ⟨trivial, trivial, trivial, trivial, trivial⟩⟩
theorem rises_lm (xs : List RiseT) (h : xs.length ≤ 4611686018427387904) : LmT (.sl K171) xs := ⟨h, fun i r _ => ⟨trivial, trivial, trivial, trivial⟩⟩
theorem at_gt {α : Type} [Inhabited α] {xs : List α} {i : Nat} {r : α} (h : at? xs i = some r) : i < xs.length ∧ gt xs i = r := by
  have h' : xs[i]? = some r := h
  have := (List.getElem?_eq_some_iff.1 h').1
  exact ⟨this, by rw [gt_eq this]; exact (List.getElem?_eq_some_iff.1 h').2⟩
theorem sm_big {n : Nat} (h : n ≤ small) : n ≤ 4611686018427387904 := Nat.le_trans h (by decide)
theorem node_lm (x : NodeT) (h : SzN x) : LmR K73 x :=
  ⟨trivial, trivial, items_lm _ (sm_big h.state.a), floors_lm _ (sm_big h.state.b), nums_lm _ (sm_big h.leaves), trivial, trivial, trivial,
    ⟨sm_big h.list, fun i r hr => by obtain ⟨h1, h2⟩ := at_gt (α := StateT) hr; exact h2 ▸ state_lm _ (h.logs i h1)⟩, nums_lm _ (sm_big h.got), nums_lm _ (sm_big h.acked),
    ⟨sm_big h.seen, fun i r hr => by obtain ⟨h1, h2⟩ := at_gt (α := RowT) hr; exact ⟨nums_lm _ (sm_big (h2 ▸ h.lines i h1)), trivial⟩⟩, trivial, trivial, sess_lm _ (sm_big h.sess), trivial, trivial, trivial, rises_lm _ (sm_big h.rises), trivial⟩
theorem wn_lm (n cap slots wait lim : Int) : LmR K26 (wnRow n cap slots wait lim) := by
  unfold wnRow
  cases wnOk n cap slots wait lim with
  | false => exact ⟨⟨Nat.zero_le _, fun i r h => by cases h⟩, ⟨Nat.zero_le _, fun i r h => by cases h⟩, ⟨Nat.zero_le _, fun i r h => by cases h⟩, trivial⟩
  | true =>
    have h := wnW_sz n cap slots wait lim
    exact ⟨⟨sm_big h.nodes, fun i r hr => by obtain ⟨h1, h2⟩ := at_gt (α := NodeT) hr; exact h2 ▸ node_lm _ (h.node i h1)⟩, ⟨Nat.zero_le _, fun i r h => by cases h⟩, ⟨Nat.zero_le _, fun i r h => by cases h⟩, trivial⟩
theorem wn_cn (n cap slots wait lim : Int) : cnS K26 (wnRow n cap slots wait lim) ≤ 1000000000000 := by
  unfold wnRow
  cases wnOk n cap slots wait lim with
  | false => exact (by decide : cnS K26 (([], [], [], ()) : WorldT) ≤ 1000000000000)
  | true =>
    have e : cnS K26 (wnW n cap slots wait lim) = sumI (cnR K73) (nodesTo n cap slots wait lim (wnCount n)) + (0 + (0 + 0)) := rfl
    have h := sumI_most (c := cnR K73) (A := 1000) (nodesTo n cap slots wait lim (wnCount n)) fun x hx => by
      unfold nodesTo at hx
      obtain ⟨i, _, rfl⟩ := List.mem_map.1 hx
      exact node_cn _ _ _ _ _ _
    have h2 : (List.length (α := Row K73) (nodesTo n cap slots wait lim (wnCount n))) = wnCount n := nodesTo_len n cap slots wait lim (wnCount n)
    have := wnCount_le n
    show cnS K26 (wnW n cap slots wait lim) ≤ 1000000000000
    omega
end Go.Abs.Gz
