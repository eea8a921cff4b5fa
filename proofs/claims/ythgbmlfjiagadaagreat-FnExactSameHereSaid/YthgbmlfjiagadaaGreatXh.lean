/- What the functions of this program answer, part h. -/
import Derived.Test.YthgbmlfjiagadaaGreatXf
import Derived.Test.YthgbmlfjiagadaaGreatW2
set_option linter.unusedVariables false
namespace Go.Abs.Tz
open Go Go.Abs
theorem f23 (w : WorldT) (v : List NumT) (hz : SzW w) : Ran p 9 23 [.val true ⟨K28, w⟩, .val false ⟨K41, (v, ())⟩] ⟨[⟨K4, (sideOk w v, ())⟩], []⟩ := go23 fun n hn => Ev.now fun fuel => by
  unfold T23 sideOk; refine (call_step (f13 w hz n (by omega))).trans ?_; refine bchkT fun _ => ?_; rfl
theorem f25 (w : WorldT) (v : List NumT) (hz : SzW w) : Ran p 9 25 [.val true ⟨K28, w⟩, .val false ⟨K41, (v, ())⟩] ⟨[⟨K4, (sideOk w v, ())⟩], []⟩ := go25 fun n hn => Ev.now fun fuel => by
  unfold T25 sideOk; refine (call_step (f16 w hz n (by omega))).trans ?_; refine bchkT fun _ => ?_; rfl
theorem f68 (s : StateT) (hz : SzS s) : Ran p 4 68 [.val true ⟨K55, s⟩] ⟨[⟨K52, (viewS s, ())⟩], []⟩ := go68 fun n hn => by
  cases hs : stateOk s with
  | false =>
    refine Ev.now fun fuel => ?_
    unfold T68 viewS; refine (call_step (f41 s (small_max hz.a) (small_max hz.b) n (by omega))).trans ?_; rw [hs]; rfl
  | true =>
    have lp : It (fun fuel (_ : Unit) => c68_5 (arun p n) fuel s) ((0 : Int), ([] : List ItemT)) (fun _ => some ⟨[⟨K52, (s.1.filter (fun x : ItemT => x.2.2.1 == 0), ())⟩], []⟩) := by
      refine It.accu (α := ItemT) [] (fun i => bif (gt s.1 i).2.2.1 == 0 then [gt s.1 i] else []) s.1.length 1 (fun i hi => by cases (gt s.1 i).2.2.1 == 0 <;> simp) (fun i hi acc ha fuel a rec => ?_) (It.stop fun fuel a rec => ?_)
      · have hb := small_lt hi hz.a
        have hl : s.1.length ≤ 1048576 := hz.a
        show c68_5 (arun p n) fuel s rec ((i : Int), acc) = _
        unfold c68_5; dsimp only; rw [wrap_succ hb]; refine (bif_pos (Int.ofNat_lt.2 hi)).trans ?_; refine (bif_pos (Int.natCast_nonneg _)).trans ?_; refine (at_step hi).trans ?_
        cases hq : (gt s.1 i).2.2.1 == 0 with
        | false => refine (bif_ff rfl).trans ?_; exact (congrArg (fun l : List ItemT => rec (((i + 1 : Nat) : Int), l)) (List.append_nil acc).symm : _)
        | true => refine (bif_tt rfl).trans ?_; refine (bif_pos (Int.natCast_nonneg _)).trans ?_; refine (at_step hi).trans ?_; refine (bif_pos (by rw [hq] at ha; have : acc.length + 1 ≤ 0 + s.1.length * 1 := ha; show acc.length + 1 ≤ 4294967296; omega)).trans ?_; rfl
      · show c68_5 (arun p n) fuel s rec ((s.1.length : Int), accL (α := ItemT) s.1.length (fun i => bif (gt s.1 i).2.2.1 == 0 then [gt s.1 i] else [])) = _
        unfold c68_5; refine (bif_neg (Int.lt_irrefl _)).trans ?_; exact congrArg (fun l : List ItemT => (some ⟨[⟨K52, (l, ())⟩], []⟩ : Option Out)) ((accL_flat (fun x : ItemT => bif x.2.2.1 == 0 then [x] else []) s.1).trans (filter_flat _ _))
    have e : viewS s = s.1.filter (fun x : ItemT => x.2.2.1 == 0) := by unfold viewS; rw [hs]; rfl
    rw [e]
    exact Ev.eq (fun fuel => by unfold T68; refine (call_step (f41 s (small_max hz.a) (small_max hz.b) n (by omega))).trans ?_; rw [hs]; rfl) (lp.ev (i := ()) rfl)
theorem f58 (s : StateT) (hz : SzS s) : Ran p 4 58 [.val true ⟨K55, s⟩] ⟨[⟨K52, (viewS s, ())⟩], []⟩ := go58 fun n hn => by
  cases hs : stateOk s with
  | false =>
    refine Ev.now fun fuel => ?_
    unfold T58 viewS; refine (call_step (f51 s (small_max hz.a) (small_max hz.b) n (by omega))).trans ?_; rw [hs]; rfl
  | true =>
    have lp : It (fun fuel (_ : Unit) => c58_5 (arun p n) fuel s) ((0 : Int), ([] : List ItemT)) (fun _ => some ⟨[⟨K52, (s.1.filter (fun x : ItemT => x.2.2.1 == 0), ())⟩], []⟩) := by
      refine It.accu (α := ItemT) [] (fun i => bif (gt s.1 i).2.2.1 == 0 then [gt s.1 i] else []) s.1.length 1 (fun i hi => by cases (gt s.1 i).2.2.1 == 0 <;> simp) (fun i hi acc ha fuel a rec => ?_) (It.stop fun fuel a rec => ?_)
      · have hb := small_lt hi hz.a
        have hl : s.1.length ≤ 1048576 := hz.a
        show c58_5 (arun p n) fuel s rec ((i : Int), acc) = _
        unfold c58_5; dsimp only; rw [wrap_succ hb]; refine (bif_pos (Int.ofNat_lt.2 hi)).trans ?_; refine (bif_pos (Int.natCast_nonneg _)).trans ?_; refine (at_step hi).trans ?_
        cases hq : (gt s.1 i).2.2.1 == 0 with
        | false => refine (bif_ff rfl).trans ?_; exact (congrArg (fun l : List ItemT => rec (((i + 1 : Nat) : Int), l)) (List.append_nil acc).symm : _)
        | true => refine (bif_tt rfl).trans ?_; refine (bif_pos (by rw [hq] at ha; have : acc.length + 1 ≤ 0 + s.1.length * 1 := ha; show acc.length + 1 ≤ 4294967296; omega)).trans ?_; rfl
      · show c58_5 (arun p n) fuel s rec ((s.1.length : Int), accL (α := ItemT) s.1.length (fun i => bif (gt s.1 i).2.2.1 == 0 then [gt s.1 i] else [])) = _
        unfold c58_5; refine (bif_neg (Int.lt_irrefl _)).trans ?_; exact congrArg (fun l : List ItemT => (some ⟨[⟨K52, (l, ())⟩], []⟩ : Option Out)) ((accL_flat (fun x : ItemT => bif x.2.2.1 == 0 then [x] else []) s.1).trans (filter_flat _ _))
    have e : viewS s = s.1.filter (fun x : ItemT => x.2.2.1 == 0) := by unfold viewS; rw [hs]; rfl
    rw [e]
    exact Ev.eq (fun fuel => by unfold T58; refine (call_step (f51 s (small_max hz.a) (small_max hz.b) n (by omega))).trans ?_; rw [hs]; rfl) (lp.ev (i := ()) rfl)
theorem f19 (w : WorldT) (hz : SzW w) : Ran p 9 19 [.val true ⟨K28, w⟩] ⟨[⟨K4, (clearedI w, ())⟩], []⟩ := go19 fun n hn => by
  have inner : ∀ k, k < w.1.length → It (fun fuel rec2 => c19_5 (arun p n) fuel w (gt (α := NodeT) w.1 k) (k : Int) rec2) (0 : Int) (fun (rec2 : Int → Option Out) => bif allI (gt w.1 k).state.1.length (fun i => !((gt (gt w.1 k).state.1 i).2.2.1 == 1)) then rec2 ((k + 1 : Nat) : Int) else oB false) := by
    intro k hk
    have hkb := small_lt hk hz.nodes
    refine It.all (fun i => (i : Int)) (gt w.1 k).state.1.length _ (rA := fun (rec2 : Int → Option Out) => rec2 ((k + 1 : Nat) : Int)) (rB := fun _ => oB false) (fun i hi fuel rec2 rec => ?_) (It.stop fun fuel rec2 rec => ?_)
    · have hb := small_lt hi (hz.node k hk).state.a
      show c19_5 (arun p n) fuel w (gt (α := NodeT) w.1 k) (k : Int) rec2 rec (i : Int) = _
      unfold c19_5; rw [wrap_succ hb]; refine (bif_pos (Int.ofNat_lt.2 hi)).trans ?_; refine (bif_pos (Int.natCast_nonneg _)).trans ?_; refine (at_step hi).trans ?_; exact finP
    · show c19_5 (arun p n) fuel w (gt (α := NodeT) w.1 k) (k : Int) rec2 rec (((gt w.1 k).state.1.length : Nat) : Int) = _
      unfold c19_5; rw [wrap_succ hkb]; refine (bif_neg (Int.lt_irrefl _)).trans ?_; rfl
  have lp : It (fun fuel (_ : Unit) => c19_2 (arun p n) fuel w) (0 : Int) (fun _ => oB (clearedI w)) := by
    refine It.allBE w.1.length _ _ (fun k hk => ?_) (It.stop fun fuel a rec => ?_)
    · obtain ⟨N, hN⟩ := (inner k hk).all_i
      refine ⟨N, fun fuel hf a rec => ?_⟩
      show c19_2 (arun p n) fuel w rec (k : Int) = _
      unfold c19_2; refine (bif_pos (Int.ofNat_lt.2 hk)).trans ?_; refine (bif_pos (Int.natCast_nonneg _)).trans ?_; refine (at_step hk).trans ?_; exact hN fuel hf rec
    · show c19_2 (arun p n) fuel w rec (w.1.length : Int) = _
      unfold c19_2; refine (bif_neg (Int.lt_irrefl _)).trans ?_; refine (call_step (f16 w hz n (by omega))).trans ?_; rfl
  exact Ev.eq (fun fuel => by unfold T19; rfl) (lp.ev (i := ()) rfl)
theorem f27 (w : WorldT) (hz : SzW w) : Ran p 9 27 [.val true ⟨K28, w⟩] ⟨[⟨K4, (clearedS w, ())⟩], []⟩ := go27 fun n hn => by
  have lp : It (fun fuel (_ : Unit) => c27_4 (arun p n) fuel w) (0 : Int) (fun _ => oB (allI w.1.length fun i => (((viewS (gt w.1 i).state).length : Nat) : Int) == (((gt w.1 i).state.1.length : Nat) : Int))) := by
    refine it_and_true (It.allB w.1.length _ true (fun i hi fuel a rec => ?_) (It.stop fun fuel a rec => ?_))
    · have hb := small_lt hi hz.nodes
      show c27_4 (arun p n) fuel w rec (i : Int) = _
      unfold c27_4; rw [wrap_succ hb]; refine (bif_pos (Int.ofNat_lt.2 hi)).trans ?_; refine (bif_pos (Int.natCast_nonneg _)).trans ?_; refine (at_step hi).trans ?_; refine (call_step (f68 (gt w.1 i).state (hz.node i hi).state n (by omega))).trans ?_; exact fin
    · show c27_4 (arun p n) fuel w rec (w.1.length : Int) = _
      unfold c27_4; refine (bif_neg (Int.lt_irrefl _)).trans ?_; rfl
  obtain ⟨N, hN⟩ := lp.all_i
  refine ⟨N, fun fuel hf => ?_⟩
  show T27 (arun p n) fuel w = oB (clearedS w)
  unfold T27 clearedS; refine (call_step (f13 w hz n (by omega))).trans ?_; refine bchk fun _ => ?_; exact hN fuel hf ()
theorem f94 (a b : List ItemT) (ha : a.length ≤ maxLen) : Ran p 1 94 [.val false ⟨K52, (a, ())⟩, .val false ⟨K52, (b, ())⟩] ⟨[⟨K4, (sameItems a b, ())⟩], []⟩ := go94 fun n hn => by
  have lp : ∃ N, ∀ fuel, N ≤ fuel → (((a.length : Nat) : Int) == ((b.length : Nat) : Int)) = true → iter (c94_4 (arun p n) fuel a b) fuel (0 : Int) = oB (allI a.length fun i => eqItem (gt a i) (gt b i)) := by
    cases he : ((a.length : Nat) : Int) == ((b.length : Nat) : Int) with
    | false => exact ⟨0, fun _ _ h => by cases h⟩
    | true =>
      have e : a.length = b.length := by have := eq_of_beq he; omega
      have lp : It (fun fuel (_ : Unit) => c94_4 (arun p n) fuel a b) (0 : Int) (fun _ => oB (allI a.length fun i => eqItem (gt a i) (gt b i))) := by
        refine it_and_true (It.allB a.length _ true (fun i hi fuel a' rec => ?_) (It.stop fun fuel a' rec => ?_))
        · have hb : i < 9223372036854775807 := Nat.lt_of_lt_of_le hi ha
          show c94_4 (arun p n) fuel a b rec (i : Int) = _
          unfold c94_4; rw [wrap_succ hb]; refine (bif_pos (Int.ofNat_lt.2 hi)).trans ?_; refine (bif_pos (Int.natCast_nonneg _)).trans ?_; refine (at_step hi).trans ?_; refine (bif_pos (Int.natCast_nonneg _)).trans ?_; refine (at_step (show i < b.length by omega)).trans ?_; exact fin
        · show c94_4 (arun p n) fuel a b rec (a.length : Int) = _
          unfold c94_4; refine (bif_neg (Int.lt_irrefl _)).trans ?_; rfl
      obtain ⟨N, hN⟩ := lp.all_i
      exact ⟨N, fun fuel hf _ => hN fuel hf ()⟩
  obtain ⟨N, hN⟩ := lp
  refine ⟨N, fun fuel hf => ?_⟩
  show T94 (arun p n) fuel a b = oB (sameItems a b)
  unfold T94 sameItems; refine bchk fun h => ?_; exact hN fuel hf h
theorem f36 (a b : StateT) (ha : SzS a) : Ran p 1 36 [.val true ⟨K55, a⟩, .val true ⟨K55, b⟩] ⟨[⟨K4, (sameState a b, ())⟩], []⟩ := go36 fun n hn => by
  have fl : ∃ N, ∀ fuel, N ≤ fuel → (((a.2.1.length : Nat) : Int) == ((b.2.1.length : Nat) : Int)) = true → iter (c36_9 (arun p n) fuel a b) fuel (0 : Int) = oB (allI a.2.1.length fun i => eqFloor (gt a.2.1 i) (gt b.2.1 i)) := by
    cases he : ((a.2.1.length : Nat) : Int) == ((b.2.1.length : Nat) : Int) with
    | false => exact ⟨0, fun _ _ h => by cases h⟩
    | true =>
      have e : a.2.1.length = b.2.1.length := by have := eq_of_beq he; omega
      have lp : It (fun fuel (_ : Unit) => c36_9 (arun p n) fuel a b) (0 : Int) (fun _ => oB (allI a.2.1.length fun i => eqFloor (gt a.2.1 i) (gt b.2.1 i))) := by
        refine it_and_true (It.allB a.2.1.length _ true (fun i hi fuel a' rec => ?_) (It.stop fun fuel a' rec => ?_))
        · have hb := small_lt hi ha.b
          show c36_9 (arun p n) fuel a b rec (i : Int) = _
          unfold c36_9; rw [wrap_succ hb]; refine (bif_pos (Int.ofNat_lt.2 hi)).trans ?_; refine (bif_pos (Int.natCast_nonneg _)).trans ?_; refine (at_step hi).trans ?_; refine (bif_pos (Int.natCast_nonneg _)).trans ?_; refine (at_step (show i < b.2.1.length by omega)).trans ?_; exact fin
        · show c36_9 (arun p n) fuel a b rec (a.2.1.length : Int) = _
          unfold c36_9; refine (bif_neg (Int.lt_irrefl _)).trans ?_; rfl
      obtain ⟨N, hN⟩ := lp.all_i
      exact ⟨N, fun fuel hf _ => hN fuel hf ()⟩
  have it : ∃ N, ∀ fuel, N ≤ fuel → (((a.1.length : Nat) : Int) == ((b.1.length : Nat) : Int)) = true → (((a.2.1.length : Nat) : Int) == ((b.2.1.length : Nat) : Int)) = true → iter (c36_4 (arun p n) fuel a b) fuel (0 : Int) = oB (allI a.1.length (fun i => eqItem (gt a.1 i) (gt b.1 i)) && allI a.2.1.length fun i => eqFloor (gt a.2.1 i) (gt b.2.1 i)) := by
    cases he : ((a.1.length : Nat) : Int) == ((b.1.length : Nat) : Int) with
    | false => exact ⟨0, fun _ _ h => by cases h⟩
    | true =>
      cases he2 : ((a.2.1.length : Nat) : Int) == ((b.2.1.length : Nat) : Int) with
      | false => exact ⟨0, fun _ _ _ h => by cases h⟩
      | true =>
        have e : a.1.length = b.1.length := by have := eq_of_beq he; omega
        obtain ⟨M, hM⟩ := fl
        have lp : It (fun fuel (_ : Unit) => c36_4 (arun p n) fuel a b) (0 : Int) (fun _ => oB (allI a.1.length (fun i => eqItem (gt a.1 i) (gt b.1 i)) && allI a.2.1.length fun i => eqFloor (gt a.2.1 i) (gt b.2.1 i))) := by
          refine It.allB a.1.length _ _ (fun i hi fuel a' rec => ?_) (It.stopE (T := fun fuel _ => iter (c36_9 (arun p n) fuel a b) fuel (0 : Int)) (fun fuel a' rec => ?_) ⟨M, fun fuel hf _ => hM fuel hf he2⟩)
          · have hb := small_lt hi ha.a
            show c36_4 (arun p n) fuel a b rec (i : Int) = _
            unfold c36_4; rw [wrap_succ hb]; refine (bif_pos (Int.ofNat_lt.2 hi)).trans ?_; refine (bif_pos (Int.natCast_nonneg _)).trans ?_; refine (at_step hi).trans ?_; refine (bif_pos (Int.natCast_nonneg _)).trans ?_; refine (at_step (show i < b.1.length by omega)).trans ?_; exact fin
          · show c36_4 (arun p n) fuel a b rec (a.1.length : Int) = _
            unfold c36_4; refine (bif_neg (Int.lt_irrefl _)).trans ?_; rfl
        obtain ⟨N, hN⟩ := lp.all_i
        exact ⟨N, fun fuel hf _ _ => hN fuel hf ()⟩
  obtain ⟨N, hN⟩ := it
  refine ⟨N, fun fuel hf => ?_⟩
  show T36 (arun p n) fuel a b = oB (sameState a b)
  unfold T36 sameState; refine bchk fun h => ?_; refine bchk fun h' => ?_; exact hN fuel hf h h'
theorem f69 (a b : List ItemT) (ha : a.length ≤ small) : Ran p 2 69 [.val false ⟨K52, (a, ())⟩, .val false ⟨K52, (b, ())⟩] ⟨[⟨K4, (sameItems a b, ())⟩], []⟩ := go69 fun n hn => Ev.now fun fuel => by
  unfold T69; refine (call_step (f36 (a, [], ()) (b, [], ()) ⟨ha, Nat.zero_le _⟩ n (by omega))).trans ?_; exact congrArg (fun x : Bool => (some ⟨[⟨K4, (x, ())⟩], []⟩ : Option Out)) (sameState_items a b)
theorem f43 (a b : StateT) (ha : SzS a) (hb : SzS b) : Ran p 5 43 [.val true ⟨K55, a⟩, .val true ⟨K55, b⟩] ⟨[⟨K4, (sameItems (viewS a) (viewS b), ())⟩], []⟩ := go43 fun n hn => Ev.now fun fuel => by
  unfold T43; refine (call_step (f58 a ha n (by omega))).trans ?_; refine (call_step (f58 b hb n (by omega))).trans ?_; refine (call_step (f94 (viewS a) (viewS b) (small_max (viewS_len ha)) n (by omega))).trans ?_; rfl
theorem f28 (w : WorldT) (v : List NumT) (hz : SzW w) (hv : v.length ≤ small) : Ran p 10 28 [.val true ⟨K28, w⟩, .val false ⟨K41, (v, ())⟩] ⟨[⟨K4, (hereS w v, ())⟩], []⟩ := go28 fun n hn => by
  have inner : v.length = w.1.length → ∀ k, k < v.length → It (fun fuel rec4 => c28_7 (arun p n) fuel w v (k : Int) rec4) (0 : Int) (fun (rec4 : Int → Option Out) => bif allI k (fun i => hereB w v k i) then rec4 ((k + 1 : Nat) : Int) else oB false) := by
    intro e k hk
    have hkb := small_lt hk hv
    have hk' : k < w.1.length := e ▸ hk
    refine It.all (fun i => (i : Int)) k _ (rA := fun (rec4 : Int → Option Out) => rec4 ((k + 1 : Nat) : Int)) (rB := fun _ => oB false) (fun i hi fuel rec4 rec => ?_) (It.stop fun fuel rec4 rec => ?_)
    · have hi' : i < v.length := by omega
      have hi2 : i < w.1.length := by omega
      have hb := small_lt hi' hv
      show c28_7 (arun p n) fuel w v (k : Int) rec4 rec (i : Int) = _
      unfold c28_7 hereB; rw [wrap_succ hb]; refine (bif_pos (Int.ofNat_lt.2 hi)).trans ?_; refine (bif_pos (Int.natCast_nonneg _)).trans ?_; refine (at_step hk).trans ?_; refine (bif_pos (Int.natCast_nonneg _)).trans ?_; refine (at_step hi').trans ?_
      show (bif (gt v k).1 == (gt v i).1 then _ else _) = bif (!((gt v k).1 == (gt v i).1) || _) then _ else _
      cases (gt v k).1 == (gt v i).1 with
      | false => rfl
      | true => refine (bif_tt rfl).trans ?_; refine (bif_pos (Int.natCast_nonneg _)).trans ?_; refine (at_step hk').trans ?_; refine (call_step (f68 (gt w.1 k).state (hz.node k hk').state n (by omega))).trans ?_; refine (bif_pos (Int.natCast_nonneg _)).trans ?_; refine (at_step hi2).trans ?_; refine (call_step (f68 (gt w.1 i).state (hz.node i hi2).state n (by omega))).trans ?_; refine (call_step (f69 (viewS (gt w.1 k).state) (viewS (gt w.1 i).state) (viewS_len (hz.node k hk').state) n (by omega))).trans ?_; exact fin
    · show c28_7 (arun p n) fuel w v (k : Int) rec4 rec (k : Int) = _
      unfold c28_7; rw [wrap_succ hkb]; exact bif_neg (Int.lt_irrefl _)
  have lp : ∃ N, ∀ fuel, N ≤ fuel → sideOk w v = true → iter (c28_4 (arun p n) fuel w v) fuel (0 : Int) = oB (allI v.length fun k => allI k fun i => hereB w v k i) := by
    cases he : sideOk w v with
    | false => exact ⟨0, fun _ _ h => by cases h⟩
    | true =>
      have e := sideOk_len he
      have lp : It (fun fuel (_ : Unit) => c28_4 (arun p n) fuel w v) (0 : Int) (fun _ => oB (allI v.length fun k => allI k fun i => hereB w v k i)) := by
        refine it_and_true (It.allBE v.length _ true (fun k hk => ?_) (It.stop fun fuel a rec => ?_))
        · obtain ⟨N, hN⟩ := (inner e k hk).all_i
          refine ⟨N, fun fuel hf a rec => ?_⟩
          show c28_4 (arun p n) fuel w v rec (k : Int) = _
          unfold c28_4; refine (bif_pos (Int.ofNat_lt.2 hk)).trans ?_; exact hN fuel hf rec
        · show c28_4 (arun p n) fuel w v rec (v.length : Int) = _
          unfold c28_4; refine (bif_neg (Int.lt_irrefl _)).trans ?_; rfl
      obtain ⟨N, hN⟩ := lp.all_i
      exact ⟨N, fun fuel hf _ => hN fuel hf ()⟩
  obtain ⟨N, hN⟩ := lp
  refine ⟨N, fun fuel hf => ?_⟩
  show T28 (arun p n) fuel w v = oB (hereS w v)
  unfold T28 hereS; refine (call_step (f23 w v hz n (by omega))).trans ?_; refine bchk fun h => ?_; exact hN fuel hf h
theorem f29 (w : WorldT) (v : List NumT) (hz : SzW w) (hv : v.length ≤ small) : Ran p 10 29 [.val true ⟨K28, w⟩, .val false ⟨K41, (v, ())⟩] ⟨[⟨K4, (hereI w v, ())⟩], []⟩ := go29 fun n hn => by
  have inner : v.length = w.1.length → ∀ k, k < w.1.length → It (fun fuel rec4 => c29_7 (arun p n) fuel w v (gt (α := NodeT) w.1 k) (k : Int) rec4) (0 : Int) (fun (rec4 : Int → Option Out) => bif allI w.1.length (fun i => hereB w v k i) then rec4 ((k + 1 : Nat) : Int) else oB false) := by
    intro e k hk
    have hkb := small_lt hk hz.nodes
    have hk' : k < v.length := e ▸ hk
    refine It.all (fun i => (i : Int)) w.1.length _ (rA := fun (rec4 : Int → Option Out) => rec4 ((k + 1 : Nat) : Int)) (rB := fun _ => oB false) (fun i hi fuel rec4 rec => ?_) (It.stop fun fuel rec4 rec => ?_)
    · have hi2 : i < v.length := by omega
      have hb := small_lt hi hz.nodes
      show c29_7 (arun p n) fuel w v (gt (α := NodeT) w.1 k) (k : Int) rec4 rec (i : Int) = _
      unfold c29_7 hereB; rw [wrap_succ hb]; refine (bif_pos (Int.ofNat_lt.2 hi)).trans ?_; refine (bif_pos (Int.natCast_nonneg _)).trans ?_; refine (at_step hi).trans ?_; refine (bif_pos (Int.natCast_nonneg _)).trans ?_; refine (at_step hk').trans ?_; refine (bif_pos (Int.natCast_nonneg _)).trans ?_; refine (at_step hi2).trans ?_
      show (bif (gt v k).1 == (gt v i).1 then _ else _) = bif (!((gt v k).1 == (gt v i).1) || _) then _ else _
      cases (gt v k).1 == (gt v i).1 with
      | false => rfl
      | true => refine (bif_tt rfl).trans ?_; refine (call_step (f43 (gt w.1 k).state (gt w.1 i).state (hz.node k hk).state (hz.node i hi).state n (by omega))).trans ?_; exact fin
    · show c29_7 (arun p n) fuel w v (gt (α := NodeT) w.1 k) (k : Int) rec4 rec (w.1.length : Int) = _
      unfold c29_7; rw [wrap_succ hkb]; exact bif_neg (Int.lt_irrefl _)
  have lp : ∃ N, ∀ fuel, N ≤ fuel → sideOk w v = true → iter (c29_4 (arun p n) fuel w v) fuel (0 : Int) = oB (allI w.1.length fun k => allI w.1.length fun i => hereB w v k i) := by
    cases he : sideOk w v with
    | false => exact ⟨0, fun _ _ h => by cases h⟩
    | true =>
      have e := sideOk_len he
      have lp : It (fun fuel (_ : Unit) => c29_4 (arun p n) fuel w v) (0 : Int) (fun _ => oB (allI w.1.length fun k => allI w.1.length fun i => hereB w v k i)) := by
        refine it_and_true (It.allBE w.1.length _ true (fun k hk => ?_) (It.stop fun fuel a rec => ?_))
        · obtain ⟨N, hN⟩ := (inner e k hk).all_i
          refine ⟨N, fun fuel hf a rec => ?_⟩
          show c29_4 (arun p n) fuel w v rec (k : Int) = _
          unfold c29_4; refine (bif_pos (Int.ofNat_lt.2 hk)).trans ?_; refine (bif_pos (Int.natCast_nonneg _)).trans ?_; refine (at_step hk).trans ?_; exact hN fuel hf rec
        · show c29_4 (arun p n) fuel w v rec (w.1.length : Int) = _
          unfold c29_4; refine (bif_neg (Int.lt_irrefl _)).trans ?_; rfl
      obtain ⟨N, hN⟩ := lp.all_i
      exact ⟨N, fun fuel hf _ => hN fuel hf ()⟩
  obtain ⟨N, hN⟩ := lp
  refine ⟨N, fun fuel hf => ?_⟩
  show T29 (arun p n) fuel w v = oB (hereI w v)
  unfold T29 hereI; refine (call_step (f25 w v hz n (by omega))).trans ?_; refine bchk fun h => ?_; exact hN fuel hf h
theorem exactSideOk (w : WorldT) (v : List NumT) (hok : ROkay K37 w) (hv : ROkay K41 (v, ())) : Ran p 10 5 [.val true ⟨K37, w⟩, .val false ⟨K41, (v, ())⟩] trueOut := go5 fun n hn => Ev.now fun fuel => by
  unfold T5
  by_cases hl : ((v.length : Nat) : Int) > 1048576
  · exact bif_pos hl
  · refine (bif_neg hl).trans ?_
    obtain ⟨r, fr, gr⟩ := sz20 w 1048576 hok (by decide) (by decide)
    refine (call_step (fr n (by omega))).trans ?_
    by_cases hr : r < 0
    · exact bif_pos hr
    · have hs : Small K37 w := (gr (by omega)).2
      have hz : SzW w := szW_of hs
      have hsv : Small K41 (v, ()) := ssm (by show v.length ≤ 1048576; omega) fun i r _ => smk trivial trivial
      refine (bif_neg hr).trans ?_; refine (call_step (to21 w hs n (by omega))).trans ?_; refine (call_step (to24 v hsv n (by omega))).trans ?_; refine (call_step (f23 w v hz n (by omega))).trans ?_; refine (call_step (to21 w hs n (by omega))).trans ?_; refine (call_step (to24 v hsv n (by omega))).trans ?_; refine (call_step (f25 w v hz n (by omega))).trans ?_
      refine (bif_ff (by show (!(beqB (sideOk w v) (sideOk w v))) = false; rw [beqB_self]; rfl)).trans ?_
      refine (call_step (to21 w hs n (by omega))).trans ?_; refine (call_step (eq22 w hs n (by omega))).trans ?_; refine (bif_ff rfl).trans ?_; refine (call_step (to24 v hsv n (by omega))).trans ?_; refine (call_step (eq26 v hsv n (by omega))).trans ?_; rfl
theorem exactCleared (w : WorldT) (hok : ROkay K37 w) : Ran p 10 6 [.val true ⟨K37, w⟩] trueOut := go6 fun n hn => Ev.now fun fuel => by
  obtain ⟨r, fr, gr⟩ := sz20 w 1048576 hok (by decide) (by decide)
  unfold T6; refine (call_step (fr n (by omega))).trans ?_
  by_cases hr : r < 0
  · exact bif_pos hr
  · have hs : Small K37 w := (gr (by omega)).2
    have hz : SzW w := szW_of hs
    refine (bif_neg hr).trans ?_; refine (call_step (to21 w hs n (by omega))).trans ?_; refine (call_step (f27 w hz n (by omega))).trans ?_; refine (call_step (to21 w hs n (by omega))).trans ?_; refine (call_step (f19 w hz n (by omega))).trans ?_
    refine (bif_ff (by show (!(beqB (clearedI w) (clearedS w))) = false; rw [cleared_I, beqB_self]; rfl)).trans ?_
    refine (call_step (to21 w hs n (by omega))).trans ?_; refine (call_step (eq22 w hs n (by omega))).trans ?_; rfl
theorem exactSameHere (w : WorldT) (v : List NumT) (hok : ROkay K37 w) (hv : ROkay K41 (v, ())) : Ran p 11 7 [.val true ⟨K37, w⟩, .val false ⟨K41, (v, ())⟩] trueOut := go7 fun n hn => Ev.now fun fuel => by
  unfold T7
  by_cases hl : ((v.length : Nat) : Int) > 1048576
  · exact bif_pos hl
  · refine (bif_neg hl).trans ?_
    obtain ⟨r, fr, gr⟩ := sz20 w 1048576 hok (by decide) (by decide)
    refine (call_step (fr n (by omega))).trans ?_
    by_cases hr : r < 0
    · exact bif_pos hr
    · have hs : Small K37 w := (gr (by omega)).2
      have hz : SzW w := szW_of hs
      have hvl : v.length ≤ small := by show v.length ≤ 1048576; omega
      have hsv : Small K41 (v, ()) := ssm hvl fun i r _ => smk trivial trivial
      refine (bif_neg hr).trans ?_; refine (call_step (to21 w hs n (by omega))).trans ?_; refine (call_step (to24 v hsv n (by omega))).trans ?_; refine (call_step (f28 w v hz hvl n (by omega))).trans ?_; refine (call_step (to21 w hs n (by omega))).trans ?_; refine (call_step (to24 v hsv n (by omega))).trans ?_; refine (call_step (f29 w v hz hvl n (by omega))).trans ?_
      refine (bif_ff (by show (!(beqB (hereI w v) (hereS w v))) = false; rw [here_I, beqB_self]; rfl)).trans ?_
      refine (call_step (to21 w hs n (by omega))).trans ?_; refine (call_step (eq22 w hs n (by omega))).trans ?_; refine (bif_ff rfl).trans ?_; refine (call_step (to24 v hsv n (by omega))).trans ?_; refine (call_step (eq26 v hsv n (by omega))).trans ?_; rfl
end Go.Abs.Tz
