/- What the functions of this program answer, part e. -/
import Derived.Test.YtcmcnofamieegaaGreatXd
set_option linter.unusedVariables false
namespace Go.Abs.Vz
open Go Go.Abs
theorem and_bif {α : Type} {a b : Bool} {F R : α} : (bif a then (bif !b then F else R) else F) = bif a && b then R else F := by cases a <;> cases b <;> rfl
theorem two {α : Type} {a b : Bool} {X R : α} : (bif a then (bif b then X else R) else R) = bif a && b then X else R := by cases a <;> cases b <;> rfl
theorem small_max {k : Nat} (h : k ≤ small) : k ≤ maxLen := Nat.le_trans h (by decide)
theorem small_lt {i k : Nat} (hi : i < k) (h : k ≤ small) : i < 9223372036854775807 := Nat.lt_of_lt_of_le hi (Nat.le_trans h (by decide))

theorem f102 (l : LogT) (hl : l.2.2.1.length ≤ small) (hs : ∀ i, i < l.2.2.1.length → SzS (gt l.2.2.1 i)) : Ran p 4 102 [.val true ⟨K65, l⟩] ⟨[⟨K4, (logOk l, ())⟩], []⟩ := go102 fun n hn => by
  have lp : It (fun fuel (_ : Unit) => c102_4 (arun p n) fuel l) (0 : Int) (fun _ => oB (allI l.2.2.1.length fun i => stateOk (gt l.2.2.1 i))) := by
    refine it_and_true (It.allB l.2.2.1.length _ true (fun i hi fuel a rec => ?_) (It.stop fun fuel a rec => ?_))
    · have hb := small_lt hi hl
      show c102_4 (arun p n) fuel l rec (i : Int) = _
      unfold c102_4; rw [wrap_succ hb]; refine (bif_pos (Int.ofNat_lt.2 hi)).trans ?_; refine (bif_pos (Int.natCast_nonneg _)).trans ?_; refine (at_step hi).trans ?_; refine (call_step (f68 (gt l.2.2.1 i) (small_max (hs i hi).a) (small_max (hs i hi).b) n (by omega))).trans ?_; exact fin
    · show c102_4 (arun p n) fuel l rec (l.2.2.1.length : Int) = _
      unfold c102_4; refine (bif_neg (Int.lt_irrefl _)).trans ?_; rfl
  obtain ⟨N, hN⟩ := lp.all_i
  refine ⟨N, fun fuel hf => ?_⟩
  show T102 (arun p n) fuel l = oB (logOk l)
  unfold T102 logOk; refine (call_step (f84 l.1 1 8 n (by omega))).trans ?_; refine bchk fun _ => ?_; refine bchkP fun _ => ?_; refine (call_step (f84 l.2.1 0 100000 n (by omega))).trans ?_; refine bchk fun _ => ?_; refine bchkP fun _ => ?_; exact hN fuel hf ()
theorem f103 (l : LogT) (hl : l.2.2.1.length ≤ small) (hs : ∀ i, i < l.2.2.1.length → SzS (gt l.2.2.1 i)) : Ran p 4 103 [.val true ⟨K65, l⟩] ⟨[⟨K4, (logOk l, ())⟩], []⟩ := go103 fun n hn => by
  have lp : It (fun fuel (_ : Unit) => c103_2 (arun p n) fuel l) (0 : Int) (fun _ => oB (logOkI l)) := by
    refine It.allB l.2.2.1.length _ _ (fun i hi fuel a rec => ?_) (It.stop fun fuel a rec => ?_)
    · have hb := small_lt hi hl
      show c103_2 (arun p n) fuel l rec (i : Int) = _
      unfold c103_2; rw [wrap_succ hb]; refine (bif_pos (Int.ofNat_lt.2 hi)).trans ?_; refine (bif_pos (Int.natCast_nonneg _)).trans ?_; refine (at_step hi).trans ?_; refine (call_step (f73 (gt l.2.2.1 i) (small_max (hs i hi).a) (small_max (hs i hi).b) n (by omega))).trans ?_; exact fin
    · show c103_2 (arun p n) fuel l rec (l.2.2.1.length : Int) = _
      unfold c103_2; refine (bif_neg (Int.lt_irrefl _)).trans ?_; refine (call_step (f90 l.1 1 8 n (by omega))).trans ?_; refine bchkT fun _ => ?_; refine bchkT fun _ => ?_; refine (call_step (f90 l.2.1 0 100000 n (by omega))).trans ?_; refine bchkT fun _ => ?_; rfl
  rw [logOk_I] at lp
  exact Ev.eq (fun fuel => by unfold T103; rfl) (lp.ev (i := ()) rfl)
theorem f58 (l : LogT) (hl : l.2.2.1.length ≤ small) (hs : ∀ i, i < l.2.2.1.length → SzS (gt l.2.2.1 i)) : Ran p 5 58 [.val true ⟨K65, l⟩] ⟨[⟨K3, (logSeq l, ())⟩], []⟩ := go58 fun n hn => Ev.now fun fuel => by
  unfold T58 logSeq; refine (call_step (f102 l hl hs n (by omega))).trans ?_; cases logOk l <;> rfl
theorem f61 (l : LogT) (hl : l.2.2.1.length ≤ small) (hs : ∀ i, i < l.2.2.1.length → SzS (gt l.2.2.1 i)) : Ran p 5 61 [.val true ⟨K65, l⟩] ⟨[⟨K3, (logSeq l, ())⟩], []⟩ := go61 fun n hn => Ev.now fun fuel => by
  unfold T61 logSeq; refine (call_step (f103 l hl hs n (by omega))).trans ?_; cases logOk l <;> rfl
theorem f124 (v : List NumT) (m : Int) (hv : v.length ≤ small) : Ran p 2 124 [.val false ⟨K60, (v, ())⟩, .val false ⟨K3, (m, ())⟩] ⟨[⟨K4, (vecOk v m, ())⟩], []⟩ := go124 fun n hn => by
  have lp : ∃ N, ∀ fuel, N ≤ fuel → (((v.length : Nat) : Int) == m) = true → iter (c124_4 (arun p n) fuel v m) fuel (0 : Int) = oB (allI v.length fun i => inB (gt v i).1 0 100000) := by
    cases he : ((v.length : Nat) : Int) == m with
    | false => exact ⟨0, fun _ _ h => by cases h⟩
    | true =>
      have e : m = ((v.length : Nat) : Int) := (eq_of_beq he).symm
      subst e
      have lp : It (fun fuel (_ : Unit) => c124_4 (arun p n) fuel v ((v.length : Nat) : Int)) (0 : Int) (fun _ => oB (allI v.length fun i => inB (gt v i).1 0 100000)) := by
        refine it_and_true (It.allB v.length _ true (fun i hi fuel a rec => ?_) (It.stop fun fuel a rec => ?_))
        · have hb := small_lt hi hv
          show c124_4 (arun p n) fuel v ((v.length : Nat) : Int) rec (i : Int) = _
          unfold c124_4; rw [wrap_succ hb]; refine (bif_pos (Int.ofNat_lt.2 hi)).trans ?_; refine (bif_pos (Int.natCast_nonneg _)).trans ?_; refine (at_step hi).trans ?_; refine (call_step (f84 (gt v i).1 0 100000 n (by omega))).trans ?_; exact fin
        · show c124_4 (arun p n) fuel v ((v.length : Nat) : Int) rec (v.length : Int) = _
          unfold c124_4; refine (bif_neg (Int.lt_irrefl _)).trans ?_; rfl
      obtain ⟨N, hN⟩ := lp.all_i
      exact ⟨N, fun fuel hf _ => hN fuel hf ()⟩
  obtain ⟨N, hN⟩ := lp
  refine ⟨N, fun fuel hf => ?_⟩
  show T124 (arun p n) fuel v m = oB (vecOk v m)
  unfold T124 vecOk; refine (call_step (f84 m 1 5 n (by omega))).trans ?_; refine bchk fun _ => ?_; refine bchk fun h => ?_; exact hN fuel hf h
theorem f136 (v : List NumT) (m : Int) (hv : v.length ≤ small) : Ran p 2 136 [.val false ⟨K60, (v, ())⟩, .val false ⟨K3, (m, ())⟩] ⟨[⟨K4, (vecOk v m, ())⟩], []⟩ := go136 fun n hn => by
  have lp : It (fun fuel (_ : Unit) => c136_2 (arun p n) fuel v m) (0 : Int) (fun _ => oB (vecOkI v m)) := by
    refine It.allB v.length _ _ (fun i hi fuel a rec => ?_) (It.stop fun fuel a rec => ?_)
    · have hb := small_lt hi hv
      show c136_2 (arun p n) fuel v m rec (i : Int) = _
      unfold c136_2; rw [wrap_succ hb]; refine (bif_pos (Int.ofNat_lt.2 hi)).trans ?_; refine (bif_pos (Int.natCast_nonneg _)).trans ?_; refine (at_step hi).trans ?_; refine (call_step (f90 (gt v i).1 0 100000 n (by omega))).trans ?_; exact fin
    · show c136_2 (arun p n) fuel v m rec (v.length : Int) = _
      unfold c136_2; refine (bif_neg (Int.lt_irrefl _)).trans ?_; refine (call_step (f90 m 1 5 n (by omega))).trans ?_; refine bchkT fun _ => ?_; rfl
  rw [vecOk_I] at lp
  exact Ev.eq (fun fuel => by unfold T136; rfl) (lp.ev (i := ()) rfl)
theorem f125 (t : List RowT) (m : Int) (hv : t.length ≤ small) (hr : ∀ k, k < t.length → (gt t k).1.length ≤ small) : Ran p 2 125 [.val false ⟨K66, (t, ())⟩, .val false ⟨K3, (m, ())⟩] ⟨[⟨K4, (tableOk t m, ())⟩], []⟩ := go125 fun n hn => by
  have inner : ∀ k, k < t.length → It (fun fuel rec4 => c125_9 (arun p n) fuel t m (k : Int) rec4) (0 : Int) (fun (rec4 : Int → Option Out) => bif (allI (gt t k).1.length fun i => inB (gt (gt t k).1 i).1 0 1000) then rec4 ((k + 1 : Nat) : Int) else oB false) := by
    intro k hk
    have hkb := small_lt hk hv
    refine It.all (fun i => (i : Int)) (gt t k).1.length _ (rA := fun (rec4 : Int → Option Out) => rec4 ((k + 1 : Nat) : Int)) (rB := fun _ => oB false) (fun i hi fuel rec4 rec => ?_) (It.stop fun fuel rec4 rec => ?_)
    · have hb := small_lt hi (hr k hk)
      show c125_9 (arun p n) fuel t m (k : Int) rec4 rec (i : Int) = _
      unfold c125_9; rw [wrap_succ hb]; refine (bif_pos (Int.natCast_nonneg _)).trans ?_; refine (at_step hk).trans ?_; refine (bif_pos (Int.ofNat_lt.2 hi)).trans ?_; refine (bif_pos (Int.natCast_nonneg _)).trans ?_; refine (at_step hk).trans ?_; refine (bif_pos (Int.natCast_nonneg _)).trans ?_; refine (at_step hi).trans ?_; refine (call_step (f84 (gt (gt t k).1 i).1 0 1000 n (by omega))).trans ?_; exact fin
    · show c125_9 (arun p n) fuel t m (k : Int) rec4 rec (((gt t k).1.length : Nat) : Int) = _
      unfold c125_9; rw [wrap_succ hkb]; refine (bif_pos (Int.natCast_nonneg _)).trans ?_; refine (at_step hk).trans ?_; refine (bif_neg (Int.lt_irrefl _)).trans ?_; rfl
  have lp : ∃ N, ∀ fuel, N ≤ fuel → (((t.length : Nat) : Int) == m) = true → iter (c125_4 (arun p n) fuel t m) fuel (0 : Int) = oB (allI t.length fun k => lineOk (gt t k)) := by
    cases he : ((t.length : Nat) : Int) == m with
    | false => exact ⟨0, fun _ _ h => by cases h⟩
    | true =>
      have e : m = ((t.length : Nat) : Int) := (eq_of_beq he).symm
      subst e
      have lp : It (fun fuel (_ : Unit) => c125_4 (arun p n) fuel t ((t.length : Nat) : Int)) (0 : Int) (fun _ => oB (allI t.length fun k => lineOk (gt t k))) := by
        refine it_and_true (It.allBE t.length _ true (fun k hk => ?_) (It.stop fun fuel a rec => ?_))
        · obtain ⟨N, hN⟩ := (inner k hk).all_i
          refine ⟨N, fun fuel hf a rec => ?_⟩
          show c125_4 (arun p n) fuel t ((t.length : Nat) : Int) rec (k : Int) = _
          unfold c125_4 lineOk; refine (bif_pos (Int.ofNat_lt.2 hk)).trans ?_; refine (bif_pos (Int.natCast_nonneg _)).trans ?_; refine (at_step hk).trans ?_; refine chk fun _ => ?_; exact hN fuel hf rec
        · show c125_4 (arun p n) fuel t ((t.length : Nat) : Int) rec (t.length : Int) = _
          unfold c125_4; refine (bif_neg (Int.lt_irrefl _)).trans ?_; rfl
      obtain ⟨N, hN⟩ := lp.all_i
      exact ⟨N, fun fuel hf _ => hN fuel hf ()⟩
  obtain ⟨N, hN⟩ := lp
  refine ⟨N, fun fuel hf => ?_⟩
  show T125 (arun p n) fuel t m = oB (tableOk t m)
  unfold T125 tableOk; refine (call_step (f84 m 1 5 n (by omega))).trans ?_; refine bchk fun _ => ?_; refine bchk fun h => ?_; exact hN fuel hf h
theorem f138 (t : List RowT) (m : Int) (hv : t.length ≤ small) (hr : ∀ k, k < t.length → (gt t k).1.length ≤ small) : Ran p 2 138 [.val false ⟨K66, (t, ())⟩, .val false ⟨K3, (m, ())⟩] ⟨[⟨K4, (tableOk t m, ())⟩], []⟩ := go138 fun n hn => by
  have inner : ∀ k, k < t.length → It (fun fuel rec2 => c138_5 (arun p n) fuel t m (gt (α := RowT) t k) (k : Int) rec2) (0 : Int) (fun (rec2 : Int → Option Out) => bif (allI (gt t k).1.length fun i => inB (gt (gt t k).1 i).1 0 1000) then (bif !(((gt t k).1.length : Nat) : Int) == 5 then oB false else rec2 ((k + 1 : Nat) : Int)) else oB false) := by
    intro k hk
    have hkb := small_lt hk hv
    refine It.all (fun i => (i : Int)) (gt t k).1.length _ (rA := fun (rec2 : Int → Option Out) => bif !(((gt t k).1.length : Nat) : Int) == 5 then oB false else rec2 ((k + 1 : Nat) : Int)) (rB := fun _ => oB false) (fun i hi fuel rec2 rec => ?_) (It.stop fun fuel rec2 rec => ?_)
    · have hb := small_lt hi (hr k hk)
      show c138_5 (arun p n) fuel t m (gt (α := RowT) t k) (k : Int) rec2 rec (i : Int) = _
      unfold c138_5; rw [wrap_succ hb]; refine (bif_pos (Int.ofNat_lt.2 hi)).trans ?_; refine (bif_pos (Int.natCast_nonneg _)).trans ?_; refine (at_step hi).trans ?_; refine (call_step (f90 (gt (gt t k).1 i).1 0 1000 n (by omega))).trans ?_; exact fin
    · show c138_5 (arun p n) fuel t m (gt (α := RowT) t k) (k : Int) rec2 rec (((gt t k).1.length : Nat) : Int) = _
      unfold c138_5; rw [wrap_succ hkb]; refine (bif_neg (Int.lt_irrefl _)).trans ?_; rfl
  have lp : It (fun fuel (_ : Unit) => c138_2 (arun p n) fuel t m) (0 : Int) (fun _ => oB (tableOkI t m)) := by
    refine It.allBE t.length _ _ (fun k hk => ?_) (It.stop fun fuel a rec => ?_)
    · obtain ⟨N, hN⟩ := (inner k hk).all_i
      refine ⟨N, fun fuel hf a rec => ?_⟩
      show c138_2 (arun p n) fuel t m rec (k : Int) = _
      unfold c138_2 lineOkI; refine (bif_pos (Int.ofNat_lt.2 hk)).trans ?_; refine (bif_pos (Int.natCast_nonneg _)).trans ?_; refine (at_step hk).trans ?_; exact (hN fuel hf rec).trans and_bif
    · show c138_2 (arun p n) fuel t m rec (t.length : Int) = _
      unfold c138_2; refine (bif_neg (Int.lt_irrefl _)).trans ?_; refine (call_step (f90 m 1 5 n (by omega))).trans ?_; refine bchkT fun _ => ?_; rfl
  rw [tableOk_I] at lp
  exact Ev.eq (fun fuel => by unfold T138; rfl) (lp.ev (i := ()) rfl)
theorem f137 (v : List NumT) (hv : v.length ≤ small) (h0 : 0 < v.length) : Ran p 1 137 [.val false ⟨K60, (v, ())⟩] ⟨[⟨K3, (maxV v, ())⟩], []⟩ := go137 fun n hn => by
  obtain ⟨k, hk⟩ : ∃ k, v.length = k + 1 := ⟨v.length - 1, by omega⟩
  have em : maxV v = maxTo v k := by unfold maxV; rw [hk]; rfl
  rw [em]
  have lp : It (fun fuel (_ : Unit) => c137_5 (arun p n) fuel v) ((gt (α := NumT) v 0).1, (1 : Int)) (fun _ => oI (maxTo v k)) := by
    refine It.run (fun j => (maxTo v j, ((j + 1 : Nat) : Int))) k (fun j hj fuel a rec => ?_) (It.stop fun fuel a rec => ?_)
    · have hj1 : j + 1 < v.length := by omega
      have hb := small_lt hj1 hv
      show c137_5 (arun p n) fuel v rec (maxTo v j, ((j + 1 : Nat) : Int)) = _
      unfold c137_5; dsimp only; rw [wrap_succ hb]; refine (bif_pos (Int.ofNat_lt.2 hj1)).trans ?_; refine (bif_pos (Int.natCast_nonneg _)).trans ?_; refine (at_step hj1).trans ?_; rfl
    · show c137_5 (arun p n) fuel v rec (maxTo v k, ((k + 1 : Nat) : Int)) = _
      unfold c137_5; rw [← hk]; refine (bif_neg (Int.lt_irrefl _)).trans ?_; rfl
  refine Ev.eq (fun fuel => ?_) (lp.ev (i := ()) rfl)
  unfold T137; refine (bif_neg (by show ¬ ((v.length : Int) < 1); omega)).trans ?_; refine (bif_pos (by decide)).trans ?_; exact (at_step (α := NumT) (xs := v) (i := 0) h0)
theorem f163 (nd : NodeT) (x : Int) : Ran p 2 163 [.val true ⟨K70, nd⟩, .val false ⟨K3, (x, ())⟩] ⟨[⟨K4, (peerB nd x, ())⟩], []⟩ := go163 fun n hn => Ev.now fun fuel => by
  unfold T163 peerB; refine (call_step (f90 x 0 (IntKind.i64.wrap (nd.2.1 - 1)) n (by omega))).trans ?_; refine bchkT fun _ => ?_; rfl
theorem f164 (nd : NodeT) (x : Int) (b : Bool) (hv : nd.sess.length ≤ small) : Ran p 1 164 [.val true ⟨K70, nd⟩, .val false ⟨K3, (x, ())⟩, .val false ⟨K4, (b, ())⟩] ⟨[⟨K3, (slotOf nd.sess x b, ())⟩], []⟩ := go164 fun n hn => by
  have lp : It (fun fuel (_ : Unit) => c164_2 (arun p n) fuel nd x b) (0 : Int) (fun _ => oI (slotOf nd.sess x b)) := by
    have := It.first (c := fun fuel (_ : Unit) => c164_2 (arun p n) fuel nd x b) (fun i => (i : Int)) nd.sess.length (fun i => sameSess nd.sess i x b) (fun i _ => oI (i : Int)) (fun _ => oI (-1)) (fun i hi hp fuel a rec => ?_) (fun i hi hp => It.stop fun fuel a rec => ?_) (It.stop fun fuel a rec => ?_)
    · revert this; unfold slotOf
      cases (List.range nd.sess.length).find? (fun i => sameSess nd.sess i x b) <;> exact fun h => h
    · have hb := small_lt hi hv
      show c164_2 (arun p n) fuel nd x b rec (i : Int) = _
      unfold c164_2; rw [wrap_succ hb]; refine (bif_pos (Int.ofNat_lt.2 hi)).trans ?_; refine (bif_pos (Int.natCast_nonneg _)).trans ?_; refine (at_step hi).trans ?_; exact two.trans (bif_ff hp)
    · show c164_2 (arun p n) fuel nd x b rec (i : Int) = _
      unfold c164_2; refine (bif_pos (Int.ofNat_lt.2 hi)).trans ?_; refine (bif_pos (Int.natCast_nonneg _)).trans ?_; refine (at_step hi).trans ?_; exact two.trans (bif_tt hp)
    · show c164_2 (arun p n) fuel nd x b rec (nd.sess.length : Int) = _
      unfold c164_2; refine (bif_neg (Int.lt_irrefl _)).trans ?_; rfl
  exact Ev.eq (fun fuel => by unfold T164; rfl) (lp.ev (i := ()) rfl)
theorem f139 (nd : NodeT) (hv : nd.sess.length ≤ small) : Ran p 3 139 [.val true ⟨K70, nd⟩] ⟨[⟨K4, (sessOkI nd, ())⟩], []⟩ := go139 fun n hn => by
  have lp : It (fun fuel (_ : Unit) => c139_2 (arun p n) fuel nd) (0 : Int) (fun _ => oB (sessOkI nd)) := by
    refine It.allB nd.sess.length _ _ (fun i hi fuel a rec => ?_) (It.stop fun fuel a rec => ?_)
    · have hb := small_lt hi hv
      show c139_2 (arun p n) fuel nd rec (i : Int) = _
      unfold c139_2 sessEachI; rw [wrap_succ hb]; refine (bif_pos (Int.ofNat_lt.2 hi)).trans ?_; refine (bif_pos (Int.natCast_nonneg _)).trans ?_; refine (at_step hi).trans ?_; refine (call_step (f163 nd (gt nd.sess i).1 n (by omega))).trans ?_; refine chk fun _ => ?_; refine (call_step (f90 (gt nd.sess i).2.1 0 100000 n (by omega))).trans ?_; refine chk fun _ => ?_; refine (call_step (f90 (gt nd.sess i).2.2.2.1 0 nd.wait n (by omega))).trans ?_; refine chk fun _ => ?_; refine (call_step (f164 nd (gt nd.sess i).1 (gt nd.sess i).2.2.1 hv n (by omega))).trans ?_; exact fin
    · show c139_2 (arun p n) fuel nd rec (nd.sess.length : Int) = _
      unfold c139_2; refine (bif_neg (Int.lt_irrefl _)).trans ?_; refine (call_step (f90 nd.slots 1 4 n (by omega))).trans ?_; refine bchkT fun _ => ?_; rfl
  exact Ev.eq (fun fuel => by unfold T139; rfl) (lp.ev (i := ()) rfl)
theorem f140 (nd : NodeT) (hv : nd.rises.length ≤ small) : Ran p 2 140 [.val true ⟨K70, nd⟩] ⟨[⟨K4, (risesOkI nd, ())⟩], []⟩ := go140 fun n hn => by
  have lp : It (fun fuel (_ : Unit) => c140_2 (arun p n) fuel nd) (0 : Int) (fun _ => oB (risesOkI nd)) := by
    refine It.allB nd.rises.length _ _ (fun i hi fuel a rec => ?_) (It.stop fun fuel a rec => ?_)
    · have hb := small_lt hi hv
      show c140_2 (arun p n) fuel nd rec (i : Int) = _
      unfold c140_2 riseEach; rw [wrap_succ hb]; refine (bif_pos (Int.ofNat_lt.2 hi)).trans ?_; refine (bif_pos (Int.natCast_nonneg _)).trans ?_; refine (at_step hi).trans ?_; refine (call_step (f90 (gt nd.rises i).1 0 1000 n (by omega))).trans ?_; refine chk fun _ => ?_; refine (call_step (f90 (gt nd.rises i).2.1 0 100000 n (by omega))).trans ?_; refine chk fun _ => ?_; refine (call_step (f90 (gt nd.rises i).2.2.1 0 nd.clock n (by omega))).trans ?_; exact fin
    · show c140_2 (arun p n) fuel nd rec (nd.rises.length : Int) = _
      unfold c140_2; refine (bif_neg (Int.lt_irrefl _)).trans ?_; rfl
  exact Ev.eq (fun fuel => by unfold T140; rfl) (lp.ev (i := ()) rfl)
theorem f126 (nd : NodeT) (hv : nd.sess.length ≤ small) : Ran p 2 126 [.val true ⟨K70, nd⟩] ⟨[⟨K4, (sessOk nd, ())⟩], []⟩ := go126 fun n hn => by
  have inner : ∀ (o3 o4 : Rows [K4] × Rows []) (i : Nat), i < nd.sess.length → It (fun fuel rec4 => c126_10 (arun p n) fuel nd o3 o4 (gt (α := SessT) nd.sess i) (i : Int) rec4) (0 : Int) (fun (rec4 : Int → Option Out) => bif onceB nd.sess i then rec4 ((i + 1 : Nat) : Int) else oB false) := by
    intro o3 o4 i hi
    have hib := small_lt hi hv
    refine It.all (fun k => (k : Int)) i (fun k => !sameSess nd.sess k (gt nd.sess i).1 (gt nd.sess i).2.2.1) (rA := fun (rec4 : Int → Option Out) => rec4 ((i + 1 : Nat) : Int)) (rB := fun _ => oB false) (fun k hk fuel rec4 rec => ?_) (It.stop fun fuel rec4 rec => ?_)
    · have hk' : k < nd.sess.length := by omega
      have hb := small_lt hk' hv
      show c126_10 (arun p n) fuel nd o3 o4 (gt (α := SessT) nd.sess i) (i : Int) rec4 rec (k : Int) = _
      unfold c126_10 sameSess; rw [wrap_succ hb]; refine (bif_pos (Int.ofNat_lt.2 hk)).trans ?_; refine (bif_pos (Int.natCast_nonneg _)).trans ?_; refine (at_step hk').trans ?_
      show (bif (gt nd.sess k).1 == (gt nd.sess i).1 then _ else _) = bif !((gt nd.sess k).1 == (gt nd.sess i).1 && _) then _ else _
      cases (gt nd.sess k).1 == (gt nd.sess i).1 with
      | false => rfl
      | true => refine (bif_tt rfl).trans ?_; refine (bif_pos (Int.natCast_nonneg _)).trans ?_; refine (at_step hk').trans ?_; exact finP
    · show c126_10 (arun p n) fuel nd o3 o4 (gt (α := SessT) nd.sess i) (i : Int) rec4 rec (i : Int) = _
      unfold c126_10; rw [wrap_succ hib]; exact bif_neg (Int.lt_irrefl _)
  have lp : It (fun fuel (_ : Unit) => c126_4 (arun p n) fuel nd) (0 : Int) (fun _ => oB (allI nd.sess.length (sessEach nd nd.sess))) := by
    refine it_and_true (It.allBE nd.sess.length _ true (fun i hi => ?_) (It.stop fun fuel a rec => ?_))
    · obtain ⟨N, hN⟩ := (inner (((inB (gt nd.sess i).2.1 0 100000, ()), ()), ()) (((inB (gt nd.sess i).2.2.2.1 0 nd.wait, ()), ()), ()) i hi).all_i
      refine ⟨N, fun fuel hf a rec => ?_⟩
      show c126_4 (arun p n) fuel nd rec (i : Int) = _
      unfold c126_4 sessEach; refine (bif_pos (Int.ofNat_lt.2 hi)).trans ?_; refine (bif_pos (Int.natCast_nonneg _)).trans ?_; refine (at_step hi).trans ?_; refine (call_step (f84 (gt nd.sess i).1 0 (IntKind.i64.wrap (nd.2.1 - 1)) n (by omega))).trans ?_; refine chk fun _ => ?_; refine chkP fun _ => ?_; refine (call_step (f84 (gt nd.sess i).2.1 0 100000 n (by omega))).trans ?_; refine chk fun _ => ?_; refine (call_step (f84 (gt nd.sess i).2.2.2.1 0 nd.wait n (by omega))).trans ?_; refine chk fun _ => ?_; exact hN fuel hf rec
    · show c126_4 (arun p n) fuel nd rec (nd.sess.length : Int) = _
      unfold c126_4; refine (bif_neg (Int.lt_irrefl _)).trans ?_; rfl
  obtain ⟨N, hN⟩ := lp.all_i
  refine ⟨N, fun fuel hf => ?_⟩
  show T126 (arun p n) fuel nd = oB (sessOk nd)
  unfold T126 sessOk; refine bchkP fun _ => ?_; exact hN fuel hf ()
theorem id_lt {nd : NodeT} (h1 : inB nd.2.1 1 5 = true) (h2 : inB nd.1 0 (IntKind.i64.wrap (nd.2.1 - 1)) = true) (h3 : vecOk nd.got nd.2.1 = true) : ∃ k : Nat, nd.1 = (k : Int) ∧ k < nd.got.length := by
  rw [inB_iff] at h1 h2
  rw [wrap64 (by omega) (by omega)] at h2
  unfold vecOk at h3; simp only [Bool.and_eq_true, beq_iff_eq] at h3
  exact ⟨nd.1.toNat, by omega, by omega⟩
theorem f91 (nd : NodeT) (hz : SzN nd) : Ran p 7 91 [.val true ⟨K70, nd⟩] ⟨[⟨K4, (nodeOk nd, ())⟩], []⟩ := go91 fun n hn => Ev.now fun fuel => by
  rw [← nodeOk_I]
  show T91 (arun p n) fuel nd = oB (nodeOkI nd)
  unfold T91 nodeOkI; refine (call_step (f90 nd.2.1 1 5 n (by omega))).trans ?_; refine bchk fun h1 => ?_; refine (call_step (f90 nd.1 0 (IntKind.i64.wrap (nd.2.1 - 1)) n (by omega))).trans ?_; refine bchk fun h2 => ?_; refine (call_step (f73 nd.state (small_max hz.state.a) (small_max hz.state.b) n (by omega))).trans ?_; refine bchk fun _ => ?_; refine (call_step (f135 nd.state hz.state n (by omega))).trans ?_; refine (call_step (f134 nd.tree (treeOf nd.state) (small_max hz.leaves) n (by omega))).trans ?_; refine bchk fun _ => ?_
  refine (call_step (f61 nd.log hz.list hz.logs n (by omega))).trans ?_; refine (call_step (f103 nd.log hz.list hz.logs n (by omega))).trans ?_; refine bchk fun _ => ?_; refine (call_step (f136 nd.got nd.2.1 hz.got n (by omega))).trans ?_; refine bchk fun h3 => ?_; refine (call_step (f136 nd.acked nd.2.1 hz.acked n (by omega))).trans ?_; refine bchk fun h4 => ?_
  obtain ⟨k, hk, hlt⟩ := id_lt h1 h2 h3
  show (bif decide (0 ≤ nd.1) then ((at? nd.got (nd.1).toNat).bind _) else none) = _
  rw [hk]; refine (bif_pos (Int.natCast_nonneg _)).trans ?_; refine (at_step hlt).trans ?_; refine bchk fun _ => ?_; refine (call_step (f137 nd.acked hz.acked (vecOk_pos h4) n (by omega))).trans ?_; refine bchkP fun _ => ?_; refine (call_step (f138 nd.seen nd.2.1 hz.seen hz.lines n (by omega))).trans ?_; refine bchk fun _ => ?_; refine (call_step (f90 nd.num 0 100000 n (by omega))).trans ?_; refine bchk fun _ => ?_; refine (call_step (f90 nd.clock 0 100000 n (by omega))).trans ?_; refine bchk fun _ => ?_; refine (call_step (f90 nd.wait 1 20 n (by omega))).trans ?_; refine bchkT fun _ => ?_; refine (call_step (f90 nd.limit 1 50 n (by omega))).trans ?_; refine bchkT fun _ => ?_; refine (call_step (f139 nd hz.sess n (by omega))).trans ?_; refine bchkT fun _ => ?_; refine (call_step (f140 nd hz.rises n (by omega))).trans ?_; rfl
theorem f85 (nd : NodeT) (hz : SzN nd) : Ran p 7 85 [.val true ⟨K70, nd⟩] ⟨[⟨K4, (nodeOk nd, ())⟩], []⟩ := go85 fun n hn => by
  have ri : ∃ N, ∀ fuel, N ≤ fuel → (((nd.rises.length : Nat) : Int) == 5) = true → iter (c85_13 (arun p n) fuel nd) fuel (0 : Int) = oB (allI nd.rises.length (riseEach nd) && sessOk nd) := by
    cases he : ((nd.rises.length : Nat) : Int) == 5 with
    | false => exact ⟨0, fun _ _ h => by cases h⟩
    | true =>
      have e : nd.rises.length = 5 := by have := eq_of_beq he; omega
      have lp : It (fun fuel (_ : Unit) => c85_13 (arun p n) fuel nd) (0 : Int) (fun _ => oB (allI 5 (riseEach nd) && sessOk nd)) := by
        refine It.allB 5 _ _ (fun i hi fuel a rec => ?_) (It.stop fun fuel a rec => ?_)
        · have hb : i < 9223372036854775807 := by omega
          have hi' : i < nd.rises.length := by omega
          show c85_13 (arun p n) fuel nd rec (i : Int) = _
          unfold c85_13 riseEach; rw [wrap_succ hb]; refine (bif_pos (by show (i : Int) < 5; omega)).trans ?_; refine (bif_pos (Int.natCast_nonneg _)).trans ?_; refine (at_step hi').trans ?_; refine (call_step (f84 (gt nd.rises i).1 0 1000 n (by omega))).trans ?_; refine chk fun _ => ?_; refine (call_step (f84 (gt nd.rises i).2.1 0 100000 n (by omega))).trans ?_; refine chk fun _ => ?_; refine (call_step (f84 (gt nd.rises i).2.2.1 0 nd.clock n (by omega))).trans ?_; exact fin
        · show c85_13 (arun p n) fuel nd rec (5 : Int) = _
          unfold c85_13; refine (bif_neg (by decide)).trans ?_; refine (call_step (f126 nd hz.sess n (by omega))).trans ?_; rfl
      rw [e]
      obtain ⟨N, hN⟩ := lp.all_i
      exact ⟨N, fun fuel hf _ => hN fuel hf ()⟩
  have ak : ∃ N, ∀ fuel, N ≤ fuel → vecOk nd.acked nd.2.1 = true → iter (c85_6 (arun p n) fuel nd) fuel (0 : Int) = oB (ackOk nd && nodeTail nd) := by
    cases he : vecOk nd.acked nd.2.1 with
    | false => exact ⟨0, fun _ _ h => by cases h⟩
    | true =>
      have e : nd.2.1 = ((nd.acked.length : Nat) : Int) := by unfold vecOk at he; simp only [Bool.and_eq_true, beq_iff_eq] at he; omega
      obtain ⟨M, hM⟩ := ri
      have lp : It (fun fuel (_ : Unit) => c85_6 (arun p n) fuel nd) (0 : Int) (fun _ => oB (ackOk nd && nodeTail nd)) := by
        refine It.allB nd.acked.length _ _ (fun i hi fuel a rec => ?_) (It.stopE (T := fun fuel _ => c85_6 (arun p n) fuel nd (fun _ => none) (nd.acked.length : Int)) (fun fuel a rec => ?_) ⟨M, fun fuel hf a => ?_⟩)
        · have hb := small_lt hi hz.acked
          show c85_6 (arun p n) fuel nd rec (i : Int) = _
          unfold c85_6; rw [wrap_succ hb]; refine (bif_pos (by show (i : Int) < nd.2.1; omega)).trans ?_; refine (bif_pos (Int.natCast_nonneg _)).trans ?_; refine (at_step hi).trans ?_; refine (call_step (f58 nd.log hz.list hz.logs n (by omega))).trans ?_; exact finP
        · show c85_6 (arun p n) fuel nd rec (nd.acked.length : Int) = c85_6 (arun p n) fuel nd (fun _ => none) (nd.acked.length : Int)
          unfold c85_6; refine (bif_neg (by show ¬ ((nd.acked.length : Int) < nd.2.1); omega)).trans ?_; exact (bif_neg (by show ¬ ((nd.acked.length : Int) < nd.2.1); omega)).symm
        · show c85_6 (arun p n) fuel nd (fun _ => none) (nd.acked.length : Int) = oB (nodeTail nd)
          unfold c85_6 nodeTail; refine (bif_neg (by show ¬ ((nd.acked.length : Int) < nd.2.1); omega)).trans ?_
          refine (call_step (f84 nd.num 0 100000 n (by omega))).trans ?_; refine bchk fun _ => ?_; refine (call_step (f84 nd.clock 0 100000 n (by omega))).trans ?_; refine bchk fun _ => ?_; refine (call_step (f84 nd.slots 1 4 n (by omega))).trans ?_; refine bchk fun _ => ?_; refine (call_step (f84 nd.wait 1 20 n (by omega))).trans ?_; refine bchk fun _ => ?_; refine (call_step (f84 nd.limit 1 50 n (by omega))).trans ?_; refine bchk fun _ => ?_; refine bchk fun h5 => ?_; exact hM fuel hf h5
      obtain ⟨N, hN⟩ := lp.all_i
      exact ⟨N, fun fuel hf _ => hN fuel hf ()⟩
  obtain ⟨N, hN⟩ := ak
  refine ⟨N, fun fuel hf => ?_⟩
  show T85 (arun p n) fuel nd = oB (nodeOk nd)
  unfold T85 nodeOk; refine (call_step (f84 nd.2.1 1 5 n (by omega))).trans ?_; refine bchk fun h1 => ?_; refine (call_step (f84 nd.1 0 (IntKind.i64.wrap (nd.2.1 - 1)) n (by omega))).trans ?_; refine bchk fun h2 => ?_; refine (call_step (f68 nd.state (small_max hz.state.a) (small_max hz.state.b) n (by omega))).trans ?_; refine bchk fun _ => ?_; refine (call_step (f123 nd.state hz.state n (by omega))).trans ?_; refine (call_step (f122 nd.tree (treeOf nd.state) (small_max hz.leaves) n (by omega))).trans ?_; refine bchk fun _ => ?_
  refine (call_step (f102 nd.log hz.list hz.logs n (by omega))).trans ?_; refine bchk fun _ => ?_; refine (call_step (f124 nd.got nd.2.1 hz.got n (by omega))).trans ?_; refine bchk fun h3 => ?_; refine (call_step (f124 nd.acked nd.2.1 hz.acked n (by omega))).trans ?_; refine bchk fun h4 => ?_
  obtain ⟨k, hk, hlt⟩ := id_lt h1 h2 h3
  show (bif decide (0 ≤ nd.1) then ((at? nd.got (nd.1).toNat).bind _) else none) = _
  rw [hk]; refine (bif_pos (Int.natCast_nonneg _)).trans ?_; refine (at_step hlt).trans ?_; refine (call_step (f58 nd.log hz.list hz.logs n (by omega))).trans ?_; refine bchk fun _ => ?_; refine (call_step (f125 nd.seen nd.2.1 hz.seen hz.lines n (by omega))).trans ?_; refine bchk fun _ => ?_; exact hN fuel hf h4
theorem f92 (w : WorldT) (x : Int) : Ran p 2 92 [.val true ⟨K33, w⟩, .val false ⟨K3, (x, ())⟩] ⟨[⟨K4, (inB x 0 (IntKind.i64.wrap (((w.1.length : Nat) : Int) - 1)), ())⟩], []⟩ := go92 fun n hn => Ev.now fun fuel => by
  unfold T92; refine (call_step (f90 x 0 (IntKind.i64.wrap (((w.1.length : Nat) : Int) - 1)) n (by omega))).trans ?_; rfl
theorem f39 (w : WorldT) (hz : SzW w) : Ran p 8 39 [.val true ⟨K33, w⟩] ⟨[⟨K4, (worldOk w, ())⟩], []⟩ := go39 fun n hn => by
  have said : It (fun fuel (_ : Unit) => c39_15 (arun p n) fuel w) (0 : Int) (fun _ => oB (allI w.2.2.1.length (saidEach w))) := by
    refine it_and_true (It.allB w.2.2.1.length _ true (fun i hi fuel a rec => ?_) (It.stop fun fuel a rec => ?_))
    · have hb := small_lt hi hz.said
      show c39_15 (arun p n) fuel w rec (i : Int) = _
      unfold c39_15 saidEach; rw [wrap_succ hb]; refine (bif_pos (Int.ofNat_lt.2 hi)).trans ?_; refine (bif_pos (Int.natCast_nonneg _)).trans ?_; refine (at_step hi).trans ?_; refine (call_step (f84 (gt w.2.2.1 i).1 0 (IntKind.i64.wrap (((w.1.length : Nat) : Int) - 1)) n (by omega))).trans ?_; refine chk fun _ => ?_; refine (bif_pos (Int.natCast_nonneg _)).trans ?_; refine (at_step hi).trans ?_; refine (call_step (f68 (gt w.2.2.1 i).2 (small_max (hz.part i hi).a) (small_max (hz.part i hi).b) n (by omega))).trans ?_; exact fin
    · show c39_15 (arun p n) fuel w rec (w.2.2.1.length : Int) = _
      unfold c39_15; refine (bif_neg (Int.lt_irrefl _)).trans ?_; rfl
  have net : It (fun fuel (_ : Unit) => c39_10 (arun p n) fuel w) (0 : Int) (fun _ => oB (allI w.2.1.length (fun i => inB (gt w.2.1 i).1 0 (IntKind.i64.wrap (((w.1.length : Nat) : Int) - 1))) && allI w.2.2.1.length (saidEach w))) := by
    refine It.allB w.2.1.length _ _ (fun i hi fuel a rec => ?_) (It.stopE (T := fun fuel _ => iter (c39_15 (arun p n) fuel w) fuel (0 : Int)) (fun fuel a rec => ?_) said.all_i)
    · have hb := small_lt hi hz.net
      show c39_10 (arun p n) fuel w rec (i : Int) = _
      unfold c39_10; rw [wrap_succ hb]; refine (bif_pos (Int.ofNat_lt.2 hi)).trans ?_; refine (bif_pos (Int.natCast_nonneg _)).trans ?_; refine (at_step hi).trans ?_; refine (call_step (f84 (gt w.2.1 i).1 0 (IntKind.i64.wrap (((w.1.length : Nat) : Int) - 1)) n (by omega))).trans ?_; exact fin
    · show c39_10 (arun p n) fuel w rec (w.2.1.length : Int) = _
      unfold c39_10; refine (bif_neg (Int.lt_irrefl _)).trans ?_; rfl
  have nodes : It (fun fuel (_ : Unit) => c39_5 (arun p n) fuel w) (0 : Int) (fun _ => oB (allI w.1.length (nodeEach w) && (allI w.2.1.length (fun i => inB (gt w.2.1 i).1 0 (IntKind.i64.wrap (((w.1.length : Nat) : Int) - 1))) && allI w.2.2.1.length (saidEach w)))) := by
    refine It.allB w.1.length _ _ (fun i hi fuel a rec => ?_) (It.stopE (T := fun fuel _ => iter (c39_10 (arun p n) fuel w) fuel (0 : Int)) (fun fuel a rec => ?_) net.all_i)
    · have hb := small_lt hi hz.nodes
      show c39_5 (arun p n) fuel w rec (i : Int) = _
      unfold c39_5 nodeEach; rw [wrap_succ hb]; refine (bif_pos (Int.ofNat_lt.2 hi)).trans ?_; refine (bif_pos (Int.natCast_nonneg _)).trans ?_; refine (at_step hi).trans ?_; refine (call_step (f85 (gt w.1 i) (hz.node i hi) n (by omega))).trans ?_; refine chk fun _ => ?_; refine (bif_pos (Int.natCast_nonneg _)).trans ?_; refine (at_step hi).trans ?_; refine chk fun _ => ?_; refine (bif_pos (Int.natCast_nonneg _)).trans ?_; refine (at_step hi).trans ?_; exact fin
    · show c39_5 (arun p n) fuel w rec (w.1.length : Int) = _
      unfold c39_5; refine (bif_neg (Int.lt_irrefl _)).trans ?_; rfl
  obtain ⟨N, hN⟩ := nodes.all_i
  refine ⟨N, fun fuel hf => ?_⟩
  show T39 (arun p n) fuel w = oB (worldOk w)
  unfold T39 worldOk; refine (call_step (f84 ((w.1.length : Nat) : Int) 1 5 n (by omega))).trans ?_; refine bchk fun _ => ?_; refine bchkP fun _ => ?_; refine bchkP fun _ => ?_; exact hN fuel hf ()
theorem f45 (w : WorldT) (hz : SzW w) : Ran p 8 45 [.val true ⟨K33, w⟩] ⟨[⟨K4, (worldOk w, ())⟩], []⟩ := go45 fun n hn => by
  have said : It (fun fuel (_ : Unit) => c45_16 (arun p n) fuel w) (0 : Int) (fun _ => oB (allI w.2.2.1.length (saidEach w))) := by
    refine it_and_true (It.allB w.2.2.1.length _ true (fun i hi fuel a rec => ?_) (It.stop fun fuel a rec => ?_))
    · have hb := small_lt hi hz.said
      show c45_16 (arun p n) fuel w rec (i : Int) = _
      unfold c45_16 saidEach; rw [wrap_succ hb]; refine (bif_pos (Int.ofNat_lt.2 hi)).trans ?_; refine (bif_pos (Int.natCast_nonneg _)).trans ?_; refine (at_step hi).trans ?_; refine (call_step (f92 w (gt w.2.2.1 i).1 n (by omega))).trans ?_; refine chk fun _ => ?_; refine (call_step (f73 (gt w.2.2.1 i).2 (small_max (hz.part i hi).a) (small_max (hz.part i hi).b) n (by omega))).trans ?_; exact fin
    · show c45_16 (arun p n) fuel w rec (w.2.2.1.length : Int) = _
      unfold c45_16; refine (bif_neg (Int.lt_irrefl _)).trans ?_; rfl
  have net : It (fun fuel (_ : Unit) => c45_10 (arun p n) fuel w) (0 : Int) (fun _ => oB (allI w.2.1.length (fun i => inB (gt w.2.1 i).1 0 (IntKind.i64.wrap (((w.1.length : Nat) : Int) - 1))) && allI w.2.2.1.length (saidEach w))) := by
    refine It.allB w.2.1.length _ _ (fun i hi fuel a rec => ?_) (It.stopE (T := fun fuel _ => iter (c45_16 (arun p n) fuel w) fuel (0 : Int)) (fun fuel a rec => ?_) said.all_i)
    · have hb := small_lt hi hz.net
      show c45_10 (arun p n) fuel w rec (i : Int) = _
      unfold c45_10; rw [wrap_succ hb]; refine (bif_pos (Int.ofNat_lt.2 hi)).trans ?_; refine (bif_pos (Int.natCast_nonneg _)).trans ?_; refine (at_step hi).trans ?_; refine (call_step (f92 w (gt w.2.1 i).1 n (by omega))).trans ?_; exact fin
    · show c45_10 (arun p n) fuel w rec (w.2.1.length : Int) = _
      unfold c45_10; refine (bif_neg (Int.lt_irrefl _)).trans ?_; rfl
  have nodes : It (fun fuel (_ : Unit) => c45_4 (arun p n) fuel w) (0 : Int) (fun _ => oB (allI w.1.length (nodeEach w) && (allI w.2.1.length (fun i => inB (gt w.2.1 i).1 0 (IntKind.i64.wrap (((w.1.length : Nat) : Int) - 1))) && allI w.2.2.1.length (saidEach w)))) := by
    refine It.allB w.1.length _ _ (fun i hi fuel a rec => ?_) (It.stopE (T := fun fuel _ => iter (c45_10 (arun p n) fuel w) fuel (0 : Int)) (fun fuel a rec => ?_) net.all_i)
    · have hb := small_lt hi hz.nodes
      show c45_4 (arun p n) fuel w rec (i : Int) = _
      unfold c45_4 nodeEach; rw [wrap_succ hb]; refine (bif_pos (Int.ofNat_lt.2 hi)).trans ?_; refine (bif_pos (Int.natCast_nonneg _)).trans ?_; refine (at_step hi).trans ?_; refine (call_step (f91 (gt w.1 i) (hz.node i hi) n (by omega))).trans ?_; refine chk fun _ => ?_; refine chk fun _ => ?_; exact fin
    · show c45_4 (arun p n) fuel w rec (w.1.length : Int) = _
      unfold c45_4; refine (bif_neg (Int.lt_irrefl _)).trans ?_; rfl
  obtain ⟨N, hN⟩ := nodes.all_i
  refine ⟨N, fun fuel hf => ?_⟩
  show T45 (arun p n) fuel w = oB (worldOk w)
  unfold T45 worldOk; refine (call_step (f90 ((w.1.length : Nat) : Int) 1 5 n (by omega))).trans ?_; refine bchk fun _ => ?_; refine bchkP fun _ => ?_; refine bchkP fun _ => ?_; exact hN fuel hf ()
end Go.Abs.Vz
