/- What the functions of this program answer, part e. -/
import Derived.Test.YthgekoledembcaaGreatXd
set_option linter.unusedVariables false
namespace Go.Abs.Gz
open Go Go.Abs
theorem and_bif {α : Type} {a b : Bool} {F R : α} : (bif a then (bif !b then F else R) else F) = bif a && b then R else F := by cases a <;> cases b <;> rfl
theorem two {α : Type} {a b : Bool} {X R : α} : (bif a then (bif b then X else R) else R) = bif a && b then X else R := by cases a <;> cases b <;> rfl
theorem small_max {k : Nat} (h : k ≤ small) : k ≤ maxLen := Nat.le_trans h (by decide)
theorem small_lt {i k : Nat} (hi : i < k) (h : k ≤ small) : i < 9223372036854775807 := Nat.lt_of_lt_of_le hi (Nat.le_trans h (by decide))

theorem f131 (l : LogT) (hl : l.2.2.1.length ≤ small) (hs : ∀ i, i < l.2.2.1.length → SzS (gt l.2.2.1 i)) : Ran p 4 131 [.val true ⟨K68, l⟩] ⟨[⟨K4, (logOk l, ())⟩], []⟩ := go131 fun n hn => by
 have lp : It (fun fuel (_ : Unit) => c131_4 (arun p n) fuel l) (0 : Int) (fun _ => oB (allI l.2.2.1.length fun i => stateOk (gt l.2.2.1 i))) := by
  refine it_and_true (It.allB l.2.2.1.length _ true (fun i hi fuel a rec => ?_) (It.stop fun fuel a rec => ?_))
  ·have hb := small_lt hi hl
   show c131_4 (arun p n) fuel l rec (i : Int) = _
   unfold c131_4; rw [wrap_succ hb]; refine (bif_pos (Int.ofNat_lt.2 hi)).trans ?_; refine (bif_pos (Int.natCast_nonneg _)).trans ?_; refine (at_step hi).trans ?_; refine (call_step (f53 (gt l.2.2.1 i) (small_max (hs i hi).a) (small_max (hs i hi).b) n (by omega))).trans ?_; exact fin
  ·show c131_4 (arun p n) fuel l rec (l.2.2.1.length : Int) = _
   unfold c131_4; refine (bif_neg (Int.lt_irrefl _)).trans ?_; rfl
 obtain ⟨N, hN⟩ := lp.all_i
 refine ⟨N, fun fuel hf => ?_⟩
 show T131 (arun p n) fuel l = oB (logOk l)
 unfold T131 logOk; refine (call_step (f70 l.1 1 8 n (by omega))).trans ?_; refine bchk fun _ => ?_; refine bchkP fun _ => ?_; refine (call_step (f70 l.2.1 0 100000 n (by omega))).trans ?_; refine bchk fun _ => ?_; refine bchkP fun _ => ?_; exact hN fuel hf ()
theorem f140 (l : LogT) (hl : l.2.2.1.length ≤ small) (hs : ∀ i, i < l.2.2.1.length → SzS (gt l.2.2.1 i)) : Ran p 4 140 [.val true ⟨K68, l⟩] ⟨[⟨K4, (logOk l, ())⟩], []⟩ := go140 fun n hn => by
 have lp : It (fun fuel (_ : Unit) => c140_2 (arun p n) fuel l) (0 : Int) (fun _ => oB (logOkI l)) := by
  refine It.allB l.2.2.1.length _ _ (fun i hi fuel a rec => ?_) (It.stop fun fuel a rec => ?_)
  ·have hb := small_lt hi hl
   show c140_2 (arun p n) fuel l rec (i : Int) = _
   unfold c140_2; rw [wrap_succ hb]; refine (bif_pos (Int.ofNat_lt.2 hi)).trans ?_; refine (bif_pos (Int.natCast_nonneg _)).trans ?_; refine (at_step hi).trans ?_; refine (call_step (f60 (gt l.2.2.1 i) (small_max (hs i hi).a) (small_max (hs i hi).b) n (by omega))).trans ?_; exact fin
  ·show c140_2 (arun p n) fuel l rec (l.2.2.1.length : Int) = _
   unfold c140_2; refine (bif_neg (Int.lt_irrefl _)).trans ?_; refine (call_step (f71 l.1 1 8 n (by omega))).trans ?_; refine bchkT fun _ => ?_; refine bchkT fun _ => ?_; refine (call_step (f71 l.2.1 0 100000 n (by omega))).trans ?_; refine bchkT fun _ => ?_; rfl
 rw [logOk_I] at lp
 exact Ev.eq (fun fuel => by unfold T140; rfl) (lp.ev (i := ()) rfl)
theorem f133 (l : LogT) (hl : l.2.2.1.length ≤ small) (hs : ∀ i, i < l.2.2.1.length → SzS (gt l.2.2.1 i)) : Ran p 5 133 [.val true ⟨K68, l⟩] ⟨[⟨K3, (logSeq l, ())⟩], []⟩ := go133 fun n hn => Ev.now fun fuel => by
 unfold T133 logSeq; refine (call_step (f131 l hl hs n (by omega))).trans ?_; cases logOk l <;> rfl
theorem f139 (l : LogT) (hl : l.2.2.1.length ≤ small) (hs : ∀ i, i < l.2.2.1.length → SzS (gt l.2.2.1 i)) : Ran p 5 139 [.val true ⟨K68, l⟩] ⟨[⟨K3, (logSeq l, ())⟩], []⟩ := go139 fun n hn => Ev.now fun fuel => by
 unfold T139 logSeq; refine (call_step (f140 l hl hs n (by omega))).trans ?_; cases logOk l <;> rfl
theorem f132 (v : List NumT) (m : Int) (hv : v.length ≤ small) : Ran p 2 132 [.val false ⟨K43, (v, ())⟩, .val false ⟨K3, (m, ())⟩] ⟨[⟨K4, (vecOk v m, ())⟩], []⟩ := go132 fun n hn => by
 have lp : ∃ N, ∀ fuel, N ≤ fuel → (((v.length : Nat) : Int) == m) = true → iter (c132_4 (arun p n) fuel v m) fuel (0 : Int) = oB (allI v.length fun i => inB (gt v i).1 0 100000) := by
  cases he : ((v.length : Nat) : Int) == m with
  | false => exact ⟨0, fun _ _ h => by cases h⟩
  | true =>
   have e : m = ((v.length : Nat) : Int) := (eq_of_beq he).symm
   subst e
   have lp : It (fun fuel (_ : Unit) => c132_4 (arun p n) fuel v ((v.length : Nat) : Int)) (0 : Int) (fun _ => oB (allI v.length fun i => inB (gt v i).1 0 100000)) := by
    refine it_and_true (It.allB v.length _ true (fun i hi fuel a rec => ?_) (It.stop fun fuel a rec => ?_))
    ·have hb := small_lt hi hv
     show c132_4 (arun p n) fuel v ((v.length : Nat) : Int) rec (i : Int) = _
     unfold c132_4; rw [wrap_succ hb]; refine (bif_pos (Int.ofNat_lt.2 hi)).trans ?_; refine (bif_pos (Int.natCast_nonneg _)).trans ?_; refine (at_step hi).trans ?_; refine (call_step (f70 (gt v i).1 0 100000 n (by omega))).trans ?_; exact fin
    ·show c132_4 (arun p n) fuel v ((v.length : Nat) : Int) rec (v.length : Int) = _
     unfold c132_4; refine (bif_neg (Int.lt_irrefl _)).trans ?_; rfl
   obtain ⟨N, hN⟩ := lp.all_i
   exact ⟨N, fun fuel hf _ => hN fuel hf ()⟩
 obtain ⟨N, hN⟩ := lp
 refine ⟨N, fun fuel hf => ?_⟩
 show T132 (arun p n) fuel v m = oB (vecOk v m)
 unfold T132 vecOk; refine (call_step (f70 m 1 5 n (by omega))).trans ?_; refine bchk fun _ => ?_; refine bchk fun h => ?_; exact hN fuel hf h
theorem f141 (v : List NumT) (m : Int) (hv : v.length ≤ small) : Ran p 2 141 [.val false ⟨K43, (v, ())⟩, .val false ⟨K3, (m, ())⟩] ⟨[⟨K4, (vecOk v m, ())⟩], []⟩ := go141 fun n hn => by
 have lp : It (fun fuel (_ : Unit) => c141_2 (arun p n) fuel v m) (0 : Int) (fun _ => oB (vecOkI v m)) := by
  refine It.allB v.length _ _ (fun i hi fuel a rec => ?_) (It.stop fun fuel a rec => ?_)
  ·have hb := small_lt hi hv
   show c141_2 (arun p n) fuel v m rec (i : Int) = _
   unfold c141_2; rw [wrap_succ hb]; refine (bif_pos (Int.ofNat_lt.2 hi)).trans ?_; refine (bif_pos (Int.natCast_nonneg _)).trans ?_; refine (at_step hi).trans ?_; refine (call_step (f71 (gt v i).1 0 100000 n (by omega))).trans ?_; exact fin
  ·show c141_2 (arun p n) fuel v m rec (v.length : Int) = _
   unfold c141_2; refine (bif_neg (Int.lt_irrefl _)).trans ?_; refine (call_step (f71 m 1 5 n (by omega))).trans ?_; refine bchkT fun _ => ?_; rfl
 rw [vecOk_I] at lp
 exact Ev.eq (fun fuel => by unfold T141; rfl) (lp.ev (i := ()) rfl)
theorem f134 (t : List RowT) (m : Int) (hv : t.length ≤ small) (hr : ∀ k, k < t.length → (gt t k).1.length ≤ small) : Ran p 2 134 [.val false ⟨K69, (t, ())⟩, .val false ⟨K3, (m, ())⟩] ⟨[⟨K4, (tableOk t m, ())⟩], []⟩ := go134 fun n hn => by
 have inner : ∀ k, k < t.length → It (fun fuel rec4 => c134_9 (arun p n) fuel t m (k : Int) rec4) (0 : Int) (fun (rec4 : Int → Option Out) => bif (allI (gt t k).1.length fun i => inB (gt (gt t k).1 i).1 0 1000) then rec4 ((k + 1 : Nat) : Int) else oB false) := by
  intro k hk
  have hkb := small_lt hk hv
  refine It.all (fun i => (i : Int)) (gt t k).1.length _ (rA := fun (rec4 : Int → Option Out) => rec4 ((k + 1 : Nat) : Int)) (rB := fun _ => oB false) (fun i hi fuel rec4 rec => ?_) (It.stop fun fuel rec4 rec => ?_)
  ·have hb := small_lt hi (hr k hk)
   show c134_9 (arun p n) fuel t m (k : Int) rec4 rec (i : Int) = _
   unfold c134_9; rw [wrap_succ hb]; refine (bif_pos (Int.natCast_nonneg _)).trans ?_; refine (at_step hk).trans ?_; refine (bif_pos (Int.ofNat_lt.2 hi)).trans ?_; refine (bif_pos (Int.natCast_nonneg _)).trans ?_; refine (at_step hk).trans ?_; refine (bif_pos (Int.natCast_nonneg _)).trans ?_; refine (at_step hi).trans ?_; refine (call_step (f70 (gt (gt t k).1 i).1 0 1000 n (by omega))).trans ?_; exact fin
  ·show c134_9 (arun p n) fuel t m (k : Int) rec4 rec (((gt t k).1.length : Nat) : Int) = _
   unfold c134_9; rw [wrap_succ hkb]; refine (bif_pos (Int.natCast_nonneg _)).trans ?_; refine (at_step hk).trans ?_; refine (bif_neg (Int.lt_irrefl _)).trans ?_; rfl
 have lp : ∃ N, ∀ fuel, N ≤ fuel → (((t.length : Nat) : Int) == m) = true → iter (c134_4 (arun p n) fuel t m) fuel (0 : Int) = oB (allI t.length fun k => lineOk (gt t k)) := by
  cases he : ((t.length : Nat) : Int) == m with
  | false => exact ⟨0, fun _ _ h => by cases h⟩
  | true =>
   have e : m = ((t.length : Nat) : Int) := (eq_of_beq he).symm
   subst e
   have lp : It (fun fuel (_ : Unit) => c134_4 (arun p n) fuel t ((t.length : Nat) : Int)) (0 : Int) (fun _ => oB (allI t.length fun k => lineOk (gt t k))) := by
    refine it_and_true (It.allBE t.length _ true (fun k hk => ?_) (It.stop fun fuel a rec => ?_))
    ·obtain ⟨N, hN⟩ := (inner k hk).all_i
     refine ⟨N, fun fuel hf a rec => ?_⟩
     show c134_4 (arun p n) fuel t ((t.length : Nat) : Int) rec (k : Int) = _
     unfold c134_4 lineOk; refine (bif_pos (Int.ofNat_lt.2 hk)).trans ?_; refine (bif_pos (Int.natCast_nonneg _)).trans ?_; refine (at_step hk).trans ?_; refine chk fun _ => ?_; exact hN fuel hf rec
    ·show c134_4 (arun p n) fuel t ((t.length : Nat) : Int) rec (t.length : Int) = _
     unfold c134_4; refine (bif_neg (Int.lt_irrefl _)).trans ?_; rfl
   obtain ⟨N, hN⟩ := lp.all_i
   exact ⟨N, fun fuel hf _ => hN fuel hf ()⟩
 obtain ⟨N, hN⟩ := lp
 refine ⟨N, fun fuel hf => ?_⟩
 show T134 (arun p n) fuel t m = oB (tableOk t m)
 unfold T134 tableOk; refine (call_step (f70 m 1 5 n (by omega))).trans ?_; refine bchk fun _ => ?_; refine bchk fun h => ?_; exact hN fuel hf h
theorem f143 (t : List RowT) (m : Int) (hv : t.length ≤ small) (hr : ∀ k, k < t.length → (gt t k).1.length ≤ small) : Ran p 2 143 [.val false ⟨K69, (t, ())⟩, .val false ⟨K3, (m, ())⟩] ⟨[⟨K4, (tableOk t m, ())⟩], []⟩ := go143 fun n hn => by
 have inner : ∀ k, k < t.length → It (fun fuel rec2 => c143_5 (arun p n) fuel t m (gt (α := RowT) t k) (k : Int) rec2) (0 : Int) (fun (rec2 : Int → Option Out) => bif (allI (gt t k).1.length fun i => inB (gt (gt t k).1 i).1 0 1000) then (bif !(((gt t k).1.length : Nat) : Int) == 5 then oB false else rec2 ((k + 1 : Nat) : Int)) else oB false) := by
  intro k hk
  have hkb := small_lt hk hv
  refine It.all (fun i => (i : Int)) (gt t k).1.length _ (rA := fun (rec2 : Int → Option Out) => bif !(((gt t k).1.length : Nat) : Int) == 5 then oB false else rec2 ((k + 1 : Nat) : Int)) (rB := fun _ => oB false) (fun i hi fuel rec2 rec => ?_) (It.stop fun fuel rec2 rec => ?_)
  ·have hb := small_lt hi (hr k hk)
   show c143_5 (arun p n) fuel t m (gt (α := RowT) t k) (k : Int) rec2 rec (i : Int) = _
   unfold c143_5; rw [wrap_succ hb]; refine (bif_pos (Int.ofNat_lt.2 hi)).trans ?_; refine (bif_pos (Int.natCast_nonneg _)).trans ?_; refine (at_step hi).trans ?_; refine (call_step (f71 (gt (gt t k).1 i).1 0 1000 n (by omega))).trans ?_; exact fin
  ·show c143_5 (arun p n) fuel t m (gt (α := RowT) t k) (k : Int) rec2 rec (((gt t k).1.length : Nat) : Int) = _
   unfold c143_5; rw [wrap_succ hkb]; refine (bif_neg (Int.lt_irrefl _)).trans ?_; rfl
 have lp : It (fun fuel (_ : Unit) => c143_2 (arun p n) fuel t m) (0 : Int) (fun _ => oB (tableOkI t m)) := by
  refine It.allBE t.length _ _ (fun k hk => ?_) (It.stop fun fuel a rec => ?_)
  ·obtain ⟨N, hN⟩ := (inner k hk).all_i
   refine ⟨N, fun fuel hf a rec => ?_⟩
   show c143_2 (arun p n) fuel t m rec (k : Int) = _
   unfold c143_2 lineOkI; refine (bif_pos (Int.ofNat_lt.2 hk)).trans ?_; refine (bif_pos (Int.natCast_nonneg _)).trans ?_; refine (at_step hk).trans ?_; exact (hN fuel hf rec).trans and_bif
  ·show c143_2 (arun p n) fuel t m rec (t.length : Int) = _
   unfold c143_2; refine (bif_neg (Int.lt_irrefl _)).trans ?_; refine (call_step (f71 m 1 5 n (by omega))).trans ?_; refine bchkT fun _ => ?_; rfl
 rw [tableOk_I] at lp
 exact Ev.eq (fun fuel => by unfold T143; rfl) (lp.ev (i := ()) rfl)
theorem f142 (v : List NumT) (hv : v.length ≤ small) (h0 : 0 < v.length) : Ran p 1 142 [.val false ⟨K43, (v, ())⟩] ⟨[⟨K3, (maxV v, ())⟩], []⟩ := go142 fun n hn => by
 obtain ⟨k, hk⟩ : ∃ k, v.length = k + 1 := ⟨v.length - 1, by omega⟩
 have em : maxV v = maxTo v k := by unfold maxV; rw [hk]; rfl
 rw [em]
 have lp : It (fun fuel (_ : Unit) => c142_5 (arun p n) fuel v) ((gt (α := NumT) v 0).1, (1 : Int)) (fun _ => oI (maxTo v k)) := by
  refine It.run (fun j => (maxTo v j, ((j + 1 : Nat) : Int))) k (fun j hj fuel a rec => ?_) (It.stop fun fuel a rec => ?_)
  ·have hj1 : j + 1 < v.length := by omega
   have hb := small_lt hj1 hv
   show c142_5 (arun p n) fuel v rec (maxTo v j, ((j + 1 : Nat) : Int)) = _
   unfold c142_5; dsimp only; rw [wrap_succ hb]; refine (bif_pos (Int.ofNat_lt.2 hj1)).trans ?_; refine (bif_pos (Int.natCast_nonneg _)).trans ?_; refine (at_step hj1).trans ?_; rfl
  ·show c142_5 (arun p n) fuel v rec (maxTo v k, ((k + 1 : Nat) : Int)) = _
   unfold c142_5; rw [← hk]; refine (bif_neg (Int.lt_irrefl _)).trans ?_; rfl
 refine Ev.eq (fun fuel => ?_) (lp.ev (i := ()) rfl)
 unfold T142; refine (bif_neg (by show ¬ ((v.length : Int) < 1); omega)).trans ?_; refine (bif_pos (by decide)).trans ?_; exact (at_step (α := NumT) (xs := v) (i := 0) h0)
theorem f191 (nd : NodeT) (x : Int) : Ran p 2 191 [.val true ⟨K73, nd⟩, .val false ⟨K3, (x, ())⟩] ⟨[⟨K4, (peerB nd x, ())⟩], []⟩ := go191 fun n hn => Ev.now fun fuel => by
 unfold T191 peerB; refine (call_step (f71 x 0 (IntKind.i64.wrap (nd.2.1 - 1)) n (by omega))).trans ?_; refine bchkT fun _ => ?_; rfl
theorem f192 (nd : NodeT) (x : Int) (b : Bool) (hv : nd.sess.length ≤ small) : Ran p 1 192 [.val true ⟨K73, nd⟩, .val false ⟨K3, (x, ())⟩, .val false ⟨K4, (b, ())⟩] ⟨[⟨K3, (slotOf nd.sess x b, ())⟩], []⟩ := go192 fun n hn => by
 have lp : It (fun fuel (_ : Unit) => c192_2 (arun p n) fuel nd x b) (0 : Int) (fun _ => oI (slotOf nd.sess x b)) := by
  have := It.first (c := fun fuel (_ : Unit) => c192_2 (arun p n) fuel nd x b) (fun i => (i : Int)) nd.sess.length (fun i => sameSess nd.sess i x b) (fun i _ => oI (i : Int)) (fun _ => oI (-1)) (fun i hi hp fuel a rec => ?_) (fun i hi hp => It.stop fun fuel a rec => ?_) (It.stop fun fuel a rec => ?_)
  ·revert this; unfold slotOf
   cases (List.range nd.sess.length).find? (fun i => sameSess nd.sess i x b) <;> exact fun h => h
  ·have hb := small_lt hi hv
   show c192_2 (arun p n) fuel nd x b rec (i : Int) = _
   unfold c192_2; rw [wrap_succ hb]; refine (bif_pos (Int.ofNat_lt.2 hi)).trans ?_; refine (bif_pos (Int.natCast_nonneg _)).trans ?_; refine (at_step hi).trans ?_; exact two.trans (bif_ff hp)
  ·show c192_2 (arun p n) fuel nd x b rec (i : Int) = _
   unfold c192_2; refine (bif_pos (Int.ofNat_lt.2 hi)).trans ?_; refine (bif_pos (Int.natCast_nonneg _)).trans ?_; refine (at_step hi).trans ?_; exact two.trans (bif_tt hp)
  ·show c192_2 (arun p n) fuel nd x b rec (nd.sess.length : Int) = _
   unfold c192_2; refine (bif_neg (Int.lt_irrefl _)).trans ?_; rfl
 exact Ev.eq (fun fuel => by unfold T192; rfl) (lp.ev (i := ()) rfl)
theorem f144 (nd : NodeT) (hv : nd.sess.length ≤ small) : Ran p 3 144 [.val true ⟨K73, nd⟩] ⟨[⟨K4, (sessOkI nd, ())⟩], []⟩ := go144 fun n hn => by
 have lp : It (fun fuel (_ : Unit) => c144_2 (arun p n) fuel nd) (0 : Int) (fun _ => oB (sessOkI nd)) := by
  refine It.allB nd.sess.length _ _ (fun i hi fuel a rec => ?_) (It.stop fun fuel a rec => ?_)
  ·have hb := small_lt hi hv
   show c144_2 (arun p n) fuel nd rec (i : Int) = _
   unfold c144_2 sessEachI; rw [wrap_succ hb]; refine (bif_pos (Int.ofNat_lt.2 hi)).trans ?_; refine (bif_pos (Int.natCast_nonneg _)).trans ?_; refine (at_step hi).trans ?_; refine (call_step (f191 nd (gt nd.sess i).1 n (by omega))).trans ?_; refine chk fun _ => ?_; refine (call_step (f71 (gt nd.sess i).2.1 0 100000 n (by omega))).trans ?_; refine chk fun _ => ?_; refine (call_step (f71 (gt nd.sess i).2.2.2.1 0 nd.wait n (by omega))).trans ?_; refine chk fun _ => ?_; refine (call_step (f192 nd (gt nd.sess i).1 (gt nd.sess i).2.2.1 hv n (by omega))).trans ?_; exact fin
  ·show c144_2 (arun p n) fuel nd rec (nd.sess.length : Int) = _
   unfold c144_2; refine (bif_neg (Int.lt_irrefl _)).trans ?_; refine (call_step (f71 nd.slots 1 4 n (by omega))).trans ?_; refine bchkT fun _ => ?_; rfl
 exact Ev.eq (fun fuel => by unfold T144; rfl) (lp.ev (i := ()) rfl)
theorem f145 (nd : NodeT) (hv : nd.rises.length ≤ small) : Ran p 2 145 [.val true ⟨K73, nd⟩] ⟨[⟨K4, (risesOkI nd, ())⟩], []⟩ := go145 fun n hn => by
 have lp : It (fun fuel (_ : Unit) => c145_2 (arun p n) fuel nd) (0 : Int) (fun _ => oB (risesOkI nd)) := by
  refine It.allB nd.rises.length _ _ (fun i hi fuel a rec => ?_) (It.stop fun fuel a rec => ?_)
  ·have hb := small_lt hi hv
   show c145_2 (arun p n) fuel nd rec (i : Int) = _
   unfold c145_2 riseEach; rw [wrap_succ hb]; refine (bif_pos (Int.ofNat_lt.2 hi)).trans ?_; refine (bif_pos (Int.natCast_nonneg _)).trans ?_; refine (at_step hi).trans ?_; refine (call_step (f71 (gt nd.rises i).1 0 1000 n (by omega))).trans ?_; refine chk fun _ => ?_; refine (call_step (f71 (gt nd.rises i).2.1 0 100000 n (by omega))).trans ?_; refine chk fun _ => ?_; refine (call_step (f71 (gt nd.rises i).2.2.1 0 nd.clock n (by omega))).trans ?_; exact fin
  ·show c145_2 (arun p n) fuel nd rec (nd.rises.length : Int) = _
   unfold c145_2; refine (bif_neg (Int.lt_irrefl _)).trans ?_; rfl
 exact Ev.eq (fun fuel => by unfold T145; rfl) (lp.ev (i := ()) rfl)
theorem f135 (nd : NodeT) (hv : nd.sess.length ≤ small) : Ran p 2 135 [.val true ⟨K73, nd⟩] ⟨[⟨K4, (sessOk nd, ())⟩], []⟩ := go135 fun n hn => by
 have inner : ∀ (o3 o4 : Rows [K4] × Rows []) (i : Nat), i < nd.sess.length → It (fun fuel rec4 => c135_10 (arun p n) fuel nd o3 o4 (gt (α := SessT) nd.sess i) (i : Int) rec4) (0 : Int) (fun (rec4 : Int → Option Out) => bif onceB nd.sess i then rec4 ((i + 1 : Nat) : Int) else oB false) := by
  intro o3 o4 i hi
  have hib := small_lt hi hv
  refine It.all (fun k => (k : Int)) i (fun k => !sameSess nd.sess k (gt nd.sess i).1 (gt nd.sess i).2.2.1) (rA := fun (rec4 : Int → Option Out) => rec4 ((i + 1 : Nat) : Int)) (rB := fun _ => oB false) (fun k hk fuel rec4 rec => ?_) (It.stop fun fuel rec4 rec => ?_)
  ·have hk' : k < nd.sess.length := by omega
   have hb := small_lt hk' hv
   show c135_10 (arun p n) fuel nd o3 o4 (gt (α := SessT) nd.sess i) (i : Int) rec4 rec (k : Int) = _
   unfold c135_10 sameSess; rw [wrap_succ hb]; refine (bif_pos (Int.ofNat_lt.2 hk)).trans ?_; refine (bif_pos (Int.natCast_nonneg _)).trans ?_; refine (at_step hk').trans ?_
   show (bif (gt nd.sess k).1 == (gt nd.sess i).1 then _ else _) = bif !((gt nd.sess k).1 == (gt nd.sess i).1 && _) then _ else _
   cases (gt nd.sess k).1 == (gt nd.sess i).1 with
   | false => rfl
   | true => refine (bif_tt rfl).trans ?_; refine (bif_pos (Int.natCast_nonneg _)).trans ?_; refine (at_step hk').trans ?_; exact finP
  ·show c135_10 (arun p n) fuel nd o3 o4 (gt (α := SessT) nd.sess i) (i : Int) rec4 rec (i : Int) = _
   unfold c135_10; rw [wrap_succ hib]; exact bif_neg (Int.lt_irrefl _)
 have lp : It (fun fuel (_ : Unit) => c135_4 (arun p n) fuel nd) (0 : Int) (fun _ => oB (allI nd.sess.length (sessEach nd nd.sess))) := by
  refine it_and_true (It.allBE nd.sess.length _ true (fun i hi => ?_) (It.stop fun fuel a rec => ?_))
  ·obtain ⟨N, hN⟩ := (inner (((inB (gt nd.sess i).2.1 0 100000, ()), ()), ()) (((inB (gt nd.sess i).2.2.2.1 0 nd.wait, ()), ()), ()) i hi).all_i
   refine ⟨N, fun fuel hf a rec => ?_⟩
   show c135_4 (arun p n) fuel nd rec (i : Int) = _
   unfold c135_4 sessEach; refine (bif_pos (Int.ofNat_lt.2 hi)).trans ?_; refine (bif_pos (Int.natCast_nonneg _)).trans ?_; refine (at_step hi).trans ?_; refine (call_step (f70 (gt nd.sess i).1 0 (IntKind.i64.wrap (nd.2.1 - 1)) n (by omega))).trans ?_; refine chk fun _ => ?_; refine chkP fun _ => ?_; refine (call_step (f70 (gt nd.sess i).2.1 0 100000 n (by omega))).trans ?_; refine chk fun _ => ?_; refine (call_step (f70 (gt nd.sess i).2.2.2.1 0 nd.wait n (by omega))).trans ?_; refine chk fun _ => ?_; exact hN fuel hf rec
  ·show c135_4 (arun p n) fuel nd rec (nd.sess.length : Int) = _
   unfold c135_4; refine (bif_neg (Int.lt_irrefl _)).trans ?_; rfl
 obtain ⟨N, hN⟩ := lp.all_i
 refine ⟨N, fun fuel hf => ?_⟩
 show T135 (arun p n) fuel nd = oB (sessOk nd)
 unfold T135 sessOk; refine bchkP fun _ => ?_; exact hN fuel hf ()
theorem id_lt {nd : NodeT} (h1 : inB nd.2.1 1 5 = true) (h2 : inB nd.1 0 (IntKind.i64.wrap (nd.2.1 - 1)) = true) (h3 : vecOk nd.got nd.2.1 = true) : ∃ k : Nat, nd.1 = (k : Int) ∧ k < nd.got.length := by
 rw [inB_iff] at h1 h2
 rw [wrap64 (by omega) (by omega)] at h2
 unfold vecOk at h3; simp only [Bool.and_eq_true, beq_iff_eq] at h3
 exact ⟨nd.1.toNat, by omega, by omega⟩
theorem f81 (nd : NodeT) (hz : SzN nd) : Ran p 7 81 [.val true ⟨K73, nd⟩] ⟨[⟨K4, (nodeOk nd, ())⟩], []⟩ := go81 fun n hn => Ev.now fun fuel => by
 rw [← nodeOk_I]
 show T81 (arun p n) fuel nd = oB (nodeOkI nd)
 unfold T81 nodeOkI; refine (call_step (f71 nd.2.1 1 5 n (by omega))).trans ?_; refine bchk fun h1 => ?_; refine (call_step (f71 nd.1 0 (IntKind.i64.wrap (nd.2.1 - 1)) n (by omega))).trans ?_; refine bchk fun h2 => ?_; refine (call_step (f60 nd.state (small_max hz.state.a) (small_max hz.state.b) n (by omega))).trans ?_; refine bchk fun _ => ?_; refine (call_step (f79 nd.state hz.state n (by omega))).trans ?_; refine (call_step (f138 nd.tree (treeOf nd.state) (small_max hz.leaves) n (by omega))).trans ?_; refine bchk fun _ => ?_
 refine (call_step (f139 nd.log hz.list hz.logs n (by omega))).trans ?_; refine (call_step (f140 nd.log hz.list hz.logs n (by omega))).trans ?_; refine bchk fun _ => ?_; refine (call_step (f141 nd.got nd.2.1 hz.got n (by omega))).trans ?_; refine bchk fun h3 => ?_; refine (call_step (f141 nd.acked nd.2.1 hz.acked n (by omega))).trans ?_; refine bchk fun h4 => ?_
 obtain ⟨k, hk, hlt⟩ := id_lt h1 h2 h3
 show (bif decide (0 ≤ nd.1) then ((at? nd.got (nd.1).toNat).bind _) else none) = _
 rw [hk]; refine (bif_pos (Int.natCast_nonneg _)).trans ?_; refine (at_step hlt).trans ?_; refine bchk fun _ => ?_; refine (call_step (f142 nd.acked hz.acked (vecOk_pos h4) n (by omega))).trans ?_; refine bchkP fun _ => ?_; refine (call_step (f143 nd.seen nd.2.1 hz.seen hz.lines n (by omega))).trans ?_; refine bchk fun _ => ?_; refine (call_step (f71 nd.num 0 100000 n (by omega))).trans ?_; refine bchk fun _ => ?_; refine (call_step (f71 nd.clock 0 100000 n (by omega))).trans ?_; refine bchk fun _ => ?_; refine (call_step (f71 nd.wait 1 20 n (by omega))).trans ?_; refine bchkT fun _ => ?_; refine (call_step (f71 nd.limit 1 50 n (by omega))).trans ?_; refine bchkT fun _ => ?_; refine (call_step (f144 nd hz.sess n (by omega))).trans ?_; refine bchkT fun _ => ?_; refine (call_step (f145 nd hz.rises n (by omega))).trans ?_; rfl
theorem f78 (nd : NodeT) (hz : SzN nd) : Ran p 7 78 [.val true ⟨K73, nd⟩] ⟨[⟨K4, (nodeOk nd, ())⟩], []⟩ := go78 fun n hn => by
 have ri : ∃ N, ∀ fuel, N ≤ fuel → (((nd.rises.length : Nat) : Int) == 5) = true → iter (c78_13 (arun p n) fuel nd) fuel (0 : Int) = oB (allI nd.rises.length (riseEach nd) && sessOk nd) := by
  cases he : ((nd.rises.length : Nat) : Int) == 5 with
  | false => exact ⟨0, fun _ _ h => by cases h⟩
  | true =>
   have e : nd.rises.length = 5 := by have := eq_of_beq he; omega
   have lp : It (fun fuel (_ : Unit) => c78_13 (arun p n) fuel nd) (0 : Int) (fun _ => oB (allI 5 (riseEach nd) && sessOk nd)) := by
    refine It.allB 5 _ _ (fun i hi fuel a rec => ?_) (It.stop fun fuel a rec => ?_)
    ·have hb : i < 9223372036854775807 := by omega
     have hi' : i < nd.rises.length := by omega
     show c78_13 (arun p n) fuel nd rec (i : Int) = _
     unfold c78_13 riseEach; rw [wrap_succ hb]; refine (bif_pos (by show (i : Int) < 5; omega)).trans ?_; refine (bif_pos (Int.natCast_nonneg _)).trans ?_; refine (at_step hi').trans ?_; refine (call_step (f70 (gt nd.rises i).1 0 1000 n (by omega))).trans ?_; refine chk fun _ => ?_; refine (call_step (f70 (gt nd.rises i).2.1 0 100000 n (by omega))).trans ?_; refine chk fun _ => ?_; refine (call_step (f70 (gt nd.rises i).2.2.1 0 nd.clock n (by omega))).trans ?_; exact fin
    ·show c78_13 (arun p n) fuel nd rec (5 : Int) = _
     unfold c78_13; refine (bif_neg (by decide)).trans ?_; refine (call_step (f135 nd hz.sess n (by omega))).trans ?_; rfl
   rw [e]
   obtain ⟨N, hN⟩ := lp.all_i
   exact ⟨N, fun fuel hf _ => hN fuel hf ()⟩
 have ak : ∃ N, ∀ fuel, N ≤ fuel → vecOk nd.acked nd.2.1 = true → iter (c78_6 (arun p n) fuel nd) fuel (0 : Int) = oB (ackOk nd && nodeTail nd) := by
  cases he : vecOk nd.acked nd.2.1 with
  | false => exact ⟨0, fun _ _ h => by cases h⟩
  | true =>
   have e : nd.2.1 = ((nd.acked.length : Nat) : Int) := by unfold vecOk at he; simp only [Bool.and_eq_true, beq_iff_eq] at he; omega
   obtain ⟨M, hM⟩ := ri
   have lp : It (fun fuel (_ : Unit) => c78_6 (arun p n) fuel nd) (0 : Int) (fun _ => oB (ackOk nd && nodeTail nd)) := by
    refine It.allB nd.acked.length _ _ (fun i hi fuel a rec => ?_) (It.stopE (T := fun fuel _ => c78_6 (arun p n) fuel nd (fun _ => none) (nd.acked.length : Int)) (fun fuel a rec => ?_) ⟨M, fun fuel hf a => ?_⟩)
    ·have hb := small_lt hi hz.acked
     show c78_6 (arun p n) fuel nd rec (i : Int) = _
     unfold c78_6; rw [wrap_succ hb]; refine (bif_pos (by show (i : Int) < nd.2.1; omega)).trans ?_; refine (bif_pos (Int.natCast_nonneg _)).trans ?_; refine (at_step hi).trans ?_; refine (call_step (f133 nd.log hz.list hz.logs n (by omega))).trans ?_; exact finP
    ·show c78_6 (arun p n) fuel nd rec (nd.acked.length : Int) = c78_6 (arun p n) fuel nd (fun _ => none) (nd.acked.length : Int)
     unfold c78_6; refine (bif_neg (by show ¬ ((nd.acked.length : Int) < nd.2.1); omega)).trans ?_; exact (bif_neg (by show ¬ ((nd.acked.length : Int) < nd.2.1); omega)).symm
    ·show c78_6 (arun p n) fuel nd (fun _ => none) (nd.acked.length : Int) = oB (nodeTail nd)
     unfold c78_6 nodeTail; refine (bif_neg (by show ¬ ((nd.acked.length : Int) < nd.2.1); omega)).trans ?_
     refine (call_step (f70 nd.num 0 100000 n (by omega))).trans ?_; refine bchk fun _ => ?_; refine (call_step (f70 nd.clock 0 100000 n (by omega))).trans ?_; refine bchk fun _ => ?_; refine (call_step (f70 nd.slots 1 4 n (by omega))).trans ?_; refine bchk fun _ => ?_; refine (call_step (f70 nd.wait 1 20 n (by omega))).trans ?_; refine bchk fun _ => ?_; refine (call_step (f70 nd.limit 1 50 n (by omega))).trans ?_; refine bchk fun _ => ?_; refine bchk fun h5 => ?_; exact hM fuel hf h5
   obtain ⟨N, hN⟩ := lp.all_i
   exact ⟨N, fun fuel hf _ => hN fuel hf ()⟩
 obtain ⟨N, hN⟩ := ak
 refine ⟨N, fun fuel hf => ?_⟩
 show T78 (arun p n) fuel nd = oB (nodeOk nd)
 unfold T78 nodeOk; refine (call_step (f70 nd.2.1 1 5 n (by omega))).trans ?_; refine bchk fun h1 => ?_; refine (call_step (f70 nd.1 0 (IntKind.i64.wrap (nd.2.1 - 1)) n (by omega))).trans ?_; refine bchk fun h2 => ?_; refine (call_step (f53 nd.state (small_max hz.state.a) (small_max hz.state.b) n (by omega))).trans ?_; refine bchk fun _ => ?_; refine (call_step (f76 nd.state hz.state n (by omega))).trans ?_; refine (call_step (f130 nd.tree (treeOf nd.state) (small_max hz.leaves) n (by omega))).trans ?_; refine bchk fun _ => ?_
 refine (call_step (f131 nd.log hz.list hz.logs n (by omega))).trans ?_; refine bchk fun _ => ?_; refine (call_step (f132 nd.got nd.2.1 hz.got n (by omega))).trans ?_; refine bchk fun h3 => ?_; refine (call_step (f132 nd.acked nd.2.1 hz.acked n (by omega))).trans ?_; refine bchk fun h4 => ?_
 obtain ⟨k, hk, hlt⟩ := id_lt h1 h2 h3
 show (bif decide (0 ≤ nd.1) then ((at? nd.got (nd.1).toNat).bind _) else none) = _
 rw [hk]; refine (bif_pos (Int.natCast_nonneg _)).trans ?_; refine (at_step hlt).trans ?_; refine (call_step (f133 nd.log hz.list hz.logs n (by omega))).trans ?_; refine bchk fun _ => ?_; refine (call_step (f134 nd.seen nd.2.1 hz.seen hz.lines n (by omega))).trans ?_; refine bchk fun _ => ?_; exact hN fuel hf h4
theorem f82 (w : WorldT) (x : Int) : Ran p 2 82 [.val true ⟨K26, w⟩, .val false ⟨K3, (x, ())⟩] ⟨[⟨K4, (inB x 0 (IntKind.i64.wrap (((w.1.length : Nat) : Int) - 1)), ())⟩], []⟩ := go82 fun n hn => Ev.now fun fuel => by
 unfold T82; refine (call_step (f71 x 0 (IntKind.i64.wrap (((w.1.length : Nat) : Int) - 1)) n (by omega))).trans ?_; rfl
theorem f36 (w : WorldT) (hz : SzW w) : Ran p 8 36 [.val true ⟨K26, w⟩] ⟨[⟨K4, (worldOk w, ())⟩], []⟩ := go36 fun n hn => by
 have said : It (fun fuel (_ : Unit) => c36_15 (arun p n) fuel w) (0 : Int) (fun _ => oB (allI w.2.2.1.length (saidEach w))) := by
  refine it_and_true (It.allB w.2.2.1.length _ true (fun i hi fuel a rec => ?_) (It.stop fun fuel a rec => ?_))
  ·have hb := small_lt hi hz.said
   show c36_15 (arun p n) fuel w rec (i : Int) = _
   unfold c36_15 saidEach; rw [wrap_succ hb]; refine (bif_pos (Int.ofNat_lt.2 hi)).trans ?_; refine (bif_pos (Int.natCast_nonneg _)).trans ?_; refine (at_step hi).trans ?_; refine (call_step (f70 (gt w.2.2.1 i).1 0 (IntKind.i64.wrap (((w.1.length : Nat) : Int) - 1)) n (by omega))).trans ?_; refine chk fun _ => ?_; refine (bif_pos (Int.natCast_nonneg _)).trans ?_; refine (at_step hi).trans ?_; refine (call_step (f53 (gt w.2.2.1 i).2 (small_max (hz.part i hi).a) (small_max (hz.part i hi).b) n (by omega))).trans ?_; exact fin
  ·show c36_15 (arun p n) fuel w rec (w.2.2.1.length : Int) = _
   unfold c36_15; refine (bif_neg (Int.lt_irrefl _)).trans ?_; rfl
 have net : It (fun fuel (_ : Unit) => c36_10 (arun p n) fuel w) (0 : Int) (fun _ => oB (allI w.2.1.length (fun i => inB (gt w.2.1 i).1 0 (IntKind.i64.wrap (((w.1.length : Nat) : Int) - 1))) && allI w.2.2.1.length (saidEach w))) := by
  refine It.allB w.2.1.length _ _ (fun i hi fuel a rec => ?_) (It.stopE (T := fun fuel _ => iter (c36_15 (arun p n) fuel w) fuel (0 : Int)) (fun fuel a rec => ?_) said.all_i)
  ·have hb := small_lt hi hz.net
   show c36_10 (arun p n) fuel w rec (i : Int) = _
   unfold c36_10; rw [wrap_succ hb]; refine (bif_pos (Int.ofNat_lt.2 hi)).trans ?_; refine (bif_pos (Int.natCast_nonneg _)).trans ?_; refine (at_step hi).trans ?_; refine (call_step (f70 (gt w.2.1 i).1 0 (IntKind.i64.wrap (((w.1.length : Nat) : Int) - 1)) n (by omega))).trans ?_; exact fin
  ·show c36_10 (arun p n) fuel w rec (w.2.1.length : Int) = _
   unfold c36_10; refine (bif_neg (Int.lt_irrefl _)).trans ?_; rfl
 have nodes : It (fun fuel (_ : Unit) => c36_5 (arun p n) fuel w) (0 : Int) (fun _ => oB (allI w.1.length (nodeEach w) && (allI w.2.1.length (fun i => inB (gt w.2.1 i).1 0 (IntKind.i64.wrap (((w.1.length : Nat) : Int) - 1))) && allI w.2.2.1.length (saidEach w)))) := by
  refine It.allB w.1.length _ _ (fun i hi fuel a rec => ?_) (It.stopE (T := fun fuel _ => iter (c36_10 (arun p n) fuel w) fuel (0 : Int)) (fun fuel a rec => ?_) net.all_i)
  ·have hb := small_lt hi hz.nodes
   show c36_5 (arun p n) fuel w rec (i : Int) = _
   unfold c36_5 nodeEach; rw [wrap_succ hb]; refine (bif_pos (Int.ofNat_lt.2 hi)).trans ?_; refine (bif_pos (Int.natCast_nonneg _)).trans ?_; refine (at_step hi).trans ?_; refine (call_step (f78 (gt w.1 i) (hz.node i hi) n (by omega))).trans ?_; refine chk fun _ => ?_; refine (bif_pos (Int.natCast_nonneg _)).trans ?_; refine (at_step hi).trans ?_; refine chk fun _ => ?_; refine (bif_pos (Int.natCast_nonneg _)).trans ?_; refine (at_step hi).trans ?_; exact fin
  ·show c36_5 (arun p n) fuel w rec (w.1.length : Int) = _
   unfold c36_5; refine (bif_neg (Int.lt_irrefl _)).trans ?_; rfl
 obtain ⟨N, hN⟩ := nodes.all_i
 refine ⟨N, fun fuel hf => ?_⟩
 show T36 (arun p n) fuel w = oB (worldOk w)
 unfold T36 worldOk; refine (call_step (f70 ((w.1.length : Nat) : Int) 1 5 n (by omega))).trans ?_; refine bchk fun _ => ?_; refine bchkP fun _ => ?_; refine bchkP fun _ => ?_; exact hN fuel hf ()
theorem f38 (w : WorldT) (hz : SzW w) : Ran p 8 38 [.val true ⟨K26, w⟩] ⟨[⟨K4, (worldOk w, ())⟩], []⟩ := go38 fun n hn => by
 have said : It (fun fuel (_ : Unit) => c38_16 (arun p n) fuel w) (0 : Int) (fun _ => oB (allI w.2.2.1.length (saidEach w))) := by
  refine it_and_true (It.allB w.2.2.1.length _ true (fun i hi fuel a rec => ?_) (It.stop fun fuel a rec => ?_))
  ·have hb := small_lt hi hz.said
   show c38_16 (arun p n) fuel w rec (i : Int) = _
   unfold c38_16 saidEach; rw [wrap_succ hb]; refine (bif_pos (Int.ofNat_lt.2 hi)).trans ?_; refine (bif_pos (Int.natCast_nonneg _)).trans ?_; refine (at_step hi).trans ?_; refine (call_step (f82 w (gt w.2.2.1 i).1 n (by omega))).trans ?_; refine chk fun _ => ?_; refine (call_step (f60 (gt w.2.2.1 i).2 (small_max (hz.part i hi).a) (small_max (hz.part i hi).b) n (by omega))).trans ?_; exact fin
  ·show c38_16 (arun p n) fuel w rec (w.2.2.1.length : Int) = _
   unfold c38_16; refine (bif_neg (Int.lt_irrefl _)).trans ?_; rfl
 have net : It (fun fuel (_ : Unit) => c38_10 (arun p n) fuel w) (0 : Int) (fun _ => oB (allI w.2.1.length (fun i => inB (gt w.2.1 i).1 0 (IntKind.i64.wrap (((w.1.length : Nat) : Int) - 1))) && allI w.2.2.1.length (saidEach w))) := by
  refine It.allB w.2.1.length _ _ (fun i hi fuel a rec => ?_) (It.stopE (T := fun fuel _ => iter (c38_16 (arun p n) fuel w) fuel (0 : Int)) (fun fuel a rec => ?_) said.all_i)
  ·have hb := small_lt hi hz.net
   show c38_10 (arun p n) fuel w rec (i : Int) = _
   unfold c38_10; rw [wrap_succ hb]; refine (bif_pos (Int.ofNat_lt.2 hi)).trans ?_; refine (bif_pos (Int.natCast_nonneg _)).trans ?_; refine (at_step hi).trans ?_; refine (call_step (f82 w (gt w.2.1 i).1 n (by omega))).trans ?_; exact fin
  ·show c38_10 (arun p n) fuel w rec (w.2.1.length : Int) = _
   unfold c38_10; refine (bif_neg (Int.lt_irrefl _)).trans ?_; rfl
 have nodes : It (fun fuel (_ : Unit) => c38_4 (arun p n) fuel w) (0 : Int) (fun _ => oB (allI w.1.length (nodeEach w) && (allI w.2.1.length (fun i => inB (gt w.2.1 i).1 0 (IntKind.i64.wrap (((w.1.length : Nat) : Int) - 1))) && allI w.2.2.1.length (saidEach w)))) := by
  refine It.allB w.1.length _ _ (fun i hi fuel a rec => ?_) (It.stopE (T := fun fuel _ => iter (c38_10 (arun p n) fuel w) fuel (0 : Int)) (fun fuel a rec => ?_) net.all_i)
  ·have hb := small_lt hi hz.nodes
   show c38_4 (arun p n) fuel w rec (i : Int) = _
   unfold c38_4 nodeEach; rw [wrap_succ hb]; refine (bif_pos (Int.ofNat_lt.2 hi)).trans ?_; refine (bif_pos (Int.natCast_nonneg _)).trans ?_; refine (at_step hi).trans ?_; refine (call_step (f81 (gt w.1 i) (hz.node i hi) n (by omega))).trans ?_; refine chk fun _ => ?_; refine chk fun _ => ?_; exact fin
  ·show c38_4 (arun p n) fuel w rec (w.1.length : Int) = _
   unfold c38_4; refine (bif_neg (Int.lt_irrefl _)).trans ?_; rfl
 obtain ⟨N, hN⟩ := nodes.all_i
 refine ⟨N, fun fuel hf => ?_⟩
 show T38 (arun p n) fuel w = oB (worldOk w)
 unfold T38 worldOk; refine (call_step (f71 ((w.1.length : Nat) : Int) 1 5 n (by omega))).trans ?_; refine bchk fun _ => ?_; refine bchkP fun _ => ?_; refine bchkP fun _ => ?_; exact hN fuel hf ()
end Go.Abs.Gz
