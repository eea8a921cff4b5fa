/- What the functions of this program answer, part b. -/
import Derived.Test.YtbdgofceanjgpaaXa
import Derived.Test.YtbdgofceanjgpaaW2
set_option linter.unusedVariables false
namespace Go.Abs.Pz
open Go Go.Abs
theorem f22 (x lo hi : Int) : Ran p 1 22 [.val false ⟨K3, (x, ())⟩, .val false ⟨K3, (lo, ())⟩, .val false ⟨K3, (hi, ())⟩] ⟨[⟨K4, (inB x lo hi, ())⟩], []⟩ := go22 fun n hn => Ev.now fun fuel => by
 unfold T22; exact bchkT fun _ => rfl
theorem f32 (x lo hi : Int) : Ran p 1 32 [.val false ⟨K3, (x, ())⟩, .val false ⟨K3, (lo, ())⟩, .val false ⟨K3, (hi, ())⟩] ⟨[⟨K4, (inB x lo hi, ())⟩], []⟩ := go32 fun n hn => Ev.now fun fuel => by
 unfold T32; exact bchkT fun _ => rfl
theorem f19 (x : Int) : Ran p 2 19 [.val false ⟨K3, (x, ())⟩] ⟨[⟨K4, (nodeB x, ())⟩], []⟩ := go19 fun n hn => Ev.now fun fuel => by
 unfold T19; refine (call_step (f22 x 0 4 n (by omega))).trans ?_; rfl
theorem f31 (x : Int) : Ran p 2 31 [.val false ⟨K3, (x, ())⟩] ⟨[⟨K4, (nodeB x, ())⟩], []⟩ := go31 fun n hn => Ev.now fun fuel => by
 unfold T31; refine (call_step (f32 x 0 4 n (by omega))).trans ?_; rfl
theorem f20 (e : EntryT) : Ran p 2 20 [.val true ⟨K34, e⟩] ⟨[⟨K4, (entryOk e, ())⟩], []⟩ := go20 fun n hn => Ev.now fun fuel => by
 unfold T20 entryOk; refine (call_step (f22 e.1 1 1000 n (by omega))).trans ?_; refine bchkT fun _ => ?_; refine (call_step (f22 e.2.1 0 1 n (by omega))).trans ?_; refine bchkT fun _ => ?_; refine (call_step (f22 e.2.2.1 0 100000 n (by omega))).trans ?_; refine bchkT fun _ => ?_; refine (call_step (f22 e.2.2.2.1 0 1000 n (by omega))).trans ?_; refine bchkT fun _ => ?_; rfl
theorem f33 (e : EntryT) : Ran p 2 33 [.val true ⟨K34, e⟩] ⟨[⟨K4, (entryOk e, ())⟩], []⟩ := go33 fun n hn => Ev.now fun fuel => by
 unfold T33 entryOk; refine (call_step (f32 e.1 1 1000 n (by omega))).trans ?_; refine bchkT fun _ => ?_; refine (call_step (f32 e.2.1 0 1 n (by omega))).trans ?_; refine bchkT fun _ => ?_; refine (call_step (f32 e.2.2.1 0 100000 n (by omega))).trans ?_; refine bchkT fun _ => ?_; refine (call_step (f32 e.2.2.2.1 0 1000 n (by omega))).trans ?_; refine bchkT fun _ => ?_; rfl
theorem floor_loop {c : Nat → Unit → (Int → Option Out) → Int → Option Out} (fs : List FloorT) (id : Int)
  (h : ∀ i, i < fs.length → ∀ fuel a rec, c fuel a rec (i : Int) = bif (gt fs i).1 == id then oI (gt fs i).2.1 else rec ((i + 1 : Nat) : Int))
  (hn : ∀ fuel a rec, c fuel a rec (fs.length : Int) = oI 0) : It c (0 : Int) (fun _ => oI (floorOf fs id)) := by
 have := It.first (c := c) (fun i => (i : Int)) fs.length (fun i => (gt fs i).1 == id) (fun i _ => oI (gt fs i).2.1) (fun _ => oI 0)
  (fun i hi hp fuel a rec => by rw [h i hi]; rw [hp]; rfl) (fun i hi hp => It.stop fun fuel a rec => by rw [h i hi]; rw [hp]; rfl) (It.stop hn)
 unfold floorOf
 revert this
 cases (List.range fs.length).find? (fun i => (gt fs i).1 == id) <;> exact fun h => h
theorem f21 (s : StateT) (id : Int) (hl : s.2.1.length ≤ maxLen) : Ran p 1 21 [.val true ⟨K27, s⟩, .val false ⟨K3, (id, ())⟩] ⟨[⟨K3, (floorOf s.2.1 id, ())⟩], []⟩ := go21 fun n hn => by
 refine Ev.eq (fun fuel => by unfold T21; rfl) (It.ev (c := fun fuel (_ : Unit) => c21_2 (arun p n) fuel s id) (i := ()) (floor_loop s.2.1 id (fun i hi fuel a rec => ?_) (fun fuel a rec => ?_)) rfl)
 ·have hb : i < 9223372036854775807 := Nat.lt_of_lt_of_le hi hl
  show c21_2 (arun p n) fuel s id rec (i : Int) = _
  unfold c21_2; rw [wrap_succ hb]; refine (bif_pos (Int.ofNat_lt.2 hi)).trans ?_; refine (bif_pos (Int.natCast_nonneg _)).trans ?_; refine (at_step hi).trans ?_
  refine congrArg (fun x => bif (gt s.2.1 i).1 == id then x else rec ((i + 1 : Nat) : Int)) ?_
  refine (bif_pos (Int.natCast_nonneg _)).trans ?_; refine (at_step hi).trans ?_; rfl
 ·show c21_2 (arun p n) fuel s id rec (s.2.1.length : Int) = _
  unfold c21_2; refine (bif_neg (Int.lt_irrefl _)).trans ?_; rfl
theorem f34 (s : StateT) (id : Int) (hl : s.2.1.length ≤ maxLen) : Ran p 1 34 [.val true ⟨K27, s⟩, .val false ⟨K3, (id, ())⟩] ⟨[⟨K3, (floorOf s.2.1 id, ())⟩], []⟩ := go34 fun n hn => by
 refine Ev.eq (fun fuel => by unfold T34; rfl) (It.ev (c := fun fuel (_ : Unit) => c34_2 (arun p n) fuel s id) (i := ()) (floor_loop s.2.1 id (fun i hi fuel a rec => ?_) (fun fuel a rec => ?_)) rfl)
 ·have hb : i < 9223372036854775807 := Nat.lt_of_lt_of_le hi hl
  show c34_2 (arun p n) fuel s id rec (i : Int) = _
  unfold c34_2; rw [wrap_succ hb]; refine (bif_pos (Int.ofNat_lt.2 hi)).trans ?_; refine (bif_pos (Int.natCast_nonneg _)).trans ?_; refine (at_step hi).trans ?_; rfl
 ·show c34_2 (arun p n) fuel s id rec (s.2.1.length : Int) = _
  unfold c34_2; refine (bif_neg (Int.lt_irrefl _)).trans ?_; rfl
theorem f8 (s : StateT) (h1 : s.1.length ≤ maxLen) (h2 : s.2.1.length ≤ maxLen) : Ran p 3 8 [.val true ⟨K27, s⟩] ⟨[⟨K4, (stateOk s, ())⟩], []⟩ := go8 fun n hn => by
 have inner : It (fun fuel (_ : Unit) => c8_8 (arun p n) fuel s) (0 : Int) (fun _ => oB (allI s.2.1.length (floorOkS s.2.1))) := by
  refine it_and_true (It.allB s.2.1.length (floorOkS s.2.1) true (fun i hi fuel a rec => ?_) (It.stop fun fuel a rec => ?_))
  ·have hb : i < 9223372036854775807 := Nat.lt_of_lt_of_le hi h2
   show c8_8 (arun p n) fuel s rec (i : Int) = _
   unfold c8_8 floorOkS; rw [wrap_succ hb]; refine (bif_pos (Int.ofNat_lt.2 hi)).trans ?_; refine (bif_pos (Int.natCast_nonneg _)).trans ?_; refine (at_step hi).trans ?_; refine (call_step (f19 (gt s.2.1 i).1 n (by omega))).trans ?_; refine chk fun _ => ?_
   cases i with
   | zero => refine (bif_neg (by decide)).trans ?_; refine (call_step (f22 (gt s.2.1 0).2.1 1 1000 n (by omega))).trans ?_; exact fin
   | succ j =>
    refine (bif_pos (by omega)).trans ?_; rw [prev_step hb (by omega)]; refine (bif_pos (Int.natCast_nonneg _)).trans ?_; refine (at_step (show j < s.2.1.length by omega)).trans ?_; refine chkP fun _ => ?_
    refine (call_step (f22 (gt s.2.1 (j + 1)).2.1 1 1000 n (by omega))).trans ?_; exact fin
  ·show c8_8 (arun p n) fuel s rec (s.2.1.length : Int) = _
   unfold c8_8; refine (bif_neg (Int.lt_irrefl _)).trans ?_; rfl
 have outer : It (fun fuel (_ : Unit) => c8_2 (arun p n) fuel s) (0 : Int) (fun _ => oB (stateOk s)) := by
  refine It.allB s.1.length (itemOkS s) _ (fun i hi fuel a rec => ?_) (It.stopE (T := fun fuel _ => iter (c8_8 (arun p n) fuel s) fuel (0 : Int)) (fun fuel a rec => ?_) inner.all_i)
  ·have hb : i < 9223372036854775807 := Nat.lt_of_lt_of_le hi h1
   show c8_2 (arun p n) fuel s rec (i : Int) = _
   unfold c8_2 itemOkS; rw [wrap_succ hb]; refine (bif_pos (Int.ofNat_lt.2 hi)).trans ?_; refine (bif_pos (Int.natCast_nonneg _)).trans ?_; refine (at_step hi).trans ?_; refine (call_step (f19 (gt s.1 i).1 n (by omega))).trans ?_; refine chk fun _ => ?_
   cases i with
   | zero => refine (bif_neg (by decide)).trans ?_; refine (call_step (f20 (gt s.1 0).2 n (by omega))).trans ?_; refine chk fun _ => ?_; refine (call_step (f21 s (gt s.1 0).1 h2 n (by omega))).trans ?_; exact finP
   | succ j =>
    refine (bif_pos (by omega)).trans ?_; rw [prev_step hb (by omega)]; refine (bif_pos (Int.natCast_nonneg _)).trans ?_; refine (at_step (show j < s.1.length by omega)).trans ?_; refine chkP fun _ => ?_
    refine (call_step (f20 (gt s.1 (j + 1)).2 n (by omega))).trans ?_; refine chk fun _ => ?_; refine (call_step (f21 s (gt s.1 (j + 1)).1 h2 n (by omega))).trans ?_; exact finP
  ·show c8_2 (arun p n) fuel s rec (s.1.length : Int) = _
   unfold c8_2; refine (bif_neg (Int.lt_irrefl _)).trans ?_; rfl
 exact Ev.eq (fun fuel => by unfold T8; rfl) (outer.ev (i := ()) rfl)
theorem f14 (s : StateT) (h1 : s.1.length ≤ maxLen) (h2 : s.2.1.length ≤ maxLen) : Ran p 3 14 [.val true ⟨K27, s⟩] ⟨[⟨K4, (stateOk s, ())⟩], []⟩ := go14 fun n hn => by
 have inner : It (fun fuel (_ : Unit) => c14_8 (arun p n) fuel s) (0 : Int) (fun _ => oB (allI s.1.length (itemOkI s))) := by
  refine it_and_true (It.allB s.1.length (itemOkI s) true (fun i hi fuel a rec => ?_) (It.stop fun fuel a rec => ?_))
  ·have hb : i < 9223372036854775807 := Nat.lt_of_lt_of_le hi h1
   show c14_8 (arun p n) fuel s rec (i : Int) = _
   unfold c14_8 itemOkI; rw [wrap_succ hb]; refine (bif_pos (Int.ofNat_lt.2 hi)).trans ?_; refine (bif_pos (Int.natCast_nonneg _)).trans ?_; refine (at_step hi).trans ?_; refine (call_step (f31 (gt s.1 i).1 n (by omega))).trans ?_; refine chk fun _ => ?_; refine (call_step (f33 (gt s.1 i).2 n (by omega))).trans ?_; refine chk fun _ => ?_; refine (call_step (f34 s (gt s.1 i).1 h2 n (by omega))).trans ?_; refine chkP fun _ => ?_
   cases i with
   | zero => refine (bif_neg (by decide)).trans ?_; rfl
   | succ j => refine (bif_pos (by omega)).trans ?_; rw [prev_step hb (by omega)]; refine (bif_pos (Int.natCast_nonneg _)).trans ?_; refine (at_step (show j < s.1.length by omega)).trans ?_; exact finP
  ·show c14_8 (arun p n) fuel s rec (s.1.length : Int) = _
   unfold c14_8; refine (bif_neg (Int.lt_irrefl _)).trans ?_; rfl
 have outer : It (fun fuel (_ : Unit) => c14_2 (arun p n) fuel s) (0 : Int) (fun _ => oB (allI s.2.1.length (floorOkI s.2.1) && allI s.1.length (itemOkI s))) := by
  refine It.allB s.2.1.length (floorOkI s.2.1) _ (fun i hi fuel a rec => ?_) (It.stopE (T := fun fuel _ => iter (c14_8 (arun p n) fuel s) fuel (0 : Int)) (fun fuel a rec => ?_) inner.all_i)
  ·have hb : i < 9223372036854775807 := Nat.lt_of_lt_of_le hi h2
   show c14_2 (arun p n) fuel s rec (i : Int) = _
   unfold c14_2 floorOkI; rw [wrap_succ hb]; refine (bif_pos (Int.ofNat_lt.2 hi)).trans ?_; refine (bif_pos (Int.natCast_nonneg _)).trans ?_; refine (at_step hi).trans ?_; refine (call_step (f31 (gt s.2.1 i).1 n (by omega))).trans ?_; refine chk fun _ => ?_; refine (call_step (f32 (gt s.2.1 i).2.1 1 1000 n (by omega))).trans ?_; refine chk fun _ => ?_
   cases i with
   | zero => refine (bif_neg (by decide)).trans ?_; rfl
   | succ j => refine (bif_pos (by omega)).trans ?_; rw [prev_step hb (by omega)]; refine (bif_pos (Int.natCast_nonneg _)).trans ?_; refine (at_step (show j < s.2.1.length by omega)).trans ?_; exact finP
  ·show c14_2 (arun p n) fuel s rec (s.2.1.length : Int) = _
   unfold c14_2; refine (bif_neg (Int.lt_irrefl _)).trans ?_; rfl
 rw [stateOk_I] at outer
 exact Ev.eq (fun fuel => by unfold T14; rfl) (outer.ev (i := ()) rfl)
end Go.Abs.Pz
