/- What the functions of this program answer, part b. -/
import Derived.Test.YthgekoledembcaaGreatXa
import Derived.Test.YthgekoledembcaaGreatW2
set_option linter.unusedVariables false
namespace Go.Abs.Gz
open Go Go.Abs
theorem f70 (x lo hi : Int) : Ran p 1 70 [.val false ⟨K3, (x, ())⟩, .val false ⟨K3, (lo, ())⟩, .val false ⟨K3, (hi, ())⟩] ⟨[⟨K4, (inB x lo hi, ())⟩], []⟩ := go70 fun n hn => Ev.now fun fuel => by
 unfold T70; exact bchkT fun _ => rfl
theorem f71 (x lo hi : Int) : Ran p 1 71 [.val false ⟨K3, (x, ())⟩, .val false ⟨K3, (lo, ())⟩, .val false ⟨K3, (hi, ())⟩] ⟨[⟨K4, (inB x lo hi, ())⟩], []⟩ := go71 fun n hn => Ev.now fun fuel => by
 unfold T71; exact bchkT fun _ => rfl
theorem f100 (x : Int) : Ran p 2 100 [.val false ⟨K3, (x, ())⟩] ⟨[⟨K4, (nodeB x, ())⟩], []⟩ := go100 fun n hn => Ev.now fun fuel => by
 unfold T100; refine (call_step (f70 x 0 4 n (by omega))).trans ?_; rfl
theorem f109 (x : Int) : Ran p 2 109 [.val false ⟨K3, (x, ())⟩] ⟨[⟨K4, (nodeB x, ())⟩], []⟩ := go109 fun n hn => Ev.now fun fuel => by
 unfold T109; refine (call_step (f71 x 0 4 n (by omega))).trans ?_; rfl
theorem f101 (e : EntryT) : Ran p 2 101 [.val true ⟨K137, e⟩] ⟨[⟨K4, (entryOk e, ())⟩], []⟩ := go101 fun n hn => Ev.now fun fuel => by
 unfold T101 entryOk; refine (call_step (f70 e.1 1 1000 n (by omega))).trans ?_; refine bchkT fun _ => ?_; refine (call_step (f70 e.2.1 0 1 n (by omega))).trans ?_; refine bchkT fun _ => ?_; refine (call_step (f70 e.2.2.1 0 100000 n (by omega))).trans ?_; refine bchkT fun _ => ?_; refine (call_step (f70 e.2.2.2.1 0 1000 n (by omega))).trans ?_; refine bchkT fun _ => ?_; rfl
theorem f110 (e : EntryT) : Ran p 2 110 [.val true ⟨K137, e⟩] ⟨[⟨K4, (entryOk e, ())⟩], []⟩ := go110 fun n hn => Ev.now fun fuel => by
 unfold T110 entryOk; refine (call_step (f71 e.1 1 1000 n (by omega))).trans ?_; refine bchkT fun _ => ?_; refine (call_step (f71 e.2.1 0 1 n (by omega))).trans ?_; refine bchkT fun _ => ?_; refine (call_step (f71 e.2.2.1 0 100000 n (by omega))).trans ?_; refine bchkT fun _ => ?_; refine (call_step (f71 e.2.2.2.1 0 1000 n (by omega))).trans ?_; refine bchkT fun _ => ?_; rfl
theorem floor_loop {c : Nat → Unit → (Int → Option Out) → Int → Option Out} (fs : List FloorT) (id : Int)
  (h : ∀ i, i < fs.length → ∀ fuel a rec, c fuel a rec (i : Int) = bif (gt fs i).1 == id then oI (gt fs i).2.1 else rec ((i + 1 : Nat) : Int))
  (hn : ∀ fuel a rec, c fuel a rec (fs.length : Int) = oI 0) : It c (0 : Int) (fun _ => oI (floorOf fs id)) := by
 have := It.first (c := c) (fun i => (i : Int)) fs.length (fun i => (gt fs i).1 == id) (fun i _ => oI (gt fs i).2.1) (fun _ => oI 0)
  (fun i hi hp fuel a rec => by rw [h i hi]; rw [hp]; rfl) (fun i hi hp => It.stop fun fuel a rec => by rw [h i hi]; rw [hp]; rfl) (It.stop hn)
 unfold floorOf
 revert this
 cases (List.range fs.length).find? (fun i => (gt fs i).1 == id) <;> exact fun h => h
theorem f102 (s : StateT) (id : Int) (hl : s.2.1.length ≤ maxLen) : Ran p 1 102 [.val true ⟨K49, s⟩, .val false ⟨K3, (id, ())⟩] ⟨[⟨K3, (floorOf s.2.1 id, ())⟩], []⟩ := go102 fun n hn => by
 refine Ev.eq (fun fuel => by unfold T102; rfl) (It.ev (c := fun fuel (_ : Unit) => c102_2 (arun p n) fuel s id) (i := ()) (floor_loop s.2.1 id (fun i hi fuel a rec => ?_) (fun fuel a rec => ?_)) rfl)
 ·have hb : i < 9223372036854775807 := Nat.lt_of_lt_of_le hi hl
  show c102_2 (arun p n) fuel s id rec (i : Int) = _
  unfold c102_2; rw [wrap_succ hb]; refine (bif_pos (Int.ofNat_lt.2 hi)).trans ?_; refine (bif_pos (Int.natCast_nonneg _)).trans ?_; refine (at_step hi).trans ?_
  refine congrArg (fun x => bif (gt s.2.1 i).1 == id then x else rec ((i + 1 : Nat) : Int)) ?_
  refine (bif_pos (Int.natCast_nonneg _)).trans ?_; refine (at_step hi).trans ?_; rfl
 ·show c102_2 (arun p n) fuel s id rec (s.2.1.length : Int) = _
  unfold c102_2; refine (bif_neg (Int.lt_irrefl _)).trans ?_; rfl
theorem f111 (s : StateT) (id : Int) (hl : s.2.1.length ≤ maxLen) : Ran p 1 111 [.val true ⟨K49, s⟩, .val false ⟨K3, (id, ())⟩] ⟨[⟨K3, (floorOf s.2.1 id, ())⟩], []⟩ := go111 fun n hn => by
 refine Ev.eq (fun fuel => by unfold T111; rfl) (It.ev (c := fun fuel (_ : Unit) => c111_2 (arun p n) fuel s id) (i := ()) (floor_loop s.2.1 id (fun i hi fuel a rec => ?_) (fun fuel a rec => ?_)) rfl)
 ·have hb : i < 9223372036854775807 := Nat.lt_of_lt_of_le hi hl
  show c111_2 (arun p n) fuel s id rec (i : Int) = _
  unfold c111_2; rw [wrap_succ hb]; refine (bif_pos (Int.ofNat_lt.2 hi)).trans ?_; refine (bif_pos (Int.natCast_nonneg _)).trans ?_; refine (at_step hi).trans ?_; rfl
 ·show c111_2 (arun p n) fuel s id rec (s.2.1.length : Int) = _
  unfold c111_2; refine (bif_neg (Int.lt_irrefl _)).trans ?_; rfl
theorem f53 (s : StateT) (h1 : s.1.length ≤ maxLen) (h2 : s.2.1.length ≤ maxLen) : Ran p 3 53 [.val true ⟨K49, s⟩] ⟨[⟨K4, (stateOk s, ())⟩], []⟩ := go53 fun n hn => by
 have inner : It (fun fuel (_ : Unit) => c53_8 (arun p n) fuel s) (0 : Int) (fun _ => oB (allI s.2.1.length (floorOkS s.2.1))) := by
  refine it_and_true (It.allB s.2.1.length (floorOkS s.2.1) true (fun i hi fuel a rec => ?_) (It.stop fun fuel a rec => ?_))
  ·have hb : i < 9223372036854775807 := Nat.lt_of_lt_of_le hi h2
   show c53_8 (arun p n) fuel s rec (i : Int) = _
   unfold c53_8 floorOkS; rw [wrap_succ hb]; refine (bif_pos (Int.ofNat_lt.2 hi)).trans ?_; refine (bif_pos (Int.natCast_nonneg _)).trans ?_; refine (at_step hi).trans ?_; refine (call_step (f100 (gt s.2.1 i).1 n (by omega))).trans ?_; refine chk fun _ => ?_
   cases i with
   | zero => refine (bif_neg (by decide)).trans ?_; refine (call_step (f70 (gt s.2.1 0).2.1 1 1000 n (by omega))).trans ?_; exact fin
   | succ j =>
    refine (bif_pos (by omega)).trans ?_; rw [prev_step hb (by omega)]; refine (bif_pos (Int.natCast_nonneg _)).trans ?_; refine (at_step (show j < s.2.1.length by omega)).trans ?_; refine chkP fun _ => ?_
    refine (call_step (f70 (gt s.2.1 (j + 1)).2.1 1 1000 n (by omega))).trans ?_; exact fin
  ·show c53_8 (arun p n) fuel s rec (s.2.1.length : Int) = _
   unfold c53_8; refine (bif_neg (Int.lt_irrefl _)).trans ?_; rfl
 have outer : It (fun fuel (_ : Unit) => c53_2 (arun p n) fuel s) (0 : Int) (fun _ => oB (stateOk s)) := by
  refine It.allB s.1.length (itemOkS s) _ (fun i hi fuel a rec => ?_) (It.stopE (T := fun fuel _ => iter (c53_8 (arun p n) fuel s) fuel (0 : Int)) (fun fuel a rec => ?_) inner.all_i)
  ·have hb : i < 9223372036854775807 := Nat.lt_of_lt_of_le hi h1
   show c53_2 (arun p n) fuel s rec (i : Int) = _
   unfold c53_2 itemOkS; rw [wrap_succ hb]; refine (bif_pos (Int.ofNat_lt.2 hi)).trans ?_; refine (bif_pos (Int.natCast_nonneg _)).trans ?_; refine (at_step hi).trans ?_; refine (call_step (f100 (gt s.1 i).1 n (by omega))).trans ?_; refine chk fun _ => ?_
   cases i with
   | zero => refine (bif_neg (by decide)).trans ?_; refine (call_step (f101 (gt s.1 0).2 n (by omega))).trans ?_; refine chk fun _ => ?_; refine (call_step (f102 s (gt s.1 0).1 h2 n (by omega))).trans ?_; exact finP
   | succ j =>
    refine (bif_pos (by omega)).trans ?_; rw [prev_step hb (by omega)]; refine (bif_pos (Int.natCast_nonneg _)).trans ?_; refine (at_step (show j < s.1.length by omega)).trans ?_; refine chkP fun _ => ?_
    refine (call_step (f101 (gt s.1 (j + 1)).2 n (by omega))).trans ?_; refine chk fun _ => ?_; refine (call_step (f102 s (gt s.1 (j + 1)).1 h2 n (by omega))).trans ?_; exact finP
  ·show c53_2 (arun p n) fuel s rec (s.1.length : Int) = _
   unfold c53_2; refine (bif_neg (Int.lt_irrefl _)).trans ?_; rfl
 exact Ev.eq (fun fuel => by unfold T53; rfl) (outer.ev (i := ()) rfl)
theorem f60 (s : StateT) (h1 : s.1.length ≤ maxLen) (h2 : s.2.1.length ≤ maxLen) : Ran p 3 60 [.val true ⟨K49, s⟩] ⟨[⟨K4, (stateOk s, ())⟩], []⟩ := go60 fun n hn => by
 have inner : It (fun fuel (_ : Unit) => c60_8 (arun p n) fuel s) (0 : Int) (fun _ => oB (allI s.1.length (itemOkI s))) := by
  refine it_and_true (It.allB s.1.length (itemOkI s) true (fun i hi fuel a rec => ?_) (It.stop fun fuel a rec => ?_))
  ·have hb : i < 9223372036854775807 := Nat.lt_of_lt_of_le hi h1
   show c60_8 (arun p n) fuel s rec (i : Int) = _
   unfold c60_8 itemOkI; rw [wrap_succ hb]; refine (bif_pos (Int.ofNat_lt.2 hi)).trans ?_; refine (bif_pos (Int.natCast_nonneg _)).trans ?_; refine (at_step hi).trans ?_; refine (call_step (f109 (gt s.1 i).1 n (by omega))).trans ?_; refine chk fun _ => ?_; refine (call_step (f110 (gt s.1 i).2 n (by omega))).trans ?_; refine chk fun _ => ?_; refine (call_step (f111 s (gt s.1 i).1 h2 n (by omega))).trans ?_; refine chkP fun _ => ?_
   cases i with
   | zero => refine (bif_neg (by decide)).trans ?_; rfl
   | succ j => refine (bif_pos (by omega)).trans ?_; rw [prev_step hb (by omega)]; refine (bif_pos (Int.natCast_nonneg _)).trans ?_; refine (at_step (show j < s.1.length by omega)).trans ?_; exact finP
  ·show c60_8 (arun p n) fuel s rec (s.1.length : Int) = _
   unfold c60_8; refine (bif_neg (Int.lt_irrefl _)).trans ?_; rfl
 have outer : It (fun fuel (_ : Unit) => c60_2 (arun p n) fuel s) (0 : Int) (fun _ => oB (allI s.2.1.length (floorOkI s.2.1) && allI s.1.length (itemOkI s))) := by
  refine It.allB s.2.1.length (floorOkI s.2.1) _ (fun i hi fuel a rec => ?_) (It.stopE (T := fun fuel _ => iter (c60_8 (arun p n) fuel s) fuel (0 : Int)) (fun fuel a rec => ?_) inner.all_i)
  ·have hb : i < 9223372036854775807 := Nat.lt_of_lt_of_le hi h2
   show c60_2 (arun p n) fuel s rec (i : Int) = _
   unfold c60_2 floorOkI; rw [wrap_succ hb]; refine (bif_pos (Int.ofNat_lt.2 hi)).trans ?_; refine (bif_pos (Int.natCast_nonneg _)).trans ?_; refine (at_step hi).trans ?_; refine (call_step (f109 (gt s.2.1 i).1 n (by omega))).trans ?_; refine chk fun _ => ?_; refine (call_step (f71 (gt s.2.1 i).2.1 1 1000 n (by omega))).trans ?_; refine chk fun _ => ?_
   cases i with
   | zero => refine (bif_neg (by decide)).trans ?_; rfl
   | succ j => refine (bif_pos (by omega)).trans ?_; rw [prev_step hb (by omega)]; refine (bif_pos (Int.natCast_nonneg _)).trans ?_; refine (at_step (show j < s.2.1.length by omega)).trans ?_; exact finP
  ·show c60_2 (arun p n) fuel s rec (s.2.1.length : Int) = _
   unfold c60_2; refine (bif_neg (Int.lt_irrefl _)).trans ?_; rfl
 rw [stateOk_I] at outer
 exact Ev.eq (fun fuel => by unfold T60; rfl) (outer.ev (i := ()) rfl)
end Go.Abs.Gz
