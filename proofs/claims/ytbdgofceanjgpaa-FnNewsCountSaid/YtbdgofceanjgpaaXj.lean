/- What the functions of this program answer, part j. -/
import Derived.Test.YtbdgofceanjgpaaXh
import Derived.Test.YtbdgofceanjgpaaW2
set_option linter.unusedVariables false
namespace Go.Abs.Pz
open Go Go.Abs
theorem f36 (s : StateT) (id : Int) (hl : s.1.length ≤ maxLen) : Ran p 1 36 [.val true ⟨K27, s⟩, .val false ⟨K3, (id, ())⟩] ⟨[⟨K34, (entryOf s id).1⟩, ⟨K4, ((entryOf s id).2, ())⟩], []⟩ := go36 fun n hn => by
 have lp : It (fun fuel (_ : Unit) => c36_2 (arun p n) fuel s id) (0 : Int) (fun _ => some ⟨[⟨K34, (entryOf s id).1⟩, ⟨K4, ((entryOf s id).2, ())⟩], []⟩) := by
  have := It.first (c := fun fuel (_ : Unit) => c36_2 (arun p n) fuel s id) (fun i => (i : Int)) s.1.length (fun i => (gt s.1 i).1 == id) (fun i _ => some ⟨[⟨K34, (gt (α := ItemT) s.1 i).2⟩, ⟨K4, (true, ())⟩], []⟩) (fun _ => some ⟨[⟨K34, zeroE⟩, ⟨K4, (false, ())⟩], []⟩) (fun i hi hp fuel a rec => ?_) (fun i hi hp => It.stop fun fuel a rec => ?_) (It.stop fun fuel a rec => ?_)
  ·revert this; unfold entryOf
   cases (List.range s.1.length).find? (fun i => (gt s.1 i).1 == id) <;> exact fun h => h
  ·have hb : i < 9223372036854775807 := Nat.lt_of_lt_of_le hi hl
   show c36_2 (arun p n) fuel s id rec (i : Int) = _
   unfold c36_2; rw [wrap_succ hb]; refine (bif_pos (Int.ofNat_lt.2 hi)).trans ?_; refine (bif_pos (Int.natCast_nonneg _)).trans ?_; refine (at_step hi).trans ?_; exact bif_ff hp
  ·show c36_2 (arun p n) fuel s id rec (i : Int) = _
   unfold c36_2; refine (bif_pos (Int.ofNat_lt.2 hi)).trans ?_; refine (bif_pos (Int.natCast_nonneg _)).trans ?_; refine (at_step hi).trans ?_; refine (bif_tt hp).trans ?_; refine (bif_pos (Int.natCast_nonneg _)).trans ?_; refine (at_step hi).trans ?_; rfl
  ·show c36_2 (arun p n) fuel s id rec (s.1.length : Int) = _
   unfold c36_2; refine (bif_neg (Int.lt_irrefl _)).trans ?_; rfl
 exact Ev.eq (fun fuel => by unfold T36; rfl) (lp.ev (i := ()) rfl)
theorem f35 (s : StateT) (id : Int) (hl : s.1.length ≤ maxLen) : Ran p 1 35 [.val true ⟨K27, s⟩, .val false ⟨K3, (id, ())⟩] ⟨[⟨K34, (entryOf s id).1⟩, ⟨K4, ((entryOf s id).2, ())⟩], []⟩ := go35 fun n hn => by
 have lp : It (fun fuel (_ : Unit) => c35_2 (arun p n) fuel s id) (0 : Int) (fun _ => some ⟨[⟨K34, (entryOf s id).1⟩, ⟨K4, ((entryOf s id).2, ())⟩], []⟩) := by
  have := It.first (c := fun fuel (_ : Unit) => c35_2 (arun p n) fuel s id) (fun i => (i : Int)) s.1.length (fun i => (gt s.1 i).1 == id) (fun i _ => some ⟨[⟨K34, (gt (α := ItemT) s.1 i).2⟩, ⟨K4, (true, ())⟩], []⟩) (fun _ => some ⟨[⟨K34, zeroE⟩, ⟨K4, (false, ())⟩], []⟩) (fun i hi hp fuel a rec => ?_) (fun i hi hp => It.stop fun fuel a rec => ?_) (It.stop fun fuel a rec => ?_)
  ·revert this; unfold entryOf
   cases (List.range s.1.length).find? (fun i => (gt s.1 i).1 == id) <;> exact fun h => h
  ·have hb : i < 9223372036854775807 := Nat.lt_of_lt_of_le hi hl
   show c35_2 (arun p n) fuel s id rec (i : Int) = _
   unfold c35_2; rw [wrap_succ hb]; refine (bif_pos (Int.ofNat_lt.2 hi)).trans ?_; refine (bif_pos (Int.natCast_nonneg _)).trans ?_; refine (at_step hi).trans ?_; exact bif_ff hp
  ·show c35_2 (arun p n) fuel s id rec (i : Int) = _
   unfold c35_2; refine (bif_pos (Int.ofNat_lt.2 hi)).trans ?_; refine (bif_pos (Int.natCast_nonneg _)).trans ?_; refine (at_step hi).trans ?_; refine (bif_tt hp).trans ?_; rfl
  ·show c35_2 (arun p n) fuel s id rec (s.1.length : Int) = _
   unfold c35_2; refine (bif_neg (Int.lt_irrefl _)).trans ?_; rfl
 exact Ev.eq (fun fuel => by unfold T35; rfl) (lp.ev (i := ()) rfl)
theorem f41 (a b : Int) : Ran p 1 41 [.val false ⟨K3, (a, ())⟩, .val false ⟨K3, (b, ())⟩] ⟨[⟨K3, (mxI true a b, ())⟩], []⟩ := go41 fun n hn => Ev.now fun fuel => by
 unfold T41 mxI
 simp only [if_true]
 by_cases h : a > b
 ·refine (bif_pos h).trans ?_; rw [if_neg (by omega : ¬ b > a)]
 ·refine (bif_neg h).trans ?_; by_cases h' : b > a
  ·rw [if_pos h']
  ·rw [if_neg h', show a = b from by omega]
theorem f46 (b : Bool) : Ran p 1 46 [.val false ⟨K4, (b, ())⟩] ⟨[⟨K3, (bitI b, ())⟩], []⟩ := go46 fun n hn => Ev.now fun fuel => by
 unfold T46; cases b <;> rfl
theorem f45 (a b : Int) : Ran p 2 45 [.val false ⟨K3, (a, ())⟩, .val false ⟨K3, (b, ())⟩] ⟨[⟨K3, (l2 a b, ())⟩], []⟩ := go45 fun n hn => Ev.now fun fuel => by
 unfold T45 l2
 cases decide (a < b) with
 | true => rfl
 | false => refine (bif_ff rfl).trans ?_; refine (call_step (f46 (decide (a > b)) n (by omega))).trans ?_; rfl
theorem f42 (a b : EntryT) : Ran p 3 42 [.val true ⟨K34, a⟩, .val true ⟨K34, b⟩] ⟨[⟨K3, (cmpE a b, ())⟩], []⟩ := go42 fun n hn => by
 have lp : It (fun fuel (_ : Unit) => c42_3 (arun p n) fuel a b (((l2 a.1 b.1, ()), ()), ()) (((l2 a.2.1 b.2.1, ()), ()), ()) (((l2 a.2.2.1 b.2.2.1, ()), ()), ()) (((l2 a.2.2.2.1 b.2.2.2.1, ()), ()), ())) (0 : Int) (fun _ => oI (cmpE a b)) := by
  have := It.first (c := fun fuel (_ : Unit) => c42_3 (arun p n) fuel a b (((l2 a.1 b.1, ()), ()), ()) (((l2 a.2.1 b.2.1, ()), ()), ()) (((l2 a.2.2.1 b.2.2.1, ()), ()), ()) (((l2 a.2.2.2.1 b.2.2.2.1, ()), ()), ())) (fun i => (i : Int)) (four a b).length (fun i => (gt (four a b) i).1 != 0) (fun i _ => oI (gt (four a b) i).1) (fun _ => oI (cmpT a.2.2.2.2.1 b.2.2.2.2.1)) (fun i hi hp fuel a' rec => ?_) (fun i hi hp => It.stop fun fuel a' rec => ?_) (It.stop fun fuel a' rec => ?_)
  ·rw [← orZ_four]; revert this; unfold orZ
   cases (List.range (four a b).length).find? (fun i => (gt (four a b) i).1 != 0) <;> exact fun h => h
  ·have hb : i < 9223372036854775807 := Nat.lt_of_lt_of_le hi (by show 4 ≤ 9223372036854775807; omega)
   show c42_3 (arun p n) fuel a b (((l2 a.1 b.1, ()), ()), ()) (((l2 a.2.1 b.2.1, ()), ()), ()) (((l2 a.2.2.1 b.2.2.1, ()), ()), ()) (((l2 a.2.2.2.1 b.2.2.2.1, ()), ()), ()) rec (i : Int) = _
   unfold c42_3; rw [wrap_succ hb]; refine (bif_pos (Int.ofNat_lt.2 hi)).trans ?_; refine (bif_pos (Int.natCast_nonneg _)).trans ?_; refine (at_step hi).trans ?_; refine (at_step hi).trans ?_; exact bif_ff hp
  ·show c42_3 (arun p n) fuel a b (((l2 a.1 b.1, ()), ()), ()) (((l2 a.2.1 b.2.1, ()), ()), ()) (((l2 a.2.2.1 b.2.2.1, ()), ()), ()) (((l2 a.2.2.2.1 b.2.2.2.1, ()), ()), ()) rec (i : Int) = _
   unfold c42_3; refine (bif_pos (Int.ofNat_lt.2 hi)).trans ?_; refine (bif_pos (Int.natCast_nonneg _)).trans ?_; refine (at_step hi).trans ?_; refine (at_step hi).trans ?_; refine (bif_tt hp).trans ?_; refine (bif_pos (Int.natCast_nonneg _)).trans ?_; refine (at_step hi).trans ?_; refine (at_step hi).trans ?_; rfl
  ·show c42_3 (arun p n) fuel a b (((l2 a.1 b.1, ()), ()), ()) (((l2 a.2.1 b.2.1, ()), ()), ()) (((l2 a.2.2.1 b.2.2.1, ()), ()), ()) (((l2 a.2.2.2.1 b.2.2.2.1, ()), ()), ()) rec (((four a b).length : Nat) : Int) = _
   unfold c42_3; refine (bif_neg (Int.lt_irrefl _)).trans ?_
   rw [← cmpT_spec]
   cases Op.bytesLess (ByteArray.toList a.2.2.2.2.1) (ByteArray.toList b.2.2.2.2.1) with
   | true => rfl
   | false => refine (bif_ff rfl).trans ?_; refine (call_step (f46 (!(false || ByteArray.toList a.2.2.2.2.1 == ByteArray.toList b.2.2.2.2.1)) n (by omega))).trans ?_; rfl
 exact Ev.eq (fun fuel => by unfold T42; refine (call_step (f45 a.1 b.1 n (by omega))).trans ?_; refine (call_step (f45 a.2.1 b.2.1 n (by omega))).trans ?_; refine (call_step (f45 a.2.2.1 b.2.2.1 n (by omega))).trans ?_; refine (call_step (f45 a.2.2.2.1 b.2.2.2.1 n (by omega))).trans ?_; rfl) (lp.ev (i := ()) rfl)
theorem f30 (a b : StateT) (ha : SzS a) (hb' : SzS b) (hpa : Pos a) (hpb : Pos b) : Ran p 4 30 [.val true ⟨K27, a⟩, .val true ⟨K27, b⟩] ⟨[⟨K27, joinS a b⟩], []⟩ := go30 fun n hn => by
 have lp : It (fun fuel (_ : Unit) => c30_3 (arun p n) fuel a b) ((0 : Int), ([] : List FloorT), ([] : List ItemT)) (fun _ => some ⟨[⟨K27, joinS a b⟩], []⟩) := by
  refine It.run (fun i => ((i : Int), accL i (gFloor a b), accL i (gItem a b))) 5 (fun i hi fuel u rec => ?_) (It.stop fun fuel u rec => ?_)
  ·have l1 : (accL i (gFloor a b)).length ≤ i * 1 := accL_len fun j _ => gFloor_len a b j
   have l2' : (accL i (gItem a b)).length ≤ i * 1 := accL_len fun j _ => gItem_len a b j
   have hb : i < 9223372036854775807 := by omega
   have fin3 : ∀ {F : List FloorT} {J : List ItemT}, gFloor a b i = F → gItem a b i = J → rec (((i + 1 : Nat) : Int), accL i (gFloor a b) ++ F, accL i (gItem a b) ++ J) = rec (((i + 1 : Nat) : Int), accL (i + 1) (gFloor a b), accL (i + 1) (gItem a b)) := by
    intro F J h1 h2; rw [accL_succ, accL_succ, h1, h2]
   have fin0 : ∀ {F : List FloorT}, gFloor a b i = F → gItem a b i = [] → rec (((i + 1 : Nat) : Int), accL i (gFloor a b) ++ F, accL i (gItem a b)) = rec (((i + 1 : Nat) : Int), accL (i + 1) (gFloor a b), accL (i + 1) (gItem a b)) := by
    intro F h1 h2; rw [accL_succ, accL_succ, h1, h2, List.append_nil]
   have fin1 : ∀ {J : List ItemT}, gFloor a b i = [] → gItem a b i = J → rec (((i + 1 : Nat) : Int), accL i (gFloor a b), accL i (gItem a b) ++ J) = rec (((i + 1 : Nat) : Int), accL (i + 1) (gFloor a b), accL (i + 1) (gItem a b)) := by
    intro J h1 h2; rw [accL_succ, accL_succ, h1, h2, List.append_nil]
   have fin2 : gFloor a b i = [] → gItem a b i = [] → rec (((i + 1 : Nat) : Int), accL i (gFloor a b), accL i (gItem a b)) = rec (((i + 1 : Nat) : Int), accL (i + 1) (gFloor a b), accL (i + 1) (gItem a b)) := by
    intro h1 h2; rw [accL_succ, accL_succ, h1, h2, List.append_nil, List.append_nil]
   show c30_3 (arun p n) fuel a b rec ((i : Int), accL i (gFloor a b), accL i (gItem a b)) = rec (((i + 1 : Nat) : Int), accL (i + 1) (gFloor a b), accL (i + 1) (gItem a b))
   unfold c30_3; dsimp only; rw [wrap_succ hb]; refine (bif_pos (by show (i : Int) < 5; omega)).trans ?_; refine (call_step (f21 a (i : Int) (small_max ha.b) n (by omega))).trans ?_; refine (call_step (f21 b (i : Int) (small_max hb'.b) n (by omega))).trans ?_; refine (call_step (f41 (floorOf a.2.1 (i : Int)) (floorOf b.2.1 (i : Int)) n (by omega))).trans ?_
   have zi : entryOf a (i : Int) = (zeroE, false) → entryOf b (i : Int) = (zeroE, false) → gItem a b i = [] := fun ea eb => gItem_neg (pick_nn ea eb) (by show ¬ (0 : Int) > _; have := flr_nn (b := b) hpa (i : Int); omega)
   by_cases hf : flr a b (i : Int) > 0
   ·refine (bif_pos hf).trans ?_; refine (bif_pos (by show (accL i (gFloor a b)).length + 1 ≤ 4294967296; omega)).trans ?_
    have gF := gFloor_pos hf
    refine (call_step2 (f36 a (i : Int) (small_max ha.a) n (by omega))).trans ?_; refine (call_step2 (f36 b (i : Int) (small_max hb'.a) n (by omega))).trans ?_
    rcases entry_ok hpa (i : Int) with ⟨x, hx, ea⟩ | ea <;> rcases entry_ok hpb (i : Int) with ⟨y, hy, eb⟩ | eb <;> rw [ea, eb]
    ·refine (bif_ff rfl).trans ?_; refine (bif_ff rfl).trans ?_; refine (bif_tt rfl).trans ?_; refine (call_step (f42 y x n (by omega))).trans ?_
     have pk := pick_yy ea eb
     by_cases hc : cmpE y x > 0
     ·rw [decide_eq_true hc] at pk
      replace pk : pickE a b (i : Int) = y := pk
      refine (bif_pos hc).trans ?_
      by_cases hi' : y.1 > flr a b i
      ·refine (bif_pos hi').trans ?_; refine (bif_pos (by show (accL i (gItem a b)).length + 1 ≤ 4294967296; omega)).trans ?_; exact fin3 gF (gItem_pos pk hi')
      ·refine (bif_neg hi').trans ?_; exact fin0 gF (gItem_neg pk hi')
     ·rw [decide_eq_false hc] at pk
      replace pk : pickE a b (i : Int) = x := pk
      refine (bif_neg hc).trans ?_
      by_cases hi' : x.1 > flr a b i
      ·refine (bif_pos hi').trans ?_; refine (bif_pos (by show (accL i (gItem a b)).length + 1 ≤ 4294967296; omega)).trans ?_; exact fin3 gF (gItem_pos pk hi')
      ·refine (bif_neg hi').trans ?_; exact fin0 gF (gItem_neg pk hi')
    ·refine (bif_ff rfl).trans ?_; refine (bif_ff rfl).trans ?_; refine (bif_ff rfl).trans ?_
     by_cases hi' : x.1 > flr a b i
     ·refine (bif_pos hi').trans ?_; refine (bif_pos (by show (accL i (gItem a b)).length + 1 ≤ 4294967296; omega)).trans ?_; exact fin3 gF (gItem_pos (pick_yn ea eb hx) hi')
     ·refine (bif_neg hi').trans ?_; exact fin0 gF (gItem_neg (pick_yn ea eb hx) hi')
    ·refine (bif_tt rfl).trans ?_; refine (bif_ff rfl).trans ?_; refine (bif_tt rfl).trans ?_
     by_cases hi' : y.1 > flr a b i
     ·refine (bif_pos hi').trans ?_; refine (bif_pos (by show (accL i (gItem a b)).length + 1 ≤ 4294967296; omega)).trans ?_; exact fin3 gF (gItem_pos (pick_ny ea eb hy) hi')
     ·refine (bif_neg hi').trans ?_; exact fin0 gF (gItem_neg (pick_ny ea eb hy) hi')
    ·refine (bif_tt rfl).trans ?_; refine (bif_tt rfl).trans ?_; exact fin0 gF (zi ea eb)
   ·refine (bif_neg hf).trans ?_
    have gF := gFloor_neg hf
    refine (call_step2 (f36 a (i : Int) (small_max ha.a) n (by omega))).trans ?_; refine (call_step2 (f36 b (i : Int) (small_max hb'.a) n (by omega))).trans ?_
    rcases entry_ok hpa (i : Int) with ⟨x, hx, ea⟩ | ea <;> rcases entry_ok hpb (i : Int) with ⟨y, hy, eb⟩ | eb <;> rw [ea, eb]
    ·refine (bif_ff rfl).trans ?_; refine (bif_ff rfl).trans ?_; refine (bif_tt rfl).trans ?_; refine (call_step (f42 y x n (by omega))).trans ?_
     have pk := pick_yy ea eb
     by_cases hc : cmpE y x > 0
     ·rw [decide_eq_true hc] at pk
      replace pk : pickE a b (i : Int) = y := pk
      refine (bif_pos hc).trans ?_
      by_cases hi' : y.1 > flr a b i
      ·refine (bif_pos hi').trans ?_; refine (bif_pos (by show (accL i (gItem a b)).length + 1 ≤ 4294967296; omega)).trans ?_; exact fin1 gF (gItem_pos pk hi')
      ·refine (bif_neg hi').trans ?_; exact fin2 gF (gItem_neg pk hi')
     ·rw [decide_eq_false hc] at pk
      replace pk : pickE a b (i : Int) = x := pk
      refine (bif_neg hc).trans ?_
      by_cases hi' : x.1 > flr a b i
      ·refine (bif_pos hi').trans ?_; refine (bif_pos (by show (accL i (gItem a b)).length + 1 ≤ 4294967296; omega)).trans ?_; exact fin1 gF (gItem_pos pk hi')
      ·refine (bif_neg hi').trans ?_; exact fin2 gF (gItem_neg pk hi')
    ·refine (bif_ff rfl).trans ?_; refine (bif_ff rfl).trans ?_; refine (bif_ff rfl).trans ?_
     by_cases hi' : x.1 > flr a b i
     ·refine (bif_pos hi').trans ?_; refine (bif_pos (by show (accL i (gItem a b)).length + 1 ≤ 4294967296; omega)).trans ?_; exact fin1 gF (gItem_pos (pick_yn ea eb hx) hi')
     ·refine (bif_neg hi').trans ?_; exact fin2 gF (gItem_neg (pick_yn ea eb hx) hi')
    ·refine (bif_tt rfl).trans ?_; refine (bif_ff rfl).trans ?_; refine (bif_tt rfl).trans ?_
     by_cases hi' : y.1 > flr a b i
     ·refine (bif_pos hi').trans ?_; refine (bif_pos (by show (accL i (gItem a b)).length + 1 ≤ 4294967296; omega)).trans ?_; exact fin1 gF (gItem_pos (pick_ny ea eb hy) hi')
     ·refine (bif_neg hi').trans ?_; exact fin2 gF (gItem_neg (pick_ny ea eb hy) hi')
    ·refine (bif_tt rfl).trans ?_; refine (bif_tt rfl).trans ?_; exact fin2 gF (zi ea eb)
  ·show c30_3 (arun p n) fuel a b rec (((5 : Nat) : Int), accL 5 (gFloor a b), accL 5 (gItem a b)) = _
   unfold c30_3; exact bif_neg (by show ¬ ((5 : Int) < 5); decide)
 exact Ev.eq (fun fuel => by unfold T30; rfl) (lp.ev (i := ()) rfl)
theorem f17 (s : StateT) (id : Int) (hz : SzS s) : Ran p 5 17 [.val true ⟨K27, s⟩, .val false ⟨K3, (id, ())⟩] ⟨[⟨K34, (lookup s id).1⟩, ⟨K4, ((lookup s id).2, ())⟩], []⟩ := go17 fun n hn => Ev.now fun fuel => by
 unfold T17; refine (call_step (f27 s hz n (by omega))).trans ?_; refine (call_step2 (f36 (viewS s, [], ()) id (small_max (viewS_len hz)) n (by omega))).trans ?_; rfl
end Go.Abs.Pz
