/- What the functions of this program answer, part j. -/
import Derived.Test.YthgekoledembcaaGreatXh
import Derived.Test.YthgekoledembcaaGreatW2
set_option linter.unusedVariables false
namespace Go.Abs.Gz
open Go Go.Abs
theorem bitI_le (b : Bool) : 0 ≤ bitI b ∧ bitI b ≤ 1 := by cases b <;> decide
theorem f118 (s : StateT) (id : Int) (hl : s.1.length ≤ maxLen) : Ran p 1 118 [.val true ⟨K49, s⟩, .val false ⟨K3, (id, ())⟩] ⟨[⟨K137, (entryOf s id).1⟩, ⟨K4, ((entryOf s id).2, ())⟩], []⟩ := go118 fun n hn => by
  have lp : It (fun fuel (_ : Unit) => c118_2 (arun p n) fuel s id) (0 : Int) (fun _ => some ⟨[⟨K137, (entryOf s id).1⟩, ⟨K4, ((entryOf s id).2, ())⟩], []⟩) := by
    have := It.first (c := fun fuel (_ : Unit) => c118_2 (arun p n) fuel s id) (fun i => (i : Int)) s.1.length (fun i => (gt s.1 i).1 == id) (fun i _ => some ⟨[⟨K137, (gt (α := ItemT) s.1 i).2⟩, ⟨K4, (true, ())⟩], []⟩) (fun _ => some ⟨[⟨K137, zeroE⟩, ⟨K4, (false, ())⟩], []⟩) (fun i hi hp fuel a rec => ?_) (fun i hi hp => It.stop fun fuel a rec => ?_) (It.stop fun fuel a rec => ?_)
    · revert this; unfold entryOf
      cases (List.range s.1.length).find? (fun i => (gt s.1 i).1 == id) <;> exact fun h => h
    · have hb : i < 9223372036854775807 := Nat.lt_of_lt_of_le hi hl
      show c118_2 (arun p n) fuel s id rec (i : Int) = _
      unfold c118_2; rw [wrap_succ hb]; refine (bif_pos (Int.ofNat_lt.2 hi)).trans ?_; refine (bif_pos (Int.natCast_nonneg _)).trans ?_; refine (at_step hi).trans ?_; exact bif_ff hp
    · show c118_2 (arun p n) fuel s id rec (i : Int) = _
      unfold c118_2; refine (bif_pos (Int.ofNat_lt.2 hi)).trans ?_; refine (bif_pos (Int.natCast_nonneg _)).trans ?_; refine (at_step hi).trans ?_; refine (bif_tt hp).trans ?_; refine (bif_pos (Int.natCast_nonneg _)).trans ?_; refine (at_step hi).trans ?_; rfl
    · show c118_2 (arun p n) fuel s id rec (s.1.length : Int) = _
      unfold c118_2; refine (bif_neg (Int.lt_irrefl _)).trans ?_; rfl
  exact Ev.eq (fun fuel => by unfold T118; rfl) (lp.ev (i := ()) rfl)
theorem f120 (s : StateT) (id : Int) (hl : s.1.length ≤ maxLen) : Ran p 1 120 [.val true ⟨K49, s⟩, .val false ⟨K3, (id, ())⟩] ⟨[⟨K137, (entryOf s id).1⟩, ⟨K4, ((entryOf s id).2, ())⟩], []⟩ := go120 fun n hn => by
  have lp : It (fun fuel (_ : Unit) => c120_2 (arun p n) fuel s id) (0 : Int) (fun _ => some ⟨[⟨K137, (entryOf s id).1⟩, ⟨K4, ((entryOf s id).2, ())⟩], []⟩) := by
    have := It.first (c := fun fuel (_ : Unit) => c120_2 (arun p n) fuel s id) (fun i => (i : Int)) s.1.length (fun i => (gt s.1 i).1 == id) (fun i _ => some ⟨[⟨K137, (gt (α := ItemT) s.1 i).2⟩, ⟨K4, (true, ())⟩], []⟩) (fun _ => some ⟨[⟨K137, zeroE⟩, ⟨K4, (false, ())⟩], []⟩) (fun i hi hp fuel a rec => ?_) (fun i hi hp => It.stop fun fuel a rec => ?_) (It.stop fun fuel a rec => ?_)
    · revert this; unfold entryOf
      cases (List.range s.1.length).find? (fun i => (gt s.1 i).1 == id) <;> exact fun h => h
    · have hb : i < 9223372036854775807 := Nat.lt_of_lt_of_le hi hl
      show c120_2 (arun p n) fuel s id rec (i : Int) = _
      unfold c120_2; rw [wrap_succ hb]; refine (bif_pos (Int.ofNat_lt.2 hi)).trans ?_; refine (bif_pos (Int.natCast_nonneg _)).trans ?_; refine (at_step hi).trans ?_; exact bif_ff hp
    · show c120_2 (arun p n) fuel s id rec (i : Int) = _
      unfold c120_2; refine (bif_pos (Int.ofNat_lt.2 hi)).trans ?_; refine (bif_pos (Int.natCast_nonneg _)).trans ?_; refine (at_step hi).trans ?_; refine (bif_tt hp).trans ?_; rfl
    · show c120_2 (arun p n) fuel s id rec (s.1.length : Int) = _
      unfold c120_2; refine (bif_neg (Int.lt_irrefl _)).trans ?_; rfl
  exact Ev.eq (fun fuel => by unfold T120; rfl) (lp.ev (i := ()) rfl)
theorem f117 (a b : Int) : Ran p 1 117 [.val false ⟨K3, (a, ())⟩, .val false ⟨K3, (b, ())⟩] ⟨[⟨K3, (mxI true a b, ())⟩], []⟩ := go117 fun n hn => Ev.now fun fuel => by
  unfold T117 mxI
  simp only [if_true]
  by_cases h : a > b
  · refine (bif_pos h).trans ?_; rw [if_neg (by omega : ¬ b > a)]
  · refine (bif_neg h).trans ?_; by_cases h' : b > a
    · rw [if_pos h']
    · rw [if_neg h', show a = b from by omega]
theorem f171 (b : Bool) : Ran p 1 171 [.val false ⟨K4, (b, ())⟩] ⟨[⟨K3, (bitI b, ())⟩], []⟩ := go171 fun n hn => Ev.now fun fuel => by
  unfold T171; cases b <;> rfl
theorem f170 (a b : Int) : Ran p 2 170 [.val false ⟨K3, (a, ())⟩, .val false ⟨K3, (b, ())⟩] ⟨[⟨K3, (l2 a b, ())⟩], []⟩ := go170 fun n hn => Ev.now fun fuel => by
  unfold T170 l2
  cases decide (a < b) with
  | true => rfl
  | false => refine (bif_ff rfl).trans ?_; refine (call_step (f171 (decide (a > b)) n (by omega))).trans ?_; rfl
theorem f209 (a : Int) : Ran p 1 209 [.val false ⟨K3, (a, ())⟩] ⟨[⟨K4, (false, ())⟩], []⟩ := go209 fun n hn => Ev.now fun fuel => by
  unfold T209; exact congrArg (fun b : Bool => (some ⟨[⟨K4, (b, ())⟩], []⟩ : Option Out)) (by simp : (a != a) = false)
theorem f201 (a b : Int) : Ran p 2 201 [.val false ⟨K3, (a, ())⟩, .val false ⟨K3, (b, ())⟩] ⟨[⟨K3, (l2 a b, ())⟩], []⟩ := go201 fun n hn => Ev.now fun fuel => by
  unfold T201 l2; refine (call_step (f209 a n (by omega))).trans ?_; refine (call_step (f209 b n (by omega))).trans ?_; refine (bif_ff rfl).trans ?_; refine (bif_ff rfl).trans ?_; cases decide (a < b) <;> cases decide (a > b) <;> rfl
theorem f200 (ls : List NumT) (hl : ls.length ≤ maxLen) : Ran p 1 200 [.val false ⟨K43, (ls, ())⟩] ⟨[⟨K3, (orN ls, ())⟩], []⟩ := go200 fun n hn => by
  have lp : It (fun fuel (_ : Unit) => c200_3 (arun p n) fuel ls) (0 : Int) (fun _ => oI (orN ls)) := by
    have := It.first (c := fun fuel (_ : Unit) => c200_3 (arun p n) fuel ls) (fun i => (i : Int)) ls.length (fun i => (gt ls i).1 != 0) (fun i _ => oI (gt ls i).1) (fun _ => oI 0) (fun i hi hp fuel a rec => ?_) (fun i hi hp => It.stop fun fuel a rec => ?_) (It.stop fun fuel a rec => ?_)
    · revert this; unfold orN
      cases (List.range ls.length).find? (fun i => (gt ls i).1 != 0) <;> exact fun h => h
    · have hb : i < 9223372036854775807 := Nat.lt_of_lt_of_le hi hl
      show c200_3 (arun p n) fuel ls rec (i : Int) = _
      unfold c200_3; rw [wrap_succ hb]; refine (bif_pos (Int.ofNat_lt.2 hi)).trans ?_; refine (bif_pos (Int.natCast_nonneg _)).trans ?_; refine (at_step hi).trans ?_; exact bif_ff hp
    · show c200_3 (arun p n) fuel ls rec (i : Int) = _
      unfold c200_3; refine (bif_pos (Int.ofNat_lt.2 hi)).trans ?_; refine (bif_pos (Int.natCast_nonneg _)).trans ?_; refine (at_step hi).trans ?_; exact bif_tt hp
    · show c200_3 (arun p n) fuel ls rec (ls.length : Int) = _
      unfold c200_3; refine (bif_neg (Int.lt_irrefl _)).trans ?_; rfl
  exact Ev.eq (fun fuel => by unfold T200; rfl) (lp.ev (i := ()) rfl)
theorem f202 (a b : ByteArray) : Ran p 1 202 [.val false ⟨K9, (a, ())⟩, .val false ⟨K9, (b, ())⟩] ⟨[⟨K3, (cmpT a b, ())⟩], []⟩ := fun n hn => by
  cases n with
  | zero => omega
  | succ n => rfl
theorem f172 (a b : EntryT) : Ran p 3 172 [.val true ⟨K137, a⟩, .val true ⟨K137, b⟩] ⟨[⟨K3, (cmpE a b, ())⟩], []⟩ := go172 fun n hn => Ev.now fun fuel => by
  unfold T172; refine (call_step (f201 a.1 b.1 n (by omega))).trans ?_; refine (call_step (f201 a.2.1 b.2.1 n (by omega))).trans ?_; refine (call_step (f201 a.2.2.1 b.2.2.1 n (by omega))).trans ?_; refine (call_step (f201 a.2.2.2.1 b.2.2.2.1 n (by omega))).trans ?_; refine (call_step (f202 a.2.2.2.2.1 b.2.2.2.2.1 n (by omega))).trans ?_
  refine (call_step (f200 [(l2 a.1 b.1, ()), (l2 a.2.1 b.2.1, ()), (l2 a.2.2.1 b.2.2.1, ()), (l2 a.2.2.2.1 b.2.2.2.1, ()), (cmpT a.2.2.2.2.1 b.2.2.2.2.1, ())] (by show 5 ≤ 9223372036854775807; omega) n (by omega))).trans ?_
  exact congrArg (fun x : Int => (some ⟨[⟨K3, (x, ())⟩], []⟩ : Option Out)) (orN_cmp a b)
theorem f119 (a b : EntryT) : Ran p 3 119 [.val true ⟨K137, a⟩, .val true ⟨K137, b⟩] ⟨[⟨K3, (cmpE a b, ())⟩], []⟩ := go119 fun n hn => by
  have lp : It (fun fuel (_ : Unit) => c119_3 (arun p n) fuel a b (((l2 a.1 b.1, ()), ()), ()) (((l2 a.2.1 b.2.1, ()), ()), ()) (((l2 a.2.2.1 b.2.2.1, ()), ()), ()) (((l2 a.2.2.2.1 b.2.2.2.1, ()), ()), ())) (0 : Int) (fun _ => oI (cmpE a b)) := by
    have := It.first (c := fun fuel (_ : Unit) => c119_3 (arun p n) fuel a b (((l2 a.1 b.1, ()), ()), ()) (((l2 a.2.1 b.2.1, ()), ()), ()) (((l2 a.2.2.1 b.2.2.1, ()), ()), ()) (((l2 a.2.2.2.1 b.2.2.2.1, ()), ()), ())) (fun i => (i : Int)) (four a b).length (fun i => (gt (four a b) i).1 != 0) (fun i _ => oI (gt (four a b) i).1) (fun _ => oI (cmpT a.2.2.2.2.1 b.2.2.2.2.1)) (fun i hi hp fuel a' rec => ?_) (fun i hi hp => It.stop fun fuel a' rec => ?_) (It.stop fun fuel a' rec => ?_)
    · rw [← orZ_four]; revert this; unfold orZ
      cases (List.range (four a b).length).find? (fun i => (gt (four a b) i).1 != 0) <;> exact fun h => h
    · have hb : i < 9223372036854775807 := Nat.lt_of_lt_of_le hi (by show 4 ≤ 9223372036854775807; omega)
      show c119_3 (arun p n) fuel a b (((l2 a.1 b.1, ()), ()), ()) (((l2 a.2.1 b.2.1, ()), ()), ()) (((l2 a.2.2.1 b.2.2.1, ()), ()), ()) (((l2 a.2.2.2.1 b.2.2.2.1, ()), ()), ()) rec (i : Int) = _
      unfold c119_3; rw [wrap_succ hb]; refine (bif_pos (Int.ofNat_lt.2 hi)).trans ?_; refine (bif_pos (Int.natCast_nonneg _)).trans ?_; refine (at_step hi).trans ?_; refine (at_step hi).trans ?_; exact bif_ff hp
    · show c119_3 (arun p n) fuel a b (((l2 a.1 b.1, ()), ()), ()) (((l2 a.2.1 b.2.1, ()), ()), ()) (((l2 a.2.2.1 b.2.2.1, ()), ()), ()) (((l2 a.2.2.2.1 b.2.2.2.1, ()), ()), ()) rec (i : Int) = _
      unfold c119_3; refine (bif_pos (Int.ofNat_lt.2 hi)).trans ?_; refine (bif_pos (Int.natCast_nonneg _)).trans ?_; refine (at_step hi).trans ?_; refine (at_step hi).trans ?_; refine (bif_tt hp).trans ?_; refine (bif_pos (Int.natCast_nonneg _)).trans ?_; refine (at_step hi).trans ?_; refine (at_step hi).trans ?_; rfl
    · show c119_3 (arun p n) fuel a b (((l2 a.1 b.1, ()), ()), ()) (((l2 a.2.1 b.2.1, ()), ()), ()) (((l2 a.2.2.1 b.2.2.1, ()), ()), ()) (((l2 a.2.2.2.1 b.2.2.2.1, ()), ()), ()) rec (((four a b).length : Nat) : Int) = _
      unfold c119_3; refine (bif_neg (Int.lt_irrefl _)).trans ?_
      rw [← cmpT_spec]
      cases Op.bytesLess (ByteArray.toList a.2.2.2.2.1) (ByteArray.toList b.2.2.2.2.1) with
      | true => rfl
      | false => refine (bif_ff rfl).trans ?_; refine (call_step (f171 (!(false || ByteArray.toList a.2.2.2.2.1 == ByteArray.toList b.2.2.2.2.1)) n (by omega))).trans ?_; rfl
  exact Ev.eq (fun fuel => by unfold T119; refine (call_step (f170 a.1 b.1 n (by omega))).trans ?_; refine (call_step (f170 a.2.1 b.2.1 n (by omega))).trans ?_; refine (call_step (f170 a.2.2.1 b.2.2.1 n (by omega))).trans ?_; refine (call_step (f170 a.2.2.2.1 b.2.2.2.1 n (by omega))).trans ?_; rfl) (lp.ev (i := ()) rfl)
theorem f121 (a b : EntryT) : Ran p 4 121 [.val true ⟨K137, a⟩, .val true ⟨K137, b⟩] ⟨[⟨K137, mxE a b⟩], []⟩ := go121 fun n hn => Ev.now fun fuel => by
  unfold T121 mxE; refine (call_step (f172 a b n (by omega))).trans ?_; cases decide (cmpE a b < 0) <;> rfl
theorem f66 (a b : StateT) (ha : SzS a) (hb' : SzS b) (hpa : Pos a) (hpb : Pos b) : Ran p 4 66 [.val true ⟨K49, a⟩, .val true ⟨K49, b⟩] ⟨[⟨K49, joinS a b⟩], []⟩ := go66 fun n hn => by
  have lp : It (fun fuel (_ : Unit) => c66_3 (arun p n) fuel a b) ((0 : Int), ([] : List FloorT), ([] : List ItemT)) (fun _ => some ⟨[⟨K49, joinS a b⟩], []⟩) := by
    refine It.run (fun i => ((i : Int), accL i (gFloor a b), accL i (gItem a b))) 5 (fun i hi fuel u rec => ?_) (It.stop fun fuel u rec => ?_)
    · have l1 : (accL i (gFloor a b)).length ≤ i * 1 := accL_len fun j _ => gFloor_len a b j
      have l2' : (accL i (gItem a b)).length ≤ i * 1 := accL_len fun j _ => gItem_len a b j
      have hb : i < 9223372036854775807 := by omega
      have fin3 : ∀ {F : List FloorT} {J : List ItemT}, gFloor a b i = F → gItem a b i = J → rec (((i + 1 : Nat) : Int), accL i (gFloor a b) ++ F, accL i (gItem a b) ++ J) = rec (((i + 1 : Nat) : Int), accL (i + 1) (gFloor a b), accL (i + 1) (gItem a b)) := by
        intro F J h1 h2; rw [accL_succ, accL_succ, h1, h2]
      have fin0 : ∀ {F : List FloorT}, gFloor a b i = F → gItem a b i = [] → rec (((i + 1 : Nat) : Int), accL i (gFloor a b) ++ F, accL i (gItem a b)) = rec (((i + 1 : Nat) : Int), accL (i + 1) (gFloor a b), accL (i + 1) (gItem a b)) := by
        intro F h1 h2; rw [accL_succ, accL_succ, h1, h2, List.append_nil]
      have fin1 : ∀ {J : List ItemT}, gFloor a b i = [] → gItem a b i = J → rec (((i + 1 : Nat) : Int), accL i (gFloor a b), accL i (gItem a b) ++ J) = rec (((i + 1 : Nat) : Int), accL (i + 1) (gFloor a b), accL (i + 1) (gItem a b)) := by
        intro J h1 h2; rw [accL_succ, accL_succ, h1, h2, List.append_nil]
      have fin2 : gFloor a b i = [] → gItem a b i = [] → rec (((i + 1 : Nat) : Int), accL i (gFloor a b), accL i (gItem a b)) = rec (((i + 1 : Nat) : Int), accL (i + 1) (gFloor a b), accL (i + 1) (gItem a b)) := by
        intro h1 h2; rw [accL_succ, accL_succ, h1, h2, List.append_nil, List.append_nil]
      show c66_3 (arun p n) fuel a b rec ((i : Int), accL i (gFloor a b), accL i (gItem a b)) = rec (((i + 1 : Nat) : Int), accL (i + 1) (gFloor a b), accL (i + 1) (gItem a b))
      unfold c66_3; dsimp only; rw [wrap_succ hb]; refine (bif_pos (by show (i : Int) < 5; omega)).trans ?_; refine (call_step (f102 a (i : Int) (small_max ha.b) n (by omega))).trans ?_; refine (call_step (f102 b (i : Int) (small_max hb'.b) n (by omega))).trans ?_; refine (call_step (f117 (floorOf a.2.1 (i : Int)) (floorOf b.2.1 (i : Int)) n (by omega))).trans ?_
      have zi : entryOf a (i : Int) = (zeroE, false) → entryOf b (i : Int) = (zeroE, false) → gItem a b i = [] := fun ea eb => gItem_neg (pick_nn ea eb) (by show ¬ (0 : Int) > _; have := flr_nn (b := b) hpa (i : Int); omega)
      by_cases hf : flr a b (i : Int) > 0
      · refine (bif_pos hf).trans ?_; refine (bif_pos (by show (accL i (gFloor a b)).length + 1 ≤ 4294967296; omega)).trans ?_
        have gF := gFloor_pos hf
        refine (call_step2 (f118 a (i : Int) (small_max ha.a) n (by omega))).trans ?_; refine (call_step2 (f118 b (i : Int) (small_max hb'.a) n (by omega))).trans ?_
        rcases entry_ok hpa (i : Int) with ⟨x, hx, ea⟩ | ea <;> rcases entry_ok hpb (i : Int) with ⟨y, hy, eb⟩ | eb <;> rw [ea, eb]
        · refine (bif_ff rfl).trans ?_; refine (bif_ff rfl).trans ?_; refine (bif_tt rfl).trans ?_; refine (call_step (f119 y x n (by omega))).trans ?_
          have pk := pick_yy ea eb
          by_cases hc : cmpE y x > 0
          · rw [decide_eq_true hc] at pk
            replace pk : pickE a b (i : Int) = y := pk
            refine (bif_pos hc).trans ?_
            by_cases hi' : y.1 > flr a b i
            · refine (bif_pos hi').trans ?_; refine (bif_pos (by show (accL i (gItem a b)).length + 1 ≤ 4294967296; omega)).trans ?_; exact fin3 gF (gItem_pos pk hi')
            · refine (bif_neg hi').trans ?_; exact fin0 gF (gItem_neg pk hi')
          · rw [decide_eq_false hc] at pk
            replace pk : pickE a b (i : Int) = x := pk
            refine (bif_neg hc).trans ?_
            by_cases hi' : x.1 > flr a b i
            · refine (bif_pos hi').trans ?_; refine (bif_pos (by show (accL i (gItem a b)).length + 1 ≤ 4294967296; omega)).trans ?_; exact fin3 gF (gItem_pos pk hi')
            · refine (bif_neg hi').trans ?_; exact fin0 gF (gItem_neg pk hi')
        · refine (bif_ff rfl).trans ?_; refine (bif_ff rfl).trans ?_; refine (bif_ff rfl).trans ?_
          by_cases hi' : x.1 > flr a b i
          · refine (bif_pos hi').trans ?_; refine (bif_pos (by show (accL i (gItem a b)).length + 1 ≤ 4294967296; omega)).trans ?_; exact fin3 gF (gItem_pos (pick_yn ea eb hx) hi')
          · refine (bif_neg hi').trans ?_; exact fin0 gF (gItem_neg (pick_yn ea eb hx) hi')
        · refine (bif_tt rfl).trans ?_; refine (bif_ff rfl).trans ?_; refine (bif_tt rfl).trans ?_
          by_cases hi' : y.1 > flr a b i
          · refine (bif_pos hi').trans ?_; refine (bif_pos (by show (accL i (gItem a b)).length + 1 ≤ 4294967296; omega)).trans ?_; exact fin3 gF (gItem_pos (pick_ny ea eb hy) hi')
          · refine (bif_neg hi').trans ?_; exact fin0 gF (gItem_neg (pick_ny ea eb hy) hi')
        · refine (bif_tt rfl).trans ?_; refine (bif_tt rfl).trans ?_; exact fin0 gF (zi ea eb)
      · refine (bif_neg hf).trans ?_
        have gF := gFloor_neg hf
        refine (call_step2 (f118 a (i : Int) (small_max ha.a) n (by omega))).trans ?_; refine (call_step2 (f118 b (i : Int) (small_max hb'.a) n (by omega))).trans ?_
        rcases entry_ok hpa (i : Int) with ⟨x, hx, ea⟩ | ea <;> rcases entry_ok hpb (i : Int) with ⟨y, hy, eb⟩ | eb <;> rw [ea, eb]
        · refine (bif_ff rfl).trans ?_; refine (bif_ff rfl).trans ?_; refine (bif_tt rfl).trans ?_; refine (call_step (f119 y x n (by omega))).trans ?_
          have pk := pick_yy ea eb
          by_cases hc : cmpE y x > 0
          · rw [decide_eq_true hc] at pk
            replace pk : pickE a b (i : Int) = y := pk
            refine (bif_pos hc).trans ?_
            by_cases hi' : y.1 > flr a b i
            · refine (bif_pos hi').trans ?_; refine (bif_pos (by show (accL i (gItem a b)).length + 1 ≤ 4294967296; omega)).trans ?_; exact fin1 gF (gItem_pos pk hi')
            · refine (bif_neg hi').trans ?_; exact fin2 gF (gItem_neg pk hi')
          · rw [decide_eq_false hc] at pk
            replace pk : pickE a b (i : Int) = x := pk
            refine (bif_neg hc).trans ?_
            by_cases hi' : x.1 > flr a b i
            · refine (bif_pos hi').trans ?_; refine (bif_pos (by show (accL i (gItem a b)).length + 1 ≤ 4294967296; omega)).trans ?_; exact fin1 gF (gItem_pos pk hi')
            · refine (bif_neg hi').trans ?_; exact fin2 gF (gItem_neg pk hi')
        · refine (bif_ff rfl).trans ?_; refine (bif_ff rfl).trans ?_; refine (bif_ff rfl).trans ?_
          by_cases hi' : x.1 > flr a b i
          · refine (bif_pos hi').trans ?_; refine (bif_pos (by show (accL i (gItem a b)).length + 1 ≤ 4294967296; omega)).trans ?_; exact fin1 gF (gItem_pos (pick_yn ea eb hx) hi')
          · refine (bif_neg hi').trans ?_; exact fin2 gF (gItem_neg (pick_yn ea eb hx) hi')
        · refine (bif_tt rfl).trans ?_; refine (bif_ff rfl).trans ?_; refine (bif_tt rfl).trans ?_
          by_cases hi' : y.1 > flr a b i
          · refine (bif_pos hi').trans ?_; refine (bif_pos (by show (accL i (gItem a b)).length + 1 ≤ 4294967296; omega)).trans ?_; exact fin1 gF (gItem_pos (pick_ny ea eb hy) hi')
          · refine (bif_neg hi').trans ?_; exact fin2 gF (gItem_neg (pick_ny ea eb hy) hi')
        · refine (bif_tt rfl).trans ?_; refine (bif_tt rfl).trans ?_; exact fin2 gF (zi ea eb)
    · show c66_3 (arun p n) fuel a b rec (((5 : Nat) : Int), accL 5 (gFloor a b), accL 5 (gItem a b)) = _
      unfold c66_3; exact bif_neg (by show ¬ ((5 : Int) < 5); decide)
  exact Ev.eq (fun fuel => by unfold T66; rfl) (lp.ev (i := ()) rfl)
theorem f67 (a b : StateT) (ha : SzS a) (hb' : SzS b) : Ran p 5 67 [.val true ⟨K49, a⟩, .val true ⟨K49, b⟩] ⟨[⟨K49, joinS a b⟩], []⟩ := go67 fun n hn => by
  have lp : It (fun fuel (_ : Unit) => c67_3 (arun p n) fuel a b) ((0 : Int), ([] : List ItemT), ([] : List FloorT)) (fun _ => some ⟨[⟨K49, joinS a b⟩], []⟩) := by
    refine It.run (fun i => ((i : Int), accL i (gItem a b), accL i (gFloor a b))) 5 (fun i hi fuel u rec => ?_) (It.stop fun fuel u rec => ?_)
    · have l1 : (accL i (gFloor a b)).length ≤ i * 1 := accL_len fun j _ => gFloor_len a b j
      have l2' : (accL i (gItem a b)).length ≤ i * 1 := accL_len fun j _ => gItem_len a b j
      have hb : i < 9223372036854775807 := by omega
      show c67_3 (arun p n) fuel a b rec ((i : Int), accL i (gItem a b), accL i (gFloor a b)) = rec (((i + 1 : Nat) : Int), accL (i + 1) (gItem a b), accL (i + 1) (gFloor a b))
      unfold c67_3; dsimp only; rw [wrap_succ hb]; refine (bif_pos (by show (i : Int) < 5; omega)).trans ?_; refine (call_step2 (f120 a (i : Int) (small_max ha.a) n (by omega))).trans ?_; refine (call_step2 (f120 b (i : Int) (small_max hb'.a) n (by omega))).trans ?_; refine (call_step (f121 (entryOf a (i : Int)).1 (entryOf b (i : Int)).1 n (by omega))).trans ?_; refine (call_step (f111 a (i : Int) (small_max ha.b) n (by omega))).trans ?_; refine (call_step (f111 b (i : Int) (small_max hb'.b) n (by omega))).trans ?_
      rw [accL_succ, accL_succ]
      by_cases hp : (pickE a b (i : Int)).1 > flr a b (i : Int)
      · refine (bif_pos hp).trans ?_; refine (bif_pos (by show (accL i (gItem a b)).length + 1 ≤ 4294967296; omega)).trans ?_; rw [gItem_pos rfl hp]
        by_cases hf : flr a b (i : Int) > 0
        · refine (bif_pos hf).trans ?_; refine (bif_pos (by show (accL i (gFloor a b)).length + 1 ≤ 4294967296; omega)).trans ?_; rw [gFloor_pos hf]; rfl
        · refine (bif_neg hf).trans ?_; rw [gFloor_neg hf, List.append_nil]; rfl
      · refine (bif_neg hp).trans ?_; rw [gItem_neg rfl hp, List.append_nil]
        by_cases hf : flr a b (i : Int) > 0
        · refine (bif_pos hf).trans ?_; refine (bif_pos (by show (accL i (gFloor a b)).length + 1 ≤ 4294967296; omega)).trans ?_; rw [gFloor_pos hf]; rfl
        · refine (bif_neg hf).trans ?_; rw [gFloor_neg hf, List.append_nil]; rfl
    · show c67_3 (arun p n) fuel a b rec (((5 : Nat) : Int), accL 5 (gItem a b), accL 5 (gFloor a b)) = _
      unfold c67_3; exact bif_neg (by show ¬ ((5 : Int) < 5); decide)
  exact Ev.eq (fun fuel => by unfold T67; rfl) (lp.ev (i := ()) rfl)
theorem f112 (a b : StateT) (ha : SzS a) (hb' : SzS b) : Ran p 6 112 [.val true ⟨K49, a⟩, .val true ⟨K49, b⟩] ⟨[⟨K49, bif stateOk a && stateOk b then joinS a b else nilS⟩, ⟨K4, (stateOk a && stateOk b, ())⟩], []⟩ := go112 fun n hn => Ev.now fun fuel => by
  unfold T112; refine (call_step (f60 a (small_max ha.a) (small_max ha.b) n (by omega))).trans ?_
  cases stateOk a with
  | false => rfl
  | true =>
    refine (bif_ff rfl).trans ?_; refine (call_step (f60 b (small_max hb'.a) (small_max hb'.b) n (by omega))).trans ?_
    cases stateOk b with
    | false => rfl
    | true => refine (bif_ff rfl).trans ?_; refine (call_step (f67 a b ha hb' n (by omega))).trans ?_; rfl
theorem f168 (a b : List FloorT) (ha : a.length ≤ maxLen) : Ran p 1 168 [.val false ⟨K47, (a, ())⟩, .val false ⟨K47, (b, ())⟩] ⟨[⟨K4, (sameFloors a b, ())⟩], []⟩ := go168 fun n hn => by
  have lp : ∃ N, ∀ fuel, N ≤ fuel → (((a.length : Nat) : Int) == ((b.length : Nat) : Int)) = true → iter (c168_4 (arun p n) fuel a b) fuel (0 : Int) = oB (allI a.length fun i => eqFloor (gt a i) (gt b i)) := by
    cases he : ((a.length : Nat) : Int) == ((b.length : Nat) : Int) with
    | false => exact ⟨0, fun _ _ h => by cases h⟩
    | true =>
      have e : a.length = b.length := by have := eq_of_beq he; omega
      have lp : It (fun fuel (_ : Unit) => c168_4 (arun p n) fuel a b) (0 : Int) (fun _ => oB (allI a.length fun i => eqFloor (gt a i) (gt b i))) := by
        refine it_and_true (It.allB a.length _ true (fun i hi fuel a' rec => ?_) (It.stop fun fuel a' rec => ?_))
        · have hb : i < 9223372036854775807 := Nat.lt_of_lt_of_le hi ha
          show c168_4 (arun p n) fuel a b rec (i : Int) = _
          unfold c168_4; rw [wrap_succ hb]; refine (bif_pos (Int.ofNat_lt.2 hi)).trans ?_; refine (bif_pos (Int.natCast_nonneg _)).trans ?_; refine (at_step hi).trans ?_; refine (bif_pos (Int.natCast_nonneg _)).trans ?_; refine (at_step (show i < b.length by omega)).trans ?_; exact fin
        · show c168_4 (arun p n) fuel a b rec (a.length : Int) = _
          unfold c168_4; refine (bif_neg (Int.lt_irrefl _)).trans ?_; rfl
      obtain ⟨N, hN⟩ := lp.all_i
      exact ⟨N, fun fuel hf _ => hN fuel hf ()⟩
  obtain ⟨N, hN⟩ := lp
  refine ⟨N, fun fuel hf => ?_⟩
  show T168 (arun p n) fuel a b = oB (sameFloors a b)
  unfold T168 sameFloors; refine bchk fun h => ?_; exact hN fuel hf h
theorem f113 (a b : StateT) (ha : SzS a) : Ran p 2 113 [.val true ⟨K49, a⟩, .val true ⟨K49, b⟩] ⟨[⟨K4, (sameState a b, ())⟩], []⟩ := go113 fun n hn => Ev.now fun fuel => by
  rw [← sameState_I]
  show T113 (arun p n) fuel a b = oB (sameItems a.1 b.1 && sameFloors a.2.1 b.2.1)
  unfold T113; refine (call_step (f167 a.1 b.1 (small_max ha.a) n (by omega))).trans ?_; refine bchkT fun _ => ?_; refine (call_step (f168 a.2.1 b.2.1 (small_max ha.b) n (by omega))).trans ?_; rfl
theorem f54 (a b : StateT) (ha : SzS a) (hb' : SzS b) : Ran p 5 54 [.val true ⟨K49, a⟩, .val true ⟨K49, b⟩] ⟨[⟨K4, (leqS a b, ())⟩], []⟩ := go54 fun n hn => Ev.now fun fuel => by
  show T54 (arun p n) fuel a b = oB (leqS a b)
  unfold T54 leqS; refine (call_step (f53 a (small_max ha.a) (small_max ha.b) n (by omega))).trans ?_; refine bchkT fun h1 => ?_; refine (call_step (f53 b (small_max hb'.a) (small_max hb'.b) n (by omega))).trans ?_; refine bchkT fun h2 => ?_; refine (call_step (f66 a b ha hb' ((stateOk_iff a).1 h1).pos ((stateOk_iff b).1 h2).pos n (by omega))).trans ?_; refine (call_step (f103 (joinS a b) b (joinS_sz a b) n (by omega))).trans ?_; rfl
theorem f61 (a b : StateT) (ha : SzS a) (hb' : SzS b) : Ran p 7 61 [.val true ⟨K49, a⟩, .val true ⟨K49, b⟩] ⟨[⟨K4, (leqS a b, ())⟩], []⟩ := go61 fun n hn => Ev.now fun fuel => by
  show T61 (arun p n) fuel a b = oB (leqS a b)
  unfold T61 leqS; refine (call_step2 (f112 a b ha hb' n (by omega))).trans ?_
  cases stateOk a with
  | false => rfl
  | true => cases stateOk b with
    | false => rfl
    | true => refine (bif_tt rfl).trans ?_; refine (call_step (f113 (joinS a b) b (joinS_sz a b) n (by omega))).trans ?_; rfl
theorem f16 (w : WorldT) (s : StateT) (hz : SzW w) (hs : SzS s) : Ran p 9 16 [.val true ⟨K26, w⟩, .val true ⟨K49, s⟩] ⟨[⟨K43, (beneath w s, ())⟩], []⟩ := go16 fun n hn => by
  cases hw : worldOk w with
  | false =>
    refine Ev.now fun fuel => ?_
    unfold T16 beneath; refine (call_step (f36 w hz n (by omega))).trans ?_; rw [hw]; rfl
  | true => cases ho : stateOk s with
    | false =>
      refine Ev.now fun fuel => ?_
      unfold T16 beneath; refine (call_step (f36 w hz n (by omega))).trans ?_; rw [hw]; refine (bif_ff rfl).trans ?_; refine (call_step (f53 s (small_max hs.a) (small_max hs.b) n (by omega))).trans ?_; rw [ho]; rfl
    | true =>
      have lp : It (fun fuel (_ : Unit) => c16_5 (arun p n) fuel w s) ((0 : Int), ([] : List NumT)) (fun _ => some ⟨[⟨K43, (accL w.2.2.1.length (fun i => bif leqS (partOf w i) s then [((i : Int), ())] else []), ())⟩], []⟩) := by
        refine It.accu (α := NumT) [] (fun i => bif leqS (partOf w i) s then [((i : Int), ())] else []) w.2.2.1.length 1 (fun i hi => by cases leqS (partOf w i) s <;> simp) (fun i hi acc ha fuel u rec => ?_) (It.stop fun fuel u rec => ?_)
        · have hb := small_lt hi hz.said
          have hl : w.2.2.1.length ≤ 1048576 := hz.said
          show c16_5 (arun p n) fuel w s rec ((i : Int), acc) = _
          unfold c16_5; dsimp only; rw [wrap_succ hb]; refine (bif_pos (Int.ofNat_lt.2 hi)).trans ?_; refine (bif_pos (Int.natCast_nonneg _)).trans ?_; refine (at_step hi).trans ?_; refine (call_step (f54 (partOf w i) s (hz.part i hi) hs n (by omega))).trans ?_
          cases hq : leqS (partOf w i) s with
          | false => refine (bif_ff rfl).trans ?_; exact (congrArg (fun l : List NumT => rec (((i + 1 : Nat) : Int), l)) (List.append_nil acc).symm : _)
          | true => refine (bif_tt rfl).trans ?_; refine (bif_pos (by rw [hq] at ha; have : acc.length + 1 ≤ 0 + w.2.2.1.length * 1 := ha; show acc.length + 1 ≤ 4294967296; omega)).trans ?_; rfl
        · show c16_5 (arun p n) fuel w s rec ((w.2.2.1.length : Int), accL (α := NumT) w.2.2.1.length (fun i => bif leqS (partOf w i) s then [((i : Int), ())] else [])) = _
          unfold c16_5; refine (bif_neg (Int.lt_irrefl _)).trans ?_; rfl
      have e : beneath w s = accL w.2.2.1.length (fun i => bif leqS (partOf w i) s then [((i : Int), ())] else []) := by unfold beneath; rw [hw, ho]; rfl
      rw [e]
      exact Ev.eq (fun fuel => by unfold T16; refine (call_step (f36 w hz n (by omega))).trans ?_; rw [hw]; refine (bif_ff rfl).trans ?_; refine (call_step (f53 s (small_max hs.a) (small_max hs.b) n (by omega))).trans ?_; rw [ho]; rfl) (lp.ev (i := ()) rfl)
theorem f19 (w : WorldT) (s : StateT) (hz : SzW w) (hs : SzS s) : Ran p 9 19 [.val true ⟨K26, w⟩, .val true ⟨K49, s⟩] ⟨[⟨K43, (beneath w s, ())⟩], []⟩ := go19 fun n hn => by
  cases hw : worldOk w with
  | false =>
    refine Ev.now fun fuel => ?_
    unfold T19 beneath; refine (call_step (f38 w hz n (by omega))).trans ?_; rw [hw]; rfl
  | true => cases ho : stateOk s with
    | false =>
      refine Ev.now fun fuel => ?_
      unfold T19 beneath; refine (call_step (f38 w hz n (by omega))).trans ?_; rw [hw]; refine (bif_ff rfl).trans ?_; refine (call_step (f60 s (small_max hs.a) (small_max hs.b) n (by omega))).trans ?_; rw [ho]; rfl
    | true =>
      have lp : It (fun fuel (_ : Unit) => c19_5 (arun p n) fuel w s) ((0 : Int), ([] : List NumT)) (fun _ => some ⟨[⟨K43, (accL w.2.2.1.length (fun i => bif leqS (partOf w i) s then [((i : Int), ())] else []), ())⟩], []⟩) := by
        refine It.accu (α := NumT) [] (fun i => bif leqS (partOf w i) s then [((i : Int), ())] else []) w.2.2.1.length 1 (fun i hi => by cases leqS (partOf w i) s <;> simp) (fun i hi acc ha fuel u rec => ?_) (It.stop fun fuel u rec => ?_)
        · have hb := small_lt hi hz.said
          have hl : w.2.2.1.length ≤ 1048576 := hz.said
          show c19_5 (arun p n) fuel w s rec ((i : Int), acc) = _
          unfold c19_5; dsimp only; rw [wrap_succ hb]; refine (bif_pos (Int.ofNat_lt.2 hi)).trans ?_; refine (bif_pos (Int.natCast_nonneg _)).trans ?_; refine (at_step hi).trans ?_; refine (call_step (f61 (partOf w i) s (hz.part i hi) hs n (by omega))).trans ?_
          cases hq : leqS (partOf w i) s with
          | false => refine (bif_ff rfl).trans ?_; exact (congrArg (fun l : List NumT => rec (((i + 1 : Nat) : Int), l)) (List.append_nil acc).symm : _)
          | true => refine (bif_tt rfl).trans ?_; refine (bif_pos (by rw [hq] at ha; have : acc.length + 1 ≤ 0 + w.2.2.1.length * 1 := ha; show acc.length + 1 ≤ 4294967296; omega)).trans ?_; rfl
        · show c19_5 (arun p n) fuel w s rec ((w.2.2.1.length : Int), accL (α := NumT) w.2.2.1.length (fun i => bif leqS (partOf w i) s then [((i : Int), ())] else [])) = _
          unfold c19_5; refine (bif_neg (Int.lt_irrefl _)).trans ?_; rfl
      have e : beneath w s = accL w.2.2.1.length (fun i => bif leqS (partOf w i) s then [((i : Int), ())] else []) := by unfold beneath; rw [hw, ho]; rfl
      rw [e]
      exact Ev.eq (fun fuel => by unfold T19; refine (call_step (f38 w hz n (by omega))).trans ?_; rw [hw]; refine (bif_ff rfl).trans ?_; refine (call_step (f60 s (small_max hs.a) (small_max hs.b) n (by omega))).trans ?_; rw [ho]; rfl) (lp.ev (i := ()) rfl)
end Go.Abs.Gz
