/- What the functions of this program answer, part j. -/
import Derived.Test.YtcmcnofamieegaaGreatXh
import Derived.Test.YtcmcnofamieegaaGreatW2
set_option linter.unusedVariables false
namespace Go.Abs.Vz
open Go Go.Abs
theorem bitI_le (b : Bool) : 0 ≤ bitI b ∧ bitI b ≤ 1 := by cases b <;> decide
theorem f86 (s : StateT) (id : Int) (hl : s.1.length ≤ maxLen) : Ran p 1 86 [.val true ⟨K48, s⟩, .val false ⟨K3, (id, ())⟩] ⟨[⟨K57, (entryOf s id).1⟩, ⟨K4, ((entryOf s id).2, ())⟩], []⟩ := go86 fun n hn => by
  have lp : It (fun fuel (_ : Unit) => c86_2 (arun p n) fuel s id) (0 : Int) (fun _ => some ⟨[⟨K57, (entryOf s id).1⟩, ⟨K4, ((entryOf s id).2, ())⟩], []⟩) := by
    have := It.first (c := fun fuel (_ : Unit) => c86_2 (arun p n) fuel s id) (fun i => (i : Int)) s.1.length (fun i => (gt s.1 i).1 == id) (fun i _ => some ⟨[⟨K57, (gt (α := ItemT) s.1 i).2⟩, ⟨K4, (true, ())⟩], []⟩) (fun _ => some ⟨[⟨K57, zeroE⟩, ⟨K4, (false, ())⟩], []⟩) (fun i hi hp fuel a rec => ?_) (fun i hi hp => It.stop fun fuel a rec => ?_) (It.stop fun fuel a rec => ?_)
    · revert this; unfold entryOf
      cases (List.range s.1.length).find? (fun i => (gt s.1 i).1 == id) <;> exact fun h => h
    · have hb : i < 9223372036854775807 := Nat.lt_of_lt_of_le hi hl
      show c86_2 (arun p n) fuel s id rec (i : Int) = _
      unfold c86_2; rw [wrap_succ hb]; refine (bif_pos (Int.ofNat_lt.2 hi)).trans ?_; refine (bif_pos (Int.natCast_nonneg _)).trans ?_; refine (at_step hi).trans ?_; exact bif_ff hp
    · show c86_2 (arun p n) fuel s id rec (i : Int) = _
      unfold c86_2; refine (bif_pos (Int.ofNat_lt.2 hi)).trans ?_; refine (bif_pos (Int.natCast_nonneg _)).trans ?_; refine (at_step hi).trans ?_; refine (bif_tt hp).trans ?_; refine (bif_pos (Int.natCast_nonneg _)).trans ?_; refine (at_step hi).trans ?_; rfl
    · show c86_2 (arun p n) fuel s id rec (s.1.length : Int) = _
      unfold c86_2; refine (bif_neg (Int.lt_irrefl _)).trans ?_; rfl
  exact Ev.eq (fun fuel => by unfold T86; rfl) (lp.ev (i := ()) rfl)
theorem f93 (s : StateT) (id : Int) (hl : s.1.length ≤ maxLen) : Ran p 1 93 [.val true ⟨K48, s⟩, .val false ⟨K3, (id, ())⟩] ⟨[⟨K57, (entryOf s id).1⟩, ⟨K4, ((entryOf s id).2, ())⟩], []⟩ := go93 fun n hn => by
  have lp : It (fun fuel (_ : Unit) => c93_2 (arun p n) fuel s id) (0 : Int) (fun _ => some ⟨[⟨K57, (entryOf s id).1⟩, ⟨K4, ((entryOf s id).2, ())⟩], []⟩) := by
    have := It.first (c := fun fuel (_ : Unit) => c93_2 (arun p n) fuel s id) (fun i => (i : Int)) s.1.length (fun i => (gt s.1 i).1 == id) (fun i _ => some ⟨[⟨K57, (gt (α := ItemT) s.1 i).2⟩, ⟨K4, (true, ())⟩], []⟩) (fun _ => some ⟨[⟨K57, zeroE⟩, ⟨K4, (false, ())⟩], []⟩) (fun i hi hp fuel a rec => ?_) (fun i hi hp => It.stop fun fuel a rec => ?_) (It.stop fun fuel a rec => ?_)
    · revert this; unfold entryOf
      cases (List.range s.1.length).find? (fun i => (gt s.1 i).1 == id) <;> exact fun h => h
    · have hb : i < 9223372036854775807 := Nat.lt_of_lt_of_le hi hl
      show c93_2 (arun p n) fuel s id rec (i : Int) = _
      unfold c93_2; rw [wrap_succ hb]; refine (bif_pos (Int.ofNat_lt.2 hi)).trans ?_; refine (bif_pos (Int.natCast_nonneg _)).trans ?_; refine (at_step hi).trans ?_; exact bif_ff hp
    · show c93_2 (arun p n) fuel s id rec (i : Int) = _
      unfold c93_2; refine (bif_pos (Int.ofNat_lt.2 hi)).trans ?_; refine (bif_pos (Int.natCast_nonneg _)).trans ?_; refine (at_step hi).trans ?_; refine (bif_tt hp).trans ?_; rfl
    · show c93_2 (arun p n) fuel s id rec (s.1.length : Int) = _
      unfold c93_2; refine (bif_neg (Int.lt_irrefl _)).trans ?_; rfl
  exact Ev.eq (fun fuel => by unfold T93; rfl) (lp.ev (i := ()) rfl)
theorem f148 (a b : Int) : Ran p 1 148 [.val false ⟨K3, (a, ())⟩, .val false ⟨K3, (b, ())⟩] ⟨[⟨K3, (mxI true a b, ())⟩], []⟩ := go148 fun n hn => Ev.now fun fuel => by
  unfold T148 mxI
  simp only [if_true]
  by_cases h : a > b
  · refine (bif_pos h).trans ?_; rw [if_neg (by omega : ¬ b > a)]
  · refine (bif_neg h).trans ?_; by_cases h' : b > a
    · rw [if_pos h']
    · rw [if_neg h', show a = b from by omega]
theorem f41 (b : Bool) : Ran p 1 41 [.val false ⟨K4, (b, ())⟩] ⟨[⟨K3, (bitI b, ())⟩], []⟩ := go41 fun n hn => Ev.now fun fuel => by
  unfold T41; cases b <;> rfl
theorem f168 (a b : Int) : Ran p 2 168 [.val false ⟨K3, (a, ())⟩, .val false ⟨K3, (b, ())⟩] ⟨[⟨K3, (l2 a b, ())⟩], []⟩ := go168 fun n hn => Ev.now fun fuel => by
  unfold T168 l2
  cases decide (a < b) with
  | true => rfl
  | false => refine (bif_ff rfl).trans ?_; refine (call_step (f41 (decide (a > b)) n (by omega))).trans ?_; rfl
theorem f188 (a : Int) : Ran p 1 188 [.val false ⟨K3, (a, ())⟩] ⟨[⟨K4, (false, ())⟩], []⟩ := go188 fun n hn => Ev.now fun fuel => by
  unfold T188; exact congrArg (fun b : Bool => (some ⟨[⟨K4, (b, ())⟩], []⟩ : Option Out)) (by simp : (a != a) = false)
theorem f180 (a b : Int) : Ran p 2 180 [.val false ⟨K3, (a, ())⟩, .val false ⟨K3, (b, ())⟩] ⟨[⟨K3, (l2 a b, ())⟩], []⟩ := go180 fun n hn => Ev.now fun fuel => by
  unfold T180 l2; refine (call_step (f188 a n (by omega))).trans ?_; refine (call_step (f188 b n (by omega))).trans ?_; refine (bif_ff rfl).trans ?_; refine (bif_ff rfl).trans ?_; cases decide (a < b) <;> cases decide (a > b) <;> rfl
theorem f179 (ls : List NumT) (hl : ls.length ≤ maxLen) : Ran p 1 179 [.val false ⟨K60, (ls, ())⟩] ⟨[⟨K3, (orN ls, ())⟩], []⟩ := go179 fun n hn => by
  have lp : It (fun fuel (_ : Unit) => c179_3 (arun p n) fuel ls) (0 : Int) (fun _ => oI (orN ls)) := by
    have := It.first (c := fun fuel (_ : Unit) => c179_3 (arun p n) fuel ls) (fun i => (i : Int)) ls.length (fun i => (gt ls i).1 != 0) (fun i _ => oI (gt ls i).1) (fun _ => oI 0) (fun i hi hp fuel a rec => ?_) (fun i hi hp => It.stop fun fuel a rec => ?_) (It.stop fun fuel a rec => ?_)
    · revert this; unfold orN
      cases (List.range ls.length).find? (fun i => (gt ls i).1 != 0) <;> exact fun h => h
    · have hb : i < 9223372036854775807 := Nat.lt_of_lt_of_le hi hl
      show c179_3 (arun p n) fuel ls rec (i : Int) = _
      unfold c179_3; rw [wrap_succ hb]; refine (bif_pos (Int.ofNat_lt.2 hi)).trans ?_; refine (bif_pos (Int.natCast_nonneg _)).trans ?_; refine (at_step hi).trans ?_; exact bif_ff hp
    · show c179_3 (arun p n) fuel ls rec (i : Int) = _
      unfold c179_3; refine (bif_pos (Int.ofNat_lt.2 hi)).trans ?_; refine (bif_pos (Int.natCast_nonneg _)).trans ?_; refine (at_step hi).trans ?_; exact bif_tt hp
    · show c179_3 (arun p n) fuel ls rec (ls.length : Int) = _
      unfold c179_3; refine (bif_neg (Int.lt_irrefl _)).trans ?_; rfl
  exact Ev.eq (fun fuel => by unfold T179; rfl) (lp.ev (i := ()) rfl)
theorem f181 (a b : ByteArray) : Ran p 1 181 [.val false ⟨K9, (a, ())⟩, .val false ⟨K9, (b, ())⟩] ⟨[⟨K3, (cmpT a b, ())⟩], []⟩ := fun n hn => by
  cases n with
  | zero => omega
  | succ n => rfl
theorem f169 (a b : EntryT) : Ran p 3 169 [.val true ⟨K57, a⟩, .val true ⟨K57, b⟩] ⟨[⟨K3, (cmpE a b, ())⟩], []⟩ := go169 fun n hn => Ev.now fun fuel => by
  unfold T169; refine (call_step (f180 a.1 b.1 n (by omega))).trans ?_; refine (call_step (f180 a.2.1 b.2.1 n (by omega))).trans ?_; refine (call_step (f180 a.2.2.1 b.2.2.1 n (by omega))).trans ?_; refine (call_step (f180 a.2.2.2.1 b.2.2.2.1 n (by omega))).trans ?_; refine (call_step (f181 a.2.2.2.2.1 b.2.2.2.2.1 n (by omega))).trans ?_
  refine (call_step (f179 [(l2 a.1 b.1, ()), (l2 a.2.1 b.2.1, ()), (l2 a.2.2.1 b.2.2.1, ()), (l2 a.2.2.2.1 b.2.2.2.1, ()), (cmpT a.2.2.2.2.1 b.2.2.2.2.1, ())] (by show 5 ≤ 9223372036854775807; omega) n (by omega))).trans ?_
  exact congrArg (fun x : Int => (some ⟨[⟨K3, (x, ())⟩], []⟩ : Option Out)) (orN_cmp a b)
theorem f149 (a b : EntryT) : Ran p 3 149 [.val true ⟨K57, a⟩, .val true ⟨K57, b⟩] ⟨[⟨K3, (cmpE a b, ())⟩], []⟩ := go149 fun n hn => by
  have lp : It (fun fuel (_ : Unit) => c149_3 (arun p n) fuel a b (((l2 a.1 b.1, ()), ()), ()) (((l2 a.2.1 b.2.1, ()), ()), ()) (((l2 a.2.2.1 b.2.2.1, ()), ()), ()) (((l2 a.2.2.2.1 b.2.2.2.1, ()), ()), ())) (0 : Int) (fun _ => oI (cmpE a b)) := by
    have := It.first (c := fun fuel (_ : Unit) => c149_3 (arun p n) fuel a b (((l2 a.1 b.1, ()), ()), ()) (((l2 a.2.1 b.2.1, ()), ()), ()) (((l2 a.2.2.1 b.2.2.1, ()), ()), ()) (((l2 a.2.2.2.1 b.2.2.2.1, ()), ()), ())) (fun i => (i : Int)) (four a b).length (fun i => (gt (four a b) i).1 != 0) (fun i _ => oI (gt (four a b) i).1) (fun _ => oI (cmpT a.2.2.2.2.1 b.2.2.2.2.1)) (fun i hi hp fuel a' rec => ?_) (fun i hi hp => It.stop fun fuel a' rec => ?_) (It.stop fun fuel a' rec => ?_)
    · rw [← orZ_four]; revert this; unfold orZ
      cases (List.range (four a b).length).find? (fun i => (gt (four a b) i).1 != 0) <;> exact fun h => h
    · have hb : i < 9223372036854775807 := Nat.lt_of_lt_of_le hi (by show 4 ≤ 9223372036854775807; omega)
      show c149_3 (arun p n) fuel a b (((l2 a.1 b.1, ()), ()), ()) (((l2 a.2.1 b.2.1, ()), ()), ()) (((l2 a.2.2.1 b.2.2.1, ()), ()), ()) (((l2 a.2.2.2.1 b.2.2.2.1, ()), ()), ()) rec (i : Int) = _
      unfold c149_3; rw [wrap_succ hb]; refine (bif_pos (Int.ofNat_lt.2 hi)).trans ?_; refine (bif_pos (Int.natCast_nonneg _)).trans ?_; refine (at_step hi).trans ?_; refine (at_step hi).trans ?_; exact bif_ff hp
    · show c149_3 (arun p n) fuel a b (((l2 a.1 b.1, ()), ()), ()) (((l2 a.2.1 b.2.1, ()), ()), ()) (((l2 a.2.2.1 b.2.2.1, ()), ()), ()) (((l2 a.2.2.2.1 b.2.2.2.1, ()), ()), ()) rec (i : Int) = _
      unfold c149_3; refine (bif_pos (Int.ofNat_lt.2 hi)).trans ?_; refine (bif_pos (Int.natCast_nonneg _)).trans ?_; refine (at_step hi).trans ?_; refine (at_step hi).trans ?_; refine (bif_tt hp).trans ?_; refine (bif_pos (Int.natCast_nonneg _)).trans ?_; refine (at_step hi).trans ?_; refine (at_step hi).trans ?_; rfl
    · show c149_3 (arun p n) fuel a b (((l2 a.1 b.1, ()), ()), ()) (((l2 a.2.1 b.2.1, ()), ()), ()) (((l2 a.2.2.1 b.2.2.1, ()), ()), ()) (((l2 a.2.2.2.1 b.2.2.2.1, ()), ()), ()) rec (((four a b).length : Nat) : Int) = _
      unfold c149_3; refine (bif_neg (Int.lt_irrefl _)).trans ?_
      rw [← cmpT_spec]
      cases Op.bytesLess (ByteArray.toList a.2.2.2.2.1) (ByteArray.toList b.2.2.2.2.1) with
      | true => rfl
      | false => refine (bif_ff rfl).trans ?_; refine (call_step (f41 (!(false || ByteArray.toList a.2.2.2.2.1 == ByteArray.toList b.2.2.2.2.1)) n (by omega))).trans ?_; rfl
  exact Ev.eq (fun fuel => by unfold T149; refine (call_step (f168 a.1 b.1 n (by omega))).trans ?_; refine (call_step (f168 a.2.1 b.2.1 n (by omega))).trans ?_; refine (call_step (f168 a.2.2.1 b.2.2.1 n (by omega))).trans ?_; refine (call_step (f168 a.2.2.2.1 b.2.2.2.1 n (by omega))).trans ?_; rfl) (lp.ev (i := ()) rfl)
theorem f150 (a b : EntryT) : Ran p 4 150 [.val true ⟨K57, a⟩, .val true ⟨K57, b⟩] ⟨[⟨K57, mxE a b⟩], []⟩ := go150 fun n hn => Ev.now fun fuel => by
  unfold T150 mxE; refine (call_step (f169 a b n (by omega))).trans ?_; cases decide (cmpE a b < 0) <;> rfl
theorem f98 (a b : StateT) (ha : SzS a) (hb' : SzS b) (hpa : Pos a) (hpb : Pos b) : Ran p 4 98 [.val true ⟨K48, a⟩, .val true ⟨K48, b⟩] ⟨[⟨K48, joinS a b⟩], []⟩ := go98 fun n hn => by
  have lp : It (fun fuel (_ : Unit) => c98_3 (arun p n) fuel a b) ((0 : Int), ([] : List FloorT), ([] : List ItemT)) (fun _ => some ⟨[⟨K48, joinS a b⟩], []⟩) := by
    refine It.run (fun i => ((i : Int), accL i (gFloor a b), accL i (gItem a b))) 5 (fun i hi fuel u rec => ?_) (It.stop fun fuel u rec => ?_)
    · have l1 : (accL i (gFloor a b)).length ≤ i * 1 := accL_len fun j _ => gFloor_len a b j
      have l2' : (accL i (gItem a b)).length ≤ i * 1 := accL_len fun j _ => gItem_len a b j
      have hb : i < 9223372036854775807 := by omega
      have fin3 : ∀ {F : List FloorT} {J : List ItemT}, gFloor a b i = F → gItem a b i = J → rec (((i + 1 : Nat) : Int), accL i (gFloor a b) ++ F, accL i (gItem a b) ++ J) = rec (((i + 1 : Nat) : Int), accL (i + 1) (gFloor a b), accL (i + 1) (gItem a b)) := by
        intro F J h1 h2; rw [accL_succ, accL_succ, h1, h2]
      have fin0 : ∀ {F : List FloorT}, gFloor a b i = F → gItem a b i = [] → rec (((i + 1 : Nat) : Int), accL i (gFloor a b) ++ F, accL i (gItem a b)) = rec (((i + 1 : Nat) : Int), accL (i + 1) (gFloor a b), accL (i + 1) (gItem a b)) := by
        intro F h1 h2; rw [accL_succ, accL_succ, h1, h2, List.append_nil]
      have fin1 : ∀ {J : List ItemT}, gFloor a b i = [] → gItem a b i = J → rec (((i + 1 : Nat) : Int), accL i (gFloor a b), accL i (gItem a b) ++ J) = rec (((i + 1 : Nat) : Int), accL (i + 1) (gFloor a b), accL (i + 1) (gItem a b)) := by
        intro J h1 h2; rw [accL_succ, accL_succ, h1, h2, List.append_nil]
      have fin2 : gFloor a b i = [] → gItem a b i = [] → rec (((i + 1 : Nat) : Int), accL i (gFloor a b), accL i (gItem a b)) = rec (((i + 1 : Nat) : Int), accL (i + 1) (gFloor a b), accL (i + 1) (gItem a b)) := by
        intro h1 h2; rw [accL_succ, accL_succ, h1, h2, List.append_nil, List.append_nil]
      show c98_3 (arun p n) fuel a b rec ((i : Int), accL i (gFloor a b), accL i (gItem a b)) = rec (((i + 1 : Nat) : Int), accL (i + 1) (gFloor a b), accL (i + 1) (gItem a b))
      unfold c98_3; dsimp only; rw [wrap_succ hb]; refine (bif_pos (by show (i : Int) < 5; omega)).trans ?_; refine (call_step (f51 a (i : Int) (small_max ha.b) n (by omega))).trans ?_; refine (call_step (f51 b (i : Int) (small_max hb'.b) n (by omega))).trans ?_; refine (call_step (f148 (floorOf a.2.1 (i : Int)) (floorOf b.2.1 (i : Int)) n (by omega))).trans ?_
      have zi : entryOf a (i : Int) = (zeroE, false) → entryOf b (i : Int) = (zeroE, false) → gItem a b i = [] := fun ea eb => gItem_neg (pick_nn ea eb) (by show ¬ (0 : Int) > _; have := flr_nn (b := b) hpa (i : Int); omega)
      by_cases hf : flr a b (i : Int) > 0
      · refine (bif_pos hf).trans ?_; refine (bif_pos (by show (accL i (gFloor a b)).length + 1 ≤ 4294967296; omega)).trans ?_
        have gF := gFloor_pos hf
        refine (call_step2 (f86 a (i : Int) (small_max ha.a) n (by omega))).trans ?_; refine (call_step2 (f86 b (i : Int) (small_max hb'.a) n (by omega))).trans ?_
        rcases entry_ok hpa (i : Int) with ⟨x, hx, ea⟩ | ea <;> rcases entry_ok hpb (i : Int) with ⟨y, hy, eb⟩ | eb <;> rw [ea, eb]
        · refine (bif_ff rfl).trans ?_; refine (bif_ff rfl).trans ?_; refine (bif_tt rfl).trans ?_; refine (call_step (f149 y x n (by omega))).trans ?_
          have pk := pick_yy ea eb
          by_cases hc : cmpE y x > 0
          · rw [decide_eq_true hc] at pk
            replace pk : pickE a b (i : Int) = y := pk
            refine (bif_pos hc).trans ?_
            by_cases hi' : y.1 > flr a b i
            · refine (bif_pos hi').trans ?_; refine (bif_pos (by show (accL i (gItem a b)).length + 1 ≤ 4294967296; omega)).trans ?_; exact fin3 gF (gItem_pos pk hi')
            · refine (bif_neg hi').trans ?_; exact fin0 gF (gItem_neg pk hi')
          · rw [decide_eq_false hc] at pk
            replace pk : pickE a b (i : Int) = x := pk
            refine (bif_neg hc).trans ?_
            by_cases hi' : x.1 > flr a b i
            · refine (bif_pos hi').trans ?_; refine (bif_pos (by show (accL i (gItem a b)).length + 1 ≤ 4294967296; omega)).trans ?_; exact fin3 gF (gItem_pos pk hi')
            · refine (bif_neg hi').trans ?_; exact fin0 gF (gItem_neg pk hi')
        · refine (bif_ff rfl).trans ?_; refine (bif_ff rfl).trans ?_; refine (bif_ff rfl).trans ?_
          by_cases hi' : x.1 > flr a b i
          · refine (bif_pos hi').trans ?_; refine (bif_pos (by show (accL i (gItem a b)).length + 1 ≤ 4294967296; omega)).trans ?_; exact fin3 gF (gItem_pos (pick_yn ea eb hx) hi')
          · refine (bif_neg hi').trans ?_; exact fin0 gF (gItem_neg (pick_yn ea eb hx) hi')
        · refine (bif_tt rfl).trans ?_; refine (bif_ff rfl).trans ?_; refine (bif_tt rfl).trans ?_
          by_cases hi' : y.1 > flr a b i
          · refine (bif_pos hi').trans ?_; refine (bif_pos (by show (accL i (gItem a b)).length + 1 ≤ 4294967296; omega)).trans ?_; exact fin3 gF (gItem_pos (pick_ny ea eb hy) hi')
          · refine (bif_neg hi').trans ?_; exact fin0 gF (gItem_neg (pick_ny ea eb hy) hi')
        · refine (bif_tt rfl).trans ?_; refine (bif_tt rfl).trans ?_; exact fin0 gF (zi ea eb)
      · refine (bif_neg hf).trans ?_
        have gF := gFloor_neg hf
        refine (call_step2 (f86 a (i : Int) (small_max ha.a) n (by omega))).trans ?_; refine (call_step2 (f86 b (i : Int) (small_max hb'.a) n (by omega))).trans ?_
        rcases entry_ok hpa (i : Int) with ⟨x, hx, ea⟩ | ea <;> rcases entry_ok hpb (i : Int) with ⟨y, hy, eb⟩ | eb <;> rw [ea, eb]
        · refine (bif_ff rfl).trans ?_; refine (bif_ff rfl).trans ?_; refine (bif_tt rfl).trans ?_; refine (call_step (f149 y x n (by omega))).trans ?_
          have pk := pick_yy ea eb
          by_cases hc : cmpE y x > 0
          · rw [decide_eq_true hc] at pk
            replace pk : pickE a b (i : Int) = y := pk
            refine (bif_pos hc).trans ?_
            by_cases hi' : y.1 > flr a b i
            · refine (bif_pos hi').trans ?_; refine (bif_pos (by show (accL i (gItem a b)).length + 1 ≤ 4294967296; omega)).trans ?_; exact fin1 gF (gItem_pos pk hi')
            · refine (bif_neg hi').trans ?_; exact fin2 gF (gItem_neg pk hi')
          · rw [decide_eq_false hc] at pk
            replace pk : pickE a b (i : Int) = x := pk
            refine (bif_neg hc).trans ?_
            by_cases hi' : x.1 > flr a b i
            · refine (bif_pos hi').trans ?_; refine (bif_pos (by show (accL i (gItem a b)).length + 1 ≤ 4294967296; omega)).trans ?_; exact fin1 gF (gItem_pos pk hi')
            · refine (bif_neg hi').trans ?_; exact fin2 gF (gItem_neg pk hi')
        · refine (bif_ff rfl).trans ?_; refine (bif_ff rfl).trans ?_; refine (bif_ff rfl).trans ?_
          by_cases hi' : x.1 > flr a b i
          · refine (bif_pos hi').trans ?_; refine (bif_pos (by show (accL i (gItem a b)).length + 1 ≤ 4294967296; omega)).trans ?_; exact fin1 gF (gItem_pos (pick_yn ea eb hx) hi')
          · refine (bif_neg hi').trans ?_; exact fin2 gF (gItem_neg (pick_yn ea eb hx) hi')
        · refine (bif_tt rfl).trans ?_; refine (bif_ff rfl).trans ?_; refine (bif_tt rfl).trans ?_
          by_cases hi' : y.1 > flr a b i
          · refine (bif_pos hi').trans ?_; refine (bif_pos (by show (accL i (gItem a b)).length + 1 ≤ 4294967296; omega)).trans ?_; exact fin1 gF (gItem_pos (pick_ny ea eb hy) hi')
          · refine (bif_neg hi').trans ?_; exact fin2 gF (gItem_neg (pick_ny ea eb hy) hi')
        · refine (bif_tt rfl).trans ?_; refine (bif_tt rfl).trans ?_; exact fin2 gF (zi ea eb)
    · show c98_3 (arun p n) fuel a b rec (((5 : Nat) : Int), accL 5 (gFloor a b), accL 5 (gItem a b)) = _
      unfold c98_3; exact bif_neg (by show ¬ ((5 : Int) < 5); decide)
  exact Ev.eq (fun fuel => by unfold T98; rfl) (lp.ev (i := ()) rfl)
theorem f100 (a b : StateT) (ha : SzS a) (hb' : SzS b) : Ran p 5 100 [.val true ⟨K48, a⟩, .val true ⟨K48, b⟩] ⟨[⟨K48, joinS a b⟩], []⟩ := go100 fun n hn => by
  have lp : It (fun fuel (_ : Unit) => c100_3 (arun p n) fuel a b) ((0 : Int), ([] : List ItemT), ([] : List FloorT)) (fun _ => some ⟨[⟨K48, joinS a b⟩], []⟩) := by
    refine It.run (fun i => ((i : Int), accL i (gItem a b), accL i (gFloor a b))) 5 (fun i hi fuel u rec => ?_) (It.stop fun fuel u rec => ?_)
    · have l1 : (accL i (gFloor a b)).length ≤ i * 1 := accL_len fun j _ => gFloor_len a b j
      have l2' : (accL i (gItem a b)).length ≤ i * 1 := accL_len fun j _ => gItem_len a b j
      have hb : i < 9223372036854775807 := by omega
      show c100_3 (arun p n) fuel a b rec ((i : Int), accL i (gItem a b), accL i (gFloor a b)) = rec (((i + 1 : Nat) : Int), accL (i + 1) (gItem a b), accL (i + 1) (gFloor a b))
      unfold c100_3; dsimp only; rw [wrap_succ hb]; refine (bif_pos (by show (i : Int) < 5; omega)).trans ?_; refine (call_step2 (f93 a (i : Int) (small_max ha.a) n (by omega))).trans ?_; refine (call_step2 (f93 b (i : Int) (small_max hb'.a) n (by omega))).trans ?_; refine (call_step (f150 (entryOf a (i : Int)).1 (entryOf b (i : Int)).1 n (by omega))).trans ?_; refine (call_step (f97 a (i : Int) (small_max ha.b) n (by omega))).trans ?_; refine (call_step (f97 b (i : Int) (small_max hb'.b) n (by omega))).trans ?_
      rw [accL_succ, accL_succ]
      by_cases hp : (pickE a b (i : Int)).1 > flr a b (i : Int)
      · refine (bif_pos hp).trans ?_; refine (bif_pos (by show (accL i (gItem a b)).length + 1 ≤ 4294967296; omega)).trans ?_; rw [gItem_pos rfl hp]
        by_cases hf : flr a b (i : Int) > 0
        · refine (bif_pos hf).trans ?_; refine (bif_pos (by show (accL i (gFloor a b)).length + 1 ≤ 4294967296; omega)).trans ?_; rw [gFloor_pos hf]; rfl
        · refine (bif_neg hf).trans ?_; rw [gFloor_neg hf, List.append_nil]; rfl
      · refine (bif_neg hp).trans ?_; rw [gItem_neg rfl hp, List.append_nil]
        by_cases hf : flr a b (i : Int) > 0
        · refine (bif_pos hf).trans ?_; refine (bif_pos (by show (accL i (gFloor a b)).length + 1 ≤ 4294967296; omega)).trans ?_; rw [gFloor_pos hf]; rfl
        · refine (bif_neg hf).trans ?_; rw [gFloor_neg hf, List.append_nil]; rfl
    · show c100_3 (arun p n) fuel a b rec (((5 : Nat) : Int), accL 5 (gItem a b), accL 5 (gFloor a b)) = _
      unfold c100_3; exact bif_neg (by show ¬ ((5 : Int) < 5); decide)
  exact Ev.eq (fun fuel => by unfold T100; rfl) (lp.ev (i := ()) rfl)
theorem f104 (a b : StateT) (ha : SzS a) (hb' : SzS b) : Ran p 6 104 [.val true ⟨K48, a⟩, .val true ⟨K48, b⟩] ⟨[⟨K48, bif stateOk a && stateOk b then joinS a b else nilS⟩, ⟨K4, (stateOk a && stateOk b, ())⟩], []⟩ := go104 fun n hn => Ev.now fun fuel => by
  unfold T104; refine (call_step (f73 a (small_max ha.a) (small_max ha.b) n (by omega))).trans ?_
  cases stateOk a with
  | false => rfl
  | true =>
    refine (bif_ff rfl).trans ?_; refine (call_step (f73 b (small_max hb'.a) (small_max hb'.b) n (by omega))).trans ?_
    cases stateOk b with
    | false => rfl
    | true => refine (bif_ff rfl).trans ?_; refine (call_step (f100 a b ha hb' n (by omega))).trans ?_; rfl
theorem f151 (a b : List FloorT) (ha : a.length ≤ maxLen) : Ran p 1 151 [.val false ⟨K46, (a, ())⟩, .val false ⟨K46, (b, ())⟩] ⟨[⟨K4, (sameFloors a b, ())⟩], []⟩ := go151 fun n hn => by
  have lp : ∃ N, ∀ fuel, N ≤ fuel → (((a.length : Nat) : Int) == ((b.length : Nat) : Int)) = true → iter (c151_4 (arun p n) fuel a b) fuel (0 : Int) = oB (allI a.length fun i => eqFloor (gt a i) (gt b i)) := by
    cases he : ((a.length : Nat) : Int) == ((b.length : Nat) : Int) with
    | false => exact ⟨0, fun _ _ h => by cases h⟩
    | true =>
      have e : a.length = b.length := by have := eq_of_beq he; omega
      have lp : It (fun fuel (_ : Unit) => c151_4 (arun p n) fuel a b) (0 : Int) (fun _ => oB (allI a.length fun i => eqFloor (gt a i) (gt b i))) := by
        refine it_and_true (It.allB a.length _ true (fun i hi fuel a' rec => ?_) (It.stop fun fuel a' rec => ?_))
        · have hb : i < 9223372036854775807 := Nat.lt_of_lt_of_le hi ha
          show c151_4 (arun p n) fuel a b rec (i : Int) = _
          unfold c151_4; rw [wrap_succ hb]; refine (bif_pos (Int.ofNat_lt.2 hi)).trans ?_; refine (bif_pos (Int.natCast_nonneg _)).trans ?_; refine (at_step hi).trans ?_; refine (bif_pos (Int.natCast_nonneg _)).trans ?_; refine (at_step (show i < b.length by omega)).trans ?_; exact fin
        · show c151_4 (arun p n) fuel a b rec (a.length : Int) = _
          unfold c151_4; refine (bif_neg (Int.lt_irrefl _)).trans ?_; rfl
      obtain ⟨N, hN⟩ := lp.all_i
      exact ⟨N, fun fuel hf _ => hN fuel hf ()⟩
  obtain ⟨N, hN⟩ := lp
  refine ⟨N, fun fuel hf => ?_⟩
  show T151 (arun p n) fuel a b = oB (sameFloors a b)
  unfold T151 sameFloors; refine bchk fun h => ?_; exact hN fuel hf h
theorem f105 (a b : StateT) (ha : SzS a) : Ran p 2 105 [.val true ⟨K48, a⟩, .val true ⟨K48, b⟩] ⟨[⟨K4, (sameState a b, ())⟩], []⟩ := go105 fun n hn => Ev.now fun fuel => by
  rw [← sameState_I]
  show T105 (arun p n) fuel a b = oB (sameItems a.1 b.1 && sameFloors a.2.1 b.2.1)
  unfold T105; refine (call_step (f101 a.1 b.1 (small_max ha.a) n (by omega))).trans ?_; refine bchkT fun _ => ?_; refine (call_step (f151 a.2.1 b.2.1 (small_max ha.b) n (by omega))).trans ?_; rfl
theorem f59 (a b : StateT) (ha : SzS a) (hb' : SzS b) : Ran p 5 59 [.val true ⟨K48, a⟩, .val true ⟨K48, b⟩] ⟨[⟨K4, (leqS a b, ())⟩], []⟩ := go59 fun n hn => Ev.now fun fuel => by
  show T59 (arun p n) fuel a b = oB (leqS a b)
  unfold T59 leqS; refine (call_step (f68 a (small_max ha.a) (small_max ha.b) n (by omega))).trans ?_; refine bchkT fun h1 => ?_; refine (call_step (f68 b (small_max hb'.a) (small_max hb'.b) n (by omega))).trans ?_; refine bchkT fun h2 => ?_; refine (call_step (f98 a b ha hb' ((stateOk_iff a).1 h1).pos ((stateOk_iff b).1 h2).pos n (by omega))).trans ?_; refine (call_step (f99 (joinS a b) b (joinS_sz a b) n (by omega))).trans ?_; rfl
theorem f62 (a b : StateT) (ha : SzS a) (hb' : SzS b) : Ran p 7 62 [.val true ⟨K48, a⟩, .val true ⟨K48, b⟩] ⟨[⟨K4, (leqS a b, ())⟩], []⟩ := go62 fun n hn => Ev.now fun fuel => by
  show T62 (arun p n) fuel a b = oB (leqS a b)
  unfold T62 leqS; refine (call_step2 (f104 a b ha hb' n (by omega))).trans ?_
  cases stateOk a with
  | false => rfl
  | true => cases stateOk b with
    | false => rfl
    | true => refine (bif_tt rfl).trans ?_; refine (call_step (f105 (joinS a b) b (joinS_sz a b) n (by omega))).trans ?_; rfl
theorem f50 (s : StateT) (id : Int) (hz : SzS s) : Ran p 4 50 [.val true ⟨K48, s⟩, .val false ⟨K3, (id, ())⟩] ⟨[⟨K3, (gone s id, ())⟩], []⟩ := go50 fun n hn => Ev.now fun fuel => by
  unfold T50 gone; refine (call_step (f68 s (small_max hz.a) (small_max hz.b) n (by omega))).trans ?_
  cases hs : stateOk s with
  | false => rfl
  | true =>
    refine (bif_ff rfl).trans ?_; refine (call_step2 (f86 s id (small_max hz.a) n (by omega))).trans ?_
    rcases entry_ok ((stateOk_iff s).1 hs).pos id with ⟨x, _, e⟩ | e <;> rw [e]
    · refine (bif_ff rfl).trans ?_; show (bif x.2.1 == 0 then _ else _) = (some (⟨[⟨K3, (bif true then (bif true then (bif x.2.1 == 0 then _ else _) else _) else _, ())⟩], []⟩ : Out) : Option Out)
      cases x.2.1 == 0 <;> rfl
    · refine (bif_tt rfl).trans ?_; refine (call_step (f51 s id (small_max hz.b) n (by omega))).trans ?_; rfl
theorem f52 (s : StateT) (id : Int) (hz : SzS s) : Ran p 4 52 [.val true ⟨K48, s⟩, .val false ⟨K3, (id, ())⟩] ⟨[⟨K3, (gone s id, ())⟩], []⟩ := go52 fun n hn => Ev.now fun fuel => by
  unfold T52; refine (call_step (f73 s (small_max hz.a) (small_max hz.b) n (by omega))).trans ?_
  cases hs : stateOk s with
  | false => rw [gone_any hs]; rfl
  | true =>
    rw [gone_I hs]
    refine (bif_ff rfl).trans ?_; refine (call_step2 (f93 s id (small_max hz.a) n (by omega))).trans ?_
    rcases entry_ok ((stateOk_iff s).1 hs).pos id with ⟨x, _, e⟩ | e <;> rw [e]
    · refine (bif_ff rfl).trans ?_; show (bif x.2.1 == 1 then _ else _) = (some (⟨[⟨K3, (bif true then (bif x.2.1 == 1 then _ else _) else _, ())⟩], []⟩ : Out) : Option Out)
      cases x.2.1 == 1 <;> rfl
    · refine (bif_tt rfl).trans ?_; refine (call_step (f97 s id (small_max hz.b) n (by omega))).trans ?_; rfl
theorem f40 (s : StateT) (id : Int) (hz : SzS s) : Ran p 5 40 [.val true ⟨K48, s⟩, .val false ⟨K3, (id, ())⟩] ⟨[⟨K57, (lookup s id).1⟩, ⟨K4, ((lookup s id).2, ())⟩], []⟩ := go40 fun n hn => Ev.now fun fuel => by
  unfold T40; refine (call_step (f53 s hz n (by omega))).trans ?_; refine (call_step2 (f86 (viewS s, [], ()) id (small_max (viewS_len hz)) n (by omega))).trans ?_; rfl
theorem f56 (w : WorldT) (hz : SzW w) : Ran p 9 56 [.val true ⟨K33, w⟩] ⟨[⟨K48, allS w⟩], []⟩ := go56 fun n hn => by
  cases hw : worldOk w with
  | false =>
    refine Ev.now fun fuel => ?_
    unfold T56 allS; refine (call_step (f45 w hz n (by omega))).trans ?_; rw [hw]; rfl
  | true =>
    have lp : It (fun fuel (_ : Unit) => c56_5 (arun p n) fuel w) ((0 : Int), ([] : List ItemT), ([] : List FloorT)) (fun _ => some ⟨[⟨K48, joinTo (partOf w) w.2.2.1.length⟩], []⟩) := by
      refine It.run (fun i => ((i : Int), (joinTo (partOf w) i).1, (joinTo (partOf w) i).2.1)) w.2.2.1.length (fun i hi fuel u rec => ?_) (It.stop fun fuel u rec => ?_)
      · have hb := small_lt hi hz.said
        show c56_5 (arun p n) fuel w rec ((i : Int), (joinTo (partOf w) i).1, (joinTo (partOf w) i).2.1) = _
        unfold c56_5; dsimp only; rw [wrap_succ hb]; refine (bif_pos (Int.ofNat_lt.2 hi)).trans ?_; refine (bif_pos (Int.natCast_nonneg _)).trans ?_; refine (at_step hi).trans ?_; refine (call_step (f100 (joinTo (partOf w) i) (partOf w i) (joinTo_sz _ i) (hz.part i hi) n (by omega))).trans ?_; rfl
      · show c56_5 (arun p n) fuel w rec ((w.2.2.1.length : Int), (joinTo (partOf w) w.2.2.1.length).1, (joinTo (partOf w) w.2.2.1.length).2.1) = _
        unfold c56_5; refine (bif_neg (Int.lt_irrefl _)).trans ?_; rfl
    have e : allS w = joinTo (partOf w) w.2.2.1.length := by unfold allS; rw [hw]; rfl
    rw [e]
    exact Ev.eq (fun fuel => by unfold T56; refine (call_step (f45 w hz n (by omega))).trans ?_; rw [hw]; rfl) (lp.ev (i := ()) rfl)
theorem f63 (w : WorldT) (x m : Int) (hz : SzW w) : Ran p 9 63 [.val true ⟨K33, w⟩, .val false ⟨K3, (x, ())⟩, .val false ⟨K3, (m, ())⟩] ⟨[⟨K48, saidBy w x m⟩], []⟩ := go63 fun n hn => by
  cases hw : worldOk w with
  | false =>
    refine Ev.now fun fuel => ?_
    unfold T63 saidBy; refine (call_step (f45 w hz n (by omega))).trans ?_; rw [hw]; rfl
  | true =>
    have lp : It (fun fuel (_ : Unit) => c63_6 (arun p n) fuel w x m) ((0 : Int), (0 : Int), ([] : List ItemT), ([] : List FloorT)) (fun _ => some ⟨[⟨K48, (saidTo w x m w.2.2.1.length).2⟩], []⟩) := by
      refine It.run (fun i => ((saidTo w x m i).1, (i : Int), (saidTo w x m i).2.1, (saidTo w x m i).2.2.1)) w.2.2.1.length (fun i hi fuel u rec => ?_) (It.stop fun fuel u rec => ?_)
      · have hb := small_lt hi hz.said
        have hv := saidTo_inv w x m i
        have hl : w.2.2.1.length ≤ 1048576 := hz.said
        show c63_6 (arun p n) fuel w x m rec ((saidTo w x m i).1, (i : Int), (saidTo w x m i).2.1, (saidTo w x m i).2.2.1) = rec ((saidTo w x m (i + 1)).1, ((i + 1 : Nat) : Int), (saidTo w x m (i + 1)).2.1, (saidTo w x m (i + 1)).2.2.1)
        have hs : saidTo w x m (i + 1) = bif (gt w.2.2.1 i).1 == x && decide ((saidTo w x m i).1 < m) then ((saidTo w x m i).1 + 1, joinS (saidTo w x m i).2 (partOf w i)) else saidTo w x m i := rfl
        rw [hs]
        unfold c63_6; dsimp only; rw [wrap_succ hb]; refine (bif_pos (Int.ofNat_lt.2 hi)).trans ?_; refine (bif_pos (Int.natCast_nonneg _)).trans ?_; refine (at_step hi).trans ?_
        show (bif (gt w.2.2.1 i).1 == x then _ else _) = _
        cases (gt w.2.2.1 i).1 == x with
        | false => rfl
        | true =>
          refine (bif_tt rfl).trans ?_
          by_cases hc : (saidTo w x m i).1 < m
          · refine (bif_pos hc).trans ?_; rw [decide_eq_true hc]; refine (call_step (f100 (saidTo w x m i).2 (partOf w i) hv.2.2.1 (hz.part i hi) n (by omega))).trans ?_; rw [wrap64 (by omega) (by omega)]; rfl
          · refine (bif_neg hc).trans ?_; rw [decide_eq_false hc]; rfl
      · show c63_6 (arun p n) fuel w x m rec ((saidTo w x m w.2.2.1.length).1, (w.2.2.1.length : Int), (saidTo w x m w.2.2.1.length).2.1, (saidTo w x m w.2.2.1.length).2.2.1) = _
        unfold c63_6; refine (bif_neg (Int.lt_irrefl _)).trans ?_; rfl
    have e : saidBy w x m = (saidTo w x m w.2.2.1.length).2 := by unfold saidBy; rw [hw]; rfl
    rw [e]
    exact Ev.eq (fun fuel => by unfold T63; refine (call_step (f45 w hz n (by omega))).trans ?_; rw [hw]; rfl) (lp.ev (i := ()) rfl)
theorem f60 (w : WorldT) (x m : Int) (hz : SzW w) : Ran p 9 60 [.val true ⟨K33, w⟩, .val false ⟨K3, (x, ())⟩, .val false ⟨K3, (m, ())⟩] ⟨[⟨K48, saidBy w x m⟩], []⟩ := go60 fun n hn => by
  cases hw : worldOk w with
  | false =>
    refine Ev.now fun fuel => ?_
    unfold T60 saidBy; refine (call_step (f39 w hz n (by omega))).trans ?_; rw [hw]; rfl
  | true =>
    have key : ∀ d i, i + d = w.2.2.1.length → It (fun fuel (_ : Unit) => c60_6 (arun p n) fuel w x m) ((saidTo w x m i).1, (i : Int), (saidTo w x m i).2.1, (saidTo w x m i).2.2.1) (fun _ => some ⟨[⟨K48, (saidTo w x m w.2.2.1.length).2⟩], []⟩) := by
      intro d
      induction d with
      | zero =>
        intro i hi
        have : i = w.2.2.1.length := by omega
        subst this
        refine It.stop fun fuel u rec => ?_
        show c60_6 (arun p n) fuel w x m rec ((saidTo w x m w.2.2.1.length).1, (w.2.2.1.length : Int), (saidTo w x m w.2.2.1.length).2.1, (saidTo w x m w.2.2.1.length).2.2.1) = _
        unfold c60_6; refine (bif_neg (Int.lt_irrefl _)).trans ?_; rfl
      | succ d ih =>
        intro i hi'
        have hi : i < w.2.2.1.length := by omega
        have hb := small_lt hi hz.said
        have hv := saidTo_inv w x m i
        have hl : w.2.2.1.length ≤ 1048576 := hz.said
        by_cases hc : (saidTo w x m i).1 < m
        · refine It.next (fun fuel u rec => ?_) (ih (i + 1) (by omega))
          show c60_6 (arun p n) fuel w x m rec ((saidTo w x m i).1, (i : Int), (saidTo w x m i).2.1, (saidTo w x m i).2.2.1) = rec ((saidTo w x m (i + 1)).1, ((i + 1 : Nat) : Int), (saidTo w x m (i + 1)).2.1, (saidTo w x m (i + 1)).2.2.1)
          have hs : saidTo w x m (i + 1) = bif (gt w.2.2.1 i).1 == x && decide ((saidTo w x m i).1 < m) then ((saidTo w x m i).1 + 1, joinS (saidTo w x m i).2 (partOf w i)) else saidTo w x m i := rfl
          rw [hs, decide_eq_true hc]
          unfold c60_6; dsimp only; rw [wrap_succ hb]; refine (bif_pos (Int.ofNat_lt.2 hi)).trans ?_; refine (bif_pos hc).trans ?_; refine (bif_pos (Int.natCast_nonneg _)).trans ?_; refine (at_step hi).trans ?_
          show (bif (gt w.2.2.1 i).1 == x then _ else _) = _
          cases (gt w.2.2.1 i).1 == x with
          | false => rfl
          | true => refine (bif_tt rfl).trans ?_; refine (bif_pos (Int.natCast_nonneg _)).trans ?_; refine (at_step hi).trans ?_; refine (call_step (f98 (saidTo w x m i).2 (partOf w i) hv.2.2.1 (hz.part i hi) hv.2.2.2 ((stateOk_iff _).1 (worldOk_part hw hi)).pos n (by omega))).trans ?_; rw [wrap64 (by omega) (by omega)]; rfl
        · refine It.stop fun fuel u rec => ?_
          have e := saidTo_full hc (d + 1)
          rw [show i + (d + 1) = w.2.2.1.length from hi'] at e
          rw [e]
          show c60_6 (arun p n) fuel w x m rec ((saidTo w x m i).1, (i : Int), (saidTo w x m i).2.1, (saidTo w x m i).2.2.1) = _
          unfold c60_6; refine (bif_pos (Int.ofNat_lt.2 hi)).trans ?_; refine (bif_neg hc).trans ?_; rfl
    have e : saidBy w x m = (saidTo w x m w.2.2.1.length).2 := by unfold saidBy; rw [hw]; rfl
    rw [e]
    exact Ev.eq (fun fuel => by unfold T60; refine (call_step (f39 w hz n (by omega))).trans ?_; rw [hw]; rfl) ((key _ 0 (Nat.zero_add _)).ev (i := ()) rfl)
theorem f69 (w : WorldT) (ls : List NumT) (hz : SzW w) (hl : ls.length ≤ small) : Ran p 9 69 [.val true ⟨K33, w⟩, .val false ⟨K60, (ls, ())⟩] ⟨[⟨K48, joined w ls⟩], []⟩ := go69 fun n hn => by
  cases hw : worldOk w with
  | false =>
    refine Ev.now fun fuel => ?_
    unfold T69 joined; refine (call_step (f39 w hz n (by omega))).trans ?_; rw [hw]; rfl
  | true =>
    have lp : It (fun fuel (_ : Unit) => c69_5 (arun p n) fuel w ls) ((0 : Int), ([] : List ItemT), ([] : List FloorT)) (fun _ => some ⟨[⟨K48, joinIn w ls ls.length⟩], []⟩) := by
      refine It.run (fun i => ((i : Int), (joinIn w ls i).1, (joinIn w ls i).2.1)) ls.length (fun i hi fuel u rec => ?_) (It.stop fun fuel u rec => ?_)
      · have hb := small_lt hi hl
        have hwl : w.2.2.1.length ≤ 1048576 := hz.said
        show c69_5 (arun p n) fuel w ls rec ((i : Int), (joinIn w ls i).1, (joinIn w ls i).2.1) = rec (((i + 1 : Nat) : Int), (joinIn w ls (i + 1)).1, (joinIn w ls (i + 1)).2.1)
        have hs : joinIn w ls (i + 1) = bif inB (gt ls i).1 0 (IntKind.i64.wrap (((w.2.2.1.length : Nat) : Int) - 1)) then joinS (joinIn w ls i) (partOf w (gt ls i).1.toNat) else joinIn w ls i := rfl
        rw [hs]
        unfold c69_5; dsimp only; rw [wrap_succ hb]; refine (bif_pos (Int.ofNat_lt.2 hi)).trans ?_; refine (bif_pos (Int.natCast_nonneg _)).trans ?_; refine (at_step hi).trans ?_; refine (call_step (f84 (gt ls i).1 0 (IntKind.i64.wrap (((w.2.2.1.length : Nat) : Int) - 1)) n (by omega))).trans ?_
        cases hx : inB (gt ls i).1 0 (IntKind.i64.wrap (((w.2.2.1.length : Nat) : Int) - 1)) with
        | false => rfl
        | true =>
          rw [inB_iff, wrap64 (by omega) (by omega)] at hx
          obtain ⟨k, hk'⟩ : ∃ k : Nat, (gt ls i).1 = (k : Int) := ⟨(gt ls i).1.toNat, by omega⟩
          have hk : k < w.2.2.1.length := by omega
          refine (bif_tt rfl).trans ?_; refine (bif_pos (Int.natCast_nonneg _)).trans ?_; refine (at_step hi).trans ?_; show (bif decide (0 ≤ (gt ls i).1) then ((at? w.2.2.1 ((gt ls i).1).toNat).bind _) else none) = _
          rw [hk', Int.toNat_natCast]; refine (bif_pos (Int.natCast_nonneg _)).trans ?_; refine (at_step hk).trans ?_; refine (call_step (f98 (joinIn w ls i) (partOf w k) (joinIn_inv w ls i).1 (hz.part k hk) (joinIn_inv w ls i).2 ((stateOk_iff _).1 (worldOk_part hw hk)).pos n (by omega))).trans ?_; rfl
      · show c69_5 (arun p n) fuel w ls rec ((ls.length : Int), (joinIn w ls ls.length).1, (joinIn w ls ls.length).2.1) = _
        unfold c69_5; refine (bif_neg (Int.lt_irrefl _)).trans ?_; rfl
    have e : joined w ls = joinIn w ls ls.length := by unfold joined; rw [hw]; rfl
    rw [e]
    exact Ev.eq (fun fuel => by unfold T69; refine (call_step (f39 w hz n (by omega))).trans ?_; rw [hw]; rfl) (lp.ev (i := ()) rfl)
theorem f74 (w : WorldT) (ls : List NumT) (hz : SzW w) (hl : ls.length ≤ small) : Ran p 9 74 [.val true ⟨K33, w⟩, .val false ⟨K60, (ls, ())⟩] ⟨[⟨K48, joined w ls⟩], []⟩ := go74 fun n hn => by
  cases hw : worldOk w with
  | false =>
    refine Ev.now fun fuel => ?_
    unfold T74 joined; refine (call_step (f45 w hz n (by omega))).trans ?_; rw [hw]; rfl
  | true =>
    have lp : It (fun fuel (_ : Unit) => c74_5 (arun p n) fuel w ls) ((0 : Int), ([] : List ItemT), ([] : List FloorT)) (fun _ => some ⟨[⟨K48, joinIn w ls ls.length⟩], []⟩) := by
      refine It.run (fun i => ((i : Int), (joinIn w ls i).1, (joinIn w ls i).2.1)) ls.length (fun i hi fuel u rec => ?_) (It.stop fun fuel u rec => ?_)
      · have hb := small_lt hi hl
        have hwl : w.2.2.1.length ≤ 1048576 := hz.said
        show c74_5 (arun p n) fuel w ls rec ((i : Int), (joinIn w ls i).1, (joinIn w ls i).2.1) = rec (((i + 1 : Nat) : Int), (joinIn w ls (i + 1)).1, (joinIn w ls (i + 1)).2.1)
        have hs : joinIn w ls (i + 1) = bif inB (gt ls i).1 0 (IntKind.i64.wrap (((w.2.2.1.length : Nat) : Int) - 1)) then joinS (joinIn w ls i) (partOf w (gt ls i).1.toNat) else joinIn w ls i := rfl
        rw [hs]
        unfold c74_5; dsimp only; rw [wrap_succ hb]; refine (bif_pos (Int.ofNat_lt.2 hi)).trans ?_; refine (bif_pos (Int.natCast_nonneg _)).trans ?_; refine (at_step hi).trans ?_; refine (call_step (f90 (gt ls i).1 0 (IntKind.i64.wrap (((w.2.2.1.length : Nat) : Int) - 1)) n (by omega))).trans ?_
        cases hx : inB (gt ls i).1 0 (IntKind.i64.wrap (((w.2.2.1.length : Nat) : Int) - 1)) with
        | false => rfl
        | true =>
          rw [inB_iff, wrap64 (by omega) (by omega)] at hx
          obtain ⟨k, hk'⟩ : ∃ k : Nat, (gt ls i).1 = (k : Int) := ⟨(gt ls i).1.toNat, by omega⟩
          have hk : k < w.2.2.1.length := by omega
          refine (bif_tt rfl).trans ?_; show (bif decide (0 ≤ (gt ls i).1) then ((at? w.2.2.1 ((gt ls i).1).toNat).bind _) else none) = _
          rw [hk', Int.toNat_natCast]; refine (bif_pos (Int.natCast_nonneg _)).trans ?_; refine (at_step hk).trans ?_; refine (call_step (f100 (joinIn w ls i) (partOf w k) (joinIn_inv w ls i).1 (hz.part k hk) n (by omega))).trans ?_; rfl
      · show c74_5 (arun p n) fuel w ls rec ((ls.length : Int), (joinIn w ls ls.length).1, (joinIn w ls ls.length).2.1) = _
        unfold c74_5; refine (bif_neg (Int.lt_irrefl _)).trans ?_; rfl
    have e : joined w ls = joinIn w ls ls.length := by unfold joined; rw [hw]; rfl
    rw [e]
    exact Ev.eq (fun fuel => by unfold T74; refine (call_step (f45 w hz n (by omega))).trans ?_; rw [hw]; rfl) (lp.ev (i := ()) rfl)
theorem f70 (w : WorldT) (s : StateT) (hz : SzW w) (hs : SzS s) : Ran p 9 70 [.val true ⟨K33, w⟩, .val true ⟨K48, s⟩] ⟨[⟨K60, (beneath w s, ())⟩], []⟩ := go70 fun n hn => by
  cases hw : worldOk w with
  | false =>
    refine Ev.now fun fuel => ?_
    unfold T70 beneath; refine (call_step (f39 w hz n (by omega))).trans ?_; rw [hw]; rfl
  | true => cases ho : stateOk s with
    | false =>
      refine Ev.now fun fuel => ?_
      unfold T70 beneath; refine (call_step (f39 w hz n (by omega))).trans ?_; rw [hw]; refine (bif_ff rfl).trans ?_; refine (call_step (f68 s (small_max hs.a) (small_max hs.b) n (by omega))).trans ?_; rw [ho]; rfl
    | true =>
      have lp : It (fun fuel (_ : Unit) => c70_5 (arun p n) fuel w s) ((0 : Int), ([] : List NumT)) (fun _ => some ⟨[⟨K60, (accL w.2.2.1.length (fun i => bif leqS (partOf w i) s then [((i : Int), ())] else []), ())⟩], []⟩) := by
        refine It.accu (α := NumT) [] (fun i => bif leqS (partOf w i) s then [((i : Int), ())] else []) w.2.2.1.length 1 (fun i hi => by cases leqS (partOf w i) s <;> simp) (fun i hi acc ha fuel u rec => ?_) (It.stop fun fuel u rec => ?_)
        · have hb := small_lt hi hz.said
          have hl : w.2.2.1.length ≤ 1048576 := hz.said
          show c70_5 (arun p n) fuel w s rec ((i : Int), acc) = _
          unfold c70_5; dsimp only; rw [wrap_succ hb]; refine (bif_pos (Int.ofNat_lt.2 hi)).trans ?_; refine (bif_pos (Int.natCast_nonneg _)).trans ?_; refine (at_step hi).trans ?_; refine (call_step (f59 (partOf w i) s (hz.part i hi) hs n (by omega))).trans ?_
          cases hq : leqS (partOf w i) s with
          | false => refine (bif_ff rfl).trans ?_; exact (congrArg (fun l : List NumT => rec (((i + 1 : Nat) : Int), l)) (List.append_nil acc).symm : _)
          | true => refine (bif_tt rfl).trans ?_; refine (bif_pos (by rw [hq] at ha; have : acc.length + 1 ≤ 0 + w.2.2.1.length * 1 := ha; show acc.length + 1 ≤ 4294967296; omega)).trans ?_; rfl
        · show c70_5 (arun p n) fuel w s rec ((w.2.2.1.length : Int), accL (α := NumT) w.2.2.1.length (fun i => bif leqS (partOf w i) s then [((i : Int), ())] else [])) = _
          unfold c70_5; refine (bif_neg (Int.lt_irrefl _)).trans ?_; rfl
      have e : beneath w s = accL w.2.2.1.length (fun i => bif leqS (partOf w i) s then [((i : Int), ())] else []) := by unfold beneath; rw [hw, ho]; rfl
      rw [e]
      exact Ev.eq (fun fuel => by unfold T70; refine (call_step (f39 w hz n (by omega))).trans ?_; rw [hw]; refine (bif_ff rfl).trans ?_; refine (call_step (f68 s (small_max hs.a) (small_max hs.b) n (by omega))).trans ?_; rw [ho]; rfl) (lp.ev (i := ()) rfl)
theorem f75 (w : WorldT) (s : StateT) (hz : SzW w) (hs : SzS s) : Ran p 9 75 [.val true ⟨K33, w⟩, .val true ⟨K48, s⟩] ⟨[⟨K60, (beneath w s, ())⟩], []⟩ := go75 fun n hn => by
  cases hw : worldOk w with
  | false =>
    refine Ev.now fun fuel => ?_
    unfold T75 beneath; refine (call_step (f45 w hz n (by omega))).trans ?_; rw [hw]; rfl
  | true => cases ho : stateOk s with
    | false =>
      refine Ev.now fun fuel => ?_
      unfold T75 beneath; refine (call_step (f45 w hz n (by omega))).trans ?_; rw [hw]; refine (bif_ff rfl).trans ?_; refine (call_step (f73 s (small_max hs.a) (small_max hs.b) n (by omega))).trans ?_; rw [ho]; rfl
    | true =>
      have lp : It (fun fuel (_ : Unit) => c75_5 (arun p n) fuel w s) ((0 : Int), ([] : List NumT)) (fun _ => some ⟨[⟨K60, (accL w.2.2.1.length (fun i => bif leqS (partOf w i) s then [((i : Int), ())] else []), ())⟩], []⟩) := by
        refine It.accu (α := NumT) [] (fun i => bif leqS (partOf w i) s then [((i : Int), ())] else []) w.2.2.1.length 1 (fun i hi => by cases leqS (partOf w i) s <;> simp) (fun i hi acc ha fuel u rec => ?_) (It.stop fun fuel u rec => ?_)
        · have hb := small_lt hi hz.said
          have hl : w.2.2.1.length ≤ 1048576 := hz.said
          show c75_5 (arun p n) fuel w s rec ((i : Int), acc) = _
          unfold c75_5; dsimp only; rw [wrap_succ hb]; refine (bif_pos (Int.ofNat_lt.2 hi)).trans ?_; refine (bif_pos (Int.natCast_nonneg _)).trans ?_; refine (at_step hi).trans ?_; refine (call_step (f62 (partOf w i) s (hz.part i hi) hs n (by omega))).trans ?_
          cases hq : leqS (partOf w i) s with
          | false => refine (bif_ff rfl).trans ?_; exact (congrArg (fun l : List NumT => rec (((i + 1 : Nat) : Int), l)) (List.append_nil acc).symm : _)
          | true => refine (bif_tt rfl).trans ?_; refine (bif_pos (by rw [hq] at ha; have : acc.length + 1 ≤ 0 + w.2.2.1.length * 1 := ha; show acc.length + 1 ≤ 4294967296; omega)).trans ?_; rfl
        · show c75_5 (arun p n) fuel w s rec ((w.2.2.1.length : Int), accL (α := NumT) w.2.2.1.length (fun i => bif leqS (partOf w i) s then [((i : Int), ())] else [])) = _
          unfold c75_5; refine (bif_neg (Int.lt_irrefl _)).trans ?_; rfl
      have e : beneath w s = accL w.2.2.1.length (fun i => bif leqS (partOf w i) s then [((i : Int), ())] else []) := by unfold beneath; rw [hw, ho]; rfl
      rw [e]
      exact Ev.eq (fun fuel => by unfold T75; refine (call_step (f45 w hz n (by omega))).trans ?_; rw [hw]; refine (bif_ff rfl).trans ?_; refine (call_step (f73 s (small_max hs.a) (small_max hs.b) n (by omega))).trans ?_; rw [ho]; rfl) (lp.ev (i := ()) rfl)
theorem f26 (w : WorldT) (s : StateT) (hz : SzW w) (hs : SzS s) : Ran p 10 26 [.val true ⟨K33, w⟩, .val true ⟨K48, s⟩] ⟨[⟨K4, (explained w s, ())⟩], []⟩ := go26 fun n hn => Ev.now fun fuel => by
  show T26 (arun p n) fuel w s = oB (explained w s)
  unfold T26 explained; refine (call_step (f39 w hz n (by omega))).trans ?_; refine bchkT fun _ => ?_; refine (call_step (f68 s (small_max hs.a) (small_max hs.b) n (by omega))).trans ?_; refine bchkT fun _ => ?_; refine (call_step (f53 s hs n (by omega))).trans ?_; refine (call_step (f70 w s hz hs n (by omega))).trans ?_; refine (call_step (f69 w (beneath w s) hz (beneath_len w s hz.said) n (by omega))).trans ?_; refine (call_step (f53 (joined w (beneath w s)) (joined_sz _ _) n (by omega))).trans ?_; refine (call_step (f55 (viewS s) (viewS (joined w (beneath w s))) (viewS_len hs) n (by omega))).trans ?_; rfl
theorem f28 (w : WorldT) (s : StateT) (hz : SzW w) (hs : SzS s) : Ran p 10 28 [.val true ⟨K33, w⟩, .val true ⟨K48, s⟩] ⟨[⟨K4, (explained w s, ())⟩], []⟩ := go28 fun n hn => Ev.now fun fuel => by
  show T28 (arun p n) fuel w s = oB (explained w s)
  unfold T28 explained; refine (call_step (f45 w hz n (by omega))).trans ?_; refine bchkT fun _ => ?_; refine (call_step (f73 s (small_max hs.a) (small_max hs.b) n (by omega))).trans ?_; refine bchkT fun _ => ?_; refine (call_step (f75 w s hz hs n (by omega))).trans ?_; refine (call_step (f74 w (beneath w s) hz (beneath_len w s hz.said) n (by omega))).trans ?_; refine (call_step (f57 s (joined w (beneath w s)) hs (joined_sz _ _) n (by omega))).trans ?_; rfl
theorem f64 (w : WorldT) (x : Int) (hz : SzW w) : Ran p 2 64 [.val true ⟨K33, w⟩, .val false ⟨K3, (x, ())⟩] ⟨[⟨K3, (many w x, ())⟩], []⟩ := go64 fun n hn => by
  have lp : It (fun fuel (_ : Unit) => c64_3 (arun p n) fuel w x) ((0 : Int), (0 : Int)) (fun _ => oI (many w x)) := by
    refine It.run (fun i => (manyTo w x i, (i : Int))) w.2.2.1.length (fun i hi fuel u rec => ?_) (It.stop fun fuel u rec => ?_)
    · have hb := small_lt hi hz.said
      have hv := manyTo_le w x i
      have hl : w.2.2.1.length ≤ 1048576 := hz.said
      show c64_3 (arun p n) fuel w x rec (manyTo w x i, (i : Int)) = _
      unfold c64_3; dsimp only; rw [wrap_succ hb]; refine (bif_pos (Int.ofNat_lt.2 hi)).trans ?_; refine (bif_pos (Int.natCast_nonneg _)).trans ?_; refine (at_step hi).trans ?_; refine (call_step (f41 ((gt w.2.2.1 i).1 == x) n (by omega))).trans ?_
      have hbt : 0 ≤ bitI ((gt w.2.2.1 i).1 == x) ∧ bitI ((gt w.2.2.1 i).1 == x) ≤ 1 := bitI_le _
      show rec (IntKind.i64.wrap (manyTo w x i + bitI ((gt w.2.2.1 i).1 == x)), ((i + 1 : Nat) : Int)) = _
      rw [wrap64 (by omega) (by omega)]; rfl
    · show c64_3 (arun p n) fuel w x rec (manyTo w x w.2.2.1.length, (w.2.2.1.length : Int)) = _
      unfold c64_3; refine (bif_neg (Int.lt_irrefl _)).trans ?_; rfl
  exact Ev.eq (fun fuel => by unfold T64; rfl) (lp.ev (i := ()) rfl)
theorem f65 (w : WorldT) (x : Int) (hz : SzW w) : Ran p 1 65 [.val true ⟨K33, w⟩, .val false ⟨K3, (x, ())⟩] ⟨[⟨K3, (many w x, ())⟩], []⟩ := go65 fun n hn => by
  have lp : It (fun fuel (_ : Unit) => c65_3 (arun p n) fuel w x) ((0 : Int), (0 : Int)) (fun _ => oI (many w x)) := by
    refine It.run (fun i => (manyTo w x i, (i : Int))) w.2.2.1.length (fun i hi fuel u rec => ?_) (It.stop fun fuel u rec => ?_)
    · have hb := small_lt hi hz.said
      have hv := manyTo_le w x i
      have hl : w.2.2.1.length ≤ 1048576 := hz.said
      show c65_3 (arun p n) fuel w x rec (manyTo w x i, (i : Int)) = _
      unfold c65_3; dsimp only; rw [wrap_succ hb]; refine (bif_pos (Int.ofNat_lt.2 hi)).trans ?_; refine (bif_pos (Int.natCast_nonneg _)).trans ?_; refine (at_step hi).trans ?_; show (bif (gt w.2.2.1 i).1 == x then _ else _) = rec (manyTo w x i + bitI ((gt w.2.2.1 i).1 == x), ((i + 1 : Nat) : Int))
      cases (gt w.2.2.1 i).1 == x with
      | false => exact congrArg (fun z : Int => rec (z, ((i + 1 : Nat) : Int))) (Int.add_zero _).symm
      | true => refine (bif_tt rfl).trans ?_; rw [wrap64 (by omega) (by omega)]; rfl
    · show c65_3 (arun p n) fuel w x rec (manyTo w x w.2.2.1.length, (w.2.2.1.length : Int)) = _
      unfold c65_3; refine (bif_neg (Int.lt_irrefl _)).trans ?_; rfl
  exact Ev.eq (fun fuel => by unfold T65; rfl) (lp.ev (i := ()) rfl)
end Go.Abs.Vz
