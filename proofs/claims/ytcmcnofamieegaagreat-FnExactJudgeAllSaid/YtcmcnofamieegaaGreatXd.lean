/- What the functions of this program answer, part d. -/
import Derived.Test.YtcmcnofamieegaaGreatXc
import Derived.Test.YtcmcnofamieegaaGreatW2
set_option linter.unusedVariables false
namespace Go.Abs.Vz
open Go Go.Abs
abbrev oL (l : List NumT) : Option Out := some ⟨[⟨K107, (l, ())⟩], []⟩
theorem len1000 {k : Nat} (h : k ≤ 5) : k ≤ maxLen := by show k ≤ 9223372036854775807; omega
theorem f171 (s : StateT) (hs : StateOk s) : Ran p 4 171 [.val true ⟨K48, s⟩] ⟨[⟨K107, (bytesS s, ())⟩], []⟩ := go171 fun n hn => by
  have h5 := hs.len
  have fl : ∀ pre : List NumT, pre.length ≤ 1000 → It (fun fuel (_ : Unit) => c171_14 (arun p n) fuel s) ((0 : Int), pre) (fun _ => oL (pre ++ s.2.1.flatMap floorBytes)) := by
    intro pre hp
    refine It.accu (α := NumT) pre (fun i => floorBytes (gt s.2.1 i)) s.2.1.length 10 (fun i hi => floorBytes_len _) (fun i hi acc ha fuel a rec => ?_) (It.stop fun fuel a rec => ?_)
    · have hb : i < 9223372036854775807 := by omega
      have ha' : acc.length + (floorBytes (gt s.2.1 i)).length ≤ 1050 := by omega
      unfold floorBytes at ha'; rw [List.length_append] at ha'
      show c171_14 (arun p n) fuel s rec ((i : Int), acc) = _
      unfold c171_14; dsimp only; rw [wrap_succ hb]; refine (bif_pos (Int.ofNat_lt.2 hi)).trans ?_; refine (bif_pos (Int.natCast_nonneg _)).trans ?_; refine (at_step hi).trans ?_; refine (call_step (f173 (gt s.2.1 i).1 n (by omega))).trans ?_; refine (bif_pos (by show acc.length + (putNum (gt s.2.1 i).1).length ≤ 4294967296; omega)).trans ?_; refine (bif_pos (Int.natCast_nonneg _)).trans ?_; refine (at_step hi).trans ?_; refine (call_step (f173 (gt s.2.1 i).2.1 n (by omega))).trans ?_
      refine (bif_pos (by show (acc ++ putNum (gt s.2.1 i).1).length + (putNum (gt s.2.1 i).2.1).length ≤ 4294967296; rw [List.length_append]; omega)).trans ?_
      exact congrArg (fun l : List NumT => rec (((i + 1 : Nat) : Int), l)) (List.append_assoc _ _ _)
    · show c171_14 (arun p n) fuel s rec ((s.2.1.length : Int), pre ++ accL s.2.1.length fun i => floorBytes (gt s.2.1 i)) = _
      unfold c171_14; refine (bif_neg (Int.lt_irrefl _)).trans ?_; exact congrArg (fun l : List NumT => oL (pre ++ l)) (accL_flat floorBytes s.2.1)
  have it : ∀ (i : Nat) (hi : i < s.1.length) (acc : List NumT), acc.length ≤ 1000 → It (fun fuel rec3 => c171_8 (arun p n) fuel s (gt (α := ItemT) s.1 i) (gt (α := ItemT) s.1 i) (i : Int) rec3) ((0 : Int), acc) (fun rec3 => rec3 (((i + 1 : Nat) : Int), acc ++ itemBytes (gt s.1 i))) := by
    intro i hi acc ha
    have hb : i < 9223372036854775807 := by omega
    refine It.accu (α := NumT) acc (fun k => putNum (gt (five (gt s.1 i)) k).1) 5 5 (fun k hk => putNum_len _) (fun k hk acc' ha' fuel rec3 rec => ?_) (It.stop fun fuel rec3 rec => ?_)
    · have hk' : k < (five (gt s.1 i)).length := hk
      have hkb : k < 9223372036854775807 := by omega
      show c171_8 (arun p n) fuel s (gt (α := ItemT) s.1 i) (gt (α := ItemT) s.1 i) (i : Int) rec3 rec ((k : Int), acc') = _
      unfold c171_8; dsimp only; rw [wrap_succ hkb]; refine (bif_pos (Int.ofNat_lt.2 hk')).trans ?_; refine (bif_pos (Int.natCast_nonneg _)).trans ?_; refine (at_step hk').trans ?_; refine (at_step hk').trans ?_; refine (call_step (f173 (gt (five (gt s.1 i)) k).1 n (by omega))).trans ?_
      refine (bif_pos (by show acc'.length + (putNum (gt (five (gt s.1 i)) k).1).length ≤ 4294967296; replace ha' : acc'.length + (putNum (gt (five (gt s.1 i)) k).1).length ≤ acc.length + 5 * 5 := ha'; omega)).trans ?_; rfl
    · show c171_8 (arun p n) fuel s (gt (α := ItemT) s.1 i) (gt (α := ItemT) s.1 i) (i : Int) rec3 rec (((5 : Nat) : Int), acc ++ accL 5 fun k => putNum (gt (five (gt s.1 i)) k).1) = _
      have hz := hs.size (gt_mem hi)
      have h1 : (accL 5 fun k => putNum (gt (five (gt s.1 i)) k).1).length ≤ 5 * 5 := accL_len fun k hk => putNum_len _
      have h2 := putText_len (gt s.1 i).2.2.2.2.2.1
      unfold c171_8; dsimp only; rw [wrap_succ hb]; refine (bif_neg (by show ¬ ((5 : Int) < 5); decide)).trans ?_; refine (call_step (f182 (gt s.1 i).2.2.2.2.2.1 (by omega) n (by omega))).trans ?_
      refine (bif_pos (by show (acc ++ accL 5 fun k => putNum (gt (five (gt s.1 i)) k).1).length + (putText (gt s.1 i).2.2.2.2.2.1).length ≤ 4294967296; rw [List.length_append]; omega)).trans ?_
      exact congrArg (fun l : List NumT => rec3 (((i + 1 : Nat) : Int), l)) (five_acc (gt s.1 i) acc)
  have n1 := putNum_len ((s.1.length : Nat) : Int)
  have n2 := putNum_len ((s.2.1.length : Nat) : Int)
  have hB : ((putNum ((s.1.length : Nat) : Int) ++ accL s.1.length fun i => itemBytes (gt s.1 i))).length ≤ 5 + 5 * 38 := by
    have : (accL s.1.length fun i => itemBytes (gt s.1 i)).length ≤ s.1.length * 38 := accL_len fun i hi => itemBytes_len (hs.item _ (gt_mem hi)).2.1
    rw [List.length_append]; omega
  have outer : It (fun fuel (_ : Unit) => c171_3 (arun p n) fuel s) ((0 : Int), putNum ((s.1.length : Nat) : Int)) (fun _ => oL (bytesS s)) := by
    refine It.accuE (α := NumT) (putNum ((s.1.length : Nat) : Int)) (fun i => itemBytes (gt s.1 i)) s.1.length 38 (fun i hi => itemBytes_len (hs.item _ (gt_mem hi)).2.1) (fun i hi acc ha => ?_)
      (It.stopE (T := fun fuel _ => iter (c171_14 (arun p n) fuel s) fuel ((0 : Int), (putNum ((s.1.length : Nat) : Int) ++ accL s.1.length fun i => itemBytes (gt s.1 i)) ++ putNum ((s.2.1.length : Nat) : Int))) (fun fuel a rec => ?_) ?_)
    · obtain ⟨N, hN⟩ := (it i hi acc (by omega)).all_i
      refine ⟨N, fun fuel hf a rec => ?_⟩
      show c171_3 (arun p n) fuel s rec ((i : Int), acc) = _
      unfold c171_3; refine (bif_pos (Int.ofNat_lt.2 hi)).trans ?_; refine (bif_pos (Int.natCast_nonneg _)).trans ?_; refine (at_step hi).trans ?_; refine (bif_pos (Int.natCast_nonneg _)).trans ?_; refine (at_step hi).trans ?_; exact hN fuel hf rec
    · show c171_3 (arun p n) fuel s rec ((s.1.length : Int), putNum ((s.1.length : Nat) : Int) ++ accL s.1.length fun i => itemBytes (gt s.1 i)) = _
      unfold c171_3; refine (bif_neg (Int.lt_irrefl _)).trans ?_; refine (call_step (f173 ((s.2.1.length : Nat) : Int) n (by omega))).trans ?_; exact bif_pos (by show (putNum ((s.1.length : Nat) : Int) ++ accL s.1.length fun i => itemBytes (gt s.1 i)).length + (putNum ((s.2.1.length : Nat) : Int)).length ≤ 4294967296; omega)
    · have := (fl ((putNum ((s.1.length : Nat) : Int) ++ accL s.1.length fun i => itemBytes (gt s.1 i)) ++ putNum ((s.2.1.length : Nat) : Int)) (by rw [List.length_append]; omega)).all_i
      rw [accL_flat itemBytes s.1] at this ⊢
      exact this
  exact Ev.eq (fun fuel => by unfold T171; refine (call_step (f173 ((s.1.length : Nat) : Int) n (by omega))).trans ?_; rfl) (outer.ev (i := ()) rfl)

theorem part_num {x : Int} {L : Nat} (h : 5 ≤ L) : (putNum x).length ≤ L := Nat.le_trans (putNum_len x) h
theorem f175 (s : StateT) (hs : StateOk s) : Ran p 4 175 [.val true ⟨K48, s⟩] ⟨[⟨K107, (bytesS s, ())⟩], []⟩ := go175 fun n hn => by
  have h5 := hs.len
  have fl : ∀ pre : List NumT, pre.length ≤ 1000 → It (fun fuel (_ : Unit) => c175_12 (arun p n) fuel s) ((0 : Int), pre) (fun _ => oL (pre ++ s.2.1.flatMap floorBytes)) := by
    intro pre hp
    refine It.accu (α := NumT) pre (fun i => floorBytes (gt s.2.1 i)) s.2.1.length 10 (fun i hi => floorBytes_len _) (fun i hi acc ha fuel a rec => ?_) (It.stop fun fuel a rec => ?_)
    · have hb : i < 9223372036854775807 := by omega
      show c175_12 (arun p n) fuel s rec ((i : Int), acc) = _
      unfold c175_12; dsimp only; rw [wrap_succ hb]; refine (bif_pos (Int.ofNat_lt.2 hi)).trans ?_; refine (bif_pos (Int.natCast_nonneg _)).trans ?_; refine (at_step hi).trans ?_; refine (call_step (f178 (gt s.2.1 i).1 n (by omega))).trans ?_; refine (call_step (f178 (gt s.2.1 i).2.1 n (by omega))).trans ?_
      refine (call_step (f177 [(acc, ()), (putNum (gt s.2.1 i).1, ()), (putNum (gt s.2.1 i).2.1, ())] 2000 (parts_ok (by
        intro r hr; simp only [List.mem_cons, List.not_mem_nil, or_false] at hr
        rcases hr with rfl | rfl | rfl
        · show acc.length ≤ 2000; omega
        · exact part_num (by decide)
        · exact part_num (by decide))) (by show 3 * 2000 ≤ 4294967296; omega) (by show 3 ≤ 9223372036854775807; omega) n (by omega))).trans ?_
      exact congrArg (fun l : List NumT => rec (((i + 1 : Nat) : Int), l)) (by simp [floorBytes] : List.flatMap (fun r : RowT => r.1) [(acc, ()), (putNum (gt s.2.1 i).1, ()), (putNum (gt s.2.1 i).2.1, ())] = acc ++ floorBytes (gt s.2.1 i))
    · show c175_12 (arun p n) fuel s rec ((s.2.1.length : Int), pre ++ accL s.2.1.length fun i => floorBytes (gt s.2.1 i)) = _
      unfold c175_12; refine (bif_neg (Int.lt_irrefl _)).trans ?_; exact congrArg (fun l : List NumT => oL (pre ++ l)) (accL_flat floorBytes s.2.1)
  have n1 := putNum_len ((s.1.length : Nat) : Int)
  have n2 := putNum_len ((s.2.1.length : Nat) : Int)
  have hB : (accL s.1.length fun i => itemBytes (gt s.1 i)).length ≤ 190 := by
    have : (accL s.1.length fun i => itemBytes (gt s.1 i)).length ≤ s.1.length * 38 := accL_len fun i hi => itemBytes_len (hs.item _ (gt_mem hi)).2.1
    omega
  have outer : It (fun fuel (_ : Unit) => c175_5 (arun p n) fuel s) ((0 : Int), putNum ((s.1.length : Nat) : Int)) (fun _ => oL (bytesS s)) := by
    refine It.accu (α := NumT) (putNum ((s.1.length : Nat) : Int)) (fun i => itemBytes (gt s.1 i)) s.1.length 38 (fun i hi => itemBytes_len (hs.item _ (gt_mem hi)).2.1) (fun i hi acc ha fuel a rec => ?_)
      (It.stopE (T := fun fuel _ => iter (c175_12 (arun p n) fuel s) fuel ((0 : Int), (putNum ((s.1.length : Nat) : Int) ++ accL s.1.length fun i => itemBytes (gt s.1 i)) ++ putNum ((s.2.1.length : Nat) : Int))) (fun fuel a rec => ?_) ?_)
    · have hb : i < 9223372036854775807 := by omega
      have hz := hs.size (gt_mem hi)
      have ht := putText_len (gt s.1 i).2.2.2.2.2.1
      show c175_5 (arun p n) fuel s rec ((i : Int), acc) = _
      unfold c175_5; dsimp only; rw [wrap_succ hb]; refine (bif_pos (Int.ofNat_lt.2 hi)).trans ?_; refine (bif_pos (Int.natCast_nonneg _)).trans ?_; refine (at_step hi).trans ?_; refine (call_step (f178 (gt s.1 i).1 n (by omega))).trans ?_; refine (call_step (f178 (gt s.1 i).2.1 n (by omega))).trans ?_; refine (call_step (f178 (gt s.1 i).2.2.1 n (by omega))).trans ?_; refine (call_step (f178 (gt s.1 i).2.2.2.1 n (by omega))).trans ?_; refine (call_step (f178 (gt s.1 i).2.2.2.2.1 n (by omega))).trans ?_; refine (call_step (f185 (gt s.1 i).2.2.2.2.2.1 (by omega) n (by omega))).trans ?_
      refine (call_step (f177 [(acc, ()), (putNum (gt s.1 i).1, ()), (putNum (gt s.1 i).2.1, ()), (putNum (gt s.1 i).2.2.1, ()), (putNum (gt s.1 i).2.2.2.1, ()), (putNum (gt s.1 i).2.2.2.2.1, ()), (putText (gt s.1 i).2.2.2.2.2.1, ())] 2000 (parts_ok (by
        intro r hr; simp only [List.mem_cons, List.not_mem_nil, or_false] at hr
        rcases hr with rfl | rfl | rfl | rfl | rfl | rfl | rfl
        · show acc.length ≤ 2000; omega
        · exact part_num (by decide)
        · exact part_num (by decide)
        · exact part_num (by decide)
        · exact part_num (by decide)
        · exact part_num (by decide)
        · show (putText (gt s.1 i).2.2.2.2.2.1).length ≤ 2000; omega)) (by show 7 * 2000 ≤ 4294967296; omega) (by show 7 ≤ 9223372036854775807; omega) n (by omega))).trans ?_
      exact congrArg (fun l : List NumT => rec (((i + 1 : Nat) : Int), l)) (by simp [itemBytes] : List.flatMap (fun r : RowT => r.1) [(acc, ()), (putNum (gt s.1 i).1, ()), (putNum (gt s.1 i).2.1, ()), (putNum (gt s.1 i).2.2.1, ()), (putNum (gt s.1 i).2.2.2.1, ()), (putNum (gt s.1 i).2.2.2.2.1, ()), (putText (gt s.1 i).2.2.2.2.2.1, ())] = acc ++ itemBytes (gt s.1 i))
    · show c175_5 (arun p n) fuel s rec ((s.1.length : Int), putNum ((s.1.length : Nat) : Int) ++ accL s.1.length fun i => itemBytes (gt s.1 i)) = _
      unfold c175_5; refine (bif_neg (Int.lt_irrefl _)).trans ?_; refine (call_step (f178 ((s.2.1.length : Nat) : Int) n (by omega))).trans ?_
      refine (call_step (f177 [(putNum ((s.1.length : Nat) : Int) ++ accL s.1.length fun i => itemBytes (gt s.1 i), ()), (putNum ((s.2.1.length : Nat) : Int), ())] 2000 (parts_ok (by
        intro r hr; simp only [List.mem_cons, List.not_mem_nil, or_false] at hr
        rcases hr with rfl | rfl
        · show (putNum ((s.1.length : Nat) : Int) ++ accL s.1.length fun i => itemBytes (gt s.1 i)).length ≤ 2000; rw [List.length_append]; omega
        · exact part_num (by decide))) (by show 2 * 2000 ≤ 4294967296; omega) (by show 2 ≤ 9223372036854775807; omega) n (by omega))).trans ?_
      exact congrArg (fun l : List NumT => iter (c175_12 (arun p n) fuel s) fuel ((0 : Int), l)) (by simp : List.flatMap (fun r : RowT => r.1) [(putNum ((s.1.length : Nat) : Int) ++ accL s.1.length fun i => itemBytes (gt s.1 i), ()), (putNum ((s.2.1.length : Nat) : Int), ())] = (putNum ((s.1.length : Nat) : Int) ++ accL s.1.length fun i => itemBytes (gt s.1 i)) ++ putNum ((s.2.1.length : Nat) : Int))
    · have := (fl ((putNum ((s.1.length : Nat) : Int) ++ accL s.1.length fun i => itemBytes (gt s.1 i)) ++ putNum ((s.2.1.length : Nat) : Int)) (by rw [List.length_append, List.length_append]; omega)).all_i
      rw [accL_flat itemBytes s.1] at this ⊢
      exact this
  exact Ev.eq (fun fuel => by unfold T175; refine (call_step (f73 s (len1000 h5.1) (len1000 h5.2) n (by omega))).trans ?_; rw [(stateOk_iff s).2 hs]; refine (bif_ff rfl).trans ?_; refine (call_step (f178 ((s.1.length : Nat) : Int) n (by omega))).trans ?_; rfl) (outer.ev (i := ()) rfl)
theorem f156 (s : StateT) (x : Int) (hz : SzS s) : Ran p 5 156 [.val true ⟨K48, s⟩, .val false ⟨K3, (x, ())⟩] ⟨[⟨K3, (leafSum s x, ())⟩], []⟩ := go156 fun n hn => Ev.now fun fuel => by
  unfold T156 leafSum; refine (call_step (f68 s (Nat.le_trans hz.a (by decide)) (Nat.le_trans hz.b (by decide)) n (by omega))).trans ?_
  cases hs : stateOk s with
  | false => rfl
  | true =>
    have hs' := (stateOk_iff s).1 hs
    have h5 := hs'.len
    refine (bif_ff rfl).trans ?_; refine (call_step (f84 x 0 3 n (by omega))).trans ?_
    cases hx : inB x 0 3 with
    | false => rfl
    | true =>
      refine (bif_ff rfl).trans ?_; refine (call_step (f172 s [(x, ())] (by show 1 ≤ 9223372036854775807; omega) (by omega) (by omega) n (by omega))).trans ?_; refine (call_step (f171 (sliceS s [(x, ())]) (hs'.slice _) n (by omega))).trans ?_; refine (call_step (f170 (bytesS (sliceS s [(x, ())])) (Nat.le_trans (bytes_len (hs'.slice _)) (by decide)) n (by omega))).trans ?_; refine (bif_neg (by decide)).trans ?_; rfl
theorem f161 (s : StateT) (x : Int) (hz : SzS s) : Ran p 5 161 [.val true ⟨K48, s⟩, .val false ⟨K3, (x, ())⟩] ⟨[⟨K3, (leafSum s x, ())⟩], []⟩ := go161 fun n hn => Ev.now fun fuel => by
  unfold T161 leafSum; refine (call_step (f73 s (Nat.le_trans hz.a (by decide)) (Nat.le_trans hz.b (by decide)) n (by omega))).trans ?_
  cases hs : stateOk s with
  | false => rfl
  | true =>
    have hs' := (stateOk_iff s).1 hs
    have h5 := hs'.len
    refine (bif_ff rfl).trans ?_; refine (call_step (f90 x 0 3 n (by omega))).trans ?_
    cases hx : inB x 0 3 with
    | false => rfl
    | true =>
      refine (bif_ff rfl).trans ?_; refine (call_step (f176 s [(x, ())] (by show 1 ≤ 9223372036854775807; omega) (by omega) (by omega) hs n (by omega))).trans ?_; refine (call_step (f175 (sliceS s [(x, ())]) (hs'.slice _) n (by omega))).trans ?_; refine (call_step (f174 (bytesS (sliceS s [(x, ())])) (Nat.le_trans (bytes_len (hs'.slice _)) (by decide)) n (by omega))).trans ?_; refine (bif_neg (by decide)).trans ?_; rfl
theorem f157 (ls : List NumT) (hl : ls.length ≤ 1000) : Ran p 3 157 [.val false ⟨K60, (ls, ())⟩] ⟨[⟨K3, (rootOf ls, ())⟩], []⟩ := go157 fun n hn => by
  have lp : It (fun fuel (_ : Unit) => c157_3 (arun p n) fuel ls) ((0 : Int), ([] : List NumT)) (fun _ => oI (rootOf ls)) := by
    refine It.accu (α := NumT) [] (fun i => putNum (gt ls i).1) ls.length 5 (fun i hi => putNum_len _) (fun i hi acc ha fuel a rec => ?_) (It.stop fun fuel a rec => ?_)
    · have hb : i < 9223372036854775807 := by omega
      have ha' : acc.length + (putNum (gt ls i).1).length ≤ 0 + ls.length * 5 := ha
      show c157_3 (arun p n) fuel ls rec ((i : Int), acc) = _
      unfold c157_3; dsimp only; rw [wrap_succ hb]; refine (bif_pos (Int.ofNat_lt.2 hi)).trans ?_; refine (bif_pos (Int.natCast_nonneg _)).trans ?_; refine (at_step hi).trans ?_; refine (call_step (f173 (gt ls i).1 n (by omega))).trans ?_; refine (bif_pos (by show acc.length + (putNum (gt ls i).1).length ≤ 4294967296; omega)).trans ?_; rfl
    · have hB : (accL ls.length fun i => putNum (gt ls i).1).length ≤ ls.length * 5 := accL_len fun i hi => putNum_len _
      show c157_3 (arun p n) fuel ls rec ((ls.length : Int), accL ls.length fun i => putNum (gt ls i).1) = _
      unfold c157_3; refine (bif_neg (Int.lt_irrefl _)).trans ?_; refine (call_step (f170 (accL ls.length fun i => putNum (gt ls i).1) (by show _ ≤ 9223372036854775807; omega) n (by omega))).trans ?_; refine (bif_neg (by decide)).trans ?_; exact congrArg (fun l : List NumT => oI ((crc l).tmod 1024)) (accL_flat (fun x : NumT => putNum x.1) ls)
  exact Ev.eq (fun fuel => by unfold T157; rfl) (lp.ev (i := ()) rfl)
theorem f162 (ls : List NumT) (hl : ls.length ≤ 1000) : Ran p 3 162 [.val false ⟨K60, (ls, ())⟩] ⟨[⟨K3, (rootOf ls, ())⟩], []⟩ := go162 fun n hn => by
  have lp : It (fun fuel (_ : Unit) => c162_3 (arun p n) fuel ls) ((0 : Int), ([] : List NumT)) (fun _ => oI (rootOf ls)) := by
    refine It.accu (α := NumT) [] (fun i => putNum (gt ls i).1) ls.length 5 (fun i hi => putNum_len _) (fun i hi acc ha fuel a rec => ?_) (It.stop fun fuel a rec => ?_)
    · have hb : i < 9223372036854775807 := by omega
      have ha' : acc.length + (putNum (gt ls i).1).length ≤ 0 + ls.length * 5 := ha
      show c162_3 (arun p n) fuel ls rec ((i : Int), acc) = _
      unfold c162_3; dsimp only; rw [wrap_succ hb]; refine (bif_pos (Int.ofNat_lt.2 hi)).trans ?_; refine (bif_pos (Int.natCast_nonneg _)).trans ?_; refine (at_step hi).trans ?_; refine (call_step (f178 (gt ls i).1 n (by omega))).trans ?_
      refine (call_step (f177 [(acc, ()), (putNum (gt ls i).1, ())] 6000 (parts_ok (by
        intro r hr; simp only [List.mem_cons, List.not_mem_nil, or_false] at hr
        rcases hr with rfl | rfl
        · show acc.length ≤ 6000; omega
        · exact part_num (by decide))) (by show 2 * 6000 ≤ 4294967296; omega) (by show 2 ≤ 9223372036854775807; omega) n (by omega))).trans ?_
      exact congrArg (fun l : List NumT => rec (((i + 1 : Nat) : Int), l)) (by simp : List.flatMap (fun r : RowT => r.1) [(acc, ()), (putNum (gt ls i).1, ())] = acc ++ putNum (gt ls i).1)
    · have hB : (accL ls.length fun i => putNum (gt ls i).1).length ≤ ls.length * 5 := accL_len fun i hi => putNum_len _
      show c162_3 (arun p n) fuel ls rec ((ls.length : Int), accL ls.length fun i => putNum (gt ls i).1) = _
      unfold c162_3; refine (bif_neg (Int.lt_irrefl _)).trans ?_; refine (call_step (f174 (accL ls.length fun i => putNum (gt ls i).1) (by show _ ≤ 9223372036854775807; omega) n (by omega))).trans ?_; refine (bif_neg (by decide)).trans ?_; exact congrArg (fun l : List NumT => oI ((crc l).tmod 1024)) (accL_flat (fun x : NumT => putNum x.1) ls)
  exact Ev.eq (fun fuel => by unfold T162; rfl) (lp.ev (i := ()) rfl)
theorem f123 (s : StateT) (hz : SzS s) : Ran p 6 123 [.val true ⟨K48, s⟩] ⟨[⟨K62, treeOf s⟩], []⟩ := go123 fun n hn => by
  cases hs : stateOk s with
  | false =>
    refine Ev.now fun fuel => ?_
    unfold T123 treeOf; refine (call_step (f68 s (Nat.le_trans hz.a (by decide)) (Nat.le_trans hz.b (by decide)) n (by omega))).trans ?_; rw [hs]; rfl
  | true =>
    have lp : It (fun fuel (_ : Unit) => c123_5 (arun p n) fuel s) ((0 : Int), ([] : List NumT)) (fun _ => some ⟨[⟨K62, (leavesOf4 s, rootOf (leavesOf4 s), ())⟩], []⟩) := by
      refine It.accu (α := NumT) [] (fun i => [(leafSum s (i : Int), ())]) 4 1 (fun i hi => Nat.le_refl 1) (fun i hi acc ha fuel a rec => ?_) (It.stop fun fuel a rec => ?_)
      · have hb : i < 9223372036854775807 := by omega
        have ha' : acc.length + 1 ≤ 0 + 4 * 1 := ha
        show c123_5 (arun p n) fuel s rec ((i : Int), acc) = _
        unfold c123_5; dsimp only; rw [wrap_succ hb]; refine (bif_pos (by show (i : Int) < 4; omega)).trans ?_; refine (call_step (f156 s (i : Int) hz n (by omega))).trans ?_; refine (bif_pos (by show acc.length + 1 ≤ 4294967296; omega)).trans ?_; rfl
      · show c123_5 (arun p n) fuel s rec (((4 : Nat) : Int), leavesOf4 s) = _
        unfold c123_5; refine (bif_neg (by show ¬ ((4 : Int) < 4); decide)).trans ?_; refine (call_step (f157 (leavesOf4 s) (by show 4 ≤ 1000; omega) n (by omega))).trans ?_; rfl
    have e : treeOf s = (leavesOf4 s, rootOf (leavesOf4 s), ()) := by unfold treeOf; rw [hs]; rfl
    rw [e]
    exact Ev.eq (fun fuel => by unfold T123; refine (call_step (f68 s (Nat.le_trans hz.a (by decide)) (Nat.le_trans hz.b (by decide)) n (by omega))).trans ?_; rw [hs]; rfl) (lp.ev (i := ()) rfl)
theorem f135 (s : StateT) (hz : SzS s) : Ran p 6 135 [.val true ⟨K48, s⟩] ⟨[⟨K62, treeOf s⟩], []⟩ := go135 fun n hn => by
  cases hs : stateOk s with
  | false =>
    refine Ev.now fun fuel => ?_
    unfold T135 treeOf; refine (call_step (f73 s (Nat.le_trans hz.a (by decide)) (Nat.le_trans hz.b (by decide)) n (by omega))).trans ?_; rw [hs]; rfl
  | true =>
    have lp : It (fun fuel (_ : Unit) => c135_5 (arun p n) fuel s) ((0 : Int), ([] : List NumT)) (fun _ => some ⟨[⟨K62, (leavesOf4 s, rootOf (leavesOf4 s), ())⟩], []⟩) := by
      refine It.accu (α := NumT) [] (fun i => [(leafSum s (i : Int), ())]) 4 1 (fun i hi => Nat.le_refl 1) (fun i hi acc ha fuel a rec => ?_) (It.stop fun fuel a rec => ?_)
      · have hb : i < 9223372036854775807 := by omega
        have ha' : acc.length + 1 ≤ 0 + 4 * 1 := ha
        show c135_5 (arun p n) fuel s rec ((i : Int), acc) = _
        unfold c135_5; dsimp only; rw [wrap_succ hb]; refine (bif_pos (by show (i : Int) < 4; omega)).trans ?_; refine (call_step (f161 s (i : Int) hz n (by omega))).trans ?_; refine (bif_pos (by show acc.length + 1 ≤ 4294967296; omega)).trans ?_; rfl
      · show c135_5 (arun p n) fuel s rec (((4 : Nat) : Int), leavesOf4 s) = _
        unfold c135_5; refine (bif_neg (by show ¬ ((4 : Int) < 4); decide)).trans ?_; refine (call_step (f162 (leavesOf4 s) (by show 4 ≤ 1000; omega) n (by omega))).trans ?_; rfl
    have e : treeOf s = (leavesOf4 s, rootOf (leavesOf4 s), ()) := by unfold treeOf; rw [hs]; rfl
    rw [e]
    exact Ev.eq (fun fuel => by unfold T135; refine (call_step (f73 s (Nat.le_trans hz.a (by decide)) (Nat.le_trans hz.b (by decide)) n (by omega))).trans ?_; rw [hs]; rfl) (lp.ev (i := ()) rfl)
end Go.Abs.Vz
