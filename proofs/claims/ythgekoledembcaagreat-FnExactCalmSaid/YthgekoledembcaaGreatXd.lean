/- What the functions of this program answer, part d. -/
import Derived.Test.YthgekoledembcaaGreatXc
import Derived.Test.YthgekoledembcaaGreatW2
set_option linter.unusedVariables false
namespace Go.Abs.Gz
open Go Go.Abs
abbrev oL (l : List NumT) : Option Out := some ⟨[⟨K106, (l, ())⟩], []⟩
theorem len1000 {k : Nat} (h : k ≤ 5) : k ≤ maxLen := by show k ≤ 9223372036854775807; omega
theorem f182 (s : StateT) (hs : StateOk s) : Ran p 4 182 [.val true ⟨K49, s⟩] ⟨[⟨K106, (bytesS s, ())⟩], []⟩ := go182 fun n hn => by
 have h5 := hs.len
 have fl : ∀ pre : List NumT, pre.length ≤ 1000 → It (fun fuel (_ : Unit) => c182_14 (arun p n) fuel s) ((0 : Int), pre) (fun _ => oL (pre ++ s.2.1.flatMap floorBytes)) := by
  intro pre hp
  refine It.accu (α := NumT) pre (fun i => floorBytes (gt s.2.1 i)) s.2.1.length 10 (fun i hi => floorBytes_len _) (fun i hi acc ha fuel a rec => ?_) (It.stop fun fuel a rec => ?_)
  ·have hb : i < 9223372036854775807 := by omega
   have ha' : acc.length + (floorBytes (gt s.2.1 i)).length ≤ 1050 := by omega
   unfold floorBytes at ha'; rw [List.length_append] at ha'
   show c182_14 (arun p n) fuel s rec ((i : Int), acc) = _
   unfold c182_14; dsimp only; rw [wrap_succ hb]; refine (bif_pos (Int.ofNat_lt.2 hi)).trans ?_; refine (bif_pos (Int.natCast_nonneg _)).trans ?_; refine (at_step hi).trans ?_; refine (call_step (f184 (gt s.2.1 i).1 n (by omega))).trans ?_; refine (bif_pos (by show acc.length + (putNum (gt s.2.1 i).1).length ≤ 4294967296; omega)).trans ?_; refine (bif_pos (Int.natCast_nonneg _)).trans ?_; refine (at_step hi).trans ?_; refine (call_step (f184 (gt s.2.1 i).2.1 n (by omega))).trans ?_
   refine (bif_pos (by show (acc ++ putNum (gt s.2.1 i).1).length + (putNum (gt s.2.1 i).2.1).length ≤ 4294967296; rw [List.length_append]; omega)).trans ?_
   exact congrArg (fun l : List NumT => rec (((i + 1 : Nat) : Int), l)) (List.append_assoc _ _ _)
  ·show c182_14 (arun p n) fuel s rec ((s.2.1.length : Int), pre ++ accL s.2.1.length fun i => floorBytes (gt s.2.1 i)) = _
   unfold c182_14; refine (bif_neg (Int.lt_irrefl _)).trans ?_; exact congrArg (fun l : List NumT => oL (pre ++ l)) (accL_flat floorBytes s.2.1)
 have it : ∀ (i : Nat) (hi : i < s.1.length) (acc : List NumT), acc.length ≤ 1000 → It (fun fuel rec3 => c182_8 (arun p n) fuel s (gt (α := ItemT) s.1 i) (gt (α := ItemT) s.1 i) (i : Int) rec3) ((0 : Int), acc) (fun rec3 => rec3 (((i + 1 : Nat) : Int), acc ++ itemBytes (gt s.1 i))) := by
  intro i hi acc ha
  have hb : i < 9223372036854775807 := by omega
  refine It.accu (α := NumT) acc (fun k => putNum (gt (five (gt s.1 i)) k).1) 5 5 (fun k hk => putNum_len _) (fun k hk acc' ha' fuel rec3 rec => ?_) (It.stop fun fuel rec3 rec => ?_)
  ·have hk' : k < (five (gt s.1 i)).length := hk
   have hkb : k < 9223372036854775807 := by omega
   show c182_8 (arun p n) fuel s (gt (α := ItemT) s.1 i) (gt (α := ItemT) s.1 i) (i : Int) rec3 rec ((k : Int), acc') = _
   unfold c182_8; dsimp only; rw [wrap_succ hkb]; refine (bif_pos (Int.ofNat_lt.2 hk')).trans ?_; refine (bif_pos (Int.natCast_nonneg _)).trans ?_; refine (at_step hk').trans ?_; refine (at_step hk').trans ?_; refine (call_step (f184 (gt (five (gt s.1 i)) k).1 n (by omega))).trans ?_
   refine (bif_pos (by show acc'.length + (putNum (gt (five (gt s.1 i)) k).1).length ≤ 4294967296; replace ha' : acc'.length + (putNum (gt (five (gt s.1 i)) k).1).length ≤ acc.length + 5 * 5 := ha'; omega)).trans ?_; rfl
  ·show c182_8 (arun p n) fuel s (gt (α := ItemT) s.1 i) (gt (α := ItemT) s.1 i) (i : Int) rec3 rec (((5 : Nat) : Int), acc ++ accL 5 fun k => putNum (gt (five (gt s.1 i)) k).1) = _
   have hz := hs.size (gt_mem hi)
   have h1 : (accL 5 fun k => putNum (gt (five (gt s.1 i)) k).1).length ≤ 5 * 5 := accL_len fun k hk => putNum_len _
   have h2 := putText_len (gt s.1 i).2.2.2.2.2.1
   unfold c182_8; dsimp only; rw [wrap_succ hb]; refine (bif_neg (by show ¬ ((5 : Int) < 5); decide)).trans ?_; refine (call_step (f203 (gt s.1 i).2.2.2.2.2.1 (by omega) n (by omega))).trans ?_
   refine (bif_pos (by show (acc ++ accL 5 fun k => putNum (gt (five (gt s.1 i)) k).1).length + (putText (gt s.1 i).2.2.2.2.2.1).length ≤ 4294967296; rw [List.length_append]; omega)).trans ?_
   exact congrArg (fun l : List NumT => rec3 (((i + 1 : Nat) : Int), l)) (five_acc (gt s.1 i) acc)
 have n1 := putNum_len ((s.1.length : Nat) : Int)
 have n2 := putNum_len ((s.2.1.length : Nat) : Int)
 have hB : ((putNum ((s.1.length : Nat) : Int) ++ accL s.1.length fun i => itemBytes (gt s.1 i))).length ≤ 5 + 5 * 38 := by
  have : (accL s.1.length fun i => itemBytes (gt s.1 i)).length ≤ s.1.length * 38 := accL_len fun i hi => itemBytes_len (hs.item _ (gt_mem hi)).2.1
  rw [List.length_append]; omega
 have outer : It (fun fuel (_ : Unit) => c182_3 (arun p n) fuel s) ((0 : Int), putNum ((s.1.length : Nat) : Int)) (fun _ => oL (bytesS s)) := by
  refine It.accuE (α := NumT) (putNum ((s.1.length : Nat) : Int)) (fun i => itemBytes (gt s.1 i)) s.1.length 38 (fun i hi => itemBytes_len (hs.item _ (gt_mem hi)).2.1) (fun i hi acc ha => ?_)
   (It.stopE (T := fun fuel _ => iter (c182_14 (arun p n) fuel s) fuel ((0 : Int), (putNum ((s.1.length : Nat) : Int) ++ accL s.1.length fun i => itemBytes (gt s.1 i)) ++ putNum ((s.2.1.length : Nat) : Int))) (fun fuel a rec => ?_) ?_)
  ·obtain ⟨N, hN⟩ := (it i hi acc (by omega)).all_i
   refine ⟨N, fun fuel hf a rec => ?_⟩
   show c182_3 (arun p n) fuel s rec ((i : Int), acc) = _
   unfold c182_3; refine (bif_pos (Int.ofNat_lt.2 hi)).trans ?_; refine (bif_pos (Int.natCast_nonneg _)).trans ?_; refine (at_step hi).trans ?_; refine (bif_pos (Int.natCast_nonneg _)).trans ?_; refine (at_step hi).trans ?_; exact hN fuel hf rec
  ·show c182_3 (arun p n) fuel s rec ((s.1.length : Int), putNum ((s.1.length : Nat) : Int) ++ accL s.1.length fun i => itemBytes (gt s.1 i)) = _
   unfold c182_3; refine (bif_neg (Int.lt_irrefl _)).trans ?_; refine (call_step (f184 ((s.2.1.length : Nat) : Int) n (by omega))).trans ?_; exact bif_pos (by show (putNum ((s.1.length : Nat) : Int) ++ accL s.1.length fun i => itemBytes (gt s.1 i)).length + (putNum ((s.2.1.length : Nat) : Int)).length ≤ 4294967296; omega)
  ·have := (fl ((putNum ((s.1.length : Nat) : Int) ++ accL s.1.length fun i => itemBytes (gt s.1 i)) ++ putNum ((s.2.1.length : Nat) : Int)) (by rw [List.length_append]; omega)).all_i
   rw [accL_flat itemBytes s.1] at this ⊢
   exact this
 exact Ev.eq (fun fuel => by unfold T182; refine (call_step (f184 ((s.1.length : Nat) : Int) n (by omega))).trans ?_; rfl) (outer.ev (i := ()) rfl)

theorem part_num {x : Int} {L : Nat} (h : 5 ≤ L) : (putNum x).length ≤ L := Nat.le_trans (putNum_len x) h
theorem f187 (s : StateT) (hs : StateOk s) : Ran p 4 187 [.val true ⟨K49, s⟩] ⟨[⟨K106, (bytesS s, ())⟩], []⟩ := go187 fun n hn => by
 have h5 := hs.len
 have fl : ∀ pre : List NumT, pre.length ≤ 1000 → It (fun fuel (_ : Unit) => c187_12 (arun p n) fuel s) ((0 : Int), pre) (fun _ => oL (pre ++ s.2.1.flatMap floorBytes)) := by
  intro pre hp
  refine It.accu (α := NumT) pre (fun i => floorBytes (gt s.2.1 i)) s.2.1.length 10 (fun i hi => floorBytes_len _) (fun i hi acc ha fuel a rec => ?_) (It.stop fun fuel a rec => ?_)
  ·have hb : i < 9223372036854775807 := by omega
   show c187_12 (arun p n) fuel s rec ((i : Int), acc) = _
   unfold c187_12; dsimp only; rw [wrap_succ hb]; refine (bif_pos (Int.ofNat_lt.2 hi)).trans ?_; refine (bif_pos (Int.natCast_nonneg _)).trans ?_; refine (at_step hi).trans ?_; refine (call_step (f189 (gt s.2.1 i).1 n (by omega))).trans ?_; refine (call_step (f189 (gt s.2.1 i).2.1 n (by omega))).trans ?_
   refine (call_step (f180 [(acc, ()), (putNum (gt s.2.1 i).1, ()), (putNum (gt s.2.1 i).2.1, ())] 2000 (parts_ok (by
    intro r hr; simp only [List.mem_cons, List.not_mem_nil, or_false] at hr
    rcases hr with rfl | rfl | rfl
    ·show acc.length ≤ 2000; omega
    ·exact part_num (by decide)
    ·exact part_num (by decide))) (by show 3 * 2000 ≤ 4294967296; omega) (by show 3 ≤ 9223372036854775807; omega) n (by omega))).trans ?_
   exact congrArg (fun l : List NumT => rec (((i + 1 : Nat) : Int), l)) (by simp [floorBytes] : List.flatMap (fun r : RowT => r.1) [(acc, ()), (putNum (gt s.2.1 i).1, ()), (putNum (gt s.2.1 i).2.1, ())] = acc ++ floorBytes (gt s.2.1 i))
  ·show c187_12 (arun p n) fuel s rec ((s.2.1.length : Int), pre ++ accL s.2.1.length fun i => floorBytes (gt s.2.1 i)) = _
   unfold c187_12; refine (bif_neg (Int.lt_irrefl _)).trans ?_; exact congrArg (fun l : List NumT => oL (pre ++ l)) (accL_flat floorBytes s.2.1)
 have n1 := putNum_len ((s.1.length : Nat) : Int)
 have n2 := putNum_len ((s.2.1.length : Nat) : Int)
 have hB : (accL s.1.length fun i => itemBytes (gt s.1 i)).length ≤ 190 := by
  have : (accL s.1.length fun i => itemBytes (gt s.1 i)).length ≤ s.1.length * 38 := accL_len fun i hi => itemBytes_len (hs.item _ (gt_mem hi)).2.1
  omega
 have outer : It (fun fuel (_ : Unit) => c187_5 (arun p n) fuel s) ((0 : Int), putNum ((s.1.length : Nat) : Int)) (fun _ => oL (bytesS s)) := by
  refine It.accu (α := NumT) (putNum ((s.1.length : Nat) : Int)) (fun i => itemBytes (gt s.1 i)) s.1.length 38 (fun i hi => itemBytes_len (hs.item _ (gt_mem hi)).2.1) (fun i hi acc ha fuel a rec => ?_)
   (It.stopE (T := fun fuel _ => iter (c187_12 (arun p n) fuel s) fuel ((0 : Int), (putNum ((s.1.length : Nat) : Int) ++ accL s.1.length fun i => itemBytes (gt s.1 i)) ++ putNum ((s.2.1.length : Nat) : Int))) (fun fuel a rec => ?_) ?_)
  ·have hb : i < 9223372036854775807 := by omega
   have hz := hs.size (gt_mem hi)
   have ht := putText_len (gt s.1 i).2.2.2.2.2.1
   show c187_5 (arun p n) fuel s rec ((i : Int), acc) = _
   unfold c187_5; dsimp only; rw [wrap_succ hb]; refine (bif_pos (Int.ofNat_lt.2 hi)).trans ?_; refine (bif_pos (Int.natCast_nonneg _)).trans ?_; refine (at_step hi).trans ?_; refine (call_step (f189 (gt s.1 i).1 n (by omega))).trans ?_; refine (call_step (f189 (gt s.1 i).2.1 n (by omega))).trans ?_; refine (call_step (f189 (gt s.1 i).2.2.1 n (by omega))).trans ?_; refine (call_step (f189 (gt s.1 i).2.2.2.1 n (by omega))).trans ?_; refine (call_step (f189 (gt s.1 i).2.2.2.2.1 n (by omega))).trans ?_; refine (call_step (f206 (gt s.1 i).2.2.2.2.2.1 (by omega) n (by omega))).trans ?_
   refine (call_step (f180 [(acc, ()), (putNum (gt s.1 i).1, ()), (putNum (gt s.1 i).2.1, ()), (putNum (gt s.1 i).2.2.1, ()), (putNum (gt s.1 i).2.2.2.1, ()), (putNum (gt s.1 i).2.2.2.2.1, ()), (putText (gt s.1 i).2.2.2.2.2.1, ())] 2000 (parts_ok (by
    intro r hr; simp only [List.mem_cons, List.not_mem_nil, or_false] at hr
    rcases hr with rfl | rfl | rfl | rfl | rfl | rfl | rfl
    ·show acc.length ≤ 2000; omega
    ·exact part_num (by decide)
    ·exact part_num (by decide)
    ·exact part_num (by decide)
    ·exact part_num (by decide)
    ·exact part_num (by decide)
    ·show (putText (gt s.1 i).2.2.2.2.2.1).length ≤ 2000; omega)) (by show 7 * 2000 ≤ 4294967296; omega) (by show 7 ≤ 9223372036854775807; omega) n (by omega))).trans ?_
   exact congrArg (fun l : List NumT => rec (((i + 1 : Nat) : Int), l)) (by simp [itemBytes] : List.flatMap (fun r : RowT => r.1) [(acc, ()), (putNum (gt s.1 i).1, ()), (putNum (gt s.1 i).2.1, ()), (putNum (gt s.1 i).2.2.1, ()), (putNum (gt s.1 i).2.2.2.1, ()), (putNum (gt s.1 i).2.2.2.2.1, ()), (putText (gt s.1 i).2.2.2.2.2.1, ())] = acc ++ itemBytes (gt s.1 i))
  ·show c187_5 (arun p n) fuel s rec ((s.1.length : Int), putNum ((s.1.length : Nat) : Int) ++ accL s.1.length fun i => itemBytes (gt s.1 i)) = _
   unfold c187_5; refine (bif_neg (Int.lt_irrefl _)).trans ?_; refine (call_step (f189 ((s.2.1.length : Nat) : Int) n (by omega))).trans ?_
   refine (call_step (f180 [(putNum ((s.1.length : Nat) : Int) ++ accL s.1.length fun i => itemBytes (gt s.1 i), ()), (putNum ((s.2.1.length : Nat) : Int), ())] 2000 (parts_ok (by
    intro r hr; simp only [List.mem_cons, List.not_mem_nil, or_false] at hr
    rcases hr with rfl | rfl
    ·show (putNum ((s.1.length : Nat) : Int) ++ accL s.1.length fun i => itemBytes (gt s.1 i)).length ≤ 2000; rw [List.length_append]; omega
    ·exact part_num (by decide))) (by show 2 * 2000 ≤ 4294967296; omega) (by show 2 ≤ 9223372036854775807; omega) n (by omega))).trans ?_
   exact congrArg (fun l : List NumT => iter (c187_12 (arun p n) fuel s) fuel ((0 : Int), l)) (by simp : List.flatMap (fun r : RowT => r.1) [(putNum ((s.1.length : Nat) : Int) ++ accL s.1.length fun i => itemBytes (gt s.1 i), ()), (putNum ((s.2.1.length : Nat) : Int), ())] = (putNum ((s.1.length : Nat) : Int) ++ accL s.1.length fun i => itemBytes (gt s.1 i)) ++ putNum ((s.2.1.length : Nat) : Int))
  ·have := (fl ((putNum ((s.1.length : Nat) : Int) ++ accL s.1.length fun i => itemBytes (gt s.1 i)) ++ putNum ((s.2.1.length : Nat) : Int)) (by rw [List.length_append, List.length_append]; omega)).all_i
   rw [accL_flat itemBytes s.1] at this ⊢
   exact this
 exact Ev.eq (fun fuel => by unfold T187; refine (call_step (f60 s (len1000 h5.1) (len1000 h5.2) n (by omega))).trans ?_; rw [(stateOk_iff s).2 hs]; refine (bif_ff rfl).trans ?_; refine (call_step (f189 ((s.1.length : Nat) : Int) n (by omega))).trans ?_; rfl) (outer.ev (i := ()) rfl)
theorem f128 (s : StateT) (x : Int) (hz : SzS s) : Ran p 5 128 [.val true ⟨K49, s⟩, .val false ⟨K3, (x, ())⟩] ⟨[⟨K3, (leafSum s x, ())⟩], []⟩ := go128 fun n hn => Ev.now fun fuel => by
 unfold T128 leafSum; refine (call_step (f53 s (Nat.le_trans hz.a (by decide)) (Nat.le_trans hz.b (by decide)) n (by omega))).trans ?_
 cases hs : stateOk s with
 | false => rfl
 | true =>
  have hs' := (stateOk_iff s).1 hs
  have h5 := hs'.len
  refine (bif_ff rfl).trans ?_; refine (call_step (f70 x 0 3 n (by omega))).trans ?_
  cases hx : inB x 0 3 with
  | false => rfl
  | true =>
   refine (bif_ff rfl).trans ?_; refine (call_step (f183 s [(x, ())] (by show 1 ≤ 9223372036854775807; omega) (by omega) (by omega) n (by omega))).trans ?_; refine (call_step (f182 (sliceS s [(x, ())]) (hs'.slice _) n (by omega))).trans ?_; refine (call_step (f181 (bytesS (sliceS s [(x, ())])) (Nat.le_trans (bytes_len (hs'.slice _)) (by decide)) n (by omega))).trans ?_; refine (bif_neg (by decide)).trans ?_; rfl
theorem f136 (s : StateT) (x : Int) (hz : SzS s) : Ran p 5 136 [.val true ⟨K49, s⟩, .val false ⟨K3, (x, ())⟩] ⟨[⟨K3, (leafSum s x, ())⟩], []⟩ := go136 fun n hn => Ev.now fun fuel => by
 unfold T136 leafSum; refine (call_step (f60 s (Nat.le_trans hz.a (by decide)) (Nat.le_trans hz.b (by decide)) n (by omega))).trans ?_
 cases hs : stateOk s with
 | false => rfl
 | true =>
  have hs' := (stateOk_iff s).1 hs
  have h5 := hs'.len
  refine (bif_ff rfl).trans ?_; refine (call_step (f71 x 0 3 n (by omega))).trans ?_
  cases hx : inB x 0 3 with
  | false => rfl
  | true =>
   refine (bif_ff rfl).trans ?_; refine (call_step (f188 s [(x, ())] (by show 1 ≤ 9223372036854775807; omega) (by omega) (by omega) hs n (by omega))).trans ?_; refine (call_step (f187 (sliceS s [(x, ())]) (hs'.slice _) n (by omega))).trans ?_; refine (call_step (f186 (bytesS (sliceS s [(x, ())])) (Nat.le_trans (bytes_len (hs'.slice _)) (by decide)) n (by omega))).trans ?_; refine (bif_neg (by decide)).trans ?_; rfl
theorem f129 (ls : List NumT) (hl : ls.length ≤ 1000) : Ran p 3 129 [.val false ⟨K43, (ls, ())⟩] ⟨[⟨K3, (rootOf ls, ())⟩], []⟩ := go129 fun n hn => by
 have lp : It (fun fuel (_ : Unit) => c129_3 (arun p n) fuel ls) ((0 : Int), ([] : List NumT)) (fun _ => oI (rootOf ls)) := by
  refine It.accu (α := NumT) [] (fun i => putNum (gt ls i).1) ls.length 5 (fun i hi => putNum_len _) (fun i hi acc ha fuel a rec => ?_) (It.stop fun fuel a rec => ?_)
  ·have hb : i < 9223372036854775807 := by omega
   have ha' : acc.length + (putNum (gt ls i).1).length ≤ 0 + ls.length * 5 := ha
   show c129_3 (arun p n) fuel ls rec ((i : Int), acc) = _
   unfold c129_3; dsimp only; rw [wrap_succ hb]; refine (bif_pos (Int.ofNat_lt.2 hi)).trans ?_; refine (bif_pos (Int.natCast_nonneg _)).trans ?_; refine (at_step hi).trans ?_; refine (call_step (f184 (gt ls i).1 n (by omega))).trans ?_; refine (bif_pos (by show acc.length + (putNum (gt ls i).1).length ≤ 4294967296; omega)).trans ?_; rfl
  ·have hB : (accL ls.length fun i => putNum (gt ls i).1).length ≤ ls.length * 5 := accL_len fun i hi => putNum_len _
   show c129_3 (arun p n) fuel ls rec ((ls.length : Int), accL ls.length fun i => putNum (gt ls i).1) = _
   unfold c129_3; refine (bif_neg (Int.lt_irrefl _)).trans ?_; refine (call_step (f181 (accL ls.length fun i => putNum (gt ls i).1) (by show _ ≤ 9223372036854775807; omega) n (by omega))).trans ?_; refine (bif_neg (by decide)).trans ?_; exact congrArg (fun l : List NumT => oI ((crc l).tmod 1024)) (accL_flat (fun x : NumT => putNum x.1) ls)
 exact Ev.eq (fun fuel => by unfold T129; rfl) (lp.ev (i := ()) rfl)
theorem f137 (ls : List NumT) (hl : ls.length ≤ 1000) : Ran p 3 137 [.val false ⟨K43, (ls, ())⟩] ⟨[⟨K3, (rootOf ls, ())⟩], []⟩ := go137 fun n hn => by
 have lp : It (fun fuel (_ : Unit) => c137_3 (arun p n) fuel ls) ((0 : Int), ([] : List NumT)) (fun _ => oI (rootOf ls)) := by
  refine It.accu (α := NumT) [] (fun i => putNum (gt ls i).1) ls.length 5 (fun i hi => putNum_len _) (fun i hi acc ha fuel a rec => ?_) (It.stop fun fuel a rec => ?_)
  ·have hb : i < 9223372036854775807 := by omega
   have ha' : acc.length + (putNum (gt ls i).1).length ≤ 0 + ls.length * 5 := ha
   show c137_3 (arun p n) fuel ls rec ((i : Int), acc) = _
   unfold c137_3; dsimp only; rw [wrap_succ hb]; refine (bif_pos (Int.ofNat_lt.2 hi)).trans ?_; refine (bif_pos (Int.natCast_nonneg _)).trans ?_; refine (at_step hi).trans ?_; refine (call_step (f189 (gt ls i).1 n (by omega))).trans ?_
   refine (call_step (f180 [(acc, ()), (putNum (gt ls i).1, ())] 6000 (parts_ok (by
    intro r hr; simp only [List.mem_cons, List.not_mem_nil, or_false] at hr
    rcases hr with rfl | rfl
    ·show acc.length ≤ 6000; omega
    ·exact part_num (by decide))) (by show 2 * 6000 ≤ 4294967296; omega) (by show 2 ≤ 9223372036854775807; omega) n (by omega))).trans ?_
   exact congrArg (fun l : List NumT => rec (((i + 1 : Nat) : Int), l)) (by simp : List.flatMap (fun r : RowT => r.1) [(acc, ()), (putNum (gt ls i).1, ())] = acc ++ putNum (gt ls i).1)
  ·have hB : (accL ls.length fun i => putNum (gt ls i).1).length ≤ ls.length * 5 := accL_len fun i hi => putNum_len _
   show c137_3 (arun p n) fuel ls rec ((ls.length : Int), accL ls.length fun i => putNum (gt ls i).1) = _
   unfold c137_3; refine (bif_neg (Int.lt_irrefl _)).trans ?_; refine (call_step (f186 (accL ls.length fun i => putNum (gt ls i).1) (by show _ ≤ 9223372036854775807; omega) n (by omega))).trans ?_; refine (bif_neg (by decide)).trans ?_; exact congrArg (fun l : List NumT => oI ((crc l).tmod 1024)) (accL_flat (fun x : NumT => putNum x.1) ls)
 exact Ev.eq (fun fuel => by unfold T137; rfl) (lp.ev (i := ()) rfl)
theorem f76 (s : StateT) (hz : SzS s) : Ran p 6 76 [.val true ⟨K49, s⟩] ⟨[⟨K65, treeOf s⟩], []⟩ := go76 fun n hn => by
 cases hs : stateOk s with
 | false =>
  refine Ev.now fun fuel => ?_
  unfold T76 treeOf; refine (call_step (f53 s (Nat.le_trans hz.a (by decide)) (Nat.le_trans hz.b (by decide)) n (by omega))).trans ?_; rw [hs]; rfl
 | true =>
  have lp : It (fun fuel (_ : Unit) => c76_5 (arun p n) fuel s) ((0 : Int), ([] : List NumT)) (fun _ => some ⟨[⟨K65, (leavesOf4 s, rootOf (leavesOf4 s), ())⟩], []⟩) := by
   refine It.accu (α := NumT) [] (fun i => [(leafSum s (i : Int), ())]) 4 1 (fun i hi => Nat.le_refl 1) (fun i hi acc ha fuel a rec => ?_) (It.stop fun fuel a rec => ?_)
   ·have hb : i < 9223372036854775807 := by omega
    have ha' : acc.length + 1 ≤ 0 + 4 * 1 := ha
    show c76_5 (arun p n) fuel s rec ((i : Int), acc) = _
    unfold c76_5; dsimp only; rw [wrap_succ hb]; refine (bif_pos (by show (i : Int) < 4; omega)).trans ?_; refine (call_step (f128 s (i : Int) hz n (by omega))).trans ?_; refine (bif_pos (by show acc.length + 1 ≤ 4294967296; omega)).trans ?_; rfl
   ·show c76_5 (arun p n) fuel s rec (((4 : Nat) : Int), leavesOf4 s) = _
    unfold c76_5; refine (bif_neg (by show ¬ ((4 : Int) < 4); decide)).trans ?_; refine (call_step (f129 (leavesOf4 s) (by show 4 ≤ 1000; omega) n (by omega))).trans ?_; rfl
  have e : treeOf s = (leavesOf4 s, rootOf (leavesOf4 s), ()) := by unfold treeOf; rw [hs]; rfl
  rw [e]
  exact Ev.eq (fun fuel => by unfold T76; refine (call_step (f53 s (Nat.le_trans hz.a (by decide)) (Nat.le_trans hz.b (by decide)) n (by omega))).trans ?_; rw [hs]; rfl) (lp.ev (i := ()) rfl)
theorem f79 (s : StateT) (hz : SzS s) : Ran p 6 79 [.val true ⟨K49, s⟩] ⟨[⟨K65, treeOf s⟩], []⟩ := go79 fun n hn => by
 cases hs : stateOk s with
 | false =>
  refine Ev.now fun fuel => ?_
  unfold T79 treeOf; refine (call_step (f60 s (Nat.le_trans hz.a (by decide)) (Nat.le_trans hz.b (by decide)) n (by omega))).trans ?_; rw [hs]; rfl
 | true =>
  have lp : It (fun fuel (_ : Unit) => c79_5 (arun p n) fuel s) ((0 : Int), ([] : List NumT)) (fun _ => some ⟨[⟨K65, (leavesOf4 s, rootOf (leavesOf4 s), ())⟩], []⟩) := by
   refine It.accu (α := NumT) [] (fun i => [(leafSum s (i : Int), ())]) 4 1 (fun i hi => Nat.le_refl 1) (fun i hi acc ha fuel a rec => ?_) (It.stop fun fuel a rec => ?_)
   ·have hb : i < 9223372036854775807 := by omega
    have ha' : acc.length + 1 ≤ 0 + 4 * 1 := ha
    show c79_5 (arun p n) fuel s rec ((i : Int), acc) = _
    unfold c79_5; dsimp only; rw [wrap_succ hb]; refine (bif_pos (by show (i : Int) < 4; omega)).trans ?_; refine (call_step (f136 s (i : Int) hz n (by omega))).trans ?_; refine (bif_pos (by show acc.length + 1 ≤ 4294967296; omega)).trans ?_; rfl
   ·show c79_5 (arun p n) fuel s rec (((4 : Nat) : Int), leavesOf4 s) = _
    unfold c79_5; refine (bif_neg (by show ¬ ((4 : Int) < 4); decide)).trans ?_; refine (call_step (f137 (leavesOf4 s) (by show 4 ≤ 1000; omega) n (by omega))).trans ?_; rfl
  have e : treeOf s = (leavesOf4 s, rootOf (leavesOf4 s), ()) := by unfold treeOf; rw [hs]; rfl
  rw [e]
  exact Ev.eq (fun fuel => by unfold T79; refine (call_step (f60 s (Nat.le_trans hz.a (by decide)) (Nat.le_trans hz.b (by decide)) n (by omega))).trans ?_; rw [hs]; rfl) (lp.ev (i := ()) rfl)
end Go.Abs.Gz
