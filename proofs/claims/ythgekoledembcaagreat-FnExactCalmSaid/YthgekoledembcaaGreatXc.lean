/- What the functions of this program answer, part c. -/
import Derived.Test.YthgekoledembcaaGreatXb
import Derived.Test.YthgekoledembcaaGreatW2
set_option linter.unusedVariables false
namespace Go.Abs.Gz
open Go Go.Abs
theorem f185 (a b : List NumT) (ha : a.length ≤ maxLen) : Ran p 1 185 [.val false ⟨K43, (a, ())⟩, .val false ⟨K43, (b, ())⟩] ⟨[⟨K4, (sameN a b, ())⟩], []⟩ := go185 fun n hn => by
 by_cases he : a.length = b.length
 ·have e : (((a.length : Nat) : Int) != ((b.length : Nat) : Int)) = false := by simp [he]
  have e2 : sameN a b = allI a.length (fun i => (gt a i).1 == (gt b i).1) := by unfold sameN; rw [he]; simp
  rw [e2]
  have lp : It (fun fuel (_ : Unit) => c185_4 (arun p n) fuel a b) (0 : Int) (fun _ => oB (allI a.length (fun i => (gt a i).1 == (gt b i).1))) := by
   refine it_and_true (It.allB a.length _ true (fun i hi fuel a' rec => ?_) (It.stop fun fuel a' rec => ?_))
   ·have hb : i < 9223372036854775807 := Nat.lt_of_lt_of_le hi ha
    show c185_4 (arun p n) fuel a b rec (i : Int) = _
    unfold c185_4; rw [wrap_succ hb]; refine (bif_pos (Int.ofNat_lt.2 hi)).trans ?_; refine (bif_pos (Int.natCast_nonneg _)).trans ?_; refine (at_step hi).trans ?_; refine (bif_pos (Int.natCast_nonneg _)).trans ?_; refine (at_step (show i < b.length from he ▸ hi)).trans ?_; exact fin
   ·show c185_4 (arun p n) fuel a b rec (a.length : Int) = _
    unfold c185_4; refine (bif_neg (Int.lt_irrefl _)).trans ?_; rfl
  exact Ev.eq (fun fuel => by unfold T185; exact bif_ff e) (lp.ev (i := ()) rfl)
 ·have e : (((a.length : Nat) : Int) != ((b.length : Nat) : Int)) = true := by simp; omega
  have e2 : sameN a b = false := by unfold sameN; rw [show (((a.length : Nat) : Int) == ((b.length : Nat) : Int)) = false from by simp; omega]; rfl
  rw [e2]
  exact Ev.now fun fuel => by unfold T185; exact bif_tt e
theorem f190 (a b : List NumT) (ha : a.length ≤ maxLen) : Ran p 1 190 [.val false ⟨K43, (a, ())⟩, .val false ⟨K43, (b, ())⟩] ⟨[⟨K4, (sameN a b, ())⟩], []⟩ := go190 fun n hn => by
 by_cases he : a.length = b.length
 ·have e : (((a.length : Nat) : Int) != ((b.length : Nat) : Int)) = false := by simp [he]
  have e2 : sameN a b = allI a.length (fun i => (gt a i).1 == (gt b i).1) := by unfold sameN; rw [he]; simp
  rw [e2]
  have lp : It (fun fuel (_ : Unit) => c190_4 (arun p n) fuel a b) (0 : Int) (fun _ => oB (allI a.length (fun i => (gt a i).1 == (gt b i).1))) := by
   refine it_and_true (It.allB a.length _ true (fun i hi fuel a' rec => ?_) (It.stop fun fuel a' rec => ?_))
   ·have hb : i < 9223372036854775807 := Nat.lt_of_lt_of_le hi ha
    show c190_4 (arun p n) fuel a b rec (i : Int) = _
    unfold c190_4; rw [wrap_succ hb]; refine (bif_pos (Int.ofNat_lt.2 hi)).trans ?_; refine (bif_pos (Int.natCast_nonneg _)).trans ?_; refine (at_step hi).trans ?_; refine (bif_pos (Int.natCast_nonneg _)).trans ?_; refine (at_step (show i < b.length from he ▸ hi)).trans ?_; exact fin
   ·show c190_4 (arun p n) fuel a b rec (a.length : Int) = _
    unfold c190_4; refine (bif_neg (Int.lt_irrefl _)).trans ?_; rfl
  exact Ev.eq (fun fuel => by unfold T190; exact bif_ff e) (lp.ev (i := ()) rfl)
 ·have e : (((a.length : Nat) : Int) != ((b.length : Nat) : Int)) = true := by simp; omega
  have e2 : sameN a b = false := by unfold sameN; rw [show (((a.length : Nat) : Int) == ((b.length : Nat) : Int)) = false from by simp; omega]; rfl
  rw [e2]
  exact Ev.now fun fuel => by unfold T190; exact bif_tt e
theorem f130 (a b : TreeT) (ha : a.1.length ≤ maxLen) : Ran p 2 130 [.val true ⟨K65, a⟩, .val true ⟨K65, b⟩] ⟨[⟨K4, (sameN a.1 b.1 && a.2.1 == b.2.1, ())⟩], []⟩ := go130 fun n hn => Ev.now fun fuel => by
 unfold T130; refine (call_step (f185 a.1 b.1 ha n (by omega))).trans ?_; refine bchkT fun _ => ?_; rfl
theorem f138 (a b : TreeT) (ha : a.1.length ≤ maxLen) : Ran p 2 138 [.val true ⟨K65, a⟩, .val true ⟨K65, b⟩] ⟨[⟨K4, (sameN a.1 b.1 && a.2.1 == b.2.1, ())⟩], []⟩ := go138 fun n hn => Ev.now fun fuel => by
 unfold T138; refine (call_step (f190 a.1 b.1 ha n (by omega))).trans ?_; refine bchkT fun _ => ?_; rfl
theorem f184 (x : Int) : Ran p 2 184 [.val false ⟨K3, (x, ())⟩] ⟨[⟨K106, (putNum x, ())⟩], []⟩ := go184 fun n hn => by
 cases hx : inB x 0 2147483647 with
 | false =>
  refine Ev.now fun fuel => ?_
  unfold T184 putNum; refine (call_step (f70 x 0 2147483647 n (by omega))).trans ?_; rw [hx]; rfl
 | true =>
  have hr := inB_iff.1 hx
  obtain ⟨m, rfl⟩ : ∃ m : Nat, x = m := ⟨x.toNat, by omega⟩
  have lp : It (fun fuel (_ : Unit) => c184_4 (arun p n) fuel) ((m : Int), ([] : List NumT)) (fun _ => some ⟨[⟨K106, (([] : List NumT) ++ putR m, ())⟩], []⟩) := by
   refine put_loop (fun l => some ⟨[⟨K106, (l, ())⟩], []⟩) (fun m hm pre hp fuel a rec => ?_) (fun m hm pre hp fuel a rec => ?_) 5 m [] (by omega) (by omega) (by decide)
   ·show c184_4 (arun p n) fuel rec ((m : Int), pre) = _
    unfold c184_4; refine (bif_neg (by show ¬ ((m : Int) > 127); omega)).trans ?_; refine (bif_pos (by show pre.length + 1 ≤ 4294967296; omega)).trans ?_; rfl
   ·show c184_4 (arun p n) fuel rec ((m : Int), pre) = _
    unfold c184_4; refine (bif_pos (by show (m : Int) > 127; omega)).trans ?_; refine (bif_neg (by decide)).trans ?_; refine (bif_pos (by show pre.length + 1 ≤ 4294967296; omega)).trans ?_; refine (bif_neg (by decide)).trans ?_; rfl
  have e2 : putNum (m : Int) = putR m := by unfold putNum; rw [hx]; rfl
  rw [e2]
  exact Ev.eq (fun fuel => by unfold T184; refine (call_step (f70 (m : Int) 0 2147483647 n (by omega))).trans ?_; rw [hx]; rfl) (lp.ev (i := ()) rfl)
theorem f189 (x : Int) : Ran p 2 189 [.val false ⟨K3, (x, ())⟩] ⟨[⟨K106, (putNum x, ())⟩], []⟩ := go189 fun n hn => by
 cases hx : inB x 0 2147483647 with
 | false =>
  refine Ev.now fun fuel => ?_
  unfold T189 putNum; refine (call_step (f71 x 0 2147483647 n (by omega))).trans ?_; rw [hx]; rfl
 | true =>
  have hr := inB_iff.1 hx
  obtain ⟨m, rfl⟩ : ∃ m : Nat, x = m := ⟨x.toNat, by omega⟩
  have lp : It (fun fuel (_ : Unit) => c189_4 (arun p n) fuel) ((m : Int), ([] : List NumT)) (fun _ => some ⟨[⟨K106, (([] : List NumT) ++ putR m, ())⟩], []⟩) := by
   refine put_loop (fun l => some ⟨[⟨K106, (l, ())⟩], []⟩) (fun m hm pre hp fuel a rec => ?_) (fun m hm pre hp fuel a rec => ?_) 5 m [] (by omega) (by omega) (by decide)
   ·show c189_4 (arun p n) fuel rec ((m : Int), pre) = _
    unfold c189_4; refine (bif_neg (by show ¬ ((m : Int) ≥ 128); omega)).trans ?_; refine (bif_pos (by show pre.length + 1 ≤ 4294967296; omega)).trans ?_; rfl
   ·show c189_4 (arun p n) fuel rec ((m : Int), pre) = _
    unfold c189_4; refine (bif_pos (by show (m : Int) ≥ 128; omega)).trans ?_; refine (bif_neg (by decide)).trans ?_; refine (bif_pos (by show pre.length + 1 ≤ 4294967296; omega)).trans ?_; refine (bif_neg (by decide)).trans ?_; rfl
  have e2 : putNum (m : Int) = putR m := by unfold putNum; rw [hx]; rfl
  rw [e2]
  exact Ev.eq (fun fuel => by unfold T189; refine (call_step (f71 (m : Int) 0 2147483647 n (by omega))).trans ?_; rw [hx]; rfl) (lp.ev (i := ()) rfl)
theorem f180 (ps : List RowT) (L : Nat) (hL : ∀ i, i < ps.length → (gt ps i).1.length ≤ L) (hb : ps.length * L ≤ bound) (hp : ps.length ≤ maxLen) : Ran p 1 180 [.val false ⟨K211, (ps, ())⟩] ⟨[⟨K106, (ps.flatMap (fun r => r.1), ())⟩], []⟩ := go180 fun n hn => by
 have lp : It (fun fuel (_ : Unit) => c180_3 (arun p n) fuel ps) ((0 : Int), ([] : List NumT)) (fun _ => some ⟨[⟨K106, (ps.flatMap (fun r => r.1), ())⟩], []⟩) := by
  refine It.accu [] (fun i => (gt ps i).1) ps.length L hL (fun i hi acc ha fuel a rec => ?_) (It.stop fun fuel a rec => ?_)
  ·have hb' : i < 9223372036854775807 := Nat.lt_of_lt_of_le hi hp
   show c180_3 (arun p n) fuel ps rec ((i : Int), acc) = _
   unfold c180_3; dsimp only; rw [wrap_succ hb']; refine (bif_pos (Int.ofNat_lt.2 hi)).trans ?_; refine (bif_pos (Int.natCast_nonneg _)).trans ?_; refine (at_step hi).trans ?_; refine (bif_pos (Nat.le_trans ha (by simpa using hb))).trans ?_; rfl
  ·show c180_3 (arun p n) fuel ps rec ((ps.length : Int), accL ps.length fun i => (gt ps i).1) = _
   unfold c180_3; refine (bif_neg (Int.lt_irrefl _)).trans ?_; exact congrArg (fun l : List NumT => (some ⟨[⟨K106, (l, ())⟩], []⟩ : Option Out)) (accL_flat (fun r : RowT => r.1) ps)
 exact Ev.eq (fun fuel => by unfold T180; rfl) (lp.ev (i := ()) rfl)
theorem f203 (s : ByteArray) (hs : ByteArray.size s ≤ 1048576) : Ran p 3 203 [.val false ⟨K9, (s, ())⟩] ⟨[⟨K106, (putText s, ())⟩], []⟩ := go203 fun n hn => Ev.now fun fuel => by
 unfold T203; refine (call_step (f184 ((ByteArray.size s : Nat) : Int) n (by omega))).trans ?_; 
 refine (bif_pos ?_).trans rfl
 have h1 := putNum_len ((ByteArray.size s : Nat) : Int)
 have h2 := bytesN_len s
 show (putNum ((ByteArray.size s : Nat) : Int)).length + (bytesN s).length ≤ 4294967296
 omega
theorem f206 (s : ByteArray) (hs : ByteArray.size s ≤ 1048576) : Ran p 3 206 [.val false ⟨K9, (s, ())⟩] ⟨[⟨K106, (putText s, ())⟩], []⟩ := go206 fun n hn => Ev.now fun fuel => by
 unfold T206; refine (call_step (f189 ((ByteArray.size s : Nat) : Int) n (by omega))).trans ?_
 have h1 := putNum_len ((ByteArray.size s : Nat) : Int)
 have h2 := bytesN_len s
 refine (call_step (f180 [(putNum ((ByteArray.size s : Nat) : Int), ()), (bytesN s, ())] 1048576 (fun i hi => by
  rcases i with _ | _ | i
  ·show (putNum ((ByteArray.size s : Nat) : Int)).length ≤ _; omega
  ·show (bytesN s).length ≤ _; omega
  ·exact absurd hi (by show ¬ (i + 1 + 1 < 2); omega)) (by show 2 * 1048576 ≤ 4294967296; omega) (by show 2 ≤ 9223372036854775807; omega) n (by omega))).trans ?_
 exact congrArg (fun l : List NumT => (some ⟨[⟨K106, (l, ())⟩], []⟩ : Option Out)) (by simp [putText] : List.flatMap (fun r : RowT => r.1) [(putNum ((ByteArray.size s : Nat) : Int), ()), (bytesN s, ())] = putText s)
theorem f181 (bs : List NumT) (hl : bs.length ≤ maxLen) : Ran p 1 181 [.val false ⟨K106, (bs, ())⟩] ⟨[⟨K3, (crc bs, ())⟩], []⟩ := go181 fun n hn => by
 have inner : ∀ (i : Nat), i < 9223372036854775807 → ∀ x0 : Int, It (fun fuel rec3 => c181_7 (arun p n) fuel bs (i : Int) rec3) (x0, (0 : Int)) (fun rec3 => rec3 (crcBits 8 x0, ((i + 1 : Nat) : Int))) := by
  intro i hi x0
  refine It.run (fun k => (crcBits k x0, (k : Int))) 8 (fun k hk fuel rec3 rec => ?_) (It.stop fun fuel rec3 rec => ?_)
  ·have hb : k < 9223372036854775807 := by omega
   show c181_7 (arun p n) fuel bs (i : Int) rec3 rec (crcBits k x0, (k : Int)) = _
   unfold c181_7; dsimp only; rw [wrap_succ hb]; refine (bif_pos (by omega)).trans ?_; refine (bif_neg (by decide)).trans ?_; refine (bif_neg (by decide)).trans ?_
   show _ = rec (crcBit (crcBits k x0), ((k + 1 : Nat) : Int))
   unfold crcBit
   cases ((crcBits k x0).tmod 2 == 1) <;> rfl
  ·show c181_7 (arun p n) fuel bs (i : Int) rec3 rec (crcBits 8 x0, ((8 : Nat) : Int)) = _
   unfold c181_7; dsimp only; rw [wrap_succ hi]; exact bif_neg (by decide)
 have outer : It (fun fuel (_ : Unit) => c181_3 (arun p n) fuel bs) ((4294967295 : Int), (0 : Int)) (fun _ => oI (crc bs)) := by
  refine It.runE (fun i => (crcTo bs i, (i : Int))) bs.length (fun i hi => ?_) (It.stop fun fuel a rec => ?_)
  ·have hb : i < 9223372036854775807 := Nat.lt_of_lt_of_le hi hl
   obtain ⟨N, hN⟩ := (inner i hb (xorI .i64 (crcTo bs i) (IntKind.i64.wrap (gt bs i).1))).all_i
   refine ⟨N, fun fuel hf a rec => ?_⟩
   show c181_3 (arun p n) fuel bs rec (crcTo bs i, (i : Int)) = _
   unfold c181_3; refine (bif_pos (Int.ofNat_lt.2 hi)).trans ?_; refine (bif_pos (Int.natCast_nonneg _)).trans ?_; refine (at_step hi).trans ?_; exact hN fuel hf rec
  ·show c181_3 (arun p n) fuel bs rec (crcTo bs bs.length, (bs.length : Int)) = _
   unfold c181_3; refine (bif_neg (Int.lt_irrefl _)).trans ?_; rfl
 exact Ev.eq (fun fuel => by unfold T181; rfl) (outer.ev (i := ()) rfl)
theorem f186 (bs : List NumT) (hl : bs.length ≤ maxLen) : Ran p 1 186 [.val false ⟨K106, (bs, ())⟩] ⟨[⟨K3, (crc bs, ())⟩], []⟩ := go186 fun n hn => by
 have inner : ∀ (i : Nat), i < 9223372036854775807 → ∀ x0 : Int, It (fun fuel rec3 => c186_7 (arun p n) fuel bs (i : Int) rec3) (x0, (0 : Int)) (fun rec3 => rec3 (crcBits 8 x0, ((i + 1 : Nat) : Int))) := by
  intro i hi x0
  refine It.run (fun k => (crcBits k x0, (k : Int))) 8 (fun k hk fuel rec3 rec => ?_) (It.stop fun fuel rec3 rec => ?_)
  ·have hb : k < 9223372036854775807 := by omega
   show c186_7 (arun p n) fuel bs (i : Int) rec3 rec (crcBits k x0, (k : Int)) = _
   unfold c186_7; dsimp only; rw [wrap_succ hb]; refine (bif_pos (by omega)).trans ?_; refine (bif_neg (by decide)).trans ?_; refine (bif_neg (by decide)).trans ?_
   show _ = rec (crcBit (crcBits k x0), ((k + 1 : Nat) : Int))
   unfold crcBit
   cases ((crcBits k x0).tmod 2 == 1) <;> rfl
  ·show c186_7 (arun p n) fuel bs (i : Int) rec3 rec (crcBits 8 x0, ((8 : Nat) : Int)) = _
   unfold c186_7; dsimp only; rw [wrap_succ hi]; exact bif_neg (by decide)
 have outer : It (fun fuel (_ : Unit) => c186_3 (arun p n) fuel bs) ((4294967295 : Int), (0 : Int)) (fun _ => oI (crc bs)) := by
  refine It.runE (fun i => (crcTo bs i, (i : Int))) bs.length (fun i hi => ?_) (It.stop fun fuel a rec => ?_)
  ·have hb : i < 9223372036854775807 := Nat.lt_of_lt_of_le hi hl
   obtain ⟨N, hN⟩ := (inner i hb (xorI .i64 (crcTo bs i) (IntKind.i64.wrap (gt bs i).1))).all_i
   refine ⟨N, fun fuel hf a rec => ?_⟩
   show c186_3 (arun p n) fuel bs rec (crcTo bs i, (i : Int)) = _
   unfold c186_3; refine (bif_pos (Int.ofNat_lt.2 hi)).trans ?_; refine (bif_pos (Int.natCast_nonneg _)).trans ?_; refine (at_step hi).trans ?_; exact hN fuel hf rec
  ·show c186_3 (arun p n) fuel bs rec (crcTo bs bs.length, (bs.length : Int)) = _
   unfold c186_3; refine (bif_neg (Int.lt_irrefl _)).trans ?_; rfl
 exact Ev.eq (fun fuel => by unfold T186; rfl) (outer.ev (i := ()) rfl)
theorem f205 (x : Int) : Ran p 3 205 [.val false ⟨K3, (x, ())⟩] ⟨[⟨K3, (leafOf x, ())⟩], []⟩ := go205 fun n hn => Ev.now fun fuel => by
 unfold T205 leafOf; refine (call_step (f100 x n (by omega))).trans ?_
 cases nodeB x with
 | false => rfl
 | true =>
  refine (bif_ff rfl).trans ?_
  refine (call_step (f184 x n (by omega))).trans ?_; refine (call_step (f181 (putNum x) (Nat.le_trans (putNum_len x) (by decide)) n (by omega))).trans ?_; refine (bif_neg (by decide)).trans ?_; rfl
theorem f208 (x : Int) : Ran p 3 208 [.val false ⟨K3, (x, ())⟩] ⟨[⟨K3, (leafOf x, ())⟩], []⟩ := go208 fun n hn => Ev.now fun fuel => by
 unfold T208 leafOf; refine (call_step (f109 x n (by omega))).trans ?_
 cases nodeB x with
 | false => rfl
 | true =>
  refine (bif_ff rfl).trans ?_
  refine (call_step (f189 x n (by omega))).trans ?_; refine (call_step (f186 (putNum x) (Nat.le_trans (putNum_len x) (by decide)) n (by omega))).trans ?_; refine (bif_neg (by decide)).trans ?_; rfl
theorem f204 (ls : List NumT) (x : Int) (hl : ls.length ≤ maxLen) : Ran p 1 204 [.val false ⟨K43, (ls, ())⟩, .val false ⟨K3, (x, ())⟩] ⟨[⟨K4, (hasN ls x, ())⟩], []⟩ := go204 fun n hn => by
 have lp : It (fun fuel (_ : Unit) => c204_2 (arun p n) fuel ls x) (0 : Int) (fun _ => oB (hasN ls x)) := by
  rw [hasN_all]
  refine It.anyB ls.length _ (fun i hi fuel a rec => ?_) (fun fuel a rec => ?_)
  ·have hb : i < 9223372036854775807 := Nat.lt_of_lt_of_le hi hl
   show c204_2 (arun p n) fuel ls x rec (i : Int) = _
   unfold c204_2; rw [wrap_succ hb]; refine (bif_pos (Int.ofNat_lt.2 hi)).trans ?_; refine (bif_pos (Int.natCast_nonneg _)).trans ?_; refine (at_step hi).trans ?_; rfl
  ·show c204_2 (arun p n) fuel ls x rec (ls.length : Int) = _
   unfold c204_2; refine (bif_neg (Int.lt_irrefl _)).trans ?_; rfl
 exact Ev.eq (fun fuel => by unfold T204; rfl) (lp.ev (i := ()) rfl)
theorem f211 (ls : List NumT) (x : Int) (hl : ls.length ≤ maxLen) : Ran p 1 211 [.val false ⟨K43, (ls, ())⟩, .val false ⟨K3, (x, ())⟩] ⟨[⟨K3, (idxN ls x, ())⟩], []⟩ := go211 fun n hn => by
 have lp : It (fun fuel (_ : Unit) => c211_2 (arun p n) fuel ls x) (0 : Int) (fun _ => oI (idxN ls x)) := by
  have := It.first (c := fun fuel (_ : Unit) => c211_2 (arun p n) fuel ls x) (fun i => (i : Int)) ls.length (fun i => x == (gt ls i).1) (fun i _ => oI (i : Int)) (fun _ => oI (-1)) (fun i hi hp fuel a rec => ?_) (fun i hi hp => It.stop fun fuel a rec => ?_) (It.stop fun fuel a rec => ?_)
  ·revert this; unfold idxN
   cases (List.range ls.length).find? (fun i => x == (gt ls i).1) <;> exact fun h => h
  ·have hb : i < 9223372036854775807 := Nat.lt_of_lt_of_le hi hl
   show c211_2 (arun p n) fuel ls x rec (i : Int) = _
   unfold c211_2; rw [wrap_succ hb]; refine (bif_pos (Int.ofNat_lt.2 hi)).trans ?_; refine (bif_pos (Int.natCast_nonneg _)).trans ?_; refine (at_step hi).trans ?_; exact bif_ff hp
  ·show c211_2 (arun p n) fuel ls x rec (i : Int) = _
   unfold c211_2; refine (bif_pos (Int.ofNat_lt.2 hi)).trans ?_; refine (bif_pos (Int.natCast_nonneg _)).trans ?_; refine (at_step hi).trans ?_; exact bif_tt hp
  ·show c211_2 (arun p n) fuel ls x rec (ls.length : Int) = _
   unfold c211_2; refine (bif_neg (Int.lt_irrefl _)).trans ?_; rfl
 exact Ev.eq (fun fuel => by unfold T211; rfl) (lp.ev (i := ()) rfl)
theorem f207 (ls : List NumT) (x : Int) (hl : ls.length ≤ maxLen) : Ran p 2 207 [.val false ⟨K43, (ls, ())⟩, .val false ⟨K3, (x, ())⟩] ⟨[⟨K4, (hasN ls x, ())⟩], []⟩ := go207 fun n hn => Ev.now fun fuel => by
 unfold T207; refine (call_step (f211 ls x hl n (by omega))).trans ?_; exact congrArg (fun b : Bool => (some ⟨[⟨K4, (b, ())⟩], []⟩ : Option Out)) (idxN_has ls x)
theorem f183 (s : StateT) (ls : List NumT) (hl : ls.length ≤ maxLen) (h1 : s.1.length ≤ 1000) (h2 : s.2.1.length ≤ 1000) : Ran p 4 183 [.val true ⟨K49, s⟩, .val false ⟨K43, (ls, ())⟩] ⟨[⟨K49, sliceS s ls⟩], []⟩ := go183 fun n hn => by
 have inner : ∀ v : List ItemT, It (fun fuel (_ : Unit) => c183_8 (arun p n) fuel s ls v) ((0 : Int), ([] : List FloorT)) (fun _ => some ⟨[⟨K49, (v, s.2.1.filter (fun f => hasN ls (leafOf f.1)), ())⟩], []⟩) := by
  intro v
  refine It.accu (α := FloorT) [] (fun i => bif hasN ls (leafOf (gt s.2.1 i).1) then [gt s.2.1 i] else []) s.2.1.length 1 (fun i hi => by cases hasN ls (leafOf (gt s.2.1 i).1) <;> simp) (fun i hi acc ha fuel a rec => ?_) (It.stop fun fuel a rec => ?_)
  ·have hb : i < 9223372036854775807 := by omega
   show c183_8 (arun p n) fuel s ls v rec ((i : Int), acc) = _
   unfold c183_8; dsimp only; rw [wrap_succ hb]; refine (bif_pos (Int.ofNat_lt.2 hi)).trans ?_; refine (bif_pos (Int.natCast_nonneg _)).trans ?_; refine (at_step hi).trans ?_; refine (call_step (f205 (gt s.2.1 i).1 n (by omega))).trans ?_; refine (call_step (f204 ls (leafOf (gt s.2.1 i).1) hl n (by omega))).trans ?_
   cases hq : hasN ls (leafOf (gt s.2.1 i).1) with
   | false => exact (congrArg (fun l : List FloorT => rec (((i + 1 : Nat) : Int), l)) (List.append_nil acc).symm : _)
   | true => refine (bif_tt rfl).trans ?_; refine (bif_pos (Int.natCast_nonneg _)).trans ?_; refine (at_step hi).trans ?_; refine (bif_pos (by rw [hq] at ha; have : acc.length + 1 ≤ 0 + s.2.1.length * 1 := ha; show acc.length + 1 ≤ 4294967296; omega)).trans ?_; rfl
  ·show c183_8 (arun p n) fuel s ls v rec ((s.2.1.length : Int), accL (α := FloorT) s.2.1.length (fun i => bif hasN ls (leafOf (gt s.2.1 i).1) then [gt s.2.1 i] else [])) = _
   unfold c183_8; refine (bif_neg (Int.lt_irrefl _)).trans ?_; exact congrArg (fun l : List FloorT => (some ⟨[⟨K49, (v, l, ())⟩], []⟩ : Option Out)) ((accL_flat (fun f : FloorT => bif hasN ls (leafOf f.1) then [f] else []) s.2.1).trans (filter_flat _ _))
 have outer : It (fun fuel (_ : Unit) => c183_3 (arun p n) fuel s ls) ((0 : Int), ([] : List ItemT)) (fun _ => some ⟨[⟨K49, sliceS s ls⟩], []⟩) := by
  refine It.accu (α := ItemT) [] (fun i => bif hasN ls (leafOf (gt s.1 i).1) then [gt s.1 i] else []) s.1.length 1 (fun i hi => by cases hasN ls (leafOf (gt s.1 i).1) <;> simp) (fun i hi acc ha fuel a rec => ?_) (It.stopE (T := fun fuel _ => iter (c183_8 (arun p n) fuel s ls (s.1.filter (fun x => hasN ls (leafOf x.1)))) fuel ((0 : Int), ([] : List FloorT))) (fun fuel a rec => ?_) (inner _).all_i)
  ·have hb : i < 9223372036854775807 := by omega
   show c183_3 (arun p n) fuel s ls rec ((i : Int), acc) = _
   unfold c183_3; dsimp only; rw [wrap_succ hb]; refine (bif_pos (Int.ofNat_lt.2 hi)).trans ?_; refine (bif_pos (Int.natCast_nonneg _)).trans ?_; refine (at_step hi).trans ?_; refine (call_step (f205 (gt s.1 i).1 n (by omega))).trans ?_; refine (call_step (f204 ls (leafOf (gt s.1 i).1) hl n (by omega))).trans ?_
   cases hq : hasN ls (leafOf (gt s.1 i).1) with
   | false => exact (congrArg (fun l : List ItemT => rec (((i + 1 : Nat) : Int), l)) (List.append_nil acc).symm : _)
   | true => refine (bif_tt rfl).trans ?_; refine (bif_pos (Int.natCast_nonneg _)).trans ?_; refine (at_step hi).trans ?_; refine (bif_pos (by rw [hq] at ha; have : acc.length + 1 ≤ 0 + s.1.length * 1 := ha; show acc.length + 1 ≤ 4294967296; omega)).trans ?_; rfl
  ·show c183_3 (arun p n) fuel s ls rec ((s.1.length : Int), accL (α := ItemT) s.1.length (fun i => bif hasN ls (leafOf (gt s.1 i).1) then [gt s.1 i] else [])) = _
   unfold c183_3; refine (bif_neg (Int.lt_irrefl _)).trans ?_; exact congrArg (fun l : List ItemT => iter (c183_8 (arun p n) fuel s ls l) fuel ((0 : Int), ([] : List FloorT))) ((accL_flat (fun f : ItemT => bif hasN ls (leafOf f.1) then [f] else []) s.1).trans (filter_flat _ _))
 exact Ev.eq (fun fuel => by unfold T183; rfl) (outer.ev (i := ()) rfl)
theorem f188 (s : StateT) (ls : List NumT) (hl : ls.length ≤ maxLen) (h1 : s.1.length ≤ 1000) (h2 : s.2.1.length ≤ 1000) (hok : stateOk s = true) : Ran p 4 188 [.val true ⟨K49, s⟩, .val false ⟨K43, (ls, ())⟩] ⟨[⟨K49, sliceS s ls⟩], []⟩ := go188 fun n hn => by
 have inner : ∀ v : List ItemT, It (fun fuel (_ : Unit) => c188_11 (arun p n) fuel s ls v) ((0 : Int), ([] : List FloorT)) (fun _ => some ⟨[⟨K49, (v, s.2.1.filter (fun f => hasN ls (leafOf f.1)), ())⟩], []⟩) := by
  intro v
  refine It.accu (α := FloorT) [] (fun i => bif hasN ls (leafOf (gt s.2.1 i).1) then [gt s.2.1 i] else []) s.2.1.length 1 (fun i hi => by cases hasN ls (leafOf (gt s.2.1 i).1) <;> simp) (fun i hi acc ha fuel a rec => ?_) (It.stop fun fuel a rec => ?_)
  ·have hb : i < 9223372036854775807 := by omega
   show c188_11 (arun p n) fuel s ls v rec ((i : Int), acc) = _
   unfold c188_11; dsimp only; rw [wrap_succ hb]; refine (bif_pos (Int.ofNat_lt.2 hi)).trans ?_; refine (bif_pos (Int.natCast_nonneg _)).trans ?_; refine (at_step hi).trans ?_; refine (call_step (f208 (gt s.2.1 i).1 n (by omega))).trans ?_; refine (call_step (f207 ls (leafOf (gt s.2.1 i).1) hl n (by omega))).trans ?_
   cases hq : hasN ls (leafOf (gt s.2.1 i).1) with
   | false => exact (congrArg (fun l : List FloorT => rec (((i + 1 : Nat) : Int), l)) (List.append_nil acc).symm : _)
   | true => refine (bif_tt rfl).trans ?_; refine (bif_pos (by rw [hq] at ha; have : acc.length + 1 ≤ 0 + s.2.1.length * 1 := ha; show acc.length + 1 ≤ 4294967296; omega)).trans ?_; rfl
  ·show c188_11 (arun p n) fuel s ls v rec ((s.2.1.length : Int), accL (α := FloorT) s.2.1.length (fun i => bif hasN ls (leafOf (gt s.2.1 i).1) then [gt s.2.1 i] else [])) = _
   unfold c188_11; refine (bif_neg (Int.lt_irrefl _)).trans ?_; exact congrArg (fun l : List FloorT => (some ⟨[⟨K49, (v, l, ())⟩], []⟩ : Option Out)) ((accL_flat (fun f : FloorT => bif hasN ls (leafOf f.1) then [f] else []) s.2.1).trans (filter_flat _ _))
 have outer : It (fun fuel (_ : Unit) => c188_5 (arun p n) fuel s ls) ((0 : Int), ([] : List ItemT)) (fun _ => some ⟨[⟨K49, sliceS s ls⟩], []⟩) := by
  refine It.accu (α := ItemT) [] (fun i => bif hasN ls (leafOf (gt s.1 i).1) then [gt s.1 i] else []) s.1.length 1 (fun i hi => by cases hasN ls (leafOf (gt s.1 i).1) <;> simp) (fun i hi acc ha fuel a rec => ?_) (It.stopE (T := fun fuel _ => iter (c188_11 (arun p n) fuel s ls (s.1.filter (fun x => hasN ls (leafOf x.1)))) fuel ((0 : Int), ([] : List FloorT))) (fun fuel a rec => ?_) (inner _).all_i)
  ·have hb : i < 9223372036854775807 := by omega
   show c188_5 (arun p n) fuel s ls rec ((i : Int), acc) = _
   unfold c188_5; dsimp only; rw [wrap_succ hb]; refine (bif_pos (Int.ofNat_lt.2 hi)).trans ?_; refine (bif_pos (Int.natCast_nonneg _)).trans ?_; refine (at_step hi).trans ?_; refine (call_step (f208 (gt s.1 i).1 n (by omega))).trans ?_; refine (call_step (f207 ls (leafOf (gt s.1 i).1) hl n (by omega))).trans ?_
   cases hq : hasN ls (leafOf (gt s.1 i).1) with
   | false => exact (congrArg (fun l : List ItemT => rec (((i + 1 : Nat) : Int), l)) (List.append_nil acc).symm : _)
   | true => refine (bif_tt rfl).trans ?_; refine (bif_pos (by rw [hq] at ha; have : acc.length + 1 ≤ 0 + s.1.length * 1 := ha; show acc.length + 1 ≤ 4294967296; omega)).trans ?_; rfl
  ·show c188_5 (arun p n) fuel s ls rec ((s.1.length : Int), accL (α := ItemT) s.1.length (fun i => bif hasN ls (leafOf (gt s.1 i).1) then [gt s.1 i] else [])) = _
   unfold c188_5; refine (bif_neg (Int.lt_irrefl _)).trans ?_; exact congrArg (fun l : List ItemT => iter (c188_11 (arun p n) fuel s ls l) fuel ((0 : Int), ([] : List FloorT))) ((accL_flat (fun f : ItemT => bif hasN ls (leafOf f.1) then [f] else []) s.1).trans (filter_flat _ _))
 exact Ev.eq (fun fuel => by unfold T188; refine (call_step (f60 s (Nat.le_trans h1 (by decide)) (Nat.le_trans h2 (by decide)) n (by omega))).trans ?_; rw [hok]; rfl) (outer.ev (i := ()) rfl)
end Go.Abs.Gz
