/- A by-value reading of the model, and its soundness, part 3. -/
import Derived.Test.YtbdgofceanjgpaaW2
/- Plain laws: draws. -/
namespace Go.Abs
set_option linter.unusedVariables false
abbrev CurT := List NumT × Int × Int × Unit
structure CurOk (c : CurT) : Prop where
 len : c.1.length ≤ 1048576
 lo : 0 ≤ c.2.1
 hi : c.2.1 ≤ c.1.length
theorem andI255 (a : Int) : 0 ≤ andI .i64 a 255 ∧ andI .i64 a 255 ≤ 255 := by
 unfold andI
 have h : (BitVec.ofInt IntKind.i64.bits a &&& BitVec.ofInt IntKind.i64.bits 255).toNat ≤ 255 := by
  rw [BitVec.toNat_and]; exact Nat.le_trans Nat.and_le_right (by decide)
 generalize (BitVec.ofInt IntKind.i64.bits a &&& BitVec.ofInt IntKind.i64.bits 255).toNat = m at h
 have e : IntKind.i64.wrap (m : Int) = m := by rw [IntKind.wrap_i64]; omega
 rw [e]; omega
theorem tmod_lt {x n : Int} (hx : 0 ≤ x) (hn : 0 < n) : 0 ≤ x.tmod n ∧ x.tmod n < n := by
 rw [Int.tmod_eq_emod_of_nonneg hx]
 exact ⟨Int.emod_nonneg _ (by omega), Int.emod_lt_of_pos _ hn⟩
theorem call_ref {β : Type} {o : Option Out} {A B : List Kd} {r : Row A} {s : Row B} {f : Rows [A] × Rows [B] → Option β} (h : o = some ⟨[⟨A, r⟩], [⟨B, s⟩]⟩) : (o.bind (castOut [A] [B])).bind f = f ((r, ()), (s, ())) := by
 rw [h]; simp [castOut, castRows, castRow_self]; rfl
theorem call_two {β : Type} {o : Option Out} {A B : List Kd} {r : Row A} {s : Row B} {f : Rows [A, B] × Rows [] → Option β} (h : o = some ⟨[⟨A, r⟩, ⟨B, s⟩], []⟩) : (o.bind (castOut [A, B] [])).bind f = f ((r, s, ()), ()) := by
 rw [h]; simp [castOut, castRows, castRow_self]; rfl
/-- A loop whose rounds are told by what they keep. -/
theorem It.ex {ι σ : Type} {lvl : Nat} {c : Nat → Nat → ι → (σ → Option Out) → σ → Option Out} (Inv : Nat → σ → Prop) (Good : Out → Prop) (N : Nat)
  (hs : ∀ i x, i < N → Inv i x → ∃ y, Inv (i + 1) y ∧ ∀ n, lvl ≤ n → ∀ fuel a rec, c n fuel a rec x = rec y)
  (he : ∀ x, Inv N x → ∃ o, Good o ∧ ∀ n, lvl ≤ n → It (c n) x (fun _ => some o)) : ∀ (m j : Nat) x, j + m = N → Inv j x → ∃ o, Good o ∧ ∀ n, lvl ≤ n → It (c n) x (fun _ => some o)
 | 0, j, x, hj, hx => he x ((show j = N by omega) ▸ hx)
 | m + 1, j, x, hj, hx => by
  obtain ⟨y, hy, h⟩ := hs j x (by omega) hx
  obtain ⟨o, ho, h'⟩ := It.ex Inv Good N hs he m (j + 1) y (by omega) hy
  exact ⟨o, ho, fun n hn => It.next (fun fuel a rec => h n hn fuel a rec) (h' n hn)⟩
def datas : List ByteArray := [⟨#[]⟩, ⟨#[97]⟩, ⟨#[98]⟩, ⟨#[97, 98]⟩, ⟨#[49, 50, 51, 52, 53, 54, 55, 56]⟩, ⟨#[49, 50, 51, 52, 53, 54, 55, 56, 57]⟩]
def EntD (e : EntryT) : Prop := e.2.2.2.2.1 ∈ datas
structure StD (k : Nat) (s : StateT) : Prop where
 a : s.1.length ≤ k
 b : s.2.1.length ≤ k
 data : ∀ x ∈ s.1, EntD x.2
theorem StD.sz {k : Nat} {s : StateT} (h : StD k s) (hk : k ≤ 1048576) : SzS s := ⟨Nat.le_trans h.a hk, Nat.le_trans h.b hk⟩
theorem zeroE_d : EntD zeroE := List.mem_cons_self ..
theorem entryOf_all {P : EntryT → Prop} (hz : P zeroE) {s : StateT} (hs : ∀ x ∈ s.1, P x.2) (i : Int) : P (entryOf s i).1 := by
 unfold entryOf
 cases h : (List.range s.1.length).find? (fun j => (gt s.1 j).1 == i) with
 | none => exact hz
 | some j =>
  have hj := List.mem_range.1 (List.mem_of_find?_eq_some h)
  show P (gt s.1 j).2
  rw [gt_eq hj]; exact hs _ (List.getElem_mem hj)
theorem accL_mem {α : Type} {n : Nat} {g : Nat → List α} {x : α} (h : x ∈ accL n g) : ∃ i, i < n ∧ x ∈ g i := by
 induction n with
 | zero => exact (List.not_mem_nil h).elim
 | succ n ih =>
  rw [accL_succ] at h
  rcases List.mem_append.1 h with h | h
  ·obtain ⟨i, hi, hx⟩ := ih h; exact ⟨i, by omega, hx⟩
  ·exact ⟨n, by omega, h⟩
theorem joinS_all {P : EntryT → Prop} (hz : P zeroE) {a b : StateT} (ha : ∀ x ∈ a.1, P x.2) (hb : ∀ x ∈ b.1, P x.2) : ∀ x ∈ (joinS a b).1, P x.2 := by
 intro x hx
 obtain ⟨i, _, hi⟩ := accL_mem hx
 unfold gItem at hi
 cases hc : decide ((pickE a b (i : Int)).1 > flr a b (i : Int)) with
 | false => rw [hc] at hi; exact (List.not_mem_nil hi).elim
 | true =>
  rw [hc] at hi
  have e : x = ((i : Int), pickE a b (i : Int)) := List.mem_singleton.1 hi
  subst e
  show P (pickE a b (i : Int))
  unfold pickE mxE
  cases decide (cmpE (entryOf a (i : Int)).1 (entryOf b (i : Int)).1 < 0)
  ·exact entryOf_all hz ha _
  ·exact entryOf_all hz hb _
theorem joinS_d {j k : Nat} {a b : StateT} (ha : StD j a) (hb : StD k b) : StD 5 (joinS a b) := ⟨(joinS_len a b).1, (joinS_len a b).2, joinS_all zeroE_d ha.data hb.data⟩
theorem hash_end {β : Type} {A B : Prop} [Decidable A] [Decidable B] {X R : β} (h : ¬ A ∨ ¬ B) : (bif decide A then (bif decide B then X else R) else R) = R := by
 by_cases a : A
 ·rcases h with h | h
  ·exact absurd a h
  ·rw [decide_eq_true a, decide_eq_false h]; rfl
 ·rw [decide_eq_false a]; rfl
/-- The loop of a new cursor, and what comes behind it. -/
theorem It.new {lvl : Nat} {c : Nat → Nat → Unit → (Int × Int → Option Out) → Int × Int → Option Out} (Good : Out → Prop) (b : List NumT) (hb : b.length ≤ 1048576)
  (hs : ∀ (i : Nat) (h : Int), i < b.length → i < 4000 → ∃ h', ∀ n, lvl ≤ n → ∀ fuel a rec, c n fuel a rec (h, (i : Int)) = rec (h', ((i + 1 : Nat) : Int)))
  (he : ∀ (h i : Int), CurOk (b, 0, h, ()) → (¬ i < ((b.length : Nat) : Int) ∨ ¬ i < 4000) → ∃ o, Good o ∧ ∀ n, lvl ≤ n → ∃ M, ∀ fuel, M ≤ fuel → ∀ a rec, c n fuel a rec (h, i) = some o) (h0 : Int) :
  ∃ o, Good o ∧ ∀ n, lvl ≤ n → It (c n) (h0, (0 : Int)) (fun _ => some o) := by
 refine It.ex (fun i y => ∃ h, y = (h, (i : Int))) Good (min b.length 4000) ?_ ?_ (min b.length 4000) 0 (h0, (0 : Int)) (by omega) ⟨h0, rfl⟩
 ·rintro i y hi ⟨h, rfl⟩
  obtain ⟨h', hh⟩ := hs i h (by omega) (by omega)
  exact ⟨_, ⟨h', rfl⟩, hh⟩
 ·rintro y ⟨h, rfl⟩
  obtain ⟨o, ho, hh⟩ := he h ((min b.length 4000 : Nat) : Int) ⟨hb, by show (0 : Int) ≤ 0; omega, by show (0 : Int) ≤ ((b.length : Nat) : Int); omega⟩ (by omega)
  refine ⟨o, ho, fun n hn => ?_⟩
  obtain ⟨M, hM⟩ := hh n hn
  refine ⟨M + 1, fun fuel k hf hk a => ?_⟩
  obtain ⟨k, rfl⟩ : ∃ k', k = k' + 1 := ⟨k - 1, by omega⟩
  exact hM fuel (by omega) a _
theorem viewS_le (s : StateT) : (viewS s).length ≤ s.1.length := by
 cases hs : stateOk s with
 | false => unfold viewS; rw [hs]; exact Nat.zero_le _
 | true => rw [viewS_ok hs]; exact List.length_filter_le _ _
end Go.Abs
/- Plain laws: differences of views, counted. -/
namespace Go.Abs
set_option linter.unusedVariables false
def delta (x : NewsT) : Int := bif x.1 == 0 then 1 else bif x.1 == 1 then -1 else 0
def sumD (ls : List NewsT) : Int := (ls.map delta).sum
theorem sumD_append (a b : List NewsT) : sumD (a ++ b) = sumD a + sumD b := by unfold sumD; rw [List.map_append, List.sum_append]
theorem sumD_take (ls : List NewsT) {i : Nat} (h : i < ls.length) : sumD (ls.take (i + 1)) = sumD (ls.take i) + delta (gt ls i) := by
 rw [← List.take_append_getElem h, sumD_append, gt_eq h]; simp [sumD]
theorem sumD_bnd : ∀ ls : List NewsT, -((ls.length : Nat) : Int) ≤ sumD ls ∧ sumD ls ≤ ((ls.length : Nat) : Int)
 | [] => by decide
 | x :: xs => by
  have := sumD_bnd xs
  have e : sumD (x :: xs) = delta x + sumD xs := by simp [sumD]
  have hd : -1 ≤ delta x ∧ delta x ≤ 1 := by unfold delta; cases x.1 == 0 <;> cases x.1 == 1 <;> decide
  rw [e, List.length_cons]; omega
def sumI5 (f : Nat → Int) : Nat → Int
 | 0 => 0
 | k + 1 => sumI5 f k + f k
theorem sumD_accL (g : Nat → List NewsT) : ∀ n, sumD (accL n g) = sumI5 (fun i => sumD (g i)) n
 | 0 => rfl
 | n + 1 => by rw [accL_succ, sumD_append, sumD_accL g n]; rfl
theorem newsKind_cases (x y : EntryT) : newsKind x y = 2 ∨ newsKind x y = 3 ∨ newsKind x y = 4 ∨ newsKind x y = -1 := by
 unfold newsKind
 cases x.1 != y.1 <;> cases x.2.2.2.1 != y.2.2.2.1 <;> cases (ByteArray.toList x.2.2.2.2.1 == ByteArray.toList y.2.2.2.2.1) <;> cases x.2.2.1 != y.2.2.1 <;> simp
theorem newsAt_sum (a b : StateT) (i : Nat) : sumD (newsAt a b i) = bitI (lookup b (i : Int)).2 - bitI (lookup a (i : Int)).2 := by
 unfold newsAt
 cases (lookup a (i : Int)).2 <;> cases (lookup b (i : Int)).2
 ·rfl
 ·rfl
 ·rfl
 ·have hk := newsKind_cases (lookup a (i : Int)).1 (lookup b (i : Int)).1
  generalize newsKind (lookup a (i : Int)).1 (lookup b (i : Int)).1 = k at *
  rcases hk with rfl | rfl | rfl | rfl <;> rfl
def found (xs : List ItemT) (i : Nat) : Bool := xs.any fun x => x.1 == (i : Int)
theorem found_entryOf (xs : List ItemT) (i : Nat) : (entryOf (xs, [], ()) (i : Int)).2 = found xs i := by
 rcases entryOf_cases (xs, [], ()) (i : Int) with ⟨x, hx, h1, h2⟩ | ⟨h1, h2⟩
 ·rw [h2]; symm; unfold found; rw [List.any_eq_true]; exact ⟨x, hx, by simpa using h1⟩
 ·rw [h2]; symm; unfold found; rw [List.any_eq_false]; intro x hx; have := h1 x hx; simpa using this
theorem count5 : ∀ (xs : List ItemT), xs.Pairwise (fun x y : ItemT => x.1 < y.1) → (∀ x ∈ xs, nodeB x.1 = true) → ((xs.length : Nat) : Int) = sumI5 (fun i => bitI (found xs i)) 5
 | [], _, _ => rfl
 | x :: xs, hp, hn => by
  obtain ⟨h1, h2⟩ := List.pairwise_cons.1 hp
  have ih := count5 xs h2 fun y hy => hn y (List.mem_cons_of_mem _ hy)
  have hx := hn x (List.mem_cons_self ..)
  unfold nodeB at hx; rw [inB_iff] at hx
  have hf : ∀ i : Nat, (i : Int) ≤ x.1 → found xs i = false := fun i hi => by
   unfold found; rw [List.any_eq_false]; intro y hy; have := h1 y hy; simp; omega
  have hc : ∀ i : Nat, found (x :: xs) i = (x.1 == (i : Int) || found xs i) := fun i => by unfold found; rw [List.any_cons]
  rw [List.length_cons]
  show (((xs.length + 1 : Nat)) : Int) = 0 + bitI (found (x :: xs) 0) + bitI (found (x :: xs) 1) + bitI (found (x :: xs) 2) + bitI (found (x :: xs) 3) + bitI (found (x :: xs) 4)
  have ih' : ((xs.length : Nat) : Int) = 0 + bitI (found xs 0) + bitI (found xs 1) + bitI (found xs 2) + bitI (found xs 3) + bitI (found xs 4) := ih
  rw [hc, hc, hc, hc, hc]
  obtain ⟨k, hk, hk5⟩ : ∃ k : Nat, x.1 = (k : Int) ∧ k < 5 := ⟨x.1.toNat, by omega, by omega⟩
  have h0 := hf k (by omega)
  rw [hk]
  have c : k = 0 ∨ k = 1 ∨ k = 2 ∨ k = 3 ∨ k = 4 := by omega
  rcases c with rfl | rfl | rfl | rfl | rfl <;> rw [h0] at ih' ⊢ <;> simp [bitI] at ih' ⊢ <;> omega
theorem viewS_pairwise {s : StateT} (hs : stateOk s = true) : (viewS s).Pairwise (fun x y : ItemT => x.1 < y.1) := by
 rw [viewS_ok hs]; exact ((stateOk_iff s).1 hs).items.filter _
theorem viewS_node {s : StateT} (hs : stateOk s = true) : ∀ x ∈ viewS s, nodeB x.1 = true := by
 rw [viewS_ok hs]; exact fun x hx => (((stateOk_iff s).1 hs).item x (List.mem_filter.1 hx).1).1
theorem viewS_count {s : StateT} (hs : stateOk s = true) : (((viewS s).length : Nat) : Int) = sumI5 (fun i => bitI (lookup s (i : Int)).2) 5 := by
 rw [count5 _ (viewS_pairwise hs) (viewS_node hs)]
 have : (fun i : Nat => bitI (found (viewS s) i)) = fun i : Nat => bitI (lookup s (i : Int)).2 := funext fun i => by
  unfold lookup; rw [found_entryOf]
 rw [this]
theorem news_count {a b : StateT} (ha : stateOk a = true) (hb : stateOk b = true) : sumD (newsOf a b) = (((viewS b).length : Nat) : Int) - (((viewS a).length : Nat) : Int) := by
 unfold newsOf
 rw [ha, hb]
 show sumD (accL 5 (newsAt a b)) = _
 rw [sumD_accL, viewS_count ha, viewS_count hb]
 simp only [sumI5, newsAt_sum]
 omega
end Go.Abs
