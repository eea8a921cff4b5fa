/- A by-value reading of the model, and its soundness, part 2. -/
import Derived.Test.YtcmcnofamieegaaGreatW1
import Derived.Lib.Bytealg
/- A function of two texts with a contract of the library's. -/
namespace Go.Abs
open Go
set_option linter.unusedVariables false
def cmpF : List Arg → Option Out
  | [.val false ⟨[.str], x⟩, .val false ⟨[.str], y⟩] => some ⟨[⟨[.int .i64], (Lib.compareBytes (ByteArray.data x.1).toList (ByteArray.data y.1).toList, ())⟩], []⟩
  | _ => none
theorem keep_refl (rb : Nat → Prop) (w : World) : Keep rb w w := ⟨rfl, rfl, rfl, Nat.le_refl _, fun _ _ _ => rfl⟩
theorem cmpF_fits {P : Program} {ti : Ti} {rts : Nat → Option (List Nat)} {fr : Nat → Bool} {g : Nat} (hf : ∃ fn, P.funcs[g]? = some fn ∧ fn.name ≠ "runtime.NumGoroutine" ∧ fn.body.isNone = false)
    (hrt : (rts g).bind (resTys { ti := ti, n := 0, call := fun _ _ => none, fresh := fr, h := ⟨false, [], []⟩ }) = some [(false, [.int .i64])])
    (hc : ∀ (a b : ByteArray) (w : World), Calls P g #[.string a, .string b] w fun e w' => e = .returned (.int .i64 (Lib.compareBytes a.data.toList b.data.toList)) ∧ w' = w) (as : List Arg) (out : Out) (h : cmpF as = some out) : Fits P ti rts fr g as out := by
  unfold cmpF at h
  split at h
  · rename_i x y
    cases h
    refine ⟨hf, fun rt h1 vs bs rbs w hA _ _ _ => ?_⟩
    rw [hrt] at h1
    cases h1
    obtain ⟨v, vs', b, b', r, r', rfl, rfl, rfl, ⟨rfl, us, hs, u, us', bb, bb', e1, e2, ⟨e3, e4⟩, e5, e6⟩, v2, vs2, c, c', q, q', rfl, rfl, rfl, ⟨rfl, us2, hs2, u2, us2', dd, dd', g1, g2, ⟨g3, g4⟩, g5, g6⟩, rfl, rfl, rfl⟩ := hA
    have hv : v = .string x.1 := by
      rcases hs with ⟨hh, _⟩ | ⟨_, hh⟩
      · cases hh
      · rw [e1, e5, e3] at hh; injection hh with hh; exact hh.symm
    have hv2 : v2 = .string y.1 := by
      rcases hs2 with ⟨hh, _⟩ | ⟨_, hh⟩
      · cases hh
      · rw [g1, g5, g3] at hh; injection hh with hh; exact hh.symm
    subst hv; subst hv2
    refine Calls.mono (hc x.1 y.1 w) ?_
    rintro e w' ⟨rfl, rfl⟩
    refine ⟨_, rfl, ⟨keep_refl _ _, [_], [], [], [], rfl, ?_, ?_, (fun b hb => by cases hb), (fun b hb => by cases hb), (fun b hb => by cases hb), fun _ => ⟨List.nodup_nil, List.nodup_nil⟩⟩⟩
    · refine ⟨_, [], _, [], [_], [], [], [], [], rfl, rfl, rfl, rfl, .inr ⟨rfl, rfl⟩, ?_, rfl, rfl, rfl, rfl⟩
      unfold RowR
      cases fr g with
      | false => exact ⟨rfl, _, [], [], [], rfl, rfl, ⟨rfl, rfl⟩, rfl, rfl⟩
      | true => exact ⟨_, [], rfl, ⟨rfl, rfl⟩, rfl, rfl, rfl⟩
    · exact ⟨rfl, rfl⟩
  · cases h
end Go.Abs
/- What the laws speak of, in plain Lean: rows as tuples, and what the checks decide. -/
namespace Go.Abs
set_option linter.unusedVariables false
abbrev EntryT := Int × Int × Int × Int × ByteArray × Unit
abbrev ItemT := Int × EntryT
abbrev FloorT := Int × Int × Unit
abbrev StateT := List ItemT × List FloorT × Unit
abbrev NumT := Int × Unit
abbrev RowT := List NumT × Unit
abbrev TreeT := List NumT × Int × Unit
abbrev LogT := Int × Int × List StateT × Unit
abbrev SessT := Int × Int × Bool × Int × Unit
abbrev RiseT := Int × Int × Int × Unit
abbrev NodeT := Int × Int × List ItemT × List FloorT × List NumT × Int × Int × Int × List StateT × List NumT × List NumT × List RowT × Int × Int × List SessT × Int × Int × Int × List RiseT × Unit
abbrev PackT := Int × List NumT × Bool × Unit
abbrev SaidT := Int × List ItemT × List FloorT × Unit
abbrev WorldT := List NodeT × List PackT × List SaidT × Unit
def inB (x lo hi : Int) : Bool := decide (lo ≤ x) && decide (x ≤ hi)
theorem inB_iff {x lo hi : Int} : inB x lo hi = true ↔ lo ≤ x ∧ x ≤ hi := by unfold inB; simp
def nodeB (id : Int) : Bool := inB id 0 4
def allI (n : Nat) (ok : Nat → Bool) : Bool := (List.range n).all ok
theorem allI_iff {n : Nat} {ok : Nat → Bool} : allI n ok = true ↔ ∀ i, i < n → ok i = true := by unfold allI; simp [List.all_eq_true]
theorem allI_congr {n : Nat} {ok ok' : Nat → Bool} (h : ∀ i, i < n → ok i = ok' i) : allI n ok = allI n ok' := by
  rw [Bool.eq_iff_iff, allI_iff, allI_iff]
  exact ⟨fun g i hi => (h i hi) ▸ g i hi, fun g i hi => (h i hi).symm ▸ g i hi⟩
def gt {α : Type} [Inhabited α] (xs : List α) (i : Nat) : α := xs.getD i default
theorem gt_eq {α : Type} [Inhabited α] {xs : List α} {i : Nat} (h : i < xs.length) : gt xs i = xs[i] := by unfold gt; simp [h]
def prevB (f : Nat → Bool) : Nat → Bool
  | 0 => true
  | j + 1 => f j
-- steps of a text
theorem at_step {α β : Type} [Inhabited α] {xs : List α} {i : Nat} {f : α → Option β} (h : i < xs.length) : (at? xs ((i : Int)).toNat).bind f = f (gt xs i) := by
  rw [Int.toNat_natCast, at_lt h, gt_eq h]; rfl
theorem chk {α : Type} {b c : Bool} {F R X : α} (h : b = true → X = bif c then R else F) : (bif !b then F else X) = bif b && c then R else F := by
  cases b
  · rfl
  · exact h rfl
theorem chkP {α : Type} {b c : Bool} {F R X : α} (h : b = false → X = bif c then R else F) : (bif b then F else X) = bif !b && c then R else F := by
  cases b
  · exact h rfl
  · rfl
theorem chkT {α : Type} {b c : Bool} {F R X : α} (h : b = true → X = bif c then R else F) : (bif b then X else F) = bif b && c then R else F := by
  cases b
  · rfl
  · exact h rfl
theorem fin {α : Type} {b : Bool} {F R : α} : (bif !b then F else R) = bif b then R else F := by cases b <;> rfl
theorem finP {α : Type} {b : Bool} {F R : α} : (bif b then F else R) = bif !b then R else F := by cases b <;> rfl
abbrev oB (b : Bool) : Option Out := some ⟨[⟨[.bool], (b, ())⟩], []⟩
abbrev oI (n : Int) : Option Out := some ⟨[⟨[.int .i64], (n, ())⟩], []⟩
theorem oB_bif {b : Bool} : (bif b then oB true else oB false) = oB b := by cases b <;> rfl
/-- A Bool function's checks, one after another. -/
theorem bchk {b c : Bool} {X : Option Out} (h : b = true → X = oB c) : (bif !b then oB false else X) = oB (b && c) := by
  cases b
  · rfl
  · exact h rfl
theorem bchkP {b c : Bool} {X : Option Out} (h : b = false → X = oB c) : (bif b then oB false else X) = oB (!b && c) := by
  cases b
  · exact h rfl
  · rfl
theorem bchkT {b c : Bool} {X : Option Out} (h : b = true → X = oB c) : (bif b then X else oB false) = oB (b && c) := by
  cases b
  · rfl
  · exact h rfl
section
variable {ι σ ρ : Type} {c : Nat → ι → (σ → Option ρ) → σ → Option ρ}
theorem It.all (st : Nat → σ) (n : Nat) (ok : Nat → Bool) {rA rB : ι → Option ρ}
    (h : ∀ i, i < n → ∀ fuel a rec, c fuel a rec (st i) = bif ok i then rec (st (i + 1)) else rB a) (hn : It c (st n) rA) : It c (st 0) (fun a => bif allI n ok then rA a else rB a) := by
  have := It.each (c := c) st n ok (rA := rA) (rB := rB) (fun i hi ho fuel a rec => by rw [h i hi, ho]; rfl) (fun i hi ho => It.stop fun fuel a rec => by rw [h i hi, ho]; rfl) hn
  unfold allI
  cases hb : (List.range n).all ok with
  | true => rw [hb, if_pos rfl] at this; exact this
  | false => rw [hb, if_neg (by simp)] at this; exact this
/-- The same, where a round runs a loop of its own. -/
theorem It.allE (st : Nat → σ) (n : Nat) (ok : Nat → Bool) {rA rB : ι → Option ρ}
    (h : ∀ i, i < n → ∃ N, ∀ fuel, N ≤ fuel → ∀ a rec, c fuel a rec (st i) = bif ok i then rec (st (i + 1)) else rB a) (hn : It c (st n) rA) : It c (st 0) (fun a => bif allI n ok then rA a else rB a) := by
  have key : ∀ m j, j + m = n → It c (st j) (fun a => bif (List.range m).all (fun i => ok (j + i)) then rA a else rB a) := by
    intro m
    induction m with
    | zero => intro j hj; have : j = n := by omega
              subst this; exact hn
    | succ m ih =>
      intro j hj
      have ih' := ih (j + 1) (by omega)
      obtain ⟨N, hN⟩ := h j (by omega)
      obtain ⟨M, hM⟩ := ih'
      refine ⟨N + M + 1, fun fuel k hf hk a => ?_⟩
      obtain ⟨k, rfl⟩ : ∃ k', k = k' + 1 := ⟨k - 1, by omega⟩
      show c fuel a (iter (c fuel a) k) (st j) = _
      rw [hN fuel (by omega), hM fuel k (by omega) (by omega) a, List.range_succ_eq_map, List.all_cons, List.all_map]
      have e : ((fun i => ok (j + i)) ∘ Nat.succ) = fun i => ok (j + 1 + i) := by
        funext i; show ok (j + (i + 1)) = _; congr 1; omega
      rw [e, Nat.add_zero]
      cases ok j <;> rfl
  have := key n 0 (by omega)
  simpa [allI] using this
/-- A loop that runs through, and what it gathers. -/
theorem It.run (st : Nat → σ) (n : Nat) {r : ι → Option ρ} (h : ∀ i, i < n → ∀ fuel a rec, c fuel a rec (st i) = rec (st (i + 1))) (hn : It c (st n) r) : It c (st 0) r :=
  It.upto st n 0 (fun i _ hi => h i (by omega)) (by rw [Nat.zero_add]; exact hn)
end
theorem It.allB {ι : Type} {c : Nat → ι → (Int → Option Out) → Int → Option Out} (n : Nat) (ok : Nat → Bool) (B : Bool)
    (h : ∀ i, i < n → ∀ fuel a rec, c fuel a rec (i : Int) = bif ok i then rec ((i + 1 : Nat) : Int) else oB false) (hn : It c (n : Int) (fun _ => oB B)) : It c (0 : Int) (fun _ => oB (allI n ok && B)) := by
  have := It.all (c := c) (rA := fun _ => oB B) (rB := fun _ => oB false) (fun i => (i : Int)) n ok h hn
  refine cast ?_ this
  congr 1; funext a; cases allI n ok <;> rfl
theorem It.allBE {ι : Type} {c : Nat → ι → (Int → Option Out) → Int → Option Out} (n : Nat) (ok : Nat → Bool) (B : Bool)
    (h : ∀ i, i < n → ∃ N, ∀ fuel, N ≤ fuel → ∀ a rec, c fuel a rec (i : Int) = bif ok i then rec ((i + 1 : Nat) : Int) else oB false) (hn : It c (n : Int) (fun _ => oB B)) : It c (0 : Int) (fun _ => oB (allI n ok && B)) := by
  have := It.allE (c := c) (rA := fun _ => oB B) (rB := fun _ => oB false) (fun i => (i : Int)) n ok h hn
  refine cast ?_ this
  congr 1; funext a; cases allI n ok <;> rfl
theorem prev_step {i : Nat} (hi : i < 9223372036854775807) (hi0 : 0 < i) : IntKind.i64.wrap ((i : Int) - 1) = ((i - 1 : Nat) : Int) := by rw [IntKind.wrap_i64]; omega
theorem it_and_true {σ ι : Type} {c : Nat → ι → (σ → Option Out) → σ → Option Out} {x : σ} {b : Bool} (h : It c x (fun _ => oB (b && true))) : It c x (fun _ => oB b) := by rw [Bool.and_true] at h; exact h
-- what the checks decide
def entryOk (e : EntryT) : Bool := inB e.1 1 1000 && (inB e.2.1 0 1 && (inB e.2.2.1 0 100000 && (inB e.2.2.2.1 0 1000 && decide (((ByteArray.size e.2.2.2.2.1 : Nat) : Int) ≤ 8))))
def floorOf (fs : List FloorT) (id : Int) : Int := match (List.range fs.length).find? (fun i => (gt fs i).1 == id) with
  | some i => (gt fs i).2.1
  | none => 0
def floorOkS (fs : List FloorT) (i : Nat) : Bool := nodeB (gt fs i).1 && (prevB (fun j => !decide ((gt fs (j + 1)).1 ≤ (gt fs j).1)) i && inB (gt fs i).2.1 1 1000)
def floorOkI (fs : List FloorT) (i : Nat) : Bool := nodeB (gt fs i).1 && (inB (gt fs i).2.1 1 1000 && prevB (fun j => !decide ((gt fs (j + 1)).1 ≤ (gt fs j).1)) i)
def itemOkS (s : StateT) (i : Nat) : Bool := nodeB (gt s.1 i).1 && (prevB (fun j => !decide ((gt s.1 (j + 1)).1 ≤ (gt s.1 j).1)) i && (entryOk (gt s.1 i).2 && !decide ((gt s.1 i).2.1 ≤ floorOf s.2.1 (gt s.1 i).1)))
def itemOkI (s : StateT) (i : Nat) : Bool := nodeB (gt s.1 i).1 && (entryOk (gt s.1 i).2 && (!decide ((gt s.1 i).2.1 ≤ floorOf s.2.1 (gt s.1 i).1) && prevB (fun j => !decide ((gt s.1 (j + 1)).1 ≤ (gt s.1 j).1)) i))
def stateOk (s : StateT) : Bool := allI s.1.length (itemOkS s) && allI s.2.1.length (floorOkS s.2.1)
theorem stateOk_I (s : StateT) : (allI s.2.1.length (floorOkI s.2.1) && allI s.1.length (itemOkI s)) = stateOk s := by
  unfold stateOk
  rw [Bool.and_comm, allI_congr (ok := itemOkI s) (ok' := itemOkS s) (fun i _ => ?_), allI_congr (ok := floorOkI s.2.1) (ok' := floorOkS s.2.1) (fun i _ => ?_)]
  · unfold floorOkI floorOkS; ac_rfl
  · unfold itemOkI itemOkS; ac_rfl
end Go.Abs
/- Plain laws: gathering loops, numbers as bytes, check sums, slices of states. -/
namespace Go.Abs
set_option linter.unusedVariables false
def accL {α : Type} (n : Nat) (g : Nat → List α) : List α := (List.range n).flatMap g
theorem accL_zero {α : Type} (g : Nat → List α) : accL 0 g = [] := rfl
theorem accL_succ {α : Type} (n : Nat) (g : Nat → List α) : accL (n + 1) g = accL n g ++ g n := by unfold accL; rw [List.range_succ, List.flatMap_append]; simp
theorem accL_len {α : Type} {g : Nat → List α} {L : Nat} : ∀ {n : Nat}, (∀ i, i < n → (g i).length ≤ L) → (accL n g).length ≤ n * L
  | 0, _ => by simp [accL_zero]
  | n + 1, h => by
    rw [accL_succ, List.length_append, Nat.add_mul]
    have := accL_len (n := n) fun i hi => h i (by omega)
    have := h n (by omega)
    omega
theorem gt_cons {α : Type} [Inhabited α] (x : α) (xs : List α) (i : Nat) : gt (x :: xs) (i + 1) = gt xs i := by unfold gt; simp
theorem gt_zero {α : Type} [Inhabited α] (x : α) (xs : List α) : gt (x :: xs) 0 = x := by unfold gt; simp
theorem gt_mem {α : Type} [Inhabited α] {xs : List α} {i : Nat} (h : i < xs.length) : gt xs i ∈ xs := by rw [gt_eq h]; exact List.getElem_mem h
theorem mem_gt {α : Type} [Inhabited α] {xs : List α} {x : α} (h : x ∈ xs) : ∃ i, i < xs.length ∧ gt xs i = x := by
  obtain ⟨i, hi, e⟩ := List.mem_iff_getElem.1 h
  exact ⟨i, hi, by rw [gt_eq hi]; exact e⟩
theorem accL_flat {α β : Type} [Inhabited α] (f : α → List β) : ∀ xs : List α, accL xs.length (fun i => f (gt xs i)) = xs.flatMap f
  | [] => rfl
  | x :: xs => by
    rw [List.flatMap_cons, ← accL_flat f xs]
    unfold accL
    rw [List.length_cons, List.range_succ_eq_map, List.flatMap_cons, List.flatMap_map, gt_zero]
    congr 1
theorem allI_all {α : Type} [Inhabited α] (p : α → Bool) (xs : List α) : allI xs.length (fun i => p (gt xs i)) = xs.all p := by
  rw [Bool.eq_iff_iff, allI_iff, List.all_eq_true]
  constructor
  · intro h x hx
    obtain ⟨i, hi, rfl⟩ := mem_gt hx
    exact h i hi
  · exact fun h i hi => h _ (gt_mem hi)
theorem find_range {α β : Type} [Inhabited α] (p : α → Bool) (F : α → β) (z : β) : ∀ xs : List α,
    (match (List.range xs.length).find? (fun i => p (gt xs i)) with | some i => F (gt xs i) | none => z) = (match xs.find? p with | some x => F x | none => z)
  | [] => rfl
  | x :: xs => by
    rw [List.length_cons, List.range_succ_eq_map, List.find?_cons, List.find?_cons, gt_zero]
    cases hp : p x with
    | true => simp [gt_zero]
    | false =>
      rw [← find_range p F z xs, List.find?_map]
      simp only [Function.comp_def, gt_cons]
      cases List.find? (fun i => p (gt xs i)) (List.range xs.length) with
      | none => rfl
      | some i => simp [gt_cons]
theorem floorOf_find (fs : List FloorT) (id : Int) : floorOf fs id = (match fs.find? (fun f => f.1 == id) with | some f => f.2.1 | none => 0) := by
  have h := find_range (fun f : FloorT => f.1 == id) (fun f : FloorT => f.2.1) 0 fs
  unfold floorOf
  cases h1 : (List.range fs.length).find? (fun i => (gt fs i).1 == id) <;> cases h2 : fs.find? (fun f => f.1 == id) <;> simp only [h1, h2] at h ⊢ <;> exact h
section
variable {ι α ρ : Type} {c : Nat → ι → (Int × List α → Option ρ) → Int × List α → Option ρ} {r : ι → Option ρ}
theorem It.accuE (pre : List α) (g : Nat → List α) (n L : Nat) (hg : ∀ i, i < n → (g i).length ≤ L)
    (h : ∀ i, i < n → ∀ acc : List α, acc.length + (g i).length ≤ pre.length + n * L → ∃ N, ∀ fuel, N ≤ fuel → ∀ a rec, c fuel a rec ((i : Int), acc) = rec (((i + 1 : Nat) : Int), acc ++ g i))
    (hn : It c ((n : Int), pre ++ accL n g) r) : It c ((0 : Int), pre) r := by
  have key : ∀ m j, j + m = n → It c ((j : Int), pre ++ accL j g) r := by
    intro m
    induction m with
    | zero => intro j hj; have : j = n := by omega
              subst this; exact hn
    | succ m ih =>
      intro j hj
      have hl : (pre ++ accL j g).length + (g j).length ≤ pre.length + n * L := by
        have h1 := accL_len (n := j) (g := g) (L := L) fun i hi => hg i (by omega)
        have h2 := hg j (by omega)
        have h3 : (j + 1) * L ≤ n * L := Nat.mul_le_mul_right L (by omega)
        rw [Nat.add_mul] at h3
        rw [List.length_append]; omega
      obtain ⟨N, hN⟩ := h j (by omega) _ hl
      have ih' := ih (j + 1) (by omega)
      rw [accL_succ, ← List.append_assoc] at ih'
      exact It.nextE (T := fun fuel a rec => c fuel a rec ((j : Int), pre ++ accL j g)) (fun _ _ _ => rfl) ⟨N, hN⟩ ih'
  have := key n 0 (by omega)
  rw [accL_zero, List.append_nil] at this
  exact this
theorem It.accu (pre : List α) (g : Nat → List α) (n L : Nat) (hg : ∀ i, i < n → (g i).length ≤ L)
    (h : ∀ i, i < n → ∀ acc : List α, acc.length + (g i).length ≤ pre.length + n * L → ∀ fuel a rec, c fuel a rec ((i : Int), acc) = rec (((i + 1 : Nat) : Int), acc ++ g i))
    (hn : It c ((n : Int), pre ++ accL n g) r) : It c ((0 : Int), pre) r :=
  It.accuE pre g n L hg (fun i hi acc hl => ⟨0, fun fuel _ a rec => h i hi acc hl fuel a rec⟩) hn
end
theorem It.runE {ι σ ρ : Type} {c : Nat → ι → (σ → Option ρ) → σ → Option ρ} {r : ι → Option ρ} (st : Nat → σ) (n : Nat) (h : ∀ i, i < n → ∃ N, ∀ fuel, N ≤ fuel → ∀ a rec, c fuel a rec (st i) = rec (st (i + 1))) (hn : It c (st n) r) : It c (st 0) r :=
  It.uptoE st (T := fun i fuel a rec => c fuel a rec (st i)) n 0 (fun i _ _ _ _ _ => rfl) (fun i _ hi => h i (by omega)) (by rw [Nat.zero_add]; exact hn)
theorem bif_tt {β : Type} {b : Bool} {x y : β} (h : b = true) : (bif b then x else y) = x := by rw [h]; rfl
theorem bif_ff {β : Type} {b : Bool} {x y : β} (h : b = false) : (bif b then x else y) = y := by rw [h]; rfl
def sameN (a b : List NumT) : Bool := ((a.length : Nat) : Int) == ((b.length : Nat) : Int) && allI a.length (fun i => (gt a i).1 == (gt b i).1)
theorem It.anyB {ι : Type} {c : Nat → ι → (Int → Option Out) → Int → Option Out} (n : Nat) (q : Nat → Bool)
    (h : ∀ i, i < n → ∀ fuel a rec, c fuel a rec (i : Int) = bif q i then oB true else rec ((i + 1 : Nat) : Int)) (hn : ∀ fuel a rec, c fuel a rec (n : Int) = oB false) : It c (0 : Int) (fun _ => oB (!allI n fun i => !q i)) := by
  have := It.all (c := c) (rA := fun _ => oB false) (rB := fun _ => oB true) (fun i => (i : Int)) n (fun i => !q i) (fun i hi fuel a rec => by rw [h i hi]; cases q i <;> rfl) (It.stop hn)
  refine cast ?_ this
  congr 1; funext a; cases allI n (fun i => !q i) <;> rfl
theorem filter_flat {α : Type} (P : α → Bool) : ∀ xs : List α, xs.flatMap (fun x => bif P x then [x] else []) = xs.filter P
  | [] => rfl
  | x :: xs => by rw [List.flatMap_cons, List.filter_cons, filter_flat P xs]; cases P x <;> rfl
-- numbers as bytes
theorem u8_in {x : Int} (h1 : 0 ≤ x) (h2 : x ≤ 255) : IntKind.u8.wrap x = x := by
  have : IntKind.u8.wrap x = x % 256 := by unfold IntKind.wrap; simp [IntKind.bits, IntKind.signed]
  rw [this]; omega
def putR (n : Nat) : List NumT := if h : n < 128 then [((n : Int), ())] else (((n % 128 + 128 : Nat) : Int), ()) :: putR (n / 128)
  termination_by n
  decreasing_by exact Nat.div_lt_self (by omega) (by omega)
theorem putR_len : ∀ (k n : Nat), n < 128 ^ (k + 1) → (putR n).length ≤ k + 1
  | 0, n, h => by unfold putR; rw [dif_pos (by omega)]; simp
  | k + 1, n, h => by
    unfold putR
    split
    · simp
    · rw [List.length_cons]
      have := putR_len k (n / 128) (by rw [Nat.pow_succ] at h; exact Nat.div_lt_of_lt_mul (by omega))
      omega
def putNum (x : Int) : List NumT := bif inB x 0 2147483647 then putR x.toNat else []
theorem putNum_len (x : Int) : (putNum x).length ≤ 5 := by
  unfold putNum
  cases h : inB x 0 2147483647 with
  | false => exact Nat.zero_le _
  | true => rw [inB_iff] at h; exact putR_len 4 _ (by omega)
def bytesN (s : ByteArray) : List NumT := bytesRows s
def putText (s : ByteArray) : List NumT := putNum ((ByteArray.size s : Nat) : Int) ++ bytesN s
theorem bytesN_len (s : ByteArray) : (bytesN s).length = ByteArray.size s :=
  (List.length_map (f := fun b : UInt8 => (((b.toNat : Nat) : Int), ())) (as := s.data.toList)).trans Array.length_toList
theorem tail_byte {m : Nat} (h : m < 128) : IntKind.u8.wrap (m : Int) = m := u8_in (by omega) (by omega)
theorem head_byte (m : Nat) (h : m ≤ 2147483647) : IntKind.u8.wrap (IntKind.i64.wrap ((m : Int).tmod 128 + 128)) = ((m % 128 + 128 : Nat) : Int) := by
  have e : (m : Int).tmod 128 = ((m % 128 : Nat) : Int) := by rw [Int.tmod_eq_emod_of_nonneg (by omega)]; omega
  rw [e, wrap64 (by omega) (by omega), u8_in (by omega) (by omega)]; omega
theorem div_128 (m : Nat) (h : m ≤ 2147483647) : IntKind.i64.wrap ((m : Int).tdiv 128) = ((m / 128 : Nat) : Int) := by
  have e : (m : Int).tdiv 128 = ((m / 128 : Nat) : Int) := by rw [Int.tdiv_eq_ediv_of_nonneg (by omega)]; omega
  rw [e, wrap64 (by omega) (by omega)]
theorem put_loop {c : Nat → Unit → (Int × List NumT → Option Out) → Int × List NumT → Option Out} (R : List NumT → Option Out)
    (hlast : ∀ m : Nat, m < 128 → ∀ pre : List NumT, pre.length ≤ 100 → ∀ fuel a rec, c fuel a rec ((m : Int), pre) = R (pre ++ [(IntKind.u8.wrap (m : Int), ())]))
    (hmore : ∀ m : Nat, 128 ≤ m → ∀ pre : List NumT, pre.length ≤ 100 → ∀ fuel a rec, c fuel a rec ((m : Int), pre) = rec (IntKind.i64.wrap ((m : Int).tdiv 128), pre ++ [(IntKind.u8.wrap (IntKind.i64.wrap ((m : Int).tmod 128 + 128)), ())])) :
    ∀ (k m : Nat) (pre : List NumT), m ≤ 2147483647 → m < 128 ^ (k + 1) → pre.length + k ≤ 100 → It c ((m : Int), pre) (fun _ => R (pre ++ putR m))
  | k, m, pre, h1, h2, h3 => by
    rcases Nat.lt_or_ge m 128 with h | h
    · refine It.stop fun fuel a rec => ?_
      rw [hlast m h pre (by omega), tail_byte h]
      unfold putR; rw [dif_pos h]
    · cases k with
      | zero => omega
      | succ k =>
        have := put_loop R hlast hmore k (m / 128) (pre ++ [(((m % 128 + 128 : Nat) : Int), ())]) (by omega) (by rw [Nat.pow_succ] at h2; exact Nat.div_lt_of_lt_mul (by omega)) (by rw [List.length_append, List.length_singleton]; omega)
        have e : pre ++ [(((m % 128 + 128 : Nat) : Int), ())] ++ putR (m / 128) = pre ++ putR m := by
          rw [List.append_assoc]
          conv => rhs; unfold putR
          rw [dif_neg (by omega)]; rfl
        rw [e] at this
        exact It.next (fun fuel a rec => by rw [hmore m h pre (by omega), head_byte m h1, div_128 m h1]) this
-- check sums
def crcBit (x : Int) : Int := bif (x.tmod 2) == 1 then xorI .i64 (IntKind.i64.wrap (x.tdiv 2)) 3988292384 else IntKind.i64.wrap (x.tdiv 2)
def crcBits : Nat → Int → Int
  | 0, x => x
  | k + 1, x => crcBit (crcBits k x)
def crcTo (bs : List NumT) : Nat → Int
  | 0 => 4294967295
  | i + 1 => crcBits 8 (xorI .i64 (crcTo bs i) (IntKind.i64.wrap (gt bs i).1))
def crc (bs : List NumT) : Int := xorI .i64 (crcTo bs bs.length) 4294967295
-- slices of states
def hasN (ls : List NumT) (x : Int) : Bool := ls.any fun y => y.1 == x
theorem hasN_all (ls : List NumT) (x : Int) : hasN ls x = !allI ls.length fun i => !((gt ls i).1 == x) := by
  rw [allI_all (fun y : NumT => !(y.1 == x)) ls]; unfold hasN; rw [List.any_eq_not_all_not]
def idxN (ls : List NumT) (x : Int) : Int := match (List.range ls.length).find? (fun i => x == (gt ls i).1) with
  | some i => (i : Int)
  | none => -1
theorem idxN_has (ls : List NumT) (x : Int) : decide (idxN ls x ≥ 0) = hasN ls x := by
  unfold idxN
  rw [hasN_all]
  cases h : (List.range ls.length).find? (fun i => x == (gt ls i).1) with
  | none =>
    rw [List.find?_eq_none] at h
    have : allI ls.length (fun i => !((gt ls i).1 == x)) = true := allI_iff.2 fun i hi => by
      have := h i (List.mem_range.2 hi)
      simp at this ⊢; omega
    rw [this]; rfl
  | some i =>
    rw [List.find?_range_eq_some] at h
    obtain ⟨h1, h2, _⟩ := h
    have : allI ls.length (fun i => !((gt ls i).1 == x)) = false := by
      cases hh : allI ls.length (fun i => !((gt ls i).1 == x)) with
      | false => rfl
      | true => have := allI_iff.1 hh i (List.mem_range.1 h2); simp at this h1; omega
    rw [this]; simp
def leafOf (id : Int) : Int := bif nodeB id then (crc (putNum id)).tmod 4 else -1
def sliceS (s : StateT) (ls : List NumT) : StateT := (s.1.filter fun x => hasN ls (leafOf x.1), s.2.1.filter fun f => hasN ls (leafOf f.1), ())
def itemBytes (x : ItemT) : List NumT := putNum x.1 ++ putNum x.2.1 ++ putNum x.2.2.1 ++ putNum x.2.2.2.1 ++ putNum x.2.2.2.2.1 ++ putText x.2.2.2.2.2.1
def floorBytes (f : FloorT) : List NumT := putNum f.1 ++ putNum f.2.1
def bytesS (s : StateT) : List NumT := putNum ((s.1.length : Nat) : Int) ++ s.1.flatMap itemBytes ++ putNum ((s.2.1.length : Nat) : Int) ++ s.2.1.flatMap floorBytes
def leafSum (s : StateT) (leaf : Int) : Int := bif stateOk s && inB leaf 0 3 then (crc (bytesS (sliceS s [(leaf, ())]))).tmod 1024 else 0
def rootOf (ls : List NumT) : Int := (crc (ls.flatMap fun x => putNum x.1)).tmod 1024
def leavesOf4 (s : StateT) : List NumT := [(leafSum s 0, ()), (leafSum s 1, ()), (leafSum s 2, ()), (leafSum s 3, ())]
def treeOf (s : StateT) : TreeT := bif stateOk s then (leavesOf4 s, rootOf (leavesOf4 s), ()) else ([], 0, ())
-- what a valid state is, as lists
theorem chain_pairwise {α : Type} [Inhabited α] (k : α → Int) (xs : List α) (h : ∀ j, j + 1 < xs.length → k (gt xs j) < k (gt xs (j + 1))) : xs.Pairwise (fun x y => k x < k y) := by
  rw [List.pairwise_iff_getElem]
  intro i j hi hj hij
  have : ∀ d i, i + d + 1 < xs.length → k (gt xs i) < k (gt xs (i + d + 1)) := by
    intro d
    induction d with
    | zero => exact fun i hd => h i hd
    | succ d ih => exact fun i hd => Int.lt_trans (ih i (by omega)) (h (i + d + 1) hd)
  have := this (j - i - 1) i (by omega)
  rw [show i + (j - i - 1) + 1 = j from by omega, gt_eq hi, gt_eq hj] at this
  exact this
theorem pairwise_chain {α : Type} [Inhabited α] {k : α → Int} {xs : List α} (h : xs.Pairwise (fun x y => k x < k y)) (j : Nat) (hj : j + 1 < xs.length) : k (gt xs j) < k (gt xs (j + 1)) := by
  rw [List.pairwise_iff_getElem] at h
  rw [gt_eq hj, gt_eq (by omega : j < xs.length)]
  exact h j (j + 1) (by omega) hj (by omega)
theorem prevB_iff {n : Nat} {f : Nat → Bool} : (∀ i, i < n → prevB f i = true) ↔ ∀ j, j + 1 < n → f j = true :=
  ⟨fun h j hj => h (j + 1) hj, fun h i hi => by cases i with
    | zero => rfl
    | succ j => exact h j hi⟩
structure StateOk (s : StateT) : Prop where
  item : ∀ x ∈ s.1, nodeB x.1 = true ∧ entryOk x.2 = true ∧ floorOf s.2.1 x.1 < x.2.1
  items : s.1.Pairwise (fun x y : ItemT => x.1 < y.1)
  floor : ∀ f ∈ s.2.1, nodeB f.1 = true ∧ inB f.2.1 1 1000 = true
  floors : s.2.1.Pairwise (fun x y : FloorT => x.1 < y.1)
theorem stateOk_iff (s : StateT) : stateOk s = true ↔ StateOk s := by
  unfold stateOk
  rw [Bool.and_eq_true, allI_iff, allI_iff]
  constructor
  · rintro ⟨h1, h2⟩
    unfold itemOkS at h1; unfold floorOkS at h2
    simp only [Bool.and_eq_true, Bool.not_eq_true', decide_eq_false_iff_not] at h1 h2
    refine ⟨fun x hx => ?_, chain_pairwise (fun x : ItemT => x.1) _ fun j hj => ?_, fun f hf => ?_, chain_pairwise (fun x : FloorT => x.1) _ fun j hj => ?_⟩
    · obtain ⟨i, hi, rfl⟩ := mem_gt hx
      obtain ⟨a, b, c, d⟩ := h1 i hi
      exact ⟨a, c, by omega⟩
    · have := (h1 (j + 1) hj).2.1
      unfold prevB at this
      simpa using this
    · obtain ⟨i, hi, rfl⟩ := mem_gt hf
      obtain ⟨a, b, c⟩ := h2 i hi
      exact ⟨a, c⟩
    · have := (h2 (j + 1) hj).2.1
      unfold prevB at this
      simpa using this
  · rintro ⟨h1, h2, h3, h4⟩
    unfold itemOkS floorOkS
    simp only [Bool.and_eq_true, Bool.not_eq_true', decide_eq_false_iff_not]
    refine ⟨fun i hi => ?_, fun i hi => ?_⟩
    · obtain ⟨a, b, c⟩ := h1 _ (gt_mem hi)
      refine ⟨a, ?_, b, by omega⟩
      cases i with
      | zero => rfl
      | succ j => have := pairwise_chain (k := fun x : ItemT => x.1) h2 j hi
                  show (!decide _) = true
                  simpa using this
    · obtain ⟨a, b⟩ := h3 _ (gt_mem hi)
      refine ⟨a, ?_, b⟩
      cases i with
      | zero => rfl
      | succ j => have := pairwise_chain (k := fun x : FloorT => x.1) h4 j hi
                  show (!decide _) = true
                  simpa using this
theorem nodes_len {α : Type} [Inhabited α] {k : α → Int} {xs : List α} (h : xs.Pairwise (fun x y => k x < k y)) (hn : ∀ x ∈ xs, nodeB (k x) = true) : xs.length ≤ 5 := by
  have : ∀ i, i < xs.length → (i : Int) ≤ k (gt xs i) := by
    intro i
    induction i with
    | zero => intro hi; have := hn _ (gt_mem hi); unfold nodeB at this; rw [inB_iff] at this; exact this.1
    | succ j ih => intro hi; have := ih (by omega); have := pairwise_chain h j hi; omega
  rcases Nat.lt_or_ge 5 xs.length with h5 | h5
  · have h6 := this 5 h5
    have := hn _ (gt_mem h5); unfold nodeB at this; rw [inB_iff] at this; omega
  · exact h5
theorem StateOk.len {s : StateT} (h : StateOk s) : s.1.length ≤ 5 ∧ s.2.1.length ≤ 5 := ⟨nodes_len (k := fun x : ItemT => x.1) h.items fun x hx => (h.item x hx).1, nodes_len (k := fun x : FloorT => x.1) h.floors fun x hx => (h.floor x hx).1⟩
theorem floorOf_filter (fs : List FloorT) (P : Int → Bool) {id : Int} (hP : P id = true) : floorOf (fs.filter fun f => P f.1) id = floorOf fs id := by
  rw [floorOf_find, floorOf_find, List.find?_filter]
  have : (fun f : FloorT => P f.1 && f.1 == id) = fun f => f.1 == id := by
    funext f
    cases h : f.1 == id with
    | false => simp
    | true => have := eq_of_beq h; rw [this, hP]; rfl
  rw [show (fun a : FloorT => decide (P a.1 = true ∧ (a.1 == id) = true)) = fun f => f.1 == id from ?_]
  rw [← this]; funext f; simp; rfl
theorem StateOk.slice {s : StateT} (h : StateOk s) (ls : List NumT) : StateOk (sliceS s ls) := by
  refine ⟨fun x hx => ?_, h.items.filter _, fun f hf => h.floor f (List.mem_filter.1 hf).1, h.floors.filter _⟩
  obtain ⟨h1, h2⟩ := List.mem_filter.1 hx
  obtain ⟨a, b, c⟩ := h.item x h1
  refine ⟨a, b, ?_⟩
  show floorOf (s.2.1.filter fun f => hasN ls (leafOf f.1)) x.1 < _
  rw [floorOf_filter s.2.1 (fun i => hasN ls (leafOf i)) h2]; exact c
end Go.Abs
/- Plain laws: logs, vectors, tables, exchanges, nodes and worlds. -/
namespace Go.Abs
set_option linter.unusedVariables false
theorem putText_len (s : ByteArray) : (putText s).length ≤ 5 + ByteArray.size s := by
  unfold putText; rw [List.length_append, bytesN_len]
  have := putNum_len ((ByteArray.size s : Nat) : Int); omega
theorem itemBytes_len {x : ItemT} (h : entryOk x.2 = true) : (itemBytes x).length ≤ 38 := by
  have h8 : ByteArray.size x.2.2.2.2.2.1 ≤ 8 := by
    unfold entryOk at h; simp only [Bool.and_eq_true, decide_eq_true_eq] at h; omega
  have h1 := putText_len x.2.2.2.2.2.1
  have h2 := putNum_len x.1; have h3 := putNum_len x.2.1; have h4 := putNum_len x.2.2.1; have h5 := putNum_len x.2.2.2.1; have h6 := putNum_len x.2.2.2.2.1
  unfold itemBytes; simp only [List.length_append]; omega
theorem floorBytes_len (f : FloorT) : (floorBytes f).length ≤ 10 := by
  have h2 := putNum_len f.1; have h3 := putNum_len f.2.1
  unfold floorBytes; simp only [List.length_append]; omega
theorem StateOk.size {s : StateT} (h : StateOk s) {x : ItemT} (hx : x ∈ s.1) : ByteArray.size x.2.2.2.2.2.1 ≤ 8 := by
  have h := (h.item x hx).2.1
  unfold entryOk at h; simp only [Bool.and_eq_true, decide_eq_true_eq] at h; omega
def five (x : ItemT) : List NumT := [(x.1, ()), (x.2.1, ()), (x.2.2.1, ()), (x.2.2.2.1, ()), (x.2.2.2.2.1, ())]
theorem five_acc (x : ItemT) (acc : List NumT) : acc ++ accL 5 (fun k => putNum (gt (five x) k).1) ++ putText x.2.2.2.2.2.1 = acc ++ itemBytes x := by
  have : accL 5 (fun k => putNum (gt (five x) k).1) = (five x).flatMap fun y => putNum y.1 := accL_flat (fun y : NumT => putNum y.1) (five x)
  rw [this]; unfold five itemBytes
  simp only [List.flatMap_cons, List.flatMap_nil, List.append_nil, List.append_assoc]
theorem parts_ok {ps : List RowT} {L : Nat} (h : ∀ r ∈ ps, r.1.length ≤ L) : ∀ i, i < ps.length → (gt ps i).1.length ≤ L := fun i hi => h _ (gt_mem hi)
theorem bytes_len {s : StateT} (h : StateOk s) : (bytesS s).length ≤ 250 := by
  have h5 := h.len
  have h1 := putNum_len ((s.1.length : Nat) : Int); have h2 := putNum_len ((s.2.1.length : Nat) : Int)
  have h3 : (s.1.flatMap itemBytes).length ≤ s.1.length * 38 := by
    rw [← accL_flat]; exact accL_len fun i hi => itemBytes_len (h.item _ (gt_mem hi)).2.1
  have h4 : (s.2.1.flatMap floorBytes).length ≤ s.2.1.length * 10 := by
    rw [← accL_flat]; exact accL_len fun i hi => floorBytes_len _
  unfold bytesS; simp only [List.length_append]; omega
-- logs
def logOk (l : LogT) : Bool := inB l.1 1 8 && (!decide (((l.2.2.1.length : Nat) : Int) > l.1) && (inB l.2.1 0 100000 && (!decide (IntKind.i64.wrap (l.2.1 + ((l.2.2.1.length : Nat) : Int)) > 100000) && allI l.2.2.1.length fun i => stateOk (gt l.2.2.1 i))))
def logOkI (l : LogT) : Bool := (allI l.2.2.1.length fun i => stateOk (gt l.2.2.1 i)) && (inB l.1 1 8 && (decide (((l.2.2.1.length : Nat) : Int) ≤ l.1) && (inB l.2.1 0 100000 && decide (IntKind.i64.wrap (l.2.1 + ((l.2.2.1.length : Nat) : Int)) ≤ 100000))))
theorem not_gt (a b : Int) : (!decide (a > b)) = decide (a ≤ b) := by rw [Bool.eq_iff_iff]; simp
theorem logOk_I (l : LogT) : logOkI l = logOk l := by
  unfold logOk logOkI; rw [not_gt, not_gt]; ac_rfl
def logSeq (l : LogT) : Int := bif logOk l then IntKind.i64.wrap (l.2.1 + ((l.2.2.1.length : Nat) : Int)) else 0
-- vectors and tables
def vecOk (v : List NumT) (n : Int) : Bool := inB n 1 5 && (((v.length : Nat) : Int) == n && allI v.length fun i => inB (gt v i).1 0 100000)
def vecOkI (v : List NumT) (n : Int) : Bool := (allI v.length fun i => inB (gt v i).1 0 100000) && (inB n 1 5 && ((v.length : Nat) : Int) == n)
theorem vecOk_I (v : List NumT) (n : Int) : vecOkI v n = vecOk v n := by unfold vecOk vecOkI; ac_rfl
def lineOk (r : RowT) : Bool := ((r.1.length : Nat) : Int) == 5 && allI r.1.length fun i => inB (gt r.1 i).1 0 1000
def lineOkI (r : RowT) : Bool := (allI r.1.length fun i => inB (gt r.1 i).1 0 1000) && ((r.1.length : Nat) : Int) == 5
def tableOk (t : List RowT) (n : Int) : Bool := inB n 1 5 && (((t.length : Nat) : Int) == n && allI t.length fun k => lineOk (gt t k))
def tableOkI (t : List RowT) (n : Int) : Bool := (allI t.length fun k => lineOkI (gt t k)) && (inB n 1 5 && ((t.length : Nat) : Int) == n)
theorem tableOk_I (t : List RowT) (n : Int) : tableOkI t n = tableOk t n := by
  unfold tableOk tableOkI
  rw [allI_congr (ok := fun k => lineOkI (gt t k)) (ok' := fun k => lineOk (gt t k)) fun k _ => by unfold lineOk lineOkI; ac_rfl]
  ac_rfl
def maxTo (v : List NumT) : Nat → Int
  | 0 => (gt v 0).1
  | j + 1 => mxI true (maxTo v j) (gt v (j + 1)).1
theorem maxTo_le (v : List NumT) (m : Int) : ∀ j, maxTo v j ≤ m ↔ ∀ i, i ≤ j → (gt v i).1 ≤ m
  | 0 => ⟨fun h i hi => by have : i = 0 := by omega
                           subst this; exact h, fun h => h 0 (Nat.le_refl 0)⟩
  | j + 1 => by
    unfold maxTo mxI
    have ih := maxTo_le v m j
    constructor
    · intro h i hi
      simp only [if_true] at h
      rcases Nat.lt_or_ge j i with h1 | h1
      · have : i = j + 1 := by omega
        subst this; split at h <;> omega
      · exact (ih.1 (by split at h <;> omega)) i h1
    · intro h
      have h1 := ih.2 fun i hi => h i (by omega)
      have h2 := h (j + 1) (Nat.le_refl _)
      simp only [if_true]; split <;> assumption
def maxV (v : List NumT) : Int := maxTo v (v.length - 1)
theorem maxV_le {v : List NumT} (hv : 0 < v.length) (m : Int) : (!decide (maxV v > m)) = allI v.length fun i => !decide ((gt v i).1 > m) := by
  rw [Bool.eq_iff_iff, allI_iff, not_gt, decide_eq_true_eq]
  unfold maxV
  rw [maxTo_le]
  simp only [not_gt, decide_eq_true_eq]
  exact ⟨fun h i hi => h i (by omega), fun h i hi => h i (by omega)⟩
-- exchanges
def sameSess (v : List SessT) (k : Nat) (peer : Int) (inn : Bool) : Bool := (gt v k).1 == peer && beqB (gt v k).2.2.1 inn
def onceB (v : List SessT) (i : Nat) : Bool := allI i fun k => !sameSess v k (gt v i).1 (gt v i).2.2.1
def slotOf (v : List SessT) (peer : Int) (inn : Bool) : Int := match (List.range v.length).find? (fun k => sameSess v k peer inn) with
  | some k => (k : Int)
  | none => -1
theorem beqB_iff {a b : Bool} : beqB a b = true ↔ a = b := by cases a <;> cases b <;> decide
theorem slotOf_self {v : List SessT} {i : Nat} (hi : i < v.length) : (slotOf v (gt v i).1 (gt v i).2.2.1 == (i : Int)) = onceB v i := by
  have hs : sameSess v i (gt v i).1 (gt v i).2.2.1 = true := by unfold sameSess; rw [Bool.and_eq_true]; exact ⟨by simp, beqB_self _⟩
  rw [Bool.eq_iff_iff]
  unfold slotOf onceB
  rw [allI_iff]
  cases h : (List.range v.length).find? (fun k => sameSess v k (gt v i).1 (gt v i).2.2.1) with
  | none =>
    rw [List.find?_eq_none] at h
    exact absurd hs (h i (List.mem_range.2 hi))
  | some k =>
    rw [List.find?_range_eq_some] at h
    obtain ⟨h1, h2, h3⟩ := h
    constructor
    · intro e j hj
      have e' : (k : Int) = (i : Int) := by simpa using e
      have : k = i := by omega
      subst this; exact h3 j hj
    · intro e
      rcases Nat.lt_trichotomy k i with h4 | h4 | h4
      · have := e k h4; rw [h1] at this; cases this
      · subst h4; simp
      · have := h3 i h4; rw [hs] at this; cases this
def sessEach (n : NodeT) (v : List SessT) (i : Nat) : Bool := inB (gt v i).1 0 (IntKind.i64.wrap (n.2.1 - 1)) && (!((gt v i).1 == n.1) && (inB (gt v i).2.1 0 100000 && (inB (gt v i).2.2.2.1 0 n.2.2.2.2.2.2.2.2.2.2.2.2.2.2.2.1 && onceB v i)))
abbrev NodeT.sess (n : NodeT) : List SessT := n.2.2.2.2.2.2.2.2.2.2.2.2.2.2.1
abbrev NodeT.slots (n : NodeT) : Int := n.2.2.2.2.2.2.2.2.2.2.2.2.2.1
abbrev NodeT.rises (n : NodeT) : List RiseT := n.2.2.2.2.2.2.2.2.2.2.2.2.2.2.2.2.2.2.1
abbrev NodeT.clock (n : NodeT) : Int := n.2.2.2.2.2.2.2.2.2.2.2.2.2.2.2.2.2.1
abbrev NodeT.limit (n : NodeT) : Int := n.2.2.2.2.2.2.2.2.2.2.2.2.2.2.2.2.1
abbrev NodeT.wait (n : NodeT) : Int := n.2.2.2.2.2.2.2.2.2.2.2.2.2.2.2.1
abbrev NodeT.num (n : NodeT) : Int := n.2.2.2.2.2.2.2.2.2.2.2.2.1
abbrev NodeT.seen (n : NodeT) : List RowT := n.2.2.2.2.2.2.2.2.2.2.2.1
abbrev NodeT.acked (n : NodeT) : List NumT := n.2.2.2.2.2.2.2.2.2.2.1
abbrev NodeT.got (n : NodeT) : List NumT := n.2.2.2.2.2.2.2.2.2.1
abbrev NodeT.log (n : NodeT) : LogT := (n.2.2.2.2.2.2.1, n.2.2.2.2.2.2.2.1, n.2.2.2.2.2.2.2.2.1, ())
abbrev NodeT.tree (n : NodeT) : TreeT := (n.2.2.2.2.1, n.2.2.2.2.2.1, ())
abbrev NodeT.state (n : NodeT) : StateT := (n.2.2.1, n.2.2.2.1, ())
def sessOk (n : NodeT) : Bool := !decide (((n.sess.length : Nat) : Int) > n.slots) && allI n.sess.length (sessEach n n.sess)
def peerB (n : NodeT) (x : Int) : Bool := inB x 0 (IntKind.i64.wrap (n.2.1 - 1)) && x != n.1
def sessEachI (n : NodeT) (v : List SessT) (i : Nat) : Bool := peerB n (gt v i).1 && (inB (gt v i).2.1 0 100000 && (inB (gt v i).2.2.2.1 0 n.wait && slotOf v (gt v i).1 (gt v i).2.2.1 == (i : Int)))
def sessOkI (n : NodeT) : Bool := allI n.sess.length (sessEachI n n.sess) && (inB n.slots 1 4 && decide (((n.sess.length : Nat) : Int) ≤ n.slots))
theorem sessOk_I (n : NodeT) : sessOkI n = (inB n.slots 1 4 && sessOk n) := by
  unfold sessOk sessOkI
  rw [not_gt, allI_congr (ok := sessEachI n n.sess) (ok' := sessEach n n.sess) fun i hi => ?_]
  · ac_rfl
  · unfold sessEach sessEachI peerB
    rw [slotOf_self hi, show ((gt n.sess i).1 != n.1) = !((gt n.sess i).1 == n.1) from rfl, Bool.and_assoc]
def riseEach (n : NodeT) (i : Nat) : Bool := inB (gt n.rises i).1 0 1000 && (inB (gt n.rises i).2.1 0 100000 && inB (gt n.rises i).2.2.1 0 n.clock)
def risesOkI (n : NodeT) : Bool := allI n.rises.length (riseEach n) && ((n.rises.length : Nat) : Int) == 5
def treeSame (n : NodeT) : Bool := sameN n.tree.1 (treeOf n.state).1 && n.tree.2.1 == (treeOf n.state).2.1
def nodeTail (n : NodeT) : Bool := inB n.num 0 100000 && (inB n.clock 0 100000 && (inB n.slots 1 4 && (inB n.wait 1 20 && (inB n.limit 1 50 && (((n.rises.length : Nat) : Int) == 5 && (allI n.rises.length (riseEach n) && sessOk n))))))
def ackOk (n : NodeT) : Bool := allI n.acked.length fun i => !decide ((gt n.acked i).1 > logSeq n.log)
def nodeOk (n : NodeT) : Bool := inB n.2.1 1 5 && (inB n.1 0 (IntKind.i64.wrap (n.2.1 - 1)) && (stateOk n.state && (treeSame n && (logOk n.log && (vecOk n.got n.2.1 && (vecOk n.acked n.2.1 &&
  ((gt n.got n.1.toNat).1 == logSeq n.log && (tableOk n.seen n.2.1 && (ackOk n && nodeTail n)))))))))
def nodeOkI (n : NodeT) : Bool := inB n.2.1 1 5 && (inB n.1 0 (IntKind.i64.wrap (n.2.1 - 1)) && (stateOk n.state && (treeSame n && (logOk n.log && (vecOk n.got n.2.1 && (vecOk n.acked n.2.1 &&
  ((gt n.got n.1.toNat).1 == logSeq n.log && (!decide (maxV n.acked > logSeq n.log) && (tableOk n.seen n.2.1 && (inB n.num 0 100000 && (inB n.clock 0 100000 && (inB n.wait 1 20 && (inB n.limit 1 50 && (sessOkI n && risesOkI n))))))))))))))
theorem vecOk_pos {v : List NumT} {n : Int} (h : vecOk v n = true) : 0 < v.length := by
  unfold vecOk at h; simp only [Bool.and_eq_true, inB_iff, beq_iff_eq] at h; omega
theorem nodeOk_I (n : NodeT) : nodeOkI n = nodeOk n := by
  unfold nodeOkI nodeOk
  cases h : vecOk n.acked n.2.1 with
  | false => simp only [Bool.false_and, Bool.and_false]
  | true =>
    rw [maxV_le (vecOk_pos h), sessOk_I]
    unfold risesOkI nodeTail ackOk
    ac_rfl
-- worlds
def nodeEach (w : WorldT) (i : Nat) : Bool := nodeOk (gt w.1 i) && ((gt w.1 i).2.1 == ((w.1.length : Nat) : Int) && (gt w.1 i).1 == (i : Int))
def saidEach (w : WorldT) (i : Nat) : Bool := inB (gt w.2.2.1 i).1 0 (IntKind.i64.wrap (((w.1.length : Nat) : Int) - 1)) && stateOk (gt w.2.2.1 i).2
def worldOk (w : WorldT) : Bool := inB ((w.1.length : Nat) : Int) 1 5 && (!decide (((w.2.1.length : Nat) : Int) > 12) && (!decide (((w.2.2.1.length : Nat) : Int) > 40) &&
  (allI w.1.length (nodeEach w) && (allI w.2.1.length (fun i => inB (gt w.2.1 i).1 0 (IntKind.i64.wrap (((w.1.length : Nat) : Int) - 1))) && allI w.2.2.1.length (saidEach w)))))
-- sizes that a machine holds
structure SzS (s : StateT) : Prop where
  a : s.1.length ≤ small
  b : s.2.1.length ≤ small
structure SzN (n : NodeT) : Prop where
  state : SzS n.state
  leaves : n.tree.1.length ≤ small
  list : n.log.2.2.1.length ≤ small
  logs : ∀ i, i < n.log.2.2.1.length → SzS (gt n.log.2.2.1 i)
  got : n.got.length ≤ small
  acked : n.acked.length ≤ small
  seen : n.seen.length ≤ small
  lines : ∀ i, i < n.seen.length → (gt n.seen i).1.length ≤ small
  sess : n.sess.length ≤ small
  rises : n.rises.length ≤ small
structure SzW (w : WorldT) : Prop where
  nodes : w.1.length ≤ small
  node : ∀ i, i < w.1.length → SzN (gt w.1 i)
  net : w.2.1.length ≤ small
  said : w.2.2.1.length ≤ small
  part : ∀ i, i < w.2.2.1.length → SzS (gt w.2.2.1 i).2
end Go.Abs
/- Small rows have small sizes. -/
namespace Go.Abs
set_option linter.unusedVariables false
theorem tsl {ks : List Kd} {xs : List (Row ks)} (h : TSm (.sl ks) xs) : xs.length ≤ small ∧ ∀ i (hi : i < xs.length), Small ks xs[i] := ⟨h.1, fun i hi => h.2 i _ (at_lt hi)⟩
abbrev kEntry : List Kd := [.int .i64, .int .i64, .int .i64, .int .i64, .str]
abbrev kItem : List Kd := .int .i64 :: kEntry
abbrev kFloor : List Kd := [.int .i64, .int .i64]
abbrev kState : List Kd := [.sl kItem, .sl kFloor]
abbrev kNum : List Kd := [.int .i64]
abbrev kLine : List Kd := [.sl kNum]
abbrev kSess : List Kd := [.int .i64, .int .i64, .bool, .int .i64]
abbrev kRise : List Kd := [.int .i64, .int .i64, .int .i64]
abbrev kNode : List Kd := [.int .i64, .int .i64, .sl kItem, .sl kFloor, .sl kNum, .int .i64, .int .i64, .int .i64, .sl kState, .sl kNum, .sl kNum, .sl kLine, .int .i64, .int .i64, .sl kSess, .int .i64, .int .i64, .int .i64, .sl kRise]
abbrev kPack : List Kd := [.int .i64, .sl [.int .u8], .bool]
abbrev kSaid : List Kd := [.int .i64, .sl kItem, .sl kFloor]
abbrev kWorld : List Kd := [.sl kNode, .sl kPack, .sl kSaid]
theorem gt_of {α : Type} [Inhabited α] {xs : List α} {P : α → Prop} (h : ∀ i (hi : i < xs.length), P xs[i]) : ∀ i, i < xs.length → P (gt xs i) := fun i hi => by rw [gt_eq hi]; exact h i hi
theorem szS_of {s : StateT} (h : Small kState s) : SzS s := ⟨(tsl (shd h)).1, (tsl (shd (stl h))).1⟩
theorem szN_of {n : NodeT} (h : Small kNode n) : SzN n where
  state := ⟨(tsl (shd (stl (stl h)))).1, (tsl (shd (stl (stl (stl h))))).1⟩
  leaves := (tsl (shd (stl (stl (stl (stl h)))))).1
  list := (tsl (shd (stl (stl (stl (stl (stl (stl (stl (stl h)))))))))).1
  logs := gt_of (P := SzS) fun i hi => szS_of ((tsl (shd (stl (stl (stl (stl (stl (stl (stl (stl h)))))))))).2 i hi)
  got := (tsl (shd (stl (stl (stl (stl (stl (stl (stl (stl (stl h))))))))))).1
  acked := (tsl (shd (stl (stl (stl (stl (stl (stl (stl (stl (stl (stl h)))))))))))).1
  seen := (tsl (shd (stl (stl (stl (stl (stl (stl (stl (stl (stl (stl (stl h))))))))))))).1
  lines := gt_of (P := fun r : RowT => r.1.length ≤ small) fun i hi => (tsl (shd ((tsl (shd (stl (stl (stl (stl (stl (stl (stl (stl (stl (stl (stl h))))))))))))).2 i hi))).1
  sess := (tsl (shd (stl (stl (stl (stl (stl (stl (stl (stl (stl (stl (stl (stl (stl (stl h)))))))))))))))).1
  rises := (tsl (shd (stl (stl (stl (stl (stl (stl (stl (stl (stl (stl (stl (stl (stl (stl (stl (stl (stl (stl h)))))))))))))))))))).1
theorem szW_of {w : WorldT} (h : Small kWorld w) : SzW w where
  nodes := (tsl (shd h)).1
  node := gt_of (P := SzN) fun i hi => szN_of ((tsl (shd h)).2 i hi)
  net := (tsl (shd (stl h))).1
  said := (tsl (shd (stl (stl h)))).1
  part := gt_of (P := fun x : SaidT => SzS x.2) fun i hi => szS_of (stl ((tsl (shd (stl (stl h)))).2 i hi))
end Go.Abs
/- Plain laws: views, sides, what is cleared, what is the same here. -/
namespace Go.Abs
set_option linter.unusedVariables false
def sideOk (w : WorldT) (v : List NumT) : Bool := worldOk w && ((v.length : Nat) : Int) == ((w.1.length : Nat) : Int)
theorem sideOk_len {w : WorldT} {v : List NumT} (h : sideOk w v = true) : v.length = w.1.length := by
  unfold sideOk at h; simp only [Bool.and_eq_true, beq_iff_eq] at h; omega
def viewS (s : StateT) : List ItemT := bif stateOk s then s.1.filter (fun x => x.2.2.1 == 0) else []
theorem viewS_len {s : StateT} (h : SzS s) : (viewS s).length ≤ small := by
  unfold viewS
  cases stateOk s with
  | false => exact Nat.zero_le _
  | true => exact Nat.le_trans (List.length_filter_le _ _) h.a
def eqItem (x y : ItemT) : Bool := beqI x.1 y.1 && ((beqI x.2.1 y.2.1 && (beqI x.2.2.1 y.2.2.1 && (beqI x.2.2.2.1 y.2.2.2.1 && (beqI x.2.2.2.2.1 y.2.2.2.2.1 && (beqS x.2.2.2.2.2.1 y.2.2.2.2.2.1 && true))))) && true)
def eqFloor (x y : FloorT) : Bool := beqI x.1 y.1 && (beqI x.2.1 y.2.1 && true)
def sameItems (a b : List ItemT) : Bool := ((a.length : Nat) : Int) == ((b.length : Nat) : Int) && allI a.length fun i => eqItem (gt a i) (gt b i)
def sameState (a b : StateT) : Bool := ((a.1.length : Nat) : Int) == ((b.1.length : Nat) : Int) && (((a.2.1.length : Nat) : Int) == ((b.2.1.length : Nat) : Int) && (allI a.1.length (fun i => eqItem (gt a.1 i) (gt b.1 i)) && allI a.2.1.length fun i => eqFloor (gt a.2.1 i) (gt b.2.1 i)))
theorem sameState_items (a b : List ItemT) : sameState (a, [], ()) (b, [], ()) = sameItems a b := by
  unfold sameState sameItems
  show (_ && (true && (_ && true))) = _
  rw [Bool.true_and, Bool.and_true]
theorem beqI_iff {a b : Int} : beqI a b = true ↔ a = b := by unfold beqI; simp
theorem bytes_beq {a b : ByteArray} : (a == b) = true ↔ a = b := by
  cases a with
  | mk x => cases b with
    | mk y =>
      show ByteArray.beq ⟨x⟩ ⟨y⟩ = true ↔ _
      simp [ByteArray.beq]
theorem eqItem_iff {x y : ItemT} : eqItem x y = true ↔ x = y := by
  obtain ⟨a, b, c, d, e, s, u⟩ := x
  obtain ⟨a', b', c', d', e', s', u'⟩ := y
  unfold eqItem beqI beqS
  simp only [Bool.and_eq_true, beq_iff_eq, bytes_beq, Prod.mk.injEq, and_true]
theorem eqFloor_iff {x y : FloorT} : eqFloor x y = true ↔ x = y := by
  obtain ⟨a, b, u⟩ := x
  obtain ⟨a', b', u'⟩ := y
  unfold eqFloor beqI
  simp only [Bool.and_eq_true, beq_iff_eq, Prod.mk.injEq, and_true]
theorem ext_gt {α : Type} [Inhabited α] {a b : List α} (hl : a.length = b.length) (h : ∀ i, i < a.length → gt a i = gt b i) : a = b :=
  List.ext_getElem hl fun i h1 h2 => by have := h i h1; rw [gt_eq h1, gt_eq h2] at this; exact this
theorem sameItems_iff {a b : List ItemT} : sameItems a b = true ↔ a = b := by
  unfold sameItems
  rw [Bool.and_eq_true, allI_iff, beq_iff_eq]
  constructor
  · rintro ⟨h1, h2⟩
    exact ext_gt (by omega) fun i hi => eqItem_iff.1 (h2 i hi)
  · rintro rfl
    exact ⟨rfl, fun i _ => eqItem_iff.2 rfl⟩
theorem sameState_iff {a b : StateT} : sameState a b = true ↔ a = b := by
  obtain ⟨a1, a2, u⟩ := a
  obtain ⟨b1, b2, u'⟩ := b
  unfold sameState
  simp only [Bool.and_eq_true, allI_iff, beq_iff_eq]
  constructor
  · rintro ⟨h1, h2, h3, h4⟩
    have e1 : a1 = b1 := ext_gt (by omega) fun i hi => eqItem_iff.1 (h3 i hi)
    have e2 : a2 = b2 := ext_gt (by omega) fun i hi => eqFloor_iff.1 (h4 i hi)
    rw [e1, e2]
  · intro h
    cases h
    exact ⟨rfl, rfl, fun i _ => eqItem_iff.2 rfl, fun i _ => eqFloor_iff.2 rfl⟩
def clearedS (w : WorldT) : Bool := worldOk w && allI w.1.length fun i => (((viewS (gt w.1 i).state).length : Nat) : Int) == (((gt w.1 i).state.1.length : Nat) : Int)
def clearedI (w : WorldT) : Bool := (allI w.1.length fun k => allI (gt w.1 k).state.1.length fun i => !((gt (gt w.1 k).state.1 i).2.2.1 == 1)) && worldOk w
theorem worldOk_node {w : WorldT} (h : worldOk w = true) {i : Nat} (hi : i < w.1.length) : nodeOk (gt w.1 i) = true := by
  unfold worldOk nodeEach at h; simp only [Bool.and_eq_true, allI_iff] at h
  exact (h.2.2.2.1 i hi).1
theorem nodeOk_state {n : NodeT} (h : nodeOk n = true) : stateOk n.state = true := by
  unfold nodeOk at h; simp only [Bool.and_eq_true] at h; exact h.2.2.1
theorem rank_of {s : StateT} (h : stateOk s = true) {i : Nat} (hi : i < s.1.length) : (gt s.1 i).2.2.1 = 0 ∨ (gt s.1 i).2.2.1 = 1 := by
  have := (((stateOk_iff s).1 h).item _ (gt_mem hi)).2.1
  unfold entryOk at this; simp only [Bool.and_eq_true, inB_iff] at this; omega
theorem cleared_I (w : WorldT) : clearedI w = clearedS w := by
  unfold clearedI clearedS
  cases hw : worldOk w with
  | false => rw [Bool.and_false]; rfl
  | true =>
    rw [Bool.and_true, Bool.true_and]
    refine allI_congr fun k hk => ?_
    have hs := nodeOk_state (worldOk_node hw hk)
    have e : viewS (gt w.1 k).state = (gt w.1 k).state.1.filter (fun x => x.2.2.1 == 0) := by unfold viewS; rw [hs]; rfl
    rw [e, Bool.eq_iff_iff, allI_iff]
    simp only [beq_iff_eq, Int.natCast_inj, Bool.not_eq_true']
    rw [List.length_filter_eq_length_iff]
    constructor
    · intro h x hx
      obtain ⟨i, hi, rfl⟩ := mem_gt hx
      have := h i hi
      rcases rank_of hs hi with h0 | h0
      · rw [h0]; rfl
      · rw [h0] at this; cases this
    · intro h i hi
      have := h _ (gt_mem hi)
      have e := eq_of_beq this
      rw [e]; rfl
def hereB (w : WorldT) (v : List NumT) (k i : Nat) : Bool := !((gt v k).1 == (gt v i).1) || sameItems (viewS (gt w.1 k).state) (viewS (gt w.1 i).state)
def hereS (w : WorldT) (v : List NumT) : Bool := sideOk w v && allI v.length fun k => allI k fun i => hereB w v k i
def hereI (w : WorldT) (v : List NumT) : Bool := sideOk w v && allI w.1.length fun k => allI w.1.length fun i => hereB w v k i
theorem hereB_iff {w : WorldT} {v : List NumT} {k i : Nat} : hereB w v k i = true ↔ ((gt v k).1 = (gt v i).1 → viewS (gt w.1 k).state = viewS (gt w.1 i).state) := by
  unfold hereB
  rw [Bool.or_eq_true, sameItems_iff, Bool.not_eq_true']
  by_cases h : (gt v k).1 = (gt v i).1
  · simp [h]
  · simp [h]
theorem here_I (w : WorldT) (v : List NumT) : hereI w v = hereS w v := by
  unfold hereI hereS
  cases hs : sideOk w v with
  | false => rfl
  | true =>
    rw [Bool.true_and, Bool.true_and, sideOk_len hs, Bool.eq_iff_iff, allI_iff, allI_iff]
    simp only [allI_iff, hereB_iff]
    constructor
    · exact fun h k hk i hi => h k hk i (by omega)
    · intro h k hk i hi e
      rcases Nat.lt_trichotomy i k with h1 | h1 | h1
      · exact h k hk i h1 e
      · rw [h1]
      · exact (h i hi k h1 e.symm).symm
end Go.Abs
/- Plain laws: entries compared, states joined. -/
namespace Go.Abs
set_option linter.unusedVariables false
theorem call_step2 {β : Type} {o : Option Out} {A B : List Kd} {r : Row A} {s : Row B} {f : Rows [A, B] × Rows [] → Option β} (h : o = some ⟨[⟨A, r⟩, ⟨B, s⟩], []⟩) : (o.bind (castOut [A, B] [])).bind f = f ((r, s, ()), ()) := by
  rw [h]; exact cast2 r s f
def zeroE : EntryT := (0, 0, 0, 0, ⟨#[]⟩, ())
def entryOf (s : StateT) (id : Int) : EntryT × Bool := match (List.range s.1.length).find? (fun i => (gt s.1 i).1 == id) with
  | some i => ((gt s.1 i).2, true)
  | none => (zeroE, false)
theorem entryOf_cases (s : StateT) (id : Int) : (∃ x ∈ s.1, x.1 = id ∧ entryOf s id = (x.2, true)) ∨ ((∀ x ∈ s.1, x.1 ≠ id) ∧ entryOf s id = (zeroE, false)) := by
  unfold entryOf
  cases h : (List.range s.1.length).find? (fun i => (gt s.1 i).1 == id) with
  | none =>
    rw [List.find?_eq_none] at h
    refine .inr ⟨fun x hx => ?_, rfl⟩
    obtain ⟨i, hi, rfl⟩ := mem_gt hx
    have := h i (List.mem_range.2 hi)
    simpa using this
  | some i =>
    rw [List.find?_range_eq_some] at h
    exact .inl ⟨_, gt_mem (List.mem_range.1 h.2.1), eq_of_beq h.1, rfl⟩
theorem floorOf_cases (s : StateT) (id : Int) : (∃ x ∈ s.2.1, x.1 = id ∧ floorOf s.2.1 id = x.2.1) ∨ ((∀ x ∈ s.2.1, x.1 ≠ id) ∧ floorOf s.2.1 id = 0) := by
  unfold floorOf
  cases h : (List.range s.2.1.length).find? (fun i => (gt s.2.1 i).1 == id) with
  | none =>
    rw [List.find?_eq_none] at h
    refine .inr ⟨fun x hx => ?_, rfl⟩
    obtain ⟨i, hi, rfl⟩ := mem_gt hx
    have := h i (List.mem_range.2 hi)
    simpa using this
  | some i =>
    rw [List.find?_range_eq_some] at h
    exact .inl ⟨_, gt_mem (List.mem_range.1 h.2.1), eq_of_beq h.1, rfl⟩
-- entries compared
def l2 (a b : Int) : Int := bif decide (a < b) then -1 else bif decide (a > b) then 1 else 0
def cmpT (s t : ByteArray) : Int := Lib.compareBytes s.data.toList t.data.toList
def orN (ls : List NumT) : Int := match (List.range ls.length).find? (fun i => (gt ls i).1 != 0) with
  | some i => (gt ls i).1
  | none => 0
def cmpE (a b : EntryT) : Int := if l2 a.1 b.1 ≠ 0 then l2 a.1 b.1 else if l2 a.2.1 b.2.1 ≠ 0 then l2 a.2.1 b.2.1 else if l2 a.2.2.1 b.2.2.1 ≠ 0 then l2 a.2.2.1 b.2.2.1 else if l2 a.2.2.2.1 b.2.2.2.1 ≠ 0 then l2 a.2.2.2.1 b.2.2.2.1 else cmpT a.2.2.2.2.1 b.2.2.2.2.1
theorem orN_find (ls : List NumT) : orN ls = (match ls.find? (fun x : NumT => x.1 != 0) with | some x => x.1 | none => 0) := by
  have h := find_range (fun x : NumT => x.1 != 0) (fun x : NumT => x.1) 0 ls
  unfold orN
  cases h1 : (List.range ls.length).find? (fun i => (gt ls i).1 != 0) <;> cases h2 : ls.find? (fun x : NumT => x.1 != 0) <;> simp only [h1, h2] at h ⊢ <;> exact h
theorem orN_cons (x : Int) (ls : List NumT) : orN ((x, ()) :: ls) = if x ≠ 0 then x else orN ls := by
  rw [orN_find, orN_find, List.find?_cons]
  by_cases h : x = 0
  · subst h; rfl
  · have : ((x, ()) : NumT).1 != 0 := by simpa using h
    rw [this, if_pos h]
theorem orN_cmp (a b : EntryT) : orN [(l2 a.1 b.1, ()), (l2 a.2.1 b.2.1, ()), (l2 a.2.2.1 b.2.2.1, ()), (l2 a.2.2.2.1 b.2.2.2.1, ()), (cmpT a.2.2.2.2.1 b.2.2.2.2.1, ())] = cmpE a b := by
  unfold cmpE
  rw [orN_cons, orN_cons, orN_cons, orN_cons, orN_cons]
  have : (if cmpT a.2.2.2.2.1 b.2.2.2.2.1 ≠ 0 then cmpT a.2.2.2.2.1 b.2.2.2.2.1 else orN []) = cmpT a.2.2.2.2.1 b.2.2.2.2.1 := by
    by_cases h : cmpT a.2.2.2.2.1 b.2.2.2.2.1 = 0
    · rw [h]; rfl
    · rw [if_pos h]
  rw [this]
def bitI (b : Bool) : Int := bif b then 1 else 0
theorem cmp_bytes : ∀ x y : List UInt8, (bif Op.bytesLess x y then (-1 : Int) else bitI (!(Op.bytesLess x y || x == y))) = Lib.compareBytes x y
  | [], [] => rfl
  | [], _ :: _ => rfl
  | _ :: _, [] => rfl
  | a :: x, b :: y => by
    have ih := cmp_bytes x y
    unfold Op.bytesLess Lib.compareBytes
    by_cases h1 : a < b
    · simp [h1]
    · by_cases h2 : b < a
      · have hne : (a == b) = false := by
          simp only [beq_eq_false_iff_ne, ne_eq]; rintro rfl; exact h1 h2
        have hne' : (a :: x == b :: y) = false := by rw [List.cons_beq_cons, hne]; rfl
        rw [if_neg h1, if_pos h2, hne, hne']; simp [h1, bitI]
      · have he : a = b := by
          rcases UInt8.lt_or_lt_of_ne (a := a) (b := b) with h
          by_cases hab : a = b
          · exact hab
          · rcases UInt8.lt_or_lt_of_ne hab with h | h
            · exact absurd h h1
            · exact absurd h h2
        subst he
        rw [if_neg h1, if_neg h2, ← ih, List.cons_beq_cons]
        simp [h1]
end Go.Abs
/- Plain laws: joins, what was said, what lies beneath, what is over. -/
namespace Go.Abs
set_option linter.unusedVariables false
theorem l2_neg (a b : Int) : l2 b a = - l2 a b := by
  unfold l2
  rcases Int.lt_trichotomy a b with h | h | h
  · rw [decide_eq_true h, decide_eq_false (by omega : ¬ b < a)]; rfl
  · subst h; rw [decide_eq_false (by omega : ¬ a < a)]; rfl
  · rw [decide_eq_true h, decide_eq_false (by omega : ¬ a < b)]; rfl
theorem bytes_neg : ∀ x y : List UInt8, Lib.compareBytes y x = - Lib.compareBytes x y
  | [], [] => rfl
  | [], _ :: _ => rfl
  | _ :: _, [] => rfl
  | a :: x, b :: y => by
    unfold Lib.compareBytes
    by_cases h1 : a < b
    · have h2 : ¬ b < a := fun h => by rw [UInt8.lt_iff_toNat_lt] at h h1; omega
      simp [h1, h2]
    · by_cases h2 : b < a
      · simp [h1, h2]
      · simp [h1, h2, bytes_neg x y]
theorem ite_neg (x y : Int) : (if -x ≠ 0 then -x else -y) = -(if x ≠ 0 then x else y) := by
  by_cases h : x = 0
  · subst h; simp
  · rw [if_pos h, if_pos (by omega)]
theorem cmpE_neg (a b : EntryT) : cmpE b a = - cmpE a b := by
  unfold cmpE
  rw [l2_neg a.1 b.1, l2_neg a.2.1 b.2.1, l2_neg a.2.2.1 b.2.2.1, l2_neg a.2.2.2.1 b.2.2.2.1, show cmpT b.2.2.2.2.1 a.2.2.2.2.1 = - cmpT a.2.2.2.2.1 b.2.2.2.2.1 from bytes_neg _ _, ite_neg, ite_neg, ite_neg, ite_neg]
theorem cmpE_zero {y : EntryT} (h : 1 ≤ y.1) : cmpE zeroE y = -1 := by
  have e : l2 zeroE.1 y.1 = -1 := by
    unfold l2; rw [decide_eq_true (show zeroE.1 < y.1 from by show (0 : Int) < y.1; omega)]; rfl
  unfold cmpE; rw [e]; rfl
def orZ (z : Int) (ls : List NumT) : Int := match (List.range ls.length).find? (fun i => (gt ls i).1 != 0) with
  | some i => (gt ls i).1
  | none => z
theorem orZ_find (z : Int) (ls : List NumT) : orZ z ls = (match ls.find? (fun x : NumT => x.1 != 0) with | some x => x.1 | none => z) := by
  have h := find_range (fun x : NumT => x.1 != 0) (fun x : NumT => x.1) z ls
  unfold orZ
  cases h1 : (List.range ls.length).find? (fun i => (gt ls i).1 != 0) <;> cases h2 : ls.find? (fun x : NumT => x.1 != 0) <;> simp only [h1, h2] at h ⊢ <;> exact h
theorem orZ_cons (z x : Int) (ls : List NumT) : orZ z ((x, ()) :: ls) = if x ≠ 0 then x else orZ z ls := by
  rw [orZ_find, orZ_find, List.find?_cons]
  by_cases h : x = 0
  · subst h; rfl
  · have : ((x, ()) : NumT).1 != 0 := by simpa using h
    rw [this, if_pos h]
def four (a b : EntryT) : List NumT := [(l2 a.1 b.1, ()), (l2 a.2.1 b.2.1, ()), (l2 a.2.2.1 b.2.2.1, ()), (l2 a.2.2.2.1 b.2.2.2.1, ())]
theorem orZ_four (a b : EntryT) : orZ (cmpT a.2.2.2.2.1 b.2.2.2.2.1) (four a b) = cmpE a b := by
  unfold four cmpE
  rw [orZ_cons, orZ_cons, orZ_cons, orZ_cons]; rfl
theorem cmpT_spec (x y : ByteArray) : (bif Op.bytesLess (ByteArray.toList x) (ByteArray.toList y) then (-1 : Int) else bitI (!(Op.bytesLess (ByteArray.toList x) (ByteArray.toList y) || ByteArray.toList x == ByteArray.toList y))) = cmpT x y := by
  rw [ByteArray.toList_eq, ByteArray.toList_eq]; exact cmp_bytes _ _
/-- The cells of a state that a join leans on. -/
structure Pos (s : StateT) : Prop where
  item : ∀ x ∈ s.1, 1 ≤ x.2.1
  floor : ∀ f ∈ s.2.1, 0 ≤ f.2.1
theorem StateOk.pos {s : StateT} (h : StateOk s) : Pos s where
  item x hx := by
    have := (h.item x hx).2.1
    unfold entryOk at this; simp only [Bool.and_eq_true, inB_iff] at this; omega
  floor f hf := by have := (h.floor f hf).2; rw [inB_iff] at this; omega
theorem pos_nil : Pos ([], [], ()) := ⟨fun x hx => (List.not_mem_nil hx).elim, fun x hx => (List.not_mem_nil hx).elim⟩
def mxE (a b : EntryT) : EntryT := bif decide (cmpE a b < 0) then b else a
def pickE (a b : StateT) (i : Int) : EntryT := mxE (entryOf a i).1 (entryOf b i).1
def flr (a b : StateT) (i : Int) : Int := mxI true (floorOf a.2.1 i) (floorOf b.2.1 i)
def gItem (a b : StateT) (i : Nat) : List ItemT := bif decide ((pickE a b i).1 > flr a b i) then [((i : Int), pickE a b i)] else []
def gFloor (a b : StateT) (i : Nat) : List FloorT := bif decide (flr a b i > 0) then [((i : Int), flr a b i, ())] else []
def joinS (a b : StateT) : StateT := (accL 5 (gItem a b), accL 5 (gFloor a b), ())
theorem gItem_len (a b : StateT) (i : Nat) : (gItem a b i).length ≤ 1 := by unfold gItem; cases decide ((pickE a b i).1 > flr a b i) <;> simp
theorem gFloor_len (a b : StateT) (i : Nat) : (gFloor a b i).length ≤ 1 := by unfold gFloor; cases decide (flr a b i > 0) <;> simp
theorem joinS_len (a b : StateT) : (joinS a b).1.length ≤ 5 ∧ (joinS a b).2.1.length ≤ 5 :=
  ⟨accL_len (n := 5) (L := 1) fun i _ => gItem_len a b i, accL_len (n := 5) (L := 1) fun i _ => gFloor_len a b i⟩
theorem joinS_sz (a b : StateT) : SzS (joinS a b) := ⟨Nat.le_trans (joinS_len a b).1 (by decide), Nat.le_trans (joinS_len a b).2 (by decide)⟩
theorem flr_nn {a b : StateT} (ha : Pos a) (i : Int) : 0 ≤ flr a b i := by
  have h : 0 ≤ floorOf a.2.1 i := by
    rcases floorOf_cases a i with ⟨x, hx, _, e⟩ | ⟨_, e⟩
    · rw [e]; exact ha.floor x hx
    · omega
  unfold flr mxI; simp only [if_true]; split <;> omega
theorem mxE_zero : mxE zeroE zeroE = zeroE := by
  unfold mxE; cases decide (cmpE zeroE zeroE < 0) <;> rfl
theorem joinS_pos {a b : StateT} (ha : Pos a) : Pos (joinS a b) where
  item x hx := by
    obtain ⟨i, _, h⟩ := List.mem_flatMap.1 hx
    have hn := flr_nn (b := b) ha (i : Int)
    unfold gItem at h
    cases hd : decide ((pickE a b i).1 > flr a b i) with
    | false => rw [hd] at h; cases h
    | true => rw [hd] at h; have := of_decide_eq_true hd; have e := List.mem_singleton.1 h; rw [e]; show 1 ≤ (pickE a b i).1; omega
  floor f hf := by
    obtain ⟨i, _, h⟩ := List.mem_flatMap.1 hf
    have hn := flr_nn (b := b) ha (i : Int)
    unfold gFloor at h
    cases hd : decide (flr a b i > 0) with
    | false => rw [hd] at h; cases h
    | true => rw [hd] at h; have e := List.mem_singleton.1 h; rw [e]; exact hn
theorem pick_nn {a b : StateT} {i : Int} (ha : entryOf a i = (zeroE, false)) (hb : entryOf b i = (zeroE, false)) : pickE a b i = zeroE := by
  unfold pickE; rw [ha, hb]; exact mxE_zero
theorem pick_ny {a b : StateT} {i : Int} {y : EntryT} (ha : entryOf a i = (zeroE, false)) (hb : entryOf b i = (y, true)) (hy : 1 ≤ y.1) : pickE a b i = y := by
  unfold pickE mxE; rw [ha, hb]; rw [show cmpE (zeroE, false).1 (y, true).1 = -1 from cmpE_zero hy]; rfl
theorem pick_yn {a b : StateT} {i : Int} {x : EntryT} (ha : entryOf a i = (x, true)) (hb : entryOf b i = (zeroE, false)) (hx : 1 ≤ x.1) : pickE a b i = x := by
  unfold pickE mxE; rw [ha, hb]; rw [show cmpE (x, true).1 (zeroE, false).1 = 1 from by rw [show cmpE (x, true).1 (zeroE, false).1 = - cmpE zeroE x from cmpE_neg zeroE x, cmpE_zero hx]; rfl]; rfl
theorem pick_yy {a b : StateT} {i : Int} {x y : EntryT} (ha : entryOf a i = (x, true)) (hb : entryOf b i = (y, true)) : pickE a b i = bif decide (cmpE y x > 0) then y else x := by
  unfold pickE mxE; rw [ha, hb]
  show (bif decide (cmpE x y < 0) then y else x) = _
  rw [show decide (cmpE x y < 0) = decide (cmpE y x > 0) from ?_]
  rw [cmpE_neg x y]
  by_cases h : cmpE x y < 0
  · rw [decide_eq_true h, decide_eq_true (by omega)]
  · rw [decide_eq_false h, decide_eq_false (by omega)]
theorem gItem_pos {a b : StateT} {i : Nat} {e : EntryT} (he : pickE a b i = e) (h : e.1 > flr a b i) : gItem a b i = [((i : Int), e)] := by
  unfold gItem; rw [he, decide_eq_true h]; rfl
theorem gItem_neg {a b : StateT} {i : Nat} {e : EntryT} (he : pickE a b i = e) (h : ¬ e.1 > flr a b i) : gItem a b i = [] := by
  unfold gItem; rw [he, decide_eq_false h]; rfl
theorem gFloor_pos {a b : StateT} {i : Nat} (h : flr a b i > 0) : gFloor a b i = [((i : Int), flr a b i, ())] := by
  unfold gFloor; rw [decide_eq_true h]; rfl
theorem gFloor_neg {a b : StateT} {i : Nat} (h : ¬ flr a b i > 0) : gFloor a b i = [] := by
  unfold gFloor; rw [decide_eq_false h]; rfl
theorem entry_ok {s : StateT} (hs : Pos s) (i : Int) : (∃ x : EntryT, 1 ≤ x.1 ∧ entryOf s i = (x, true)) ∨ entryOf s i = (zeroE, false) := by
  rcases entryOf_cases s i with ⟨x, hx, _, e⟩ | ⟨_, e⟩
  · exact .inl ⟨x.2, hs.item x hx, e⟩
  · exact .inr e
-- less
def leqS (a b : StateT) : Bool := stateOk a && (stateOk b && sameState (joinS a b) b)
-- over
def gone (s : StateT) (id : Int) : Int := bif stateOk s then (bif (entryOf s id).2 then (bif (entryOf s id).1.2.1 == 0 then IntKind.i64.wrap ((entryOf s id).1.1 - 1) else (entryOf s id).1.1) else floorOf s.2.1 id) else 0
-- what was said
def nilS : StateT := ([], [], ())
def joinTo (g : Nat → StateT) : Nat → StateT
  | 0 => nilS
  | k + 1 => joinS (joinTo g k) (g k)
theorem nilS_sz : SzS nilS := ⟨Nat.zero_le _, Nat.zero_le _⟩
theorem joinTo_sz (g : Nat → StateT) : ∀ k, SzS (joinTo g k)
  | 0 => nilS_sz
  | k + 1 => joinS_sz _ _
theorem joinTo_pos (g : Nat → StateT) : ∀ k, Pos (joinTo g k)
  | 0 => pos_nil
  | k + 1 => joinS_pos (joinTo_pos g k)
def partOf (w : WorldT) (i : Nat) : StateT := (gt w.2.2.1 i).2
def allS (w : WorldT) : StateT := bif worldOk w then joinTo (partOf w) w.2.2.1.length else nilS
def saidTo (w : WorldT) (node m : Int) : Nat → Int × StateT
  | 0 => (0, nilS)
  | k + 1 => bif (gt w.2.2.1 k).1 == node && decide ((saidTo w node m k).1 < m) then ((saidTo w node m k).1 + 1, joinS (saidTo w node m k).2 (partOf w k)) else saidTo w node m k
theorem saidTo_inv (w : WorldT) (node m : Int) : ∀ k, 0 ≤ (saidTo w node m k).1 ∧ (saidTo w node m k).1 ≤ k ∧ SzS (saidTo w node m k).2 ∧ Pos (saidTo w node m k).2
  | 0 => ⟨Int.le_refl 0, Int.le_refl 0, nilS_sz, pos_nil⟩
  | k + 1 => by
    obtain ⟨h1, h2, h3, h4⟩ := saidTo_inv w node m k
    unfold saidTo
    cases (gt w.2.2.1 k).1 == node && decide ((saidTo w node m k).1 < m) with
    | false => exact ⟨h1, by show (saidTo w node m k).1 ≤ _; omega, h3, h4⟩
    | true => exact ⟨by show 0 ≤ (saidTo w node m k).1 + 1; omega, by show (saidTo w node m k).1 + 1 ≤ _; omega, joinS_sz _ _, joinS_pos h4⟩
theorem saidTo_full {w : WorldT} {node m : Int} {i : Nat} (h : ¬ (saidTo w node m i).1 < m) : ∀ d, saidTo w node m (i + d) = saidTo w node m i
  | 0 => rfl
  | d + 1 => by
    have ih := saidTo_full h d
    show saidTo w node m (i + d + 1) = _
    conv => lhs; unfold saidTo
    rw [ih, decide_eq_false h, Bool.and_false]; rfl
def saidBy (w : WorldT) (node m : Int) : StateT := bif worldOk w then (saidTo w node m w.2.2.1.length).2 else nilS
theorem saidTo_any {w : WorldT} {node m m' : Int} : ∀ k : Nat, (k : Int) ≤ m → (k : Int) ≤ m' → saidTo w node m k = saidTo w node m' k
  | 0, _, _ => rfl
  | k + 1, h, h' => by
    have ih := saidTo_any (w := w) (node := node) (m := m) (m' := m') k (by omega) (by omega)
    have h1 := (saidTo_inv w node m' k).2.1
    unfold saidTo; rw [ih, decide_eq_true (show (saidTo w node m' k).1 < m by omega), decide_eq_true (show (saidTo w node m' k).1 < m' by omega)]
def manyTo (w : WorldT) (node : Int) : Nat → Int
  | 0 => 0
  | k + 1 => manyTo w node k + bitI ((gt w.2.2.1 k).1 == node)
theorem manyTo_le (w : WorldT) (node : Int) : ∀ k, 0 ≤ manyTo w node k ∧ manyTo w node k ≤ k
  | 0 => ⟨Int.le_refl 0, Int.le_refl 0⟩
  | k + 1 => by
    have := manyTo_le w node k
    unfold manyTo bitI
    cases (gt w.2.2.1 k).1 == node with
    | false => show 0 ≤ manyTo w node k + 0 ∧ manyTo w node k + 0 ≤ _; omega
    | true => show 0 ≤ manyTo w node k + 1 ∧ manyTo w node k + 1 ≤ _; omega
def many (w : WorldT) (node : Int) : Int := manyTo w node w.2.2.1.length
def joinIn (w : WorldT) (ls : List NumT) : Nat → StateT
  | 0 => nilS
  | k + 1 => bif inB (gt ls k).1 0 (IntKind.i64.wrap (((w.2.2.1.length : Nat) : Int) - 1)) then joinS (joinIn w ls k) (partOf w (gt ls k).1.toNat) else joinIn w ls k
theorem joinIn_inv (w : WorldT) (ls : List NumT) : ∀ k, SzS (joinIn w ls k) ∧ Pos (joinIn w ls k)
  | 0 => ⟨nilS_sz, pos_nil⟩
  | k + 1 => by
    have h := joinIn_inv w ls k
    unfold joinIn
    cases inB (gt ls k).1 0 (IntKind.i64.wrap (((w.2.2.1.length : Nat) : Int) - 1)) with
    | false => exact h
    | true => exact ⟨joinS_sz _ _, joinS_pos h.2⟩
def joined (w : WorldT) (ls : List NumT) : StateT := bif worldOk w then joinIn w ls ls.length else nilS
theorem joined_sz (w : WorldT) (ls : List NumT) : SzS (joined w ls) := by
  unfold joined; cases worldOk w with
  | false => exact nilS_sz
  | true => exact (joinIn_inv w ls _).1
theorem allS_sz (w : WorldT) : SzS (allS w) := by
  unfold allS; cases worldOk w with
  | false => exact nilS_sz
  | true => exact joinTo_sz _ _
theorem saidBy_sz (w : WorldT) (a b : Int) : SzS (saidBy w a b) := by
  unfold saidBy; cases worldOk w with
  | false => exact nilS_sz
  | true => exact (saidTo_inv w a b _).2.2.1
def beneath (w : WorldT) (s : StateT) : List NumT := bif worldOk w && stateOk s then accL w.2.2.1.length (fun i => bif leqS (partOf w i) s then [((i : Int), ())] else []) else []
theorem beneath_len (w : WorldT) (s : StateT) (h : w.2.2.1.length ≤ small) : (beneath w s).length ≤ small := by
  unfold beneath
  cases worldOk w && stateOk s with
  | false => exact Nat.zero_le _
  | true =>
    have := accL_len (n := w.2.2.1.length) (g := fun i => bif leqS (partOf w i) s then [((i : Int), ())] else []) (L := 1) (fun i _ => by cases leqS (partOf w i) s <;> simp)
    show (accL w.2.2.1.length _).length ≤ small
    omega
def explained (w : WorldT) (s : StateT) : Bool := worldOk w && (stateOk s && sameItems (viewS s) (viewS (joined w (beneath w s))))
theorem worldOk_part {w : WorldT} (h : worldOk w = true) {i : Nat} (hi : i < w.2.2.1.length) : stateOk (partOf w i) = true := by
  unfold worldOk at h; simp only [Bool.and_eq_true, allI_iff] at h
  have := h.2.2.2.2.2 i hi
  unfold saidEach at this; simp only [Bool.and_eq_true] at this; exact this.2
theorem gone_I {s : StateT} (hs : stateOk s = true) (id : Int) : gone s id = (bif (entryOf s id).2 then (bif (entryOf s id).1.2.1 == 1 then (entryOf s id).1.1 else IntKind.i64.wrap ((entryOf s id).1.1 - 1)) else floorOf s.2.1 id) := by
  unfold gone; rw [hs]
  rcases entryOf_cases s id with ⟨x, hx, _, e⟩ | ⟨_, e⟩
  · rw [e]
    obtain ⟨i, hi, rfl⟩ := mem_gt hx
    show (bif (gt s.1 i).2.2.1 == 0 then _ else _) = bif (gt s.1 i).2.2.1 == 1 then _ else _
    rcases rank_of hs hi with h | h <;> rw [h] <;> rfl
  · rw [e]; rfl
end Go.Abs
/- Plain laws: what the judges decide. -/
namespace Go.Abs
set_option linter.unusedVariables false
def sameFloors (a b : List FloorT) : Bool := ((a.length : Nat) : Int) == ((b.length : Nat) : Int) && allI a.length fun i => eqFloor (gt a i) (gt b i)
theorem sameState_I (a b : StateT) : (sameItems a.1 b.1 && sameFloors a.2.1 b.2.1) = sameState a b := by
  unfold sameState sameItems sameFloors; ac_rfl
theorem gone_any {s : StateT} (hs : stateOk s = false) (id : Int) : gone s id = 0 := by unfold gone; rw [hs]; rfl
theorem gt_take {α : Type} [Inhabited α] {xs : List α} {k i : Nat} (hk : k < i) : gt ((xs.take i).drop 0) k = gt xs k := by
  unfold gt; rw [List.drop_zero, List.getD_eq_getElem?_getD, List.getD_eq_getElem?_getD, List.getElem?_take_of_lt hk]
theorem at_take {α β : Type} [Inhabited α] {xs : List α} {k i : Nat} {f : α → Option β} (hk : k < i) (hi : i ≤ xs.length) : (at? ((xs.take ((i : Int)).toNat).drop 0) ((k : Int)).toNat).bind f = f (gt xs k) := by
  have h : k < ((xs.take i).drop 0).length := by rw [List.drop_zero, List.length_take]; omega
  rw [Int.toNat_natCast i]
  exact (at_step h).trans (by rw [gt_take hk])
theorem lt_take {α : Type} {xs : List α} {k i : Nat} (hk : k < i) (hi : i ≤ xs.length) : (k : Int) < ((((xs.take ((i : Int)).toNat).drop 0).length : Nat) : Int) := by
  rw [Int.toNat_natCast i, List.drop_zero, List.length_take]; omega
theorem end_take {α : Type} {xs : List α} {i : Nat} (hi : i ≤ xs.length) : ¬ ((i : Int) < ((((xs.take ((i : Int)).toNat).drop 0).length : Nat) : Int)) := by
  rw [Int.toNat_natCast i, List.drop_zero, List.length_take]; omega
theorem bif_and2 {β : Type} {q r : Prop} [Decidable q] [Decidable r] {x y : β} (h : q) (h' : r) : (bif decide q && decide r then x else y) = x := by
  rw [decide_eq_true h, decide_eq_true h']; rfl
theorem and_bif2 {α : Type} {a b : Bool} {F R : α} : (bif a then (bif b then R else F) else F) = bif a && b then R else F := by cases a <;> cases b <;> rfl
theorem chkO {α : Type} {b c : Bool} {F R X : α} (h : b = false → X = bif c then R else F) : (bif b then R else X) = bif b || c then R else F := by
  cases b
  · exact h rfl
  · rfl
theorem chkN {α : Type} {b c : Bool} {F R X : α} (h : b = true → X = bif c then R else F) : (bif b then X else R) = bif !b || c then R else F := by
  cases b
  · rfl
  · exact h rfl
-- own
def ownEach (w : WorldT) (m : Int) (i : Nat) : Bool := logSeq (gt w.1 i).log == many w (i : Int) && leqS (saidBy w (i : Int) m) (gt w.1 i).state
def judgeOwn (w : WorldT) : Bool := worldOk w && allI w.1.length (ownEach w 40)
def ownEachI (w : WorldT) (i : Nat) : Bool := leqS (saidBy w (i : Int) ((w.2.2.1.length : Nat) : Int)) (gt w.1 i).state && logSeq (gt w.1 i).log == many w (i : Int)
def judgeOwnI (w : WorldT) : Bool := allI w.1.length (ownEachI w) && worldOk w
theorem worldOk_said {w : WorldT} (h : worldOk w = true) : ((w.2.2.1.length : Nat) : Int) ≤ 40 := by
  unfold worldOk at h; simp only [Bool.and_eq_true, Bool.not_eq_true', decide_eq_false_iff_not] at h; omega
theorem judgeOwn_I (w : WorldT) : judgeOwnI w = judgeOwn w := by
  unfold judgeOwn judgeOwnI
  cases hw : worldOk w with
  | false => rw [Bool.and_false]; rfl
  | true =>
    rw [Bool.and_true, Bool.true_and]
    refine allI_congr fun i _ => ?_
    have e : saidBy w (i : Int) ((w.2.2.1.length : Nat) : Int) = saidBy w (i : Int) 40 := by
      unfold saidBy; rw [saidTo_any _ (Int.le_refl _) (worldOk_said hw)]
    unfold ownEach ownEachI; rw [e, Bool.and_comm]
-- views
def viewEach (w : WorldT) (i k : Nat) : Bool := !sameN (beneath w (gt w.1 i).state) (beneath w (gt w.1 k).state) || sameItems (viewS (gt w.1 i).state) (viewS (gt w.1 k).state)
def judgeViews (w : WorldT) : Bool := worldOk w && allI w.1.length fun i => explained w (gt w.1 i).state && allI i (viewEach w i)
-- heard
def heardEach (w : WorldT) (p j : Nat) : Bool := (p : Int) == (j : Int) || (!decide ((gt (gt w.1 p).got j).1 > logSeq (gt w.1 j).log) && (leqS (saidBy w (j : Int) (gt (gt w.1 p).got j).1) (gt w.1 p).state && !decide ((gt (gt w.1 p).acked j).1 > (gt (gt w.1 j).got p).1)))
def judgeHeard (w : WorldT) : Bool := worldOk w && allI w.1.length fun p => allI w.1.length fun j => heardEach w p j
theorem worldOk_len {w : WorldT} (h : worldOk w = true) {i : Nat} (hi : i < w.1.length) : (gt w.1 i).got.length = w.1.length ∧ (gt w.1 i).acked.length = w.1.length ∧ (gt w.1 i).seen.length = w.1.length ∧ ∀ k, k < w.1.length → (gt (gt w.1 i).seen k).1.length = 5 := by
  unfold worldOk nodeEach at h; simp only [Bool.and_eq_true, allI_iff, beq_iff_eq] at h
  obtain ⟨h1, h2, h3⟩ := h.2.2.2.1 i hi
  unfold nodeOk at h1; simp only [Bool.and_eq_true] at h1
  obtain ⟨_, _, _, _, _, g1, g2, _, g3, _⟩ := h1
  unfold vecOk at g1 g2; unfold tableOk lineOk at g3
  simp only [Bool.and_eq_true, beq_iff_eq, allI_iff] at g1 g2 g3
  refine ⟨by omega, by omega, by omega, fun k hk => ?_⟩
  have := (g3.2.2 k (by omega)).1
  omega
-- seen
def seenId (w : WorldT) (p j : Nat) (id : Nat) : Bool := !decide ((gt (gt (gt w.1 p).seen j).1 id).1 > gone (gt w.1 j).state (id : Int)) && !decide (floorOf (gt w.1 p).state.2.1 (id : Int) > gone (gt w.1 j).state (id : Int))
def judgeSeen (w : WorldT) : Bool := worldOk w && allI w.1.length fun p => allI w.1.length fun j => allI 5 fun id => seenId w p j id
def seenIdI (w : WorldT) (p j : Nat) (id : Nat) : Bool := !decide ((gt (gt (gt w.1 p).seen j).1 id).1 > gone (gt w.1 j).state (id : Int))
def seenFl (w : WorldT) (p j : Nat) (f : Nat) : Bool := !decide (gone (gt w.1 j).state (gt (gt w.1 p).state.2.1 f).1 < (gt (gt w.1 p).state.2.1 f).2.1)
def judgeSeenI (w : WorldT) : Bool := worldOk w && allI w.1.length fun p => allI w.1.length fun j => allI 5 (seenIdI w p j) && allI (gt w.1 p).state.2.1.length (seenFl w p j)
theorem floorOf_self {s : StateT} (h : StateOk s) {f : FloorT} (hf : f ∈ s.2.1) : floorOf s.2.1 f.1 = f.2.1 := by
  rcases floorOf_cases s f.1 with ⟨x, hx, h1, e⟩ | ⟨h1, _⟩
  · have : x = f := by
      obtain ⟨i, hi, rfl⟩ := mem_gt hx
      obtain ⟨j, hj, rfl⟩ := mem_gt hf
      have hp := h.floors
      rw [List.pairwise_iff_getElem] at hp
      rcases Nat.lt_trichotomy i j with h2 | h2 | h2
      · have := hp i j hi hj h2; rw [← gt_eq hi, ← gt_eq hj] at this; omega
      · rw [h2]
      · have := hp j i hj hi h2; rw [← gt_eq hi, ← gt_eq hj] at this; omega
    rw [e, this]
  · exact absurd rfl (h1 f hf)
theorem gone_nn {s : StateT} (hs : stateOk s = true) (id : Int) : 0 ≤ gone s id := by
  have ok := (stateOk_iff s).1 hs
  unfold gone; rw [hs]
  rcases entryOf_cases s id with ⟨x, hx, _, e⟩ | ⟨_, e⟩
  · rw [e]
    have := (ok.item x hx).2.1
    unfold entryOk at this; simp only [Bool.and_eq_true, inB_iff] at this
    show 0 ≤ (bif x.2.2.1 == 0 then IntKind.i64.wrap (x.2.1 - 1) else x.2.1)
    rw [wrap64 (by omega) (by omega)]
    cases x.2.2.1 == 0 with
    | false => show 0 ≤ x.2.1; omega
    | true => show 0 ≤ x.2.1 - 1; omega
  · rw [e]
    show 0 ≤ floorOf s.2.1 id
    rcases floorOf_cases s id with ⟨x, hx, _, e⟩ | ⟨_, e⟩
    · rw [e]; exact ok.pos.floor x hx
    · omega
theorem judgeSeen_I (w : WorldT) : judgeSeenI w = judgeSeen w := by
  unfold judgeSeen judgeSeenI
  cases hw : worldOk w with
  | false => rfl
  | true =>
    rw [Bool.true_and, Bool.true_and]
    refine allI_congr fun p hp => allI_congr fun j hj => ?_
    have op := (stateOk_iff _).1 (nodeOk_state (worldOk_node hw hp))
    have oj := nodeOk_state (worldOk_node hw hj)
    rw [Bool.eq_iff_iff, Bool.and_eq_true, allI_iff, allI_iff, allI_iff]
    unfold seenIdI seenFl seenId
    simp only [Bool.and_eq_true, Bool.not_eq_true', decide_eq_false_iff_not]
    constructor
    · rintro ⟨h1, h2⟩ id hid
      refine ⟨h1 id hid, ?_⟩
      rcases floorOf_cases (gt w.1 p).state (id : Int) with ⟨x, hx, h3, e⟩ | ⟨_, e⟩
      · obtain ⟨i, hi, rfl⟩ := mem_gt hx
        have := h2 i hi
        rw [e, ← h3]; omega
      · rw [e]; have := gone_nn oj (id : Int); omega
    · intro h
      refine ⟨fun id hid => (h id hid).1, fun i hi => ?_⟩
      have hf : gt (gt w.1 p).state.2.1 i ∈ (gt w.1 p).state.2.1 := gt_mem hi
      have hn : nodeB (gt (gt w.1 p).state.2.1 i).1 = true := (op.floor _ hf).1
      unfold nodeB at hn; rw [inB_iff] at hn
      generalize gt (gt w.1 p).state.2.1 i = f at hf hn ⊢
      have := (h f.1.toNat (by omega)).2
      rw [show ((f.1.toNat : Nat) : Int) = f.1 from by omega, floorOf_self op hf] at this
      omega
def judgeAll (w : WorldT) : Bool := judgeOwn w && (judgeViews w && (judgeHeard w && judgeSeen w))
-- settled, known, grown
def settled (w : WorldT) : Bool := worldOk w && allI w.1.length fun i => sameItems (viewS (gt w.1 i).state) (viewS (allS w))
def settledI (w : WorldT) : Bool := (allI w.1.length fun i => sameItems (viewS (gt w.1 i).state) (viewS (allS w))) && worldOk w
theorem settled_I (w : WorldT) : settledI w = settled w := by unfold settled settledI; rw [Bool.and_comm]
def lookup (s : StateT) (id : Int) : EntryT × Bool := entryOf (viewS s, [], ()) id
def knownTo (w : WorldT) (id : Int) : Nat → Int
  | 0 => 0
  | k + 1 => knownTo w id k + bitI (lookup (gt w.1 k).state id).2
theorem knownTo_le (w : WorldT) (id : Int) : ∀ k, 0 ≤ knownTo w id k ∧ knownTo w id k ≤ k
  | 0 => ⟨Int.le_refl 0, Int.le_refl 0⟩
  | k + 1 => by
    have := knownTo_le w id k
    unfold knownTo bitI
    cases (lookup (gt w.1 k).state id).2 with
    | false => show 0 ≤ knownTo w id k + 0 ∧ knownTo w id k + 0 ≤ _; omega
    | true => show 0 ≤ knownTo w id k + 1 ∧ knownTo w id k + 1 ≤ _; omega
def known (w : WorldT) (id : Int) : Int := bif worldOk w then knownTo w id w.1.length else 0
def grownId (a b : StateT) (id : Nat) : Bool := !decide (gone b (id : Int) < gone a (id : Int)) && !((lookup b (id : Int)).2 && decide ((lookup b (id : Int)).1.1 ≤ gone a (id : Int)))
def judgeGrown (a b : WorldT) : Bool := worldOk a && (worldOk b && (((a.1.length : Nat) : Int) == ((b.1.length : Nat) : Int) && allI a.1.length fun i => leqS (gt a.1 i).state (gt b.1 i).state && allI 5 (grownId (gt a.1 i).state (gt b.1 i).state)))
def grownIdI (a b : StateT) (id : Nat) : Bool := !decide (gone b (id : Int) < gone a (id : Int))
def grownIt (a b : StateT) (i : Nat) : Bool := !decide ((gt (viewS b) i).2.1 ≤ gone a (gt (viewS b) i).1)
def judgeGrownI (a b : WorldT) : Bool := worldOk a && (worldOk b && (((a.1.length : Nat) : Int) == ((b.1.length : Nat) : Int) && allI a.1.length fun i => leqS (gt a.1 i).state (gt b.1 i).state && (allI 5 (grownIdI (gt a.1 i).state (gt b.1 i).state) && allI (viewS (gt b.1 i).state).length (grownIt (gt a.1 i).state (gt b.1 i).state))))
theorem viewS_ok {s : StateT} (hs : stateOk s = true) : viewS s = s.1.filter (fun x : ItemT => x.2.2.1 == 0) := by unfold viewS; rw [hs]; rfl
theorem grown_eq {a b : StateT} (hb : stateOk b = true) : (allI 5 (grownIdI a b) && allI (viewS b).length (grownIt a b)) = allI 5 (grownId a b) := by
  have ok := (stateOk_iff b).1 hb
  have hv : ∀ x ∈ viewS b, x ∈ b.1 := fun x hx => by rw [viewS_ok hb] at hx; exact (List.mem_filter.1 hx).1
  have hpw : (viewS b).Pairwise (fun x y : ItemT => x.1 < y.1) := by rw [viewS_ok hb]; exact ok.items.filter _
  rw [Bool.eq_iff_iff, Bool.and_eq_true, allI_iff, allI_iff, allI_iff]
  unfold grownIdI grownIt grownId
  simp only [Bool.and_eq_true, Bool.not_eq_true', decide_eq_false_iff_not, Bool.and_eq_false_iff]
  constructor
  · rintro ⟨h1, h2⟩ id hid
    refine ⟨h1 id hid, ?_⟩
    unfold lookup
    rcases entryOf_cases (viewS b, [], ()) (id : Int) with ⟨x, hx, h3, e⟩ | ⟨_, e⟩
    · obtain ⟨i, hi, rfl⟩ := mem_gt hx
      right
      have := h2 i hi
      rw [e, ← h3]; exact this
    · left; rw [e]
  · intro h
    refine ⟨fun id hid => (h id hid).1, fun i hi => ?_⟩
    have hm := gt_mem hi
    have hn := (ok.item _ (hv _ hm)).1
    unfold nodeB at hn; rw [inB_iff] at hn
    have h5 := (h (gt (viewS b) i).1.toNat (by omega)).2
    rw [show (((gt (viewS b) i).1.toNat : Nat) : Int) = (gt (viewS b) i).1 from by omega] at h5
    unfold lookup at h5
    rcases entryOf_cases (viewS b, [], ()) (gt (viewS b) i).1 with ⟨x, hx, h3, e⟩ | ⟨h3, _⟩
    · have ex : x = gt (viewS b) i := by
        obtain ⟨j, hj, rfl⟩ := mem_gt hx
        rw [List.pairwise_iff_getElem] at hpw
        rcases Nat.lt_trichotomy i j with h2 | h2 | h2
        · have := hpw i j hi hj h2; rw [← gt_eq hi, ← gt_eq hj] at this; omega
        · rw [h2]
        · have := hpw j i hj hi h2; rw [← gt_eq hi, ← gt_eq hj] at this; omega
      rw [e, ex] at h5
      rcases h5 with h5 | h5
      · cases h5
      · exact h5
    · exact absurd rfl (h3 _ hm)
theorem judgeGrown_I (a b : WorldT) : judgeGrownI a b = judgeGrown a b := by
  unfold judgeGrown judgeGrownI
  cases ha : worldOk a with
  | false => rfl
  | true =>
    cases hb : worldOk b with
    | false => rfl
    | true =>
      cases hl : ((a.1.length : Nat) : Int) == ((b.1.length : Nat) : Int) with
      | false => rfl
      | true =>
        rw [Bool.true_and, Bool.true_and, Bool.true_and, Bool.true_and, Bool.true_and, Bool.true_and]
        have e : a.1.length = b.1.length := by have := eq_of_beq hl; omega
        refine allI_congr fun i hi => ?_
        rw [grown_eq (nodeOk_state (worldOk_node hb (by omega)))]
end Go.Abs
