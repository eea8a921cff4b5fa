/- What the functions of this program answer, part da. -/
import Derived.Test.YtbdgofceanjgpaaXj
import Derived.Test.YtbdgofceanjgpaaW3
set_option linter.unusedVariables false
namespace Go.Abs.Pz
open Go Go.Abs
theorem f37 (c : CurT) (h : CurOk c) : ∃ (x : Int) (d : CurT), Ran p 1 37 [.ref ⟨K61, c⟩] ⟨[⟨K3, (x, ())⟩], [⟨K61, d⟩]⟩ ∧ CurOk d ∧ 0 ≤ x ∧ x ≤ 255 := by
 by_cases hi : c.2.1 < ((c.1.length : Nat) : Int)
 ·obtain ⟨i, hi'⟩ : ∃ i : Nat, c.2.1 = i := ⟨c.2.1.toNat, by have := h.lo; omega⟩
  have hi2 : i < c.1.length := by omega
  have e : (at? (α := Row K5) c.1 (c.2.1).toNat) = some (gt (α := NumT) c.1 i) := by rw [hi', Int.toNat_natCast]; exact (at_lt hi2).trans (by rw [gt_eq hi2])
  refine ⟨_, _, go37 fun n hn => Ev.now fun fuel => by
   unfold T37; refine (bif_neg (by decide)).trans ?_; refine (bif_neg (by decide)).trans ?_; refine (bif_pos hi).trans ?_; refine (bif_pos h.lo).trans ?_
   refine (congrArg (fun o => Option.bind o _) e).trans ?_
   rfl, ?_⟩
  have hl := h.len
  refine ⟨⟨h.len, ?_, ?_⟩, (andI255 _).1, (andI255 _).2⟩
  ·show 0 ≤ IntKind.i64.wrap (c.2.1 + 1); have := h.lo; rw [IntKind.wrap_i64]; omega
  ·show IntKind.i64.wrap (c.2.1 + 1) ≤ _; have := h.lo; rw [IntKind.wrap_i64]; show _ ≤ ((c.1.length : Nat) : Int); omega
 ·refine ⟨_, _, go37 fun n hn => Ev.now fun fuel => by
   unfold T37; refine (bif_neg (by decide)).trans ?_; refine (bif_neg (by decide)).trans ?_; refine (bif_neg hi).trans ?_; rfl, ?_⟩
  exact ⟨⟨h.len, h.lo, h.hi⟩, (andI255 _).1, (andI255 _).2⟩
theorem f25 (c : CurT) (k : Int) (h : CurOk c) : ∃ (x : Int) (d : CurT), Ran p 2 25 [.ref ⟨K61, c⟩, .val false ⟨K3, (k, ())⟩] ⟨[⟨K3, (x, ())⟩], [⟨K61, d⟩]⟩ ∧ CurOk d ∧ 0 ≤ x ∧ (0 < k → x < k) ∧ (k ≤ 0 → x = 0) := by
 by_cases h0 : k ≤ 0
 ·exact ⟨0, c, go25 fun n hn => Ev.now fun fuel => by unfold T25; exact bif_pos h0, h, by omega, fun h => by omega, fun _ => rfl⟩
 by_cases h1 : k ≤ 256
 ·obtain ⟨x, d, hx, hd, b0, b1⟩ := f37 c h
  refine ⟨x.tmod k, d, go25 fun n hn => Ev.now fun fuel => ?_, hd, (tmod_lt b0 (by omega)).1, fun h => (tmod_lt b0 h).2, fun h => by omega⟩
  unfold T25; refine (bif_neg h0).trans ?_; refine (bif_pos h1).trans ?_; refine (call_ref (hx n (by omega))).trans ?_; exact bif_neg (by omega)
 ·obtain ⟨x, d, hx, hd, b0, b1⟩ := f37 c h
  obtain ⟨x2, d2, hx2, hq2, b2, b3⟩ := f37 d hd
  obtain ⟨x3, d3, hx3, hq3, b4, b5⟩ := f37 d2 hq2
  obtain ⟨x4, d4, hx4, hq4, b6, b7⟩ := f37 d3 hq3
  have e : IntKind.i64.wrap (IntKind.i64.wrap (IntKind.i64.wrap (IntKind.i64.wrap (x * 16777216) + IntKind.i64.wrap (x2 * 65536)) + IntKind.i64.wrap (x3 * 256)) + x4) = x * 16777216 + x2 * 65536 + x3 * 256 + x4 := by
   repeat rw [IntKind.wrap_i64]
   omega
  have hp : 0 ≤ x * 16777216 + x2 * 65536 + x3 * 256 + x4 := by omega
  refine ⟨(x * 16777216 + x2 * 65536 + x3 * 256 + x4).tmod k, d4, go25 fun n hn => Ev.now fun fuel => ?_, hq4, (tmod_lt hp (by omega)).1, fun h => (tmod_lt hp h).2, fun h => by omega⟩
  unfold T25; refine (bif_neg h0).trans ?_; refine (bif_neg h1).trans ?_; refine (call_ref (hx n (by omega))).trans ?_; refine (call_ref (hx2 n (by omega))).trans ?_; refine (call_ref (hx3 n (by omega))).trans ?_; refine (call_ref (hx4 n (by omega))).trans ?_; refine (bif_neg (by omega)).trans ?_; rw [← e]
theorem f24 (c : CurT) (k : Int) (h : CurOk c) : ∃ (x : Bool) (d : CurT), Ran p 3 24 [.ref ⟨K61, c⟩, .val false ⟨K3, (k, ())⟩] ⟨[⟨K4, (x, ())⟩], [⟨K61, d⟩]⟩ ∧ CurOk d := by
 obtain ⟨x, d, hx, hd, _⟩ := f25 c k h
 exact ⟨_, d, go24 fun n hn => Ev.now fun fuel => by unfold T24; refine (call_ref (hx n (by omega))).trans ?_; rfl, hd⟩
theorem f39 (c : CurT) (ls : List NumT) (h : CurOk c) (h0 : 0 < ls.length) : ∃ (x : Int) (d : CurT), Ran p 3 39 [.ref ⟨K61, c⟩, .val false ⟨K64, (ls, ())⟩] ⟨[⟨K3, (x, ())⟩], [⟨K61, d⟩]⟩ ∧ CurOk d ∧ (x, ()) ∈ ls := by
 obtain ⟨x, d, hx, hd, b0, b1, _⟩ := f25 c ((ls.length : Nat) : Int) h
 have b2 := b1 (by omega)
 obtain ⟨i, rfl⟩ : ∃ i : Nat, x = i := ⟨x.toNat, by omega⟩
 have hi : i < ls.length := by omega
 refine ⟨(gt ls i).1, d, go39 fun n hn => Ev.now fun fuel => ?_, hd, ?_⟩
 ·unfold T39; refine (call_ref (hx n (by omega))).trans ?_; refine (bif_pos (Int.natCast_nonneg _)).trans ?_; refine (at_step hi).trans ?_; rfl
 ·show gt ls i ∈ ls; rw [gt_eq hi]; exact List.getElem_mem hi
theorem f43 (c : CurT) (ls : List (ByteArray × Unit)) (h : CurOk c) (h0 : 0 < ls.length) : ∃ (x : ByteArray) (d : CurT), Ran p 3 43 [.ref ⟨K61, c⟩, .val false ⟨K68, (ls, ())⟩] ⟨[⟨K9, (x, ())⟩], [⟨K61, d⟩]⟩ ∧ CurOk d ∧ (x, ()) ∈ ls := by
 obtain ⟨x, d, hx, hd, b0, b1, _⟩ := f25 c ((ls.length : Nat) : Int) h
 have b2 := b1 (by omega)
 obtain ⟨i, rfl⟩ : ∃ i : Nat, x = i := ⟨x.toNat, by omega⟩
 have hi : i < ls.length := by omega
 refine ⟨(gt ls i).1, d, go43 fun n hn => Ev.now fun fuel => ?_, hd, ?_⟩
 ·unfold T43; refine (call_ref (hx n (by omega))).trans ?_; refine (bif_pos (Int.natCast_nonneg _)).trans ?_; refine (at_step hi).trans ?_; rfl
 ·show gt ls i ∈ ls; rw [gt_eq hi]; exact List.getElem_mem hi
theorem f38 (c : CurT) (h : CurOk c) : ∃ (e : EntryT) (d : CurT), Ran p 4 38 [.ref ⟨K61, c⟩] ⟨[⟨K34, e⟩], [⟨K61, d⟩]⟩ ∧ CurOk d ∧ EntD e ∧ 1 ≤ e.1 := by
 obtain ⟨x1, d1, h1, k1, a1, b1, _⟩ := f25 c 3 h
 obtain ⟨x2, d2, h2, k2, a2, b2, _⟩ := f25 d1 2 k1
 obtain ⟨x3, d3, h3, k3, a3, b3, _⟩ := f25 d2 3 k2
 obtain ⟨x4, d4, h4, k4, a4, b4, _⟩ := f25 d3 3 k3
 obtain ⟨x5, d5, h5, k5, m5⟩ := f43 d4 [((⟨#[]⟩ : ByteArray), ()), ((⟨#[97]⟩ : ByteArray), ()), ((⟨#[98]⟩ : ByteArray), ()), ((⟨#[97, 98]⟩ : ByteArray), ()), ((⟨#[49, 50, 51, 52, 53, 54, 55, 56]⟩ : ByteArray), ())] k4 (by show 0 < 5; omega)
 refine ⟨_, d5, go38 fun n hn => Ev.now fun fuel => by unfold T38; refine (call_ref (h1 n (by omega))).trans ?_; refine (call_ref (h2 n (by omega))).trans ?_; refine (call_ref (h3 n (by omega))).trans ?_; refine (call_ref (h4 n (by omega))).trans ?_; refine (call_ref (h5 n (by omega))).trans ?_; rfl, k5, ?_, ?_⟩
 ·have : x5 ∈ datas.take 5 := by
   have := List.mem_map_of_mem (f := fun y : ByteArray × Unit => y.1) m5
   exact this
  exact List.mem_of_mem_take this
 ·show 1 ≤ IntKind.i64.wrap (1 + x1); have := b1 (by omega); rw [IntKind.wrap_i64]; omega
theorem f26 (c : CurT) (h : CurOk c) : ∃ (e : EntryT) (d : CurT), Ran p 5 26 [.ref ⟨K61, c⟩] ⟨[⟨K34, e⟩], [⟨K61, d⟩]⟩ ∧ CurOk d ∧ EntD e := by
 obtain ⟨e, d1, h1, k1, he, _⟩ := f38 c h
 obtain ⟨x, d2, h2, k2, _⟩ := f25 d1 14 k1
 cases q0 : x == 0 with
 | true =>
  obtain ⟨y, d3, h3, k3, _⟩ := f39 d2 [((0 : Int), ()), ((1000 : Int), ()), ((1001 : Int), ()), ((-1 : Int), ())] k2 (by show 0 < 4; omega)
  exact ⟨(y, e.2), d3, go26 fun n hn => Ev.now fun fuel => by unfold T26; refine (call_ref (h1 n (by omega))).trans ?_; refine (call_ref (h2 n (by omega))).trans ?_; refine (bif_tt q0).trans ?_; refine (call_ref (h3 n (by omega))).trans ?_; rfl, k3, he⟩
 | false =>
 cases q1 : x == 1 with
 | true =>
  obtain ⟨y, d3, h3, k3, _⟩ := f39 d2 [((-1 : Int), ()), ((2 : Int), ())] k2 (by show 0 < 2; omega)
  exact ⟨(e.1, y, e.2.2), d3, go26 fun n hn => Ev.now fun fuel => by unfold T26; refine (call_ref (h1 n (by omega))).trans ?_; refine (call_ref (h2 n (by omega))).trans ?_; refine (bif_ff q0).trans ?_; refine (bif_tt q1).trans ?_; refine (call_ref (h3 n (by omega))).trans ?_; rfl, k3, he⟩
 | false =>
 cases q2 : x == 2 with
 | true =>
  obtain ⟨y, d3, h3, k3, _⟩ := f39 d2 [((-1 : Int), ()), ((100000 : Int), ()), ((100001 : Int), ())] k2 (by show 0 < 3; omega)
  exact ⟨(e.1, e.2.1, y, e.2.2.2), d3, go26 fun n hn => Ev.now fun fuel => by unfold T26; refine (call_ref (h1 n (by omega))).trans ?_; refine (call_ref (h2 n (by omega))).trans ?_; refine (bif_ff q0).trans ?_; refine (bif_ff q1).trans ?_; refine (bif_tt q2).trans ?_; refine (call_ref (h3 n (by omega))).trans ?_; rfl, k3, he⟩
 | false =>
 cases q3 : x == 3 with
 | true =>
  obtain ⟨y, d3, h3, k3, _⟩ := f39 d2 [((-1 : Int), ()), ((1000 : Int), ()), ((1001 : Int), ())] k2 (by show 0 < 3; omega)
  exact ⟨(e.1, e.2.1, e.2.2.1, y, e.2.2.2.2), d3, go26 fun n hn => Ev.now fun fuel => by unfold T26; refine (call_ref (h1 n (by omega))).trans ?_; refine (call_ref (h2 n (by omega))).trans ?_; refine (bif_ff q0).trans ?_; refine (bif_ff q1).trans ?_; refine (bif_ff q2).trans ?_; refine (bif_tt q3).trans ?_; refine (call_ref (h3 n (by omega))).trans ?_; rfl, k3, he⟩
 | false =>
 cases q4 : x == 4 with
 | true => exact ⟨(e.1, e.2.1, e.2.2.1, e.2.2.2.1, ⟨#[49, 50, 51, 52, 53, 54, 55, 56, 57]⟩, ()), d2, go26 fun n hn => Ev.now fun fuel => by unfold T26; refine (call_ref (h1 n (by omega))).trans ?_; refine (call_ref (h2 n (by omega))).trans ?_; refine (bif_ff q0).trans ?_; refine (bif_ff q1).trans ?_; refine (bif_ff q2).trans ?_; refine (bif_ff q3).trans ?_; refine (bif_tt q4).trans ?_; rfl, k2, by show (⟨#[49, 50, 51, 52, 53, 54, 55, 56, 57]⟩ : ByteArray) ∈ datas; unfold datas; simp⟩
 | false => exact ⟨e, d2, go26 fun n hn => Ev.now fun fuel => by unfold T26; refine (call_ref (h1 n (by omega))).trans ?_; refine (call_ref (h2 n (by omega))).trans ?_; refine (bif_ff q0).trans ?_; refine (bif_ff q1).trans ?_; refine (bif_ff q2).trans ?_; refine (bif_ff q3).trans ?_; refine (bif_ff q4).trans ?_; rfl, k2, he⟩
theorem f44 (i : Int) (e : EntryT) : ∃ (s : StateT) (b : Bool), Ran p 4 44 [.val false ⟨K3, (i, ())⟩, .val true ⟨K34, e⟩] ⟨[⟨K27, s⟩, ⟨K4, (b, ())⟩], []⟩ ∧ (s = ([(i, e)], [], ()) ∨ s = ([], [], ())) := by
 have hs := f8 ([(i, e)], [], ()) (by show 1 ≤ 9223372036854775807; omega) (by show 0 ≤ 9223372036854775807; omega)
 cases ho : stateOk ([(i, e)], [], ()) with
 | false => exact ⟨_, false, go44 fun n hn => Ev.now fun fuel => by unfold T44; refine (call_step (hs n (by omega))).trans ?_; rw [ho]; rfl, .inr rfl⟩
 | true => exact ⟨_, true, go44 fun n hn => Ev.now fun fuel => by unfold T44; refine (call_step (hs n (by omega))).trans ?_; rw [ho]; rfl, .inl rfl⟩
end Go.Abs.Pz
