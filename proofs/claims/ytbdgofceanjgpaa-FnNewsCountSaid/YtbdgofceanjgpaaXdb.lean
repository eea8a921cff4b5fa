/- What the functions of this program answer, part db. -/
import Derived.Test.YtbdgofceanjgpaaXda
set_option linter.unusedVariables false
namespace Go.Abs.Pz
open Go Go.Abs
theorem le_bnd {n : Nat} (h : n ≤ 1048576) : 0 + n ≤ bound := by unfold bound; omega
theorem f29 (s : StateT) (hz : SzS s) : Ran p 1 29 [.val true ⟨K27, s⟩] ⟨[⟨K27, s⟩], []⟩ := go29 fun n hn => Ev.now fun fuel => by
 show T29 (arun p n) fuel s = some ⟨[⟨K27, s⟩], []⟩
 unfold T29; refine (bif_pos (le_bnd hz.a)).trans ?_; refine (bif_pos (le_bnd hz.b)).trans ?_; rfl
theorem pos_one {i x : Int} (h : 0 ≤ x) : Pos (([], [(i, x, ())], ()) : StateT) := ⟨fun x hx => (List.not_mem_nil hx).elim, fun f hf => by rcases List.mem_singleton.1 hf with rfl; exact h⟩
theorem single_d {s : StateT} {i : Int} {e : EntryT} (he : EntD e) (hi : 1 ≤ e.1) (h : s = ([(i, e)], [], ()) ∨ s = ([], [], ())) : StD 5 s ∧ Pos s := by
 rcases h with rfl | rfl
 ·exact ⟨⟨by show 1 ≤ 5; omega, by show 0 ≤ 5; omega, fun x hx => by rcases List.mem_singleton.1 hx with rfl; exact he⟩, ⟨fun x hx => by rcases List.mem_singleton.1 hx with rfl; exact hi, fun x hx => (List.not_mem_nil hx).elim⟩⟩
 ·exact ⟨⟨by show 0 ≤ 5; omega, by show 0 ≤ 5; omega, fun x hx => (List.not_mem_nil hx).elim⟩, pos_nil⟩
theorem f40 (c : CurT) (h : CurOk c) : ∃ (s : StateT) (d : CurT), Ran p 5 40 [.ref ⟨K61, c⟩] ⟨[⟨K27, s⟩], [⟨K61, d⟩]⟩ ∧ CurOk d ∧ StD 5 s ∧ Pos s := by
 obtain ⟨x1, d1, h1, k1, a1, b1, _⟩ := f25 c 7 h
 let Good : Out → Prop := fun o => ∃ (s : StateT) (d : CurT), o = ⟨[⟨K27, s⟩], [⟨K61, d⟩]⟩ ∧ CurOk d ∧ StD 5 s ∧ Pos s
 have second : ∀ (s : StateT) (d d0 : CurT) (x : Int), 0 ≤ x → x < 3 → StD 5 s → Pos s → CurOk d → ∃ o, Good o ∧ ∀ n, 5 - 1 ≤ n → It (fun fuel (_ : Unit) => c40_10 (arun p n) fuel (((x, ()), ()), (d0, ()))) ((0 : Int), s.1, s.2.1, d.1, d.2.1, d.2.2.1) (fun _ => some o) := by
  intro s d d0 x hx hx3 hs hp hd
  obtain ⟨m, rfl⟩ : ∃ m : Nat, x = m := ⟨x.toNat, by omega⟩
  refine It.ex (c := fun n fuel (_ : Unit) => c40_10 (arun p n) fuel ((((m : Int), ()), ()), (d0, ()))) (fun i y => ∃ (s : StateT) (d : CurT), y = ((i : Int), s.1, s.2.1, d.1, d.2.1, d.2.2.1) ∧ CurOk d ∧ StD 5 s ∧ Pos s) Good m ?_ ?_ m 0 _ (by omega) ⟨s, d, rfl, hd, hs, hp⟩
  ·rintro i y hi ⟨s, d, rfl, hd, hs, hp⟩
   obtain ⟨x7, d7, h7, k7, a7, b7, _⟩ := f25 d 5 hd
   obtain ⟨x8, d8, h8, k8, a8, b8, _⟩ := f25 d7 2 k7
   have hw : IntKind.i64.wrap (1 + x8) = 1 + x8 := by have := b8 (by omega); rw [IntKind.wrap_i64]; omega
   have hq : StD 5 (([], [(x7, IntKind.i64.wrap (1 + x8), ())], ()) : StateT) := ⟨by show 0 ≤ 5; omega, by show 1 ≤ 5; omega, fun x hx => (List.not_mem_nil hx).elim⟩
   have h9 := f30 s ([], [(x7, IntKind.i64.wrap (1 + x8), ())], ()) (hs.sz (by omega)) (hq.sz (by omega)) hp (pos_one (by omega))
   refine ⟨_, ⟨joinS s ([], [(x7, IntKind.i64.wrap (1 + x8), ())], ()), d8, rfl, k8, joinS_d hs hq, joinS_pos hp⟩, fun n hn fuel a rec => ?_⟩
   show c40_10 (arun p n) fuel ((((m : Int), ()), ()), (d0, ())) rec ((i : Int), s.1, s.2.1, d.1, d.2.1, d.2.2.1) = _
   unfold c40_10; dsimp only; rw [wrap_succ (show i < 9223372036854775807 by omega)]; refine (bif_pos (show (i : Int) < (m : Int) by omega)).trans ?_; refine (call_ref (h7 n (by omega))).trans ?_; refine (call_ref (h8 n (by omega))).trans ?_; refine (call_step (h9 n (by omega))).trans ?_; rfl
  ·rintro y ⟨s, d, rfl, hd, hs, hp⟩
   refine ⟨_, ⟨s, d, rfl, hd, hs, hp⟩, fun n hn => It.stop fun fuel a rec => ?_⟩
   show c40_10 (arun p n) fuel ((((m : Int), ()), ()), (d0, ())) rec ((m : Int), s.1, s.2.1, d.1, d.2.1, d.2.2.1) = _
   unfold c40_10; refine (bif_neg (Int.lt_irrefl _)).trans ?_; rfl
 obtain ⟨m, rfl⟩ : ∃ m : Nat, x1 = m := ⟨x1.toNat, by omega⟩
 have hm := b1 (by omega)
 have first := It.ex (lvl := 5 - 1) (c := fun n fuel (_ : Unit) => c40_4 (arun p n) fuel ((((m : Int), ()), ()), (d1, ()))) (fun i y => ∃ (s : StateT) (d : CurT), y = ((i : Int), s.1, s.2.1, d.1, d.2.1, d.2.2.1) ∧ CurOk d ∧ StD 5 s ∧ Pos s) Good m (by
  rintro i y hi ⟨s, d, rfl, hd, hs, hp⟩
  obtain ⟨x2, d2, h2, k2, _⟩ := f25 d 5 hd
  obtain ⟨e3, d3, h3, k3, he, hi3⟩ := f38 d2 k2
  obtain ⟨s4, b4, h4, q4⟩ := f44 x2 e3
  obtain ⟨q5, q6⟩ := single_d he hi3 q4
  have h5 := f30 s s4 (hs.sz (by omega)) (q5.sz (by omega)) hp q6
  refine ⟨_, ⟨joinS s s4, d3, rfl, k3, joinS_d hs q5, joinS_pos hp⟩, fun n hn fuel a rec => ?_⟩
  show c40_4 (arun p n) fuel ((((m : Int), ()), ()), (d1, ())) rec ((i : Int), s.1, s.2.1, d.1, d.2.1, d.2.2.1) = _
  unfold c40_4; dsimp only; rw [wrap_succ (show i < 9223372036854775807 by omega)]; refine (bif_pos (show (i : Int) < (m : Int) by omega)).trans ?_; refine (call_ref (h2 n (by omega))).trans ?_; refine (call_ref (h3 n (by omega))).trans ?_; refine (call_two (h4 n (by omega))).trans ?_; refine (call_step (h5 n (by omega))).trans ?_; rfl) (by
  rintro y ⟨s, d, rfl, hd, hs, hp⟩
  obtain ⟨x6, d6, h6, k6, a6, b6, _⟩ := f25 d 3 hd
  obtain ⟨o, ho, hL⟩ := second s d6 d6 x6 a6 (b6 (by omega)) hs hp k6
  refine ⟨o, ho, fun n hn => It.stopE (T := fun fuel _ => iter (c40_10 (arun p n) fuel (((x6, ()), ()), (d6, ()))) fuel ((0 : Int), s.1, s.2.1, d6.1, d6.2.1, d6.2.2.1)) (fun fuel a rec => ?_) (hL n hn).all_i⟩
  show c40_4 (arun p n) fuel ((((m : Int), ()), ()), (d1, ())) rec ((m : Int), s.1, s.2.1, d.1, d.2.1, d.2.2.1) = _
  unfold c40_4; refine (bif_neg (Int.lt_irrefl _)).trans ?_; refine (call_ref (h6 n (by omega))).trans ?_; rfl)
 obtain ⟨o, ⟨s, d, rfl, hd, hs, hp⟩, hL⟩ := first m 0 ((0 : Int), [], [], d1.1, d1.2.1, d1.2.2.1) (by omega) ⟨([], [], ()), d1, rfl, k1, ⟨by show 0 ≤ 5; omega, by show 0 ≤ 5; omega, fun x hx => (List.not_mem_nil hx).elim⟩, pos_nil⟩
 exact ⟨s, d, go40 fun n hn => Ev.eq (fun fuel => by unfold T40; refine (call_ref (h1 n (by omega))).trans ?_; rfl) ((hL n (by omega)).ev (i := ()) rfl), hd, hs, hp⟩
theorem f28 (c : CurT) (h : CurOk c) : ∃ (s : StateT) (d : CurT), Ran p 6 28 [.ref ⟨K61, c⟩] ⟨[⟨K27, s⟩], [⟨K61, d⟩]⟩ ∧ CurOk d ∧ StD 6 s := by
 obtain ⟨s, d1, h1, k1, hs, hp⟩ := f40 c h
 obtain ⟨x2, d2, h2, k2, _⟩ := f25 d1 14 k1
 have hs6 : StD 6 s := ⟨Nat.le_trans hs.a (by omega), Nat.le_trans hs.b (by omega), hs.data⟩
 have ha := hs.a
 have hb := hs.b
 cases q0 : x2 == 0 with
 | true =>
  obtain ⟨x3, d3, h3, k3, _⟩ := f25 d2 7 k2
  obtain ⟨e4, d4, h4, k4, he⟩ := f26 d3 k3
  refine ⟨(s.1 ++ [(IntKind.i64.wrap (x3 - 1), e4)], s.2.1, ()), d4, go28 fun n hn => Ev.now fun fuel => ?_, k4, ⟨by show (s.1 ++ _).length ≤ 6; simp; omega, hs6.b, fun x hx => ?_⟩⟩
  ·unfold T28; refine (call_ref (h1 n (by omega))).trans ?_; refine (call_ref (h2 n (by omega))).trans ?_; refine (bif_tt q0).trans ?_; refine (call_ref (h3 n (by omega))).trans ?_; refine (call_ref (h4 n (by omega))).trans ?_; refine (bif_pos (show s.1.length + 1 ≤ bound by unfold bound; omega)).trans ?_; rfl
  ·rcases List.mem_append.1 hx with hx | hx
   ·exact hs.data x hx
   ·rcases List.mem_singleton.1 hx with rfl; exact he
 | false =>
 cases q1 : x2 == 1 with
 | true =>
  obtain ⟨x3, d3, h3, k3, _⟩ := f25 d2 7 k2
  obtain ⟨x4, d4, h4, k4, _⟩ := f39 d3 [((0 : Int), ()), ((1 : Int), ()), ((5 : Int), ()), ((1001 : Int), ())] k3 (by show 0 < 4; omega)
  refine ⟨(s.1, s.2.1 ++ [(IntKind.i64.wrap (x3 - 1), x4, ())], ()), d4, go28 fun n hn => Ev.now fun fuel => ?_, k4, ⟨hs6.a, by show (s.2.1 ++ _).length ≤ 6; simp; omega, hs.data⟩⟩
  unfold T28; refine (call_ref (h1 n (by omega))).trans ?_; refine (call_ref (h2 n (by omega))).trans ?_; refine (bif_ff q0).trans ?_; refine (bif_tt q1).trans ?_; refine (call_ref (h3 n (by omega))).trans ?_; refine (call_ref (h4 n (by omega))).trans ?_; refine (bif_pos (show s.2.1.length + 1 ≤ bound by unfold bound; omega)).trans ?_; rfl
 | false =>
 cases q2 : x2 == 2 with
 | true =>
  by_cases hl : ((s.1.length : Nat) : Int) > 0
  ·obtain ⟨x3, d3, h3, k3, a3, b3, _⟩ := f25 d2 ((s.1.length : Nat) : Int) k2
   obtain ⟨e4, d4, h4, k4, he⟩ := f26 d3 k3
   have b3' := b3 (by omega)
   obtain ⟨i, rfl⟩ : ∃ i : Nat, x3 = i := ⟨x3.toNat, by omega⟩
   have hi : i < s.1.length := by omega
   refine ⟨(List.set s.1 i ((gt s.1 i).1, e4), s.2.1, ()), d4, go28 fun n hn => Ev.now fun fuel => ?_, k4, ⟨by show (List.set s.1 i _).length ≤ 6; simp; omega, hs6.b, fun x hx => ?_⟩⟩
   ·unfold T28; refine (call_ref (h1 n (by omega))).trans ?_; refine (call_ref (h2 n (by omega))).trans ?_; refine (bif_ff q0).trans ?_; refine (bif_ff q1).trans ?_; refine (bif_tt q2).trans ?_; refine (bif_pos hl).trans ?_; refine (call_ref (h3 n (by omega))).trans ?_; refine (call_ref (h4 n (by omega))).trans ?_; refine (bif_pos (Int.natCast_nonneg _)).trans ?_; refine (at_step hi).trans ?_; refine (at_step hi).trans ?_; rfl
   ·rcases List.mem_or_eq_of_mem_set hx with hx | rfl
    ·exact hs.data x hx
    ·exact he
  ·refine ⟨s, d2, go28 fun n hn => Ev.now fun fuel => ?_, k2, hs6⟩
   unfold T28; refine (call_ref (h1 n (by omega))).trans ?_; refine (call_ref (h2 n (by omega))).trans ?_; refine (bif_ff q0).trans ?_; refine (bif_ff q1).trans ?_; refine (bif_tt q2).trans ?_; refine (bif_neg hl).trans ?_; rfl
 | false =>
 cases q3 : x2 == 3 with
 | true =>
  by_cases hl : ((s.1.length : Nat) : Int) > 1
  ·have hi1 : 1 < s.1.length := by omega
   have hi0 : 0 < s.1.length := by omega
   refine ⟨(List.set s.1 0 (gt s.1 1), s.2.1, ()), d2, go28 fun n hn => Ev.now fun fuel => ?_, k2, ⟨by show (List.set s.1 0 _).length ≤ 6; simp; omega, hs6.b, fun x hx => ?_⟩⟩
   ·unfold T28; refine (call_ref (h1 n (by omega))).trans ?_; refine (call_ref (h2 n (by omega))).trans ?_; refine (bif_ff q0).trans ?_; refine (bif_ff q1).trans ?_; refine (bif_ff q2).trans ?_; refine (bif_tt q3).trans ?_; refine (bif_pos hl).trans ?_; refine (bif_pos (by decide)).trans ?_; refine (at_step (i := 1) hi1).trans ?_; refine (at_step (i := 1) hi1).trans ?_; refine (bif_pos (by decide)).trans ?_; refine (at_step (i := 0) hi0).trans ?_; refine (at_step (i := 0) hi0).trans ?_; rfl
   ·rcases List.mem_or_eq_of_mem_set hx with hx | rfl
    ·exact hs.data x hx
    ·rw [gt_eq hi1]; exact hs.data _ (List.getElem_mem hi1)
  ·refine ⟨s, d2, go28 fun n hn => Ev.now fun fuel => ?_, k2, hs6⟩
   unfold T28; refine (call_ref (h1 n (by omega))).trans ?_; refine (call_ref (h2 n (by omega))).trans ?_; refine (bif_ff q0).trans ?_; refine (bif_ff q1).trans ?_; refine (bif_ff q2).trans ?_; refine (bif_tt q3).trans ?_; refine (bif_neg hl).trans ?_; rfl
 | false =>
  refine ⟨s, d2, go28 fun n hn => Ev.now fun fuel => ?_, k2, hs6⟩
  unfold T28; refine (call_ref (h1 n (by omega))).trans ?_; refine (call_ref (h2 n (by omega))).trans ?_; refine (bif_ff q0).trans ?_; refine (bif_ff q1).trans ?_; refine (bif_ff q2).trans ?_; refine (bif_ff q3).trans ?_; rfl
end Go.Abs.Pz
