/- What the functions of this program answer, part dc. -/
import Derived.Test.YtbdgofceanjgpaaXdb
import Derived.Test.YtbdgofceanjgpaaXnw
set_option linter.unusedVariables false
namespace Go.Abs.Pz
open Go Go.Abs
theorem f13 (b : List NumT) (hb : b.length ≤ 1048576) : ∃ (s t : StateT), Ran p 7 13 [.val false ⟨K22, (b, ())⟩] ⟨[⟨K27, s⟩, ⟨K27, t⟩], []⟩ ∧ StD 6 s ∧ StD 6 t := by
 obtain ⟨o, ⟨s, t, rfl, hs, ht⟩, hL⟩ := It.new (lvl := 7 - 1) (c := fun n fuel (_ : Unit) => c13_10003 (arun p n) fuel b) (fun o => ∃ (s t : StateT), o = ⟨[⟨K27, s⟩, ⟨K27, t⟩], []⟩ ∧ StD 6 s ∧ StD 6 t) b hb (fun i h hi h4 => ⟨_, fun n hn fuel a rec => by
   show c13_10003 (arun p n) fuel b rec (h, (i : Int)) = _
   unfold c13_10003; dsimp only; rw [wrap_succ (show i < 9223372036854775807 by omega)]; refine (bif_pos (Int.ofNat_lt.2 hi)).trans ?_; refine (bif_pos (show (i : Int) < 4000 by omega)).trans ?_; refine (bif_pos (Int.natCast_nonneg _)).trans ?_; refine (at_step hi).trans ?_; rfl⟩) (fun h i hc hi => by
   obtain ⟨s, d1, h1, k1, hs⟩ := f28 _ hc
   obtain ⟨t, d2, h2, k2, ht⟩ := f28 _ k1
   obtain ⟨x, d3, h3, k3, _⟩ := f25 _ 5 k2
   have zs := hs.sz (by omega)
   have zt := ht.sz (by omega)
   have hs1 := f8 s (small_max zs.a) (small_max zs.b)
   have ht1 := f8 t (small_max zt.a) (small_max zt.b)
   cases q0 : x == 0 with
   | true =>
    have h4 := f29 s zs
    exact ⟨_, ⟨s, s, rfl, hs, hs⟩, fun n hn => ⟨0, fun fuel _ a rec => by
     show c13_10003 (arun p n) fuel b rec (h, i) = _
     unfold c13_10003; refine (hash_end hi).trans ?_; refine (call_ref (h1 n (by omega))).trans ?_; refine (call_ref (h2 n (by omega))).trans ?_; refine (call_ref (h3 n (by omega))).trans ?_; refine (bif_tt q0).trans ?_; refine (call_step (h4 n (by omega))).trans ?_; rfl⟩⟩
   | false =>
   cases q1 : x == 1 with
   | true =>
    cases ho : stateOk s with
    | false =>
     exact ⟨_, ⟨s, t, rfl, hs, ht⟩, fun n hn => ⟨0, fun fuel _ a rec => by
      show c13_10003 (arun p n) fuel b rec (h, i) = _
      unfold c13_10003; refine (hash_end hi).trans ?_; refine (call_ref (h1 n (by omega))).trans ?_; refine (call_ref (h2 n (by omega))).trans ?_; refine (call_ref (h3 n (by omega))).trans ?_; refine (bif_ff q0).trans ?_; refine (bif_tt q1).trans ?_; refine (call_step (hs1 n (by omega))).trans ?_; rw [ho]; rfl⟩⟩
    | true =>
    cases ho2 : stateOk t with
    | false =>
     exact ⟨_, ⟨s, t, rfl, hs, ht⟩, fun n hn => ⟨0, fun fuel _ a rec => by
      show c13_10003 (arun p n) fuel b rec (h, i) = _
      unfold c13_10003; refine (hash_end hi).trans ?_; refine (call_ref (h1 n (by omega))).trans ?_; refine (call_ref (h2 n (by omega))).trans ?_; refine (call_ref (h3 n (by omega))).trans ?_; refine (bif_ff q0).trans ?_; refine (bif_tt q1).trans ?_; refine (call_step (hs1 n (by omega))).trans ?_; rw [ho]; refine (bif_tt rfl).trans ?_; refine (call_step (ht1 n (by omega))).trans ?_; rw [ho2]; rfl⟩⟩
    | true =>
     have h5 := f30 s t zs zt ((stateOk_iff _).1 ho).pos ((stateOk_iff _).1 ho2).pos
     have hj := joinS_d hs ht
     exact ⟨_, ⟨s, joinS s t, rfl, hs, ⟨Nat.le_trans hj.a (by omega), Nat.le_trans hj.b (by omega), hj.data⟩⟩, fun n hn => ⟨0, fun fuel _ a rec => by
      show c13_10003 (arun p n) fuel b rec (h, i) = _
      unfold c13_10003; refine (hash_end hi).trans ?_; refine (call_ref (h1 n (by omega))).trans ?_; refine (call_ref (h2 n (by omega))).trans ?_; refine (call_ref (h3 n (by omega))).trans ?_; refine (bif_ff q0).trans ?_; refine (bif_tt q1).trans ?_; refine (call_step (hs1 n (by omega))).trans ?_; rw [ho]; refine (bif_tt rfl).trans ?_; refine (call_step (ht1 n (by omega))).trans ?_; rw [ho2]; refine (bif_tt rfl).trans ?_; refine (call_step (h5 n (by omega))).trans ?_; rfl⟩⟩
   | false =>
     exact ⟨_, ⟨s, t, rfl, hs, ht⟩, fun n hn => ⟨0, fun fuel _ a rec => by
      show c13_10003 (arun p n) fuel b rec (h, i) = _
      unfold c13_10003; refine (hash_end hi).trans ?_; refine (call_ref (h1 n (by omega))).trans ?_; refine (call_ref (h2 n (by omega))).trans ?_; refine (call_ref (h3 n (by omega))).trans ?_; refine (bif_ff q0).trans ?_; refine (bif_ff q1).trans ?_; rfl⟩⟩) (IntKind.i64.wrap (26583 + ((b.length : Nat) : Int)))
 exact ⟨s, t, go13 fun n hn => Ev.eq (fun fuel => by unfold T13; rfl) ((hL n (by omega)).ev (i := ()) rfl), hs, ht⟩
theorem f5 (b : List NumT) (hb : b.length ≤ 1048576) : ∃ (s t : StateT), Ran p 8 5 [.val false ⟨K22, (b, ())⟩] ⟨[⟨K27, s⟩, ⟨K27, t⟩], []⟩ ∧ StD 6 s ∧ StD 6 t := by
 obtain ⟨s, t, h1, hs, ht⟩ := f13 b hb
 exact ⟨s, t, go5 fun n hn => Ev.now fun fuel => by unfold T5; refine (call_two (h1 n (by omega))).trans ?_; rfl, hs, ht⟩
theorem f9 (b : List NumT) (hb : b.length ≤ 1048576) : ∃ (l : List ItemT) (m : List NewsT), Ran p 8 9 [.val false ⟨K22, (b, ())⟩] ⟨[⟨K24, (l, ())⟩, ⟨K30, (m, ())⟩], []⟩ ∧ l.length ≤ 6 ∧ m.length ≤ 6 := by
 obtain ⟨s, t, h0, hs, ht⟩ := f13 b hb
 have zs := hs.sz (by omega)
 have zt := ht.sz (by omega)
 have hn1 := f7 s t zs zt
 have hn2 := newsOf_len s t
 have hv := f27 s zs
 have hv2 : (viewS s).length ≤ 6 := Nat.le_trans (viewS_le s) hs.a
 obtain ⟨o, ⟨l, m, rfl, hl, hm⟩, hL⟩ := It.new (lvl := 8 - 1) (c := fun n fuel (_ : Unit) => c9_10003 (arun p n) fuel b ((s, t, ()), ())) (fun o => ∃ (l : List ItemT) (m : List NewsT), o = ⟨[⟨K24, (l, ())⟩, ⟨K30, (m, ())⟩], []⟩ ∧ l.length ≤ 6 ∧ m.length ≤ 6) b hb (fun i h hi h4 => ⟨_, fun n hn fuel a rec => by
   show c9_10003 (arun p n) fuel b ((s, t, ()), ()) rec (h, (i : Int)) = _
   unfold c9_10003; dsimp only; rw [wrap_succ (show i < 9223372036854775807 by omega)]; refine (bif_pos (Int.ofNat_lt.2 hi)).trans ?_; refine (bif_pos (show (i : Int) < 4000 by omega)).trans ?_; refine (bif_pos (Int.natCast_nonneg _)).trans ?_; refine (at_step hi).trans ?_; rfl⟩) (fun h i hc hi => by
   obtain ⟨x, d3, h3, k3⟩ := f24 _ 4 hc
   cases x with
   | true =>
    obtain ⟨x4, d4, h4, k4, _⟩ := f25 _ 7 k3
    obtain ⟨x5, d5, h5, k5, _⟩ := f25 _ 7 k4
    obtain ⟨e6, d6, h6, k6, _⟩ := f26 _ k5
    refine ⟨_, ⟨viewS s, newsOf s t ++ [(IntKind.i64.wrap (x4 - 1), IntKind.i64.wrap (x5 - 1), e6)], rfl, hv2, by simp; omega⟩, fun n hn => ⟨0, fun fuel _ a rec => ?_⟩⟩
    show c9_10003 (arun p n) fuel b ((s, t, ()), ()) rec (h, i) = _
    unfold c9_10003; refine (hash_end hi).trans ?_; refine (call_step (hn1 n (by omega))).trans ?_; refine (call_ref (h3 n (by omega))).trans ?_; refine (bif_tt rfl).trans ?_; refine (call_ref (h4 n (by omega))).trans ?_; refine (call_ref (h5 n (by omega))).trans ?_; refine (call_ref (h6 n (by omega))).trans ?_; refine (bif_pos (show (newsOf s t).length + 1 ≤ bound by unfold bound; omega)).trans ?_; refine (call_step (hv n (by omega))).trans ?_; rfl
   | false =>
    refine ⟨_, ⟨viewS s, newsOf s t, rfl, hv2, by omega⟩, fun n hn => ⟨0, fun fuel _ a rec => ?_⟩⟩
    show c9_10003 (arun p n) fuel b ((s, t, ()), ()) rec (h, i) = _
    unfold c9_10003; refine (hash_end hi).trans ?_; refine (call_step (hn1 n (by omega))).trans ?_; refine (call_ref (h3 n (by omega))).trans ?_; refine (bif_ff rfl).trans ?_; refine (call_step (hv n (by omega))).trans ?_; rfl) (IntKind.i64.wrap (26583 + ((b.length : Nat) : Int)))
 exact ⟨l, m, go9 fun n hn => Ev.eq (fun fuel => by unfold T9; refine (call_two (h0 n (by omega))).trans ?_; rfl) ((hL n (by omega)).ev (i := ()) rfl), hl, hm⟩
theorem f4 (b : List NumT) : Ran p 1 4 [.val false ⟨K22, (b, ())⟩] ⟨[⟨K4, (decide (((b.length : Nat) : Int) > 1048576), ())⟩], []⟩ := go4 fun n hn => Ev.now fun fuel => by
 unfold T4; rfl
end Go.Abs.Pz
