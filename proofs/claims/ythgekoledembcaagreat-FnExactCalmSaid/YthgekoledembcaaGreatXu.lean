/- What the functions of this program answer, part u. -/
import Derived.Test.YthgekoledembcaaGreatXo
set_option linter.unusedVariables false
namespace Go.Abs.Gz
open Go Go.Abs
def tickS (x : SessT) : SessT := (x.1, x.2.1, x.2.2.1, IntKind.i64.wrap (x.2.2.2.1 + 1), ())
def tickL (x : NodeT) (i : Nat) : List SessT := bif decide (IntKind.i64.wrap ((gt x.sess i).2.2.2.1 + 1) ≤ x.wait) then [tickS (gt x.sess i)] else []
theorem tickL_len (x : NodeT) (i : Nat) : (tickL x i).length ≤ 1 := by
 unfold tickL; cases decide (IntKind.i64.wrap ((gt x.sess i).2.2.2.1 + 1) ≤ x.wait) <;> simp
def tickD (y : NodeT) : NodeT := (y.1, y.2.1, y.2.2.1, y.2.2.2.1, y.2.2.2.2.1, y.2.2.2.2.2.1, y.2.2.2.2.2.2.1, y.2.2.2.2.2.2.2.1, y.2.2.2.2.2.2.2.2.1, y.2.2.2.2.2.2.2.2.2.1, y.2.2.2.2.2.2.2.2.2.2.1, y.2.2.2.2.2.2.2.2.2.2.2.1, y.2.2.2.2.2.2.2.2.2.2.2.2.1, y.2.2.2.2.2.2.2.2.2.2.2.2.2.1, accL y.sess.length (tickL y), y.wait, y.limit, IntKind.i64.wrap (y.clock + 1), y.rises, ())
def tickN (x : NodeT) : NodeT := bif nodeOk x then (bif x.clock == 100000 then x else tickD x) else x
theorem tickD_len (x : NodeT) : (tickD x).sess.length ≤ x.sess.length := by
 have := accL_len (g := tickL x) (L := 1) (n := x.sess.length) fun i _ => tickL_len x i
 show (accL x.sess.length (tickL x)).length ≤ x.sess.length
 omega
theorem tickN_sz {x : NodeT} (h : SzN x) : SzN (tickN x) := by
 unfold tickN
 cases nodeOk x with
 | false => exact h
 | true =>
  cases x.clock == 100000 with
  | true => exact h
  | false => exact ⟨h.state, h.leaves, h.list, h.logs, h.got, h.acked, h.seen, h.lines, Nat.le_trans (tickD_len x) h.sess, h.rises⟩

theorem f73 (x : NodeT) (hz : SzN x) : Ran p 8 73 [.val true ⟨K73, x⟩] ⟨[⟨K73, tickN x⟩], []⟩ := go73 fun n hn => by
 unfold tickN
 cases ho : nodeOk x with
 | false => exact Ev.now fun fuel => by show T73 (arun p n) fuel x = some ⟨[⟨K73, x⟩], []⟩; unfold T73; refine (call_step (f122 x hz n (by omega))).trans ?_; refine (call_step (f78 x hz n (by omega))).trans ?_; rw [ho]; rfl
 | true =>
  cases hc : x.clock == 100000 with
  | true => exact Ev.now fun fuel => by show T73 (arun p n) fuel x = some ⟨[⟨K73, x⟩], []⟩; unfold T73; refine (call_step (f122 x hz n (by omega))).trans ?_; refine (call_step (f78 x hz n (by omega))).trans ?_; rw [ho]; refine (bif_ff rfl).trans ?_; exact bif_tt hc
  | false =>
   have lp : It (fun fuel (_ : Unit) => c73_7 (arun p n) fuel x ((x, ()), ())) ((0 : Int), ([] : List SessT)) (fun _ => some ⟨[⟨K73, tickD x⟩], []⟩) := by
    refine It.accu (α := SessT) [] (tickL x) x.sess.length 1 (fun i _ => tickL_len x i) (fun i hi acc ha fuel u rec => ?_) (It.stop fun fuel u rec => ?_)
    ·show c73_7 (arun p n) fuel x ((x, ()), ()) rec ((i : Int), acc) = rec (((i + 1 : Nat) : Int), acc ++ tickL x i)
     unfold c73_7 tickL; dsimp only; rw [wrap_succ (i63 hi hz.sess)]; refine (bif_pos (Int.ofNat_lt.2 hi)).trans ?_; refine (bif_pos (Int.natCast_nonneg _)).trans ?_; refine (at_step hi).trans ?_
     by_cases h : IntKind.i64.wrap ((gt x.sess i).2.2.2.1 + 1) ≤ x.wait
     ·refine (bif_pos h).trans ?_; refine (bif_pos ?_).trans ?_
      ·have h1 : (tickL x i).length = 1 := by unfold tickL; rw [decide_eq_true h]; rfl
       have h2 := hz.sess
       rw [h1] at ha
       show acc.length + 1 ≤ bound
       unfold small at h2; unfold bound; simp at ha; omega
      ·rw [decide_eq_true h]; rfl
     ·refine (bif_neg h).trans ?_; rw [decide_eq_false h]; show rec _ = rec _; rw [show (bif false then [tickS (gt x.sess i)] else []) = ([] : List SessT) from rfl, List.append_nil]; rfl
    ·show c73_7 (arun p n) fuel x ((x, ()), ()) rec ((x.sess.length : Int), accL x.sess.length (tickL x)) = _
     unfold c73_7; dsimp only; refine (bif_neg (Int.lt_irrefl _)).trans ?_; rfl
   exact Ev.eq (fun fuel => by
    unfold T73; refine (call_step (f122 x hz n (by omega))).trans ?_; refine (call_step (f78 x hz n (by omega))).trans ?_; rw [ho]; refine (bif_ff rfl).trans ?_; exact bif_ff hc) (lp.ev (i := ()) rfl)
theorem f75 (x : NodeT) (hz : SzN x) : Ran p 8 75 [.val true ⟨K73, x⟩] ⟨[⟨K73, tickN x⟩], []⟩ := go75 fun n hn => by
 unfold tickN
 cases ho : nodeOk x with
 | false => exact Ev.now fun fuel => by show T75 (arun p n) fuel x = some ⟨[⟨K73, x⟩], []⟩; unfold T75; refine (call_step (f125 x hz n (by omega))).trans ?_; refine (call_step (f81 x hz n (by omega))).trans ?_; rw [ho]; rfl
 | true =>
  cases hc : x.clock == 100000 with
  | true => exact Ev.now fun fuel => by show T75 (arun p n) fuel x = some ⟨[⟨K73, x⟩], []⟩; unfold T75; refine (call_step (f125 x hz n (by omega))).trans ?_; refine (call_step (f81 x hz n (by omega))).trans ?_; rw [ho]; refine (bif_ff rfl).trans ?_; exact bif_tt hc
  | false =>
   have lp : It (fun fuel (_ : Unit) => c75_7 (arun p n) fuel x ((x, ()), ())) ((0 : Int), ([] : List SessT)) (fun _ => some ⟨[⟨K73, tickD x⟩], []⟩) := by
    refine It.accu (α := SessT) [] (tickL x) x.sess.length 1 (fun i _ => tickL_len x i) (fun i hi acc ha fuel u rec => ?_) (It.stop fun fuel u rec => ?_)
    ·show c75_7 (arun p n) fuel x ((x, ()), ()) rec ((i : Int), acc) = rec (((i + 1 : Nat) : Int), acc ++ tickL x i)
     unfold c75_7 tickL; dsimp only; rw [wrap_succ (i63 hi hz.sess)]; refine (bif_pos (Int.ofNat_lt.2 hi)).trans ?_; refine (bif_pos (Int.natCast_nonneg _)).trans ?_; refine (at_step hi).trans ?_
     by_cases h : IntKind.i64.wrap ((gt x.sess i).2.2.2.1 + 1) ≤ x.wait
     ·refine (bif_pos h).trans ?_; refine (bif_pos ?_).trans ?_
      ·have h1 : (tickL x i).length = 1 := by unfold tickL; rw [decide_eq_true h]; rfl
       have h2 := hz.sess
       rw [h1] at ha
       show acc.length + 1 ≤ bound
       unfold small at h2; unfold bound; simp at ha; omega
      ·rw [decide_eq_true h]; rfl
     ·refine (bif_neg h).trans ?_; rw [decide_eq_false h]; show rec _ = rec _; rw [show (bif false then [tickS (gt x.sess i)] else []) = ([] : List SessT) from rfl, List.append_nil]; rfl
    ·show c75_7 (arun p n) fuel x ((x, ()), ()) rec ((x.sess.length : Int), accL x.sess.length (tickL x)) = _
     unfold c75_7; dsimp only; refine (bif_neg (Int.lt_irrefl _)).trans ?_; rfl
   exact Ev.eq (fun fuel => by
    unfold T75; refine (call_step (f125 x hz n (by omega))).trans ?_; refine (call_step (f81 x hz n (by omega))).trans ?_; rw [ho]; refine (bif_ff rfl).trans ?_; exact bif_ff hc) (lp.ev (i := ()) rfl)
def tickK (x : NodeT) : Nat → NodeT
 | 0 => x
 | k + 1 => tickN (tickK x k)
theorem tickK_sz {x : NodeT} (h : SzN x) : ∀ k, SzN (tickK x k)
 | 0 => h
 | k + 1 => tickN_sz (tickK_sz h k)
def calmAt (w : WorldT) (j : Nat) : NodeT := tickK (gt w.1 j) ((gt w.1 j).wait + 1).toNat
def calmTo (w : WorldT) (i : Nat) : List NodeT := (List.range w.1.length).map fun (j : Nat) => bif Nat.blt j i then calmAt w j else gt w.1 j
theorem calmTo_len (w : WorldT) (i : Nat) : (calmTo w i).length = w.1.length := by unfold calmTo; simp
theorem calmTo_gt (w : WorldT) {i j : Nat} (h : j < w.1.length) : gt (calmTo w i) j = bif Nat.blt j i then calmAt w j else gt w.1 j := by
 rw [gt_eq (by rw [calmTo_len]; exact h)]; unfold calmTo; simp
theorem gt_ext {xs ys : List NodeT} (h : xs.length = ys.length) (h2 : ∀ j, j < xs.length → gt xs j = gt ys j) : xs = ys := by
 refine List.ext_getElem h fun j h3 h4 => ?_
 have := h2 j h3
 rwa [gt_eq h3, gt_eq h4] at this
theorem calmTo_zero (w : WorldT) : calmTo w 0 = w.1 := gt_ext (calmTo_len w 0) fun j hj => by
 rw [calmTo_len] at hj
 rw [calmTo_gt w hj]
 cases h : Nat.blt j 0 with
 | true => have : j < 0 := Nat.blt_eq ▸ h; omega
 | false => rfl
theorem calmTo_set (w : WorldT) {i : Nat} (hi : i < w.1.length) : (calmTo w i).set i (calmAt w i) = calmTo w (i + 1) := by
 refine gt_ext (by rw [List.length_set, calmTo_len, calmTo_len]) fun j hj => ?_
 rw [List.length_set, calmTo_len] at hj
 rw [calmTo_gt w hj, gt_eq (by rw [List.length_set, calmTo_len]; exact hj)]
 by_cases e : j = i
 ·subst e
  rw [List.getElem_set_self, show Nat.blt j (j + 1) = true from Nat.blt_eq ▸ Nat.lt_succ_self j]; rfl
 ·rw [List.getElem_set_ne (fun h => e h.symm), ← gt_eq (by rw [calmTo_len]; exact hj), calmTo_gt w hj]
  have : Nat.blt j i = Nat.blt j (i + 1) := by
   cases h1 : Nat.blt j i <;> cases h2 : Nat.blt j (i + 1)
   ·rfl
   ·have h3 : j < i + 1 := Nat.blt_eq ▸ h2
    have h4 : ¬ j < i := fun h => by rw [show Nat.blt j i = true from Nat.blt_eq ▸ h] at h1; cases h1
    omega
   ·have h3 : j < i := Nat.blt_eq ▸ h1
    have h4 : ¬ j < i + 1 := fun h => by rw [show Nat.blt j (i + 1) = true from Nat.blt_eq ▸ h] at h2; cases h2
    omega
   ·rfl
  rw [this]
def calmW (w : WorldT) : WorldT := bif worldOk w then (calmTo w w.1.length, w.2.1, w.2.2.1, ()) else w
theorem calm_wait {w : WorldT} (h : worldOk w = true) {i : Nat} (hi : i < w.1.length) : 1 ≤ (gt w.1 i).wait ∧ (gt w.1 i).wait ≤ 20 := by
 have := worldOk_node h hi
 unfold nodeOk nodeTail at this
 simp only [Bool.and_eq_true, inB_iff] at this
 omega
def nodeSt (k : Int) (y : NodeT) : Int × Int × Int × List ItemT × List FloorT × List NumT × Int × Int × Int × List StateT × List NumT × List NumT × List RowT × Int × Int × List SessT × Int × Int × Int × List RiseT := (k, y.1, y.2.1, y.2.2.1, y.2.2.2.1, y.2.2.2.2.1, y.2.2.2.2.2.1, y.2.2.2.2.2.2.1, y.2.2.2.2.2.2.2.1, y.2.2.2.2.2.2.2.2.1, y.2.2.2.2.2.2.2.2.2.1, y.2.2.2.2.2.2.2.2.2.2.1, y.2.2.2.2.2.2.2.2.2.2.2.1, y.2.2.2.2.2.2.2.2.2.2.2.2.1, y.2.2.2.2.2.2.2.2.2.2.2.2.2.1, y.2.2.2.2.2.2.2.2.2.2.2.2.2.2.1, y.2.2.2.2.2.2.2.2.2.2.2.2.2.2.2.1, y.2.2.2.2.2.2.2.2.2.2.2.2.2.2.2.2.1, y.2.2.2.2.2.2.2.2.2.2.2.2.2.2.2.2.2.1, y.2.2.2.2.2.2.2.2.2.2.2.2.2.2.2.2.2.2.1)
theorem f33 (w : WorldT) (hz : SzX w) : Ran p 9 33 [.val true ⟨K26, w⟩] ⟨[⟨K26, calmW w⟩], []⟩ := go33 fun n hn => by
 unfold calmW
 cases ho : worldOk w with
 | false => exact Ev.now fun fuel => by show T33 (arun p n) fuel w = some ⟨[⟨K26, w⟩], []⟩; unfold T33; refine (call_step (f72 w hz n (by omega))).trans ?_; refine (call_step (f36 w hz.toSzW n (by omega))).trans ?_; rw [ho]; rfl
 | true =>
  have lp : It (fun fuel (_ : Unit) => c33_5 (arun p n) fuel w ((w, ()), ())) ((0 : Int), calmTo w 0) (fun _ => some ⟨[⟨K26, ((calmTo w w.1.length, w.2.1, w.2.2.1, ()) : WorldT)⟩], []⟩) := by
   refine It.runE (fun i => ((i : Int), calmTo w i)) w.1.length (fun i hi => ?_) (It.stop fun fuel u rec => ?_)
   ·have hw := calm_wait ho hi
    have hb := i63 hi hz.nodes
    have inner : It (fun fuel (rec : Int × List NodeT → Option Out) => c33_9 (arun p n) fuel w ((w, ()), ()) (i : Int) (calmTo w i) rec) (nodeSt 0 (gt w.1 i)) (fun rec => rec (((i + 1 : Nat) : Int), calmTo w (i + 1))) := by
     refine It.run (fun k => nodeSt (k : Int) (tickK (gt w.1 i) k)) ((gt w.1 i).wait + 1).toNat (fun k hk fuel rec rec9 => ?_) (It.stop fun fuel rec rec9 => ?_)
     ·show c33_9 (arun p n) fuel w ((w, ()), ()) (i : Int) (calmTo w i) rec rec9 (nodeSt (k : Int) (tickK (gt w.1 i) k)) = rec9 (nodeSt ((k + 1 : Nat) : Int) (tickK (gt w.1 i) (k + 1)))
      unfold c33_9 nodeSt; dsimp only; rw [wrap_succ (by omega)]; refine (bif_pos (Int.natCast_nonneg _)).trans ?_; refine (at_step hi).trans ?_; refine (bif_pos (by show (k : Int) ≤ (gt w.1 i).wait; omega)).trans ?_
      refine (call_step (f73 (tickK (gt w.1 i) k) (tickK_sz (hz.node i hi) k) n (by omega))).trans ?_
      rfl
     ·show c33_9 (arun p n) fuel w ((w, ()), ()) (i : Int) (calmTo w i) rec rec9 (nodeSt ((((gt w.1 i).wait + 1).toNat : Nat) : Int) (calmAt w i)) = _
      have hl : i < (calmTo w i).length := by rw [calmTo_len]; exact hi
      rw [← calmTo_set w hi]
      unfold c33_9 nodeSt; dsimp only; rw [wrap_succ hb]; refine (bif_pos (Int.natCast_nonneg _)).trans ?_; refine (at_step hi).trans ?_; refine (bif_neg (by show ¬ ((((gt w.1 i).wait + 1).toNat : Nat) : Int) ≤ (gt w.1 i).wait; omega)).trans ?_
      refine (bif_pos (Int.natCast_nonneg _)).trans ?_; refine (at_step hl).trans ?_; refine (at_step hl).trans ?_
      rfl
    obtain ⟨N, hN⟩ := inner.all_i
    refine ⟨N, fun fuel hf u rec => ?_⟩
    have hl : i < (calmTo w i).length := by rw [calmTo_len]; exact hi
    show c33_5 (arun p n) fuel w ((w, ()), ()) rec ((i : Int), calmTo w i) = rec (((i + 1 : Nat) : Int), calmTo w (i + 1))
    have hg : gt (calmTo w i) i = gt w.1 i := by
     rw [calmTo_gt w hi]
     cases h : Nat.blt i i with
     | true => have : i < i := Nat.blt_eq ▸ h; omega
     | false => rfl
    unfold c33_5; dsimp only; refine (bif_pos (by show (i : Int) < ((calmTo w i).length : Int); omega)).trans ?_; refine (bif_pos (Int.natCast_nonneg _)).trans ?_; refine (at_step hl).trans ?_; refine (at_step hl).trans ?_
    rw [hg]; exact hN fuel hf rec
   ·show c33_5 (arun p n) fuel w ((w, ()), ()) rec ((w.1.length : Int), calmTo w w.1.length) = _
    unfold c33_5; dsimp only; refine (bif_neg (by show ¬ ((w.1.length : Int) < ((calmTo w w.1.length).length : Int)); rw [calmTo_len]; omega)).trans ?_; rfl
  exact Ev.eq (fun fuel => by rw [calmTo_zero]; unfold T33; refine (call_step (f72 w hz n (by omega))).trans ?_; refine (call_step (f36 w hz.toSzW n (by omega))).trans ?_; rw [ho]; rfl) (lp.ev (i := ()) rfl)
theorem f34 (w : WorldT) (hz : SzX w) : Ran p 9 34 [.val true ⟨K26, w⟩] ⟨[⟨K26, calmW w⟩], []⟩ := go34 fun n hn => by
 unfold calmW
 cases ho : worldOk w with
 | false => exact Ev.now fun fuel => by show T34 (arun p n) fuel w = some ⟨[⟨K26, w⟩], []⟩; unfold T34; refine (call_step (f74 w hz n (by omega))).trans ?_; refine (call_step (f38 w hz.toSzW n (by omega))).trans ?_; rw [ho]; rfl
 | true =>
  have lp : It (fun fuel (_ : Unit) => c34_5 (arun p n) fuel w ((w, ()), ())) ((0 : Int), calmTo w 0) (fun _ => some ⟨[⟨K26, ((calmTo w w.1.length, w.2.1, w.2.2.1, ()) : WorldT)⟩], []⟩) := by
   refine It.runE (fun i => ((i : Int), calmTo w i)) w.1.length (fun i hi => ?_) (It.stop fun fuel u rec => ?_)
   ·have hw := calm_wait ho hi
    have hb := i63 hi hz.nodes
    have hl : i < (calmTo w i).length := by rw [calmTo_len]; exact hi
    have hg : gt (calmTo w i) i = gt w.1 i := by
     rw [calmTo_gt w hi]
     cases h : Nat.blt i i with
     | true => have : i < i := Nat.blt_eq ▸ h; omega
     | false => rfl
    have inner : It (fun fuel (rec : Int × List NodeT → Option Out) => c34_8 (arun p n) fuel w ((w, ()), ()) (gt (α := NodeT) w.1 i) (i : Int) rec) ((0 : Int), calmTo w i) (fun rec => rec (((i + 1 : Nat) : Int), calmTo w (i + 1))) := by
     have e0 : calmTo w i = (calmTo w i).set i (tickK (gt w.1 i) 0) := by
      show calmTo w i = (calmTo w i).set i (gt w.1 i)
      rw [← hg, gt_eq hl, List.set_getElem_self]
     rw [e0]
     refine It.run (fun k => ((k : Int), (calmTo w i).set i (tickK (gt w.1 i) k))) ((gt w.1 i).wait + 1).toNat (fun k hk fuel rec rec8 => ?_) (It.stop fun fuel rec rec8 => ?_)
     ·show c34_8 (arun p n) fuel w ((w, ()), ()) (gt (α := NodeT) w.1 i) (i : Int) rec rec8 ((k : Int), (calmTo w i).set i (tickK (gt w.1 i) k)) = rec8 (((k + 1 : Nat) : Int), (calmTo w i).set i (tickK (gt w.1 i) (k + 1)))
      have hl2 : i < ((calmTo w i).set i (tickK (gt w.1 i) k)).length := by rw [List.length_set]; exact hl
      have hg2 : gt ((calmTo w i).set i (tickK (gt w.1 i) k)) i = tickK (gt w.1 i) k := by rw [gt_eq hl2, List.getElem_set_self]
      unfold c34_8; dsimp only; rw [wrap_succ (by omega)]
      refine (bif_pos (by show (k : Int) < IntKind.i64.wrap ((gt w.1 i).wait + 1); rw [wrap64 (by omega) (by omega)]; omega)).trans ?_; refine (bif_pos (Int.natCast_nonneg _)).trans ?_; refine (at_step hl2).trans ?_; refine (at_step hl2).trans ?_
      rw [hg2]
      refine (call_step (f75 (tickK (gt w.1 i) k) (tickK_sz (hz.node i hi) k) n (by omega))).trans ?_
      refine (bif_pos (Int.natCast_nonneg _)).trans ?_; refine (at_step hl2).trans ?_; refine (at_step hl2).trans ?_
      show rec8 (_, List.set (List.set (calmTo w i) i (tickK (gt w.1 i) k)) i (tickN (tickK (gt w.1 i) k))) = _
      rw [List.set_set]; rfl
     ·show c34_8 (arun p n) fuel w ((w, ()), ()) (gt (α := NodeT) w.1 i) (i : Int) rec rec8 (((((gt w.1 i).wait + 1).toNat : Nat) : Int), (calmTo w i).set i (calmAt w i)) = _
      rw [calmTo_set w hi]
      unfold c34_8; dsimp only; rw [wrap_succ hb]; refine (bif_neg (by show ¬ ((((gt w.1 i).wait + 1).toNat : Nat) : Int) < IntKind.i64.wrap ((gt w.1 i).wait + 1); rw [wrap64 (by omega) (by omega)]; omega)).trans ?_
      rfl
    obtain ⟨N, hN⟩ := inner.all_i
    refine ⟨N, fun fuel hf u rec => ?_⟩
    show c34_5 (arun p n) fuel w ((w, ()), ()) rec ((i : Int), calmTo w i) = rec (((i + 1 : Nat) : Int), calmTo w (i + 1))
    unfold c34_5; dsimp only; refine (bif_pos (Int.ofNat_lt.2 hi)).trans ?_; refine (bif_pos (Int.natCast_nonneg _)).trans ?_; refine (at_step hi).trans ?_
    exact hN fuel hf rec
   ·show c34_5 (arun p n) fuel w ((w, ()), ()) rec ((w.1.length : Int), calmTo w w.1.length) = _
    unfold c34_5; dsimp only; refine (bif_neg (Int.lt_irrefl _)).trans ?_; rfl
  exact Ev.eq (fun fuel => by rw [calmTo_zero]; unfold T34; refine (call_step (f74 w hz n (by omega))).trans ?_; refine (call_step (f38 w hz.toSzW n (by omega))).trans ?_; rw [ho]; rfl) (lp.ev (i := ()) rfl)
theorem sumI_mono {α : Type} [Inhabited α] {c : α → Int} : ∀ (xs ys : List α), xs.length = ys.length → (∀ j, j < xs.length → c (gt xs j) ≤ c (gt ys j)) → sumI c xs ≤ sumI c ys
 | [], [], _, _ => Int.le_refl _
 | x :: xs, y :: ys, h, h2 => by
  have h3 : c x ≤ c y := h2 0 (Nat.zero_lt_succ _)
  have h4 := sumI_mono xs ys (by simpa using h) fun j hj => h2 (j + 1) (Nat.succ_lt_succ hj)
  show c x + sumI c xs ≤ c y + sumI c ys
  omega
 | [], _ :: _, h, _ => by cases h
 | _ :: _, [], h, _ => by cases h
theorem sess_cn (xs : List SessT) : cnT (.sl K163) xs = 4 * ((xs.length : Nat) : Int) := sumI_const (c := cnR K163) (n := 4) (fun x => rfl) xs
theorem tickN_cn (x : NodeT) : cnR K73 (tickN x) ≤ cnR K73 x := by
 unfold tickN
 cases nodeOk x with
 | false => exact Int.le_refl _
 | true =>
  cases x.clock == 100000 with
  | true => exact Int.le_refl _
  | false =>
   show cnR K73 (tickD x) ≤ cnR K73 x
   have e1 : cnR K73 (tickD x) = 1 + (1 + (cnT (.sl K139) x.2.2.1 + (cnT (.sl K143) x.2.2.2.1 + (cnT (.sl K3) x.2.2.2.2.1 + (1 + (1 + (1 + (cnT (.sl K49) x.2.2.2.2.2.2.2.2.1 + (cnT (.sl K3) x.got + (cnT (.sl K3) x.acked + (cnT (.sl K43) x.seen + (1 + (1 + (cnT (.sl K163) (tickD x).sess + (1 + (1 + (1 + (cnT (.sl K171) x.rises + 0)))))))))))))))))) := rfl
   have e2 : cnR K73 x = 1 + (1 + (cnT (.sl K139) x.2.2.1 + (cnT (.sl K143) x.2.2.2.1 + (cnT (.sl K3) x.2.2.2.2.1 + (1 + (1 + (1 + (cnT (.sl K49) x.2.2.2.2.2.2.2.2.1 + (cnT (.sl K3) x.got + (cnT (.sl K3) x.acked + (cnT (.sl K43) x.seen + (1 + (1 + (cnT (.sl K163) x.sess + (1 + (1 + (1 + (cnT (.sl K171) x.rises + 0)))))))))))))))))) := rfl
   have h1 := tickD_len x
   have h2 := sess_cn (tickD x).sess
   have h3 := sess_cn x.sess
   omega
theorem tickK_cn (x : NodeT) : ∀ k, cnR K73 (tickK x k) ≤ cnR K73 x
 | 0 => Int.le_refl _
 | k + 1 => Int.le_trans (tickN_cn _) (tickK_cn x k)
theorem calmTo_cn (w : WorldT) (i : Nat) : sumI (cnR K73) (calmTo w i) ≤ sumI (cnR K73) w.1 :=
 sumI_mono (α := NodeT) (c := cnR K73) _ _ (calmTo_len w i) fun j hj => by
  rw [calmTo_len] at hj
  rw [calmTo_gt w hj]
  cases Nat.blt j i with
  | true => exact tickK_cn _ _
  | false => exact Int.le_refl _
theorem calm_cn (w : WorldT) : cnS K26 (calmW w) ≤ cnS K26 w := by
 unfold calmW
 cases worldOk w with
 | false => exact Int.le_refl _
 | true =>
  have h := calmTo_cn w w.1.length
  have e1 : cnS K26 ((calmTo w w.1.length, w.2.1, w.2.2.1, ()) : WorldT) = sumI (cnR K73) (calmTo w w.1.length) + (cnT (.sl K108) w.2.1 + (cnT (.sl K90) w.2.2.1 + 0)) := rfl
  have e2 : cnS K26 w = sumI (cnR K73) w.1 + (cnT (.sl K108) w.2.1 + (cnT (.sl K90) w.2.2.1 + 0)) := rfl
  show cnS K26 ((calmTo w w.1.length, w.2.1, w.2.2.1, ()) : WorldT) ≤ cnS K26 w
  omega
theorem calm_lm (w : WorldT) (hz : SzW w) (h : LmR K26 w) : LmR K26 (calmW w) := by
 unfold calmW
 cases worldOk w with
 | false => exact h
 | true =>
  obtain ⟨_, h2⟩ := h
  have hl := calmTo_len w w.1.length
  have key : LmT (.sl K73) (calmTo w w.1.length) := by
   refine ⟨?_, fun i r hr => ?_⟩
   ·have h6 : (calmTo w w.1.length).length ≤ small := by rw [hl]; exact hz.nodes
    exact sm_big h6
   ·obtain ⟨h3, h4⟩ := at_gt (α := NodeT) (xs := calmTo w w.1.length) hr
    have h5 : i < w.1.length := by rw [← hl]; exact h3
    have h6 := calmTo_gt w (i := w.1.length) h5
    have h7 : gt (calmTo w w.1.length) i = r := h4
    rw [← h7, h6]
    cases Nat.blt i w.1.length with
    | true => exact node_lm _ (tickK_sz (hz.node i h5) _)
    | false => exact node_lm _ (hz.node i h5)
  exact ⟨key, h2⟩
theorem szX_of {w : WorldT} (h : Small kWorld w) : SzX w := ⟨szW_of h, gt_of (P := fun x : PackT => x.2.1.length ≤ small) fun i hi => (tsl (shd (stl ((tsl (shd (stl h))).2 i hi)))).1⟩
end Go.Abs.Gz
