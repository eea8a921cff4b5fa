/- What the functions of this program answer, part l. -/
import Derived.Test.YthgbmlfjiagadaaXj
import Derived.Test.YthgbmlfjiagadaaW2
import Derived.Test.YthgbmlfjiagadaaW1
set_option linter.unusedVariables false
namespace Go.Abs.Uz
open Go Go.Abs
theorem f105 (a b : List NumT) (ha : a.length ≤ maxLen) : Ran p 2 105 [.val false ⟨K109, (a, ())⟩, .val false ⟨K109, (b, ())⟩] ⟨[⟨K4, (sameN a b, ())⟩], []⟩ := go105 fun n hn => Ev.now fun fuel => by
  unfold T105; refine (call_step (f106 a b ha n (by omega))).trans ?_; rfl
theorem f104 (a b : List RowT) (ha : a.length ≤ small) (hr : ∀ i, i < a.length → (gt a i).1.length ≤ small) : Ran p 3 104 [.val false ⟨K115, (a, ())⟩, .val false ⟨K115, (b, ())⟩, .val false ⟨K164, ((105 : Nat), ())⟩] ⟨[⟨K4, (sameL lineEq a b, ())⟩], []⟩ := go104 fun n hn => by
  have lp : ∃ N, ∀ fuel, N ≤ fuel → lenEq a b = true → iter (c104_4 (arun p n) fuel a b) fuel (0 : Int) = oB (allI a.length fun i => lineEq (gt a i) (gt b i)) := by
    cases he : lenEq a b with
    | false => exact ⟨0, fun _ _ h => by cases h⟩
    | true =>
      have e := lenEq_iff.1 he
      have lp : It (fun fuel (_ : Unit) => c104_4 (arun p n) fuel a b) (0 : Int) (fun _ => oB (allI a.length fun i => lineEq (gt a i) (gt b i))) := by
        refine it_and_true (It.allB a.length _ true (fun i hi fuel a' rec => ?_) (It.stop fun fuel a' rec => ?_))
        · have hb := small_lt hi ha
          have hi' : i < b.length := by omega
          show c104_4 (arun p n) fuel a b rec (i : Int) = _
          unfold c104_4; rw [wrap_succ hb]; refine (bif_pos (Int.ofNat_lt.2 hi)).trans ?_; refine (bif_pos (Int.natCast_nonneg _)).trans ?_; refine (at_step hi).trans ?_; refine (bif_pos (Int.natCast_nonneg _)).trans ?_; refine (at_step hi').trans ?_; refine (call_step (f105 (gt a i).1 (gt b i).1 (small_max (hr i hi)) n (by omega))).trans ?_; exact fin
        · show c104_4 (arun p n) fuel a b rec (a.length : Int) = _
          unfold c104_4; refine (bif_neg (Int.lt_irrefl _)).trans ?_; rfl
      obtain ⟨N, hN⟩ := lp.all_i
      exact ⟨N, fun fuel hf _ => hN fuel hf ()⟩
  obtain ⟨N, hN⟩ := lp
  refine ⟨N, fun fuel hf => ?_⟩
  show T104 (arun p n) fuel a b = oB (sameL lineEq a b)
  unfold T104 sameL; refine bchk fun h => ?_; exact hN fuel hf h
theorem f110 (a b : List SessT) (ha : a.length ≤ small) : Ran p 1 110 [.val false ⟨K116, (a, ())⟩, .val false ⟨K116, (b, ())⟩] ⟨[⟨K4, (sameL eqSess a b, ())⟩], []⟩ := go110 fun n hn => by
  have lp : ∃ N, ∀ fuel, N ≤ fuel → lenEq a b = true → iter (c110_4 (arun p n) fuel a b) fuel (0 : Int) = oB (allI a.length fun i => eqSess (gt a i) (gt b i)) := by
    cases he : lenEq a b with
    | false => exact ⟨0, fun _ _ h => by cases h⟩
    | true =>
      have e := lenEq_iff.1 he
      have lp : It (fun fuel (_ : Unit) => c110_4 (arun p n) fuel a b) (0 : Int) (fun _ => oB (allI a.length fun i => eqSess (gt a i) (gt b i))) := by
        refine it_and_true (It.allB a.length _ true (fun i hi fuel a' rec => ?_) (It.stop fun fuel a' rec => ?_))
        · have hb := small_lt hi ha
          have hi' : i < b.length := by omega
          show c110_4 (arun p n) fuel a b rec (i : Int) = _
          unfold c110_4; rw [wrap_succ hb]; refine (bif_pos (Int.ofNat_lt.2 hi)).trans ?_; refine (bif_pos (Int.natCast_nonneg _)).trans ?_; refine (at_step hi).trans ?_; refine (bif_pos (Int.natCast_nonneg _)).trans ?_; refine (at_step hi').trans ?_; exact fin
        · show c110_4 (arun p n) fuel a b rec (a.length : Int) = _
          unfold c110_4; refine (bif_neg (Int.lt_irrefl _)).trans ?_; rfl
      obtain ⟨N, hN⟩ := lp.all_i
      exact ⟨N, fun fuel hf _ => hN fuel hf ()⟩
  obtain ⟨N, hN⟩ := lp
  refine ⟨N, fun fuel hf => ?_⟩
  show T110 (arun p n) fuel a b = oB (sameL eqSess a b)
  unfold T110 sameL; refine bchk fun h => ?_; exact hN fuel hf h
theorem f111 (a b : List RiseT) (ha : a.length ≤ small) : Ran p 1 111 [.val false ⟨K117, (a, ())⟩, .val false ⟨K117, (b, ())⟩] ⟨[⟨K4, (sameL eqRise a b, ())⟩], []⟩ := go111 fun n hn => by
  have lp : ∃ N, ∀ fuel, N ≤ fuel → lenEq a b = true → iter (c111_4 (arun p n) fuel a b) fuel (0 : Int) = oB (allI a.length fun i => eqRise (gt a i) (gt b i)) := by
    cases he : lenEq a b with
    | false => exact ⟨0, fun _ _ h => by cases h⟩
    | true =>
      have e := lenEq_iff.1 he
      have lp : It (fun fuel (_ : Unit) => c111_4 (arun p n) fuel a b) (0 : Int) (fun _ => oB (allI a.length fun i => eqRise (gt a i) (gt b i))) := by
        refine it_and_true (It.allB a.length _ true (fun i hi fuel a' rec => ?_) (It.stop fun fuel a' rec => ?_))
        · have hb := small_lt hi ha
          have hi' : i < b.length := by omega
          show c111_4 (arun p n) fuel a b rec (i : Int) = _
          unfold c111_4; rw [wrap_succ hb]; refine (bif_pos (Int.ofNat_lt.2 hi)).trans ?_; refine (bif_pos (Int.natCast_nonneg _)).trans ?_; refine (at_step hi).trans ?_; refine (bif_pos (Int.natCast_nonneg _)).trans ?_; refine (at_step hi').trans ?_; exact fin
        · show c111_4 (arun p n) fuel a b rec (a.length : Int) = _
          unfold c111_4; refine (bif_neg (Int.lt_irrefl _)).trans ?_; rfl
      obtain ⟨N, hN⟩ := lp.all_i
      exact ⟨N, fun fuel hf _ => hN fuel hf ()⟩
  obtain ⟨N, hN⟩ := lp
  refine ⟨N, fun fuel hf => ?_⟩
  show T111 (arun p n) fuel a b = oB (sameL eqRise a b)
  unfold T111 sameL; refine bchk fun h => ?_; exact hN fuel hf h
theorem f136 (a b : List StateT) (ha : a.length ≤ small) (hr : ∀ i, i < a.length → SzS (gt a i)) : Ran p 3 136 [.val false ⟨K112, (a, ())⟩, .val false ⟨K112, (b, ())⟩, .val false ⟨K57, ((107 : Nat), ())⟩] ⟨[⟨K4, (sameL sameState a b, ())⟩], []⟩ := go136 fun n hn => by
  have lp : ∃ N, ∀ fuel, N ≤ fuel → lenEq a b = true → iter (c136_4 (arun p n) fuel a b) fuel (0 : Int) = oB (allI a.length fun i => sameState (gt a i) (gt b i)) := by
    cases he : lenEq a b with
    | false => exact ⟨0, fun _ _ h => by cases h⟩
    | true =>
      have e := lenEq_iff.1 he
      have lp : It (fun fuel (_ : Unit) => c136_4 (arun p n) fuel a b) (0 : Int) (fun _ => oB (allI a.length fun i => sameState (gt a i) (gt b i))) := by
        refine it_and_true (It.allB a.length _ true (fun i hi fuel a' rec => ?_) (It.stop fun fuel a' rec => ?_))
        · have hb := small_lt hi ha
          have hi' : i < b.length := by omega
          show c136_4 (arun p n) fuel a b rec (i : Int) = _
          unfold c136_4; rw [wrap_succ hb]; refine (bif_pos (Int.ofNat_lt.2 hi)).trans ?_; refine (bif_pos (Int.natCast_nonneg _)).trans ?_; refine (at_step hi).trans ?_; refine (bif_pos (Int.natCast_nonneg _)).trans ?_; refine (at_step hi').trans ?_; refine (call_step (f107 (gt a i) (gt b i) (hr i hi) n (by omega))).trans ?_; exact fin
        · show c136_4 (arun p n) fuel a b rec (a.length : Int) = _
          unfold c136_4; refine (bif_neg (Int.lt_irrefl _)).trans ?_; rfl
      obtain ⟨N, hN⟩ := lp.all_i
      exact ⟨N, fun fuel hf _ => hN fuel hf ()⟩
  obtain ⟨N, hN⟩ := lp
  refine ⟨N, fun fuel hf => ?_⟩
  show T136 (arun p n) fuel a b = oB (sameL sameState a b)
  unfold T136 sameL; refine bchk fun h => ?_; exact hN fuel hf h
theorem f109 (a b : LogT) (hl : a.2.2.1.length ≤ small) (hr : ∀ i, i < a.2.2.1.length → SzS (gt a.2.2.1 i)) : Ran p 4 109 [.val true ⟨K114, a⟩, .val true ⟨K114, b⟩] ⟨[⟨K4, (logEq a b, ())⟩], []⟩ := go109 fun n hn => Ev.now fun fuel => by
  show T109 (arun p n) fuel a b = oB (logEq a b)
  unfold T109 logEq; refine bchkT fun _ => ?_; refine bchkT fun _ => ?_; refine (call_step (f136 a.2.2.1 b.2.2.1 hl hr n (by omega))).trans ?_; rfl
theorem f99 (a b : LogT) (hl : a.2.2.1.length ≤ small) (hr : ∀ i, i < a.2.2.1.length → SzS (gt a.2.2.1 i)) : Ran p 2 99 [.val true ⟨K114, a⟩, .val true ⟨K114, b⟩] ⟨[⟨K4, (logEq a b, ())⟩], []⟩ := go99 fun n hn => by
  have lp : ∃ N, ∀ fuel, N ≤ fuel → lenEq a.2.2.1 b.2.2.1 = true → iter (c99_4 (arun p n) fuel a b) fuel (0 : Int) = oB (allI a.2.2.1.length fun i => sameState (gt a.2.2.1 i) (gt b.2.2.1 i)) := by
    cases he : lenEq a.2.2.1 b.2.2.1 with
    | false => exact ⟨0, fun _ _ h => by cases h⟩
    | true =>
      have e := lenEq_iff.1 he
      have lp : It (fun fuel (_ : Unit) => c99_4 (arun p n) fuel a b) (0 : Int) (fun _ => oB (allI a.2.2.1.length fun i => sameState (gt a.2.2.1 i) (gt b.2.2.1 i))) := by
        refine it_and_true (It.allB a.2.2.1.length _ true (fun i hi fuel a' rec => ?_) (It.stop fun fuel a' rec => ?_))
        · have hb := small_lt hi hl
          have hi' : i < b.2.2.1.length := by omega
          show c99_4 (arun p n) fuel a b rec (i : Int) = _
          unfold c99_4; rw [wrap_succ hb]; refine (bif_pos (Int.ofNat_lt.2 hi)).trans ?_; refine (bif_pos (Int.natCast_nonneg _)).trans ?_; refine (at_step hi).trans ?_; refine (bif_pos (Int.natCast_nonneg _)).trans ?_; refine (at_step hi').trans ?_; refine (call_step (f65 (gt a.2.2.1 i) (gt b.2.2.1 i) (hr i hi) n (by omega))).trans ?_; exact fin
        · show c99_4 (arun p n) fuel a b rec (a.2.2.1.length : Int) = _
          unfold c99_4; refine (bif_neg (Int.lt_irrefl _)).trans ?_; rfl
      obtain ⟨N, hN⟩ := lp.all_i
      exact ⟨N, fun fuel hf _ => hN fuel hf ()⟩
  obtain ⟨N, hN⟩ := lp
  refine ⟨N, fun fuel hf => ?_⟩
  show T99 (arun p n) fuel a b = oB (logEq a b)
  unfold T99 logEq sameL; refine bchk fun _ => ?_; refine bchk fun _ => ?_; refine bchk fun h => ?_; exact hN fuel hf h
theorem f70 (a b : NodeT) (hz : SzN a) : Ran p 5 70 [.val true ⟨K119, a⟩, .val true ⟨K119, b⟩] ⟨[⟨K4, (nodeEq a b, ())⟩], []⟩ := go70 fun n hn => Ev.now fun fuel => by
  show T70 (arun p n) fuel a b = oB (nodeEq a b)
  unfold T70 nodeEq; refine bchk fun _ => ?_; refine bchk fun _ => ?_; refine bchk fun _ => ?_; refine bchk fun _ => ?_; refine bchk fun _ => ?_; refine bchk fun _ => ?_; refine bchk fun _ => ?_; refine (call_step (f104 a.seen b.seen hz.seen hz.lines n (by omega))).trans ?_; refine bchkT fun _ => ?_; refine (call_step (f107 a.state b.state hz.state n (by omega))).trans ?_; refine bchkT fun _ => ?_; refine (call_step (f108 a.tree b.tree (small_max hz.leaves) n (by omega))).trans ?_; refine bchkT fun _ => ?_; refine (call_step (f109 a.log b.log hz.list hz.logs n (by omega))).trans ?_; refine bchkT fun _ => ?_; refine (call_step (f106 a.got b.got (small_max hz.got) n (by omega))).trans ?_; refine bchkT fun _ => ?_; refine (call_step (f106 a.acked b.acked (small_max hz.acked) n (by omega))).trans ?_; refine bchkT fun _ => ?_; refine (call_step (f110 a.sess b.sess hz.sess n (by omega))).trans ?_; refine bchkT fun _ => ?_; refine (call_step (f111 a.rises b.rises hz.rises n (by omega))).trans ?_; rfl
theorem f64 (a b : NodeT) (hz : SzN a) : Ran p 3 64 [.val true ⟨K119, a⟩, .val true ⟨K119, b⟩] ⟨[⟨K4, (nodeEq a b, ())⟩], []⟩ := go64 fun n hn => by
  rw [← nodeEq_S]
  have ri : ∃ N, ∀ fuel, N ≤ fuel → lenEq a.rises b.rises = true → iter (c64_16 (arun p n) fuel a b) fuel (0 : Int) = oB (allI a.rises.length fun i => eqRise (gt a.rises i) (gt b.rises i)) := by
    cases he : lenEq a.rises b.rises with
    | false => exact ⟨0, fun _ _ h => by cases h⟩
    | true =>
      have e := lenEq_iff.1 he
      have lp : It (fun fuel (_ : Unit) => c64_16 (arun p n) fuel a b) (0 : Int) (fun _ => oB (allI a.rises.length fun i => eqRise (gt a.rises i) (gt b.rises i))) := by
        refine it_and_true (It.allB a.rises.length _ true (fun i hi fuel a' rec => ?_) (It.stop fun fuel a' rec => ?_))
        · have hb := small_lt hi hz.rises
          have hi' : i < b.rises.length := by omega
          show c64_16 (arun p n) fuel a b rec (i : Int) = _
          unfold c64_16; rw [wrap_succ hb]; refine (bif_pos (Int.ofNat_lt.2 hi)).trans ?_; refine (bif_pos (Int.natCast_nonneg _)).trans ?_; refine (at_step hi).trans ?_; refine (bif_pos (Int.natCast_nonneg _)).trans ?_; refine (at_step hi').trans ?_; exact fin
        · show c64_16 (arun p n) fuel a b rec (a.rises.length : Int) = _
          unfold c64_16; refine (bif_neg (Int.lt_irrefl _)).trans ?_; rfl
      obtain ⟨N, hN⟩ := lp.all_i
      exact ⟨N, fun fuel hf _ => hN fuel hf ()⟩
  obtain ⟨M, hM⟩ := ri
  have se : ∃ N, ∀ fuel, N ≤ fuel → lenEq a.sess b.sess = true → lenEq a.rises b.rises = true → iter (c64_11 (arun p n) fuel a b) fuel (0 : Int) = oB (allI a.sess.length (fun i => eqSess (gt a.sess i) (gt b.sess i)) && allI a.rises.length fun i => eqRise (gt a.rises i) (gt b.rises i)) := by
    cases he : lenEq a.sess b.sess with
    | false => exact ⟨0, fun _ _ h => by cases h⟩
    | true => cases he2 : lenEq a.rises b.rises with
      | false => exact ⟨0, fun _ _ _ h => by cases h⟩
      | true =>
        have e := lenEq_iff.1 he
        have lp : It (fun fuel (_ : Unit) => c64_11 (arun p n) fuel a b) (0 : Int) (fun _ => oB (allI a.sess.length (fun i => eqSess (gt a.sess i) (gt b.sess i)) && allI a.rises.length fun i => eqRise (gt a.rises i) (gt b.rises i))) := by
          refine It.allB a.sess.length _ _ (fun i hi fuel a' rec => ?_) (It.stopE (T := fun fuel _ => iter (c64_16 (arun p n) fuel a b) fuel (0 : Int)) (fun fuel a' rec => ?_) ⟨M, fun fuel hf _ => hM fuel hf he2⟩)
          · have hb := small_lt hi hz.sess
            have hi' : i < b.sess.length := by omega
            show c64_11 (arun p n) fuel a b rec (i : Int) = _
            unfold c64_11; rw [wrap_succ hb]; refine (bif_pos (Int.ofNat_lt.2 hi)).trans ?_; refine (bif_pos (Int.natCast_nonneg _)).trans ?_; refine (at_step hi).trans ?_; refine (bif_pos (Int.natCast_nonneg _)).trans ?_; refine (at_step hi').trans ?_; exact fin
          · show c64_11 (arun p n) fuel a b rec (a.sess.length : Int) = _
            unfold c64_11; refine (bif_neg (Int.lt_irrefl _)).trans ?_; rfl
        obtain ⟨N, hN⟩ := lp.all_i
        exact ⟨N, fun fuel hf _ _ => hN fuel hf ()⟩
  obtain ⟨M', hM'⟩ := se
  have ro : ∃ N, ∀ fuel, N ≤ fuel → lenEq a.seen b.seen = true → lenEq a.sess b.sess = true → lenEq a.rises b.rises = true → iter (c64_6 (arun p n) fuel a b) fuel (0 : Int) = oB (allI a.seen.length (fun i => lineEq (gt a.seen i) (gt b.seen i)) && (allI a.sess.length (fun i => eqSess (gt a.sess i) (gt b.sess i)) && allI a.rises.length fun i => eqRise (gt a.rises i) (gt b.rises i))) := by
    cases he : lenEq a.seen b.seen with
    | false => exact ⟨0, fun _ _ h => by cases h⟩
    | true => cases he2 : lenEq a.sess b.sess with
      | false => exact ⟨0, fun _ _ _ h => by cases h⟩
      | true => cases he3 : lenEq a.rises b.rises with
        | false => exact ⟨0, fun _ _ _ _ h => by cases h⟩
        | true =>
          have e := lenEq_iff.1 he
          have lp : It (fun fuel (_ : Unit) => c64_6 (arun p n) fuel a b) (0 : Int) (fun _ => oB (allI a.seen.length (fun i => lineEq (gt a.seen i) (gt b.seen i)) && (allI a.sess.length (fun i => eqSess (gt a.sess i) (gt b.sess i)) && allI a.rises.length fun i => eqRise (gt a.rises i) (gt b.rises i)))) := by
            refine It.allB a.seen.length _ _ (fun i hi fuel a' rec => ?_) (It.stopE (T := fun fuel _ => iter (c64_11 (arun p n) fuel a b) fuel (0 : Int)) (fun fuel a' rec => ?_) ⟨M', fun fuel hf _ => hM' fuel hf he2 he3⟩)
            · have hb := small_lt hi hz.seen
              have hi' : i < b.seen.length := by omega
              show c64_6 (arun p n) fuel a b rec (i : Int) = _
              unfold c64_6 lineEq; rw [wrap_succ hb]; refine (bif_pos (Int.ofNat_lt.2 hi)).trans ?_; refine (bif_pos (Int.natCast_nonneg _)).trans ?_; refine (at_step hi).trans ?_; refine (bif_pos (Int.natCast_nonneg _)).trans ?_; refine (at_step hi').trans ?_; refine (call_step (f100 (gt a.seen i).1 (gt b.seen i).1 (small_max (hz.lines i hi)) n (by omega))).trans ?_; exact fin
            · show c64_6 (arun p n) fuel a b rec (a.seen.length : Int) = _
              unfold c64_6; refine (bif_neg (Int.lt_irrefl _)).trans ?_; rfl
          obtain ⟨N, hN⟩ := lp.all_i
          exact ⟨N, fun fuel hf _ _ _ => hN fuel hf ()⟩
  obtain ⟨N, hN⟩ := ro
  refine ⟨N, fun fuel hf => ?_⟩
  show T64 (arun p n) fuel a b = oB (nodeEqS a b)
  unfold T64 nodeEqS; refine bchk fun _ => ?_; refine bchk fun _ => ?_; refine (call_step (f65 a.state b.state hz.state n (by omega))).trans ?_; refine bchk fun _ => ?_; refine (call_step (f98 a.tree b.tree (small_max hz.leaves) n (by omega))).trans ?_; refine bchk fun _ => ?_; refine (call_step (f99 a.log b.log hz.list hz.logs n (by omega))).trans ?_; refine bchk fun _ => ?_; refine (call_step (f100 a.got b.got (small_max hz.got) n (by omega))).trans ?_; refine bchk fun _ => ?_; refine (call_step (f100 a.acked b.acked (small_max hz.acked) n (by omega))).trans ?_; refine bchk fun _ => ?_
  refine bchk fun h1 => ?_; refine bchk fun _ => ?_; refine bchk fun _ => ?_; refine bchk fun _ => ?_; refine bchk fun _ => ?_; refine bchk fun _ => ?_; refine bchk fun h2 => ?_; refine bchk fun h3 => ?_; exact hN fuel hf h1 h2 h3
theorem f112 (a b : List NumT) : Ran p 1 112 [.val false ⟨K36, (a, ())⟩, .val false ⟨K36, (b, ())⟩] ⟨[⟨K4, (bytesEq a b, ())⟩], []⟩ := go112 fun n hn => Ev.now fun fuel => by
  unfold T112; rfl
theorem f72 (a b : PackT) : Ran p 2 72 [.val true ⟨K121, a⟩, .val true ⟨K121, b⟩] ⟨[⟨K4, (packEq a b, ())⟩], []⟩ := go72 fun n hn => Ev.now fun fuel => by
  show T72 (arun p n) fuel a b = oB (packEq a b)
  unfold T72 packEq; refine bchkT fun _ => ?_; refine (call_step (f112 a.2.1 b.2.1 n (by omega))).trans ?_; refine bchkT fun _ => ?_; rfl
theorem f74 (a b : SaidT) (ha : SzS a.2) : Ran p 3 74 [.val true ⟨K123, a⟩, .val true ⟨K123, b⟩] ⟨[⟨K4, (saidEq a b, ())⟩], []⟩ := go74 fun n hn => Ev.now fun fuel => by
  show T74 (arun p n) fuel a b = oB (saidEq a b)
  unfold T74 saidEq; refine bchkT fun _ => ?_; refine (call_step (f107 a.2 b.2 ha n (by omega))).trans ?_; rfl
theorem f69 (a b : List NodeT) (ha : a.length ≤ small) (hr : ∀ i, i < a.length → SzN (gt a i)) : Ran p 6 69 [.val false ⟨K67, (a, ())⟩, .val false ⟨K67, (b, ())⟩, .val false ⟨K108, ((70 : Nat), ())⟩] ⟨[⟨K4, (sameL nodeEq a b, ())⟩], []⟩ := go69 fun n hn => by
  have lp : ∃ N, ∀ fuel, N ≤ fuel → lenEq a b = true → iter (c69_4 (arun p n) fuel a b) fuel (0 : Int) = oB (allI a.length fun i => nodeEq (gt a i) (gt b i)) := by
    cases he : lenEq a b with
    | false => exact ⟨0, fun _ _ h => by cases h⟩
    | true =>
      have e := lenEq_iff.1 he
      have lp : It (fun fuel (_ : Unit) => c69_4 (arun p n) fuel a b) (0 : Int) (fun _ => oB (allI a.length fun i => nodeEq (gt a i) (gt b i))) := by
        refine it_and_true (It.allB a.length _ true (fun i hi fuel a' rec => ?_) (It.stop fun fuel a' rec => ?_))
        · have hb := small_lt hi ha
          have hi' : i < b.length := by omega
          show c69_4 (arun p n) fuel a b rec (i : Int) = _
          unfold c69_4; rw [wrap_succ hb]; refine (bif_pos (Int.ofNat_lt.2 hi)).trans ?_; refine (bif_pos (Int.natCast_nonneg _)).trans ?_; refine (at_step hi).trans ?_; refine (bif_pos (Int.natCast_nonneg _)).trans ?_; refine (at_step hi').trans ?_; refine (call_step (f70 (gt a i) (gt b i) (hr i hi) n (by omega))).trans ?_; exact fin
        · show c69_4 (arun p n) fuel a b rec (a.length : Int) = _
          unfold c69_4; refine (bif_neg (Int.lt_irrefl _)).trans ?_; rfl
      obtain ⟨N, hN⟩ := lp.all_i
      exact ⟨N, fun fuel hf _ => hN fuel hf ()⟩
  obtain ⟨N, hN⟩ := lp
  refine ⟨N, fun fuel hf => ?_⟩
  show T69 (arun p n) fuel a b = oB (sameL nodeEq a b)
  unfold T69 sameL; refine bchk fun h => ?_; exact hN fuel hf h
theorem f71 (a b : List PackT) (ha : a.length ≤ small) : Ran p 3 71 [.val false ⟨K68, (a, ())⟩, .val false ⟨K68, (b, ())⟩, .val false ⟨K129, ((72 : Nat), ())⟩] ⟨[⟨K4, (sameL packEq a b, ())⟩], []⟩ := go71 fun n hn => by
  have lp : ∃ N, ∀ fuel, N ≤ fuel → lenEq a b = true → iter (c71_4 (arun p n) fuel a b) fuel (0 : Int) = oB (allI a.length fun i => packEq (gt a i) (gt b i)) := by
    cases he : lenEq a b with
    | false => exact ⟨0, fun _ _ h => by cases h⟩
    | true =>
      have e := lenEq_iff.1 he
      have lp : It (fun fuel (_ : Unit) => c71_4 (arun p n) fuel a b) (0 : Int) (fun _ => oB (allI a.length fun i => packEq (gt a i) (gt b i))) := by
        refine it_and_true (It.allB a.length _ true (fun i hi fuel a' rec => ?_) (It.stop fun fuel a' rec => ?_))
        · have hb := small_lt hi ha
          have hi' : i < b.length := by omega
          show c71_4 (arun p n) fuel a b rec (i : Int) = _
          unfold c71_4; rw [wrap_succ hb]; refine (bif_pos (Int.ofNat_lt.2 hi)).trans ?_; refine (bif_pos (Int.natCast_nonneg _)).trans ?_; refine (at_step hi).trans ?_; refine (bif_pos (Int.natCast_nonneg _)).trans ?_; refine (at_step hi').trans ?_; refine (call_step (f72 (gt a i) (gt b i) n (by omega))).trans ?_; exact fin
        · show c71_4 (arun p n) fuel a b rec (a.length : Int) = _
          unfold c71_4; refine (bif_neg (Int.lt_irrefl _)).trans ?_; rfl
      obtain ⟨N, hN⟩ := lp.all_i
      exact ⟨N, fun fuel hf _ => hN fuel hf ()⟩
  obtain ⟨N, hN⟩ := lp
  refine ⟨N, fun fuel hf => ?_⟩
  show T71 (arun p n) fuel a b = oB (sameL packEq a b)
  unfold T71 sameL; refine bchk fun h => ?_; exact hN fuel hf h
theorem f73 (a b : List SaidT) (ha : a.length ≤ small) (hr : ∀ i, i < a.length → SzS (gt a i).2) : Ran p 4 73 [.val false ⟨K69, (a, ())⟩, .val false ⟨K69, (b, ())⟩, .val false ⟨K131, ((74 : Nat), ())⟩] ⟨[⟨K4, (sameL saidEq a b, ())⟩], []⟩ := go73 fun n hn => by
  have lp : ∃ N, ∀ fuel, N ≤ fuel → lenEq a b = true → iter (c73_4 (arun p n) fuel a b) fuel (0 : Int) = oB (allI a.length fun i => saidEq (gt a i) (gt b i)) := by
    cases he : lenEq a b with
    | false => exact ⟨0, fun _ _ h => by cases h⟩
    | true =>
      have e := lenEq_iff.1 he
      have lp : It (fun fuel (_ : Unit) => c73_4 (arun p n) fuel a b) (0 : Int) (fun _ => oB (allI a.length fun i => saidEq (gt a i) (gt b i))) := by
        refine it_and_true (It.allB a.length _ true (fun i hi fuel a' rec => ?_) (It.stop fun fuel a' rec => ?_))
        · have hb := small_lt hi ha
          have hi' : i < b.length := by omega
          show c73_4 (arun p n) fuel a b rec (i : Int) = _
          unfold c73_4; rw [wrap_succ hb]; refine (bif_pos (Int.ofNat_lt.2 hi)).trans ?_; refine (bif_pos (Int.natCast_nonneg _)).trans ?_; refine (at_step hi).trans ?_; refine (bif_pos (Int.natCast_nonneg _)).trans ?_; refine (at_step hi').trans ?_; refine (call_step (f74 (gt a i) (gt b i) (hr i hi) n (by omega))).trans ?_; exact fin
        · show c73_4 (arun p n) fuel a b rec (a.length : Int) = _
          unfold c73_4; refine (bif_neg (Int.lt_irrefl _)).trans ?_; rfl
      obtain ⟨N, hN⟩ := lp.all_i
      exact ⟨N, fun fuel hf _ => hN fuel hf ()⟩
  obtain ⟨N, hN⟩ := lp
  refine ⟨N, fun fuel hf => ?_⟩
  show T73 (arun p n) fuel a b = oB (sameL saidEq a b)
  unfold T73 sameL; refine bchk fun h => ?_; exact hN fuel hf h
theorem f33 (a b : WorldT) (hz : SzW a) : Ran p 7 33 [.val true ⟨K71, a⟩, .val true ⟨K71, b⟩] ⟨[⟨K4, (worldEq a b, ())⟩], []⟩ := go33 fun n hn => Ev.now fun fuel => by
  show T33 (arun p n) fuel a b = oB (worldEq a b)
  unfold T33 worldEq; refine (call_step (f69 a.1 b.1 hz.nodes hz.node n (by omega))).trans ?_; refine bchkT fun _ => ?_; refine (call_step (f71 a.2.1 b.2.1 hz.net n (by omega))).trans ?_; refine bchkT fun _ => ?_; refine (call_step (f73 a.2.2.1 b.2.2.1 hz.said hz.part n (by omega))).trans ?_; rfl
theorem f31 (a b : WorldT) (hz : SzW a) : Ran p 4 31 [.val true ⟨K71, a⟩, .val true ⟨K71, b⟩] ⟨[⟨K4, (worldEq a b, ())⟩], []⟩ := go31 fun n hn => by
  rw [← worldEq_S]
  have sa : ∃ N, ∀ fuel, N ≤ fuel → lenEq a.2.2.1 b.2.2.1 = true → iter (c31_14 (arun p n) fuel a b) fuel (0 : Int) = oB (allI a.2.2.1.length fun i => saidEq (gt a.2.2.1 i) (gt b.2.2.1 i)) := by
    cases he : lenEq a.2.2.1 b.2.2.1 with
    | false => exact ⟨0, fun _ _ h => by cases h⟩
    | true =>
      have e := lenEq_iff.1 he
      have lp : It (fun fuel (_ : Unit) => c31_14 (arun p n) fuel a b) (0 : Int) (fun _ => oB (allI a.2.2.1.length fun i => saidEq (gt a.2.2.1 i) (gt b.2.2.1 i))) := by
        refine it_and_true (It.allB a.2.2.1.length _ true (fun i hi fuel a' rec => ?_) (It.stop fun fuel a' rec => ?_))
        · have hb := small_lt hi hz.said
          have hi' : i < b.2.2.1.length := by omega
          show c31_14 (arun p n) fuel a b rec (i : Int) = _
          unfold c31_14 saidEq; rw [wrap_succ hb]; refine (bif_pos (Int.ofNat_lt.2 hi)).trans ?_; refine (bif_pos (Int.natCast_nonneg _)).trans ?_; refine (at_step hi).trans ?_; refine (bif_pos (Int.natCast_nonneg _)).trans ?_; refine (at_step hi').trans ?_; refine chk fun _ => ?_; refine (bif_pos (Int.natCast_nonneg _)).trans ?_; refine (at_step hi).trans ?_; refine (bif_pos (Int.natCast_nonneg _)).trans ?_; refine (at_step hi').trans ?_; refine (call_step (f65 (gt a.2.2.1 i).2 (gt b.2.2.1 i).2 (hz.part i hi) n (by omega))).trans ?_; exact fin
        · show c31_14 (arun p n) fuel a b rec (a.2.2.1.length : Int) = _
          unfold c31_14; refine (bif_neg (Int.lt_irrefl _)).trans ?_; rfl
      obtain ⟨N, hN⟩ := lp.all_i
      exact ⟨N, fun fuel hf _ => hN fuel hf ()⟩
  obtain ⟨M, hM⟩ := sa
  have ne : ∃ N, ∀ fuel, N ≤ fuel → lenEq a.2.1 b.2.1 = true → lenEq a.2.2.1 b.2.2.1 = true → iter (c31_9 (arun p n) fuel a b) fuel (0 : Int) = oB (allI a.2.1.length (fun i => packEqS (gt a.2.1 i) (gt b.2.1 i)) && allI a.2.2.1.length fun i => saidEq (gt a.2.2.1 i) (gt b.2.2.1 i)) := by
    cases he : lenEq a.2.1 b.2.1 with
    | false => exact ⟨0, fun _ _ h => by cases h⟩
    | true => cases he2 : lenEq a.2.2.1 b.2.2.1 with
      | false => exact ⟨0, fun _ _ _ h => by cases h⟩
      | true =>
        have e := lenEq_iff.1 he
        have lp : It (fun fuel (_ : Unit) => c31_9 (arun p n) fuel a b) (0 : Int) (fun _ => oB (allI a.2.1.length (fun i => packEqS (gt a.2.1 i) (gt b.2.1 i)) && allI a.2.2.1.length fun i => saidEq (gt a.2.2.1 i) (gt b.2.2.1 i))) := by
          refine It.allB a.2.1.length _ _ (fun i hi fuel a' rec => ?_) (It.stopE (T := fun fuel _ => iter (c31_14 (arun p n) fuel a b) fuel (0 : Int)) (fun fuel a' rec => ?_) ⟨M, fun fuel hf _ => hM fuel hf he2⟩)
          · have hb := small_lt hi hz.net
            have hi' : i < b.2.1.length := by omega
            show c31_9 (arun p n) fuel a b rec (i : Int) = _
            unfold c31_9 packEqS; rw [wrap_succ hb]; refine (bif_pos (Int.ofNat_lt.2 hi)).trans ?_; refine (bif_pos (Int.natCast_nonneg _)).trans ?_; refine (at_step hi).trans ?_; refine (bif_pos (Int.natCast_nonneg _)).trans ?_; refine (at_step hi').trans ?_; refine chk fun _ => ?_; refine (bif_pos (Int.natCast_nonneg _)).trans ?_; refine (at_step hi).trans ?_; refine (bif_pos (Int.natCast_nonneg _)).trans ?_; refine (at_step hi').trans ?_; refine chk fun _ => ?_; refine (bif_pos (Int.natCast_nonneg _)).trans ?_; refine (at_step hi).trans ?_; refine (bif_pos (Int.natCast_nonneg _)).trans ?_; refine (at_step hi').trans ?_; exact fin
          · show c31_9 (arun p n) fuel a b rec (a.2.1.length : Int) = _
            unfold c31_9; refine (bif_neg (Int.lt_irrefl _)).trans ?_; rfl
        obtain ⟨N, hN⟩ := lp.all_i
        exact ⟨N, fun fuel hf _ _ => hN fuel hf ()⟩
  obtain ⟨M', hM'⟩ := ne
  have no : ∃ N, ∀ fuel, N ≤ fuel → lenEq a.1 b.1 = true → lenEq a.2.1 b.2.1 = true → lenEq a.2.2.1 b.2.2.1 = true → iter (c31_4 (arun p n) fuel a b) fuel (0 : Int) = oB (allI a.1.length (fun i => nodeEq (gt a.1 i) (gt b.1 i)) && (allI a.2.1.length (fun i => packEqS (gt a.2.1 i) (gt b.2.1 i)) && allI a.2.2.1.length fun i => saidEq (gt a.2.2.1 i) (gt b.2.2.1 i))) := by
    cases he : lenEq a.1 b.1 with
    | false => exact ⟨0, fun _ _ h => by cases h⟩
    | true => cases he2 : lenEq a.2.1 b.2.1 with
      | false => exact ⟨0, fun _ _ _ h => by cases h⟩
      | true => cases he3 : lenEq a.2.2.1 b.2.2.1 with
        | false => exact ⟨0, fun _ _ _ _ h => by cases h⟩
        | true =>
          have e := lenEq_iff.1 he
          have lp : It (fun fuel (_ : Unit) => c31_4 (arun p n) fuel a b) (0 : Int) (fun _ => oB (allI a.1.length (fun i => nodeEq (gt a.1 i) (gt b.1 i)) && (allI a.2.1.length (fun i => packEqS (gt a.2.1 i) (gt b.2.1 i)) && allI a.2.2.1.length fun i => saidEq (gt a.2.2.1 i) (gt b.2.2.1 i)))) := by
            refine It.allB a.1.length _ _ (fun i hi fuel a' rec => ?_) (It.stopE (T := fun fuel _ => iter (c31_9 (arun p n) fuel a b) fuel (0 : Int)) (fun fuel a' rec => ?_) ⟨M', fun fuel hf _ => hM' fuel hf he2 he3⟩)
            · have hb := small_lt hi hz.nodes
              have hi' : i < b.1.length := by omega
              show c31_4 (arun p n) fuel a b rec (i : Int) = _
              unfold c31_4; rw [wrap_succ hb]; refine (bif_pos (Int.ofNat_lt.2 hi)).trans ?_; refine (bif_pos (Int.natCast_nonneg _)).trans ?_; refine (at_step hi).trans ?_; refine (bif_pos (Int.natCast_nonneg _)).trans ?_; refine (at_step hi').trans ?_; refine (call_step (f64 (gt a.1 i) (gt b.1 i) (hz.node i hi) n (by omega))).trans ?_; exact fin
            · show c31_4 (arun p n) fuel a b rec (a.1.length : Int) = _
              unfold c31_4; refine (bif_neg (Int.lt_irrefl _)).trans ?_; rfl
          obtain ⟨N, hN⟩ := lp.all_i
          exact ⟨N, fun fuel hf _ _ _ => hN fuel hf ()⟩
  obtain ⟨N, hN⟩ := no
  refine ⟨N, fun fuel hf => ?_⟩
  show T31 (arun p n) fuel a b = oB (worldEqS a b)
  unfold T31 worldEqS; refine bchk fun h1 => ?_; refine bchk fun h2 => ?_; refine bchk fun h3 => ?_; exact hN fuel hf h1 h2 h3
theorem law_same (w u : WorldT) (hok : ROkay K64 w) (hou : ROkay K64 u) : Ran p 10 6 [.val true ⟨K64, w⟩, .val true ⟨K64, u⟩] trueOut := go6 fun n hn => Ev.now fun fuel => by
  obtain ⟨r, fr, gr⟩ := sz30 w 1048576 hok (by decide) (by decide)
  unfold T6; refine (call_step (fr n (by omega))).trans ?_
  by_cases hr : r < 0
  · exact bif_pos hr
  · have hs : Small K64 w := (gr (by omega)).2
    have hz : SzW w := szW_of hs
    refine (bif_neg hr).trans ?_
    obtain ⟨q, fq, gq⟩ := sz30 u r hou (by omega) (by have := (gr (by omega)).1; omega)
    refine (call_step (fq n (by omega))).trans ?_
    by_cases hq : q < 0
    · exact bif_pos hq
    · have hsu : Small K64 u := (gq (by omega)).2
      have hy : SzW u := szW_of hsu
      refine (bif_neg hq).trans ?_; refine (call_step (to32 w hs n (by omega))).trans ?_; refine (call_step (to32 u hsu n (by omega))).trans ?_; refine (call_step (f31 w u hz n (by omega))).trans ?_; refine (call_step (to32 w hs n (by omega))).trans ?_; refine (call_step (to32 u hsu n (by omega))).trans ?_; refine (call_step (f33 w u hz n (by omega))).trans ?_
      refine (bif_ff (by show (!(beqB (worldEq w u) (worldEq w u))) = false; rw [beqB_self]; rfl)).trans ?_
      refine (call_step (to32 w hs n (by omega))).trans ?_; refine (call_step (eq34 w hs n (by omega))).trans ?_; refine (bif_ff rfl).trans ?_; refine (call_step (to32 u hsu n (by omega))).trans ?_; refine (call_step (eq34 u hsu n (by omega))).trans ?_; rfl
end Go.Abs.Uz
