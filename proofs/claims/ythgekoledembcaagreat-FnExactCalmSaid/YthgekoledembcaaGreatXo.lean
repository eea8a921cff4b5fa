/- What the functions of this program answer, part o. -/
import Derived.Test.YthgekoledembcaaGreatXn
set_option linter.unusedVariables false
namespace Go.Abs.Gz
open Go Go.Abs
theorem take_snoc {α : Type} [Inhabited α] {xs : List α} {i : Nat} (h : i < xs.length) : xs.take i ++ [gt xs i] = xs.take (i + 1) := by
 rw [gt_eq h]; exact List.take_append_getElem h
theorem nil_le {α β : Type} {xs : List β} (h : xs.length ≤ small) : List.length ([] : List α) + xs.length ≤ bound := by
 show 0 + xs.length ≤ bound; unfold small at h; unfold bound; omega
theorem take_le {α : Type} {xs : List α} (h : xs.length ≤ small) (i : Nat) : (xs.take i).length + 1 ≤ bound := by
 rw [List.length_take]; unfold small at h; unfold bound; omega
theorem i63 {i k : Nat} (h : i < k) (hk : k ≤ small) : i < 9223372036854775807 := by unfold small at hk; omega
theorem f124 (s : StateT) (hz : SzS s) : Ran p 1 124 [.val true ⟨K49, s⟩] ⟨[⟨K49, s⟩], []⟩ := go124 fun n hn => Ev.now fun fuel => by
 show T124 (arun p n) fuel s = some ⟨[⟨K49, s⟩], []⟩
 unfold T124; refine (bif_pos (nil_le hz.a)).trans ?_; refine (bif_pos (nil_le hz.b)).trans ?_; rfl
theorem f127 (s : StateT) (hz : SzS s) : Ran p 1 127 [.val true ⟨K49, s⟩] ⟨[⟨K49, s⟩], []⟩ := go127 fun n hn => Ev.now fun fuel => by
 show T127 (arun p n) fuel s = some ⟨[⟨K49, s⟩], []⟩
 unfold T127; refine (bif_pos (nil_le hz.a)).trans ?_; refine (bif_pos (nil_le hz.b)).trans ?_; rfl
theorem f178 (xs : List NumT) (h : xs.length ≤ small) : Ran p 1 178 [.val false ⟨K43, (xs, ())⟩] ⟨[⟨K43, (xs, ())⟩], []⟩ := go178 fun n hn => Ev.now fun fuel => by
 show T178 (arun p n) fuel xs = some ⟨[⟨K43, (xs, ())⟩], []⟩
 unfold T178; refine (bif_pos (nil_le h)).trans ?_; rfl
theorem f173 (t : TreeT) (h : t.1.length ≤ small) : Ran p 1 173 [.val true ⟨K65, t⟩] ⟨[⟨K65, t⟩], []⟩ := go173 fun n hn => Ev.now fun fuel => by
 show T173 (arun p n) fuel t = some ⟨[⟨K65, t⟩], []⟩
 unfold T173; refine (bif_pos (nil_le h)).trans ?_; rfl
theorem f176 (t : TreeT) (h : t.1.length ≤ small) : Ran p 2 176 [.val true ⟨K65, t⟩] ⟨[⟨K65, t⟩], []⟩ := go176 fun n hn => Ev.now fun fuel => by
 show T176 (arun p n) fuel t = some ⟨[⟨K65, t⟩], []⟩
 unfold T176; refine (call_step (f178 t.1 h n (by omega))).trans ?_; rfl
theorem f175 (ts : List RowT) (h1 : ts.length ≤ small) (h2 : ∀ i, i < ts.length → (gt ts i).1.length ≤ small) : Ran p 1 175 [.val false ⟨K69, (ts, ())⟩] ⟨[⟨K69, (ts, ())⟩], []⟩ := go175 fun n hn => by
 have lp : It (fun fuel (_ : Unit) => c175_3 (arun p n) fuel ts) ((0 : Int), ([] : List RowT)) (fun _ => some ⟨[⟨K69, (ts, ())⟩], []⟩) := by
  refine It.run (fun i => ((i : Int), ts.take i)) ts.length (fun i hi fuel u rec => ?_) (It.stop fun fuel u rec => ?_)
  ·show c175_3 (arun p n) fuel ts rec ((i : Int), ts.take i) = rec (((i + 1 : Nat) : Int), ts.take (i + 1))
   unfold c175_3; dsimp only; rw [wrap_succ (i63 hi h1)]; refine (bif_pos (Int.ofNat_lt.2 hi)).trans ?_; refine (bif_pos (Int.natCast_nonneg _)).trans ?_; refine (at_step hi).trans ?_
   refine (bif_pos (nil_le (h2 i hi))).trans ?_; refine (bif_pos (take_le h1 i)).trans ?_; rw [← take_snoc hi]; rfl
  ·show c175_3 (arun p n) fuel ts rec ((ts.length : Int), ts.take ts.length) = _
   refine (congrArg (fun l => c175_3 (arun p n) fuel ts rec ((ts.length : Int), l)) (List.take_length (l := ts))).trans ?_
   unfold c175_3; dsimp only; refine (bif_neg (Int.lt_irrefl _)).trans ?_; rfl
 exact Ev.eq (fun fuel => by unfold T175; rfl) (lp.ev (i := ()) rfl)
theorem f179 (ts : List RowT) (h1 : ts.length ≤ small) (h2 : ∀ i, i < ts.length → (gt ts i).1.length ≤ small) : Ran p 2 179 [.val false ⟨K69, (ts, ())⟩] ⟨[⟨K69, (ts, ())⟩], []⟩ := go179 fun n hn => by
 have lp : It (fun fuel (_ : Unit) => c179_3 (arun p n) fuel ts) ((0 : Int), ([] : List RowT)) (fun _ => some ⟨[⟨K69, (ts, ())⟩], []⟩) := by
  refine It.run (fun i => ((i : Int), ts.take i)) ts.length (fun i hi fuel u rec => ?_) (It.stop fun fuel u rec => ?_)
  ·show c179_3 (arun p n) fuel ts rec ((i : Int), ts.take i) = rec (((i + 1 : Nat) : Int), ts.take (i + 1))
   unfold c179_3; dsimp only; rw [wrap_succ (i63 hi h1)]; refine (bif_pos (Int.ofNat_lt.2 hi)).trans ?_; refine (bif_pos (Int.natCast_nonneg _)).trans ?_; refine (at_step hi).trans ?_
   refine (call_step (f178 (gt ts i).1 (h2 i hi) n (by omega))).trans ?_; refine (bif_pos (take_le h1 i)).trans ?_; rw [← take_snoc hi]; rfl
  ·show c179_3 (arun p n) fuel ts rec ((ts.length : Int), ts.take ts.length) = _
   refine (congrArg (fun l => c179_3 (arun p n) fuel ts rec ((ts.length : Int), l)) (List.take_length (l := ts))).trans ?_
   unfold c179_3; dsimp only; refine (bif_neg (Int.lt_irrefl _)).trans ?_; rfl
 exact Ev.eq (fun fuel => by unfold T179; rfl) (lp.ev (i := ()) rfl)
theorem f174 (l : LogT) (h1 : l.2.2.1.length ≤ small) (h2 : ∀ i, i < l.2.2.1.length → SzS (gt l.2.2.1 i)) : Ran p 2 174 [.val true ⟨K68, l⟩] ⟨[⟨K68, l⟩], []⟩ := go174 fun n hn => by
 have lp : It (fun fuel (_ : Unit) => c174_3 (arun p n) fuel l) ((0 : Int), ([] : List StateT)) (fun _ => some ⟨[⟨K68, l⟩], []⟩) := by
  refine It.run (fun i => ((i : Int), l.2.2.1.take i)) l.2.2.1.length (fun i hi fuel u rec => ?_) (It.stop fun fuel u rec => ?_)
  ·show c174_3 (arun p n) fuel l rec ((i : Int), l.2.2.1.take i) = rec (((i + 1 : Nat) : Int), l.2.2.1.take (i + 1))
   unfold c174_3; dsimp only; rw [wrap_succ (i63 hi h1)]; refine (bif_pos (Int.ofNat_lt.2 hi)).trans ?_; refine (bif_pos (Int.natCast_nonneg _)).trans ?_; refine (at_step hi).trans ?_
   refine (call_step (f124 (gt l.2.2.1 i) (h2 i hi) n (by omega))).trans ?_; refine (bif_pos (take_le h1 i)).trans ?_; rw [← take_snoc hi]; rfl
  ·show c174_3 (arun p n) fuel l rec ((l.2.2.1.length : Int), l.2.2.1.take l.2.2.1.length) = _
   refine (congrArg (fun q => c174_3 (arun p n) fuel l rec ((l.2.2.1.length : Int), q)) (List.take_length (l := l.2.2.1))).trans ?_
   unfold c174_3; dsimp only; refine (bif_neg (Int.lt_irrefl _)).trans ?_; rfl
 exact Ev.eq (fun fuel => by unfold T174; rfl) (lp.ev (i := ()) rfl)
theorem f177 (l : LogT) (h1 : l.2.2.1.length ≤ small) (h2 : ∀ i, i < l.2.2.1.length → SzS (gt l.2.2.1 i)) : Ran p 2 177 [.val true ⟨K68, l⟩] ⟨[⟨K68, l⟩], []⟩ := go177 fun n hn => by
 have lp : It (fun fuel (_ : Unit) => c177_3 (arun p n) fuel l) ((0 : Int), ([] : List StateT)) (fun _ => some ⟨[⟨K68, l⟩], []⟩) := by
  refine It.run (fun i => ((i : Int), l.2.2.1.take i)) l.2.2.1.length (fun i hi fuel u rec => ?_) (It.stop fun fuel u rec => ?_)
  ·show c177_3 (arun p n) fuel l rec ((i : Int), l.2.2.1.take i) = rec (((i + 1 : Nat) : Int), l.2.2.1.take (i + 1))
   unfold c177_3; dsimp only; rw [wrap_succ (i63 hi h1)]; refine (bif_pos (Int.ofNat_lt.2 hi)).trans ?_; refine (bif_pos (Int.natCast_nonneg _)).trans ?_; refine (at_step hi).trans ?_
   refine (call_step (f127 (gt l.2.2.1 i) (h2 i hi) n (by omega))).trans ?_; refine (bif_pos (take_le h1 i)).trans ?_; rw [← take_snoc hi]; rfl
  ·show c177_3 (arun p n) fuel l rec ((l.2.2.1.length : Int), l.2.2.1.take l.2.2.1.length) = _
   refine (congrArg (fun q => c177_3 (arun p n) fuel l rec ((l.2.2.1.length : Int), q)) (List.take_length (l := l.2.2.1))).trans ?_
   unfold c177_3; dsimp only; refine (bif_neg (Int.lt_irrefl _)).trans ?_; rfl
 exact Ev.eq (fun fuel => by unfold T177; rfl) (lp.ev (i := ()) rfl)
theorem f123 (k : PackT) (h : k.2.1.length ≤ small) : Ran p 1 123 [.val true ⟨K108, k⟩] ⟨[⟨K108, k⟩], []⟩ := go123 fun n hn => Ev.now fun fuel => by
 show T123 (arun p n) fuel k = some ⟨[⟨K108, k⟩], []⟩
 unfold T123; refine (bif_pos (nil_le h)).trans ?_; rfl
theorem f126 (k : PackT) (h : k.2.1.length ≤ small) : Ran p 2 126 [.val true ⟨K108, k⟩] ⟨[⟨K108, k⟩], []⟩ := go126 fun n hn => Ev.now fun fuel => by
 show T126 (arun p n) fuel k = some ⟨[⟨K108, k⟩], []⟩
 have hb : k.2.1.length ≤ bound := by unfold small at h; unfold bound; omega
 unfold T126; refine (call_step (f180 [(k.2.1, ())] k.2.1.length (fun i hi => by
  have : i = 0 := by simpa using hi
  subst this; exact Nat.le_refl _) (by simpa using hb) (show 1 ≤ maxLen by decide) n (by omega))).trans ?_
 have e : ([(k.2.1, ())] : List RowT).flatMap (fun r => r.1) = k.2.1 := by simp
 exact congrArg (fun l : List NumT => (some ⟨[⟨K108, ((k.1, l, k.2.2.1, ()) : PackT)⟩], []⟩ : Option Out)) e
theorem f122 (x : NodeT) (hz : SzN x) : Ran p 3 122 [.val true ⟨K73, x⟩] ⟨[⟨K73, x⟩], []⟩ := go122 fun n hn => Ev.now fun fuel => by
 show T122 (arun p n) fuel x = some ⟨[⟨K73, x⟩], []⟩
 unfold T122
 refine (call_step (f124 x.state hz.state n (by omega))).trans ?_
 refine (call_step (f173 x.tree hz.leaves n (by omega))).trans ?_
 refine (call_step (f174 x.log hz.list hz.logs n (by omega))).trans ?_
 refine (bif_pos (nil_le hz.got)).trans ?_; refine (bif_pos (nil_le hz.acked)).trans ?_
 refine (call_step (f175 x.seen hz.seen hz.lines n (by omega))).trans ?_
 refine (bif_pos (nil_le hz.sess)).trans ?_; refine (bif_pos (nil_le hz.rises)).trans ?_
 rfl
theorem f125 (x : NodeT) (hz : SzN x) : Ran p 3 125 [.val true ⟨K73, x⟩] ⟨[⟨K73, x⟩], []⟩ := go125 fun n hn => Ev.now fun fuel => by
 show T125 (arun p n) fuel x = some ⟨[⟨K73, x⟩], []⟩
 unfold T125
 refine (call_step (f127 x.state hz.state n (by omega))).trans ?_
 refine (call_step (f176 x.tree hz.leaves n (by omega))).trans ?_
 refine (call_step (f177 x.log hz.list hz.logs n (by omega))).trans ?_
 refine (call_step (f178 x.got hz.got n (by omega))).trans ?_
 refine (call_step (f178 x.acked hz.acked n (by omega))).trans ?_
 refine (call_step (f179 x.seen hz.seen hz.lines n (by omega))).trans ?_
 refine (bif_pos (nil_le hz.sess)).trans ?_; refine (bif_pos (nil_le hz.rises)).trans ?_
 rfl
structure SzX (w : WorldT) : Prop extends SzW w where
 bytes : ∀ i, i < w.2.1.length → (gt w.2.1 i).2.1.length ≤ small
theorem f72 (w : WorldT) (hz : SzX w) : Ran p 4 72 [.val true ⟨K26, w⟩] ⟨[⟨K26, w⟩], []⟩ := go72 fun n hn => by
 have said : It (fun fuel (_ : Unit) => c72_11 (arun p n) fuel w w.1 w.2.1) ((0 : Int), ([] : List SaidT)) (fun _ => some ⟨[⟨K26, w⟩], []⟩) := by
  refine It.run (fun i => ((i : Int), w.2.2.1.take i)) w.2.2.1.length (fun i hi fuel u rec => ?_) (It.stop fun fuel u rec => ?_)
  ·show c72_11 (arun p n) fuel w w.1 w.2.1 rec ((i : Int), w.2.2.1.take i) = rec (((i + 1 : Nat) : Int), w.2.2.1.take (i + 1))
   unfold c72_11; dsimp only; rw [wrap_succ (i63 hi hz.said)]; refine (bif_pos (Int.ofNat_lt.2 hi)).trans ?_; refine (bif_pos (Int.natCast_nonneg _)).trans ?_; refine (at_step hi).trans ?_
   refine (bif_pos (Int.natCast_nonneg _)).trans ?_; refine (at_step hi).trans ?_
   refine (call_step (f124 (gt w.2.2.1 i).2 (hz.part i hi) n (by omega))).trans ?_; refine (bif_pos (take_le hz.said i)).trans ?_; rw [← take_snoc hi]; rfl
  ·show c72_11 (arun p n) fuel w w.1 w.2.1 rec ((w.2.2.1.length : Int), w.2.2.1.take w.2.2.1.length) = _
   refine (congrArg (fun l => c72_11 (arun p n) fuel w w.1 w.2.1 rec ((w.2.2.1.length : Int), l)) (List.take_length (l := w.2.2.1))).trans ?_
   unfold c72_11; dsimp only; refine (bif_neg (Int.lt_irrefl _)).trans ?_; rfl
 have net : It (fun fuel (_ : Unit) => c72_7 (arun p n) fuel w w.1) ((0 : Int), ([] : List PackT)) (fun _ => some ⟨[⟨K26, w⟩], []⟩) := by
  refine It.run (fun i => ((i : Int), w.2.1.take i)) w.2.1.length (fun i hi fuel u rec => ?_) (It.stopE (T := fun fuel _ => iter (c72_11 (arun p n) fuel w w.1 w.2.1) fuel ((0 : Int), ([] : List SaidT))) (fun fuel u rec => ?_) said.all_i)
  ·show c72_7 (arun p n) fuel w w.1 rec ((i : Int), w.2.1.take i) = rec (((i + 1 : Nat) : Int), w.2.1.take (i + 1))
   unfold c72_7; dsimp only; rw [wrap_succ (i63 hi hz.net)]; refine (bif_pos (Int.ofNat_lt.2 hi)).trans ?_; refine (bif_pos (Int.natCast_nonneg _)).trans ?_; refine (at_step hi).trans ?_
   refine (call_step (f123 (gt w.2.1 i) (hz.bytes i hi) n (by omega))).trans ?_; refine (bif_pos (take_le hz.net i)).trans ?_; rw [← take_snoc hi]; rfl
  ·show c72_7 (arun p n) fuel w w.1 rec ((w.2.1.length : Int), w.2.1.take w.2.1.length) = _
   refine (congrArg (fun l => c72_7 (arun p n) fuel w w.1 rec ((w.2.1.length : Int), l)) (List.take_length (l := w.2.1))).trans ?_
   unfold c72_7; dsimp only; refine (bif_neg (Int.lt_irrefl _)).trans ?_; rfl
 have nodes : It (fun fuel (_ : Unit) => c72_3 (arun p n) fuel w) ((0 : Int), ([] : List NodeT)) (fun _ => some ⟨[⟨K26, w⟩], []⟩) := by
  refine It.run (fun i => ((i : Int), w.1.take i)) w.1.length (fun i hi fuel u rec => ?_) (It.stopE (T := fun fuel _ => iter (c72_7 (arun p n) fuel w w.1) fuel ((0 : Int), ([] : List PackT))) (fun fuel u rec => ?_) net.all_i)
  ·show c72_3 (arun p n) fuel w rec ((i : Int), w.1.take i) = rec (((i + 1 : Nat) : Int), w.1.take (i + 1))
   unfold c72_3; dsimp only; rw [wrap_succ (i63 hi hz.nodes)]; refine (bif_pos (Int.ofNat_lt.2 hi)).trans ?_; refine (bif_pos (Int.natCast_nonneg _)).trans ?_; refine (at_step hi).trans ?_
   refine (call_step (f122 (gt w.1 i) (hz.node i hi) n (by omega))).trans ?_; refine (bif_pos (take_le hz.nodes i)).trans ?_; rw [← take_snoc hi]; rfl
  ·show c72_3 (arun p n) fuel w rec ((w.1.length : Int), w.1.take w.1.length) = _
   refine (congrArg (fun l => c72_3 (arun p n) fuel w rec ((w.1.length : Int), l)) (List.take_length (l := w.1))).trans ?_
   unfold c72_3; dsimp only; refine (bif_neg (Int.lt_irrefl _)).trans ?_; rfl
 exact Ev.eq (fun fuel => by unfold T72; rfl) (nodes.ev (i := ()) rfl)
theorem f74 (w : WorldT) (hz : SzX w) : Ran p 4 74 [.val true ⟨K26, w⟩] ⟨[⟨K26, w⟩], []⟩ := go74 fun n hn => by
 have said : It (fun fuel (_ : Unit) => c74_13 (arun p n) fuel w w.1 w.2.1) ((0 : Int), ([] : List SaidT)) (fun _ => some ⟨[⟨K26, w⟩], []⟩) := by
  refine It.run (fun i => ((i : Int), w.2.2.1.take i)) w.2.2.1.length (fun i hi fuel u rec => ?_) (It.stop fun fuel u rec => ?_)
  ·show c74_13 (arun p n) fuel w w.1 w.2.1 rec ((i : Int), w.2.2.1.take i) = rec (((i + 1 : Nat) : Int), w.2.2.1.take (i + 1))
   unfold c74_13; dsimp only; rw [wrap_succ (i63 hi hz.said)]; refine (bif_pos (Int.ofNat_lt.2 hi)).trans ?_; refine (bif_pos (Int.natCast_nonneg _)).trans ?_; refine (at_step hi).trans ?_
   refine (call_step (f127 (gt w.2.2.1 i).2 (hz.part i hi) n (by omega))).trans ?_; refine (bif_pos (take_le hz.said i)).trans ?_; rw [← take_snoc hi]; rfl
  ·show c74_13 (arun p n) fuel w w.1 w.2.1 rec ((w.2.2.1.length : Int), w.2.2.1.take w.2.2.1.length) = _
   refine (congrArg (fun l => c74_13 (arun p n) fuel w w.1 w.2.1 rec ((w.2.2.1.length : Int), l)) (List.take_length (l := w.2.2.1))).trans ?_
   unfold c74_13; dsimp only; refine (bif_neg (Int.lt_irrefl _)).trans ?_; rfl
 have net : It (fun fuel (_ : Unit) => c74_8 (arun p n) fuel w w.1) ((0 : Int), ([] : List PackT)) (fun _ => some ⟨[⟨K26, w⟩], []⟩) := by
  refine It.run (fun i => ((i : Int), w.2.1.take i)) w.2.1.length (fun i hi fuel u rec => ?_) (It.stopE (T := fun fuel _ => iter (c74_13 (arun p n) fuel w w.1 w.2.1) fuel ((0 : Int), ([] : List SaidT))) (fun fuel u rec => ?_) said.all_i)
  ·show c74_8 (arun p n) fuel w w.1 rec ((i : Int), w.2.1.take i) = rec (((i + 1 : Nat) : Int), w.2.1.take (i + 1))
   unfold c74_8; dsimp only; rw [wrap_succ (i63 hi hz.net)]; refine (bif_pos (Int.ofNat_lt.2 hi)).trans ?_; refine (bif_pos (Int.natCast_nonneg _)).trans ?_; refine (at_step hi).trans ?_
   refine (call_step (f126 (gt w.2.1 i) (hz.bytes i hi) n (by omega))).trans ?_; refine (bif_pos (take_le hz.net i)).trans ?_; rw [← take_snoc hi]; rfl
  ·show c74_8 (arun p n) fuel w w.1 rec ((w.2.1.length : Int), w.2.1.take w.2.1.length) = _
   refine (congrArg (fun l => c74_8 (arun p n) fuel w w.1 rec ((w.2.1.length : Int), l)) (List.take_length (l := w.2.1))).trans ?_
   unfold c74_8; dsimp only; refine (bif_neg (Int.lt_irrefl _)).trans ?_; rfl
 have nodes : It (fun fuel (_ : Unit) => c74_3 (arun p n) fuel w) ((0 : Int), ([] : List NodeT)) (fun _ => some ⟨[⟨K26, w⟩], []⟩) := by
  refine It.run (fun i => ((i : Int), w.1.take i)) w.1.length (fun i hi fuel u rec => ?_) (It.stopE (T := fun fuel _ => iter (c74_8 (arun p n) fuel w w.1) fuel ((0 : Int), ([] : List PackT))) (fun fuel u rec => ?_) net.all_i)
  ·show c74_3 (arun p n) fuel w rec ((i : Int), w.1.take i) = rec (((i + 1 : Nat) : Int), w.1.take (i + 1))
   unfold c74_3; dsimp only; rw [wrap_succ (i63 hi hz.nodes)]; refine (bif_pos (Int.ofNat_lt.2 hi)).trans ?_; refine (bif_pos (Int.natCast_nonneg _)).trans ?_; refine (at_step hi).trans ?_
   refine (call_step (f125 (gt w.1 i) (hz.node i hi) n (by omega))).trans ?_; refine (bif_pos (take_le hz.nodes i)).trans ?_; rw [← take_snoc hi]; rfl
  ·show c74_3 (arun p n) fuel w rec ((w.1.length : Int), w.1.take w.1.length) = _
   refine (congrArg (fun l => c74_3 (arun p n) fuel w rec ((w.1.length : Int), l)) (List.take_length (l := w.1))).trans ?_
   unfold c74_3; dsimp only; refine (bif_neg (Int.lt_irrefl _)).trans ?_; rfl
 exact Ev.eq (fun fuel => by unfold T74; rfl) (nodes.ev (i := ()) rfl)
end Go.Abs.Gz
