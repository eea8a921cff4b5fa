/- What the functions of this program answer, part d. -/
import Derived.Test.YtmamlgjbendjhaaGreatXc
import Derived.Test.YtmamlgjbendjhaaGreatW2
set_option linter.unusedVariables false
namespace Go.Abs.Xz
open Go Go.Abs
abbrev oL(l:List bB):Option Out:=rV K22 (l,())
theorem C9{k:Nat}(h:k≤5):k≤maxLen:=by show k≤9223372036854775807;omega
theorem f333(s:aM)(hs:StateOk s):Ran p 4 333 [va K27 s] (rO K22 (mU s,())):=go333 fun n hn=>by
 have h5:=hs.len
 have fl:∀ pre:List bB,pre.length≤1000→It (fun aA (_:Unit)=>c333_14 (aG p n) aA s) ((0:Int),pre) (fun _=>oL (pre++s.2.1.flatMap cQ)):=by
  intro pre hp
  refine It.accu (α:=bB) pre (fun i=>cQ (gt s.2.1 i)) s.2.1.length 10 (fun i hi=>kL _) (fun i hi acc ha aA a rec=>?_) (It.stop fun aA a rec=>?_)
  ·have hb:i<9223372036854775807:=by omega
   have ha':acc.length+(cQ (gt s.2.1 i)).length≤1050:=by omega
   unfold cQ at ha';rw[List.length_append] at ha'
   show c333_14 (aG p n) aA s rec ((i:Int),acc)=_
   unfold c333_14;dsimp only;rw[aI hb];refine(aE (Int.ofNat_lt.2 hi)).trans ?_;refine bif_nn.trans ?_;refine(aK hi).trans ?_;refine(aC (f331 (gt s.2.1 i).1 n (by omega))).trans ?_;refine(aE (by show acc.length+(aV (gt s.2.1 i).1).length≤4294967296;omega)).trans ?_;refine bif_nn.trans ?_;refine(aK hi).trans ?_;refine(aC (f331 (gt s.2.1 i).2.1 n (by omega))).trans ?_
   refine(aE (by show(acc++aV (gt s.2.1 i).1).length+(aV (gt s.2.1 i).2.1).length≤4294967296;rw[List.length_append];omega)).trans ?_
   exact congrArg (fun l:List bB=>rec (((i+1:Nat):Int),l)) (List.append_assoc _ _ _)
  ·show c333_14 (aG p n) aA s rec ((s.2.1.length:Int),pre++bI s.2.1.length fun i=>cQ (gt s.2.1 i))=_
   unfold c333_14;refine(aF (Int.lt_irrefl _)).trans ?_;exact congrArg (fun l:List bB=>oL (pre++l)) (dR cQ s.2.1)
 have it:∀ (i:Nat) (hi:i<s.1.length) (acc:List bB),acc.length≤1000→It (fun aA rec3=>c333_8 (aG p n) aA s (gt (α:=cE) s.1 i) (gt (α:=cE) s.1 i) (i:Int) rec3) ((0:Int),acc) (fun rec3=>rec3 (((i+1:Nat):Int),acc++bQ (gt s.1 i))):=by
  intro i hi acc ha
  have hb:i<9223372036854775807:=by omega
  refine It.accu (α:=bB) acc (fun k=>aV (gt (rS (gt s.1 i)) k).1) 5 5 (fun k hk=>bP _) (fun k hk acc' ha' aA rec3 rec=>?_) (It.stop fun aA rec3 rec=>?_)
  ·have hk':k<(rS (gt s.1 i)).length:=hk
   have hkb:k<9223372036854775807:=by omega
   show c333_8 (aG p n) aA s (gt (α:=cE) s.1 i) (gt (α:=cE) s.1 i) (i:Int) rec3 rec ((k:Int),acc')=_
   unfold c333_8;dsimp only;rw[aI hkb];refine(aE (Int.ofNat_lt.2 hk')).trans ?_;refine bif_nn.trans ?_;refine(aK hk').trans ?_;refine(aK hk').trans ?_;refine(aC (f331 (gt (rS (gt s.1 i)) k).1 n (by omega))).trans ?_
   refine(aE (by show acc'.length+(aV (gt (rS (gt s.1 i)) k).1).length≤4294967296;replace ha':acc'.length+(aV (gt (rS (gt s.1 i)) k).1).length≤acc.length+5*5:=ha';omega)).trans ?_;rfl
  ·show c333_8 (aG p n) aA s (gt (α:=cE) s.1 i) (gt (α:=cE) s.1 i) (i:Int) rec3 rec (((5:Nat):Int),acc++bI 5 fun k=>aV (gt (rS (gt s.1 i)) k).1)=_
   have hz:=hs.size (d9 hi)
   have h1:(bI 5 fun k=>aV (gt (rS (gt s.1 i)) k).1).length≤5*5:=c8 fun k hk=>bP _
   have h2:=nG (gt s.1 i).2.2.2.2.2.1
   unfold c333_8;dsimp only;rw[aI hb];refine(aF (by show ¬ ((5:Int)<5);decide)).trans ?_;refine(aC (f360 (gt s.1 i).2.2.2.2.2.1 (by omega) n (by omega))).trans ?_
   refine(aE (by show(acc++bI 5 fun k=>aV (gt (rS (gt s.1 i)) k).1).length+(gZ (gt s.1 i).2.2.2.2.2.1).length≤4294967296;rw[List.length_append];omega)).trans ?_
   exact congrArg (fun l:List bB=>rec3 (((i+1:Nat):Int),l)) (G5 (gt s.1 i) acc)
 have n1:=bP (s.1.length:Int)
 have n2:=bP (s.2.1.length:Int)
 have hB:((aV (s.1.length:Int)++bI s.1.length fun i=>bQ (gt s.1 i))).length≤5+5*38:=by
  have:(bI s.1.length fun i=>bQ (gt s.1 i)).length≤s.1.length*38:=c8 fun i hi=>gT (hs.item _ (d9 hi)).2.1
  rw[List.length_append];omega
 have outer:It (fun aA (_:Unit)=>c333_3 (aG p n) aA s) ((0:Int),aV (s.1.length:Int)) (fun _=>oL (mU s)):=by
  refine It.accuE (α:=bB) (aV (s.1.length:Int)) (fun i=>bQ (gt s.1 i)) s.1.length 38 (fun i hi=>gT (hs.item _ (d9 hi)).2.1) (fun i hi acc ha=>?_)
   (It.stopE (T:=fun aA _=>iter (c333_14 (aG p n) aA s) aA ((0:Int),(aV (s.1.length:Int)++bI s.1.length fun i=>bQ (gt s.1 i))++aV (s.2.1.length:Int))) (fun aA a rec=>?_) ?_)
  ·obtain⟨N,hN⟩:=(it i hi acc (by omega)).all_i
   refine⟨N,fun aA hf a rec=>?_⟩
   show c333_3 (aG p n) aA s rec ((i:Int),acc)=_
   unfold c333_3;refine(aE (Int.ofNat_lt.2 hi)).trans ?_;refine bif_nn.trans ?_;refine(aK hi).trans ?_;refine bif_nn.trans ?_;refine(aK hi).trans ?_;exact hN aA hf rec
  ·show c333_3 (aG p n) aA s rec ((s.1.length:Int),aV (s.1.length:Int)++bI s.1.length fun i=>bQ (gt s.1 i))=_
   unfold c333_3;refine(aF (Int.lt_irrefl _)).trans ?_;refine(aC (f331 (s.2.1.length:Int) n (by omega))).trans ?_;exact aE (by show(aV (s.1.length:Int)++bI s.1.length fun i=>bQ (gt s.1 i)).length+(aV (s.2.1.length:Int)).length≤4294967296;omega)
  ·have:=(fl ((aV (s.1.length:Int)++bI s.1.length fun i=>bQ (gt s.1 i))++aV (s.2.1.length:Int)) (by rw[List.length_append];omega)).all_i
   rw[dR bQ s.1] at this ⊢
   exact this
 exact Ev.eq (fun aA=>by unfold T333;refine(aC (f331 (s.1.length:Int) n (by omega))).trans ?_;rfl) (outer.ev (i:=()) rfl)

theorem iO{x:Int}{L:Nat}(h:5≤L):(aV x).length≤L:=Nat.le_trans (bP x) h
theorem f136(s:aM)(hs:StateOk s):Ran p 4 136 [va K27 s] (rO K22 (mU s,())):=go136 fun n hn=>by
 have h5:=hs.len
 have fl:∀ pre:List bB,pre.length≤1000→It (fun aA (_:Unit)=>c136_12 (aG p n) aA s) ((0:Int),pre) (fun _=>oL (pre++s.2.1.flatMap cQ)):=by
  intro pre hp
  refine It.accu (α:=bB) pre (fun i=>cQ (gt s.2.1 i)) s.2.1.length 10 (fun i hi=>kL _) (fun i hi acc ha aA a rec=>?_) (It.stop fun aA a rec=>?_)
  ·have hb:i<9223372036854775807:=by omega
   show c136_12 (aG p n) aA s rec ((i:Int),acc)=_
   unfold c136_12;dsimp only;rw[aI hb];refine(aE (Int.ofNat_lt.2 hi)).trans ?_;refine bif_nn.trans ?_;refine(aK hi).trans ?_;refine(aC (f138 (gt s.2.1 i).1 n (by omega))).trans ?_;refine(aC (f138 (gt s.2.1 i).2.1 n (by omega))).trans ?_
   refine(aC (f137 [(acc,()),(aV (gt s.2.1 i).1,()),(aV (gt s.2.1 i).2.1,())] 2000 (qK (by
    intro r hr;simp only[List.mem_cons,List.not_mem_nil,or_false] at hr
    rcases hr with rfl | rfl | rfl
    ·show acc.length≤2000;omega
    ·exact iO (by decide)
    ·exact iO (by decide))) (by show 3*2000≤4294967296;omega) (by show 3≤9223372036854775807;omega) n (by omega))).trans ?_
   exact congrArg (fun l:List bB=>rec (((i+1:Nat):Int),l)) (by simp[cQ]:List.flatMap (fun r:cV=>r.1) [(acc,()),(aV (gt s.2.1 i).1,()),(aV (gt s.2.1 i).2.1,())]=acc++cQ (gt s.2.1 i))
  ·show c136_12 (aG p n) aA s rec ((s.2.1.length:Int),pre++bI s.2.1.length fun i=>cQ (gt s.2.1 i))=_
   unfold c136_12;refine(aF (Int.lt_irrefl _)).trans ?_;exact congrArg (fun l:List bB=>oL (pre++l)) (dR cQ s.2.1)
 have n1:=bP (s.1.length:Int)
 have n2:=bP (s.2.1.length:Int)
 have hB:(bI s.1.length fun i=>bQ (gt s.1 i)).length≤190:=by
  have:(bI s.1.length fun i=>bQ (gt s.1 i)).length≤s.1.length*38:=c8 fun i hi=>gT (hs.item _ (d9 hi)).2.1
  omega
 have outer:It (fun aA (_:Unit)=>c136_5 (aG p n) aA s) ((0:Int),aV (s.1.length:Int)) (fun _=>oL (mU s)):=by
  refine It.accu (α:=bB) (aV (s.1.length:Int)) (fun i=>bQ (gt s.1 i)) s.1.length 38 (fun i hi=>gT (hs.item _ (d9 hi)).2.1) (fun i hi acc ha aA a rec=>?_)
   (It.stopE (T:=fun aA _=>iter (c136_12 (aG p n) aA s) aA ((0:Int),(aV (s.1.length:Int)++bI s.1.length fun i=>bQ (gt s.1 i))++aV (s.2.1.length:Int))) (fun aA a rec=>?_) ?_)
  ·have hb:i<9223372036854775807:=by omega
   have hz:=hs.size (d9 hi)
   have ht:=nG (gt s.1 i).2.2.2.2.2.1
   show c136_5 (aG p n) aA s rec ((i:Int),acc)=_
   unfold c136_5;dsimp only;rw[aI hb];refine(aE (Int.ofNat_lt.2 hi)).trans ?_;refine bif_nn.trans ?_;refine(aK hi).trans ?_;refine(aC (f138 (gt s.1 i).1 n (by omega))).trans ?_;refine(aC (f138 (gt s.1 i).2.1 n (by omega))).trans ?_;refine(aC (f138 (gt s.1 i).2.2.1 n (by omega))).trans ?_;refine(aC (f138 (gt s.1 i).2.2.2.1 n (by omega))).trans ?_;refine(aC (f138 (gt s.1 i).2.2.2.2.1 n (by omega))).trans ?_;refine(aC (f271 (gt s.1 i).2.2.2.2.2.1 (by omega) n (by omega))).trans ?_
   refine(aC (f137 [(acc,()),(aV (gt s.1 i).1,()),(aV (gt s.1 i).2.1,()),(aV (gt s.1 i).2.2.1,()),(aV (gt s.1 i).2.2.2.1,()),(aV (gt s.1 i).2.2.2.2.1,()),(gZ (gt s.1 i).2.2.2.2.2.1,())] 2000 (qK (by
    intro r hr;simp only[List.mem_cons,List.not_mem_nil,or_false] at hr
    rcases hr with rfl | rfl | rfl | rfl | rfl | rfl | rfl
    ·show acc.length≤2000;omega
    ·exact iO (by decide)
    ·exact iO (by decide)
    ·exact iO (by decide)
    ·exact iO (by decide)
    ·exact iO (by decide)
    ·show(gZ (gt s.1 i).2.2.2.2.2.1).length≤2000;omega)) (by show 7*2000≤4294967296;omega) (by show 7≤9223372036854775807;omega) n (by omega))).trans ?_
   exact congrArg (fun l:List bB=>rec (((i+1:Nat):Int),l)) (by simp[bQ]:List.flatMap (fun r:cV=>r.1) [(acc,()),(aV (gt s.1 i).1,()),(aV (gt s.1 i).2.1,()),(aV (gt s.1 i).2.2.1,()),(aV (gt s.1 i).2.2.2.1,()),(aV (gt s.1 i).2.2.2.2.1,()),(gZ (gt s.1 i).2.2.2.2.2.1,())]=acc++bQ (gt s.1 i))
  ·show c136_5 (aG p n) aA s rec ((s.1.length:Int),aV (s.1.length:Int)++bI s.1.length fun i=>bQ (gt s.1 i))=_
   unfold c136_5;refine(aF (Int.lt_irrefl _)).trans ?_;refine(aC (f138 (s.2.1.length:Int) n (by omega))).trans ?_
   refine(aC (f137 [(aV (s.1.length:Int)++bI s.1.length fun i=>bQ (gt s.1 i),()),(aV (s.2.1.length:Int),())] 2000 (qK (by
    intro r hr;simp only[List.mem_cons,List.not_mem_nil,or_false] at hr
    rcases hr with rfl | rfl
    ·show(aV (s.1.length:Int)++bI s.1.length fun i=>bQ (gt s.1 i)).length≤2000;rw[List.length_append];omega
    ·exact iO (by decide))) (by show 2*2000≤4294967296;omega) (by show 2≤9223372036854775807;omega) n (by omega))).trans ?_
   exact congrArg (fun l:List bB=>iter (c136_12 (aG p n) aA s) aA ((0:Int),l)) (by simp:List.flatMap (fun r:cV=>r.1) [(aV (s.1.length:Int)++bI s.1.length fun i=>bQ (gt s.1 i),()),(aV (s.2.1.length:Int),())]=(aV (s.1.length:Int)++bI s.1.length fun i=>bQ (gt s.1 i))++aV (s.2.1.length:Int))
  ·have:=(fl ((aV (s.1.length:Int)++bI s.1.length fun i=>bQ (gt s.1 i))++aV (s.2.1.length:Int)) (by rw[List.length_append,List.length_append];omega)).all_i
   rw[dR bQ s.1] at this ⊢
   exact this
 exact Ev.eq (fun aA=>by unfold T136;refine(aC (f101 s (C9 h5.1) (C9 h5.2) n (by omega))).trans ?_;rw[(bK s).2 hs];refine(aL rfl).trans ?_;refine(aC (f138 (s.1.length:Int) n (by omega))).trans ?_;rfl) (outer.ev (i:=()) rfl)
theorem f314(s:aM)(x:Int)(hz:SzS s):Ran p 5 314 [va K27 s, vf K3 (x,())] (rO K3 (jF s x,())):=go314 fun n hn=>Ev.now fun aA=>by
 unfold T314 jF;refine(aC (f227 s (Nat.le_trans hz.a (by decide)) (Nat.le_trans hz.b (by decide)) n (by omega))).trans ?_
 cases hs:bA s with
 | false=>rfl
 | true=>
  have hs':=(bK s).1 hs
  have h5:=hs'.len
  refine(aL rfl).trans ?_;refine(aC (f211 x 0 3 n (by omega))).trans ?_
  cases hx:inB x 0 3 with
  | false=>rfl
  | true=>
   refine(aL rfl).trans ?_;refine(aC (f261 s [(x,())] (by show 1≤9223372036854775807;omega) (by omega) (by omega) n (by omega))).trans ?_;refine(aC (f333 (g9 s [(x,())]) (hs'.slice _) n (by omega))).trans ?_;refine(aC (f334 (mU (g9 s [(x,())])) (Nat.le_trans (x3 (hs'.slice _)) (by decide)) n (by omega))).trans ?_;refine(aF (by decide)).trans ?_;rfl
theorem f245(s:aM)(x:Int)(hz:SzS s):Ran p 5 245 [va K27 s, vf K3 (x,())] (rO K3 (jF s x,())):=go245 fun n hn=>Ev.now fun aA=>by
 unfold T245 jF;refine(aC (f101 s (Nat.le_trans hz.a (by decide)) (Nat.le_trans hz.b (by decide)) n (by omega))).trans ?_
 cases hs:bA s with
 | false=>rfl
 | true=>
  have hs':=(bK s).1 hs
  have h5:=hs'.len
  refine(aL rfl).trans ?_;refine(aC (f100 x 0 3 n (by omega))).trans ?_
  cases hx:inB x 0 3 with
  | false=>rfl
  | true=>
   refine(aL rfl).trans ?_;refine(aC (f241 s [(x,())] (by show 1≤9223372036854775807;omega) (by omega) (by omega) hs n (by omega))).trans ?_;refine(aC (f136 (g9 s [(x,())]) (hs'.slice _) n (by omega))).trans ?_;refine(aC (f272 (mU (g9 s [(x,())])) (Nat.le_trans (x3 (hs'.slice _)) (by decide)) n (by omega))).trans ?_;refine(aF (by decide)).trans ?_;rfl
theorem f315(ls:List bB)(hl:ls.length≤1000):Ran p 3 315 [vf K28 (ls,())] (rO K3 (mA ls,())):=go315 fun n hn=>by
 have lp:It (fun aA (_:Unit)=>c315_3 (aG p n) aA ls) ((0:Int),([]:List bB)) (fun _=>oI (mA ls)):=by
  refine It.accu (α:=bB) [] (fun i=>aV (gt ls i).1) ls.length 5 (fun i hi=>bP _) (fun i hi acc ha aA a rec=>?_) (It.stop fun aA a rec=>?_)
  ·have hb:i<9223372036854775807:=by omega
   have ha':acc.length+(aV (gt ls i).1).length≤0+ls.length*5:=ha
   show c315_3 (aG p n) aA ls rec ((i:Int),acc)=_
   unfold c315_3;dsimp only;rw[aI hb];refine(aE (Int.ofNat_lt.2 hi)).trans ?_;refine bif_nn.trans ?_;refine(aK hi).trans ?_;refine(aC (f331 (gt ls i).1 n (by omega))).trans ?_;refine(aE (by show acc.length+(aV (gt ls i).1).length≤4294967296;omega)).trans ?_;rfl
  ·have hB:(bI ls.length fun i=>aV (gt ls i).1).length≤ls.length*5:=c8 fun i hi=>bP _
   show c315_3 (aG p n) aA ls rec ((ls.length:Int),bI ls.length fun i=>aV (gt ls i).1)=_
   unfold c315_3;refine(aF (Int.lt_irrefl _)).trans ?_;refine(aC (f334 (bI ls.length fun i=>aV (gt ls i).1) (by show _≤9223372036854775807;omega) n (by omega))).trans ?_;refine(aF (by decide)).trans ?_;exact congrArg (fun l:List bB=>oI ((crc l).tmod 1024)) (dR (fun x:bB=>aV x.1) ls)
 exact Ev.eq (fun aA=>by unfold T315;rfl) (lp.ev (i:=()) rfl)
theorem f246(ls:List bB)(hl:ls.length≤1000):Ran p 3 246 [vf K28 (ls,())] (rO K3 (mA ls,())):=go246 fun n hn=>by
 have lp:It (fun aA (_:Unit)=>c246_3 (aG p n) aA ls) ((0:Int),([]:List bB)) (fun _=>oI (mA ls)):=by
  refine It.accu (α:=bB) [] (fun i=>aV (gt ls i).1) ls.length 5 (fun i hi=>bP _) (fun i hi acc ha aA a rec=>?_) (It.stop fun aA a rec=>?_)
  ·have hb:i<9223372036854775807:=by omega
   have ha':acc.length+(aV (gt ls i).1).length≤0+ls.length*5:=ha
   show c246_3 (aG p n) aA ls rec ((i:Int),acc)=_
   unfold c246_3;dsimp only;rw[aI hb];refine(aE (Int.ofNat_lt.2 hi)).trans ?_;refine bif_nn.trans ?_;refine(aK hi).trans ?_;refine(aC (f138 (gt ls i).1 n (by omega))).trans ?_
   refine(aC (f137 [(acc,()),(aV (gt ls i).1,())] 6000 (qK (by
    intro r hr;simp only[List.mem_cons,List.not_mem_nil,or_false] at hr
    rcases hr with rfl | rfl
    ·show acc.length≤6000;omega
    ·exact iO (by decide))) (by show 2*6000≤4294967296;omega) (by show 2≤9223372036854775807;omega) n (by omega))).trans ?_
   exact congrArg (fun l:List bB=>rec (((i+1:Nat):Int),l)) (by simp:List.flatMap (fun r:cV=>r.1) [(acc,()),(aV (gt ls i).1,())]=acc++aV (gt ls i).1)
  ·have hB:(bI ls.length fun i=>aV (gt ls i).1).length≤ls.length*5:=c8 fun i hi=>bP _
   show c246_3 (aG p n) aA ls rec ((ls.length:Int),bI ls.length fun i=>aV (gt ls i).1)=_
   unfold c246_3;refine(aF (Int.lt_irrefl _)).trans ?_;refine(aC (f272 (bI ls.length fun i=>aV (gt ls i).1) (by show _≤9223372036854775807;omega) n (by omega))).trans ?_;refine(aF (by decide)).trans ?_;exact congrArg (fun l:List bB=>oI ((crc l).tmod 1024)) (dR (fun x:bB=>aV x.1) ls)
 exact Ev.eq (fun aA=>by unfold T246;rfl) (lp.ev (i:=()) rfl)
theorem f228(s:aM)(hz:SzS s):Ran p 6 228 [va K27 s] (rO K30 (c9 s)):=go228 fun n hn=>by
 cases hs:bA s with
 | false=>
  refine Ev.now fun aA=>?_
  unfold T228 c9;refine(aC (f227 s (Nat.le_trans hz.a (by decide)) (Nat.le_trans hz.b (by decide)) n (by omega))).trans ?_;rw[hs];rfl
 | true=>
  have lp:It (fun aA (_:Unit)=>c228_5 (aG p n) aA s) ((0:Int),([]:List bB)) (fun _=>rV K30 (dV s,mA (dV s),())):=by
   refine It.accu (α:=bB) [] (fun i=>[(jF s (i:Int),())]) 4 1 (fun i hi=>Nat.le_refl 1) (fun i hi acc ha aA a rec=>?_) (It.stop fun aA a rec=>?_)
   ·have hb:i<9223372036854775807:=by omega
    have ha':acc.length+1≤0+4*1:=ha
    show c228_5 (aG p n) aA s rec ((i:Int),acc)=_
    unfold c228_5;dsimp only;rw[aI hb];refine(aE (by show(i:Int)<4;omega)).trans ?_;refine(aC (f314 s (i:Int) hz n (by omega))).trans ?_;refine(aE (by show acc.length+1≤4294967296;omega)).trans ?_;rfl
   ·show c228_5 (aG p n) aA s rec (((4:Nat):Int),dV s)=_
    unfold c228_5;refine(aF (by show ¬ ((4:Int)<4);decide)).trans ?_;refine(aC (f315 (dV s) (by show 4≤1000;omega) n (by omega))).trans ?_;rfl
  have e:c9 s=(dV s,mA (dV s),()):=by unfold c9;rw[hs];rfl
  rw[e]
  exact Ev.eq (fun aA=>by unfold T228;refine(aC (f227 s (Nat.le_trans hz.a (by decide)) (Nat.le_trans hz.b (by decide)) n (by omega))).trans ?_;rw[hs];rfl) (lp.ev (i:=()) rfl)
theorem f103(s:aM)(hz:SzS s):Ran p 6 103 [va K27 s] (rO K30 (c9 s)):=go103 fun n hn=>by
 cases hs:bA s with
 | false=>
  refine Ev.now fun aA=>?_
  unfold T103 c9;refine(aC (f101 s (Nat.le_trans hz.a (by decide)) (Nat.le_trans hz.b (by decide)) n (by omega))).trans ?_;rw[hs];rfl
 | true=>
  have lp:It (fun aA (_:Unit)=>c103_5 (aG p n) aA s) ((0:Int),([]:List bB)) (fun _=>rV K30 (dV s,mA (dV s),())):=by
   refine It.accu (α:=bB) [] (fun i=>[(jF s (i:Int),())]) 4 1 (fun i hi=>Nat.le_refl 1) (fun i hi acc ha aA a rec=>?_) (It.stop fun aA a rec=>?_)
   ·have hb:i<9223372036854775807:=by omega
    have ha':acc.length+1≤0+4*1:=ha
    show c103_5 (aG p n) aA s rec ((i:Int),acc)=_
    unfold c103_5;dsimp only;rw[aI hb];refine(aE (by show(i:Int)<4;omega)).trans ?_;refine(aC (f245 s (i:Int) hz n (by omega))).trans ?_;refine(aE (by show acc.length+1≤4294967296;omega)).trans ?_;rfl
   ·show c103_5 (aG p n) aA s rec (((4:Nat):Int),dV s)=_
    unfold c103_5;refine(aF (by show ¬ ((4:Int)<4);decide)).trans ?_;refine(aC (f246 (dV s) (by show 4≤1000;omega) n (by omega))).trans ?_;rfl
  have e:c9 s=(dV s,mA (dV s),()):=by unfold c9;rw[hs];rfl
  rw[e]
  exact Ev.eq (fun aA=>by unfold T103;refine(aC (f101 s (Nat.le_trans hz.a (by decide)) (Nat.le_trans hz.b (by decide)) n (by omega))).trans ?_;rw[hs];rfl) (lp.ev (i:=()) rfl)
end Go.Abs.Xz
