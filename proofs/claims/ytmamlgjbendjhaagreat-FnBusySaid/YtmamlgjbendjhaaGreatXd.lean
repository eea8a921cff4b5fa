/- What the functions of this program answer, part d. -/
import Derived.Test.YtmamlgjbendjhaaGreatXc
import Derived.Test.YtmamlgjbendjhaaGreatW2
set_option linter.unusedVariables false
namespace Go.Abs.Xz
open Go Go.Abs
abbrev oL(l:List aY):Option Out:=some ⟨[⟨K22,(l,())⟩],[]⟩
theorem BF{k:Nat}(h:k≤5):k≤maxLen:=by show k≤9223372036854775807;omega
theorem f333(s:aI)(hs:StateOk s):Ran p 4 333 [.val true ⟨K27,s⟩] ⟨[⟨K22,(iX s,())⟩],[]⟩:=go333 fun n hn=>by
 have h5:=hs.len
 have fl:∀ pre:List aY,pre.length≤1000→It (fun aA (_:Unit)=>c333_14 (aK p n) aA s) ((0:Int),pre) (fun _=>oL (pre++s.2.1.flatMap cB)):=by
  intro pre hp
  refine It.accu (α:=aY) pre (fun i=>cB (gt s.2.1 i)) s.2.1.length 10 (fun i hi=>iU _) (fun i hi acc ha aA a rec=>?_) (It.stop fun aA a rec=>?_)
  ·have hb:i<9223372036854775807:=by omega
   have ha':acc.length+(cB (gt s.2.1 i)).length≤1050:=by omega
   unfold cB at ha';rw[List.length_append] at ha'
   show c333_14 (aK p n) aA s rec ((i:Int),acc)=_
   unfold c333_14;dsimp only;rw[aL hb];refine(aE (Int.ofNat_lt.2 hi)).trans ?_;refine(aE (Int.natCast_nonneg _)).trans ?_;refine(aJ hi).trans ?_;refine(aB (f331 (gt s.2.1 i).1 n (by omega))).trans ?_;refine(aE (by show acc.length+(aR (gt s.2.1 i).1).length≤4294967296;omega)).trans ?_;refine(aE (Int.natCast_nonneg _)).trans ?_;refine(aJ hi).trans ?_;refine(aB (f331 (gt s.2.1 i).2.1 n (by omega))).trans ?_
   refine(aE (by show(acc++aR (gt s.2.1 i).1).length+(aR (gt s.2.1 i).2.1).length≤4294967296;rw[List.length_append];omega)).trans ?_
   exact congrArg (fun l:List aY=>rec (((i+1:Nat):Int),l)) (List.append_assoc _ _ _)
  ·show c333_14 (aK p n) aA s rec ((s.2.1.length:Int),pre++bE s.2.1.length fun i=>cB (gt s.2.1 i))=_
   unfold c333_14;refine(aG (Int.lt_irrefl _)).trans ?_;exact congrArg (fun l:List aY=>oL (pre++l)) (cO cB s.2.1)
 have it:∀ (i:Nat) (hi:i<s.1.length) (acc:List aY),acc.length≤1000→It (fun aA rec3=>c333_8 (aK p n) aA s (gt (α:=bM) s.1 i) (gt (α:=bM) s.1 i) (i:Int) rec3) ((0:Int),acc) (fun rec3=>rec3 (((i+1:Nat):Int),acc++bH (gt s.1 i))):=by
  intro i hi acc ha
  have hb:i<9223372036854775807:=by omega
  refine It.accu (α:=aY) acc (fun k=>aR (gt (p8 (gt s.1 i)) k).1) 5 5 (fun k hk=>bJ _) (fun k hk acc' ha' aA rec3 rec=>?_) (It.stop fun aA rec3 rec=>?_)
  ·have hk':k<(p8 (gt s.1 i)).length:=hk
   have hkb:k<9223372036854775807:=by omega
   show c333_8 (aK p n) aA s (gt (α:=bM) s.1 i) (gt (α:=bM) s.1 i) (i:Int) rec3 rec ((k:Int),acc')=_
   unfold c333_8;dsimp only;rw[aL hkb];refine(aE (Int.ofNat_lt.2 hk')).trans ?_;refine(aE (Int.natCast_nonneg _)).trans ?_;refine(aJ hk').trans ?_;refine(aJ hk').trans ?_;refine(aB (f331 (gt (p8 (gt s.1 i)) k).1 n (by omega))).trans ?_
   refine(aE (by show acc'.length+(aR (gt (p8 (gt s.1 i)) k).1).length≤4294967296;replace ha':acc'.length+(aR (gt (p8 (gt s.1 i)) k).1).length≤acc.length+5*5:=ha';omega)).trans ?_;rfl
  ·show c333_8 (aK p n) aA s (gt (α:=bM) s.1 i) (gt (α:=bM) s.1 i) (i:Int) rec3 rec (((5:Nat):Int),acc++bE 5 fun k=>aR (gt (p8 (gt s.1 i)) k).1)=_
   have hz:=hs.size (cX hi)
   have h1:(bE 5 fun k=>aR (gt (p8 (gt s.1 i)) k).1).length≤5*5:=cN fun k hk=>bJ _
   have h2:=lX (gt s.1 i).2.2.2.2.2.1
   unfold c333_8;dsimp only;rw[aL hb];refine(aG (by show ¬ ((5:Int)<5);decide)).trans ?_;refine(aB (f360 (gt s.1 i).2.2.2.2.2.1 (by omega) n (by omega))).trans ?_
   refine(aE (by show(acc++bE 5 fun k=>aR (gt (p8 (gt s.1 i)) k).1).length+(eS (gt s.1 i).2.2.2.2.2.1).length≤4294967296;rw[List.length_append];omega)).trans ?_
   exact congrArg (fun l:List aY=>rec3 (((i+1:Nat):Int),l)) (FE (gt s.1 i) acc)
 have n1:=bJ ((s.1.length:Nat):Int)
 have n2:=bJ ((s.2.1.length:Nat):Int)
 have hB:((aR ((s.1.length:Nat):Int)++bE s.1.length fun i=>bH (gt s.1 i))).length≤5+5*38:=by
  have:(bE s.1.length fun i=>bH (gt s.1 i)).length≤s.1.length*38:=cN fun i hi=>fN (hs.item _ (cX hi)).2.1
  rw[List.length_append];omega
 have outer:It (fun aA (_:Unit)=>c333_3 (aK p n) aA s) ((0:Int),aR ((s.1.length:Nat):Int)) (fun _=>oL (iX s)):=by
  refine It.accuE (α:=aY) (aR ((s.1.length:Nat):Int)) (fun i=>bH (gt s.1 i)) s.1.length 38 (fun i hi=>fN (hs.item _ (cX hi)).2.1) (fun i hi acc ha=>?_)
   (It.stopE (T:=fun aA _=>iter (c333_14 (aK p n) aA s) aA ((0:Int),(aR ((s.1.length:Nat):Int)++bE s.1.length fun i=>bH (gt s.1 i))++aR ((s.2.1.length:Nat):Int))) (fun aA a rec=>?_) ?_)
  ·obtain⟨N,hN⟩:=(it i hi acc (by omega)).all_i
   refine⟨N,fun aA hf a rec=>?_⟩
   show c333_3 (aK p n) aA s rec ((i:Int),acc)=_
   unfold c333_3;refine(aE (Int.ofNat_lt.2 hi)).trans ?_;refine(aE (Int.natCast_nonneg _)).trans ?_;refine(aJ hi).trans ?_;refine(aE (Int.natCast_nonneg _)).trans ?_;refine(aJ hi).trans ?_;exact hN aA hf rec
  ·show c333_3 (aK p n) aA s rec ((s.1.length:Int),aR ((s.1.length:Nat):Int)++bE s.1.length fun i=>bH (gt s.1 i))=_
   unfold c333_3;refine(aG (Int.lt_irrefl _)).trans ?_;refine(aB (f331 ((s.2.1.length:Nat):Int) n (by omega))).trans ?_;exact aE (by show(aR ((s.1.length:Nat):Int)++bE s.1.length fun i=>bH (gt s.1 i)).length+(aR ((s.2.1.length:Nat):Int)).length≤4294967296;omega)
  ·have:=(fl ((aR ((s.1.length:Nat):Int)++bE s.1.length fun i=>bH (gt s.1 i))++aR ((s.2.1.length:Nat):Int)) (by rw[List.length_append];omega)).all_i
   rw[cO bH s.1] at this ⊢
   exact this
 exact Ev.eq (fun aA=>by unfold T333;refine(aB (f331 ((s.1.length:Nat):Int) n (by omega))).trans ?_;rfl) (outer.ev (i:=()) rfl)

theorem f7{x:Int}{L:Nat}(h:5≤L):(aR x).length≤L:=Nat.le_trans (bJ x) h
theorem f136(s:aI)(hs:StateOk s):Ran p 4 136 [.val true ⟨K27,s⟩] ⟨[⟨K22,(iX s,())⟩],[]⟩:=go136 fun n hn=>by
 have h5:=hs.len
 have fl:∀ pre:List aY,pre.length≤1000→It (fun aA (_:Unit)=>c136_12 (aK p n) aA s) ((0:Int),pre) (fun _=>oL (pre++s.2.1.flatMap cB)):=by
  intro pre hp
  refine It.accu (α:=aY) pre (fun i=>cB (gt s.2.1 i)) s.2.1.length 10 (fun i hi=>iU _) (fun i hi acc ha aA a rec=>?_) (It.stop fun aA a rec=>?_)
  ·have hb:i<9223372036854775807:=by omega
   show c136_12 (aK p n) aA s rec ((i:Int),acc)=_
   unfold c136_12;dsimp only;rw[aL hb];refine(aE (Int.ofNat_lt.2 hi)).trans ?_;refine(aE (Int.natCast_nonneg _)).trans ?_;refine(aJ hi).trans ?_;refine(aB (f138 (gt s.2.1 i).1 n (by omega))).trans ?_;refine(aB (f138 (gt s.2.1 i).2.1 n (by omega))).trans ?_
   refine(aB (f137 [(acc,()),(aR (gt s.2.1 i).1,()),(aR (gt s.2.1 i).2.1,())] 2000 (oX (by
    intro r hr;simp only[List.mem_cons,List.not_mem_nil,or_false] at hr
    rcases hr with rfl | rfl | rfl
    ·show acc.length≤2000;omega
    ·exact f7 (by decide)
    ·exact f7 (by decide))) (by show 3*2000≤4294967296;omega) (by show 3≤9223372036854775807;omega) n (by omega))).trans ?_
   exact congrArg (fun l:List aY=>rec (((i+1:Nat):Int),l)) (by simp[cB]:List.flatMap (fun r:cE=>r.1) [(acc,()),(aR (gt s.2.1 i).1,()),(aR (gt s.2.1 i).2.1,())]=acc++cB (gt s.2.1 i))
  ·show c136_12 (aK p n) aA s rec ((s.2.1.length:Int),pre++bE s.2.1.length fun i=>cB (gt s.2.1 i))=_
   unfold c136_12;refine(aG (Int.lt_irrefl _)).trans ?_;exact congrArg (fun l:List aY=>oL (pre++l)) (cO cB s.2.1)
 have n1:=bJ ((s.1.length:Nat):Int)
 have n2:=bJ ((s.2.1.length:Nat):Int)
 have hB:(bE s.1.length fun i=>bH (gt s.1 i)).length≤190:=by
  have:(bE s.1.length fun i=>bH (gt s.1 i)).length≤s.1.length*38:=cN fun i hi=>fN (hs.item _ (cX hi)).2.1
  omega
 have outer:It (fun aA (_:Unit)=>c136_5 (aK p n) aA s) ((0:Int),aR ((s.1.length:Nat):Int)) (fun _=>oL (iX s)):=by
  refine It.accu (α:=aY) (aR ((s.1.length:Nat):Int)) (fun i=>bH (gt s.1 i)) s.1.length 38 (fun i hi=>fN (hs.item _ (cX hi)).2.1) (fun i hi acc ha aA a rec=>?_)
   (It.stopE (T:=fun aA _=>iter (c136_12 (aK p n) aA s) aA ((0:Int),(aR ((s.1.length:Nat):Int)++bE s.1.length fun i=>bH (gt s.1 i))++aR ((s.2.1.length:Nat):Int))) (fun aA a rec=>?_) ?_)
  ·have hb:i<9223372036854775807:=by omega
   have hz:=hs.size (cX hi)
   have ht:=lX (gt s.1 i).2.2.2.2.2.1
   show c136_5 (aK p n) aA s rec ((i:Int),acc)=_
   unfold c136_5;dsimp only;rw[aL hb];refine(aE (Int.ofNat_lt.2 hi)).trans ?_;refine(aE (Int.natCast_nonneg _)).trans ?_;refine(aJ hi).trans ?_;refine(aB (f138 (gt s.1 i).1 n (by omega))).trans ?_;refine(aB (f138 (gt s.1 i).2.1 n (by omega))).trans ?_;refine(aB (f138 (gt s.1 i).2.2.1 n (by omega))).trans ?_;refine(aB (f138 (gt s.1 i).2.2.2.1 n (by omega))).trans ?_;refine(aB (f138 (gt s.1 i).2.2.2.2.1 n (by omega))).trans ?_;refine(aB (f271 (gt s.1 i).2.2.2.2.2.1 (by omega) n (by omega))).trans ?_
   refine(aB (f137 [(acc,()),(aR (gt s.1 i).1,()),(aR (gt s.1 i).2.1,()),(aR (gt s.1 i).2.2.1,()),(aR (gt s.1 i).2.2.2.1,()),(aR (gt s.1 i).2.2.2.2.1,()),(eS (gt s.1 i).2.2.2.2.2.1,())] 2000 (oX (by
    intro r hr;simp only[List.mem_cons,List.not_mem_nil,or_false] at hr
    rcases hr with rfl | rfl | rfl | rfl | rfl | rfl | rfl
    ·show acc.length≤2000;omega
    ·exact f7 (by decide)
    ·exact f7 (by decide)
    ·exact f7 (by decide)
    ·exact f7 (by decide)
    ·exact f7 (by decide)
    ·show(eS (gt s.1 i).2.2.2.2.2.1).length≤2000;omega)) (by show 7*2000≤4294967296;omega) (by show 7≤9223372036854775807;omega) n (by omega))).trans ?_
   exact congrArg (fun l:List aY=>rec (((i+1:Nat):Int),l)) (by simp[bH]:List.flatMap (fun r:cE=>r.1) [(acc,()),(aR (gt s.1 i).1,()),(aR (gt s.1 i).2.1,()),(aR (gt s.1 i).2.2.1,()),(aR (gt s.1 i).2.2.2.1,()),(aR (gt s.1 i).2.2.2.2.1,()),(eS (gt s.1 i).2.2.2.2.2.1,())]=acc++bH (gt s.1 i))
  ·show c136_5 (aK p n) aA s rec ((s.1.length:Int),aR ((s.1.length:Nat):Int)++bE s.1.length fun i=>bH (gt s.1 i))=_
   unfold c136_5;refine(aG (Int.lt_irrefl _)).trans ?_;refine(aB (f138 ((s.2.1.length:Nat):Int) n (by omega))).trans ?_
   refine(aB (f137 [(aR ((s.1.length:Nat):Int)++bE s.1.length fun i=>bH (gt s.1 i),()),(aR ((s.2.1.length:Nat):Int),())] 2000 (oX (by
    intro r hr;simp only[List.mem_cons,List.not_mem_nil,or_false] at hr
    rcases hr with rfl | rfl
    ·show(aR ((s.1.length:Nat):Int)++bE s.1.length fun i=>bH (gt s.1 i)).length≤2000;rw[List.length_append];omega
    ·exact f7 (by decide))) (by show 2*2000≤4294967296;omega) (by show 2≤9223372036854775807;omega) n (by omega))).trans ?_
   exact congrArg (fun l:List aY=>iter (c136_12 (aK p n) aA s) aA ((0:Int),l)) (by simp:List.flatMap (fun r:cE=>r.1) [(aR ((s.1.length:Nat):Int)++bE s.1.length fun i=>bH (gt s.1 i),()),(aR ((s.2.1.length:Nat):Int),())]=(aR ((s.1.length:Nat):Int)++bE s.1.length fun i=>bH (gt s.1 i))++aR ((s.2.1.length:Nat):Int))
  ·have:=(fl ((aR ((s.1.length:Nat):Int)++bE s.1.length fun i=>bH (gt s.1 i))++aR ((s.2.1.length:Nat):Int)) (by rw[List.length_append,List.length_append];omega)).all_i
   rw[cO bH s.1] at this ⊢
   exact this
 exact Ev.eq (fun aA=>by unfold T136;refine(aB (f101 s (BF h5.1) (BF h5.2) n (by omega))).trans ?_;rw[(bF s).2 hs];refine(aF rfl).trans ?_;refine(aB (f138 ((s.1.length:Nat):Int) n (by omega))).trans ?_;rfl) (outer.ev (i:=()) rfl)
theorem f314(s:aI)(x:Int)(hz:SzS s):Ran p 5 314 [.val true ⟨K27,s⟩, .val false ⟨K3,(x,())⟩] ⟨[⟨K3,(fS s x,())⟩],[]⟩:=go314 fun n hn=>Ev.now fun aA=>by
 unfold T314 fS;refine(aB (f227 s (Nat.le_trans hz.a (by decide)) (Nat.le_trans hz.b (by decide)) n (by omega))).trans ?_
 cases hs:aO s with
 | false=>rfl
 | true=>
  have hs':=(bF s).1 hs
  have h5:=hs'.len
  refine(aF rfl).trans ?_;refine(aB (f211 x 0 3 n (by omega))).trans ?_
  cases hx:inB x 0 3 with
  | false=>rfl
  | true=>
   refine(aF rfl).trans ?_;refine(aB (f261 s [(x,())] (by show 1≤9223372036854775807;omega) (by omega) (by omega) n (by omega))).trans ?_;refine(aB (f333 (gL s [(x,())]) (hs'.slice _) n (by omega))).trans ?_;refine(aB (f334 (iX (gL s [(x,())])) (Nat.le_trans (wH (hs'.slice _)) (by decide)) n (by omega))).trans ?_;refine(aG (by decide)).trans ?_;rfl
theorem f245(s:aI)(x:Int)(hz:SzS s):Ran p 5 245 [.val true ⟨K27,s⟩, .val false ⟨K3,(x,())⟩] ⟨[⟨K3,(fS s x,())⟩],[]⟩:=go245 fun n hn=>Ev.now fun aA=>by
 unfold T245 fS;refine(aB (f101 s (Nat.le_trans hz.a (by decide)) (Nat.le_trans hz.b (by decide)) n (by omega))).trans ?_
 cases hs:aO s with
 | false=>rfl
 | true=>
  have hs':=(bF s).1 hs
  have h5:=hs'.len
  refine(aF rfl).trans ?_;refine(aB (f100 x 0 3 n (by omega))).trans ?_
  cases hx:inB x 0 3 with
  | false=>rfl
  | true=>
   refine(aF rfl).trans ?_;refine(aB (f241 s [(x,())] (by show 1≤9223372036854775807;omega) (by omega) (by omega) hs n (by omega))).trans ?_;refine(aB (f136 (gL s [(x,())]) (hs'.slice _) n (by omega))).trans ?_;refine(aB (f272 (iX (gL s [(x,())])) (Nat.le_trans (wH (hs'.slice _)) (by decide)) n (by omega))).trans ?_;refine(aG (by decide)).trans ?_;rfl
theorem f315(ls:List aY)(hl:ls.length≤1000):Ran p 3 315 [.val false ⟨K28,(ls,())⟩] ⟨[⟨K3,(iP ls,())⟩],[]⟩:=go315 fun n hn=>by
 have lp:It (fun aA (_:Unit)=>c315_3 (aK p n) aA ls) ((0:Int),([]:List aY)) (fun _=>oI (iP ls)):=by
  refine It.accu (α:=aY) [] (fun i=>aR (gt ls i).1) ls.length 5 (fun i hi=>bJ _) (fun i hi acc ha aA a rec=>?_) (It.stop fun aA a rec=>?_)
  ·have hb:i<9223372036854775807:=by omega
   have ha':acc.length+(aR (gt ls i).1).length≤0+ls.length*5:=ha
   show c315_3 (aK p n) aA ls rec ((i:Int),acc)=_
   unfold c315_3;dsimp only;rw[aL hb];refine(aE (Int.ofNat_lt.2 hi)).trans ?_;refine(aE (Int.natCast_nonneg _)).trans ?_;refine(aJ hi).trans ?_;refine(aB (f331 (gt ls i).1 n (by omega))).trans ?_;refine(aE (by show acc.length+(aR (gt ls i).1).length≤4294967296;omega)).trans ?_;rfl
  ·have hB:(bE ls.length fun i=>aR (gt ls i).1).length≤ls.length*5:=cN fun i hi=>bJ _
   show c315_3 (aK p n) aA ls rec ((ls.length:Int),bE ls.length fun i=>aR (gt ls i).1)=_
   unfold c315_3;refine(aG (Int.lt_irrefl _)).trans ?_;refine(aB (f334 (bE ls.length fun i=>aR (gt ls i).1) (by show _≤9223372036854775807;omega) n (by omega))).trans ?_;refine(aG (by decide)).trans ?_;exact congrArg (fun l:List aY=>oI ((crc l).tmod 1024)) (cO (fun x:aY=>aR x.1) ls)
 exact Ev.eq (fun aA=>by unfold T315;rfl) (lp.ev (i:=()) rfl)
theorem f246(ls:List aY)(hl:ls.length≤1000):Ran p 3 246 [.val false ⟨K28,(ls,())⟩] ⟨[⟨K3,(iP ls,())⟩],[]⟩:=go246 fun n hn=>by
 have lp:It (fun aA (_:Unit)=>c246_3 (aK p n) aA ls) ((0:Int),([]:List aY)) (fun _=>oI (iP ls)):=by
  refine It.accu (α:=aY) [] (fun i=>aR (gt ls i).1) ls.length 5 (fun i hi=>bJ _) (fun i hi acc ha aA a rec=>?_) (It.stop fun aA a rec=>?_)
  ·have hb:i<9223372036854775807:=by omega
   have ha':acc.length+(aR (gt ls i).1).length≤0+ls.length*5:=ha
   show c246_3 (aK p n) aA ls rec ((i:Int),acc)=_
   unfold c246_3;dsimp only;rw[aL hb];refine(aE (Int.ofNat_lt.2 hi)).trans ?_;refine(aE (Int.natCast_nonneg _)).trans ?_;refine(aJ hi).trans ?_;refine(aB (f138 (gt ls i).1 n (by omega))).trans ?_
   refine(aB (f137 [(acc,()),(aR (gt ls i).1,())] 6000 (oX (by
    intro r hr;simp only[List.mem_cons,List.not_mem_nil,or_false] at hr
    rcases hr with rfl | rfl
    ·show acc.length≤6000;omega
    ·exact f7 (by decide))) (by show 2*6000≤4294967296;omega) (by show 2≤9223372036854775807;omega) n (by omega))).trans ?_
   exact congrArg (fun l:List aY=>rec (((i+1:Nat):Int),l)) (by simp:List.flatMap (fun r:cE=>r.1) [(acc,()),(aR (gt ls i).1,())]=acc++aR (gt ls i).1)
  ·have hB:(bE ls.length fun i=>aR (gt ls i).1).length≤ls.length*5:=cN fun i hi=>bJ _
   show c246_3 (aK p n) aA ls rec ((ls.length:Int),bE ls.length fun i=>aR (gt ls i).1)=_
   unfold c246_3;refine(aG (Int.lt_irrefl _)).trans ?_;refine(aB (f272 (bE ls.length fun i=>aR (gt ls i).1) (by show _≤9223372036854775807;omega) n (by omega))).trans ?_;refine(aG (by decide)).trans ?_;exact congrArg (fun l:List aY=>oI ((crc l).tmod 1024)) (cO (fun x:aY=>aR x.1) ls)
 exact Ev.eq (fun aA=>by unfold T246;rfl) (lp.ev (i:=()) rfl)
theorem f228(s:aI)(hz:SzS s):Ran p 6 228 [.val true ⟨K27,s⟩] ⟨[⟨K30,bS s⟩],[]⟩:=go228 fun n hn=>by
 cases hs:aO s with
 | false=>
  refine Ev.now fun aA=>?_
  unfold T228 bS;refine(aB (f227 s (Nat.le_trans hz.a (by decide)) (Nat.le_trans hz.b (by decide)) n (by omega))).trans ?_;rw[hs];rfl
 | true=>
  have lp:It (fun aA (_:Unit)=>c228_5 (aK p n) aA s) ((0:Int),([]:List aY)) (fun _=>some ⟨[⟨K30,(cH s,iP (cH s),())⟩],[]⟩):=by
   refine It.accu (α:=aY) [] (fun i=>[(fS s (i:Int),())]) 4 1 (fun i hi=>Nat.le_refl 1) (fun i hi acc ha aA a rec=>?_) (It.stop fun aA a rec=>?_)
   ·have hb:i<9223372036854775807:=by omega
    have ha':acc.length+1≤0+4*1:=ha
    show c228_5 (aK p n) aA s rec ((i:Int),acc)=_
    unfold c228_5;dsimp only;rw[aL hb];refine(aE (by show(i:Int)<4;omega)).trans ?_;refine(aB (f314 s (i:Int) hz n (by omega))).trans ?_;refine(aE (by show acc.length+1≤4294967296;omega)).trans ?_;rfl
   ·show c228_5 (aK p n) aA s rec (((4:Nat):Int),cH s)=_
    unfold c228_5;refine(aG (by show ¬ ((4:Int)<4);decide)).trans ?_;refine(aB (f315 (cH s) (by show 4≤1000;omega) n (by omega))).trans ?_;rfl
  have e:bS s=(cH s,iP (cH s),()):=by unfold bS;rw[hs];rfl
  rw[e]
  exact Ev.eq (fun aA=>by unfold T228;refine(aB (f227 s (Nat.le_trans hz.a (by decide)) (Nat.le_trans hz.b (by decide)) n (by omega))).trans ?_;rw[hs];rfl) (lp.ev (i:=()) rfl)
theorem f103(s:aI)(hz:SzS s):Ran p 6 103 [.val true ⟨K27,s⟩] ⟨[⟨K30,bS s⟩],[]⟩:=go103 fun n hn=>by
 cases hs:aO s with
 | false=>
  refine Ev.now fun aA=>?_
  unfold T103 bS;refine(aB (f101 s (Nat.le_trans hz.a (by decide)) (Nat.le_trans hz.b (by decide)) n (by omega))).trans ?_;rw[hs];rfl
 | true=>
  have lp:It (fun aA (_:Unit)=>c103_5 (aK p n) aA s) ((0:Int),([]:List aY)) (fun _=>some ⟨[⟨K30,(cH s,iP (cH s),())⟩],[]⟩):=by
   refine It.accu (α:=aY) [] (fun i=>[(fS s (i:Int),())]) 4 1 (fun i hi=>Nat.le_refl 1) (fun i hi acc ha aA a rec=>?_) (It.stop fun aA a rec=>?_)
   ·have hb:i<9223372036854775807:=by omega
    have ha':acc.length+1≤0+4*1:=ha
    show c103_5 (aK p n) aA s rec ((i:Int),acc)=_
    unfold c103_5;dsimp only;rw[aL hb];refine(aE (by show(i:Int)<4;omega)).trans ?_;refine(aB (f245 s (i:Int) hz n (by omega))).trans ?_;refine(aE (by show acc.length+1≤4294967296;omega)).trans ?_;rfl
   ·show c103_5 (aK p n) aA s rec (((4:Nat):Int),cH s)=_
    unfold c103_5;refine(aG (by show ¬ ((4:Int)<4);decide)).trans ?_;refine(aB (f246 (cH s) (by show 4≤1000;omega) n (by omega))).trans ?_;rfl
  have e:bS s=(cH s,iP (cH s),()):=by unfold bS;rw[hs];rfl
  rw[e]
  exact Ev.eq (fun aA=>by unfold T103;refine(aB (f101 s (Nat.le_trans hz.a (by decide)) (Nat.le_trans hz.b (by decide)) n (by omega))).trans ?_;rw[hs];rfl) (lp.ev (i:=()) rfl)
end Go.Abs.Xz
