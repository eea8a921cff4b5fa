/- What the functions of this program answer, part d. -/
import Derived.Test.YtmamlgjbendjhaaGreatXc
import Derived.Test.YtmamlgjbendjhaaGreatW2
set_option linter.unusedVariables false
namespace Go.Abs.Xz
open Go Go.Abs
abbrev oL(l:List aX):Option Out:=some ⟨[⟨K22,(l,())⟩],[]⟩
theorem EO{k:Nat}(h:k≤5):k≤maxLen:=by show k≤9223372036854775807;omega
theorem f333(s:aH)(hs:StateOk s):Ran p 4 333 [.val true ⟨K27,s⟩] ⟨[⟨K22,(kB s,())⟩],[]⟩:=go333 fun n hn=>by
 have h5:=hs.len
 have fl:∀ pre:List aX,pre.length≤1000→It (fun aA (_:Unit)=>c333_14 (aK p n) aA s) ((0:Int),pre) (fun _=>oL (pre++s.2.1.flatMap cN)):=by
  intro pre hp
  refine It.accu (α:=aX) pre (fun i=>cN (gt s.2.1 i)) s.2.1.length 10 (fun i hi=>j9 _) (fun i hi acc ha aA a rec=>?_) (It.stop fun aA a rec=>?_)
  ·have hb:i<9223372036854775807:=by omega
   have ha':acc.length+(cN (gt s.2.1 i)).length≤1050:=by omega
   unfold cN at ha';rw[List.length_append] at ha'
   show c333_14 (aK p n) aA s rec ((i:Int),acc)=_
   unfold c333_14;dsimp only;rw[aL hb];refine(aE (Int.ofNat_lt.2 hi)).trans ?_;refine bif_nn.trans ?_;refine(aJ hi).trans ?_;refine(aB (f331 (gt s.2.1 i).1 n (by omega))).trans ?_;refine(aE (by show acc.length+(aY (gt s.2.1 i).1).length≤4294967296;omega)).trans ?_;refine bif_nn.trans ?_;refine(aJ hi).trans ?_;refine(aB (f331 (gt s.2.1 i).2.1 n (by omega))).trans ?_
   refine(aE (by show(acc++aY (gt s.2.1 i).1).length+(aY (gt s.2.1 i).2.1).length≤4294967296;rw[List.length_append];omega)).trans ?_
   exact congrArg (fun l:List aX=>rec (((i+1:Nat):Int),l)) (List.append_assoc _ _ _)
  ·show c333_14 (aK p n) aA s rec ((s.2.1.length:Int),pre++bH s.2.1.length fun i=>cN (gt s.2.1 i))=_
   unfold c333_14;refine(aI (Int.lt_irrefl _)).trans ?_;exact congrArg (fun l:List aX=>oL (pre++l)) (c5 cN s.2.1)
 have it:∀ (i:Nat) (hi:i<s.1.length) (acc:List aX),acc.length≤1000→It (fun aA rec3=>c333_8 (aK p n) aA s (gt (α:=bM) s.1 i) (gt (α:=bM) s.1 i) (i:Int) rec3) ((0:Int),acc) (fun rec3=>rec3 (((i+1:Nat):Int),acc++bL (gt s.1 i))):=by
  intro i hi acc ha
  have hb:i<9223372036854775807:=by omega
  refine It.accu (α:=aX) acc (fun k=>aY (gt (sK (gt s.1 i)) k).1) 5 5 (fun k hk=>bN _) (fun k hk acc' ha' aA rec3 rec=>?_) (It.stop fun aA rec3 rec=>?_)
  ·have hk':k<(sK (gt s.1 i)).length:=hk
   have hkb:k<9223372036854775807:=by omega
   show c333_8 (aK p n) aA s (gt (α:=bM) s.1 i) (gt (α:=bM) s.1 i) (i:Int) rec3 rec ((k:Int),acc')=_
   unfold c333_8;dsimp only;rw[aL hkb];refine(aE (Int.ofNat_lt.2 hk')).trans ?_;refine bif_nn.trans ?_;refine(aJ hk').trans ?_;refine(aJ hk').trans ?_;refine(aB (f331 (gt (sK (gt s.1 i)) k).1 n (by omega))).trans ?_
   refine(aE (by show acc'.length+(aY (gt (sK (gt s.1 i)) k).1).length≤4294967296;replace ha':acc'.length+(aY (gt (sK (gt s.1 i)) k).1).length≤acc.length+5*5:=ha';omega)).trans ?_;rfl
  ·show c333_8 (aK p n) aA s (gt (α:=bM) s.1 i) (gt (α:=bM) s.1 i) (i:Int) rec3 rec (((5:Nat):Int),acc++bH 5 fun k=>aY (gt (sK (gt s.1 i)) k).1)=_
   have hz:=hs.size (c6 hi)
   have h1:(bH 5 fun k=>aY (gt (sK (gt s.1 i)) k).1).length≤5*5:=cZ fun k hk=>bN _
   have h2:=nI (gt s.1 i).2.2.2.2.2.1
   unfold c333_8;dsimp only;rw[aL hb];refine(aI (by show ¬ ((5:Int)<5);decide)).trans ?_;refine(aB (f360 (gt s.1 i).2.2.2.2.2.1 (by omega) n (by omega))).trans ?_
   refine(aE (by show(acc++bH 5 fun k=>aY (gt (sK (gt s.1 i)) k).1).length+(fX (gt s.1 i).2.2.2.2.2.1).length≤4294967296;rw[List.length_append];omega)).trans ?_
   exact congrArg (fun l:List aX=>rec3 (((i+1:Nat):Int),l)) (JN (gt s.1 i) acc)
 have n1:=bN ((s.1.length:Nat):Int)
 have n2:=bN ((s.2.1.length:Nat):Int)
 have hB:((aY ((s.1.length:Nat):Int)++bH s.1.length fun i=>bL (gt s.1 i))).length≤5+5*38:=by
  have:(bH s.1.length fun i=>bL (gt s.1 i)).length≤s.1.length*38:=cZ fun i hi=>gM (hs.item _ (c6 hi)).2.1
  rw[List.length_append];omega
 have outer:It (fun aA (_:Unit)=>c333_3 (aK p n) aA s) ((0:Int),aY ((s.1.length:Nat):Int)) (fun _=>oL (kB s)):=by
  refine It.accuE (α:=aX) (aY ((s.1.length:Nat):Int)) (fun i=>bL (gt s.1 i)) s.1.length 38 (fun i hi=>gM (hs.item _ (c6 hi)).2.1) (fun i hi acc ha=>?_)
   (It.stopE (T:=fun aA _=>iter (c333_14 (aK p n) aA s) aA ((0:Int),(aY ((s.1.length:Nat):Int)++bH s.1.length fun i=>bL (gt s.1 i))++aY ((s.2.1.length:Nat):Int))) (fun aA a rec=>?_) ?_)
  ·obtain⟨N,hN⟩:=(it i hi acc (by omega)).all_i
   refine⟨N,fun aA hf a rec=>?_⟩
   show c333_3 (aK p n) aA s rec ((i:Int),acc)=_
   unfold c333_3;refine(aE (Int.ofNat_lt.2 hi)).trans ?_;refine bif_nn.trans ?_;refine(aJ hi).trans ?_;refine bif_nn.trans ?_;refine(aJ hi).trans ?_;exact hN aA hf rec
  ·show c333_3 (aK p n) aA s rec ((s.1.length:Int),aY ((s.1.length:Nat):Int)++bH s.1.length fun i=>bL (gt s.1 i))=_
   unfold c333_3;refine(aI (Int.lt_irrefl _)).trans ?_;refine(aB (f331 ((s.2.1.length:Nat):Int) n (by omega))).trans ?_;exact aE (by show(aY ((s.1.length:Nat):Int)++bH s.1.length fun i=>bL (gt s.1 i)).length+(aY ((s.2.1.length:Nat):Int)).length≤4294967296;omega)
  ·have:=(fl ((aY ((s.1.length:Nat):Int)++bH s.1.length fun i=>bL (gt s.1 i))++aY ((s.2.1.length:Nat):Int)) (by rw[List.length_append];omega)).all_i
   rw[c5 bL s.1] at this ⊢
   exact this
 exact Ev.eq (fun aA=>by unfold T333;refine(aB (f331 ((s.1.length:Nat):Int) n (by omega))).trans ?_;rfl) (outer.ev (i:=()) rfl)

theorem iG{x:Int}{L:Nat}(h:5≤L):(aY x).length≤L:=Nat.le_trans (bN x) h
theorem f136(s:aH)(hs:StateOk s):Ran p 4 136 [.val true ⟨K27,s⟩] ⟨[⟨K22,(kB s,())⟩],[]⟩:=go136 fun n hn=>by
 have h5:=hs.len
 have fl:∀ pre:List aX,pre.length≤1000→It (fun aA (_:Unit)=>c136_12 (aK p n) aA s) ((0:Int),pre) (fun _=>oL (pre++s.2.1.flatMap cN)):=by
  intro pre hp
  refine It.accu (α:=aX) pre (fun i=>cN (gt s.2.1 i)) s.2.1.length 10 (fun i hi=>j9 _) (fun i hi acc ha aA a rec=>?_) (It.stop fun aA a rec=>?_)
  ·have hb:i<9223372036854775807:=by omega
   show c136_12 (aK p n) aA s rec ((i:Int),acc)=_
   unfold c136_12;dsimp only;rw[aL hb];refine(aE (Int.ofNat_lt.2 hi)).trans ?_;refine bif_nn.trans ?_;refine(aJ hi).trans ?_;refine(aB (f138 (gt s.2.1 i).1 n (by omega))).trans ?_;refine(aB (f138 (gt s.2.1 i).2.1 n (by omega))).trans ?_
   refine(aB (f137 [(acc,()),(aY (gt s.2.1 i).1,()),(aY (gt s.2.1 i).2.1,())] 2000 (qU (by
    intro r hr;simp only[List.mem_cons,List.not_mem_nil,or_false] at hr
    rcases hr with rfl | rfl | rfl
    ·show acc.length≤2000;omega
    ·exact iG (by decide)
    ·exact iG (by decide))) (by show 3*2000≤4294967296;omega) (by show 3≤9223372036854775807;omega) n (by omega))).trans ?_
   exact congrArg (fun l:List aX=>rec (((i+1:Nat):Int),l)) (by simp[cN]:List.flatMap (fun r:bQ=>r.1) [(acc,()),(aY (gt s.2.1 i).1,()),(aY (gt s.2.1 i).2.1,())]=acc++cN (gt s.2.1 i))
  ·show c136_12 (aK p n) aA s rec ((s.2.1.length:Int),pre++bH s.2.1.length fun i=>cN (gt s.2.1 i))=_
   unfold c136_12;refine(aI (Int.lt_irrefl _)).trans ?_;exact congrArg (fun l:List aX=>oL (pre++l)) (c5 cN s.2.1)
 have n1:=bN ((s.1.length:Nat):Int)
 have n2:=bN ((s.2.1.length:Nat):Int)
 have hB:(bH s.1.length fun i=>bL (gt s.1 i)).length≤190:=by
  have:(bH s.1.length fun i=>bL (gt s.1 i)).length≤s.1.length*38:=cZ fun i hi=>gM (hs.item _ (c6 hi)).2.1
  omega
 have outer:It (fun aA (_:Unit)=>c136_5 (aK p n) aA s) ((0:Int),aY ((s.1.length:Nat):Int)) (fun _=>oL (kB s)):=by
  refine It.accu (α:=aX) (aY ((s.1.length:Nat):Int)) (fun i=>bL (gt s.1 i)) s.1.length 38 (fun i hi=>gM (hs.item _ (c6 hi)).2.1) (fun i hi acc ha aA a rec=>?_)
   (It.stopE (T:=fun aA _=>iter (c136_12 (aK p n) aA s) aA ((0:Int),(aY ((s.1.length:Nat):Int)++bH s.1.length fun i=>bL (gt s.1 i))++aY ((s.2.1.length:Nat):Int))) (fun aA a rec=>?_) ?_)
  ·have hb:i<9223372036854775807:=by omega
   have hz:=hs.size (c6 hi)
   have ht:=nI (gt s.1 i).2.2.2.2.2.1
   show c136_5 (aK p n) aA s rec ((i:Int),acc)=_
   unfold c136_5;dsimp only;rw[aL hb];refine(aE (Int.ofNat_lt.2 hi)).trans ?_;refine bif_nn.trans ?_;refine(aJ hi).trans ?_;refine(aB (f138 (gt s.1 i).1 n (by omega))).trans ?_;refine(aB (f138 (gt s.1 i).2.1 n (by omega))).trans ?_;refine(aB (f138 (gt s.1 i).2.2.1 n (by omega))).trans ?_;refine(aB (f138 (gt s.1 i).2.2.2.1 n (by omega))).trans ?_;refine(aB (f138 (gt s.1 i).2.2.2.2.1 n (by omega))).trans ?_;refine(aB (f271 (gt s.1 i).2.2.2.2.2.1 (by omega) n (by omega))).trans ?_
   refine(aB (f137 [(acc,()),(aY (gt s.1 i).1,()),(aY (gt s.1 i).2.1,()),(aY (gt s.1 i).2.2.1,()),(aY (gt s.1 i).2.2.2.1,()),(aY (gt s.1 i).2.2.2.2.1,()),(fX (gt s.1 i).2.2.2.2.2.1,())] 2000 (qU (by
    intro r hr;simp only[List.mem_cons,List.not_mem_nil,or_false] at hr
    rcases hr with rfl | rfl | rfl | rfl | rfl | rfl | rfl
    ·show acc.length≤2000;omega
    ·exact iG (by decide)
    ·exact iG (by decide)
    ·exact iG (by decide)
    ·exact iG (by decide)
    ·exact iG (by decide)
    ·show(fX (gt s.1 i).2.2.2.2.2.1).length≤2000;omega)) (by show 7*2000≤4294967296;omega) (by show 7≤9223372036854775807;omega) n (by omega))).trans ?_
   exact congrArg (fun l:List aX=>rec (((i+1:Nat):Int),l)) (by simp[bL]:List.flatMap (fun r:bQ=>r.1) [(acc,()),(aY (gt s.1 i).1,()),(aY (gt s.1 i).2.1,()),(aY (gt s.1 i).2.2.1,()),(aY (gt s.1 i).2.2.2.1,()),(aY (gt s.1 i).2.2.2.2.1,()),(fX (gt s.1 i).2.2.2.2.2.1,())]=acc++bL (gt s.1 i))
  ·show c136_5 (aK p n) aA s rec ((s.1.length:Int),aY ((s.1.length:Nat):Int)++bH s.1.length fun i=>bL (gt s.1 i))=_
   unfold c136_5;refine(aI (Int.lt_irrefl _)).trans ?_;refine(aB (f138 ((s.2.1.length:Nat):Int) n (by omega))).trans ?_
   refine(aB (f137 [(aY ((s.1.length:Nat):Int)++bH s.1.length fun i=>bL (gt s.1 i),()),(aY ((s.2.1.length:Nat):Int),())] 2000 (qU (by
    intro r hr;simp only[List.mem_cons,List.not_mem_nil,or_false] at hr
    rcases hr with rfl | rfl
    ·show(aY ((s.1.length:Nat):Int)++bH s.1.length fun i=>bL (gt s.1 i)).length≤2000;rw[List.length_append];omega
    ·exact iG (by decide))) (by show 2*2000≤4294967296;omega) (by show 2≤9223372036854775807;omega) n (by omega))).trans ?_
   exact congrArg (fun l:List aX=>iter (c136_12 (aK p n) aA s) aA ((0:Int),l)) (by simp:List.flatMap (fun r:bQ=>r.1) [(aY ((s.1.length:Nat):Int)++bH s.1.length fun i=>bL (gt s.1 i),()),(aY ((s.2.1.length:Nat):Int),())]=(aY ((s.1.length:Nat):Int)++bH s.1.length fun i=>bL (gt s.1 i))++aY ((s.2.1.length:Nat):Int))
  ·have:=(fl ((aY ((s.1.length:Nat):Int)++bH s.1.length fun i=>bL (gt s.1 i))++aY ((s.2.1.length:Nat):Int)) (by rw[List.length_append,List.length_append];omega)).all_i
   rw[c5 bL s.1] at this ⊢
   exact this
 exact Ev.eq (fun aA=>by unfold T136;refine(aB (f101 s (EO h5.1) (EO h5.2) n (by omega))).trans ?_;rw[(aV s).2 hs];refine(aF rfl).trans ?_;refine(aB (f138 ((s.1.length:Nat):Int) n (by omega))).trans ?_;rfl) (outer.ev (i:=()) rfl)
theorem f314(s:aH)(x:Int)(hz:SzS s):Ran p 5 314 [.val true ⟨K27,s⟩, .val false ⟨K3,(x,())⟩] ⟨[⟨K3,(gV s x,())⟩],[]⟩:=go314 fun n hn=>Ev.now fun aA=>by
 unfold T314 gV;refine(aB (f227 s (Nat.le_trans hz.a (by decide)) (Nat.le_trans hz.b (by decide)) n (by omega))).trans ?_
 cases hs:aO s with
 | false=>rfl
 | true=>
  have hs':=(aV s).1 hs
  have h5:=hs'.len
  refine(aF rfl).trans ?_;refine(aB (f211 x 0 3 n (by omega))).trans ?_
  cases hx:inB x 0 3 with
  | false=>rfl
  | true=>
   refine(aF rfl).trans ?_;refine(aB (f261 s [(x,())] (by show 1≤9223372036854775807;omega) (by omega) (by omega) n (by omega))).trans ?_;refine(aB (f333 (f0 s [(x,())]) (hs'.slice _) n (by omega))).trans ?_;refine(aB (f334 (kB (f0 s [(x,())])) (Nat.le_trans (yR (hs'.slice _)) (by decide)) n (by omega))).trans ?_;refine(aI (by decide)).trans ?_;rfl
theorem f245(s:aH)(x:Int)(hz:SzS s):Ran p 5 245 [.val true ⟨K27,s⟩, .val false ⟨K3,(x,())⟩] ⟨[⟨K3,(gV s x,())⟩],[]⟩:=go245 fun n hn=>Ev.now fun aA=>by
 unfold T245 gV;refine(aB (f101 s (Nat.le_trans hz.a (by decide)) (Nat.le_trans hz.b (by decide)) n (by omega))).trans ?_
 cases hs:aO s with
 | false=>rfl
 | true=>
  have hs':=(aV s).1 hs
  have h5:=hs'.len
  refine(aF rfl).trans ?_;refine(aB (f100 x 0 3 n (by omega))).trans ?_
  cases hx:inB x 0 3 with
  | false=>rfl
  | true=>
   refine(aF rfl).trans ?_;refine(aB (f241 s [(x,())] (by show 1≤9223372036854775807;omega) (by omega) (by omega) hs n (by omega))).trans ?_;refine(aB (f136 (f0 s [(x,())]) (hs'.slice _) n (by omega))).trans ?_;refine(aB (f272 (kB (f0 s [(x,())])) (Nat.le_trans (yR (hs'.slice _)) (by decide)) n (by omega))).trans ?_;refine(aI (by decide)).trans ?_;rfl
theorem f315(ls:List aX)(hl:ls.length≤1000):Ran p 3 315 [.val false ⟨K28,(ls,())⟩] ⟨[⟨K3,(jZ ls,())⟩],[]⟩:=go315 fun n hn=>by
 have lp:It (fun aA (_:Unit)=>c315_3 (aK p n) aA ls) ((0:Int),([]:List aX)) (fun _=>oI (jZ ls)):=by
  refine It.accu (α:=aX) [] (fun i=>aY (gt ls i).1) ls.length 5 (fun i hi=>bN _) (fun i hi acc ha aA a rec=>?_) (It.stop fun aA a rec=>?_)
  ·have hb:i<9223372036854775807:=by omega
   have ha':acc.length+(aY (gt ls i).1).length≤0+ls.length*5:=ha
   show c315_3 (aK p n) aA ls rec ((i:Int),acc)=_
   unfold c315_3;dsimp only;rw[aL hb];refine(aE (Int.ofNat_lt.2 hi)).trans ?_;refine bif_nn.trans ?_;refine(aJ hi).trans ?_;refine(aB (f331 (gt ls i).1 n (by omega))).trans ?_;refine(aE (by show acc.length+(aY (gt ls i).1).length≤4294967296;omega)).trans ?_;rfl
  ·have hB:(bH ls.length fun i=>aY (gt ls i).1).length≤ls.length*5:=cZ fun i hi=>bN _
   show c315_3 (aK p n) aA ls rec ((ls.length:Int),bH ls.length fun i=>aY (gt ls i).1)=_
   unfold c315_3;refine(aI (Int.lt_irrefl _)).trans ?_;refine(aB (f334 (bH ls.length fun i=>aY (gt ls i).1) (by show _≤9223372036854775807;omega) n (by omega))).trans ?_;refine(aI (by decide)).trans ?_;exact congrArg (fun l:List aX=>oI ((crc l).tmod 1024)) (c5 (fun x:aX=>aY x.1) ls)
 exact Ev.eq (fun aA=>by unfold T315;rfl) (lp.ev (i:=()) rfl)
theorem f246(ls:List aX)(hl:ls.length≤1000):Ran p 3 246 [.val false ⟨K28,(ls,())⟩] ⟨[⟨K3,(jZ ls,())⟩],[]⟩:=go246 fun n hn=>by
 have lp:It (fun aA (_:Unit)=>c246_3 (aK p n) aA ls) ((0:Int),([]:List aX)) (fun _=>oI (jZ ls)):=by
  refine It.accu (α:=aX) [] (fun i=>aY (gt ls i).1) ls.length 5 (fun i hi=>bN _) (fun i hi acc ha aA a rec=>?_) (It.stop fun aA a rec=>?_)
  ·have hb:i<9223372036854775807:=by omega
   have ha':acc.length+(aY (gt ls i).1).length≤0+ls.length*5:=ha
   show c246_3 (aK p n) aA ls rec ((i:Int),acc)=_
   unfold c246_3;dsimp only;rw[aL hb];refine(aE (Int.ofNat_lt.2 hi)).trans ?_;refine bif_nn.trans ?_;refine(aJ hi).trans ?_;refine(aB (f138 (gt ls i).1 n (by omega))).trans ?_
   refine(aB (f137 [(acc,()),(aY (gt ls i).1,())] 6000 (qU (by
    intro r hr;simp only[List.mem_cons,List.not_mem_nil,or_false] at hr
    rcases hr with rfl | rfl
    ·show acc.length≤6000;omega
    ·exact iG (by decide))) (by show 2*6000≤4294967296;omega) (by show 2≤9223372036854775807;omega) n (by omega))).trans ?_
   exact congrArg (fun l:List aX=>rec (((i+1:Nat):Int),l)) (by simp:List.flatMap (fun r:bQ=>r.1) [(acc,()),(aY (gt ls i).1,())]=acc++aY (gt ls i).1)
  ·have hB:(bH ls.length fun i=>aY (gt ls i).1).length≤ls.length*5:=cZ fun i hi=>bN _
   show c246_3 (aK p n) aA ls rec ((ls.length:Int),bH ls.length fun i=>aY (gt ls i).1)=_
   unfold c246_3;refine(aI (Int.lt_irrefl _)).trans ?_;refine(aB (f272 (bH ls.length fun i=>aY (gt ls i).1) (by show _≤9223372036854775807;omega) n (by omega))).trans ?_;refine(aI (by decide)).trans ?_;exact congrArg (fun l:List aX=>oI ((crc l).tmod 1024)) (c5 (fun x:aX=>aY x.1) ls)
 exact Ev.eq (fun aA=>by unfold T246;rfl) (lp.ev (i:=()) rfl)
theorem f228(s:aH)(hz:SzS s):Ran p 6 228 [.val true ⟨K27,s⟩] ⟨[⟨K30,bX s⟩],[]⟩:=go228 fun n hn=>by
 cases hs:aO s with
 | false=>
  refine Ev.now fun aA=>?_
  unfold T228 bX;refine(aB (f227 s (Nat.le_trans hz.a (by decide)) (Nat.le_trans hz.b (by decide)) n (by omega))).trans ?_;rw[hs];rfl
 | true=>
  have lp:It (fun aA (_:Unit)=>c228_5 (aK p n) aA s) ((0:Int),([]:List aX)) (fun _=>some ⟨[⟨K30,(cR s,jZ (cR s),())⟩],[]⟩):=by
   refine It.accu (α:=aX) [] (fun i=>[(gV s (i:Int),())]) 4 1 (fun i hi=>Nat.le_refl 1) (fun i hi acc ha aA a rec=>?_) (It.stop fun aA a rec=>?_)
   ·have hb:i<9223372036854775807:=by omega
    have ha':acc.length+1≤0+4*1:=ha
    show c228_5 (aK p n) aA s rec ((i:Int),acc)=_
    unfold c228_5;dsimp only;rw[aL hb];refine(aE (by show(i:Int)<4;omega)).trans ?_;refine(aB (f314 s (i:Int) hz n (by omega))).trans ?_;refine(aE (by show acc.length+1≤4294967296;omega)).trans ?_;rfl
   ·show c228_5 (aK p n) aA s rec (((4:Nat):Int),cR s)=_
    unfold c228_5;refine(aI (by show ¬ ((4:Int)<4);decide)).trans ?_;refine(aB (f315 (cR s) (by show 4≤1000;omega) n (by omega))).trans ?_;rfl
  have e:bX s=(cR s,jZ (cR s),()):=by unfold bX;rw[hs];rfl
  rw[e]
  exact Ev.eq (fun aA=>by unfold T228;refine(aB (f227 s (Nat.le_trans hz.a (by decide)) (Nat.le_trans hz.b (by decide)) n (by omega))).trans ?_;rw[hs];rfl) (lp.ev (i:=()) rfl)
theorem f103(s:aH)(hz:SzS s):Ran p 6 103 [.val true ⟨K27,s⟩] ⟨[⟨K30,bX s⟩],[]⟩:=go103 fun n hn=>by
 cases hs:aO s with
 | false=>
  refine Ev.now fun aA=>?_
  unfold T103 bX;refine(aB (f101 s (Nat.le_trans hz.a (by decide)) (Nat.le_trans hz.b (by decide)) n (by omega))).trans ?_;rw[hs];rfl
 | true=>
  have lp:It (fun aA (_:Unit)=>c103_5 (aK p n) aA s) ((0:Int),([]:List aX)) (fun _=>some ⟨[⟨K30,(cR s,jZ (cR s),())⟩],[]⟩):=by
   refine It.accu (α:=aX) [] (fun i=>[(gV s (i:Int),())]) 4 1 (fun i hi=>Nat.le_refl 1) (fun i hi acc ha aA a rec=>?_) (It.stop fun aA a rec=>?_)
   ·have hb:i<9223372036854775807:=by omega
    have ha':acc.length+1≤0+4*1:=ha
    show c103_5 (aK p n) aA s rec ((i:Int),acc)=_
    unfold c103_5;dsimp only;rw[aL hb];refine(aE (by show(i:Int)<4;omega)).trans ?_;refine(aB (f245 s (i:Int) hz n (by omega))).trans ?_;refine(aE (by show acc.length+1≤4294967296;omega)).trans ?_;rfl
   ·show c103_5 (aK p n) aA s rec (((4:Nat):Int),cR s)=_
    unfold c103_5;refine(aI (by show ¬ ((4:Int)<4);decide)).trans ?_;refine(aB (f246 (cR s) (by show 4≤1000;omega) n (by omega))).trans ?_;rfl
  have e:bX s=(cR s,jZ (cR s),()):=by unfold bX;rw[hs];rfl
  rw[e]
  exact Ev.eq (fun aA=>by unfold T103;refine(aB (f101 s (Nat.le_trans hz.a (by decide)) (Nat.le_trans hz.b (by decide)) n (by omega))).trans ?_;rw[hs];rfl) (lp.ev (i:=()) rfl)
end Go.Abs.Xz
