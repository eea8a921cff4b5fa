/- What the functions of this program answer, part b. -/
import Derived.Test.YtmamlgjbendjhaaGreatXa
import Derived.Test.YtmamlgjbendjhaaGreatW2
set_option linter.unusedVariables false
namespace Go.Abs.Xz
open Go Go.Abs
theorem f211(x lo hi:Int):Ran p 1 211 [.val false ⟨K3,(x,())⟩, .val false ⟨K3,(lo,())⟩, .val false ⟨K3,(hi,())⟩] ⟨[⟨K4,(inB x lo hi,())⟩],[]⟩:=go211 fun n hn=>Ev.now fun aA=>by
 unfold T211;exact eU fun _=>rfl
theorem f100(x lo hi:Int):Ran p 1 100 [.val false ⟨K3,(x,())⟩, .val false ⟨K3,(lo,())⟩, .val false ⟨K3,(hi,())⟩] ⟨[⟨K4,(inB x lo hi,())⟩],[]⟩:=go100 fun n hn=>Ev.now fun aA=>by
 unfold T100;exact eU fun _=>rfl
theorem f250(x:Int):Ran p 2 250 [.val false ⟨K3,(x,())⟩] ⟨[⟨K4,(dY x,())⟩],[]⟩:=go250 fun n hn=>Ev.now fun aA=>by
 unfold T250;refine(aB (f211 x 0 4 n (by omega))).trans ?_;rfl
theorem f123(x:Int):Ran p 2 123 [.val false ⟨K3,(x,())⟩] ⟨[⟨K4,(dY x,())⟩],[]⟩:=go123 fun n hn=>Ev.now fun aA=>by
 unfold T123;refine(aB (f100 x 0 4 n (by omega))).trans ?_;rfl
theorem f312(e:bE):Ran p 2 312 [.val true ⟨K161,e⟩] ⟨[⟨K4,(dR e,())⟩],[]⟩:=go312 fun n hn=>Ev.now fun aA=>by
 unfold T312 dR;refine(aB (f211 e.1 1 1000 n (by omega))).trans ?_;refine eU fun _=>?_;refine(aB (f211 e.2.1 0 1 n (by omega))).trans ?_;refine eU fun _=>?_;refine(aB (f211 e.2.2.1 0 100000 n (by omega))).trans ?_;refine eU fun _=>?_;refine(aB (f211 e.2.2.2.1 0 1000 n (by omega))).trans ?_;refine eU fun _=>?_;rfl
theorem f242(e:bE):Ran p 2 242 [.val true ⟨K161,e⟩] ⟨[⟨K4,(dR e,())⟩],[]⟩:=go242 fun n hn=>Ev.now fun aA=>by
 unfold T242 dR;refine(aB (f100 e.1 1 1000 n (by omega))).trans ?_;refine eU fun _=>?_;refine(aB (f100 e.2.1 0 1 n (by omega))).trans ?_;refine eU fun _=>?_;refine(aB (f100 e.2.2.1 0 100000 n (by omega))).trans ?_;refine eU fun _=>?_;refine(aB (f100 e.2.2.2.1 0 1000 n (by omega))).trans ?_;refine eU fun _=>?_;rfl
theorem wG {c:Nat→Unit→(Int→Option Out)→Int→Option Out} (fs:List aR) (id:Int)
  (h:∀ i,i<fs.length→∀ aA a rec,c aA a rec (i:Int)=bif(gt fs i).1==id then oI (gt fs i).2.1 else rec ((i+1:Nat):Int))
  (hn:∀ aA a rec,c aA a rec (fs.length:Int)=oI 0):It c (0:Int) (fun _=>oI (cI fs id)):=by
 have:=It.first (c:=c) (fun i=>(i:Int)) fs.length (fun i=>(gt fs i).1==id) (fun i _=>oI (gt fs i).2.1) (fun _=>oI 0)
  (fun i hi hp aA a rec=>by rw[h i hi];rw[hp];rfl) (fun i hi hp=>It.stop fun aA a rec=>by rw[h i hi];rw[hp];rfl) (It.stop hn)
 unfold cI
 revert this
 cases (List.range fs.length).find? (fun i=>(gt fs i).1==id)<;>exact fun h=>h
theorem f313(s:aH)(id:Int)(hl:s.2.1.length≤maxLen):Ran p 1 313 [.val true ⟨K27,s⟩, .val false ⟨K3,(id,())⟩] ⟨[⟨K3,(cI s.2.1 id,())⟩],[]⟩:=go313 fun n hn=>by
 refine Ev.eq (fun aA=>by unfold T313;rfl) (It.ev (c:=fun aA (_:Unit)=>c313_2 (aK p n) aA s id) (i:=()) (wG s.2.1 id (fun i hi aA a rec=>?_) (fun aA a rec=>?_)) rfl)
 ·have hb:i<9223372036854775807:=Nat.lt_of_lt_of_le hi hl
  show c313_2 (aK p n) aA s id rec (i:Int)=_
  unfold c313_2;rw[aL hb];refine(aE (Int.ofNat_lt.2 hi)).trans ?_;refine bif_nn.trans ?_;refine(aJ hi).trans ?_
  refine congrArg (fun x=>bif(gt s.2.1 i).1==id then x else rec ((i+1:Nat):Int)) ?_
  refine bif_nn.trans ?_;refine(aJ hi).trans ?_;rfl
 ·show c313_2 (aK p n) aA s id rec (s.2.1.length:Int)=_
  unfold c313_2;refine(aI (Int.lt_irrefl _)).trans ?_;rfl
theorem f243(s:aH)(id:Int)(hl:s.2.1.length≤maxLen):Ran p 1 243 [.val true ⟨K27,s⟩, .val false ⟨K3,(id,())⟩] ⟨[⟨K3,(cI s.2.1 id,())⟩],[]⟩:=go243 fun n hn=>by
 refine Ev.eq (fun aA=>by unfold T243;rfl) (It.ev (c:=fun aA (_:Unit)=>c243_2 (aK p n) aA s id) (i:=()) (wG s.2.1 id (fun i hi aA a rec=>?_) (fun aA a rec=>?_)) rfl)
 ·have hb:i<9223372036854775807:=Nat.lt_of_lt_of_le hi hl
  show c243_2 (aK p n) aA s id rec (i:Int)=_
  unfold c243_2;rw[aL hb];refine(aE (Int.ofNat_lt.2 hi)).trans ?_;refine bif_nn.trans ?_;refine(aJ hi).trans ?_;rfl
 ·show c243_2 (aK p n) aA s id rec (s.2.1.length:Int)=_
  unfold c243_2;refine(aI (Int.lt_irrefl _)).trans ?_;rfl
theorem f227(s:aH)(h1:s.1.length≤maxLen)(h2:s.2.1.length≤maxLen):Ran p 3 227 [.val true ⟨K27,s⟩] ⟨[⟨K4,(aO s,())⟩],[]⟩:=go227 fun n hn=>by
 have inner:It (fun aA (_:Unit)=>c227_8 (aK p n) aA s) (0:Int) (fun _=>oB (bI s.2.1.length (eX s.2.1))):=by
  refine bZ (It.allB s.2.1.length (eX s.2.1) true (fun i hi aA a rec=>?_) (It.stop fun aA a rec=>?_))
  ·have hb:i<9223372036854775807:=Nat.lt_of_lt_of_le hi h2
   show c227_8 (aK p n) aA s rec (i:Int)=_
   unfold c227_8 eX;rw[aL hb];refine(aE (Int.ofNat_lt.2 hi)).trans ?_;refine bif_nn.trans ?_;refine(aJ hi).trans ?_;refine(aB (f250 (gt s.2.1 i).1 n (by omega))).trans ?_;refine chk fun _=>?_
   cases i with
   | zero=>refine(aI (by decide)).trans ?_;refine(aB (f211 (gt s.2.1 0).2.1 1 1000 n (by omega))).trans ?_;exact fin
   | succ j=>
    refine(aE (by omega)).trans ?_;rw[gY hb (by omega)];refine bif_nn.trans ?_;refine(aJ (show j<s.2.1.length by omega)).trans ?_;refine JY fun _=>?_
    refine(aB (f211 (gt s.2.1 (j+1)).2.1 1 1000 n (by omega))).trans ?_;exact fin
  ·show c227_8 (aK p n) aA s rec (s.2.1.length:Int)=_
   unfold c227_8;refine(aI (Int.lt_irrefl _)).trans ?_;rfl
 have outer:It (fun aA (_:Unit)=>c227_2 (aK p n) aA s) (0:Int) (fun _=>oB (aO s)):=by
  refine It.allB s.1.length (kN s) _ (fun i hi aA a rec=>?_) (It.stopE (T:=fun aA _=>iter (c227_8 (aK p n) aA s) aA (0:Int)) (fun aA a rec=>?_) inner.all_i)
  ·have hb:i<9223372036854775807:=Nat.lt_of_lt_of_le hi h1
   show c227_2 (aK p n) aA s rec (i:Int)=_
   unfold c227_2 kN;rw[aL hb];refine(aE (Int.ofNat_lt.2 hi)).trans ?_;refine bif_nn.trans ?_;refine(aJ hi).trans ?_;refine(aB (f250 (gt s.1 i).1 n (by omega))).trans ?_;refine chk fun _=>?_
   cases i with
   | zero=>refine(aI (by decide)).trans ?_;refine(aB (f312 (gt s.1 0).2 n (by omega))).trans ?_;refine chk fun _=>?_;refine(aB (f313 s (gt s.1 0).1 h2 n (by omega))).trans ?_;exact zX
   | succ j=>
    refine(aE (by omega)).trans ?_;rw[gY hb (by omega)];refine bif_nn.trans ?_;refine(aJ (show j<s.1.length by omega)).trans ?_;refine JY fun _=>?_
    refine(aB (f312 (gt s.1 (j+1)).2 n (by omega))).trans ?_;refine chk fun _=>?_;refine(aB (f313 s (gt s.1 (j+1)).1 h2 n (by omega))).trans ?_;exact zX
  ·show c227_2 (aK p n) aA s rec (s.1.length:Int)=_
   unfold c227_2;refine(aI (Int.lt_irrefl _)).trans ?_;rfl
 exact Ev.eq (fun aA=>by unfold T227;rfl) (outer.ev (i:=()) rfl)
theorem f101(s:aH)(h1:s.1.length≤maxLen)(h2:s.2.1.length≤maxLen):Ran p 3 101 [.val true ⟨K27,s⟩] ⟨[⟨K4,(aO s,())⟩],[]⟩:=go101 fun n hn=>by
 have inner:It (fun aA (_:Unit)=>c101_8 (aK p n) aA s) (0:Int) (fun _=>oB (bI s.1.length (mD s))):=by
  refine bZ (It.allB s.1.length (mD s) true (fun i hi aA a rec=>?_) (It.stop fun aA a rec=>?_))
  ·have hb:i<9223372036854775807:=Nat.lt_of_lt_of_le hi h1
   show c101_8 (aK p n) aA s rec (i:Int)=_
   unfold c101_8 mD;rw[aL hb];refine(aE (Int.ofNat_lt.2 hi)).trans ?_;refine bif_nn.trans ?_;refine(aJ hi).trans ?_;refine(aB (f123 (gt s.1 i).1 n (by omega))).trans ?_;refine chk fun _=>?_;refine(aB (f242 (gt s.1 i).2 n (by omega))).trans ?_;refine chk fun _=>?_;refine(aB (f243 s (gt s.1 i).1 h2 n (by omega))).trans ?_;refine JY fun _=>?_
   cases i with
   | zero=>refine(aI (by decide)).trans ?_;rfl
   | succ j=>refine(aE (by omega)).trans ?_;rw[gY hb (by omega)];refine bif_nn.trans ?_;refine(aJ (show j<s.1.length by omega)).trans ?_;exact zX
  ·show c101_8 (aK p n) aA s rec (s.1.length:Int)=_
   unfold c101_8;refine(aI (Int.lt_irrefl _)).trans ?_;rfl
 have outer:It (fun aA (_:Unit)=>c101_2 (aK p n) aA s) (0:Int) (fun _=>oB (bI s.2.1.length (gP s.2.1)&&bI s.1.length (mD s))):=by
  refine It.allB s.2.1.length (gP s.2.1) _ (fun i hi aA a rec=>?_) (It.stopE (T:=fun aA _=>iter (c101_8 (aK p n) aA s) aA (0:Int)) (fun aA a rec=>?_) inner.all_i)
  ·have hb:i<9223372036854775807:=Nat.lt_of_lt_of_le hi h2
   show c101_2 (aK p n) aA s rec (i:Int)=_
   unfold c101_2 gP;rw[aL hb];refine(aE (Int.ofNat_lt.2 hi)).trans ?_;refine bif_nn.trans ?_;refine(aJ hi).trans ?_;refine(aB (f123 (gt s.2.1 i).1 n (by omega))).trans ?_;refine chk fun _=>?_;refine(aB (f100 (gt s.2.1 i).2.1 1 1000 n (by omega))).trans ?_;refine chk fun _=>?_
   cases i with
   | zero=>refine(aI (by decide)).trans ?_;rfl
   | succ j=>refine(aE (by omega)).trans ?_;rw[gY hb (by omega)];refine bif_nn.trans ?_;refine(aJ (show j<s.2.1.length by omega)).trans ?_;exact zX
  ·show c101_2 (aK p n) aA s rec (s.2.1.length:Int)=_
   unfold c101_2;refine(aI (Int.lt_irrefl _)).trans ?_;rfl
 rw[FG] at outer
 exact Ev.eq (fun aA=>by unfold T101;rfl) (outer.ev (i:=()) rfl)
end Go.Abs.Xz
