/- What the functions of this program answer, part b. -/
import Derived.Test.YtmamlgjbendjhaaGreatXa
import Derived.Test.YtmamlgjbendjhaaGreatW2
set_option linter.unusedVariables false
namespace Go.Abs.Xz
open Go Go.Abs
theorem f211(x lo hi:Int):Ran p 1 211 [vf K3 (x,()), vf K3 (lo,()), vf K3 (hi,())] (rO K4 (inB x lo hi,())):=go211 fun n hn=>Ev.now fun aA=>by
 unfold T211;exact eH fun _=>rfl
theorem f100(x lo hi:Int):Ran p 1 100 [vf K3 (x,()), vf K3 (lo,()), vf K3 (hi,())] (rO K4 (inB x lo hi,())):=go100 fun n hn=>Ev.now fun aA=>by
 unfold T100;exact eH fun _=>rfl
theorem f250(x:Int):Ran p 2 250 [vf K3 (x,())] (rO K4 (fX x,())):=go250 fun n hn=>Ev.now fun aA=>by
 unfold T250;refine(aC (f211 x 0 4 n (by omega))).trans ?_;rfl
theorem f123(x:Int):Ran p 2 123 [vf K3 (x,())] (rO K4 (fX x,())):=go123 fun n hn=>Ev.now fun aA=>by
 unfold T123;refine(aC (f100 x 0 4 n (by omega))).trans ?_;rfl
theorem f312(e:dL):Ran p 2 312 [va K161 e] (rO K4 (eL e,())):=go312 fun n hn=>Ev.now fun aA=>by
 unfold T312 eL;refine(aC (f211 e.1 1 1000 n (by omega))).trans ?_;refine eH fun _=>?_;refine(aC (f211 e.2.1 0 1 n (by omega))).trans ?_;refine eH fun _=>?_;refine(aC (f211 e.2.2.1 0 100000 n (by omega))).trans ?_;refine eH fun _=>?_;refine(aC (f211 e.2.2.2.1 0 1000 n (by omega))).trans ?_;refine eH fun _=>?_;rfl
theorem f242(e:dL):Ran p 2 242 [va K161 e] (rO K4 (eL e,())):=go242 fun n hn=>Ev.now fun aA=>by
 unfold T242 eL;refine(aC (f100 e.1 1 1000 n (by omega))).trans ?_;refine eH fun _=>?_;refine(aC (f100 e.2.1 0 1 n (by omega))).trans ?_;refine eH fun _=>?_;refine(aC (f100 e.2.2.1 0 100000 n (by omega))).trans ?_;refine eH fun _=>?_;refine(aC (f100 e.2.2.2.1 0 1000 n (by omega))).trans ?_;refine eH fun _=>?_;rfl
theorem vW {c:Nat→Unit→(Int→Option Out)→Int→Option Out} (fs:List aY) (id:Int)
  (h:∀ i,i<fs.length→∀ aA a rec,c aA a rec (i:Int)=bif(gt fs i).1==id then oI (gt fs i).2.1 else rec ((i+1:Nat):Int))
  (hn:∀ aA a rec,c aA a rec (fs.length:Int)=oI 0):It c (0:Int) (fun _=>oI (cX fs id)):=by
 have:=It.first (c:=c) (fun i=>(i:Int)) fs.length (fun i=>(gt fs i).1==id) (fun i _=>oI (gt fs i).2.1) (fun _=>oI 0)
  (fun i hi hp aA a rec=>by rw[h i hi];rw[hp];rfl) (fun i hi hp=>It.stop fun aA a rec=>by rw[h i hi];rw[hp];rfl) (It.stop hn)
 unfold cX
 revert this
 cases (List.range fs.length).find? (fun i=>(gt fs i).1==id)<;>exact fun h=>h
theorem f313(s:aM)(id:Int)(hl:s.2.1.length≤maxLen):Ran p 1 313 [va K27 s, vf K3 (id,())] (rO K3 (cX s.2.1 id,())):=go313 fun n hn=>by
 refine Ev.eq (fun aA=>by unfold T313;rfl) (It.ev (c:=fun aA (_:Unit)=>c313_2 (aG p n) aA s id) (i:=()) (vW s.2.1 id (fun i hi aA a rec=>?_) (fun aA a rec=>?_)) rfl)
 ·have hb:i<9223372036854775807:=Nat.lt_of_lt_of_le hi hl
  show c313_2 (aG p n) aA s id rec (i:Int)=_
  unfold c313_2;rw[aI hb];refine(aE (Int.ofNat_lt.2 hi)).trans ?_;refine bif_nn.trans ?_;refine(aK hi).trans ?_
  refine congrArg (fun x=>bif(gt s.2.1 i).1==id then x else rec ((i+1:Nat):Int)) ?_
  refine bif_nn.trans ?_;refine(aK hi).trans ?_;rfl
 ·show c313_2 (aG p n) aA s id rec (s.2.1.length:Int)=_
  unfold c313_2;refine(aF (Int.lt_irrefl _)).trans ?_;rfl
theorem f243(s:aM)(id:Int)(hl:s.2.1.length≤maxLen):Ran p 1 243 [va K27 s, vf K3 (id,())] (rO K3 (cX s.2.1 id,())):=go243 fun n hn=>by
 refine Ev.eq (fun aA=>by unfold T243;rfl) (It.ev (c:=fun aA (_:Unit)=>c243_2 (aG p n) aA s id) (i:=()) (vW s.2.1 id (fun i hi aA a rec=>?_) (fun aA a rec=>?_)) rfl)
 ·have hb:i<9223372036854775807:=Nat.lt_of_lt_of_le hi hl
  show c243_2 (aG p n) aA s id rec (i:Int)=_
  unfold c243_2;rw[aI hb];refine(aE (Int.ofNat_lt.2 hi)).trans ?_;refine bif_nn.trans ?_;refine(aK hi).trans ?_;rfl
 ·show c243_2 (aG p n) aA s id rec (s.2.1.length:Int)=_
  unfold c243_2;refine(aF (Int.lt_irrefl _)).trans ?_;rfl
theorem f227(s:aM)(h1:s.1.length≤maxLen)(h2:s.2.1.length≤maxLen):Ran p 3 227 [va K27 s] (rO K4 (bA s,())):=go227 fun n hn=>by
 have inner:It (fun aA (_:Unit)=>c227_8 (aG p n) aA s) (0:Int) (fun _=>oB (bZ s.2.1.length (eS s.2.1))):=by
  refine cZ (It.allB s.2.1.length (eS s.2.1) true (fun i hi aA a rec=>?_) (It.stop fun aA a rec=>?_))
  ·have hb:i<9223372036854775807:=Nat.lt_of_lt_of_le hi h2
   show c227_8 (aG p n) aA s rec (i:Int)=_
   unfold c227_8 eS;rw[aI hb];refine(aE (Int.ofNat_lt.2 hi)).trans ?_;refine bif_nn.trans ?_;refine(aK hi).trans ?_;refine(aC (f250 (gt s.2.1 i).1 n (by omega))).trans ?_;refine chk fun _=>?_
   cases i with
   | zero=>refine(aF (by decide)).trans ?_;refine(aC (f211 (gt s.2.1 0).2.1 1 1000 n (by omega))).trans ?_;exact fin
   | succ j=>
    refine(aE (by omega)).trans ?_;rw[hX hb (by omega)];refine bif_nn.trans ?_;refine(aK (show j<s.2.1.length by omega)).trans ?_;refine HF fun _=>?_
    refine(aC (f211 (gt s.2.1 (j+1)).2.1 1 1000 n (by omega))).trans ?_;exact fin
  ·show c227_8 (aG p n) aA s rec (s.2.1.length:Int)=_
   unfold c227_8;refine(aF (Int.lt_irrefl _)).trans ?_;rfl
 have outer:It (fun aA (_:Unit)=>c227_2 (aG p n) aA s) (0:Int) (fun _=>oB (bA s)):=by
  refine It.allB s.1.length (mK s) _ (fun i hi aA a rec=>?_) (It.stopE (T:=fun aA _=>iter (c227_8 (aG p n) aA s) aA (0:Int)) (fun aA a rec=>?_) inner.all_i)
  ·have hb:i<9223372036854775807:=Nat.lt_of_lt_of_le hi h1
   show c227_2 (aG p n) aA s rec (i:Int)=_
   unfold c227_2 mK;rw[aI hb];refine(aE (Int.ofNat_lt.2 hi)).trans ?_;refine bif_nn.trans ?_;refine(aK hi).trans ?_;refine(aC (f250 (gt s.1 i).1 n (by omega))).trans ?_;refine chk fun _=>?_
   cases i with
   | zero=>refine(aF (by decide)).trans ?_;refine(aC (f312 (gt s.1 0).2 n (by omega))).trans ?_;refine chk fun _=>?_;refine(aC (f313 s (gt s.1 0).1 h2 n (by omega))).trans ?_;exact zD
   | succ j=>
    refine(aE (by omega)).trans ?_;rw[hX hb (by omega)];refine bif_nn.trans ?_;refine(aK (show j<s.1.length by omega)).trans ?_;refine HF fun _=>?_
    refine(aC (f312 (gt s.1 (j+1)).2 n (by omega))).trans ?_;refine chk fun _=>?_;refine(aC (f313 s (gt s.1 (j+1)).1 h2 n (by omega))).trans ?_;exact zD
  ·show c227_2 (aG p n) aA s rec (s.1.length:Int)=_
   unfold c227_2;refine(aF (Int.lt_irrefl _)).trans ?_;rfl
 exact Ev.eq (fun aA=>by unfold T227;rfl) (outer.ev (i:=()) rfl)
theorem f101(s:aM)(h1:s.1.length≤maxLen)(h2:s.2.1.length≤maxLen):Ran p 3 101 [va K27 s] (rO K4 (bA s,())):=go101 fun n hn=>by
 have inner:It (fun aA (_:Unit)=>c101_8 (aG p n) aA s) (0:Int) (fun _=>oB (bZ s.1.length (mL s))):=by
  refine cZ (It.allB s.1.length (mL s) true (fun i hi aA a rec=>?_) (It.stop fun aA a rec=>?_))
  ·have hb:i<9223372036854775807:=Nat.lt_of_lt_of_le hi h1
   show c101_8 (aG p n) aA s rec (i:Int)=_
   unfold c101_8 mL;rw[aI hb];refine(aE (Int.ofNat_lt.2 hi)).trans ?_;refine bif_nn.trans ?_;refine(aK hi).trans ?_;refine(aC (f123 (gt s.1 i).1 n (by omega))).trans ?_;refine chk fun _=>?_;refine(aC (f242 (gt s.1 i).2 n (by omega))).trans ?_;refine chk fun _=>?_;refine(aC (f243 s (gt s.1 i).1 h2 n (by omega))).trans ?_;refine HF fun _=>?_
   cases i with
   | zero=>refine(aF (by decide)).trans ?_;rfl
   | succ j=>refine(aE (by omega)).trans ?_;rw[hX hb (by omega)];refine bif_nn.trans ?_;refine(aK (show j<s.1.length by omega)).trans ?_;exact zD
  ·show c101_8 (aG p n) aA s rec (s.1.length:Int)=_
   unfold c101_8;refine(aF (Int.lt_irrefl _)).trans ?_;rfl
 have outer:It (fun aA (_:Unit)=>c101_2 (aG p n) aA s) (0:Int) (fun _=>oB (bZ s.2.1.length (gU s.2.1)&&bZ s.1.length (mL s))):=by
  refine It.allB s.2.1.length (gU s.2.1) _ (fun i hi aA a rec=>?_) (It.stopE (T:=fun aA _=>iter (c101_8 (aG p n) aA s) aA (0:Int)) (fun aA a rec=>?_) inner.all_i)
  ·have hb:i<9223372036854775807:=Nat.lt_of_lt_of_le hi h2
   show c101_2 (aG p n) aA s rec (i:Int)=_
   unfold c101_2 gU;rw[aI hb];refine(aE (Int.ofNat_lt.2 hi)).trans ?_;refine bif_nn.trans ?_;refine(aK hi).trans ?_;refine(aC (f123 (gt s.2.1 i).1 n (by omega))).trans ?_;refine chk fun _=>?_;refine(aC (f100 (gt s.2.1 i).2.1 1 1000 n (by omega))).trans ?_;refine chk fun _=>?_
   cases i with
   | zero=>refine(aF (by decide)).trans ?_;rfl
   | succ j=>refine(aE (by omega)).trans ?_;rw[hX hb (by omega)];refine bif_nn.trans ?_;refine(aK (show j<s.2.1.length by omega)).trans ?_;exact zD
  ·show c101_2 (aG p n) aA s rec (s.2.1.length:Int)=_
   unfold c101_2;refine(aF (Int.lt_irrefl _)).trans ?_;rfl
 rw[DU] at outer
 exact Ev.eq (fun aA=>by unfold T101;rfl) (outer.ev (i:=()) rfl)
end Go.Abs.Xz
