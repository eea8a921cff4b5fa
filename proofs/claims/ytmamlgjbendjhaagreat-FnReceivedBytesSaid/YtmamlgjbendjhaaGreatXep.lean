/- What the functions of this program answer, part ep. -/
import Derived.Test.YtmamlgjbendjhaaGreatW3
import Derived.Test.YtmamlgjbendjhaaGreatXa
import Derived.Test.YtmamlgjbendjhaaGreatW2
set_option linter.unusedVariables false
open Go.IntKind (i64)
namespace Go.Abs.Xz
open Go Go.Abs
theorem f211(x lo hi:Int):Ran p 1 211 [vf K3 (x,()), vf K3 (lo,()), vf K3 (hi,())] (rO K4 (inB x lo hi,())):=go211 λn hn=>Ev.now λaA=>by
 unfold T211;exact fH λ_=>rfl
theorem f100(x lo hi:Int):Ran p 1 100 [vf K3 (x,()), vf K3 (lo,()), vf K3 (hi,())] (rO K4 (inB x lo hi,())):=go100 λn hn=>Ev.now λaA=>by
 unfold T100;exact fH λ_=>rfl
theorem f250(x:Int):Ran p 2 250 [vf K3 (x,())] (rO K4 (eH x,())):=go250 λn hn=>Ev.now λaA=>by
 unfold T250;refine qC (f211 x 0 4) ?_;rfl
theorem f123(x:Int):Ran p 2 123 [vf K3 (x,())] (rO K4 (eH x,())):=go123 λn hn=>Ev.now λaA=>by
 unfold T123;refine qC (f100 x 0 4) ?_;rfl
theorem f312(e:bD):Ran p 2 312 [va K161 e] (rO K4 (dY e,())):=go312 λn hn=>Ev.now λaA=>by
 unfold T312 dY;refine qC (f211 e.1 1 1000) ?_;refine fH λ_=>?_;refine qC (f211 e.2.1 0 1) ?_;refine fH λ_=>?_;refine qC (f211 e.2.2.1 0 100000) ?_;refine fH λ_=>?_;refine qC (f211 e.2.2.2.1 0 1000) ?_;refine fH λ_=>?_;rfl
theorem f242(e:bD):Ran p 2 242 [va K161 e] (rO K4 (dY e,())):=go242 λn hn=>Ev.now λaA=>by
 unfold T242 dY;refine qC (f100 e.1 1 1000) ?_;refine fH λ_=>?_;refine qC (f100 e.2.1 0 1) ?_;refine fH λ_=>?_;refine qC (f100 e.2.2.1 0 100000) ?_;refine fH λ_=>?_;refine qC (f100 e.2.2.2.1 0 1000) ?_;refine fH λ_=>?_;rfl
theorem AB {c:Nat->Unit->(Int->Option Out)->Int->Option Out} (fs:List aK) (id:Int)
  (h:∀ i,i<fs.length->∀ aA a rec,c aA a rec (i:Int)=bif(gt fs i).1==id then oI (gt fs i).2.1 else rec ((i+1:Nat):Int))
  (hn:∀ aA a rec,c aA a rec (fs.length:Int)=oI 0):It c (0:Int) (λ_=>oI (cH fs id)):=by
 have:=It.first (c:=c) (λi=>(i:Int)) fs.length (λi=>(gt fs i).1==id) (λi _=>oI (gt fs i).2.1) (λ_=>oI 0)
  (λi hi hp aA a rec=>by rw[h i hi];rw[hp];rfl) (λi hi hp=>It.stop λaA a rec=>by rw[h i hi];rw[hp];rfl) (It.stop hn)
 unfold cH
 revert this
 cases (List.range fs.length).find? (λi=>(gt fs i).1==id)<;>exact λh=>h
theorem f313(s:aD)(id:Int)(hl:s.2.1.length<=maxLen):Ran p 1 313 [va K27 s, vf K3 (id,())] (rO K3 (cH s.2.1 id,())):=go313 λn hn=>by
 refine Ev.eq (λaA=>by unfold T313;rfl) (It.ev (c:=λaA (_:Unit)=>c313_2 (aL p n) aA s id) (i:=()) (AB s.2.1 id (λi hi aA a rec=>?_) (λaA a rec=>?_)) rfl)
 ·have hb:i<9223372036854775807:=Nat.lt_of_lt_of_le hi hl
  unfold c313_2;rw[aF hb];refine ql hi ?_;refine qz ?_;refine(aE hi).trans ?_
  refine congrArg (λx=>bif(gt s.2.1 i).1==id then x else rec ((i+1:Nat):Int)) ?_
  refine qz ?_;refine(aE hi).trans ?_;rfl
 ·unfold c313_2;refine qe ?_;rfl
theorem f243(s:aD)(id:Int)(hl:s.2.1.length<=maxLen):Ran p 1 243 [va K27 s, vf K3 (id,())] (rO K3 (cH s.2.1 id,())):=go243 λn hn=>by
 refine Ev.eq (λaA=>by unfold T243;rfl) (It.ev (c:=λaA (_:Unit)=>c243_2 (aL p n) aA s id) (i:=()) (AB s.2.1 id (λi hi aA a rec=>?_) (λaA a rec=>?_)) rfl)
 ·have hb:i<9223372036854775807:=Nat.lt_of_lt_of_le hi hl
  unfold c243_2;rw[aF hb];refine ql hi ?_;refine qz ?_;refine(aE hi).trans ?_;rfl
 ·unfold c243_2;refine qe ?_;rfl
theorem f227(s:aD)(h1:s.1.length<=maxLen)(h2:s.2.1.length<=maxLen):Ran p 3 227 [va K27 s] (rO K4 (aJ s,())):=go227 λn hn=>by
 have inner:It (λaA (_:Unit)=>c227_8 (aL p n) aA s) (0:Int) (λ_=>oB (bL s.2.1.length (fE s.2.1))):=by
  refine cU (It.allB s.2.1.length (fE s.2.1) true (λi hi aA a rec=>?_) (It.stop λaA a rec=>?_))
  ·have hb:i<9223372036854775807:=Nat.lt_of_lt_of_le hi h2
   unfold c227_8 fE;rw[aF hb];refine ql hi ?_;refine qz ?_;refine(aE hi).trans ?_;refine qC (f250 (gt s.2.1 i).1) ?_;refine chk λ_=>?_
   cases i with
   | zero=>refine qN (by decide) ?_;refine qC (f211 (gt s.2.1 0).2.1 1 1000) ?_;exact fin
   | succ j=>
    refine qP (by omega) ?_;rw[iV hb (by omega)];refine qz ?_;refine(aE (show j<s.2.1.length by omega)).trans ?_;refine OU λ_=>?_
    refine qC (f211 (gt s.2.1 (j+1)).2.1 1 1000) ?_;exact fin
  ·unfold c227_8;refine qe ?_;rfl
 have outer:It (λaA (_:Unit)=>c227_2 (aL p n) aA s) (0:Int) (λ_=>oB (aJ s)):=by
  refine It.allB s.1.length (lX s) _ (λi hi aA a rec=>?_) (It.stopE (T:=λaA _=>iter (c227_8 (aL p n) aA s) aA (0:Int)) (λaA a rec=>?_) inner.all_i)
  ·have hb:i<9223372036854775807:=Nat.lt_of_lt_of_le hi h1
   unfold c227_2 lX;rw[aF hb];refine ql hi ?_;refine qz ?_;refine(aE hi).trans ?_;refine qC (f250 (gt s.1 i).1) ?_;refine chk λ_=>?_
   cases i with
   | zero=>refine qN (by decide) ?_;refine qC (f312 (gt s.1 0).2) ?_;refine chk λ_=>?_;refine qC (f313 s (gt s.1 0).1 h2) ?_;exact DT
   | succ j=>
    refine qP (by omega) ?_;rw[iV hb (by omega)];refine qz ?_;refine(aE (show j<s.1.length by omega)).trans ?_;refine OU λ_=>?_
    refine qC (f312 (gt s.1 (j+1)).2) ?_;refine chk λ_=>?_;refine qC (f313 s (gt s.1 (j+1)).1 h2) ?_;exact DT
  ·unfold c227_2;refine qe ?_;rfl
 exact Ev.eq (λaA=>by unfold T227;rfl) (outer.ev (i:=()) rfl)
theorem f101(s:aD)(h1:s.1.length<=maxLen)(h2:s.2.1.length<=maxLen):Ran p 3 101 [va K27 s] (rO K4 (aJ s,())):=go101 λn hn=>by
 have inner:It (λaA (_:Unit)=>c101_8 (aL p n) aA s) (0:Int) (λ_=>oB (bL s.1.length (oC s))):=by
  refine cU (It.allB s.1.length (oC s) true (λi hi aA a rec=>?_) (It.stop λaA a rec=>?_))
  ·have hb:i<9223372036854775807:=Nat.lt_of_lt_of_le hi h1
   unfold c101_8 oC;rw[aF hb];refine ql hi ?_;refine qz ?_;refine(aE hi).trans ?_;refine qC (f123 (gt s.1 i).1) ?_;refine chk λ_=>?_;refine qC (f242 (gt s.1 i).2) ?_;refine chk λ_=>?_;refine qC (f243 s (gt s.1 i).1 h2) ?_;refine OU λ_=>?_
   cases i with
   | zero=>refine qN (by decide) ?_;rfl
   | succ j=>refine qP (by omega) ?_;rw[iV hb (by omega)];refine qz ?_;refine(aE (show j<s.1.length by omega)).trans ?_;exact DT
  ·unfold c101_8;refine qe ?_;rfl
 have outer:It (λaA (_:Unit)=>c101_2 (aL p n) aA s) (0:Int) (λ_=>oB (bL s.2.1.length (iJ s.2.1)&&bL s.1.length (oC s))):=by
  refine It.allB s.2.1.length (iJ s.2.1) _ (λi hi aA a rec=>?_) (It.stopE (T:=λaA _=>iter (c101_8 (aL p n) aA s) aA (0:Int)) (λaA a rec=>?_) inner.all_i)
  ·have hb:i<9223372036854775807:=Nat.lt_of_lt_of_le hi h2
   unfold c101_2 iJ;rw[aF hb];refine ql hi ?_;refine qz ?_;refine(aE hi).trans ?_;refine qC (f123 (gt s.2.1 i).1) ?_;refine chk λ_=>?_;refine qC (f100 (gt s.2.1 i).2.1 1 1000) ?_;refine chk λ_=>?_
   cases i with
   | zero=>refine qN (by decide) ?_;rfl
   | succ j=>refine qP (by omega) ?_;rw[iV hb (by omega)];refine qz ?_;refine(aE (show j<s.2.1.length by omega)).trans ?_;exact DT
  ·unfold c101_2;refine qe ?_;rfl
 rw[JS] at outer
 exact Ev.eq (λaA=>by unfold T101;rfl) (outer.ev (i:=()) rfl)
end Go.Abs.Xz
set_option maxHeartbeats 2000000
namespace Go.Abs.Xz
open Go Go.Abs
def sP:Option (Nat×Nat)->Out
 | none=>⟨[⟨K3,((0:Int),())⟩,⟨K3,((0:Int),())⟩,⟨K4,(false,())⟩],[]⟩
 | some (x,j)=>⟨[⟨K3,((x:Int),())⟩,⟨K3,((j:Int),())⟩,⟨K4,(true,())⟩],[]⟩
theorem f269(b:List aH)(i:Int)(hb:B8 b)(hl:b.length<=aN):Ran p 1 269 [vf K22 (b,()), vf K3 (i,())] (sP (pB b i)):=go269 λn hn=>by
 unfold pB
 by_cases h0:i<0
 ·exact Ev.now λaA=>by unfold T269;refine qP h0 ?_;rw[decide_eq_true h0];rfl
 obtain⟨j,rfl⟩:∃ j:Nat,i=(j:Int):=⟨i.toNat,by omega⟩
 rw[decide_eq_false h0,Int.toNat_natCast]
 show Ev _ (sP (p5 b j))
 by_cases h1:((j:Int)>=(b.length:Int))
 ·have e:p5 b j=none:=by unfold p5 sS;rw[if_neg (by omega)]
  rw[e]
  exact Ev.now λaA=>by unfold T269;refine qN h0 ?_;refine qP h1 ?_;rfl
 have hs:b.length<=9223372036854775000:=Nat.le_trans hl (by decide)
 have lp:∀ (m k acc:Nat),k+m=5->acc<128 ^ k->It (λaA (_:Unit)=>c269_5 (aL p n) aA b (j:Int)) ((acc:Int),(k:Int)) (λ_=>some (sP (sS b j m k acc))):=by
  intro m
  induction m with
  | zero=>
   intro k acc hk ha
   refine It.stop λaA u rec=>?_
   unfold c269_5;dsimp only;refine qN (show ¬ ((k:Int)<5) by omega) ?_;rfl
  | succ m ih=>
   intro k acc hk ha
   have k5:k<5:=by omega
   have hp:=R4 k5
   have e1:i64.wrap ((j:Int)+(k:Int))=((j+k:Nat):Int):=by rw[IntKind.wrap_i64];omega
   unfold sS
   by_cases hin:j+k<b.length
   ·obtain⟨y,hy,hy2⟩:=hb (j+k) hin
    rw[if_pos hin,hy,Int.toNat_natCast]
    have e2:i64.wrap ((y:Int))=(y:Int):=by rw[IntKind.wrap_i64];omega
    have e3:tR i64 (((y % 128:Nat):Int)) (i64.wrap ((7:Int)*(k:Int)))=((y % 128*128 ^ k:Nat):Int):=IL (Nat.mod_lt _ (by omega)) k5
    have hm:y % 128*128 ^ k<=127*268435456:=Nat.mul_le_mul (by have:=Nat.mod_lt y (show 0<128 by omega);omega) hp
    have e4:i64.wrap ((acc:Int)+((y % 128*128 ^ k:Nat):Int))=((acc+y % 128*128 ^ k:Nat):Int):=by rw[IntKind.wrap_i64];omega
    have e5:¬ (i64.wrap ((7:Int)*(k:Int))<0):=by rw[LU k5];omega
    have e6:i64.wrap ((k:Int)+1)=((k+1:Nat):Int):=by rw[IntKind.wrap_i64];omega
    have e7:i64.wrap (((j+k:Nat):Int)+1)=((j+k+1:Nat):Int):=by rw[IntKind.wrap_i64];omega
    by_cases h128:128<=y
    ·rw[if_pos h128]
     refine It.next (y:=(((acc+y % 128*128 ^ k:Nat):Int),((k+1:Nat):Int))) (λaA u rec=>?_) (ih (k+1) _ (by omega) (O9 ha))
     unfold c269_5;dsimp only;refine qP (show(k:Int)<5 by omega) ?_;rw[e1];refine ql hin ?_;refine qz ?_;refine(aE hin).trans ?_;rw[show vI (gt b (j+k)).1=(y:Int)from hy,e2,tK,e3,e4,e6]
     refine qN (by decide) ?_;refine qN e5 ?_;refine qP (show(y:Int)>=128 by omega) ?_;rfl
    ·have ey:y % 128=y:=Nat.mod_eq_of_lt (by omega)
     rw[if_neg h128]
     refine It.stop λaA u rec=>?_
     unfold c269_5;dsimp only;refine qP (show(k:Int)<5 by omega) ?_;rw[e1];refine ql hin ?_;refine qz ?_;refine(aE hin).trans ?_;rw[show vI (gt b (j+k)).1=(y:Int)from hy,e2,tK,e3,e4,e7]
     refine qN (by decide) ?_;refine qN e5 ?_;refine qN (show ¬ ((y:Int)>=128) by omega) ?_
     rw[ey]
     by_cases hk0:0<k
     ·refine qP (show(k:Int)>0 by omega) ?_
      by_cases hy0:y=0
      ·rw[if_pos ⟨hk0,hy0⟩];refine qT (show((y:Int)==0)=true by rw[hy0];rfl) ?_;rfl
      ·rw[if_neg (by omega)];refine qF (show((y:Int)==0)=false by simp;omega) ?_
       by_cases hbig:acc+y*128 ^ k>2147483647
       ·rw[if_pos hbig];refine qP (show((acc+y*128 ^ k:Nat):Int)>2147483647 by omega) ?_;rfl
       ·rw[if_neg hbig];refine qN (show ¬ (((acc+y*128 ^ k:Nat):Int)>2147483647) by omega) ?_;rfl
     ·rw[if_neg (by omega)];refine qN (show ¬ ((k:Int)>0) by omega) ?_
      by_cases hbig:acc+y*128 ^ k>2147483647
      ·rw[if_pos hbig];refine qP (show((acc+y*128 ^ k:Nat):Int)>2147483647 by omega) ?_;rfl
      ·rw[if_neg hbig];refine qN (show ¬ (((acc+y*128 ^ k:Nat):Int)>2147483647) by omega) ?_;rfl
   ·rw[if_neg hin]
    refine It.stop λaA u rec=>?_
    unfold c269_5;dsimp only;refine qP (show(k:Int)<5 by omega) ?_;rw[e1];refine qN (show ¬ (((j+k:Nat):Int)<(b.length:Int)) by omega) ?_;rfl
 exact Ev.eq (λaA=>by unfold T269;refine qN h0 ?_;refine qN h1 ?_;rfl) ((lp 5 0 0 rfl (by decide)).ev (i:=()) rfl)
theorem f335(b:List aH)(i:Int)(hb:B8 b)(hl:b.length<=aN):Ran p 1 335 [vf K22 (b,()), vf K3 (i,())] (sP (pB b i)):=go335 λn hn=>by
 unfold pB
 have hs:b.length<=9223372036854775000:=Nat.le_trans hl (by decide)
 by_cases h0:i<0
 ·rw[decide_eq_true h0]
  have lp:It (λaA (_:Unit)=>c335_3 (aL p n) aA b i) ((0:Int),(0:Int)) (λ_=>some (sP none)):=It.stop λaA u rec=>by
   unfold c335_3;dsimp only;refine qP (show(0:Int)<5 by omega) ?_;refine qP h0 ?_;rfl
  exact Ev.eq (λaA=>by unfold T335;rfl) (lp.ev (i:=()) rfl)
 obtain⟨j,rfl⟩:∃ j:Nat,i=(j:Int):=⟨i.toNat,by omega⟩
 rw[decide_eq_false h0,Int.toNat_natCast]
 show Ev _ (sP (p5 b j))
 have lp:∀ (m k acc:Nat),k+m=5->acc<128 ^ k->It (λaA (_:Unit)=>c335_3 (aL p n) aA b (j:Int)) ((acc:Int),(k:Int)) (λ_=>some (sP (sS b j m k acc))):=by
  intro m
  induction m with
  | zero=>
   intro k acc hk ha
   refine It.stop λaA u rec=>?_
   unfold c335_3;dsimp only;refine qN (show ¬ ((k:Int)<5) by omega) ?_;rfl
  | succ m ih=>
   intro k acc hk ha
   have k5:k<5:=by omega
   have hp:=R4 k5
   have e0:i64.wrap ((b.length:Int) - (k:Int))=(b.length:Int) - (k:Int):=by rw[IntKind.wrap_i64];omega
   unfold sS
   by_cases hin:j+k<b.length
   ·have e1:i64.wrap ((j:Int)+(k:Int))=((j+k:Nat):Int):=by rw[IntKind.wrap_i64];omega
    obtain⟨y,hy,hy2⟩:=hb (j+k) hin
    rw[if_pos hin,hy,Int.toNat_natCast]
    have e2:i64.wrap ((y:Int))=(y:Int):=by rw[IntKind.wrap_i64];omega
    have e3:tR i64 (((y % 128:Nat):Int)) (i64.wrap ((7:Int)*(k:Int)))=((y % 128*128 ^ k:Nat):Int):=IL (Nat.mod_lt _ (by omega)) k5
    have e4:orI i64 (acc:Int) ((y % 128*128 ^ k:Nat):Int)=((acc+y % 128*128 ^ k:Nat):Int):=R6 ha (Nat.mod_lt _ (by omega)) k5
    have e5:¬ (i64.wrap ((7:Int)*(k:Int))<0):=by rw[LU k5];omega
    have e6:i64.wrap ((k:Int)+1)=((k+1:Nat):Int):=by rw[IntKind.wrap_i64];omega
    have e7:i64.wrap (((j+k:Nat):Int)+1)=((j+k+1:Nat):Int):=by rw[IntKind.wrap_i64];omega
    by_cases h128:128<=y
    ·rw[if_pos h128]
     refine It.next (y:=(((acc+y % 128*128 ^ k:Nat):Int),((k+1:Nat):Int))) (λaA u rec=>?_) (ih (k+1) _ (by omega) (O9 ha))
     unfold c335_3;dsimp only;refine qP (show(k:Int)<5 by omega) ?_;refine qN h0 ?_;refine qN (show ¬ ((j:Int)>=i64.wrap ((b.length:Int) - (k:Int))) by rw[e0];omega) ?_;rw[e1];refine qz ?_;refine(aE hin).trans ?_;rw[show vI (gt b (j+k)).1=(y:Int)from hy,e2,tK,e3,e4,e6]
     refine qN (by decide) ?_;refine qN e5 ?_;refine qN (show ¬ ((y:Int)<128) by omega) ?_;rfl
    ·have ey:y % 128=y:=Nat.mod_eq_of_lt (by omega)
     rw[if_neg h128]
     refine It.stop λaA u rec=>?_
     unfold c335_3;dsimp only;refine qP (show(k:Int)<5 by omega) ?_;refine qN h0 ?_;refine qN (show ¬ ((j:Int)>=i64.wrap ((b.length:Int) - (k:Int))) by rw[e0];omega) ?_;rw[e1];refine qz ?_;refine(aE hin).trans ?_;rw[show vI (gt b (j+k)).1=(y:Int)from hy,e2,tK,e3,e4,e7]
     refine qN (by decide) ?_;refine qN e5 ?_;refine qP (show(y:Int)<128 by omega) ?_
     rw[ey]
     by_cases hk0:0<k
     ·refine qP (show(k:Int)>0 by omega) ?_
      by_cases hy0:y=0
      ·rw[if_pos ⟨hk0,hy0⟩];refine qT (show((y:Int)==0)=true by rw[hy0];rfl) ?_;rfl
      ·rw[if_neg (by omega)];refine qF (show((y:Int)==0)=false by simp;omega) ?_
       by_cases hbig:acc+y*128 ^ k>2147483647
       ·rw[if_pos hbig];refine qP (show((acc+y*128 ^ k:Nat):Int)>2147483647 by omega) ?_;rfl
       ·rw[if_neg hbig];refine qN (show ¬ (((acc+y*128 ^ k:Nat):Int)>2147483647) by omega) ?_;rfl
     ·rw[if_neg (by omega)];refine qN (show ¬ ((k:Int)>0) by omega) ?_
      by_cases hbig:acc+y*128 ^ k>2147483647
      ·rw[if_pos hbig];refine qP (show((acc+y*128 ^ k:Nat):Int)>2147483647 by omega) ?_;rfl
      ·rw[if_neg hbig];refine qN (show ¬ (((acc+y*128 ^ k:Nat):Int)>2147483647) by omega) ?_;rfl
   ·rw[if_neg hin]
    refine It.stop λaA u rec=>?_
    unfold c335_3;dsimp only;refine qP (show(k:Int)<5 by omega) ?_;refine qN h0 ?_;refine qP (show((j:Int)>=i64.wrap ((b.length:Int) - (k:Int))) by rw[e0];omega) ?_;rfl
 exact Ev.eq (λaA=>by unfold T335;rfl) ((lp 5 0 0 rfl (by decide)).ev (i:=()) rfl)
end Go.Abs.Xz
set_option maxHeartbeats 2000000
namespace Go.Abs.Xz
open Go Go.Abs
-- a number read off a reader: (the number, the reader behind it)
theorem f131(r:RdT)(h:RdOk r):Ran p 2 131 [.ref ⟨K180,r⟩] ⟨[⟨K3,((aI r).1,())⟩],[⟨K180,(aI r).2⟩]⟩:=go131 λn hn=>Ev.now λaA=>by
 have hg:=f269 r.1 r.2.1 h.b8 h.len
 unfold T131 aI
 cases e:pB r.1 r.2.1 with
 | none=>
  rw[e] at hg
  refine qE hg ?_
  obtain⟨r1,r2,r3,ru⟩:=r;cases r3 with
  | true=>rfl
  | false=>refine qf ?_;rfl
 | some q=>
  obtain⟨x,j⟩:=q
  rw[e] at hg
  refine qE hg ?_
  obtain⟨r1,r2,r3,ru⟩:=r;cases r3 with
  | true=>rfl
  | false=>refine qf ?_;rfl
theorem f266(r:RdT)(h:RdOk r):Ran p 2 266 [.ref ⟨K267,r⟩] ⟨[⟨K3,((aI r).1,())⟩],[⟨K267,(aI r).2⟩]⟩:=go266 λn hn=>Ev.now λaA=>by
 have hg:=f335 r.1 r.2.1 h.b8 h.len
 unfold T266 aI
 cases e:pB r.1 r.2.1 with
 | none=>
  rw[e] at hg
  refine qE hg ?_
  obtain⟨r1,r2,r3,ru⟩:=r;cases r3 with
  | true=>rfl
  | false=>refine qf ?_;rfl
 | some q=>
  obtain⟨x,j⟩:=q
  rw[e] at hg
  refine qE hg ?_
  obtain⟨r1,r2,r3,ru⟩:=r;cases r3 with
  | true=>rfl
  | false=>refine qf ?_;rfl
end Go.Abs.Xz
set_option maxHeartbeats 2000000
namespace Go.Abs.Xz
open Go Go.Abs
theorem f134(r:RdT)(m:Int)(h:RdOk r):Ran p 3 134 [.ref ⟨K180,r⟩, vf K3 (m,())] ⟨[⟨K3,((eA r m).1,())⟩],[⟨K180,(eA r m).2⟩]⟩:=go134 λn hn=>Ev.now λaA=>by
 unfold T134 eA;refine qR (f131 r h) ?_
 cases e:decide ((aI r).1>m)with
 | true=>rfl
 | false=>rfl
def u3:Option (ByteArray×Nat)->Out
 | none=>⟨[⟨K9,((⟨#[]⟩:ByteArray),())⟩,⟨K3,((0:Int),())⟩,⟨K4,(false,())⟩],[]⟩
 | some (s,j)=>⟨[⟨K9,(s,())⟩,⟨K3,((j:Int),())⟩,⟨K4,(true,())⟩],[]⟩
theorem f337(b:List aH)(i:Int)(hb:B8 b)(hl:b.length<=aN):Ran p 2 337 [vf K22 (b,()), vf K3 (i,())] (u3 (tH b i)):=go337 λn hn=>Ev.now λaA=>by
 have hg:=f269 b i hb hl
 have hs:b.length<=9223372036854775000:=Nat.le_trans hl (by decide)
 unfold T337 tH
 cases e:pB b i with
 | none=>
  rw[e] at hg
  refine qE hg ?_;rfl
 | some q=>
  obtain⟨x,j⟩:=q
  rw[e] at hg
  have hbd:=yE e
  refine qE hg ?_;refine qf ?_
  have e1:i64.wrap ((b.length:Int) - (j:Int))=(b.length:Int) - (j:Int):=by rw[IntKind.wrap_i64];omega
  by_cases hx:x>b.length - j
  ·show _=some (u3 (if x>b.length - j then none else some (bX ((b.take (j+x)).drop j),j+x)))
   rw[if_pos hx]
   refine qP (show((x:Int)>i64.wrap ((b.length:Int) - (j:Int))) by rw[e1];omega) ?_;rfl
  ·show _=some (u3 (if x>b.length - j then none else some (bX ((b.take (j+x)).drop j),j+x)))
   rw[if_neg hx]
   have e2:i64.wrap ((j:Int)+(x:Int))=((j+x:Nat):Int):=by rw[IntKind.wrap_i64];omega
   refine qN (show ¬ ((x:Int)>i64.wrap ((b.length:Int) - (j:Int))) by rw[e1];omega) ?_
   rw[show i64.wrap (vI ((j:Int))+vI ((x:Int)))=((j+x:Nat):Int)from e2]
   refine qT (show(decide ((0:Int)<=((j+x:Nat):Int))&&decide (((j+x:Nat):Int)<=(b.length:Int)))=true by rw[decide_eq_true (by omega),decide_eq_true (by omega)];rfl) ?_
   refine qT (show(decide ((0:Int)<=(j:Int))&&decide ((j:Int)<=(((((j+x:Nat):Int)).toNat:Nat):Int)))=true by rw[decide_eq_true (by omega),decide_eq_true (by omega)];rfl) ?_
   rfl
theorem f336(b:List aH)(i:Int)(hb:B8 b)(hl:b.length<=aN):Ran p 2 336 [vf K22 (b,()), vf K3 (i,())] (u3 (tH b i)):=go336 λn hn=>Ev.now λaA=>by
 have hg:=f335 b i hb hl
 have hs:b.length<=9223372036854775000:=Nat.le_trans hl (by decide)
 unfold T336 tH
 cases e:pB b i with
 | none=>
  rw[e] at hg
  refine qE hg ?_;rfl
 | some q=>
  obtain⟨x,j⟩:=q
  rw[e] at hg
  have hbd:=yE e
  refine qE hg ?_;refine qf ?_
  have e1:i64.wrap ((b.length:Int) - (j:Int))=(b.length:Int) - (j:Int):=by rw[IntKind.wrap_i64];omega
  by_cases hx:x>b.length - j
  ·show _=some (u3 (if x>b.length - j then none else some (bX ((b.take (j+x)).drop j),j+x)))
   rw[if_pos hx]
   refine qP (show((x:Int)>i64.wrap ((b.length:Int) - (j:Int))) by rw[e1];omega) ?_;rfl
  ·show _=some (u3 (if x>b.length - j then none else some (bX ((b.take (j+x)).drop j),j+x)))
   rw[if_neg hx]
   have e2:i64.wrap ((j:Int)+(x:Int))=((j+x:Nat):Int):=by rw[IntKind.wrap_i64];omega
   refine qN (show ¬ ((x:Int)>i64.wrap ((b.length:Int) - (j:Int))) by rw[e1];omega) ?_
   rw[show i64.wrap (vI ((j:Int))+vI ((x:Int)))=((j+x:Nat):Int)from e2]
   refine qT (show(decide ((0:Int)<=((j+x:Nat):Int))&&decide (((j+x:Nat):Int)<=(b.length:Int)))=true by rw[decide_eq_true (by omega),decide_eq_true (by omega)];rfl) ?_
   refine qT (show(decide ((0:Int)<=(j:Int))&&decide ((j:Int)<=(((((j+x:Nat):Int)).toNat:Nat):Int)))=true by rw[decide_eq_true (by omega),decide_eq_true (by omega)];rfl) ?_
   rfl
end Go.Abs.Xz
set_option maxHeartbeats 2000000
namespace Go.Abs.Xz
open Go Go.Abs
theorem f270(r:RdT)(h:RdOk r):Ran p 3 270 [.ref ⟨K180,r⟩] ⟨[⟨K9,((kY r).1,())⟩],[⟨K180,(kY r).2⟩]⟩:=go270 λn hn=>Ev.now λaA=>by
 have hg:=f337 r.1 r.2.1 h.b8 h.len
 unfold T270 kY
 cases e:tH r.1 r.2.1 with
 | none=>
  rw[e] at hg
  refine qE hg ?_
  obtain⟨r1,r2,r3,ru⟩:=r;cases r3 with
  | true=>rfl
  | false=>refine qf ?_;rfl
 | some q=>
  obtain⟨x,j⟩:=q
  rw[e] at hg
  refine qE hg ?_
  obtain⟨r1,r2,r3,ru⟩:=r;cases r3 with
  | true=>rfl
  | false=>refine qf ?_;rfl
-- several numbers
def P0(k:Nat)(q:List aH×RdT):Int×List aH×List aH×Int×Bool:=((k:Int),q.1,q.2.1,q.2.2.1,q.2.2.2.1)
theorem f132(r:RdT)(m:Int)(h:RdOk r)(hm:0<=m/\m<=1000):Ran p 4 132 [.ref ⟨K180,r⟩, vf K3 (m,())] ⟨[⟨K28,((kI r m).1,())⟩],[⟨K180,(kI r m).2⟩]⟩:=go132 λn hn=>by
 have hc:=pR r hm.1
 have hk:=h.cnt m
 have lp:It (λaA (_:Unit)=>c132_4 (aL p n) aA ((((eA r m).1,()),()),((eA r m).2,()))) (P0 0 (cD vM (eA r m).2 0)) (λ_=>some ⟨[⟨K28,((kI r m).1,())⟩],[⟨K180,(kI r m).2⟩]⟩):=by
  refine It.run (λi=>P0 i (cD vM (eA r m).2 i)) (eA r m).1.toNat (λi hi aA u rec=>?_) (It.stop λaA u rec=>?_)
  ·have hl:=gY vM (eA r m).2 i
   have hbd:(cD vM (eA r m).2 i).1.length+1<=bound:=by unfold bound;omega
   unfold c132_4 P0;dsimp only;rw[aF (show i<9223372036854775807 by omega)];refine qP (show(i:Int)<(eA r m).1 by omega) ?_;refine qR (f131 (cD vM (eA r m).2 i).2 (mX (f:=vM) (λr h=>RdOk.num h) hk i)) ?_;refine qP hbd ?_;rfl
  ·unfold c132_4 P0;dsimp only;refine qN (show ¬ ((((eA r m).1.toNat:Nat):Int)<(eA r m).1) by omega) ?_;rfl
 exact Ev.eq (λaA=>by unfold T132;refine qR (f134 r m h) ?_;rfl) (lp.ev (i:=()) rfl)
end Go.Abs.Xz
namespace Go.Abs.Xz
open Go Go.Abs
theorem f93(a b:List aH)(ha:a.length<=maxLen):Ran p 1 93 [vf K28 (a,()), vf K28 (b,())] (rO K4 (fW a b,())):=go93 λn hn=>by
 by_cases he:a.length=b.length
 ·have e:((a.length:Int) != (b.length:Int))=false:=by simp[he]
  have e2:fW a b=bL a.length (λi=>(gt a i).1==(gt b i).1):=by unfold fW;rw[he];simp
  rw[e2]
  have lp:It (λaA (_:Unit)=>c93_4 (aL p n) aA a b) (0:Int) (λ_=>oB (bL a.length (λi=>(gt a i).1==(gt b i).1))):=by
   refine cU (It.allB a.length _ true (λi hi aA a' rec=>?_) (It.stop λaA a' rec=>?_))
   ·have hb:i<9223372036854775807:=Nat.lt_of_lt_of_le hi ha
    unfold c93_4;rw[aF hb];refine ql hi ?_;refine qz ?_;refine(aE hi).trans ?_;refine qz ?_;refine(aE (show i<b.length from he▸hi)).trans ?_;exact fin
   ·unfold c93_4;refine qe ?_;rfl
  exact Ev.eq (λaA=>by unfold T93;exact gD e) (lp.ev (i:=()) rfl)
 ·have e:((a.length:Int) != (b.length:Int))=true:=by simp;omega
  have e2:fW a b=false:=by unfold fW;rw[show((a.length:Int)==(b.length:Int))=false from by simp;omega];rfl
  rw[e2]
  exact Ev.now λaA=>by unfold T93;exact jE e
theorem f244(a b:List aH)(ha:a.length<=maxLen):Ran p 1 244 [vf K28 (a,()), vf K28 (b,())] (rO K4 (fW a b,())):=go244 λn hn=>by
 by_cases he:a.length=b.length
 ·have e:((a.length:Int) != (b.length:Int))=false:=by simp[he]
  have e2:fW a b=bL a.length (λi=>(gt a i).1==(gt b i).1):=by unfold fW;rw[he];simp
  rw[e2]
  have lp:It (λaA (_:Unit)=>c244_4 (aL p n) aA a b) (0:Int) (λ_=>oB (bL a.length (λi=>(gt a i).1==(gt b i).1))):=by
   refine cU (It.allB a.length _ true (λi hi aA a' rec=>?_) (It.stop λaA a' rec=>?_))
   ·have hb:i<9223372036854775807:=Nat.lt_of_lt_of_le hi ha
    unfold c244_4;rw[aF hb];refine ql hi ?_;refine qz ?_;refine(aE hi).trans ?_;refine qz ?_;refine(aE (show i<b.length from he▸hi)).trans ?_;exact fin
   ·unfold c244_4;refine qe ?_;rfl
  exact Ev.eq (λaA=>by unfold T244;exact gD e) (lp.ev (i:=()) rfl)
 ·have e:((a.length:Int) != (b.length:Int))=true:=by simp;omega
  have e2:fW a b=false:=by unfold fW;rw[show((a.length:Int)==(b.length:Int))=false from by simp;omega];rfl
  rw[e2]
  exact Ev.now λaA=>by unfold T244;exact jE e
theorem f91(a b:jL)(ha:a.1.length<=maxLen):Ran p 2 91 [va K30 a, va K30 b] (rO K4 (fW a.1 b.1&&a.2.1==b.2.1,())):=go91 λn hn=>Ev.now λaA=>by
 unfold T91;refine qC (f93 a.1 b.1 ha) ?_;refine fH λ_=>?_;rfl
theorem f102(a b:jL)(ha:a.1.length<=maxLen):Ran p 2 102 [va K30 a, va K30 b] (rO K4 (fW a.1 b.1&&a.2.1==b.2.1,())):=go102 λn hn=>Ev.now λaA=>by
 unfold T102;refine qC (f244 a.1 b.1 ha) ?_;refine fH λ_=>?_;rfl
theorem f331(x:Int):Ran p 2 331 [vf K3 (x,())] (rO K22 (aG x,())):=go331 λn hn=>by
 cases hx:inB x 0 2147483647 with
 | false=>
  refine Ev.now λaA=>?_
  unfold T331 aG;refine qC (f211 x 0 2147483647) ?_;rw[hx];rfl
 | true=>
  have hr:=aQ.1 hx
  obtain⟨m,rfl⟩:∃ m:Nat,x=m:=⟨x.toNat,by omega⟩
  have lp:It (λaA (_:Unit)=>c331_4 (aL p n) aA) ((m:Int),([]:List aH)) (λ_=>rV K22 (([]:List aH)++gX m,())):=by
   refine zB (λl=>rV K22 (l,())) (λm hm pre hp aA a rec=>?_) (λm hm pre hp aA a rec=>?_) 5 m [] (by omega) (by omega) (by decide)
   ·unfold c331_4;refine qN (by show ¬ ((m:Int)>127);omega) ?_;refine qP (by show pre.length+1<=4294967296;omega) ?_;rfl
   ·unfold c331_4;refine qP (by show(m:Int)>127;omega) ?_;refine qN (by decide) ?_;refine qP (by show pre.length+1<=4294967296;omega) ?_;refine qN (by decide) ?_;rfl
  have e2:aG (m:Int)=gX m:=by unfold aG;rw[hx];rfl
  rw[e2]
  exact Ev.eq (λaA=>by unfold T331;refine qC (f211 (m:Int) 0 2147483647) ?_;rw[hx];rfl) (lp.ev (i:=()) rfl)
theorem f138(x:Int):Ran p 2 138 [vf K3 (x,())] (rO K22 (aG x,())):=go138 λn hn=>by
 cases hx:inB x 0 2147483647 with
 | false=>
  refine Ev.now λaA=>?_
  unfold T138 aG;refine qC (f100 x 0 2147483647) ?_;rw[hx];rfl
 | true=>
  have hr:=aQ.1 hx
  obtain⟨m,rfl⟩:∃ m:Nat,x=m:=⟨x.toNat,by omega⟩
  have lp:It (λaA (_:Unit)=>c138_4 (aL p n) aA) ((m:Int),([]:List aH)) (λ_=>rV K22 (([]:List aH)++gX m,())):=by
   refine zB (λl=>rV K22 (l,())) (λm hm pre hp aA a rec=>?_) (λm hm pre hp aA a rec=>?_) 5 m [] (by omega) (by omega) (by decide)
   ·unfold c138_4;refine qN (by show ¬ ((m:Int)>=128);omega) ?_;refine qP (by show pre.length+1<=4294967296;omega) ?_;rfl
   ·unfold c138_4;refine qP (by show(m:Int)>=128;omega) ?_;refine qN (by decide) ?_;refine qP (by show pre.length+1<=4294967296;omega) ?_;refine qN (by decide) ?_;rfl
  have e2:aG (m:Int)=gX m:=by unfold aG;rw[hx];rfl
  rw[e2]
  exact Ev.eq (λaA=>by unfold T138;refine qC (f100 (m:Int) 0 2147483647) ?_;rw[hx];rfl) (lp.ev (i:=()) rfl)
theorem f137(ps:List bH)(L:Nat)(hL:∀ i,i<ps.length->(gt ps i).1.length<=L)(hb:ps.length*L<=bound)(hp:ps.length<=maxLen):Ran p 1 137 [vf K62 (ps,())] (rO K22 (ps.flatMap (λr=>r.1),())):=go137 λn hn=>by
 have lp:It (λaA (_:Unit)=>c137_3 (aL p n) aA ps) ((0:Int),([]:List aH)) (λ_=>rV K22 (ps.flatMap (λr=>r.1),())):=by
  refine It.accu [] (λi=>(gt ps i).1) ps.length L hL (λi hi acc ha aA a rec=>?_) (It.stop λaA a rec=>?_)
  ·have hb':i<9223372036854775807:=Nat.lt_of_lt_of_le hi hp
   unfold c137_3;dsimp only;rw[aF hb'];refine ql hi ?_;refine qz ?_;refine(aE hi).trans ?_;refine qP (Nat.le_trans ha (by simpa using hb)) ?_;rfl
  ·unfold c137_3;refine qe ?_;exact congrArg (λl:List aH=>(rV K22 (l,()):Option Out)) (cA (λr:bH=>r.1) ps)
 exact Ev.eq (λaA=>by unfold T137;rfl) (lp.ev (i:=()) rfl)
theorem f360(s:ByteArray)(hs:ByteArray.size s<=1048576):Ran p 3 360 [vf K9 (s,())] (rO K22 (dR s,())):=go360 λn hn=>Ev.now λaA=>by
 unfold T360;refine qC (f331 ((ByteArray.size s:Nat):Int)) ?_;
 refine(jY ?_).trans rfl
 have h1:=aX ((ByteArray.size s:Nat):Int)
 have h2:=jS s
 show(aG ((ByteArray.size s:Nat):Int)).length+(fG s).length<=4294967296
 omega
theorem f271(s:ByteArray)(hs:ByteArray.size s<=1048576):Ran p 3 271 [vf K9 (s,())] (rO K22 (dR s,())):=go271 λn hn=>Ev.now λaA=>by
 unfold T271;refine qC (f138 ((ByteArray.size s:Nat):Int)) ?_
 have h1:=aX ((ByteArray.size s:Nat):Int)
 have h2:=jS s
 refine qC (f137 [(aG ((ByteArray.size s:Nat):Int),()),(fG s,())] 1048576 (λi hi=>by
  rcases i with _ | _ | i
  ·show(aG ((ByteArray.size s:Nat):Int)).length<=_;omega
  ·show(fG s).length<=_;omega
  ·exact absurd hi (by show ¬ (i+1+1<2);omega)) (by show 2*1048576<=4294967296;omega) (by show 2<=9223372036854775807;omega)) ?_
 exact congrArg (λl:List aH=>(rV K22 (l,()):Option Out)) (by simp[dR]:List.flatMap (λr:bH=>r.1) [(aG ((ByteArray.size s:Nat):Int),()),(fG s,())]=dR s)
theorem f334(bs:List aH)(hl:bs.length<=maxLen):Ran p 1 334 [vf K22 (bs,())] (rO K3 (crc bs,())):=go334 λn hn=>by
 have inner:∀ (i:Nat),i<9223372036854775807->∀ x0:Int,It (λaA rec3=>c334_7 (aL p n) aA bs (i:Int) rec3) (x0,(0:Int)) (λrec3=>rec3 (iQ 8 x0,((i+1:Nat):Int))):=by
  intro i hi x0
  refine It.run (λk=>(iQ k x0,(k:Int))) 8 (λk hk aA rec3 rec=>?_) (It.stop λaA rec3 rec=>?_)
  ·have hb:k<9223372036854775807:=by omega
   unfold c334_7;dsimp only;rw[aF hb];refine qP (by omega) ?_;refine qN (by decide) ?_;refine qN (by decide) ?_
   show _=rec (sY (iQ k x0),((k+1:Nat):Int))
   unfold sY
   cases ((iQ k x0).tmod 2==1)<;>rfl
  ·unfold c334_7;dsimp only;rw[aF hi];exact iR (by decide)
 have outer:It (λaA (_:Unit)=>c334_3 (aL p n) aA bs) ((4294967295:Int),(0:Int)) (λ_=>oI (crc bs)):=by
  refine It.runE (λi=>(xK bs i,(i:Int))) bs.length (λi hi=>?_) (It.stop λaA a rec=>?_)
  ·have hb:i<9223372036854775807:=Nat.lt_of_lt_of_le hi hl
   obtain⟨N,hN⟩:=(inner i hb (dW .i64 (xK bs i) (i64.wrap (gt bs i).1))).all_i
   refine⟨N,λaA hf a rec=>?_⟩
   unfold c334_3;refine ql hi ?_;refine qz ?_;refine(aE hi).trans ?_;exact hN aA hf rec
  ·unfold c334_3;refine qe ?_;rfl
 exact Ev.eq (λaA=>by unfold T334;rfl) (outer.ev (i:=()) rfl)
theorem f272(bs:List aH)(hl:bs.length<=maxLen):Ran p 1 272 [vf K22 (bs,())] (rO K3 (crc bs,())):=go272 λn hn=>by
 have inner:∀ (i:Nat),i<9223372036854775807->∀ x0:Int,It (λaA rec3=>c272_7 (aL p n) aA bs (i:Int) rec3) (x0,(0:Int)) (λrec3=>rec3 (iQ 8 x0,((i+1:Nat):Int))):=by
  intro i hi x0
  refine It.run (λk=>(iQ k x0,(k:Int))) 8 (λk hk aA rec3 rec=>?_) (It.stop λaA rec3 rec=>?_)
  ·have hb:k<9223372036854775807:=by omega
   unfold c272_7;dsimp only;rw[aF hb];refine qP (by omega) ?_;refine qN (by decide) ?_;refine qN (by decide) ?_
   show _=rec (sY (iQ k x0),((k+1:Nat):Int))
   unfold sY
   cases ((iQ k x0).tmod 2==1)<;>rfl
  ·unfold c272_7;dsimp only;rw[aF hi];exact iR (by decide)
 have outer:It (λaA (_:Unit)=>c272_3 (aL p n) aA bs) ((4294967295:Int),(0:Int)) (λ_=>oI (crc bs)):=by
  refine It.runE (λi=>(xK bs i,(i:Int))) bs.length (λi hi=>?_) (It.stop λaA a rec=>?_)
  ·have hb:i<9223372036854775807:=Nat.lt_of_lt_of_le hi hl
   obtain⟨N,hN⟩:=(inner i hb (dW .i64 (xK bs i) (i64.wrap (gt bs i).1))).all_i
   refine⟨N,λaA hf a rec=>?_⟩
   unfold c272_3;refine ql hi ?_;refine qz ?_;refine(aE hi).trans ?_;exact hN aA hf rec
  ·unfold c272_3;refine qe ?_;rfl
 exact Ev.eq (λaA=>by unfold T272;rfl) (outer.ev (i:=()) rfl)
theorem f330(x:Int):Ran p 3 330 [vf K3 (x,())] (rO K3 (cZ x,())):=go330 λn hn=>Ev.now λaA=>by
 unfold T330 cZ;refine qC (f250 x) ?_
 cases eH x with
 | false=>rfl
 | true=>
  refine qf ?_
  refine qC (f331 x) ?_;refine qC (f334 (aG x) (Nat.le_trans (aX x) (by decide))) ?_;refine qN (by decide) ?_;rfl
theorem f322(x:Int):Ran p 3 322 [vf K3 (x,())] (rO K3 (cZ x,())):=go322 λn hn=>Ev.now λaA=>by
 unfold T322 cZ;refine qC (f123 x) ?_
 cases eH x with
 | false=>rfl
 | true=>
  refine qf ?_
  refine qC (f138 x) ?_;refine qC (f272 (aG x) (Nat.le_trans (aX x) (by decide))) ?_;refine qN (by decide) ?_;rfl
theorem f329(ls:List aH)(x:Int)(hl:ls.length<=maxLen):Ran p 1 329 [vf K28 (ls,()), vf K3 (x,())] (rO K4 (i9 ls x,())):=go329 λn hn=>by
 have lp:It (λaA (_:Unit)=>c329_2 (aL p n) aA ls x) (0:Int) (λ_=>oB (i9 ls x)):=by
  rw[FH]
  refine It.anyB ls.length _ (λi hi aA a rec=>?_) (λaA a rec=>?_)
  ·have hb:i<9223372036854775807:=Nat.lt_of_lt_of_le hi hl
   unfold c329_2;rw[aF hb];refine ql hi ?_;refine qz ?_;refine(aE hi).trans ?_;rfl
  ·unfold c329_2;refine qe ?_;rfl
 exact Ev.eq (λaA=>by unfold T329;rfl) (lp.ev (i:=()) rfl)
theorem f356(ls:List aH)(x:Int)(hl:ls.length<=maxLen):Ran p 1 356 [vf K28 (ls,()), vf K3 (x,())] (rO K3 (N2 ls x,())):=go356 λn hn=>by
 have lp:It (λaA (_:Unit)=>c356_2 (aL p n) aA ls x) (0:Int) (λ_=>oI (N2 ls x)):=by
  have:=It.first (c:=λaA (_:Unit)=>c356_2 (aL p n) aA ls x) (λi=>(i:Int)) ls.length (λi=>x==(gt ls i).1) (λi _=>oI (i:Int)) (λ_=>oI (-1)) (λi hi hp aA a rec=>?_) (λi hi hp=>It.stop λaA a rec=>?_) (It.stop λaA a rec=>?_)
  ·revert this;unfold N2
   cases (List.range ls.length).find? (λi=>x==(gt ls i).1)<;>exact λh=>h
  ·have hb:i<9223372036854775807:=Nat.lt_of_lt_of_le hi hl
   unfold c356_2;rw[aF hb];refine ql hi ?_;refine qz ?_;refine(aE hi).trans ?_;exact gD hp
  ·unfold c356_2;refine ql hi ?_;refine qz ?_;refine(aE hi).trans ?_;exact jE hp
  ·unfold c356_2;refine qe ?_;rfl
 exact Ev.eq (λaA=>by unfold T356;rfl) (lp.ev (i:=()) rfl)
theorem f321(ls:List aH)(x:Int)(hl:ls.length<=maxLen):Ran p 2 321 [vf K28 (ls,()), vf K3 (x,())] (rO K4 (i9 ls x,())):=go321 λn hn=>Ev.now λaA=>by
 unfold T321;refine qC (f356 ls x hl) ?_;exact congrArg (λb:Bool=>(rV K4 (b,()):Option Out)) (N1 ls x)
theorem f261(s:aD)(ls:List aH)(hl:ls.length<=maxLen)(h1:s.1.length<=1000)(h2:s.2.1.length<=1000):Ran p 4 261 [va K27 s, vf K28 (ls,())] (rO K27 (gK s ls)):=go261 λn hn=>by
 have inner:∀ v:List bI,It (λaA (_:Unit)=>c261_8 (aL p n) aA s ls v) ((0:Int),([]:List aK)) (λ_=>rV K27 (v,s.2.1.filter (λf=>i9 ls (cZ f.1)),())):=by
  intro v
  refine It.accu (α:=aK) [] (λi=>bif i9 ls (cZ (gt s.2.1 i).1)then[gt s.2.1 i] else[]) s.2.1.length 1 (λi hi=>by cases i9 ls (cZ (gt s.2.1 i).1)<;>simp) (λi hi acc ha aA a rec=>?_) (It.stop λaA a rec=>?_)
  ·have hb:i<9223372036854775807:=by omega
   unfold c261_8;dsimp only;rw[aF hb];refine ql hi ?_;refine qz ?_;refine(aE hi).trans ?_;refine qC (f330 (gt s.2.1 i).1) ?_;refine qC (f329 ls (cZ (gt s.2.1 i).1) hl) ?_
   cases hq:i9 ls (cZ (gt s.2.1 i).1)with
   | false=>exact(congrArg (λl:List aK=>rec (((i+1:Nat):Int),l)) (List.append_nil acc).symm:_)
   | true=>refine qt ?_;refine qz ?_;refine(aE hi).trans ?_;refine qP (by rw[hq] at ha;have:acc.length+1<=0+s.2.1.length*1:=ha;show acc.length+1<=4294967296;omega) ?_;rfl
  ·unfold c261_8;refine qe ?_;exact congrArg (λl:List aK=>(rV K27 (v,l,()):Option Out)) ((cA (λf:aK=>bif i9 ls (cZ f.1)then[f] else[]) s.2.1).trans (iW _ _))
 have outer:It (λaA (_:Unit)=>c261_3 (aL p n) aA s ls) ((0:Int),([]:List bI)) (λ_=>rV K27 (gK s ls)):=by
  refine It.accu (α:=bI) [] (λi=>bif i9 ls (cZ (gt s.1 i).1)then[gt s.1 i] else[]) s.1.length 1 (λi hi=>by cases i9 ls (cZ (gt s.1 i).1)<;>simp) (λi hi acc ha aA a rec=>?_) (It.stopE (T:=λaA _=>iter (c261_8 (aL p n) aA s ls (s.1.filter (λx=>i9 ls (cZ x.1)))) aA ((0:Int),([]:List aK))) (λaA a rec=>?_) (inner _).all_i)
  ·have hb:i<9223372036854775807:=by omega
   unfold c261_3;dsimp only;rw[aF hb];refine ql hi ?_;refine qz ?_;refine(aE hi).trans ?_;refine qC (f330 (gt s.1 i).1) ?_;refine qC (f329 ls (cZ (gt s.1 i).1) hl) ?_
   cases hq:i9 ls (cZ (gt s.1 i).1)with
   | false=>exact(congrArg (λl:List bI=>rec (((i+1:Nat):Int),l)) (List.append_nil acc).symm:_)
   | true=>refine qt ?_;refine qz ?_;refine(aE hi).trans ?_;refine qP (by rw[hq] at ha;have:acc.length+1<=0+s.1.length*1:=ha;show acc.length+1<=4294967296;omega) ?_;rfl
  ·unfold c261_3;refine qe ?_;exact congrArg (λl:List bI=>iter (c261_8 (aL p n) aA s ls l) aA ((0:Int),([]:List aK))) ((cA (λf:bI=>bif i9 ls (cZ f.1)then[f] else[]) s.1).trans (iW _ _))
 exact Ev.eq (λaA=>by unfold T261;rfl) (outer.ev (i:=()) rfl)
theorem f241(s:aD)(ls:List aH)(hl:ls.length<=maxLen)(h1:s.1.length<=1000)(h2:s.2.1.length<=1000)(hok:aJ s=true):Ran p 4 241 [va K27 s, vf K28 (ls,())] (rO K27 (gK s ls)):=go241 λn hn=>by
 have inner:∀ v:List bI,It (λaA (_:Unit)=>c241_11 (aL p n) aA s ls v) ((0:Int),([]:List aK)) (λ_=>rV K27 (v,s.2.1.filter (λf=>i9 ls (cZ f.1)),())):=by
  intro v
  refine It.accu (α:=aK) [] (λi=>bif i9 ls (cZ (gt s.2.1 i).1)then[gt s.2.1 i] else[]) s.2.1.length 1 (λi hi=>by cases i9 ls (cZ (gt s.2.1 i).1)<;>simp) (λi hi acc ha aA a rec=>?_) (It.stop λaA a rec=>?_)
  ·have hb:i<9223372036854775807:=by omega
   unfold c241_11;dsimp only;rw[aF hb];refine ql hi ?_;refine qz ?_;refine(aE hi).trans ?_;refine qC (f322 (gt s.2.1 i).1) ?_;refine qC (f321 ls (cZ (gt s.2.1 i).1) hl) ?_
   cases hq:i9 ls (cZ (gt s.2.1 i).1)with
   | false=>exact(congrArg (λl:List aK=>rec (((i+1:Nat):Int),l)) (List.append_nil acc).symm:_)
   | true=>refine qt ?_;refine qP (by rw[hq] at ha;have:acc.length+1<=0+s.2.1.length*1:=ha;show acc.length+1<=4294967296;omega) ?_;rfl
  ·unfold c241_11;refine qe ?_;exact congrArg (λl:List aK=>(rV K27 (v,l,()):Option Out)) ((cA (λf:aK=>bif i9 ls (cZ f.1)then[f] else[]) s.2.1).trans (iW _ _))
 have outer:It (λaA (_:Unit)=>c241_5 (aL p n) aA s ls) ((0:Int),([]:List bI)) (λ_=>rV K27 (gK s ls)):=by
  refine It.accu (α:=bI) [] (λi=>bif i9 ls (cZ (gt s.1 i).1)then[gt s.1 i] else[]) s.1.length 1 (λi hi=>by cases i9 ls (cZ (gt s.1 i).1)<;>simp) (λi hi acc ha aA a rec=>?_) (It.stopE (T:=λaA _=>iter (c241_11 (aL p n) aA s ls (s.1.filter (λx=>i9 ls (cZ x.1)))) aA ((0:Int),([]:List aK))) (λaA a rec=>?_) (inner _).all_i)
  ·have hb:i<9223372036854775807:=by omega
   unfold c241_5;dsimp only;rw[aF hb];refine ql hi ?_;refine qz ?_;refine(aE hi).trans ?_;refine qC (f322 (gt s.1 i).1) ?_;refine qC (f321 ls (cZ (gt s.1 i).1) hl) ?_
   cases hq:i9 ls (cZ (gt s.1 i).1)with
   | false=>exact(congrArg (λl:List bI=>rec (((i+1:Nat):Int),l)) (List.append_nil acc).symm:_)
   | true=>refine qt ?_;refine qP (by rw[hq] at ha;have:acc.length+1<=0+s.1.length*1:=ha;show acc.length+1<=4294967296;omega) ?_;rfl
  ·unfold c241_5;refine qe ?_;exact congrArg (λl:List bI=>iter (c241_11 (aL p n) aA s ls l) aA ((0:Int),([]:List aK))) ((cA (λf:bI=>bif i9 ls (cZ f.1)then[f] else[]) s.1).trans (iW _ _))
 exact Ev.eq (λaA=>by unfold T241;refine qC (f101 s (Nat.le_trans h1 (by decide)) (Nat.le_trans h2 (by decide))) ?_;rw[hok];rfl) (outer.ev (i:=()) rfl)
end Go.Abs.Xz
namespace Go.Abs.Xz
open Go Go.Abs
abbrev oL(l:List aH):Option Out:=rV K22 (l,())
theorem I1{k:Nat}(h:k<=5):k<=maxLen:=by show k<=9223372036854775807;omega
theorem f333(s:aD)(hs:StateOk s):Ran p 4 333 [va K27 s] (rO K22 (bG s,())):=go333 λn hn=>by
 have h5:=hs.len
 have fl:∀ pre:List aH,pre.length<=1000->It (λaA (_:Unit)=>c333_14 (aL p n) aA s) ((0:Int),pre) (λ_=>oL (pre++s.2.1.flatMap aV)):=by
  intro pre hp
  refine It.accu (α:=aH) pre (λi=>aV (gt s.2.1 i)) s.2.1.length 10 (λi hi=>fF _) (λi hi acc ha aA a rec=>?_) (It.stop λaA a rec=>?_)
  ·have hb:i<9223372036854775807:=by omega
   have ha':acc.length+(aV (gt s.2.1 i)).length<=1050:=by omega
   unfold aV at ha';rw[List.length_append] at ha'
   unfold c333_14;dsimp only;rw[aF hb];refine ql hi ?_;refine qz ?_;refine(aE hi).trans ?_;refine qC (f331 (gt s.2.1 i).1) ?_;refine qP (by show acc.length+(aG (gt s.2.1 i).1).length<=4294967296;omega) ?_;refine qz ?_;refine(aE hi).trans ?_;refine qC (f331 (gt s.2.1 i).2.1) ?_
   refine qP (by show(acc++aG (gt s.2.1 i).1).length+(aG (gt s.2.1 i).2.1).length<=4294967296;rw[List.length_append];omega) ?_
   exact congrArg (λl:List aH=>rec (((i+1:Nat):Int),l)) (List.append_assoc _ _ _)
  ·unfold c333_14;refine qe ?_;exact congrArg (λl:List aH=>oL (pre++l)) (cA aV s.2.1)
 have it:∀ (i:Nat) (hi:i<s.1.length) (acc:List aH),acc.length<=1000->It (λaA rec3=>c333_8 (aL p n) aA s (gt (α:=bI) s.1 i) (gt (α:=bI) s.1 i) (i:Int) rec3) ((0:Int),acc) (λrec3=>rec3 (((i+1:Nat):Int),acc++aZ (gt s.1 i))):=by
  intro i hi acc ha
  have hb:i<9223372036854775807:=by omega
  refine It.accu (α:=aH) acc (λk=>aG (gt (five (gt s.1 i)) k).1) 5 5 (λk hk=>aX _) (λk hk acc' ha' aA rec3 rec=>?_) (It.stop λaA rec3 rec=>?_)
  ·have hk':k<(five (gt s.1 i)).length:=hk
   have hkb:k<9223372036854775807:=by omega
   unfold c333_8;dsimp only;rw[aF hkb];refine qP (Int.ofNat_lt.2 hk') ?_;refine qz ?_;refine(aE hk').trans ?_;refine(aE hk').trans ?_;refine qC (f331 (gt (five (gt s.1 i)) k).1) ?_
   refine qP (by show acc'.length+(aG (gt (five (gt s.1 i)) k).1).length<=4294967296;replace ha':acc'.length+(aG (gt (five (gt s.1 i)) k).1).length<=acc.length+5*5:=ha';omega) ?_;rfl
  ·show c333_8 (aL p n) aA s (gt (α:=bI) s.1 i) (gt (α:=bI) s.1 i) (i:Int) rec3 rec (((5:Nat):Int),acc++bM 5 λk=>aG (gt (five (gt s.1 i)) k).1)=_
   have hz:=hs.size (cR hi)
   have h1:(bM 5 λk=>aG (gt (five (gt s.1 i)) k).1).length<=5*5:=cT λk hk=>aX _
   have h2:=pS (gt s.1 i).2.2.2.2.2.1
   unfold c333_8;dsimp only;rw[aF hb];refine qN (by show ¬ ((5:Int)<5);decide) ?_;refine qC (f360 (gt s.1 i).2.2.2.2.2.1 (by omega)) ?_
   refine qP (by show(acc++bM 5 λk=>aG (gt (five (gt s.1 i)) k).1).length+(dR (gt s.1 i).2.2.2.2.2.1).length<=4294967296;rw[List.length_append];omega) ?_
   exact congrArg (λl:List aH=>rec3 (((i+1:Nat):Int),l)) (OD (gt s.1 i) acc)
 have n1:=aX (s.1.length:Int)
 have n2:=aX (s.2.1.length:Int)
 have hB:((aG (s.1.length:Int)++bM s.1.length λi=>aZ (gt s.1 i))).length<=5+5*38:=by
  have:(bM s.1.length λi=>aZ (gt s.1 i)).length<=s.1.length*38:=cT λi hi=>iG (hs.item _ (cR hi)).2.1
  rw[List.length_append];omega
 have outer:It (λaA (_:Unit)=>c333_3 (aL p n) aA s) ((0:Int),aG (s.1.length:Int)) (λ_=>oL (bG s)):=by
  refine It.accuE (α:=aH) (aG (s.1.length:Int)) (λi=>aZ (gt s.1 i)) s.1.length 38 (λi hi=>iG (hs.item _ (cR hi)).2.1) (λi hi acc ha=>?_)
   (It.stopE (T:=λaA _=>iter (c333_14 (aL p n) aA s) aA ((0:Int),(aG (s.1.length:Int)++bM s.1.length λi=>aZ (gt s.1 i))++aG (s.2.1.length:Int))) (λaA a rec=>?_) ?_)
  ·obtain⟨N,hN⟩:=(it i hi acc (by omega)).all_i
   refine⟨N,λaA hf a rec=>?_⟩
   unfold c333_3;refine ql hi ?_;refine qz ?_;refine(aE hi).trans ?_;refine qz ?_;refine(aE hi).trans ?_;exact hN aA hf rec
  ·unfold c333_3;refine qe ?_;refine qC (f331 (s.2.1.length:Int)) ?_;exact jY (by show(aG (s.1.length:Int)++bM s.1.length λi=>aZ (gt s.1 i)).length+(aG (s.2.1.length:Int)).length<=4294967296;omega)
  ·have:=(fl ((aG (s.1.length:Int)++bM s.1.length λi=>aZ (gt s.1 i))++aG (s.2.1.length:Int)) (by rw[List.length_append];omega)).all_i
   rw[cA aZ s.1] at this ⊢
   exact this
 exact Ev.eq (λaA=>by unfold T333;refine qC (f331 (s.1.length:Int)) ?_;rfl) (outer.ev (i:=()) rfl)

theorem dB{x:Int}{L:Nat}(h:5<=L):(aG x).length<=L:=Nat.le_trans (aX x) h
theorem f136(s:aD)(hs:StateOk s):Ran p 4 136 [va K27 s] (rO K22 (bG s,())):=go136 λn hn=>by
 have h5:=hs.len
 have fl:∀ pre:List aH,pre.length<=1000->It (λaA (_:Unit)=>c136_12 (aL p n) aA s) ((0:Int),pre) (λ_=>oL (pre++s.2.1.flatMap aV)):=by
  intro pre hp
  refine It.accu (α:=aH) pre (λi=>aV (gt s.2.1 i)) s.2.1.length 10 (λi hi=>fF _) (λi hi acc ha aA a rec=>?_) (It.stop λaA a rec=>?_)
  ·have hb:i<9223372036854775807:=by omega
   unfold c136_12;dsimp only;rw[aF hb];refine ql hi ?_;refine qz ?_;refine(aE hi).trans ?_;refine qC (f138 (gt s.2.1 i).1) ?_;refine qC (f138 (gt s.2.1 i).2.1) ?_
   refine qC (f137 [(acc,()),(aG (gt s.2.1 i).1,()),(aG (gt s.2.1 i).2.1,())] 2000 (j9 (by
    intro r hr;simp only[List.mem_cons,List.not_mem_nil,or_false] at hr
    rcases hr with rfl | rfl | rfl
    ·show acc.length<=2000;omega
    ·exact dB (by decide)
    ·exact dB (by decide))) (by show 3*2000<=4294967296;omega) (by show 3<=9223372036854775807;omega)) ?_
   exact congrArg (λl:List aH=>rec (((i+1:Nat):Int),l)) (by simp[aV]:List.flatMap (λr:bH=>r.1) [(acc,()),(aG (gt s.2.1 i).1,()),(aG (gt s.2.1 i).2.1,())]=acc++aV (gt s.2.1 i))
  ·unfold c136_12;refine qe ?_;exact congrArg (λl:List aH=>oL (pre++l)) (cA aV s.2.1)
 have n1:=aX (s.1.length:Int)
 have n2:=aX (s.2.1.length:Int)
 have hB:(bM s.1.length λi=>aZ (gt s.1 i)).length<=190:=by
  have:(bM s.1.length λi=>aZ (gt s.1 i)).length<=s.1.length*38:=cT λi hi=>iG (hs.item _ (cR hi)).2.1
  omega
 have outer:It (λaA (_:Unit)=>c136_5 (aL p n) aA s) ((0:Int),aG (s.1.length:Int)) (λ_=>oL (bG s)):=by
  refine It.accu (α:=aH) (aG (s.1.length:Int)) (λi=>aZ (gt s.1 i)) s.1.length 38 (λi hi=>iG (hs.item _ (cR hi)).2.1) (λi hi acc ha aA a rec=>?_)
   (It.stopE (T:=λaA _=>iter (c136_12 (aL p n) aA s) aA ((0:Int),(aG (s.1.length:Int)++bM s.1.length λi=>aZ (gt s.1 i))++aG (s.2.1.length:Int))) (λaA a rec=>?_) ?_)
  ·have hb:i<9223372036854775807:=by omega
   have hz:=hs.size (cR hi)
   have ht:=pS (gt s.1 i).2.2.2.2.2.1
   unfold c136_5;dsimp only;rw[aF hb];refine ql hi ?_;refine qz ?_;refine(aE hi).trans ?_;refine qC (f138 (gt s.1 i).1) ?_;refine qC (f138 (gt s.1 i).2.1) ?_;refine qC (f138 (gt s.1 i).2.2.1) ?_;refine qC (f138 (gt s.1 i).2.2.2.1) ?_;refine qC (f138 (gt s.1 i).2.2.2.2.1) ?_;refine qC (f271 (gt s.1 i).2.2.2.2.2.1 (by omega)) ?_
   refine qC (f137 [(acc,()),(aG (gt s.1 i).1,()),(aG (gt s.1 i).2.1,()),(aG (gt s.1 i).2.2.1,()),(aG (gt s.1 i).2.2.2.1,()),(aG (gt s.1 i).2.2.2.2.1,()),(dR (gt s.1 i).2.2.2.2.2.1,())] 2000 (j9 (by
    intro r hr;simp only[List.mem_cons,List.not_mem_nil,or_false] at hr
    rcases hr with rfl | rfl | rfl | rfl | rfl | rfl | rfl
    ·show acc.length<=2000;omega
    ·exact dB (by decide)
    ·exact dB (by decide)
    ·exact dB (by decide)
    ·exact dB (by decide)
    ·exact dB (by decide)
    ·show(dR (gt s.1 i).2.2.2.2.2.1).length<=2000;omega)) (by show 7*2000<=4294967296;omega) (by show 7<=9223372036854775807;omega)) ?_
   exact congrArg (λl:List aH=>rec (((i+1:Nat):Int),l)) (by simp[aZ]:List.flatMap (λr:bH=>r.1) [(acc,()),(aG (gt s.1 i).1,()),(aG (gt s.1 i).2.1,()),(aG (gt s.1 i).2.2.1,()),(aG (gt s.1 i).2.2.2.1,()),(aG (gt s.1 i).2.2.2.2.1,()),(dR (gt s.1 i).2.2.2.2.2.1,())]=acc++aZ (gt s.1 i))
  ·unfold c136_5;refine qe ?_;refine qC (f138 (s.2.1.length:Int)) ?_
   refine qC (f137 [(aG (s.1.length:Int)++bM s.1.length λi=>aZ (gt s.1 i),()),(aG (s.2.1.length:Int),())] 2000 (j9 (by
    intro r hr;simp only[List.mem_cons,List.not_mem_nil,or_false] at hr
    rcases hr with rfl | rfl
    ·show(aG (s.1.length:Int)++bM s.1.length λi=>aZ (gt s.1 i)).length<=2000;rw[List.length_append];omega
    ·exact dB (by decide))) (by show 2*2000<=4294967296;omega) (by show 2<=9223372036854775807;omega)) ?_
   exact congrArg (λl:List aH=>iter (c136_12 (aL p n) aA s) aA ((0:Int),l)) (by simp:List.flatMap (λr:bH=>r.1) [(aG (s.1.length:Int)++bM s.1.length λi=>aZ (gt s.1 i),()),(aG (s.2.1.length:Int),())]=(aG (s.1.length:Int)++bM s.1.length λi=>aZ (gt s.1 i))++aG (s.2.1.length:Int))
  ·have:=(fl ((aG (s.1.length:Int)++bM s.1.length λi=>aZ (gt s.1 i))++aG (s.2.1.length:Int)) (by rw[List.length_append,List.length_append];omega)).all_i
   rw[cA aZ s.1] at this ⊢
   exact this
 exact Ev.eq (λaA=>by unfold T136;refine qC (f101 s (I1 h5.1) (I1 h5.2)) ?_;rw[(aM s).2 hs];refine qf ?_;refine qC (f138 (s.1.length:Int)) ?_;rfl) (outer.ev (i:=()) rfl)
theorem f314(s:aD)(x:Int)(hz:SzS s):Ran p 5 314 [va K27 s, vf K3 (x,())] (rO K3 (iP s x,())):=go314 λn hn=>Ev.now λaA=>by
 unfold T314 iP;refine qC (f227 s (Nat.le_trans hz.a (by decide)) (Nat.le_trans hz.b (by decide))) ?_
 cases hs:aJ s with
 | false=>rfl
 | true=>
  have hs':=(aM s).1 hs
  have h5:=hs'.len
  refine qf ?_;refine qC (f211 x 0 3) ?_
  cases hx:inB x 0 3 with
  | false=>rfl
  | true=>
   refine qf ?_;refine qC (f261 s [(x,())] (by show 1<=9223372036854775807;omega) (by omega) (by omega)) ?_;refine qC (f333 (gK s [(x,())]) (hs'.slice _)) ?_;refine qC (f334 (bG (gK s [(x,())])) (Nat.le_trans (nF (hs'.slice _)) (by decide))) ?_;refine qN (by decide) ?_;rfl
theorem f245(s:aD)(x:Int)(hz:SzS s):Ran p 5 245 [va K27 s, vf K3 (x,())] (rO K3 (iP s x,())):=go245 λn hn=>Ev.now λaA=>by
 unfold T245 iP;refine qC (f101 s (Nat.le_trans hz.a (by decide)) (Nat.le_trans hz.b (by decide))) ?_
 cases hs:aJ s with
 | false=>rfl
 | true=>
  have hs':=(aM s).1 hs
  have h5:=hs'.len
  refine qf ?_;refine qC (f100 x 0 3) ?_
  cases hx:inB x 0 3 with
  | false=>rfl
  | true=>
   refine qf ?_;refine qC (f241 s [(x,())] (by show 1<=9223372036854775807;omega) (by omega) (by omega) hs) ?_;refine qC (f136 (gK s [(x,())]) (hs'.slice _)) ?_;refine qC (f272 (bG (gK s [(x,())])) (Nat.le_trans (nF (hs'.slice _)) (by decide))) ?_;refine qN (by decide) ?_;rfl
theorem f315(ls:List aH)(hl:ls.length<=1000):Ran p 3 315 [vf K28 (ls,())] (rO K3 (kX ls,())):=go315 λn hn=>by
 have lp:It (λaA (_:Unit)=>c315_3 (aL p n) aA ls) ((0:Int),([]:List aH)) (λ_=>oI (kX ls)):=by
  refine It.accu (α:=aH) [] (λi=>aG (gt ls i).1) ls.length 5 (λi hi=>aX _) (λi hi acc ha aA a rec=>?_) (It.stop λaA a rec=>?_)
  ·have hb:i<9223372036854775807:=by omega
   have ha':acc.length+(aG (gt ls i).1).length<=0+ls.length*5:=ha
   unfold c315_3;dsimp only;rw[aF hb];refine ql hi ?_;refine qz ?_;refine(aE hi).trans ?_;refine qC (f331 (gt ls i).1) ?_;refine qP (by show acc.length+(aG (gt ls i).1).length<=4294967296;omega) ?_;rfl
  ·have hB:(bM ls.length λi=>aG (gt ls i).1).length<=ls.length*5:=cT λi hi=>aX _
   unfold c315_3;refine qe ?_;refine qC (f334 (bM ls.length λi=>aG (gt ls i).1) (by show _<=9223372036854775807;omega)) ?_;refine qN (by decide) ?_;exact congrArg (λl:List aH=>oI ((crc l).tmod 1024)) (cA (λx:aH=>aG x.1) ls)
 exact Ev.eq (λaA=>by unfold T315;rfl) (lp.ev (i:=()) rfl)
theorem f246(ls:List aH)(hl:ls.length<=1000):Ran p 3 246 [vf K28 (ls,())] (rO K3 (kX ls,())):=go246 λn hn=>by
 have lp:It (λaA (_:Unit)=>c246_3 (aL p n) aA ls) ((0:Int),([]:List aH)) (λ_=>oI (kX ls)):=by
  refine It.accu (α:=aH) [] (λi=>aG (gt ls i).1) ls.length 5 (λi hi=>aX _) (λi hi acc ha aA a rec=>?_) (It.stop λaA a rec=>?_)
  ·have hb:i<9223372036854775807:=by omega
   have ha':acc.length+(aG (gt ls i).1).length<=0+ls.length*5:=ha
   unfold c246_3;dsimp only;rw[aF hb];refine ql hi ?_;refine qz ?_;refine(aE hi).trans ?_;refine qC (f138 (gt ls i).1) ?_
   refine qC (f137 [(acc,()),(aG (gt ls i).1,())] 6000 (j9 (by
    intro r hr;simp only[List.mem_cons,List.not_mem_nil,or_false] at hr
    rcases hr with rfl | rfl
    ·show acc.length<=6000;omega
    ·exact dB (by decide))) (by show 2*6000<=4294967296;omega) (by show 2<=9223372036854775807;omega)) ?_
   exact congrArg (λl:List aH=>rec (((i+1:Nat):Int),l)) (by simp:List.flatMap (λr:bH=>r.1) [(acc,()),(aG (gt ls i).1,())]=acc++aG (gt ls i).1)
  ·have hB:(bM ls.length λi=>aG (gt ls i).1).length<=ls.length*5:=cT λi hi=>aX _
   unfold c246_3;refine qe ?_;refine qC (f272 (bM ls.length λi=>aG (gt ls i).1) (by show _<=9223372036854775807;omega)) ?_;refine qN (by decide) ?_;exact congrArg (λl:List aH=>oI ((crc l).tmod 1024)) (cA (λx:aH=>aG x.1) ls)
 exact Ev.eq (λaA=>by unfold T246;rfl) (lp.ev (i:=()) rfl)
theorem f228(s:aD)(hz:SzS s):Ran p 6 228 [va K27 s] (rO K30 (bV s)):=go228 λn hn=>by
 cases hs:aJ s with
 | false=>
  refine Ev.now λaA=>?_
  unfold T228 bV;refine qC (f227 s (Nat.le_trans hz.a (by decide)) (Nat.le_trans hz.b (by decide))) ?_;rw[hs];rfl
 | true=>
  have lp:It (λaA (_:Unit)=>c228_5 (aL p n) aA s) ((0:Int),([]:List aH)) (λ_=>rV K30 (dK s,kX (dK s),())):=by
   refine It.accu (α:=aH) [] (λi=>[(iP s (i:Int),())]) 4 1 (λi hi=>Nat.le_refl 1) (λi hi acc ha aA a rec=>?_) (It.stop λaA a rec=>?_)
   ·have hb:i<9223372036854775807:=by omega
    have ha':acc.length+1<=0+4*1:=ha
    unfold c228_5;dsimp only;rw[aF hb];refine qP (by show(i:Int)<4;omega) ?_;refine qC (f314 s (i:Int) hz) ?_;refine qP (by show acc.length+1<=4294967296;omega) ?_;rfl
   ·unfold c228_5;refine qN (by show ¬ ((4:Int)<4);decide) ?_;refine qC (f315 (dK s) (by show 4<=1000;omega)) ?_;rfl
  have e:bV s=(dK s,kX (dK s),()):=by unfold bV;rw[hs];rfl
  rw[e]
  exact Ev.eq (λaA=>by unfold T228;refine qC (f227 s (Nat.le_trans hz.a (by decide)) (Nat.le_trans hz.b (by decide))) ?_;rw[hs];rfl) (lp.ev (i:=()) rfl)
theorem f103(s:aD)(hz:SzS s):Ran p 6 103 [va K27 s] (rO K30 (bV s)):=go103 λn hn=>by
 cases hs:aJ s with
 | false=>
  refine Ev.now λaA=>?_
  unfold T103 bV;refine qC (f101 s (Nat.le_trans hz.a (by decide)) (Nat.le_trans hz.b (by decide))) ?_;rw[hs];rfl
 | true=>
  have lp:It (λaA (_:Unit)=>c103_5 (aL p n) aA s) ((0:Int),([]:List aH)) (λ_=>rV K30 (dK s,kX (dK s),())):=by
   refine It.accu (α:=aH) [] (λi=>[(iP s (i:Int),())]) 4 1 (λi hi=>Nat.le_refl 1) (λi hi acc ha aA a rec=>?_) (It.stop λaA a rec=>?_)
   ·have hb:i<9223372036854775807:=by omega
    have ha':acc.length+1<=0+4*1:=ha
    unfold c103_5;dsimp only;rw[aF hb];refine qP (by show(i:Int)<4;omega) ?_;refine qC (f245 s (i:Int) hz) ?_;refine qP (by show acc.length+1<=4294967296;omega) ?_;rfl
   ·unfold c103_5;refine qN (by show ¬ ((4:Int)<4);decide) ?_;refine qC (f246 (dK s) (by show 4<=1000;omega)) ?_;rfl
  have e:bV s=(dK s,kX (dK s),()):=by unfold bV;rw[hs];rfl
  rw[e]
  exact Ev.eq (λaA=>by unfold T103;refine qC (f101 s (Nat.le_trans hz.a (by decide)) (Nat.le_trans hz.b (by decide))) ?_;rw[hs];rfl) (lp.ev (i:=()) rfl)
end Go.Abs.Xz
set_option maxHeartbeats 2000000
namespace Go.Abs.Xz
open Go Go.Abs
def rE(q:List aH×RdT):Out:=⟨[⟨K28,(q.1,())⟩],[⟨K267,q.2⟩]⟩
theorem f267(r:RdT)(t:Nat)(i0:Int)(hi0:i0=(t:Int))(h:RdOk r)(ht:t<=2):Ran p 3 267 [.ref ⟨K267,r⟩, vf K3 (i0,())] (rE (cK r t)):=go267 λn hn=>by
 subst hi0
 have q0:=zA r
 by_cases hbig:(aI r).1>100
 ·have e:cK r t=([],((aI r).2.1,(aI r).2.2.1,true,())):=by unfold cK;rw[decide_eq_true hbig];rfl
  rw[e]
  have lp:It (λaA (_:Unit)=>c267_4 (aL p n) aA (t:Int) ((((aI r).1,()),()),((aI r).2,()))) ((0:Int),([]:List aH),(aI r).2.1,(aI r).2.2.1,(aI r).2.2.2.1) (λ_=>some (rE ([],((aI r).2.1,(aI r).2.2.1,true,())))):=It.stop λaA u rec=>by
   unfold c267_4;dsimp only
   by_cases h1:(0:Int)<i64.wrap ((aI r).1*(t:Int))
   ·refine qP h1 ?_
    cases (aI r).2.2.2.1 with
    | true=>rfl
    | false=>refine qt ?_;refine qN (show ¬ ((aI r).1<=100) by omega) ?_;refine qf ?_;rw[show decide (vI ((aI r).1)>100)=true from decide_eq_true hbig];rfl
   ·refine qN h1 ?_
    cases (aI r).2.2.2.1 with
    | true=>rfl
    | false=>refine qf ?_;rw[show decide (vI ((aI r).1)>100)=true from decide_eq_true hbig];rfl
  exact Ev.eq (λaA=>by unfold T267;refine qR (f266 r h) ?_;rfl) (lp.ev (i:=()) rfl)
 ·have e:cK r t=lP (aI r).2 ((aI r).1.toNat*t):=by unfold cK;rw[decide_eq_false hbig];rfl
  rw[e]
  have hN:(aI r).1.toNat*t<=100*2:=Nat.mul_le_mul (by omega) ht
  have ew:i64.wrap ((aI r).1*(t:Int))=(((aI r).1.toNat*t:Nat):Int):=by
   have:(aI r).1*(t:Int)=(((aI r).1.toNat*t:Nat):Int):=by rw[Int.natCast_mul,show(((aI r).1.toNat:Nat):Int)=(aI r).1 by omega]
   rw[this,IntKind.wrap_i64];omega
  generalize hM:(aI r).1.toNat*t=M at ew hN
  have lp:∀ (k i:Nat) (acc:List aH) (q:RdT),RdOk q->i+k=M->acc.length=i->It (λaA (_:Unit)=>c267_4 (aL p n) aA (t:Int) ((((aI r).1,()),()),((aI r).2,()))) ((i:Int),acc,q.1,q.2.1,q.2.2.1) (λ_=>some (rE (acc++(lP q k).1,(lP q k).2))):=by
   intro k
   induction k with
   | zero=>
    intro i acc q hq hi ha
    obtain⟨qb,qa,qd,qu⟩:=q
    refine It.stop λaA u rec=>?_
    show c267_4 (aL p n) aA (t:Int) ((((aI r).1,()),()),((aI r).2,())) rec ((i:Int),acc,qb,qa,qd)=some (rE (acc++[],(qb,qa,qd,qu)))
    rw[List.append_nil]
    unfold c267_4;dsimp only;refine qN (show ¬ ((i:Int)<i64.wrap ((aI r).1*(t:Int))) by rw[ew];omega) ?_
    cases qd with
    | true=>rfl
    | false=>refine qf ?_;rw[show decide (vI ((aI r).1)>100)=false from decide_eq_false hbig];rfl
   | succ k ih=>
    intro i acc q hq hi ha
    obtain⟨qb,qa,qd,qu⟩:=q
    cases qd with
    | true=>
     refine It.stop λaA u rec=>?_
     show c267_4 (aL p n) aA (t:Int) ((((aI r).1,()),()),((aI r).2,())) rec ((i:Int),acc,qb,qa,true)=some (rE (acc++[],(qb,qa,true,qu)))
     rw[List.append_nil]
     unfold c267_4;dsimp only;refine qP (show(i:Int)<i64.wrap ((aI r).1*(t:Int)) by rw[ew];omega) ?_;rfl
    | false=>
     have e2:lP (qb,qa,false,qu) (k+1)=(((aI (qb,qa,false,qu)).1,())::(lP (aI (qb,qa,false,qu)).2 k).1,(lP (aI (qb,qa,false,qu)).2 k).2):=rfl
     have ih':=ih (i+1) (acc++[((aI (qb,qa,false,qu)).1,())]) (aI (qb,qa,false,qu)).2 hq.num (by omega) (by rw[List.length_append,ha];rfl)
     rw[e2]
     rw[List.append_assoc] at ih'
     refine It.next (λaA u rec=>?_) ih'
     show c267_4 (aL p n) aA (t:Int) ((((aI r).1,()),()),((aI r).2,())) rec ((i:Int),acc,qb,qa,false)=_
     have hbd:acc.length+1<=bound:=by unfold bound;omega
     unfold c267_4;dsimp only;rw[aF (show i<9223372036854775807 by omega)];refine qP (show(i:Int)<i64.wrap ((aI r).1*(t:Int)) by rw[ew];omega) ?_;refine qt ?_;refine qP (show(aI r).1<=100 by omega) ?_;refine qR (f266 (qb,qa,false,qu) hq) ?_;refine qP hbd ?_;rfl
  have lp0:=lp M 0 [] (aI r).2 h.num (by omega) rfl
  exact Ev.eq (λaA=>by unfold T267;refine qR (f266 r h) ?_;rfl) (lp0.ev (i:=()) rfl)
theorem f135(a b:List aH):Ran p 1 135 [vf K22 (a,()), vf K22 (b,())] (rO K4 (bN a b,())):=go135 λn hn=>Ev.now λaA=>by
 unfold T135;rfl
def mO:Option aD->Out
 | none=>⟨[⟨K27,(([],[],()):aD)⟩,⟨K4,(false,())⟩],[]⟩
 | some s=>⟨[⟨K27,s⟩,⟨K4,(true,())⟩],[]⟩
def rdI(k:Nat)(q:List bI×RdT):Int×List aH×Int×Bool×List bI:=((k:Int),q.2.1,q.2.2.1,q.2.2.2.1,q.1)
def rdF(k:Nat)(q:List aK×RdT):Int×List aH×Int×Bool×List aK:=((k:Int),q.2.1,q.2.2.1,q.2.2.2.1,q.1)
theorem MM{b:List aH}(hb:B8 b)(hl:b.length<=aN):RdOk (rs0 b):=⟨hb,hl,Int.le_refl _,Int.natCast_nonneg _⟩
theorem f133(b:List aH)(hb:B8 b)(hl:b.length<=aN):Ran p 5 133 [vf K22 (b,())] (mO (bS b)):=go133 λn hn=>by
 have r0:=MM hb hl
 have rC:RdOk (siC b).2:=r0.cnt 5
 have rI:∀ k,RdOk (cD cP (siC b).2 k).2:=mX (f:=cP) (λr h=>RdOk.item h) rC
 have rF:RdOk (siF b).2:=(rI _).cnt 5
 have rG:∀ k,RdOk (cD dJ (siF b).2 k).2:=mX (f:=dJ) (λr h=>RdOk.floor h) rF
 have bC:0<=(siC b).1/\(siC b).1<=5:=pR _ (by decide)
 have bF:0<=(siF b).1/\(siF b).1<=5:=pR _ (by decide)
 have lI:(siI b).1.length<=5:=by unfold siI;rw[gY];omega
 have lG:(siG b).1.length<=5:=by unfold siG;rw[gY];omega
 have hz1:(stI b).1.length<=maxLen:=Nat.le_trans lI (by decide)
 have hz2:(stI b).2.1.length<=maxLen:=Nat.le_trans lG (by decide)
 have inn:It (λaA (_:Unit)=>c133_17 (aL p n) aA b ((((siF b).1,()),()),((siF b).2,())) (siI b).1) (rdF 0 (cD dJ (siF b).2 0)) (λ_=>some (mO (bS b))):=by
  refine It.run (λk=>rdF k (cD dJ (siF b).2 k)) (siF b).1.toNat (λk hk aA u rec=>?_) (It.stop λaA u rec=>?_)
  ·have hlen:=gY dJ (siF b).2 k
   have hbd:(cD dJ (siF b).2 k).1.length+1<=bound:=by unfold bound;omega
   show c133_17 (aL p n) aA b ((((siF b).1,()),()),((siF b).2,())) (siI b).1 rec (rdF k (cD dJ (siF b).2 k))=rec (rdF (k+1) (cD dJ (siF b).2 (k+1)))
   unfold c133_17 rdF;dsimp only;rw[aF (show k<9223372036854775807 by omega)];refine qP (show(k:Int)<(siF b).1 by omega) ?_;refine qR (f131 (cD dJ (siF b).2 k).2 (rG k)) ?_;refine qR (f131 (aI (cD dJ (siF b).2 k).2).2 (rG k).num) ?_;refine qP hbd ?_;rfl
  ·show c133_17 (aL p n) aA b ((((siF b).1,()),()),((siF b).2,())) (siI b).1 rec (rdF (siF b).1.toNat (siG b))=_
   unfold c133_17 rdF;dsimp only;refine qN (show ¬ ((((siF b).1.toNat:Nat):Int)<(siF b).1) by omega) ?_
   cases hbad:(siG b).2.2.2.1 with
   | true=>refine qt ?_;rw[show bS b=none by unfold bS;rw[hbad];rfl];rfl
   | false=>
    refine qf ?_;refine qC (f101 (stI b) hz1 hz2) ?_
    cases hs:aJ (stI b)with
    | false=>refine qt ?_;rw[show bS b=none by unfold bS;rw[hbad,hs];rfl];rfl
    | true=>
     refine qf ?_;refine qC (f136 (stI b) ((aM _).1 hs)) ?_;refine qC (f135 (bG (stI b)) b) ?_
     cases he:bN (bG (stI b)) b with
     | false=>refine qt ?_;rw[show bS b=none by unfold bS;rw[hbad,hs,he];rfl];rfl
     | true=>refine qf ?_;rw[show bS b=some (stI b) by unfold bS;rw[hbad,hs,he];rfl];rfl
 have out:It (λaA (_:Unit)=>c133_5 (aL p n) aA b ((((siC b).1,()),()),((siC b).2,()))) (rdI 0 (cD cP (siC b).2 0)) (λ_=>some (mO (bS b))):=by
  refine It.run (λk=>rdI k (cD cP (siC b).2 k)) (siC b).1.toNat (λk hk aA u rec=>?_) (It.stopE (T:=λaA _=>iter (c133_17 (aL p n) aA b ((((siF b).1,()),()),((siF b).2,())) (siI b).1) aA (rdF 0 (cD dJ (siF b).2 0))) (λaA u rec=>?_) inn.all_i)
  ·have hlen:=gY cP (siC b).2 k
   have hbd:(cD cP (siC b).2 k).1.length+1<=bound:=by unfold bound;omega
   have hk0:=rI k
   show c133_5 (aL p n) aA b ((((siC b).1,()),()),((siC b).2,())) rec (rdI k (cD cP (siC b).2 k))=rec (rdI (k+1) (cD cP (siC b).2 (k+1)))
   unfold c133_5 rdI;dsimp only;rw[aF (show k<9223372036854775807 by omega)];refine qP (show(k:Int)<(siC b).1 by omega) ?_;refine qR (f131 (rdK (cD cP (siC b).2 k).2 0) (hk0.k 0)) ?_;refine qR (f131 (rdK (cD cP (siC b).2 k).2 1) (hk0.k 1)) ?_;refine qR (f131 (rdK (cD cP (siC b).2 k).2 2) (hk0.k 2)) ?_;refine qR (f131 (rdK (cD cP (siC b).2 k).2 3) (hk0.k 3)) ?_;refine qR (f131 (rdK (cD cP (siC b).2 k).2 4) (hk0.k 4)) ?_;refine qR (f270 (rdK (cD cP (siC b).2 k).2 5) (hk0.k 5)) ?_;refine qP hbd ?_;rfl
  ·show c133_5 (aL p n) aA b ((((siC b).1,()),()),((siC b).2,())) rec (rdI (siC b).1.toNat (siI b))=_
   unfold c133_5 rdI;dsimp only;refine qN (show ¬ ((((siC b).1.toNat:Nat):Int)<(siC b).1) by omega) ?_;refine qR (f134 (siI b).2 5 (rI _)) ?_;rfl
 exact Ev.eq (λaA=>by unfold T133;refine qR (f134 (rs0 b) 5 r0) ?_;rfl) (out.ev (i:=()) rfl)
def lQ(b:List aH)(big:Bool)(q:List bI×RdT):Option aD:=bif(flR q.2).2.2.2.1||(big||(!aJ (stS q)|| !bN (bG (stS q)) b))then none else some (stS q)
theorem f268(b:List aH)(hb:B8 b)(hl:b.length<=aN):Ran p 5 268 [vf K22 (b,())] (mO (fV b)):=go268 λn hn=>by
 have r0:=MM hb hl
 have rN:RdOk (aI (rs0 b)).2:=r0.num
 have q0:=zA (rs0 b)
 have tail:∀ q:List bI×RdT,RdOk q.2->q.1.length<=100->It (λaA (_:Unit)=>c268_21 (aL p n) aA b ((((aI (rs0 b)).1,()),()),((aI (rs0 b)).2,())) ((((cK q.2 2).1,()),()),((cK q.2 2).2,())) q.1) ((0:Int),([]:List aK)) (λ_=>some (mO (lQ b (decide ((aI (rs0 b)).1>100)) q))):=by
  intro q hq hql
  have hm:=rD q.2 2
  refine It.run (λk=>(((2*k:Nat):Int),iT (cK q.2 2).1 k)) ((cK q.2 2).1.length / 2) (λk hk aA u rec=>?_) (It.stop λaA u rec=>?_)
  ·have h1:2*k<(cK q.2 2).1.length:=by omega
   have h2:2*k+1<(cK q.2 2).1.length:=by omega
   have e1:i64.wrap (((2*k:Nat):Int)+1)=((2*k+1:Nat):Int):=by rw[IntKind.wrap_i64];omega
   have e2:i64.wrap (((2*k:Nat):Int)+2)=((2*(k+1):Nat):Int):=by rw[IntKind.wrap_i64];omega
   have hbd:(iT (cK q.2 2).1 k).length+1<=bound:=by rw[sO];unfold bound;omega
   unfold c268_21;dsimp only;rw[e1,e2,wW];refine ql h2 ?_;refine qz ?_;refine(aE h1).trans ?_;refine(aE h1).trans ?_;refine qz ?_;refine(aE h2).trans ?_;refine(aE h2).trans ?_;refine qP hbd ?_;rfl
  ·have e1:i64.wrap ((((2*((cK q.2 2).1.length / 2):Nat)):Int)+1)=((2*((cK q.2 2).1.length / 2)+1:Nat):Int):=by rw[IntKind.wrap_i64];omega
   have lp:(stS q).2.1.length<=100:=I9 q.2
   have hz1:(stS q).1.length<=maxLen:=Nat.le_trans hql (by decide)
   have hz2:(stS q).2.1.length<=maxLen:=Nat.le_trans lp (by decide)
   unfold c268_21;dsimp only;rw[e1];refine qN (show ¬ (((2*((cK q.2 2).1.length / 2)+1:Nat):Int)<(((cK q.2 2).1.length:Nat):Int)) by omega) ?_
   cases hbad:(cK q.2 2).2.2.2.1 with
   | true=>refine qt ?_;rw[show lQ b (decide ((aI (rs0 b)).1>100)) q=none by unfold lQ flR;rw[hbad];rfl];rfl
   | false=>
    refine qf ?_
    by_cases hbig:(aI (rs0 b)).1>100
    ·refine qP hbig ?_;rw[show lQ b (decide ((aI (rs0 b)).1>100)) q=none by unfold lQ flR;rw[hbad,decide_eq_true hbig];rfl];rfl
    ·refine qN hbig ?_;refine qC (f227 (stS q) hz1 hz2) ?_
     cases hs:aJ (stS q)with
     | false=>refine qt ?_;rw[show lQ b (decide ((aI (rs0 b)).1>100)) q=none by unfold lQ flR;rw[hbad,decide_eq_false hbig,hs];rfl];rfl
     | true=>
      refine qf ?_;refine qC (f333 (stS q) ((aM _).1 hs)) ?_
      cases he:bN (bG (stS q)) b with
      | false=>refine qT (show(!bN (bG (stS q)) b)=true by rw[he];rfl) ?_;rw[show lQ b (decide ((aI (rs0 b)).1>100)) q=none by unfold lQ flR;rw[hbad,decide_eq_false hbig,hs,he];rfl];rfl
      | true=>refine qF (show(!bN (bG (stS q)) b)=false by rw[he];rfl) ?_;rw[show lQ b (decide ((aI (rs0 b)).1>100)) q=some (stS q) by unfold lQ flR;rw[hbad,decide_eq_false hbig,hs,he];rfl];rfl
 have run0:It (λaA (_:Unit)=>c268_5 (aL p n) aA b ((((aI (rs0 b)).1,()),()),((aI (rs0 b)).2,()))) ((0:Int),(aI (rs0 b)).2.1,(aI (rs0 b)).2.2.1,(aI (rs0 b)).2.2.2.1,([]:List bI)) (λ_=>some (mO (fV b))):=by
  by_cases hbig:(aI (rs0 b)).1>100
  ·have e:fV b=lQ b (decide ((aI (rs0 b)).1>100)) ([],(aI (rs0 b)).2):=by unfold fV ssI;rw[decide_eq_true hbig];rfl
   rw[e]
   have key:∀ q:RdT,RdOk q->It (λaA (_:Unit)=>c268_5 (aL p n) aA b ((((aI (rs0 b)).1,()),()),((aI (rs0 b)).2,()))) ((0:Int),q.1,q.2.1,q.2.2.1,([]:List bI)) (λ_=>some (mO (lQ b (decide ((aI (rs0 b)).1>100)) ([],q)))):=by
    rintro ⟨qb,qa,qd,qu⟩ hq
    refine It.stopE (T:=λaA _=>iter (c268_21 (aL p n) aA b ((((aI (rs0 b)).1,()),()),((aI (rs0 b)).2,())) ((((cK (qb,qa,qd,qu) 2).1,()),()),((cK (qb,qa,qd,qu) 2).2,())) []) aA ((0:Int),([]:List aK))) (λaA u rec=>?_) (tail ([],(qb,qa,qd,qu)) hq (Nat.zero_le _)).all_i
    unfold c268_5;dsimp only;refine qP (show(0:Int)<(aI (rs0 b)).1 by omega) ?_
    cases qd with
    | true=>refine qf ?_;refine qR (f267 (qb,qa,true,qu) 2 2 rfl hq (by omega)) ?_;rfl
    | false=>refine qt ?_;refine qN (show ¬ ((aI (rs0 b)).1<=100) by omega) ?_;refine qR (f267 (qb,qa,false,qu) 2 2 rfl hq (by omega)) ?_;rfl
   exact key _ rN
  ·have hbd:decide ((aI (rs0 b)).1>100)=false:=decide_eq_false hbig
   have lp:∀ (k i:Nat) (acc:List bI) (q:RdT),RdOk q->q.1=b->i+k=(aI (rs0 b)).1.toNat->acc.length=i->
     It (λaA (_:Unit)=>c268_5 (aL p n) aA b ((((aI (rs0 b)).1,()),()),((aI (rs0 b)).2,()))) ((i:Int),q.1,q.2.1,q.2.2.1,acc) (λ_=>some (mO ((iA q k).bind λw=>lQ b (decide ((aI (rs0 b)).1>100)) (acc++w.1,w.2)))):=by
    intro k
    induction k with
    | zero=>
     intro i acc q hq hqb hi ha
     show It _ _ (λ_=>some (mO (lQ b (decide ((aI (rs0 b)).1>100)) (acc++[],q))))
     rw[List.append_nil]
     refine It.stopE (T:=λaA _=>iter (c268_21 (aL p n) aA b ((((aI (rs0 b)).1,()),()),((aI (rs0 b)).2,())) ((((cK q 2).1,()),()),((cK q 2).2,())) acc) aA ((0:Int),([]:List aK))) (λaA u rec=>?_) (tail (acc,q) hq (by show acc.length<=100;omega)).all_i
     unfold c268_5;dsimp only;refine qN (show ¬ ((i:Int)<(aI (rs0 b)).1) by omega) ?_;refine qR (f267 q 2 2 rfl hq (by omega)) ?_;rfl
    | succ k ih=>
     intro i acc q hq hqb hi ha
     have hlt:(i:Int)<(aI (rs0 b)).1:=by omega
     obtain⟨qb,qa,qd,qu⟩:=q
     cases qd with
     | true=>
      show It _ _ (λ_=>some (mO (lQ b (decide ((aI (rs0 b)).1>100)) (acc++[],(qb,qa,true,qu)))))
      rw[List.append_nil]
      refine It.stopE (T:=λaA _=>iter (c268_21 (aL p n) aA b ((((aI (rs0 b)).1,()),()),((aI (rs0 b)).2,())) ((((cK (qb,qa,true,qu) 2).1,()),()),((cK (qb,qa,true,qu) 2).2,())) acc) aA ((0:Int),([]:List aK))) (λaA u rec=>?_) (tail (acc,(qb,qa,true,qu)) hq (by show acc.length<=100;omega)).all_i
      unfold c268_5;dsimp only;refine qP hlt ?_;refine qf ?_;refine qR (f267 (qb,qa,true,qu) 2 2 rfl hq (by omega)) ?_;rfl
     | false=>
      have hbk:acc.length+1<=bound:=by unfold bound;omega
      have head:∀ aA rec,c268_5 (aL p n) aA b ((((aI (rs0 b)).1,()),()),((aI (rs0 b)).2,())) rec ((i:Int),qb,qa,false,acc)=(((aL p n) 336 [vf K22 (b,()), vf K3 ((rdK (qb,qa,false,qu) 5).2.1,())]).bind (cS [K9,K3,K4] [])).bind λo7=>(bif(rdK (qb,qa,false,qu) 5).2.2.1 then some (mO none)else bif !(vB o7.1.2.2.1.1)then some (mO none)else bif decide (acc.length+1<=bound)then rec (((i+1:Nat):Int),(rdK (qb,qa,false,qu) 5).1,(vI o7.1.2.1.1),(rdK (qb,qa,false,qu) 5).2.2.1,acc++[(rdV (qb,qa,false,qu) 0,rdV (qb,qa,false,qu) 1,rdV (qb,qa,false,qu) 2,rdV (qb,qa,false,qu) 3,rdV (qb,qa,false,qu) 4,(vS o7.1.1.1),())])else none):=by
       intro aA rec
       unfold c268_5;dsimp only;rw[aF (show i<9223372036854775807 by omega)];refine qP hlt ?_;refine qt ?_;refine qP (show(aI (rs0 b)).1<=100 by omega) ?_;refine qR (f266 (rdK (qb,qa,false,qu) 0) (hq.k 0)) ?_;refine qR (f266 (rdK (qb,qa,false,qu) 1) (hq.k 1)) ?_;refine qR (f266 (rdK (qb,qa,false,qu) 2) (hq.k 2)) ?_;refine qR (f266 (rdK (qb,qa,false,qu) 3) (hq.k 3)) ?_;refine qR (f266 (rdK (qb,qa,false,qu) 4) (hq.k 4)) ?_
       rfl
      have el:(rdK (qb,qa,false,qu) 5).1=b:=(uA (qb,qa,false,qu) 5).trans hqb
      have hg:=f336 b (rdK (qb,qa,false,qu) 5).2.1 hb hl
      have e2:iA (qb,qa,false,qu) (k+1)=bif(cP (qb,qa,false,qu)).2.2.2.1 then none else(iA (cP (qb,qa,false,qu)).2 k).map λw=>((cP (qb,qa,false,qu)).1::w.1,w.2):=rfl
      cases hd:(rdK (qb,qa,false,qu) 5).2.2.1 with
      | true=>
       have e3:(cP (qb,qa,false,qu)).2.2.2.1=true:=by unfold cP kY;rw[hd];rfl
       rw[e2,e3]
       refine It.stop λaA u rec=>(head aA rec).trans ?_
       rw[hd]
       cases ht:tH b (rdK (qb,qa,false,qu) 5).2.1 with
       | none=>rw[ht] at hg;refine qE hg ?_;rfl
       | some w=>obtain⟨s,j⟩:=w;rw[ht] at hg;refine qE hg ?_;rfl
      | false=>
       cases ht:tH b (rdK (qb,qa,false,qu) 5).2.1 with
       | none=>
        have e3:(cP (qb,qa,false,qu)).2.2.2.1=true:=by unfold cP kY;rw[hd,el,ht];rfl
        rw[e2,e3]
        refine It.stop λaA u rec=>(head aA rec).trans ?_
        rw[hd];rw[ht] at hg;refine qE hg ?_;rfl
       | some w=>
        obtain⟨s,j⟩:=w
        have e4:kY (rdK (qb,qa,false,qu) 5)=(s,((rdK (qb,qa,false,qu) 5).1,(j:Int),false,())):=by
         unfold kY;rw[hd,el,ht];rfl
        have e3:cP (qb,qa,false,qu)=((rdV (qb,qa,false,qu) 0,rdV (qb,qa,false,qu) 1,rdV (qb,qa,false,qu) 2,rdV (qb,qa,false,qu) 3,rdV (qb,qa,false,qu) 4,s,()),((rdK (qb,qa,false,qu) 5).1,(j:Int),false,())):=by unfold cP;rw[e4]
        have ih':=ih (i+1) (acc++[(cP (qb,qa,false,qu)).1]) (cP (qb,qa,false,qu)).2 hq.item ((HG (qb,qa,false,qu)).trans hqb) (by omega) (by rw[List.length_append,ha];rfl)
        have e5:((iA (qb,qa,false,qu) (k+1)).bind λw=>lQ b (decide ((aI (rs0 b)).1>100)) (acc++w.1,w.2))=((iA (cP (qb,qa,false,qu)).2 k).bind λw=>lQ b (decide ((aI (rs0 b)).1>100)) (acc++[(cP (qb,qa,false,qu)).1]++w.1,w.2)):=by
         rw[e2,show(cP (qb,qa,false,qu)).2.2.2.1=false by rw[e3]]
         show((iA (cP (qb,qa,false,qu)).2 k).map λw=>((cP (qb,qa,false,qu)).1::w.1,w.2)).bind _=_
         cases iA (cP (qb,qa,false,qu)).2 k with
         | none=>rfl
         | some w=>show lQ b _ (acc++((cP (qb,qa,false,qu)).1::w.1),w.2)=lQ b _ (acc++[(cP (qb,qa,false,qu)).1]++w.1,w.2);rw[List.append_assoc];rfl
        rw[e5]
        refine It.next (λaA u rec=>(head aA rec).trans ?_) ih'
        rw[hd];rw[ht] at hg;refine qE hg ?_;refine qf ?_;refine qf ?_;refine qP hbk ?_;rw[e3]
   have lp0:=lp (aI (rs0 b)).1.toNat 0 [] (aI (rs0 b)).2 rN (fP _) (by omega) rfl
   have e:fV b=((iA (aI (rs0 b)).2 (aI (rs0 b)).1.toNat).bind λw=>lQ b (decide ((aI (rs0 b)).1>100)) ([]++w.1,w.2)):=by
    unfold fV ssI;rw[hbd]
    show(match iA (aI (rs0 b)).2 (aI (rs0 b)).1.toNat with | none=>none | some q=>lQ b false q)=_
    cases iA (aI (rs0 b)).2 (aI (rs0 b)).1.toNat<;>rfl
   rw[e];exact lp0
 exact Ev.eq (λaA=>by unfold T268;refine qR (f266 (rs0 b) r0) ?_;rfl) (run0.ev (i:=()) rfl)
end Go.Abs.Xz
