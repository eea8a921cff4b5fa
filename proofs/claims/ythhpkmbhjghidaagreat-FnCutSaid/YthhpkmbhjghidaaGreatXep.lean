/- What the functions of this program answer, part ep. -/
import Derived.Test.YthhpkmbhjghidaaGreatW3
import Derived.Test.YthhpkmbhjghidaaGreatXa
import Derived.Test.YthhpkmbhjghidaaGreatW2
set_option linter.unusedVariables false
open Go.IntKind (i64)
namespace Go.Abs.Uz
open Go Go.Abs
theorem f85(x lo hi:Int):Ran p 1 85 [vf K3 (x,()), vf K3 (lo,()), vf K3 (hi,())] (rO K4 (inB x lo hi,())):=go85 λn hn=>Ev.now λaA=>by
 unfold T85;exact fC λ_=>rfl
theorem f47(x lo hi:Int):Ran p 1 47 [vf K3 (x,()), vf K3 (lo,()), vf K3 (hi,())] (rO K4 (inB x lo hi,())):=go47 λn hn=>Ev.now λaA=>by
 unfold T47;exact fC λ_=>rfl
theorem f146(x:Int):Ran p 2 146 [vf K3 (x,())] (rO K4 (eF x,())):=go146 λn hn=>Ev.now λaA=>by
 unfold T146;refine qC (f85 x 0 4) ?_;rfl
theorem f93(x:Int):Ran p 2 93 [vf K3 (x,())] (rO K4 (eF x,())):=go93 λn hn=>Ev.now λaA=>by
 unfold T93;refine qC (f47 x 0 4) ?_;rfl
theorem f163(e:bA):Ran p 2 163 [va K83 e] (rO K4 (eA e,())):=go163 λn hn=>Ev.now λaA=>by
 unfold T163 eA;refine qC (f85 e.1 1 1000) ?_;refine fC λ_=>?_;refine qC (f85 e.2.1 0 1) ?_;refine fC λ_=>?_;refine qC (f85 e.2.2.1 0 100000) ?_;refine fC λ_=>?_;refine qC (f85 e.2.2.2.1 0 1000) ?_;refine fC λ_=>?_;rfl
theorem f109(e:bA):Ran p 2 109 [va K83 e] (rO K4 (eA e,())):=go109 λn hn=>Ev.now λaA=>by
 unfold T109 eA;refine qC (f47 e.1 1 1000) ?_;refine fC λ_=>?_;refine qC (f47 e.2.1 0 1) ?_;refine fC λ_=>?_;refine qC (f47 e.2.2.1 0 100000) ?_;refine fC λ_=>?_;refine qC (f47 e.2.2.2.1 0 1000) ?_;refine fC λ_=>?_;rfl
theorem A4 {c:Nat->Unit->(Int->Option Out)->Int->Option Out} (fs:List aO) (id:Int)
  (h:∀ i,i<fs.length->∀ aA a rec,c aA a rec (i:Int)=bif(gt fs i).1==id then oI (gt fs i).2.1 else rec ((i+1:Nat):Int))
  (hn:∀ aA a rec,c aA a rec (fs.length:Int)=oI 0):It c (0:Int) (λ_=>oI (cK fs id)):=by
 have:=It.first (c:=c) (λi=>(i:Int)) fs.length (λi=>(gt fs i).1==id) (λi _=>oI (gt fs i).2.1) (λ_=>oI 0)
  (λi hi hp aA a rec=>by rw[h i hi];rw[hp];rfl) (λi hi hp=>It.stop λaA a rec=>by rw[h i hi];rw[hp];rfl) (It.stop hn)
 unfold cK
 revert this
 cases (List.range fs.length).find? (λi=>(gt fs i).1==id)<;>exact λh=>h
theorem f164(s:aE)(id:Int)(hl:s.2.1.length<=maxLen):Ran p 1 164 [va K43 s, vf K3 (id,())] (rO K3 (cK s.2.1 id,())):=go164 λn hn=>by
 refine Ev.eq (λaA=>by unfold T164;rfl) (It.ev (c:=λaA (_:Unit)=>c164_2 (aI p n) aA s id) (i:=()) (A4 s.2.1 id (λi hi aA a rec=>?_) (λaA a rec=>?_)) rfl)
 ·have hb:i<9223372036854775807:=Nat.lt_of_lt_of_le hi hl
  unfold c164_2;rw[aF hb];refine ql hi ?_;refine qz ?_;refine(aD hi).trans ?_
  refine congrArg (λx=>bif(gt s.2.1 i).1==id then x else rec ((i+1:Nat):Int)) ?_
  refine qz ?_;refine(aD hi).trans ?_;rfl
 ·unfold c164_2;refine qe ?_;rfl
theorem f110(s:aE)(id:Int)(hl:s.2.1.length<=maxLen):Ran p 1 110 [va K43 s, vf K3 (id,())] (rO K3 (cK s.2.1 id,())):=go110 λn hn=>by
 refine Ev.eq (λaA=>by unfold T110;rfl) (It.ev (c:=λaA (_:Unit)=>c110_2 (aI p n) aA s id) (i:=()) (A4 s.2.1 id (λi hi aA a rec=>?_) (λaA a rec=>?_)) rfl)
 ·have hb:i<9223372036854775807:=Nat.lt_of_lt_of_le hi hl
  unfold c110_2;rw[aF hb];refine ql hi ?_;refine qz ?_;refine(aD hi).trans ?_;rfl
 ·unfold c110_2;refine qe ?_;rfl
theorem f87(s:aE)(h1:s.1.length<=maxLen)(h2:s.2.1.length<=maxLen):Ran p 3 87 [va K43 s] (rO K4 (aL s,())):=go87 λn hn=>by
 have inner:It (λaA (_:Unit)=>c87_8 (aI p n) aA s) (0:Int) (λ_=>oB (bJ s.2.1.length (fL s.2.1))):=by
  refine cH (It.allB s.2.1.length (fL s.2.1) true (λi hi aA a rec=>?_) (It.stop λaA a rec=>?_))
  ·have hb:i<9223372036854775807:=Nat.lt_of_lt_of_le hi h2
   unfold c87_8 fL;rw[aF hb];refine ql hi ?_;refine qz ?_;refine(aD hi).trans ?_;refine qC (f146 (gt s.2.1 i).1) ?_;refine chk λ_=>?_
   cases i with
   | zero=>refine qN (by decide) ?_;refine qC (f85 (gt s.2.1 0).2.1 1 1000) ?_;exact fin
   | succ j=>
    refine qP (by omega) ?_;rw[jB hb (by omega)];refine qz ?_;refine(aD (show j<s.2.1.length by omega)).trans ?_;refine QO λ_=>?_
    refine qC (f85 (gt s.2.1 (j+1)).2.1 1 1000) ?_;exact fin
  ·unfold c87_8;refine qe ?_;rfl
 have outer:It (λaA (_:Unit)=>c87_2 (aI p n) aA s) (0:Int) (λ_=>oB (aL s)):=by
  refine It.allB s.1.length (pJ s) _ (λi hi aA a rec=>?_) (It.stopE (T:=λaA _=>iter (c87_8 (aI p n) aA s) aA (0:Int)) (λaA a rec=>?_) inner.all_i)
  ·have hb:i<9223372036854775807:=Nat.lt_of_lt_of_le hi h1
   unfold c87_2 pJ;rw[aF hb];refine ql hi ?_;refine qz ?_;refine(aD hi).trans ?_;refine qC (f146 (gt s.1 i).1) ?_;refine chk λ_=>?_
   cases i with
   | zero=>refine qN (by decide) ?_;refine qC (f163 (gt s.1 0).2) ?_;refine chk λ_=>?_;refine qC (f164 s (gt s.1 0).1 h2) ?_;exact EM
   | succ j=>
    refine qP (by omega) ?_;rw[jB hb (by omega)];refine qz ?_;refine(aD (show j<s.1.length by omega)).trans ?_;refine QO λ_=>?_
    refine qC (f163 (gt s.1 (j+1)).2) ?_;refine chk λ_=>?_;refine qC (f164 s (gt s.1 (j+1)).1 h2) ?_;exact EM
  ·unfold c87_2;refine qe ?_;rfl
 exact Ev.eq (λaA=>by unfold T87;rfl) (outer.ev (i:=()) rfl)
theorem f49(s:aE)(h1:s.1.length<=maxLen)(h2:s.2.1.length<=maxLen):Ran p 3 49 [va K43 s] (rO K4 (aL s,())):=go49 λn hn=>by
 have inner:It (λaA (_:Unit)=>c49_8 (aI p n) aA s) (0:Int) (λ_=>oB (bJ s.1.length (pK s))):=by
  refine cH (It.allB s.1.length (pK s) true (λi hi aA a rec=>?_) (It.stop λaA a rec=>?_))
  ·have hb:i<9223372036854775807:=Nat.lt_of_lt_of_le hi h1
   unfold c49_8 pK;rw[aF hb];refine ql hi ?_;refine qz ?_;refine(aD hi).trans ?_;refine qC (f93 (gt s.1 i).1) ?_;refine chk λ_=>?_;refine qC (f109 (gt s.1 i).2) ?_;refine chk λ_=>?_;refine qC (f110 s (gt s.1 i).1 h2) ?_;refine QO λ_=>?_
   cases i with
   | zero=>refine qN (by decide) ?_;rfl
   | succ j=>refine qP (by omega) ?_;rw[jB hb (by omega)];refine qz ?_;refine(aD (show j<s.1.length by omega)).trans ?_;exact EM
  ·unfold c49_8;refine qe ?_;rfl
 have outer:It (λaA (_:Unit)=>c49_2 (aI p n) aA s) (0:Int) (λ_=>oB (bJ s.2.1.length (iU s.2.1)&&bJ s.1.length (pK s))):=by
  refine It.allB s.2.1.length (iU s.2.1) _ (λi hi aA a rec=>?_) (It.stopE (T:=λaA _=>iter (c49_8 (aI p n) aA s) aA (0:Int)) (λaA a rec=>?_) inner.all_i)
  ·have hb:i<9223372036854775807:=Nat.lt_of_lt_of_le hi h2
   unfold c49_2 iU;rw[aF hb];refine ql hi ?_;refine qz ?_;refine(aD hi).trans ?_;refine qC (f93 (gt s.2.1 i).1) ?_;refine chk λ_=>?_;refine qC (f47 (gt s.2.1 i).2.1 1 1000) ?_;refine chk λ_=>?_
   cases i with
   | zero=>refine qN (by decide) ?_;rfl
   | succ j=>refine qP (by omega) ?_;rw[jB hb (by omega)];refine qz ?_;refine(aD (show j<s.2.1.length by omega)).trans ?_;exact EM
  ·unfold c49_2;refine qe ?_;rfl
 rw[LE] at outer
 exact Ev.eq (λaA=>by unfold T49;rfl) (outer.ev (i:=()) rfl)
end Go.Abs.Uz
set_option maxHeartbeats 2000000
namespace Go.Abs.Uz
open Go Go.Abs
def tH:Option (Nat×Nat)->Out
 | none=>⟨[⟨K3,((0:Int),())⟩,⟨K3,((0:Int),())⟩,⟨K4,(false,())⟩],[]⟩
 | some (x,j)=>⟨[⟨K3,((x:Int),())⟩,⟨K3,((j:Int),())⟩,⟨K4,(true,())⟩],[]⟩
theorem f90(b:List aH)(i:Int)(hb:B8 b)(hl:b.length<=aP):Ran p 1 90 [vf K22 (b,()), vf K3 (i,())] (tH (p0 b i)):=go90 λn hn=>by
 unfold p0
 by_cases h0:i<0
 ·exact Ev.now λaA=>by unfold T90;refine qP h0 ?_;rw[decide_eq_true h0];rfl
 obtain⟨j,rfl⟩:∃ j:Nat,i=(j:Int):=⟨i.toNat,by omega⟩
 rw[decide_eq_false h0,Int.toNat_natCast]
 show Ev _ (tH (qY b j))
 by_cases h1:((j:Int)>=(b.length:Int))
 ·have e:qY b j=none:=by unfold qY tN;rw[if_neg (by omega)]
  rw[e]
  exact Ev.now λaA=>by unfold T90;refine qN h0 ?_;refine qP h1 ?_;rfl
 have hs:b.length<=9223372036854775000:=Nat.le_trans hl (by decide)
 have lp:∀ (m k acc:Nat),k+m=5->acc<128 ^ k->It (λaA (_:Unit)=>c90_5 (aI p n) aA b (j:Int)) ((acc:Int),(k:Int)) (λ_=>some (tH (tN b j m k acc))):=by
  intro m
  induction m with
  | zero=>
   intro k acc hk ha
   refine It.stop λaA u rec=>?_
   unfold c90_5;dsimp only;refine qN (show ¬ ((k:Int)<5) by omega) ?_;rfl
  | succ m ih=>
   intro k acc hk ha
   have k5:k<5:=by omega
   have hp:=UC k5
   have e1:i64.wrap ((j:Int)+(k:Int))=((j+k:Nat):Int):=by rw[IntKind.wrap_i64];omega
   unfold tN
   by_cases hin:j+k<b.length
   ·obtain⟨y,hy,hy2⟩:=hb (j+k) hin
    rw[if_pos hin,hy,Int.toNat_natCast]
    have e2:i64.wrap ((y:Int))=(y:Int):=by rw[IntKind.wrap_i64];omega
    have e3:uM i64 (((y % 128:Nat):Int)) (i64.wrap ((7:Int)*(k:Int)))=((y % 128*128 ^ k:Nat):Int):=JV (Nat.mod_lt _ (by omega)) k5
    have hm:y % 128*128 ^ k<=127*268435456:=Nat.mul_le_mul (by have:=Nat.mod_lt y (show 0<128 by omega);omega) hp
    have e4:i64.wrap ((acc:Int)+((y % 128*128 ^ k:Nat):Int))=((acc+y % 128*128 ^ k:Nat):Int):=by rw[IntKind.wrap_i64];omega
    have e5:¬ (i64.wrap ((7:Int)*(k:Int))<0):=by rw[M9 k5];omega
    have e6:i64.wrap ((k:Int)+1)=((k+1:Nat):Int):=by rw[IntKind.wrap_i64];omega
    have e7:i64.wrap (((j+k:Nat):Int)+1)=((j+k+1:Nat):Int):=by rw[IntKind.wrap_i64];omega
    by_cases h128:128<=y
    ·rw[if_pos h128]
     refine It.next (y:=(((acc+y % 128*128 ^ k:Nat):Int),((k+1:Nat):Int))) (λaA u rec=>?_) (ih (k+1) _ (by omega) (Q3 ha))
     unfold c90_5;dsimp only;refine qP (show(k:Int)<5 by omega) ?_;rw[e1];refine ql hin ?_;refine qz ?_;refine(aD hin).trans ?_;rw[show vI (gt b (j+k)).1=(y:Int)from hy,e2,uF,e3,e4,e6]
     refine qN (by decide) ?_;refine qN e5 ?_;refine qP (show(y:Int)>=128 by omega) ?_;rfl
    ·have ey:y % 128=y:=Nat.mod_eq_of_lt (by omega)
     rw[if_neg h128]
     refine It.stop λaA u rec=>?_
     unfold c90_5;dsimp only;refine qP (show(k:Int)<5 by omega) ?_;rw[e1];refine ql hin ?_;refine qz ?_;refine(aD hin).trans ?_;rw[show vI (gt b (j+k)).1=(y:Int)from hy,e2,uF,e3,e4,e7]
     refine qN (by decide) ?_;refine qN e5 ?_;refine qN (show ¬ ((y:Int)>=128) by omega) ?_
     rw[ey]
     by_cases hk0:0<k
     ·refine qP (show(k:Int)>0 by omega) ?_
      by_cases hy0:y=0
      ·rw[if_pos ⟨hk0,hy0⟩];refine qT (show((y:Int)==0)=true by rw[hy0];rfl) ?_;rfl
      ·rw[if_neg (by omega)];refine qF (show((y:Int)==0)=false by simp;omega) ?_
       by_cases hbig:acc+y*128 ^ k>2147483647
       ·rw[if_pos hbig];refine qP (show((acc+y*128 ^ k:Nat):Int)>2147483647 by omega) ?_;rfl
       ·rw[if_neg hbig];refine qN (show ¬ (((acc+y*128 ^ k:Nat):Int)>2147483647) by omega) ?_;rfl
     ·rw[if_neg (by omega)];refine qN (show ¬ ((k:Int)>0) by omega) ?_
      by_cases hbig:acc+y*128 ^ k>2147483647
      ·rw[if_pos hbig];refine qP (show((acc+y*128 ^ k:Nat):Int)>2147483647 by omega) ?_;rfl
      ·rw[if_neg hbig];refine qN (show ¬ (((acc+y*128 ^ k:Nat):Int)>2147483647) by omega) ?_;rfl
   ·rw[if_neg hin]
    refine It.stop λaA u rec=>?_
    unfold c90_5;dsimp only;refine qP (show(k:Int)<5 by omega) ?_;rw[e1];refine qN (show ¬ (((j+k:Nat):Int)<(b.length:Int)) by omega) ?_;rfl
 exact Ev.eq (λaA=>by unfold T90;refine qN h0 ?_;refine qN h1 ?_;rfl) ((lp 5 0 0 rfl (by decide)).ev (i:=()) rfl)
theorem f143(b:List aH)(i:Int)(hb:B8 b)(hl:b.length<=aP):Ran p 1 143 [vf K22 (b,()), vf K3 (i,())] (tH (p0 b i)):=go143 λn hn=>by
 unfold p0
 have hs:b.length<=9223372036854775000:=Nat.le_trans hl (by decide)
 by_cases h0:i<0
 ·rw[decide_eq_true h0]
  have lp:It (λaA (_:Unit)=>c143_3 (aI p n) aA b i) ((0:Int),(0:Int)) (λ_=>some (tH none)):=It.stop λaA u rec=>by
   unfold c143_3;dsimp only;refine qP (show(0:Int)<5 by omega) ?_;refine qP h0 ?_;rfl
  exact Ev.eq (λaA=>by unfold T143;rfl) (lp.ev (i:=()) rfl)
 obtain⟨j,rfl⟩:∃ j:Nat,i=(j:Int):=⟨i.toNat,by omega⟩
 rw[decide_eq_false h0,Int.toNat_natCast]
 show Ev _ (tH (qY b j))
 have lp:∀ (m k acc:Nat),k+m=5->acc<128 ^ k->It (λaA (_:Unit)=>c143_3 (aI p n) aA b (j:Int)) ((acc:Int),(k:Int)) (λ_=>some (tH (tN b j m k acc))):=by
  intro m
  induction m with
  | zero=>
   intro k acc hk ha
   refine It.stop λaA u rec=>?_
   unfold c143_3;dsimp only;refine qN (show ¬ ((k:Int)<5) by omega) ?_;rfl
  | succ m ih=>
   intro k acc hk ha
   have k5:k<5:=by omega
   have hp:=UC k5
   have e0:i64.wrap ((b.length:Int) - (k:Int))=(b.length:Int) - (k:Int):=by rw[IntKind.wrap_i64];omega
   unfold tN
   by_cases hin:j+k<b.length
   ·have e1:i64.wrap ((j:Int)+(k:Int))=((j+k:Nat):Int):=by rw[IntKind.wrap_i64];omega
    obtain⟨y,hy,hy2⟩:=hb (j+k) hin
    rw[if_pos hin,hy,Int.toNat_natCast]
    have e2:i64.wrap ((y:Int))=(y:Int):=by rw[IntKind.wrap_i64];omega
    have e3:uM i64 (((y % 128:Nat):Int)) (i64.wrap ((7:Int)*(k:Int)))=((y % 128*128 ^ k:Nat):Int):=JV (Nat.mod_lt _ (by omega)) k5
    have e4:orI i64 (acc:Int) ((y % 128*128 ^ k:Nat):Int)=((acc+y % 128*128 ^ k:Nat):Int):=UF ha (Nat.mod_lt _ (by omega)) k5
    have e5:¬ (i64.wrap ((7:Int)*(k:Int))<0):=by rw[M9 k5];omega
    have e6:i64.wrap ((k:Int)+1)=((k+1:Nat):Int):=by rw[IntKind.wrap_i64];omega
    have e7:i64.wrap (((j+k:Nat):Int)+1)=((j+k+1:Nat):Int):=by rw[IntKind.wrap_i64];omega
    by_cases h128:128<=y
    ·rw[if_pos h128]
     refine It.next (y:=(((acc+y % 128*128 ^ k:Nat):Int),((k+1:Nat):Int))) (λaA u rec=>?_) (ih (k+1) _ (by omega) (Q3 ha))
     unfold c143_3;dsimp only;refine qP (show(k:Int)<5 by omega) ?_;refine qN h0 ?_;refine qN (show ¬ ((j:Int)>=i64.wrap ((b.length:Int) - (k:Int))) by rw[e0];omega) ?_;rw[e1];refine qz ?_;refine(aD hin).trans ?_;rw[show vI (gt b (j+k)).1=(y:Int)from hy,e2,uF,e3,e4,e6]
     refine qN (by decide) ?_;refine qN e5 ?_;refine qN (show ¬ ((y:Int)<128) by omega) ?_;rfl
    ·have ey:y % 128=y:=Nat.mod_eq_of_lt (by omega)
     rw[if_neg h128]
     refine It.stop λaA u rec=>?_
     unfold c143_3;dsimp only;refine qP (show(k:Int)<5 by omega) ?_;refine qN h0 ?_;refine qN (show ¬ ((j:Int)>=i64.wrap ((b.length:Int) - (k:Int))) by rw[e0];omega) ?_;rw[e1];refine qz ?_;refine(aD hin).trans ?_;rw[show vI (gt b (j+k)).1=(y:Int)from hy,e2,uF,e3,e4,e7]
     refine qN (by decide) ?_;refine qN e5 ?_;refine qP (show(y:Int)<128 by omega) ?_
     rw[ey]
     by_cases hk0:0<k
     ·refine qP (show(k:Int)>0 by omega) ?_
      by_cases hy0:y=0
      ·rw[if_pos ⟨hk0,hy0⟩];refine qT (show((y:Int)==0)=true by rw[hy0];rfl) ?_;rfl
      ·rw[if_neg (by omega)];refine qF (show((y:Int)==0)=false by simp;omega) ?_
       by_cases hbig:acc+y*128 ^ k>2147483647
       ·rw[if_pos hbig];refine qP (show((acc+y*128 ^ k:Nat):Int)>2147483647 by omega) ?_;rfl
       ·rw[if_neg hbig];refine qN (show ¬ (((acc+y*128 ^ k:Nat):Int)>2147483647) by omega) ?_;rfl
     ·rw[if_neg (by omega)];refine qN (show ¬ ((k:Int)>0) by omega) ?_
      by_cases hbig:acc+y*128 ^ k>2147483647
      ·rw[if_pos hbig];refine qP (show((acc+y*128 ^ k:Nat):Int)>2147483647 by omega) ?_;rfl
      ·rw[if_neg hbig];refine qN (show ¬ (((acc+y*128 ^ k:Nat):Int)>2147483647) by omega) ?_;rfl
   ·rw[if_neg hin]
    refine It.stop λaA u rec=>?_
    unfold c143_3;dsimp only;refine qP (show(k:Int)<5 by omega) ?_;refine qN h0 ?_;refine qP (show((j:Int)>=i64.wrap ((b.length:Int) - (k:Int))) by rw[e0];omega) ?_;rfl
 exact Ev.eq (λaA=>by unfold T143;rfl) ((lp 5 0 0 rfl (by decide)).ev (i:=()) rfl)
end Go.Abs.Uz
set_option maxHeartbeats 2000000
namespace Go.Abs.Uz
open Go Go.Abs
-- a number read off a reader: (the number, the reader behind it)
theorem f40(r:RdT)(h:RdOk r):Ran p 2 40 [.ref ⟨K89,r⟩] ⟨[⟨K3,((aK r).1,())⟩],[⟨K89,(aK r).2⟩]⟩:=go40 λn hn=>Ev.now λaA=>by
 have hg:=f90 r.1 r.2.1 h.b8 h.len
 unfold T40 aK
 cases e:p0 r.1 r.2.1 with
 | none=>
  rw[e] at hg
  refine qE hg ?_
  obtain⟨r1,r2,r3,ru⟩:=r;cases r3 with
  | true=>rfl
  | false=>refine qf ?_;rfl
 | some q=>
  obtain⟨x,j⟩:=q
  rw[e] at hg
  refine qE hg ?_
  obtain⟨r1,r2,r3,ru⟩:=r;cases r3 with
  | true=>rfl
  | false=>refine qf ?_;rfl
theorem f75(r:RdT)(h:RdOk r):Ran p 2 75 [.ref ⟨K130,r⟩] ⟨[⟨K3,((aK r).1,())⟩],[⟨K130,(aK r).2⟩]⟩:=go75 λn hn=>Ev.now λaA=>by
 have hg:=f143 r.1 r.2.1 h.b8 h.len
 unfold T75 aK
 cases e:p0 r.1 r.2.1 with
 | none=>
  rw[e] at hg
  refine qE hg ?_
  obtain⟨r1,r2,r3,ru⟩:=r;cases r3 with
  | true=>rfl
  | false=>refine qf ?_;rfl
 | some q=>
  obtain⟨x,j⟩:=q
  rw[e] at hg
  refine qE hg ?_
  obtain⟨r1,r2,r3,ru⟩:=r;cases r3 with
  | true=>rfl
  | false=>refine qf ?_;rfl
end Go.Abs.Uz
set_option maxHeartbeats 2000000
namespace Go.Abs.Uz
open Go Go.Abs
theorem f43(r:RdT)(m:Int)(h:RdOk r):Ran p 3 43 [.ref ⟨K89,r⟩, vf K3 (m,())] ⟨[⟨K3,((eE r m).1,())⟩],[⟨K89,(eE r m).2⟩]⟩:=go43 λn hn=>Ev.now λaA=>by
 unfold T43 eE;refine qR (f40 r h) ?_
 cases e:decide ((aK r).1>m)with
 | true=>rfl
 | false=>rfl
def vR:Option (ByteArray×Nat)->Out
 | none=>⟨[⟨K9,((⟨#[]⟩:ByteArray),())⟩,⟨K3,((0:Int),())⟩,⟨K4,(false,())⟩],[]⟩
 | some (s,j)=>⟨[⟨K9,(s,())⟩,⟨K3,((j:Int),())⟩,⟨K4,(true,())⟩],[]⟩
theorem f165(b:List aH)(i:Int)(hb:B8 b)(hl:b.length<=aP):Ran p 2 165 [vf K22 (b,()), vf K3 (i,())] (vR (uD b i)):=go165 λn hn=>Ev.now λaA=>by
 have hg:=f90 b i hb hl
 have hs:b.length<=9223372036854775000:=Nat.le_trans hl (by decide)
 unfold T165 uD
 cases e:p0 b i with
 | none=>
  rw[e] at hg
  refine qE hg ?_;rfl
 | some q=>
  obtain⟨x,j⟩:=q
  rw[e] at hg
  have hbd:=y9 e
  refine qE hg ?_;refine qf ?_
  have e1:i64.wrap ((b.length:Int) - (j:Int))=(b.length:Int) - (j:Int):=by rw[IntKind.wrap_i64];omega
  by_cases hx:x>b.length - j
  ·show _=some (vR (if x>b.length - j then none else some (cF ((b.take (j+x)).drop j),j+x)))
   rw[if_pos hx]
   refine qP (show((x:Int)>i64.wrap ((b.length:Int) - (j:Int))) by rw[e1];omega) ?_;rfl
  ·show _=some (vR (if x>b.length - j then none else some (cF ((b.take (j+x)).drop j),j+x)))
   rw[if_neg hx]
   have e2:i64.wrap ((j:Int)+(x:Int))=((j+x:Nat):Int):=by rw[IntKind.wrap_i64];omega
   refine qN (show ¬ ((x:Int)>i64.wrap ((b.length:Int) - (j:Int))) by rw[e1];omega) ?_
   rw[show i64.wrap (vI ((j:Int))+vI ((x:Int)))=((j+x:Nat):Int)from e2]
   refine qT (show(decide ((0:Int)<=((j+x:Nat):Int))&&decide (((j+x:Nat):Int)<=(b.length:Int)))=true by rw[decide_eq_true (by omega),decide_eq_true (by omega)];rfl) ?_
   refine qT (show(decide ((0:Int)<=(j:Int))&&decide ((j:Int)<=(((((j+x:Nat):Int)).toNat:Nat):Int)))=true by rw[decide_eq_true (by omega),decide_eq_true (by omega)];rfl) ?_
   rfl
theorem f144(b:List aH)(i:Int)(hb:B8 b)(hl:b.length<=aP):Ran p 2 144 [vf K22 (b,()), vf K3 (i,())] (vR (uD b i)):=go144 λn hn=>Ev.now λaA=>by
 have hg:=f143 b i hb hl
 have hs:b.length<=9223372036854775000:=Nat.le_trans hl (by decide)
 unfold T144 uD
 cases e:p0 b i with
 | none=>
  rw[e] at hg
  refine qE hg ?_;rfl
 | some q=>
  obtain⟨x,j⟩:=q
  rw[e] at hg
  have hbd:=y9 e
  refine qE hg ?_;refine qf ?_
  have e1:i64.wrap ((b.length:Int) - (j:Int))=(b.length:Int) - (j:Int):=by rw[IntKind.wrap_i64];omega
  by_cases hx:x>b.length - j
  ·show _=some (vR (if x>b.length - j then none else some (cF ((b.take (j+x)).drop j),j+x)))
   rw[if_pos hx]
   refine qP (show((x:Int)>i64.wrap ((b.length:Int) - (j:Int))) by rw[e1];omega) ?_;rfl
  ·show _=some (vR (if x>b.length - j then none else some (cF ((b.take (j+x)).drop j),j+x)))
   rw[if_neg hx]
   have e2:i64.wrap ((j:Int)+(x:Int))=((j+x:Nat):Int):=by rw[IntKind.wrap_i64];omega
   refine qN (show ¬ ((x:Int)>i64.wrap ((b.length:Int) - (j:Int))) by rw[e1];omega) ?_
   rw[show i64.wrap (vI ((j:Int))+vI ((x:Int)))=((j+x:Nat):Int)from e2]
   refine qT (show(decide ((0:Int)<=((j+x:Nat):Int))&&decide (((j+x:Nat):Int)<=(b.length:Int)))=true by rw[decide_eq_true (by omega),decide_eq_true (by omega)];rfl) ?_
   refine qT (show(decide ((0:Int)<=(j:Int))&&decide ((j:Int)<=(((((j+x:Nat):Int)).toNat:Nat):Int)))=true by rw[decide_eq_true (by omega),decide_eq_true (by omega)];rfl) ?_
   rfl
end Go.Abs.Uz
set_option maxHeartbeats 2000000
namespace Go.Abs.Uz
open Go Go.Abs
theorem f91(r:RdT)(h:RdOk r):Ran p 3 91 [.ref ⟨K89,r⟩] ⟨[⟨K9,((lZ r).1,())⟩],[⟨K89,(lZ r).2⟩]⟩:=go91 λn hn=>Ev.now λaA=>by
 have hg:=f165 r.1 r.2.1 h.b8 h.len
 unfold T91 lZ
 cases e:uD r.1 r.2.1 with
 | none=>
  rw[e] at hg
  refine qE hg ?_
  obtain⟨r1,r2,r3,ru⟩:=r;cases r3 with
  | true=>rfl
  | false=>refine qf ?_;rfl
 | some q=>
  obtain⟨x,j⟩:=q
  rw[e] at hg
  refine qE hg ?_
  obtain⟨r1,r2,r3,ru⟩:=r;cases r3 with
  | true=>rfl
  | false=>refine qf ?_;rfl
-- several numbers
def R3(k:Nat)(q:List aH×RdT):Int×List aH×List aH×Int×Bool:=((k:Int),q.1,q.2.1,q.2.2.1,q.2.2.2.1)
theorem f41(r:RdT)(m:Int)(h:RdOk r)(hm:0<=m/\m<=1000):Ran p 4 41 [.ref ⟨K89,r⟩, vf K3 (m,())] ⟨[⟨K29,((kW r m).1,())⟩],[⟨K89,(kW r m).2⟩]⟩:=go41 λn hn=>by
 have hc:=qO r hm.1
 have hk:=h.cnt m
 have lp:It (λaA (_:Unit)=>c41_4 (aI p n) aA ((((eE r m).1,()),()),((eE r m).2,()))) (R3 0 (cC v9 (eE r m).2 0)) (λ_=>some ⟨[⟨K29,((kW r m).1,())⟩],[⟨K89,(kW r m).2⟩]⟩):=by
  refine It.run (λi=>R3 i (cC v9 (eE r m).2 i)) (eE r m).1.toNat (λi hi aA u rec=>?_) (It.stop λaA u rec=>?_)
  ·have hl:=iA v9 (eE r m).2 i
   have hbd:(cC v9 (eE r m).2 i).1.length+1<=bound:=by unfold bound;omega
   unfold c41_4 R3;dsimp only;rw[aF (show i<9223372036854775807 by omega)];refine qP (show(i:Int)<(eE r m).1 by omega) ?_;refine qR (f40 (cC v9 (eE r m).2 i).2 (nR (f:=v9) (λr h=>RdOk.num h) hk i)) ?_;refine qP hbd ?_;rfl
  ·unfold c41_4 R3;dsimp only;refine qN (show ¬ ((((eE r m).1.toNat:Nat):Int)<(eE r m).1) by omega) ?_;rfl
 exact Ev.eq (λaA=>by unfold T41;refine qR (f43 r m h) ?_;rfl) (lp.ev (i:=()) rfl)
end Go.Abs.Uz
namespace Go.Abs.Uz
open Go Go.Abs
theorem f71(a b:List aH)(ha:a.length<=maxLen):Ran p 1 71 [vf K29 (a,()), vf K29 (b,())] (rO K4 (gA a b,())):=go71 λn hn=>by
 by_cases he:a.length=b.length
 ·have e:((a.length:Int) != (b.length:Int))=false:=by simp[he]
  have e2:gA a b=bJ a.length (λi=>(gt a i).1==(gt b i).1):=by unfold gA;rw[he];simp
  rw[e2]
  have lp:It (λaA (_:Unit)=>c71_4 (aI p n) aA a b) (0:Int) (λ_=>oB (bJ a.length (λi=>(gt a i).1==(gt b i).1))):=by
   refine cH (It.allB a.length _ true (λi hi aA a' rec=>?_) (It.stop λaA a' rec=>?_))
   ·have hb:i<9223372036854775807:=Nat.lt_of_lt_of_le hi ha
    unfold c71_4;rw[aF hb];refine ql hi ?_;refine qz ?_;refine(aD hi).trans ?_;refine qz ?_;refine(aD (show i<b.length from he▸hi)).trans ?_;exact fin
   ·unfold c71_4;refine qe ?_;rfl
  exact Ev.eq (λaA=>by unfold T71;exact iM e) (lp.ev (i:=()) rfl)
 ·have e:((a.length:Int) != (b.length:Int))=true:=by simp;omega
  have e2:gA a b=false:=by unfold gA;rw[show((a.length:Int)==(b.length:Int))=false from by simp;omega];rfl
  rw[e2]
  exact Ev.now λaA=>by unfold T71;exact mG e
theorem f168(a b:List aH)(ha:a.length<=maxLen):Ran p 1 168 [vf K29 (a,()), vf K29 (b,())] (rO K4 (gA a b,())):=go168 λn hn=>by
 by_cases he:a.length=b.length
 ·have e:((a.length:Int) != (b.length:Int))=false:=by simp[he]
  have e2:gA a b=bJ a.length (λi=>(gt a i).1==(gt b i).1):=by unfold gA;rw[he];simp
  rw[e2]
  have lp:It (λaA (_:Unit)=>c168_4 (aI p n) aA a b) (0:Int) (λ_=>oB (bJ a.length (λi=>(gt a i).1==(gt b i).1))):=by
   refine cH (It.allB a.length _ true (λi hi aA a' rec=>?_) (It.stop λaA a' rec=>?_))
   ·have hb:i<9223372036854775807:=Nat.lt_of_lt_of_le hi ha
    unfold c168_4;rw[aF hb];refine ql hi ?_;refine qz ?_;refine(aD hi).trans ?_;refine qz ?_;refine(aD (show i<b.length from he▸hi)).trans ?_;exact fin
   ·unfold c168_4;refine qe ?_;rfl
  exact Ev.eq (λaA=>by unfold T168;exact iM e) (lp.ev (i:=()) rfl)
 ·have e:((a.length:Int) != (b.length:Int))=true:=by simp;omega
  have e2:gA a b=false:=by unfold gA;rw[show((a.length:Int)==(b.length:Int))=false from by simp;omega];rfl
  rw[e2]
  exact Ev.now λaA=>by unfold T168;exact mG e
theorem f69(a b:kS)(ha:a.1.length<=maxLen):Ran p 2 69 [va K39 a, va K39 b] (rO K4 (gA a.1 b.1&&a.2.1==b.2.1,())):=go69 λn hn=>Ev.now λaA=>by
 unfold T69;refine qC (f71 a.1 b.1 ha) ?_;refine fC λ_=>?_;rfl
theorem f100(a b:kS)(ha:a.1.length<=maxLen):Ran p 2 100 [va K39 a, va K39 b] (rO K4 (gA a.1 b.1&&a.2.1==b.2.1,())):=go100 λn hn=>Ev.now λaA=>by
 unfold T100;refine qC (f168 a.1 b.1 ha) ?_;refine fC λ_=>?_;rfl
theorem f196(x:Int):Ran p 2 196 [vf K3 (x,())] (rO K22 (aG x,())):=go196 λn hn=>by
 cases hx:inB x 0 2147483647 with
 | false=>
  refine Ev.now λaA=>?_
  unfold T196 aG;refine qC (f85 x 0 2147483647) ?_;rw[hx];rfl
 | true=>
  have hr:=aM.1 hx
  obtain⟨m,rfl⟩:∃ m:Nat,x=m:=⟨x.toNat,by omega⟩
  have lp:It (λaA (_:Unit)=>c196_4 (aI p n) aA) ((m:Int),([]:List aH)) (λ_=>rV K22 (([]:List aH)++hZ m,())):=by
   refine z4 (λl=>rV K22 (l,())) (λm hm pre hp aA a rec=>?_) (λm hm pre hp aA a rec=>?_) 5 m [] (by omega) (by omega) (by decide)
   ·unfold c196_4;refine qN (by show ¬ ((m:Int)>127);omega) ?_;refine qP (by show pre.length+1<=4294967296;omega) ?_;rfl
   ·unfold c196_4;refine qP (by show(m:Int)>127;omega) ?_;refine qN (by decide) ?_;refine qP (by show pre.length+1<=4294967296;omega) ?_;refine qN (by decide) ?_;rfl
  have e2:aG (m:Int)=hZ m:=by unfold aG;rw[hx];rfl
  rw[e2]
  exact Ev.eq (λaA=>by unfold T196;refine qC (f85 (m:Int) 0 2147483647) ?_;rw[hx];rfl) (lp.ev (i:=()) rfl)
theorem f97(x:Int):Ran p 2 97 [vf K3 (x,())] (rO K22 (aG x,())):=go97 λn hn=>by
 cases hx:inB x 0 2147483647 with
 | false=>
  refine Ev.now λaA=>?_
  unfold T97 aG;refine qC (f47 x 0 2147483647) ?_;rw[hx];rfl
 | true=>
  have hr:=aM.1 hx
  obtain⟨m,rfl⟩:∃ m:Nat,x=m:=⟨x.toNat,by omega⟩
  have lp:It (λaA (_:Unit)=>c97_4 (aI p n) aA) ((m:Int),([]:List aH)) (λ_=>rV K22 (([]:List aH)++hZ m,())):=by
   refine z4 (λl=>rV K22 (l,())) (λm hm pre hp aA a rec=>?_) (λm hm pre hp aA a rec=>?_) 5 m [] (by omega) (by omega) (by decide)
   ·unfold c97_4;refine qN (by show ¬ ((m:Int)>=128);omega) ?_;refine qP (by show pre.length+1<=4294967296;omega) ?_;rfl
   ·unfold c97_4;refine qP (by show(m:Int)>=128;omega) ?_;refine qN (by decide) ?_;refine qP (by show pre.length+1<=4294967296;omega) ?_;refine qN (by decide) ?_;rfl
  have e2:aG (m:Int)=hZ m:=by unfold aG;rw[hx];rfl
  rw[e2]
  exact Ev.eq (λaA=>by unfold T97;refine qC (f47 (m:Int) 0 2147483647) ?_;rw[hx];rfl) (lp.ev (i:=()) rfl)
theorem f96(ps:List bM)(L:Nat)(hL:∀ i,i<ps.length->(gt ps i).1.length<=L)(hb:ps.length*L<=bound)(hp:ps.length<=maxLen):Ran p 1 96 [vf K202 (ps,())] (rO K22 (ps.flatMap (λr=>r.1),())):=go96 λn hn=>by
 have lp:It (λaA (_:Unit)=>c96_3 (aI p n) aA ps) ((0:Int),([]:List aH)) (λ_=>rV K22 (ps.flatMap (λr=>r.1),())):=by
  refine It.accu [] (λi=>(gt ps i).1) ps.length L hL (λi hi acc ha aA a rec=>?_) (It.stop λaA a rec=>?_)
  ·have hb':i<9223372036854775807:=Nat.lt_of_lt_of_le hi hp
   unfold c96_3;dsimp only;rw[aF hb'];refine ql hi ?_;refine qz ?_;refine(aD hi).trans ?_;refine qP (Nat.le_trans ha (by simpa using hb)) ?_;rfl
  ·unfold c96_3;refine qe ?_;exact congrArg (λl:List aH=>(rV K22 (l,()):Option Out)) (bV (λr:bM=>r.1) ps)
 exact Ev.eq (λaA=>by unfold T96;rfl) (lp.ev (i:=()) rfl)
theorem f197(s:ByteArray)(hs:ByteArray.size s<=1048576):Ran p 3 197 [vf K9 (s,())] (rO K22 (dP s,())):=go197 λn hn=>Ev.now λaA=>by
 unfold T197;refine qC (f196 ((ByteArray.size s:Nat):Int)) ?_;
 refine(mX ?_).trans rfl
 have h1:=aX ((ByteArray.size s:Nat):Int)
 have h2:=j9 s
 show(aG ((ByteArray.size s:Nat):Int)).length+(fN s).length<=4294967296
 omega
theorem f166(s:ByteArray)(hs:ByteArray.size s<=1048576):Ran p 3 166 [vf K9 (s,())] (rO K22 (dP s,())):=go166 λn hn=>Ev.now λaA=>by
 unfold T166;refine qC (f97 ((ByteArray.size s:Nat):Int)) ?_
 have h1:=aX ((ByteArray.size s:Nat):Int)
 have h2:=j9 s
 refine qC (f96 [(aG ((ByteArray.size s:Nat):Int),()),(fN s,())] 1048576 (λi hi=>by
  rcases i with _ | _ | i
  ·show(aG ((ByteArray.size s:Nat):Int)).length<=_;omega
  ·show(fN s).length<=_;omega
  ·exact absurd hi (by show ¬ (i+1+1<2);omega)) (by show 2*1048576<=4294967296;omega) (by show 2<=9223372036854775807;omega)) ?_
 exact congrArg (λl:List aH=>(rV K22 (l,()):Option Out)) (by simp[dP]:List.flatMap (λr:bM=>r.1) [(aG ((ByteArray.size s:Nat):Int),()),(fN s,())]=dP s)
theorem f142(bs:List aH)(hl:bs.length<=maxLen):Ran p 1 142 [vf K22 (bs,())] (rO K3 (crc bs,())):=go142 λn hn=>by
 have inner:∀ (i:Nat),i<9223372036854775807->∀ x0:Int,It (λaA rec3=>c142_7 (aI p n) aA bs (i:Int) rec3) (x0,(0:Int)) (λrec3=>rec3 (iY 8 x0,((i+1:Nat):Int))):=by
  intro i hi x0
  refine It.run (λk=>(iY k x0,(k:Int))) 8 (λk hk aA rec3 rec=>?_) (It.stop λaA rec3 rec=>?_)
  ·have hb:k<9223372036854775807:=by omega
   unfold c142_7;dsimp only;rw[aF hb];refine qP (by omega) ?_;refine qN (by decide) ?_;refine qN (by decide) ?_
   show _=rec (tV (iY k x0),((k+1:Nat):Int))
   unfold tV
   cases ((iY k x0).tmod 2==1)<;>rfl
  ·unfold c142_7;dsimp only;rw[aF hi];exact kE (by decide)
 have outer:It (λaA (_:Unit)=>c142_3 (aI p n) aA bs) ((4294967295:Int),(0:Int)) (λ_=>oI (crc bs)):=by
  refine It.runE (λi=>(yH bs i,(i:Int))) bs.length (λi hi=>?_) (It.stop λaA a rec=>?_)
  ·have hb:i<9223372036854775807:=Nat.lt_of_lt_of_le hi hl
   obtain⟨N,hN⟩:=(inner i hb (kU .i64 (yH bs i) (i64.wrap (gt bs i).1))).all_i
   refine⟨N,λaA hf a rec=>?_⟩
   unfold c142_3;refine ql hi ?_;refine qz ?_;refine(aD hi).trans ?_;exact hN aA hf rec
  ·unfold c142_3;refine qe ?_;rfl
 exact Ev.eq (λaA=>by unfold T142;rfl) (outer.ev (i:=()) rfl)
theorem f167(bs:List aH)(hl:bs.length<=maxLen):Ran p 1 167 [vf K22 (bs,())] (rO K3 (crc bs,())):=go167 λn hn=>by
 have inner:∀ (i:Nat),i<9223372036854775807->∀ x0:Int,It (λaA rec3=>c167_7 (aI p n) aA bs (i:Int) rec3) (x0,(0:Int)) (λrec3=>rec3 (iY 8 x0,((i+1:Nat):Int))):=by
  intro i hi x0
  refine It.run (λk=>(iY k x0,(k:Int))) 8 (λk hk aA rec3 rec=>?_) (It.stop λaA rec3 rec=>?_)
  ·have hb:k<9223372036854775807:=by omega
   unfold c167_7;dsimp only;rw[aF hb];refine qP (by omega) ?_;refine qN (by decide) ?_;refine qN (by decide) ?_
   show _=rec (tV (iY k x0),((k+1:Nat):Int))
   unfold tV
   cases ((iY k x0).tmod 2==1)<;>rfl
  ·unfold c167_7;dsimp only;rw[aF hi];exact kE (by decide)
 have outer:It (λaA (_:Unit)=>c167_3 (aI p n) aA bs) ((4294967295:Int),(0:Int)) (λ_=>oI (crc bs)):=by
  refine It.runE (λi=>(yH bs i,(i:Int))) bs.length (λi hi=>?_) (It.stop λaA a rec=>?_)
  ·have hb:i<9223372036854775807:=Nat.lt_of_lt_of_le hi hl
   obtain⟨N,hN⟩:=(inner i hb (kU .i64 (yH bs i) (i64.wrap (gt bs i).1))).all_i
   refine⟨N,λaA hf a rec=>?_⟩
   unfold c167_3;refine ql hi ?_;refine qz ?_;refine(aD hi).trans ?_;exact hN aA hf rec
  ·unfold c167_3;refine qe ?_;rfl
 exact Ev.eq (λaA=>by unfold T167;rfl) (outer.ev (i:=()) rfl)
theorem f263(x:Int):Ran p 3 263 [vf K3 (x,())] (rO K3 (cY x,())):=go263 λn hn=>Ev.now λaA=>by
 unfold T263 cY;refine qC (f146 x) ?_
 cases eF x with
 | false=>rfl
 | true=>
  refine qf ?_
  refine qC (f196 x) ?_;refine qC (f142 (aG x) (Nat.le_trans (aX x) (by decide))) ?_;refine qN (by decide) ?_;rfl
theorem f246(x:Int):Ran p 3 246 [vf K3 (x,())] (rO K3 (cY x,())):=go246 λn hn=>Ev.now λaA=>by
 unfold T246 cY;refine qC (f93 x) ?_
 cases eF x with
 | false=>rfl
 | true=>
  refine qf ?_
  refine qC (f97 x) ?_;refine qC (f167 (aG x) (Nat.le_trans (aX x) (by decide))) ?_;refine qN (by decide) ?_;rfl
theorem f262(ls:List aH)(x:Int)(hl:ls.length<=maxLen):Ran p 1 262 [vf K29 (ls,()), vf K3 (x,())] (rO K4 (jK ls x,())):=go262 λn hn=>by
 have lp:It (λaA (_:Unit)=>c262_2 (aI p n) aA ls x) (0:Int) (λ_=>oB (jK ls x)):=by
  rw[GG]
  refine It.anyB ls.length _ (λi hi aA a rec=>?_) (λaA a rec=>?_)
  ·have hb:i<9223372036854775807:=Nat.lt_of_lt_of_le hi hl
   unfold c262_2;rw[aF hb];refine ql hi ?_;refine qz ?_;refine(aD hi).trans ?_;rfl
  ·unfold c262_2;refine qe ?_;rfl
 exact Ev.eq (λaA=>by unfold T262;rfl) (lp.ev (i:=()) rfl)
theorem f264(ls:List aH)(x:Int)(hl:ls.length<=maxLen):Ran p 1 264 [vf K29 (ls,()), vf K3 (x,())] (rO K3 (PX ls x,())):=go264 λn hn=>by
 have lp:It (λaA (_:Unit)=>c264_2 (aI p n) aA ls x) (0:Int) (λ_=>oI (PX ls x)):=by
  have:=It.first (c:=λaA (_:Unit)=>c264_2 (aI p n) aA ls x) (λi=>(i:Int)) ls.length (λi=>x==(gt ls i).1) (λi _=>oI (i:Int)) (λ_=>oI (-1)) (λi hi hp aA a rec=>?_) (λi hi hp=>It.stop λaA a rec=>?_) (It.stop λaA a rec=>?_)
  ·revert this;unfold PX
   cases (List.range ls.length).find? (λi=>x==(gt ls i).1)<;>exact λh=>h
  ·have hb:i<9223372036854775807:=Nat.lt_of_lt_of_le hi hl
   unfold c264_2;rw[aF hb];refine ql hi ?_;refine qz ?_;refine(aD hi).trans ?_;exact iM hp
  ·unfold c264_2;refine ql hi ?_;refine qz ?_;refine(aD hi).trans ?_;exact mG hp
  ·unfold c264_2;refine qe ?_;rfl
 exact Ev.eq (λaA=>by unfold T264;rfl) (lp.ev (i:=()) rfl)
theorem f245(ls:List aH)(x:Int)(hl:ls.length<=maxLen):Ran p 2 245 [vf K29 (ls,()), vf K3 (x,())] (rO K4 (jK ls x,())):=go245 λn hn=>Ev.now λaA=>by
 unfold T245;refine qC (f264 ls x hl) ?_;exact congrArg (λb:Bool=>(rV K4 (b,()):Option Out)) (PW ls x)
theorem f244(s:aE)(ls:List aH)(hl:ls.length<=maxLen)(h1:s.1.length<=1000)(h2:s.2.1.length<=1000):Ran p 4 244 [va K43 s, vf K29 (ls,())] (rO K43 (jO s ls)):=go244 λn hn=>by
 have inner:∀ v:List bE,It (λaA (_:Unit)=>c244_8 (aI p n) aA s ls v) ((0:Int),([]:List aO)) (λ_=>rV K43 (v,s.2.1.filter (λf=>jK ls (cY f.1)),())):=by
  intro v
  refine It.accu (α:=aO) [] (λi=>bif jK ls (cY (gt s.2.1 i).1)then[gt s.2.1 i] else[]) s.2.1.length 1 (λi hi=>by cases jK ls (cY (gt s.2.1 i).1)<;>simp) (λi hi acc ha aA a rec=>?_) (It.stop λaA a rec=>?_)
  ·have hb:i<9223372036854775807:=by omega
   unfold c244_8;dsimp only;rw[aF hb];refine ql hi ?_;refine qz ?_;refine(aD hi).trans ?_;refine qC (f263 (gt s.2.1 i).1) ?_;refine qC (f262 ls (cY (gt s.2.1 i).1) hl) ?_
   cases hq:jK ls (cY (gt s.2.1 i).1)with
   | false=>exact(congrArg (λl:List aO=>rec (((i+1:Nat):Int),l)) (List.append_nil acc).symm:_)
   | true=>refine qt ?_;refine qz ?_;refine(aD hi).trans ?_;refine qP (by rw[hq] at ha;have:acc.length+1<=0+s.2.1.length*1:=ha;show acc.length+1<=4294967296;omega) ?_;rfl
  ·unfold c244_8;refine qe ?_;exact congrArg (λl:List aO=>(rV K43 (v,l,()):Option Out)) ((bV (λf:aO=>bif jK ls (cY f.1)then[f] else[]) s.2.1).trans (gZ _ _))
 have outer:It (λaA (_:Unit)=>c244_3 (aI p n) aA s ls) ((0:Int),([]:List bE)) (λ_=>rV K43 (jO s ls)):=by
  refine It.accu (α:=bE) [] (λi=>bif jK ls (cY (gt s.1 i).1)then[gt s.1 i] else[]) s.1.length 1 (λi hi=>by cases jK ls (cY (gt s.1 i).1)<;>simp) (λi hi acc ha aA a rec=>?_) (It.stopE (T:=λaA _=>iter (c244_8 (aI p n) aA s ls (s.1.filter (λx=>jK ls (cY x.1)))) aA ((0:Int),([]:List aO))) (λaA a rec=>?_) (inner _).all_i)
  ·have hb:i<9223372036854775807:=by omega
   unfold c244_3;dsimp only;rw[aF hb];refine ql hi ?_;refine qz ?_;refine(aD hi).trans ?_;refine qC (f263 (gt s.1 i).1) ?_;refine qC (f262 ls (cY (gt s.1 i).1) hl) ?_
   cases hq:jK ls (cY (gt s.1 i).1)with
   | false=>exact(congrArg (λl:List bE=>rec (((i+1:Nat):Int),l)) (List.append_nil acc).symm:_)
   | true=>refine qt ?_;refine qz ?_;refine(aD hi).trans ?_;refine qP (by rw[hq] at ha;have:acc.length+1<=0+s.1.length*1:=ha;show acc.length+1<=4294967296;omega) ?_;rfl
  ·unfold c244_3;refine qe ?_;exact congrArg (λl:List bE=>iter (c244_8 (aI p n) aA s ls l) aA ((0:Int),([]:List aO))) ((bV (λf:bE=>bif jK ls (cY f.1)then[f] else[]) s.1).trans (gZ _ _))
 exact Ev.eq (λaA=>by unfold T244;rfl) (outer.ev (i:=()) rfl)
theorem f216(s:aE)(ls:List aH)(hl:ls.length<=maxLen)(h1:s.1.length<=1000)(h2:s.2.1.length<=1000)(hok:aL s=true):Ran p 4 216 [va K43 s, vf K29 (ls,())] (rO K43 (jO s ls)):=go216 λn hn=>by
 have inner:∀ v:List bE,It (λaA (_:Unit)=>c216_11 (aI p n) aA s ls v) ((0:Int),([]:List aO)) (λ_=>rV K43 (v,s.2.1.filter (λf=>jK ls (cY f.1)),())):=by
  intro v
  refine It.accu (α:=aO) [] (λi=>bif jK ls (cY (gt s.2.1 i).1)then[gt s.2.1 i] else[]) s.2.1.length 1 (λi hi=>by cases jK ls (cY (gt s.2.1 i).1)<;>simp) (λi hi acc ha aA a rec=>?_) (It.stop λaA a rec=>?_)
  ·have hb:i<9223372036854775807:=by omega
   unfold c216_11;dsimp only;rw[aF hb];refine ql hi ?_;refine qz ?_;refine(aD hi).trans ?_;refine qC (f246 (gt s.2.1 i).1) ?_;refine qC (f245 ls (cY (gt s.2.1 i).1) hl) ?_
   cases hq:jK ls (cY (gt s.2.1 i).1)with
   | false=>exact(congrArg (λl:List aO=>rec (((i+1:Nat):Int),l)) (List.append_nil acc).symm:_)
   | true=>refine qt ?_;refine qP (by rw[hq] at ha;have:acc.length+1<=0+s.2.1.length*1:=ha;show acc.length+1<=4294967296;omega) ?_;rfl
  ·unfold c216_11;refine qe ?_;exact congrArg (λl:List aO=>(rV K43 (v,l,()):Option Out)) ((bV (λf:aO=>bif jK ls (cY f.1)then[f] else[]) s.2.1).trans (gZ _ _))
 have outer:It (λaA (_:Unit)=>c216_5 (aI p n) aA s ls) ((0:Int),([]:List bE)) (λ_=>rV K43 (jO s ls)):=by
  refine It.accu (α:=bE) [] (λi=>bif jK ls (cY (gt s.1 i).1)then[gt s.1 i] else[]) s.1.length 1 (λi hi=>by cases jK ls (cY (gt s.1 i).1)<;>simp) (λi hi acc ha aA a rec=>?_) (It.stopE (T:=λaA _=>iter (c216_11 (aI p n) aA s ls (s.1.filter (λx=>jK ls (cY x.1)))) aA ((0:Int),([]:List aO))) (λaA a rec=>?_) (inner _).all_i)
  ·have hb:i<9223372036854775807:=by omega
   unfold c216_5;dsimp only;rw[aF hb];refine ql hi ?_;refine qz ?_;refine(aD hi).trans ?_;refine qC (f246 (gt s.1 i).1) ?_;refine qC (f245 ls (cY (gt s.1 i).1) hl) ?_
   cases hq:jK ls (cY (gt s.1 i).1)with
   | false=>exact(congrArg (λl:List bE=>rec (((i+1:Nat):Int),l)) (List.append_nil acc).symm:_)
   | true=>refine qt ?_;refine qP (by rw[hq] at ha;have:acc.length+1<=0+s.1.length*1:=ha;show acc.length+1<=4294967296;omega) ?_;rfl
  ·unfold c216_5;refine qe ?_;exact congrArg (λl:List bE=>iter (c216_11 (aI p n) aA s ls l) aA ((0:Int),([]:List aO))) ((bV (λf:bE=>bif jK ls (cY f.1)then[f] else[]) s.1).trans (gZ _ _))
 exact Ev.eq (λaA=>by unfold T216;refine qC (f49 s (Nat.le_trans h1 (by decide)) (Nat.le_trans h2 (by decide))) ?_;rw[hok];rfl) (outer.ev (i:=()) rfl)
end Go.Abs.Uz
namespace Go.Abs.Uz
open Go Go.Abs
abbrev oL(l:List aH):Option Out:=rV K22 (l,())
theorem KA{k:Nat}(h:k<=5):k<=maxLen:=by show k<=9223372036854775807;omega
theorem f145(s:aE)(hs:StateOk s):Ran p 4 145 [va K43 s] (rO K22 (bI s,())):=go145 λn hn=>by
 have h5:=hs.len
 have fl:∀ pre:List aH,pre.length<=1000->It (λaA (_:Unit)=>c145_14 (aI p n) aA s) ((0:Int),pre) (λ_=>oL (pre++s.2.1.flatMap aV)):=by
  intro pre hp
  refine It.accu (α:=aH) pre (λi=>aV (gt s.2.1 i)) s.2.1.length 10 (λi hi=>fM _) (λi hi acc ha aA a rec=>?_) (It.stop λaA a rec=>?_)
  ·have hb:i<9223372036854775807:=by omega
   have ha':acc.length+(aV (gt s.2.1 i)).length<=1050:=by omega
   unfold aV at ha';rw[List.length_append] at ha'
   unfold c145_14;dsimp only;rw[aF hb];refine ql hi ?_;refine qz ?_;refine(aD hi).trans ?_;refine qC (f196 (gt s.2.1 i).1) ?_;refine qP (by show acc.length+(aG (gt s.2.1 i).1).length<=4294967296;omega) ?_;refine qz ?_;refine(aD hi).trans ?_;refine qC (f196 (gt s.2.1 i).2.1) ?_
   refine qP (by show(acc++aG (gt s.2.1 i).1).length+(aG (gt s.2.1 i).2.1).length<=4294967296;rw[List.length_append];omega) ?_
   exact congrArg (λl:List aH=>rec (((i+1:Nat):Int),l)) (List.append_assoc _ _ _)
  ·unfold c145_14;refine qe ?_;exact congrArg (λl:List aH=>oL (pre++l)) (bV aV s.2.1)
 have it:∀ (i:Nat) (hi:i<s.1.length) (acc:List aH),acc.length<=1000->It (λaA rec3=>c145_8 (aI p n) aA s (gt (α:=bE) s.1 i) (gt (α:=bE) s.1 i) (i:Int) rec3) ((0:Int),acc) (λrec3=>rec3 (((i+1:Nat):Int),acc++aY (gt s.1 i))):=by
  intro i hi acc ha
  have hb:i<9223372036854775807:=by omega
  refine It.accu (α:=aH) acc (λk=>aG (gt (five (gt s.1 i)) k).1) 5 5 (λk hk=>aX _) (λk hk acc' ha' aA rec3 rec=>?_) (It.stop λaA rec3 rec=>?_)
  ·have hk':k<(five (gt s.1 i)).length:=hk
   have hkb:k<9223372036854775807:=by omega
   unfold c145_8;dsimp only;rw[aF hkb];refine qP (Int.ofNat_lt.2 hk') ?_;refine qz ?_;refine(aD hk').trans ?_;refine(aD hk').trans ?_;refine qC (f196 (gt (five (gt s.1 i)) k).1) ?_
   refine qP (by show acc'.length+(aG (gt (five (gt s.1 i)) k).1).length<=4294967296;replace ha':acc'.length+(aG (gt (five (gt s.1 i)) k).1).length<=acc.length+5*5:=ha';omega) ?_;rfl
  ·show c145_8 (aI p n) aA s (gt (α:=bE) s.1 i) (gt (α:=bE) s.1 i) (i:Int) rec3 rec (((5:Nat):Int),acc++bW 5 λk=>aG (gt (five (gt s.1 i)) k).1)=_
   have hz:=hs.size (cB hi)
   have h1:(bW 5 λk=>aG (gt (five (gt s.1 i)) k).1).length<=5*5:=dL λk hk=>aX _
   have h2:=qQ (gt s.1 i).2.2.2.2.2.1
   unfold c145_8;dsimp only;rw[aF hb];refine qN (by show ¬ ((5:Int)<5);decide) ?_;refine qC (f197 (gt s.1 i).2.2.2.2.2.1 (by omega)) ?_
   refine qP (by show(acc++bW 5 λk=>aG (gt (five (gt s.1 i)) k).1).length+(dP (gt s.1 i).2.2.2.2.2.1).length<=4294967296;rw[List.length_append];omega) ?_
   exact congrArg (λl:List aH=>rec3 (((i+1:Nat):Int),l)) (P9 (gt s.1 i) acc)
 have n1:=aX (s.1.length:Int)
 have n2:=aX (s.2.1.length:Int)
 have hB:((aG (s.1.length:Int)++bW s.1.length λi=>aY (gt s.1 i))).length<=5+5*38:=by
  have:(bW s.1.length λi=>aY (gt s.1 i)).length<=s.1.length*38:=dL λi hi=>iR (hs.item _ (cB hi)).2.1
  rw[List.length_append];omega
 have outer:It (λaA (_:Unit)=>c145_3 (aI p n) aA s) ((0:Int),aG (s.1.length:Int)) (λ_=>oL (bI s)):=by
  refine It.accuE (α:=aH) (aG (s.1.length:Int)) (λi=>aY (gt s.1 i)) s.1.length 38 (λi hi=>iR (hs.item _ (cB hi)).2.1) (λi hi acc ha=>?_)
   (It.stopE (T:=λaA _=>iter (c145_14 (aI p n) aA s) aA ((0:Int),(aG (s.1.length:Int)++bW s.1.length λi=>aY (gt s.1 i))++aG (s.2.1.length:Int))) (λaA a rec=>?_) ?_)
  ·obtain⟨N,hN⟩:=(it i hi acc (by omega)).all_i
   refine⟨N,λaA hf a rec=>?_⟩
   unfold c145_3;refine ql hi ?_;refine qz ?_;refine(aD hi).trans ?_;refine qz ?_;refine(aD hi).trans ?_;exact hN aA hf rec
  ·unfold c145_3;refine qe ?_;refine qC (f196 (s.2.1.length:Int)) ?_;exact mX (by show(aG (s.1.length:Int)++bW s.1.length λi=>aY (gt s.1 i)).length+(aG (s.2.1.length:Int)).length<=4294967296;omega)
  ·have:=(fl ((aG (s.1.length:Int)++bW s.1.length λi=>aY (gt s.1 i))++aG (s.2.1.length:Int)) (by rw[List.length_append];omega)).all_i
   rw[bV aY s.1] at this ⊢
   exact this
 exact Ev.eq (λaA=>by unfold T145;refine qC (f196 (s.1.length:Int)) ?_;rfl) (outer.ev (i:=()) rfl)

theorem dH{x:Int}{L:Nat}(h:5<=L):(aG x).length<=L:=Nat.le_trans (aX x) h
theorem f92(s:aE)(hs:StateOk s):Ran p 4 92 [va K43 s] (rO K22 (bI s,())):=go92 λn hn=>by
 have h5:=hs.len
 have fl:∀ pre:List aH,pre.length<=1000->It (λaA (_:Unit)=>c92_12 (aI p n) aA s) ((0:Int),pre) (λ_=>oL (pre++s.2.1.flatMap aV)):=by
  intro pre hp
  refine It.accu (α:=aH) pre (λi=>aV (gt s.2.1 i)) s.2.1.length 10 (λi hi=>fM _) (λi hi acc ha aA a rec=>?_) (It.stop λaA a rec=>?_)
  ·have hb:i<9223372036854775807:=by omega
   unfold c92_12;dsimp only;rw[aF hb];refine ql hi ?_;refine qz ?_;refine(aD hi).trans ?_;refine qC (f97 (gt s.2.1 i).1) ?_;refine qC (f97 (gt s.2.1 i).2.1) ?_
   refine qC (f96 [(acc,()),(aG (gt s.2.1 i).1,()),(aG (gt s.2.1 i).2.1,())] 2000 (kK (by
    intro r hr;simp only[List.mem_cons,List.not_mem_nil,or_false] at hr
    rcases hr with rfl | rfl | rfl
    ·show acc.length<=2000;omega
    ·exact dH (by decide)
    ·exact dH (by decide))) (by show 3*2000<=4294967296;omega) (by show 3<=9223372036854775807;omega)) ?_
   exact congrArg (λl:List aH=>rec (((i+1:Nat):Int),l)) (by simp[aV]:List.flatMap (λr:bM=>r.1) [(acc,()),(aG (gt s.2.1 i).1,()),(aG (gt s.2.1 i).2.1,())]=acc++aV (gt s.2.1 i))
  ·unfold c92_12;refine qe ?_;exact congrArg (λl:List aH=>oL (pre++l)) (bV aV s.2.1)
 have n1:=aX (s.1.length:Int)
 have n2:=aX (s.2.1.length:Int)
 have hB:(bW s.1.length λi=>aY (gt s.1 i)).length<=190:=by
  have:(bW s.1.length λi=>aY (gt s.1 i)).length<=s.1.length*38:=dL λi hi=>iR (hs.item _ (cB hi)).2.1
  omega
 have outer:It (λaA (_:Unit)=>c92_5 (aI p n) aA s) ((0:Int),aG (s.1.length:Int)) (λ_=>oL (bI s)):=by
  refine It.accu (α:=aH) (aG (s.1.length:Int)) (λi=>aY (gt s.1 i)) s.1.length 38 (λi hi=>iR (hs.item _ (cB hi)).2.1) (λi hi acc ha aA a rec=>?_)
   (It.stopE (T:=λaA _=>iter (c92_12 (aI p n) aA s) aA ((0:Int),(aG (s.1.length:Int)++bW s.1.length λi=>aY (gt s.1 i))++aG (s.2.1.length:Int))) (λaA a rec=>?_) ?_)
  ·have hb:i<9223372036854775807:=by omega
   have hz:=hs.size (cB hi)
   have ht:=qQ (gt s.1 i).2.2.2.2.2.1
   unfold c92_5;dsimp only;rw[aF hb];refine ql hi ?_;refine qz ?_;refine(aD hi).trans ?_;refine qC (f97 (gt s.1 i).1) ?_;refine qC (f97 (gt s.1 i).2.1) ?_;refine qC (f97 (gt s.1 i).2.2.1) ?_;refine qC (f97 (gt s.1 i).2.2.2.1) ?_;refine qC (f97 (gt s.1 i).2.2.2.2.1) ?_;refine qC (f166 (gt s.1 i).2.2.2.2.2.1 (by omega)) ?_
   refine qC (f96 [(acc,()),(aG (gt s.1 i).1,()),(aG (gt s.1 i).2.1,()),(aG (gt s.1 i).2.2.1,()),(aG (gt s.1 i).2.2.2.1,()),(aG (gt s.1 i).2.2.2.2.1,()),(dP (gt s.1 i).2.2.2.2.2.1,())] 2000 (kK (by
    intro r hr;simp only[List.mem_cons,List.not_mem_nil,or_false] at hr
    rcases hr with rfl | rfl | rfl | rfl | rfl | rfl | rfl
    ·show acc.length<=2000;omega
    ·exact dH (by decide)
    ·exact dH (by decide)
    ·exact dH (by decide)
    ·exact dH (by decide)
    ·exact dH (by decide)
    ·show(dP (gt s.1 i).2.2.2.2.2.1).length<=2000;omega)) (by show 7*2000<=4294967296;omega) (by show 7<=9223372036854775807;omega)) ?_
   exact congrArg (λl:List aH=>rec (((i+1:Nat):Int),l)) (by simp[aY]:List.flatMap (λr:bM=>r.1) [(acc,()),(aG (gt s.1 i).1,()),(aG (gt s.1 i).2.1,()),(aG (gt s.1 i).2.2.1,()),(aG (gt s.1 i).2.2.2.1,()),(aG (gt s.1 i).2.2.2.2.1,()),(dP (gt s.1 i).2.2.2.2.2.1,())]=acc++aY (gt s.1 i))
  ·unfold c92_5;refine qe ?_;refine qC (f97 (s.2.1.length:Int)) ?_
   refine qC (f96 [(aG (s.1.length:Int)++bW s.1.length λi=>aY (gt s.1 i),()),(aG (s.2.1.length:Int),())] 2000 (kK (by
    intro r hr;simp only[List.mem_cons,List.not_mem_nil,or_false] at hr
    rcases hr with rfl | rfl
    ·show(aG (s.1.length:Int)++bW s.1.length λi=>aY (gt s.1 i)).length<=2000;rw[List.length_append];omega
    ·exact dH (by decide))) (by show 2*2000<=4294967296;omega) (by show 2<=9223372036854775807;omega)) ?_
   exact congrArg (λl:List aH=>iter (c92_12 (aI p n) aA s) aA ((0:Int),l)) (by simp:List.flatMap (λr:bM=>r.1) [(aG (s.1.length:Int)++bW s.1.length λi=>aY (gt s.1 i),()),(aG (s.2.1.length:Int),())]=(aG (s.1.length:Int)++bW s.1.length λi=>aY (gt s.1 i))++aG (s.2.1.length:Int))
  ·have:=(fl ((aG (s.1.length:Int)++bW s.1.length λi=>aY (gt s.1 i))++aG (s.2.1.length:Int)) (by rw[List.length_append,List.length_append];omega)).all_i
   rw[bV aY s.1] at this ⊢
   exact this
 exact Ev.eq (λaA=>by unfold T92;refine qC (f49 s (KA h5.1) (KA h5.2)) ?_;rw[(aN s).2 hs];refine qf ?_;refine qC (f97 (s.1.length:Int)) ?_;rfl) (outer.ev (i:=()) rfl)
theorem f214(s:aE)(x:Int)(hz:SzS s):Ran p 5 214 [va K43 s, vf K3 (x,())] (rO K3 (iX s x,())):=go214 λn hn=>Ev.now λaA=>by
 unfold T214 iX;refine qC (f87 s (Nat.le_trans hz.a (by decide)) (Nat.le_trans hz.b (by decide))) ?_
 cases hs:aL s with
 | false=>rfl
 | true=>
  have hs':=(aN s).1 hs
  have h5:=hs'.len
  refine qf ?_;refine qC (f85 x 0 3) ?_
  cases hx:inB x 0 3 with
  | false=>rfl
  | true=>
   refine qf ?_;refine qC (f244 s [(x,())] (by show 1<=9223372036854775807;omega) (by omega) (by omega)) ?_;refine qC (f145 (jO s [(x,())]) (hs'.slice _)) ?_;refine qC (f142 (bI (jO s [(x,())])) (Nat.le_trans (oC (hs'.slice _)) (by decide))) ?_;refine qN (by decide) ?_;rfl
theorem f169(s:aE)(x:Int)(hz:SzS s):Ran p 5 169 [va K43 s, vf K3 (x,())] (rO K3 (iX s x,())):=go169 λn hn=>Ev.now λaA=>by
 unfold T169 iX;refine qC (f49 s (Nat.le_trans hz.a (by decide)) (Nat.le_trans hz.b (by decide))) ?_
 cases hs:aL s with
 | false=>rfl
 | true=>
  have hs':=(aN s).1 hs
  have h5:=hs'.len
  refine qf ?_;refine qC (f47 x 0 3) ?_
  cases hx:inB x 0 3 with
  | false=>rfl
  | true=>
   refine qf ?_;refine qC (f216 s [(x,())] (by show 1<=9223372036854775807;omega) (by omega) (by omega) hs) ?_;refine qC (f92 (jO s [(x,())]) (hs'.slice _)) ?_;refine qC (f167 (bI (jO s [(x,())])) (Nat.le_trans (oC (hs'.slice _)) (by decide))) ?_;refine qN (by decide) ?_;rfl
theorem f215(ls:List aH)(hl:ls.length<=1000):Ran p 3 215 [vf K29 (ls,())] (rO K3 (lY ls,())):=go215 λn hn=>by
 have lp:It (λaA (_:Unit)=>c215_3 (aI p n) aA ls) ((0:Int),([]:List aH)) (λ_=>oI (lY ls)):=by
  refine It.accu (α:=aH) [] (λi=>aG (gt ls i).1) ls.length 5 (λi hi=>aX _) (λi hi acc ha aA a rec=>?_) (It.stop λaA a rec=>?_)
  ·have hb:i<9223372036854775807:=by omega
   have ha':acc.length+(aG (gt ls i).1).length<=0+ls.length*5:=ha
   unfold c215_3;dsimp only;rw[aF hb];refine ql hi ?_;refine qz ?_;refine(aD hi).trans ?_;refine qC (f196 (gt ls i).1) ?_;refine qP (by show acc.length+(aG (gt ls i).1).length<=4294967296;omega) ?_;rfl
  ·have hB:(bW ls.length λi=>aG (gt ls i).1).length<=ls.length*5:=dL λi hi=>aX _
   unfold c215_3;refine qe ?_;refine qC (f142 (bW ls.length λi=>aG (gt ls i).1) (by show _<=9223372036854775807;omega)) ?_;refine qN (by decide) ?_;exact congrArg (λl:List aH=>oI ((crc l).tmod 1024)) (bV (λx:aH=>aG x.1) ls)
 exact Ev.eq (λaA=>by unfold T215;rfl) (lp.ev (i:=()) rfl)
theorem f170(ls:List aH)(hl:ls.length<=1000):Ran p 3 170 [vf K29 (ls,())] (rO K3 (lY ls,())):=go170 λn hn=>by
 have lp:It (λaA (_:Unit)=>c170_3 (aI p n) aA ls) ((0:Int),([]:List aH)) (λ_=>oI (lY ls)):=by
  refine It.accu (α:=aH) [] (λi=>aG (gt ls i).1) ls.length 5 (λi hi=>aX _) (λi hi acc ha aA a rec=>?_) (It.stop λaA a rec=>?_)
  ·have hb:i<9223372036854775807:=by omega
   have ha':acc.length+(aG (gt ls i).1).length<=0+ls.length*5:=ha
   unfold c170_3;dsimp only;rw[aF hb];refine ql hi ?_;refine qz ?_;refine(aD hi).trans ?_;refine qC (f97 (gt ls i).1) ?_
   refine qC (f96 [(acc,()),(aG (gt ls i).1,())] 6000 (kK (by
    intro r hr;simp only[List.mem_cons,List.not_mem_nil,or_false] at hr
    rcases hr with rfl | rfl
    ·show acc.length<=6000;omega
    ·exact dH (by decide))) (by show 2*6000<=4294967296;omega) (by show 2<=9223372036854775807;omega)) ?_
   exact congrArg (λl:List aH=>rec (((i+1:Nat):Int),l)) (by simp:List.flatMap (λr:bM=>r.1) [(acc,()),(aG (gt ls i).1,())]=acc++aG (gt ls i).1)
  ·have hB:(bW ls.length λi=>aG (gt ls i).1).length<=ls.length*5:=dL λi hi=>aX _
   unfold c170_3;refine qe ?_;refine qC (f167 (bW ls.length λi=>aG (gt ls i).1) (by show _<=9223372036854775807;omega)) ?_;refine qN (by decide) ?_;exact congrArg (λl:List aH=>oI ((crc l).tmod 1024)) (bV (λx:aH=>aG x.1) ls)
 exact Ev.eq (λaA=>by unfold T170;rfl) (lp.ev (i:=()) rfl)
theorem f157(s:aE)(hz:SzS s):Ran p 6 157 [va K43 s] (rO K39 (cG s)):=go157 λn hn=>by
 cases hs:aL s with
 | false=>
  refine Ev.now λaA=>?_
  unfold T157 cG;refine qC (f87 s (Nat.le_trans hz.a (by decide)) (Nat.le_trans hz.b (by decide))) ?_;rw[hs];rfl
 | true=>
  have lp:It (λaA (_:Unit)=>c157_5 (aI p n) aA s) ((0:Int),([]:List aH)) (λ_=>rV K39 (dM s,lY (dM s),())):=by
   refine It.accu (α:=aH) [] (λi=>[(iX s (i:Int),())]) 4 1 (λi hi=>Nat.le_refl 1) (λi hi acc ha aA a rec=>?_) (It.stop λaA a rec=>?_)
   ·have hb:i<9223372036854775807:=by omega
    have ha':acc.length+1<=0+4*1:=ha
    unfold c157_5;dsimp only;rw[aF hb];refine qP (by show(i:Int)<4;omega) ?_;refine qC (f214 s (i:Int) hz) ?_;refine qP (by show acc.length+1<=4294967296;omega) ?_;rfl
   ·unfold c157_5;refine qN (by show ¬ ((4:Int)<4);decide) ?_;refine qC (f215 (dM s) (by show 4<=1000;omega)) ?_;rfl
  have e:cG s=(dM s,lY (dM s),()):=by unfold cG;rw[hs];rfl
  rw[e]
  exact Ev.eq (λaA=>by unfold T157;refine qC (f87 s (Nat.le_trans hz.a (by decide)) (Nat.le_trans hz.b (by decide))) ?_;rw[hs];rfl) (lp.ev (i:=()) rfl)
theorem f101(s:aE)(hz:SzS s):Ran p 6 101 [va K43 s] (rO K39 (cG s)):=go101 λn hn=>by
 cases hs:aL s with
 | false=>
  refine Ev.now λaA=>?_
  unfold T101 cG;refine qC (f49 s (Nat.le_trans hz.a (by decide)) (Nat.le_trans hz.b (by decide))) ?_;rw[hs];rfl
 | true=>
  have lp:It (λaA (_:Unit)=>c101_5 (aI p n) aA s) ((0:Int),([]:List aH)) (λ_=>rV K39 (dM s,lY (dM s),())):=by
   refine It.accu (α:=aH) [] (λi=>[(iX s (i:Int),())]) 4 1 (λi hi=>Nat.le_refl 1) (λi hi acc ha aA a rec=>?_) (It.stop λaA a rec=>?_)
   ·have hb:i<9223372036854775807:=by omega
    have ha':acc.length+1<=0+4*1:=ha
    unfold c101_5;dsimp only;rw[aF hb];refine qP (by show(i:Int)<4;omega) ?_;refine qC (f169 s (i:Int) hz) ?_;refine qP (by show acc.length+1<=4294967296;omega) ?_;rfl
   ·unfold c101_5;refine qN (by show ¬ ((4:Int)<4);decide) ?_;refine qC (f170 (dM s) (by show 4<=1000;omega)) ?_;rfl
  have e:cG s=(dM s,lY (dM s),()):=by unfold cG;rw[hs];rfl
  rw[e]
  exact Ev.eq (λaA=>by unfold T101;refine qC (f49 s (Nat.le_trans hz.a (by decide)) (Nat.le_trans hz.b (by decide))) ?_;rw[hs];rfl) (lp.ev (i:=()) rfl)
end Go.Abs.Uz
set_option maxHeartbeats 2000000
namespace Go.Abs.Uz
open Go Go.Abs
def sG(q:List aH×RdT):Out:=⟨[⟨K29,(q.1,())⟩],[⟨K130,q.2⟩]⟩
theorem f76(r:RdT)(t:Nat)(i0:Int)(hi0:i0=(t:Int))(h:RdOk r)(ht:t<=2):Ran p 3 76 [.ref ⟨K130,r⟩, vf K3 (i0,())] (sG (cJ r t)):=go76 λn hn=>by
 subst hi0
 have q0:=z3 r
 by_cases hbig:(aK r).1>100
 ·have e:cJ r t=([],((aK r).2.1,(aK r).2.2.1,true,())):=by unfold cJ;rw[decide_eq_true hbig];rfl
  rw[e]
  have lp:It (λaA (_:Unit)=>c76_4 (aI p n) aA (t:Int) ((((aK r).1,()),()),((aK r).2,()))) ((0:Int),([]:List aH),(aK r).2.1,(aK r).2.2.1,(aK r).2.2.2.1) (λ_=>some (sG ([],((aK r).2.1,(aK r).2.2.1,true,())))):=It.stop λaA u rec=>by
   unfold c76_4;dsimp only
   by_cases h1:(0:Int)<i64.wrap ((aK r).1*(t:Int))
   ·refine qP h1 ?_
    cases (aK r).2.2.2.1 with
    | true=>rfl
    | false=>refine qt ?_;refine qN (show ¬ ((aK r).1<=100) by omega) ?_;refine qf ?_;rw[show decide (vI ((aK r).1)>100)=true from decide_eq_true hbig];rfl
   ·refine qN h1 ?_
    cases (aK r).2.2.2.1 with
    | true=>rfl
    | false=>refine qf ?_;rw[show decide (vI ((aK r).1)>100)=true from decide_eq_true hbig];rfl
  exact Ev.eq (λaA=>by unfold T76;refine qR (f75 r h) ?_;rfl) (lp.ev (i:=()) rfl)
 ·have e:cJ r t=oP (aK r).2 ((aK r).1.toNat*t):=by unfold cJ;rw[decide_eq_false hbig];rfl
  rw[e]
  have hN:(aK r).1.toNat*t<=100*2:=Nat.mul_le_mul (by omega) ht
  have ew:i64.wrap ((aK r).1*(t:Int))=(((aK r).1.toNat*t:Nat):Int):=by
   have:(aK r).1*(t:Int)=(((aK r).1.toNat*t:Nat):Int):=by rw[Int.natCast_mul,show(((aK r).1.toNat:Nat):Int)=(aK r).1 by omega]
   rw[this,IntKind.wrap_i64];omega
  generalize hM:(aK r).1.toNat*t=M at ew hN
  have lp:∀ (k i:Nat) (acc:List aH) (q:RdT),RdOk q->i+k=M->acc.length=i->It (λaA (_:Unit)=>c76_4 (aI p n) aA (t:Int) ((((aK r).1,()),()),((aK r).2,()))) ((i:Int),acc,q.1,q.2.1,q.2.2.1) (λ_=>some (sG (acc++(oP q k).1,(oP q k).2))):=by
   intro k
   induction k with
   | zero=>
    intro i acc q hq hi ha
    obtain⟨qb,qa,qd,qu⟩:=q
    refine It.stop λaA u rec=>?_
    show c76_4 (aI p n) aA (t:Int) ((((aK r).1,()),()),((aK r).2,())) rec ((i:Int),acc,qb,qa,qd)=some (sG (acc++[],(qb,qa,qd,qu)))
    rw[List.append_nil]
    unfold c76_4;dsimp only;refine qN (show ¬ ((i:Int)<i64.wrap ((aK r).1*(t:Int))) by rw[ew];omega) ?_
    cases qd with
    | true=>rfl
    | false=>refine qf ?_;rw[show decide (vI ((aK r).1)>100)=false from decide_eq_false hbig];rfl
   | succ k ih=>
    intro i acc q hq hi ha
    obtain⟨qb,qa,qd,qu⟩:=q
    cases qd with
    | true=>
     refine It.stop λaA u rec=>?_
     show c76_4 (aI p n) aA (t:Int) ((((aK r).1,()),()),((aK r).2,())) rec ((i:Int),acc,qb,qa,true)=some (sG (acc++[],(qb,qa,true,qu)))
     rw[List.append_nil]
     unfold c76_4;dsimp only;refine qP (show(i:Int)<i64.wrap ((aK r).1*(t:Int)) by rw[ew];omega) ?_;rfl
    | false=>
     have e2:oP (qb,qa,false,qu) (k+1)=(((aK (qb,qa,false,qu)).1,())::(oP (aK (qb,qa,false,qu)).2 k).1,(oP (aK (qb,qa,false,qu)).2 k).2):=rfl
     have ih':=ih (i+1) (acc++[((aK (qb,qa,false,qu)).1,())]) (aK (qb,qa,false,qu)).2 hq.num (by omega) (by rw[List.length_append,ha];rfl)
     rw[e2]
     rw[List.append_assoc] at ih'
     refine It.next (λaA u rec=>?_) ih'
     show c76_4 (aI p n) aA (t:Int) ((((aK r).1,()),()),((aK r).2,())) rec ((i:Int),acc,qb,qa,false)=_
     have hbd:acc.length+1<=bound:=by unfold bound;omega
     unfold c76_4;dsimp only;rw[aF (show i<9223372036854775807 by omega)];refine qP (show(i:Int)<i64.wrap ((aK r).1*(t:Int)) by rw[ew];omega) ?_;refine qt ?_;refine qP (show(aK r).1<=100 by omega) ?_;refine qR (f75 (qb,qa,false,qu) hq) ?_;refine qP hbd ?_;rfl
  have lp0:=lp M 0 [] (aK r).2 h.num (by omega) rfl
  exact Ev.eq (λaA=>by unfold T76;refine qR (f75 r h) ?_;rfl) (lp0.ev (i:=()) rfl)
theorem f45(a b:List aH):Ran p 1 45 [vf K22 (a,()), vf K22 (b,())] (rO K4 (bU a b,())):=go45 λn hn=>Ev.now λaA=>by
 unfold T45;rfl
def nI:Option aE->Out
 | none=>⟨[⟨K43,(([],[],()):aE)⟩,⟨K4,(false,())⟩],[]⟩
 | some s=>⟨[⟨K43,s⟩,⟨K4,(true,())⟩],[]⟩
def rdI(k:Nat)(q:List bE×RdT):Int×List aH×Int×Bool×List bE:=((k:Int),q.2.1,q.2.2.1,q.2.2.2.1,q.1)
def rdF(k:Nat)(q:List aO×RdT):Int×List aH×Int×Bool×List aO:=((k:Int),q.2.1,q.2.2.1,q.2.2.2.1,q.1)
theorem N8{b:List aH}(hb:B8 b)(hl:b.length<=aP):RdOk (rs0 b):=⟨hb,hl,Int.le_refl _,Int.natCast_nonneg _⟩
theorem f42(b:List aH)(hb:B8 b)(hl:b.length<=aP):Ran p 5 42 [vf K22 (b,())] (nI (bT b)):=go42 λn hn=>by
 have r0:=N8 hb hl
 have rC:RdOk (siC b).2:=r0.cnt 5
 have rI:∀ k,RdOk (cC cO (siC b).2 k).2:=nR (f:=cO) (λr h=>RdOk.item h) rC
 have rF:RdOk (siF b).2:=(rI _).cnt 5
 have rG:∀ k,RdOk (cC dK (siF b).2 k).2:=nR (f:=dK) (λr h=>RdOk.floor h) rF
 have bC:0<=(siC b).1/\(siC b).1<=5:=qO _ (by decide)
 have bF:0<=(siF b).1/\(siF b).1<=5:=qO _ (by decide)
 have lI:(siI b).1.length<=5:=by unfold siI;rw[iA];omega
 have lG:(siG b).1.length<=5:=by unfold siG;rw[iA];omega
 have hz1:(stI b).1.length<=maxLen:=Nat.le_trans lI (by decide)
 have hz2:(stI b).2.1.length<=maxLen:=Nat.le_trans lG (by decide)
 have inn:It (λaA (_:Unit)=>c42_17 (aI p n) aA b ((((siF b).1,()),()),((siF b).2,())) (siI b).1) (rdF 0 (cC dK (siF b).2 0)) (λ_=>some (nI (bT b))):=by
  refine It.run (λk=>rdF k (cC dK (siF b).2 k)) (siF b).1.toNat (λk hk aA u rec=>?_) (It.stop λaA u rec=>?_)
  ·have hlen:=iA dK (siF b).2 k
   have hbd:(cC dK (siF b).2 k).1.length+1<=bound:=by unfold bound;omega
   show c42_17 (aI p n) aA b ((((siF b).1,()),()),((siF b).2,())) (siI b).1 rec (rdF k (cC dK (siF b).2 k))=rec (rdF (k+1) (cC dK (siF b).2 (k+1)))
   unfold c42_17 rdF;dsimp only;rw[aF (show k<9223372036854775807 by omega)];refine qP (show(k:Int)<(siF b).1 by omega) ?_;refine qR (f40 (cC dK (siF b).2 k).2 (rG k)) ?_;refine qR (f40 (aK (cC dK (siF b).2 k).2).2 (rG k).num) ?_;refine qP hbd ?_;rfl
  ·show c42_17 (aI p n) aA b ((((siF b).1,()),()),((siF b).2,())) (siI b).1 rec (rdF (siF b).1.toNat (siG b))=_
   unfold c42_17 rdF;dsimp only;refine qN (show ¬ ((((siF b).1.toNat:Nat):Int)<(siF b).1) by omega) ?_
   cases hbad:(siG b).2.2.2.1 with
   | true=>refine qt ?_;rw[show bT b=none by unfold bT;rw[hbad];rfl];rfl
   | false=>
    refine qf ?_;refine qC (f49 (stI b) hz1 hz2) ?_
    cases hs:aL (stI b)with
    | false=>refine qt ?_;rw[show bT b=none by unfold bT;rw[hbad,hs];rfl];rfl
    | true=>
     refine qf ?_;refine qC (f92 (stI b) ((aN _).1 hs)) ?_;refine qC (f45 (bI (stI b)) b) ?_
     cases he:bU (bI (stI b)) b with
     | false=>refine qt ?_;rw[show bT b=none by unfold bT;rw[hbad,hs,he];rfl];rfl
     | true=>refine qf ?_;rw[show bT b=some (stI b) by unfold bT;rw[hbad,hs,he];rfl];rfl
 have out:It (λaA (_:Unit)=>c42_5 (aI p n) aA b ((((siC b).1,()),()),((siC b).2,()))) (rdI 0 (cC cO (siC b).2 0)) (λ_=>some (nI (bT b))):=by
  refine It.run (λk=>rdI k (cC cO (siC b).2 k)) (siC b).1.toNat (λk hk aA u rec=>?_) (It.stopE (T:=λaA _=>iter (c42_17 (aI p n) aA b ((((siF b).1,()),()),((siF b).2,())) (siI b).1) aA (rdF 0 (cC dK (siF b).2 0))) (λaA u rec=>?_) inn.all_i)
  ·have hlen:=iA cO (siC b).2 k
   have hbd:(cC cO (siC b).2 k).1.length+1<=bound:=by unfold bound;omega
   have hk0:=rI k
   show c42_5 (aI p n) aA b ((((siC b).1,()),()),((siC b).2,())) rec (rdI k (cC cO (siC b).2 k))=rec (rdI (k+1) (cC cO (siC b).2 (k+1)))
   unfold c42_5 rdI;dsimp only;rw[aF (show k<9223372036854775807 by omega)];refine qP (show(k:Int)<(siC b).1 by omega) ?_;refine qR (f40 (rdK (cC cO (siC b).2 k).2 0) (hk0.k 0)) ?_;refine qR (f40 (rdK (cC cO (siC b).2 k).2 1) (hk0.k 1)) ?_;refine qR (f40 (rdK (cC cO (siC b).2 k).2 2) (hk0.k 2)) ?_;refine qR (f40 (rdK (cC cO (siC b).2 k).2 3) (hk0.k 3)) ?_;refine qR (f40 (rdK (cC cO (siC b).2 k).2 4) (hk0.k 4)) ?_;refine qR (f91 (rdK (cC cO (siC b).2 k).2 5) (hk0.k 5)) ?_;refine qP hbd ?_;rfl
  ·show c42_5 (aI p n) aA b ((((siC b).1,()),()),((siC b).2,())) rec (rdI (siC b).1.toNat (siI b))=_
   unfold c42_5 rdI;dsimp only;refine qN (show ¬ ((((siC b).1.toNat:Nat):Int)<(siC b).1) by omega) ?_;refine qR (f43 (siI b).2 5 (rI _)) ?_;rfl
 exact Ev.eq (λaA=>by unfold T42;refine qR (f43 (rs0 b) 5 r0) ?_;rfl) (out.ev (i:=()) rfl)
def mI(b:List aH)(big:Bool)(q:List bE×RdT):Option aE:=bif(flR q.2).2.2.2.1||(big||(!aL (stS q)|| !bU (bI (stS q)) b))then none else some (stS q)
theorem f77(b:List aH)(hb:B8 b)(hl:b.length<=aP):Ran p 5 77 [vf K22 (b,())] (nI (f4 b)):=go77 λn hn=>by
 have r0:=N8 hb hl
 have rN:RdOk (aK (rs0 b)).2:=r0.num
 have q0:=z3 (rs0 b)
 have tail:∀ q:List bE×RdT,RdOk q.2->q.1.length<=100->It (λaA (_:Unit)=>c77_21 (aI p n) aA b ((((aK (rs0 b)).1,()),()),((aK (rs0 b)).2,())) ((((cJ q.2 2).1,()),()),((cJ q.2 2).2,())) q.1) ((0:Int),([]:List aO)) (λ_=>some (nI (mI b (decide ((aK (rs0 b)).1>100)) q))):=by
  intro q hq hql
  have hm:=sF q.2 2
  refine It.run (λk=>(((2*k:Nat):Int),i8 (cJ q.2 2).1 k)) ((cJ q.2 2).1.length / 2) (λk hk aA u rec=>?_) (It.stop λaA u rec=>?_)
  ·have h1:2*k<(cJ q.2 2).1.length:=by omega
   have h2:2*k+1<(cJ q.2 2).1.length:=by omega
   have e1:i64.wrap (((2*k:Nat):Int)+1)=((2*k+1:Nat):Int):=by rw[IntKind.wrap_i64];omega
   have e2:i64.wrap (((2*k:Nat):Int)+2)=((2*(k+1):Nat):Int):=by rw[IntKind.wrap_i64];omega
   have hbd:(i8 (cJ q.2 2).1 k).length+1<=bound:=by rw[tG];unfold bound;omega
   unfold c77_21;dsimp only;rw[e1,e2,xR];refine ql h2 ?_;refine qz ?_;refine(aD h1).trans ?_;refine(aD h1).trans ?_;refine qz ?_;refine(aD h2).trans ?_;refine(aD h2).trans ?_;refine qP hbd ?_;rfl
  ·have e1:i64.wrap ((((2*((cJ q.2 2).1.length / 2):Nat)):Int)+1)=((2*((cJ q.2 2).1.length / 2)+1:Nat):Int):=by rw[IntKind.wrap_i64];omega
   have lp:(stS q).2.1.length<=100:=KJ q.2
   have hz1:(stS q).1.length<=maxLen:=Nat.le_trans hql (by decide)
   have hz2:(stS q).2.1.length<=maxLen:=Nat.le_trans lp (by decide)
   unfold c77_21;dsimp only;rw[e1];refine qN (show ¬ (((2*((cJ q.2 2).1.length / 2)+1:Nat):Int)<(((cJ q.2 2).1.length:Nat):Int)) by omega) ?_
   cases hbad:(cJ q.2 2).2.2.2.1 with
   | true=>refine qt ?_;rw[show mI b (decide ((aK (rs0 b)).1>100)) q=none by unfold mI flR;rw[hbad];rfl];rfl
   | false=>
    refine qf ?_
    by_cases hbig:(aK (rs0 b)).1>100
    ·refine qP hbig ?_;rw[show mI b (decide ((aK (rs0 b)).1>100)) q=none by unfold mI flR;rw[hbad,decide_eq_true hbig];rfl];rfl
    ·refine qN hbig ?_;refine qC (f87 (stS q) hz1 hz2) ?_
     cases hs:aL (stS q)with
     | false=>refine qt ?_;rw[show mI b (decide ((aK (rs0 b)).1>100)) q=none by unfold mI flR;rw[hbad,decide_eq_false hbig,hs];rfl];rfl
     | true=>
      refine qf ?_;refine qC (f145 (stS q) ((aN _).1 hs)) ?_
      cases he:bU (bI (stS q)) b with
      | false=>refine qT (show(!bU (bI (stS q)) b)=true by rw[he];rfl) ?_;rw[show mI b (decide ((aK (rs0 b)).1>100)) q=none by unfold mI flR;rw[hbad,decide_eq_false hbig,hs,he];rfl];rfl
      | true=>refine qF (show(!bU (bI (stS q)) b)=false by rw[he];rfl) ?_;rw[show mI b (decide ((aK (rs0 b)).1>100)) q=some (stS q) by unfold mI flR;rw[hbad,decide_eq_false hbig,hs,he];rfl];rfl
 have run0:It (λaA (_:Unit)=>c77_5 (aI p n) aA b ((((aK (rs0 b)).1,()),()),((aK (rs0 b)).2,()))) ((0:Int),(aK (rs0 b)).2.1,(aK (rs0 b)).2.2.1,(aK (rs0 b)).2.2.2.1,([]:List bE)) (λ_=>some (nI (f4 b))):=by
  by_cases hbig:(aK (rs0 b)).1>100
  ·have e:f4 b=mI b (decide ((aK (rs0 b)).1>100)) ([],(aK (rs0 b)).2):=by unfold f4 ssI;rw[decide_eq_true hbig];rfl
   rw[e]
   have key:∀ q:RdT,RdOk q->It (λaA (_:Unit)=>c77_5 (aI p n) aA b ((((aK (rs0 b)).1,()),()),((aK (rs0 b)).2,()))) ((0:Int),q.1,q.2.1,q.2.2.1,([]:List bE)) (λ_=>some (nI (mI b (decide ((aK (rs0 b)).1>100)) ([],q)))):=by
    rintro ⟨qb,qa,qd,qu⟩ hq
    refine It.stopE (T:=λaA _=>iter (c77_21 (aI p n) aA b ((((aK (rs0 b)).1,()),()),((aK (rs0 b)).2,())) ((((cJ (qb,qa,qd,qu) 2).1,()),()),((cJ (qb,qa,qd,qu) 2).2,())) []) aA ((0:Int),([]:List aO))) (λaA u rec=>?_) (tail ([],(qb,qa,qd,qu)) hq (Nat.zero_le _)).all_i
    unfold c77_5;dsimp only;refine qP (show(0:Int)<(aK (rs0 b)).1 by omega) ?_
    cases qd with
    | true=>refine qf ?_;refine qR (f76 (qb,qa,true,qu) 2 2 rfl hq (by omega)) ?_;rfl
    | false=>refine qt ?_;refine qN (show ¬ ((aK (rs0 b)).1<=100) by omega) ?_;refine qR (f76 (qb,qa,false,qu) 2 2 rfl hq (by omega)) ?_;rfl
   exact key _ rN
  ·have hbd:decide ((aK (rs0 b)).1>100)=false:=decide_eq_false hbig
   have lp:∀ (k i:Nat) (acc:List bE) (q:RdT),RdOk q->q.1=b->i+k=(aK (rs0 b)).1.toNat->acc.length=i->
     It (λaA (_:Unit)=>c77_5 (aI p n) aA b ((((aK (rs0 b)).1,()),()),((aK (rs0 b)).2,()))) ((i:Int),q.1,q.2.1,q.2.2.1,acc) (λ_=>some (nI ((jA q k).bind λw=>mI b (decide ((aK (rs0 b)).1>100)) (acc++w.1,w.2)))):=by
    intro k
    induction k with
    | zero=>
     intro i acc q hq hqb hi ha
     show It _ _ (λ_=>some (nI (mI b (decide ((aK (rs0 b)).1>100)) (acc++[],q))))
     rw[List.append_nil]
     refine It.stopE (T:=λaA _=>iter (c77_21 (aI p n) aA b ((((aK (rs0 b)).1,()),()),((aK (rs0 b)).2,())) ((((cJ q 2).1,()),()),((cJ q 2).2,())) acc) aA ((0:Int),([]:List aO))) (λaA u rec=>?_) (tail (acc,q) hq (by show acc.length<=100;omega)).all_i
     unfold c77_5;dsimp only;refine qN (show ¬ ((i:Int)<(aK (rs0 b)).1) by omega) ?_;refine qR (f76 q 2 2 rfl hq (by omega)) ?_;rfl
    | succ k ih=>
     intro i acc q hq hqb hi ha
     have hlt:(i:Int)<(aK (rs0 b)).1:=by omega
     obtain⟨qb,qa,qd,qu⟩:=q
     cases qd with
     | true=>
      show It _ _ (λ_=>some (nI (mI b (decide ((aK (rs0 b)).1>100)) (acc++[],(qb,qa,true,qu)))))
      rw[List.append_nil]
      refine It.stopE (T:=λaA _=>iter (c77_21 (aI p n) aA b ((((aK (rs0 b)).1,()),()),((aK (rs0 b)).2,())) ((((cJ (qb,qa,true,qu) 2).1,()),()),((cJ (qb,qa,true,qu) 2).2,())) acc) aA ((0:Int),([]:List aO))) (λaA u rec=>?_) (tail (acc,(qb,qa,true,qu)) hq (by show acc.length<=100;omega)).all_i
      unfold c77_5;dsimp only;refine qP hlt ?_;refine qf ?_;refine qR (f76 (qb,qa,true,qu) 2 2 rfl hq (by omega)) ?_;rfl
     | false=>
      have hbk:acc.length+1<=bound:=by unfold bound;omega
      have head:∀ aA rec,c77_5 (aI p n) aA b ((((aK (rs0 b)).1,()),()),((aK (rs0 b)).2,())) rec ((i:Int),qb,qa,false,acc)=(((aI p n) 144 [vf K22 (b,()), vf K3 ((rdK (qb,qa,false,qu) 5).2.1,())]).bind (cL [K9,K3,K4] [])).bind λo7=>(bif(rdK (qb,qa,false,qu) 5).2.2.1 then some (nI none)else bif !(vB o7.1.2.2.1.1)then some (nI none)else bif decide (acc.length+1<=bound)then rec (((i+1:Nat):Int),(rdK (qb,qa,false,qu) 5).1,(vI o7.1.2.1.1),(rdK (qb,qa,false,qu) 5).2.2.1,acc++[(rdV (qb,qa,false,qu) 0,rdV (qb,qa,false,qu) 1,rdV (qb,qa,false,qu) 2,rdV (qb,qa,false,qu) 3,rdV (qb,qa,false,qu) 4,(vS o7.1.1.1),())])else none):=by
       intro aA rec
       unfold c77_5;dsimp only;rw[aF (show i<9223372036854775807 by omega)];refine qP hlt ?_;refine qt ?_;refine qP (show(aK (rs0 b)).1<=100 by omega) ?_;refine qR (f75 (rdK (qb,qa,false,qu) 0) (hq.k 0)) ?_;refine qR (f75 (rdK (qb,qa,false,qu) 1) (hq.k 1)) ?_;refine qR (f75 (rdK (qb,qa,false,qu) 2) (hq.k 2)) ?_;refine qR (f75 (rdK (qb,qa,false,qu) 3) (hq.k 3)) ?_;refine qR (f75 (rdK (qb,qa,false,qu) 4) (hq.k 4)) ?_
       rfl
      have el:(rdK (qb,qa,false,qu) 5).1=b:=(uU (qb,qa,false,qu) 5).trans hqb
      have hg:=f144 b (rdK (qb,qa,false,qu) 5).2.1 hb hl
      have e2:jA (qb,qa,false,qu) (k+1)=bif(cO (qb,qa,false,qu)).2.2.2.1 then none else(jA (cO (qb,qa,false,qu)).2 k).map λw=>((cO (qb,qa,false,qu)).1::w.1,w.2):=rfl
      cases hd:(rdK (qb,qa,false,qu) 5).2.2.1 with
      | true=>
       have e3:(cO (qb,qa,false,qu)).2.2.2.1=true:=by unfold cO lZ;rw[hd];rfl
       rw[e2,e3]
       refine It.stop λaA u rec=>(head aA rec).trans ?_
       rw[hd]
       cases ht:uD b (rdK (qb,qa,false,qu) 5).2.1 with
       | none=>rw[ht] at hg;refine qE hg ?_;rfl
       | some w=>obtain⟨s,j⟩:=w;rw[ht] at hg;refine qE hg ?_;rfl
      | false=>
       cases ht:uD b (rdK (qb,qa,false,qu) 5).2.1 with
       | none=>
        have e3:(cO (qb,qa,false,qu)).2.2.2.1=true:=by unfold cO lZ;rw[hd,el,ht];rfl
        rw[e2,e3]
        refine It.stop λaA u rec=>(head aA rec).trans ?_
        rw[hd];rw[ht] at hg;refine qE hg ?_;rfl
       | some w=>
        obtain⟨s,j⟩:=w
        have e4:lZ (rdK (qb,qa,false,qu) 5)=(s,((rdK (qb,qa,false,qu) 5).1,(j:Int),false,())):=by
         unfold lZ;rw[hd,el,ht];rfl
        have e3:cO (qb,qa,false,qu)=((rdV (qb,qa,false,qu) 0,rdV (qb,qa,false,qu) 1,rdV (qb,qa,false,qu) 2,rdV (qb,qa,false,qu) 3,rdV (qb,qa,false,qu) 4,s,()),((rdK (qb,qa,false,qu) 5).1,(j:Int),false,())):=by unfold cO;rw[e4]
        have ih':=ih (i+1) (acc++[(cO (qb,qa,false,qu)).1]) (cO (qb,qa,false,qu)).2 hq.item ((IO (qb,qa,false,qu)).trans hqb) (by omega) (by rw[List.length_append,ha];rfl)
        have e5:((jA (qb,qa,false,qu) (k+1)).bind λw=>mI b (decide ((aK (rs0 b)).1>100)) (acc++w.1,w.2))=((jA (cO (qb,qa,false,qu)).2 k).bind λw=>mI b (decide ((aK (rs0 b)).1>100)) (acc++[(cO (qb,qa,false,qu)).1]++w.1,w.2)):=by
         rw[e2,show(cO (qb,qa,false,qu)).2.2.2.1=false by rw[e3]]
         show((jA (cO (qb,qa,false,qu)).2 k).map λw=>((cO (qb,qa,false,qu)).1::w.1,w.2)).bind _=_
         cases jA (cO (qb,qa,false,qu)).2 k with
         | none=>rfl
         | some w=>show mI b _ (acc++((cO (qb,qa,false,qu)).1::w.1),w.2)=mI b _ (acc++[(cO (qb,qa,false,qu)).1]++w.1,w.2);rw[List.append_assoc];rfl
        rw[e5]
        refine It.next (λaA u rec=>(head aA rec).trans ?_) ih'
        rw[hd];rw[ht] at hg;refine qE hg ?_;refine qf ?_;refine qf ?_;refine qP hbk ?_;rw[e3]
   have lp0:=lp (aK (rs0 b)).1.toNat 0 [] (aK (rs0 b)).2 rN (fV _) (by omega) rfl
   have e:f4 b=((jA (aK (rs0 b)).2 (aK (rs0 b)).1.toNat).bind λw=>mI b (decide ((aK (rs0 b)).1>100)) ([]++w.1,w.2)):=by
    unfold f4 ssI;rw[hbd]
    show(match jA (aK (rs0 b)).2 (aK (rs0 b)).1.toNat with | none=>none | some q=>mI b false q)=_
    cases jA (aK (rs0 b)).2 (aK (rs0 b)).1.toNat<;>rfl
   rw[e];exact lp0
 exact Ev.eq (λaA=>by unfold T77;refine qR (f75 (rs0 b) r0) ?_;rfl) (run0.ev (i:=()) rfl)
end Go.Abs.Uz
