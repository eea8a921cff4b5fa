/- What the functions of this program answer, part ep. -/
import Derived.Test.YtfhgecdbldmekaaGreatW3
import Derived.Test.YtfhgecdbldmekaaGreatXa
import Derived.Test.YtfhgecdbldmekaaGreatW2
set_option linter.unusedVariables false
open Go.IntKind (i64)
namespace Go.Abs.Pz
open Go Go.Abs
theorem f47(x lo hi:Int):Ran p 1 47 [vf K3 (x,()), vf K3 (lo,()), vf K3 (hi,())] (rO K4 (inB x lo hi,())):=go47 λn hn=>Ev.now λaA=>by
 unfold T47;exact gB λ_=>rfl
theorem f43(x lo hi:Int):Ran p 1 43 [vf K3 (x,()), vf K3 (lo,()), vf K3 (hi,())] (rO K4 (inB x lo hi,())):=go43 λn hn=>Ev.now λaA=>by
 unfold T43;exact gB λ_=>rfl
theorem f118(x:Int):Ran p 2 118 [vf K3 (x,())] (rO K4 (eF x,())):=go118 λn hn=>Ev.now λaA=>by
 unfold T118;refine qC (f47 x 0 4) ?_;rfl
theorem f109(x:Int):Ran p 2 109 [vf K3 (x,())] (rO K4 (eF x,())):=go109 λn hn=>Ev.now λaA=>by
 unfold T109;refine qC (f43 x 0 4) ?_;rfl
theorem f119(e:bI):Ran p 2 119 [va K104 e] (rO K4 (cL e,())):=go119 λn hn=>Ev.now λaA=>by
 unfold T119 cL;refine qC (f47 e.1 1 1000) ?_;refine gB λ_=>?_;refine qC (f47 e.2.1 0 1) ?_;refine gB λ_=>?_;refine qC (f47 e.2.2.1 0 100000) ?_;refine gB λ_=>?_;refine qC (f47 e.2.2.2.1 0 1000) ?_;refine gB λ_=>?_;rfl
theorem f110(e:bI):Ran p 2 110 [va K104 e] (rO K4 (cL e,())):=go110 λn hn=>Ev.now λaA=>by
 unfold T110 cL;refine qC (f43 e.1 1 1000) ?_;refine gB λ_=>?_;refine qC (f43 e.2.1 0 1) ?_;refine gB λ_=>?_;refine qC (f43 e.2.2.1 0 100000) ?_;refine gB λ_=>?_;refine qC (f43 e.2.2.2.1 0 1000) ?_;refine gB λ_=>?_;rfl
theorem BU {c:Nat->Unit->(Int->Option Out)->Int->Option Out} (fs:List aR) (id:Int)
  (h:∀ i,i<fs.length->∀ aA a rec,c aA a rec (i:Int)=bif(gt fs i).1==id then oI (gt fs i).2.1 else rec ((i+1:Nat):Int))
  (hn:∀ aA a rec,c aA a rec (fs.length:Int)=oI 0):It c (0:Int) (λ_=>oI (bV fs id)):=by
 have:=It.first (c:=c) (λi=>(i:Int)) fs.length (λi=>(gt fs i).1==id) (λi _=>oI (gt fs i).2.1) (λ_=>oI 0)
  (λi hi hp aA a rec=>by rw[h i hi];rw[hp];rfl) (λi hi hp=>It.stop λaA a rec=>by rw[h i hi];rw[hp];rfl) (It.stop hn)
 unfold bV
 revert this
 cases (List.range fs.length).find? (λi=>(gt fs i).1==id)<;>exact λh=>h
theorem f120(s:aE)(id:Int)(hl:s.2.1.length<=maxLen):Ran p 1 120 [va K50 s, vf K3 (id,())] (rO K3 (bV s.2.1 id,())):=go120 λn hn=>by
 refine Ev.eq (λaA=>by unfold T120;rfl) (It.ev (c:=λaA (_:Unit)=>c120_2 (aJ p n) aA s id) (i:=()) (BU s.2.1 id (λi hi aA a rec=>?_) (λaA a rec=>?_)) rfl)
 ·have hb:i<9223372036854775807:=Nat.lt_of_lt_of_le hi hl
  unfold c120_2;rw[aF hb];refine ql hi ?_;refine qz ?_;refine(aD hi).trans ?_
  refine congrArg (λx=>bif(gt s.2.1 i).1==id then x else rec ((i+1:Nat):Int)) ?_
  refine qz ?_;refine(aD hi).trans ?_;rfl
 ·unfold c120_2;refine qe ?_;rfl
theorem f111(s:aE)(id:Int)(hl:s.2.1.length<=maxLen):Ran p 1 111 [va K50 s, vf K3 (id,())] (rO K3 (bV s.2.1 id,())):=go111 λn hn=>by
 refine Ev.eq (λaA=>by unfold T111;rfl) (It.ev (c:=λaA (_:Unit)=>c111_2 (aJ p n) aA s id) (i:=()) (BU s.2.1 id (λi hi aA a rec=>?_) (λaA a rec=>?_)) rfl)
 ·have hb:i<9223372036854775807:=Nat.lt_of_lt_of_le hi hl
  unfold c111_2;rw[aF hb];refine ql hi ?_;refine qz ?_;refine(aD hi).trans ?_;rfl
 ·unfold c111_2;refine qe ?_;rfl
theorem f49(s:aE)(h1:s.1.length<=maxLen)(h2:s.2.1.length<=maxLen):Ran p 3 49 [va K50 s] (rO K4 (aM s,())):=go49 λn hn=>by
 have inner:It (λaA (_:Unit)=>c49_8 (aJ p n) aA s) (0:Int) (λ_=>oB (bP s.2.1.length (f5 s.2.1))):=by
  refine cV (It.allB s.2.1.length (f5 s.2.1) true (λi hi aA a rec=>?_) (It.stop λaA a rec=>?_))
  ·have hb:i<9223372036854775807:=Nat.lt_of_lt_of_le hi h2
   unfold c49_8 f5;rw[aF hb];refine ql hi ?_;refine qz ?_;refine(aD hi).trans ?_;refine qC (f118 (gt s.2.1 i).1) ?_;refine chk λ_=>?_
   cases i with
   | zero=>refine qN (by decide) ?_;refine qC (f47 (gt s.2.1 0).2.1 1 1000) ?_;exact fin
   | succ j=>
    refine qP (by omega) ?_;rw[jY hb (by omega)];refine qz ?_;refine(aD (show j<s.2.1.length by omega)).trans ?_;refine RQ λ_=>?_
    refine qC (f47 (gt s.2.1 (j+1)).2.1 1 1000) ?_;exact fin
  ·unfold c49_8;refine qe ?_;rfl
 have outer:It (λaA (_:Unit)=>c49_2 (aJ p n) aA s) (0:Int) (λ_=>oB (aM s)):=by
  refine It.allB s.1.length (qJ s) _ (λi hi aA a rec=>?_) (It.stopE (T:=λaA _=>iter (c49_8 (aJ p n) aA s) aA (0:Int)) (λaA a rec=>?_) inner.all_i)
  ·have hb:i<9223372036854775807:=Nat.lt_of_lt_of_le hi h1
   unfold c49_2 qJ;rw[aF hb];refine ql hi ?_;refine qz ?_;refine(aD hi).trans ?_;refine qC (f118 (gt s.1 i).1) ?_;refine chk λ_=>?_
   cases i with
   | zero=>refine qN (by decide) ?_;refine qC (f119 (gt s.1 0).2) ?_;refine chk λ_=>?_;refine qC (f120 s (gt s.1 0).1 h2) ?_;exact FL
   | succ j=>
    refine qP (by omega) ?_;rw[jY hb (by omega)];refine qz ?_;refine(aD (show j<s.1.length by omega)).trans ?_;refine RQ λ_=>?_
    refine qC (f119 (gt s.1 (j+1)).2) ?_;refine chk λ_=>?_;refine qC (f120 s (gt s.1 (j+1)).1 h2) ?_;exact FL
  ·unfold c49_2;refine qe ?_;rfl
 exact Ev.eq (λaA=>by unfold T49;rfl) (outer.ev (i:=()) rfl)
theorem f46(s:aE)(h1:s.1.length<=maxLen)(h2:s.2.1.length<=maxLen):Ran p 3 46 [va K50 s] (rO K4 (aM s,())):=go46 λn hn=>by
 have inner:It (λaA (_:Unit)=>c46_8 (aJ p n) aA s) (0:Int) (λ_=>oB (bP s.1.length (qK s))):=by
  refine cV (It.allB s.1.length (qK s) true (λi hi aA a rec=>?_) (It.stop λaA a rec=>?_))
  ·have hb:i<9223372036854775807:=Nat.lt_of_lt_of_le hi h1
   unfold c46_8 qK;rw[aF hb];refine ql hi ?_;refine qz ?_;refine(aD hi).trans ?_;refine qC (f109 (gt s.1 i).1) ?_;refine chk λ_=>?_;refine qC (f110 (gt s.1 i).2) ?_;refine chk λ_=>?_;refine qC (f111 s (gt s.1 i).1 h2) ?_;refine RQ λ_=>?_
   cases i with
   | zero=>refine qN (by decide) ?_;rfl
   | succ j=>refine qP (by omega) ?_;rw[jY hb (by omega)];refine qz ?_;refine(aD (show j<s.1.length by omega)).trans ?_;exact FL
  ·unfold c46_8;refine qe ?_;rfl
 have outer:It (λaA (_:Unit)=>c46_2 (aJ p n) aA s) (0:Int) (λ_=>oB (bP s.2.1.length (jK s.2.1)&&bP s.1.length (qK s))):=by
  refine It.allB s.2.1.length (jK s.2.1) _ (λi hi aA a rec=>?_) (It.stopE (T:=λaA _=>iter (c46_8 (aJ p n) aA s) aA (0:Int)) (λaA a rec=>?_) inner.all_i)
  ·have hb:i<9223372036854775807:=Nat.lt_of_lt_of_le hi h2
   unfold c46_2 jK;rw[aF hb];refine ql hi ?_;refine qz ?_;refine(aD hi).trans ?_;refine qC (f109 (gt s.2.1 i).1) ?_;refine chk λ_=>?_;refine qC (f43 (gt s.2.1 i).2.1 1 1000) ?_;refine chk λ_=>?_
   cases i with
   | zero=>refine qN (by decide) ?_;rfl
   | succ j=>refine qP (by omega) ?_;rw[jY hb (by omega)];refine qz ?_;refine(aD (show j<s.2.1.length by omega)).trans ?_;exact FL
  ·unfold c46_2;refine qe ?_;rfl
 rw[MK] at outer
 exact Ev.eq (λaA=>by unfold T46;rfl) (outer.ev (i:=()) rfl)
end Go.Abs.Pz
set_option maxHeartbeats 2000000
namespace Go.Abs.Pz
open Go Go.Abs
def uF:Option (Nat×Nat)->Out
 | none=>⟨[⟨K3,((0:Int),())⟩,⟨K3,((0:Int),())⟩,⟨K4,(false,())⟩],[]⟩
 | some (x,j)=>⟨[⟨K3,((x:Int),())⟩,⟨K3,((j:Int),())⟩,⟨K4,(true,())⟩],[]⟩
theorem f277(b:List aH)(i:Int)(hb:B8 b)(hl:b.length<=aV):Ran p 1 277 [vf K22 (b,()), vf K3 (i,())] (uF (rM b i)):=go277 λn hn=>by
 unfold rM
 by_cases h0:i<0
 ·exact Ev.now λaA=>by unfold T277;refine qP h0 ?_;rw[decide_eq_true h0];rfl
 obtain⟨j,rfl⟩:∃ j:Nat,i=(j:Int):=⟨i.toNat,by omega⟩
 rw[decide_eq_false h0,Int.toNat_natCast]
 show Ev _ (uF (sR b j))
 by_cases h1:((j:Int)>=(b.length:Int))
 ·have e:sR b j=none:=by unfold sR uI;rw[if_neg (by omega)]
  rw[e]
  exact Ev.now λaA=>by unfold T277;refine qN h0 ?_;refine qP h1 ?_;rfl
 have hs:b.length<=9223372036854775000:=Nat.le_trans hl (by decide)
 have lp:∀ (m k acc:Nat),k+m=5->acc<128 ^ k->It (λaA (_:Unit)=>c277_5 (aJ p n) aA b (j:Int)) ((acc:Int),(k:Int)) (λ_=>some (uF (uI b j m k acc))):=by
  intro m
  induction m with
  | zero=>
   intro k acc hk ha
   refine It.stop λaA u rec=>?_
   unfold c277_5;dsimp only;refine qN (show ¬ ((k:Int)<5) by omega) ?_;rfl
  | succ m ih=>
   intro k acc hk ha
   have k5:k<5:=by omega
   have hp:=UZ k5
   have e1:i64.wrap ((j:Int)+(k:Int))=((j+k:Nat):Int):=by rw[IntKind.wrap_i64];omega
   unfold uI
   by_cases hin:j+k<b.length
   ·obtain⟨y,hy,hy2⟩:=hb (j+k) hin
    rw[if_pos hin,hy,Int.toNat_natCast]
    have e2:i64.wrap ((y:Int))=(y:Int):=by rw[IntKind.wrap_i64];omega
    have e3:vE i64 (((y % 128:Nat):Int)) (i64.wrap ((7:Int)*(k:Int)))=((y % 128*128 ^ k:Nat):Int):=KV (Nat.mod_lt _ (by omega)) k5
    have hm:y % 128*128 ^ k<=127*268435456:=Nat.mul_le_mul (by have:=Nat.mod_lt y (show 0<128 by omega);omega) hp
    have e4:i64.wrap ((acc:Int)+((y % 128*128 ^ k:Nat):Int))=((acc+y % 128*128 ^ k:Nat):Int):=by rw[IntKind.wrap_i64];omega
    have e5:¬ (i64.wrap ((7:Int)*(k:Int))<0):=by rw[OQ k5];omega
    have e6:i64.wrap ((k:Int)+1)=((k+1:Nat):Int):=by rw[IntKind.wrap_i64];omega
    have e7:i64.wrap (((j+k:Nat):Int)+1)=((j+k+1:Nat):Int):=by rw[IntKind.wrap_i64];omega
    by_cases h128:128<=y
    ·rw[if_pos h128]
     refine It.next (y:=(((acc+y % 128*128 ^ k:Nat):Int),((k+1:Nat):Int))) (λaA u rec=>?_) (ih (k+1) _ (by omega) (SB ha))
     unfold c277_5;dsimp only;refine qP (show(k:Int)<5 by omega) ?_;rw[e1];refine ql hin ?_;refine qz ?_;refine(aD hin).trans ?_;rw[show vI (gt b (j+k)).1=(y:Int)from hy,e2,u5,e3,e4,e6]
     refine qN (by decide) ?_;refine qN e5 ?_;refine qP (show(y:Int)>=128 by omega) ?_;rfl
    ·have ey:y % 128=y:=Nat.mod_eq_of_lt (by omega)
     rw[if_neg h128]
     refine It.stop λaA u rec=>?_
     unfold c277_5;dsimp only;refine qP (show(k:Int)<5 by omega) ?_;rw[e1];refine ql hin ?_;refine qz ?_;refine(aD hin).trans ?_;rw[show vI (gt b (j+k)).1=(y:Int)from hy,e2,u5,e3,e4,e7]
     refine qN (by decide) ?_;refine qN e5 ?_;refine qN (show ¬ ((y:Int)>=128) by omega) ?_
     rw[ey]
     by_cases hk0:0<k
     ·refine qP (show(k:Int)>0 by omega) ?_
      by_cases hy0:y=0
      ·rw[if_pos ⟨hk0,hy0⟩];refine qT (show((y:Int)==0)=true by rw[hy0];rfl) ?_;rfl
      ·rw[if_neg (by omega)];refine qF (show((y:Int)==0)=false by simp;omega) ?_
       by_cases hbig:acc+y*128 ^ k>2147483647
       ·rw[if_pos hbig];refine qP (show((acc+y*128 ^ k:Nat):Int)>2147483647 by omega) ?_;rfl
       ·rw[if_neg hbig];refine qN (show ¬ (((acc+y*128 ^ k:Nat):Int)>2147483647) by omega) ?_;rfl
     ·rw[if_neg (by omega)];refine qN (show ¬ ((k:Int)>0) by omega) ?_
      by_cases hbig:acc+y*128 ^ k>2147483647
      ·rw[if_pos hbig];refine qP (show((acc+y*128 ^ k:Nat):Int)>2147483647 by omega) ?_;rfl
      ·rw[if_neg hbig];refine qN (show ¬ (((acc+y*128 ^ k:Nat):Int)>2147483647) by omega) ?_;rfl
   ·rw[if_neg hin]
    refine It.stop λaA u rec=>?_
    unfold c277_5;dsimp only;refine qP (show(k:Int)<5 by omega) ?_;rw[e1];refine qN (show ¬ (((j+k:Nat):Int)<(b.length:Int)) by omega) ?_;rfl
 exact Ev.eq (λaA=>by unfold T277;refine qN h0 ?_;refine qN h1 ?_;rfl) ((lp 5 0 0 rfl (by decide)).ev (i:=()) rfl)
theorem f163(b:List aH)(i:Int)(hb:B8 b)(hl:b.length<=aV):Ran p 1 163 [vf K22 (b,()), vf K3 (i,())] (uF (rM b i)):=go163 λn hn=>by
 unfold rM
 have hs:b.length<=9223372036854775000:=Nat.le_trans hl (by decide)
 by_cases h0:i<0
 ·rw[decide_eq_true h0]
  have lp:It (λaA (_:Unit)=>c163_3 (aJ p n) aA b i) ((0:Int),(0:Int)) (λ_=>some (uF none)):=It.stop λaA u rec=>by
   unfold c163_3;dsimp only;refine qP (show(0:Int)<5 by omega) ?_;refine qP h0 ?_;rfl
  exact Ev.eq (λaA=>by unfold T163;rfl) (lp.ev (i:=()) rfl)
 obtain⟨j,rfl⟩:∃ j:Nat,i=(j:Int):=⟨i.toNat,by omega⟩
 rw[decide_eq_false h0,Int.toNat_natCast]
 show Ev _ (uF (sR b j))
 have lp:∀ (m k acc:Nat),k+m=5->acc<128 ^ k->It (λaA (_:Unit)=>c163_3 (aJ p n) aA b (j:Int)) ((acc:Int),(k:Int)) (λ_=>some (uF (uI b j m k acc))):=by
  intro m
  induction m with
  | zero=>
   intro k acc hk ha
   refine It.stop λaA u rec=>?_
   unfold c163_3;dsimp only;refine qN (show ¬ ((k:Int)<5) by omega) ?_;rfl
  | succ m ih=>
   intro k acc hk ha
   have k5:k<5:=by omega
   have hp:=UZ k5
   have e0:i64.wrap ((b.length:Int) - (k:Int))=(b.length:Int) - (k:Int):=by rw[IntKind.wrap_i64];omega
   unfold uI
   by_cases hin:j+k<b.length
   ·have e1:i64.wrap ((j:Int)+(k:Int))=((j+k:Nat):Int):=by rw[IntKind.wrap_i64];omega
    obtain⟨y,hy,hy2⟩:=hb (j+k) hin
    rw[if_pos hin,hy,Int.toNat_natCast]
    have e2:i64.wrap ((y:Int))=(y:Int):=by rw[IntKind.wrap_i64];omega
    have e3:vE i64 (((y % 128:Nat):Int)) (i64.wrap ((7:Int)*(k:Int)))=((y % 128*128 ^ k:Nat):Int):=KV (Nat.mod_lt _ (by omega)) k5
    have e4:orI i64 (acc:Int) ((y % 128*128 ^ k:Nat):Int)=((acc+y % 128*128 ^ k:Nat):Int):=U1 ha (Nat.mod_lt _ (by omega)) k5
    have e5:¬ (i64.wrap ((7:Int)*(k:Int))<0):=by rw[OQ k5];omega
    have e6:i64.wrap ((k:Int)+1)=((k+1:Nat):Int):=by rw[IntKind.wrap_i64];omega
    have e7:i64.wrap (((j+k:Nat):Int)+1)=((j+k+1:Nat):Int):=by rw[IntKind.wrap_i64];omega
    by_cases h128:128<=y
    ·rw[if_pos h128]
     refine It.next (y:=(((acc+y % 128*128 ^ k:Nat):Int),((k+1:Nat):Int))) (λaA u rec=>?_) (ih (k+1) _ (by omega) (SB ha))
     unfold c163_3;dsimp only;refine qP (show(k:Int)<5 by omega) ?_;refine qN h0 ?_;refine qN (show ¬ ((j:Int)>=i64.wrap ((b.length:Int) - (k:Int))) by rw[e0];omega) ?_;rw[e1];refine qz ?_;refine(aD hin).trans ?_;rw[show vI (gt b (j+k)).1=(y:Int)from hy,e2,u5,e3,e4,e6]
     refine qN (by decide) ?_;refine qN e5 ?_;refine qN (show ¬ ((y:Int)<128) by omega) ?_;rfl
    ·have ey:y % 128=y:=Nat.mod_eq_of_lt (by omega)
     rw[if_neg h128]
     refine It.stop λaA u rec=>?_
     unfold c163_3;dsimp only;refine qP (show(k:Int)<5 by omega) ?_;refine qN h0 ?_;refine qN (show ¬ ((j:Int)>=i64.wrap ((b.length:Int) - (k:Int))) by rw[e0];omega) ?_;rw[e1];refine qz ?_;refine(aD hin).trans ?_;rw[show vI (gt b (j+k)).1=(y:Int)from hy,e2,u5,e3,e4,e7]
     refine qN (by decide) ?_;refine qN e5 ?_;refine qP (show(y:Int)<128 by omega) ?_
     rw[ey]
     by_cases hk0:0<k
     ·refine qP (show(k:Int)>0 by omega) ?_
      by_cases hy0:y=0
      ·rw[if_pos ⟨hk0,hy0⟩];refine qT (show((y:Int)==0)=true by rw[hy0];rfl) ?_;rfl
      ·rw[if_neg (by omega)];refine qF (show((y:Int)==0)=false by simp;omega) ?_
       by_cases hbig:acc+y*128 ^ k>2147483647
       ·rw[if_pos hbig];refine qP (show((acc+y*128 ^ k:Nat):Int)>2147483647 by omega) ?_;rfl
       ·rw[if_neg hbig];refine qN (show ¬ (((acc+y*128 ^ k:Nat):Int)>2147483647) by omega) ?_;rfl
     ·rw[if_neg (by omega)];refine qN (show ¬ ((k:Int)>0) by omega) ?_
      by_cases hbig:acc+y*128 ^ k>2147483647
      ·rw[if_pos hbig];refine qP (show((acc+y*128 ^ k:Nat):Int)>2147483647 by omega) ?_;rfl
      ·rw[if_neg hbig];refine qN (show ¬ (((acc+y*128 ^ k:Nat):Int)>2147483647) by omega) ?_;rfl
   ·rw[if_neg hin]
    refine It.stop λaA u rec=>?_
    unfold c163_3;dsimp only;refine qP (show(k:Int)<5 by omega) ?_;refine qN h0 ?_;refine qP (show((j:Int)>=i64.wrap ((b.length:Int) - (k:Int))) by rw[e0];omega) ?_;rfl
 exact Ev.eq (λaA=>by unfold T163;rfl) ((lp 5 0 0 rfl (by decide)).ev (i:=()) rfl)
end Go.Abs.Pz
set_option maxHeartbeats 2000000
namespace Go.Abs.Pz
open Go Go.Abs
-- a number read off a reader: (the number, the reader behind it)
theorem f205(r:RdT)(h:RdOk r):Ran p 2 205 [.ref ⟨K234,r⟩] ⟨[⟨K3,((aO r).1,())⟩],[⟨K234,(aO r).2⟩]⟩:=go205 λn hn=>Ev.now λaA=>by
 have hg:=f277 r.1 r.2.1 h.b8 h.len
 unfold T205 aO
 cases e:rM r.1 r.2.1 with
 | none=>
  rw[e] at hg
  refine qE hg ?_
  obtain⟨r1,r2,r3,ru⟩:=r;cases r3 with
  | true=>rfl
  | false=>refine qf ?_;rfl
 | some q=>
  obtain⟨x,j⟩:=q
  rw[e] at hg
  refine qE hg ?_
  obtain⟨r1,r2,r3,ru⟩:=r;cases r3 with
  | true=>rfl
  | false=>refine qf ?_;rfl
theorem f72(r:RdT)(h:RdOk r):Ran p 2 72 [.ref ⟨K113,r⟩] ⟨[⟨K3,((aO r).1,())⟩],[⟨K113,(aO r).2⟩]⟩:=go72 λn hn=>Ev.now λaA=>by
 have hg:=f163 r.1 r.2.1 h.b8 h.len
 unfold T72 aO
 cases e:rM r.1 r.2.1 with
 | none=>
  rw[e] at hg
  refine qE hg ?_
  obtain⟨r1,r2,r3,ru⟩:=r;cases r3 with
  | true=>rfl
  | false=>refine qf ?_;rfl
 | some q=>
  obtain⟨x,j⟩:=q
  rw[e] at hg
  refine qE hg ?_
  obtain⟨r1,r2,r3,ru⟩:=r;cases r3 with
  | true=>rfl
  | false=>refine qf ?_;rfl
end Go.Abs.Pz
set_option maxHeartbeats 2000000
namespace Go.Abs.Pz
open Go Go.Abs
theorem f208(r:RdT)(m:Int)(h:RdOk r):Ran p 3 208 [.ref ⟨K234,r⟩, vf K3 (m,())] ⟨[⟨K3,((eW r m).1,())⟩],[⟨K234,(eW r m).2⟩]⟩:=go208 λn hn=>Ev.now λaA=>by
 unfold T208 eW;refine qR (f205 r h) ?_
 cases e:decide ((aO r).1>m)with
 | true=>rfl
 | false=>rfl
def wK:Option (ByteArray×Nat)->Out
 | none=>⟨[⟨K9,((⟨#[]⟩:ByteArray),())⟩,⟨K3,((0:Int),())⟩,⟨K4,(false,())⟩],[]⟩
 | some (s,j)=>⟨[⟨K9,(s,())⟩,⟨K3,((j:Int),())⟩,⟨K4,(true,())⟩],[]⟩
theorem f326(b:List aH)(i:Int)(hb:B8 b)(hl:b.length<=aV):Ran p 2 326 [vf K22 (b,()), vf K3 (i,())] (wK (uZ b i)):=go326 λn hn=>Ev.now λaA=>by
 have hg:=f277 b i hb hl
 have hs:b.length<=9223372036854775000:=Nat.le_trans hl (by decide)
 unfold T326 uZ
 cases e:rM b i with
 | none=>
  rw[e] at hg
  refine qE hg ?_;rfl
 | some q=>
  obtain⟨x,j⟩:=q
  rw[e] at hg
  have hbd:=zR e
  refine qE hg ?_;refine qf ?_
  have e1:i64.wrap ((b.length:Int) - (j:Int))=(b.length:Int) - (j:Int):=by rw[IntKind.wrap_i64];omega
  by_cases hx:x>b.length - j
  ·show _=some (wK (if x>b.length - j then none else some (cQ ((b.take (j+x)).drop j),j+x)))
   rw[if_pos hx]
   refine qP (show((x:Int)>i64.wrap ((b.length:Int) - (j:Int))) by rw[e1];omega) ?_;rfl
  ·show _=some (wK (if x>b.length - j then none else some (cQ ((b.take (j+x)).drop j),j+x)))
   rw[if_neg hx]
   have e2:i64.wrap ((j:Int)+(x:Int))=((j+x:Nat):Int):=by rw[IntKind.wrap_i64];omega
   refine qN (show ¬ ((x:Int)>i64.wrap ((b.length:Int) - (j:Int))) by rw[e1];omega) ?_
   rw[show i64.wrap (vI ((j:Int))+vI ((x:Int)))=((j+x:Nat):Int)from e2]
   refine qT (show(decide ((0:Int)<=((j+x:Nat):Int))&&decide (((j+x:Nat):Int)<=(b.length:Int)))=true by rw[decide_eq_true (by omega),decide_eq_true (by omega)];rfl) ?_
   refine qT (show(decide ((0:Int)<=(j:Int))&&decide ((j:Int)<=(((((j+x:Nat):Int)).toNat:Nat):Int)))=true by rw[decide_eq_true (by omega),decide_eq_true (by omega)];rfl) ?_
   rfl
theorem f164(b:List aH)(i:Int)(hb:B8 b)(hl:b.length<=aV):Ran p 2 164 [vf K22 (b,()), vf K3 (i,())] (wK (uZ b i)):=go164 λn hn=>Ev.now λaA=>by
 have hg:=f163 b i hb hl
 have hs:b.length<=9223372036854775000:=Nat.le_trans hl (by decide)
 unfold T164 uZ
 cases e:rM b i with
 | none=>
  rw[e] at hg
  refine qE hg ?_;rfl
 | some q=>
  obtain⟨x,j⟩:=q
  rw[e] at hg
  have hbd:=zR e
  refine qE hg ?_;refine qf ?_
  have e1:i64.wrap ((b.length:Int) - (j:Int))=(b.length:Int) - (j:Int):=by rw[IntKind.wrap_i64];omega
  by_cases hx:x>b.length - j
  ·show _=some (wK (if x>b.length - j then none else some (cQ ((b.take (j+x)).drop j),j+x)))
   rw[if_pos hx]
   refine qP (show((x:Int)>i64.wrap ((b.length:Int) - (j:Int))) by rw[e1];omega) ?_;rfl
  ·show _=some (wK (if x>b.length - j then none else some (cQ ((b.take (j+x)).drop j),j+x)))
   rw[if_neg hx]
   have e2:i64.wrap ((j:Int)+(x:Int))=((j+x:Nat):Int):=by rw[IntKind.wrap_i64];omega
   refine qN (show ¬ ((x:Int)>i64.wrap ((b.length:Int) - (j:Int))) by rw[e1];omega) ?_
   rw[show i64.wrap (vI ((j:Int))+vI ((x:Int)))=((j+x:Nat):Int)from e2]
   refine qT (show(decide ((0:Int)<=((j+x:Nat):Int))&&decide (((j+x:Nat):Int)<=(b.length:Int)))=true by rw[decide_eq_true (by omega),decide_eq_true (by omega)];rfl) ?_
   refine qT (show(decide ((0:Int)<=(j:Int))&&decide ((j:Int)<=(((((j+x:Nat):Int)).toNat:Nat):Int)))=true by rw[decide_eq_true (by omega),decide_eq_true (by omega)];rfl) ?_
   rfl
end Go.Abs.Pz
set_option maxHeartbeats 2000000
namespace Go.Abs.Pz
open Go Go.Abs
theorem f278(r:RdT)(h:RdOk r):Ran p 3 278 [.ref ⟨K234,r⟩] ⟨[⟨K9,((mY r).1,())⟩],[⟨K234,(mY r).2⟩]⟩:=go278 λn hn=>Ev.now λaA=>by
 have hg:=f326 r.1 r.2.1 h.b8 h.len
 unfold T278 mY
 cases e:uZ r.1 r.2.1 with
 | none=>
  rw[e] at hg
  refine qE hg ?_
  obtain⟨r1,r2,r3,ru⟩:=r;cases r3 with
  | true=>rfl
  | false=>refine qf ?_;rfl
 | some q=>
  obtain⟨x,j⟩:=q
  rw[e] at hg
  refine qE hg ?_
  obtain⟨r1,r2,r3,ru⟩:=r;cases r3 with
  | true=>rfl
  | false=>refine qf ?_;rfl
-- several numbers
def SZ(k:Nat)(q:List aH×RdT):Int×List aH×List aH×Int×Bool:=((k:Int),q.1,q.2.1,q.2.2.1,q.2.2.2.1)
theorem f206(r:RdT)(m:Int)(h:RdOk r)(hm:0<=m/\m<=1000):Ran p 4 206 [.ref ⟨K234,r⟩, vf K3 (m,())] ⟨[⟨K38,((lX r m).1,())⟩],[⟨K234,(lX r m).2⟩]⟩:=go206 λn hn=>by
 have hc:=sD r hm.1
 have hk:=h.cnt m
 have lp:It (λaA (_:Unit)=>c206_4 (aJ p n) aA ((((eW r m).1,()),()),((eW r m).2,()))) (SZ 0 (cN wY (eW r m).2 0)) (λ_=>some ⟨[⟨K38,((lX r m).1,())⟩],[⟨K234,(lX r m).2⟩]⟩):=by
  refine It.run (λi=>SZ i (cN wY (eW r m).2 i)) (eW r m).1.toNat (λi hi aA u rec=>?_) (It.stop λaA u rec=>?_)
  ·have hl:=iV wY (eW r m).2 i
   have hbd:(cN wY (eW r m).2 i).1.length+1<=bound:=by unfold bound;omega
   unfold c206_4 SZ;dsimp only;rw[aF (show i<9223372036854775807 by omega)];refine qP (show(i:Int)<(eW r m).1 by omega) ?_;refine qR (f205 (cN wY (eW r m).2 i).2 (oX (f:=wY) (λr h=>RdOk.num h) hk i)) ?_;refine qP hbd ?_;rfl
  ·unfold c206_4 SZ;dsimp only;refine qN (show ¬ ((((eW r m).1.toNat:Nat):Int)<(eW r m).1) by omega) ?_;rfl
 exact Ev.eq (λaA=>by unfold T206;refine qR (f208 r m h) ?_;rfl) (lp.ev (i:=()) rfl)
end Go.Abs.Pz
namespace Go.Abs.Pz
open Go Go.Abs
theorem f79(a b:List aH)(ha:a.length<=maxLen):Ran p 1 79 [vf K38 (a,()), vf K38 (b,())] (rO K4 (gT a b,())):=go79 λn hn=>by
 by_cases he:a.length=b.length
 ·have e:((a.length:Int) != (b.length:Int))=false:=by simp[he]
  have e2:gT a b=bP a.length (λi=>(gt a i).1==(gt b i).1):=by unfold gT;rw[he];simp
  rw[e2]
  have lp:It (λaA (_:Unit)=>c79_4 (aJ p n) aA a b) (0:Int) (λ_=>oB (bP a.length (λi=>(gt a i).1==(gt b i).1))):=by
   refine cV (It.allB a.length _ true (λi hi aA a' rec=>?_) (It.stop λaA a' rec=>?_))
   ·have hb:i<9223372036854775807:=Nat.lt_of_lt_of_le hi ha
    unfold c79_4;rw[aF hb];refine ql hi ?_;refine qz ?_;refine(aD hi).trans ?_;refine qz ?_;refine(aD (show i<b.length from he▸hi)).trans ?_;exact fin
   ·unfold c79_4;refine qe ?_;rfl
  exact Ev.eq (λaA=>by unfold T79;exact gR e) (lp.ev (i:=()) rfl)
 ·have e:((a.length:Int) != (b.length:Int))=true:=by simp;omega
  have e2:gT a b=false:=by unfold gT;rw[show((a.length:Int)==(b.length:Int))=false from by simp;omega];rfl
  rw[e2]
  exact Ev.now λaA=>by unfold T79;exact jW e
theorem f144(a b:List aH)(ha:a.length<=maxLen):Ran p 1 144 [vf K38 (a,()), vf K38 (b,())] (rO K4 (gT a b,())):=go144 λn hn=>by
 by_cases he:a.length=b.length
 ·have e:((a.length:Int) != (b.length:Int))=false:=by simp[he]
  have e2:gT a b=bP a.length (λi=>(gt a i).1==(gt b i).1):=by unfold gT;rw[he];simp
  rw[e2]
  have lp:It (λaA (_:Unit)=>c144_4 (aJ p n) aA a b) (0:Int) (λ_=>oB (bP a.length (λi=>(gt a i).1==(gt b i).1))):=by
   refine cV (It.allB a.length _ true (λi hi aA a' rec=>?_) (It.stop λaA a' rec=>?_))
   ·have hb:i<9223372036854775807:=Nat.lt_of_lt_of_le hi ha
    unfold c144_4;rw[aF hb];refine ql hi ?_;refine qz ?_;refine(aD hi).trans ?_;refine qz ?_;refine(aD (show i<b.length from he▸hi)).trans ?_;exact fin
   ·unfold c144_4;refine qe ?_;rfl
  exact Ev.eq (λaA=>by unfold T144;exact gR e) (lp.ev (i:=()) rfl)
 ·have e:((a.length:Int) != (b.length:Int))=true:=by simp;omega
  have e2:gT a b=false:=by unfold gT;rw[show((a.length:Int)==(b.length:Int))=false from by simp;omega];rfl
  rw[e2]
  exact Ev.now λaA=>by unfold T144;exact jW e
theorem f77(a b:kN)(ha:a.1.length<=maxLen):Ran p 2 77 [va K46 a, va K46 b] (rO K4 (gT a.1 b.1&&a.2.1==b.2.1,())):=go77 λn hn=>Ev.now λaA=>by
 unfold T77;refine qC (f79 a.1 b.1 ha) ?_;refine gB λ_=>?_;rfl
theorem f100(a b:kN)(ha:a.1.length<=maxLen):Ran p 2 100 [va K46 a, va K46 b] (rO K4 (gT a.1 b.1&&a.2.1==b.2.1,())):=go100 λn hn=>Ev.now λaA=>by
 unfold T100;refine qC (f144 a.1 b.1 ha) ?_;refine gB λ_=>?_;rfl
theorem f245(x:Int):Ran p 2 245 [vf K3 (x,())] (rO K22 (aG x,())):=go245 λn hn=>by
 cases hx:inB x 0 2147483647 with
 | false=>
  refine Ev.now λaA=>?_
  unfold T245 aG;refine qC (f47 x 0 2147483647) ?_;rw[hx];rfl
 | true=>
  have hr:=aQ.1 hx
  obtain⟨m,rfl⟩:∃ m:Nat,x=m:=⟨x.toNat,by omega⟩
  have lp:It (λaA (_:Unit)=>c245_4 (aJ p n) aA) ((m:Int),([]:List aH)) (λ_=>rV K22 (([]:List aH)++iU m,())):=by
   refine AU (λl=>rV K22 (l,())) (λm hm pre hp aA a rec=>?_) (λm hm pre hp aA a rec=>?_) 5 m [] (by omega) (by omega) (by decide)
   ·unfold c245_4;refine qN (by show ¬ ((m:Int)>127);omega) ?_;refine qP (by show pre.length+1<=4294967296;omega) ?_;rfl
   ·unfold c245_4;refine qP (by show(m:Int)>127;omega) ?_;refine qN (by decide) ?_;refine qP (by show pre.length+1<=4294967296;omega) ?_;refine qN (by decide) ?_;rfl
  have e2:aG (m:Int)=iU m:=by unfold aG;rw[hx];rfl
  rw[e2]
  exact Ev.eq (λaA=>by unfold T245;refine qC (f47 (m:Int) 0 2147483647) ?_;rw[hx];rfl) (lp.ev (i:=()) rfl)
theorem f275(x:Int):Ran p 2 275 [vf K3 (x,())] (rO K22 (aG x,())):=go275 λn hn=>by
 cases hx:inB x 0 2147483647 with
 | false=>
  refine Ev.now λaA=>?_
  unfold T275 aG;refine qC (f43 x 0 2147483647) ?_;rw[hx];rfl
 | true=>
  have hr:=aQ.1 hx
  obtain⟨m,rfl⟩:∃ m:Nat,x=m:=⟨x.toNat,by omega⟩
  have lp:It (λaA (_:Unit)=>c275_4 (aJ p n) aA) ((m:Int),([]:List aH)) (λ_=>rV K22 (([]:List aH)++iU m,())):=by
   refine AU (λl=>rV K22 (l,())) (λm hm pre hp aA a rec=>?_) (λm hm pre hp aA a rec=>?_) 5 m [] (by omega) (by omega) (by decide)
   ·unfold c275_4;refine qN (by show ¬ ((m:Int)>=128);omega) ?_;refine qP (by show pre.length+1<=4294967296;omega) ?_;rfl
   ·unfold c275_4;refine qP (by show(m:Int)>=128;omega) ?_;refine qN (by decide) ?_;refine qP (by show pre.length+1<=4294967296;omega) ?_;refine qN (by decide) ?_;rfl
  have e2:aG (m:Int)=iU m:=by unfold aG;rw[hx];rfl
  rw[e2]
  exact Ev.eq (λaA=>by unfold T275;refine qC (f43 (m:Int) 0 2147483647) ?_;rw[hx];rfl) (lp.ev (i:=()) rfl)
theorem f204(ps:List bT)(L:Nat)(hL:∀ i,i<ps.length->(gt ps i).1.length<=L)(hb:ps.length*L<=bound)(hp:ps.length<=maxLen):Ran p 1 204 [vf K250 (ps,())] (rO K22 (ps.flatMap (λr=>r.1),())):=go204 λn hn=>by
 have lp:It (λaA (_:Unit)=>c204_3 (aJ p n) aA ps) ((0:Int),([]:List aH)) (λ_=>rV K22 (ps.flatMap (λr=>r.1),())):=by
  refine It.accu [] (λi=>(gt ps i).1) ps.length L hL (λi hi acc ha aA a rec=>?_) (It.stop λaA a rec=>?_)
  ·have hb':i<9223372036854775807:=Nat.lt_of_lt_of_le hi hp
   unfold c204_3;dsimp only;rw[aF hb'];refine ql hi ?_;refine qz ?_;refine(aD hi).trans ?_;refine qP (Nat.le_trans ha (by simpa using hb)) ?_;rfl
  ·unfold c204_3;refine qe ?_;exact congrArg (λl:List aH=>(rV K22 (l,()):Option Out)) (cI (λr:bT=>r.1) ps)
 exact Ev.eq (λaA=>by unfold T204;rfl) (lp.ev (i:=()) rfl)
theorem f246(s:ByteArray)(hs:ByteArray.size s<=1048576):Ran p 3 246 [vf K9 (s,())] (rO K22 (eE s,())):=go246 λn hn=>Ev.now λaA=>by
 unfold T246;refine qC (f245 ((ByteArray.size s:Nat):Int)) ?_;
 refine(nU ?_).trans rfl
 have h1:=bB ((ByteArray.size s:Nat):Int)
 have h2:=kY s
 show(aG ((ByteArray.size s:Nat):Int)).length+(gA s).length<=4294967296
 omega
theorem f321(s:ByteArray)(hs:ByteArray.size s<=1048576):Ran p 3 321 [vf K9 (s,())] (rO K22 (eE s,())):=go321 λn hn=>Ev.now λaA=>by
 unfold T321;refine qC (f275 ((ByteArray.size s:Nat):Int)) ?_
 have h1:=bB ((ByteArray.size s:Nat):Int)
 have h2:=kY s
 refine qC (f204 [(aG ((ByteArray.size s:Nat):Int),()),(gA s,())] 1048576 (λi hi=>by
  rcases i with _ | _ | i
  ·show(aG ((ByteArray.size s:Nat):Int)).length<=_;omega
  ·show(gA s).length<=_;omega
  ·exact absurd hi (by show ¬ (i+1+1<2);omega)) (by show 2*1048576<=4294967296;omega) (by show 2<=9223372036854775807;omega)) ?_
 exact congrArg (λl:List aH=>(rV K22 (l,()):Option Out)) (by simp[eE]:List.flatMap (λr:bT=>r.1) [(aG ((ByteArray.size s:Nat):Int),()),(gA s,())]=eE s)
theorem f162(bs:List aH)(hl:bs.length<=maxLen):Ran p 1 162 [vf K22 (bs,())] (rO K3 (crc bs,())):=go162 λn hn=>by
 have inner:∀ (i:Nat),i<9223372036854775807->∀ x0:Int,It (λaA rec3=>c162_7 (aJ p n) aA bs (i:Int) rec3) (x0,(0:Int)) (λrec3=>rec3 (jO 8 x0,((i+1:Nat):Int))):=by
  intro i hi x0
  refine It.run (λk=>(jO k x0,(k:Int))) 8 (λk hk aA rec3 rec=>?_) (It.stop λaA rec3 rec=>?_)
  ·have hb:k<9223372036854775807:=by omega
   unfold c162_7;dsimp only;rw[aF hb];refine qP (by omega) ?_;refine qN (by decide) ?_;refine qN (by decide) ?_
   show _=rec (uN (jO k x0),((k+1:Nat):Int))
   unfold uN
   cases ((jO k x0).tmod 2==1)<;>rfl
  ·unfold c162_7;dsimp only;rw[aF hi];exact jP (by decide)
 have outer:It (λaA (_:Unit)=>c162_3 (aJ p n) aA bs) ((4294967295:Int),(0:Int)) (λ_=>oI (crc bs)):=by
  refine It.runE (λi=>(y3 bs i,(i:Int))) bs.length (λi hi=>?_) (It.stop λaA a rec=>?_)
  ·have hb:i<9223372036854775807:=Nat.lt_of_lt_of_le hi hl
   obtain⟨N,hN⟩:=(inner i hb (jQ .i64 (y3 bs i) (i64.wrap (gt bs i).1))).all_i
   refine⟨N,λaA hf a rec=>?_⟩
   unfold c162_3;refine ql hi ?_;refine qz ?_;refine(aD hi).trans ?_;exact hN aA hf rec
  ·unfold c162_3;refine qe ?_;rfl
 exact Ev.eq (λaA=>by unfold T162;rfl) (outer.ev (i:=()) rfl)
theorem f272(bs:List aH)(hl:bs.length<=maxLen):Ran p 1 272 [vf K22 (bs,())] (rO K3 (crc bs,())):=go272 λn hn=>by
 have inner:∀ (i:Nat),i<9223372036854775807->∀ x0:Int,It (λaA rec3=>c272_7 (aJ p n) aA bs (i:Int) rec3) (x0,(0:Int)) (λrec3=>rec3 (jO 8 x0,((i+1:Nat):Int))):=by
  intro i hi x0
  refine It.run (λk=>(jO k x0,(k:Int))) 8 (λk hk aA rec3 rec=>?_) (It.stop λaA rec3 rec=>?_)
  ·have hb:k<9223372036854775807:=by omega
   unfold c272_7;dsimp only;rw[aF hb];refine qP (by omega) ?_;refine qN (by decide) ?_;refine qN (by decide) ?_
   show _=rec (uN (jO k x0),((k+1:Nat):Int))
   unfold uN
   cases ((jO k x0).tmod 2==1)<;>rfl
  ·unfold c272_7;dsimp only;rw[aF hi];exact jP (by decide)
 have outer:It (λaA (_:Unit)=>c272_3 (aJ p n) aA bs) ((4294967295:Int),(0:Int)) (λ_=>oI (crc bs)):=by
  refine It.runE (λi=>(y3 bs i,(i:Int))) bs.length (λi hi=>?_) (It.stop λaA a rec=>?_)
  ·have hb:i<9223372036854775807:=Nat.lt_of_lt_of_le hi hl
   obtain⟨N,hN⟩:=(inner i hb (jQ .i64 (y3 bs i) (i64.wrap (gt bs i).1))).all_i
   refine⟨N,λaA hf a rec=>?_⟩
   unfold c272_3;refine ql hi ?_;refine qz ?_;refine(aD hi).trans ?_;exact hN aA hf rec
  ·unfold c272_3;refine qe ?_;rfl
 exact Ev.eq (λaA=>by unfold T272;rfl) (outer.ev (i:=()) rfl)
theorem f325(x:Int):Ran p 3 325 [vf K3 (x,())] (rO K3 (dP x,())):=go325 λn hn=>Ev.now λaA=>by
 unfold T325 dP;refine qC (f118 x) ?_
 cases eF x with
 | false=>rfl
 | true=>
  refine qf ?_
  refine qC (f245 x) ?_;refine qC (f162 (aG x) (Nat.le_trans (bB x) (by decide))) ?_;refine qN (by decide) ?_;rfl
theorem f323(x:Int):Ran p 3 323 [vf K3 (x,())] (rO K3 (dP x,())):=go323 λn hn=>Ev.now λaA=>by
 unfold T323 dP;refine qC (f109 x) ?_
 cases eF x with
 | false=>rfl
 | true=>
  refine qf ?_
  refine qC (f275 x) ?_;refine qC (f272 (aG x) (Nat.le_trans (bB x) (by decide))) ?_;refine qN (by decide) ?_;rfl
theorem f324(ls:List aH)(x:Int)(hl:ls.length<=maxLen):Ran p 1 324 [vf K38 (ls,()), vf K3 (x,())] (rO K4 (kF ls x,())):=go324 λn hn=>by
 have lp:It (λaA (_:Unit)=>c324_2 (aJ p n) aA ls x) (0:Int) (λ_=>oB (kF ls x)):=by
  rw[HK]
  refine It.anyB ls.length _ (λi hi aA a rec=>?_) (λaA a rec=>?_)
  ·have hb:i<9223372036854775807:=Nat.lt_of_lt_of_le hi hl
   unfold c324_2;rw[aF hb];refine ql hi ?_;refine qz ?_;refine(aD hi).trans ?_;rfl
  ·unfold c324_2;refine qe ?_;rfl
 exact Ev.eq (λaA=>by unfold T324;rfl) (lp.ev (i:=()) rfl)
theorem f350(ls:List aH)(x:Int)(hl:ls.length<=maxLen):Ran p 1 350 [vf K38 (ls,()), vf K3 (x,())] (rO K3 (QZ ls x,())):=go350 λn hn=>by
 have lp:It (λaA (_:Unit)=>c350_2 (aJ p n) aA ls x) (0:Int) (λ_=>oI (QZ ls x)):=by
  have:=It.first (c:=λaA (_:Unit)=>c350_2 (aJ p n) aA ls x) (λi=>(i:Int)) ls.length (λi=>x==(gt ls i).1) (λi _=>oI (i:Int)) (λ_=>oI (-1)) (λi hi hp aA a rec=>?_) (λi hi hp=>It.stop λaA a rec=>?_) (It.stop λaA a rec=>?_)
  ·revert this;unfold QZ
   cases (List.range ls.length).find? (λi=>x==(gt ls i).1)<;>exact λh=>h
  ·have hb:i<9223372036854775807:=Nat.lt_of_lt_of_le hi hl
   unfold c350_2;rw[aF hb];refine ql hi ?_;refine qz ?_;refine(aD hi).trans ?_;exact gR hp
  ·unfold c350_2;refine ql hi ?_;refine qz ?_;refine(aD hi).trans ?_;exact jW hp
  ·unfold c350_2;refine qe ?_;rfl
 exact Ev.eq (λaA=>by unfold T350;rfl) (lp.ev (i:=()) rfl)
theorem f322(ls:List aH)(x:Int)(hl:ls.length<=maxLen):Ran p 2 322 [vf K38 (ls,()), vf K3 (x,())] (rO K4 (kF ls x,())):=go322 λn hn=>Ev.now λaA=>by
 unfold T322;refine qC (f350 ls x hl) ?_;exact congrArg (λb:Bool=>(rV K4 (b,()):Option Out)) (QY ls x)
theorem f276(s:aE)(ls:List aH)(hl:ls.length<=maxLen)(h1:s.1.length<=1000)(h2:s.2.1.length<=1000):Ran p 4 276 [va K50 s, vf K38 (ls,())] (rO K50 (jS s ls)):=go276 λn hn=>by
 have inner:∀ v:List bN,It (λaA (_:Unit)=>c276_8 (aJ p n) aA s ls v) ((0:Int),([]:List aR)) (λ_=>rV K50 (v,s.2.1.filter (λf=>kF ls (dP f.1)),())):=by
  intro v
  refine It.accu (α:=aR) [] (λi=>bif kF ls (dP (gt s.2.1 i).1)then[gt s.2.1 i] else[]) s.2.1.length 1 (λi hi=>by cases kF ls (dP (gt s.2.1 i).1)<;>simp) (λi hi acc ha aA a rec=>?_) (It.stop λaA a rec=>?_)
  ·have hb:i<9223372036854775807:=by omega
   unfold c276_8;dsimp only;rw[aF hb];refine ql hi ?_;refine qz ?_;refine(aD hi).trans ?_;refine qC (f325 (gt s.2.1 i).1) ?_;refine qC (f324 ls (dP (gt s.2.1 i).1) hl) ?_
   cases hq:kF ls (dP (gt s.2.1 i).1)with
   | false=>exact(congrArg (λl:List aR=>rec (((i+1:Nat):Int),l)) (List.append_nil acc).symm:_)
   | true=>refine qt ?_;refine qz ?_;refine(aD hi).trans ?_;refine qP (by rw[hq] at ha;have:acc.length+1<=0+s.2.1.length*1:=ha;show acc.length+1<=4294967296;omega) ?_;rfl
  ·unfold c276_8;refine qe ?_;exact congrArg (λl:List aR=>(rV K50 (v,l,()):Option Out)) ((cI (λf:aR=>bif kF ls (dP f.1)then[f] else[]) s.2.1).trans (iP _ _))
 have outer:It (λaA (_:Unit)=>c276_3 (aJ p n) aA s ls) ((0:Int),([]:List bN)) (λ_=>rV K50 (jS s ls)):=by
  refine It.accu (α:=bN) [] (λi=>bif kF ls (dP (gt s.1 i).1)then[gt s.1 i] else[]) s.1.length 1 (λi hi=>by cases kF ls (dP (gt s.1 i).1)<;>simp) (λi hi acc ha aA a rec=>?_) (It.stopE (T:=λaA _=>iter (c276_8 (aJ p n) aA s ls (s.1.filter (λx=>kF ls (dP x.1)))) aA ((0:Int),([]:List aR))) (λaA a rec=>?_) (inner _).all_i)
  ·have hb:i<9223372036854775807:=by omega
   unfold c276_3;dsimp only;rw[aF hb];refine ql hi ?_;refine qz ?_;refine(aD hi).trans ?_;refine qC (f325 (gt s.1 i).1) ?_;refine qC (f324 ls (dP (gt s.1 i).1) hl) ?_
   cases hq:kF ls (dP (gt s.1 i).1)with
   | false=>exact(congrArg (λl:List bN=>rec (((i+1:Nat):Int),l)) (List.append_nil acc).symm:_)
   | true=>refine qt ?_;refine qz ?_;refine(aD hi).trans ?_;refine qP (by rw[hq] at ha;have:acc.length+1<=0+s.1.length*1:=ha;show acc.length+1<=4294967296;omega) ?_;rfl
  ·unfold c276_3;refine qe ?_;exact congrArg (λl:List bN=>iter (c276_8 (aJ p n) aA s ls l) aA ((0:Int),([]:List aR))) ((cI (λf:bN=>bif kF ls (dP f.1)then[f] else[]) s.1).trans (iP _ _))
 exact Ev.eq (λaA=>by unfold T276;rfl) (outer.ev (i:=()) rfl)
theorem f274(s:aE)(ls:List aH)(hl:ls.length<=maxLen)(h1:s.1.length<=1000)(h2:s.2.1.length<=1000)(hok:aM s=true):Ran p 4 274 [va K50 s, vf K38 (ls,())] (rO K50 (jS s ls)):=go274 λn hn=>by
 have inner:∀ v:List bN,It (λaA (_:Unit)=>c274_11 (aJ p n) aA s ls v) ((0:Int),([]:List aR)) (λ_=>rV K50 (v,s.2.1.filter (λf=>kF ls (dP f.1)),())):=by
  intro v
  refine It.accu (α:=aR) [] (λi=>bif kF ls (dP (gt s.2.1 i).1)then[gt s.2.1 i] else[]) s.2.1.length 1 (λi hi=>by cases kF ls (dP (gt s.2.1 i).1)<;>simp) (λi hi acc ha aA a rec=>?_) (It.stop λaA a rec=>?_)
  ·have hb:i<9223372036854775807:=by omega
   unfold c274_11;dsimp only;rw[aF hb];refine ql hi ?_;refine qz ?_;refine(aD hi).trans ?_;refine qC (f323 (gt s.2.1 i).1) ?_;refine qC (f322 ls (dP (gt s.2.1 i).1) hl) ?_
   cases hq:kF ls (dP (gt s.2.1 i).1)with
   | false=>exact(congrArg (λl:List aR=>rec (((i+1:Nat):Int),l)) (List.append_nil acc).symm:_)
   | true=>refine qt ?_;refine qP (by rw[hq] at ha;have:acc.length+1<=0+s.2.1.length*1:=ha;show acc.length+1<=4294967296;omega) ?_;rfl
  ·unfold c274_11;refine qe ?_;exact congrArg (λl:List aR=>(rV K50 (v,l,()):Option Out)) ((cI (λf:aR=>bif kF ls (dP f.1)then[f] else[]) s.2.1).trans (iP _ _))
 have outer:It (λaA (_:Unit)=>c274_5 (aJ p n) aA s ls) ((0:Int),([]:List bN)) (λ_=>rV K50 (jS s ls)):=by
  refine It.accu (α:=bN) [] (λi=>bif kF ls (dP (gt s.1 i).1)then[gt s.1 i] else[]) s.1.length 1 (λi hi=>by cases kF ls (dP (gt s.1 i).1)<;>simp) (λi hi acc ha aA a rec=>?_) (It.stopE (T:=λaA _=>iter (c274_11 (aJ p n) aA s ls (s.1.filter (λx=>kF ls (dP x.1)))) aA ((0:Int),([]:List aR))) (λaA a rec=>?_) (inner _).all_i)
  ·have hb:i<9223372036854775807:=by omega
   unfold c274_5;dsimp only;rw[aF hb];refine ql hi ?_;refine qz ?_;refine(aD hi).trans ?_;refine qC (f323 (gt s.1 i).1) ?_;refine qC (f322 ls (dP (gt s.1 i).1) hl) ?_
   cases hq:kF ls (dP (gt s.1 i).1)with
   | false=>exact(congrArg (λl:List bN=>rec (((i+1:Nat):Int),l)) (List.append_nil acc).symm:_)
   | true=>refine qt ?_;refine qP (by rw[hq] at ha;have:acc.length+1<=0+s.1.length*1:=ha;show acc.length+1<=4294967296;omega) ?_;rfl
  ·unfold c274_5;refine qe ?_;exact congrArg (λl:List bN=>iter (c274_11 (aJ p n) aA s ls l) aA ((0:Int),([]:List aR))) ((cI (λf:bN=>bif kF ls (dP f.1)then[f] else[]) s.1).trans (iP _ _))
 exact Ev.eq (λaA=>by unfold T274;refine qC (f46 s (Nat.le_trans h1 (by decide)) (Nat.le_trans h2 (by decide))) ?_;rw[hok];rfl) (outer.ev (i:=()) rfl)
end Go.Abs.Pz
namespace Go.Abs.Pz
open Go Go.Abs
abbrev oL(l:List aH):Option Out:=rV K22 (l,())
theorem LM{k:Nat}(h:k<=5):k<=maxLen:=by show k<=9223372036854775807;omega
theorem f165(s:aE)(hs:StateOk s):Ran p 4 165 [va K50 s] (rO K22 (bO s,())):=go165 λn hn=>by
 have h5:=hs.len
 have fl:∀ pre:List aH,pre.length<=1000->It (λaA (_:Unit)=>c165_14 (aJ p n) aA s) ((0:Int),pre) (λ_=>oL (pre++s.2.1.flatMap aY)):=by
  intro pre hp
  refine It.accu (α:=aH) pre (λi=>aY (gt s.2.1 i)) s.2.1.length 10 (λi hi=>f6 _) (λi hi acc ha aA a rec=>?_) (It.stop λaA a rec=>?_)
  ·have hb:i<9223372036854775807:=by omega
   have ha':acc.length+(aY (gt s.2.1 i)).length<=1050:=by omega
   unfold aY at ha';rw[List.length_append] at ha'
   unfold c165_14;dsimp only;rw[aF hb];refine ql hi ?_;refine qz ?_;refine(aD hi).trans ?_;refine qC (f245 (gt s.2.1 i).1) ?_;refine qP (by show acc.length+(aG (gt s.2.1 i).1).length<=4294967296;omega) ?_;refine qz ?_;refine(aD hi).trans ?_;refine qC (f245 (gt s.2.1 i).2.1) ?_
   refine qP (by show(acc++aG (gt s.2.1 i).1).length+(aG (gt s.2.1 i).2.1).length<=4294967296;rw[List.length_append];omega) ?_
   exact congrArg (λl:List aH=>rec (((i+1:Nat):Int),l)) (List.append_assoc _ _ _)
  ·unfold c165_14;refine qe ?_;exact congrArg (λl:List aH=>oL (pre++l)) (cI aY s.2.1)
 have it:∀ (i:Nat) (hi:i<s.1.length) (acc:List aH),acc.length<=1000->It (λaA rec3=>c165_8 (aJ p n) aA s (gt (α:=bN) s.1 i) (gt (α:=bN) s.1 i) (i:Int) rec3) ((0:Int),acc) (λrec3=>rec3 (((i+1:Nat):Int),acc++bG (gt s.1 i))):=by
  intro i hi acc ha
  have hb:i<9223372036854775807:=by omega
  refine It.accu (α:=aH) acc (λk=>aG (gt (five (gt s.1 i)) k).1) 5 5 (λk hk=>bB _) (λk hk acc' ha' aA rec3 rec=>?_) (It.stop λaA rec3 rec=>?_)
  ·have hk':k<(five (gt s.1 i)).length:=hk
   have hkb:k<9223372036854775807:=by omega
   unfold c165_8;dsimp only;rw[aF hkb];refine qP (Int.ofNat_lt.2 hk') ?_;refine qz ?_;refine(aD hk').trans ?_;refine(aD hk').trans ?_;refine qC (f245 (gt (five (gt s.1 i)) k).1) ?_
   refine qP (by show acc'.length+(aG (gt (five (gt s.1 i)) k).1).length<=4294967296;replace ha':acc'.length+(aG (gt (five (gt s.1 i)) k).1).length<=acc.length+5*5:=ha';omega) ?_;rfl
  ·show c165_8 (aJ p n) aA s (gt (α:=bN) s.1 i) (gt (α:=bN) s.1 i) (i:Int) rec3 rec (((5:Nat):Int),acc++bX 5 λk=>aG (gt (five (gt s.1 i)) k).1)=_
   have hz:=hs.size (bZ hi)
   have h1:(bX 5 λk=>aG (gt (five (gt s.1 i)) k).1).length<=5*5:=dH λk hk=>bB _
   have h2:=sE (gt s.1 i).2.2.2.2.2.1
   unfold c165_8;dsimp only;rw[aF hb];refine qN (by show ¬ ((5:Int)<5);decide) ?_;refine qC (f246 (gt s.1 i).2.2.2.2.2.1 (by omega)) ?_
   refine qP (by show(acc++bX 5 λk=>aG (gt (five (gt s.1 i)) k).1).length+(eE (gt s.1 i).2.2.2.2.2.1).length<=4294967296;rw[List.length_append];omega) ?_
   exact congrArg (λl:List aH=>rec3 (((i+1:Nat):Int),l)) (RA (gt s.1 i) acc)
 have n1:=bB (s.1.length:Int)
 have n2:=bB (s.2.1.length:Int)
 have hB:((aG (s.1.length:Int)++bX s.1.length λi=>bG (gt s.1 i))).length<=5+5*38:=by
  have:(bX s.1.length λi=>bG (gt s.1 i)).length<=s.1.length*38:=dH λi hi=>jH (hs.item _ (bZ hi)).2.1
  rw[List.length_append];omega
 have outer:It (λaA (_:Unit)=>c165_3 (aJ p n) aA s) ((0:Int),aG (s.1.length:Int)) (λ_=>oL (bO s)):=by
  refine It.accuE (α:=aH) (aG (s.1.length:Int)) (λi=>bG (gt s.1 i)) s.1.length 38 (λi hi=>jH (hs.item _ (bZ hi)).2.1) (λi hi acc ha=>?_)
   (It.stopE (T:=λaA _=>iter (c165_14 (aJ p n) aA s) aA ((0:Int),(aG (s.1.length:Int)++bX s.1.length λi=>bG (gt s.1 i))++aG (s.2.1.length:Int))) (λaA a rec=>?_) ?_)
  ·obtain⟨N,hN⟩:=(it i hi acc (by omega)).all_i
   refine⟨N,λaA hf a rec=>?_⟩
   unfold c165_3;refine ql hi ?_;refine qz ?_;refine(aD hi).trans ?_;refine qz ?_;refine(aD hi).trans ?_;exact hN aA hf rec
  ·unfold c165_3;refine qe ?_;refine qC (f245 (s.2.1.length:Int)) ?_;exact nU (by show(aG (s.1.length:Int)++bX s.1.length λi=>bG (gt s.1 i)).length+(aG (s.2.1.length:Int)).length<=4294967296;omega)
  ·have:=(fl ((aG (s.1.length:Int)++bX s.1.length λi=>bG (gt s.1 i))++aG (s.2.1.length:Int)) (by rw[List.length_append];omega)).all_i
   rw[cI bG s.1] at this ⊢
   exact this
 exact Ev.eq (λaA=>by unfold T165;refine qC (f245 (s.1.length:Int)) ?_;rfl) (outer.ev (i:=()) rfl)

theorem dY{x:Int}{L:Nat}(h:5<=L):(aG x).length<=L:=Nat.le_trans (bB x) h
theorem f273(s:aE)(hs:StateOk s):Ran p 4 273 [va K50 s] (rO K22 (bO s,())):=go273 λn hn=>by
 have h5:=hs.len
 have fl:∀ pre:List aH,pre.length<=1000->It (λaA (_:Unit)=>c273_12 (aJ p n) aA s) ((0:Int),pre) (λ_=>oL (pre++s.2.1.flatMap aY)):=by
  intro pre hp
  refine It.accu (α:=aH) pre (λi=>aY (gt s.2.1 i)) s.2.1.length 10 (λi hi=>f6 _) (λi hi acc ha aA a rec=>?_) (It.stop λaA a rec=>?_)
  ·have hb:i<9223372036854775807:=by omega
   unfold c273_12;dsimp only;rw[aF hb];refine ql hi ?_;refine qz ?_;refine(aD hi).trans ?_;refine qC (f275 (gt s.2.1 i).1) ?_;refine qC (f275 (gt s.2.1 i).2.1) ?_
   refine qC (f204 [(acc,()),(aG (gt s.2.1 i).1,()),(aG (gt s.2.1 i).2.1,())] 2000 (lL (by
    intro r hr;simp only[List.mem_cons,List.not_mem_nil,or_false] at hr
    rcases hr with rfl | rfl | rfl
    ·show acc.length<=2000;omega
    ·exact dY (by decide)
    ·exact dY (by decide))) (by show 3*2000<=4294967296;omega) (by show 3<=9223372036854775807;omega)) ?_
   exact congrArg (λl:List aH=>rec (((i+1:Nat):Int),l)) (by simp[aY]:List.flatMap (λr:bT=>r.1) [(acc,()),(aG (gt s.2.1 i).1,()),(aG (gt s.2.1 i).2.1,())]=acc++aY (gt s.2.1 i))
  ·unfold c273_12;refine qe ?_;exact congrArg (λl:List aH=>oL (pre++l)) (cI aY s.2.1)
 have n1:=bB (s.1.length:Int)
 have n2:=bB (s.2.1.length:Int)
 have hB:(bX s.1.length λi=>bG (gt s.1 i)).length<=190:=by
  have:(bX s.1.length λi=>bG (gt s.1 i)).length<=s.1.length*38:=dH λi hi=>jH (hs.item _ (bZ hi)).2.1
  omega
 have outer:It (λaA (_:Unit)=>c273_5 (aJ p n) aA s) ((0:Int),aG (s.1.length:Int)) (λ_=>oL (bO s)):=by
  refine It.accu (α:=aH) (aG (s.1.length:Int)) (λi=>bG (gt s.1 i)) s.1.length 38 (λi hi=>jH (hs.item _ (bZ hi)).2.1) (λi hi acc ha aA a rec=>?_)
   (It.stopE (T:=λaA _=>iter (c273_12 (aJ p n) aA s) aA ((0:Int),(aG (s.1.length:Int)++bX s.1.length λi=>bG (gt s.1 i))++aG (s.2.1.length:Int))) (λaA a rec=>?_) ?_)
  ·have hb:i<9223372036854775807:=by omega
   have hz:=hs.size (bZ hi)
   have ht:=sE (gt s.1 i).2.2.2.2.2.1
   unfold c273_5;dsimp only;rw[aF hb];refine ql hi ?_;refine qz ?_;refine(aD hi).trans ?_;refine qC (f275 (gt s.1 i).1) ?_;refine qC (f275 (gt s.1 i).2.1) ?_;refine qC (f275 (gt s.1 i).2.2.1) ?_;refine qC (f275 (gt s.1 i).2.2.2.1) ?_;refine qC (f275 (gt s.1 i).2.2.2.2.1) ?_;refine qC (f321 (gt s.1 i).2.2.2.2.2.1 (by omega)) ?_
   refine qC (f204 [(acc,()),(aG (gt s.1 i).1,()),(aG (gt s.1 i).2.1,()),(aG (gt s.1 i).2.2.1,()),(aG (gt s.1 i).2.2.2.1,()),(aG (gt s.1 i).2.2.2.2.1,()),(eE (gt s.1 i).2.2.2.2.2.1,())] 2000 (lL (by
    intro r hr;simp only[List.mem_cons,List.not_mem_nil,or_false] at hr
    rcases hr with rfl | rfl | rfl | rfl | rfl | rfl | rfl
    ·show acc.length<=2000;omega
    ·exact dY (by decide)
    ·exact dY (by decide)
    ·exact dY (by decide)
    ·exact dY (by decide)
    ·exact dY (by decide)
    ·show(eE (gt s.1 i).2.2.2.2.2.1).length<=2000;omega)) (by show 7*2000<=4294967296;omega) (by show 7<=9223372036854775807;omega)) ?_
   exact congrArg (λl:List aH=>rec (((i+1:Nat):Int),l)) (by simp[bG]:List.flatMap (λr:bT=>r.1) [(acc,()),(aG (gt s.1 i).1,()),(aG (gt s.1 i).2.1,()),(aG (gt s.1 i).2.2.1,()),(aG (gt s.1 i).2.2.2.1,()),(aG (gt s.1 i).2.2.2.2.1,()),(eE (gt s.1 i).2.2.2.2.2.1,())]=acc++bG (gt s.1 i))
  ·unfold c273_5;refine qe ?_;refine qC (f275 (s.2.1.length:Int)) ?_
   refine qC (f204 [(aG (s.1.length:Int)++bX s.1.length λi=>bG (gt s.1 i),()),(aG (s.2.1.length:Int),())] 2000 (lL (by
    intro r hr;simp only[List.mem_cons,List.not_mem_nil,or_false] at hr
    rcases hr with rfl | rfl
    ·show(aG (s.1.length:Int)++bX s.1.length λi=>bG (gt s.1 i)).length<=2000;rw[List.length_append];omega
    ·exact dY (by decide))) (by show 2*2000<=4294967296;omega) (by show 2<=9223372036854775807;omega)) ?_
   exact congrArg (λl:List aH=>iter (c273_12 (aJ p n) aA s) aA ((0:Int),l)) (by simp:List.flatMap (λr:bT=>r.1) [(aG (s.1.length:Int)++bX s.1.length λi=>bG (gt s.1 i),()),(aG (s.2.1.length:Int),())]=(aG (s.1.length:Int)++bX s.1.length λi=>bG (gt s.1 i))++aG (s.2.1.length:Int))
  ·have:=(fl ((aG (s.1.length:Int)++bX s.1.length λi=>bG (gt s.1 i))++aG (s.2.1.length:Int)) (by rw[List.length_append,List.length_append];omega)).all_i
   rw[cI bG s.1] at this ⊢
   exact this
 exact Ev.eq (λaA=>by unfold T273;refine qC (f46 s (LM h5.1) (LM h5.2)) ?_;rw[(aP s).2 hs];refine qf ?_;refine qC (f275 (s.1.length:Int)) ?_;rfl) (outer.ev (i:=()) rfl)
theorem f198(s:aE)(x:Int)(hz:SzS s):Ran p 5 198 [va K50 s, vf K3 (x,())] (rO K3 (jN s x,())):=go198 λn hn=>Ev.now λaA=>by
 unfold T198 jN;refine qC (f49 s (Nat.le_trans hz.a (by decide)) (Nat.le_trans hz.b (by decide))) ?_
 cases hs:aM s with
 | false=>rfl
 | true=>
  have hs':=(aP s).1 hs
  have h5:=hs'.len
  refine qf ?_;refine qC (f47 x 0 3) ?_
  cases hx:inB x 0 3 with
  | false=>rfl
  | true=>
   refine qf ?_;refine qC (f276 s [(x,())] (by show 1<=9223372036854775807;omega) (by omega) (by omega)) ?_;refine qC (f165 (jS s [(x,())]) (hs'.slice _)) ?_;refine qC (f162 (bO (jS s [(x,())])) (Nat.le_trans (pI (hs'.slice _)) (by decide))) ?_;refine qN (by decide) ?_;rfl
theorem f194(s:aE)(x:Int)(hz:SzS s):Ran p 5 194 [va K50 s, vf K3 (x,())] (rO K3 (jN s x,())):=go194 λn hn=>Ev.now λaA=>by
 unfold T194 jN;refine qC (f46 s (Nat.le_trans hz.a (by decide)) (Nat.le_trans hz.b (by decide))) ?_
 cases hs:aM s with
 | false=>rfl
 | true=>
  have hs':=(aP s).1 hs
  have h5:=hs'.len
  refine qf ?_;refine qC (f43 x 0 3) ?_
  cases hx:inB x 0 3 with
  | false=>rfl
  | true=>
   refine qf ?_;refine qC (f274 s [(x,())] (by show 1<=9223372036854775807;omega) (by omega) (by omega) hs) ?_;refine qC (f273 (jS s [(x,())]) (hs'.slice _)) ?_;refine qC (f272 (bO (jS s [(x,())])) (Nat.le_trans (pI (hs'.slice _)) (by decide))) ?_;refine qN (by decide) ?_;rfl
theorem f199(ls:List aH)(hl:ls.length<=1000):Ran p 3 199 [vf K38 (ls,())] (rO K3 (mX ls,())):=go199 λn hn=>by
 have lp:It (λaA (_:Unit)=>c199_3 (aJ p n) aA ls) ((0:Int),([]:List aH)) (λ_=>oI (mX ls)):=by
  refine It.accu (α:=aH) [] (λi=>aG (gt ls i).1) ls.length 5 (λi hi=>bB _) (λi hi acc ha aA a rec=>?_) (It.stop λaA a rec=>?_)
  ·have hb:i<9223372036854775807:=by omega
   have ha':acc.length+(aG (gt ls i).1).length<=0+ls.length*5:=ha
   unfold c199_3;dsimp only;rw[aF hb];refine ql hi ?_;refine qz ?_;refine(aD hi).trans ?_;refine qC (f245 (gt ls i).1) ?_;refine qP (by show acc.length+(aG (gt ls i).1).length<=4294967296;omega) ?_;rfl
  ·have hB:(bX ls.length λi=>aG (gt ls i).1).length<=ls.length*5:=dH λi hi=>bB _
   unfold c199_3;refine qe ?_;refine qC (f162 (bX ls.length λi=>aG (gt ls i).1) (by show _<=9223372036854775807;omega)) ?_;refine qN (by decide) ?_;exact congrArg (λl:List aH=>oI ((crc l).tmod 1024)) (cI (λx:aH=>aG x.1) ls)
 exact Ev.eq (λaA=>by unfold T199;rfl) (lp.ev (i:=()) rfl)
theorem f195(ls:List aH)(hl:ls.length<=1000):Ran p 3 195 [vf K38 (ls,())] (rO K3 (mX ls,())):=go195 λn hn=>by
 have lp:It (λaA (_:Unit)=>c195_3 (aJ p n) aA ls) ((0:Int),([]:List aH)) (λ_=>oI (mX ls)):=by
  refine It.accu (α:=aH) [] (λi=>aG (gt ls i).1) ls.length 5 (λi hi=>bB _) (λi hi acc ha aA a rec=>?_) (It.stop λaA a rec=>?_)
  ·have hb:i<9223372036854775807:=by omega
   have ha':acc.length+(aG (gt ls i).1).length<=0+ls.length*5:=ha
   unfold c195_3;dsimp only;rw[aF hb];refine ql hi ?_;refine qz ?_;refine(aD hi).trans ?_;refine qC (f275 (gt ls i).1) ?_
   refine qC (f204 [(acc,()),(aG (gt ls i).1,())] 6000 (lL (by
    intro r hr;simp only[List.mem_cons,List.not_mem_nil,or_false] at hr
    rcases hr with rfl | rfl
    ·show acc.length<=6000;omega
    ·exact dY (by decide))) (by show 2*6000<=4294967296;omega) (by show 2<=9223372036854775807;omega)) ?_
   exact congrArg (λl:List aH=>rec (((i+1:Nat):Int),l)) (by simp:List.flatMap (λr:bT=>r.1) [(acc,()),(aG (gt ls i).1,())]=acc++aG (gt ls i).1)
  ·have hB:(bX ls.length λi=>aG (gt ls i).1).length<=ls.length*5:=dH λi hi=>bB _
   unfold c195_3;refine qe ?_;refine qC (f272 (bX ls.length λi=>aG (gt ls i).1) (by show _<=9223372036854775807;omega)) ?_;refine qN (by decide) ?_;exact congrArg (λl:List aH=>oI ((crc l).tmod 1024)) (cI (λx:aH=>aG x.1) ls)
 exact Ev.eq (λaA=>by unfold T195;rfl) (lp.ev (i:=()) rfl)
theorem f112(s:aE)(hz:SzS s):Ran p 6 112 [va K50 s] (rO K46 (cM s)):=go112 λn hn=>by
 cases hs:aM s with
 | false=>
  refine Ev.now λaA=>?_
  unfold T112 cM;refine qC (f49 s (Nat.le_trans hz.a (by decide)) (Nat.le_trans hz.b (by decide))) ?_;rw[hs];rfl
 | true=>
  have lp:It (λaA (_:Unit)=>c112_5 (aJ p n) aA s) ((0:Int),([]:List aH)) (λ_=>rV K46 (eC s,mX (eC s),())):=by
   refine It.accu (α:=aH) [] (λi=>[(jN s (i:Int),())]) 4 1 (λi hi=>Nat.le_refl 1) (λi hi acc ha aA a rec=>?_) (It.stop λaA a rec=>?_)
   ·have hb:i<9223372036854775807:=by omega
    have ha':acc.length+1<=0+4*1:=ha
    unfold c112_5;dsimp only;rw[aF hb];refine qP (by show(i:Int)<4;omega) ?_;refine qC (f198 s (i:Int) hz) ?_;refine qP (by show acc.length+1<=4294967296;omega) ?_;rfl
   ·unfold c112_5;refine qN (by show ¬ ((4:Int)<4);decide) ?_;refine qC (f199 (eC s) (by show 4<=1000;omega)) ?_;rfl
  have e:cM s=(eC s,mX (eC s),()):=by unfold cM;rw[hs];rfl
  rw[e]
  exact Ev.eq (λaA=>by unfold T112;refine qC (f49 s (Nat.le_trans hz.a (by decide)) (Nat.le_trans hz.b (by decide))) ?_;rw[hs];rfl) (lp.ev (i:=()) rfl)
theorem f101(s:aE)(hz:SzS s):Ran p 6 101 [va K50 s] (rO K46 (cM s)):=go101 λn hn=>by
 cases hs:aM s with
 | false=>
  refine Ev.now λaA=>?_
  unfold T101 cM;refine qC (f46 s (Nat.le_trans hz.a (by decide)) (Nat.le_trans hz.b (by decide))) ?_;rw[hs];rfl
 | true=>
  have lp:It (λaA (_:Unit)=>c101_5 (aJ p n) aA s) ((0:Int),([]:List aH)) (λ_=>rV K46 (eC s,mX (eC s),())):=by
   refine It.accu (α:=aH) [] (λi=>[(jN s (i:Int),())]) 4 1 (λi hi=>Nat.le_refl 1) (λi hi acc ha aA a rec=>?_) (It.stop λaA a rec=>?_)
   ·have hb:i<9223372036854775807:=by omega
    have ha':acc.length+1<=0+4*1:=ha
    unfold c101_5;dsimp only;rw[aF hb];refine qP (by show(i:Int)<4;omega) ?_;refine qC (f194 s (i:Int) hz) ?_;refine qP (by show acc.length+1<=4294967296;omega) ?_;rfl
   ·unfold c101_5;refine qN (by show ¬ ((4:Int)<4);decide) ?_;refine qC (f195 (eC s) (by show 4<=1000;omega)) ?_;rfl
  have e:cM s=(eC s,mX (eC s),()):=by unfold cM;rw[hs];rfl
  rw[e]
  exact Ev.eq (λaA=>by unfold T101;refine qC (f46 s (Nat.le_trans hz.a (by decide)) (Nat.le_trans hz.b (by decide))) ?_;rw[hs];rfl) (lp.ev (i:=()) rfl)
end Go.Abs.Pz
set_option maxHeartbeats 2000000
namespace Go.Abs.Pz
open Go Go.Abs
def tK(q:List aH×RdT):Out:=⟨[⟨K38,(q.1,())⟩],[⟨K113,q.2⟩]⟩
theorem f73(r:RdT)(t:Nat)(i0:Int)(hi0:i0=(t:Int))(h:RdOk r)(ht:t<=2):Ran p 3 73 [.ref ⟨K113,r⟩, vf K3 (i0,())] (tK (cX r t)):=go73 λn hn=>by
 subst hi0
 have q0:=AS r
 by_cases hbig:(aO r).1>100
 ·have e:cX r t=([],((aO r).2.1,(aO r).2.2.1,true,())):=by unfold cX;rw[decide_eq_true hbig];rfl
  rw[e]
  have lp:It (λaA (_:Unit)=>c73_4 (aJ p n) aA (t:Int) ((((aO r).1,()),()),((aO r).2,()))) ((0:Int),([]:List aH),(aO r).2.1,(aO r).2.2.1,(aO r).2.2.2.1) (λ_=>some (tK ([],((aO r).2.1,(aO r).2.2.1,true,())))):=It.stop λaA u rec=>by
   unfold c73_4;dsimp only
   by_cases h1:(0:Int)<i64.wrap ((aO r).1*(t:Int))
   ·refine qP h1 ?_
    cases (aO r).2.2.2.1 with
    | true=>rfl
    | false=>refine qt ?_;refine qN (show ¬ ((aO r).1<=100) by omega) ?_;refine qf ?_;rw[show decide (vI ((aO r).1)>100)=true from decide_eq_true hbig];rfl
   ·refine qN h1 ?_
    cases (aO r).2.2.2.1 with
    | true=>rfl
    | false=>refine qf ?_;rw[show decide (vI ((aO r).1)>100)=true from decide_eq_true hbig];rfl
  exact Ev.eq (λaA=>by unfold T73;refine qR (f72 r h) ?_;rfl) (lp.ev (i:=()) rfl)
 ·have e:cX r t=pS (aO r).2 ((aO r).1.toNat*t):=by unfold cX;rw[decide_eq_false hbig];rfl
  rw[e]
  have hN:(aO r).1.toNat*t<=100*2:=Nat.mul_le_mul (by omega) ht
  have ew:i64.wrap ((aO r).1*(t:Int))=(((aO r).1.toNat*t:Nat):Int):=by
   have:(aO r).1*(t:Int)=(((aO r).1.toNat*t:Nat):Int):=by rw[Int.natCast_mul,show(((aO r).1.toNat:Nat):Int)=(aO r).1 by omega]
   rw[this,IntKind.wrap_i64];omega
  generalize hM:(aO r).1.toNat*t=M at ew hN
  have lp:∀ (k i:Nat) (acc:List aH) (q:RdT),RdOk q->i+k=M->acc.length=i->It (λaA (_:Unit)=>c73_4 (aJ p n) aA (t:Int) ((((aO r).1,()),()),((aO r).2,()))) ((i:Int),acc,q.1,q.2.1,q.2.2.1) (λ_=>some (tK (acc++(pS q k).1,(pS q k).2))):=by
   intro k
   induction k with
   | zero=>
    intro i acc q hq hi ha
    obtain⟨qb,qa,qd,qu⟩:=q
    refine It.stop λaA u rec=>?_
    show c73_4 (aJ p n) aA (t:Int) ((((aO r).1,()),()),((aO r).2,())) rec ((i:Int),acc,qb,qa,qd)=some (tK (acc++[],(qb,qa,qd,qu)))
    rw[List.append_nil]
    unfold c73_4;dsimp only;refine qN (show ¬ ((i:Int)<i64.wrap ((aO r).1*(t:Int))) by rw[ew];omega) ?_
    cases qd with
    | true=>rfl
    | false=>refine qf ?_;rw[show decide (vI ((aO r).1)>100)=false from decide_eq_false hbig];rfl
   | succ k ih=>
    intro i acc q hq hi ha
    obtain⟨qb,qa,qd,qu⟩:=q
    cases qd with
    | true=>
     refine It.stop λaA u rec=>?_
     show c73_4 (aJ p n) aA (t:Int) ((((aO r).1,()),()),((aO r).2,())) rec ((i:Int),acc,qb,qa,true)=some (tK (acc++[],(qb,qa,true,qu)))
     rw[List.append_nil]
     unfold c73_4;dsimp only;refine qP (show(i:Int)<i64.wrap ((aO r).1*(t:Int)) by rw[ew];omega) ?_;rfl
    | false=>
     have e2:pS (qb,qa,false,qu) (k+1)=(((aO (qb,qa,false,qu)).1,())::(pS (aO (qb,qa,false,qu)).2 k).1,(pS (aO (qb,qa,false,qu)).2 k).2):=rfl
     have ih':=ih (i+1) (acc++[((aO (qb,qa,false,qu)).1,())]) (aO (qb,qa,false,qu)).2 hq.num (by omega) (by rw[List.length_append,ha];rfl)
     rw[e2]
     rw[List.append_assoc] at ih'
     refine It.next (λaA u rec=>?_) ih'
     show c73_4 (aJ p n) aA (t:Int) ((((aO r).1,()),()),((aO r).2,())) rec ((i:Int),acc,qb,qa,false)=_
     have hbd:acc.length+1<=bound:=by unfold bound;omega
     unfold c73_4;dsimp only;rw[aF (show i<9223372036854775807 by omega)];refine qP (show(i:Int)<i64.wrap ((aO r).1*(t:Int)) by rw[ew];omega) ?_;refine qt ?_;refine qP (show(aO r).1<=100 by omega) ?_;refine qR (f72 (qb,qa,false,qu) hq) ?_;refine qP hbd ?_;rfl
  have lp0:=lp M 0 [] (aO r).2 h.num (by omega) rfl
  exact Ev.eq (λaA=>by unfold T73;refine qR (f72 r h) ?_;rfl) (lp0.ev (i:=()) rfl)
theorem f210(a b:List aH):Ran p 1 210 [vf K22 (a,()), vf K22 (b,())] (rO K4 (cH a b,())):=go210 λn hn=>Ev.now λaA=>by
 unfold T210;rfl
def oJ:Option aE->Out
 | none=>⟨[⟨K50,(([],[],()):aE)⟩,⟨K4,(false,())⟩],[]⟩
 | some s=>⟨[⟨K50,s⟩,⟨K4,(true,())⟩],[]⟩
def rdI(k:Nat)(q:List bN×RdT):Int×List aH×Int×Bool×List bN:=((k:Int),q.2.1,q.2.2.1,q.2.2.2.1,q.1)
def rdF(k:Nat)(q:List aR×RdT):Int×List aH×Int×Bool×List aR:=((k:Int),q.2.1,q.2.2.1,q.2.2.2.1,q.1)
theorem PI{b:List aH}(hb:B8 b)(hl:b.length<=aV):RdOk (rs0 b):=⟨hb,hl,Int.le_refl _,Int.natCast_nonneg _⟩
theorem f207(b:List aH)(hb:B8 b)(hl:b.length<=aV):Ran p 5 207 [vf K22 (b,())] (oJ (cF b)):=go207 λn hn=>by
 have r0:=PI hb hl
 have rC:RdOk (siC b).2:=r0.cnt 5
 have rI:∀ k,RdOk (cN c8 (siC b).2 k).2:=oX (f:=c8) (λr h=>RdOk.item h) rC
 have rF:RdOk (siF b).2:=(rI _).cnt 5
 have rG:∀ k,RdOk (cN eB (siF b).2 k).2:=oX (f:=eB) (λr h=>RdOk.floor h) rF
 have bC:0<=(siC b).1/\(siC b).1<=5:=sD _ (by decide)
 have bF:0<=(siF b).1/\(siF b).1<=5:=sD _ (by decide)
 have lI:(siI b).1.length<=5:=by unfold siI;rw[iV];omega
 have lG:(siG b).1.length<=5:=by unfold siG;rw[iV];omega
 have hz1:(stI b).1.length<=maxLen:=Nat.le_trans lI (by decide)
 have hz2:(stI b).2.1.length<=maxLen:=Nat.le_trans lG (by decide)
 have inn:It (λaA (_:Unit)=>c207_17 (aJ p n) aA b ((((siF b).1,()),()),((siF b).2,())) (siI b).1) (rdF 0 (cN eB (siF b).2 0)) (λ_=>some (oJ (cF b))):=by
  refine It.run (λk=>rdF k (cN eB (siF b).2 k)) (siF b).1.toNat (λk hk aA u rec=>?_) (It.stop λaA u rec=>?_)
  ·have hlen:=iV eB (siF b).2 k
   have hbd:(cN eB (siF b).2 k).1.length+1<=bound:=by unfold bound;omega
   show c207_17 (aJ p n) aA b ((((siF b).1,()),()),((siF b).2,())) (siI b).1 rec (rdF k (cN eB (siF b).2 k))=rec (rdF (k+1) (cN eB (siF b).2 (k+1)))
   unfold c207_17 rdF;dsimp only;rw[aF (show k<9223372036854775807 by omega)];refine qP (show(k:Int)<(siF b).1 by omega) ?_;refine qR (f205 (cN eB (siF b).2 k).2 (rG k)) ?_;refine qR (f205 (aO (cN eB (siF b).2 k).2).2 (rG k).num) ?_;refine qP hbd ?_;rfl
  ·show c207_17 (aJ p n) aA b ((((siF b).1,()),()),((siF b).2,())) (siI b).1 rec (rdF (siF b).1.toNat (siG b))=_
   unfold c207_17 rdF;dsimp only;refine qN (show ¬ ((((siF b).1.toNat:Nat):Int)<(siF b).1) by omega) ?_
   cases hbad:(siG b).2.2.2.1 with
   | true=>refine qt ?_;rw[show cF b=none by unfold cF;rw[hbad];rfl];rfl
   | false=>
    refine qf ?_;refine qC (f46 (stI b) hz1 hz2) ?_
    cases hs:aM (stI b)with
    | false=>refine qt ?_;rw[show cF b=none by unfold cF;rw[hbad,hs];rfl];rfl
    | true=>
     refine qf ?_;refine qC (f273 (stI b) ((aP _).1 hs)) ?_;refine qC (f210 (bO (stI b)) b) ?_
     cases he:cH (bO (stI b)) b with
     | false=>refine qt ?_;rw[show cF b=none by unfold cF;rw[hbad,hs,he];rfl];rfl
     | true=>refine qf ?_;rw[show cF b=some (stI b) by unfold cF;rw[hbad,hs,he];rfl];rfl
 have out:It (λaA (_:Unit)=>c207_5 (aJ p n) aA b ((((siC b).1,()),()),((siC b).2,()))) (rdI 0 (cN c8 (siC b).2 0)) (λ_=>some (oJ (cF b))):=by
  refine It.run (λk=>rdI k (cN c8 (siC b).2 k)) (siC b).1.toNat (λk hk aA u rec=>?_) (It.stopE (T:=λaA _=>iter (c207_17 (aJ p n) aA b ((((siF b).1,()),()),((siF b).2,())) (siI b).1) aA (rdF 0 (cN eB (siF b).2 0))) (λaA u rec=>?_) inn.all_i)
  ·have hlen:=iV c8 (siC b).2 k
   have hbd:(cN c8 (siC b).2 k).1.length+1<=bound:=by unfold bound;omega
   have hk0:=rI k
   show c207_5 (aJ p n) aA b ((((siC b).1,()),()),((siC b).2,())) rec (rdI k (cN c8 (siC b).2 k))=rec (rdI (k+1) (cN c8 (siC b).2 (k+1)))
   unfold c207_5 rdI;dsimp only;rw[aF (show k<9223372036854775807 by omega)];refine qP (show(k:Int)<(siC b).1 by omega) ?_;refine qR (f205 (rdK (cN c8 (siC b).2 k).2 0) (hk0.k 0)) ?_;refine qR (f205 (rdK (cN c8 (siC b).2 k).2 1) (hk0.k 1)) ?_;refine qR (f205 (rdK (cN c8 (siC b).2 k).2 2) (hk0.k 2)) ?_;refine qR (f205 (rdK (cN c8 (siC b).2 k).2 3) (hk0.k 3)) ?_;refine qR (f205 (rdK (cN c8 (siC b).2 k).2 4) (hk0.k 4)) ?_;refine qR (f278 (rdK (cN c8 (siC b).2 k).2 5) (hk0.k 5)) ?_;refine qP hbd ?_;rfl
  ·show c207_5 (aJ p n) aA b ((((siC b).1,()),()),((siC b).2,())) rec (rdI (siC b).1.toNat (siI b))=_
   unfold c207_5 rdI;dsimp only;refine qN (show ¬ ((((siC b).1.toNat:Nat):Int)<(siC b).1) by omega) ?_;refine qR (f208 (siI b).2 5 (rI _)) ?_;rfl
 exact Ev.eq (λaA=>by unfold T207;refine qR (f208 (rs0 b) 5 r0) ?_;rfl) (out.ev (i:=()) rfl)
def nJ(b:List aH)(big:Bool)(q:List bN×RdT):Option aE:=bif(flR q.2).2.2.2.1||(big||(!aM (stS q)|| !cH (bO (stS q)) b))then none else some (stS q)
theorem f74(b:List aH)(hb:B8 b)(hl:b.length<=aV):Ran p 5 74 [vf K22 (b,())] (oJ (gS b)):=go74 λn hn=>by
 have r0:=PI hb hl
 have rN:RdOk (aO (rs0 b)).2:=r0.num
 have q0:=AS (rs0 b)
 have tail:∀ q:List bN×RdT,RdOk q.2->q.1.length<=100->It (λaA (_:Unit)=>c74_21 (aJ p n) aA b ((((aO (rs0 b)).1,()),()),((aO (rs0 b)).2,())) ((((cX q.2 2).1,()),()),((cX q.2 2).2,())) q.1) ((0:Int),([]:List aR)) (λ_=>some (oJ (nJ b (decide ((aO (rs0 b)).1>100)) q))):=by
  intro q hq hql
  have hm:=tJ q.2 2
  refine It.run (λk=>(((2*k:Nat):Int),jT (cX q.2 2).1 k)) ((cX q.2 2).1.length / 2) (λk hk aA u rec=>?_) (It.stop λaA u rec=>?_)
  ·have h1:2*k<(cX q.2 2).1.length:=by omega
   have h2:2*k+1<(cX q.2 2).1.length:=by omega
   have e1:i64.wrap (((2*k:Nat):Int)+1)=((2*k+1:Nat):Int):=by rw[IntKind.wrap_i64];omega
   have e2:i64.wrap (((2*k:Nat):Int)+2)=((2*(k+1):Nat):Int):=by rw[IntKind.wrap_i64];omega
   have hbd:(jT (cX q.2 2).1 k).length+1<=bound:=by rw[uE];unfold bound;omega
   unfold c74_21;dsimp only;rw[e1,e2,yN];refine ql h2 ?_;refine qz ?_;refine(aD h1).trans ?_;refine(aD h1).trans ?_;refine qz ?_;refine(aD h2).trans ?_;refine(aD h2).trans ?_;refine qP hbd ?_;rfl
  ·have e1:i64.wrap ((((2*((cX q.2 2).1.length / 2):Nat)):Int)+1)=((2*((cX q.2 2).1.length / 2)+1:Nat):Int):=by rw[IntKind.wrap_i64];omega
   have lp:(stS q).2.1.length<=100:=LX q.2
   have hz1:(stS q).1.length<=maxLen:=Nat.le_trans hql (by decide)
   have hz2:(stS q).2.1.length<=maxLen:=Nat.le_trans lp (by decide)
   unfold c74_21;dsimp only;rw[e1];refine qN (show ¬ (((2*((cX q.2 2).1.length / 2)+1:Nat):Int)<(((cX q.2 2).1.length:Nat):Int)) by omega) ?_
   cases hbad:(cX q.2 2).2.2.2.1 with
   | true=>refine qt ?_;rw[show nJ b (decide ((aO (rs0 b)).1>100)) q=none by unfold nJ flR;rw[hbad];rfl];rfl
   | false=>
    refine qf ?_
    by_cases hbig:(aO (rs0 b)).1>100
    ·refine qP hbig ?_;rw[show nJ b (decide ((aO (rs0 b)).1>100)) q=none by unfold nJ flR;rw[hbad,decide_eq_true hbig];rfl];rfl
    ·refine qN hbig ?_;refine qC (f49 (stS q) hz1 hz2) ?_
     cases hs:aM (stS q)with
     | false=>refine qt ?_;rw[show nJ b (decide ((aO (rs0 b)).1>100)) q=none by unfold nJ flR;rw[hbad,decide_eq_false hbig,hs];rfl];rfl
     | true=>
      refine qf ?_;refine qC (f165 (stS q) ((aP _).1 hs)) ?_
      cases he:cH (bO (stS q)) b with
      | false=>refine qT (show(!cH (bO (stS q)) b)=true by rw[he];rfl) ?_;rw[show nJ b (decide ((aO (rs0 b)).1>100)) q=none by unfold nJ flR;rw[hbad,decide_eq_false hbig,hs,he];rfl];rfl
      | true=>refine qF (show(!cH (bO (stS q)) b)=false by rw[he];rfl) ?_;rw[show nJ b (decide ((aO (rs0 b)).1>100)) q=some (stS q) by unfold nJ flR;rw[hbad,decide_eq_false hbig,hs,he];rfl];rfl
 have run0:It (λaA (_:Unit)=>c74_5 (aJ p n) aA b ((((aO (rs0 b)).1,()),()),((aO (rs0 b)).2,()))) ((0:Int),(aO (rs0 b)).2.1,(aO (rs0 b)).2.2.1,(aO (rs0 b)).2.2.2.1,([]:List bN)) (λ_=>some (oJ (gS b))):=by
  by_cases hbig:(aO (rs0 b)).1>100
  ·have e:gS b=nJ b (decide ((aO (rs0 b)).1>100)) ([],(aO (rs0 b)).2):=by unfold gS ssI;rw[decide_eq_true hbig];rfl
   rw[e]
   have key:∀ q:RdT,RdOk q->It (λaA (_:Unit)=>c74_5 (aJ p n) aA b ((((aO (rs0 b)).1,()),()),((aO (rs0 b)).2,()))) ((0:Int),q.1,q.2.1,q.2.2.1,([]:List bN)) (λ_=>some (oJ (nJ b (decide ((aO (rs0 b)).1>100)) ([],q)))):=by
    rintro ⟨qb,qa,qd,qu⟩ hq
    refine It.stopE (T:=λaA _=>iter (c74_21 (aJ p n) aA b ((((aO (rs0 b)).1,()),()),((aO (rs0 b)).2,())) ((((cX (qb,qa,qd,qu) 2).1,()),()),((cX (qb,qa,qd,qu) 2).2,())) []) aA ((0:Int),([]:List aR))) (λaA u rec=>?_) (tail ([],(qb,qa,qd,qu)) hq (Nat.zero_le _)).all_i
    unfold c74_5;dsimp only;refine qP (show(0:Int)<(aO (rs0 b)).1 by omega) ?_
    cases qd with
    | true=>refine qf ?_;refine qR (f73 (qb,qa,true,qu) 2 2 rfl hq (by omega)) ?_;rfl
    | false=>refine qt ?_;refine qN (show ¬ ((aO (rs0 b)).1<=100) by omega) ?_;refine qR (f73 (qb,qa,false,qu) 2 2 rfl hq (by omega)) ?_;rfl
   exact key _ rN
  ·have hbd:decide ((aO (rs0 b)).1>100)=false:=decide_eq_false hbig
   have lp:∀ (k i:Nat) (acc:List bN) (q:RdT),RdOk q->q.1=b->i+k=(aO (rs0 b)).1.toNat->acc.length=i->
     It (λaA (_:Unit)=>c74_5 (aJ p n) aA b ((((aO (rs0 b)).1,()),()),((aO (rs0 b)).2,()))) ((i:Int),q.1,q.2.1,q.2.2.1,acc) (λ_=>some (oJ ((jU q k).bind λw=>nJ b (decide ((aO (rs0 b)).1>100)) (acc++w.1,w.2)))):=by
    intro k
    induction k with
    | zero=>
     intro i acc q hq hqb hi ha
     show It _ _ (λ_=>some (oJ (nJ b (decide ((aO (rs0 b)).1>100)) (acc++[],q))))
     rw[List.append_nil]
     refine It.stopE (T:=λaA _=>iter (c74_21 (aJ p n) aA b ((((aO (rs0 b)).1,()),()),((aO (rs0 b)).2,())) ((((cX q 2).1,()),()),((cX q 2).2,())) acc) aA ((0:Int),([]:List aR))) (λaA u rec=>?_) (tail (acc,q) hq (by show acc.length<=100;omega)).all_i
     unfold c74_5;dsimp only;refine qN (show ¬ ((i:Int)<(aO (rs0 b)).1) by omega) ?_;refine qR (f73 q 2 2 rfl hq (by omega)) ?_;rfl
    | succ k ih=>
     intro i acc q hq hqb hi ha
     have hlt:(i:Int)<(aO (rs0 b)).1:=by omega
     obtain⟨qb,qa,qd,qu⟩:=q
     cases qd with
     | true=>
      show It _ _ (λ_=>some (oJ (nJ b (decide ((aO (rs0 b)).1>100)) (acc++[],(qb,qa,true,qu)))))
      rw[List.append_nil]
      refine It.stopE (T:=λaA _=>iter (c74_21 (aJ p n) aA b ((((aO (rs0 b)).1,()),()),((aO (rs0 b)).2,())) ((((cX (qb,qa,true,qu) 2).1,()),()),((cX (qb,qa,true,qu) 2).2,())) acc) aA ((0:Int),([]:List aR))) (λaA u rec=>?_) (tail (acc,(qb,qa,true,qu)) hq (by show acc.length<=100;omega)).all_i
      unfold c74_5;dsimp only;refine qP hlt ?_;refine qf ?_;refine qR (f73 (qb,qa,true,qu) 2 2 rfl hq (by omega)) ?_;rfl
     | false=>
      have hbk:acc.length+1<=bound:=by unfold bound;omega
      have head:∀ aA rec,c74_5 (aJ p n) aA b ((((aO (rs0 b)).1,()),()),((aO (rs0 b)).2,())) rec ((i:Int),qb,qa,false,acc)=(((aJ p n) 164 [vf K22 (b,()), vf K3 ((rdK (qb,qa,false,qu) 5).2.1,())]).bind (dE [K9,K3,K4] [])).bind λo7=>(bif(rdK (qb,qa,false,qu) 5).2.2.1 then some (oJ none)else bif !(vB o7.1.2.2.1.1)then some (oJ none)else bif decide (acc.length+1<=bound)then rec (((i+1:Nat):Int),(rdK (qb,qa,false,qu) 5).1,(vI o7.1.2.1.1),(rdK (qb,qa,false,qu) 5).2.2.1,acc++[(rdV (qb,qa,false,qu) 0,rdV (qb,qa,false,qu) 1,rdV (qb,qa,false,qu) 2,rdV (qb,qa,false,qu) 3,rdV (qb,qa,false,qu) 4,(vS o7.1.1.1),())])else none):=by
       intro aA rec
       unfold c74_5;dsimp only;rw[aF (show i<9223372036854775807 by omega)];refine qP hlt ?_;refine qt ?_;refine qP (show(aO (rs0 b)).1<=100 by omega) ?_;refine qR (f72 (rdK (qb,qa,false,qu) 0) (hq.k 0)) ?_;refine qR (f72 (rdK (qb,qa,false,qu) 1) (hq.k 1)) ?_;refine qR (f72 (rdK (qb,qa,false,qu) 2) (hq.k 2)) ?_;refine qR (f72 (rdK (qb,qa,false,qu) 3) (hq.k 3)) ?_;refine qR (f72 (rdK (qb,qa,false,qu) 4) (hq.k 4)) ?_
       rfl
      have el:(rdK (qb,qa,false,qu) 5).1=b:=(vR (qb,qa,false,qu) 5).trans hqb
      have hg:=f164 b (rdK (qb,qa,false,qu) 5).2.1 hb hl
      have e2:jU (qb,qa,false,qu) (k+1)=bif(c8 (qb,qa,false,qu)).2.2.2.1 then none else(jU (c8 (qb,qa,false,qu)).2 k).map λw=>((c8 (qb,qa,false,qu)).1::w.1,w.2):=rfl
      cases hd:(rdK (qb,qa,false,qu) 5).2.2.1 with
      | true=>
       have e3:(c8 (qb,qa,false,qu)).2.2.2.1=true:=by unfold c8 mY;rw[hd];rfl
       rw[e2,e3]
       refine It.stop λaA u rec=>(head aA rec).trans ?_
       rw[hd]
       cases ht:uZ b (rdK (qb,qa,false,qu) 5).2.1 with
       | none=>rw[ht] at hg;refine qE hg ?_;rfl
       | some w=>obtain⟨s,j⟩:=w;rw[ht] at hg;refine qE hg ?_;rfl
      | false=>
       cases ht:uZ b (rdK (qb,qa,false,qu) 5).2.1 with
       | none=>
        have e3:(c8 (qb,qa,false,qu)).2.2.2.1=true:=by unfold c8 mY;rw[hd,el,ht];rfl
        rw[e2,e3]
        refine It.stop λaA u rec=>(head aA rec).trans ?_
        rw[hd];rw[ht] at hg;refine qE hg ?_;rfl
       | some w=>
        obtain⟨s,j⟩:=w
        have e4:mY (rdK (qb,qa,false,qu) 5)=(s,((rdK (qb,qa,false,qu) 5).1,(j:Int),false,())):=by
         unfold mY;rw[hd,el,ht];rfl
        have e3:c8 (qb,qa,false,qu)=((rdV (qb,qa,false,qu) 0,rdV (qb,qa,false,qu) 1,rdV (qb,qa,false,qu) 2,rdV (qb,qa,false,qu) 3,rdV (qb,qa,false,qu) 4,s,()),((rdK (qb,qa,false,qu) 5).1,(j:Int),false,())):=by unfold c8;rw[e4]
        have ih':=ih (i+1) (acc++[(c8 (qb,qa,false,qu)).1]) (c8 (qb,qa,false,qu)).2 hq.item ((JQ (qb,qa,false,qu)).trans hqb) (by omega) (by rw[List.length_append,ha];rfl)
        have e5:((jU (qb,qa,false,qu) (k+1)).bind λw=>nJ b (decide ((aO (rs0 b)).1>100)) (acc++w.1,w.2))=((jU (c8 (qb,qa,false,qu)).2 k).bind λw=>nJ b (decide ((aO (rs0 b)).1>100)) (acc++[(c8 (qb,qa,false,qu)).1]++w.1,w.2)):=by
         rw[e2,show(c8 (qb,qa,false,qu)).2.2.2.1=false by rw[e3]]
         show((jU (c8 (qb,qa,false,qu)).2 k).map λw=>((c8 (qb,qa,false,qu)).1::w.1,w.2)).bind _=_
         cases jU (c8 (qb,qa,false,qu)).2 k with
         | none=>rfl
         | some w=>show nJ b _ (acc++((c8 (qb,qa,false,qu)).1::w.1),w.2)=nJ b _ (acc++[(c8 (qb,qa,false,qu)).1]++w.1,w.2);rw[List.append_assoc];rfl
        rw[e5]
        refine It.next (λaA u rec=>(head aA rec).trans ?_) ih'
        rw[hd];rw[ht] at hg;refine qE hg ?_;refine qf ?_;refine qf ?_;refine qP hbk ?_;rw[e3]
   have lp0:=lp (aO (rs0 b)).1.toNat 0 [] (aO (rs0 b)).2 rN (gM _) (by omega) rfl
   have e:gS b=((jU (aO (rs0 b)).2 (aO (rs0 b)).1.toNat).bind λw=>nJ b (decide ((aO (rs0 b)).1>100)) ([]++w.1,w.2)):=by
    unfold gS ssI;rw[hbd]
    show(match jU (aO (rs0 b)).2 (aO (rs0 b)).1.toNat with | none=>none | some q=>nJ b false q)=_
    cases jU (aO (rs0 b)).2 (aO (rs0 b)).1.toNat<;>rfl
   rw[e];exact lp0
 exact Ev.eq (λaA=>by unfold T74;refine qR (f72 (rs0 b) r0) ?_;rfl) (run0.ev (i:=()) rfl)
end Go.Abs.Pz
