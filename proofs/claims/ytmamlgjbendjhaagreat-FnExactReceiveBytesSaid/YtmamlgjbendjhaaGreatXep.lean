/- What the functions of this program answer, part ep. -/
import Derived.Test.YtmamlgjbendjhaaGreatW3
import Derived.Test.YtmamlgjbendjhaaGreatXa
import Derived.Test.YtmamlgjbendjhaaGreatW2
set_option linter.unusedVariables false
open Go.IntKind (i64)
namespace Go.Abs.Xz
open Go Go.Abs
theorem f211(x lo hi:Int):Ran p 1 211 [vf K3 (x,()), vf K3 (lo,()), vf K3 (hi,())] (rO K4 (inB x lo hi,())):=go211 fun n hn=>Ev.now fun aA=>by
 unfold T211;exact fL fun _=>rfl
theorem f100(x lo hi:Int):Ran p 1 100 [vf K3 (x,()), vf K3 (lo,()), vf K3 (hi,())] (rO K4 (inB x lo hi,())):=go100 fun n hn=>Ev.now fun aA=>by
 unfold T100;exact fL fun _=>rfl
theorem f250(x:Int):Ran p 2 250 [vf K3 (x,())] (rO K4 (fO x,())):=go250 fun n hn=>Ev.now fun aA=>by
 unfold T250;refine qC (f211 x 0 4) ?_;rfl
theorem f123(x:Int):Ran p 2 123 [vf K3 (x,())] (rO K4 (fO x,())):=go123 fun n hn=>Ev.now fun aA=>by
 unfold T123;refine qC (f100 x 0 4) ?_;rfl
theorem f312(e:bJ):Ran p 2 312 [va K161 e] (rO K4 (d6 e,())):=go312 fun n hn=>Ev.now fun aA=>by
 unfold T312 d6;refine qC (f211 e.1 1 1000) ?_;refine fL fun _=>?_;refine qC (f211 e.2.1 0 1) ?_;refine fL fun _=>?_;refine qC (f211 e.2.2.1 0 100000) ?_;refine fL fun _=>?_;refine qC (f211 e.2.2.2.1 0 1000) ?_;refine fL fun _=>?_;rfl
theorem f242(e:bJ):Ran p 2 242 [va K161 e] (rO K4 (d6 e,())):=go242 fun n hn=>Ev.now fun aA=>by
 unfold T242 d6;refine qC (f100 e.1 1 1000) ?_;refine fL fun _=>?_;refine qC (f100 e.2.1 0 1) ?_;refine fL fun _=>?_;refine qC (f100 e.2.2.1 0 100000) ?_;refine fL fun _=>?_;refine qC (f100 e.2.2.2.1 0 1000) ?_;refine fL fun _=>?_;rfl
theorem zC {c:Nat->Unit->(Int->Option Out)->Int->Option Out} (fs:List aL) (id:Int)
  (h:∀ i,i<fs.length->∀ aA a rec,c aA a rec (i:Int)=bif(gt fs i).1==id then oI (gt fs i).2.1 else rec ((i+1:Nat):Int))
  (hn:∀ aA a rec,c aA a rec (fs.length:Int)=oI 0):It c (0:Int) (fun _=>oI (cO fs id)):=by
 have:=It.first (c:=c) (fun i=>(i:Int)) fs.length (fun i=>(gt fs i).1==id) (fun i _=>oI (gt fs i).2.1) (fun _=>oI 0)
  (fun i hi hp aA a rec=>by rw[h i hi];rw[hp];rfl) (fun i hi hp=>It.stop fun aA a rec=>by rw[h i hi];rw[hp];rfl) (It.stop hn)
 unfold cO
 revert this
 cases (List.range fs.length).find? (fun i=>(gt fs i).1==id)<;>exact fun h=>h
theorem f313(s:aE)(id:Int)(hl:s.2.1.length<=maxLen):Ran p 1 313 [va K27 s, vf K3 (id,())] (rO K3 (cO s.2.1 id,())):=go313 fun n hn=>by
 refine Ev.eq (fun aA=>by unfold T313;rfl) (It.ev (c:=fun aA (_:Unit)=>c313_2 (aI p n) aA s id) (i:=()) (zC s.2.1 id (fun i hi aA a rec=>?_) (fun aA a rec=>?_)) rfl)
 ·have hb:i<9223372036854775807:=Nat.lt_of_lt_of_le hi hl
  unfold c313_2;rw[aD hb];refine ql hi ?_;refine qz ?_;refine(aG hi).trans ?_
  refine congrArg (fun x=>bif(gt s.2.1 i).1==id then x else rec ((i+1:Nat):Int)) ?_
  refine qz ?_;refine(aG hi).trans ?_;rfl
 ·unfold c313_2;refine qe ?_;rfl
theorem f243(s:aE)(id:Int)(hl:s.2.1.length<=maxLen):Ran p 1 243 [va K27 s, vf K3 (id,())] (rO K3 (cO s.2.1 id,())):=go243 fun n hn=>by
 refine Ev.eq (fun aA=>by unfold T243;rfl) (It.ev (c:=fun aA (_:Unit)=>c243_2 (aI p n) aA s id) (i:=()) (zC s.2.1 id (fun i hi aA a rec=>?_) (fun aA a rec=>?_)) rfl)
 ·have hb:i<9223372036854775807:=Nat.lt_of_lt_of_le hi hl
  unfold c243_2;rw[aD hb];refine ql hi ?_;refine qz ?_;refine(aG hi).trans ?_;rfl
 ·unfold c243_2;refine qe ?_;rfl
theorem f227(s:aE)(h1:s.1.length<=maxLen)(h2:s.2.1.length<=maxLen):Ran p 3 227 [va K27 s] (rO K4 (aN s,())):=go227 fun n hn=>by
 have inner:It (fun aA (_:Unit)=>c227_8 (aI p n) aA s) (0:Int) (fun _=>oB (cE s.2.1.length (fG s.2.1))):=by
  refine d7 (It.allB s.2.1.length (fG s.2.1) true (fun i hi aA a rec=>?_) (It.stop fun aA a rec=>?_))
  ·have hb:i<9223372036854775807:=Nat.lt_of_lt_of_le hi h2
   unfold c227_8 fG;rw[aD hb];refine ql hi ?_;refine qz ?_;refine(aG hi).trans ?_;refine qC (f250 (gt s.2.1 i).1) ?_;refine chk fun _=>?_
   cases i with
   | zero=>refine qN (by decide) ?_;refine qC (f211 (gt s.2.1 0).2.1 1 1000) ?_;exact fin
   | succ j=>
    refine qP (by omega) ?_;rw[iX hb (by omega)];refine qz ?_;refine(aG (show j<s.2.1.length by omega)).trans ?_;refine M8 fun _=>?_
    refine qC (f211 (gt s.2.1 (j+1)).2.1 1 1000) ?_;exact fin
  ·unfold c227_8;refine qe ?_;rfl
 have outer:It (fun aA (_:Unit)=>c227_2 (aI p n) aA s) (0:Int) (fun _=>oB (aN s)):=by
  refine It.allB s.1.length (mD s) _ (fun i hi aA a rec=>?_) (It.stopE (T:=fun aA _=>iter (c227_8 (aI p n) aA s) aA (0:Int)) (fun aA a rec=>?_) inner.all_i)
  ·have hb:i<9223372036854775807:=Nat.lt_of_lt_of_le hi h1
   unfold c227_2 mD;rw[aD hb];refine ql hi ?_;refine qz ?_;refine(aG hi).trans ?_;refine qC (f250 (gt s.1 i).1) ?_;refine chk fun _=>?_
   cases i with
   | zero=>refine qN (by decide) ?_;refine qC (f312 (gt s.1 0).2) ?_;refine chk fun _=>?_;refine qC (f313 s (gt s.1 0).1 h2) ?_;exact C3
   | succ j=>
    refine qP (by omega) ?_;rw[iX hb (by omega)];refine qz ?_;refine(aG (show j<s.1.length by omega)).trans ?_;refine M8 fun _=>?_
    refine qC (f312 (gt s.1 (j+1)).2) ?_;refine chk fun _=>?_;refine qC (f313 s (gt s.1 (j+1)).1 h2) ?_;exact C3
  ·unfold c227_2;refine qe ?_;rfl
 exact Ev.eq (fun aA=>by unfold T227;rfl) (outer.ev (i:=()) rfl)
theorem f101(s:aE)(h1:s.1.length<=maxLen)(h2:s.2.1.length<=maxLen):Ran p 3 101 [va K27 s] (rO K4 (aN s,())):=go101 fun n hn=>by
 have inner:It (fun aA (_:Unit)=>c101_8 (aI p n) aA s) (0:Int) (fun _=>oB (cE s.1.length (oJ s))):=by
  refine d7 (It.allB s.1.length (oJ s) true (fun i hi aA a rec=>?_) (It.stop fun aA a rec=>?_))
  ·have hb:i<9223372036854775807:=Nat.lt_of_lt_of_le hi h1
   unfold c101_8 oJ;rw[aD hb];refine ql hi ?_;refine qz ?_;refine(aG hi).trans ?_;refine qC (f123 (gt s.1 i).1) ?_;refine chk fun _=>?_;refine qC (f242 (gt s.1 i).2) ?_;refine chk fun _=>?_;refine qC (f243 s (gt s.1 i).1 h2) ?_;refine M8 fun _=>?_
   cases i with
   | zero=>refine qN (by decide) ?_;rfl
   | succ j=>refine qP (by omega) ?_;rw[iX hb (by omega)];refine qz ?_;refine(aG (show j<s.1.length by omega)).trans ?_;exact C3
  ·unfold c101_8;refine qe ?_;rfl
 have outer:It (fun aA (_:Unit)=>c101_2 (aI p n) aA s) (0:Int) (fun _=>oB (cE s.2.1.length (iL s.2.1)&&cE s.1.length (oJ s))):=by
  refine It.allB s.2.1.length (iL s.2.1) _ (fun i hi aA a rec=>?_) (It.stopE (T:=fun aA _=>iter (c101_8 (aI p n) aA s) aA (0:Int)) (fun aA a rec=>?_) inner.all_i)
  ·have hb:i<9223372036854775807:=Nat.lt_of_lt_of_le hi h2
   unfold c101_2 iL;rw[aD hb];refine ql hi ?_;refine qz ?_;refine(aG hi).trans ?_;refine qC (f123 (gt s.2.1 i).1) ?_;refine chk fun _=>?_;refine qC (f100 (gt s.2.1 i).2.1 1 1000) ?_;refine chk fun _=>?_
   cases i with
   | zero=>refine qN (by decide) ?_;rfl
   | succ j=>refine qP (by omega) ?_;rw[iX hb (by omega)];refine qz ?_;refine(aG (show j<s.2.1.length by omega)).trans ?_;exact C3
  ·unfold c101_2;refine qe ?_;rfl
 rw[IQ] at outer
 exact Ev.eq (fun aA=>by unfold T101;rfl) (outer.ev (i:=()) rfl)
end Go.Abs.Xz
set_option maxHeartbeats 2000000
namespace Go.Abs.Xz
open Go Go.Abs
def sB:Option (Nat×Nat)->Out
 | none=>⟨[⟨K3,((0:Int),())⟩,⟨K3,((0:Int),())⟩,⟨K4,(false,())⟩],[]⟩
 | some (x,j)=>⟨[⟨K3,((x:Int),())⟩,⟨K3,((j:Int),())⟩,⟨K4,(true,())⟩],[]⟩
theorem f269(b:List aH)(i:Int)(hb:B8 b)(hl:b.length<=aQ):Ran p 1 269 [vf K22 (b,()), vf K3 (i,())] (sB (pD b i)):=go269 fun n hn=>by
 unfold pD
 by_cases h0:i<0
 ·exact Ev.now fun aA=>by unfold T269;refine qP h0 ?_;rw[decide_eq_true h0];rfl
 obtain⟨j,rfl⟩:∃ j:Nat,i=(j:Int):=⟨i.toNat,by omega⟩
 rw[decide_eq_false h0,Int.toNat_natCast]
 show Ev _ (sB (pW b j))
 by_cases h1:((j:Int)>=(b.length:Int))
 ·have e:pW b j=none:=by unfold pW sE;rw[if_neg (by omega)]
  rw[e]
  exact Ev.now fun aA=>by unfold T269;refine qN h0 ?_;refine qP h1 ?_;rfl
 have hs:b.length<=9223372036854775000:=Nat.le_trans hl (by decide)
 have lp:∀ (m k acc:Nat),k+m=5->acc<128 ^ k->It (fun aA (_:Unit)=>c269_5 (aI p n) aA b (j:Int)) ((acc:Int),(k:Int)) (fun _=>some (sB (sE b j m k acc))):=by
  intro m
  induction m with
  | zero=>
   intro k acc hk ha
   refine It.stop fun aA u rec=>?_
   unfold c269_5;dsimp only;refine qN (show ¬ ((k:Int)<5) by omega) ?_;rfl
  | succ m ih=>
   intro k acc hk ha
   have k5:k<5:=by omega
   have hp:=P6 k5
   have e1:i64.wrap ((j:Int)+(k:Int))=((j+k:Nat):Int):=by rw[IntKind.wrap_i64];omega
   unfold sE
   by_cases hin:j+k<b.length
   ·obtain⟨y,hy,hy2⟩:=hb (j+k) hin
    rw[if_pos hin,hy,Int.toNat_natCast]
    have e2:i64.wrap ((y:Int))=(y:Int):=by rw[IntKind.wrap_i64];omega
    have e3:tF i64 (((y % 128:Nat):Int)) (i64.wrap ((7:Int)*(k:Int)))=((y % 128*128 ^ k:Nat):Int):=HK (Nat.mod_lt _ (by omega)) k5
    have hm:y % 128*128 ^ k<=127*268435456:=Nat.mul_le_mul (by have:=Nat.mod_lt y (show 0<128 by omega);omega) hp
    have e4:i64.wrap ((acc:Int)+((y % 128*128 ^ k:Nat):Int))=((acc+y % 128*128 ^ k:Nat):Int):=by rw[IntKind.wrap_i64];omega
    have e5:¬ (i64.wrap ((7:Int)*(k:Int))<0):=by rw[KE k5];omega
    have e6:i64.wrap ((k:Int)+1)=((k+1:Nat):Int):=by rw[IntKind.wrap_i64];omega
    have e7:i64.wrap (((j+k:Nat):Int)+1)=((j+k+1:Nat):Int):=by rw[IntKind.wrap_i64];omega
    by_cases h128:128<=y
    ·rw[if_pos h128]
     refine It.next (y:=(((acc+y % 128*128 ^ k:Nat):Int),((k+1:Nat):Int))) (fun aA u rec=>?_) (ih (k+1) _ (by omega) (NP ha))
     unfold c269_5;dsimp only;refine qP (show(k:Int)<5 by omega) ?_;rw[e1];refine ql hin ?_;refine qz ?_;refine(aG hin).trans ?_;rw[show vI (gt b (j+k)).1=(y:Int)from hy,e2,tA,e3,e4,e6]
     refine qN (by decide) ?_;refine qN e5 ?_;refine qP (show(y:Int)>=128 by omega) ?_;rfl
    ·have ey:y % 128=y:=Nat.mod_eq_of_lt (by omega)
     rw[if_neg h128]
     refine It.stop fun aA u rec=>?_
     unfold c269_5;dsimp only;refine qP (show(k:Int)<5 by omega) ?_;rw[e1];refine ql hin ?_;refine qz ?_;refine(aG hin).trans ?_;rw[show vI (gt b (j+k)).1=(y:Int)from hy,e2,tA,e3,e4,e7]
     refine qN (by decide) ?_;refine qN e5 ?_;refine qN (show ¬ ((y:Int)>=128) by omega) ?_
     rw[ey]
     by_cases hk0:0<k
     ·refine qP (show(k:Int)>0 by omega) ?_
      by_cases hy0:y=0
      ·rw[if_pos ⟨hk0,hy0⟩];refine qT (show((y:Int)==0)=true by rw[hy0];rfl) ?_;rfl
      ·rw[if_neg (by omega)];refine qF (show((y:Int)==0)=false by simp;omega) ?_
       by_cases hbig:acc+y*128 ^ k>2147483647
       ·rw[if_pos hbig];refine qP (show((acc+y*128 ^ k:Nat):Int)>2147483647 by omega) ?_;rfl
       ·rw[if_neg hbig];refine qN (show ¬ (((acc+y*128 ^ k:Nat):Int)>2147483647) by omega) ?_;rfl
     ·rw[if_neg (by omega)];refine qN (show ¬ ((k:Int)>0) by omega) ?_
      by_cases hbig:acc+y*128 ^ k>2147483647
      ·rw[if_pos hbig];refine qP (show((acc+y*128 ^ k:Nat):Int)>2147483647 by omega) ?_;rfl
      ·rw[if_neg hbig];refine qN (show ¬ (((acc+y*128 ^ k:Nat):Int)>2147483647) by omega) ?_;rfl
   ·rw[if_neg hin]
    refine It.stop fun aA u rec=>?_
    unfold c269_5;dsimp only;refine qP (show(k:Int)<5 by omega) ?_;rw[e1];refine qN (show ¬ (((j+k:Nat):Int)<(b.length:Int)) by omega) ?_;rfl
 exact Ev.eq (fun aA=>by unfold T269;refine qN h0 ?_;refine qN h1 ?_;rfl) ((lp 5 0 0 rfl (by decide)).ev (i:=()) rfl)
theorem f335(b:List aH)(i:Int)(hb:B8 b)(hl:b.length<=aQ):Ran p 1 335 [vf K22 (b,()), vf K3 (i,())] (sB (pD b i)):=go335 fun n hn=>by
 unfold pD
 have hs:b.length<=9223372036854775000:=Nat.le_trans hl (by decide)
 by_cases h0:i<0
 ·rw[decide_eq_true h0]
  have lp:It (fun aA (_:Unit)=>c335_3 (aI p n) aA b i) ((0:Int),(0:Int)) (fun _=>some (sB none)):=It.stop fun aA u rec=>by
   unfold c335_3;dsimp only;refine qP (show(0:Int)<5 by omega) ?_;refine qP h0 ?_;rfl
  exact Ev.eq (fun aA=>by unfold T335;rfl) (lp.ev (i:=()) rfl)
 obtain⟨j,rfl⟩:∃ j:Nat,i=(j:Int):=⟨i.toNat,by omega⟩
 rw[decide_eq_false h0,Int.toNat_natCast]
 show Ev _ (sB (pW b j))
 have lp:∀ (m k acc:Nat),k+m=5->acc<128 ^ k->It (fun aA (_:Unit)=>c335_3 (aI p n) aA b (j:Int)) ((acc:Int),(k:Int)) (fun _=>some (sB (sE b j m k acc))):=by
  intro m
  induction m with
  | zero=>
   intro k acc hk ha
   refine It.stop fun aA u rec=>?_
   unfold c335_3;dsimp only;refine qN (show ¬ ((k:Int)<5) by omega) ?_;rfl
  | succ m ih=>
   intro k acc hk ha
   have k5:k<5:=by omega
   have hp:=P6 k5
   have e0:i64.wrap ((b.length:Int) - (k:Int))=(b.length:Int) - (k:Int):=by rw[IntKind.wrap_i64];omega
   unfold sE
   by_cases hin:j+k<b.length
   ·have e1:i64.wrap ((j:Int)+(k:Int))=((j+k:Nat):Int):=by rw[IntKind.wrap_i64];omega
    obtain⟨y,hy,hy2⟩:=hb (j+k) hin
    rw[if_pos hin,hy,Int.toNat_natCast]
    have e2:i64.wrap ((y:Int))=(y:Int):=by rw[IntKind.wrap_i64];omega
    have e3:tF i64 (((y % 128:Nat):Int)) (i64.wrap ((7:Int)*(k:Int)))=((y % 128*128 ^ k:Nat):Int):=HK (Nat.mod_lt _ (by omega)) k5
    have e4:orI i64 (acc:Int) ((y % 128*128 ^ k:Nat):Int)=((acc+y % 128*128 ^ k:Nat):Int):=P7 ha (Nat.mod_lt _ (by omega)) k5
    have e5:¬ (i64.wrap ((7:Int)*(k:Int))<0):=by rw[KE k5];omega
    have e6:i64.wrap ((k:Int)+1)=((k+1:Nat):Int):=by rw[IntKind.wrap_i64];omega
    have e7:i64.wrap (((j+k:Nat):Int)+1)=((j+k+1:Nat):Int):=by rw[IntKind.wrap_i64];omega
    by_cases h128:128<=y
    ·rw[if_pos h128]
     refine It.next (y:=(((acc+y % 128*128 ^ k:Nat):Int),((k+1:Nat):Int))) (fun aA u rec=>?_) (ih (k+1) _ (by omega) (NP ha))
     unfold c335_3;dsimp only;refine qP (show(k:Int)<5 by omega) ?_;refine qN h0 ?_;refine qN (show ¬ ((j:Int)>=i64.wrap ((b.length:Int) - (k:Int))) by rw[e0];omega) ?_;rw[e1];refine qz ?_;refine(aG hin).trans ?_;rw[show vI (gt b (j+k)).1=(y:Int)from hy,e2,tA,e3,e4,e6]
     refine qN (by decide) ?_;refine qN e5 ?_;refine qN (show ¬ ((y:Int)<128) by omega) ?_;rfl
    ·have ey:y % 128=y:=Nat.mod_eq_of_lt (by omega)
     rw[if_neg h128]
     refine It.stop fun aA u rec=>?_
     unfold c335_3;dsimp only;refine qP (show(k:Int)<5 by omega) ?_;refine qN h0 ?_;refine qN (show ¬ ((j:Int)>=i64.wrap ((b.length:Int) - (k:Int))) by rw[e0];omega) ?_;rw[e1];refine qz ?_;refine(aG hin).trans ?_;rw[show vI (gt b (j+k)).1=(y:Int)from hy,e2,tA,e3,e4,e7]
     refine qN (by decide) ?_;refine qN e5 ?_;refine qP (show(y:Int)<128 by omega) ?_
     rw[ey]
     by_cases hk0:0<k
     ·refine qP (show(k:Int)>0 by omega) ?_
      by_cases hy0:y=0
      ·rw[if_pos ⟨hk0,hy0⟩];refine qT (show((y:Int)==0)=true by rw[hy0];rfl) ?_;rfl
      ·rw[if_neg (by omega)];refine qF (show((y:Int)==0)=false by simp;omega) ?_
       by_cases hbig:acc+y*128 ^ k>2147483647
       ·rw[if_pos hbig];refine qP (show((acc+y*128 ^ k:Nat):Int)>2147483647 by omega) ?_;rfl
       ·rw[if_neg hbig];refine qN (show ¬ (((acc+y*128 ^ k:Nat):Int)>2147483647) by omega) ?_;rfl
     ·rw[if_neg (by omega)];refine qN (show ¬ ((k:Int)>0) by omega) ?_
      by_cases hbig:acc+y*128 ^ k>2147483647
      ·rw[if_pos hbig];refine qP (show((acc+y*128 ^ k:Nat):Int)>2147483647 by omega) ?_;rfl
      ·rw[if_neg hbig];refine qN (show ¬ (((acc+y*128 ^ k:Nat):Int)>2147483647) by omega) ?_;rfl
   ·rw[if_neg hin]
    refine It.stop fun aA u rec=>?_
    unfold c335_3;dsimp only;refine qP (show(k:Int)<5 by omega) ?_;refine qN h0 ?_;refine qP (show((j:Int)>=i64.wrap ((b.length:Int) - (k:Int))) by rw[e0];omega) ?_;rfl
 exact Ev.eq (fun aA=>by unfold T335;rfl) ((lp 5 0 0 rfl (by decide)).ev (i:=()) rfl)
end Go.Abs.Xz
set_option maxHeartbeats 2000000
namespace Go.Abs.Xz
open Go Go.Abs
-- a number read off a reader: (the number, the reader behind it)
theorem f131(r:RdT)(h:RdOk r):Ran p 2 131 [.ref ⟨K180,r⟩] ⟨[⟨K3,((aK r).1,())⟩],[⟨K180,(aK r).2⟩]⟩:=go131 fun n hn=>Ev.now fun aA=>by
 have hg:=f269 r.1 r.2.1 h.b8 h.len
 unfold T131 aK
 cases e:pD r.1 r.2.1 with
 | none=>
  rw[e] at hg
  refine qE hg ?_
  cases r.2.2.1 with
  | true=>rfl
  | false=>refine qf ?_;rfl
 | some q=>
  obtain⟨x,j⟩:=q
  rw[e] at hg
  refine qE hg ?_
  cases r.2.2.1 with
  | true=>rfl
  | false=>refine qf ?_;rfl
theorem f266(r:RdT)(h:RdOk r):Ran p 2 266 [.ref ⟨K267,r⟩] ⟨[⟨K3,((aK r).1,())⟩],[⟨K267,(aK r).2⟩]⟩:=go266 fun n hn=>Ev.now fun aA=>by
 have hg:=f335 r.1 r.2.1 h.b8 h.len
 unfold T266 aK
 cases e:pD r.1 r.2.1 with
 | none=>
  rw[e] at hg
  refine qE hg ?_
  cases r.2.2.1 with
  | true=>rfl
  | false=>refine qf ?_;rfl
 | some q=>
  obtain⟨x,j⟩:=q
  rw[e] at hg
  refine qE hg ?_
  cases r.2.2.1 with
  | true=>rfl
  | false=>refine qf ?_;rfl
end Go.Abs.Xz
set_option maxHeartbeats 2000000
namespace Go.Abs.Xz
open Go Go.Abs
theorem f134(r:RdT)(m:Int)(h:RdOk r):Ran p 3 134 [.ref ⟨K180,r⟩, vf K3 (m,())] ⟨[⟨K3,((eD r m).1,())⟩],[⟨K180,(eD r m).2⟩]⟩:=go134 fun n hn=>Ev.now fun aA=>by
 unfold T134 eD;refine qR (f131 r h) ?_
 cases e:decide ((aK r).1>m)with
 | true=>rfl
 | false=>rfl
def uN:Option (ByteArray×Nat)->Out
 | none=>⟨[⟨K9,((⟨#[]⟩:ByteArray),())⟩,⟨K3,((0:Int),())⟩,⟨K4,(false,())⟩],[]⟩
 | some (s,j)=>⟨[⟨K9,(s,())⟩,⟨K3,((j:Int),())⟩,⟨K4,(true,())⟩],[]⟩
theorem f337(b:List aH)(i:Int)(hb:B8 b)(hl:b.length<=aQ):Ran p 2 337 [vf K22 (b,()), vf K3 (i,())] (uN (sY b i)):=go337 fun n hn=>Ev.now fun aA=>by
 have hg:=f269 b i hb hl
 have hs:b.length<=9223372036854775000:=Nat.le_trans hl (by decide)
 unfold T337 sY
 cases e:pD b i with
 | none=>
  rw[e] at hg
  refine qE hg ?_;rfl
 | some q=>
  obtain⟨x,j⟩:=q
  rw[e] at hg
  have hbd:=xR e
  refine qE hg ?_;refine qf ?_
  have e1:i64.wrap ((b.length:Int) - (j:Int))=(b.length:Int) - (j:Int):=by rw[IntKind.wrap_i64];omega
  by_cases hx:x>b.length - j
  ·show _=some (uN (if x>b.length - j then none else some (cA ((b.take (j+x)).drop j),j+x)))
   rw[if_pos hx]
   refine qP (show((x:Int)>i64.wrap ((b.length:Int) - (j:Int))) by rw[e1];omega) ?_;rfl
  ·show _=some (uN (if x>b.length - j then none else some (cA ((b.take (j+x)).drop j),j+x)))
   rw[if_neg hx]
   have e2:i64.wrap ((j:Int)+(x:Int))=((j+x:Nat):Int):=by rw[IntKind.wrap_i64];omega
   refine qN (show ¬ ((x:Int)>i64.wrap ((b.length:Int) - (j:Int))) by rw[e1];omega) ?_
   rw[show i64.wrap (vI ((j:Int))+vI ((x:Int)))=((j+x:Nat):Int)from e2]
   refine qT (show(decide ((0:Int)<=((j+x:Nat):Int))&&decide (((j+x:Nat):Int)<=(b.length:Int)))=true by rw[decide_eq_true (by omega),decide_eq_true (by omega)];rfl) ?_
   refine qT (show(decide ((0:Int)<=(j:Int))&&decide ((j:Int)<=(((((j+x:Nat):Int)).toNat:Nat):Int)))=true by rw[decide_eq_true (by omega),decide_eq_true (by omega)];rfl) ?_
   rfl
theorem f336(b:List aH)(i:Int)(hb:B8 b)(hl:b.length<=aQ):Ran p 2 336 [vf K22 (b,()), vf K3 (i,())] (uN (sY b i)):=go336 fun n hn=>Ev.now fun aA=>by
 have hg:=f335 b i hb hl
 have hs:b.length<=9223372036854775000:=Nat.le_trans hl (by decide)
 unfold T336 sY
 cases e:pD b i with
 | none=>
  rw[e] at hg
  refine qE hg ?_;rfl
 | some q=>
  obtain⟨x,j⟩:=q
  rw[e] at hg
  have hbd:=xR e
  refine qE hg ?_;refine qf ?_
  have e1:i64.wrap ((b.length:Int) - (j:Int))=(b.length:Int) - (j:Int):=by rw[IntKind.wrap_i64];omega
  by_cases hx:x>b.length - j
  ·show _=some (uN (if x>b.length - j then none else some (cA ((b.take (j+x)).drop j),j+x)))
   rw[if_pos hx]
   refine qP (show((x:Int)>i64.wrap ((b.length:Int) - (j:Int))) by rw[e1];omega) ?_;rfl
  ·show _=some (uN (if x>b.length - j then none else some (cA ((b.take (j+x)).drop j),j+x)))
   rw[if_neg hx]
   have e2:i64.wrap ((j:Int)+(x:Int))=((j+x:Nat):Int):=by rw[IntKind.wrap_i64];omega
   refine qN (show ¬ ((x:Int)>i64.wrap ((b.length:Int) - (j:Int))) by rw[e1];omega) ?_
   rw[show i64.wrap (vI ((j:Int))+vI ((x:Int)))=((j+x:Nat):Int)from e2]
   refine qT (show(decide ((0:Int)<=((j+x:Nat):Int))&&decide (((j+x:Nat):Int)<=(b.length:Int)))=true by rw[decide_eq_true (by omega),decide_eq_true (by omega)];rfl) ?_
   refine qT (show(decide ((0:Int)<=(j:Int))&&decide ((j:Int)<=(((((j+x:Nat):Int)).toNat:Nat):Int)))=true by rw[decide_eq_true (by omega),decide_eq_true (by omega)];rfl) ?_
   rfl
end Go.Abs.Xz
set_option maxHeartbeats 2000000
namespace Go.Abs.Xz
open Go Go.Abs
theorem f270(r:RdT)(h:RdOk r):Ran p 3 270 [.ref ⟨K180,r⟩] ⟨[⟨K9,((lD r).1,())⟩],[⟨K180,(lD r).2⟩]⟩:=go270 fun n hn=>Ev.now fun aA=>by
 have hg:=f337 r.1 r.2.1 h.b8 h.len
 unfold T270 lD
 cases e:sY r.1 r.2.1 with
 | none=>
  rw[e] at hg
  refine qE hg ?_
  cases r.2.2.1 with
  | true=>rfl
  | false=>refine qf ?_;rfl
 | some q=>
  obtain⟨x,j⟩:=q
  rw[e] at hg
  refine qE hg ?_
  cases r.2.2.1 with
  | true=>rfl
  | false=>refine qf ?_;rfl
-- several numbers
def N7(k:Nat)(q:List aH×RdT):Int×List aH×List aH×Int×Bool:=((k:Int),q.1,q.2.1,q.2.2.1,q.2.2.2.1)
theorem f132(r:RdT)(m:Int)(h:RdOk r)(hm:0<=m/\m<=1000):Ran p 4 132 [.ref ⟨K180,r⟩, vf K3 (m,())] ⟨[⟨K28,((kK r m).1,())⟩],[⟨K180,(kK r m).2⟩]⟩:=go132 fun n hn=>by
 have hc:=pN r hm.1
 have hk:=h.cnt m
 have lp:It (fun aA (_:Unit)=>c132_4 (aI p n) aA ((((eD r m).1,()),()),((eD r m).2,()))) (N7 0 (cF u5 (eD r m).2 0)) (fun _=>some ⟨[⟨K28,((kK r m).1,())⟩],[⟨K180,(kK r m).2⟩]⟩):=by
  refine It.run (fun i=>N7 i (cF u5 (eD r m).2 i)) (eD r m).1.toNat (fun i hi aA u rec=>?_) (It.stop fun aA u rec=>?_)
  ·have hl:=hO u5 (eD r m).2 i
   have hbd:(cF u5 (eD r m).2 i).1.length+1<=bound:=by unfold bound;omega
   unfold c132_4 N7;dsimp only;rw[aD (show i<9223372036854775807 by omega)];refine qP (show(i:Int)<(eD r m).1 by omega) ?_;refine qR (f131 (cF u5 (eD r m).2 i).2 (m9 (f:=u5) (fun r h=>RdOk.num h) hk i)) ?_;refine qP hbd ?_;rfl
  ·unfold c132_4 N7;dsimp only;refine qN (show ¬ ((((eD r m).1.toNat:Nat):Int)<(eD r m).1) by omega) ?_;rfl
 exact Ev.eq (fun aA=>by unfold T132;refine qR (f134 r m h) ?_;rfl) (lp.ev (i:=()) rfl)
end Go.Abs.Xz
namespace Go.Abs.Xz
open Go Go.Abs
theorem f93(a b:List aH)(ha:a.length<=maxLen):Ran p 1 93 [vf K28 (a,()), vf K28 (b,())] (rO K4 (jI a b,())):=go93 fun n hn=>by
 by_cases he:a.length=b.length
 ·have e:((a.length:Int) != (b.length:Int))=false:=by simp[he]
  have e2:jI a b=cE a.length (fun i=>(gt a i).1==(gt b i).1):=by unfold jI;rw[he];simp
  rw[e2]
  have lp:It (fun aA (_:Unit)=>c93_4 (aI p n) aA a b) (0:Int) (fun _=>oB (cE a.length (fun i=>(gt a i).1==(gt b i).1))):=by
   refine d7 (It.allB a.length _ true (fun i hi aA a' rec=>?_) (It.stop fun aA a' rec=>?_))
   ·have hb:i<9223372036854775807:=Nat.lt_of_lt_of_le hi ha
    unfold c93_4;rw[aD hb];refine ql hi ?_;refine qz ?_;refine(aG hi).trans ?_;refine qz ?_;refine(aG (show i<b.length from he▸hi)).trans ?_;exact fin
   ·unfold c93_4;refine qe ?_;rfl
  exact Ev.eq (fun aA=>by unfold T93;exact dH e) (lp.ev (i:=()) rfl)
 ·have e:((a.length:Int) != (b.length:Int))=true:=by simp;omega
  have e2:jI a b=false:=by unfold jI;rw[show((a.length:Int)==(b.length:Int))=false from by simp;omega];rfl
  rw[e2]
  exact Ev.now fun aA=>by unfold T93;exact jU e
theorem f244(a b:List aH)(ha:a.length<=maxLen):Ran p 1 244 [vf K28 (a,()), vf K28 (b,())] (rO K4 (jI a b,())):=go244 fun n hn=>by
 by_cases he:a.length=b.length
 ·have e:((a.length:Int) != (b.length:Int))=false:=by simp[he]
  have e2:jI a b=cE a.length (fun i=>(gt a i).1==(gt b i).1):=by unfold jI;rw[he];simp
  rw[e2]
  have lp:It (fun aA (_:Unit)=>c244_4 (aI p n) aA a b) (0:Int) (fun _=>oB (cE a.length (fun i=>(gt a i).1==(gt b i).1))):=by
   refine d7 (It.allB a.length _ true (fun i hi aA a' rec=>?_) (It.stop fun aA a' rec=>?_))
   ·have hb:i<9223372036854775807:=Nat.lt_of_lt_of_le hi ha
    unfold c244_4;rw[aD hb];refine ql hi ?_;refine qz ?_;refine(aG hi).trans ?_;refine qz ?_;refine(aG (show i<b.length from he▸hi)).trans ?_;exact fin
   ·unfold c244_4;refine qe ?_;rfl
  exact Ev.eq (fun aA=>by unfold T244;exact dH e) (lp.ev (i:=()) rfl)
 ·have e:((a.length:Int) != (b.length:Int))=true:=by simp;omega
  have e2:jI a b=false:=by unfold jI;rw[show((a.length:Int)==(b.length:Int))=false from by simp;omega];rfl
  rw[e2]
  exact Ev.now fun aA=>by unfold T244;exact jU e
theorem f91(a b:kH)(ha:a.1.length<=maxLen):Ran p 2 91 [va K30 a, va K30 b] (rO K4 (jI a.1 b.1&&a.2.1==b.2.1,())):=go91 fun n hn=>Ev.now fun aA=>by
 unfold T91;refine qC (f93 a.1 b.1 ha) ?_;refine fL fun _=>?_;rfl
theorem f102(a b:kH)(ha:a.1.length<=maxLen):Ran p 2 102 [va K30 a, va K30 b] (rO K4 (jI a.1 b.1&&a.2.1==b.2.1,())):=go102 fun n hn=>Ev.now fun aA=>by
 unfold T102;refine qC (f244 a.1 b.1 ha) ?_;refine fL fun _=>?_;rfl
theorem f331(x:Int):Ran p 2 331 [vf K3 (x,())] (rO K22 (aF x,())):=go331 fun n hn=>by
 cases hx:inB x 0 2147483647 with
 | false=>
  refine Ev.now fun aA=>?_
  unfold T331 aF;refine qC (f211 x 0 2147483647) ?_;rw[hx];rfl
 | true=>
  have hr:=bA.1 hx
  obtain⟨m,rfl⟩:∃ m:Nat,x=m:=⟨x.toNat,by omega⟩
  have lp:It (fun aA (_:Unit)=>c331_4 (aI p n) aA) ((m:Int),([]:List aH)) (fun _=>rV K22 (([]:List aH)++g9 m,())):=by
   refine yI (fun l=>rV K22 (l,())) (fun m hm pre hp aA a rec=>?_) (fun m hm pre hp aA a rec=>?_) 5 m [] (by omega) (by omega) (by decide)
   ·unfold c331_4;refine qN (by show ¬ ((m:Int)>127);omega) ?_;refine qP (by show pre.length+1<=4294967296;omega) ?_;rfl
   ·unfold c331_4;refine qP (by show(m:Int)>127;omega) ?_;refine qN (by decide) ?_;refine qP (by show pre.length+1<=4294967296;omega) ?_;refine qN (by decide) ?_;rfl
  have e2:aF (m:Int)=g9 m:=by unfold aF;rw[hx];rfl
  rw[e2]
  exact Ev.eq (fun aA=>by unfold T331;refine qC (f211 (m:Int) 0 2147483647) ?_;rw[hx];rfl) (lp.ev (i:=()) rfl)
theorem f138(x:Int):Ran p 2 138 [vf K3 (x,())] (rO K22 (aF x,())):=go138 fun n hn=>by
 cases hx:inB x 0 2147483647 with
 | false=>
  refine Ev.now fun aA=>?_
  unfold T138 aF;refine qC (f100 x 0 2147483647) ?_;rw[hx];rfl
 | true=>
  have hr:=bA.1 hx
  obtain⟨m,rfl⟩:∃ m:Nat,x=m:=⟨x.toNat,by omega⟩
  have lp:It (fun aA (_:Unit)=>c138_4 (aI p n) aA) ((m:Int),([]:List aH)) (fun _=>rV K22 (([]:List aH)++g9 m,())):=by
   refine yI (fun l=>rV K22 (l,())) (fun m hm pre hp aA a rec=>?_) (fun m hm pre hp aA a rec=>?_) 5 m [] (by omega) (by omega) (by decide)
   ·unfold c138_4;refine qN (by show ¬ ((m:Int)>=128);omega) ?_;refine qP (by show pre.length+1<=4294967296;omega) ?_;rfl
   ·unfold c138_4;refine qP (by show(m:Int)>=128;omega) ?_;refine qN (by decide) ?_;refine qP (by show pre.length+1<=4294967296;omega) ?_;refine qN (by decide) ?_;rfl
  have e2:aF (m:Int)=g9 m:=by unfold aF;rw[hx];rfl
  rw[e2]
  exact Ev.eq (fun aA=>by unfold T138;refine qC (f100 (m:Int) 0 2147483647) ?_;rw[hx];rfl) (lp.ev (i:=()) rfl)
theorem f137(ps:List bK)(L:Nat)(hL:∀ i,i<ps.length->(gt ps i).1.length<=L)(hb:ps.length*L<=bound)(hp:ps.length<=maxLen):Ran p 1 137 [vf K62 (ps,())] (rO K22 (ps.flatMap (fun r=>r.1),())):=go137 fun n hn=>by
 have lp:It (fun aA (_:Unit)=>c137_3 (aI p n) aA ps) ((0:Int),([]:List aH)) (fun _=>rV K22 (ps.flatMap (fun r=>r.1),())):=by
  refine It.accu [] (fun i=>(gt ps i).1) ps.length L hL (fun i hi acc ha aA a rec=>?_) (It.stop fun aA a rec=>?_)
  ·have hb':i<9223372036854775807:=Nat.lt_of_lt_of_le hi hp
   unfold c137_3;dsimp only;rw[aD hb'];refine ql hi ?_;refine qz ?_;refine(aG hi).trans ?_;refine qP (Nat.le_trans ha (by simpa using hb)) ?_;rfl
  ·unfold c137_3;refine qe ?_;exact congrArg (fun l:List aH=>(rV K22 (l,()):Option Out)) (cI (fun r:bK=>r.1) ps)
 exact Ev.eq (fun aA=>by unfold T137;rfl) (lp.ev (i:=()) rfl)
theorem f360(s:ByteArray)(hs:ByteArray.size s<=1048576):Ran p 3 360 [vf K9 (s,())] (rO K22 (dU s,())):=go360 fun n hn=>Ev.now fun aA=>by
 unfold T360;refine qC (f331 ((ByteArray.size s:Nat):Int)) ?_;
 refine(cB ?_).trans rfl
 have h1:=aZ ((ByteArray.size s:Nat):Int)
 have h2:=jT s
 show(aF ((ByteArray.size s:Nat):Int)).length+(fK s).length<=4294967296
 omega
theorem f271(s:ByteArray)(hs:ByteArray.size s<=1048576):Ran p 3 271 [vf K9 (s,())] (rO K22 (dU s,())):=go271 fun n hn=>Ev.now fun aA=>by
 unfold T271;refine qC (f138 ((ByteArray.size s:Nat):Int)) ?_
 have h1:=aZ ((ByteArray.size s:Nat):Int)
 have h2:=jT s
 refine qC (f137 [(aF ((ByteArray.size s:Nat):Int),()),(fK s,())] 1048576 (fun i hi=>by
  rcases i with _ | _ | i
  ·show(aF ((ByteArray.size s:Nat):Int)).length<=_;omega
  ·show(fK s).length<=_;omega
  ·exact absurd hi (by show ¬ (i+1+1<2);omega)) (by show 2*1048576<=4294967296;omega) (by show 2<=9223372036854775807;omega)) ?_
 exact congrArg (fun l:List aH=>(rV K22 (l,()):Option Out)) (by simp[dU]:List.flatMap (fun r:bK=>r.1) [(aF ((ByteArray.size s:Nat):Int),()),(fK s,())]=dU s)
theorem f334(bs:List aH)(hl:bs.length<=maxLen):Ran p 1 334 [vf K22 (bs,())] (rO K3 (crc bs,())):=go334 fun n hn=>by
 have inner:∀ (i:Nat),i<9223372036854775807->∀ x0:Int,It (fun aA rec3=>c334_7 (aI p n) aA bs (i:Int) rec3) (x0,(0:Int)) (fun rec3=>rec3 (iR 8 x0,((i+1:Nat):Int))):=by
  intro i hi x0
  refine It.run (fun k=>(iR k x0,(k:Int))) 8 (fun k hk aA rec3 rec=>?_) (It.stop fun aA rec3 rec=>?_)
  ·have hb:k<9223372036854775807:=by omega
   unfold c334_7;dsimp only;rw[aD hb];refine qP (by omega) ?_;refine qN (by decide) ?_;refine qN (by decide) ?_
   show _=rec (sJ (iR k x0),((k+1:Nat):Int))
   unfold sJ
   cases ((iR k x0).tmod 2==1)<;>rfl
  ·unfold c334_7;dsimp only;rw[aD hi];exact aW (by decide)
 have outer:It (fun aA (_:Unit)=>c334_3 (aI p n) aA bs) ((4294967295:Int),(0:Int)) (fun _=>oI (crc bs)):=by
  refine It.runE (fun i=>(w6 bs i,(i:Int))) bs.length (fun i hi=>?_) (It.stop fun aA a rec=>?_)
  ·have hb:i<9223372036854775807:=Nat.lt_of_lt_of_le hi hl
   obtain⟨N,hN⟩:=(inner i hb (sU .i64 (w6 bs i) (i64.wrap (gt bs i).1))).all_i
   refine⟨N,fun aA hf a rec=>?_⟩
   unfold c334_3;refine ql hi ?_;refine qz ?_;refine(aG hi).trans ?_;exact hN aA hf rec
  ·unfold c334_3;refine qe ?_;rfl
 exact Ev.eq (fun aA=>by unfold T334;rfl) (outer.ev (i:=()) rfl)
theorem f272(bs:List aH)(hl:bs.length<=maxLen):Ran p 1 272 [vf K22 (bs,())] (rO K3 (crc bs,())):=go272 fun n hn=>by
 have inner:∀ (i:Nat),i<9223372036854775807->∀ x0:Int,It (fun aA rec3=>c272_7 (aI p n) aA bs (i:Int) rec3) (x0,(0:Int)) (fun rec3=>rec3 (iR 8 x0,((i+1:Nat):Int))):=by
  intro i hi x0
  refine It.run (fun k=>(iR k x0,(k:Int))) 8 (fun k hk aA rec3 rec=>?_) (It.stop fun aA rec3 rec=>?_)
  ·have hb:k<9223372036854775807:=by omega
   unfold c272_7;dsimp only;rw[aD hb];refine qP (by omega) ?_;refine qN (by decide) ?_;refine qN (by decide) ?_
   show _=rec (sJ (iR k x0),((k+1:Nat):Int))
   unfold sJ
   cases ((iR k x0).tmod 2==1)<;>rfl
  ·unfold c272_7;dsimp only;rw[aD hi];exact aW (by decide)
 have outer:It (fun aA (_:Unit)=>c272_3 (aI p n) aA bs) ((4294967295:Int),(0:Int)) (fun _=>oI (crc bs)):=by
  refine It.runE (fun i=>(w6 bs i,(i:Int))) bs.length (fun i hi=>?_) (It.stop fun aA a rec=>?_)
  ·have hb:i<9223372036854775807:=Nat.lt_of_lt_of_le hi hl
   obtain⟨N,hN⟩:=(inner i hb (sU .i64 (w6 bs i) (i64.wrap (gt bs i).1))).all_i
   refine⟨N,fun aA hf a rec=>?_⟩
   unfold c272_3;refine ql hi ?_;refine qz ?_;refine(aG hi).trans ?_;exact hN aA hf rec
  ·unfold c272_3;refine qe ?_;rfl
 exact Ev.eq (fun aA=>by unfold T272;rfl) (outer.ev (i:=()) rfl)
theorem f330(x:Int):Ran p 3 330 [vf K3 (x,())] (rO K3 (cY x,())):=go330 fun n hn=>Ev.now fun aA=>by
 unfold T330 cY;refine qC (f250 x) ?_
 cases fO x with
 | false=>rfl
 | true=>
  refine qf ?_
  refine qC (f331 x) ?_;refine qC (f334 (aF x) (Nat.le_trans (aZ x) (by decide))) ?_;refine qN (by decide) ?_;rfl
theorem f322(x:Int):Ran p 3 322 [vf K3 (x,())] (rO K3 (cY x,())):=go322 fun n hn=>Ev.now fun aA=>by
 unfold T322 cY;refine qC (f123 x) ?_
 cases fO x with
 | false=>rfl
 | true=>
  refine qf ?_
  refine qC (f138 x) ?_;refine qC (f272 (aF x) (Nat.le_trans (aZ x) (by decide))) ?_;refine qN (by decide) ?_;rfl
theorem f329(ls:List aH)(x:Int)(hl:ls.length<=maxLen):Ran p 1 329 [vf K28 (ls,()), vf K3 (x,())] (rO K4 (jA ls x,())):=go329 fun n hn=>by
 have lp:It (fun aA (_:Unit)=>c329_2 (aI p n) aA ls x) (0:Int) (fun _=>oB (jA ls x)):=by
  rw[EP]
  refine It.anyB ls.length _ (fun i hi aA a rec=>?_) (fun aA a rec=>?_)
  ·have hb:i<9223372036854775807:=Nat.lt_of_lt_of_le hi hl
   unfold c329_2;rw[aD hb];refine ql hi ?_;refine qz ?_;refine(aG hi).trans ?_;rfl
  ·unfold c329_2;refine qe ?_;rfl
 exact Ev.eq (fun aA=>by unfold T329;rfl) (lp.ev (i:=()) rfl)
theorem f356(ls:List aH)(x:Int)(hl:ls.length<=maxLen):Ran p 1 356 [vf K28 (ls,()), vf K3 (x,())] (rO K3 (MM ls x,())):=go356 fun n hn=>by
 have lp:It (fun aA (_:Unit)=>c356_2 (aI p n) aA ls x) (0:Int) (fun _=>oI (MM ls x)):=by
  have:=It.first (c:=fun aA (_:Unit)=>c356_2 (aI p n) aA ls x) (fun i=>(i:Int)) ls.length (fun i=>x==(gt ls i).1) (fun i _=>oI (i:Int)) (fun _=>oI (-1)) (fun i hi hp aA a rec=>?_) (fun i hi hp=>It.stop fun aA a rec=>?_) (It.stop fun aA a rec=>?_)
  ·revert this;unfold MM
   cases (List.range ls.length).find? (fun i=>x==(gt ls i).1)<;>exact fun h=>h
  ·have hb:i<9223372036854775807:=Nat.lt_of_lt_of_le hi hl
   unfold c356_2;rw[aD hb];refine ql hi ?_;refine qz ?_;refine(aG hi).trans ?_;exact dH hp
  ·unfold c356_2;refine ql hi ?_;refine qz ?_;refine(aG hi).trans ?_;exact jU hp
  ·unfold c356_2;refine qe ?_;rfl
 exact Ev.eq (fun aA=>by unfold T356;rfl) (lp.ev (i:=()) rfl)
theorem f321(ls:List aH)(x:Int)(hl:ls.length<=maxLen):Ran p 2 321 [vf K28 (ls,()), vf K3 (x,())] (rO K4 (jA ls x,())):=go321 fun n hn=>Ev.now fun aA=>by
 unfold T321;refine qC (f356 ls x hl) ?_;exact congrArg (fun b:Bool=>(rV K4 (b,()):Option Out)) (ML ls x)
theorem f261(s:aE)(ls:List aH)(hl:ls.length<=maxLen)(h1:s.1.length<=1000)(h2:s.2.1.length<=1000):Ran p 4 261 [va K27 s, vf K28 (ls,())] (rO K27 (iT s ls)):=go261 fun n hn=>by
 have inner:∀ v:List bL,It (fun aA (_:Unit)=>c261_8 (aI p n) aA s ls v) ((0:Int),([]:List aL)) (fun _=>rV K27 (v,s.2.1.filter (fun f=>jA ls (cY f.1)),())):=by
  intro v
  refine It.accu (α:=aL) [] (fun i=>bif jA ls (cY (gt s.2.1 i).1)then[gt s.2.1 i] else[]) s.2.1.length 1 (fun i hi=>by cases jA ls (cY (gt s.2.1 i).1)<;>simp) (fun i hi acc ha aA a rec=>?_) (It.stop fun aA a rec=>?_)
  ·have hb:i<9223372036854775807:=by omega
   unfold c261_8;dsimp only;rw[aD hb];refine ql hi ?_;refine qz ?_;refine(aG hi).trans ?_;refine qC (f330 (gt s.2.1 i).1) ?_;refine qC (f329 ls (cY (gt s.2.1 i).1) hl) ?_
   cases hq:jA ls (cY (gt s.2.1 i).1)with
   | false=>exact(congrArg (fun l:List aL=>rec (((i+1:Nat):Int),l)) (List.append_nil acc).symm:_)
   | true=>refine qt ?_;refine qz ?_;refine(aG hi).trans ?_;refine qP (by rw[hq] at ha;have:acc.length+1<=0+s.2.1.length*1:=ha;show acc.length+1<=4294967296;omega) ?_;rfl
  ·unfold c261_8;refine qe ?_;exact congrArg (fun l:List aL=>(rV K27 (v,l,()):Option Out)) ((cI (fun f:aL=>bif jA ls (cY f.1)then[f] else[]) s.2.1).trans (kC _ _))
 have outer:It (fun aA (_:Unit)=>c261_3 (aI p n) aA s ls) ((0:Int),([]:List bL)) (fun _=>rV K27 (iT s ls)):=by
  refine It.accu (α:=bL) [] (fun i=>bif jA ls (cY (gt s.1 i).1)then[gt s.1 i] else[]) s.1.length 1 (fun i hi=>by cases jA ls (cY (gt s.1 i).1)<;>simp) (fun i hi acc ha aA a rec=>?_) (It.stopE (T:=fun aA _=>iter (c261_8 (aI p n) aA s ls (s.1.filter (fun x=>jA ls (cY x.1)))) aA ((0:Int),([]:List aL))) (fun aA a rec=>?_) (inner _).all_i)
  ·have hb:i<9223372036854775807:=by omega
   unfold c261_3;dsimp only;rw[aD hb];refine ql hi ?_;refine qz ?_;refine(aG hi).trans ?_;refine qC (f330 (gt s.1 i).1) ?_;refine qC (f329 ls (cY (gt s.1 i).1) hl) ?_
   cases hq:jA ls (cY (gt s.1 i).1)with
   | false=>exact(congrArg (fun l:List bL=>rec (((i+1:Nat):Int),l)) (List.append_nil acc).symm:_)
   | true=>refine qt ?_;refine qz ?_;refine(aG hi).trans ?_;refine qP (by rw[hq] at ha;have:acc.length+1<=0+s.1.length*1:=ha;show acc.length+1<=4294967296;omega) ?_;rfl
  ·unfold c261_3;refine qe ?_;exact congrArg (fun l:List bL=>iter (c261_8 (aI p n) aA s ls l) aA ((0:Int),([]:List aL))) ((cI (fun f:bL=>bif jA ls (cY f.1)then[f] else[]) s.1).trans (kC _ _))
 exact Ev.eq (fun aA=>by unfold T261;rfl) (outer.ev (i:=()) rfl)
theorem f241(s:aE)(ls:List aH)(hl:ls.length<=maxLen)(h1:s.1.length<=1000)(h2:s.2.1.length<=1000)(hok:aN s=true):Ran p 4 241 [va K27 s, vf K28 (ls,())] (rO K27 (iT s ls)):=go241 fun n hn=>by
 have inner:∀ v:List bL,It (fun aA (_:Unit)=>c241_11 (aI p n) aA s ls v) ((0:Int),([]:List aL)) (fun _=>rV K27 (v,s.2.1.filter (fun f=>jA ls (cY f.1)),())):=by
  intro v
  refine It.accu (α:=aL) [] (fun i=>bif jA ls (cY (gt s.2.1 i).1)then[gt s.2.1 i] else[]) s.2.1.length 1 (fun i hi=>by cases jA ls (cY (gt s.2.1 i).1)<;>simp) (fun i hi acc ha aA a rec=>?_) (It.stop fun aA a rec=>?_)
  ·have hb:i<9223372036854775807:=by omega
   unfold c241_11;dsimp only;rw[aD hb];refine ql hi ?_;refine qz ?_;refine(aG hi).trans ?_;refine qC (f322 (gt s.2.1 i).1) ?_;refine qC (f321 ls (cY (gt s.2.1 i).1) hl) ?_
   cases hq:jA ls (cY (gt s.2.1 i).1)with
   | false=>exact(congrArg (fun l:List aL=>rec (((i+1:Nat):Int),l)) (List.append_nil acc).symm:_)
   | true=>refine qt ?_;refine qP (by rw[hq] at ha;have:acc.length+1<=0+s.2.1.length*1:=ha;show acc.length+1<=4294967296;omega) ?_;rfl
  ·unfold c241_11;refine qe ?_;exact congrArg (fun l:List aL=>(rV K27 (v,l,()):Option Out)) ((cI (fun f:aL=>bif jA ls (cY f.1)then[f] else[]) s.2.1).trans (kC _ _))
 have outer:It (fun aA (_:Unit)=>c241_5 (aI p n) aA s ls) ((0:Int),([]:List bL)) (fun _=>rV K27 (iT s ls)):=by
  refine It.accu (α:=bL) [] (fun i=>bif jA ls (cY (gt s.1 i).1)then[gt s.1 i] else[]) s.1.length 1 (fun i hi=>by cases jA ls (cY (gt s.1 i).1)<;>simp) (fun i hi acc ha aA a rec=>?_) (It.stopE (T:=fun aA _=>iter (c241_11 (aI p n) aA s ls (s.1.filter (fun x=>jA ls (cY x.1)))) aA ((0:Int),([]:List aL))) (fun aA a rec=>?_) (inner _).all_i)
  ·have hb:i<9223372036854775807:=by omega
   unfold c241_5;dsimp only;rw[aD hb];refine ql hi ?_;refine qz ?_;refine(aG hi).trans ?_;refine qC (f322 (gt s.1 i).1) ?_;refine qC (f321 ls (cY (gt s.1 i).1) hl) ?_
   cases hq:jA ls (cY (gt s.1 i).1)with
   | false=>exact(congrArg (fun l:List bL=>rec (((i+1:Nat):Int),l)) (List.append_nil acc).symm:_)
   | true=>refine qt ?_;refine qP (by rw[hq] at ha;have:acc.length+1<=0+s.1.length*1:=ha;show acc.length+1<=4294967296;omega) ?_;rfl
  ·unfold c241_5;refine qe ?_;exact congrArg (fun l:List bL=>iter (c241_11 (aI p n) aA s ls l) aA ((0:Int),([]:List aL))) ((cI (fun f:bL=>bif jA ls (cY f.1)then[f] else[]) s.1).trans (kC _ _))
 exact Ev.eq (fun aA=>by unfold T241;refine qC (f101 s (Nat.le_trans h1 (by decide)) (Nat.le_trans h2 (by decide))) ?_;rw[hok];rfl) (outer.ev (i:=()) rfl)
end Go.Abs.Xz
namespace Go.Abs.Xz
open Go Go.Abs
abbrev oL(l:List aH):Option Out:=rV K22 (l,())
theorem HY{k:Nat}(h:k<=5):k<=maxLen:=by show k<=9223372036854775807;omega
theorem f333(s:aE)(hs:StateOk s):Ran p 4 333 [va K27 s] (rO K22 (bI s,())):=go333 fun n hn=>by
 have h5:=hs.len
 have fl:∀ pre:List aH,pre.length<=1000->It (fun aA (_:Unit)=>c333_14 (aI p n) aA s) ((0:Int),pre) (fun _=>oL (pre++s.2.1.flatMap aX)):=by
  intro pre hp
  refine It.accu (α:=aH) pre (fun i=>aX (gt s.2.1 i)) s.2.1.length 10 (fun i hi=>fH _) (fun i hi acc ha aA a rec=>?_) (It.stop fun aA a rec=>?_)
  ·have hb:i<9223372036854775807:=by omega
   have ha':acc.length+(aX (gt s.2.1 i)).length<=1050:=by omega
   unfold aX at ha';rw[List.length_append] at ha'
   unfold c333_14;dsimp only;rw[aD hb];refine ql hi ?_;refine qz ?_;refine(aG hi).trans ?_;refine qC (f331 (gt s.2.1 i).1) ?_;refine qP (by show acc.length+(aF (gt s.2.1 i).1).length<=4294967296;omega) ?_;refine qz ?_;refine(aG hi).trans ?_;refine qC (f331 (gt s.2.1 i).2.1) ?_
   refine qP (by show(acc++aF (gt s.2.1 i).1).length+(aF (gt s.2.1 i).2.1).length<=4294967296;rw[List.length_append];omega) ?_
   exact congrArg (fun l:List aH=>rec (((i+1:Nat):Int),l)) (List.append_assoc _ _ _)
  ·unfold c333_14;refine qe ?_;exact congrArg (fun l:List aH=>oL (pre++l)) (cI aX s.2.1)
 have it:∀ (i:Nat) (hi:i<s.1.length) (acc:List aH),acc.length<=1000->It (fun aA rec3=>c333_8 (aI p n) aA s (gt (α:=bL) s.1 i) (gt (α:=bL) s.1 i) (i:Int) rec3) ((0:Int),acc) (fun rec3=>rec3 (((i+1:Nat):Int),acc++a9 (gt s.1 i))):=by
  intro i hi acc ha
  have hb:i<9223372036854775807:=by omega
  refine It.accu (α:=aH) acc (fun k=>aF (gt (five (gt s.1 i)) k).1) 5 5 (fun k hk=>aZ _) (fun k hk acc' ha' aA rec3 rec=>?_) (It.stop fun aA rec3 rec=>?_)
  ·have hk':k<(five (gt s.1 i)).length:=hk
   have hkb:k<9223372036854775807:=by omega
   unfold c333_8;dsimp only;rw[aD hkb];refine qP (Int.ofNat_lt.2 hk') ?_;refine qz ?_;refine(aG hk').trans ?_;refine(aG hk').trans ?_;refine qC (f331 (gt (five (gt s.1 i)) k).1) ?_
   refine qP (by show acc'.length+(aF (gt (five (gt s.1 i)) k).1).length<=4294967296;replace ha':acc'.length+(aF (gt (five (gt s.1 i)) k).1).length<=acc.length+5*5:=ha';omega) ?_;rfl
  ·show c333_8 (aI p n) aA s (gt (α:=bL) s.1 i) (gt (α:=bL) s.1 i) (i:Int) rec3 rec (((5:Nat):Int),acc++bQ 5 fun k=>aF (gt (five (gt s.1 i)) k).1)=_
   have hz:=hs.size (c8 hi)
   have h1:(bQ 5 fun k=>aF (gt (five (gt s.1 i)) k).1).length<=5*5:=c7 fun k hk=>aZ _
   have h2:=pO (gt s.1 i).2.2.2.2.2.1
   unfold c333_8;dsimp only;rw[aD hb];refine qN (by show ¬ ((5:Int)<5);decide) ?_;refine qC (f360 (gt s.1 i).2.2.2.2.2.1 (by omega)) ?_
   refine qP (by show(acc++bQ 5 fun k=>aF (gt (five (gt s.1 i)) k).1).length+(dU (gt s.1 i).2.2.2.2.2.1).length<=4294967296;rw[List.length_append];omega) ?_
   exact congrArg (fun l:List aH=>rec3 (((i+1:Nat):Int),l)) (MW (gt s.1 i) acc)
 have n1:=aZ (s.1.length:Int)
 have n2:=aZ (s.2.1.length:Int)
 have hB:((aF (s.1.length:Int)++bQ s.1.length fun i=>a9 (gt s.1 i))).length<=5+5*38:=by
  have:(bQ s.1.length fun i=>a9 (gt s.1 i)).length<=s.1.length*38:=c7 fun i hi=>iJ (hs.item _ (c8 hi)).2.1
  rw[List.length_append];omega
 have outer:It (fun aA (_:Unit)=>c333_3 (aI p n) aA s) ((0:Int),aF (s.1.length:Int)) (fun _=>oL (bI s)):=by
  refine It.accuE (α:=aH) (aF (s.1.length:Int)) (fun i=>a9 (gt s.1 i)) s.1.length 38 (fun i hi=>iJ (hs.item _ (c8 hi)).2.1) (fun i hi acc ha=>?_)
   (It.stopE (T:=fun aA _=>iter (c333_14 (aI p n) aA s) aA ((0:Int),(aF (s.1.length:Int)++bQ s.1.length fun i=>a9 (gt s.1 i))++aF (s.2.1.length:Int))) (fun aA a rec=>?_) ?_)
  ·obtain⟨N,hN⟩:=(it i hi acc (by omega)).all_i
   refine⟨N,fun aA hf a rec=>?_⟩
   unfold c333_3;refine ql hi ?_;refine qz ?_;refine(aG hi).trans ?_;refine qz ?_;refine(aG hi).trans ?_;exact hN aA hf rec
  ·unfold c333_3;refine qe ?_;refine qC (f331 (s.2.1.length:Int)) ?_;exact cB (by show(aF (s.1.length:Int)++bQ s.1.length fun i=>a9 (gt s.1 i)).length+(aF (s.2.1.length:Int)).length<=4294967296;omega)
  ·have:=(fl ((aF (s.1.length:Int)++bQ s.1.length fun i=>a9 (gt s.1 i))++aF (s.2.1.length:Int)) (by rw[List.length_append];omega)).all_i
   rw[cI a9 s.1] at this ⊢
   exact this
 exact Ev.eq (fun aA=>by unfold T333;refine qC (f331 (s.1.length:Int)) ?_;rfl) (outer.ev (i:=()) rfl)

theorem dB{x:Int}{L:Nat}(h:5<=L):(aF x).length<=L:=Nat.le_trans (aZ x) h
theorem f136(s:aE)(hs:StateOk s):Ran p 4 136 [va K27 s] (rO K22 (bI s,())):=go136 fun n hn=>by
 have h5:=hs.len
 have fl:∀ pre:List aH,pre.length<=1000->It (fun aA (_:Unit)=>c136_12 (aI p n) aA s) ((0:Int),pre) (fun _=>oL (pre++s.2.1.flatMap aX)):=by
  intro pre hp
  refine It.accu (α:=aH) pre (fun i=>aX (gt s.2.1 i)) s.2.1.length 10 (fun i hi=>fH _) (fun i hi acc ha aA a rec=>?_) (It.stop fun aA a rec=>?_)
  ·have hb:i<9223372036854775807:=by omega
   unfold c136_12;dsimp only;rw[aD hb];refine ql hi ?_;refine qz ?_;refine(aG hi).trans ?_;refine qC (f138 (gt s.2.1 i).1) ?_;refine qC (f138 (gt s.2.1 i).2.1) ?_
   refine qC (f137 [(acc,()),(aF (gt s.2.1 i).1,()),(aF (gt s.2.1 i).2.1,())] 2000 (j6 (by
    intro r hr;simp only[List.mem_cons,List.not_mem_nil,or_false] at hr
    rcases hr with rfl | rfl | rfl
    ·show acc.length<=2000;omega
    ·exact dB (by decide)
    ·exact dB (by decide))) (by show 3*2000<=4294967296;omega) (by show 3<=9223372036854775807;omega)) ?_
   exact congrArg (fun l:List aH=>rec (((i+1:Nat):Int),l)) (by simp[aX]:List.flatMap (fun r:bK=>r.1) [(acc,()),(aF (gt s.2.1 i).1,()),(aF (gt s.2.1 i).2.1,())]=acc++aX (gt s.2.1 i))
  ·unfold c136_12;refine qe ?_;exact congrArg (fun l:List aH=>oL (pre++l)) (cI aX s.2.1)
 have n1:=aZ (s.1.length:Int)
 have n2:=aZ (s.2.1.length:Int)
 have hB:(bQ s.1.length fun i=>a9 (gt s.1 i)).length<=190:=by
  have:(bQ s.1.length fun i=>a9 (gt s.1 i)).length<=s.1.length*38:=c7 fun i hi=>iJ (hs.item _ (c8 hi)).2.1
  omega
 have outer:It (fun aA (_:Unit)=>c136_5 (aI p n) aA s) ((0:Int),aF (s.1.length:Int)) (fun _=>oL (bI s)):=by
  refine It.accu (α:=aH) (aF (s.1.length:Int)) (fun i=>a9 (gt s.1 i)) s.1.length 38 (fun i hi=>iJ (hs.item _ (c8 hi)).2.1) (fun i hi acc ha aA a rec=>?_)
   (It.stopE (T:=fun aA _=>iter (c136_12 (aI p n) aA s) aA ((0:Int),(aF (s.1.length:Int)++bQ s.1.length fun i=>a9 (gt s.1 i))++aF (s.2.1.length:Int))) (fun aA a rec=>?_) ?_)
  ·have hb:i<9223372036854775807:=by omega
   have hz:=hs.size (c8 hi)
   have ht:=pO (gt s.1 i).2.2.2.2.2.1
   unfold c136_5;dsimp only;rw[aD hb];refine ql hi ?_;refine qz ?_;refine(aG hi).trans ?_;refine qC (f138 (gt s.1 i).1) ?_;refine qC (f138 (gt s.1 i).2.1) ?_;refine qC (f138 (gt s.1 i).2.2.1) ?_;refine qC (f138 (gt s.1 i).2.2.2.1) ?_;refine qC (f138 (gt s.1 i).2.2.2.2.1) ?_;refine qC (f271 (gt s.1 i).2.2.2.2.2.1 (by omega)) ?_
   refine qC (f137 [(acc,()),(aF (gt s.1 i).1,()),(aF (gt s.1 i).2.1,()),(aF (gt s.1 i).2.2.1,()),(aF (gt s.1 i).2.2.2.1,()),(aF (gt s.1 i).2.2.2.2.1,()),(dU (gt s.1 i).2.2.2.2.2.1,())] 2000 (j6 (by
    intro r hr;simp only[List.mem_cons,List.not_mem_nil,or_false] at hr
    rcases hr with rfl | rfl | rfl | rfl | rfl | rfl | rfl
    ·show acc.length<=2000;omega
    ·exact dB (by decide)
    ·exact dB (by decide)
    ·exact dB (by decide)
    ·exact dB (by decide)
    ·exact dB (by decide)
    ·show(dU (gt s.1 i).2.2.2.2.2.1).length<=2000;omega)) (by show 7*2000<=4294967296;omega) (by show 7<=9223372036854775807;omega)) ?_
   exact congrArg (fun l:List aH=>rec (((i+1:Nat):Int),l)) (by simp[a9]:List.flatMap (fun r:bK=>r.1) [(acc,()),(aF (gt s.1 i).1,()),(aF (gt s.1 i).2.1,()),(aF (gt s.1 i).2.2.1,()),(aF (gt s.1 i).2.2.2.1,()),(aF (gt s.1 i).2.2.2.2.1,()),(dU (gt s.1 i).2.2.2.2.2.1,())]=acc++a9 (gt s.1 i))
  ·unfold c136_5;refine qe ?_;refine qC (f138 (s.2.1.length:Int)) ?_
   refine qC (f137 [(aF (s.1.length:Int)++bQ s.1.length fun i=>a9 (gt s.1 i),()),(aF (s.2.1.length:Int),())] 2000 (j6 (by
    intro r hr;simp only[List.mem_cons,List.not_mem_nil,or_false] at hr
    rcases hr with rfl | rfl
    ·show(aF (s.1.length:Int)++bQ s.1.length fun i=>a9 (gt s.1 i)).length<=2000;rw[List.length_append];omega
    ·exact dB (by decide))) (by show 2*2000<=4294967296;omega) (by show 2<=9223372036854775807;omega)) ?_
   exact congrArg (fun l:List aH=>iter (c136_12 (aI p n) aA s) aA ((0:Int),l)) (by simp:List.flatMap (fun r:bK=>r.1) [(aF (s.1.length:Int)++bQ s.1.length fun i=>a9 (gt s.1 i),()),(aF (s.2.1.length:Int),())]=(aF (s.1.length:Int)++bQ s.1.length fun i=>a9 (gt s.1 i))++aF (s.2.1.length:Int))
  ·have:=(fl ((aF (s.1.length:Int)++bQ s.1.length fun i=>a9 (gt s.1 i))++aF (s.2.1.length:Int)) (by rw[List.length_append,List.length_append];omega)).all_i
   rw[cI a9 s.1] at this ⊢
   exact this
 exact Ev.eq (fun aA=>by unfold T136;refine qC (f101 s (HY h5.1) (HY h5.2)) ?_;rw[(aM s).2 hs];refine qf ?_;refine qC (f138 (s.1.length:Int)) ?_;rfl) (outer.ev (i:=()) rfl)
theorem f314(s:aE)(x:Int)(hz:SzS s):Ran p 5 314 [va K27 s, vf K3 (x,())] (rO K3 (iQ s x,())):=go314 fun n hn=>Ev.now fun aA=>by
 unfold T314 iQ;refine qC (f227 s (Nat.le_trans hz.a (by decide)) (Nat.le_trans hz.b (by decide))) ?_
 cases hs:aN s with
 | false=>rfl
 | true=>
  have hs':=(aM s).1 hs
  have h5:=hs'.len
  refine qf ?_;refine qC (f211 x 0 3) ?_
  cases hx:inB x 0 3 with
  | false=>rfl
  | true=>
   refine qf ?_;refine qC (f261 s [(x,())] (by show 1<=9223372036854775807;omega) (by omega) (by omega)) ?_;refine qC (f333 (iT s [(x,())]) (hs'.slice _)) ?_;refine qC (f334 (bI (iT s [(x,())])) (Nat.le_trans (nJ (hs'.slice _)) (by decide))) ?_;refine qN (by decide) ?_;rfl
theorem f245(s:aE)(x:Int)(hz:SzS s):Ran p 5 245 [va K27 s, vf K3 (x,())] (rO K3 (iQ s x,())):=go245 fun n hn=>Ev.now fun aA=>by
 unfold T245 iQ;refine qC (f101 s (Nat.le_trans hz.a (by decide)) (Nat.le_trans hz.b (by decide))) ?_
 cases hs:aN s with
 | false=>rfl
 | true=>
  have hs':=(aM s).1 hs
  have h5:=hs'.len
  refine qf ?_;refine qC (f100 x 0 3) ?_
  cases hx:inB x 0 3 with
  | false=>rfl
  | true=>
   refine qf ?_;refine qC (f241 s [(x,())] (by show 1<=9223372036854775807;omega) (by omega) (by omega) hs) ?_;refine qC (f136 (iT s [(x,())]) (hs'.slice _)) ?_;refine qC (f272 (bI (iT s [(x,())])) (Nat.le_trans (nJ (hs'.slice _)) (by decide))) ?_;refine qN (by decide) ?_;rfl
theorem f315(ls:List aH)(hl:ls.length<=1000):Ran p 3 315 [vf K28 (ls,())] (rO K3 (lB ls,())):=go315 fun n hn=>by
 have lp:It (fun aA (_:Unit)=>c315_3 (aI p n) aA ls) ((0:Int),([]:List aH)) (fun _=>oI (lB ls)):=by
  refine It.accu (α:=aH) [] (fun i=>aF (gt ls i).1) ls.length 5 (fun i hi=>aZ _) (fun i hi acc ha aA a rec=>?_) (It.stop fun aA a rec=>?_)
  ·have hb:i<9223372036854775807:=by omega
   have ha':acc.length+(aF (gt ls i).1).length<=0+ls.length*5:=ha
   unfold c315_3;dsimp only;rw[aD hb];refine ql hi ?_;refine qz ?_;refine(aG hi).trans ?_;refine qC (f331 (gt ls i).1) ?_;refine qP (by show acc.length+(aF (gt ls i).1).length<=4294967296;omega) ?_;rfl
  ·have hB:(bQ ls.length fun i=>aF (gt ls i).1).length<=ls.length*5:=c7 fun i hi=>aZ _
   unfold c315_3;refine qe ?_;refine qC (f334 (bQ ls.length fun i=>aF (gt ls i).1) (by show _<=9223372036854775807;omega)) ?_;refine qN (by decide) ?_;exact congrArg (fun l:List aH=>oI ((crc l).tmod 1024)) (cI (fun x:aH=>aF x.1) ls)
 exact Ev.eq (fun aA=>by unfold T315;rfl) (lp.ev (i:=()) rfl)
theorem f246(ls:List aH)(hl:ls.length<=1000):Ran p 3 246 [vf K28 (ls,())] (rO K3 (lB ls,())):=go246 fun n hn=>by
 have lp:It (fun aA (_:Unit)=>c246_3 (aI p n) aA ls) ((0:Int),([]:List aH)) (fun _=>oI (lB ls)):=by
  refine It.accu (α:=aH) [] (fun i=>aF (gt ls i).1) ls.length 5 (fun i hi=>aZ _) (fun i hi acc ha aA a rec=>?_) (It.stop fun aA a rec=>?_)
  ·have hb:i<9223372036854775807:=by omega
   have ha':acc.length+(aF (gt ls i).1).length<=0+ls.length*5:=ha
   unfold c246_3;dsimp only;rw[aD hb];refine ql hi ?_;refine qz ?_;refine(aG hi).trans ?_;refine qC (f138 (gt ls i).1) ?_
   refine qC (f137 [(acc,()),(aF (gt ls i).1,())] 6000 (j6 (by
    intro r hr;simp only[List.mem_cons,List.not_mem_nil,or_false] at hr
    rcases hr with rfl | rfl
    ·show acc.length<=6000;omega
    ·exact dB (by decide))) (by show 2*6000<=4294967296;omega) (by show 2<=9223372036854775807;omega)) ?_
   exact congrArg (fun l:List aH=>rec (((i+1:Nat):Int),l)) (by simp:List.flatMap (fun r:bK=>r.1) [(acc,()),(aF (gt ls i).1,())]=acc++aF (gt ls i).1)
  ·have hB:(bQ ls.length fun i=>aF (gt ls i).1).length<=ls.length*5:=c7 fun i hi=>aZ _
   unfold c246_3;refine qe ?_;refine qC (f272 (bQ ls.length fun i=>aF (gt ls i).1) (by show _<=9223372036854775807;omega)) ?_;refine qN (by decide) ?_;exact congrArg (fun l:List aH=>oI ((crc l).tmod 1024)) (cI (fun x:aH=>aF x.1) ls)
 exact Ev.eq (fun aA=>by unfold T246;rfl) (lp.ev (i:=()) rfl)
theorem f228(s:aE)(hz:SzS s):Ran p 6 228 [va K27 s] (rO K30 (cT s)):=go228 fun n hn=>by
 cases hs:aN s with
 | false=>
  refine Ev.now fun aA=>?_
  unfold T228 cT;refine qC (f227 s (Nat.le_trans hz.a (by decide)) (Nat.le_trans hz.b (by decide))) ?_;rw[hs];rfl
 | true=>
  have lp:It (fun aA (_:Unit)=>c228_5 (aI p n) aA s) ((0:Int),([]:List aH)) (fun _=>rV K30 (dM s,lB (dM s),())):=by
   refine It.accu (α:=aH) [] (fun i=>[(iQ s (i:Int),())]) 4 1 (fun i hi=>Nat.le_refl 1) (fun i hi acc ha aA a rec=>?_) (It.stop fun aA a rec=>?_)
   ·have hb:i<9223372036854775807:=by omega
    have ha':acc.length+1<=0+4*1:=ha
    unfold c228_5;dsimp only;rw[aD hb];refine qP (by show(i:Int)<4;omega) ?_;refine qC (f314 s (i:Int) hz) ?_;refine qP (by show acc.length+1<=4294967296;omega) ?_;rfl
   ·unfold c228_5;refine qN (by show ¬ ((4:Int)<4);decide) ?_;refine qC (f315 (dM s) (by show 4<=1000;omega)) ?_;rfl
  have e:cT s=(dM s,lB (dM s),()):=by unfold cT;rw[hs];rfl
  rw[e]
  exact Ev.eq (fun aA=>by unfold T228;refine qC (f227 s (Nat.le_trans hz.a (by decide)) (Nat.le_trans hz.b (by decide))) ?_;rw[hs];rfl) (lp.ev (i:=()) rfl)
theorem f103(s:aE)(hz:SzS s):Ran p 6 103 [va K27 s] (rO K30 (cT s)):=go103 fun n hn=>by
 cases hs:aN s with
 | false=>
  refine Ev.now fun aA=>?_
  unfold T103 cT;refine qC (f101 s (Nat.le_trans hz.a (by decide)) (Nat.le_trans hz.b (by decide))) ?_;rw[hs];rfl
 | true=>
  have lp:It (fun aA (_:Unit)=>c103_5 (aI p n) aA s) ((0:Int),([]:List aH)) (fun _=>rV K30 (dM s,lB (dM s),())):=by
   refine It.accu (α:=aH) [] (fun i=>[(iQ s (i:Int),())]) 4 1 (fun i hi=>Nat.le_refl 1) (fun i hi acc ha aA a rec=>?_) (It.stop fun aA a rec=>?_)
   ·have hb:i<9223372036854775807:=by omega
    have ha':acc.length+1<=0+4*1:=ha
    unfold c103_5;dsimp only;rw[aD hb];refine qP (by show(i:Int)<4;omega) ?_;refine qC (f245 s (i:Int) hz) ?_;refine qP (by show acc.length+1<=4294967296;omega) ?_;rfl
   ·unfold c103_5;refine qN (by show ¬ ((4:Int)<4);decide) ?_;refine qC (f246 (dM s) (by show 4<=1000;omega)) ?_;rfl
  have e:cT s=(dM s,lB (dM s),()):=by unfold cT;rw[hs];rfl
  rw[e]
  exact Ev.eq (fun aA=>by unfold T103;refine qC (f101 s (Nat.le_trans hz.a (by decide)) (Nat.le_trans hz.b (by decide))) ?_;rw[hs];rfl) (lp.ev (i:=()) rfl)
end Go.Abs.Xz
set_option maxHeartbeats 2000000
namespace Go.Abs.Xz
open Go Go.Abs
def qQ(q:List aH×RdT):Out:=⟨[⟨K28,(q.1,())⟩],[⟨K267,q.2⟩]⟩
theorem f267(r:RdT)(t:Nat)(i0:Int)(hi0:i0=(t:Int))(h:RdOk r)(ht:t<=2):Ran p 3 267 [.ref ⟨K267,r⟩, vf K3 (i0,())] (qQ (cM r t)):=go267 fun n hn=>by
 subst hi0
 have q0:=yH r
 by_cases hbig:(aK r).1>100
 ·have e:cM r t=([],((aK r).2.1,(aK r).2.2.1,true,())):=by unfold cM;rw[decide_eq_true hbig];rfl
  rw[e]
  have lp:It (fun aA (_:Unit)=>c267_4 (aI p n) aA (t:Int) ((((aK r).1,()),()),((aK r).2,()))) ((0:Int),([]:List aH),(aK r).2.1,(aK r).2.2.1,(aK r).2.2.2.1) (fun _=>some (qQ ([],((aK r).2.1,(aK r).2.2.1,true,())))):=It.stop fun aA u rec=>by
   unfold c267_4;dsimp only
   by_cases h1:(0:Int)<i64.wrap ((aK r).1*(t:Int))
   ·refine qP h1 ?_
    cases (aK r).2.2.2.1 with
    | true=>rfl
    | false=>refine qt ?_;refine qN (show ¬ ((aK r).1<=100) by omega) ?_;refine qf ?_;rw[show decide (vI ((aK r).1)>100)=true from decide_eq_true hbig];rfl
   ·refine qN h1 ?_
    cases (aK r).2.2.2.1 with
    | true=>rfl
    | false=>refine qf ?_;rw[show decide (vI ((aK r).1)>100)=true from decide_eq_true hbig];rfl
  exact Ev.eq (fun aA=>by unfold T267;refine qR (f266 r h) ?_;rfl) (lp.ev (i:=()) rfl)
 ·have e:cM r t=lV (aK r).2 ((aK r).1.toNat*t):=by unfold cM;rw[decide_eq_false hbig];rfl
  rw[e]
  have hN:(aK r).1.toNat*t<=100*2:=Nat.mul_le_mul (by omega) ht
  have ew:i64.wrap ((aK r).1*(t:Int))=(((aK r).1.toNat*t:Nat):Int):=by
   have:(aK r).1*(t:Int)=(((aK r).1.toNat*t:Nat):Int):=by rw[Int.natCast_mul,show(((aK r).1.toNat:Nat):Int)=(aK r).1 by omega]
   rw[this,IntKind.wrap_i64];omega
  generalize hM:(aK r).1.toNat*t=M at ew hN
  have lp:∀ (k i:Nat) (acc:List aH) (q:RdT),RdOk q->i+k=M->acc.length=i->It (fun aA (_:Unit)=>c267_4 (aI p n) aA (t:Int) ((((aK r).1,()),()),((aK r).2,()))) ((i:Int),acc,q.1,q.2.1,q.2.2.1) (fun _=>some (qQ (acc++(lV q k).1,(lV q k).2))):=by
   intro k
   induction k with
   | zero=>
    intro i acc q hq hi ha
    obtain⟨qb,qa,qd,qu⟩:=q
    refine It.stop fun aA u rec=>?_
    show c267_4 (aI p n) aA (t:Int) ((((aK r).1,()),()),((aK r).2,())) rec ((i:Int),acc,qb,qa,qd)=some (qQ (acc++[],(qb,qa,qd,qu)))
    rw[List.append_nil]
    unfold c267_4;dsimp only;refine qN (show ¬ ((i:Int)<i64.wrap ((aK r).1*(t:Int))) by rw[ew];omega) ?_
    cases qd with
    | true=>rfl
    | false=>refine qf ?_;rw[show decide (vI ((aK r).1)>100)=false from decide_eq_false hbig];rfl
   | succ k ih=>
    intro i acc q hq hi ha
    obtain⟨qb,qa,qd,qu⟩:=q
    cases qd with
    | true=>
     refine It.stop fun aA u rec=>?_
     show c267_4 (aI p n) aA (t:Int) ((((aK r).1,()),()),((aK r).2,())) rec ((i:Int),acc,qb,qa,true)=some (qQ (acc++[],(qb,qa,true,qu)))
     rw[List.append_nil]
     unfold c267_4;dsimp only;refine qP (show(i:Int)<i64.wrap ((aK r).1*(t:Int)) by rw[ew];omega) ?_;rfl
    | false=>
     have e2:lV (qb,qa,false,qu) (k+1)=(((aK (qb,qa,false,qu)).1,())::(lV (aK (qb,qa,false,qu)).2 k).1,(lV (aK (qb,qa,false,qu)).2 k).2):=rfl
     have ih':=ih (i+1) (acc++[((aK (qb,qa,false,qu)).1,())]) (aK (qb,qa,false,qu)).2 hq.num (by omega) (by rw[List.length_append,ha];rfl)
     rw[e2]
     rw[List.append_assoc] at ih'
     refine It.next (fun aA u rec=>?_) ih'
     show c267_4 (aI p n) aA (t:Int) ((((aK r).1,()),()),((aK r).2,())) rec ((i:Int),acc,qb,qa,false)=_
     have hbd:acc.length+1<=bound:=by unfold bound;omega
     unfold c267_4;dsimp only;rw[aD (show i<9223372036854775807 by omega)];refine qP (show(i:Int)<i64.wrap ((aK r).1*(t:Int)) by rw[ew];omega) ?_;refine qt ?_;refine qP (show(aK r).1<=100 by omega) ?_;refine qR (f266 (qb,qa,false,qu) hq) ?_;refine qP hbd ?_;rfl
  have lp0:=lp M 0 [] (aK r).2 h.num (by omega) rfl
  exact Ev.eq (fun aA=>by unfold T267;refine qR (f266 r h) ?_;rfl) (lp0.ev (i:=()) rfl)
theorem f135(a b:List aH):Ran p 1 135 [vf K22 (a,()), vf K22 (b,())] (rO K4 (bV a b,())):=go135 fun n hn=>Ev.now fun aA=>by
 unfold T135;rfl
def mX:Option aE->Out
 | none=>⟨[⟨K27,(([],[],()):aE)⟩,⟨K4,(false,())⟩],[]⟩
 | some s=>⟨[⟨K27,s⟩,⟨K4,(true,())⟩],[]⟩
def rdI(k:Nat)(q:List bL×RdT):Int×List aH×Int×Bool×List bL:=((k:Int),q.2.1,q.2.2.1,q.2.2.2.1,q.1)
def rdF(k:Nat)(q:List aL×RdT):Int×List aH×Int×Bool×List aL:=((k:Int),q.2.1,q.2.2.1,q.2.2.2.1,q.1)
theorem LA{b:List aH}(hb:B8 b)(hl:b.length<=aQ):RdOk (rs0 b):=⟨hb,hl,Int.le_refl _,Int.natCast_nonneg _⟩
theorem f133(b:List aH)(hb:B8 b)(hl:b.length<=aQ):Ran p 5 133 [vf K22 (b,())] (mX (bX b)):=go133 fun n hn=>by
 have r0:=LA hb hl
 have rC:RdOk (siC b).2:=r0.cnt 5
 have rI:∀ k,RdOk (cF cR (siC b).2 k).2:=m9 (f:=cR) (fun r h=>RdOk.item h) rC
 have rF:RdOk (siF b).2:=(rI _).cnt 5
 have rG:∀ k,RdOk (cF dL (siF b).2 k).2:=m9 (f:=dL) (fun r h=>RdOk.floor h) rF
 have bC:0<=(siC b).1/\(siC b).1<=5:=pN _ (by decide)
 have bF:0<=(siF b).1/\(siF b).1<=5:=pN _ (by decide)
 have lI:(siI b).1.length<=5:=by unfold siI;rw[hO];omega
 have lG:(siG b).1.length<=5:=by unfold siG;rw[hO];omega
 have hz1:(stI b).1.length<=maxLen:=Nat.le_trans lI (by decide)
 have hz2:(stI b).2.1.length<=maxLen:=Nat.le_trans lG (by decide)
 have inn:It (fun aA (_:Unit)=>c133_17 (aI p n) aA b ((((siF b).1,()),()),((siF b).2,())) (siI b).1) (rdF 0 (cF dL (siF b).2 0)) (fun _=>some (mX (bX b))):=by
  refine It.run (fun k=>rdF k (cF dL (siF b).2 k)) (siF b).1.toNat (fun k hk aA u rec=>?_) (It.stop fun aA u rec=>?_)
  ·have hlen:=hO dL (siF b).2 k
   have hbd:(cF dL (siF b).2 k).1.length+1<=bound:=by unfold bound;omega
   show c133_17 (aI p n) aA b ((((siF b).1,()),()),((siF b).2,())) (siI b).1 rec (rdF k (cF dL (siF b).2 k))=rec (rdF (k+1) (cF dL (siF b).2 (k+1)))
   unfold c133_17 rdF;dsimp only;rw[aD (show k<9223372036854775807 by omega)];refine qP (show(k:Int)<(siF b).1 by omega) ?_;refine qR (f131 (cF dL (siF b).2 k).2 (rG k)) ?_;refine qR (f131 (aK (cF dL (siF b).2 k).2).2 (rG k).num) ?_;refine qP hbd ?_;rfl
  ·show c133_17 (aI p n) aA b ((((siF b).1,()),()),((siF b).2,())) (siI b).1 rec (rdF (siF b).1.toNat (siG b))=_
   unfold c133_17 rdF;dsimp only;refine qN (show ¬ ((((siF b).1.toNat:Nat):Int)<(siF b).1) by omega) ?_
   cases hbad:(siG b).2.2.2.1 with
   | true=>refine qt ?_;rw[show bX b=none by unfold bX;rw[hbad];rfl];rfl
   | false=>
    refine qf ?_;refine qC (f101 (stI b) hz1 hz2) ?_
    cases hs:aN (stI b)with
    | false=>refine qt ?_;rw[show bX b=none by unfold bX;rw[hbad,hs];rfl];rfl
    | true=>
     refine qf ?_;refine qC (f136 (stI b) ((aM _).1 hs)) ?_;refine qC (f135 (bI (stI b)) b) ?_
     cases he:bV (bI (stI b)) b with
     | false=>refine qt ?_;rw[show bX b=none by unfold bX;rw[hbad,hs,he];rfl];rfl
     | true=>refine qf ?_;rw[show bX b=some (stI b) by unfold bX;rw[hbad,hs,he];rfl];rfl
 have out:It (fun aA (_:Unit)=>c133_5 (aI p n) aA b ((((siC b).1,()),()),((siC b).2,()))) (rdI 0 (cF cR (siC b).2 0)) (fun _=>some (mX (bX b))):=by
  refine It.run (fun k=>rdI k (cF cR (siC b).2 k)) (siC b).1.toNat (fun k hk aA u rec=>?_) (It.stopE (T:=fun aA _=>iter (c133_17 (aI p n) aA b ((((siF b).1,()),()),((siF b).2,())) (siI b).1) aA (rdF 0 (cF dL (siF b).2 0))) (fun aA u rec=>?_) inn.all_i)
  ·have hlen:=hO cR (siC b).2 k
   have hbd:(cF cR (siC b).2 k).1.length+1<=bound:=by unfold bound;omega
   have hk0:=rI k
   show c133_5 (aI p n) aA b ((((siC b).1,()),()),((siC b).2,())) rec (rdI k (cF cR (siC b).2 k))=rec (rdI (k+1) (cF cR (siC b).2 (k+1)))
   unfold c133_5 rdI;dsimp only;rw[aD (show k<9223372036854775807 by omega)];refine qP (show(k:Int)<(siC b).1 by omega) ?_;refine qR (f131 (rdK (cF cR (siC b).2 k).2 0) (hk0.k 0)) ?_;refine qR (f131 (rdK (cF cR (siC b).2 k).2 1) (hk0.k 1)) ?_;refine qR (f131 (rdK (cF cR (siC b).2 k).2 2) (hk0.k 2)) ?_;refine qR (f131 (rdK (cF cR (siC b).2 k).2 3) (hk0.k 3)) ?_;refine qR (f131 (rdK (cF cR (siC b).2 k).2 4) (hk0.k 4)) ?_;refine qR (f270 (rdK (cF cR (siC b).2 k).2 5) (hk0.k 5)) ?_;refine qP hbd ?_;rfl
  ·show c133_5 (aI p n) aA b ((((siC b).1,()),()),((siC b).2,())) rec (rdI (siC b).1.toNat (siI b))=_
   unfold c133_5 rdI;dsimp only;refine qN (show ¬ ((((siC b).1.toNat:Nat):Int)<(siC b).1) by omega) ?_;refine qR (f134 (siI b).2 5 (rI _)) ?_;rfl
 exact Ev.eq (fun aA=>by unfold T133;refine qR (f134 (rs0 b) 5 r0) ?_;rfl) (out.ev (i:=()) rfl)
def lW(b:List aH)(big:Bool)(q:List bL×RdT):Option aE:=bif(flR q.2).2.2.2.1||(big||(!aN (stS q)|| !bV (bI (stS q)) b))then none else some (stS q)
theorem f268(b:List aH)(hb:B8 b)(hl:b.length<=aQ):Ran p 5 268 [vf K22 (b,())] (mX (fY b)):=go268 fun n hn=>by
 have r0:=LA hb hl
 have rN:RdOk (aK (rs0 b)).2:=r0.num
 have q0:=yH (rs0 b)
 have tail:∀ q:List bL×RdT,RdOk q.2->q.1.length<=100->It (fun aA (_:Unit)=>c268_21 (aI p n) aA b ((((aK (rs0 b)).1,()),()),((aK (rs0 b)).2,())) ((((cM q.2 2).1,()),()),((cM q.2 2).2,())) q.1) ((0:Int),([]:List aL)) (fun _=>some (mX (lW b (decide ((aK (rs0 b)).1>100)) q))):=by
  intro q hq hql
  have hm:=qO q.2 2
  refine It.run (fun k=>(((2*k:Nat):Int),iU (cM q.2 2).1 k)) ((cM q.2 2).1.length / 2) (fun k hk aA u rec=>?_) (It.stop fun aA u rec=>?_)
  ·have h1:2*k<(cM q.2 2).1.length:=by omega
   have h2:2*k+1<(cM q.2 2).1.length:=by omega
   have e1:i64.wrap (((2*k:Nat):Int)+1)=((2*k+1:Nat):Int):=by rw[IntKind.wrap_i64];omega
   have e2:i64.wrap (((2*k:Nat):Int)+2)=((2*(k+1):Nat):Int):=by rw[IntKind.wrap_i64];omega
   have hbd:(iU (cM q.2 2).1 k).length+1<=bound:=by rw[sA];unfold bound;omega
   unfold c268_21;dsimp only;rw[e1,e2,wJ];refine ql h2 ?_;refine qz ?_;refine(aG h1).trans ?_;refine(aG h1).trans ?_;refine qz ?_;refine(aG h2).trans ?_;refine(aG h2).trans ?_;refine qP hbd ?_;rfl
  ·have e1:i64.wrap ((((2*((cM q.2 2).1.length / 2):Nat)):Int)+1)=((2*((cM q.2 2).1.length / 2)+1:Nat):Int):=by rw[IntKind.wrap_i64];omega
   have lp:(stS q).2.1.length<=100:=H5 q.2
   have hz1:(stS q).1.length<=maxLen:=Nat.le_trans hql (by decide)
   have hz2:(stS q).2.1.length<=maxLen:=Nat.le_trans lp (by decide)
   unfold c268_21;dsimp only;rw[e1];refine qN (show ¬ (((2*((cM q.2 2).1.length / 2)+1:Nat):Int)<(((cM q.2 2).1.length:Nat):Int)) by omega) ?_
   cases hbad:(cM q.2 2).2.2.2.1 with
   | true=>refine qt ?_;rw[show lW b (decide ((aK (rs0 b)).1>100)) q=none by unfold lW flR;rw[hbad];rfl];rfl
   | false=>
    refine qf ?_
    by_cases hbig:(aK (rs0 b)).1>100
    ·refine qP hbig ?_;rw[show lW b (decide ((aK (rs0 b)).1>100)) q=none by unfold lW flR;rw[hbad,decide_eq_true hbig];rfl];rfl
    ·refine qN hbig ?_;refine qC (f227 (stS q) hz1 hz2) ?_
     cases hs:aN (stS q)with
     | false=>refine qt ?_;rw[show lW b (decide ((aK (rs0 b)).1>100)) q=none by unfold lW flR;rw[hbad,decide_eq_false hbig,hs];rfl];rfl
     | true=>
      refine qf ?_;refine qC (f333 (stS q) ((aM _).1 hs)) ?_
      cases he:bV (bI (stS q)) b with
      | false=>refine qT (show(!bV (bI (stS q)) b)=true by rw[he];rfl) ?_;rw[show lW b (decide ((aK (rs0 b)).1>100)) q=none by unfold lW flR;rw[hbad,decide_eq_false hbig,hs,he];rfl];rfl
      | true=>refine qF (show(!bV (bI (stS q)) b)=false by rw[he];rfl) ?_;rw[show lW b (decide ((aK (rs0 b)).1>100)) q=some (stS q) by unfold lW flR;rw[hbad,decide_eq_false hbig,hs,he];rfl];rfl
 have run0:It (fun aA (_:Unit)=>c268_5 (aI p n) aA b ((((aK (rs0 b)).1,()),()),((aK (rs0 b)).2,()))) ((0:Int),(aK (rs0 b)).2.1,(aK (rs0 b)).2.2.1,(aK (rs0 b)).2.2.2.1,([]:List bL)) (fun _=>some (mX (fY b))):=by
  by_cases hbig:(aK (rs0 b)).1>100
  ·have e:fY b=lW b (decide ((aK (rs0 b)).1>100)) ([],(aK (rs0 b)).2):=by unfold fY ssI;rw[decide_eq_true hbig];rfl
   rw[e]
   have key:∀ q:RdT,RdOk q->It (fun aA (_:Unit)=>c268_5 (aI p n) aA b ((((aK (rs0 b)).1,()),()),((aK (rs0 b)).2,()))) ((0:Int),q.1,q.2.1,q.2.2.1,([]:List bL)) (fun _=>some (mX (lW b (decide ((aK (rs0 b)).1>100)) ([],q)))):=by
    rintro ⟨qb,qa,qd,qu⟩ hq
    refine It.stopE (T:=fun aA _=>iter (c268_21 (aI p n) aA b ((((aK (rs0 b)).1,()),()),((aK (rs0 b)).2,())) ((((cM (qb,qa,qd,qu) 2).1,()),()),((cM (qb,qa,qd,qu) 2).2,())) []) aA ((0:Int),([]:List aL))) (fun aA u rec=>?_) (tail ([],(qb,qa,qd,qu)) hq (Nat.zero_le _)).all_i
    unfold c268_5;dsimp only;refine qP (show(0:Int)<(aK (rs0 b)).1 by omega) ?_
    cases qd with
    | true=>refine qf ?_;refine qR (f267 (qb,qa,true,qu) 2 2 rfl hq (by omega)) ?_;rfl
    | false=>refine qt ?_;refine qN (show ¬ ((aK (rs0 b)).1<=100) by omega) ?_;refine qR (f267 (qb,qa,false,qu) 2 2 rfl hq (by omega)) ?_;rfl
   exact key _ rN
  ·have hbd:decide ((aK (rs0 b)).1>100)=false:=decide_eq_false hbig
   have lp:∀ (k i:Nat) (acc:List bL) (q:RdT),RdOk q->q.1=b->i+k=(aK (rs0 b)).1.toNat->acc.length=i->
     It (fun aA (_:Unit)=>c268_5 (aI p n) aA b ((((aK (rs0 b)).1,()),()),((aK (rs0 b)).2,()))) ((i:Int),q.1,q.2.1,q.2.2.1,acc) (fun _=>some (mX ((iI q k).bind fun w=>lW b (decide ((aK (rs0 b)).1>100)) (acc++w.1,w.2)))):=by
    intro k
    induction k with
    | zero=>
     intro i acc q hq hqb hi ha
     show It _ _ (fun _=>some (mX (lW b (decide ((aK (rs0 b)).1>100)) (acc++[],q))))
     rw[List.append_nil]
     refine It.stopE (T:=fun aA _=>iter (c268_21 (aI p n) aA b ((((aK (rs0 b)).1,()),()),((aK (rs0 b)).2,())) ((((cM q 2).1,()),()),((cM q 2).2,())) acc) aA ((0:Int),([]:List aL))) (fun aA u rec=>?_) (tail (acc,q) hq (by show acc.length<=100;omega)).all_i
     unfold c268_5;dsimp only;refine qN (show ¬ ((i:Int)<(aK (rs0 b)).1) by omega) ?_;refine qR (f267 q 2 2 rfl hq (by omega)) ?_;rfl
    | succ k ih=>
     intro i acc q hq hqb hi ha
     have hlt:(i:Int)<(aK (rs0 b)).1:=by omega
     obtain⟨qb,qa,qd,qu⟩:=q
     cases qd with
     | true=>
      show It _ _ (fun _=>some (mX (lW b (decide ((aK (rs0 b)).1>100)) (acc++[],(qb,qa,true,qu)))))
      rw[List.append_nil]
      refine It.stopE (T:=fun aA _=>iter (c268_21 (aI p n) aA b ((((aK (rs0 b)).1,()),()),((aK (rs0 b)).2,())) ((((cM (qb,qa,true,qu) 2).1,()),()),((cM (qb,qa,true,qu) 2).2,())) acc) aA ((0:Int),([]:List aL))) (fun aA u rec=>?_) (tail (acc,(qb,qa,true,qu)) hq (by show acc.length<=100;omega)).all_i
      unfold c268_5;dsimp only;refine qP hlt ?_;refine qf ?_;refine qR (f267 (qb,qa,true,qu) 2 2 rfl hq (by omega)) ?_;rfl
     | false=>
      have hbk:acc.length+1<=bound:=by unfold bound;omega
      have head:∀ aA rec,c268_5 (aI p n) aA b ((((aK (rs0 b)).1,()),()),((aK (rs0 b)).2,())) rec ((i:Int),qb,qa,false,acc)=(((aI p n) 336 [vf K22 (b,()), vf K3 ((rdK (qb,qa,false,qu) 5).2.1,())]).bind (cP [K9,K3,K4] [])).bind fun o7=>(bif(rdK (qb,qa,false,qu) 5).2.2.1 then some (mX none)else bif !(vB o7.1.2.2.1.1)then some (mX none)else bif decide (acc.length+1<=bound)then rec (((i+1:Nat):Int),(rdK (qb,qa,false,qu) 5).1,(vI o7.1.2.1.1),(rdK (qb,qa,false,qu) 5).2.2.1,acc++[(rdV (qb,qa,false,qu) 0,rdV (qb,qa,false,qu) 1,rdV (qb,qa,false,qu) 2,rdV (qb,qa,false,qu) 3,rdV (qb,qa,false,qu) 4,(vS o7.1.1.1),())])else none):=by
       intro aA rec
       unfold c268_5;dsimp only;rw[aD (show i<9223372036854775807 by omega)];refine qP hlt ?_;refine qt ?_;refine qP (show(aK (rs0 b)).1<=100 by omega) ?_;refine qR (f266 (rdK (qb,qa,false,qu) 0) (hq.k 0)) ?_;refine qR (f266 (rdK (qb,qa,false,qu) 1) (hq.k 1)) ?_;refine qR (f266 (rdK (qb,qa,false,qu) 2) (hq.k 2)) ?_;refine qR (f266 (rdK (qb,qa,false,qu) 3) (hq.k 3)) ?_;refine qR (f266 (rdK (qb,qa,false,qu) 4) (hq.k 4)) ?_
       rfl
      have el:(rdK (qb,qa,false,qu) 5).1=b:=(tP (qb,qa,false,qu) 5).trans hqb
      have hg:=f336 b (rdK (qb,qa,false,qu) 5).2.1 hb hl
      have e2:iI (qb,qa,false,qu) (k+1)=bif(cR (qb,qa,false,qu)).2.2.2.1 then none else(iI (cR (qb,qa,false,qu)).2 k).map fun w=>((cR (qb,qa,false,qu)).1::w.1,w.2):=rfl
      cases hd:(rdK (qb,qa,false,qu) 5).2.2.1 with
      | true=>
       have e3:(cR (qb,qa,false,qu)).2.2.2.1=true:=by unfold cR lD;rw[hd];rfl
       rw[e2,e3]
       refine It.stop fun aA u rec=>(head aA rec).trans ?_
       rw[hd]
       cases ht:sY b (rdK (qb,qa,false,qu) 5).2.1 with
       | none=>rw[ht] at hg;refine qE hg ?_;rfl
       | some w=>obtain⟨s,j⟩:=w;rw[ht] at hg;refine qE hg ?_;rfl
      | false=>
       cases ht:sY b (rdK (qb,qa,false,qu) 5).2.1 with
       | none=>
        have e3:(cR (qb,qa,false,qu)).2.2.2.1=true:=by unfold cR lD;rw[hd,el,ht];rfl
        rw[e2,e3]
        refine It.stop fun aA u rec=>(head aA rec).trans ?_
        rw[hd];rw[ht] at hg;refine qE hg ?_;rfl
       | some w=>
        obtain⟨s,j⟩:=w
        have e4:lD (rdK (qb,qa,false,qu) 5)=(s,((rdK (qb,qa,false,qu) 5).1,(j:Int),false,())):=by
         unfold lD;rw[hd,el,ht];rfl
        have e3:cR (qb,qa,false,qu)=((rdV (qb,qa,false,qu) 0,rdV (qb,qa,false,qu) 1,rdV (qb,qa,false,qu) 2,rdV (qb,qa,false,qu) 3,rdV (qb,qa,false,qu) 4,s,()),((rdK (qb,qa,false,qu) 5).1,(j:Int),false,())):=by unfold cR;rw[e4]
        have ih':=ih (i+1) (acc++[(cR (qb,qa,false,qu)).1]) (cR (qb,qa,false,qu)).2 hq.item ((GK (qb,qa,false,qu)).trans hqb) (by omega) (by rw[List.length_append,ha];rfl)
        have e5:((iI (qb,qa,false,qu) (k+1)).bind fun w=>lW b (decide ((aK (rs0 b)).1>100)) (acc++w.1,w.2))=((iI (cR (qb,qa,false,qu)).2 k).bind fun w=>lW b (decide ((aK (rs0 b)).1>100)) (acc++[(cR (qb,qa,false,qu)).1]++w.1,w.2)):=by
         rw[e2,show(cR (qb,qa,false,qu)).2.2.2.1=false by rw[e3]]
         show((iI (cR (qb,qa,false,qu)).2 k).map fun w=>((cR (qb,qa,false,qu)).1::w.1,w.2)).bind _=_
         cases iI (cR (qb,qa,false,qu)).2 k with
         | none=>rfl
         | some w=>show lW b _ (acc++((cR (qb,qa,false,qu)).1::w.1),w.2)=lW b _ (acc++[(cR (qb,qa,false,qu)).1]++w.1,w.2);rw[List.append_assoc];rfl
        rw[e5]
        refine It.next (fun aA u rec=>(head aA rec).trans ?_) ih'
        rw[hd];rw[ht] at hg;refine qE hg ?_;refine qf ?_;refine qf ?_;refine qP hbk ?_;rw[e3]
   have lp0:=lp (aK (rs0 b)).1.toNat 0 [] (aK (rs0 b)).2 rN (fT _) (by omega) rfl
   have e:fY b=((iI (aK (rs0 b)).2 (aK (rs0 b)).1.toNat).bind fun w=>lW b (decide ((aK (rs0 b)).1>100)) ([]++w.1,w.2)):=by
    unfold fY ssI;rw[hbd]
    show(match iI (aK (rs0 b)).2 (aK (rs0 b)).1.toNat with | none=>none | some q=>lW b false q)=_
    cases iI (aK (rs0 b)).2 (aK (rs0 b)).1.toNat<;>rfl
   rw[e];exact lp0
 exact Ev.eq (fun aA=>by unfold T268;refine qR (f266 (rs0 b) r0) ?_;rfl) (run0.ev (i:=()) rfl)
end Go.Abs.Xz
