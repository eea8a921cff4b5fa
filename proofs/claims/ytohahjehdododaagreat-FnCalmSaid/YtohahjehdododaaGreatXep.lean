/- What the functions of this program answer, part ep. -/
import Derived.Test.YtohahjehdododaaGreatXa
import Derived.Test.YtohahjehdododaaGreatW2
import Derived.Test.YtohahjehdododaaGreatW4
import Derived.Test.YtohahjehdododaaGreatW3
set_option linter.unusedVariables false
open Go.IntKind (i64)
namespace Go.Abs.Wz
open Go Go.Abs
theorem f33(x lo hi:Int):Ran p 1 33 [vf K3 (x,()), vf K3 (lo,()), vf K3 (hi,())] (rO K4 (inB x lo hi,())):=go33 λn hn=>Ev.now λaA=>by
 unfold T33;exact iK λ_=>rfl
theorem f43(x lo hi:Int):Ran p 1 43 [vf K3 (x,()), vf K3 (lo,()), vf K3 (hi,())] (rO K4 (inB x lo hi,())):=go43 λn hn=>Ev.now λaA=>by
 unfold T43;exact iK λ_=>rfl
theorem f52(x:Int):Ran p 2 52 [vf K3 (x,())] (rO K4 (eM x,())):=go52 λn hn=>Ev.now λaA=>by
 unfold T52;refine(aB (f33 x 0 4 n (by omega))).trans ?_;rfl
theorem f71(x:Int):Ran p 2 71 [vf K3 (x,())] (rO K4 (eM x,())):=go71 λn hn=>Ev.now λaA=>by
 unfold T71;refine(aB (f43 x 0 4 n (by omega))).trans ?_;rfl
theorem f53(e:bF):Ran p 2 53 [va K69 e] (rO K4 (eD e,())):=go53 λn hn=>Ev.now λaA=>by
 unfold T53 eD;refine(aB (f33 e.1 1 1000 n (by omega))).trans ?_;refine iK λ_=>?_;refine(aB (f33 e.2.1 0 1 n (by omega))).trans ?_;refine iK λ_=>?_;refine(aB (f33 e.2.2.1 0 100000 n (by omega))).trans ?_;refine iK λ_=>?_;refine(aB (f33 e.2.2.2.1 0 1000 n (by omega))).trans ?_;refine iK λ_=>?_;rfl
theorem f72(e:bF):Ran p 2 72 [va K69 e] (rO K4 (eD e,())):=go72 λn hn=>Ev.now λaA=>by
 unfold T72 eD;refine(aB (f43 e.1 1 1000 n (by omega))).trans ?_;refine iK λ_=>?_;refine(aB (f43 e.2.1 0 1 n (by omega))).trans ?_;refine iK λ_=>?_;refine(aB (f43 e.2.2.1 0 100000 n (by omega))).trans ?_;refine iK λ_=>?_;refine(aB (f43 e.2.2.2.1 0 1000 n (by omega))).trans ?_;refine iK λ_=>?_;rfl
theorem AG {c:Nat->Unit->(Int->Option Out)->Int->Option Out} (fs:List aU) (id:Int)
  (h:∀ i,i<fs.length->∀ aA a rec,c aA a rec (i:Int)=bif(gt fs i).1==id then oI (gt fs i).2.1 else rec ((i+1:Nat):Int))
  (hn:∀ aA a rec,c aA a rec (fs.length:Int)=oI 0):It c (0:Int) (λ_=>oI (cM fs id)):=by
 have:=It.first (c:=c) (λi=>(i:Int)) fs.length (λi=>(gt fs i).1==id) (λi _=>oI (gt fs i).2.1) (λ_=>oI 0)
  (λi hi hp aA a rec=>by rw[h i hi];rw[hp];rfl) (λi hi hp=>It.stop λaA a rec=>by rw[h i hi];rw[hp];rfl) (It.stop hn)
 unfold cM
 revert this
 cases (List.range fs.length).find? (λi=>(gt fs i).1==id)<;>exact λh=>h
theorem f54(s:aJ)(id:Int)(hl:s.2.1.length<=maxLen):Ran p 1 54 [va K34 s, vf K3 (id,())] (rO K3 (cM s.2.1 id,())):=go54 λn hn=>by
 refine Ev.eq (λaA=>by unfold T54;rfl) (It.ev (c:=λaA (_:Unit)=>c54_2 (aK p n) aA s id) (i:=()) (AG s.2.1 id (λi hi aA a rec=>?_) (λaA a rec=>?_)) rfl)
 ·have hb:i<9223372036854775807:=Nat.lt_of_lt_of_le hi hl
  show c54_2 (aK p n) aA s id rec (i:Int)=_
  unfold c54_2;rw[aL hb];refine(aE (Int.ofNat_lt.2 hi)).trans ?_;refine bif_nn.trans ?_;refine(aH hi).trans ?_
  refine congrArg (λx=>bif(gt s.2.1 i).1==id then x else rec ((i+1:Nat):Int)) ?_
  refine bif_nn.trans ?_;refine(aH hi).trans ?_;rfl
 ·show c54_2 (aK p n) aA s id rec (s.2.1.length:Int)=_
  unfold c54_2;refine(aI (Int.lt_irrefl _)).trans ?_;rfl
theorem f60(s:aJ)(id:Int)(hl:s.2.1.length<=maxLen):Ran p 1 60 [va K34 s, vf K3 (id,())] (rO K3 (cM s.2.1 id,())):=go60 λn hn=>by
 refine Ev.eq (λaA=>by unfold T60;rfl) (It.ev (c:=λaA (_:Unit)=>c60_2 (aK p n) aA s id) (i:=()) (AG s.2.1 id (λi hi aA a rec=>?_) (λaA a rec=>?_)) rfl)
 ·have hb:i<9223372036854775807:=Nat.lt_of_lt_of_le hi hl
  show c60_2 (aK p n) aA s id rec (i:Int)=_
  unfold c60_2;rw[aL hb];refine(aE (Int.ofNat_lt.2 hi)).trans ?_;refine bif_nn.trans ?_;refine(aH hi).trans ?_;rfl
 ·show c60_2 (aK p n) aA s id rec (s.2.1.length:Int)=_
  unfold c60_2;refine(aI (Int.lt_irrefl _)).trans ?_;rfl
theorem f25(s:aJ)(h1:s.1.length<=maxLen)(h2:s.2.1.length<=maxLen):Ran p 3 25 [va K34 s] (rO K4 (aS s,())):=go25 λn hn=>by
 have inner:It (λaA (_:Unit)=>c25_8 (aK p n) aA s) (0:Int) (λ_=>oB (bL s.2.1.length (gE s.2.1))):=by
  refine cO (It.allB s.2.1.length (gE s.2.1) true (λi hi aA a rec=>?_) (It.stop λaA a rec=>?_))
  ·have hb:i<9223372036854775807:=Nat.lt_of_lt_of_le hi h2
   show c25_8 (aK p n) aA s rec (i:Int)=_
   unfold c25_8 gE;rw[aL hb];refine(aE (Int.ofNat_lt.2 hi)).trans ?_;refine bif_nn.trans ?_;refine(aH hi).trans ?_;refine(aB (f52 (gt s.2.1 i).1 n (by omega))).trans ?_;refine chk λ_=>?_
   cases i with
   | zero=>refine(aI (by decide)).trans ?_;refine(aB (f33 (gt s.2.1 0).2.1 1 1000 n (by omega))).trans ?_;exact fin
   | succ j=>
    refine(aE (by omega)).trans ?_;rw[lL hb (by omega)];refine bif_nn.trans ?_;refine(aH (show j<s.2.1.length by omega)).trans ?_;refine PY λ_=>?_
    refine(aB (f33 (gt s.2.1 (j+1)).2.1 1 1000 n (by omega))).trans ?_;exact fin
  ·show c25_8 (aK p n) aA s rec (s.2.1.length:Int)=_
   unfold c25_8;refine(aI (Int.lt_irrefl _)).trans ?_;rfl
 have outer:It (λaA (_:Unit)=>c25_2 (aK p n) aA s) (0:Int) (λ_=>oB (aS s)):=by
  refine It.allB s.1.length (mJ s) _ (λi hi aA a rec=>?_) (It.stopE (T:=λaA _=>iter (c25_8 (aK p n) aA s) aA (0:Int)) (λaA a rec=>?_) inner.all_i)
  ·have hb:i<9223372036854775807:=Nat.lt_of_lt_of_le hi h1
   show c25_2 (aK p n) aA s rec (i:Int)=_
   unfold c25_2 mJ;rw[aL hb];refine(aE (Int.ofNat_lt.2 hi)).trans ?_;refine bif_nn.trans ?_;refine(aH hi).trans ?_;refine(aB (f52 (gt s.1 i).1 n (by omega))).trans ?_;refine chk λ_=>?_
   cases i with
   | zero=>refine(aI (by decide)).trans ?_;refine(aB (f53 (gt s.1 0).2 n (by omega))).trans ?_;refine chk λ_=>?_;refine(aB (f54 s (gt s.1 0).1 h2 n (by omega))).trans ?_;exact II
   | succ j=>
    refine(aE (by omega)).trans ?_;rw[lL hb (by omega)];refine bif_nn.trans ?_;refine(aH (show j<s.1.length by omega)).trans ?_;refine PY λ_=>?_
    refine(aB (f53 (gt s.1 (j+1)).2 n (by omega))).trans ?_;refine chk λ_=>?_;refine(aB (f54 s (gt s.1 (j+1)).1 h2 n (by omega))).trans ?_;exact II
  ·show c25_2 (aK p n) aA s rec (s.1.length:Int)=_
   unfold c25_2;refine(aI (Int.lt_irrefl _)).trans ?_;rfl
 exact Ev.eq (λaA=>by unfold T25;rfl) (outer.ev (i:=()) rfl)
theorem f35(s:aJ)(h1:s.1.length<=maxLen)(h2:s.2.1.length<=maxLen):Ran p 3 35 [va K34 s] (rO K4 (aS s,())):=go35 λn hn=>by
 have inner:It (λaA (_:Unit)=>c35_8 (aK p n) aA s) (0:Int) (λ_=>oB (bL s.1.length (oT s))):=by
  refine cO (It.allB s.1.length (oT s) true (λi hi aA a rec=>?_) (It.stop λaA a rec=>?_))
  ·have hb:i<9223372036854775807:=Nat.lt_of_lt_of_le hi h1
   show c35_8 (aK p n) aA s rec (i:Int)=_
   unfold c35_8 oT;rw[aL hb];refine(aE (Int.ofNat_lt.2 hi)).trans ?_;refine bif_nn.trans ?_;refine(aH hi).trans ?_;refine(aB (f71 (gt s.1 i).1 n (by omega))).trans ?_;refine chk λ_=>?_;refine(aB (f72 (gt s.1 i).2 n (by omega))).trans ?_;refine chk λ_=>?_;refine(aB (f60 s (gt s.1 i).1 h2 n (by omega))).trans ?_;refine PY λ_=>?_
   cases i with
   | zero=>refine(aI (by decide)).trans ?_;rfl
   | succ j=>refine(aE (by omega)).trans ?_;rw[lL hb (by omega)];refine bif_nn.trans ?_;refine(aH (show j<s.1.length by omega)).trans ?_;exact II
  ·show c35_8 (aK p n) aA s rec (s.1.length:Int)=_
   unfold c35_8;refine(aI (Int.lt_irrefl _)).trans ?_;rfl
 have outer:It (λaA (_:Unit)=>c35_2 (aK p n) aA s) (0:Int) (λ_=>oB (bL s.2.1.length (nM s.2.1)&&bL s.1.length (oT s))):=by
  refine It.allB s.2.1.length (nM s.2.1) _ (λi hi aA a rec=>?_) (It.stopE (T:=λaA _=>iter (c35_8 (aK p n) aA s) aA (0:Int)) (λaA a rec=>?_) inner.all_i)
  ·have hb:i<9223372036854775807:=Nat.lt_of_lt_of_le hi h2
   show c35_2 (aK p n) aA s rec (i:Int)=_
   unfold c35_2 nM;rw[aL hb];refine(aE (Int.ofNat_lt.2 hi)).trans ?_;refine bif_nn.trans ?_;refine(aH hi).trans ?_;refine(aB (f71 (gt s.2.1 i).1 n (by omega))).trans ?_;refine chk λ_=>?_;refine(aB (f43 (gt s.2.1 i).2.1 1 1000 n (by omega))).trans ?_;refine chk λ_=>?_
   cases i with
   | zero=>refine(aI (by decide)).trans ?_;rfl
   | succ j=>refine(aE (by omega)).trans ?_;rw[lL hb (by omega)];refine bif_nn.trans ?_;refine(aH (show j<s.2.1.length by omega)).trans ?_;exact II
  ·show c35_2 (aK p n) aA s rec (s.2.1.length:Int)=_
   unfold c35_2;refine(aI (Int.lt_irrefl _)).trans ?_;rfl
 rw[KL] at outer
 exact Ev.eq (λaA=>by unfold T35;rfl) (outer.ev (i:=()) rfl)
end Go.Abs.Wz
set_option maxHeartbeats 2000000
namespace Go.Abs.Wz
open Go Go.Abs
def DN:Option (Nat×Nat)->Out
 | none=>⟨[⟨K3,((0:Int),())⟩,⟨K3,((0:Int),())⟩,⟨K4,(false,())⟩],[]⟩
 | some (x,j)=>⟨[⟨K3,((x:Int),())⟩,⟨K3,((j:Int),())⟩,⟨K4,(true,())⟩],[]⟩
theorem f198(b:List aO)(i:Int)(hb:B8 b)(hl:b.length<=aW):Ran p 1 198 [vf K22 (b,()), vf K3 (i,())] (DN (uK b i)):=go198 λn hn=>by
 unfold uK
 have hs:b.length<=9223372036854775000:=Nat.le_trans hl (by decide)
 by_cases h0:i<0
 ·rw[decide_eq_true h0]
  have lp:It (λaA (_:Unit)=>c198_3 (aK p n) aA b i) ((0:Int),(0:Int)) (λ_=>some (DN none)):=It.stop λaA u rec=>by
   show c198_3 (aK p n) aA b i rec ((0:Int),(0:Int))=_
   unfold c198_3;dsimp only;refine(aE (show(0:Int)<5 by omega)).trans ?_;refine(aE h0).trans ?_;rfl
  exact Ev.eq (λaA=>by unfold T198;rfl) (lp.ev (i:=()) rfl)
 obtain⟨j,rfl⟩:∃ j:Nat,i=(j:Int):=⟨i.toNat,by omega⟩
 rw[decide_eq_false h0,Int.toNat_natCast]
 show Ev _ (DN (AB b j))
 have lp:∀ (m k acc:Nat),k+m=5->acc<128 ^ k->It (λaA (_:Unit)=>c198_3 (aK p n) aA b (j:Int)) ((acc:Int),(k:Int)) (λ_=>some (DN (xR b j m k acc))):=by
  intro m
  induction m with
  | zero=>
   intro k acc hk ha
   refine It.stop λaA u rec=>?_
   show c198_3 (aK p n) aA b (j:Int) rec ((acc:Int),(k:Int))=_
   unfold c198_3;dsimp only;refine(aI (show ¬ ((k:Int)<5) by omega)).trans ?_;rfl
  | succ m ih=>
   intro k acc hk ha
   have k5:k<5:=by omega
   have hp:=UM k5
   have e0:i64.wrap ((b.length:Int) - (k:Int))=(b.length:Int) - (k:Int):=by rw[IntKind.wrap_i64];omega
   unfold xR
   by_cases hin:j+k<b.length
   ·have e1:i64.wrap ((j:Int)+(k:Int))=((j+k:Nat):Int):=by rw[IntKind.wrap_i64];omega
    obtain⟨y,hy,hy2⟩:=hb (j+k) hin
    rw[if_pos hin,hy,Int.toNat_natCast]
    have e2:i64.wrap ((y:Int))=(y:Int):=by rw[IntKind.wrap_i64];omega
    have e3:ES i64 (((y % 128:Nat):Int)) (i64.wrap ((7:Int)*(k:Int)))=((y % 128*128 ^ k:Nat):Int):=QY (Nat.mod_lt _ (by omega)) k5
    have e4:orI i64 (acc:Int) ((y % 128*128 ^ k:Nat):Int)=((acc+y % 128*128 ^ k:Nat):Int):=TH ha (Nat.mod_lt _ (by omega)) k5
    have e5:¬ (i64.wrap ((7:Int)*(k:Int))<0):=by rw[SJ k5];omega
    have e6:i64.wrap ((k:Int)+1)=((k+1:Nat):Int):=by rw[IntKind.wrap_i64];omega
    have e7:i64.wrap (((j+k:Nat):Int)+1)=((j+k+1:Nat):Int):=by rw[IntKind.wrap_i64];omega
    by_cases h128:128<=y
    ·rw[if_pos h128]
     refine It.next (y:=(((acc+y % 128*128 ^ k:Nat):Int),((k+1:Nat):Int))) (λaA u rec=>?_) (ih (k+1) _ (by omega) (T8 ha))
     show c198_3 (aK p n) aA b (j:Int) rec ((acc:Int),(k:Int))=_
     unfold c198_3;dsimp only;refine(aE (show(k:Int)<5 by omega)).trans ?_;refine(aI h0).trans ?_;refine(aI (show ¬ ((j:Int)>=i64.wrap ((b.length:Int) - (k:Int))) by rw[e0];omega)).trans ?_;rw[e1];refine bif_nn.trans ?_;refine(aH hin).trans ?_;rw[show vI (gt b (j+k)).1=(y:Int)from hy,e2,EI,e3,e4,e6]
     refine(aI (by decide)).trans ?_;refine(aI e5).trans ?_;refine(aI (show ¬ ((y:Int)<128) by omega)).trans ?_;rfl
    ·have ey:y % 128=y:=Nat.mod_eq_of_lt (by omega)
     rw[if_neg h128]
     refine It.stop λaA u rec=>?_
     show c198_3 (aK p n) aA b (j:Int) rec ((acc:Int),(k:Int))=_
     unfold c198_3;dsimp only;refine(aE (show(k:Int)<5 by omega)).trans ?_;refine(aI h0).trans ?_;refine(aI (show ¬ ((j:Int)>=i64.wrap ((b.length:Int) - (k:Int))) by rw[e0];omega)).trans ?_;rw[e1];refine bif_nn.trans ?_;refine(aH hin).trans ?_;rw[show vI (gt b (j+k)).1=(y:Int)from hy,e2,EI,e3,e4,e7]
     refine(aI (by decide)).trans ?_;refine(aI e5).trans ?_;refine(aE (show(y:Int)<128 by omega)).trans ?_
     rw[ey]
     by_cases hk0:0<k
     ·refine(aE (show(k:Int)>0 by omega)).trans ?_
      by_cases hy0:y=0
      ·rw[if_pos ⟨hk0,hy0⟩];refine(aM (show((y:Int)==0)=true by rw[hy0];rfl)).trans ?_;rfl
      ·rw[if_neg (by omega)];refine(aF (show((y:Int)==0)=false by simp;omega)).trans ?_
       by_cases hbig:acc+y*128 ^ k>2147483647
       ·rw[if_pos hbig];refine(aE (show((acc+y*128 ^ k:Nat):Int)>2147483647 by omega)).trans ?_;rfl
       ·rw[if_neg hbig];refine(aI (show ¬ (((acc+y*128 ^ k:Nat):Int)>2147483647) by omega)).trans ?_;rfl
     ·rw[if_neg (by omega)];refine(aI (show ¬ ((k:Int)>0) by omega)).trans ?_
      by_cases hbig:acc+y*128 ^ k>2147483647
      ·rw[if_pos hbig];refine(aE (show((acc+y*128 ^ k:Nat):Int)>2147483647 by omega)).trans ?_;rfl
      ·rw[if_neg hbig];refine(aI (show ¬ (((acc+y*128 ^ k:Nat):Int)>2147483647) by omega)).trans ?_;rfl
   ·rw[if_neg hin]
    refine It.stop λaA u rec=>?_
    show c198_3 (aK p n) aA b (j:Int) rec ((acc:Int),(k:Int))=_
    unfold c198_3;dsimp only;refine(aE (show(k:Int)<5 by omega)).trans ?_;refine(aI h0).trans ?_;refine(aE (show((j:Int)>=i64.wrap ((b.length:Int) - (k:Int))) by rw[e0];omega)).trans ?_;rfl
 exact Ev.eq (λaA=>by unfold T198;rfl) ((lp 5 0 0 rfl (by decide)).ev (i:=()) rfl)
end Go.Abs.Wz
set_option maxHeartbeats 2000000
namespace Go.Abs.Wz
open Go Go.Abs
-- a number read off a reader: (the number, the reader behind it)
theorem f189(r:RdT)(h:RdOk r):Ran p 2 189 [.ref ⟨K196,r⟩] ⟨[⟨K3,((aQ r).1,())⟩],[⟨K196,(aQ r).2⟩]⟩:=go189 λn hn=>Ev.now λaA=>by
 have hg:=f198 r.1 r.2.1 h.b8 h.len
 unfold T189 aQ
 cases e:uK r.1 r.2.1 with
 | none=>
  rw[e] at hg
  refine(dK (hg n (by omega))).trans ?_
  obtain⟨r1,r2,r3,ru⟩:=r;cases r3 with
  | true=>rfl
  | false=>refine(aF rfl).trans ?_;rfl
 | some q=>
  obtain⟨x,j⟩:=q
  rw[e] at hg
  refine(dK (hg n (by omega))).trans ?_
  obtain⟨r1,r2,r3,ru⟩:=r;cases r3 with
  | true=>rfl
  | false=>refine(aF rfl).trans ?_;rfl
end Go.Abs.Wz
set_option maxHeartbeats 2000000
namespace Go.Abs.Wz
open Go Go.Abs
def GS:Option (ByteArray×Nat)->Out
 | none=>⟨[⟨K9,((⟨#[]⟩:ByteArray),())⟩,⟨K3,((0:Int),())⟩,⟨K4,(false,())⟩],[]⟩
 | some (s,j)=>⟨[⟨K9,(s,())⟩,⟨K3,((j:Int),())⟩,⟨K4,(true,())⟩],[]⟩
theorem f199(b:List aO)(i:Int)(hb:B8 b)(hl:b.length<=aW):Ran p 2 199 [vf K22 (b,()), vf K3 (i,())] (GS (yO b i)):=go199 λn hn=>Ev.now λaA=>by
 have hg:=f198 b i hb hl
 have hs:b.length<=9223372036854775000:=Nat.le_trans hl (by decide)
 unfold T199 yO
 cases e:uK b i with
 | none=>
  rw[e] at hg
  refine(dK (hg n (by omega))).trans ?_;rfl
 | some q=>
  obtain⟨x,j⟩:=q
  rw[e] at hg
  have hbd:=D0 e
  refine(dK (hg n (by omega))).trans ?_;refine(aF rfl).trans ?_
  have e1:i64.wrap ((b.length:Int) - (j:Int))=(b.length:Int) - (j:Int):=by rw[IntKind.wrap_i64];omega
  by_cases hx:x>b.length - j
  ·show _=some (GS (if x>b.length - j then none else some (cR ((b.take (j+x)).drop j),j+x)))
   rw[if_pos hx]
   refine(aE (show((x:Int)>i64.wrap ((b.length:Int) - (j:Int))) by rw[e1];omega)).trans ?_;rfl
  ·show _=some (GS (if x>b.length - j then none else some (cR ((b.take (j+x)).drop j),j+x)))
   rw[if_neg hx]
   have e2:i64.wrap ((j:Int)+(x:Int))=((j+x:Nat):Int):=by rw[IntKind.wrap_i64];omega
   refine(aI (show ¬ ((x:Int)>i64.wrap ((b.length:Int) - (j:Int))) by rw[e1];omega)).trans ?_
   rw[show i64.wrap (vI ((j:Int))+vI ((x:Int)))=((j+x:Nat):Int)from e2]
   refine(aM (show(decide ((0:Int)<=((j+x:Nat):Int))&&decide (((j+x:Nat):Int)<=(b.length:Int)))=true by rw[decide_eq_true (by omega),decide_eq_true (by omega)];rfl)).trans ?_
   refine(aM (show(decide ((0:Int)<=(j:Int))&&decide ((j:Int)<=(((((j+x:Nat):Int)).toNat:Nat):Int)))=true by rw[decide_eq_true (by omega),decide_eq_true (by omega)];rfl)).trans ?_
   rfl
end Go.Abs.Wz
set_option maxHeartbeats 2000000
namespace Go.Abs.Wz
open Go Go.Abs
end Go.Abs.Wz
namespace Go.Abs.Wz
open Go Go.Abs
theorem f77(a b:List aO)(ha:a.length<=maxLen):Ran p 1 77 [vf K44 (a,()), vf K44 (b,())] (rO K4 (gB a b,())):=go77 λn hn=>by
 by_cases he:a.length=b.length
 ·have e:((a.length:Int) != (b.length:Int))=false:=by simp[he]
  have e2:gB a b=bL a.length (λi=>(gt a i).1==(gt b i).1):=by unfold gB;rw[he];simp
  rw[e2]
  have lp:It (λaA (_:Unit)=>c77_4 (aK p n) aA a b) (0:Int) (λ_=>oB (bL a.length (λi=>(gt a i).1==(gt b i).1))):=by
   refine cO (It.allB a.length _ true (λi hi aA a' rec=>?_) (It.stop λaA a' rec=>?_))
   ·have hb:i<9223372036854775807:=Nat.lt_of_lt_of_le hi ha
    show c77_4 (aK p n) aA a b rec (i:Int)=_
    unfold c77_4;rw[aL hb];refine(aE (Int.ofNat_lt.2 hi)).trans ?_;refine bif_nn.trans ?_;refine(aH hi).trans ?_;refine bif_nn.trans ?_;refine(aH (show i<b.length from he▸hi)).trans ?_;exact fin
   ·show c77_4 (aK p n) aA a b rec (a.length:Int)=_
    unfold c77_4;refine(aI (Int.lt_irrefl _)).trans ?_;rfl
  exact Ev.eq (λaA=>by unfold T77;exact aF e) (lp.ev (i:=()) rfl)
 ·have e:((a.length:Int) != (b.length:Int))=true:=by simp;omega
  have e2:gB a b=false:=by unfold gB;rw[show((a.length:Int)==(b.length:Int))=false from by simp;omega];rfl
  rw[e2]
  exact Ev.now λaA=>by unfold T77;exact aM e
theorem f112(a b:List aO)(ha:a.length<=maxLen):Ran p 1 112 [vf K44 (a,()), vf K44 (b,())] (rO K4 (gB a b,())):=go112 λn hn=>by
 by_cases he:a.length=b.length
 ·have e:((a.length:Int) != (b.length:Int))=false:=by simp[he]
  have e2:gB a b=bL a.length (λi=>(gt a i).1==(gt b i).1):=by unfold gB;rw[he];simp
  rw[e2]
  have lp:It (λaA (_:Unit)=>c112_4 (aK p n) aA a b) (0:Int) (λ_=>oB (bL a.length (λi=>(gt a i).1==(gt b i).1))):=by
   refine cO (It.allB a.length _ true (λi hi aA a' rec=>?_) (It.stop λaA a' rec=>?_))
   ·have hb:i<9223372036854775807:=Nat.lt_of_lt_of_le hi ha
    show c112_4 (aK p n) aA a b rec (i:Int)=_
    unfold c112_4;rw[aL hb];refine(aE (Int.ofNat_lt.2 hi)).trans ?_;refine bif_nn.trans ?_;refine(aH hi).trans ?_;refine bif_nn.trans ?_;refine(aH (show i<b.length from he▸hi)).trans ?_;exact fin
   ·show c112_4 (aK p n) aA a b rec (a.length:Int)=_
    unfold c112_4;refine(aI (Int.lt_irrefl _)).trans ?_;rfl
  exact Ev.eq (λaA=>by unfold T112;exact aF e) (lp.ev (i:=()) rfl)
 ·have e:((a.length:Int) != (b.length:Int))=true:=by simp;omega
  have e2:gB a b=false:=by unfold gB;rw[show((a.length:Int)==(b.length:Int))=false from by simp;omega];rfl
  rw[e2]
  exact Ev.now λaA=>by unfold T112;exact aM e
theorem f64(a b:kX)(ha:a.1.length<=maxLen):Ran p 2 64 [va K46 a, va K46 b] (rO K4 (gB a.1 b.1&&a.2.1==b.2.1,())):=go64 λn hn=>Ev.now λaA=>by
 unfold T64;refine(aB (f77 a.1 b.1 ha n (by omega))).trans ?_;refine iK λ_=>?_;rfl
theorem f81(a b:kX)(ha:a.1.length<=maxLen):Ran p 2 81 [va K46 a, va K46 b] (rO K4 (gB a.1 b.1&&a.2.1==b.2.1,())):=go81 λn hn=>Ev.now λaA=>by
 unfold T81;refine(aB (f112 a.1 b.1 ha n (by omega))).trans ?_;refine iK λ_=>?_;rfl
theorem f137(x:Int):Ran p 2 137 [vf K3 (x,())] (rO K22 (aN x,())):=go137 λn hn=>by
 cases hx:inB x 0 2147483647 with
 | false=>
  refine Ev.now λaA=>?_
  unfold T137 aN;refine(aB (f33 x 0 2147483647 n (by omega))).trans ?_;rw[hx];rfl
 | true=>
  have hr:=aP.1 hx
  obtain⟨m,rfl⟩:∃ m:Nat,x=m:=⟨x.toNat,by omega⟩
  have lp:It (λaA (_:Unit)=>c137_4 (aK p n) aA) ((m:Int),([]:List aO)) (λ_=>rV K22 (([]:List aO)++hZ m,())):=by
   refine zH (λl=>rV K22 (l,())) (λm hm pre hp aA a rec=>?_) (λm hm pre hp aA a rec=>?_) 5 m [] (by omega) (by omega) (by decide)
   ·show c137_4 (aK p n) aA rec ((m:Int),pre)=_
    unfold c137_4;refine(aI (by show ¬ ((m:Int)>127);omega)).trans ?_;refine(aE (by show pre.length+1<=4294967296;omega)).trans ?_;rfl
   ·show c137_4 (aK p n) aA rec ((m:Int),pre)=_
    unfold c137_4;refine(aE (by show(m:Int)>127;omega)).trans ?_;refine(aI (by decide)).trans ?_;refine(aE (by show pre.length+1<=4294967296;omega)).trans ?_;refine(aI (by decide)).trans ?_;rfl
  have e2:aN (m:Int)=hZ m:=by unfold aN;rw[hx];rfl
  rw[e2]
  exact Ev.eq (λaA=>by unfold T137;refine(aB (f33 (m:Int) 0 2147483647 n (by omega))).trans ?_;rw[hx];rfl) (lp.ev (i:=()) rfl)
theorem f141(x:Int):Ran p 2 141 [vf K3 (x,())] (rO K22 (aN x,())):=go141 λn hn=>by
 cases hx:inB x 0 2147483647 with
 | false=>
  refine Ev.now λaA=>?_
  unfold T141 aN;refine(aB (f43 x 0 2147483647 n (by omega))).trans ?_;rw[hx];rfl
 | true=>
  have hr:=aP.1 hx
  obtain⟨m,rfl⟩:∃ m:Nat,x=m:=⟨x.toNat,by omega⟩
  have lp:It (λaA (_:Unit)=>c141_4 (aK p n) aA) ((m:Int),([]:List aO)) (λ_=>rV K22 (([]:List aO)++hZ m,())):=by
   refine zH (λl=>rV K22 (l,())) (λm hm pre hp aA a rec=>?_) (λm hm pre hp aA a rec=>?_) 5 m [] (by omega) (by omega) (by decide)
   ·show c141_4 (aK p n) aA rec ((m:Int),pre)=_
    unfold c141_4;refine(aI (by show ¬ ((m:Int)>=128);omega)).trans ?_;refine(aE (by show pre.length+1<=4294967296;omega)).trans ?_;rfl
   ·show c141_4 (aK p n) aA rec ((m:Int),pre)=_
    unfold c141_4;refine(aE (by show(m:Int)>=128;omega)).trans ?_;refine(aI (by decide)).trans ?_;refine(aE (by show pre.length+1<=4294967296;omega)).trans ?_;refine(aI (by decide)).trans ?_;rfl
  have e2:aN (m:Int)=hZ m:=by unfold aN;rw[hx];rfl
  rw[e2]
  exact Ev.eq (λaA=>by unfold T141;refine(aB (f43 (m:Int) 0 2147483647 n (by omega))).trans ?_;rw[hx];rfl) (lp.ev (i:=()) rfl)
theorem f108(ps:List bQ)(L:Nat)(hL:∀ i,i<ps.length->(gt ps i).1.length<=L)(hb:ps.length*L<=bound)(hp:ps.length<=maxLen):Ran p 1 108 [vf K156 (ps,())] (rO K22 (ps.flatMap (λr=>r.1),())):=go108 λn hn=>by
 have lp:It (λaA (_:Unit)=>c108_3 (aK p n) aA ps) ((0:Int),([]:List aO)) (λ_=>rV K22 (ps.flatMap (λr=>r.1),())):=by
  refine It.accu [] (λi=>(gt ps i).1) ps.length L hL (λi hi acc ha aA a rec=>?_) (It.stop λaA a rec=>?_)
  ·have hb':i<9223372036854775807:=Nat.lt_of_lt_of_le hi hp
   show c108_3 (aK p n) aA ps rec ((i:Int),acc)=_
   unfold c108_3;dsimp only;rw[aL hb'];refine(aE (Int.ofNat_lt.2 hi)).trans ?_;refine bif_nn.trans ?_;refine(aH hi).trans ?_;refine(aE (Nat.le_trans ha (by simpa using hb))).trans ?_;rfl
  ·show c108_3 (aK p n) aA ps rec ((ps.length:Int),bR ps.length λi=>(gt ps i).1)=_
   unfold c108_3;refine(aI (Int.lt_irrefl _)).trans ?_;exact congrArg (λl:List aO=>(rV K22 (l,()):Option Out)) (cF (λr:bQ=>r.1) ps)
 exact Ev.eq (λaA=>by unfold T108;rfl) (lp.ev (i:=()) rfl)
theorem f157(s:ByteArray)(hs:ByteArray.size s<=1048576):Ran p 3 157 [vf K9 (s,())] (rO K22 (dU s,())):=go157 λn hn=>Ev.now λaA=>by
 unfold T157;refine(aB (f137 ((ByteArray.size s:Nat):Int) n (by omega))).trans ?_;
 refine(aE ?_).trans rfl
 have h1:=bC ((ByteArray.size s:Nat):Int)
 have h2:=j6 s
 show(aN ((ByteArray.size s:Nat):Int)).length+(fQ s).length<=4294967296
 omega
theorem f160(s:ByteArray)(hs:ByteArray.size s<=1048576):Ran p 3 160 [vf K9 (s,())] (rO K22 (dU s,())):=go160 λn hn=>Ev.now λaA=>by
 unfold T160;refine(aB (f141 ((ByteArray.size s:Nat):Int) n (by omega))).trans ?_
 have h1:=bC ((ByteArray.size s:Nat):Int)
 have h2:=j6 s
 refine(aB (f108 [(aN ((ByteArray.size s:Nat):Int),()),(fQ s,())] 1048576 (λi hi=>by
  rcases i with _ | _ | i
  ·show(aN ((ByteArray.size s:Nat):Int)).length<=_;omega
  ·show(fQ s).length<=_;omega
  ·exact absurd hi (by show ¬ (i+1+1<2);omega)) (by show 2*1048576<=4294967296;omega) (by show 2<=9223372036854775807;omega) n (by omega))).trans ?_
 exact congrArg (λl:List aO=>(rV K22 (l,()):Option Out)) (by simp[dU]:List.flatMap (λr:bQ=>r.1) [(aN ((ByteArray.size s:Nat):Int),()),(fQ s,())]=dU s)
theorem f134(bs:List aO)(hl:bs.length<=maxLen):Ran p 1 134 [vf K22 (bs,())] (rO K3 (crc bs,())):=go134 λn hn=>by
 have inner:∀ (i:Nat),i<9223372036854775807->∀ x0:Int,It (λaA rec3=>c134_7 (aK p n) aA bs (i:Int) rec3) (x0,(0:Int)) (λrec3=>rec3 (fK 8 x0,((i+1:Nat):Int))):=by
  intro i hi x0
  refine It.run (λk=>(fK k x0,(k:Int))) 8 (λk hk aA rec3 rec=>?_) (It.stop λaA rec3 rec=>?_)
  ·have hb:k<9223372036854775807:=by omega
   show c134_7 (aK p n) aA bs (i:Int) rec3 rec (fK k x0,(k:Int))=_
   unfold c134_7;dsimp only;rw[aL hb];refine(aE (by omega)).trans ?_;refine(aI (by decide)).trans ?_;refine(aI (by decide)).trans ?_
   show _=rec (sX (fK k x0),((k+1:Nat):Int))
   unfold sX
   cases ((fK k x0).tmod 2==1)<;>rfl
  ·show c134_7 (aK p n) aA bs (i:Int) rec3 rec (fK 8 x0,((8:Nat):Int))=_
   unfold c134_7;dsimp only;rw[aL hi];exact aI (by decide)
 have outer:It (λaA (_:Unit)=>c134_3 (aK p n) aA bs) ((4294967295:Int),(0:Int)) (λ_=>oI (crc bs)):=by
  refine It.runE (λi=>(pH bs i,(i:Int))) bs.length (λi hi=>?_) (It.stop λaA a rec=>?_)
  ·have hb:i<9223372036854775807:=Nat.lt_of_lt_of_le hi hl
   obtain⟨N,hN⟩:=(inner i hb (kS .i64 (pH bs i) (i64.wrap (gt bs i).1))).all_i
   refine⟨N,λaA hf a rec=>?_⟩
   show c134_3 (aK p n) aA bs rec (pH bs i,(i:Int))=_
   unfold c134_3;refine(aE (Int.ofNat_lt.2 hi)).trans ?_;refine bif_nn.trans ?_;refine(aH hi).trans ?_;exact hN aA hf rec
  ·show c134_3 (aK p n) aA bs rec (pH bs bs.length,(bs.length:Int))=_
   unfold c134_3;refine(aI (Int.lt_irrefl _)).trans ?_;rfl
 exact Ev.eq (λaA=>by unfold T134;rfl) (outer.ev (i:=()) rfl)
theorem f138(bs:List aO)(hl:bs.length<=maxLen):Ran p 1 138 [vf K22 (bs,())] (rO K3 (crc bs,())):=go138 λn hn=>by
 have inner:∀ (i:Nat),i<9223372036854775807->∀ x0:Int,It (λaA rec3=>c138_7 (aK p n) aA bs (i:Int) rec3) (x0,(0:Int)) (λrec3=>rec3 (fK 8 x0,((i+1:Nat):Int))):=by
  intro i hi x0
  refine It.run (λk=>(fK k x0,(k:Int))) 8 (λk hk aA rec3 rec=>?_) (It.stop λaA rec3 rec=>?_)
  ·have hb:k<9223372036854775807:=by omega
   show c138_7 (aK p n) aA bs (i:Int) rec3 rec (fK k x0,(k:Int))=_
   unfold c138_7;dsimp only;rw[aL hb];refine(aE (by omega)).trans ?_;refine(aI (by decide)).trans ?_;refine(aI (by decide)).trans ?_
   show _=rec (sX (fK k x0),((k+1:Nat):Int))
   unfold sX
   cases ((fK k x0).tmod 2==1)<;>rfl
  ·show c138_7 (aK p n) aA bs (i:Int) rec3 rec (fK 8 x0,((8:Nat):Int))=_
   unfold c138_7;dsimp only;rw[aL hi];exact aI (by decide)
 have outer:It (λaA (_:Unit)=>c138_3 (aK p n) aA bs) ((4294967295:Int),(0:Int)) (λ_=>oI (crc bs)):=by
  refine It.runE (λi=>(pH bs i,(i:Int))) bs.length (λi hi=>?_) (It.stop λaA a rec=>?_)
  ·have hb:i<9223372036854775807:=Nat.lt_of_lt_of_le hi hl
   obtain⟨N,hN⟩:=(inner i hb (kS .i64 (pH bs i) (i64.wrap (gt bs i).1))).all_i
   refine⟨N,λaA hf a rec=>?_⟩
   show c138_3 (aK p n) aA bs rec (pH bs i,(i:Int))=_
   unfold c138_3;refine(aE (Int.ofNat_lt.2 hi)).trans ?_;refine bif_nn.trans ?_;refine(aH hi).trans ?_;exact hN aA hf rec
  ·show c138_3 (aK p n) aA bs rec (pH bs bs.length,(bs.length:Int))=_
   unfold c138_3;refine(aI (Int.lt_irrefl _)).trans ?_;rfl
 exact Ev.eq (λaA=>by unfold T138;rfl) (outer.ev (i:=()) rfl)
theorem f159(x:Int):Ran p 3 159 [vf K3 (x,())] (rO K3 (cN x,())):=go159 λn hn=>Ev.now λaA=>by
 unfold T159 cN;refine(aB (f52 x n (by omega))).trans ?_
 cases eM x with
 | false=>rfl
 | true=>
  refine(aF rfl).trans ?_
  refine(aB (f137 x n (by omega))).trans ?_;refine(aB (f134 (aN x) (Nat.le_trans (bC x) (by decide)) n (by omega))).trans ?_;refine(aI (by decide)).trans ?_;rfl
theorem f162(x:Int):Ran p 3 162 [vf K3 (x,())] (rO K3 (cN x,())):=go162 λn hn=>Ev.now λaA=>by
 unfold T162 cN;refine(aB (f71 x n (by omega))).trans ?_
 cases eM x with
 | false=>rfl
 | true=>
  refine(aF rfl).trans ?_
  refine(aB (f141 x n (by omega))).trans ?_;refine(aB (f138 (aN x) (Nat.le_trans (bC x) (by decide)) n (by omega))).trans ?_;refine(aI (by decide)).trans ?_;rfl
theorem f158(ls:List aO)(x:Int)(hl:ls.length<=maxLen):Ran p 1 158 [vf K44 (ls,()), vf K3 (x,())] (rO K4 (iA ls x,())):=go158 λn hn=>by
 have lp:It (λaA (_:Unit)=>c158_2 (aK p n) aA ls x) (0:Int) (λ_=>oB (iA ls x)):=by
  rw[FW]
  refine It.anyB ls.length _ (λi hi aA a rec=>?_) (λaA a rec=>?_)
  ·have hb:i<9223372036854775807:=Nat.lt_of_lt_of_le hi hl
   show c158_2 (aK p n) aA ls x rec (i:Int)=_
   unfold c158_2;rw[aL hb];refine(aE (Int.ofNat_lt.2 hi)).trans ?_;refine bif_nn.trans ?_;refine(aH hi).trans ?_;rfl
  ·show c158_2 (aK p n) aA ls x rec (ls.length:Int)=_
   unfold c158_2;refine(aI (Int.lt_irrefl _)).trans ?_;rfl
 exact Ev.eq (λaA=>by unfold T158;rfl) (lp.ev (i:=()) rfl)
theorem f174(ls:List aO)(x:Int)(hl:ls.length<=maxLen):Ran p 1 174 [vf K44 (ls,()), vf K3 (x,())] (rO K3 (O5 ls x,())):=go174 λn hn=>by
 have lp:It (λaA (_:Unit)=>c174_2 (aK p n) aA ls x) (0:Int) (λ_=>oI (O5 ls x)):=by
  have:=It.first (c:=λaA (_:Unit)=>c174_2 (aK p n) aA ls x) (λi=>(i:Int)) ls.length (λi=>x==(gt ls i).1) (λi _=>oI (i:Int)) (λ_=>oI (-1)) (λi hi hp aA a rec=>?_) (λi hi hp=>It.stop λaA a rec=>?_) (It.stop λaA a rec=>?_)
  ·revert this;unfold O5
   cases (List.range ls.length).find? (λi=>x==(gt ls i).1)<;>exact λh=>h
  ·have hb:i<9223372036854775807:=Nat.lt_of_lt_of_le hi hl
   show c174_2 (aK p n) aA ls x rec (i:Int)=_
   unfold c174_2;rw[aL hb];refine(aE (Int.ofNat_lt.2 hi)).trans ?_;refine bif_nn.trans ?_;refine(aH hi).trans ?_;exact aF hp
  ·show c174_2 (aK p n) aA ls x rec (i:Int)=_
   unfold c174_2;refine(aE (Int.ofNat_lt.2 hi)).trans ?_;refine bif_nn.trans ?_;refine(aH hi).trans ?_;exact aM hp
  ·show c174_2 (aK p n) aA ls x rec (ls.length:Int)=_
   unfold c174_2;refine(aI (Int.lt_irrefl _)).trans ?_;rfl
 exact Ev.eq (λaA=>by unfold T174;rfl) (lp.ev (i:=()) rfl)
theorem f161(ls:List aO)(x:Int)(hl:ls.length<=maxLen):Ran p 2 161 [vf K44 (ls,()), vf K3 (x,())] (rO K4 (iA ls x,())):=go161 λn hn=>Ev.now λaA=>by
 unfold T161;refine(aB (f174 ls x hl n (by omega))).trans ?_;exact congrArg (λb:Bool=>(rV K4 (b,()):Option Out)) (O4 ls x)
theorem f136(s:aJ)(ls:List aO)(hl:ls.length<=maxLen)(h1:s.1.length<=1000)(h2:s.2.1.length<=1000):Ran p 4 136 [va K34 s, vf K44 (ls,())] (rO K34 (jH s ls)):=go136 λn hn=>by
 have inner:∀ v:List bK,It (λaA (_:Unit)=>c136_8 (aK p n) aA s ls v) ((0:Int),([]:List aU)) (λ_=>rV K34 (v,s.2.1.filter (λf=>iA ls (cN f.1)),())):=by
  intro v
  refine It.accu (α:=aU) [] (λi=>bif iA ls (cN (gt s.2.1 i).1)then[gt s.2.1 i] else[]) s.2.1.length 1 (λi hi=>by cases iA ls (cN (gt s.2.1 i).1)<;>simp) (λi hi acc ha aA a rec=>?_) (It.stop λaA a rec=>?_)
  ·have hb:i<9223372036854775807:=by omega
   show c136_8 (aK p n) aA s ls v rec ((i:Int),acc)=_
   unfold c136_8;dsimp only;rw[aL hb];refine(aE (Int.ofNat_lt.2 hi)).trans ?_;refine bif_nn.trans ?_;refine(aH hi).trans ?_;refine(aB (f159 (gt s.2.1 i).1 n (by omega))).trans ?_;refine(aB (f158 ls (cN (gt s.2.1 i).1) hl n (by omega))).trans ?_
   cases hq:iA ls (cN (gt s.2.1 i).1)with
   | false=>exact(congrArg (λl:List aU=>rec (((i+1:Nat):Int),l)) (List.append_nil acc).symm:_)
   | true=>refine(aM rfl).trans ?_;refine bif_nn.trans ?_;refine(aH hi).trans ?_;refine(aE (by rw[hq] at ha;have:acc.length+1<=0+s.2.1.length*1:=ha;show acc.length+1<=4294967296;omega)).trans ?_;rfl
  ·show c136_8 (aK p n) aA s ls v rec ((s.2.1.length:Int),bR (α:=aU) s.2.1.length (λi=>bif iA ls (cN (gt s.2.1 i).1)then[gt s.2.1 i] else[]))=_
   unfold c136_8;refine(aI (Int.lt_irrefl _)).trans ?_;exact congrArg (λl:List aU=>(rV K34 (v,l,()):Option Out)) ((cF (λf:aU=>bif iA ls (cN f.1)then[f] else[]) s.2.1).trans (i9 _ _))
 have outer:It (λaA (_:Unit)=>c136_3 (aK p n) aA s ls) ((0:Int),([]:List bK)) (λ_=>rV K34 (jH s ls)):=by
  refine It.accu (α:=bK) [] (λi=>bif iA ls (cN (gt s.1 i).1)then[gt s.1 i] else[]) s.1.length 1 (λi hi=>by cases iA ls (cN (gt s.1 i).1)<;>simp) (λi hi acc ha aA a rec=>?_) (It.stopE (T:=λaA _=>iter (c136_8 (aK p n) aA s ls (s.1.filter (λx=>iA ls (cN x.1)))) aA ((0:Int),([]:List aU))) (λaA a rec=>?_) (inner _).all_i)
  ·have hb:i<9223372036854775807:=by omega
   show c136_3 (aK p n) aA s ls rec ((i:Int),acc)=_
   unfold c136_3;dsimp only;rw[aL hb];refine(aE (Int.ofNat_lt.2 hi)).trans ?_;refine bif_nn.trans ?_;refine(aH hi).trans ?_;refine(aB (f159 (gt s.1 i).1 n (by omega))).trans ?_;refine(aB (f158 ls (cN (gt s.1 i).1) hl n (by omega))).trans ?_
   cases hq:iA ls (cN (gt s.1 i).1)with
   | false=>exact(congrArg (λl:List bK=>rec (((i+1:Nat):Int),l)) (List.append_nil acc).symm:_)
   | true=>refine(aM rfl).trans ?_;refine bif_nn.trans ?_;refine(aH hi).trans ?_;refine(aE (by rw[hq] at ha;have:acc.length+1<=0+s.1.length*1:=ha;show acc.length+1<=4294967296;omega)).trans ?_;rfl
  ·show c136_3 (aK p n) aA s ls rec ((s.1.length:Int),bR (α:=bK) s.1.length (λi=>bif iA ls (cN (gt s.1 i).1)then[gt s.1 i] else[]))=_
   unfold c136_3;refine(aI (Int.lt_irrefl _)).trans ?_;exact congrArg (λl:List bK=>iter (c136_8 (aK p n) aA s ls l) aA ((0:Int),([]:List aU))) ((cF (λf:bK=>bif iA ls (cN f.1)then[f] else[]) s.1).trans (i9 _ _))
 exact Ev.eq (λaA=>by unfold T136;rfl) (outer.ev (i:=()) rfl)
theorem f140(s:aJ)(ls:List aO)(hl:ls.length<=maxLen)(h1:s.1.length<=1000)(h2:s.2.1.length<=1000)(hok:aS s=true):Ran p 4 140 [va K34 s, vf K44 (ls,())] (rO K34 (jH s ls)):=go140 λn hn=>by
 have inner:∀ v:List bK,It (λaA (_:Unit)=>c140_11 (aK p n) aA s ls v) ((0:Int),([]:List aU)) (λ_=>rV K34 (v,s.2.1.filter (λf=>iA ls (cN f.1)),())):=by
  intro v
  refine It.accu (α:=aU) [] (λi=>bif iA ls (cN (gt s.2.1 i).1)then[gt s.2.1 i] else[]) s.2.1.length 1 (λi hi=>by cases iA ls (cN (gt s.2.1 i).1)<;>simp) (λi hi acc ha aA a rec=>?_) (It.stop λaA a rec=>?_)
  ·have hb:i<9223372036854775807:=by omega
   show c140_11 (aK p n) aA s ls v rec ((i:Int),acc)=_
   unfold c140_11;dsimp only;rw[aL hb];refine(aE (Int.ofNat_lt.2 hi)).trans ?_;refine bif_nn.trans ?_;refine(aH hi).trans ?_;refine(aB (f162 (gt s.2.1 i).1 n (by omega))).trans ?_;refine(aB (f161 ls (cN (gt s.2.1 i).1) hl n (by omega))).trans ?_
   cases hq:iA ls (cN (gt s.2.1 i).1)with
   | false=>exact(congrArg (λl:List aU=>rec (((i+1:Nat):Int),l)) (List.append_nil acc).symm:_)
   | true=>refine(aM rfl).trans ?_;refine(aE (by rw[hq] at ha;have:acc.length+1<=0+s.2.1.length*1:=ha;show acc.length+1<=4294967296;omega)).trans ?_;rfl
  ·show c140_11 (aK p n) aA s ls v rec ((s.2.1.length:Int),bR (α:=aU) s.2.1.length (λi=>bif iA ls (cN (gt s.2.1 i).1)then[gt s.2.1 i] else[]))=_
   unfold c140_11;refine(aI (Int.lt_irrefl _)).trans ?_;exact congrArg (λl:List aU=>(rV K34 (v,l,()):Option Out)) ((cF (λf:aU=>bif iA ls (cN f.1)then[f] else[]) s.2.1).trans (i9 _ _))
 have outer:It (λaA (_:Unit)=>c140_5 (aK p n) aA s ls) ((0:Int),([]:List bK)) (λ_=>rV K34 (jH s ls)):=by
  refine It.accu (α:=bK) [] (λi=>bif iA ls (cN (gt s.1 i).1)then[gt s.1 i] else[]) s.1.length 1 (λi hi=>by cases iA ls (cN (gt s.1 i).1)<;>simp) (λi hi acc ha aA a rec=>?_) (It.stopE (T:=λaA _=>iter (c140_11 (aK p n) aA s ls (s.1.filter (λx=>iA ls (cN x.1)))) aA ((0:Int),([]:List aU))) (λaA a rec=>?_) (inner _).all_i)
  ·have hb:i<9223372036854775807:=by omega
   show c140_5 (aK p n) aA s ls rec ((i:Int),acc)=_
   unfold c140_5;dsimp only;rw[aL hb];refine(aE (Int.ofNat_lt.2 hi)).trans ?_;refine bif_nn.trans ?_;refine(aH hi).trans ?_;refine(aB (f162 (gt s.1 i).1 n (by omega))).trans ?_;refine(aB (f161 ls (cN (gt s.1 i).1) hl n (by omega))).trans ?_
   cases hq:iA ls (cN (gt s.1 i).1)with
   | false=>exact(congrArg (λl:List bK=>rec (((i+1:Nat):Int),l)) (List.append_nil acc).symm:_)
   | true=>refine(aM rfl).trans ?_;refine(aE (by rw[hq] at ha;have:acc.length+1<=0+s.1.length*1:=ha;show acc.length+1<=4294967296;omega)).trans ?_;rfl
  ·show c140_5 (aK p n) aA s ls rec ((s.1.length:Int),bR (α:=bK) s.1.length (λi=>bif iA ls (cN (gt s.1 i).1)then[gt s.1 i] else[]))=_
   unfold c140_5;refine(aI (Int.lt_irrefl _)).trans ?_;exact congrArg (λl:List bK=>iter (c140_11 (aK p n) aA s ls l) aA ((0:Int),([]:List aU))) ((cF (λf:bK=>bif iA ls (cN f.1)then[f] else[]) s.1).trans (i9 _ _))
 exact Ev.eq (λaA=>by unfold T140;refine(aB (f35 s (Nat.le_trans h1 (by decide)) (Nat.le_trans h2 (by decide)) n (by omega))).trans ?_;rw[hok];rfl) (outer.ev (i:=()) rfl)
end Go.Abs.Wz
namespace Go.Abs.Wz
open Go Go.Abs
abbrev oL(l:List aO):Option Out:=rV K22 (l,())
theorem JO{k:Nat}(h:k<=5):k<=maxLen:=by show k<=9223372036854775807;omega
theorem f135(s:aJ)(hs:StateOk s):Ran p 4 135 [va K34 s] (rO K22 (bS s,())):=go135 λn hn=>by
 have h5:=hs.len
 have fl:∀ pre:List aO,pre.length<=1000->It (λaA (_:Unit)=>c135_14 (aK p n) aA s) ((0:Int),pre) (λ_=>oL (pre++s.2.1.flatMap bD)):=by
  intro pre hp
  refine It.accu (α:=aO) pre (λi=>bD (gt s.2.1 i)) s.2.1.length 10 (λi hi=>hO _) (λi hi acc ha aA a rec=>?_) (It.stop λaA a rec=>?_)
  ·have hb:i<9223372036854775807:=by omega
   have ha':acc.length+(bD (gt s.2.1 i)).length<=1050:=by omega
   unfold bD at ha';rw[List.length_append] at ha'
   show c135_14 (aK p n) aA s rec ((i:Int),acc)=_
   unfold c135_14;dsimp only;rw[aL hb];refine(aE (Int.ofNat_lt.2 hi)).trans ?_;refine bif_nn.trans ?_;refine(aH hi).trans ?_;refine(aB (f137 (gt s.2.1 i).1 n (by omega))).trans ?_;refine(aE (by show acc.length+(aN (gt s.2.1 i).1).length<=4294967296;omega)).trans ?_;refine bif_nn.trans ?_;refine(aH hi).trans ?_;refine(aB (f137 (gt s.2.1 i).2.1 n (by omega))).trans ?_
   refine(aE (by show(acc++aN (gt s.2.1 i).1).length+(aN (gt s.2.1 i).2.1).length<=4294967296;rw[List.length_append];omega)).trans ?_
   exact congrArg (λl:List aO=>rec (((i+1:Nat):Int),l)) (List.append_assoc _ _ _)
  ·show c135_14 (aK p n) aA s rec ((s.2.1.length:Int),pre++bR s.2.1.length λi=>bD (gt s.2.1 i))=_
   unfold c135_14;refine(aI (Int.lt_irrefl _)).trans ?_;exact congrArg (λl:List aO=>oL (pre++l)) (cF bD s.2.1)
 have it:∀ (i:Nat) (hi:i<s.1.length) (acc:List aO),acc.length<=1000->It (λaA rec3=>c135_8 (aK p n) aA s (gt (α:=bK) s.1 i) (gt (α:=bK) s.1 i) (i:Int) rec3) ((0:Int),acc) (λrec3=>rec3 (((i+1:Nat):Int),acc++bB (gt s.1 i))):=by
  intro i hi acc ha
  have hb:i<9223372036854775807:=by omega
  refine It.accu (α:=aO) acc (λk=>aN (gt (five (gt s.1 i)) k).1) 5 5 (λk hk=>bC _) (λk hk acc' ha' aA rec3 rec=>?_) (It.stop λaA rec3 rec=>?_)
  ·have hk':k<(five (gt s.1 i)).length:=hk
   have hkb:k<9223372036854775807:=by omega
   show c135_8 (aK p n) aA s (gt (α:=bK) s.1 i) (gt (α:=bK) s.1 i) (i:Int) rec3 rec ((k:Int),acc')=_
   unfold c135_8;dsimp only;rw[aL hkb];refine(aE (Int.ofNat_lt.2 hk')).trans ?_;refine bif_nn.trans ?_;refine(aH hk').trans ?_;refine(aH hk').trans ?_;refine(aB (f137 (gt (five (gt s.1 i)) k).1 n (by omega))).trans ?_
   refine(aE (by show acc'.length+(aN (gt (five (gt s.1 i)) k).1).length<=4294967296;replace ha':acc'.length+(aN (gt (five (gt s.1 i)) k).1).length<=acc.length+5*5:=ha';omega)).trans ?_;rfl
  ·show c135_8 (aK p n) aA s (gt (α:=bK) s.1 i) (gt (α:=bK) s.1 i) (i:Int) rec3 rec (((5:Nat):Int),acc++bR 5 λk=>aN (gt (five (gt s.1 i)) k).1)=_
   have hz:=hs.size (cJ hi)
   have h1:(bR 5 λk=>aN (gt (five (gt s.1 i)) k).1).length<=5*5:=dT λk hk=>bC _
   have h2:=pZ (gt s.1 i).2.2.2.2.2.1
   unfold c135_8;dsimp only;rw[aL hb];refine(aI (by show ¬ ((5:Int)<5);decide)).trans ?_;refine(aB (f157 (gt s.1 i).2.2.2.2.2.1 (by omega) n (by omega))).trans ?_
   refine(aE (by show(acc++bR 5 λk=>aN (gt (five (gt s.1 i)) k).1).length+(dU (gt s.1 i).2.2.2.2.2.1).length<=4294967296;rw[List.length_append];omega)).trans ?_
   exact congrArg (λl:List aO=>rec3 (((i+1:Nat):Int),l)) (PJ (gt s.1 i) acc)
 have n1:=bC (s.1.length:Int)
 have n2:=bC (s.2.1.length:Int)
 have hB:((aN (s.1.length:Int)++bR s.1.length λi=>bB (gt s.1 i))).length<=5+5*38:=by
  have:(bR s.1.length λi=>bB (gt s.1 i)).length<=s.1.length*38:=dT λi hi=>iT (hs.item _ (cJ hi)).2.1
  rw[List.length_append];omega
 have outer:It (λaA (_:Unit)=>c135_3 (aK p n) aA s) ((0:Int),aN (s.1.length:Int)) (λ_=>oL (bS s)):=by
  refine It.accuE (α:=aO) (aN (s.1.length:Int)) (λi=>bB (gt s.1 i)) s.1.length 38 (λi hi=>iT (hs.item _ (cJ hi)).2.1) (λi hi acc ha=>?_)
   (It.stopE (T:=λaA _=>iter (c135_14 (aK p n) aA s) aA ((0:Int),(aN (s.1.length:Int)++bR s.1.length λi=>bB (gt s.1 i))++aN (s.2.1.length:Int))) (λaA a rec=>?_) ?_)
  ·obtain⟨N,hN⟩:=(it i hi acc (by omega)).all_i
   refine⟨N,λaA hf a rec=>?_⟩
   show c135_3 (aK p n) aA s rec ((i:Int),acc)=_
   unfold c135_3;refine(aE (Int.ofNat_lt.2 hi)).trans ?_;refine bif_nn.trans ?_;refine(aH hi).trans ?_;refine bif_nn.trans ?_;refine(aH hi).trans ?_;exact hN aA hf rec
  ·show c135_3 (aK p n) aA s rec ((s.1.length:Int),aN (s.1.length:Int)++bR s.1.length λi=>bB (gt s.1 i))=_
   unfold c135_3;refine(aI (Int.lt_irrefl _)).trans ?_;refine(aB (f137 (s.2.1.length:Int) n (by omega))).trans ?_;exact aE (by show(aN (s.1.length:Int)++bR s.1.length λi=>bB (gt s.1 i)).length+(aN (s.2.1.length:Int)).length<=4294967296;omega)
  ·have:=(fl ((aN (s.1.length:Int)++bR s.1.length λi=>bB (gt s.1 i))++aN (s.2.1.length:Int)) (by rw[List.length_append];omega)).all_i
   rw[cF bB s.1] at this ⊢
   exact this
 exact Ev.eq (λaA=>by unfold T135;refine(aB (f137 (s.1.length:Int) n (by omega))).trans ?_;rfl) (outer.ev (i:=()) rfl)

theorem jL{x:Int}{L:Nat}(h:5<=L):(aN x).length<=L:=Nat.le_trans (bC x) h
theorem f139(s:aJ)(hs:StateOk s):Ran p 4 139 [va K34 s] (rO K22 (bS s,())):=go139 λn hn=>by
 have h5:=hs.len
 have fl:∀ pre:List aO,pre.length<=1000->It (λaA (_:Unit)=>c139_12 (aK p n) aA s) ((0:Int),pre) (λ_=>oL (pre++s.2.1.flatMap bD)):=by
  intro pre hp
  refine It.accu (α:=aO) pre (λi=>bD (gt s.2.1 i)) s.2.1.length 10 (λi hi=>hO _) (λi hi acc ha aA a rec=>?_) (It.stop λaA a rec=>?_)
  ·have hb:i<9223372036854775807:=by omega
   show c139_12 (aK p n) aA s rec ((i:Int),acc)=_
   unfold c139_12;dsimp only;rw[aL hb];refine(aE (Int.ofNat_lt.2 hi)).trans ?_;refine bif_nn.trans ?_;refine(aH hi).trans ?_;refine(aB (f141 (gt s.2.1 i).1 n (by omega))).trans ?_;refine(aB (f141 (gt s.2.1 i).2.1 n (by omega))).trans ?_
   refine(aB (f108 [(acc,()),(aN (gt s.2.1 i).1,()),(aN (gt s.2.1 i).2.1,())] 2000 (tZ (by
    intro r hr;simp only[List.mem_cons,List.not_mem_nil,or_false] at hr
    rcases hr with rfl | rfl | rfl
    ·show acc.length<=2000;omega
    ·exact jL (by decide)
    ·exact jL (by decide))) (by show 3*2000<=4294967296;omega) (by show 3<=9223372036854775807;omega) n (by omega))).trans ?_
   exact congrArg (λl:List aO=>rec (((i+1:Nat):Int),l)) (by simp[bD]:List.flatMap (λr:bQ=>r.1) [(acc,()),(aN (gt s.2.1 i).1,()),(aN (gt s.2.1 i).2.1,())]=acc++bD (gt s.2.1 i))
  ·show c139_12 (aK p n) aA s rec ((s.2.1.length:Int),pre++bR s.2.1.length λi=>bD (gt s.2.1 i))=_
   unfold c139_12;refine(aI (Int.lt_irrefl _)).trans ?_;exact congrArg (λl:List aO=>oL (pre++l)) (cF bD s.2.1)
 have n1:=bC (s.1.length:Int)
 have n2:=bC (s.2.1.length:Int)
 have hB:(bR s.1.length λi=>bB (gt s.1 i)).length<=190:=by
  have:(bR s.1.length λi=>bB (gt s.1 i)).length<=s.1.length*38:=dT λi hi=>iT (hs.item _ (cJ hi)).2.1
  omega
 have outer:It (λaA (_:Unit)=>c139_5 (aK p n) aA s) ((0:Int),aN (s.1.length:Int)) (λ_=>oL (bS s)):=by
  refine It.accu (α:=aO) (aN (s.1.length:Int)) (λi=>bB (gt s.1 i)) s.1.length 38 (λi hi=>iT (hs.item _ (cJ hi)).2.1) (λi hi acc ha aA a rec=>?_)
   (It.stopE (T:=λaA _=>iter (c139_12 (aK p n) aA s) aA ((0:Int),(aN (s.1.length:Int)++bR s.1.length λi=>bB (gt s.1 i))++aN (s.2.1.length:Int))) (λaA a rec=>?_) ?_)
  ·have hb:i<9223372036854775807:=by omega
   have hz:=hs.size (cJ hi)
   have ht:=pZ (gt s.1 i).2.2.2.2.2.1
   show c139_5 (aK p n) aA s rec ((i:Int),acc)=_
   unfold c139_5;dsimp only;rw[aL hb];refine(aE (Int.ofNat_lt.2 hi)).trans ?_;refine bif_nn.trans ?_;refine(aH hi).trans ?_;refine(aB (f141 (gt s.1 i).1 n (by omega))).trans ?_;refine(aB (f141 (gt s.1 i).2.1 n (by omega))).trans ?_;refine(aB (f141 (gt s.1 i).2.2.1 n (by omega))).trans ?_;refine(aB (f141 (gt s.1 i).2.2.2.1 n (by omega))).trans ?_;refine(aB (f141 (gt s.1 i).2.2.2.2.1 n (by omega))).trans ?_;refine(aB (f160 (gt s.1 i).2.2.2.2.2.1 (by omega) n (by omega))).trans ?_
   refine(aB (f108 [(acc,()),(aN (gt s.1 i).1,()),(aN (gt s.1 i).2.1,()),(aN (gt s.1 i).2.2.1,()),(aN (gt s.1 i).2.2.2.1,()),(aN (gt s.1 i).2.2.2.2.1,()),(dU (gt s.1 i).2.2.2.2.2.1,())] 2000 (tZ (by
    intro r hr;simp only[List.mem_cons,List.not_mem_nil,or_false] at hr
    rcases hr with rfl | rfl | rfl | rfl | rfl | rfl | rfl
    ·show acc.length<=2000;omega
    ·exact jL (by decide)
    ·exact jL (by decide)
    ·exact jL (by decide)
    ·exact jL (by decide)
    ·exact jL (by decide)
    ·show(dU (gt s.1 i).2.2.2.2.2.1).length<=2000;omega)) (by show 7*2000<=4294967296;omega) (by show 7<=9223372036854775807;omega) n (by omega))).trans ?_
   exact congrArg (λl:List aO=>rec (((i+1:Nat):Int),l)) (by simp[bB]:List.flatMap (λr:bQ=>r.1) [(acc,()),(aN (gt s.1 i).1,()),(aN (gt s.1 i).2.1,()),(aN (gt s.1 i).2.2.1,()),(aN (gt s.1 i).2.2.2.1,()),(aN (gt s.1 i).2.2.2.2.1,()),(dU (gt s.1 i).2.2.2.2.2.1,())]=acc++bB (gt s.1 i))
  ·show c139_5 (aK p n) aA s rec ((s.1.length:Int),aN (s.1.length:Int)++bR s.1.length λi=>bB (gt s.1 i))=_
   unfold c139_5;refine(aI (Int.lt_irrefl _)).trans ?_;refine(aB (f141 (s.2.1.length:Int) n (by omega))).trans ?_
   refine(aB (f108 [(aN (s.1.length:Int)++bR s.1.length λi=>bB (gt s.1 i),()),(aN (s.2.1.length:Int),())] 2000 (tZ (by
    intro r hr;simp only[List.mem_cons,List.not_mem_nil,or_false] at hr
    rcases hr with rfl | rfl
    ·show(aN (s.1.length:Int)++bR s.1.length λi=>bB (gt s.1 i)).length<=2000;rw[List.length_append];omega
    ·exact jL (by decide))) (by show 2*2000<=4294967296;omega) (by show 2<=9223372036854775807;omega) n (by omega))).trans ?_
   exact congrArg (λl:List aO=>iter (c139_12 (aK p n) aA s) aA ((0:Int),l)) (by simp:List.flatMap (λr:bQ=>r.1) [(aN (s.1.length:Int)++bR s.1.length λi=>bB (gt s.1 i),()),(aN (s.2.1.length:Int),())]=(aN (s.1.length:Int)++bR s.1.length λi=>bB (gt s.1 i))++aN (s.2.1.length:Int))
  ·have:=(fl ((aN (s.1.length:Int)++bR s.1.length λi=>bB (gt s.1 i))++aN (s.2.1.length:Int)) (by rw[List.length_append,List.length_append];omega)).all_i
   rw[cF bB s.1] at this ⊢
   exact this
 exact Ev.eq (λaA=>by unfold T139;refine(aB (f35 s (JO h5.1) (JO h5.2) n (by omega))).trans ?_;rw[(aV s).2 hs];refine(aF rfl).trans ?_;refine(aB (f141 (s.1.length:Int) n (by omega))).trans ?_;rfl) (outer.ev (i:=()) rfl)
theorem f102(s:aJ)(x:Int)(hz:SzS s):Ran p 5 102 [va K34 s, vf K3 (x,())] (rO K3 (iZ s x,())):=go102 λn hn=>Ev.now λaA=>by
 unfold T102 iZ;refine(aB (f25 s (Nat.le_trans hz.a (by decide)) (Nat.le_trans hz.b (by decide)) n (by omega))).trans ?_
 cases hs:aS s with
 | false=>rfl
 | true=>
  have hs':=(aV s).1 hs
  have h5:=hs'.len
  refine(aF rfl).trans ?_;refine(aB (f33 x 0 3 n (by omega))).trans ?_
  cases hx:inB x 0 3 with
  | false=>rfl
  | true=>
   refine(aF rfl).trans ?_;refine(aB (f136 s [(x,())] (by show 1<=9223372036854775807;omega) (by omega) (by omega) n (by omega))).trans ?_;refine(aB (f135 (jH s [(x,())]) (hs'.slice _) n (by omega))).trans ?_;refine(aB (f134 (bS (jH s [(x,())])) (Nat.le_trans (nS (hs'.slice _)) (by decide)) n (by omega))).trans ?_;refine(aI (by decide)).trans ?_;rfl
theorem f113(s:aJ)(x:Int)(hz:SzS s):Ran p 5 113 [va K34 s, vf K3 (x,())] (rO K3 (iZ s x,())):=go113 λn hn=>Ev.now λaA=>by
 unfold T113 iZ;refine(aB (f35 s (Nat.le_trans hz.a (by decide)) (Nat.le_trans hz.b (by decide)) n (by omega))).trans ?_
 cases hs:aS s with
 | false=>rfl
 | true=>
  have hs':=(aV s).1 hs
  have h5:=hs'.len
  refine(aF rfl).trans ?_;refine(aB (f43 x 0 3 n (by omega))).trans ?_
  cases hx:inB x 0 3 with
  | false=>rfl
  | true=>
   refine(aF rfl).trans ?_;refine(aB (f140 s [(x,())] (by show 1<=9223372036854775807;omega) (by omega) (by omega) hs n (by omega))).trans ?_;refine(aB (f139 (jH s [(x,())]) (hs'.slice _) n (by omega))).trans ?_;refine(aB (f138 (bS (jH s [(x,())])) (Nat.le_trans (nS (hs'.slice _)) (by decide)) n (by omega))).trans ?_;refine(aI (by decide)).trans ?_;rfl
theorem f103(ls:List aO)(hl:ls.length<=1000):Ran p 3 103 [vf K44 (ls,())] (rO K3 (lV ls,())):=go103 λn hn=>by
 have lp:It (λaA (_:Unit)=>c103_3 (aK p n) aA ls) ((0:Int),([]:List aO)) (λ_=>oI (lV ls)):=by
  refine It.accu (α:=aO) [] (λi=>aN (gt ls i).1) ls.length 5 (λi hi=>bC _) (λi hi acc ha aA a rec=>?_) (It.stop λaA a rec=>?_)
  ·have hb:i<9223372036854775807:=by omega
   have ha':acc.length+(aN (gt ls i).1).length<=0+ls.length*5:=ha
   show c103_3 (aK p n) aA ls rec ((i:Int),acc)=_
   unfold c103_3;dsimp only;rw[aL hb];refine(aE (Int.ofNat_lt.2 hi)).trans ?_;refine bif_nn.trans ?_;refine(aH hi).trans ?_;refine(aB (f137 (gt ls i).1 n (by omega))).trans ?_;refine(aE (by show acc.length+(aN (gt ls i).1).length<=4294967296;omega)).trans ?_;rfl
  ·have hB:(bR ls.length λi=>aN (gt ls i).1).length<=ls.length*5:=dT λi hi=>bC _
   show c103_3 (aK p n) aA ls rec ((ls.length:Int),bR ls.length λi=>aN (gt ls i).1)=_
   unfold c103_3;refine(aI (Int.lt_irrefl _)).trans ?_;refine(aB (f134 (bR ls.length λi=>aN (gt ls i).1) (by show _<=9223372036854775807;omega) n (by omega))).trans ?_;refine(aI (by decide)).trans ?_;exact congrArg (λl:List aO=>oI ((crc l).tmod 1024)) (cF (λx:aO=>aN x.1) ls)
 exact Ev.eq (λaA=>by unfold T103;rfl) (lp.ev (i:=()) rfl)
theorem f114(ls:List aO)(hl:ls.length<=1000):Ran p 3 114 [vf K44 (ls,())] (rO K3 (lV ls,())):=go114 λn hn=>by
 have lp:It (λaA (_:Unit)=>c114_3 (aK p n) aA ls) ((0:Int),([]:List aO)) (λ_=>oI (lV ls)):=by
  refine It.accu (α:=aO) [] (λi=>aN (gt ls i).1) ls.length 5 (λi hi=>bC _) (λi hi acc ha aA a rec=>?_) (It.stop λaA a rec=>?_)
  ·have hb:i<9223372036854775807:=by omega
   have ha':acc.length+(aN (gt ls i).1).length<=0+ls.length*5:=ha
   show c114_3 (aK p n) aA ls rec ((i:Int),acc)=_
   unfold c114_3;dsimp only;rw[aL hb];refine(aE (Int.ofNat_lt.2 hi)).trans ?_;refine bif_nn.trans ?_;refine(aH hi).trans ?_;refine(aB (f141 (gt ls i).1 n (by omega))).trans ?_
   refine(aB (f108 [(acc,()),(aN (gt ls i).1,())] 6000 (tZ (by
    intro r hr;simp only[List.mem_cons,List.not_mem_nil,or_false] at hr
    rcases hr with rfl | rfl
    ·show acc.length<=6000;omega
    ·exact jL (by decide))) (by show 2*6000<=4294967296;omega) (by show 2<=9223372036854775807;omega) n (by omega))).trans ?_
   exact congrArg (λl:List aO=>rec (((i+1:Nat):Int),l)) (by simp:List.flatMap (λr:bQ=>r.1) [(acc,()),(aN (gt ls i).1,())]=acc++aN (gt ls i).1)
  ·have hB:(bR ls.length λi=>aN (gt ls i).1).length<=ls.length*5:=dT λi hi=>bC _
   show c114_3 (aK p n) aA ls rec ((ls.length:Int),bR ls.length λi=>aN (gt ls i).1)=_
   unfold c114_3;refine(aI (Int.lt_irrefl _)).trans ?_;refine(aB (f138 (bR ls.length λi=>aN (gt ls i).1) (by show _<=9223372036854775807;omega) n (by omega))).trans ?_;refine(aI (by decide)).trans ?_;exact congrArg (λl:List aO=>oI ((crc l).tmod 1024)) (cF (λx:aO=>aN x.1) ls)
 exact Ev.eq (λaA=>by unfold T114;rfl) (lp.ev (i:=()) rfl)
theorem f65(s:aJ)(hz:SzS s):Ran p 6 65 [va K34 s] (rO K46 (cI s)):=go65 λn hn=>by
 cases hs:aS s with
 | false=>
  refine Ev.now λaA=>?_
  unfold T65 cI;refine(aB (f25 s (Nat.le_trans hz.a (by decide)) (Nat.le_trans hz.b (by decide)) n (by omega))).trans ?_;rw[hs];rfl
 | true=>
  have lp:It (λaA (_:Unit)=>c65_5 (aK p n) aA s) ((0:Int),([]:List aO)) (λ_=>rV K46 (cY s,lV (cY s),())):=by
   refine It.accu (α:=aO) [] (λi=>[(iZ s (i:Int),())]) 4 1 (λi hi=>Nat.le_refl 1) (λi hi acc ha aA a rec=>?_) (It.stop λaA a rec=>?_)
   ·have hb:i<9223372036854775807:=by omega
    have ha':acc.length+1<=0+4*1:=ha
    show c65_5 (aK p n) aA s rec ((i:Int),acc)=_
    unfold c65_5;dsimp only;rw[aL hb];refine(aE (by show(i:Int)<4;omega)).trans ?_;refine(aB (f102 s (i:Int) hz n (by omega))).trans ?_;refine(aE (by show acc.length+1<=4294967296;omega)).trans ?_;rfl
   ·show c65_5 (aK p n) aA s rec (((4:Nat):Int),cY s)=_
    unfold c65_5;refine(aI (by show ¬ ((4:Int)<4);decide)).trans ?_;refine(aB (f103 (cY s) (by show 4<=1000;omega) n (by omega))).trans ?_;rfl
  have e:cI s=(cY s,lV (cY s),()):=by unfold cI;rw[hs];rfl
  rw[e]
  exact Ev.eq (λaA=>by unfold T65;refine(aB (f25 s (Nat.le_trans hz.a (by decide)) (Nat.le_trans hz.b (by decide)) n (by omega))).trans ?_;rw[hs];rfl) (lp.ev (i:=()) rfl)
theorem f82(s:aJ)(hz:SzS s):Ran p 6 82 [va K34 s] (rO K46 (cI s)):=go82 λn hn=>by
 cases hs:aS s with
 | false=>
  refine Ev.now λaA=>?_
  unfold T82 cI;refine(aB (f35 s (Nat.le_trans hz.a (by decide)) (Nat.le_trans hz.b (by decide)) n (by omega))).trans ?_;rw[hs];rfl
 | true=>
  have lp:It (λaA (_:Unit)=>c82_5 (aK p n) aA s) ((0:Int),([]:List aO)) (λ_=>rV K46 (cY s,lV (cY s),())):=by
   refine It.accu (α:=aO) [] (λi=>[(iZ s (i:Int),())]) 4 1 (λi hi=>Nat.le_refl 1) (λi hi acc ha aA a rec=>?_) (It.stop λaA a rec=>?_)
   ·have hb:i<9223372036854775807:=by omega
    have ha':acc.length+1<=0+4*1:=ha
    show c82_5 (aK p n) aA s rec ((i:Int),acc)=_
    unfold c82_5;dsimp only;rw[aL hb];refine(aE (by show(i:Int)<4;omega)).trans ?_;refine(aB (f113 s (i:Int) hz n (by omega))).trans ?_;refine(aE (by show acc.length+1<=4294967296;omega)).trans ?_;rfl
   ·show c82_5 (aK p n) aA s rec (((4:Nat):Int),cY s)=_
    unfold c82_5;refine(aI (by show ¬ ((4:Int)<4);decide)).trans ?_;refine(aB (f114 (cY s) (by show 4<=1000;omega) n (by omega))).trans ?_;rfl
  have e:cI s=(cY s,lV (cY s),()):=by unfold cI;rw[hs];rfl
  rw[e]
  exact Ev.eq (λaA=>by unfold T82;refine(aB (f35 s (Nat.le_trans hz.a (by decide)) (Nat.le_trans hz.b (by decide)) n (by omega))).trans ?_;rw[hs];rfl) (lp.ev (i:=()) rfl)
end Go.Abs.Wz
set_option maxHeartbeats 2000000
namespace Go.Abs.Wz
open Go Go.Abs
def qZ(q:List aO×RdT):Out:=⟨[⟨K44,(q.1,())⟩],[⟨K196,q.2⟩]⟩
theorem f190(r:RdT)(t:Nat)(i0:Int)(hi0:i0=(t:Int))(h:RdOk r)(ht:t<=2):Ran p 3 190 [.ref ⟨K196,r⟩, vf K3 (i0,())] (qZ (bV r t)):=go190 λn hn=>by
 subst hi0
 have q0:=E3 r
 by_cases hbig:(aQ r).1>100
 ·have e:bV r t=([],((aQ r).2.1,(aQ r).2.2.1,true,())):=by unfold bV;rw[decide_eq_true hbig];rfl
  rw[e]
  have lp:It (λaA (_:Unit)=>c190_4 (aK p n) aA (t:Int) ((((aQ r).1,()),()),((aQ r).2,()))) ((0:Int),([]:List aO),(aQ r).2.1,(aQ r).2.2.1,(aQ r).2.2.2.1) (λ_=>some (qZ ([],((aQ r).2.1,(aQ r).2.2.1,true,())))):=It.stop λaA u rec=>by
   show c190_4 (aK p n) aA (t:Int) ((((aQ r).1,()),()),((aQ r).2,())) rec ((0:Int),([]:List aO),(aQ r).2.1,(aQ r).2.2.1,(aQ r).2.2.2.1)=_
   unfold c190_4;dsimp only
   by_cases h1:(0:Int)<i64.wrap ((aQ r).1*(t:Int))
   ·refine(aE h1).trans ?_
    cases (aQ r).2.2.2.1 with
    | true=>rfl
    | false=>refine(aM rfl).trans ?_;refine(aI (show ¬ ((aQ r).1<=100) by omega)).trans ?_;refine(aF rfl).trans ?_;rw[show decide (vI ((aQ r).1)>100)=true from decide_eq_true hbig];rfl
   ·refine(aI h1).trans ?_
    cases (aQ r).2.2.2.1 with
    | true=>rfl
    | false=>refine(aF rfl).trans ?_;rw[show decide (vI ((aQ r).1)>100)=true from decide_eq_true hbig];rfl
  exact Ev.eq (λaA=>by unfold T190;refine(aG (f189 r h n (by omega))).trans ?_;rfl) (lp.ev (i:=()) rfl)
 ·have e:bV r t=mB (aQ r).2 ((aQ r).1.toNat*t):=by unfold bV;rw[decide_eq_false hbig];rfl
  rw[e]
  have hN:(aQ r).1.toNat*t<=100*2:=Nat.mul_le_mul (by omega) ht
  have ew:i64.wrap ((aQ r).1*(t:Int))=(((aQ r).1.toNat*t:Nat):Int):=by
   have:(aQ r).1*(t:Int)=(((aQ r).1.toNat*t:Nat):Int):=by rw[Int.natCast_mul,show(((aQ r).1.toNat:Nat):Int)=(aQ r).1 by omega]
   rw[this,IntKind.wrap_i64];omega
  generalize hM:(aQ r).1.toNat*t=M at ew hN
  have lp:∀ (k i:Nat) (acc:List aO) (q:RdT),RdOk q->i+k=M->acc.length=i->It (λaA (_:Unit)=>c190_4 (aK p n) aA (t:Int) ((((aQ r).1,()),()),((aQ r).2,()))) ((i:Int),acc,q.1,q.2.1,q.2.2.1) (λ_=>some (qZ (acc++(mB q k).1,(mB q k).2))):=by
   intro k
   induction k with
   | zero=>
    intro i acc q hq hi ha
    obtain⟨qb,qa,qd,qu⟩:=q
    refine It.stop λaA u rec=>?_
    show c190_4 (aK p n) aA (t:Int) ((((aQ r).1,()),()),((aQ r).2,())) rec ((i:Int),acc,qb,qa,qd)=some (qZ (acc++[],(qb,qa,qd,qu)))
    rw[List.append_nil]
    unfold c190_4;dsimp only;refine(aI (show ¬ ((i:Int)<i64.wrap ((aQ r).1*(t:Int))) by rw[ew];omega)).trans ?_
    cases qd with
    | true=>rfl
    | false=>refine(aF rfl).trans ?_;rw[show decide (vI ((aQ r).1)>100)=false from decide_eq_false hbig];rfl
   | succ k ih=>
    intro i acc q hq hi ha
    obtain⟨qb,qa,qd,qu⟩:=q
    cases qd with
    | true=>
     refine It.stop λaA u rec=>?_
     show c190_4 (aK p n) aA (t:Int) ((((aQ r).1,()),()),((aQ r).2,())) rec ((i:Int),acc,qb,qa,true)=some (qZ (acc++[],(qb,qa,true,qu)))
     rw[List.append_nil]
     unfold c190_4;dsimp only;refine(aE (show(i:Int)<i64.wrap ((aQ r).1*(t:Int)) by rw[ew];omega)).trans ?_;rfl
    | false=>
     have e2:mB (qb,qa,false,qu) (k+1)=(((aQ (qb,qa,false,qu)).1,())::(mB (aQ (qb,qa,false,qu)).2 k).1,(mB (aQ (qb,qa,false,qu)).2 k).2):=rfl
     have ih':=ih (i+1) (acc++[((aQ (qb,qa,false,qu)).1,())]) (aQ (qb,qa,false,qu)).2 hq.num (by omega) (by rw[List.length_append,ha];rfl)
     rw[e2]
     rw[List.append_assoc] at ih'
     refine It.next (λaA u rec=>?_) ih'
     show c190_4 (aK p n) aA (t:Int) ((((aQ r).1,()),()),((aQ r).2,())) rec ((i:Int),acc,qb,qa,false)=_
     have hbd:acc.length+1<=bound:=by unfold bound;omega
     unfold c190_4;dsimp only;rw[aL (show i<9223372036854775807 by omega)];refine(aE (show(i:Int)<i64.wrap ((aQ r).1*(t:Int)) by rw[ew];omega)).trans ?_;refine(aM rfl).trans ?_;refine(aE (show(aQ r).1<=100 by omega)).trans ?_;refine(aG (f189 (qb,qa,false,qu) hq n (by omega))).trans ?_;refine(aE hbd).trans ?_;rfl
  have lp0:=lp M 0 [] (aQ r).2 h.num (by omega) rfl
  exact Ev.eq (λaA=>by unfold T190;refine(aG (f189 r h n (by omega))).trans ?_;rfl) (lp0.ev (i:=()) rfl)
def rJ:Option aJ->Out
 | none=>⟨[⟨K34,(([],[],()):aJ)⟩,⟨K4,(false,())⟩],[]⟩
 | some s=>⟨[⟨K34,s⟩,⟨K4,(true,())⟩],[]⟩
theorem TA{b:List aO}(hb:B8 b)(hl:b.length<=aW):RdOk (rs0 b):=⟨hb,hl,Int.le_refl _,Int.natCast_nonneg _⟩
def mC(b:List aO)(big:Bool)(q:List bK×RdT):Option aJ:=bif(flR q.2).2.2.2.1||(big||(!aS (stS q)|| !cL (bS (stS q)) b))then none else some (stS q)
theorem f191(b:List aO)(hb:B8 b)(hl:b.length<=aW):Ran p 5 191 [vf K22 (b,())] (rJ (gA b)):=go191 λn hn=>by
 have r0:=TA hb hl
 have rN:RdOk (aQ (rs0 b)).2:=r0.num
 have q0:=E3 (rs0 b)
 have tail:∀ q:List bK×RdT,RdOk q.2->q.1.length<=100->It (λaA (_:Unit)=>c191_21 (aK p n) aA b ((((aQ (rs0 b)).1,()),()),((aQ (rs0 b)).2,())) ((((bV q.2 2).1,()),()),((bV q.2 2).2,())) q.1) ((0:Int),([]:List aU)) (λ_=>some (rJ (mC b (decide ((aQ (rs0 b)).1>100)) q))):=by
  intro q hq hql
  have hm:=qY q.2 2
  refine It.run (λk=>(((2*k:Nat):Int),fN (bV q.2 2).1 k)) ((bV q.2 2).1.length / 2) (λk hk aA u rec=>?_) (It.stop λaA u rec=>?_)
  ·have h1:2*k<(bV q.2 2).1.length:=by omega
   have h2:2*k+1<(bV q.2 2).1.length:=by omega
   have e1:i64.wrap (((2*k:Nat):Int)+1)=((2*k+1:Nat):Int):=by rw[IntKind.wrap_i64];omega
   have e2:i64.wrap (((2*k:Nat):Int)+2)=((2*(k+1):Nat):Int):=by rw[IntKind.wrap_i64];omega
   have hbd:(fN (bV q.2 2).1 k).length+1<=bound:=by rw[sJ];unfold bound;omega
   show c191_21 (aK p n) aA b ((((aQ (rs0 b)).1,()),()),((aQ (rs0 b)).2,())) ((((bV q.2 2).1,()),()),((bV q.2 2).2,())) q.1 rec (((2*k:Nat):Int),fN (bV q.2 2).1 k)=rec (((2*(k+1):Nat):Int),fN (bV q.2 2).1 (k+1))
   unfold c191_21;dsimp only;rw[e1,e2,wY];refine(aE (Int.ofNat_lt.2 h2)).trans ?_;refine bif_nn.trans ?_;refine(aH h1).trans ?_;refine(aH h1).trans ?_;refine bif_nn.trans ?_;refine(aH h2).trans ?_;refine(aH h2).trans ?_;refine(aE hbd).trans ?_;rfl
  ·have e1:i64.wrap ((((2*((bV q.2 2).1.length / 2):Nat)):Int)+1)=((2*((bV q.2 2).1.length / 2)+1:Nat):Int):=by rw[IntKind.wrap_i64];omega
   have lp:(stS q).2.1.length<=100:=JX q.2
   have hz1:(stS q).1.length<=maxLen:=Nat.le_trans hql (by decide)
   have hz2:(stS q).2.1.length<=maxLen:=Nat.le_trans lp (by decide)
   show c191_21 (aK p n) aA b ((((aQ (rs0 b)).1,()),()),((aQ (rs0 b)).2,())) ((((bV q.2 2).1,()),()),((bV q.2 2).2,())) q.1 rec (((2*((bV q.2 2).1.length / 2):Nat):Int),fN (bV q.2 2).1 ((bV q.2 2).1.length / 2))=_
   unfold c191_21;dsimp only;rw[e1];refine(aI (show ¬ (((2*((bV q.2 2).1.length / 2)+1:Nat):Int)<(((bV q.2 2).1.length:Nat):Int)) by omega)).trans ?_
   cases hbad:(bV q.2 2).2.2.2.1 with
   | true=>refine(aM rfl).trans ?_;rw[show mC b (decide ((aQ (rs0 b)).1>100)) q=none by unfold mC flR;rw[hbad];rfl];rfl
   | false=>
    refine(aF rfl).trans ?_
    by_cases hbig:(aQ (rs0 b)).1>100
    ·refine(aE hbig).trans ?_;rw[show mC b (decide ((aQ (rs0 b)).1>100)) q=none by unfold mC flR;rw[hbad,decide_eq_true hbig];rfl];rfl
    ·refine(aI hbig).trans ?_;refine(aB (f25 (stS q) hz1 hz2 n (by omega))).trans ?_
     cases hs:aS (stS q)with
     | false=>refine(aM rfl).trans ?_;rw[show mC b (decide ((aQ (rs0 b)).1>100)) q=none by unfold mC flR;rw[hbad,decide_eq_false hbig,hs];rfl];rfl
     | true=>
      refine(aF rfl).trans ?_;refine(aB (f135 (stS q) ((aV _).1 hs) n (by omega))).trans ?_
      cases he:cL (bS (stS q)) b with
      | false=>refine(aM (show(!cL (bS (stS q)) b)=true by rw[he];rfl)).trans ?_;rw[show mC b (decide ((aQ (rs0 b)).1>100)) q=none by unfold mC flR;rw[hbad,decide_eq_false hbig,hs,he];rfl];rfl
      | true=>refine(aF (show(!cL (bS (stS q)) b)=false by rw[he];rfl)).trans ?_;rw[show mC b (decide ((aQ (rs0 b)).1>100)) q=some (stS q) by unfold mC flR;rw[hbad,decide_eq_false hbig,hs,he];rfl];rfl
 have run0:It (λaA (_:Unit)=>c191_5 (aK p n) aA b ((((aQ (rs0 b)).1,()),()),((aQ (rs0 b)).2,()))) ((0:Int),(aQ (rs0 b)).2.1,(aQ (rs0 b)).2.2.1,(aQ (rs0 b)).2.2.2.1,([]:List bK)) (λ_=>some (rJ (gA b))):=by
  by_cases hbig:(aQ (rs0 b)).1>100
  ·have e:gA b=mC b (decide ((aQ (rs0 b)).1>100)) ([],(aQ (rs0 b)).2):=by unfold gA ssI;rw[decide_eq_true hbig];rfl
   rw[e]
   have key:∀ q:RdT,RdOk q->It (λaA (_:Unit)=>c191_5 (aK p n) aA b ((((aQ (rs0 b)).1,()),()),((aQ (rs0 b)).2,()))) ((0:Int),q.1,q.2.1,q.2.2.1,([]:List bK)) (λ_=>some (rJ (mC b (decide ((aQ (rs0 b)).1>100)) ([],q)))):=by
    rintro ⟨qb,qa,qd,qu⟩ hq
    refine It.stopE (T:=λaA _=>iter (c191_21 (aK p n) aA b ((((aQ (rs0 b)).1,()),()),((aQ (rs0 b)).2,())) ((((bV (qb,qa,qd,qu) 2).1,()),()),((bV (qb,qa,qd,qu) 2).2,())) []) aA ((0:Int),([]:List aU))) (λaA u rec=>?_) (tail ([],(qb,qa,qd,qu)) hq (Nat.zero_le _)).all_i
    show c191_5 (aK p n) aA b ((((aQ (rs0 b)).1,()),()),((aQ (rs0 b)).2,())) rec ((0:Int),qb,qa,qd,([]:List bK))=_
    unfold c191_5;dsimp only;refine(aE (show(0:Int)<(aQ (rs0 b)).1 by omega)).trans ?_
    cases qd with
    | true=>refine(aF rfl).trans ?_;refine(aG (f190 (qb,qa,true,qu) 2 2 rfl hq (by omega) n (by omega))).trans ?_;rfl
    | false=>refine(aM rfl).trans ?_;refine(aI (show ¬ ((aQ (rs0 b)).1<=100) by omega)).trans ?_;refine(aG (f190 (qb,qa,false,qu) 2 2 rfl hq (by omega) n (by omega))).trans ?_;rfl
   exact key _ rN
  ·have hbd:decide ((aQ (rs0 b)).1>100)=false:=decide_eq_false hbig
   have lp:∀ (k i:Nat) (acc:List bK) (q:RdT),RdOk q->q.1=b->i+k=(aQ (rs0 b)).1.toNat->acc.length=i->
     It (λaA (_:Unit)=>c191_5 (aK p n) aA b ((((aQ (rs0 b)).1,()),()),((aQ (rs0 b)).2,()))) ((i:Int),q.1,q.2.1,q.2.2.1,acc) (λ_=>some (rJ ((iO q k).bind λw=>mC b (decide ((aQ (rs0 b)).1>100)) (acc++w.1,w.2)))):=by
    intro k
    induction k with
    | zero=>
     intro i acc q hq hqb hi ha
     show It _ _ (λ_=>some (rJ (mC b (decide ((aQ (rs0 b)).1>100)) (acc++[],q))))
     rw[List.append_nil]
     refine It.stopE (T:=λaA _=>iter (c191_21 (aK p n) aA b ((((aQ (rs0 b)).1,()),()),((aQ (rs0 b)).2,())) ((((bV q 2).1,()),()),((bV q 2).2,())) acc) aA ((0:Int),([]:List aU))) (λaA u rec=>?_) (tail (acc,q) hq (by show acc.length<=100;omega)).all_i
     show c191_5 (aK p n) aA b ((((aQ (rs0 b)).1,()),()),((aQ (rs0 b)).2,())) rec ((i:Int),q.1,q.2.1,q.2.2.1,acc)=_
     unfold c191_5;dsimp only;refine(aI (show ¬ ((i:Int)<(aQ (rs0 b)).1) by omega)).trans ?_;refine(aG (f190 q 2 2 rfl hq (by omega) n (by omega))).trans ?_;rfl
    | succ k ih=>
     intro i acc q hq hqb hi ha
     have hlt:(i:Int)<(aQ (rs0 b)).1:=by omega
     obtain⟨qb,qa,qd,qu⟩:=q
     cases qd with
     | true=>
      show It _ _ (λ_=>some (rJ (mC b (decide ((aQ (rs0 b)).1>100)) (acc++[],(qb,qa,true,qu)))))
      rw[List.append_nil]
      refine It.stopE (T:=λaA _=>iter (c191_21 (aK p n) aA b ((((aQ (rs0 b)).1,()),()),((aQ (rs0 b)).2,())) ((((bV (qb,qa,true,qu) 2).1,()),()),((bV (qb,qa,true,qu) 2).2,())) acc) aA ((0:Int),([]:List aU))) (λaA u rec=>?_) (tail (acc,(qb,qa,true,qu)) hq (by show acc.length<=100;omega)).all_i
      show c191_5 (aK p n) aA b ((((aQ (rs0 b)).1,()),()),((aQ (rs0 b)).2,())) rec ((i:Int),qb,qa,true,acc)=_
      unfold c191_5;dsimp only;refine(aE hlt).trans ?_;refine(aF rfl).trans ?_;refine(aG (f190 (qb,qa,true,qu) 2 2 rfl hq (by omega) n (by omega))).trans ?_;rfl
     | false=>
      have hbk:acc.length+1<=bound:=by unfold bound;omega
      have head:∀ aA rec,c191_5 (aK p n) aA b ((((aQ (rs0 b)).1,()),()),((aQ (rs0 b)).2,())) rec ((i:Int),qb,qa,false,acc)=(((aK p n) 199 [vf K22 (b,()), vf K3 ((rdK (qb,qa,false,qu) 5).2.1,())]).bind (dR [K9,K3,K4] [])).bind λo7=>(bif(rdK (qb,qa,false,qu) 5).2.2.1 then some (rJ none)else bif !(vB o7.1.2.2.1.1)then some (rJ none)else bif decide (acc.length+1<=bound)then rec (((i+1:Nat):Int),(rdK (qb,qa,false,qu) 5).1,(vI o7.1.2.1.1),(rdK (qb,qa,false,qu) 5).2.2.1,acc++[(rdV (qb,qa,false,qu) 0,rdV (qb,qa,false,qu) 1,rdV (qb,qa,false,qu) 2,rdV (qb,qa,false,qu) 3,rdV (qb,qa,false,qu) 4,(vS o7.1.1.1),())])else none):=by
       intro aA rec
       unfold c191_5;dsimp only;rw[aL (show i<9223372036854775807 by omega)];refine(aE hlt).trans ?_;refine(aM rfl).trans ?_;refine(aE (show(aQ (rs0 b)).1<=100 by omega)).trans ?_;refine(aG (f189 (rdK (qb,qa,false,qu) 0) (hq.k 0) n (by omega))).trans ?_;refine(aG (f189 (rdK (qb,qa,false,qu) 1) (hq.k 1) n (by omega))).trans ?_;refine(aG (f189 (rdK (qb,qa,false,qu) 2) (hq.k 2) n (by omega))).trans ?_;refine(aG (f189 (rdK (qb,qa,false,qu) 3) (hq.k 3) n (by omega))).trans ?_;refine(aG (f189 (rdK (qb,qa,false,qu) 4) (hq.k 4) n (by omega))).trans ?_
       rfl
      have el:(rdK (qb,qa,false,qu) 5).1=b:=(tU (qb,qa,false,qu) 5).trans hqb
      have hg:=f199 b (rdK (qb,qa,false,qu) 5).2.1 hb hl
      have e2:iO (qb,qa,false,qu) (k+1)=bif(eI (qb,qa,false,qu)).2.2.2.1 then none else(iO (eI (qb,qa,false,qu)).2 k).map λw=>((eI (qb,qa,false,qu)).1::w.1,w.2):=rfl
      cases hd:(rdK (qb,qa,false,qu) 5).2.2.1 with
      | true=>
       have e3:(eI (qb,qa,false,qu)).2.2.2.1=true:=by unfold eI pC;rw[hd];rfl
       rw[e2,e3]
       refine It.stop λaA u rec=>(head aA rec).trans ?_
       rw[hd]
       cases ht:yO b (rdK (qb,qa,false,qu) 5).2.1 with
       | none=>rw[ht] at hg;refine(dK (hg n (by omega))).trans ?_;rfl
       | some w=>obtain⟨s,j⟩:=w;rw[ht] at hg;refine(dK (hg n (by omega))).trans ?_;rfl
      | false=>
       cases ht:yO b (rdK (qb,qa,false,qu) 5).2.1 with
       | none=>
        have e3:(eI (qb,qa,false,qu)).2.2.2.1=true:=by unfold eI pC;rw[hd,el,ht];rfl
        rw[e2,e3]
        refine It.stop λaA u rec=>(head aA rec).trans ?_
        rw[hd];rw[ht] at hg;refine(dK (hg n (by omega))).trans ?_;rfl
       | some w=>
        obtain⟨s,j⟩:=w
        have e4:pC (rdK (qb,qa,false,qu) 5)=(s,((rdK (qb,qa,false,qu) 5).1,(j:Int),false,())):=by
         unfold pC;rw[hd,el,ht];rfl
        have e3:eI (qb,qa,false,qu)=((rdV (qb,qa,false,qu) 0,rdV (qb,qa,false,qu) 1,rdV (qb,qa,false,qu) 2,rdV (qb,qa,false,qu) 3,rdV (qb,qa,false,qu) 4,s,()),((rdK (qb,qa,false,qu) 5).1,(j:Int),false,())):=by unfold eI;rw[e4]
        have ih':=ih (i+1) (acc++[(eI (qb,qa,false,qu)).1]) (eI (qb,qa,false,qu)).2 hq.item ((H1 (qb,qa,false,qu)).trans hqb) (by omega) (by rw[List.length_append,ha];rfl)
        have e5:((iO (qb,qa,false,qu) (k+1)).bind λw=>mC b (decide ((aQ (rs0 b)).1>100)) (acc++w.1,w.2))=((iO (eI (qb,qa,false,qu)).2 k).bind λw=>mC b (decide ((aQ (rs0 b)).1>100)) (acc++[(eI (qb,qa,false,qu)).1]++w.1,w.2)):=by
         rw[e2,show(eI (qb,qa,false,qu)).2.2.2.1=false by rw[e3]]
         show((iO (eI (qb,qa,false,qu)).2 k).map λw=>((eI (qb,qa,false,qu)).1::w.1,w.2)).bind _=_
         cases iO (eI (qb,qa,false,qu)).2 k with
         | none=>rfl
         | some w=>show mC b _ (acc++((eI (qb,qa,false,qu)).1::w.1),w.2)=mC b _ (acc++[(eI (qb,qa,false,qu)).1]++w.1,w.2);rw[List.append_assoc];rfl
        rw[e5]
        refine It.next (λaA u rec=>(head aA rec).trans ?_) ih'
        rw[hd];rw[ht] at hg;refine(dK (hg n (by omega))).trans ?_;refine(aF rfl).trans ?_;refine(aF rfl).trans ?_;refine(aE hbk).trans ?_;rw[e3]
   have lp0:=lp (aQ (rs0 b)).1.toNat 0 [] (aQ (rs0 b)).2 rN (jZ _) (by omega) rfl
   have e:gA b=((iO (aQ (rs0 b)).2 (aQ (rs0 b)).1.toNat).bind λw=>mC b (decide ((aQ (rs0 b)).1>100)) ([]++w.1,w.2)):=by
    unfold gA ssI;rw[hbd]
    show(match iO (aQ (rs0 b)).2 (aQ (rs0 b)).1.toNat with | none=>none | some q=>mC b false q)=_
    cases iO (aQ (rs0 b)).2 (aQ (rs0 b)).1.toNat<;>rfl
   rw[e];exact lp0
 exact Ev.eq (λaA=>by unfold T191;refine(aG (f189 (rs0 b) r0 n (by omega))).trans ?_;rfl) (run0.ev (i:=()) rfl)
end Go.Abs.Wz
