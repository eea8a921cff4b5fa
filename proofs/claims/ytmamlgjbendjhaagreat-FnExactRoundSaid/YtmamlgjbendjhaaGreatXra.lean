/- What the functions of this program answer, part ra. -/
import Derived.Test.YtmamlgjbendjhaaGreatXgu
import Derived.Test.YtmamlgjbendjhaaGreatW3
set_option linter.unusedVariables false
open Go.IntKind (i64)
namespace Go.Abs.Xz
open Go Go.Abs
theorem f256(a b:Int):Ran p 1 256 [vf K3 (a,()), vf K3 (b,())] (rO K3 (mxI false a b,())):=go256 fun n hn=>Ev.now fun aA=>by
 unfold T256;rw[C5]
 by_cases h:a<b
 ·refine(aE h).trans ?_;rw[show min a b=a by omega]
 ·refine(aF h).trans ?_;rw[show min a b=b by omega]
theorem f253(ms:List aY)(h2:ms.length≤maxLen):Ran p 3 253 [vf K41 (ms,())] (rO K4 (eK ms,())):=go253 fun n hn=>by
 have inner:It (fun aA (_:Unit)=>c253_2 (aG p n) aA ms) (0:Int) (fun _=>oB (eK ms)):=by
  refine cZ (It.allB ms.length (eS ms) true (fun i hi aA a rec=>?_) (It.stop fun aA a rec=>?_))
  ·have hb:i<9223372036854775807:=Nat.lt_of_lt_of_le hi h2
   show c253_2 (aG p n) aA ms rec (i:Int)=_
   unfold c253_2 eS;rw[aI hb];refine(aE (Int.ofNat_lt.2 hi)).trans ?_;refine bif_nn.trans ?_;refine(aK hi).trans ?_;refine(aC (f250 (gt ms i).1 n (by omega))).trans ?_;refine chk fun _=>?_
   cases i with
   | zero=>refine(aF (by decide)).trans ?_;refine bif_nn.trans ?_;refine(aK hi).trans ?_;refine(aC (f211 (gt ms 0).2.1 1 1000 n (by omega))).trans ?_;exact fin
   | succ j=>
    refine(aE (by omega)).trans ?_;refine bif_nn.trans ?_;refine(aK hi).trans ?_;rw[hX hb (by omega)];refine bif_nn.trans ?_;refine(aK (show j<ms.length by omega)).trans ?_;refine HF fun _=>?_
    refine bif_nn.trans ?_;refine(aK hi).trans ?_;refine(aC (f211 (gt ms (j+1)).2.1 1 1000 n (by omega))).trans ?_;exact fin
  ·show c253_2 (aG p n) aA ms rec (ms.length:Int)=_
   unfold c253_2;refine(aF (Int.lt_irrefl _)).trans ?_;rfl
 exact Ev.eq (fun aA=>by unfold T253;rfl) (inner.ev (i:=()) rfl)
theorem f125(ms:List aY)(h2:ms.length≤maxLen):Ran p 3 125 [vf K41 (ms,())] (rO K4 (eK ms,())):=go125 fun n hn=>by
 have inner:It (fun aA (_:Unit)=>c125_2 (aG p n) aA ms) (0:Int) (fun _=>oB (AQ ms)):=by
  refine cZ (It.allB ms.length (gU ms) true (fun i hi aA a rec=>?_) (It.stop fun aA a rec=>?_))
  ·have hb:i<9223372036854775807:=Nat.lt_of_lt_of_le hi h2
   show c125_2 (aG p n) aA ms rec (i:Int)=_
   unfold c125_2 gU;rw[aI hb];refine(aE (Int.ofNat_lt.2 hi)).trans ?_;refine bif_nn.trans ?_;refine(aK hi).trans ?_;refine(aC (f123 (gt ms i).1 n (by omega))).trans ?_;refine chk fun _=>?_;refine(aC (f100 (gt ms i).2.1 1 1000 n (by omega))).trans ?_;refine chk fun _=>?_
   cases i with
   | zero=>refine(aF (by decide)).trans ?_;rfl
   | succ j=>refine(aE (by omega)).trans ?_;rw[hX hb (by omega)];refine bif_nn.trans ?_;refine(aK (show j<ms.length by omega)).trans ?_;exact zD
  ·show c125_2 (aG p n) aA ms rec (ms.length:Int)=_
   unfold c125_2;refine(aF (Int.lt_irrefl _)).trans ?_;rfl
 rw[EH] at inner
 exact Ev.eq (fun aA=>by unfold T125;rfl) (inner.ev (i:=()) rfl)
theorem f234(s:aM)(hz:SzS s):Ran p 5 234 [va K27 s] (rO K41 (fQ s,())):=go234 fun n hn=>by
 have lp:It (fun aA (_:Unit)=>c234_3 (aG p n) aA s) ((0:Int),([]:List aY)) (fun _=>rV K41 (fQ s,())):=by
  refine It.accu (α:=aY) [] (i8 s) 5 1 (fun i _=>pI s i) (fun i hi acc ha aA u rec=>?_) (It.stop fun aA u rec=>?_)
  ·show c234_3 (aG p n) aA s rec ((i:Int),acc)=rec (((i+1:Nat):Int),acc++i8 s i)
   have hb:acc.length+1≤bound+(1 - (i8 s i).length):=by simp at ha;unfold bound;omega
   unfold c234_3 i8;dsimp only;rw[aI (show i<9223372036854775807 by omega)];refine(aE (show(i:Int)<5 by omega)).trans ?_;refine(aC (f316 s (i:Int) hz n (by omega))).trans ?_
   by_cases h:gone s i>0
   ·refine(aE h).trans ?_;refine(aE (by
     unfold i8 at hb;rw[decide_eq_true h] at hb;exact hb)).trans ?_;rw[decide_eq_true h];rfl
   ·refine(aF h).trans ?_;rw[decide_eq_false h];show rec _=rec _;rw[show(bif false then[((i:Int),gone s i,())] else[])=([]:List aY)from rfl,List.append_nil];rfl
  ·show c234_3 (aG p n) aA s rec ((5:Int),fQ s)=_
   unfold c234_3;dsimp only;refine(aF (Int.lt_irrefl _)).trans ?_;rfl
 exact Ev.eq (fun aA=>by unfold T234;rfl) (lp.ev (i:=()) rfl)
theorem f223(s:aM)(hz:SzS s):Ran p 5 223 [va K27 s] (rO K41 (fQ s,())):=go223 fun n hn=>by
 have lp:It (fun aA (_:Unit)=>c223_3 (aG p n) aA s) ((0:Int),([]:List aY)) (fun _=>rV K41 (fQ s,())):=by
  refine It.accu (α:=aY) [] (i8 s) 5 1 (fun i _=>pI s i) (fun i hi acc ha aA u rec=>?_) (It.stop fun aA u rec=>?_)
  ·show c223_3 (aG p n) aA s rec ((i:Int),acc)=rec (((i+1:Nat):Int),acc++i8 s i)
   have hb:acc.length+1≤bound+(1 - (i8 s i).length):=by simp at ha;unfold bound;omega
   unfold c223_3 i8;dsimp only;rw[aI (show i<9223372036854775807 by omega)];refine(aE (show(i:Int)<5 by omega)).trans ?_;refine(aC (f311 s (i:Int) hz n (by omega))).trans ?_
   by_cases h:gone s i>0
   ·refine(aE h).trans ?_;refine(aE (by
     unfold i8 at hb;rw[decide_eq_true h] at hb;exact hb)).trans ?_;rw[decide_eq_true h];rfl
   ·refine(aF h).trans ?_;rw[decide_eq_false h];show rec _=rec _;rw[show(bif false then[((i:Int),gone s i,())] else[])=([]:List aY)from rfl,List.append_nil];rfl
  ·show c223_3 (aG p n) aA s rec ((5:Int),fQ s)=_
   unfold c223_3;dsimp only;refine(aF (Int.lt_irrefl _)).trans ?_;rfl
 exact Ev.eq (fun aA=>by unfold T223;rfl) (lp.ev (i:=()) rfl)
theorem aR{α β:Type}[Inhabited α]{xs:List α}{i:Nat}{f:α→Option β}(h:i<xs.length):(at? xs i).bind f=f (gt xs i):=by
 rw[bC h,eX h];rfl
theorem f255(v:List bB)(k m:Int)(hv:v.length≤aX):Ran p 2 255 [vf K28 (v,()), vf K3 (k,()), vf K3 (m,())] (rO K28 (cY v k m,())):=go255 fun n hn=>Ev.now fun aA=>by
 unfold T255 cY;refine(aE (fY hv)).trans ?_;refine(aC (f211 k 0 (i64.wrap ((v.length:Int) - 1)) n (by omega))).trans ?_
 cases hb:inB k 0 (i64.wrap ((v.length:Int) - 1))with
 | false=>rfl
 | true=>
  obtain⟨hk,e⟩:=oG hv hb
  refine(aN rfl).trans ?_;refine(aE (show(0:Int)≤k by omega)).trans ?_;refine(aR hk).trans ?_
  by_cases h:m>(gt v k.toNat).1
  ·refine(aE h).trans ?_;refine(aE (show(0:Int)≤k by omega)).trans ?_;refine(aR hk).trans ?_;refine(aR hk).trans ?_
   rw[AN,show max (gt v k.toNat).1 m=m by omega];rfl
  ·refine(aF h).trans ?_;rw[AN,show max (gt v k.toNat).1 m=(gt v k.toNat).1 by omega]
   show(rV K28 (v,()):Option Out)=rV K28 (v.set k.toNat (gt v k.toNat),())
   rw[yM]
theorem f236(v:List bB)(k m:Int)(hv:v.length≤aX):Ran p 2 236 [vf K28 (v,()), vf K3 (k,()), vf K3 (m,())] (rO K28 (cY v k m,())):=go236 fun n hn=>Ev.now fun aA=>by
 unfold T236 cY;refine(aC (f98 v hv n (by omega))).trans ?_;refine(aC (f100 k 0 (i64.wrap ((v.length:Int) - 1)) n (by omega))).trans ?_
 cases hb:inB k 0 (i64.wrap ((v.length:Int) - 1))with
 | false=>rfl
 | true=>
  obtain⟨hk,e⟩:=oG hv hb
  refine(aN rfl).trans ?_;refine(aE (show(0:Int)≤k by omega)).trans ?_;refine(aR hk).trans ?_;refine(aE (show(0:Int)≤k by omega)).trans ?_;refine(aR hk).trans ?_;refine(aR hk).trans ?_;rfl
theorem rI{α:Type}(xs:List α)(i:Nat)(a b:α):(xs.set i a).set i b=xs.set i b:=by simp
theorem f257(t:List cV)(k:Int)(ms:List aY)(h1:t.length≤aX)(h2:∀ i,i<t.length→(gt t i).1.length≤aX)(h3:ms.length≤aX):Ran p 4 257 [vf K34 (t,()), vf K3 (k,()), vf K41 (ms,())] (rO K34 (bN t k ms,())):=go257 fun n hn=>by
 cases hb:inB k 0 (i64.wrap ((t.length:Int) - 1))with
 | false=>exact Ev.now fun aA=>by show T257 (aG p n) aA t k ms=_;unfold T257;refine(aC (f226 t h1 h2 n (by omega))).trans ?_;refine(aC (f211 k 0 (i64.wrap ((t.length:Int) - 1)) n (by omega))).trans ?_;rw[hb,show bN t k ms=t by unfold bN sM;rw[hb];rfl];rfl
 | true=>
  obtain⟨hk,e⟩:=oG h1 hb
  cases hm:eK ms with
  | false=>exact Ev.now fun aA=>by show T257 (aG p n) aA t k ms=_;unfold T257;refine(aC (f226 t h1 h2 n (by omega))).trans ?_;refine(aC (f211 k 0 (i64.wrap ((t.length:Int) - 1)) n (by omega))).trans ?_;rw[hb];refine(aL rfl).trans ?_;refine(aC (f253 ms (aU h3) n (by omega))).trans ?_;rw[hm,show bN t k ms=t by unfold bN sM;rw[hb,hm];rfl];rfl
  | true=>
   by_cases h5:(((gt t k.toNat).1.length:Nat):Int)<5
   ·exact Ev.now fun aA=>by show T257 (aG p n) aA t k ms=_;unfold T257;refine(aC (f226 t h1 h2 n (by omega))).trans ?_;refine(aC (f211 k 0 (i64.wrap ((t.length:Int) - 1)) n (by omega))).trans ?_;rw[hb];refine(aL rfl).trans ?_;refine(aC (f253 ms (aU h3) n (by omega))).trans ?_;rw[hm];refine(aL rfl).trans ?_;refine(aE (show(0:Int)≤k by omega)).trans ?_;refine(aR hk).trans ?_;refine(aE h5).trans ?_;rw[show bN t k ms=t by unfold bN sM;rw[hb,hm,decide_eq_true h5];rfl]
   ·have lp:It (fun aA (_:Unit)=>c257_5 (aG p n) aA k ms) ((0:Int),t) (fun _=>rV K34 (bN t k ms,())):=by
     have h0:=p0 t k.toNat ms
     refine cast (congrArg (fun z=>It (fun aA (_:Unit)=>c257_5 (aG p n) aA k ms) ((0:Int),z) (fun _=>rV K34 (bN t k ms,()))) h0) ?_
     refine It.run (fun i=>((i:Int),cC t k.toNat ms i)) ms.length (fun i hi aA u rec=>?_) (It.stop fun aA u rec=>?_)
     ·show c257_5 (aG p n) aA k ms rec ((i:Int),cC t k.toNat ms i)=rec (((i+1:Nat):Int),cC t k.toNat ms (i+1))
      have hd:=vM hm hi
      have hl:k.toNat<(cC t k.toNat ms i).length:=by unfold cC;rw[List.length_set];exact hk
      have hg:gt (cC t k.toNat ms i) k.toNat=tT (gt t k.toNat) ms i:=dG hk _
      have hr:(gt ms i).1.toNat<(gt (cC t k.toNat ms i) k.toNat).1.length:=by rw[hg,lU];omega
      have hp:(0:Int)≤k:=by omega
      unfold c257_5;dsimp only;rw[aI (i63 hi h3)];refine(aE (Int.ofNat_lt.2 hi)).trans ?_;refine(aE hp).trans ?_;refine(aR hl).trans ?_;refine(aR hl).trans ?_;refine bif_nn.trans ?_;refine(aK hi).trans ?_;refine(aE hp).trans ?_;refine(aR hl).trans ?_;refine(aR hl).trans ?_;refine bif_nn.trans ?_;refine(aK hi).trans ?_;refine(aE hd.1).trans ?_;refine(aR hl).trans ?_;refine(aR hr).trans ?_;refine(aR hl).trans ?_;refine(aR hr).trans ?_;refine bif_nn.trans ?_;refine(aK hi).trans ?_
      refine(aC (f248 (gt (gt (cC t k.toNat ms i) k.toNat).1 (gt ms i).1.toNat).1 (gt ms i).2.1 n (by omega))).trans ?_;refine(aE hd.1).trans ?_;refine(aR hl).trans ?_;refine(aR hr).trans ?_;refine(aR hl).trans ?_;refine(aR hr).trans ?_
      refine congrArg (fun z=>rec (((i+1:Nat):Int),z)) ?_
      show(cC t k.toNat ms i).set k.toNat (BV (gt (cC t k.toNat ms i) k.toNat) (gt ms i))=cC t k.toNat ms (i+1)
      rw[hg];exact rI ..
     ·show c257_5 (aG p n) aA k ms rec ((ms.length:Int),cC t k.toNat ms ms.length)=_
      unfold c257_5;dsimp only;refine(aF (Int.lt_irrefl _)).trans ?_;rw[show bN t k ms=cC t k.toNat ms ms.length by unfold bN sM;rw[hb,hm,decide_eq_false h5];rfl]
    exact Ev.eq (fun aA=>by unfold T257;refine(aC (f226 t h1 h2 n (by omega))).trans ?_;refine(aC (f211 k 0 (i64.wrap ((t.length:Int) - 1)) n (by omega))).trans ?_;rw[hb];refine(aL rfl).trans ?_;refine(aC (f253 ms (aU h3) n (by omega))).trans ?_;rw[hm];refine(aL rfl).trans ?_;refine(aE (show(0:Int)≤k by omega)).trans ?_;refine(aR hk).trans ?_;exact aF h5) (lp.ev (i:=()) rfl)
theorem f237(t:List cV)(k:Int)(ms:List aY)(h1:t.length≤aX)(h2:∀ i,i<t.length→(gt t i).1.length≤aX)(h3:ms.length≤aX):Ran p 4 237 [vf K34 (t,()), vf K3 (k,()), vf K41 (ms,())] (rO K34 (bN t k ms,())):=go237 fun n hn=>by
 cases hb:inB k 0 (i64.wrap ((t.length:Int) - 1))with
 | false=>exact Ev.now fun aA=>by show T237 (aG p n) aA t k ms=_;unfold T237;refine(aC (f222 t h1 h2 n (by omega))).trans ?_;refine(aC (f100 k 0 (i64.wrap ((t.length:Int) - 1)) n (by omega))).trans ?_;rw[hb,show bN t k ms=t by unfold bN sM;rw[hb];rfl];rfl
 | true=>
  obtain⟨hk,e⟩:=oG h1 hb
  cases hm:eK ms with
  | false=>exact Ev.now fun aA=>by show T237 (aG p n) aA t k ms=_;unfold T237;refine(aC (f222 t h1 h2 n (by omega))).trans ?_;refine(aC (f100 k 0 (i64.wrap ((t.length:Int) - 1)) n (by omega))).trans ?_;rw[hb];refine(aL rfl).trans ?_;refine(aC (f125 ms (aU h3) n (by omega))).trans ?_;rw[hm,show bN t k ms=t by unfold bN sM;rw[hb,hm];rfl];rfl
  | true=>
   by_cases h5:(((gt t k.toNat).1.length:Nat):Int)<5
   ·exact Ev.now fun aA=>by show T237 (aG p n) aA t k ms=_;unfold T237;refine(aC (f222 t h1 h2 n (by omega))).trans ?_;refine(aC (f100 k 0 (i64.wrap ((t.length:Int) - 1)) n (by omega))).trans ?_;rw[hb];refine(aL rfl).trans ?_;refine(aC (f125 ms (aU h3) n (by omega))).trans ?_;rw[hm];refine(aL rfl).trans ?_;refine(aE (show(0:Int)≤k by omega)).trans ?_;refine(aR hk).trans ?_;refine(aE h5).trans ?_;rw[show bN t k ms=t by unfold bN sM;rw[hb,hm,decide_eq_true h5];rfl]
   ·have lp:It (fun aA (_:Unit)=>c237_5 (aG p n) aA k ms) ((0:Int),t) (fun _=>rV K34 (bN t k ms,())):=by
     have h0:=p0 t k.toNat ms
     refine cast (congrArg (fun z=>It (fun aA (_:Unit)=>c237_5 (aG p n) aA k ms) ((0:Int),z) (fun _=>rV K34 (bN t k ms,()))) h0) ?_
     refine It.run (fun i=>((i:Int),cC t k.toNat ms i)) ms.length (fun i hi aA u rec=>?_) (It.stop fun aA u rec=>?_)
     ·show c237_5 (aG p n) aA k ms rec ((i:Int),cC t k.toNat ms i)=rec (((i+1:Nat):Int),cC t k.toNat ms (i+1))
      have hd:=vM hm hi
      have hl:k.toNat<(cC t k.toNat ms i).length:=by unfold cC;rw[List.length_set];exact hk
      have hg:gt (cC t k.toNat ms i) k.toNat=tT (gt t k.toNat) ms i:=dG hk _
      have hr:(gt ms i).1.toNat<(gt (cC t k.toNat ms i) k.toNat).1.length:=by rw[hg,lU];omega
      have hp:(0:Int)≤k:=by omega
      unfold c237_5;dsimp only;rw[aI (i63 hi h3)];refine(aE (Int.ofNat_lt.2 hi)).trans ?_;refine bif_nn.trans ?_;refine(aK hi).trans ?_;refine(aE hp).trans ?_;refine(aR hl).trans ?_;refine(aR hl).trans ?_;refine(aE hp).trans ?_;refine(aR hl).trans ?_;refine(aR hl).trans ?_;refine(aE hd.1).trans ?_;refine(aR hl).trans ?_;refine(aR hr).trans ?_;refine(aR hl).trans ?_;refine(aR hr).trans ?_;refine(aE hd.1).trans ?_;refine(aR hl).trans ?_;refine(aR hr).trans ?_;refine(aR hl).trans ?_;refine(aR hr).trans ?_
      refine congrArg (fun z=>rec (((i+1:Nat):Int),z)) ?_
      show(cC t k.toNat ms i).set k.toNat (BV (gt (cC t k.toNat ms i) k.toNat) (gt ms i))=cC t k.toNat ms (i+1)
      rw[hg];exact rI ..
     ·show c237_5 (aG p n) aA k ms rec ((ms.length:Int),cC t k.toNat ms ms.length)=_
      unfold c237_5;dsimp only;refine(aF (Int.lt_irrefl _)).trans ?_;rw[show bN t k ms=cC t k.toNat ms ms.length by unfold bN sM;rw[hb,hm,decide_eq_false h5];rfl]
    exact Ev.eq (fun aA=>by unfold T237;refine(aC (f222 t h1 h2 n (by omega))).trans ?_;refine(aC (f100 k 0 (i64.wrap ((t.length:Int) - 1)) n (by omega))).trans ?_;rw[hb];refine(aL rfl).trans ?_;refine(aC (f125 ms (aU h3) n (by omega))).trans ?_;rw[hm];refine(aL rfl).trans ?_;refine(aE (show(0:Int)≤k by omega)).trans ?_;refine(aR hk).trans ?_;exact aF h5) (lp.ev (i:=()) rfl)
end Go.Abs.Xz
