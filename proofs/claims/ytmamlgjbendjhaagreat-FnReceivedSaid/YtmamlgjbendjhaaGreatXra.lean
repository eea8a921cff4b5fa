/- What the functions of this program answer, part ra. -/
import Derived.Test.YtmamlgjbendjhaaGreatXgu
import Derived.Test.YtmamlgjbendjhaaGreatW3
set_option linter.unusedVariables false
open Go.IntKind (i64)
namespace Go.Abs.Xz
open Go Go.Abs
theorem f256(a b:Int):Ran p 1 256 [.val false ⟨K3,(a,())⟩, .val false ⟨K3,(b,())⟩] ⟨[⟨K3,(mxI false a b,())⟩],[]⟩:=go256 fun n hn=>Ev.now fun aA=>by
 unfold T256;rw[A9]
 by_cases h:a<b
 ·refine(aE h).trans ?_;rw[show min a b=a by omega]
 ·refine(aI h).trans ?_;rw[show min a b=b by omega]
theorem f253(ms:List aR)(h2:ms.length≤maxLen):Ran p 3 253 [.val false ⟨K41,(ms,())⟩] ⟨[⟨K4,(dQ ms,())⟩],[]⟩:=go253 fun n hn=>by
 have inner:It (fun aA (_:Unit)=>c253_2 (aK p n) aA ms) (0:Int) (fun _=>oB (dQ ms)):=by
  refine bZ (It.allB ms.length (eX ms) true (fun i hi aA a rec=>?_) (It.stop fun aA a rec=>?_))
  ·have hb:i<9223372036854775807:=Nat.lt_of_lt_of_le hi h2
   show c253_2 (aK p n) aA ms rec (i:Int)=_
   unfold c253_2 eX;rw[aL hb];refine(aE (Int.ofNat_lt.2 hi)).trans ?_;refine bif_nn.trans ?_;refine(aJ hi).trans ?_;refine(aB (f250 (gt ms i).1 n (by omega))).trans ?_;refine chk fun _=>?_
   cases i with
   | zero=>refine(aI (by decide)).trans ?_;refine bif_nn.trans ?_;refine(aJ hi).trans ?_;refine(aB (f211 (gt ms 0).2.1 1 1000 n (by omega))).trans ?_;exact fin
   | succ j=>
    refine(aE (by omega)).trans ?_;refine bif_nn.trans ?_;refine(aJ hi).trans ?_;rw[gY hb (by omega)];refine bif_nn.trans ?_;refine(aJ (show j<ms.length by omega)).trans ?_;refine JY fun _=>?_
    refine bif_nn.trans ?_;refine(aJ hi).trans ?_;refine(aB (f211 (gt ms (j+1)).2.1 1 1000 n (by omega))).trans ?_;exact fin
  ·show c253_2 (aK p n) aA ms rec (ms.length:Int)=_
   unfold c253_2;refine(aI (Int.lt_irrefl _)).trans ?_;rfl
 exact Ev.eq (fun aA=>by unfold T253;rfl) (inner.ev (i:=()) rfl)
theorem f125(ms:List aR)(h2:ms.length≤maxLen):Ran p 3 125 [.val false ⟨K41,(ms,())⟩] ⟨[⟨K4,(dQ ms,())⟩],[]⟩:=go125 fun n hn=>by
 have inner:It (fun aA (_:Unit)=>c125_2 (aK p n) aA ms) (0:Int) (fun _=>oB (BG ms)):=by
  refine bZ (It.allB ms.length (gP ms) true (fun i hi aA a rec=>?_) (It.stop fun aA a rec=>?_))
  ·have hb:i<9223372036854775807:=Nat.lt_of_lt_of_le hi h2
   show c125_2 (aK p n) aA ms rec (i:Int)=_
   unfold c125_2 gP;rw[aL hb];refine(aE (Int.ofNat_lt.2 hi)).trans ?_;refine bif_nn.trans ?_;refine(aJ hi).trans ?_;refine(aB (f123 (gt ms i).1 n (by omega))).trans ?_;refine chk fun _=>?_;refine(aB (f100 (gt ms i).2.1 1 1000 n (by omega))).trans ?_;refine chk fun _=>?_
   cases i with
   | zero=>refine(aI (by decide)).trans ?_;rfl
   | succ j=>refine(aE (by omega)).trans ?_;rw[gY hb (by omega)];refine bif_nn.trans ?_;refine(aJ (show j<ms.length by omega)).trans ?_;exact zX
  ·show c125_2 (aK p n) aA ms rec (ms.length:Int)=_
   unfold c125_2;refine(aI (Int.lt_irrefl _)).trans ?_;rfl
 rw[GA] at inner
 exact Ev.eq (fun aA=>by unfold T125;rfl) (inner.ev (i:=()) rfl)
theorem f234(s:aH)(hz:SzS s):Ran p 5 234 [.val true ⟨K27,s⟩] ⟨[⟨K41,(cB s,())⟩],[]⟩:=go234 fun n hn=>by
 have lp:It (fun aA (_:Unit)=>c234_3 (aK p n) aA s) ((0:Int),([]:List aR)) (fun _=>some ⟨[⟨K41,(cB s,())⟩],[]⟩):=by
  refine It.accu (α:=aR) [] (f7 s) 5 1 (fun i _=>l9 s i) (fun i hi acc ha aA u rec=>?_) (It.stop fun aA u rec=>?_)
  ·show c234_3 (aK p n) aA s rec ((i:Int),acc)=rec (((i+1:Nat):Int),acc++f7 s i)
   have hb:acc.length+1≤bound+(1 - (f7 s i).length):=by simp at ha;unfold bound;omega
   unfold c234_3 f7;dsimp only;rw[aL (show i<9223372036854775807 by omega)];refine(aE (show(i:Int)<5 by omega)).trans ?_;refine(aB (f316 s (i:Int) hz n (by omega))).trans ?_
   by_cases h:gone s i>0
   ·refine(aE h).trans ?_;refine(aE (by
     unfold f7 at hb;rw[decide_eq_true h] at hb;exact hb)).trans ?_;rw[decide_eq_true h];rfl
   ·refine(aI h).trans ?_;rw[decide_eq_false h];show rec _=rec _;rw[show(bif false then[((i:Int),gone s i,())] else[])=([]:List aR)from rfl,List.append_nil];rfl
  ·show c234_3 (aK p n) aA s rec ((5:Int),cB s)=_
   unfold c234_3;dsimp only;refine(aI (Int.lt_irrefl _)).trans ?_;rfl
 exact Ev.eq (fun aA=>by unfold T234;rfl) (lp.ev (i:=()) rfl)
theorem f223(s:aH)(hz:SzS s):Ran p 5 223 [.val true ⟨K27,s⟩] ⟨[⟨K41,(cB s,())⟩],[]⟩:=go223 fun n hn=>by
 have lp:It (fun aA (_:Unit)=>c223_3 (aK p n) aA s) ((0:Int),([]:List aR)) (fun _=>some ⟨[⟨K41,(cB s,())⟩],[]⟩):=by
  refine It.accu (α:=aR) [] (f7 s) 5 1 (fun i _=>l9 s i) (fun i hi acc ha aA u rec=>?_) (It.stop fun aA u rec=>?_)
  ·show c223_3 (aK p n) aA s rec ((i:Int),acc)=rec (((i+1:Nat):Int),acc++f7 s i)
   have hb:acc.length+1≤bound+(1 - (f7 s i).length):=by simp at ha;unfold bound;omega
   unfold c223_3 f7;dsimp only;rw[aL (show i<9223372036854775807 by omega)];refine(aE (show(i:Int)<5 by omega)).trans ?_;refine(aB (f311 s (i:Int) hz n (by omega))).trans ?_
   by_cases h:gone s i>0
   ·refine(aE h).trans ?_;refine(aE (by
     unfold f7 at hb;rw[decide_eq_true h] at hb;exact hb)).trans ?_;rw[decide_eq_true h];rfl
   ·refine(aI h).trans ?_;rw[decide_eq_false h];show rec _=rec _;rw[show(bif false then[((i:Int),gone s i,())] else[])=([]:List aR)from rfl,List.append_nil];rfl
  ·show c223_3 (aK p n) aA s rec ((5:Int),cB s)=_
   unfold c223_3;dsimp only;refine(aI (Int.lt_irrefl _)).trans ?_;rfl
 exact Ev.eq (fun aA=>by unfold T223;rfl) (lp.ev (i:=()) rfl)
theorem aZ{α β:Type}[Inhabited α]{xs:List α}{i:Nat}{f:α→Option β}(h:i<xs.length):(at? xs i).bind f=f (gt xs i):=by
 rw[J3 h,cV h];rfl
theorem f255(v:List aX)(k m:Int)(hv:v.length≤aU):Ran p 2 255 [.val false ⟨K28,(v,())⟩, .val false ⟨K3,(k,())⟩, .val false ⟨K3,(m,())⟩] ⟨[⟨K28,(bU v k m,())⟩],[]⟩:=go255 fun n hn=>Ev.now fun aA=>by
 unfold T255 bU;refine(aE (gJ hv)).trans ?_;refine(aB (f211 k 0 (i64.wrap (((v.length:Nat):Int) - 1)) n (by omega))).trans ?_
 cases hb:inB k 0 (i64.wrap (((v.length:Nat):Int) - 1))with
 | false=>rfl
 | true=>
  obtain⟨hk,e⟩:=kO hv hb
  refine(aN rfl).trans ?_;refine(aE (show(0:Int)≤k by omega)).trans ?_;refine(aZ hk).trans ?_
  by_cases h:m>(gt v k.toNat).1
  ·refine(aE h).trans ?_;refine(aE (show(0:Int)≤k by omega)).trans ?_;refine(aZ hk).trans ?_;refine(aZ hk).trans ?_
   rw[mU,show max (gt v k.toNat).1 m=m by omega];rfl
  ·refine(aI h).trans ?_;rw[mU,show max (gt v k.toNat).1 m=(gt v k.toNat).1 by omega]
   show(some ⟨[⟨K28,(v,())⟩],[]⟩:Option Out)=some ⟨[⟨K28,(v.set k.toNat (gt v k.toNat),())⟩],[]⟩
   rw[nD]
theorem f236(v:List aX)(k m:Int)(hv:v.length≤aU):Ran p 2 236 [.val false ⟨K28,(v,())⟩, .val false ⟨K3,(k,())⟩, .val false ⟨K3,(m,())⟩] ⟨[⟨K28,(bU v k m,())⟩],[]⟩:=go236 fun n hn=>Ev.now fun aA=>by
 unfold T236 bU;refine(aB (f98 v hv n (by omega))).trans ?_;refine(aB (f100 k 0 (i64.wrap (((v.length:Nat):Int) - 1)) n (by omega))).trans ?_
 cases hb:inB k 0 (i64.wrap (((v.length:Nat):Int) - 1))with
 | false=>rfl
 | true=>
  obtain⟨hk,e⟩:=kO hv hb
  refine(aN rfl).trans ?_;refine(aE (show(0:Int)≤k by omega)).trans ?_;refine(aZ hk).trans ?_;refine(aE (show(0:Int)≤k by omega)).trans ?_;refine(aZ hk).trans ?_;refine(aZ hk).trans ?_;rfl
theorem rX{α:Type}(xs:List α)(i:Nat)(a b:α):(xs.set i a).set i b=xs.set i b:=by simp
theorem f257(t:List bQ)(k:Int)(ms:List aR)(h1:t.length≤aU)(h2:∀ i,i<t.length→(gt t i).1.length≤aU)(h3:ms.length≤aU):Ran p 4 257 [.val false ⟨K34,(t,())⟩, .val false ⟨K3,(k,())⟩, .val false ⟨K41,(ms,())⟩] ⟨[⟨K34,(bB t k ms,())⟩],[]⟩:=go257 fun n hn=>by
 cases hb:inB k 0 (i64.wrap (((t.length:Nat):Int) - 1))with
 | false=>exact Ev.now fun aA=>by show T257 (aK p n) aA t k ms=_;unfold T257;refine(aB (f226 t h1 h2 n (by omega))).trans ?_;refine(aB (f211 k 0 (i64.wrap (((t.length:Nat):Int) - 1)) n (by omega))).trans ?_;rw[hb,show bB t k ms=t by unfold bB kF;rw[hb];rfl];rfl
 | true=>
  obtain⟨hk,e⟩:=kO h1 hb
  cases hm:dQ ms with
  | false=>exact Ev.now fun aA=>by show T257 (aK p n) aA t k ms=_;unfold T257;refine(aB (f226 t h1 h2 n (by omega))).trans ?_;refine(aB (f211 k 0 (i64.wrap (((t.length:Nat):Int) - 1)) n (by omega))).trans ?_;rw[hb];refine(aF rfl).trans ?_;refine(aB (f253 ms (aP h3) n (by omega))).trans ?_;rw[hm,show bB t k ms=t by unfold bB kF;rw[hb,hm];rfl];rfl
  | true=>
   by_cases h5:(((gt t k.toNat).1.length:Nat):Int)<5
   ·exact Ev.now fun aA=>by show T257 (aK p n) aA t k ms=_;unfold T257;refine(aB (f226 t h1 h2 n (by omega))).trans ?_;refine(aB (f211 k 0 (i64.wrap (((t.length:Nat):Int) - 1)) n (by omega))).trans ?_;rw[hb];refine(aF rfl).trans ?_;refine(aB (f253 ms (aP h3) n (by omega))).trans ?_;rw[hm];refine(aF rfl).trans ?_;refine(aE (show(0:Int)≤k by omega)).trans ?_;refine(aZ hk).trans ?_;refine(aE h5).trans ?_;rw[show bB t k ms=t by unfold bB kF;rw[hb,hm,decide_eq_true h5];rfl]
   ·have lp:It (fun aA (_:Unit)=>c257_5 (aK p n) aA k ms) ((0:Int),t) (fun _=>some ⟨[⟨K34,(bB t k ms,())⟩],[]⟩):=by
     have h0:=qB t k.toNat ms
     refine cast (congrArg (fun z=>It (fun aA (_:Unit)=>c257_5 (aK p n) aA k ms) ((0:Int),z) (fun _=>some ⟨[⟨K34,(bB t k ms,())⟩],[]⟩)) h0) ?_
     refine It.run (fun i=>((i:Int),bO t k.toNat ms i)) ms.length (fun i hi aA u rec=>?_) (It.stop fun aA u rec=>?_)
     ·show c257_5 (aK p n) aA k ms rec ((i:Int),bO t k.toNat ms i)=rec (((i+1:Nat):Int),bO t k.toNat ms (i+1))
      have hd:=q9 hm hi
      have hl:k.toNat<(bO t k.toNat ms i).length:=by unfold bO;rw[List.length_set];exact hk
      have hg:gt (bO t k.toNat ms i) k.toNat=iS (gt t k.toNat) ms i:=cC hk _
      have hr:(gt ms i).1.toNat<(gt (bO t k.toNat ms i) k.toNat).1.length:=by rw[hg,jX];omega
      have hp:(0:Int)≤k:=by omega
      unfold c257_5;dsimp only;rw[aL (i63 hi h3)];refine(aE (Int.ofNat_lt.2 hi)).trans ?_;refine(aE hp).trans ?_;refine(aZ hl).trans ?_;refine(aZ hl).trans ?_;refine bif_nn.trans ?_;refine(aJ hi).trans ?_;refine(aE hp).trans ?_;refine(aZ hl).trans ?_;refine(aZ hl).trans ?_;refine bif_nn.trans ?_;refine(aJ hi).trans ?_;refine(aE hd.1).trans ?_;refine(aZ hl).trans ?_;refine(aZ hr).trans ?_;refine(aZ hl).trans ?_;refine(aZ hr).trans ?_;refine bif_nn.trans ?_;refine(aJ hi).trans ?_
      refine(aB (f248 (gt (gt (bO t k.toNat ms i) k.toNat).1 (gt ms i).1.toNat).1 (gt ms i).2.1 n (by omega))).trans ?_;refine(aE hd.1).trans ?_;refine(aZ hl).trans ?_;refine(aZ hr).trans ?_;refine(aZ hl).trans ?_;refine(aZ hr).trans ?_
      refine congrArg (fun z=>rec (((i+1:Nat):Int),z)) ?_
      show(bO t k.toNat ms i).set k.toNat (vC (gt (bO t k.toNat ms i) k.toNat) (gt ms i))=bO t k.toNat ms (i+1)
      rw[hg];exact rX ..
     ·show c257_5 (aK p n) aA k ms rec ((ms.length:Int),bO t k.toNat ms ms.length)=_
      unfold c257_5;dsimp only;refine(aI (Int.lt_irrefl _)).trans ?_;rw[show bB t k ms=bO t k.toNat ms ms.length by unfold bB kF;rw[hb,hm,decide_eq_false h5];rfl]
    exact Ev.eq (fun aA=>by unfold T257;refine(aB (f226 t h1 h2 n (by omega))).trans ?_;refine(aB (f211 k 0 (i64.wrap (((t.length:Nat):Int) - 1)) n (by omega))).trans ?_;rw[hb];refine(aF rfl).trans ?_;refine(aB (f253 ms (aP h3) n (by omega))).trans ?_;rw[hm];refine(aF rfl).trans ?_;refine(aE (show(0:Int)≤k by omega)).trans ?_;refine(aZ hk).trans ?_;exact aI h5) (lp.ev (i:=()) rfl)
theorem f237(t:List bQ)(k:Int)(ms:List aR)(h1:t.length≤aU)(h2:∀ i,i<t.length→(gt t i).1.length≤aU)(h3:ms.length≤aU):Ran p 4 237 [.val false ⟨K34,(t,())⟩, .val false ⟨K3,(k,())⟩, .val false ⟨K41,(ms,())⟩] ⟨[⟨K34,(bB t k ms,())⟩],[]⟩:=go237 fun n hn=>by
 cases hb:inB k 0 (i64.wrap (((t.length:Nat):Int) - 1))with
 | false=>exact Ev.now fun aA=>by show T237 (aK p n) aA t k ms=_;unfold T237;refine(aB (f222 t h1 h2 n (by omega))).trans ?_;refine(aB (f100 k 0 (i64.wrap (((t.length:Nat):Int) - 1)) n (by omega))).trans ?_;rw[hb,show bB t k ms=t by unfold bB kF;rw[hb];rfl];rfl
 | true=>
  obtain⟨hk,e⟩:=kO h1 hb
  cases hm:dQ ms with
  | false=>exact Ev.now fun aA=>by show T237 (aK p n) aA t k ms=_;unfold T237;refine(aB (f222 t h1 h2 n (by omega))).trans ?_;refine(aB (f100 k 0 (i64.wrap (((t.length:Nat):Int) - 1)) n (by omega))).trans ?_;rw[hb];refine(aF rfl).trans ?_;refine(aB (f125 ms (aP h3) n (by omega))).trans ?_;rw[hm,show bB t k ms=t by unfold bB kF;rw[hb,hm];rfl];rfl
  | true=>
   by_cases h5:(((gt t k.toNat).1.length:Nat):Int)<5
   ·exact Ev.now fun aA=>by show T237 (aK p n) aA t k ms=_;unfold T237;refine(aB (f222 t h1 h2 n (by omega))).trans ?_;refine(aB (f100 k 0 (i64.wrap (((t.length:Nat):Int) - 1)) n (by omega))).trans ?_;rw[hb];refine(aF rfl).trans ?_;refine(aB (f125 ms (aP h3) n (by omega))).trans ?_;rw[hm];refine(aF rfl).trans ?_;refine(aE (show(0:Int)≤k by omega)).trans ?_;refine(aZ hk).trans ?_;refine(aE h5).trans ?_;rw[show bB t k ms=t by unfold bB kF;rw[hb,hm,decide_eq_true h5];rfl]
   ·have lp:It (fun aA (_:Unit)=>c237_5 (aK p n) aA k ms) ((0:Int),t) (fun _=>some ⟨[⟨K34,(bB t k ms,())⟩],[]⟩):=by
     have h0:=qB t k.toNat ms
     refine cast (congrArg (fun z=>It (fun aA (_:Unit)=>c237_5 (aK p n) aA k ms) ((0:Int),z) (fun _=>some ⟨[⟨K34,(bB t k ms,())⟩],[]⟩)) h0) ?_
     refine It.run (fun i=>((i:Int),bO t k.toNat ms i)) ms.length (fun i hi aA u rec=>?_) (It.stop fun aA u rec=>?_)
     ·show c237_5 (aK p n) aA k ms rec ((i:Int),bO t k.toNat ms i)=rec (((i+1:Nat):Int),bO t k.toNat ms (i+1))
      have hd:=q9 hm hi
      have hl:k.toNat<(bO t k.toNat ms i).length:=by unfold bO;rw[List.length_set];exact hk
      have hg:gt (bO t k.toNat ms i) k.toNat=iS (gt t k.toNat) ms i:=cC hk _
      have hr:(gt ms i).1.toNat<(gt (bO t k.toNat ms i) k.toNat).1.length:=by rw[hg,jX];omega
      have hp:(0:Int)≤k:=by omega
      unfold c237_5;dsimp only;rw[aL (i63 hi h3)];refine(aE (Int.ofNat_lt.2 hi)).trans ?_;refine bif_nn.trans ?_;refine(aJ hi).trans ?_;refine(aE hp).trans ?_;refine(aZ hl).trans ?_;refine(aZ hl).trans ?_;refine(aE hp).trans ?_;refine(aZ hl).trans ?_;refine(aZ hl).trans ?_;refine(aE hd.1).trans ?_;refine(aZ hl).trans ?_;refine(aZ hr).trans ?_;refine(aZ hl).trans ?_;refine(aZ hr).trans ?_;refine(aE hd.1).trans ?_;refine(aZ hl).trans ?_;refine(aZ hr).trans ?_;refine(aZ hl).trans ?_;refine(aZ hr).trans ?_
      refine congrArg (fun z=>rec (((i+1:Nat):Int),z)) ?_
      show(bO t k.toNat ms i).set k.toNat (vC (gt (bO t k.toNat ms i) k.toNat) (gt ms i))=bO t k.toNat ms (i+1)
      rw[hg];exact rX ..
     ·show c237_5 (aK p n) aA k ms rec ((ms.length:Int),bO t k.toNat ms ms.length)=_
      unfold c237_5;dsimp only;refine(aI (Int.lt_irrefl _)).trans ?_;rw[show bB t k ms=bO t k.toNat ms ms.length by unfold bB kF;rw[hb,hm,decide_eq_false h5];rfl]
    exact Ev.eq (fun aA=>by unfold T237;refine(aB (f222 t h1 h2 n (by omega))).trans ?_;refine(aB (f100 k 0 (i64.wrap (((t.length:Nat):Int) - 1)) n (by omega))).trans ?_;rw[hb];refine(aF rfl).trans ?_;refine(aB (f125 ms (aP h3) n (by omega))).trans ?_;rw[hm];refine(aF rfl).trans ?_;refine(aE (show(0:Int)≤k by omega)).trans ?_;refine(aZ hk).trans ?_;exact aI h5) (lp.ev (i:=()) rfl)
end Go.Abs.Xz
