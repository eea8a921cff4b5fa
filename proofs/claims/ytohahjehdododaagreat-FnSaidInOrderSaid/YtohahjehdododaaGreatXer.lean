/- What the functions of this program answer, part er. -/
import Derived.Test.YtohahjehdododaaGreatXgn
import Derived.Test.YtohahjehdododaaGreatW3
import Derived.Test.YtohahjehdododaaGreatXep
import Derived.Test.YtohahjehdododaaGreatW4
set_option linter.unusedVariables false
open Go.IntKind (i64)
namespace Go.Abs.Wz
open Go Go.Abs
theorem nA{α:Type}[Inhabited α]{xs:List α}{i:Nat}(h:i<xs.length):xs.take i++[gt xs i]=xs.take (i+1):=by
 rw[cY h];exact List.take_append_getElem h
theorem kM{α β:Type}{xs:List β}(h:xs.length<=aW):List.length ([]:List α)+xs.length<=bound:=by
 show 0+xs.length<=bound;unfold aW at h;unfold bound;omega
theorem tN{α:Type}{xs:List α}(h:xs.length<=aW)(i:Nat):(xs.take i).length+1<=bound:=by
 rw[List.length_take];unfold aW at h;unfold bound;omega
theorem i63{i k:Nat}(h:i<k)(hk:k<=aW):i<9223372036854775807:=by unfold aW at hk;omega
theorem f80(s:aH)(hz:SzS s):Ran p 1 80 [va K34 s] (rO K34 s):=go80 λn hn=>Ev.now λaA=>by
 show T80 (aK p n) aA s=rV K34 s
 unfold T80;refine(aE (kM hz.a)).trans ?_;refine(aE (kM hz.b)).trans ?_;rfl
theorem f109(t:mU)(h:t.1.length<=aW):Ran p 1 109 [va K46 t] (rO K46 t):=go109 λn hn=>Ev.now λaA=>by
 show T109 (aK p n) aA t=rV K46 t
 unfold T109;refine(aE (kM h)).trans ?_;rfl
theorem f111(ts:List bT)(h1:ts.length<=aW)(h2:∀ i,i<ts.length->(gt ts i).1.length<=aW):Ran p 1 111 [vf K50 (ts,())] (rO K50 (ts,())):=go111 λn hn=>by
 have lp:It (λaA (_:Unit)=>c111_3 (aK p n) aA ts) ((0:Int),([]:List bT)) (λ_=>rV K50 (ts,())):=by
  refine It.run (λi=>((i:Int),ts.take i)) ts.length (λi hi aA u rec=>?_) (It.stop λaA u rec=>?_)
  ·show c111_3 (aK p n) aA ts rec ((i:Int),ts.take i)=rec (((i+1:Nat):Int),ts.take (i+1))
   unfold c111_3;dsimp only;rw[aM (i63 hi h1)];refine(aE (Int.ofNat_lt.2 hi)).trans ?_;refine bif_nn.trans ?_;refine(aJ hi).trans ?_
   refine(aE (kM (h2 i hi))).trans ?_;refine(aE (tN h1 i)).trans ?_;rw[<- nA hi];rfl
  ·show c111_3 (aK p n) aA ts rec ((ts.length:Int),ts.take ts.length)=_
   refine(congrArg (λl=>c111_3 (aK p n) aA ts rec ((ts.length:Int),l)) (List.take_length (l:=ts))).trans ?_
   unfold c111_3;dsimp only;refine(aI (Int.lt_irrefl _)).trans ?_;rfl
 exact Ev.eq (λaA=>by unfold T111;rfl) (lp.ev (i:=()) rfl)
theorem f110(l:gR)(h1:l.2.2.1.length<=aW)(h2:∀ i,i<l.2.2.1.length->SzS (gt l.2.2.1 i)):Ran p 2 110 [va K49 l] (rO K49 l):=go110 λn hn=>by
 have lp:It (λaA (_:Unit)=>c110_3 (aK p n) aA l) ((0:Int),([]:List aH)) (λ_=>rV K49 l):=by
  refine It.run (λi=>((i:Int),l.2.2.1.take i)) l.2.2.1.length (λi hi aA u rec=>?_) (It.stop λaA u rec=>?_)
  ·show c110_3 (aK p n) aA l rec ((i:Int),l.2.2.1.take i)=rec (((i+1:Nat):Int),l.2.2.1.take (i+1))
   unfold c110_3;dsimp only;rw[aM (i63 hi h1)];refine(aE (Int.ofNat_lt.2 hi)).trans ?_;refine bif_nn.trans ?_;refine(aJ hi).trans ?_
   refine(aB (f80 (gt l.2.2.1 i) (h2 i hi) n (by omega))).trans ?_;refine(aE (tN h1 i)).trans ?_;rw[<- nA hi];rfl
  ·show c110_3 (aK p n) aA l rec ((l.2.2.1.length:Int),l.2.2.1.take l.2.2.1.length)=_
   refine(congrArg (λq=>c110_3 (aK p n) aA l rec ((l.2.2.1.length:Int),q)) (List.take_length (l:=l.2.2.1))).trans ?_
   unfold c110_3;dsimp only;refine(aI (Int.lt_irrefl _)).trans ?_;rfl
 exact Ev.eq (λaA=>by unfold T110;rfl) (lp.ev (i:=()) rfl)
theorem f79(k:eA)(h:k.2.1.length<=aW):Ran p 1 79 [va K77 k] (rO K77 k):=go79 λn hn=>Ev.now λaA=>by
 show T79 (aK p n) aA k=rV K77 k
 unfold T79;refine(aE (kM h)).trans ?_;rfl
theorem f78(x:NodeT)(hz:SzN x):Ran p 3 78 [va K54 x] (rO K54 x):=go78 λn hn=>Ev.now λaA=>by
 show T78 (aK p n) aA x=rV K54 x
 unfold T78
 refine(aB (f80 x.state hz.state n (by omega))).trans ?_
 refine(aB (f109 x.tree hz.leaves n (by omega))).trans ?_
 refine(aB (f110 x.log hz.list hz.logs n (by omega))).trans ?_
 refine(aE (kM hz.got)).trans ?_;refine(aE (kM hz.acked)).trans ?_
 refine(aB (f111 x.seen hz.seen hz.lines n (by omega))).trans ?_
 refine(aE (kM hz.sess)).trans ?_;refine(aE (kM hz.rises)).trans ?_
 rfl
structure SzX (w:a9):Prop extends SzW w where
 bytes:∀ i,i<w.2.1.length->(gt w.2.1 i).2.1.length<=aW
theorem f41(w:a9)(hz:SzX w):Ran p 4 41 [va K28 w] (rO K28 w):=go41 λn hn=>by
 have said:It (λaA (_:Unit)=>c41_11 (aK p n) aA w w.1 w.2.1) ((0:Int),([]:List CT)) (λ_=>rV K28 w):=by
  refine It.run (λi=>((i:Int),w.2.2.1.take i)) w.2.2.1.length (λi hi aA u rec=>?_) (It.stop λaA u rec=>?_)
  ·show c41_11 (aK p n) aA w w.1 w.2.1 rec ((i:Int),w.2.2.1.take i)=rec (((i+1:Nat):Int),w.2.2.1.take (i+1))
   unfold c41_11;dsimp only;rw[aM (i63 hi hz.said)];refine(aE (Int.ofNat_lt.2 hi)).trans ?_;refine bif_nn.trans ?_;refine(aJ hi).trans ?_
   refine bif_nn.trans ?_;refine(aJ hi).trans ?_
   refine(aB (f80 (gt w.2.2.1 i).2 (hz.part i hi) n (by omega))).trans ?_;refine(aE (tN hz.said i)).trans ?_;rw[<- nA hi];rfl
  ·show c41_11 (aK p n) aA w w.1 w.2.1 rec ((w.2.2.1.length:Int),w.2.2.1.take w.2.2.1.length)=_
   refine(congrArg (λl=>c41_11 (aK p n) aA w w.1 w.2.1 rec ((w.2.2.1.length:Int),l)) (List.take_length (l:=w.2.2.1))).trans ?_
   unfold c41_11;dsimp only;refine(aI (Int.lt_irrefl _)).trans ?_;rfl
 have net:It (λaA (_:Unit)=>c41_7 (aK p n) aA w w.1) ((0:Int),([]:List eA)) (λ_=>rV K28 w):=by
  refine It.run (λi=>((i:Int),w.2.1.take i)) w.2.1.length (λi hi aA u rec=>?_) (It.stopE (T:=λaA _=>iter (c41_11 (aK p n) aA w w.1 w.2.1) aA ((0:Int),([]:List CT))) (λaA u rec=>?_) said.all_i)
  ·show c41_7 (aK p n) aA w w.1 rec ((i:Int),w.2.1.take i)=rec (((i+1:Nat):Int),w.2.1.take (i+1))
   unfold c41_7;dsimp only;rw[aM (i63 hi hz.net)];refine(aE (Int.ofNat_lt.2 hi)).trans ?_;refine bif_nn.trans ?_;refine(aJ hi).trans ?_
   refine(aB (f79 (gt w.2.1 i) (hz.bytes i hi) n (by omega))).trans ?_;refine(aE (tN hz.net i)).trans ?_;rw[<- nA hi];rfl
  ·show c41_7 (aK p n) aA w w.1 rec ((w.2.1.length:Int),w.2.1.take w.2.1.length)=_
   refine(congrArg (λl=>c41_7 (aK p n) aA w w.1 rec ((w.2.1.length:Int),l)) (List.take_length (l:=w.2.1))).trans ?_
   unfold c41_7;dsimp only;refine(aI (Int.lt_irrefl _)).trans ?_;rfl
 have nodes:It (λaA (_:Unit)=>c41_3 (aK p n) aA w) ((0:Int),([]:List NodeT)) (λ_=>rV K28 w):=by
  refine It.run (λi=>((i:Int),w.1.take i)) w.1.length (λi hi aA u rec=>?_) (It.stopE (T:=λaA _=>iter (c41_7 (aK p n) aA w w.1) aA ((0:Int),([]:List eA))) (λaA u rec=>?_) net.all_i)
  ·show c41_3 (aK p n) aA w rec ((i:Int),w.1.take i)=rec (((i+1:Nat):Int),w.1.take (i+1))
   unfold c41_3;dsimp only;rw[aM (i63 hi hz.nodes)];refine(aE (Int.ofNat_lt.2 hi)).trans ?_;refine bif_nn.trans ?_;refine(aJ hi).trans ?_
   refine(aB (f78 (gt w.1 i) (hz.node i hi) n (by omega))).trans ?_;refine(aE (tN hz.nodes i)).trans ?_;rw[<- nA hi];rfl
  ·show c41_3 (aK p n) aA w rec ((w.1.length:Int),w.1.take w.1.length)=_
   refine(congrArg (λl=>c41_3 (aK p n) aA w rec ((w.1.length:Int),l)) (List.take_length (l:=w.1))).trans ?_
   unfold c41_3;dsimp only;refine(aI (Int.lt_irrefl _)).trans ?_;rfl
 exact Ev.eq (λaA=>by unfold T41;rfl) (nodes.ev (i:=()) rfl)
end Go.Abs.Wz
namespace Go.Abs.Wz
open Go Go.Abs
def BJ(x:eF):eF:=(x.1,x.2.1,x.2.2.1,i64.wrap (x.2.2.2.1+1),())
def pR(x:NodeT)(i:Nat):List eF:=bif decide (i64.wrap ((gt x.sess i).2.2.2.1+1)<=x.wait)then[BJ (gt x.sess i)] else[]
theorem BK(x:NodeT)(i:Nat):(pR x i).length<=1:=by
 unfold pR;cases decide (i64.wrap ((gt x.sess i).2.2.2.1+1)<=x.wait)<;>simp
def yO(y:NodeT):NodeT:=(y.1,y.2.1,y.2.2.1,y.2.2.2.1,y.2.2.2.2.1,y.2.2.2.2.2.1,y.2.2.2.2.2.2.1,y.2.2.2.2.2.2.2.1,y.2.2.2.2.2.2.2.2.1,y.2.2.2.2.2.2.2.2.2.1,y.2.2.2.2.2.2.2.2.2.2.1,y.2.2.2.2.2.2.2.2.2.2.2.1,y.2.2.2.2.2.2.2.2.2.2.2.2.1,y.2.2.2.2.2.2.2.2.2.2.2.2.2.1,bN y.sess.length (pR y),y.wait,y.limit,i64.wrap (y.clock+1),y.rises,())
def mE(x:NodeT):NodeT:=bif dY x then(bif x.clock==100000 then x else yO x)else x
theorem BL(x:NodeT):(yO x).sess.length<=x.sess.length:=by
 have:=dE (g:=pR x) (L:=1) (n:=x.sess.length) λi _=>BK x i
 show(bN x.sess.length (pR x)).length<=x.sess.length
 omega
theorem EJ{x:NodeT}(h:SzN x):SzN (mE x):=by
 unfold mE
 cases dY x with
 | false=>exact h
 | true=>
  cases x.clock==100000 with
  | true=>exact h
  | false=>exact⟨h.state,h.leaves,h.list,h.logs,h.got,h.acked,h.seen,h.lines,Nat.le_trans (BL x) h.sess,h.rises⟩

theorem f42(x:NodeT)(hz:SzN x):Ran p 8 42 [va K54 x] (rO K54 (mE x)):=go42 λn hn=>by
 unfold mE
 cases ho:dY x with
 | false=>exact Ev.now λaA=>by show T42 (aK p n) aA x=rV K54 x;unfold T42;refine(aB (f78 x hz n (by omega))).trans ?_;refine(aB (f34 x hz n (by omega))).trans ?_;rw[ho];rfl
 | true=>
  cases hc:x.clock==100000 with
  | true=>exact Ev.now λaA=>by show T42 (aK p n) aA x=rV K54 x;unfold T42;refine(aB (f78 x hz n (by omega))).trans ?_;refine(aB (f34 x hz n (by omega))).trans ?_;rw[ho];refine(aF rfl).trans ?_;exact aL hc
  | false=>
   have lp:It (λaA (_:Unit)=>c42_7 (aK p n) aA x ((x,()),())) ((0:Int),([]:List eF)) (λ_=>rV K54 (yO x)):=by
    refine It.accu (α:=eF) [] (pR x) x.sess.length 1 (λi _=>BK x i) (λi hi acc ha aA u rec=>?_) (It.stop λaA u rec=>?_)
    ·show c42_7 (aK p n) aA x ((x,()),()) rec ((i:Int),acc)=rec (((i+1:Nat):Int),acc++pR x i)
     unfold c42_7 pR;dsimp only;rw[aM (i63 hi hz.sess)];refine(aE (Int.ofNat_lt.2 hi)).trans ?_;refine bif_nn.trans ?_;refine(aJ hi).trans ?_
     by_cases h:i64.wrap ((gt x.sess i).2.2.2.1+1)<=x.wait
     ·refine(aE h).trans ?_;refine(aE ?_).trans ?_
      ·have h1:(pR x i).length=1:=by unfold pR;rw[decide_eq_true h];rfl
       have h2:=hz.sess
       rw[h1] at ha
       show acc.length+1<=bound
       unfold aW at h2;unfold bound;simp at ha;omega
      ·rw[decide_eq_true h];rfl
     ·refine(aI h).trans ?_;rw[decide_eq_false h];show rec _=rec _;rw[show(bif false then[BJ (gt x.sess i)] else[])=([]:List eF)from rfl,List.append_nil];rfl
    ·show c42_7 (aK p n) aA x ((x,()),()) rec ((x.sess.length:Int),bN x.sess.length (pR x))=_
     unfold c42_7;dsimp only;refine(aI (Int.lt_irrefl _)).trans ?_;rfl
   exact Ev.eq (λaA=>by
    unfold T42;refine(aB (f78 x hz n (by omega))).trans ?_;refine(aB (f34 x hz n (by omega))).trans ?_;rw[ho];refine(aF rfl).trans ?_;exact aF hc) (lp.ev (i:=()) rfl)
theorem BN{α:Type}[Inhabited α]{c:α->Int}:∀ (xs ys:List α),xs.length=ys.length->(∀ j,j<xs.length->c (gt xs j)<=c (gt ys j))->gN c xs<=gN c ys
 | [],[],_,_=>Int.le_refl _
 | x::xs,y::ys,h,h2=>by
  have h3:c x<=c y:=h2 0 (Nat.zero_lt_succ _)
  have h4:=BN xs ys (by simpa using h) λj hj=>h2 (j+1) (Nat.succ_lt_succ hj)
  show c x+gN c xs<=c y+gN c ys
  omega
 | [],_::_,h,_=>by cases h
 | _::_,[],h,_=>by cases h
theorem Q2(xs:List eF):cnT (.sl K107) xs=4*(xs.length:Int):=jS (c:=cnR K107) (n:=4) (λx=>rfl) xs
end Go.Abs.Wz
namespace Go.Abs.Wz
open Go Go.Abs
theorem f167(a b:Int):Ran p 1 167 [vf K3 (a,()), vf K3 (b,())] (rO K3 (mxI false a b,())):=go167 λn hn=>Ev.now λaA=>by
 unfold T167;rw[FG]
 by_cases h:a<b
 ·refine(aE h).trans ?_;rw[show min a b=a by omega]
 ·refine(aI h).trans ?_;rw[show min a b=b by omega]
theorem f148(ms:List aR)(h2:ms.length<=maxLen):Ran p 3 148 [vf K140 (ms,())] (rO K4 (fG ms,())):=go148 λn hn=>by
 have inner:It (λaA (_:Unit)=>c148_2 (aK p n) aA ms) (0:Int) (λ_=>oB (fG ms)):=by
  refine cN (It.allB ms.length (f5 ms) true (λi hi aA a rec=>?_) (It.stop λaA a rec=>?_))
  ·have hb:i<9223372036854775807:=Nat.lt_of_lt_of_le hi h2
   show c148_2 (aK p n) aA ms rec (i:Int)=_
   unfold c148_2 f5;rw[aM hb];refine(aE (Int.ofNat_lt.2 hi)).trans ?_;refine bif_nn.trans ?_;refine(aJ hi).trans ?_;refine(aB (f52 (gt ms i).1 n (by omega))).trans ?_;refine chk λ_=>?_
   cases i with
   | zero=>refine(aI (by decide)).trans ?_;refine bif_nn.trans ?_;refine(aJ hi).trans ?_;refine(aB (f33 (gt ms 0).2.1 1 1000 n (by omega))).trans ?_;exact fin
   | succ j=>
    refine(aE (by omega)).trans ?_;refine bif_nn.trans ?_;refine(aJ hi).trans ?_;rw[lC hb (by omega)];refine bif_nn.trans ?_;refine(aJ (show j<ms.length by omega)).trans ?_;refine P1 λ_=>?_
    refine bif_nn.trans ?_;refine(aJ hi).trans ?_;refine(aB (f33 (gt ms (j+1)).2.1 1 1000 n (by omega))).trans ?_;exact fin
  ·show c148_2 (aK p n) aA ms rec (ms.length:Int)=_
   unfold c148_2;refine(aI (Int.lt_irrefl _)).trans ?_;rfl
 exact Ev.eq (λaA=>by unfold T148;rfl) (inner.ev (i:=()) rfl)
theorem f125(s:aH)(hz:SzS s):Ran p 5 125 [va K34 s] (rO K140 (cX s,())):=go125 λn hn=>by
 have lp:It (λaA (_:Unit)=>c125_3 (aK p n) aA s) ((0:Int),([]:List aR)) (λ_=>rV K140 (cX s,())):=by
  refine It.accu (α:=aR) [] (kN s) 5 1 (λi _=>sS s i) (λi hi acc ha aA u rec=>?_) (It.stop λaA u rec=>?_)
  ·show c125_3 (aK p n) aA s rec ((i:Int),acc)=rec (((i+1:Nat):Int),acc++kN s i)
   have hb:acc.length+1<=bound+(1 - (kN s i).length):=by simp at ha;unfold bound;omega
   unfold c125_3 kN;dsimp only;rw[aM (show i<9223372036854775807 by omega)];refine(aE (show(i:Int)<5 by omega)).trans ?_;refine(aB (f149 s (i:Int) hz n (by omega))).trans ?_
   by_cases h:gone s i>0
   ·refine(aE h).trans ?_;refine(aE (by
     unfold kN at hb;rw[decide_eq_true h] at hb;exact hb)).trans ?_;rw[decide_eq_true h];rfl
   ·refine(aI h).trans ?_;rw[decide_eq_false h];show rec _=rec _;rw[show(bif false then[((i:Int),gone s i,())] else[])=([]:List aR)from rfl,List.append_nil];rfl
  ·show c125_3 (aK p n) aA s rec ((5:Int),cX s)=_
   unfold c125_3;dsimp only;refine(aI (Int.lt_irrefl _)).trans ?_;rfl
 exact Ev.eq (λaA=>by unfold T125;rfl) (lp.ev (i:=()) rfl)
theorem bK{α β:Type}[Inhabited α]{xs:List α}{i:Nat}{f:α->Option β}(h:i<xs.length):(at? xs i).bind f=f (gt xs i):=by
 rw[P7 h,cY h];rfl
theorem f200(v:List aO)(k m:Int)(hv:v.length<=aW):Ran p 2 200 [vf K44 (v,()), vf K3 (k,()), vf K3 (m,())] (rO K44 (c7 v k m,())):=go200 λn hn=>Ev.now λaA=>by
 unfold T200 c7;refine(aE (kM hv)).trans ?_;refine(aB (f33 k 0 (i64.wrap ((v.length:Int) - 1)) n (by omega))).trans ?_
 cases hb:inB k 0 (i64.wrap ((v.length:Int) - 1))with
 | false=>rfl
 | true=>
  obtain⟨hk,e⟩:=yB hv hb
  refine(aL rfl).trans ?_;refine(aE (show(0:Int)<=k by omega)).trans ?_;refine(bK hk).trans ?_
  by_cases h:m>(gt v k.toNat).1
  ·refine(aE h).trans ?_;refine(aE (show(0:Int)<=k by omega)).trans ?_;refine(bK hk).trans ?_;refine(bK hk).trans ?_
   rw[rZ,show max (gt v k.toNat).1 m=m by omega];rfl
  ·refine(aI h).trans ?_;rw[rZ,show max (gt v k.toNat).1 m=(gt v k.toNat).1 by omega]
   show(rV K44 (v,()):Option Out)=rV K44 (v.set k.toNat (gt v k.toNat),())
   rw[sK]
theorem BO{α:Type}(xs:List α)(i:Nat)(a b:α):(xs.set i a).set i b=xs.set i b:=by simp
theorem f124(t:List bT)(k:Int)(ms:List aR)(h1:t.length<=aW)(h2:∀ i,i<t.length->(gt t i).1.length<=aW)(h3:ms.length<=aW):Ran p 4 124 [vf K50 (t,()), vf K3 (k,()), vf K140 (ms,())] (rO K50 (bP t k ms,())):=go124 λn hn=>by
 cases hb:inB k 0 (i64.wrap ((t.length:Int) - 1))with
 | false=>exact Ev.now λaA=>by show T124 (aK p n) aA t k ms=_;unfold T124;refine(aB (f111 t h1 h2 n (by omega))).trans ?_;refine(aB (f33 k 0 (i64.wrap ((t.length:Int) - 1)) n (by omega))).trans ?_;rw[hb,show bP t k ms=t by unfold bP pG;rw[hb];rfl];rfl
 | true=>
  obtain⟨hk,e⟩:=yB h1 hb
  cases hm:fG ms with
  | false=>exact Ev.now λaA=>by show T124 (aK p n) aA t k ms=_;unfold T124;refine(aB (f111 t h1 h2 n (by omega))).trans ?_;refine(aB (f33 k 0 (i64.wrap ((t.length:Int) - 1)) n (by omega))).trans ?_;rw[hb];refine(aF rfl).trans ?_;refine(aB (f148 ms (aZ h3) n (by omega))).trans ?_;rw[hm,show bP t k ms=t by unfold bP pG;rw[hb,hm];rfl];rfl
  | true=>
   by_cases h5:(((gt t k.toNat).1.length:Nat):Int)<5
   ·exact Ev.now λaA=>by show T124 (aK p n) aA t k ms=_;unfold T124;refine(aB (f111 t h1 h2 n (by omega))).trans ?_;refine(aB (f33 k 0 (i64.wrap ((t.length:Int) - 1)) n (by omega))).trans ?_;rw[hb];refine(aF rfl).trans ?_;refine(aB (f148 ms (aZ h3) n (by omega))).trans ?_;rw[hm];refine(aF rfl).trans ?_;refine(aE (show(0:Int)<=k by omega)).trans ?_;refine(bK hk).trans ?_;refine(aE h5).trans ?_;rw[show bP t k ms=t by unfold bP pG;rw[hb,hm,decide_eq_true h5];rfl]
   ·have lp:It (λaA (_:Unit)=>c124_5 (aK p n) aA k ms) ((0:Int),t) (λ_=>rV K50 (bP t k ms,())):=by
     have h0:=C2 t k.toNat ms
     refine cast (congrArg (λz=>It (λaA (_:Unit)=>c124_5 (aK p n) aA k ms) ((0:Int),z) (λ_=>rV K50 (bP t k ms,()))) h0) ?_
     refine It.run (λi=>((i:Int),cR t k.toNat ms i)) ms.length (λi hi aA u rec=>?_) (It.stop λaA u rec=>?_)
     ·show c124_5 (aK p n) aA k ms rec ((i:Int),cR t k.toNat ms i)=rec (((i+1:Nat):Int),cR t k.toNat ms (i+1))
      have hd:=uG hm hi
      have hl:k.toNat<(cR t k.toNat ms i).length:=by unfold cR;rw[List.length_set];exact hk
      have hg:gt (cR t k.toNat ms i) k.toNat=kH (gt t k.toNat) ms i:=cC hk _
      have hr:(gt ms i).1.toNat<(gt (cR t k.toNat ms i) k.toNat).1.length:=by rw[hg,nY];omega
      have hp:(0:Int)<=k:=by omega
      unfold c124_5;dsimp only;rw[aM (i63 hi h3)];refine(aE (Int.ofNat_lt.2 hi)).trans ?_;refine(aE hp).trans ?_;refine(bK hl).trans ?_;refine(bK hl).trans ?_;refine bif_nn.trans ?_;refine(aJ hi).trans ?_;refine(aE hp).trans ?_;refine(bK hl).trans ?_;refine(bK hl).trans ?_;refine bif_nn.trans ?_;refine(aJ hi).trans ?_;refine(aE hd.1).trans ?_;refine(bK hl).trans ?_;refine(bK hr).trans ?_;refine(bK hl).trans ?_;refine(bK hr).trans ?_;refine bif_nn.trans ?_;refine(aJ hi).trans ?_
      refine(aB (f61 (gt (gt (cR t k.toNat ms i) k.toNat).1 (gt ms i).1.toNat).1 (gt ms i).2.1 n (by omega))).trans ?_;refine(aE hd.1).trans ?_;refine(bK hl).trans ?_;refine(bK hr).trans ?_;refine(bK hl).trans ?_;refine(bK hr).trans ?_
      refine congrArg (λz=>rec (((i+1:Nat):Int),z)) ?_
      show(cR t k.toNat ms i).set k.toNat (DC (gt (cR t k.toNat ms i) k.toNat) (gt ms i))=cR t k.toNat ms (i+1)
      rw[hg];exact BO ..
     ·show c124_5 (aK p n) aA k ms rec ((ms.length:Int),cR t k.toNat ms ms.length)=_
      unfold c124_5;dsimp only;refine(aI (Int.lt_irrefl _)).trans ?_;rw[show bP t k ms=cR t k.toNat ms ms.length by unfold bP pG;rw[hb,hm,decide_eq_false h5];rfl]
    exact Ev.eq (λaA=>by unfold T124;refine(aB (f111 t h1 h2 n (by omega))).trans ?_;refine(aB (f33 k 0 (i64.wrap ((t.length:Int) - 1)) n (by omega))).trans ?_;rw[hb];refine(aF rfl).trans ?_;refine(aB (f148 ms (aZ h3) n (by omega))).trans ?_;rw[hm];refine(aF rfl).trans ?_;refine(aE (show(0:Int)<=k by omega)).trans ?_;refine(bK hk).trans ?_;exact aI h5) (lp.ev (i:=()) rfl)
end Go.Abs.Wz
namespace Go.Abs.Wz
open Go Go.Abs
theorem f168(t:List bT)(id:Int)(h1:t.length<=aW)(h2:∀ i,i<t.length->(gt t i).1.length<=aW):Ran p 2 168 [vf K50 (t,()), vf K3 (id,())] (rO K3 (fX t id,())):=go168 λn hn=>by
 have lp:It (λaA (_:Unit)=>c168_5 (aK p n) aA t id) ((0:Int),(0:Int)) (λ_=>oI (fX t id)):=by
  refine cast ?_ (It.all (c:=λaA (_:Unit)=>c168_5 (aK p n) aA t id) (rA:=λ_=>oI (j0 t id t.length)) (rB:=λ_=>oI 0) (λi=>(j0 t id i,(i:Int))) t.length (qN t id) (λi hi aA u rec=>?_) (It.stop λaA u rec=>?_))
  ·congr 1;funext u;unfold fX;cases bR t.length (qN t id)<;>rfl
  ·show c168_5 (aK p n) aA t id rec (j0 t id i,(i:Int))=bif qN t id i then rec (j0 t id (i+1),((i+1:Nat):Int))else oI 0
   unfold c168_5 qN;dsimp only;rw[aM (i63 hi h1)];refine(aE (Int.ofNat_lt.2 hi)).trans ?_;refine bif_nn.trans ?_;refine(aJ hi).trans ?_;refine(aB (f33 id 0 (i64.wrap ((((gt t i).1.length:Nat):Int) - 1)) n (by omega))).trans ?_
   cases hb:inB id 0 (i64.wrap ((((gt t i).1.length:Nat):Int) - 1))with
   | false=>rfl
   | true=>
    obtain⟨hk,e⟩:=yB (h2 i hi) hb
    have hp:(0:Int)<=id:=by omega
    refine(aF rfl).trans ?_
    show _=rec (bif(i:Int)==0 then _ else bif decide ((gt (gt t i).1 id.toNat).1<j0 t id i)then _ else _,_)
    cases h0:(i:Int)==0 with
    | true=>refine(aL rfl).trans ?_;refine bif_nn.trans ?_;refine(aJ hi).trans ?_;refine(aE hp).trans ?_;refine(bK hk).trans ?_;rfl
    | false=>
     refine(aF rfl).trans ?_;refine bif_nn.trans ?_;refine(aJ hi).trans ?_;refine(aE hp).trans ?_;refine(bK hk).trans ?_
     by_cases hc:(gt (gt t i).1 id.toNat).1<j0 t id i
     ·refine(aE hc).trans ?_;refine bif_nn.trans ?_;refine(aJ hi).trans ?_;refine(aE hp).trans ?_;refine(bK hk).trans ?_;rw[decide_eq_true hc];rfl
     ·refine(aI hc).trans ?_;rw[decide_eq_false hc];rfl
  ·show c168_5 (aK p n) aA t id rec (j0 t id t.length,(t.length:Int))=_
   unfold c168_5;dsimp only;refine(aI (Int.lt_irrefl _)).trans ?_;rfl
 cases h0:(t.length:Int)==0 with
 | false=>exact Ev.eq (λaA=>by unfold T168;exact aF h0) (lp.ev (i:=()) rfl)
 | true=>
  have e:fX t id=0:=by
   have:t=[]:=List.length_eq_zero_iff.1 (by have:=eq_of_beq h0;omega)
   rw[this];rfl
  exact Ev.now λaA=>by rw[e];unfold T168;exact aL h0
theorem IC(s:aH)(t:List bT):Pos (fA s t):=((aS _).1 (qG s t)).pos
theorem f147(s:aH)(t:List bT)(hz:SzS s)(h1:t.length<=aW)(h2:∀ i,i<t.length->(gt t i).1.length<=aW):Ran p 5 147 [va K34 s, vf K50 (t,())] (rO K34 (prune s t)):=go147 λn hn=>by
 cases hs:aP s with
 | false=>exact Ev.now λaA=>by unfold T147;refine(aB (f25 s (aZ hz.a) (aZ hz.b) n (by omega))).trans ?_;rw[hs];refine(aL rfl).trans ?_;refine(aB (f80 s hz n (by omega))).trans ?_;unfold prune;rw[hs];rfl
 | true=>
  have lp:It (λaA (_:Unit)=>c147_5 (aK p n) aA s t) ((0:Int),([]:List aR)) (λ_=>rV K34 (prune s t)):=by
   refine It.accu (α:=aR) [] (iJ s t) 5 1 (λi _=>sN s t i) (λi hi acc ha aA u rec=>?_) (It.stop λaA u rec=>?_)
   ·show c147_5 (aK p n) aA s t rec ((i:Int),acc)=rec (((i+1:Nat):Int),acc++iJ s t i)
    have hb:acc.length+1<=bound+(1 - (iJ s t i).length):=by simp at ha;unfold bound;omega
    unfold c147_5 iJ;dsimp only;rw[aM (show i<9223372036854775807 by omega)];refine(aE (show(i:Int)<5 by omega)).trans ?_;refine(aB (f168 t (i:Int) h1 h2 n (by omega))).trans ?_;refine(aB (f149 s (i:Int) hz n (by omega))).trans ?_;refine(aB (f167 (fX t i) (gone s i) n (by omega))).trans ?_
    by_cases h:mxI false (fX t i) (gone s i)>0
    ·refine(aE h).trans ?_;refine(aE (by unfold iJ at hb;rw[decide_eq_true h] at hb;exact hb)).trans ?_;rw[decide_eq_true h];rfl
    ·refine(aI h).trans ?_;rw[decide_eq_false h];show rec _=rec _;rw[show(bif false then[((i:Int),mxI false (fX t i) (gone s i),())] else[])=([]:List aR)from rfl,List.append_nil];rfl
   ·show c147_5 (aK p n) aA s t rec ((5:Int),bN 5 (iJ s t))=_
    unfold c147_5;dsimp only;refine(aI (Int.lt_irrefl _)).trans ?_;refine(aB (f32 s (fA s t) hz (F6 s t) ((aS s).1 hs).pos (IC s t) n (by omega))).trans ?_;unfold prune;rw[hs];rfl
  exact Ev.eq (λaA=>by unfold T147;refine(aB (f25 s (aZ hz.a) (aZ hz.b) n (by omega))).trans ?_;rw[hs];rfl) (lp.ev (i:=()) rfl)
theorem SZ{x:NodeT}(hz:SzN x)(s:aH):(tkS x s).length<=aW/\∀ i,i<(tkS x s).length->(gt (tkS x s) i).1.length<=aW:=⟨(lK hz s).seen,(lK hz s).lines⟩
structure TakeOk (x:NodeT):Prop where
 state:aP x.state=true
 rises:((x.rises.length:Int)==5)=true
theorem C1{x:NodeT}(h:NodeOk x):TakeOk x:=⟨h.state,h.rises⟩
theorem Q5{x:NodeT}{s:aH}(h:TakeOk x)(hs:aP s=true){i:Nat}(hi:i<(tkP x s).1.length):0<=(gt (tkP x s).1 i).1/\(gt (tkP x s).1 i).1.toNat<(dJ x.clock x.rises (tkP x s).1 i).length:=by
 have h1:=(((aS (tkP x s)).1 (zH (nN h.state hs) (tkS x s))).item _ (cO hi)).1
 unfold eM at h1;rw[aV] at h1
 have h2:=eq_of_beq h.rises
 rw[gU];omega
theorem NP(c:Int)(rs:List kI)(xs:List bM)(i:Nat):dJ c rs xs (i+1)=bif pY (gt (dJ c rs xs i) (gt xs i).1.toNat) (gt xs i).2 then(dJ c rs xs i).set (gt xs i).1.toNat ((gt xs i).2.1,(gt xs i).2.2.2.1,c,())else dJ c rs xs i:=by
 show(dJ c rs xs i).set _ (mW c _ _)=_
 unfold mW
 cases pY (gt (dJ c rs xs i) (gt xs i).1.toNat) (gt xs i).2 with
 | true=>rfl
 | false=>exact sK
theorem f123(x:NodeT)(s:aH)(hz:SzN x)(hs':SzS s)(h:TakeOk x)(hs:aP s=true):Ran p 7 123 [va K54 x, va K34 s] (rO K54 (jB x s)):=go123 λn hn=>by
 have hj:=jK x.state s
 have ht:=SZ hz s
 have hp:=MY x s
 have lp:It (λaA (_:Unit)=>c123_7 (aK p n) aA x ((x,()),()) (((tkS x s,()),()),()) ((tkP x s,()),()) ((cJ (tkP x s),()),())) ((0:Int),x.rises) (λ_=>rV K54 (jB x s)):=by
  refine It.run (λi=>((i:Int),dJ x.clock x.rises (tkP x s).1 i)) (tkP x s).1.length (λi hi aA u rec=>?_) (It.stop λaA u rec=>?_)
  ·show c123_7 (aK p n) aA x ((x,()),()) (((tkS x s,()),()),()) ((tkP x s,()),()) ((cJ (tkP x s),()),()) rec ((i:Int),dJ x.clock x.rises (tkP x s).1 i)=rec (((i+1:Nat):Int),dJ x.clock x.rises (tkP x s).1 (i+1))
   obtain⟨h0,hl⟩:=Q5 h hs hi
   unfold c123_7;dsimp only;rw[aM (i63 hi hp.a),NP];unfold pY;refine(aE (Int.ofNat_lt.2 hi)).trans ?_;refine bif_nn.trans ?_;refine(aJ hi).trans ?_;refine(aJ hi).trans ?_;refine(aE h0).trans ?_;refine(bK hl).trans ?_;refine(bK hl).trans ?_
   by_cases h1:(gt (tkP x s).1 i).2.1>(gt (dJ x.clock x.rises (tkP x s).1 i) (gt (tkP x s).1 i).1.toNat).1
   ·refine(aE h1).trans ?_;refine(aE h0).trans ?_;refine(bK hl).trans ?_;refine(bK hl).trans ?_;rw[decide_eq_true h1];rfl
   ·refine(aI h1).trans ?_;rw[decide_eq_false h1]
    cases h2:(gt (tkP x s).1 i).2.1==(gt (dJ x.clock x.rises (tkP x s).1 i) (gt (tkP x s).1 i).1.toNat).1 with
    | false=>rfl
    | true=>
     refine(aL rfl).trans ?_
     by_cases h3:(gt (tkP x s).1 i).2.2.2.1>(gt (dJ x.clock x.rises (tkP x s).1 i) (gt (tkP x s).1 i).1.toNat).2.1
     ·refine(aE h3).trans ?_;refine(aE h0).trans ?_;refine(bK hl).trans ?_;refine(bK hl).trans ?_;rw[decide_eq_true h3];rfl
     ·refine(aI h3).trans ?_;rw[decide_eq_false h3];rfl
  ·show c123_7 (aK p n) aA x ((x,()),()) (((tkS x s,()),()),()) ((tkP x s,()),()) ((cJ (tkP x s),()),()) rec (((tkP x s).1.length:Int),dJ x.clock x.rises (tkP x s).1 (tkP x s).1.length)=_
   unfold c123_7;dsimp only;refine(aI (Int.lt_irrefl _)).trans ?_;rfl
 exact Ev.eq (λaA=>by
  unfold T123;refine(aB (f78 x hz n (by omega))).trans ?_;refine(aB (f32 x.state s hz.state hs' ((aS _).1 h.state).pos ((aS _).1 hs).pos n (by omega))).trans ?_;refine(aB (f125 (cF x.state s) hj n (by omega))).trans ?_
  refine(aB (f124 x.seen x.1 (cX (cF x.state s)) hz.seen hz.lines (Nat.le_trans (fQ _) (by decide)) n (by omega))).trans ?_;refine(aB (f147 (cF x.state s) (tkS x s) hj ht.1 ht.2 n (by omega))).trans ?_;refine(aB (f65 (tkP x s) hp n (by omega))).trans ?_;rfl) (lp.ev (i:=()) rfl)
end Go.Abs.Wz
namespace Go.Abs.Wz
open Go Go.Abs
theorem f186(v:List aO)(a b:Int)(hv:v.length<=aW):Ran p 2 186 [vf K44 (v,()), vf K3 (a,()), vf K3 (b,())] (rO K4 (pJ v a b,())):=go186 λn hn=>by
 by_cases h:(v.length:Int)>a
 ·exact Ev.now λaA=>by unfold T186 pJ;rw[decide_eq_true h];exact aE h
 ·have lp:It (λaA (_:Unit)=>c186_4 (aK p n) aA v b) (0:Int) (λ_=>oB (nG v b)):=by
   refine cN (It.allB v.length (λi=>inB (gt v i).1 0 b) true (λi hi aA u rec=>?_) (It.stop λaA u rec=>?_))
   ·show c186_4 (aK p n) aA v b rec (i:Int)=_
    unfold c186_4;rw[aM (i63 hi hv)];refine(aE (Int.ofNat_lt.2 hi)).trans ?_;refine bif_nn.trans ?_;refine(aJ hi).trans ?_;refine(aB (f33 (gt v i).1 0 b n (by omega))).trans ?_;exact fin
   ·show c186_4 (aK p n) aA v b rec (v.length:Int)=_
    unfold c186_4;refine(aI (Int.lt_irrefl _)).trans ?_;rfl
  have e:pJ v a b=nG v b:=by unfold pJ;rw[decide_eq_false h];rfl
  rw[e]
  exact Ev.eq (λaA=>by unfold T186;exact aI h) (lp.ev (i:=()) rfl)
theorem f185(t:mU)(ht:t.1.length<=aW):Ran p 3 185 [va K46 t] (rO K4 (treeB t,())):=go185 λn hn=>Ev.now λaA=>by
 unfold T185 treeB
 cases h0:(t.1.length:Int)==0 with
 | true=>exact aL h0
 | false=>
  refine(aF h0).trans ?_
  cases h4:(t.1.length:Int)==4 with
  | false=>exact aF h4
  | true=>
   refine(aL h4).trans ?_;refine(aB (f186 t.1 4 1023 ht n (by omega))).trans ?_
   have e:pJ t.1 4 1023=nG t.1 1023:=by unfold pJ;rw[decide_eq_false (by have:=eq_of_beq h4;omega)];rfl
   rw[e]
   cases nG t.1 1023 with
   | false=>rfl
   | true=>refine(aL rfl).trans ?_;refine(aB (f33 t.2.1 0 1023 n (by omega))).trans ?_;rfl
theorem f176(m:MsgT)(hz:SzM m):Ran p 4 176 [va K143 m] (rO K4 (eX m,())):=go176 λn hn=>by
 have lp:It (λaA (_:Unit)=>c176_6 (aK p n) aA m) (1:Int) (λ_=>oB (bR (m.leaves.length - 1) (FQ m.leaves))):=by
  have:=It.all (c:=λaA (_:Unit)=>c176_6 (aK p n) aA m) (rA:=λ_=>oB true) (rB:=λ_=>oB false) (λi=>(((i+1:Nat)):Int)) (m.leaves.length - 1) (FQ m.leaves) (λi hi aA u rec=>by
   have hi1:i+1<m.leaves.length:=by omega
   have hl:=hz.list
   show c176_6 (aK p n) aA m rec (((i+1:Nat)):Int)=_
   unfold c176_6;rw[aM (i63 hi1 hl)];refine(aE (Int.ofNat_lt.2 hi1)).trans ?_;refine bif_nn.trans ?_;refine(aJ hi1).trans ?_;rw[lC (i63 hi1 hl) (by omega)];refine bif_nn.trans ?_;refine(aJ (show i<m.leaves.length by omega)).trans ?_;exact II) (It.stop λaA u rec=>by
   show c176_6 (aK p n) aA m rec (((m.leaves.length - 1+1:Nat)):Int)=_
   unfold c176_6;refine(aI (show ¬ (((m.leaves.length - 1+1:Nat)):Int)<(m.leaves.length:Int) by omega)).trans ?_;rfl)
  refine cast ?_ this
  congr 1;funext u;exact TF
 rw[<- JL]
 have key:∃ N,∀ aA,N<=aA->T176 (aK p n) aA m=oB (zR m):=by
  obtain⟨N,hN⟩:=lp.all_i
  refine⟨N,λaA hf=>?_⟩
  unfold T176 zR
  refine(aB (f33 m.1 0 5 n (by omega))).trans ?_;refine eQ λ_=>?_;refine(aB (f52 m.2.1 n (by omega))).trans ?_;refine eQ λ_=>?_;refine(aB (f52 m.2.2.1 n (by omega))).trans ?_;refine eQ λ_=>?_;refine uX λ_=>?_;refine(aB (f33 m.2.2.2.1 0 100000 n (by omega))).trans ?_;refine eQ λ_=>?_;refine(aB (f33 m.hi 0 100000 n (by omega))).trans ?_;refine eQ λ_=>?_
  refine(aB (f185 m.tree hz.leaves n (by omega))).trans ?_;refine eQ λ_=>?_;refine(aB (f186 m.vec 5 100000 hz.vec n (by omega))).trans ?_;refine eQ λ_=>?_;refine(aB (f186 m.leaves 4 3 hz.list n (by omega))).trans ?_;refine eQ λ_=>?_;refine(aB (f25 m.part (aZ hz.part.a) (aZ hz.part.b) n (by omega))).trans ?_;refine eQ λ_=>?_;refine(aB (f148 m.marks (aZ hz.marks) n (by omega))).trans ?_;refine eQ λ_=>?_
  exact hN aA hf ()
 exact key
theorem G4{n:Nat}{seq:Int}{l:gR}(h:jT l seq=true):i64.wrap (seq - l.2.1)=((dV l seq:Nat):Int):=by
 have:=yZ h;rw[IntKind.wrap_i64];omega
theorem f184(l:gR)(seq:Int)(hl:l.2.2.1.length<=aW)(hs:∀ i,i<l.2.2.1.length->SzS (gt l.2.2.1 i)):Ran p 5 184 [va K49 l, vf K3 (seq,())] ⟨[⟨K34,lW l seq⟩,⟨K4,(jT l seq,())⟩],[]⟩:=go184 λn hn=>by
 cases hb:jT l seq with
 | false=>
  exact Ev.now λaA=>by
   unfold T184 lW;rw[hb];refine(aB (f66 l hl hs n (by omega))).trans ?_
   cases h1:gL l with
   | false=>rfl
   | true=>refine(aF rfl).trans ?_;refine(aB (f33 seq l.2.1 (i64.wrap (l.2.1+(l.2.2.1.length:Int))) n (by omega))).trans ?_;unfold jT at hb;rw[h1] at hb;rw[show inB seq l.2.1 (i64.wrap (l.2.1+(l.2.2.1.length:Int)))=false from hb];rfl
 | true=>
  have hk:=yZ hb
  have hb':=hb
  unfold jT at hb';rw[Bool.and_eq_true] at hb'
  have lp:It (λaA (_:Unit)=>c184_5 (aK p n) aA l) (((dV l seq:Nat):Int),([]:List bM),([]:List aR)) (λ_=>some ⟨[⟨K34,lW l seq⟩,⟨K4,(true,())⟩],[]⟩):=by
   refine It.run (λi=>(((dV l seq+i:Nat):Int),(jD l.2.2.1 (dV l seq) i).1,(jD l.2.2.1 (dV l seq) i).2.1)) (l.2.2.1.length - dV l seq) (λi hi aA u rec=>?_) (It.stop λaA u rec=>?_)
   ·have hi1:dV l seq+i<l.2.2.1.length:=by omega
    have o1:=(aS _).1 (sJ hb'.1 (dV l seq) i (by omega))
    have o2:=(aS _).1 (show aP (gt l.2.2.1 (dV l seq+i))=true by have h1:=hb'.1;unfold gL at h1;simp only[Bool.and_eq_true] at h1;exact bL.1 h1.2.2.2.2 _ hi1)
    show c184_5 (aK p n) aA l rec (((dV l seq+i:Nat):Int),(jD l.2.2.1 (dV l seq) i).1,(jD l.2.2.1 (dV l seq) i).2.1)=_
    unfold c184_5;dsimp only;rw[aM (i63 hi1 hl)];refine(aE (Int.ofNat_lt.2 hi1)).trans ?_;refine bif_nn.trans ?_;refine(aJ hi1).trans ?_;refine(aB (f32 (jD l.2.2.1 (dV l seq) i) (gt l.2.2.1 (dV l seq+i)) (y2 _ _ _) (hs _ hi1) o1.pos o2.pos n (by omega))).trans ?_;rfl
   ·show c184_5 (aK p n) aA l rec (((dV l seq+(l.2.2.1.length - dV l seq):Nat):Int),(jD l.2.2.1 (dV l seq) (l.2.2.1.length - dV l seq)).1,(jD l.2.2.1 (dV l seq) (l.2.2.1.length - dV l seq)).2.1)=_
    unfold c184_5;dsimp only;refine(aI (show ¬ ((dV l seq+(l.2.2.1.length - dV l seq):Nat):Int)<(l.2.2.1.length:Int) by omega)).trans ?_;unfold lW;rw[hb];rfl
  exact Ev.eq (λaA=>by unfold T184;refine(aB (f66 l hl hs n (by omega))).trans ?_;rw[hb'.1];refine(aF rfl).trans ?_;refine(aB (f33 seq l.2.1 (i64.wrap (l.2.1+(l.2.2.1.length:Int))) n (by omega))).trans ?_;rw[hb'.2];refine(aF rfl).trans ?_;rw[G4 (n:=0) hb];rfl) (lp.ev (i:=()) rfl)
theorem f175(x:NodeT)(seq:Int)(hz:SzN x):Ran p 6 175 [va K54 x, vf K3 (seq,())] ⟨[⟨K34,rT x seq⟩,⟨K4,(jT x.log seq,())⟩],[]⟩:=go175 λn hn=>Ev.now λaA=>by
 unfold T175 rT;refine(bA (f184 x.log seq hz.list hz.logs n (by omega))).trans ?_
 cases jT x.log seq with
 | true=>rfl
 | false=>refine(aF rfl).trans ?_;refine(aB (f80 x.state hz.state n (by omega))).trans ?_;rfl
theorem NB{s:aH}(h:aP s=true):s.1.length<=1000/\s.2.1.length<=1000:=by have:=((aS s).1 h).len;omega
theorem f197(x:NodeT)(ls:List aO)(seq:Int)(hz:SzN x)(h:NodeOk x)(hl:ls.length<=aW):Ran p 7 197 [va K54 x, vf K44 (ls,()), vf K3 (seq,())] (rO K34 (FB x ls seq)):=go197 λn hn=>Ev.now λaA=>by
 have hm:=NB h.state
 unfold T197;refine(bA (f175 x seq hz n (by omega))).trans ?_;refine(aB (f136 x.state ls (aZ hl) hm.1 hm.2 n (by omega))).trans ?_;refine(aB (f32 (jC x.state ls) (rT x seq) (NC hz.state ls) (ES hz seq) ((aS _).1 (ND h.state ls)).pos ((aS _).1 (NG h seq)).pos n (by omega))).trans ?_;rfl
end Go.Abs.Wz
set_option maxHeartbeats 2000000
namespace Go.Abs.Wz
open Go Go.Abs
theorem LP(ls:List aO):(aN (ls.length:Int)++bN ls.length λi=>aN (gt ls i).1)=eN ls:=by
 unfold eN cV;rw[cI (λx:aO=>aN x.1) ls]
theorem f187(ls:List aO)(hl:ls.length<=100):Ran p 3 187 [vf K44 (ls,())] (rO K22 (eN ls,())):=go187 λn hn=>by
 have hp:=bE (ls.length:Int)
 have lp:It (λaA (_:Unit)=>c187_3 (aK p n) aA ls) ((0:Int),aN (ls.length:Int)) (λ_=>oL (eN ls)):=by
  refine It.accu (α:=aO) (aN (ls.length:Int)) (λi=>aN (gt ls i).1) ls.length 5 (λi hi=>bE _) (λi hi acc ha aA a rec=>?_) (It.stop λaA a rec=>?_)
  ·replace ha:acc.length+(aN (gt ls i).1).length<=(aN (ls.length:Int)).length+ls.length*5:=ha
   show c187_3 (aK p n) aA ls rec ((i:Int),acc)=_
   unfold c187_3;dsimp only;rw[aM (show i<9223372036854775807 by omega)];refine(aE (Int.ofNat_lt.2 hi)).trans ?_;refine bif_nn.trans ?_;refine(aJ hi).trans ?_;refine(aB (f137 (gt ls i).1 n (by omega))).trans ?_;refine(aE (by show acc.length+(aN (gt ls i).1).length<=4294967296;omega)).trans ?_;rfl
  ·show c187_3 (aK p n) aA ls rec ((ls.length:Int),aN (ls.length:Int)++bN ls.length λi=>aN (gt ls i).1)=_
   unfold c187_3;refine(aI (Int.lt_irrefl _)).trans ?_;exact congrArg oL (LP ls)
 exact Ev.eq (λaA=>by unfold T187;refine(aB (f137 (ls.length:Int) n (by omega))).trans ?_;rfl) (lp.ev (i:=()) rfl)
theorem f178(b:List aO)(hb:ByL b)(hl:b.length<=aW):Ran p 2 178 [vf K22 (b,())] (rO K22 (yV b,())):=go178 λn hn=>Ev.now λaA=>by
 have h:=PU hb
 unfold T178;refine(aB (f134 b (Nat.le_trans hl (by decide)) n (by omega))).trans ?_;refine(aI (by decide)).trans ?_;refine(aI (by decide)).trans ?_;refine(aI (by decide)).trans ?_;refine(aI (by decide)).trans ?_;refine(aI (by decide)).trans ?_;refine(aI (by decide)).trans ?_;exact congrArg oL (M6 h.2 h.1)
-- the body of a message, as both write it
def uT(m:MsgT):List aO:=rk2++cV (fL m)++eN m.tree.1++aN m.tree.2.1++eN m.vec++eN m.leaves++aN (((bS m.part).length:Nat):Int)
theorem P5(m:MsgT):uT m++bS m.part++aN (m.marks.length:Int)++m.marks.flatMap bF=fF m:=by
 unfold uT fF sA;simp only[List.append_assoc]
structure BodyL (m:MsgT):Prop where
 h5:(cV (fL m)).length<=25
 a:(eN m.tree.1).length<=25
 b:(aN m.tree.2.1).length<=5
 c:(eN m.vec).length<=30
 d:(eN m.leaves).length<=25
 e:(aN (((bS m.part).length:Nat):Int)).length<=5
 f:(bS m.part).length<=250
 g:(aN (m.marks.length:Int)).length<=5
 k:m.marks.length<=5
theorem vO(ls:List aO):(eN ls).length<=5+ls.length*5:=by
 have h1:=bE (ls.length:Int);have h2:=lG ls
 unfold eN;rw[List.length_append];omega
theorem UV{m:MsgT}(h:MsgR m):BodyL m:=by
 have h1:=vO m.tree.1;have h2:=vO m.vec;have h3:=vO m.leaves
 have l1:=h.tree.1;have l2:=h.vec.1;have l3:=h.leaves.1
 exact⟨lG (fL m),by omega,bE _,by omega,by omega,bE _,nV ((aS _).1 h.part),bE _,h.marks.1⟩
theorem f177(m:MsgT)(h:eX m=true):Ran p 5 177 [va K143 m] (rO K22 (fF m,())):=go177 λn hn=>by
 have hr:=rE h
 have L:=UV hr
 have l1:=L.h5;have l2:=L.a;have l3:=L.b;have l4:=L.c;have l5:=L.d;have l6:=L.e;have l7:=L.f;have l8:=L.g;have l9:=L.k
 have t1:=hr.tree.1;have t2:=hr.vec.1;have t3:=hr.leaves.1
 have l0:rk2.length=2:=rfl
 have hok:StateOk m.part:=(aS _).1 hr.part
 have mk:∀ pre:List aO,pre.length<=1000->It (λaA (_:Unit)=>c177_16 (aK p n) aA m) ((0:Int),pre) (λ_=>oL (pre++m.marks.flatMap bF)):=by
  intro pre hp
  refine It.accu (α:=aO) pre (λi=>bF (gt m.marks i)) m.marks.length 10 (λi hi=>hI _) (λi hi acc ha aA a rec=>?_) (It.stop λaA a rec=>?_)
  ·have ha':acc.length+(bF (gt m.marks i)).length<=1050:=by omega
   unfold bF at ha';rw[List.length_append] at ha'
   show c177_16 (aK p n) aA m rec ((i:Int),acc)=_
   unfold c177_16;dsimp only;rw[aM (show i<9223372036854775807 by omega)];refine(aE (Int.ofNat_lt.2 hi)).trans ?_;refine bif_nn.trans ?_;refine(aJ hi).trans ?_;refine(aB (f137 (gt m.marks i).1 n (by omega))).trans ?_;refine(aE (by show acc.length+(aN (gt m.marks i).1).length<=4294967296;omega)).trans ?_;refine bif_nn.trans ?_;refine(aJ hi).trans ?_;refine(aB (f137 (gt m.marks i).2.1 n (by omega))).trans ?_
   refine(aE (by show(acc++aN (gt m.marks i).1).length+(aN (gt m.marks i).2.1).length<=4294967296;rw[List.length_append];omega)).trans ?_
   exact congrArg (λl:List aO=>rec (((i+1:Nat):Int),l)) (List.append_assoc _ _ _)
  ·show c177_16 (aK p n) aA m rec ((m.marks.length:Int),pre++bN m.marks.length λi=>bF (gt m.marks i))=_
   unfold c177_16;refine(aI (Int.lt_irrefl _)).trans ?_;exact congrArg (λl:List aO=>oL (pre++l)) (cI bF m.marks)
 have body0:=mk (uT m++bS m.part++aN (m.marks.length:Int)) (by unfold uT;simp only[List.length_append];dsimp only[MsgT.tree] at*;omega)
 rw[P5] at body0
 have lp:It (λaA (_:Unit)=>c177_4 (aK p n) aA m) ((0:Int),rk2) (λ_=>oL (fF m)):=by
  refine It.accu (α:=aO) rk2 (λi=>aN (gt (fL m) i).1) 5 5 (λi hi=>bE _) (λi hi acc ha aA a rec=>?_)
   (It.stopE (T:=λaA _=>iter (c177_16 (aK p n) aA m) aA ((0:Int),uT m++bS m.part++aN (m.marks.length:Int))) (λaA a rec=>?_) body0.all_i)
  ·replace ha:acc.length+(aN (gt (fL m) i).1).length<=2+5*5:=ha
   have hi5:i<(fL m).length:=hi
   show c177_4 (aK p n) aA m rec ((i:Int),acc)=_
   unfold c177_4;dsimp only;rw[aM (show i<9223372036854775807 by omega)];refine(aE (Int.ofNat_lt.2 hi5)).trans ?_;refine bif_nn.trans ?_;refine(aJ hi5).trans ?_;refine(aJ hi5).trans ?_;refine(aB (f137 (gt (fL m) i).1 n (by omega))).trans ?_;refine(aE (by show acc.length+(aN (gt (fL m) i).1).length<=4294967296;omega)).trans ?_;rfl
  ·have e0:(rk2++bN 5 λi=>aN (gt (fL m) i).1)=rk2++cV (fL m):=congrArg (λl=>rk2++l) (cI (λx:aO=>aN x.1) (fL m))
   show c177_4 (aK p n) aA m rec (((5:Nat):Int),rk2++bN 5 λi=>aN (gt (fL m) i).1)=_
   rw[e0]
   have b1:(rk2++cV (fL m)).length+(eN m.tree.1).length<=bound:=by unfold bound;simp only[List.length_append];dsimp only[MsgT.tree] at*;omega
   have b2:(rk2++cV (fL m)++eN m.tree.1).length+(aN m.tree.2.1).length<=bound:=by unfold bound;simp only[List.length_append];dsimp only[MsgT.tree] at*;omega
   have b3:(rk2++cV (fL m)++eN m.tree.1++aN m.tree.2.1).length+(eN m.vec).length<=bound:=by unfold bound;simp only[List.length_append];dsimp only[MsgT.tree] at*;omega
   have b4:(rk2++cV (fL m)++eN m.tree.1++aN m.tree.2.1++eN m.vec).length+(eN m.leaves).length<=bound:=by unfold bound;simp only[List.length_append];dsimp only[MsgT.tree] at*;omega
   have b5:(rk2++cV (fL m)++eN m.tree.1++aN m.tree.2.1++eN m.vec++eN m.leaves).length+(aN (((bS m.part).length:Nat):Int)).length<=bound:=by unfold bound;simp only[List.length_append];dsimp only[MsgT.tree] at*;omega
   have b6:(uT m).length+(bS m.part).length<=bound:=by unfold bound uT;simp only[List.length_append];dsimp only[MsgT.tree] at*;omega
   have b7:(uT m++bS m.part).length+(aN (m.marks.length:Int)).length<=bound:=by unfold bound uT;simp only[List.length_append];dsimp only[MsgT.tree] at*;omega
   unfold c177_4;dsimp only;refine(aI (show ¬ ((5:Int)<5) by decide)).trans ?_;refine(aB (f187 m.tree.1 (by omega) n (by omega))).trans ?_;refine(aE b1).trans ?_;refine(aB (f137 m.tree.2.1 n (by omega))).trans ?_;refine(aE b2).trans ?_;refine(aB (f187 m.vec (by omega) n (by omega))).trans ?_;refine(aE b3).trans ?_;refine(aB (f187 m.leaves (by omega) n (by omega))).trans ?_;refine(aE b4).trans ?_;refine(aB (f135 m.part hok n (by omega))).trans ?_;refine(aB (f137 (((bS m.part).length:Nat):Int) n (by omega))).trans ?_;refine(aE b5).trans ?_;refine(aE b6).trans ?_;refine(aB (f137 (m.marks.length:Int) n (by omega))).trans ?_;refine(aE b7).trans ?_;rfl
 exact Ev.eq (λaA=>by unfold T177;rfl) (lp.ev (i:=()) rfl)
theorem FJ{m:MsgT}(h:eX m=false):bQ m=[]:=by unfold bQ;rw[h];rfl
theorem f164(m:MsgT)(hz:SzM m):Ran p 6 164 [va K143 m] (rO K22 (bQ m,())):=go164 λn hn=>Ev.now λaA=>by
 unfold T164;refine(aB (f176 m hz n (by omega))).trans ?_
 cases h:eX m with
 | false=>refine(aL rfl).trans ?_;rw[FJ h];rfl
 | true=>
  have hl:=GH (rE h)
  have hb:(fF m).length+(yV (fF m)).length<=bound:=by rw[yU];unfold bound;omega
  rw[qC h];refine(aF rfl).trans ?_;refine(aB (f177 m h n (by omega))).trans ?_;refine(aB (f178 (fF m) (AU m) (Nat.le_trans hl (by decide)) n (by omega))).trans ?_;refine(aE hb).trans ?_;rfl
end Go.Abs.Wz
namespace Go.Abs.Wz
open Go Go.Abs
theorem f201(a b:mU):Ran p 1 201 [va K46 a, va K46 b] (rO K44 (lX a b,())):=go201 λn hn=>by
 cases h0:a.2.1==b.2.1 with
 | true=>exact Ev.now λaA=>by unfold T201 lX;rw[h0];exact aL rfl
 | false=>
  have lp:It (λaA (_:Unit)=>c201_5 (aK p n) aA a b) ((0:Int),([]:List aO)) (λ_=>rV K44 (bN 4 (j7 a b),())):=by
   refine It.accu (α:=aO) [] (j7 a b) 4 1 (λi _=>xH a b i) (λi hi acc ha aA u rec=>?_) (It.stop λaA u rec=>?_)
   ·show c201_5 (aK p n) aA a b rec ((i:Int),acc)=rec (((i+1:Nat):Int),acc++j7 a b i)
    have hb:acc.length+1<=bound+(1 - (j7 a b i).length):=by simp at ha;unfold bound;omega
    unfold c201_5;dsimp only;rw[aM (show i<9223372036854775807 by omega)];refine(aE (show(i:Int)<4 by omega)).trans ?_
    unfold j7 at hb ⊢
    cases h1:(a.1.length:Int) != 4 with
    | true=>refine(aL h1).trans ?_;refine(aE (by rw[h1] at hb;exact hb)).trans ?_;rfl
    | false=>
     refine(aF h1).trans ?_
     cases h2:(b.1.length:Int) != 4 with
     | true=>refine(aL h2).trans ?_;refine(aE (by rw[h1,h2] at hb;exact hb)).trans ?_;rfl
     | false=>
      have e1:a.1.length=4:=by rw[bne_eq_false_iff_eq] at h1;omega
      have e2:b.1.length=4:=by rw[bne_eq_false_iff_eq] at h2;omega
      refine(aF h2).trans ?_;refine bif_nn.trans ?_;refine(aJ (show i<a.1.length by omega)).trans ?_;refine bif_nn.trans ?_;refine(aJ (show i<b.1.length by omega)).trans ?_
      cases h3:(gt a.1 i).1 != (gt b.1 i).1 with
      | true=>refine(aL rfl).trans ?_;refine(aE (by rw[h1,h2,h3] at hb;exact hb)).trans ?_;rfl
      | false=>refine(aF rfl).trans ?_;show rec _=rec _;rw[show(bif false then[((i:Int),())] else bif false then[((i:Int),())] else bif false then[((i:Int),())] else[])=([]:List aO)from rfl,List.append_nil];rfl
   ·show c201_5 (aK p n) aA a b rec ((4:Int),bN 4 (j7 a b))=_
    unfold c201_5;dsimp only;refine(aI (Int.lt_irrefl _)).trans ?_;rfl
  have e:lX a b=bN 4 (j7 a b):=by unfold lX;rw[h0];rfl
  rw[e]
  exact Ev.eq (λaA=>by unfold T201;exact aF h0) (lp.ev (i:=()) rfl)
theorem f151(nd:NodeT)(x:Int)(b:Bool)(hv:nd.sess.length<=aW):Ran p 1 151 [va K54 nd, vf K3 (x,()), vf K4 (b,())] (rO K3 (c8 nd.sess x b,())):=go151 λn hn=>by
 have key:∀ {i:Nat} {α:Type} {X R:α},(bif(gt nd.sess i).1==x then(bif uW (gt nd.sess i).2.2.1 b then X else R)else R)=bif dN nd.sess i x b then X else R:=two
 have lp:It (λaA (_:Unit)=>c151_2 (aK p n) aA nd x b) (0:Int) (λ_=>oI (c8 nd.sess x b)):=by
  have:=It.first (c:=λaA (_:Unit)=>c151_2 (aK p n) aA nd x b) (λi=>(i:Int)) nd.sess.length (λi=>dN nd.sess i x b) (λi _=>oI (i:Int)) (λ_=>oI (-1)) (λi hi hp aA a rec=>?_) (λi hi hp=>It.stop λaA a rec=>?_) (It.stop λaA a rec=>?_)
  ·revert this;unfold c8
   cases (List.range nd.sess.length).find? (λi=>dN nd.sess i x b)<;>exact λh=>h
  ·have hb:=cB hi hv
   show c151_2 (aK p n) aA nd x b rec (i:Int)=_
   unfold c151_2;rw[aM hb];refine(aE (Int.ofNat_lt.2 hi)).trans ?_;refine bif_nn.trans ?_;refine(aJ hi).trans ?_
   unfold dN at hp
   cases h1:(gt nd.sess i).1==x with
   | false=>exact aF rfl
   | true=>refine(aL rfl).trans ?_;refine bif_nn.trans ?_;refine(aJ hi).trans ?_;rw[h1] at hp;exact aF hp
  ·show c151_2 (aK p n) aA nd x b rec (i:Int)=_
   unfold c151_2;refine(aE (Int.ofNat_lt.2 hi)).trans ?_;refine bif_nn.trans ?_;refine(aJ hi).trans ?_
   unfold dN at hp;rw[Bool.and_eq_true] at hp
   refine(aL hp.1).trans ?_;refine bif_nn.trans ?_;refine(aJ hi).trans ?_;exact aL hp.2
  ·show c151_2 (aK p n) aA nd x b rec (nd.sess.length:Int)=_
   unfold c151_2;refine(aI (Int.lt_irrefl _)).trans ?_;rfl
 exact Ev.eq (λaA=>by unfold T151;rfl) (lp.ev (i:=()) rfl)
theorem f152(x:NodeT)(k to num:Int)(hz:SzN x):Ran p 6 152 [va K54 x, vf K3 (k,()), vf K3 (to,()), vf K3 (num,())] (rO K143 (RT x k to num)):=go152 λn hn=>Ev.now λaA=>by
 unfold T152;refine(aB (f68 x.log hz.list hz.logs n (by omega))).trans ?_;refine(aE (kM hz.got)).trans ?_;refine(aB (f125 x.state hz.state n (by omega))).trans ?_;rfl
structure Hears (x:NodeT) (m:MsgT):Prop where
 szn:SzN x
 szm:SzM m
 node:NodeOk x
 id:0<=x.1
 vec:x.1.toNat<m.vec.length
theorem f193(x:NodeT)(m:MsgT)(h:Hears x m):Ran p 8 193 [va K54 x, va K143 m] (rO K54 (eG x m)):=go193 λn hn=>Ev.now λaA=>by
 unfold T193;refine(aB (f78 x h.szn n (by omega))).trans ?_;refine(aE h.id).trans ?_;refine(bK h.vec).trans ?_;refine(aB (f68 x.log h.szn.list h.szn.logs n (by omega))).trans ?_;refine(aB (f167 (gt m.vec x.1.toNat).1 (cE x.log) n (by omega))).trans ?_;refine(aB (f200 x.acked m.2.1 (mxI false (gt m.vec x.1.toNat).1 (cE x.log)) h.szn.acked n (by omega))).trans ?_;refine(aB (f124 x.seen m.2.1 m.marks h.szn.seen h.szn.lines h.szm.marks n (by omega))).trans ?_;refine(aB (f123 (heard0 x m) f4 (CE h.szn m) iA (C1 (h.node.heard0 m)) xY n (by omega))).trans ?_;rfl
theorem f192(x:NodeT)(m:MsgT)(h:Hears x m)(hp:aP m.part=true):Ran p 9 192 [va K54 x, va K143 m] (rO K54 (eC x m)):=go192 λn hn=>Ev.now λaA=>by
 have hs:=lK (lF h.szn m) m.part
 unfold T192;refine(aB (f193 x m h n (by omega))).trans ?_;refine(aB (f123 (eG x m) m.part (lF h.szn m) h.szm.part (C1 (h.node.heard m)) hp n (by omega))).trans ?_;refine(aB (f200 (jB (eG x m) m.part).got m.2.1 m.hi hs.got n (by omega))).trans ?_;rfl
end Go.Abs.Wz
namespace Go.Abs.Wz
open Go Go.Abs
theorem f195(x:NodeT)(m:MsgT)(b:Bool)(hv:x.sess.length<=aW):Ran p 2 195 [va K54 x, va K143 m, vf K4 (b,())] (rO K3 (sD x m b,())):=go195 λn hn=>Ev.now λaA=>by
 unfold T195 sD;refine(aB (f151 x m.2.1 b hv n (by omega))).trans ?_
 rcases hX x.sess m.2.1 b with ⟨k,hk,e,_⟩ | ⟨e,_⟩<;>rw[e]
 ·refine bif_nn.trans ?_;refine bif_nn.trans ?_;refine(aJ hk).trans ?_;rw[decide_eq_true (show((k:Nat):Int)>=0 by omega),Int.toNat_natCast]
  cases (gt x.sess k).2.1 != m.2.2.2.1<;>rfl
 ·rfl
theorem f196(x:NodeT)(k:Nat)(hz:SzN x)(hk:k<x.sess.length):Ran p 4 196 [va K54 x, vf K3 ((k:Int),())] (rO K54 (kE x k)):=go196 λn hn=>Ev.now λaA=>by
 rw[<- NW hk hz.sess]
 unfold T196;refine(aB (f78 x hz n (by omega))).trans ?_;exact PR hk hz.sess
theorem Hears.of{x:NodeT}{m:MsgT}(hz:SzN x)(hm:SzM m)(h:RecOk x m):Hears x m:=
 ⟨hz,hm,h.node,h.idn.1,by have h1:=h.idn;have h2:=h.vec;omega⟩
theorem QQ{x:NodeT}{k:Nat}(hk:k<x.sess.length)(num:Int):(x.sess.set k ((gt x.sess k).1,num,(gt x.sess k).2.2)).set k ((gt (x.sess.set k ((gt x.sess k).1,num,(gt x.sess k).2.2)) k).1,(gt (x.sess.set k ((gt x.sess k).1,num,(gt x.sess k).2.2)) k).2.1,(gt (x.sess.set k ((gt x.sess k).1,num,(gt x.sess k).2.2)) k).2.2.1,(0:Int),(gt (x.sess.set k ((gt x.sess k).1,num,(gt x.sess k).2.2)) k).2.2.2.2)=oO x k num:=by
 rw[cC hk,BO];rfl
theorem UF{x:NodeT}{m:MsgT}{k:Nat}(e:c8 x.sess m.2.1 true=(k:Int)):kV x m=false/\hU x m=oO x k m.2.2.2.1:=by
 unfold kV hU;rw[e,decide_eq_true (show((k:Nat):Int)>=0 by omega)];exact⟨rfl,by rw[Int.toNat_natCast];rfl⟩
theorem UE{x:NodeT}{m:MsgT}(e:c8 x.sess m.2.1 true= -1):kV x m=((x.sess.length:Int)==x.slots)/\hU x m=lA x m:=by
 unfold kV hU;rw[e];exact⟨rfl,rfl⟩
theorem f194(x:NodeT)(m:MsgT)(hz:SzN x)(hm:SzM m)(R:RecOk x m):Ran p 9 194 [va K54 x, va K143 m] ⟨[⟨K54,(oK x m).1⟩,⟨K191,((oK x m).2.1,())⟩,⟨K3,((oK x m).2.2,())⟩],[]⟩:=go194 λn hn=>Ev.now λaA=>by
 have h0:=R.idn.1
 have hv:x.1.toNat<m.vec.length:=(Hears.of hz hm R).vec
 have go:kV x m=false->∀ {y:NodeT},withS x (hU x m)=y->Hears y m/\NodeOk (eG y m)/\SzN (eG y m)/\oK x m=(eG y m,[HA (eG y m) x m],0):=by
  intro hf y e
  have hr:=R.syn hf
  have hs:=tI hz (wI R.node m)
  rw[e] at hr hs
  refine⟨Hears.of hs hm hr,hr.node.heard m,lF hs m,?_⟩
  unfold oK KK;rw[hf,e];rfl
 unfold T194;refine(aB (f78 x hz n (by omega))).trans ?_;refine(aB (f151 x m.2.1 true hz.sess n (by omega))).trans ?_
 rcases hX x.sess m.2.1 true with ⟨k,hk,e,_⟩ | ⟨e,_⟩
 ·obtain⟨hf,hs⟩:=UF e
  have hk2:k<(x.sess.set k ((gt x.sess k).1,m.2.2.2.1,(gt x.sess k).2.2)).length:=by rw[List.length_set];exact hk
  obtain⟨hh,ho,hz2,he⟩:=go hf (y:=withS x ((x.sess.set k ((gt x.sess k).1,m.2.2.2.1,(gt x.sess k).2.2)).set k ((gt (x.sess.set k ((gt x.sess k).1,m.2.2.2.1,(gt x.sess k).2.2)) k).1,(gt (x.sess.set k ((gt x.sess k).1,m.2.2.2.1,(gt x.sess k).2.2)) k).2.1,(gt (x.sess.set k ((gt x.sess k).1,m.2.2.2.1,(gt x.sess k).2.2)) k).2.2.1,(0:Int),(gt (x.sess.set k ((gt x.sess k).1,m.2.2.2.1,(gt x.sess k).2.2)) k).2.2.2.2))) (by rw[hs,QQ hk])
  rw[he,e];refine bif_nn.trans ?_;refine bif_nn.trans ?_;refine(aJ hk).trans ?_;refine(aJ hk).trans ?_;refine bif_nn.trans ?_;refine(aJ hk2).trans ?_;refine(aJ hk2).trans ?_
  refine(aB (f193 _ m hh n (by omega))).trans ?_;refine(aB (f152 _ 3 m.2.1 m.2.2.2.1 hz2 n (by omega))).trans ?_;refine(aB (f109 (eG _ m).tree hz2.leaves n (by omega))).trans ?_;refine(aB (f201 (eG _ m).tree m.tree n (by omega))).trans ?_;refine(aE h0).trans ?_;refine(bK hv).trans ?_;refine(aB (f197 _ (lX (eG _ m).tree m.tree) (gt m.vec x.1.toNat).1 hz2 ho (Nat.le_trans (s8 _ _) (by decide)) n (by omega))).trans ?_;rfl
 ·obtain⟨hf,hs⟩:=UE e
  rw[e];refine(aF rfl).trans ?_
  cases hl:(x.sess.length:Int)==x.slots with
  | true=>
   rw[hl] at hf
   refine(aL hl).trans ?_;refine(aB (f152 x 5 m.2.1 m.2.2.2.1 hz n (by omega))).trans ?_;unfold oK;rw[hf];rfl
  | false=>
   rw[hl] at hf
   obtain⟨hh,ho,hz2,he⟩:=go hf (y:=withS x (lA x m)) (by rw[hs])
   have hb:x.sess.length+1<=bound:=by have:=hz.sess;unfold aW at this;unfold bound;omega
   rw[he];refine(aF hl).trans ?_;refine(aE hb).trans ?_
   refine(aB (f193 (withS x (lA x m)) m hh n (by omega))).trans ?_;refine(aB (f152 _ 3 m.2.1 m.2.2.2.1 hz2 n (by omega))).trans ?_;refine(aB (f109 (eG _ m).tree hz2.leaves n (by omega))).trans ?_;refine(aB (f201 (eG _ m).tree m.tree n (by omega))).trans ?_;refine(aE h0).trans ?_;refine(bK hv).trans ?_;refine(aB (f197 _ (lX (eG _ m).tree m.tree) (gt m.vec x.1.toNat).1 hz2 ho (Nat.le_trans (s8 _ _) (by decide)) n (by omega))).trans ?_;rfl
end Go.Abs.Wz
namespace Go.Abs.Wz
open Go Go.Abs
def NR(r:I5):Out:=⟨[⟨K54,r.1⟩,⟨K191,(r.2.1,())⟩,⟨K3,(r.2.2,())⟩],[]⟩
theorem IG(x:NodeT)(m:MsgT)(b:Bool):(sD x m b<0/\(c8 x.sess m.2.1 b= -1\/∃ k:Nat,k<x.sess.length/\c8 x.sess m.2.1 b=(k:Int)/\((gt x.sess k).2.1 != m.2.2.2.1)=true))\/∃ k:Nat,k<x.sess.length/\c8 x.sess m.2.1 b=(k:Int)/\((gt x.sess k).2.1 != m.2.2.2.1)=false/\sD x m b=(k:Int):=by
 unfold sD
 rcases hX x.sess m.2.1 b with ⟨k,hk,e,_⟩ | ⟨e,_⟩<;>rw[e]
 ·rw[decide_eq_true (show((k:Nat):Int)>=0 by omega),Int.toNat_natCast]
  cases h:(gt x.sess k).2.1 != m.2.2.2.1 with
  | true=>exact .inl ⟨by show(-1:Int)<0;omega,.inr ⟨k,hk,rfl,h⟩⟩
  | false=>exact .inr ⟨k,hk,rfl,h,rfl⟩
 ·exact .inl ⟨by show(-1:Int)<0;omega,.inl rfl⟩
theorem KX{x:NodeT}{m:MsgT}(h0:(m.1==0)=false)(h1:(m.1==1)=false)(h2:(m.1==2)=false){b:Bool}(h4:(m.1==4)=b)(hf:sD x m b<0):zD x m=(x,[],2):=by
 unfold zD;rw[h0,h1,h2,h4,decide_eq_true hf];rfl
theorem NT{x:NodeT}{m:MsgT}(h0:(m.1==0)=false)(h1:(m.1==1)=false)(h2:(m.1==2)=false){b:Bool}(h4:(m.1==4)=b){k:Nat}(hf:sD x m b=(k:Int)):zD x m=sM x m k:=by
 unfold zD;rw[h0,h1,h2,h4,hf,decide_eq_false (show ¬ (k:Int)<0 by omega)];rfl
theorem f188(x:NodeT)(m:MsgT)(hz:SzN x)(hm:SzM m):Ran p 10 188 [va K54 x, va K143 m] (NR (gV x m)):=go188 λn hn=>Ev.now λaA=>by
 have bad:mG x m=false->(some ⟨[⟨K54,x⟩,⟨K191,(([]:List MsgT),())⟩,⟨K3,((1:Int),())⟩],[]⟩:Option Out)=some (NR (gV x m)):=λh=>by rw[Q6 h];rfl
 unfold T188;refine(aB (f34 x hz n (by omega))).trans ?_
 cases g1:dY x with
 | false=>refine(aL rfl).trans ?_;refine(aB (f78 x hz n (by omega))).trans ?_;exact bad (by unfold mG;rw[g1];rfl)
 | true=>
 refine(aF rfl).trans ?_;refine(aB (f176 m hm n (by omega))).trans ?_
 cases g2:eX m with
 | false=>refine(aL rfl).trans ?_;refine(aB (f78 x hz n (by omega))).trans ?_;exact bad (by unfold mG;rw[g1,g2];rfl)
 | true=>
 refine(aF rfl).trans ?_
 cases g3:m.2.2.1==x.1 with
 | false=>refine(aL (show(m.2.2.1 != x.1)=true by unfold bne;rw[g3];rfl)).trans ?_;refine(aB (f78 x hz n (by omega))).trans ?_;exact bad (by unfold mG;rw[g1,g2,g3];rfl)
 | true=>
 refine(aF (show(m.2.2.1 != x.1)=false by unfold bne;rw[g3];rfl)).trans ?_
 by_cases g4:m.2.1>=x.2.1
 ·refine(aE g4).trans ?_;refine(aB (f78 x hz n (by omega))).trans ?_;exact bad (by unfold mG;rw[g1,g2,g3,decide_eq_true g4];rfl)
 refine(aI g4).trans ?_
 cases g5:(m.vec.length:Int)==x.2.1 with
 | false=>refine(aL (show((m.vec.length:Int) != x.2.1)=true by unfold bne;rw[g5];rfl)).trans ?_;refine(aB (f78 x hz n (by omega))).trans ?_;exact bad (by unfold mG;rw[g1,g2,g3,decide_eq_false g4,g5];rfl)
 | true=>
 refine(aF (show((m.vec.length:Int) != x.2.1)=false by unfold bne;rw[g5];rfl)).trans ?_
 have ok:mG x m=true:=by unfold mG;rw[g1,g2,g3,decide_eq_false g4,g5];rfl
 have R:=EZ ok
 have H:=Hears.of hz hm R
 rw[NQ ok]
 cases k0:m.1==0 with
 | true=>
  have hz2:=mN hz m
  (first | refine(aL k0).trans ?_ | refine(aL rfl).trans ?_);refine(aB (f192 x m H R.part n (by omega))).trans ?_;refine(aB (f152 (eC x m) 1 m.2.1 m.2.2.2.1 hz2 n (by omega))).trans ?_;unfold zD;rw[k0];rfl
 | false=>
 (first | refine(aF k0).trans ?_ | refine(aF rfl).trans ?_)
 cases k1:m.1==1 with
 | true=>(first | refine(aL k1).trans ?_ | refine(aL rfl).trans ?_);refine(aB (f193 x m H n (by omega))).trans ?_;unfold zD;rw[k0,k1];rfl
 | false=>
 (first | refine(aF k1).trans ?_ | refine(aF rfl).trans ?_)
 cases k2:m.1==2 with
 | true=>(first | refine(aL k2).trans ?_ | refine(aL rfl).trans ?_);refine(cQ (f194 x m hz hm R n (by omega))).trans ?_;unfold zD;rw[k0,k1,k2];rfl
 | false=>
 (first | refine(aF k2).trans ?_ | refine(aF rfl).trans ?_);refine(aB (f195 x m (m.1==4) hz.sess n (by omega))).trans ?_
 rcases IG x m (m.1==4)with ⟨hf,_⟩ | ⟨k,hk,_,_,hf⟩
 ·refine(aE hf).trans ?_;refine(aB (f78 x hz n (by omega))).trans ?_;rw[KX k0 k1 k2 rfl hf];rfl
 ·rw[NT k0 k1 k2 rfl hf,hf];refine(aI (show ¬ (k:Int)<0 by omega)).trans ?_;refine(aB (f196 x k hz hk n (by omega))).trans ?_
  have hg:=F0 hz k
  have Rg:=R.gone k
  have Hg:=Hears.of hg hm Rg
  have hz2:=mN hg m
  cases k5:m.1==5 with
  | true=>(first | refine(aL k5).trans ?_ | refine(aL rfl).trans ?_);unfold sM;rw[k5];rfl
  | false=>
   (first | refine(aF k5).trans ?_ | refine(aF rfl).trans ?_);refine(aB (f192 (kE x k) m Hg Rg.part n (by omega))).trans ?_
   cases k4:m.1==4 with
   | true=>(first | refine(aL k4).trans ?_ | refine(aL rfl).trans ?_);unfold sM;rw[k5,k4];rfl
   | false=>
    (first | refine(aF k4).trans ?_ | refine(aF rfl).trans ?_);refine(aB (f152 (eC (kE x k) m) 4 m.2.1 m.2.2.2.1 hz2 n (by omega))).trans ?_;refine(aE (kM hm.list)).trans ?_;refine(aE R.idn.1).trans ?_;refine(bK H.vec).trans ?_
    refine(aB (f197 (eC (kE x k) m) m.leaves (gt m.vec x.1.toNat).1 hz2 Rg.brought hm.list n (by omega))).trans ?_;unfold sM;rw[k5,k4];rfl
end Go.Abs.Wz
set_option maxHeartbeats 2000000
namespace Go.Abs.Wz
open Go Go.Abs
end Go.Abs.Wz
namespace Go.Abs.Wz
open Go Go.Abs
-- how many cells lie in what comes back
theorem NO(xs:List kI):cnT (.sl K103) xs=3*(xs.length:Int):=jS (c:=cnR K103) (n:=3) (λx=>rfl) xs
theorem kC(x:NodeT):cnS K54 x=6*(x.2.2.1.length:Int)+(2*(x.2.2.2.1.length:Int)+(1*(x.2.2.2.2.1.length:Int)+(cnT (.sl K34) x.log.2.2.1+(1*(x.got.length:Int)+(1*(x.acked.length:Int)+(cnT (.sl K44) x.seen+(4*(x.sess.length:Int)+(3*(x.rises.length:Int)+0)))))))):=by
 rw[<- O5,<- MA,<- xW,<- xW,<- xW,<- Q2,<- NO];rfl
theorem JE{t u:List bT}(h:u.length=t.length)(h2:∀ i,(gt u i).1.length=(gt t i).1.length):cnT (.sl K44) u<=cnT (.sl K44) t:=
 BN (α:=bT) (c:=cnR K44) u t h λj hj=>by
  have e:∀ r:bT,cnR K44 r=1*(r.1.length:Int)+0:=λr=>by rw[<- xW];rfl
  rw[e,e,h2 j];omega
theorem LF(x:NodeT)(s:aH):(tkP x s).1.length<=5/\(tkP x s).2.1.length<=5:=by
 unfold tkP prune
 cases aP (cF x.state s)with
 | true=>exact lE _ _
 | false=>exact lE _ _
theorem EK(x:NodeT)(s:aH):cnS K54 (jB x s)<=cnS K54 x+100:=by
 rw[kC,kC]
 have h1:=LF x s
 have h2:(cJ (tkP x s)).1.length<=4:=yL _
 have h3:cnT (.sl K44) (tkS x s)<=cnT (.sl K44) x.seen:=JE (dG _ _ _) (eY _ _ _)
 have h4:(tkR x s).length=x.rises.length:=gU _ _ _ _
 show 6*(((tkP x s).1.length:Nat):Int)+(2*(((tkP x s).2.1.length:Nat):Int)+(1*(((cJ (tkP x s)).1.length:Nat):Int)+(cnT (.sl K34) x.log.2.2.1+(1*(x.got.length:Int)+(1*(x.acked.length:Int)+(cnT (.sl K44) (tkS x s)+(4*(x.sess.length:Int)+(3*(((tkR x s).length:Nat):Int)+0))))))))<=_
 omega
theorem vQ(x:NodeT)(m:MsgT):cnS K54 (eG x m)<=cnS K54 x+100:=by
 have h:=EK (heard0 x m) f4
 have h3:cnT (.sl K44) (bP x.seen m.2.1 m.marks)<=cnT (.sl K44) x.seen:=JE (dG _ _ _) (eY _ _ _)
 have h4:cnS K54 (heard0 x m)<=cnS K54 x:=by
  rw[kC,kC]
  show 6*(x.2.2.1.length:Int)+(2*(x.2.2.2.1.length:Int)+(1*(x.2.2.2.2.1.length:Int)+(cnT (.sl K34) x.log.2.2.1+(1*(x.got.length:Int)+(1*(((c7 x.acked m.2.1 (mxI false (gt m.vec x.1.toNat).1 (cE x.log))).length:Nat):Int)+(cnT (.sl K44) (bP x.seen m.2.1 m.marks)+(4*(x.sess.length:Int)+(3*(x.rises.length:Int)+0))))))))<=_
  rw[fS];omega
 unfold eG;omega
theorem xJ(x:NodeT)(m:MsgT):cnS K54 (eC x m)<=cnS K54 x+200:=by
 have h1:=vQ x m
 have h2:=EK (eG x m) m.part
 have h3:∀ y:NodeT,cnS K54 (gotUp y m)=cnS K54 y:=λy=>by
  rw[kC,kC]
  show 6*(y.2.2.1.length:Int)+(2*(y.2.2.2.1.length:Int)+(1*(y.2.2.2.2.1.length:Int)+(cnT (.sl K34) y.log.2.2.1+(1*(((c7 y.got m.2.1 m.hi).length:Nat):Int)+(1*(y.acked.length:Int)+(cnT (.sl K44) y.seen+(4*(y.sess.length:Int)+(3*(y.rises.length:Int)+0))))))))=_
  rw[fS]
 unfold eC;rw[h3];omega
theorem EC(x:NodeT){ss:List eF}(h:ss.length<=x.sess.length+1):cnS K54 (withS x ss)<=cnS K54 x+4:=by
 rw[kC,kC]
 show 6*(x.2.2.1.length:Int)+(2*(x.2.2.2.1.length:Int)+(1*(x.2.2.2.2.1.length:Int)+(cnT (.sl K34) x.log.2.2.1+(1*(x.got.length:Int)+(1*(x.acked.length:Int)+(cnT (.sl K44) x.seen+(4*(ss.length:Int)+(3*(x.rises.length:Int)+0))))))))<=_
 omega
theorem PG(x:NodeT)(k:Nat):cnS K54 (kE x k)<=cnS K54 x+4:=EC x (by rw[List.length_append,List.length_take,List.length_drop];omega)
structure RecSz (x:NodeT) (r:I5):Prop where
 node:SzN r.1
 cn:cnS K54 r.1<=cnS K54 x+300
 len:r.2.1.length<=1
 msg:∀ q∈r.2.1,SzM q
theorem xU{q:MsgT}(h:SzM q):∀ y∈[q],SzM y:=λy hy=>by rw[List.mem_singleton.1 hy];exact h
theorem zP:∀ y∈([]:List MsgT),SzM y:=λy hy=>by cases hy
theorem JM{x:NodeT}(h:SzN x)(a b c:Int):SzM (RT x a b c):=⟨Nat.zero_le _,h.got,Nat.zero_le _,iA,Nat.le_trans (fQ _) (by decide)⟩
theorem KV{o x:NodeT}(h:SzN o)(m:MsgT):SzM (HA o x m):=⟨h.leaves,h.got,Nat.le_trans (s8 _ _) (by decide),jK _ _,Nat.le_trans (fQ _) (by decide)⟩
theorem O2{o x:NodeT}(h:SzN o){m:MsgT}(hm:SzM m):SzM (SQ o x m):=⟨Nat.zero_le _,h.got,hm.list,jK _ _,Nat.le_trans (fQ _) (by decide)⟩
theorem KW{x:NodeT}{m:MsgT}(hz:SzN x)(hm:SzM m)(R:RecOk x m):RecSz x (oK x m):=by
 unfold oK
 cases hf:kV x m with
 | true=>exact⟨hz,by show cnS K54 x<=_;omega,Nat.le_refl _,xU (JM hz _ _ _)⟩
 | false=>
  have h1:=QT hz R.node m
  have h2:=vQ (withS x (hU x m)) m
  have h3:=EC x (ss:=hU x m) (by
   unfold hU oO lA
   cases decide (c8 x.sess m.2.1 true>=0)with
   | true=>show(List.set _ _ _).length<=_;rw[List.length_set];omega
   | false=>show(x.sess++[_]).length<=_;rw[List.length_append];exact Nat.le_refl _)
  exact⟨h1,by show cnS K54 (KK x m)<=_;unfold KK;omega,Nat.le_refl _,xU (KV h1 m)⟩
theorem KY{x:NodeT}{m:MsgT}(hz:SzN x)(hm:SzM m)(k:Nat):RecSz x (sM x m k):=by
 have h1:=F0 hz k
 have h2:=PG x k
 have h3:=mN h1 m
 have h4:=xJ (kE x k) m
 unfold sM
 cases m.1==5 with
 | true=>exact⟨h1,by show cnS K54 (kE x k)<=_;omega,Nat.zero_le _,zP⟩
 | false=>
  cases m.1==4 with
  | true=>exact⟨h3,by show cnS K54 (eC (kE x k) m)<=_;omega,Nat.zero_le _,zP⟩
  | false=>exact⟨h3,by show cnS K54 (eC (kE x k) m)<=_;omega,Nat.le_refl _,xU (O2 h3 hm)⟩
theorem JF{x:NodeT}{m:MsgT}(hz:SzN x)(hm:SzM m):RecSz x (gV x m):=by
 unfold gV
 cases ho:mG x m with
 | false=>exact⟨hz,by show cnS K54 x<=_;omega,Nat.zero_le _,zP⟩
 | true=>
  have R:=EZ ho
  show RecSz x (zD x m)
  unfold zD
  have h3:=mN hz m
  have h4:=xJ x m
  have h5:=lF hz m
  have h6:=vQ x m
  cases m.1==0 with
  | true=>exact⟨h3,by show cnS K54 (eC x m)<=_;omega,Nat.le_refl _,xU (JM h3 _ _ _)⟩
  | false=>
   cases m.1==1 with
   | true=>exact⟨h5,by show cnS K54 (eG x m)<=_;omega,Nat.zero_le _,zP⟩
   | false=>
    cases m.1==2 with
    | true=>exact KW hz hm R
    | false=>
     cases decide (sD x m (m.1==4)<0)with
     | true=>exact⟨hz,by show cnS K54 x<=_;omega,Nat.zero_le _,zP⟩
     | false=>exact KY hz hm _
end Go.Abs.Wz
set_option maxHeartbeats 4000000
namespace Go.Abs.Wz
open Go Go.Abs
def zQ:Option MsgT->Out
 | none=>⟨[⟨K143,BD⟩,⟨K4,(false,())⟩],[]⟩
 | some m=>⟨[⟨K143,m⟩,⟨K4,(true,())⟩],[]⟩
def kY(x:Int×RdT):Rows [K3]×Rows [K196]:=(((x.1,()),()),(x.2,()))
def sO(x:List aO×RdT):Rows [K44]×Rows [K196]:=(((x.1,()),()),(x.2,()))
def TB(s:aH)(k:Bool):Rows [K34,K4]×Rows []:=((s,(k,()),()),())
theorem NA(o:Option aH):rS o=⟨[⟨K34,o.getD f4⟩,⟨K4,(o.isSome,())⟩],[]⟩:=by cases o<;>rfl
theorem R7(b:List aO):SzS ((cU b).getD f4):=by
 cases h:cU b with
 | none=>exact iA
 | some s=>exact zM (C9 h)
theorem rng{a b c d:Prop}[Decidable a][Decidable b](h1:a)(h2:b):(decide a&&decide b)=true:=by rw[decide_eq_true h1,decide_eq_true h2];rfl
end Go.Abs.Wz
