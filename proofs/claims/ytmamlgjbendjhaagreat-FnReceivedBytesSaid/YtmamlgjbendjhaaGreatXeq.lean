/- What the functions of this program answer, part eq. -/
import Derived.Test.YtmamlgjbendjhaaGreatW3
import Derived.Test.YtmamlgjbendjhaaGreatXk
import Derived.Test.YtmamlgjbendjhaaGreatXa
import Derived.Test.YtmamlgjbendjhaaGreatXm
import Derived.Test.YtmamlgjbendjhaaGreatW2
import Derived.Test.YtmamlgjbendjhaaGreatXep
import Derived.Test.YtmamlgjbendjhaaGreatW4
set_option linter.unusedVariables false
open Go.IntKind (i64)
namespace Go.Abs.Xz
open Go Go.Abs
theorem NX(xs:List bI):cnT (.sl K163) xs=6*(xs.length:Int):=jN (c:=cnR K163) (n:=6) (λx=>rfl) xs
theorem LE(xs:List aK):cnT (.sl K165) xs=2*(xs.length:Int):=jN (c:=cnR K165) (n:=2) (λx=>rfl) xs
theorem yA(xs:List aH):cnT (.sl K3) xs=1*(xs.length:Int):=jN (c:=cnR K3) (n:=1) (λx=>rfl) xs
end Go.Abs.Xz
namespace Go.Abs.Xz
open Go Go.Abs
def J0:bH:=(List.replicate ((5:Int)).toNat (eR K3),())
def dS(n:Int):List bH:=bif inB n 1 5 then List.replicate n.toNat J0 else[]
theorem f372(a:Int):Ran p 2 372 [vf K3 (a,())] (rO K34 (dS a,())):=go372 λn hn=>by
 cases h:inB a 1 5 with
 | false=>exact Ev.now λaA=>by unfold T372 dS;refine qC (f211 a 1 5) ?_;rw[h];rfl
 | true=>
  have ha:=aQ.1 h
  have lp:It (λaA (_:Unit)=>c372_5 (aL p n) aA a) ((0:Int),([]:List (Row K28))) (λ_=>rV K34 (dS a,())):=by
   refine It.run (λi=>((i:Int),List.replicate i J0)) a.toNat (λi hi aA u rec=>?_) (It.stop λaA u rec=>?_)
   ·unfold c372_5;dsimp only;rw[aF (by omega)];refine qP (by omega) ?_;refine qT (by decide) ?_;refine qP ?_ ?_
    ·show List.length (List.replicate i J0)+1<=bound;rw[List.length_replicate];unfold bound;omega
    ·rw[List.replicate_succ'];rfl
   ·unfold c372_5;dsimp only;refine qN (by omega) ?_;unfold dS;rw[h];rfl
  exact Ev.eq (λaA=>by unfold T372;refine qC (f211 a 1 5) ?_;rw[h];rfl) (lp.ev (i:=()) rfl)
def S4:NodeT:=((0:Int),(0:Int),[],[],[],(0:Int),(0:Int),(0:Int),[],[],[],[],(0:Int),(0:Int),[],(0:Int),(0:Int),(0:Int),[],())
def iO(id n cap slots wait lim:Int):NodeT:=(id,n,[],[],(bV ([],[],())).1,(bV ([],[],())).2.1,cap,(0:Int),[],List.replicate n.toNat (eR K3),List.replicate n.toNat (eR K3),dS n,
 (0:Int),slots,[],wait,lim,(0:Int),List.replicate ((5:Int)).toNat (eR K147),())
theorem sE(s:aD):(bV s).1.length<=4:=by
 unfold bV;cases aJ s with
 | true=>exact Nat.le_refl 4
 | false=>exact Nat.zero_le _
theorem CX{n:Int}(h:inB n 1 5=true):(dS n).length<=5:=by
 have:=aQ.1 h
 unfold dS;rw[h];show(List.replicate n.toNat J0).length<=5;rw[List.length_replicate];omega
theorem nK{n:Int}(h:inB n 1 5=true){i:Nat}(hi:i<(dS n).length):gt (dS n) i=J0:=by
 rw[dC hi];unfold dS;simp[h]
theorem zJ(id n cap slots wait lim:Int)(h:inB n 1 5=true):SzN (iO id n cap slots wait lim):=by
 have hh:=aQ.1 h
 have e:List.length (List.replicate n.toNat (eR K3))<=aN:=by rw[List.length_replicate];unfold aN;omega
 refine⟨⟨Nat.zero_le _,Nat.zero_le _⟩,Nat.le_trans (sE _) (by decide),Nat.zero_le _,(λi hi=>absurd hi (Nat.not_lt_zero _)),e,e,Nat.le_trans (CX h) (by decide),λi hi=>?_,Nat.zero_le _,?_⟩
 ·rw[show gt (iO id n cap slots wait lim).seen i=J0 from nK h hi];decide
 ·show List.length (List.replicate ((5:Int)).toNat (eR K147))<=aN
  rw[List.length_replicate];decide
def GW(id n cap slots wait lim:Int):Bool:=inB n 1 5&&eO (iO id n cap slots wait lim)
def E0(id n cap slots wait lim:Int):NodeT:=bif GW id n cap slots wait lim then iO id n cap slots wait lim else S4
theorem s00:SzS ([],[],()):=⟨Nat.zero_le _,Nat.zero_le _⟩
theorem dd{n:Int}(h:inB n 1 5=true):(decide (0<=n)&&decide (n<=(bound:Int))&&decide (n=n))=true:=by
 have:=aQ.1 h
 unfold bound;simp;omega
theorem f348(id m cap slots wait lim:Int):Ran p 8 348 [vf K3 (id,()), vf K3 (m,()), vf K3 (cap,()), vf K3 (slots,()), vf K3 (wait,()), vf K3 (lim,())] ⟨[⟨K38,E0 id m cap slots wait lim⟩,⟨K4,(GW id m cap slots wait lim,())⟩],[]⟩:=go348 λn hn=>Ev.now λaA=>by
 show T348 (aL p n) aA id m cap slots wait lim=some ⟨[⟨K38,E0 id m cap slots wait lim⟩,⟨K4,(GW id m cap slots wait lim,())⟩],[]⟩
 unfold T348 E0 GW
 refine qC (f211 m 1 5) ?_
 cases h:inB m 1 5 with
 | false=>rfl
 | true=>
  refine qf ?_
  refine qC (f228 ([],[],()) s00) ?_
  refine qT (dd h) ?_;refine qT (dd h) ?_
  refine qC (f372 m) ?_
  refine qT (by decide) ?_
  refine qC (f86 (iO id m cap slots wait lim) (zJ _ _ _ _ _ _ h)) ?_
  cases eO (iO id m cap slots wait lim)<;>rfl
end Go.Abs.Xz
namespace Go.Abs.Xz
open Go Go.Abs
theorem qQ{α:Type}[Inhabited α]{xs:List α}{i:Nat}(h:i<xs.length):xs.take i++[gt xs i]=xs.take (i+1):=by
 rw[dC h];exact List.take_append_getElem h
theorem hY{α β:Type}{xs:List β}(h:xs.length<=aN):List.length ([]:List α)+xs.length<=bound:=by
 show 0+xs.length<=bound;unfold aN at h;unfold bound;omega
theorem xS{α:Type}{xs:List α}(h:xs.length<=aN)(i:Nat):(xs.take i).length+1<=bound:=by
 rw[List.length_take];unfold aN at h;unfold bound;omega
theorem i63{i k:Nat}(h:i<k)(hk:k<=aN):i<9223372036854775807:=by unfold aN at hk;omega
theorem f224(s:aD)(hz:SzS s):Ran p 1 224 [va K27 s] (rO K27 s):=go224 λn hn=>Ev.now λaA=>by
 show T224 (aL p n) aA s=rV K27 s
 unfold T224;refine qP (hY hz.a) ?_;refine qP (hY hz.b) ?_;rfl
theorem f220(s:aD)(hz:SzS s):Ran p 1 220 [va K27 s] (rO K27 s):=go220 λn hn=>Ev.now λaA=>by
 show T220 (aL p n) aA s=rV K27 s
 unfold T220;refine qP (hY hz.a) ?_;refine qP (hY hz.b) ?_;rfl
theorem f98(xs:List aH)(h:xs.length<=aN):Ran p 1 98 [vf K28 (xs,())] (rO K28 (xs,())):=go98 λn hn=>Ev.now λaA=>by
 show T98 (aL p n) aA xs=rV K28 (xs,())
 unfold T98;refine qP (hY h) ?_;rfl
theorem f90(t:jL)(h:t.1.length<=aN):Ran p 1 90 [va K30 t] (rO K30 t):=go90 λn hn=>Ev.now λaA=>by
 show T90 (aL p n) aA t=rV K30 t
 unfold T90;refine qP (hY h) ?_;rfl
theorem f84(t:jL)(h:t.1.length<=aN):Ran p 2 84 [va K30 t] (rO K30 t):=go84 λn hn=>Ev.now λaA=>by
 show T84 (aL p n) aA t=rV K30 t
 unfold T84;refine qC (f98 t.1 h) ?_;rfl
theorem f226(ts:List bH)(h1:ts.length<=aN)(h2:∀ i,i<ts.length->(gt ts i).1.length<=aN):Ran p 1 226 [vf K34 (ts,())] (rO K34 (ts,())):=go226 λn hn=>by
 have lp:It (λaA (_:Unit)=>c226_3 (aL p n) aA ts) ((0:Int),([]:List bH)) (λ_=>rV K34 (ts,())):=by
  refine It.run (λi=>((i:Int),ts.take i)) ts.length (λi hi aA u rec=>?_) (It.stop λaA u rec=>?_)
  ·unfold c226_3;dsimp only;rw[aF (i63 hi h1)];refine ql hi ?_;refine qz ?_;refine(aE hi).trans ?_
   refine qP (hY (h2 i hi)) ?_;refine qP (xS h1 i) ?_;rw[<- qQ hi];rfl
  ·show c226_3 (aL p n) aA ts rec ((ts.length:Int),ts.take ts.length)=_
   refine(congrArg (λl=>c226_3 (aL p n) aA ts rec ((ts.length:Int),l)) (List.take_length (l:=ts))).trans ?_
   unfold c226_3;dsimp only;refine qe ?_;rfl
 exact Ev.eq (λaA=>by unfold T226;rfl) (lp.ev (i:=()) rfl)
theorem f222(ts:List bH)(h1:ts.length<=aN)(h2:∀ i,i<ts.length->(gt ts i).1.length<=aN):Ran p 2 222 [vf K34 (ts,())] (rO K34 (ts,())):=go222 λn hn=>by
 have lp:It (λaA (_:Unit)=>c222_3 (aL p n) aA ts) ((0:Int),([]:List bH)) (λ_=>rV K34 (ts,())):=by
  refine It.run (λi=>((i:Int),ts.take i)) ts.length (λi hi aA u rec=>?_) (It.stop λaA u rec=>?_)
  ·unfold c222_3;dsimp only;rw[aF (i63 hi h1)];refine ql hi ?_;refine qz ?_;refine(aE hi).trans ?_
   refine qC (f98 (gt ts i).1 (h2 i hi)) ?_;refine qP (xS h1 i) ?_;rw[<- qQ hi];rfl
  ·show c222_3 (aL p n) aA ts rec ((ts.length:Int),ts.take ts.length)=_
   refine(congrArg (λl=>c222_3 (aL p n) aA ts rec ((ts.length:Int),l)) (List.take_length (l:=ts))).trans ?_
   unfold c222_3;dsimp only;refine qe ?_;rfl
 exact Ev.eq (λaA=>by unfold T222;rfl) (lp.ev (i:=()) rfl)
theorem f225(l:fJ)(h1:l.2.2.1.length<=aN)(h2:∀ i,i<l.2.2.1.length->SzS (gt l.2.2.1 i)):Ran p 2 225 [va K33 l] (rO K33 l):=go225 λn hn=>by
 have lp:It (λaA (_:Unit)=>c225_3 (aL p n) aA l) ((0:Int),([]:List aD)) (λ_=>rV K33 l):=by
  refine It.run (λi=>((i:Int),l.2.2.1.take i)) l.2.2.1.length (λi hi aA u rec=>?_) (It.stop λaA u rec=>?_)
  ·unfold c225_3;dsimp only;rw[aF (i63 hi h1)];refine ql hi ?_;refine qz ?_;refine(aE hi).trans ?_
   refine qC (f224 (gt l.2.2.1 i) (h2 i hi)) ?_;refine qP (xS h1 i) ?_;rw[<- qQ hi];rfl
  ·show c225_3 (aL p n) aA l rec ((l.2.2.1.length:Int),l.2.2.1.take l.2.2.1.length)=_
   refine(congrArg (λq=>c225_3 (aL p n) aA l rec ((l.2.2.1.length:Int),q)) (List.take_length (l:=l.2.2.1))).trans ?_
   unfold c225_3;dsimp only;refine qe ?_;rfl
 exact Ev.eq (λaA=>by unfold T225;rfl) (lp.ev (i:=()) rfl)
theorem f221(l:fJ)(h1:l.2.2.1.length<=aN)(h2:∀ i,i<l.2.2.1.length->SzS (gt l.2.2.1 i)):Ran p 2 221 [va K33 l] (rO K33 l):=go221 λn hn=>by
 have lp:It (λaA (_:Unit)=>c221_3 (aL p n) aA l) ((0:Int),([]:List aD)) (λ_=>rV K33 l):=by
  refine It.run (λi=>((i:Int),l.2.2.1.take i)) l.2.2.1.length (λi hi aA u rec=>?_) (It.stop λaA u rec=>?_)
  ·unfold c221_3;dsimp only;rw[aF (i63 hi h1)];refine ql hi ?_;refine qz ?_;refine(aE hi).trans ?_
   refine qC (f220 (gt l.2.2.1 i) (h2 i hi)) ?_;refine qP (xS h1 i) ?_;rw[<- qQ hi];rfl
  ·show c221_3 (aL p n) aA l rec ((l.2.2.1.length:Int),l.2.2.1.take l.2.2.1.length)=_
   refine(congrArg (λq=>c221_3 (aL p n) aA l rec ((l.2.2.1.length:Int),q)) (List.take_length (l:=l.2.2.1))).trans ?_
   unfold c221_3;dsimp only;refine qe ?_;rfl
 exact Ev.eq (λaA=>by unfold T221;rfl) (lp.ev (i:=()) rfl)
theorem f85(x:NodeT)(hz:SzN x):Ran p 3 85 [va K38 x] (rO K38 x):=go85 λn hn=>Ev.now λaA=>by
 show T85 (aL p n) aA x=rV K38 x
 unfold T85
 refine qC (f224 x.state hz.state) ?_
 refine qC (f90 x.tree hz.leaves) ?_
 refine qC (f225 x.log hz.list hz.logs) ?_
 refine qP (hY hz.got) ?_;refine qP (hY hz.acked) ?_
 refine qC (f226 x.seen hz.seen hz.lines) ?_
 refine qP (hY hz.sess) ?_;refine qP (hY hz.rises) ?_
 rfl
theorem f81(x:NodeT)(hz:SzN x):Ran p 3 81 [va K38 x] (rO K38 x):=go81 λn hn=>Ev.now λaA=>by
 show T81 (aL p n) aA x=rV K38 x
 unfold T81
 refine qC (f220 x.state hz.state) ?_
 refine qC (f84 x.tree hz.leaves) ?_
 refine qC (f221 x.log hz.list hz.logs) ?_
 refine qC (f98 x.got hz.got) ?_
 refine qC (f98 x.acked hz.acked) ?_
 refine qC (f222 x.seen hz.seen hz.lines) ?_
 refine qP (hY hz.sess) ?_;refine qP (hY hz.rises) ?_
 rfl
structure SzX (w:iU):Prop extends SzW w where
 bytes:∀ i,i<w.2.1.length->(gt w.2.1 i).2.1.length<=aN
end Go.Abs.Xz
namespace Go.Abs.Xz
open Go Go.Abs
def BE(x:eC):eC:=(x.1,x.2.1,x.2.2.1,i64.wrap (x.2.2.2.1+1),())
def tM(x:NodeT)(i:Nat):List eC:=bif decide (i64.wrap ((gt x.sess i).2.2.2.1+1)<=x.wait)then[BE (gt x.sess i)] else[]
theorem BF(x:NodeT)(i:Nat):(tM x i).length<=1:=by
 unfold tM;cases decide (i64.wrap ((gt x.sess i).2.2.2.1+1)<=x.wait)<;>simp
def yN(y:NodeT):NodeT:=(y.1,y.2.1,y.2.2.1,y.2.2.2.1,y.2.2.2.2.1,y.2.2.2.2.2.1,y.2.2.2.2.2.2.1,y.2.2.2.2.2.2.2.1,y.2.2.2.2.2.2.2.2.1,y.2.2.2.2.2.2.2.2.2.1,y.2.2.2.2.2.2.2.2.2.2.1,y.2.2.2.2.2.2.2.2.2.2.2.1,y.2.2.2.2.2.2.2.2.2.2.2.2.1,y.2.2.2.2.2.2.2.2.2.2.2.2.2.1,bM y.sess.length (tM y),y.wait,y.limit,i64.wrap (y.clock+1),y.rises,())
def oT(x:NodeT):NodeT:=bif eO x then(bif x.clock==100000 then x else yN x)else x
theorem BG(x:NodeT):(yN x).sess.length<=x.sess.length:=by
 have:=cT (g:=tM x) (L:=1) (n:=x.sess.length) λi _=>BF x i
 show(bM x.sess.length (tM x)).length<=x.sess.length
 omega
theorem L0{x:NodeT}(h:SzN x):SzN (oT x):=by
 unfold oT
 cases eO x with
 | false=>exact h
 | true=>
  cases x.clock==100000 with
  | true=>exact h
  | false=>exact⟨h.state,h.leaves,h.list,h.logs,h.got,h.acked,h.seen,h.lines,Nat.le_trans (BG x) h.sess,h.rises⟩

theorem f297(x:NodeT)(hz:SzN x):Ran p 8 297 [va K38 x] (rO K38 (oT x)):=go297 λn hn=>by
 unfold oT
 cases ho:eO x with
 | false=>exact Ev.now λaA=>by show T297 (aL p n) aA x=rV K38 x;unfold T297;refine qC (f85 x hz) ?_;refine qC (f86 x hz) ?_;rw[ho];rfl
 | true=>
  cases hc:x.clock==100000 with
  | true=>exact Ev.now λaA=>by show T297 (aL p n) aA x=rV K38 x;unfold T297;refine qC (f85 x hz) ?_;refine qC (f86 x hz) ?_;rw[ho];refine qf ?_;exact jE hc
  | false=>
   have lp:It (λaA (_:Unit)=>c297_7 (aL p n) aA x ((x,()),())) ((0:Int),([]:List eC)) (λ_=>rV K38 (yN x)):=by
    refine It.accu (α:=eC) [] (tM x) x.sess.length 1 (λi _=>BF x i) (λi hi acc ha aA u rec=>?_) (It.stop λaA u rec=>?_)
    ·unfold c297_7 tM;dsimp only;rw[aF (i63 hi hz.sess)];refine ql hi ?_;refine qz ?_;refine(aE hi).trans ?_
     by_cases h:i64.wrap ((gt x.sess i).2.2.2.1+1)<=x.wait
     ·refine qP h ?_;refine qP ?_ ?_
      ·have h1:(tM x i).length=1:=by unfold tM;rw[decide_eq_true h];rfl
       have h2:=hz.sess
       rw[h1] at ha
       show acc.length+1<=bound
       unfold aN at h2;unfold bound;simp at ha;omega
      ·rw[decide_eq_true h];rfl
     ·refine qN h ?_;rw[decide_eq_false h];show rec _=rec _;rw[show(bif false then[BE (gt x.sess i)] else[])=([]:List eC)from rfl,List.append_nil];rfl
    ·unfold c297_7;dsimp only;refine qe ?_;rfl
   exact Ev.eq (λaA=>by
    unfold T297;refine qC (f85 x hz) ?_;refine qC (f86 x hz) ?_;rw[ho];refine qf ?_;exact gD hc) (lp.ev (i:=()) rfl)
theorem BI{α:Type}[Inhabited α]{c:α->Int}:∀ (xs ys:List α),xs.length=ys.length->(∀ j,j<xs.length->c (gt xs j)<=c (gt ys j))->gJ c xs<=gJ c ys
 | [],[],_,_=>Int.le_refl _
 | x::xs,y::ys,h,h2=>by
  have h3:c x<=c y:=h2 0 (Nat.zero_lt_succ _)
  have h4:=BI xs ys (by simpa using h) λj hj=>h2 (j+1) (Nat.succ_lt_succ hj)
  show c x+gJ c xs<=c y+gJ c ys
  omega
 | [],_::_,h,_=>by cases h
 | _::_,[],h,_=>by cases h
theorem PW(xs:List eC):cnT (.sl K141) xs=4*(xs.length:Int):=jN (c:=cnR K141) (n:=4) (λx=>rfl) xs
end Go.Abs.Xz
namespace Go.Abs.Xz
open Go Go.Abs
theorem f256(a b:Int):Ran p 1 256 [vf K3 (a,()), vf K3 (b,())] (rO K3 (mxI false a b,())):=go256 λn hn=>Ev.now λaA=>by
 unfold T256;rw[E4]
 by_cases h:a<b
 ·refine qP h ?_;rw[show min a b=a by omega]
 ·refine qN h ?_;rw[show min a b=b by omega]
theorem f253(ms:List aK)(h2:ms.length<=maxLen):Ran p 3 253 [vf K41 (ms,())] (rO K4 (dX ms,())):=go253 λn hn=>by
 have inner:It (λaA (_:Unit)=>c253_2 (aL p n) aA ms) (0:Int) (λ_=>oB (dX ms)):=by
  refine cU (It.allB ms.length (fE ms) true (λi hi aA a rec=>?_) (It.stop λaA a rec=>?_))
  ·have hb:i<9223372036854775807:=Nat.lt_of_lt_of_le hi h2
   unfold c253_2 fE;rw[aF hb];refine ql hi ?_;refine qz ?_;refine(aE hi).trans ?_;refine qC (f250 (gt ms i).1) ?_;refine chk λ_=>?_
   cases i with
   | zero=>refine qN (by decide) ?_;refine qz ?_;refine(aE hi).trans ?_;refine qC (f211 (gt ms 0).2.1 1 1000) ?_;exact fin
   | succ j=>
    refine qP (by omega) ?_;refine qz ?_;refine(aE hi).trans ?_;rw[iV hb (by omega)];refine qz ?_;refine(aE (show j<ms.length by omega)).trans ?_;refine OU λ_=>?_
    refine qz ?_;refine(aE hi).trans ?_;refine qC (f211 (gt ms (j+1)).2.1 1 1000) ?_;exact fin
  ·unfold c253_2;refine qe ?_;rfl
 exact Ev.eq (λaA=>by unfold T253;rfl) (inner.ev (i:=()) rfl)
theorem f125(ms:List aK)(h2:ms.length<=maxLen):Ran p 3 125 [vf K41 (ms,())] (rO K4 (dX ms,())):=go125 λn hn=>by
 have inner:It (λaA (_:Unit)=>c125_2 (aL p n) aA ms) (0:Int) (λ_=>oB (E9 ms)):=by
  refine cU (It.allB ms.length (iJ ms) true (λi hi aA a rec=>?_) (It.stop λaA a rec=>?_))
  ·have hb:i<9223372036854775807:=Nat.lt_of_lt_of_le hi h2
   unfold c125_2 iJ;rw[aF hb];refine ql hi ?_;refine qz ?_;refine(aE hi).trans ?_;refine qC (f123 (gt ms i).1) ?_;refine chk λ_=>?_;refine qC (f100 (gt ms i).2.1 1 1000) ?_;refine chk λ_=>?_
   cases i with
   | zero=>refine qN (by decide) ?_;rfl
   | succ j=>refine qP (by omega) ?_;rw[iV hb (by omega)];refine qz ?_;refine(aE (show j<ms.length by omega)).trans ?_;exact DT
  ·unfold c125_2;refine qe ?_;rfl
 rw[KM] at inner
 exact Ev.eq (λaA=>by unfold T125;rfl) (inner.ev (i:=()) rfl)
theorem f234(s:aD)(hz:SzS s):Ran p 5 234 [va K27 s] (rO K41 (cB s,())):=go234 λn hn=>by
 have lp:It (λaA (_:Unit)=>c234_3 (aL p n) aA s) ((0:Int),([]:List aK)) (λ_=>rV K41 (cB s,())):=by
  refine It.accu (α:=aK) [] (gP s) 5 1 (λi _=>n7 s i) (λi hi acc ha aA u rec=>?_) (It.stop λaA u rec=>?_)
  ·show c234_3 (aL p n) aA s rec ((i:Int),acc)=rec (((i+1:Nat):Int),acc++gP s i)
   have hb:acc.length+1<=bound+(1 - (gP s i).length):=by simp at ha;unfold bound;omega
   unfold c234_3 gP;dsimp only;rw[aF (show i<9223372036854775807 by omega)];refine qP (show(i:Int)<5 by omega) ?_;refine qC (f316 s (i:Int) hz) ?_
   by_cases h:gone s i>0
   ·refine qP h ?_;refine qP (by
     unfold gP at hb;rw[decide_eq_true h] at hb;exact hb) ?_;rw[decide_eq_true h];rfl
   ·refine qN h ?_;rw[decide_eq_false h];show rec _=rec _;rw[show(bif false then[((i:Int),gone s i,())] else[])=([]:List aK)from rfl,List.append_nil];rfl
  ·unfold c234_3;dsimp only;refine qe ?_;rfl
 exact Ev.eq (λaA=>by unfold T234;rfl) (lp.ev (i:=()) rfl)
theorem f223(s:aD)(hz:SzS s):Ran p 5 223 [va K27 s] (rO K41 (cB s,())):=go223 λn hn=>by
 have lp:It (λaA (_:Unit)=>c223_3 (aL p n) aA s) ((0:Int),([]:List aK)) (λ_=>rV K41 (cB s,())):=by
  refine It.accu (α:=aK) [] (gP s) 5 1 (λi _=>n7 s i) (λi hi acc ha aA u rec=>?_) (It.stop λaA u rec=>?_)
  ·show c223_3 (aL p n) aA s rec ((i:Int),acc)=rec (((i+1:Nat):Int),acc++gP s i)
   have hb:acc.length+1<=bound+(1 - (gP s i).length):=by simp at ha;unfold bound;omega
   unfold c223_3 gP;dsimp only;rw[aF (show i<9223372036854775807 by omega)];refine qP (show(i:Int)<5 by omega) ?_;refine qC (f311 s (i:Int) hz) ?_
   by_cases h:gone s i>0
   ·refine qP h ?_;refine qP (by
     unfold gP at hb;rw[decide_eq_true h] at hb;exact hb) ?_;rw[decide_eq_true h];rfl
   ·refine qN h ?_;rw[decide_eq_false h];show rec _=rec _;rw[show(bif false then[((i:Int),gone s i,())] else[])=([]:List aK)from rfl,List.append_nil];rfl
  ·unfold c223_3;dsimp only;refine qe ?_;rfl
 exact Ev.eq (λaA=>by unfold T223;rfl) (lp.ev (i:=()) rfl)
theorem aU{α β:Type}[Inhabited α]{xs:List α}{i:Nat}{f:α->Option β}(h:i<xs.length):(at? xs i).bind f=f (gt xs i):=by
 rw[O2 h,dC h];rfl
theorem f255(v:List aH)(k m:Int)(hv:v.length<=aN):Ran p 2 255 [vf K28 (v,()), vf K3 (k,()), vf K3 (m,())] (rO K28 (cN v k m,())):=go255 λn hn=>Ev.now λaA=>by
 unfold T255 cN;refine qP (hY hv) ?_;refine qC (f211 k 0 (i64.wrap ((v.length:Int) - 1))) ?_
 cases hb:inB k 0 (i64.wrap ((v.length:Int) - 1))with
 | false=>rfl
 | true=>
  obtain⟨hk,e⟩:=oD hv hb
  refine qt ?_;refine qP (show(0:Int)<=k by omega) ?_;refine(aU hk).trans ?_
  by_cases h:m>(gt v k.toNat).1
  ·refine qP h ?_;refine qP (show(0:Int)<=k by omega) ?_;refine(aU hk).trans ?_;refine(aU hk).trans ?_
   rw[rU,show max (gt v k.toNat).1 m=m by omega];rfl
  ·refine qN h ?_;rw[rU,show max (gt v k.toNat).1 m=(gt v k.toNat).1 by omega]
   show(rV K28 (v,()):Option Out)=rV K28 (v.set k.toNat (gt v k.toNat),())
   rw[sK]
theorem f236(v:List aH)(k m:Int)(hv:v.length<=aN):Ran p 2 236 [vf K28 (v,()), vf K3 (k,()), vf K3 (m,())] (rO K28 (cN v k m,())):=go236 λn hn=>Ev.now λaA=>by
 unfold T236 cN;refine qC (f98 v hv) ?_;refine qC (f100 k 0 (i64.wrap ((v.length:Int) - 1))) ?_
 cases hb:inB k 0 (i64.wrap ((v.length:Int) - 1))with
 | false=>rfl
 | true=>
  obtain⟨hk,e⟩:=oD hv hb
  refine qt ?_;refine qP (show(0:Int)<=k by omega) ?_;refine(aU hk).trans ?_;refine qP (show(0:Int)<=k by omega) ?_;refine(aU hk).trans ?_;refine(aU hk).trans ?_;rfl
theorem vC{α:Type}(xs:List α)(i:Nat)(a b:α):(xs.set i a).set i b=xs.set i b:=by simp
theorem f257(t:List bH)(k:Int)(ms:List aK)(h1:t.length<=aN)(h2:∀ i,i<t.length->(gt t i).1.length<=aN)(h3:ms.length<=aN):Ran p 4 257 [vf K34 (t,()), vf K3 (k,()), vf K41 (ms,())] (rO K34 (bB t k ms,())):=go257 λn hn=>by
 cases hb:inB k 0 (i64.wrap ((t.length:Int) - 1))with
 | false=>exact Ev.now λaA=>by show T257 (aL p n) aA t k ms=_;unfold T257;refine qC (f226 t h1 h2) ?_;refine qC (f211 k 0 (i64.wrap ((t.length:Int) - 1))) ?_;rw[hb,show bB t k ms=t by unfold bB lL;rw[hb];rfl];rfl
 | true=>
  obtain⟨hk,e⟩:=oD h1 hb
  cases hm:dX ms with
  | false=>exact Ev.now λaA=>by show T257 (aL p n) aA t k ms=_;unfold T257;refine qC (f226 t h1 h2) ?_;refine qC (f211 k 0 (i64.wrap ((t.length:Int) - 1))) ?_;rw[hb];refine qf ?_;refine qC (f253 ms (aO h3)) ?_;rw[hm,show bB t k ms=t by unfold bB lL;rw[hb,hm];rfl];rfl
  | true=>
   by_cases h5:(((gt t k.toNat).1.length:Nat):Int)<5
   ·exact Ev.now λaA=>by show T257 (aL p n) aA t k ms=_;unfold T257;refine qC (f226 t h1 h2) ?_;refine qC (f211 k 0 (i64.wrap ((t.length:Int) - 1))) ?_;rw[hb];refine qf ?_;refine qC (f253 ms (aO h3)) ?_;rw[hm];refine qf ?_;refine qP (show(0:Int)<=k by omega) ?_;refine(aU hk).trans ?_;refine qP h5 ?_;rw[show bB t k ms=t by unfold bB lL;rw[hb,hm,decide_eq_true h5];rfl]
   ·have lp:It (λaA (_:Unit)=>c257_5 (aL p n) aA k ms) ((0:Int),t) (λ_=>rV K34 (bB t k ms,())):=by
     have h0:=tN t k.toNat ms
     refine cast (congrArg (λz=>It (λaA (_:Unit)=>c257_5 (aL p n) aA k ms) ((0:Int),z) (λ_=>rV K34 (bB t k ms,()))) h0) ?_
     refine It.run (λi=>((i:Int),bQ t k.toNat ms i)) ms.length (λi hi aA u rec=>?_) (It.stop λaA u rec=>?_)
     ·show c257_5 (aL p n) aA k ms rec ((i:Int),bQ t k.toNat ms i)=rec (((i+1:Nat):Int),bQ t k.toNat ms (i+1))
      have hd:=pZ hm hi
      have hl:k.toNat<(bQ t k.toNat ms i).length:=by unfold bQ;rw[List.length_set];exact hk
      have hg:gt (bQ t k.toNat ms i) k.toNat=jK (gt t k.toNat) ms i:=cE hk _
      have hr:(gt ms i).1.toNat<(gt (bQ t k.toNat ms i) k.toNat).1.length:=by rw[hg,kV];omega
      have hp:(0:Int)<=k:=by omega
      unfold c257_5;dsimp only;rw[aF (i63 hi h3)];refine ql hi ?_;refine qP hp ?_;refine(aU hl).trans ?_;refine(aU hl).trans ?_;refine qz ?_;refine(aE hi).trans ?_;refine qP hp ?_;refine(aU hl).trans ?_;refine(aU hl).trans ?_;refine qz ?_;refine(aE hi).trans ?_;refine qP hd.1 ?_;refine(aU hl).trans ?_;refine(aU hr).trans ?_;refine(aU hl).trans ?_;refine(aU hr).trans ?_;refine qz ?_;refine(aE hi).trans ?_
      refine qC (f248 (gt (gt (bQ t k.toNat ms i) k.toNat).1 (gt ms i).1.toNat).1 (gt ms i).2.1) ?_;refine qP hd.1 ?_;refine(aU hl).trans ?_;refine(aU hr).trans ?_;refine(aU hl).trans ?_;refine(aU hr).trans ?_
      refine congrArg (λz=>rec (((i+1:Nat):Int),z)) ?_
      show(bQ t k.toNat ms i).set k.toNat (y2 (gt (bQ t k.toNat ms i) k.toNat) (gt ms i))=bQ t k.toNat ms (i+1)
      rw[hg];exact vC ..
     ·unfold c257_5;dsimp only;refine qe ?_;rw[show bB t k ms=bQ t k.toNat ms ms.length by unfold bB lL;rw[hb,hm,decide_eq_false h5];rfl]
    exact Ev.eq (λaA=>by unfold T257;refine qC (f226 t h1 h2) ?_;refine qC (f211 k 0 (i64.wrap ((t.length:Int) - 1))) ?_;rw[hb];refine qf ?_;refine qC (f253 ms (aO h3)) ?_;rw[hm];refine qf ?_;refine qP (show(0:Int)<=k by omega) ?_;refine(aU hk).trans ?_;exact iR h5) (lp.ev (i:=()) rfl)
theorem f237(t:List bH)(k:Int)(ms:List aK)(h1:t.length<=aN)(h2:∀ i,i<t.length->(gt t i).1.length<=aN)(h3:ms.length<=aN):Ran p 4 237 [vf K34 (t,()), vf K3 (k,()), vf K41 (ms,())] (rO K34 (bB t k ms,())):=go237 λn hn=>by
 cases hb:inB k 0 (i64.wrap ((t.length:Int) - 1))with
 | false=>exact Ev.now λaA=>by show T237 (aL p n) aA t k ms=_;unfold T237;refine qC (f222 t h1 h2) ?_;refine qC (f100 k 0 (i64.wrap ((t.length:Int) - 1))) ?_;rw[hb,show bB t k ms=t by unfold bB lL;rw[hb];rfl];rfl
 | true=>
  obtain⟨hk,e⟩:=oD h1 hb
  cases hm:dX ms with
  | false=>exact Ev.now λaA=>by show T237 (aL p n) aA t k ms=_;unfold T237;refine qC (f222 t h1 h2) ?_;refine qC (f100 k 0 (i64.wrap ((t.length:Int) - 1))) ?_;rw[hb];refine qf ?_;refine qC (f125 ms (aO h3)) ?_;rw[hm,show bB t k ms=t by unfold bB lL;rw[hb,hm];rfl];rfl
  | true=>
   by_cases h5:(((gt t k.toNat).1.length:Nat):Int)<5
   ·exact Ev.now λaA=>by show T237 (aL p n) aA t k ms=_;unfold T237;refine qC (f222 t h1 h2) ?_;refine qC (f100 k 0 (i64.wrap ((t.length:Int) - 1))) ?_;rw[hb];refine qf ?_;refine qC (f125 ms (aO h3)) ?_;rw[hm];refine qf ?_;refine qP (show(0:Int)<=k by omega) ?_;refine(aU hk).trans ?_;refine qP h5 ?_;rw[show bB t k ms=t by unfold bB lL;rw[hb,hm,decide_eq_true h5];rfl]
   ·have lp:It (λaA (_:Unit)=>c237_5 (aL p n) aA k ms) ((0:Int),t) (λ_=>rV K34 (bB t k ms,())):=by
     have h0:=tN t k.toNat ms
     refine cast (congrArg (λz=>It (λaA (_:Unit)=>c237_5 (aL p n) aA k ms) ((0:Int),z) (λ_=>rV K34 (bB t k ms,()))) h0) ?_
     refine It.run (λi=>((i:Int),bQ t k.toNat ms i)) ms.length (λi hi aA u rec=>?_) (It.stop λaA u rec=>?_)
     ·show c237_5 (aL p n) aA k ms rec ((i:Int),bQ t k.toNat ms i)=rec (((i+1:Nat):Int),bQ t k.toNat ms (i+1))
      have hd:=pZ hm hi
      have hl:k.toNat<(bQ t k.toNat ms i).length:=by unfold bQ;rw[List.length_set];exact hk
      have hg:gt (bQ t k.toNat ms i) k.toNat=jK (gt t k.toNat) ms i:=cE hk _
      have hr:(gt ms i).1.toNat<(gt (bQ t k.toNat ms i) k.toNat).1.length:=by rw[hg,kV];omega
      have hp:(0:Int)<=k:=by omega
      unfold c237_5;dsimp only;rw[aF (i63 hi h3)];refine ql hi ?_;refine qz ?_;refine(aE hi).trans ?_;refine qP hp ?_;refine(aU hl).trans ?_;refine(aU hl).trans ?_;refine qP hp ?_;refine(aU hl).trans ?_;refine(aU hl).trans ?_;refine qP hd.1 ?_;refine(aU hl).trans ?_;refine(aU hr).trans ?_;refine(aU hl).trans ?_;refine(aU hr).trans ?_;refine qP hd.1 ?_;refine(aU hl).trans ?_;refine(aU hr).trans ?_;refine(aU hl).trans ?_;refine(aU hr).trans ?_
      refine congrArg (λz=>rec (((i+1:Nat):Int),z)) ?_
      show(bQ t k.toNat ms i).set k.toNat (y2 (gt (bQ t k.toNat ms i) k.toNat) (gt ms i))=bQ t k.toNat ms (i+1)
      rw[hg];exact vC ..
     ·unfold c237_5;dsimp only;refine qe ?_;rw[show bB t k ms=bQ t k.toNat ms ms.length by unfold bB lL;rw[hb,hm,decide_eq_false h5];rfl]
    exact Ev.eq (λaA=>by unfold T237;refine qC (f222 t h1 h2) ?_;refine qC (f100 k 0 (i64.wrap ((t.length:Int) - 1))) ?_;rw[hb];refine qf ?_;refine qC (f125 ms (aO h3)) ?_;rw[hm];refine qf ?_;refine qP (show(0:Int)<=k by omega) ?_;refine(aU hk).trans ?_;exact iR h5) (lp.ev (i:=()) rfl)
end Go.Abs.Xz
namespace Go.Abs.Xz
open Go Go.Abs
theorem f357(t:List bH)(id:Int)(h1:t.length<=aN)(h2:∀ i,i<t.length->(gt t i).1.length<=aN):Ran p 2 357 [vf K34 (t,()), vf K3 (id,())] (rO K3 (eF t id,())):=go357 λn hn=>by
 have lp:It (λaA (_:Unit)=>c357_5 (aL p n) aA t id) ((0:Int),(0:Int)) (λ_=>oI (eF t id)):=by
  refine cast ?_ (It.all (c:=λaA (_:Unit)=>c357_5 (aL p n) aA t id) (rA:=λ_=>oI (jB t id t.length)) (rB:=λ_=>oI 0) (λi=>(jB t id i,(i:Int))) t.length (lE t id) (λi hi aA u rec=>?_) (It.stop λaA u rec=>?_))
  ·congr 1;funext u;unfold eF;cases bL t.length (lE t id)<;>rfl
  ·unfold c357_5 lE;dsimp only;rw[aF (i63 hi h1)];refine ql hi ?_;refine qz ?_;refine(aE hi).trans ?_;refine qC (f211 id 0 (i64.wrap ((((gt t i).1.length:Nat):Int) - 1))) ?_
   cases hb:inB id 0 (i64.wrap ((((gt t i).1.length:Nat):Int) - 1))with
   | false=>rfl
   | true=>
    obtain⟨hk,e⟩:=oD (h2 i hi) hb
    have hp:(0:Int)<=id:=by omega
    refine qf ?_
    show _=rec (bif(i:Int)==0 then _ else bif decide ((gt (gt t i).1 id.toNat).1<jB t id i)then _ else _,_)
    cases h0:(i:Int)==0 with
    | true=>refine qt ?_;refine qz ?_;refine(aE hi).trans ?_;refine qP hp ?_;refine(aU hk).trans ?_;rfl
    | false=>
     refine qf ?_;refine qz ?_;refine(aE hi).trans ?_;refine qP hp ?_;refine(aU hk).trans ?_
     by_cases hc:(gt (gt t i).1 id.toNat).1<jB t id i
     ·refine qP hc ?_;refine qz ?_;refine(aE hi).trans ?_;refine qP hp ?_;refine(aU hk).trans ?_;rw[decide_eq_true hc];rfl
     ·refine qN hc ?_;rw[decide_eq_false hc];rfl
  ·unfold c357_5;dsimp only;refine qe ?_;rfl
 cases h0:(t.length:Int)==0 with
 | false=>exact Ev.eq (λaA=>by unfold T357;exact gD h0) (lp.ev (i:=()) rfl)
 | true=>
  have e:eF t id=0:=by
   have:t=[]:=List.length_eq_zero_iff.1 (by have:=eq_of_beq h0;omega)
   rw[this];rfl
  exact Ev.now λaA=>by rw[e];unfold T357;exact jE h0
theorem f354(t:List bH)(id:Int)(h1:t.length<=aN)(h2:∀ i,i<t.length->(gt t i).1.length<=aN):Ran p 2 354 [vf K34 (t,()), vf K3 (id,())] (rO K3 (eF t id,())):=go354 λn hn=>by
 have lp:It (λaA (_:Unit)=>c354_3 (aL p n) aA t id) ((0:Int),(0:Int)) (λ_=>oI (eF t id)):=by
  refine cast ?_ (It.all (c:=λaA (_:Unit)=>c354_3 (aL p n) aA t id) (rA:=λ_=>oI (jB t id t.length)) (rB:=λ_=>oI 0) (λi=>(jB t id i,(i:Int))) t.length (lE t id) (λi hi aA u rec=>?_) (It.stop λaA u rec=>?_))
  ·congr 1;funext u;unfold eF;cases bL t.length (lE t id)<;>rfl
  ·unfold c354_3 lE;dsimp only;rw[aF (i63 hi h1)];refine ql hi ?_;refine qz ?_;refine(aE hi).trans ?_;refine qC (f100 id 0 (i64.wrap ((((gt t i).1.length:Nat):Int) - 1))) ?_
   cases hb:inB id 0 (i64.wrap ((((gt t i).1.length:Nat):Int) - 1))with
   | false=>rfl
   | true=>
    obtain⟨hk,e⟩:=oD (h2 i hi) hb
    have hp:(0:Int)<=id:=by omega
    refine qf ?_
    show _=rec (bif(i:Int)==0 then _ else bif decide ((gt (gt t i).1 id.toNat).1<jB t id i)then _ else _,_)
    cases h0:(i:Int)==0 with
    | true=>refine qt ?_;refine qP hp ?_;refine(aU hk).trans ?_;rfl
    | false=>
     refine qf ?_;refine qP hp ?_;refine(aU hk).trans ?_
     by_cases hc:(gt (gt t i).1 id.toNat).1<jB t id i
     ·refine qP hc ?_;refine qP hp ?_;refine(aU hk).trans ?_;rw[decide_eq_true hc];rfl
     ·refine qN hc ?_;rw[decide_eq_false hc];rfl
  ·unfold c354_3;dsimp only;refine qe ?_;rfl
 exact Ev.eq (λaA=>by unfold T354;rfl) (lp.ev (i:=()) rfl)
theorem HQ(s:aD)(t:List bH):Pos (eQ s t):=((aM _).1 (p7 s t)).pos
theorem f325(s:aD)(t:List bH)(hz:SzS s)(h1:t.length<=aN)(h2:∀ i,i<t.length->(gt t i).1.length<=aN):Ran p 5 325 [va K27 s, vf K34 (t,())] (rO K27 (prune s t)):=go325 λn hn=>by
 cases hs:aJ s with
 | false=>exact Ev.now λaA=>by unfold T325;refine qC (f227 s (aO hz.a) (aO hz.b)) ?_;rw[hs];refine qt ?_;refine qC (f224 s hz) ?_;unfold prune;rw[hs];rfl
 | true=>
  have lp:It (λaA (_:Unit)=>c325_5 (aL p n) aA s t) ((0:Int),([]:List aK)) (λ_=>rV K27 (prune s t)):=by
   refine It.accu (α:=aK) [] (fC s t) 5 1 (λi _=>nT s t i) (λi hi acc ha aA u rec=>?_) (It.stop λaA u rec=>?_)
   ·show c325_5 (aL p n) aA s t rec ((i:Int),acc)=rec (((i+1:Nat):Int),acc++fC s t i)
    have hb:acc.length+1<=bound+(1 - (fC s t i).length):=by simp at ha;unfold bound;omega
    unfold c325_5 fC;dsimp only;rw[aF (show i<9223372036854775807 by omega)];refine qP (show(i:Int)<5 by omega) ?_;refine qC (f357 t (i:Int) h1 h2) ?_;refine qC (f316 s (i:Int) hz) ?_;refine qC (f256 (eF t i) (gone s i)) ?_
    by_cases h:mxI false (eF t i) (gone s i)>0
    ·refine qP h ?_;refine qP (by unfold fC at hb;rw[decide_eq_true h] at hb;exact hb) ?_;rw[decide_eq_true h];rfl
    ·refine qN h ?_;rw[decide_eq_false h];show rec _=rec _;rw[show(bif false then[((i:Int),mxI false (eF t i) (gone s i),())] else[])=([]:List aK)from rfl,List.append_nil];rfl
   ·unfold c325_5;dsimp only;refine qe ?_;refine qC (f260 s (eQ s t) hz (xD s t) ((aM s).1 hs).pos (HQ s t)) ?_;unfold prune;rw[hs];rfl
  exact Ev.eq (λaA=>by unfold T325;refine qC (f227 s (aO hz.a) (aO hz.b)) ?_;rw[hs];rfl) (lp.ev (i:=()) rfl)
theorem f317(s:aD)(t:List bH)(hz:SzS s)(h1:t.length<=aN)(h2:∀ i,i<t.length->(gt t i).1.length<=aN):Ran p 6 317 [va K27 s, vf K34 (t,())] (rO K27 (prune s t)):=go317 λn hn=>by
 cases hs:aJ s with
 | false=>exact Ev.now λaA=>by unfold T317;refine qC (f101 s (aO hz.a) (aO hz.b)) ?_;rw[hs];refine qt ?_;refine qC (f220 s hz) ?_;unfold prune;rw[hs];rfl
 | true=>
  have lp:It (λaA (_:Unit)=>c317_5 (aL p n) aA s t) ((0:Int),([]:List aK)) (λ_=>rV K27 (prune s t)):=by
   refine It.accu (α:=aK) [] (fC s t) 5 1 (λi _=>nT s t i) (λi hi acc ha aA u rec=>?_) (It.stop λaA u rec=>?_)
   ·show c317_5 (aL p n) aA s t rec ((i:Int),acc)=rec (((i+1:Nat):Int),acc++fC s t i)
    have hb:acc.length+1<=bound+(1 - (fC s t i).length):=by simp at ha;unfold bound;omega
    unfold c317_5 fC;dsimp only;rw[aF (show i<9223372036854775807 by omega)];refine qP (show(i:Int)<5 by omega) ?_;refine qC (f354 t (i:Int) h1 h2) ?_;refine qC (f311 s (i:Int) hz) ?_
    by_cases h:mxI false (eF t i) (gone s i)>0
    ·refine qP h ?_;refine qP (by unfold fC at hb;rw[decide_eq_true h] at hb;exact hb) ?_;rw[decide_eq_true h];rfl
    ·refine qN h ?_;rw[decide_eq_false h];show rec _=rec _;rw[show(bif false then[((i:Int),mxI false (eF t i) (gone s i),())] else[])=([]:List aK)from rfl,List.append_nil];rfl
   ·unfold c317_5;dsimp only;refine qe ?_;refine qC (f240 s (eQ s t) hz (xD s t)) ?_;unfold prune;rw[hs];rfl
  exact Ev.eq (λaA=>by unfold T317;refine qC (f101 s (aO hz.a) (aO hz.b)) ?_;rw[hs];rfl) (lp.ev (i:=()) rfl)
-- taking
theorem LY{x:NodeT}(hz:SzN x)(s:aD):(tkS x s).length<=aN/\∀ i,i<(tkS x s).length->(gt (tkS x s) i).1.length<=aN:=⟨(j0 hz s).seen,(j0 hz s).lines⟩
structure TakeOk (x:NodeT):Prop where
 state:aJ x.state=true
 rises:((x.rises.length:Int)==5)=true
theorem yP{x:NodeT}(h:NodeOk x):TakeOk x:=⟨h.state,h.rises⟩
theorem IQ{x:NodeT}{s:aD}(h:TakeOk x)(hs:aJ s=true){i:Nat}(hi:i<(tkP x s).1.length):0<=(gt (tkP x s).1 i).1/\(gt (tkP x s).1 i).1.toNat<(cL x.clock x.rises (tkP x s).1 i).length:=by
 have h1:=(((aM (tkP x s)).1 (zC (m8 h.state hs) (tkS x s))).item _ (cR hi)).1
 unfold eH at h1;rw[aQ] at h1
 have h2:=eq_of_beq h.rises
 rw[gL];omega
theorem EJ(c:Int)(rs:List jM)(xs:List bI)(i:Nat):cL c rs xs (i+1)=bif oU (gt (cL c rs xs i) (gt xs i).1.toNat) (gt xs i).2 then(cL c rs xs i).set (gt xs i).1.toNat ((gt xs i).2.1,(gt xs i).2.2.2.1,c,())else cL c rs xs i:=by
 show(cL c rs xs i).set _ (mD c _ _)=_
 unfold mD
 cases oU (gt (cL c rs xs i) (gt xs i).1.toNat) (gt xs i).2 with
 | true=>rfl
 | false=>exact sK
theorem f254(x:NodeT)(s:aD)(hz:SzN x)(hs':SzS s)(h:TakeOk x)(hs:aJ s=true):Ran p 7 254 [va K38 x, va K27 s] (rO K38 (hU x s)):=go254 λn hn=>by
 have hj:=lC x.state s
 have ht:=LY hz s
 have hp:=GB x s
 have lp:It (λaA (_:Unit)=>c254_7 (aL p n) aA x ((x,()),()) (((tkS x s,()),()),()) ((tkP x s,()),()) ((bV (tkP x s),()),())) ((0:Int),x.rises) (λ_=>rV K38 (hU x s)):=by
  refine It.run (λi=>((i:Int),cL x.clock x.rises (tkP x s).1 i)) (tkP x s).1.length (λi hi aA u rec=>?_) (It.stop λaA u rec=>?_)
  ·show c254_7 (aL p n) aA x ((x,()),()) (((tkS x s,()),()),()) ((tkP x s,()),()) ((bV (tkP x s),()),()) rec ((i:Int),cL x.clock x.rises (tkP x s).1 i)=rec (((i+1:Nat):Int),cL x.clock x.rises (tkP x s).1 (i+1))
   obtain⟨h0,hl⟩:=IQ h hs hi
   unfold c254_7;dsimp only;rw[aF (i63 hi hp.a),EJ];unfold oU;refine ql hi ?_;refine qz ?_;refine(aE hi).trans ?_;refine(aE hi).trans ?_;refine qP h0 ?_;refine(aU hl).trans ?_;refine(aU hl).trans ?_
   by_cases h1:(gt (tkP x s).1 i).2.1>(gt (cL x.clock x.rises (tkP x s).1 i) (gt (tkP x s).1 i).1.toNat).1
   ·refine qP h1 ?_;refine qP h0 ?_;refine(aU hl).trans ?_;refine(aU hl).trans ?_;rw[decide_eq_true h1];rfl
   ·refine qN h1 ?_;rw[decide_eq_false h1]
    cases h2:(gt (tkP x s).1 i).2.1==(gt (cL x.clock x.rises (tkP x s).1 i) (gt (tkP x s).1 i).1.toNat).1 with
    | false=>rfl
    | true=>
     refine qt ?_
     by_cases h3:(gt (tkP x s).1 i).2.2.2.1>(gt (cL x.clock x.rises (tkP x s).1 i) (gt (tkP x s).1 i).1.toNat).2.1
     ·refine qP h3 ?_;refine qP h0 ?_;refine(aU hl).trans ?_;refine(aU hl).trans ?_;rw[decide_eq_true h3];rfl
     ·refine qN h3 ?_;rw[decide_eq_false h3];rfl
  ·unfold c254_7;dsimp only;refine qe ?_;rfl
 exact Ev.eq (λaA=>by
  unfold T254;refine qC (f85 x hz) ?_;refine qC (f260 x.state s hz.state hs' ((aM _).1 h.state).pos ((aM _).1 hs).pos) ?_;refine qC (f234 (cM x.state s) hj) ?_
  refine qC (f257 x.seen x.1 (cB (cM x.state s)) hz.seen hz.lines (Nat.le_trans (eI _) (by decide))) ?_;refine qC (f325 (cM x.state s) (tkS x s) hj ht.1 ht.2) ?_;refine qC (f228 (tkP x s) hp) ?_;rfl) (lp.ev (i:=()) rfl)
theorem f235(x:NodeT)(s:aD)(hz:SzN x)(hs':SzS s)(h:NodeOk x)(hs:aJ s=true):Ran p 8 235 [va K38 x, va K27 s] ⟨[⟨K38,hU x s⟩,⟨K4,(true,())⟩],[]⟩:=go235 λn hn=>by
 have hj:=lC x.state s
 have ht:=LY hz s
 have hp:=GB x s
 have lp:It (λaA (_:Unit)=>c235_9 (aL p n) aA x ((x,()),()) (((tkS x s,()),()),()) ((tkP x s,()),()) ((bV (tkP x s),()),())) ((0:Int),x.rises) (λ_=>some ⟨[⟨K38,hU x s⟩,⟨K4,(true,())⟩],[]⟩):=by
  refine It.run (λi=>((i:Int),cL x.clock x.rises (tkP x s).1 i)) (tkP x s).1.length (λi hi aA u rec=>?_) (It.stop λaA u rec=>?_)
  ·show c235_9 (aL p n) aA x ((x,()),()) (((tkS x s,()),()),()) ((tkP x s,()),()) ((bV (tkP x s),()),()) rec ((i:Int),cL x.clock x.rises (tkP x s).1 i)=rec (((i+1:Nat):Int),cL x.clock x.rises (tkP x s).1 (i+1))
   obtain⟨h0,hl⟩:=IQ (yP h) hs hi
   unfold c235_9;dsimp only;rw[aF (i63 hi hp.a),EJ];unfold oU;refine ql hi ?_;refine qz ?_;refine(aE hi).trans ?_;refine(aE hi).trans ?_;refine qP h0 ?_;refine(aU hl).trans ?_;refine(aU hl).trans ?_
   by_cases h1:(gt (tkP x s).1 i).2.1>(gt (cL x.clock x.rises (tkP x s).1 i) (gt (tkP x s).1 i).1.toNat).1
   ·refine qP h1 ?_;refine(aU hl).trans ?_;rw[decide_eq_true h1];rfl
   ·refine qN h1 ?_;refine(aU hl).trans ?_;rw[decide_eq_false h1]
    cases h2:(gt (tkP x s).1 i).2.1==(gt (cL x.clock x.rises (tkP x s).1 i) (gt (tkP x s).1 i).1.toNat).1 with
    | false=>rfl
    | true=>
     refine qt ?_;refine(aU hl).trans ?_
     by_cases h3:(gt (tkP x s).1 i).2.2.2.1>(gt (cL x.clock x.rises (tkP x s).1 i) (gt (tkP x s).1 i).1.toNat).2.1
     ·refine qP h3 ?_;refine(aU hl).trans ?_;rw[decide_eq_true h3];rfl
     ·refine qN h3 ?_;rw[decide_eq_false h3];rfl
  ·unfold c235_9;dsimp only;refine qe ?_;rfl
 exact Ev.eq (λaA=>by
  unfold T235;refine qC (f81 x hz) ?_;refine qC (f23 x hz) ?_;rw[(fQ x).2 h];refine qf ?_;refine qC (f101 s (aO hs'.a) (aO hs'.b)) ?_;rw[hs];refine qf ?_;refine qC (f240 x.state s hz.state hs') ?_;refine qC (f223 (cM x.state s) hj) ?_
  refine qC (f237 x.seen x.1 (cB (cM x.state s)) hz.seen hz.lines (Nat.le_trans (eI _) (by decide))) ?_;refine qC (f317 (cM x.state s) (tkS x s) hj ht.1 ht.2) ?_;refine qC (f103 (tkP x s) hp) ?_;rfl) (lp.ev (i:=()) rfl)
end Go.Abs.Xz
namespace Go.Abs.Xz
open Go Go.Abs
theorem f252(v:List aH)(a b:Int)(hv:v.length<=aN):Ran p 2 252 [vf K28 (v,()), vf K3 (a,()), vf K3 (b,())] (rO K4 (oW v a b,())):=go252 λn hn=>by
 by_cases h:(v.length:Int)>a
 ·exact Ev.now λaA=>by unfold T252 oW;rw[decide_eq_true h];exact jY h
 ·have lp:It (λaA (_:Unit)=>c252_4 (aL p n) aA v b) (0:Int) (λ_=>oB (kA v b)):=by
   refine cU (It.allB v.length (λi=>inB (gt v i).1 0 b) true (λi hi aA u rec=>?_) (It.stop λaA u rec=>?_))
   ·unfold c252_4;rw[aF (i63 hi hv)];refine ql hi ?_;refine qz ?_;refine(aE hi).trans ?_;refine qC (f211 (gt v i).1 0 b) ?_;exact fin
   ·unfold c252_4;refine qe ?_;rfl
  have e:oW v a b=kA v b:=by unfold oW;rw[decide_eq_false h];rfl
  rw[e]
  exact Ev.eq (λaA=>by unfold T252;exact iR h) (lp.ev (i:=()) rfl)
theorem f251(t:jL)(ht:t.1.length<=aN):Ran p 3 251 [va K30 t] (rO K4 (treeB t,())):=go251 λn hn=>Ev.now λaA=>by
 unfold T251 treeB
 cases h0:(t.1.length:Int)==0 with
 | true=>exact jE h0
 | false=>
  refine qF h0 ?_
  cases h4:(t.1.length:Int)==4 with
  | false=>exact gD h4
  | true=>
   refine qT h4 ?_;refine qC (f252 t.1 4 1023 ht) ?_
   have e:oW t.1 4 1023=kA t.1 1023:=by unfold oW;rw[decide_eq_false (by have:=eq_of_beq h4;omega)];rfl
   rw[e]
   cases kA t.1 1023 with
   | false=>rfl
   | true=>refine qt ?_;refine qC (f211 t.2.1 0 1023) ?_;rfl
theorem f124(t:jL)(ht:t.1.length<=aN):Ran p 2 124 [va K30 t] (rO K4 (treeB t,())):=go124 λn hn=>by
 cases h0:(t.1.length:Int)==0 with
 | true=>exact Ev.now λaA=>by unfold T124 treeB;rw[h0];exact jE h0
 | false=>
  have lp:It (λaA (_:Unit)=>c124_4 (aL p n) aA t) (0:Int) (λ_=>oB (kA t.1 1023&&((t.1.length:Int)==4&&inB t.2.1 0 1023))):=by
   refine It.allB t.1.length (λi=>inB (gt t.1 i).1 0 1023) _ (λi hi aA u rec=>?_) (It.stop λaA u rec=>?_)
   ·unfold c124_4;rw[aF (i63 hi ht)];refine ql hi ?_;refine qz ?_;refine(aE hi).trans ?_;refine qC (f100 (gt t.1 i).1 0 1023) ?_;exact fin
   ·unfold c124_4;refine qe ?_
    cases h4:(t.1.length:Int)==4 with
    | false=>exact gD h4
    | true=>refine qT h4 ?_;refine qC (f100 t.2.1 0 1023) ?_;rfl
  have e:treeB t=(kA t.1 1023&&((t.1.length:Int)==4&&inB t.2.1 0 1023)):=by unfold treeB;rw[h0];show(_&&(_&&_))=_;ac_rfl
  rw[e]
  exact Ev.eq (λaA=>by unfold T124;exact gD h0) (lp.ev (i:=()) rfl)
theorem f113(m:MsgT)(hz:SzM m):Ran p 4 113 [va K43 m] (rO K4 (dM m,())):=go113 λn hn=>by
 have lp:It (λaA (_:Unit)=>c113_6 (aL p n) aA m) (1:Int) (λ_=>oB (bL (m.leaves.length - 1) (FD m.leaves))):=by
  have:=It.all (c:=λaA (_:Unit)=>c113_6 (aL p n) aA m) (rA:=λ_=>oB true) (rB:=λ_=>oB false) (λi=>(((i+1:Nat)):Int)) (m.leaves.length - 1) (FD m.leaves) (λi hi aA u rec=>by
   have hi1:i+1<m.leaves.length:=by omega
   have hl:=hz.list
   unfold c113_6;rw[aF (i63 hi1 hl)];refine ql hi1 ?_;refine qz ?_;refine(aE hi1).trans ?_;rw[iV (i63 hi1 hl) (by omega)];refine qz ?_;refine(aE (show i<m.leaves.length by omega)).trans ?_;exact DT) (It.stop λaA u rec=>by
   unfold c113_6;refine qN (show ¬ (((m.leaves.length - 1+1:Nat)):Int)<(m.leaves.length:Int) by omega) ?_;rfl)
  refine cast ?_ this
  congr 1;funext u;exact R8
 rw[<- IY]
 have key:∃ N,∀ aA,N<=aA->T113 (aL p n) aA m=oB (zN m):=by
  obtain⟨N,hN⟩:=lp.all_i
  refine⟨N,λaA hf=>?_⟩
  unfold T113 zN
  refine qC (f211 m.1 0 5) ?_;refine c8 λ_=>?_;refine qC (f250 m.2.1) ?_;refine c8 λ_=>?_;refine qC (f250 m.2.2.1) ?_;refine c8 λ_=>?_;refine CM λ_=>?_;refine qC (f211 m.2.2.2.1 0 100000) ?_;refine c8 λ_=>?_;refine qC (f211 m.hi 0 100000) ?_;refine c8 λ_=>?_
  refine qC (f251 m.tree hz.leaves) ?_;refine c8 λ_=>?_;refine qC (f252 m.vec 5 100000 hz.vec) ?_;refine c8 λ_=>?_;refine qC (f252 m.leaves 4 3 hz.list) ?_;refine c8 λ_=>?_;refine qC (f227 m.part (aO hz.part.a) (aO hz.part.b)) ?_;refine c8 λ_=>?_;refine qC (f253 m.marks (aO hz.marks)) ?_;refine c8 λ_=>?_
  exact hN aA hf ()
 exact key
theorem f30(m:MsgT)(hz:SzM m):Ran p 4 30 [va K43 m] (rO K4 (dM m,())):=go30 λn hn=>by
 have inner:It (λaA (_:Unit)=>c30_10 (aL p n) aA m) (0:Int) (λ_=>oB (kA m.vec 100000&&(inB m.2.2.2.1 0 100000&&(inB m.hi 0 100000&&(treeB m.tree&&(decide ((m.vec.length:Int)<=5)&&(aJ m.part&&dX m.marks))))))):=by
  refine It.allB m.vec.length (λi=>inB (gt m.vec i).1 0 100000) _ (λi hi aA u rec=>?_) (It.stop λaA u rec=>?_)
  ·unfold c30_10;rw[aF (i63 hi hz.vec)];refine ql hi ?_;refine qz ?_;refine(aE hi).trans ?_;refine qC (f100 (gt m.vec i).1 0 100000) ?_;exact fin
  ·unfold c30_10;refine qe ?_;refine qC (f100 m.2.2.2.1 0 100000) ?_;refine fH λ_=>?_;refine qC (f100 m.hi 0 100000) ?_;refine fH λ_=>?_;refine qC (f124 m.tree hz.leaves) ?_;refine fH λ_=>?_;refine fH λ_=>?_;refine qC (f101 m.part (aO hz.part.a) (aO hz.part.b)) ?_;refine fH λ_=>?_;refine qC (f125 m.marks (aO hz.marks)) ?_;rfl
 have lp:It (λaA (_:Unit)=>c30_4 (aL p n) aA m) (0:Int) (λ_=>oB (bL m.leaves.length (w7 m.leaves)&&(kA m.vec 100000&&(inB m.2.2.2.1 0 100000&&(inB m.hi 0 100000&&(treeB m.tree&&(decide ((m.vec.length:Int)<=5)&&(aJ m.part&&dX m.marks)))))))):=by
  refine It.allB m.leaves.length (w7 m.leaves) _ (λi hi aA u rec=>?_) (It.stopE (T:=λaA _=>iter (c30_10 (aL p n) aA m) aA (0:Int)) (λaA u rec=>?_) inner.all_i)
  ·have hl:=hz.list
   unfold c30_4 w7;rw[aF (i63 hi hl)];refine ql hi ?_;refine qz ?_;refine(aE hi).trans ?_;refine qC (f100 (gt m.leaves i).1 0 3) ?_;refine chk λ_=>?_
   cases i with
   | zero=>refine qN (by decide) ?_;rfl
   | succ j=>refine qP (by omega) ?_;rw[iV (i63 hi hl) (by omega)];refine qz ?_;refine(aE (show j<m.leaves.length by omega)).trans ?_;exact DT
  ·unfold c30_4;refine qe ?_;rfl
 have key:∃ N,∀ aA,N<=aA->T30 (aL p n) aA m=oB (dM m):=by
  obtain⟨N,hN⟩:=lp.all_i
  refine⟨N,λaA hf=>?_⟩
  unfold T30 dM nZ
  rw[Bool.and_assoc,Bool.and_assoc,Bool.and_assoc]
  refine qC (f100 m.1 0 5) ?_;refine c8 λ_=>?_;refine qC (f123 m.2.1) ?_;refine c8 λ_=>?_;refine qC (f123 m.2.2.1) ?_;refine c8 λ_=>?_;refine CM λ_=>?_
  exact hN aA hf ()
 exact key
-- what is shipped
theorem yZ{n:Nat}{seq:Int}{l:fJ}(h:fO l seq=true):i64.wrap (seq - l.2.1)=((cX l seq:Nat):Int):=by
 have:=tQ h;rw[IntKind.wrap_i64];omega
theorem f326(l:fJ)(seq:Int)(hl:l.2.2.1.length<=aN)(hs:∀ i,i<l.2.2.1.length->SzS (gt l.2.2.1 i)):Ran p 5 326 [va K33 l, vf K3 (seq,())] ⟨[⟨K27,gR l seq⟩,⟨K4,(fO l seq,())⟩],[]⟩:=go326 λn hn=>by
 cases hb:fO l seq with
 | false=>
  exact Ev.now λaA=>by
   unfold T326 gR;rw[hb];refine qC (f229 l hl hs) ?_
   cases h1:fL l with
   | false=>rfl
   | true=>refine qf ?_;refine qC (f211 seq l.2.1 (i64.wrap (l.2.1+(l.2.2.1.length:Int)))) ?_;unfold fO at hb;rw[h1] at hb;rw[show inB seq l.2.1 (i64.wrap (l.2.1+(l.2.2.1.length:Int)))=false from hb];rfl
 | true=>
  have hk:=tQ hb
  have hb':=hb
  unfold fO at hb';rw[Bool.and_eq_true] at hb'
  have lp:It (λaA (_:Unit)=>c326_5 (aL p n) aA l) (((cX l seq:Nat):Int),([]:List bI),([]:List aK)) (λ_=>some ⟨[⟨K27,gR l seq⟩,⟨K4,(true,())⟩],[]⟩):=by
   refine It.run (λi=>(((cX l seq+i:Nat):Int),(fA l.2.2.1 (cX l seq) i).1,(fA l.2.2.1 (cX l seq) i).2.1)) (l.2.2.1.length - cX l seq) (λi hi aA u rec=>?_) (It.stop λaA u rec=>?_)
   ·have hi1:cX l seq+i<l.2.2.1.length:=by omega
    have o1:=(aM _).1 (sI hb'.1 (cX l seq) i (by omega))
    have o2:=(aM _).1 (show aJ (gt l.2.2.1 (cX l seq+i))=true by have h1:=hb'.1;unfold fL at h1;simp only[Bool.and_eq_true] at h1;exact bJ.1 h1.2.2.2.2 _ hi1)
    unfold c326_5;dsimp only;rw[aF (i63 hi1 hl)];refine ql hi1 ?_;refine qz ?_;refine(aE hi1).trans ?_;refine qC (f260 (fA l.2.2.1 (cX l seq) i) (gt l.2.2.1 (cX l seq+i)) (sH _ _ _) (hs _ hi1) o1.pos o2.pos) ?_;rfl
   ·unfold c326_5;dsimp only;refine qN (show ¬ ((cX l seq+(l.2.2.1.length - cX l seq):Nat):Int)<(l.2.2.1.length:Int) by omega) ?_;unfold gR;rw[hb];rfl
  exact Ev.eq (λaA=>by unfold T326;refine qC (f229 l hl hs) ?_;rw[hb'.1];refine qf ?_;refine qC (f211 seq l.2.1 (i64.wrap (l.2.1+(l.2.2.1.length:Int)))) ?_;rw[hb'.2];refine qf ?_;rw[yZ (n:=0) hb];rfl) (lp.ev (i:=()) rfl)
theorem f318(l:fJ)(seq:Int)(hl:l.2.2.1.length<=aN)(hs:∀ i,i<l.2.2.1.length->SzS (gt l.2.2.1 i)):Ran p 6 318 [va K33 l, vf K3 (seq,())] ⟨[⟨K27,gR l seq⟩,⟨K4,(fO l seq,())⟩],[]⟩:=go318 λn hn=>by
 have hq:fL l=true->bU l=i64.wrap (l.2.1+(l.2.2.1.length:Int)):=λh=>by unfold bU;rw[h];rfl
 cases hb:fO l seq with
 | false=>
  exact Ev.now λaA=>by
   unfold T318 gR;rw[hb];refine qC (f105 l hl hs) ?_
   cases h1:fL l with
   | false=>rfl
   | true=>refine qf ?_;refine qC (f104 l hl hs) ?_;rw[hq h1];refine qC (f100 seq l.2.1 (i64.wrap (l.2.1+(l.2.2.1.length:Int)))) ?_;unfold fO at hb;rw[h1] at hb;rw[show inB seq l.2.1 (i64.wrap (l.2.1+(l.2.2.1.length:Int)))=false from hb];rfl
 | true=>
  have hk:=tQ hb
  have hb':=hb
  unfold fO at hb';rw[Bool.and_eq_true] at hb'
  have hw:=yZ (n:=0) hb
  have e:((l.2.2.1.take l.2.2.1.length).drop ((i64.wrap (seq - l.2.1))).toNat)=l.2.2.1.drop (cX l seq):=by rw[hw,List.take_length];rfl
  have lp:It (λaA (_:Unit)=>c318_5 (aL p n) aA l seq) ((0:Int),([]:List bI),([]:List aK)) (λ_=>some ⟨[⟨K27,gR l seq⟩,⟨K4,(true,())⟩],[]⟩):=by
   refine It.run (λi=>((i:Int),(fA l.2.2.1 (cX l seq) i).1,(fA l.2.2.1 (cX l seq) i).2.1)) (l.2.2.1.length - cX l seq) (λi hi aA u rec=>?_) (It.stop λaA u rec=>?_)
   ·have hi1:cX l seq+i<l.2.2.1.length:=by omega
    have hi2:i<((l.2.2.1.take l.2.2.1.length).drop ((i64.wrap (seq - l.2.1))).toNat).length:=by rw[e,List.length_drop];omega
    have hg:gt ((l.2.2.1.take l.2.2.1.length).drop ((i64.wrap (seq - l.2.1))).toNat) i=gt l.2.2.1 (cX l seq+i):=by
     rw[e,dC (by rw[List.length_drop];omega),dC hi1,List.getElem_drop]
    have hj:fA l.2.2.1 (cX l seq) (i+1)=cM (fA l.2.2.1 (cX l seq) i) (gt ((l.2.2.1.take l.2.2.1.length).drop ((i64.wrap (seq - l.2.1))).toNat) i):=by rw[hg];rfl
    have hz2:=hs _ hi1
    rw[<- hg] at hz2
    show c318_5 (aL p n) aA l seq rec ((i:Int),(fA l.2.2.1 (cX l seq) i).1,(fA l.2.2.1 (cX l seq) i).2.1)=rec (((i+1:Nat):Int),(fA l.2.2.1 (cX l seq) (i+1)).1,(fA l.2.2.1 (cX l seq) (i+1)).2.1)
    rw[hj];unfold c318_5;dsimp only;rw[aF (show i<9223372036854775807 by have:=i63 hi1 hl;omega)];refine ql hi2 ?_;refine qz ?_;refine(aE hi2).trans ?_;refine qC (f240 (fA l.2.2.1 (cX l seq) i) _ (sH _ _ _) hz2) ?_;rfl
   ·unfold c318_5;dsimp only;refine qN (show ¬ ((l.2.2.1.length - cX l seq:Nat):Int)<((((l.2.2.1.take l.2.2.1.length).drop ((i64.wrap (seq - l.2.1))).toNat).length:Nat):Int) by rw[e,List.length_drop];omega) ?_;unfold gR;rw[hb];rfl
  exact Ev.eq (λaA=>by unfold T318;refine qC (f105 l hl hs) ?_;rw[hb'.1];refine qf ?_;refine qC (f104 l hl hs) ?_;rw[hq hb'.1];refine qC (f100 seq l.2.1 (i64.wrap (l.2.1+(l.2.2.1.length:Int)))) ?_;rw[hb'.2];refine qf ?_;exact qK (show(0:Int)<=i64.wrap (seq - l.2.1) by rw[hw];omega) (show i64.wrap (seq - l.2.1)<=(l.2.2.1.length:Int) by rw[hw];omega)) (lp.ev (i:=()) rfl)
theorem f259(x:NodeT)(seq:Int)(hz:SzN x):Ran p 6 259 [va K38 x, vf K3 (seq,())] ⟨[⟨K27,pM x seq⟩,⟨K4,(fO x.log seq,())⟩],[]⟩:=go259 λn hn=>Ev.now λaA=>by
 unfold T259 pM;refine qD (f326 x.log seq hz.list hz.logs) ?_
 cases fO x.log seq with
 | true=>rfl
 | false=>refine qf ?_;refine qC (f224 x.state hz.state) ?_;rfl
theorem f239(x:NodeT)(seq:Int)(hz:SzN x)(h:NodeOk x):Ran p 8 239 [va K38 x, vf K3 (seq,())] ⟨[⟨K27,pM x seq⟩,⟨K4,(fO x.log seq,())⟩],[]⟩:=go239 λn hn=>Ev.now λaA=>by
 unfold T239 pM;refine qC (f23 x hz) ?_;rw[(fQ x).2 h];refine qf ?_;refine qD (f318 x.log seq hz.list hz.logs) ?_
 cases fO x.log seq with
 | true=>rfl
 | false=>refine qt ?_;refine qC (f220 x.state hz.state) ?_;rfl
theorem yW{s:aD}(h:aJ s=true):s.1.length<=1000/\s.2.1.length<=1000:=by have:=((aM s).1 h).len;omega
theorem f119(x:NodeT)(ls:List aH)(seq:Int)(hz:SzN x)(h:NodeOk x)(hl:ls.length<=aN):Ran p 7 119 [va K38 x, vf K28 (ls,()), vf K3 (seq,())] (rO K27 (BR x ls seq)):=go119 λn hn=>Ev.now λaA=>by
 have hm:=yW h.state
 unfold T119;refine qD (f259 x seq hz) ?_;refine qC (f261 x.state ls (aO hl) hm.1 hm.2) ?_;refine qC (f260 (gK x.state ls) (pM x seq) (yX hz.state ls) (EE hz seq) ((aM _).1 (MC h.state ls)).pos ((aM _).1 (MF h seq)).pos) ?_;rfl
theorem f99(x:NodeT)(ls:List aH)(m:MsgT)(hz:SzN x)(h:NodeOk x)(hl:ls.length<=aN)(h0:0<=x.1)(hv:x.1.toNat<m.vec.length):Ran p 9 99 [va K38 x, vf K28 (ls,()), va K43 m] (rO K27 (BR x ls (gt m.vec x.1.toNat).1)):=go99 λn hn=>Ev.now λaA=>by
 have hm:=yW h.state
 unfold T99;refine qP h0 ?_;refine(aU hv).trans ?_;refine qD (f239 x (gt m.vec x.1.toNat).1 hz h) ?_;refine qC (f241 x.state ls (aO hl) hm.1 hm.2 h.state) ?_;refine qC (f240 (gK x.state ls) (pM x (gt m.vec x.1.toNat).1) (yX hz.state ls) (EE hz _)) ?_;rfl
end Go.Abs.Xz
set_option maxHeartbeats 2000000
namespace Go.Abs.Xz
open Go Go.Abs
theorem B6(ls:List aH):(aG (ls.length:Int)++bM ls.length λi=>aG (gt ls i).1)=cY ls:=by
 unfold cY cQ;rw[cA (λx:aH=>aG x.1) ls]
theorem f139(ls:List aH)(hl:ls.length<=100):Ran p 3 139 [vf K28 (ls,())] (rO K22 (cY ls,())):=go139 λn hn=>by
 have hp:=aX (ls.length:Int)
 have lp:It (λaA (_:Unit)=>c139_3 (aL p n) aA ls) ((0:Int),aG (ls.length:Int)) (λ_=>oL (cY ls)):=by
  refine It.accu (α:=aH) (aG (ls.length:Int)) (λi=>aG (gt ls i).1) ls.length 5 (λi hi=>aX _) (λi hi acc ha aA a rec=>?_) (It.stop λaA a rec=>?_)
  ·unfold c139_3;dsimp only;rw[aF (show i<9223372036854775807 by omega)];refine ql hi ?_;refine qz ?_;refine(aE hi).trans ?_;refine qC (f138 (gt ls i).1) ?_
   refine qC (f137 [(acc,()),(aG (gt ls i).1,())] 2000 (j9 (by
    intro r hr;simp only[List.mem_cons,List.not_mem_nil,or_false] at hr
    rcases hr with rfl | rfl
    ·show acc.length<=2000;omega
    ·exact dB (by decide))) (by show 2*2000<=4294967296;omega) (by show 2<=9223372036854775807;omega)) ?_
   exact congrArg (λl:List aH=>rec (((i+1:Nat):Int),l)) (by simp:List.flatMap (λr:bH=>r.1) [(acc,()),(aG (gt ls i).1,())]=acc++aG (gt ls i).1)
  ·unfold c139_3;refine qe ?_;exact congrArg oL (B6 ls)
 exact Ev.eq (λaA=>by unfold T139;refine qC (f138 (ls.length:Int)) ?_;rfl) (lp.ev (i:=()) rfl)
theorem f332(ls:List aH)(hl:ls.length<=100):Ran p 3 332 [vf K28 (ls,())] (rO K22 (cY ls,())):=go332 λn hn=>by
 have hp:=aX (ls.length:Int)
 have lp:It (λaA (_:Unit)=>c332_3 (aL p n) aA ls) ((0:Int),aG (ls.length:Int)) (λ_=>oL (cY ls)):=by
  refine It.accu (α:=aH) (aG (ls.length:Int)) (λi=>aG (gt ls i).1) ls.length 5 (λi hi=>aX _) (λi hi acc ha aA a rec=>?_) (It.stop λaA a rec=>?_)
  ·replace ha:acc.length+(aG (gt ls i).1).length<=(aG (ls.length:Int)).length+ls.length*5:=ha
   unfold c332_3;dsimp only;rw[aF (show i<9223372036854775807 by omega)];refine ql hi ?_;refine qz ?_;refine(aE hi).trans ?_;refine qC (f331 (gt ls i).1) ?_;refine qP (by show acc.length+(aG (gt ls i).1).length<=4294967296;omega) ?_;rfl
  ·unfold c332_3;refine qe ?_;exact congrArg oL (B6 ls)
 exact Ev.eq (λaA=>by unfold T332;refine qC (f331 (ls.length:Int)) ?_;rfl) (lp.ev (i:=()) rfl)
theorem f140(b:List aH)(hb:ByL b)(hl:b.length<=aN):Ran p 2 140 [vf K22 (b,())] (rO K22 (pL b,())):=go140 λn hn=>Ev.now λaA=>by
 have h:=HW hb
 unfold T140;refine qC (f272 b (Nat.le_trans hl (by decide))) ?_;refine qN (by decide) ?_;refine qN (by decide) ?_;refine qN (by decide) ?_;exact congrArg oL (L8 h.2 h.1)
theorem f265(b:List aH)(hb:ByL b)(hl:b.length<=aN):Ran p 2 265 [vf K22 (b,())] (rO K22 (pL b,())):=go265 λn hn=>Ev.now λaA=>by
 have h:=HW hb
 unfold T265;refine qC (f334 b (Nat.le_trans hl (by decide))) ?_;refine qN (by decide) ?_;refine qN (by decide) ?_;refine qN (by decide) ?_;refine qN (by decide) ?_;refine qN (by decide) ?_;refine qN (by decide) ?_;exact congrArg oL (L7 h.2 h.1)
-- the body of a message, as both write it
def nG(m:MsgT):List aH:=rk2++cQ (eZ m)++cY m.tree.1++aG m.tree.2.1++cY m.vec++cY m.leaves++aG (((bG m.part).length:Nat):Int)
theorem FZ(m:MsgT):nG m++bG m.part++aG (m.marks.length:Int)++m.marks.flatMap aV=dT m:=by
 unfold nG dT rX;simp only[List.append_assoc]
structure BodyL (m:MsgT):Prop where
 h5:(cQ (eZ m)).length<=25
 a:(cY m.tree.1).length<=25
 b:(aG m.tree.2.1).length<=5
 c:(cY m.vec).length<=30
 d:(cY m.leaves).length<=25
 e:(aG (((bG m.part).length:Nat):Int)).length<=5
 f:(bG m.part).length<=250
 g:(aG (m.marks.length:Int)).length<=5
 k:m.marks.length<=5
theorem vP(ls:List aH):(cY ls).length<=5+ls.length*5:=by
 have h1:=aX (ls.length:Int);have h2:=kU ls
 unfold cY;rw[List.length_append];omega
theorem RE{m:MsgT}(h:MsgR m):BodyL m:=by
 have h1:=vP m.tree.1;have h2:=vP m.vec;have h3:=vP m.leaves
 have l1:=h.tree.1;have l2:=h.vec.1;have l3:=h.leaves.1
 exact⟨kU (eZ m),by omega,aX _,by omega,by omega,aX _,nF ((aM _).1 h.part),aX _,h.marks.1⟩
theorem f264(m:MsgT)(h:dM m=true):Ran p 5 264 [va K43 m] (rO K22 (dT m,())):=go264 λn hn=>by
 have hr:=nY h
 have L:=RE hr
 have l1:=L.h5;have l2:=L.a;have l3:=L.b;have l4:=L.c;have l5:=L.d;have l6:=L.e;have l7:=L.f;have l8:=L.g;have l9:=L.k
 have t1:=hr.tree.1;have t2:=hr.vec.1;have t3:=hr.leaves.1
 have l0:rk2.length=2:=rfl
 have hok:StateOk m.part:=(aM _).1 hr.part
 have mk:∀ pre:List aH,pre.length<=1000->It (λaA (_:Unit)=>c264_16 (aL p n) aA m) ((0:Int),pre) (λ_=>oL (pre++m.marks.flatMap aV)):=by
  intro pre hp
  refine It.accu (α:=aH) pre (λi=>aV (gt m.marks i)) m.marks.length 10 (λi hi=>fF _) (λi hi acc ha aA a rec=>?_) (It.stop λaA a rec=>?_)
  ·have ha':acc.length+(aV (gt m.marks i)).length<=1050:=by omega
   unfold aV at ha';rw[List.length_append] at ha'
   unfold c264_16;dsimp only;rw[aF (show i<9223372036854775807 by omega)];refine ql hi ?_;refine qz ?_;refine(aE hi).trans ?_;refine qC (f331 (gt m.marks i).1) ?_;refine qP (by show acc.length+(aG (gt m.marks i).1).length<=4294967296;omega) ?_;refine qz ?_;refine(aE hi).trans ?_;refine qC (f331 (gt m.marks i).2.1) ?_
   refine qP (by show(acc++aG (gt m.marks i).1).length+(aG (gt m.marks i).2.1).length<=4294967296;rw[List.length_append];omega) ?_
   exact congrArg (λl:List aH=>rec (((i+1:Nat):Int),l)) (List.append_assoc _ _ _)
  ·unfold c264_16;refine qe ?_;exact congrArg (λl:List aH=>oL (pre++l)) (cA aV m.marks)
 have body0:=mk (nG m++bG m.part++aG (m.marks.length:Int)) (by unfold nG;simp only[List.length_append];dsimp only[MsgT.tree] at*;omega)
 rw[FZ] at body0
 have lp:It (λaA (_:Unit)=>c264_4 (aL p n) aA m) ((0:Int),rk2) (λ_=>oL (dT m)):=by
  refine It.accu (α:=aH) rk2 (λi=>aG (gt (eZ m) i).1) 5 5 (λi hi=>aX _) (λi hi acc ha aA a rec=>?_)
   (It.stopE (T:=λaA _=>iter (c264_16 (aL p n) aA m) aA ((0:Int),nG m++bG m.part++aG (m.marks.length:Int))) (λaA a rec=>?_) body0.all_i)
  ·replace ha:acc.length+(aG (gt (eZ m) i).1).length<=2+5*5:=ha
   have hi5:i<(eZ m).length:=hi
   unfold c264_4;dsimp only;rw[aF (show i<9223372036854775807 by omega)];refine ql hi5 ?_;refine qz ?_;refine(aE hi5).trans ?_;refine(aE hi5).trans ?_;refine qC (f331 (gt (eZ m) i).1) ?_;refine qP (by show acc.length+(aG (gt (eZ m) i).1).length<=4294967296;omega) ?_;rfl
  ·have e0:(rk2++bM 5 λi=>aG (gt (eZ m) i).1)=rk2++cQ (eZ m):=congrArg (λl=>rk2++l) (cA (λx:aH=>aG x.1) (eZ m))
   show c264_4 (aL p n) aA m rec (((5:Nat):Int),rk2++bM 5 λi=>aG (gt (eZ m) i).1)=_
   rw[e0]
   have b1:(rk2++cQ (eZ m)).length+(cY m.tree.1).length<=bound:=by unfold bound;simp only[List.length_append];dsimp only[MsgT.tree] at*;omega
   have b2:(rk2++cQ (eZ m)++cY m.tree.1).length+(aG m.tree.2.1).length<=bound:=by unfold bound;simp only[List.length_append];dsimp only[MsgT.tree] at*;omega
   have b3:(rk2++cQ (eZ m)++cY m.tree.1++aG m.tree.2.1).length+(cY m.vec).length<=bound:=by unfold bound;simp only[List.length_append];dsimp only[MsgT.tree] at*;omega
   have b4:(rk2++cQ (eZ m)++cY m.tree.1++aG m.tree.2.1++cY m.vec).length+(cY m.leaves).length<=bound:=by unfold bound;simp only[List.length_append];dsimp only[MsgT.tree] at*;omega
   have b5:(rk2++cQ (eZ m)++cY m.tree.1++aG m.tree.2.1++cY m.vec++cY m.leaves).length+(aG (((bG m.part).length:Nat):Int)).length<=bound:=by unfold bound;simp only[List.length_append];dsimp only[MsgT.tree] at*;omega
   have b6:(nG m).length+(bG m.part).length<=bound:=by unfold bound nG;simp only[List.length_append];dsimp only[MsgT.tree] at*;omega
   have b7:(nG m++bG m.part).length+(aG (m.marks.length:Int)).length<=bound:=by unfold bound nG;simp only[List.length_append];dsimp only[MsgT.tree] at*;omega
   unfold c264_4;dsimp only;refine qN (show ¬ ((5:Int)<5) by decide) ?_;refine qC (f332 m.tree.1 (by omega)) ?_;refine qP b1 ?_;refine qC (f331 m.tree.2.1) ?_;refine qP b2 ?_;refine qC (f332 m.vec (by omega)) ?_;refine qP b3 ?_;refine qC (f332 m.leaves (by omega)) ?_;refine qP b4 ?_;refine qC (f333 m.part hok) ?_;refine qC (f331 (((bG m.part).length:Nat):Int)) ?_;refine qP b5 ?_;refine qP b6 ?_;refine qC (f331 (m.marks.length:Int)) ?_;refine qP b7 ?_;rfl
 exact Ev.eq (λaA=>by unfold T264;rfl) (lp.ev (i:=()) rfl)
theorem w3{m:MsgT}(h:dM m=false):aY m=[]:=by unfold aY;rw[h];rfl
theorem f127(m:MsgT)(hz:SzM m):Ran p 6 127 [va K43 m] (rO K22 (aY m,())):=go127 λn hn=>Ev.now λaA=>by
 unfold T127;refine qC (f113 m hz) ?_
 cases h:dM m with
 | false=>refine qt ?_;rw[w3 h];rfl
 | true=>
  have hl:=AS (nY h)
  have hb:(dT m).length+(pL (dT m)).length<=bound:=by rw[mN];unfold bound;omega
  rw[lV h];refine qf ?_;refine qC (f264 m h) ?_;refine qC (f265 (dT m) (uW m) (Nat.le_trans hl (by decide))) ?_;refine qP hb ?_;rfl
theorem f36(m:MsgT)(hz:SzM m):Ran p 5 36 [va K43 m] (rO K22 (aY m,())):=go36 λn hn=>by
 cases h:dM m with
 | false=>exact Ev.now λaA=>by unfold T36;refine qC (f30 m hz) ?_;rw[h];refine qt ?_;rw[w3 h];rfl
 | true=>
  have hr:=nY h
  have L:=RE hr
  have l1:=L.h5;have l2:=L.a;have l3:=L.b;have l4:=L.c;have l5:=L.d;have l6:=L.e;have l7:=L.f;have l8:=L.g;have l9:=L.k
  have t1:=hr.tree.1;have t2:=hr.vec.1;have t3:=hr.leaves.1
  have l0:rk2.length=2:=rfl
  have hok:StateOk m.part:=(aM _).1 hr.part
  have hl:=AS hr
  have mk:∀ pre:List aH,pre.length<=1000->pre++m.marks.flatMap aV=dT m->It (λaA (_:Unit)=>c36_6 (aL p n) aA m) ((0:Int),pre) (λ_=>oL (cJ m)):=by
   intro pre hp he
   refine It.accu (α:=aH) pre (λi=>aV (gt m.marks i)) m.marks.length 10 (λi hi=>fF _) (λi hi acc ha aA a rec=>?_) (It.stop λaA a rec=>?_)
   ·unfold c36_6;dsimp only;rw[aF (show i<9223372036854775807 by omega)];refine ql hi ?_;refine qz ?_;refine(aE hi).trans ?_;refine qC (f138 (gt m.marks i).1) ?_;refine qC (f138 (gt m.marks i).2.1) ?_
    refine qC (f137 [(acc,()),(aG (gt m.marks i).1,()),(aG (gt m.marks i).2.1,())] 2000 (j9 (by
     intro r hr;simp only[List.mem_cons,List.not_mem_nil,or_false] at hr
     rcases hr with rfl | rfl | rfl
     ·show acc.length<=2000;omega
     ·exact dB (by decide)
     ·exact dB (by decide))) (by show 3*2000<=4294967296;omega) (by show 3<=9223372036854775807;omega)) ?_
    exact congrArg (λl:List aH=>rec (((i+1:Nat):Int),l)) (by simp[aV]:List.flatMap (λr:bH=>r.1) [(acc,()),(aG (gt m.marks i).1,()),(aG (gt m.marks i).2.1,())]=acc++aV (gt m.marks i))
   ·have e1:(pre++bM m.marks.length λi=>aV (gt m.marks i))=dT m:=(congrArg (λl=>pre++l) (cA aV m.marks)).trans he
    show c36_6 (aL p n) aA m rec ((m.marks.length:Int),pre++bM m.marks.length λi=>aV (gt m.marks i))=_
    rw[e1]
    unfold c36_6;refine qe ?_;refine qC (f140 (dT m) (uW m) (Nat.le_trans hl (by decide))) ?_
    refine qC (f137 [(dT m,()),(pL (dT m),())] 2000 (j9 (by
     intro r hr;simp only[List.mem_cons,List.not_mem_nil,or_false] at hr
     rcases hr with rfl | rfl
     ·show(dT m).length<=2000;omega
     ·show(pL (dT m)).length<=2000;rw[mN];omega)) (by show 2*2000<=4294967296;omega) (by show 2<=9223372036854775807;omega)) ?_
    exact congrArg oL (by simp[cJ]:List.flatMap (λr:bH=>r.1) [(dT m,()),(pL (dT m),())]=cJ m)
  have hP:(List.flatMap (λr:bH=>r.1) [(rk2,()),(aG m.1,()),(aG m.2.1,()),(aG m.2.2.1,()),(aG m.2.2.2.1,()),(aG m.hi,()),(cY m.tree.1,()),(aG m.tree.2.1,()),(cY m.vec,()),(cY m.leaves,()),(aG (((bG m.part).length:Nat):Int),()),(bG m.part,()),(aG (m.marks.length:Int),())])=nG m++bG m.part++aG (m.marks.length:Int):=by
   unfold nG cQ eZ;simp only[List.flatMap_cons,List.flatMap_nil,List.append_assoc,List.append_nil]
  have body0:=mk (nG m++bG m.part++aG (m.marks.length:Int)) (by unfold nG;simp only[List.length_append];dsimp only[MsgT.tree] at*;omega) (FZ m)
  rw[lV h]
  exact Ev.eq (λaA=>by
   unfold T36;refine qC (f30 m hz) ?_;rw[h];refine qf ?_;refine qC (f136 m.part hok) ?_;refine qP (show 0<2 by decide) ?_
   refine qC (f138 m.1) ?_;refine qC (f138 m.2.1) ?_;refine qC (f138 m.2.2.1) ?_;refine qC (f138 m.2.2.2.1) ?_;refine qC (f138 m.hi) ?_;refine qC (f139 m.tree.1 (by omega)) ?_;refine qC (f138 m.tree.2.1) ?_;refine qC (f139 m.vec (by omega)) ?_;refine qC (f139 m.leaves (by omega)) ?_;refine qC (f138 (((bG m.part).length:Nat):Int)) ?_;refine qC (f138 (m.marks.length:Int)) ?_
   refine qC (f137 [(rk2,()),(aG m.1,()),(aG m.2.1,()),(aG m.2.2.1,()),(aG m.2.2.2.1,()),(aG m.hi,()),(cY m.tree.1,()),(aG m.tree.2.1,()),(cY m.vec,()),(cY m.leaves,()),(aG (((bG m.part).length:Nat):Int),()),(bG m.part,()),(aG (m.marks.length:Int),())] 2000 (j9 (by
    intro r hr;simp only[List.mem_cons,List.not_mem_nil,or_false] at hr
    rcases hr with rfl | rfl | rfl | rfl | rfl | rfl | rfl | rfl | rfl | rfl | rfl | rfl | rfl
    ·show rk2.length<=2000;omega
    ·exact dB (by decide)
    ·exact dB (by decide)
    ·exact dB (by decide)
    ·exact dB (by decide)
    ·exact dB (by decide)
    ·show(cY m.tree.1).length<=2000;omega
    ·exact dB (by decide)
    ·show(cY m.vec).length<=2000;omega
    ·show(cY m.leaves).length<=2000;omega
    ·exact dB (by decide)
    ·show(bG m.part).length<=2000;omega
    ·exact dB (by decide))) (by show 13*2000<=4294967296;omega) (by show 13<=9223372036854775807;omega)) ?_
   exact congrArg (λl:List aH=>iter (c36_6 (aL p n) aA m) aA ((0:Int),l)) hP) (body0.ev (i:=()) rfl)
end Go.Abs.Xz
