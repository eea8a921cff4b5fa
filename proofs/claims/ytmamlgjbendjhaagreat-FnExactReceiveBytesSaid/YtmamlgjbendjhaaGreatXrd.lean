/- What the functions of this program answer, part rd. -/
import Derived.Test.YtmamlgjbendjhaaGreatW3
import Derived.Test.YtmamlgjbendjhaaGreatXk
import Derived.Test.YtmamlgjbendjhaaGreatXa
import Derived.Test.YtmamlgjbendjhaaGreatXm
import Derived.Test.YtmamlgjbendjhaaGreatW2
import Derived.Test.YtmamlgjbendjhaaGreatXep
set_option linter.unusedVariables false
open Go.IntKind (i64)
namespace Go.Abs.Xz
open Go Go.Abs
theorem EL(xs:List bL)(h:xs.length<=4611686018427387904):LmT (.sl K163) xs:=⟨h,fun i r _=>⟨trivial,trivial,trivial,trivial,trivial,trivial,trivial⟩⟩
theorem BH(xs:List aL)(h:xs.length<=4611686018427387904):LmT (.sl K165) xs:=⟨h,fun i r _=>⟨trivial,trivial,trivial⟩⟩
theorem xN(xs:List aH)(h:xs.length<=4611686018427387904):LmT (.sl K3) xs:=⟨h,fun i r _=>⟨trivial,trivial⟩⟩
theorem MH(xs:List bL):cnT (.sl K163) xs=6*(xs.length:Int):=iS (c:=cnR K163) (n:=6) (fun x=>rfl) xs
theorem J0(xs:List aL):cnT (.sl K165) xs=2*(xs.length:Int):=iS (c:=cnR K165) (n:=2) (fun x=>rfl) xs
theorem xO(xs:List aH):cnT (.sl K3) xs=1*(xs.length:Int):=iS (c:=cnR K3) (n:=1) (fun x=>rfl) xs
theorem KR(s:aE)(h:SzS s):LmR K27 s:=⟨EL s.1 (Nat.le_trans h.1 (by decide)),BH s.2.1 (Nat.le_trans h.2 (by decide)),trivial⟩
end Go.Abs.Xz
namespace Go.Abs.Xz
open Go Go.Abs
theorem FJ(s:aE):(cT s).1.length<=4:=by
 unfold cT;cases aN s with
 | true=>exact Nat.le_refl 4
 | false=>exact Nat.zero_le _
theorem AO{α:Type}{c:α->Int}{A:Int}:∀ (xs:List α),(∀ x∈xs,c x<=A)->cJ c xs<=A*(xs.length:Int)
 | [],_=>by show(0:Int)<=A*((0:Nat):Int);omega
 | x::xs,h=>by
  have h1:=h x (List.mem_cons_self ..)
  have h2:=AO xs fun y hy=>h y (List.mem_cons_of_mem _ hy)
  show c x+cJ c xs<=A*((xs.length+1:Nat):Int)
  rw[Int.natCast_succ,Int.mul_add];omega
theorem N5(xs:List gC)(h:xs.length<=4611686018427387904):LmT (.sl K141) xs:=⟨h,fun i r _=>⟨trivial,trivial,trivial,trivial,trivial⟩⟩
theorem LB(xs:List jN)(h:xs.length<=4611686018427387904):LmT (.sl K147) xs:=⟨h,fun i r _=>⟨trivial,trivial,trivial,trivial⟩⟩
theorem NH{α:Type}[Inhabited α]{xs:List α}{i:Nat}{r:α}(h:at? xs i=some r):i<xs.length/\gt xs i=r:=by
 have h':xs[i]? =some r:=h
 have:=(List.getElem?_eq_some_iff.1 h').1
 exact⟨this,by rw[d8 this];exact(List.getElem?_eq_some_iff.1 h').2⟩
theorem mJ{n:Nat}(h:n<=aQ):n<=4611686018427387904:=Nat.le_trans h (by decide)
theorem OQ(x:NodeT)(h:SzN x):LmR K38 x:=
 ⟨trivial,trivial,EL _ (mJ h.state.a),BH _ (mJ h.state.b),xN _ (mJ h.leaves),trivial,trivial,trivial,
  ⟨mJ h.list,fun i r hr=>by obtain⟨h1,h2⟩:=NH (α:=aE) hr;exact h2▸KR _ (h.logs i h1)⟩,xN _ (mJ h.got),xN _ (mJ h.acked),
  ⟨mJ h.seen,fun i r hr=>by obtain⟨h1,h2⟩:=NH (α:=bK) hr;exact⟨xN _ (mJ (h2▸h.lines i h1)),trivial⟩⟩,trivial,trivial,N5 _ (mJ h.sess),trivial,trivial,trivial,LB _ (mJ h.rises),trivial⟩
end Go.Abs.Xz
namespace Go.Abs.Xz
open Go Go.Abs
theorem qH{α:Type}[Inhabited α]{xs:List α}{i:Nat}(h:i<xs.length):xs.take i++[gt xs i]=xs.take (i+1):=by
 rw[d8 h];exact List.take_append_getElem h
theorem iG{α β:Type}{xs:List β}(h:xs.length<=aQ):List.length ([]:List α)+xs.length<=bound:=by
 show 0+xs.length<=bound;unfold aQ at h;unfold bound;omega
theorem xF{α:Type}{xs:List α}(h:xs.length<=aQ)(i:Nat):(xs.take i).length+1<=bound:=by
 rw[List.length_take];unfold aQ at h;unfold bound;omega
theorem i63{i k:Nat}(h:i<k)(hk:k<=aQ):i<9223372036854775807:=by unfold aQ at hk;omega
theorem f224(s:aE)(hz:SzS s):Ran p 1 224 [va K27 s] (rO K27 s):=go224 fun n hn=>Ev.now fun aA=>by
 show T224 (aI p n) aA s=rV K27 s
 unfold T224;refine qP (iG hz.a) ?_;refine qP (iG hz.b) ?_;rfl
theorem f220(s:aE)(hz:SzS s):Ran p 1 220 [va K27 s] (rO K27 s):=go220 fun n hn=>Ev.now fun aA=>by
 show T220 (aI p n) aA s=rV K27 s
 unfold T220;refine qP (iG hz.a) ?_;refine qP (iG hz.b) ?_;rfl
theorem f98(xs:List aH)(h:xs.length<=aQ):Ran p 1 98 [vf K28 (xs,())] (rO K28 (xs,())):=go98 fun n hn=>Ev.now fun aA=>by
 show T98 (aI p n) aA xs=rV K28 (xs,())
 unfold T98;refine qP (iG h) ?_;rfl
theorem f90(t:kH)(h:t.1.length<=aQ):Ran p 1 90 [va K30 t] (rO K30 t):=go90 fun n hn=>Ev.now fun aA=>by
 show T90 (aI p n) aA t=rV K30 t
 unfold T90;refine qP (iG h) ?_;rfl
theorem f84(t:kH)(h:t.1.length<=aQ):Ran p 2 84 [va K30 t] (rO K30 t):=go84 fun n hn=>Ev.now fun aA=>by
 show T84 (aI p n) aA t=rV K30 t
 unfold T84;refine qC (f98 t.1 h) ?_;rfl
theorem f226(ts:List bK)(h1:ts.length<=aQ)(h2:∀ i,i<ts.length->(gt ts i).1.length<=aQ):Ran p 1 226 [vf K34 (ts,())] (rO K34 (ts,())):=go226 fun n hn=>by
 have lp:It (fun aA (_:Unit)=>c226_3 (aI p n) aA ts) ((0:Int),([]:List bK)) (fun _=>rV K34 (ts,())):=by
  refine It.run (fun i=>((i:Int),ts.take i)) ts.length (fun i hi aA u rec=>?_) (It.stop fun aA u rec=>?_)
  ·unfold c226_3;dsimp only;rw[aD (i63 hi h1)];refine ql hi ?_;refine qz ?_;refine(aG hi).trans ?_
   refine qP (iG (h2 i hi)) ?_;refine qP (xF h1 i) ?_;rw[<- qH hi];rfl
  ·show c226_3 (aI p n) aA ts rec ((ts.length:Int),ts.take ts.length)=_
   refine(congrArg (fun l=>c226_3 (aI p n) aA ts rec ((ts.length:Int),l)) (List.take_length (l:=ts))).trans ?_
   unfold c226_3;dsimp only;refine qe ?_;rfl
 exact Ev.eq (fun aA=>by unfold T226;rfl) (lp.ev (i:=()) rfl)
theorem f222(ts:List bK)(h1:ts.length<=aQ)(h2:∀ i,i<ts.length->(gt ts i).1.length<=aQ):Ran p 2 222 [vf K34 (ts,())] (rO K34 (ts,())):=go222 fun n hn=>by
 have lp:It (fun aA (_:Unit)=>c222_3 (aI p n) aA ts) ((0:Int),([]:List bK)) (fun _=>rV K34 (ts,())):=by
  refine It.run (fun i=>((i:Int),ts.take i)) ts.length (fun i hi aA u rec=>?_) (It.stop fun aA u rec=>?_)
  ·unfold c222_3;dsimp only;rw[aD (i63 hi h1)];refine ql hi ?_;refine qz ?_;refine(aG hi).trans ?_
   refine qC (f98 (gt ts i).1 (h2 i hi)) ?_;refine qP (xF h1 i) ?_;rw[<- qH hi];rfl
  ·show c222_3 (aI p n) aA ts rec ((ts.length:Int),ts.take ts.length)=_
   refine(congrArg (fun l=>c222_3 (aI p n) aA ts rec ((ts.length:Int),l)) (List.take_length (l:=ts))).trans ?_
   unfold c222_3;dsimp only;refine qe ?_;rfl
 exact Ev.eq (fun aA=>by unfold T222;rfl) (lp.ev (i:=()) rfl)
theorem f225(l:mV)(h1:l.2.2.1.length<=aQ)(h2:∀ i,i<l.2.2.1.length->SzS (gt l.2.2.1 i)):Ran p 2 225 [va K33 l] (rO K33 l):=go225 fun n hn=>by
 have lp:It (fun aA (_:Unit)=>c225_3 (aI p n) aA l) ((0:Int),([]:List aE)) (fun _=>rV K33 l):=by
  refine It.run (fun i=>((i:Int),l.2.2.1.take i)) l.2.2.1.length (fun i hi aA u rec=>?_) (It.stop fun aA u rec=>?_)
  ·unfold c225_3;dsimp only;rw[aD (i63 hi h1)];refine ql hi ?_;refine qz ?_;refine(aG hi).trans ?_
   refine qC (f224 (gt l.2.2.1 i) (h2 i hi)) ?_;refine qP (xF h1 i) ?_;rw[<- qH hi];rfl
  ·show c225_3 (aI p n) aA l rec ((l.2.2.1.length:Int),l.2.2.1.take l.2.2.1.length)=_
   refine(congrArg (fun q=>c225_3 (aI p n) aA l rec ((l.2.2.1.length:Int),q)) (List.take_length (l:=l.2.2.1))).trans ?_
   unfold c225_3;dsimp only;refine qe ?_;rfl
 exact Ev.eq (fun aA=>by unfold T225;rfl) (lp.ev (i:=()) rfl)
theorem f221(l:mV)(h1:l.2.2.1.length<=aQ)(h2:∀ i,i<l.2.2.1.length->SzS (gt l.2.2.1 i)):Ran p 2 221 [va K33 l] (rO K33 l):=go221 fun n hn=>by
 have lp:It (fun aA (_:Unit)=>c221_3 (aI p n) aA l) ((0:Int),([]:List aE)) (fun _=>rV K33 l):=by
  refine It.run (fun i=>((i:Int),l.2.2.1.take i)) l.2.2.1.length (fun i hi aA u rec=>?_) (It.stop fun aA u rec=>?_)
  ·unfold c221_3;dsimp only;rw[aD (i63 hi h1)];refine ql hi ?_;refine qz ?_;refine(aG hi).trans ?_
   refine qC (f220 (gt l.2.2.1 i) (h2 i hi)) ?_;refine qP (xF h1 i) ?_;rw[<- qH hi];rfl
  ·show c221_3 (aI p n) aA l rec ((l.2.2.1.length:Int),l.2.2.1.take l.2.2.1.length)=_
   refine(congrArg (fun q=>c221_3 (aI p n) aA l rec ((l.2.2.1.length:Int),q)) (List.take_length (l:=l.2.2.1))).trans ?_
   unfold c221_3;dsimp only;refine qe ?_;rfl
 exact Ev.eq (fun aA=>by unfold T221;rfl) (lp.ev (i:=()) rfl)
theorem f85(x:NodeT)(hz:SzN x):Ran p 3 85 [va K38 x] (rO K38 x):=go85 fun n hn=>Ev.now fun aA=>by
 show T85 (aI p n) aA x=rV K38 x
 unfold T85
 refine qC (f224 x.state hz.state) ?_
 refine qC (f90 x.tree hz.leaves) ?_
 refine qC (f225 x.log hz.list hz.logs) ?_
 refine qP (iG hz.got) ?_;refine qP (iG hz.acked) ?_
 refine qC (f226 x.seen hz.seen hz.lines) ?_
 refine qP (iG hz.sess) ?_;refine qP (iG hz.rises) ?_
 rfl
theorem f81(x:NodeT)(hz:SzN x):Ran p 3 81 [va K38 x] (rO K38 x):=go81 fun n hn=>Ev.now fun aA=>by
 show T81 (aI p n) aA x=rV K38 x
 unfold T81
 refine qC (f220 x.state hz.state) ?_
 refine qC (f84 x.tree hz.leaves) ?_
 refine qC (f221 x.log hz.list hz.logs) ?_
 refine qC (f98 x.got hz.got) ?_
 refine qC (f98 x.acked hz.acked) ?_
 refine qC (f222 x.seen hz.seen hz.lines) ?_
 refine qP (iG hz.sess) ?_;refine qP (iG hz.rises) ?_
 rfl
structure SzX (w:iV):Prop extends SzW w where
 bytes:∀ i,i<w.2.1.length->(gt w.2.1 i).2.1.length<=aQ
end Go.Abs.Xz
namespace Go.Abs.Xz
open Go Go.Abs
theorem AP{α:Type}[Inhabited α]{c:α->Int}:∀ (xs ys:List α),xs.length=ys.length->(∀ j,j<xs.length->c (gt xs j)<=c (gt ys j))->cJ c xs<=cJ c ys
 | [],[],_,_=>Int.le_refl _
 | x::xs,y::ys,h,h2=>by
  have h3:c x<=c y:=h2 0 (Nat.zero_lt_succ _)
  have h4:=AP xs ys (by simpa using h) fun j hj=>h2 (j+1) (Nat.succ_lt_succ hj)
  show c x+cJ c xs<=c y+cJ c ys
  omega
 | [],_::_,h,_=>by cases h
 | _::_,[],h,_=>by cases h
theorem N6(xs:List gC):cnT (.sl K141) xs=4*(xs.length:Int):=iS (c:=cnR K141) (n:=4) (fun x=>rfl) xs
end Go.Abs.Xz
namespace Go.Abs.Xz
open Go Go.Abs
theorem f256(a b:Int):Ran p 1 256 [vf K3 (a,()), vf K3 (b,())] (rO K3 (mxI false a b,())):=go256 fun n hn=>Ev.now fun aA=>by
 unfold T256;rw[EB]
 by_cases h:a<b
 ·refine qP h ?_;rw[show min a b=a by omega]
 ·refine qN h ?_;rw[show min a b=b by omega]
theorem f253(ms:List aL)(h2:ms.length<=maxLen):Ran p 3 253 [vf K41 (ms,())] (rO K4 (d5 ms,())):=go253 fun n hn=>by
 have inner:It (fun aA (_:Unit)=>c253_2 (aI p n) aA ms) (0:Int) (fun _=>oB (d5 ms)):=by
  refine d7 (It.allB ms.length (fG ms) true (fun i hi aA a rec=>?_) (It.stop fun aA a rec=>?_))
  ·have hb:i<9223372036854775807:=Nat.lt_of_lt_of_le hi h2
   unfold c253_2 fG;rw[aD hb];refine ql hi ?_;refine qz ?_;refine(aG hi).trans ?_;refine qC (f250 (gt ms i).1) ?_;refine chk fun _=>?_
   cases i with
   | zero=>refine qN (by decide) ?_;refine qz ?_;refine(aG hi).trans ?_;refine qC (f211 (gt ms 0).2.1 1 1000) ?_;exact fin
   | succ j=>
    refine qP (by omega) ?_;refine qz ?_;refine(aG hi).trans ?_;rw[iX hb (by omega)];refine qz ?_;refine(aG (show j<ms.length by omega)).trans ?_;refine M8 fun _=>?_
    refine qz ?_;refine(aG hi).trans ?_;refine qC (f211 (gt ms (j+1)).2.1 1 1000) ?_;exact fin
  ·unfold c253_2;refine qe ?_;rfl
 exact Ev.eq (fun aA=>by unfold T253;rfl) (inner.ev (i:=()) rfl)
theorem f125(ms:List aL)(h2:ms.length<=maxLen):Ran p 3 125 [vf K41 (ms,())] (rO K4 (d5 ms,())):=go125 fun n hn=>by
 have inner:It (fun aA (_:Unit)=>c125_2 (aI p n) aA ms) (0:Int) (fun _=>oB (EG ms)):=by
  refine d7 (It.allB ms.length (iL ms) true (fun i hi aA a rec=>?_) (It.stop fun aA a rec=>?_))
  ·have hb:i<9223372036854775807:=Nat.lt_of_lt_of_le hi h2
   unfold c125_2 iL;rw[aD hb];refine ql hi ?_;refine qz ?_;refine(aG hi).trans ?_;refine qC (f123 (gt ms i).1) ?_;refine chk fun _=>?_;refine qC (f100 (gt ms i).2.1 1 1000) ?_;refine chk fun _=>?_
   cases i with
   | zero=>refine qN (by decide) ?_;rfl
   | succ j=>refine qP (by omega) ?_;rw[iX hb (by omega)];refine qz ?_;refine(aG (show j<ms.length by omega)).trans ?_;exact C3
  ·unfold c125_2;refine qe ?_;rfl
 rw[JI] at inner
 exact Ev.eq (fun aA=>by unfold T125;rfl) (inner.ev (i:=()) rfl)
theorem f234(s:aE)(hz:SzS s):Ran p 5 234 [va K27 s] (rO K41 (dV s,())):=go234 fun n hn=>by
 have lp:It (fun aA (_:Unit)=>c234_3 (aI p n) aA s) ((0:Int),([]:List aL)) (fun _=>rV K41 (dV s,())):=by
  refine It.accu (α:=aL) [] (gS s) 5 1 (fun i _=>oE s i) (fun i hi acc ha aA u rec=>?_) (It.stop fun aA u rec=>?_)
  ·show c234_3 (aI p n) aA s rec ((i:Int),acc)=rec (((i+1:Nat):Int),acc++gS s i)
   have hb:acc.length+1<=bound+(1 - (gS s i).length):=by simp at ha;unfold bound;omega
   unfold c234_3 gS;dsimp only;rw[aD (show i<9223372036854775807 by omega)];refine qP (show(i:Int)<5 by omega) ?_;refine qC (f316 s (i:Int) hz) ?_
   by_cases h:gone s i>0
   ·refine qP h ?_;refine qP (by
     unfold gS at hb;rw[decide_eq_true h] at hb;exact hb) ?_;rw[decide_eq_true h];rfl
   ·refine qN h ?_;rw[decide_eq_false h];show rec _=rec _;rw[show(bif false then[((i:Int),gone s i,())] else[])=([]:List aL)from rfl,List.append_nil];rfl
  ·unfold c234_3;dsimp only;refine qe ?_;rfl
 exact Ev.eq (fun aA=>by unfold T234;rfl) (lp.ev (i:=()) rfl)
theorem f223(s:aE)(hz:SzS s):Ran p 5 223 [va K27 s] (rO K41 (dV s,())):=go223 fun n hn=>by
 have lp:It (fun aA (_:Unit)=>c223_3 (aI p n) aA s) ((0:Int),([]:List aL)) (fun _=>rV K41 (dV s,())):=by
  refine It.accu (α:=aL) [] (gS s) 5 1 (fun i _=>oE s i) (fun i hi acc ha aA u rec=>?_) (It.stop fun aA u rec=>?_)
  ·show c223_3 (aI p n) aA s rec ((i:Int),acc)=rec (((i+1:Nat):Int),acc++gS s i)
   have hb:acc.length+1<=bound+(1 - (gS s i).length):=by simp at ha;unfold bound;omega
   unfold c223_3 gS;dsimp only;rw[aD (show i<9223372036854775807 by omega)];refine qP (show(i:Int)<5 by omega) ?_;refine qC (f311 s (i:Int) hz) ?_
   by_cases h:gone s i>0
   ·refine qP h ?_;refine qP (by
     unfold gS at hb;rw[decide_eq_true h] at hb;exact hb) ?_;rw[decide_eq_true h];rfl
   ·refine qN h ?_;rw[decide_eq_false h];show rec _=rec _;rw[show(bif false then[((i:Int),gone s i,())] else[])=([]:List aL)from rfl,List.append_nil];rfl
  ·unfold c223_3;dsimp only;refine qe ?_;rfl
 exact Ev.eq (fun aA=>by unfold T223;rfl) (lp.ev (i:=()) rfl)
theorem bB{α β:Type}[Inhabited α]{xs:List α}{i:Nat}{f:α->Option β}(h:i<xs.length):(at? xs i).bind f=f (gt xs i):=by
 rw[bP h,d8 h];rfl
theorem f255(v:List aH)(k m:Int)(hv:v.length<=aQ):Ran p 2 255 [vf K28 (v,()), vf K3 (k,()), vf K3 (m,())] (rO K28 (cQ v k m,())):=go255 fun n hn=>Ev.now fun aA=>by
 unfold T255 cQ;refine qP (iG hv) ?_;refine qC (f211 k 0 (i64.wrap ((v.length:Int) - 1))) ?_
 cases hb:inB k 0 (i64.wrap ((v.length:Int) - 1))with
 | false=>rfl
 | true=>
  obtain⟨hk,e⟩:=oK hv hb
  refine qt ?_;refine qP (show(0:Int)<=k by omega) ?_;refine(bB hk).trans ?_
  by_cases h:m>(gt v k.toNat).1
  ·refine qP h ?_;refine qP (show(0:Int)<=k by omega) ?_;refine(bB hk).trans ?_;refine(bB hk).trans ?_
   rw[q9,show max (gt v k.toNat).1 m=m by omega];rfl
  ·refine qN h ?_;rw[q9,show max (gt v k.toNat).1 m=(gt v k.toNat).1 by omega]
   show(rV K28 (v,()):Option Out)=rV K28 (v.set k.toNat (gt v k.toNat),())
   rw[rU]
theorem f236(v:List aH)(k m:Int)(hv:v.length<=aQ):Ran p 2 236 [vf K28 (v,()), vf K3 (k,()), vf K3 (m,())] (rO K28 (cQ v k m,())):=go236 fun n hn=>Ev.now fun aA=>by
 unfold T236 cQ;refine qC (f98 v hv) ?_;refine qC (f100 k 0 (i64.wrap ((v.length:Int) - 1))) ?_
 cases hb:inB k 0 (i64.wrap ((v.length:Int) - 1))with
 | false=>rfl
 | true=>
  obtain⟨hk,e⟩:=oK hv hb
  refine qt ?_;refine qP (show(0:Int)<=k by omega) ?_;refine(bB hk).trans ?_;refine qP (show(0:Int)<=k by omega) ?_;refine(bB hk).trans ?_;refine(bB hk).trans ?_;rfl
theorem uV{α:Type}(xs:List α)(i:Nat)(a b:α):(xs.set i a).set i b=xs.set i b:=by simp
theorem f257(t:List bK)(k:Int)(ms:List aL)(h1:t.length<=aQ)(h2:∀ i,i<t.length->(gt t i).1.length<=aQ)(h3:ms.length<=aQ):Ran p 4 257 [vf K34 (t,()), vf K3 (k,()), vf K41 (ms,())] (rO K34 (bH t k ms,())):=go257 fun n hn=>by
 cases hb:inB k 0 (i64.wrap ((t.length:Int) - 1))with
 | false=>exact Ev.now fun aA=>by show T257 (aI p n) aA t k ms=_;unfold T257;refine qC (f226 t h1 h2) ?_;refine qC (f211 k 0 (i64.wrap ((t.length:Int) - 1))) ?_;rw[hb,show bH t k ms=t by unfold bH lT;rw[hb];rfl];rfl
 | true=>
  obtain⟨hk,e⟩:=oK h1 hb
  cases hm:d5 ms with
  | false=>exact Ev.now fun aA=>by show T257 (aI p n) aA t k ms=_;unfold T257;refine qC (f226 t h1 h2) ?_;refine qC (f211 k 0 (i64.wrap ((t.length:Int) - 1))) ?_;rw[hb];refine qf ?_;refine qC (f253 ms (aV h3)) ?_;rw[hm,show bH t k ms=t by unfold bH lT;rw[hb,hm];rfl];rfl
  | true=>
   by_cases h5:(((gt t k.toNat).1.length:Nat):Int)<5
   ·exact Ev.now fun aA=>by show T257 (aI p n) aA t k ms=_;unfold T257;refine qC (f226 t h1 h2) ?_;refine qC (f211 k 0 (i64.wrap ((t.length:Int) - 1))) ?_;rw[hb];refine qf ?_;refine qC (f253 ms (aV h3)) ?_;rw[hm];refine qf ?_;refine qP (show(0:Int)<=k by omega) ?_;refine(bB hk).trans ?_;refine qP h5 ?_;rw[show bH t k ms=t by unfold bH lT;rw[hb,hm,decide_eq_true h5];rfl]
   ·have lp:It (fun aA (_:Unit)=>c257_5 (aI p n) aA k ms) ((0:Int),t) (fun _=>rV K34 (bH t k ms,())):=by
     have h0:=tB t k.toNat ms
     refine cast (congrArg (fun z=>It (fun aA (_:Unit)=>c257_5 (aI p n) aA k ms) ((0:Int),z) (fun _=>rV K34 (bH t k ms,()))) h0) ?_
     refine It.run (fun i=>((i:Int),bU t k.toNat ms i)) ms.length (fun i hi aA u rec=>?_) (It.stop fun aA u rec=>?_)
     ·show c257_5 (aI p n) aA k ms rec ((i:Int),bU t k.toNat ms i)=rec (((i+1:Nat):Int),bU t k.toNat ms (i+1))
      have hd:=pU hm hi
      have hl:k.toNat<(bU t k.toNat ms i).length:=by unfold bU;rw[List.length_set];exact hk
      have hg:gt (bU t k.toNat ms i) k.toNat=jM (gt t k.toNat) ms i:=dC hk _
      have hr:(gt ms i).1.toNat<(gt (bU t k.toNat ms i) k.toNat).1.length:=by rw[hg,k8];omega
      have hp:(0:Int)<=k:=by omega
      unfold c257_5;dsimp only;rw[aD (i63 hi h3)];refine ql hi ?_;refine qP hp ?_;refine(bB hl).trans ?_;refine(bB hl).trans ?_;refine qz ?_;refine(aG hi).trans ?_;refine qP hp ?_;refine(bB hl).trans ?_;refine(bB hl).trans ?_;refine qz ?_;refine(aG hi).trans ?_;refine qP hd.1 ?_;refine(bB hl).trans ?_;refine(bB hr).trans ?_;refine(bB hl).trans ?_;refine(bB hr).trans ?_;refine qz ?_;refine(aG hi).trans ?_
      refine qC (f248 (gt (gt (bU t k.toNat ms i) k.toNat).1 (gt ms i).1.toNat).1 (gt ms i).2.1) ?_;refine qP hd.1 ?_;refine(bB hl).trans ?_;refine(bB hr).trans ?_;refine(bB hl).trans ?_;refine(bB hr).trans ?_
      refine congrArg (fun z=>rec (((i+1:Nat):Int),z)) ?_
      show(bU t k.toNat ms i).set k.toNat (yA (gt (bU t k.toNat ms i) k.toNat) (gt ms i))=bU t k.toNat ms (i+1)
      rw[hg];exact uV ..
     ·unfold c257_5;dsimp only;refine qe ?_;rw[show bH t k ms=bU t k.toNat ms ms.length by unfold bH lT;rw[hb,hm,decide_eq_false h5];rfl]
    exact Ev.eq (fun aA=>by unfold T257;refine qC (f226 t h1 h2) ?_;refine qC (f211 k 0 (i64.wrap ((t.length:Int) - 1))) ?_;rw[hb];refine qf ?_;refine qC (f253 ms (aV h3)) ?_;rw[hm];refine qf ?_;refine qP (show(0:Int)<=k by omega) ?_;refine(bB hk).trans ?_;exact aW h5) (lp.ev (i:=()) rfl)
theorem f237(t:List bK)(k:Int)(ms:List aL)(h1:t.length<=aQ)(h2:∀ i,i<t.length->(gt t i).1.length<=aQ)(h3:ms.length<=aQ):Ran p 4 237 [vf K34 (t,()), vf K3 (k,()), vf K41 (ms,())] (rO K34 (bH t k ms,())):=go237 fun n hn=>by
 cases hb:inB k 0 (i64.wrap ((t.length:Int) - 1))with
 | false=>exact Ev.now fun aA=>by show T237 (aI p n) aA t k ms=_;unfold T237;refine qC (f222 t h1 h2) ?_;refine qC (f100 k 0 (i64.wrap ((t.length:Int) - 1))) ?_;rw[hb,show bH t k ms=t by unfold bH lT;rw[hb];rfl];rfl
 | true=>
  obtain⟨hk,e⟩:=oK h1 hb
  cases hm:d5 ms with
  | false=>exact Ev.now fun aA=>by show T237 (aI p n) aA t k ms=_;unfold T237;refine qC (f222 t h1 h2) ?_;refine qC (f100 k 0 (i64.wrap ((t.length:Int) - 1))) ?_;rw[hb];refine qf ?_;refine qC (f125 ms (aV h3)) ?_;rw[hm,show bH t k ms=t by unfold bH lT;rw[hb,hm];rfl];rfl
  | true=>
   by_cases h5:(((gt t k.toNat).1.length:Nat):Int)<5
   ·exact Ev.now fun aA=>by show T237 (aI p n) aA t k ms=_;unfold T237;refine qC (f222 t h1 h2) ?_;refine qC (f100 k 0 (i64.wrap ((t.length:Int) - 1))) ?_;rw[hb];refine qf ?_;refine qC (f125 ms (aV h3)) ?_;rw[hm];refine qf ?_;refine qP (show(0:Int)<=k by omega) ?_;refine(bB hk).trans ?_;refine qP h5 ?_;rw[show bH t k ms=t by unfold bH lT;rw[hb,hm,decide_eq_true h5];rfl]
   ·have lp:It (fun aA (_:Unit)=>c237_5 (aI p n) aA k ms) ((0:Int),t) (fun _=>rV K34 (bH t k ms,())):=by
     have h0:=tB t k.toNat ms
     refine cast (congrArg (fun z=>It (fun aA (_:Unit)=>c237_5 (aI p n) aA k ms) ((0:Int),z) (fun _=>rV K34 (bH t k ms,()))) h0) ?_
     refine It.run (fun i=>((i:Int),bU t k.toNat ms i)) ms.length (fun i hi aA u rec=>?_) (It.stop fun aA u rec=>?_)
     ·show c237_5 (aI p n) aA k ms rec ((i:Int),bU t k.toNat ms i)=rec (((i+1:Nat):Int),bU t k.toNat ms (i+1))
      have hd:=pU hm hi
      have hl:k.toNat<(bU t k.toNat ms i).length:=by unfold bU;rw[List.length_set];exact hk
      have hg:gt (bU t k.toNat ms i) k.toNat=jM (gt t k.toNat) ms i:=dC hk _
      have hr:(gt ms i).1.toNat<(gt (bU t k.toNat ms i) k.toNat).1.length:=by rw[hg,k8];omega
      have hp:(0:Int)<=k:=by omega
      unfold c237_5;dsimp only;rw[aD (i63 hi h3)];refine ql hi ?_;refine qz ?_;refine(aG hi).trans ?_;refine qP hp ?_;refine(bB hl).trans ?_;refine(bB hl).trans ?_;refine qP hp ?_;refine(bB hl).trans ?_;refine(bB hl).trans ?_;refine qP hd.1 ?_;refine(bB hl).trans ?_;refine(bB hr).trans ?_;refine(bB hl).trans ?_;refine(bB hr).trans ?_;refine qP hd.1 ?_;refine(bB hl).trans ?_;refine(bB hr).trans ?_;refine(bB hl).trans ?_;refine(bB hr).trans ?_
      refine congrArg (fun z=>rec (((i+1:Nat):Int),z)) ?_
      show(bU t k.toNat ms i).set k.toNat (yA (gt (bU t k.toNat ms i) k.toNat) (gt ms i))=bU t k.toNat ms (i+1)
      rw[hg];exact uV ..
     ·unfold c237_5;dsimp only;refine qe ?_;rw[show bH t k ms=bU t k.toNat ms ms.length by unfold bH lT;rw[hb,hm,decide_eq_false h5];rfl]
    exact Ev.eq (fun aA=>by unfold T237;refine qC (f222 t h1 h2) ?_;refine qC (f100 k 0 (i64.wrap ((t.length:Int) - 1))) ?_;rw[hb];refine qf ?_;refine qC (f125 ms (aV h3)) ?_;rw[hm];refine qf ?_;refine qP (show(0:Int)<=k by omega) ?_;refine(bB hk).trans ?_;exact aW h5) (lp.ev (i:=()) rfl)
end Go.Abs.Xz
namespace Go.Abs.Xz
open Go Go.Abs
theorem f357(t:List bK)(id:Int)(h1:t.length<=aQ)(h2:∀ i,i<t.length->(gt t i).1.length<=aQ):Ran p 2 357 [vf K34 (t,()), vf K3 (id,())] (rO K3 (eH t id,())):=go357 fun n hn=>by
 have lp:It (fun aA (_:Unit)=>c357_5 (aI p n) aA t id) ((0:Int),(0:Int)) (fun _=>oI (eH t id)):=by
  refine cast ?_ (It.all (c:=fun aA (_:Unit)=>c357_5 (aI p n) aA t id) (rA:=fun _=>oI (jD t id t.length)) (rB:=fun _=>oI 0) (fun i=>(jD t id i,(i:Int))) t.length (lO t id) (fun i hi aA u rec=>?_) (It.stop fun aA u rec=>?_))
  ·congr 1;funext u;unfold eH;cases cE t.length (lO t id)<;>rfl
  ·unfold c357_5 lO;dsimp only;rw[aD (i63 hi h1)];refine ql hi ?_;refine qz ?_;refine(aG hi).trans ?_;refine qC (f211 id 0 (i64.wrap ((((gt t i).1.length:Nat):Int) - 1))) ?_
   cases hb:inB id 0 (i64.wrap ((((gt t i).1.length:Nat):Int) - 1))with
   | false=>rfl
   | true=>
    obtain⟨hk,e⟩:=oK (h2 i hi) hb
    have hp:(0:Int)<=id:=by omega
    refine qf ?_
    show _=rec (bif(i:Int)==0 then _ else bif decide ((gt (gt t i).1 id.toNat).1<jD t id i)then _ else _,_)
    cases h0:(i:Int)==0 with
    | true=>refine qt ?_;refine qz ?_;refine(aG hi).trans ?_;refine qP hp ?_;refine(bB hk).trans ?_;rfl
    | false=>
     refine qf ?_;refine qz ?_;refine(aG hi).trans ?_;refine qP hp ?_;refine(bB hk).trans ?_
     by_cases hc:(gt (gt t i).1 id.toNat).1<jD t id i
     ·refine qP hc ?_;refine qz ?_;refine(aG hi).trans ?_;refine qP hp ?_;refine(bB hk).trans ?_;rw[decide_eq_true hc];rfl
     ·refine qN hc ?_;rw[decide_eq_false hc];rfl
  ·unfold c357_5;dsimp only;refine qe ?_;rfl
 cases h0:(t.length:Int)==0 with
 | false=>exact Ev.eq (fun aA=>by unfold T357;exact dH h0) (lp.ev (i:=()) rfl)
 | true=>
  have e:eH t id=0:=by
   have:t=[]:=List.length_eq_zero_iff.1 (by have:=eq_of_beq h0;omega)
   rw[this];rfl
  exact Ev.now fun aA=>by rw[e];unfold T357;exact jU h0
theorem f354(t:List bK)(id:Int)(h1:t.length<=aQ)(h2:∀ i,i<t.length->(gt t i).1.length<=aQ):Ran p 2 354 [vf K34 (t,()), vf K3 (id,())] (rO K3 (eH t id,())):=go354 fun n hn=>by
 have lp:It (fun aA (_:Unit)=>c354_3 (aI p n) aA t id) ((0:Int),(0:Int)) (fun _=>oI (eH t id)):=by
  refine cast ?_ (It.all (c:=fun aA (_:Unit)=>c354_3 (aI p n) aA t id) (rA:=fun _=>oI (jD t id t.length)) (rB:=fun _=>oI 0) (fun i=>(jD t id i,(i:Int))) t.length (lO t id) (fun i hi aA u rec=>?_) (It.stop fun aA u rec=>?_))
  ·congr 1;funext u;unfold eH;cases cE t.length (lO t id)<;>rfl
  ·unfold c354_3 lO;dsimp only;rw[aD (i63 hi h1)];refine ql hi ?_;refine qz ?_;refine(aG hi).trans ?_;refine qC (f100 id 0 (i64.wrap ((((gt t i).1.length:Nat):Int) - 1))) ?_
   cases hb:inB id 0 (i64.wrap ((((gt t i).1.length:Nat):Int) - 1))with
   | false=>rfl
   | true=>
    obtain⟨hk,e⟩:=oK (h2 i hi) hb
    have hp:(0:Int)<=id:=by omega
    refine qf ?_
    show _=rec (bif(i:Int)==0 then _ else bif decide ((gt (gt t i).1 id.toNat).1<jD t id i)then _ else _,_)
    cases h0:(i:Int)==0 with
    | true=>refine qt ?_;refine qP hp ?_;refine(bB hk).trans ?_;rfl
    | false=>
     refine qf ?_;refine qP hp ?_;refine(bB hk).trans ?_
     by_cases hc:(gt (gt t i).1 id.toNat).1<jD t id i
     ·refine qP hc ?_;refine qP hp ?_;refine(bB hk).trans ?_;rw[decide_eq_true hc];rfl
     ·refine qN hc ?_;rw[decide_eq_false hc];rfl
  ·unfold c354_3;dsimp only;refine qe ?_;rfl
 exact Ev.eq (fun aA=>by unfold T354;rfl) (lp.ev (i:=()) rfl)
theorem GS(s:aE)(t:List bK):Pos (eN s t):=((aM _).1 (pY s t)).pos
theorem f325(s:aE)(t:List bK)(hz:SzS s)(h1:t.length<=aQ)(h2:∀ i,i<t.length->(gt t i).1.length<=aQ):Ran p 5 325 [va K27 s, vf K34 (t,())] (rO K27 (prune s t)):=go325 fun n hn=>by
 cases hs:aN s with
 | false=>exact Ev.now fun aA=>by unfold T325;refine qC (f227 s (aV hz.a) (aV hz.b)) ?_;rw[hs];refine qt ?_;refine qC (f224 s hz) ?_;unfold prune;rw[hs];rfl
 | true=>
  have lp:It (fun aA (_:Unit)=>c325_5 (aI p n) aA s t) ((0:Int),([]:List aL)) (fun _=>rV K27 (prune s t)):=by
   refine It.accu (α:=aL) [] (fE s t) 5 1 (fun i _=>nV s t i) (fun i hi acc ha aA u rec=>?_) (It.stop fun aA u rec=>?_)
   ·show c325_5 (aI p n) aA s t rec ((i:Int),acc)=rec (((i+1:Nat):Int),acc++fE s t i)
    have hb:acc.length+1<=bound+(1 - (fE s t i).length):=by simp at ha;unfold bound;omega
    unfold c325_5 fE;dsimp only;rw[aD (show i<9223372036854775807 by omega)];refine qP (show(i:Int)<5 by omega) ?_;refine qC (f357 t (i:Int) h1 h2) ?_;refine qC (f316 s (i:Int) hz) ?_;refine qC (f256 (eH t i) (gone s i)) ?_
    by_cases h:mxI false (eH t i) (gone s i)>0
    ·refine qP h ?_;refine qP (by unfold fE at hb;rw[decide_eq_true h] at hb;exact hb) ?_;rw[decide_eq_true h];rfl
    ·refine qN h ?_;rw[decide_eq_false h];show rec _=rec _;rw[show(bif false then[((i:Int),mxI false (eH t i) (gone s i),())] else[])=([]:List aL)from rfl,List.append_nil];rfl
   ·unfold c325_5;dsimp only;refine qe ?_;refine qC (f260 s (eN s t) hz (wU s t) ((aM s).1 hs).pos (GS s t)) ?_;unfold prune;rw[hs];rfl
  exact Ev.eq (fun aA=>by unfold T325;refine qC (f227 s (aV hz.a) (aV hz.b)) ?_;rw[hs];rfl) (lp.ev (i:=()) rfl)
theorem f317(s:aE)(t:List bK)(hz:SzS s)(h1:t.length<=aQ)(h2:∀ i,i<t.length->(gt t i).1.length<=aQ):Ran p 6 317 [va K27 s, vf K34 (t,())] (rO K27 (prune s t)):=go317 fun n hn=>by
 cases hs:aN s with
 | false=>exact Ev.now fun aA=>by unfold T317;refine qC (f101 s (aV hz.a) (aV hz.b)) ?_;rw[hs];refine qt ?_;refine qC (f220 s hz) ?_;unfold prune;rw[hs];rfl
 | true=>
  have lp:It (fun aA (_:Unit)=>c317_5 (aI p n) aA s t) ((0:Int),([]:List aL)) (fun _=>rV K27 (prune s t)):=by
   refine It.accu (α:=aL) [] (fE s t) 5 1 (fun i _=>nV s t i) (fun i hi acc ha aA u rec=>?_) (It.stop fun aA u rec=>?_)
   ·show c317_5 (aI p n) aA s t rec ((i:Int),acc)=rec (((i+1:Nat):Int),acc++fE s t i)
    have hb:acc.length+1<=bound+(1 - (fE s t i).length):=by simp at ha;unfold bound;omega
    unfold c317_5 fE;dsimp only;rw[aD (show i<9223372036854775807 by omega)];refine qP (show(i:Int)<5 by omega) ?_;refine qC (f354 t (i:Int) h1 h2) ?_;refine qC (f311 s (i:Int) hz) ?_
    by_cases h:mxI false (eH t i) (gone s i)>0
    ·refine qP h ?_;refine qP (by unfold fE at hb;rw[decide_eq_true h] at hb;exact hb) ?_;rw[decide_eq_true h];rfl
    ·refine qN h ?_;rw[decide_eq_false h];show rec _=rec _;rw[show(bif false then[((i:Int),mxI false (eH t i) (gone s i),())] else[])=([]:List aL)from rfl,List.append_nil];rfl
   ·unfold c317_5;dsimp only;refine qe ?_;refine qC (f240 s (eN s t) hz (wU s t)) ?_;unfold prune;rw[hs];rfl
  exact Ev.eq (fun aA=>by unfold T317;refine qC (f101 s (aV hz.a) (aV hz.b)) ?_;rw[hs];rfl) (lp.ev (i:=()) rfl)
-- taking
theorem KJ{x:NodeT}(hz:SzN x)(s:aE):(tkS x s).length<=aQ/\∀ i,i<(tkS x s).length->(gt (tkS x s) i).1.length<=aQ:=⟨(mW hz s).seen,(mW hz s).lines⟩
structure TakeOk (x:NodeT):Prop where
 state:aN x.state=true
 rises:((x.rises.length:Int)==5)=true
theorem FN{x:NodeT}(h:NodeOk x):TakeOk x:=⟨h.state,h.rises⟩
theorem HN{x:NodeT}{s:aE}(h:TakeOk x)(hs:aN s=true){i:Nat}(hi:i<(tkP x s).1.length):0<=(gt (tkP x s).1 i).1/\(gt (tkP x s).1 i).1.toNat<(cN x.clock x.rises (tkP x s).1 i).length:=by
 have h1:=(((aM (tkP x s)).1 (yJ (tY h.state hs) (tkS x s))).item _ (c8 hi)).1
 unfold fO at h1;rw[bA] at h1
 have h2:=eq_of_beq h.rises
 rw[gP];omega
theorem DT(c:Int)(rs:List jN)(xs:List bL)(i:Nat):cN c rs xs (i+1)=bif oY (gt (cN c rs xs i) (gt xs i).1.toNat) (gt xs i).2 then(cN c rs xs i).set (gt xs i).1.toNat ((gt xs i).2.1,(gt xs i).2.2.2.1,c,())else cN c rs xs i:=by
 show(cN c rs xs i).set _ (mK c _ _)=_
 unfold mK
 cases oY (gt (cN c rs xs i) (gt xs i).1.toNat) (gt xs i).2 with
 | true=>rfl
 | false=>exact rU
theorem f254(x:NodeT)(s:aE)(hz:SzN x)(hs':SzS s)(h:TakeOk x)(hs:aN s=true):Ran p 7 254 [va K38 x, va K27 s] (rO K38 (iW x s)):=go254 fun n hn=>by
 have hj:=lL x.state s
 have ht:=KJ hz s
 have hp:=FL x s
 have lp:It (fun aA (_:Unit)=>c254_7 (aI p n) aA x ((x,()),()) (((tkS x s,()),()),()) ((tkP x s,()),()) ((cT (tkP x s),()),())) ((0:Int),x.rises) (fun _=>rV K38 (iW x s)):=by
  refine It.run (fun i=>((i:Int),cN x.clock x.rises (tkP x s).1 i)) (tkP x s).1.length (fun i hi aA u rec=>?_) (It.stop fun aA u rec=>?_)
  ·show c254_7 (aI p n) aA x ((x,()),()) (((tkS x s,()),()),()) ((tkP x s,()),()) ((cT (tkP x s),()),()) rec ((i:Int),cN x.clock x.rises (tkP x s).1 i)=rec (((i+1:Nat):Int),cN x.clock x.rises (tkP x s).1 (i+1))
   obtain⟨h0,hl⟩:=HN h hs hi
   unfold c254_7;dsimp only;rw[aD (i63 hi hp.a),DT];unfold oY;refine ql hi ?_;refine qz ?_;refine(aG hi).trans ?_;refine(aG hi).trans ?_;refine qP h0 ?_;refine(bB hl).trans ?_;refine(bB hl).trans ?_
   by_cases h1:(gt (tkP x s).1 i).2.1>(gt (cN x.clock x.rises (tkP x s).1 i) (gt (tkP x s).1 i).1.toNat).1
   ·refine qP h1 ?_;refine qP h0 ?_;refine(bB hl).trans ?_;refine(bB hl).trans ?_;rw[decide_eq_true h1];rfl
   ·refine qN h1 ?_;rw[decide_eq_false h1]
    cases h2:(gt (tkP x s).1 i).2.1==(gt (cN x.clock x.rises (tkP x s).1 i) (gt (tkP x s).1 i).1.toNat).1 with
    | false=>rfl
    | true=>
     refine qt ?_
     by_cases h3:(gt (tkP x s).1 i).2.2.2.1>(gt (cN x.clock x.rises (tkP x s).1 i) (gt (tkP x s).1 i).1.toNat).2.1
     ·refine qP h3 ?_;refine qP h0 ?_;refine(bB hl).trans ?_;refine(bB hl).trans ?_;rw[decide_eq_true h3];rfl
     ·refine qN h3 ?_;rw[decide_eq_false h3];rfl
  ·unfold c254_7;dsimp only;refine qe ?_;rfl
 exact Ev.eq (fun aA=>by
  unfold T254;refine qC (f85 x hz) ?_;refine qC (f260 x.state s hz.state hs' ((aM _).1 h.state).pos ((aM _).1 hs).pos) ?_;refine qC (f234 (cU x.state s) hj) ?_
  refine qC (f257 x.seen x.1 (dV (cU x.state s)) hz.seen hz.lines (Nat.le_trans (kA _) (by decide))) ?_;refine qC (f325 (cU x.state s) (tkS x s) hj ht.1 ht.2) ?_;refine qC (f228 (tkP x s) hp) ?_;rfl) (lp.ev (i:=()) rfl)
theorem f235(x:NodeT)(s:aE)(hz:SzN x)(hs':SzS s)(h:NodeOk x)(hs:aN s=true):Ran p 8 235 [va K38 x, va K27 s] ⟨[⟨K38,iW x s⟩,⟨K4,(true,())⟩],[]⟩:=go235 fun n hn=>by
 have hj:=lL x.state s
 have ht:=KJ hz s
 have hp:=FL x s
 have lp:It (fun aA (_:Unit)=>c235_9 (aI p n) aA x ((x,()),()) (((tkS x s,()),()),()) ((tkP x s,()),()) ((cT (tkP x s),()),())) ((0:Int),x.rises) (fun _=>some ⟨[⟨K38,iW x s⟩,⟨K4,(true,())⟩],[]⟩):=by
  refine It.run (fun i=>((i:Int),cN x.clock x.rises (tkP x s).1 i)) (tkP x s).1.length (fun i hi aA u rec=>?_) (It.stop fun aA u rec=>?_)
  ·show c235_9 (aI p n) aA x ((x,()),()) (((tkS x s,()),()),()) ((tkP x s,()),()) ((cT (tkP x s),()),()) rec ((i:Int),cN x.clock x.rises (tkP x s).1 i)=rec (((i+1:Nat):Int),cN x.clock x.rises (tkP x s).1 (i+1))
   obtain⟨h0,hl⟩:=HN (FN h) hs hi
   unfold c235_9;dsimp only;rw[aD (i63 hi hp.a),DT];unfold oY;refine ql hi ?_;refine qz ?_;refine(aG hi).trans ?_;refine(aG hi).trans ?_;refine qP h0 ?_;refine(bB hl).trans ?_;refine(bB hl).trans ?_
   by_cases h1:(gt (tkP x s).1 i).2.1>(gt (cN x.clock x.rises (tkP x s).1 i) (gt (tkP x s).1 i).1.toNat).1
   ·refine qP h1 ?_;refine(bB hl).trans ?_;rw[decide_eq_true h1];rfl
   ·refine qN h1 ?_;refine(bB hl).trans ?_;rw[decide_eq_false h1]
    cases h2:(gt (tkP x s).1 i).2.1==(gt (cN x.clock x.rises (tkP x s).1 i) (gt (tkP x s).1 i).1.toNat).1 with
    | false=>rfl
    | true=>
     refine qt ?_;refine(bB hl).trans ?_
     by_cases h3:(gt (tkP x s).1 i).2.2.2.1>(gt (cN x.clock x.rises (tkP x s).1 i) (gt (tkP x s).1 i).1.toNat).2.1
     ·refine qP h3 ?_;refine(bB hl).trans ?_;rw[decide_eq_true h3];rfl
     ·refine qN h3 ?_;rw[decide_eq_false h3];rfl
  ·unfold c235_9;dsimp only;refine qe ?_;rfl
 exact Ev.eq (fun aA=>by
  unfold T235;refine qC (f81 x hz) ?_;refine qC (f23 x hz) ?_;rw[(sC x).2 h];refine qf ?_;refine qC (f101 s (aV hs'.a) (aV hs'.b)) ?_;rw[hs];refine qf ?_;refine qC (f240 x.state s hz.state hs') ?_;refine qC (f223 (cU x.state s) hj) ?_
  refine qC (f237 x.seen x.1 (dV (cU x.state s)) hz.seen hz.lines (Nat.le_trans (kA _) (by decide))) ?_;refine qC (f317 (cU x.state s) (tkS x s) hj ht.1 ht.2) ?_;refine qC (f103 (tkP x s) hp) ?_;rfl) (lp.ev (i:=()) rfl)
end Go.Abs.Xz
namespace Go.Abs.Xz
open Go Go.Abs
theorem f252(v:List aH)(a b:Int)(hv:v.length<=aQ):Ran p 2 252 [vf K28 (v,()), vf K3 (a,()), vf K3 (b,())] (rO K4 (pA v a b,())):=go252 fun n hn=>by
 by_cases h:(v.length:Int)>a
 ·exact Ev.now fun aA=>by unfold T252 pA;rw[decide_eq_true h];exact cB h
 ·have lp:It (fun aA (_:Unit)=>c252_4 (aI p n) aA v b) (0:Int) (fun _=>oB (j7 v b)):=by
   refine d7 (It.allB v.length (fun i=>inB (gt v i).1 0 b) true (fun i hi aA u rec=>?_) (It.stop fun aA u rec=>?_))
   ·unfold c252_4;rw[aD (i63 hi hv)];refine ql hi ?_;refine qz ?_;refine(aG hi).trans ?_;refine qC (f211 (gt v i).1 0 b) ?_;exact fin
   ·unfold c252_4;refine qe ?_;rfl
  have e:pA v a b=j7 v b:=by unfold pA;rw[decide_eq_false h];rfl
  rw[e]
  exact Ev.eq (fun aA=>by unfold T252;exact aW h) (lp.ev (i:=()) rfl)
theorem f251(t:kH)(ht:t.1.length<=aQ):Ran p 3 251 [va K30 t] (rO K4 (treeB t,())):=go251 fun n hn=>Ev.now fun aA=>by
 unfold T251 treeB
 cases h0:(t.1.length:Int)==0 with
 | true=>exact jU h0
 | false=>
  refine qF h0 ?_
  cases h4:(t.1.length:Int)==4 with
  | false=>exact dH h4
  | true=>
   refine qT h4 ?_;refine qC (f252 t.1 4 1023 ht) ?_
   have e:pA t.1 4 1023=j7 t.1 1023:=by unfold pA;rw[decide_eq_false (by have:=eq_of_beq h4;omega)];rfl
   rw[e]
   cases j7 t.1 1023 with
   | false=>rfl
   | true=>refine qt ?_;refine qC (f211 t.2.1 0 1023) ?_;rfl
theorem f124(t:kH)(ht:t.1.length<=aQ):Ran p 2 124 [va K30 t] (rO K4 (treeB t,())):=go124 fun n hn=>by
 cases h0:(t.1.length:Int)==0 with
 | true=>exact Ev.now fun aA=>by unfold T124 treeB;rw[h0];exact jU h0
 | false=>
  have lp:It (fun aA (_:Unit)=>c124_4 (aI p n) aA t) (0:Int) (fun _=>oB (j7 t.1 1023&&((t.1.length:Int)==4&&inB t.2.1 0 1023))):=by
   refine It.allB t.1.length (fun i=>inB (gt t.1 i).1 0 1023) _ (fun i hi aA u rec=>?_) (It.stop fun aA u rec=>?_)
   ·unfold c124_4;rw[aD (i63 hi ht)];refine ql hi ?_;refine qz ?_;refine(aG hi).trans ?_;refine qC (f100 (gt t.1 i).1 0 1023) ?_;exact fin
   ·unfold c124_4;refine qe ?_
    cases h4:(t.1.length:Int)==4 with
    | false=>exact dH h4
    | true=>refine qT h4 ?_;refine qC (f100 t.2.1 0 1023) ?_;rfl
  have e:treeB t=(j7 t.1 1023&&((t.1.length:Int)==4&&inB t.2.1 0 1023)):=by unfold treeB;rw[h0];show(_&&(_&&_))=_;ac_rfl
  rw[e]
  exact Ev.eq (fun aA=>by unfold T124;exact dH h0) (lp.ev (i:=()) rfl)
theorem f113(m:MsgT)(hz:SzM m):Ran p 4 113 [va K43 m] (rO K4 (dQ m,())):=go113 fun n hn=>by
 have lp:It (fun aA (_:Unit)=>c113_6 (aI p n) aA m) (1:Int) (fun _=>oB (cE (m.leaves.length - 1) (EK m.leaves))):=by
  have:=It.all (c:=fun aA (_:Unit)=>c113_6 (aI p n) aA m) (rA:=fun _=>oB true) (rB:=fun _=>oB false) (fun i=>(((i+1:Nat)):Int)) (m.leaves.length - 1) (EK m.leaves) (fun i hi aA u rec=>by
   have hi1:i+1<m.leaves.length:=by omega
   have hl:=hz.list
   unfold c113_6;rw[aD (i63 hi1 hl)];refine ql hi1 ?_;refine qz ?_;refine(aG hi1).trans ?_;rw[iX (i63 hi1 hl) (by omega)];refine qz ?_;refine(aG (show i<m.leaves.length by omega)).trans ?_;exact C3) (It.stop fun aA u rec=>by
   unfold c113_6;refine qN (show ¬ (((m.leaves.length - 1+1:Nat)):Int)<(m.leaves.length:Int) by omega) ?_;rfl)
  refine cast ?_ this
  congr 1;funext u;exact P8
 rw[<- HV]
 have key:∃ N,∀ aA,N<=aA->T113 (aI p n) aA m=oB (yP m):=by
  obtain⟨N,hN⟩:=lp.all_i
  refine⟨N,fun aA hf=>?_⟩
  unfold T113 yP
  refine qC (f211 m.1 0 5) ?_;refine eR fun _=>?_;refine qC (f250 m.2.1) ?_;refine eR fun _=>?_;refine qC (f250 m.2.2.1) ?_;refine eR fun _=>?_;refine BR fun _=>?_;refine qC (f211 m.2.2.2.1 0 100000) ?_;refine eR fun _=>?_;refine qC (f211 m.hi 0 100000) ?_;refine eR fun _=>?_
  refine qC (f251 m.tree hz.leaves) ?_;refine eR fun _=>?_;refine qC (f252 m.vec 5 100000 hz.vec) ?_;refine eR fun _=>?_;refine qC (f252 m.leaves 4 3 hz.list) ?_;refine eR fun _=>?_;refine qC (f227 m.part (aV hz.part.a) (aV hz.part.b)) ?_;refine eR fun _=>?_;refine qC (f253 m.marks (aV hz.marks)) ?_;refine eR fun _=>?_
  exact hN aA hf ()
 exact key
theorem f30(m:MsgT)(hz:SzM m):Ran p 4 30 [va K43 m] (rO K4 (dQ m,())):=go30 fun n hn=>by
 have inner:It (fun aA (_:Unit)=>c30_10 (aI p n) aA m) (0:Int) (fun _=>oB (j7 m.vec 100000&&(inB m.2.2.2.1 0 100000&&(inB m.hi 0 100000&&(treeB m.tree&&(decide ((m.vec.length:Int)<=5)&&(aN m.part&&d5 m.marks))))))):=by
  refine It.allB m.vec.length (fun i=>inB (gt m.vec i).1 0 100000) _ (fun i hi aA u rec=>?_) (It.stop fun aA u rec=>?_)
  ·unfold c30_10;rw[aD (i63 hi hz.vec)];refine ql hi ?_;refine qz ?_;refine(aG hi).trans ?_;refine qC (f100 (gt m.vec i).1 0 100000) ?_;exact fin
  ·unfold c30_10;refine qe ?_;refine qC (f100 m.2.2.2.1 0 100000) ?_;refine fL fun _=>?_;refine qC (f100 m.hi 0 100000) ?_;refine fL fun _=>?_;refine qC (f124 m.tree hz.leaves) ?_;refine fL fun _=>?_;refine fL fun _=>?_;refine qC (f101 m.part (aV hz.part.a) (aV hz.part.b)) ?_;refine fL fun _=>?_;refine qC (f125 m.marks (aV hz.marks)) ?_;rfl
 have lp:It (fun aA (_:Unit)=>c30_4 (aI p n) aA m) (0:Int) (fun _=>oB (cE m.leaves.length (wO m.leaves)&&(j7 m.vec 100000&&(inB m.2.2.2.1 0 100000&&(inB m.hi 0 100000&&(treeB m.tree&&(decide ((m.vec.length:Int)<=5)&&(aN m.part&&d5 m.marks)))))))):=by
  refine It.allB m.leaves.length (wO m.leaves) _ (fun i hi aA u rec=>?_) (It.stopE (T:=fun aA _=>iter (c30_10 (aI p n) aA m) aA (0:Int)) (fun aA u rec=>?_) inner.all_i)
  ·have hl:=hz.list
   unfold c30_4 wO;rw[aD (i63 hi hl)];refine ql hi ?_;refine qz ?_;refine(aG hi).trans ?_;refine qC (f100 (gt m.leaves i).1 0 3) ?_;refine chk fun _=>?_
   cases i with
   | zero=>refine qN (by decide) ?_;rfl
   | succ j=>refine qP (by omega) ?_;rw[iX (i63 hi hl) (by omega)];refine qz ?_;refine(aG (show j<m.leaves.length by omega)).trans ?_;exact C3
  ·unfold c30_4;refine qe ?_;rfl
 have key:∃ N,∀ aA,N<=aA->T30 (aI p n) aA m=oB (dQ m):=by
  obtain⟨N,hN⟩:=lp.all_i
  refine⟨N,fun aA hf=>?_⟩
  unfold T30 dQ oD
  rw[Bool.and_assoc,Bool.and_assoc,Bool.and_assoc]
  refine qC (f100 m.1 0 5) ?_;refine eR fun _=>?_;refine qC (f123 m.2.1) ?_;refine eR fun _=>?_;refine qC (f123 m.2.2.1) ?_;refine eR fun _=>?_;refine BR fun _=>?_
  exact hN aA hf ()
 exact key
-- what is shipped
theorem x8{n:Nat}{seq:Int}{l:mV}(h:fR l seq=true):i64.wrap (seq - l.2.1)=((cW l seq:Nat):Int):=by
 have:=tE h;rw[IntKind.wrap_i64];omega
theorem f326(l:mV)(seq:Int)(hl:l.2.2.1.length<=aQ)(hs:∀ i,i<l.2.2.1.length->SzS (gt l.2.2.1 i)):Ran p 5 326 [va K33 l, vf K3 (seq,())] ⟨[⟨K27,gT l seq⟩,⟨K4,(fR l seq,())⟩],[]⟩:=go326 fun n hn=>by
 cases hb:fR l seq with
 | false=>
  exact Ev.now fun aA=>by
   unfold T326 gT;rw[hb];refine qC (f229 l hl hs) ?_
   cases h1:iC l with
   | false=>rfl
   | true=>refine qf ?_;refine qC (f211 seq l.2.1 (i64.wrap (l.2.1+(l.2.2.1.length:Int)))) ?_;unfold fR at hb;rw[h1] at hb;rw[show inB seq l.2.1 (i64.wrap (l.2.1+(l.2.2.1.length:Int)))=false from hb];rfl
 | true=>
  have hk:=tE hb
  have hb':=hb
  unfold fR at hb';rw[Bool.and_eq_true] at hb'
  have lp:It (fun aA (_:Unit)=>c326_5 (aI p n) aA l) (((cW l seq:Nat):Int),([]:List bL),([]:List aL)) (fun _=>some ⟨[⟨K27,gT l seq⟩,⟨K4,(true,())⟩],[]⟩):=by
   refine It.run (fun i=>(((cW l seq+i:Nat):Int),(fC l.2.2.1 (cW l seq) i).1,(fC l.2.2.1 (cW l seq) i).2.1)) (l.2.2.1.length - cW l seq) (fun i hi aA u rec=>?_) (It.stop fun aA u rec=>?_)
   ·have hi1:cW l seq+i<l.2.2.1.length:=by omega
    have o1:=(aM _).1 (rT hb'.1 (cW l seq) i (by omega))
    have o2:=(aM _).1 (show aN (gt l.2.2.1 (cW l seq+i))=true by have h1:=hb'.1;unfold iC at h1;simp only[Bool.and_eq_true] at h1;exact bZ.1 h1.2.2.2.2 _ hi1)
    unfold c326_5;dsimp only;rw[aD (i63 hi1 hl)];refine ql hi1 ?_;refine qz ?_;refine(aG hi1).trans ?_;refine qC (f260 (fC l.2.2.1 (cW l seq) i) (gt l.2.2.1 (cW l seq+i)) (rS _ _ _) (hs _ hi1) o1.pos o2.pos) ?_;rfl
   ·unfold c326_5;dsimp only;refine qN (show ¬ ((cW l seq+(l.2.2.1.length - cW l seq):Nat):Int)<(l.2.2.1.length:Int) by omega) ?_;unfold gT;rw[hb];rfl
  exact Ev.eq (fun aA=>by unfold T326;refine qC (f229 l hl hs) ?_;rw[hb'.1];refine qf ?_;refine qC (f211 seq l.2.1 (i64.wrap (l.2.1+(l.2.2.1.length:Int)))) ?_;rw[hb'.2];refine qf ?_;rw[x8 (n:=0) hb];rfl) (lp.ev (i:=()) rfl)
theorem f318(l:mV)(seq:Int)(hl:l.2.2.1.length<=aQ)(hs:∀ i,i<l.2.2.1.length->SzS (gt l.2.2.1 i)):Ran p 6 318 [va K33 l, vf K3 (seq,())] ⟨[⟨K27,gT l seq⟩,⟨K4,(fR l seq,())⟩],[]⟩:=go318 fun n hn=>by
 have hq:iC l=true->dZ l=i64.wrap (l.2.1+(l.2.2.1.length:Int)):=fun h=>by unfold dZ;rw[h];rfl
 cases hb:fR l seq with
 | false=>
  exact Ev.now fun aA=>by
   unfold T318 gT;rw[hb];refine qC (f105 l hl hs) ?_
   cases h1:iC l with
   | false=>rfl
   | true=>refine qf ?_;refine qC (f104 l hl hs) ?_;rw[hq h1];refine qC (f100 seq l.2.1 (i64.wrap (l.2.1+(l.2.2.1.length:Int)))) ?_;unfold fR at hb;rw[h1] at hb;rw[show inB seq l.2.1 (i64.wrap (l.2.1+(l.2.2.1.length:Int)))=false from hb];rfl
 | true=>
  have hk:=tE hb
  have hb':=hb
  unfold fR at hb';rw[Bool.and_eq_true] at hb'
  have hw:=x8 (n:=0) hb
  have e:((l.2.2.1.take l.2.2.1.length).drop ((i64.wrap (seq - l.2.1))).toNat)=l.2.2.1.drop (cW l seq):=by rw[hw,List.take_length];rfl
  have lp:It (fun aA (_:Unit)=>c318_5 (aI p n) aA l seq) ((0:Int),([]:List bL),([]:List aL)) (fun _=>some ⟨[⟨K27,gT l seq⟩,⟨K4,(true,())⟩],[]⟩):=by
   refine It.run (fun i=>((i:Int),(fC l.2.2.1 (cW l seq) i).1,(fC l.2.2.1 (cW l seq) i).2.1)) (l.2.2.1.length - cW l seq) (fun i hi aA u rec=>?_) (It.stop fun aA u rec=>?_)
   ·have hi1:cW l seq+i<l.2.2.1.length:=by omega
    have hi2:i<((l.2.2.1.take l.2.2.1.length).drop ((i64.wrap (seq - l.2.1))).toNat).length:=by rw[e,List.length_drop];omega
    have hg:gt ((l.2.2.1.take l.2.2.1.length).drop ((i64.wrap (seq - l.2.1))).toNat) i=gt l.2.2.1 (cW l seq+i):=by
     rw[e,d8 (by rw[List.length_drop];omega),d8 hi1,List.getElem_drop]
    have hj:fC l.2.2.1 (cW l seq) (i+1)=cU (fC l.2.2.1 (cW l seq) i) (gt ((l.2.2.1.take l.2.2.1.length).drop ((i64.wrap (seq - l.2.1))).toNat) i):=by rw[hg];rfl
    have hz2:=hs _ hi1
    rw[<- hg] at hz2
    show c318_5 (aI p n) aA l seq rec ((i:Int),(fC l.2.2.1 (cW l seq) i).1,(fC l.2.2.1 (cW l seq) i).2.1)=rec (((i+1:Nat):Int),(fC l.2.2.1 (cW l seq) (i+1)).1,(fC l.2.2.1 (cW l seq) (i+1)).2.1)
    rw[hj];unfold c318_5;dsimp only;rw[aD (show i<9223372036854775807 by have:=i63 hi1 hl;omega)];refine ql hi2 ?_;refine qz ?_;refine(aG hi2).trans ?_;refine qC (f240 (fC l.2.2.1 (cW l seq) i) _ (rS _ _ _) hz2) ?_;rfl
   ·unfold c318_5;dsimp only;refine qN (show ¬ ((l.2.2.1.length - cW l seq:Nat):Int)<((((l.2.2.1.take l.2.2.1.length).drop ((i64.wrap (seq - l.2.1))).toNat).length:Nat):Int) by rw[e,List.length_drop];omega) ?_;unfold gT;rw[hb];rfl
  exact Ev.eq (fun aA=>by unfold T318;refine qC (f105 l hl hs) ?_;rw[hb'.1];refine qf ?_;refine qC (f104 l hl hs) ?_;rw[hq hb'.1];refine qC (f100 seq l.2.1 (i64.wrap (l.2.1+(l.2.2.1.length:Int)))) ?_;rw[hb'.2];refine qf ?_;exact zQ (show(0:Int)<=i64.wrap (seq - l.2.1) by rw[hw];omega) (show i64.wrap (seq - l.2.1)<=(l.2.2.1.length:Int) by rw[hw];omega)) (lp.ev (i:=()) rfl)
theorem f259(x:NodeT)(seq:Int)(hz:SzN x):Ran p 6 259 [va K38 x, vf K3 (seq,())] ⟨[⟨K27,pI x seq⟩,⟨K4,(fR x.log seq,())⟩],[]⟩:=go259 fun n hn=>Ev.now fun aA=>by
 unfold T259 pI;refine qD (f326 x.log seq hz.list hz.logs) ?_
 cases fR x.log seq with
 | true=>rfl
 | false=>refine qf ?_;refine qC (f224 x.state hz.state) ?_;rfl
theorem f239(x:NodeT)(seq:Int)(hz:SzN x)(h:NodeOk x):Ran p 8 239 [va K38 x, vf K3 (seq,())] ⟨[⟨K27,pI x seq⟩,⟨K4,(fR x.log seq,())⟩],[]⟩:=go239 fun n hn=>Ev.now fun aA=>by
 unfold T239 pI;refine qC (f23 x hz) ?_;rw[(sC x).2 h];refine qf ?_;refine qD (f318 x.log seq hz.list hz.logs) ?_
 cases fR x.log seq with
 | true=>rfl
 | false=>refine qt ?_;refine qC (f220 x.state hz.state) ?_;rfl
theorem DM{s:aE}(h:aN s=true):s.1.length<=1000/\s.2.1.length<=1000:=by have:=((aM s).1 h).len;omega
theorem f119(x:NodeT)(ls:List aH)(seq:Int)(hz:SzN x)(h:NodeOk x)(hl:ls.length<=aQ):Ran p 7 119 [va K38 x, vf K28 (ls,()), vf K3 (seq,())] (rO K27 (AZ x ls seq)):=go119 fun n hn=>Ev.now fun aA=>by
 have hm:=DM h.state
 unfold T119;refine qD (f259 x seq hz) ?_;refine qC (f261 x.state ls (aV hl) hm.1 hm.2) ?_;refine qC (f260 (iT x.state ls) (pI x seq) (DP hz.state ls) (DQ hz seq) ((aM _).1 (KU h.state ls)).pos ((aM _).1 (KW h seq)).pos) ?_;rfl
theorem f99(x:NodeT)(ls:List aH)(m:MsgT)(hz:SzN x)(h:NodeOk x)(hl:ls.length<=aQ)(h0:0<=x.1)(hv:x.1.toNat<m.vec.length):Ran p 9 99 [va K38 x, vf K28 (ls,()), va K43 m] (rO K27 (AZ x ls (gt m.vec x.1.toNat).1)):=go99 fun n hn=>Ev.now fun aA=>by
 have hm:=DM h.state
 unfold T99;refine qP h0 ?_;refine(bB hv).trans ?_;refine qD (f239 x (gt m.vec x.1.toNat).1 hz h) ?_;refine qC (f241 x.state ls (aV hl) hm.1 hm.2 h.state) ?_;refine qC (f240 (iT x.state ls) (pI x (gt m.vec x.1.toNat).1) (DP hz.state ls) (DQ hz _)) ?_;rfl
end Go.Abs.Xz
set_option maxHeartbeats 2000000
namespace Go.Abs.Xz
open Go Go.Abs
theorem BB(ls:List aH):(aF (ls.length:Int)++bQ ls.length fun i=>aF (gt ls i).1)=cX ls:=by
 unfold cX cS;rw[cI (fun x:aH=>aF x.1) ls]
theorem f139(ls:List aH)(hl:ls.length<=100):Ran p 3 139 [vf K28 (ls,())] (rO K22 (cX ls,())):=go139 fun n hn=>by
 have hp:=aZ (ls.length:Int)
 have lp:It (fun aA (_:Unit)=>c139_3 (aI p n) aA ls) ((0:Int),aF (ls.length:Int)) (fun _=>oL (cX ls)):=by
  refine It.accu (α:=aH) (aF (ls.length:Int)) (fun i=>aF (gt ls i).1) ls.length 5 (fun i hi=>aZ _) (fun i hi acc ha aA a rec=>?_) (It.stop fun aA a rec=>?_)
  ·unfold c139_3;dsimp only;rw[aD (show i<9223372036854775807 by omega)];refine ql hi ?_;refine qz ?_;refine(aG hi).trans ?_;refine qC (f138 (gt ls i).1) ?_
   refine qC (f137 [(acc,()),(aF (gt ls i).1,())] 2000 (j6 (by
    intro r hr;simp only[List.mem_cons,List.not_mem_nil,or_false] at hr
    rcases hr with rfl | rfl
    ·show acc.length<=2000;omega
    ·exact dB (by decide))) (by show 2*2000<=4294967296;omega) (by show 2<=9223372036854775807;omega)) ?_
   exact congrArg (fun l:List aH=>rec (((i+1:Nat):Int),l)) (by simp:List.flatMap (fun r:bK=>r.1) [(acc,()),(aF (gt ls i).1,())]=acc++aF (gt ls i).1)
  ·unfold c139_3;refine qe ?_;exact congrArg oL (BB ls)
 exact Ev.eq (fun aA=>by unfold T139;refine qC (f138 (ls.length:Int)) ?_;rfl) (lp.ev (i:=()) rfl)
theorem f332(ls:List aH)(hl:ls.length<=100):Ran p 3 332 [vf K28 (ls,())] (rO K22 (cX ls,())):=go332 fun n hn=>by
 have hp:=aZ (ls.length:Int)
 have lp:It (fun aA (_:Unit)=>c332_3 (aI p n) aA ls) ((0:Int),aF (ls.length:Int)) (fun _=>oL (cX ls)):=by
  refine It.accu (α:=aH) (aF (ls.length:Int)) (fun i=>aF (gt ls i).1) ls.length 5 (fun i hi=>aZ _) (fun i hi acc ha aA a rec=>?_) (It.stop fun aA a rec=>?_)
  ·replace ha:acc.length+(aF (gt ls i).1).length<=(aF (ls.length:Int)).length+ls.length*5:=ha
   unfold c332_3;dsimp only;rw[aD (show i<9223372036854775807 by omega)];refine ql hi ?_;refine qz ?_;refine(aG hi).trans ?_;refine qC (f331 (gt ls i).1) ?_;refine qP (by show acc.length+(aF (gt ls i).1).length<=4294967296;omega) ?_;rfl
  ·unfold c332_3;refine qe ?_;exact congrArg oL (BB ls)
 exact Ev.eq (fun aA=>by unfold T332;refine qC (f331 (ls.length:Int)) ?_;rfl) (lp.ev (i:=()) rfl)
theorem f140(b:List aH)(hb:ByL b)(hl:b.length<=aQ):Ran p 2 140 [vf K22 (b,())] (rO K22 (rP b,())):=go140 fun n hn=>Ev.now fun aA=>by
 have h:=GY hb
 unfold T140;refine qC (f272 b (Nat.le_trans hl (by decide))) ?_;refine qN (by decide) ?_;refine qN (by decide) ?_;refine qN (by decide) ?_;exact congrArg oL (KP h.2 h.1)
theorem f265(b:List aH)(hb:ByL b)(hl:b.length<=aQ):Ran p 2 265 [vf K22 (b,())] (rO K22 (rP b,())):=go265 fun n hn=>Ev.now fun aA=>by
 have h:=GY hb
 unfold T265;refine qC (f334 b (Nat.le_trans hl (by decide))) ?_;refine qN (by decide) ?_;refine qN (by decide) ?_;refine qN (by decide) ?_;refine qN (by decide) ?_;refine qN (by decide) ?_;refine qN (by decide) ?_;exact congrArg oL (KO h.2 h.1)
-- the body of a message, as both write it
def nK(m:MsgT):List aH:=rk2++cS (fB m)++cX m.tree.1++aF m.tree.2.1++cX m.vec++cX m.leaves++aF (((bI m.part).length:Nat):Int)
theorem E9(m:MsgT):nK m++bI m.part++aF (m.marks.length:Int)++m.marks.flatMap aX=dX m:=by
 unfold nK dX rD;simp only[List.append_assoc]
structure BodyL (m:MsgT):Prop where
 h5:(cS (fB m)).length<=25
 a:(cX m.tree.1).length<=25
 b:(aF m.tree.2.1).length<=5
 c:(cX m.vec).length<=30
 d:(cX m.leaves).length<=25
 e:(aF (((bI m.part).length:Nat):Int)).length<=5
 f:(bI m.part).length<=250
 g:(aF (m.marks.length:Int)).length<=5
 k:m.marks.length<=5
theorem u9(ls:List aH):(cX ls).length<=5+ls.length*5:=by
 have h1:=aZ (ls.length:Int);have h2:=kZ ls
 unfold cX;rw[List.length_append];omega
theorem PQ{m:MsgT}(h:MsgR m):BodyL m:=by
 have h1:=u9 m.tree.1;have h2:=u9 m.vec;have h3:=u9 m.leaves
 have l1:=h.tree.1;have l2:=h.vec.1;have l3:=h.leaves.1
 exact⟨kZ (fB m),by omega,aZ _,by omega,by omega,aZ _,nJ ((aM _).1 h.part),aZ _,h.marks.1⟩
theorem f264(m:MsgT)(h:dQ m=true):Ran p 5 264 [va K43 m] (rO K22 (dX m,())):=go264 fun n hn=>by
 have hr:=oC h
 have L:=PQ hr
 have l1:=L.h5;have l2:=L.a;have l3:=L.b;have l4:=L.c;have l5:=L.d;have l6:=L.e;have l7:=L.f;have l8:=L.g;have l9:=L.k
 have t1:=hr.tree.1;have t2:=hr.vec.1;have t3:=hr.leaves.1
 have l0:rk2.length=2:=rfl
 have hok:StateOk m.part:=(aM _).1 hr.part
 have mk:∀ pre:List aH,pre.length<=1000->It (fun aA (_:Unit)=>c264_16 (aI p n) aA m) ((0:Int),pre) (fun _=>oL (pre++m.marks.flatMap aX)):=by
  intro pre hp
  refine It.accu (α:=aH) pre (fun i=>aX (gt m.marks i)) m.marks.length 10 (fun i hi=>fH _) (fun i hi acc ha aA a rec=>?_) (It.stop fun aA a rec=>?_)
  ·have ha':acc.length+(aX (gt m.marks i)).length<=1050:=by omega
   unfold aX at ha';rw[List.length_append] at ha'
   unfold c264_16;dsimp only;rw[aD (show i<9223372036854775807 by omega)];refine ql hi ?_;refine qz ?_;refine(aG hi).trans ?_;refine qC (f331 (gt m.marks i).1) ?_;refine qP (by show acc.length+(aF (gt m.marks i).1).length<=4294967296;omega) ?_;refine qz ?_;refine(aG hi).trans ?_;refine qC (f331 (gt m.marks i).2.1) ?_
   refine qP (by show(acc++aF (gt m.marks i).1).length+(aF (gt m.marks i).2.1).length<=4294967296;rw[List.length_append];omega) ?_
   exact congrArg (fun l:List aH=>rec (((i+1:Nat):Int),l)) (List.append_assoc _ _ _)
  ·unfold c264_16;refine qe ?_;exact congrArg (fun l:List aH=>oL (pre++l)) (cI aX m.marks)
 have body0:=mk (nK m++bI m.part++aF (m.marks.length:Int)) (by unfold nK;simp only[List.length_append];dsimp only[MsgT.tree] at*;omega)
 rw[E9] at body0
 have lp:It (fun aA (_:Unit)=>c264_4 (aI p n) aA m) ((0:Int),rk2) (fun _=>oL (dX m)):=by
  refine It.accu (α:=aH) rk2 (fun i=>aF (gt (fB m) i).1) 5 5 (fun i hi=>aZ _) (fun i hi acc ha aA a rec=>?_)
   (It.stopE (T:=fun aA _=>iter (c264_16 (aI p n) aA m) aA ((0:Int),nK m++bI m.part++aF (m.marks.length:Int))) (fun aA a rec=>?_) body0.all_i)
  ·replace ha:acc.length+(aF (gt (fB m) i).1).length<=2+5*5:=ha
   have hi5:i<(fB m).length:=hi
   unfold c264_4;dsimp only;rw[aD (show i<9223372036854775807 by omega)];refine ql hi5 ?_;refine qz ?_;refine(aG hi5).trans ?_;refine(aG hi5).trans ?_;refine qC (f331 (gt (fB m) i).1) ?_;refine qP (by show acc.length+(aF (gt (fB m) i).1).length<=4294967296;omega) ?_;rfl
  ·have e0:(rk2++bQ 5 fun i=>aF (gt (fB m) i).1)=rk2++cS (fB m):=congrArg (fun l=>rk2++l) (cI (fun x:aH=>aF x.1) (fB m))
   show c264_4 (aI p n) aA m rec (((5:Nat):Int),rk2++bQ 5 fun i=>aF (gt (fB m) i).1)=_
   rw[e0]
   have b1:(rk2++cS (fB m)).length+(cX m.tree.1).length<=bound:=by unfold bound;simp only[List.length_append];dsimp only[MsgT.tree] at*;omega
   have b2:(rk2++cS (fB m)++cX m.tree.1).length+(aF m.tree.2.1).length<=bound:=by unfold bound;simp only[List.length_append];dsimp only[MsgT.tree] at*;omega
   have b3:(rk2++cS (fB m)++cX m.tree.1++aF m.tree.2.1).length+(cX m.vec).length<=bound:=by unfold bound;simp only[List.length_append];dsimp only[MsgT.tree] at*;omega
   have b4:(rk2++cS (fB m)++cX m.tree.1++aF m.tree.2.1++cX m.vec).length+(cX m.leaves).length<=bound:=by unfold bound;simp only[List.length_append];dsimp only[MsgT.tree] at*;omega
   have b5:(rk2++cS (fB m)++cX m.tree.1++aF m.tree.2.1++cX m.vec++cX m.leaves).length+(aF (((bI m.part).length:Nat):Int)).length<=bound:=by unfold bound;simp only[List.length_append];dsimp only[MsgT.tree] at*;omega
   have b6:(nK m).length+(bI m.part).length<=bound:=by unfold bound nK;simp only[List.length_append];dsimp only[MsgT.tree] at*;omega
   have b7:(nK m++bI m.part).length+(aF (m.marks.length:Int)).length<=bound:=by unfold bound nK;simp only[List.length_append];dsimp only[MsgT.tree] at*;omega
   unfold c264_4;dsimp only;refine qN (show ¬ ((5:Int)<5) by decide) ?_;refine qC (f332 m.tree.1 (by omega)) ?_;refine qP b1 ?_;refine qC (f331 m.tree.2.1) ?_;refine qP b2 ?_;refine qC (f332 m.vec (by omega)) ?_;refine qP b3 ?_;refine qC (f332 m.leaves (by omega)) ?_;refine qP b4 ?_;refine qC (f333 m.part hok) ?_;refine qC (f331 (((bI m.part).length:Nat):Int)) ?_;refine qP b5 ?_;refine qP b6 ?_;refine qC (f331 (m.marks.length:Int)) ?_;refine qP b7 ?_;rfl
 exact Ev.eq (fun aA=>by unfold T264;rfl) (lp.ev (i:=()) rfl)
theorem wM{m:MsgT}(h:dQ m=false):bE m=[]:=by unfold bE;rw[h];rfl
theorem f127(m:MsgT)(hz:SzM m):Ran p 6 127 [va K43 m] (rO K22 (bE m,())):=go127 fun n hn=>Ev.now fun aA=>by
 unfold T127;refine qC (f113 m hz) ?_
 cases h:dQ m with
 | false=>refine qt ?_;rw[wM h];rfl
 | true=>
  have hl:=zP (oC h)
  have hb:(dX m).length+(rP (dX m)).length<=bound:=by rw[tC];unfold bound;omega
  rw[mB h];refine qf ?_;refine qC (f264 m h) ?_;refine qC (f265 (dX m) (uH m) (Nat.le_trans hl (by decide))) ?_;refine qP hb ?_;rfl
theorem f36(m:MsgT)(hz:SzM m):Ran p 5 36 [va K43 m] (rO K22 (bE m,())):=go36 fun n hn=>by
 cases h:dQ m with
 | false=>exact Ev.now fun aA=>by unfold T36;refine qC (f30 m hz) ?_;rw[h];refine qt ?_;rw[wM h];rfl
 | true=>
  have hr:=oC h
  have L:=PQ hr
  have l1:=L.h5;have l2:=L.a;have l3:=L.b;have l4:=L.c;have l5:=L.d;have l6:=L.e;have l7:=L.f;have l8:=L.g;have l9:=L.k
  have t1:=hr.tree.1;have t2:=hr.vec.1;have t3:=hr.leaves.1
  have l0:rk2.length=2:=rfl
  have hok:StateOk m.part:=(aM _).1 hr.part
  have hl:=zP hr
  have mk:∀ pre:List aH,pre.length<=1000->pre++m.marks.flatMap aX=dX m->It (fun aA (_:Unit)=>c36_6 (aI p n) aA m) ((0:Int),pre) (fun _=>oL (cL m)):=by
   intro pre hp he
   refine It.accu (α:=aH) pre (fun i=>aX (gt m.marks i)) m.marks.length 10 (fun i hi=>fH _) (fun i hi acc ha aA a rec=>?_) (It.stop fun aA a rec=>?_)
   ·unfold c36_6;dsimp only;rw[aD (show i<9223372036854775807 by omega)];refine ql hi ?_;refine qz ?_;refine(aG hi).trans ?_;refine qC (f138 (gt m.marks i).1) ?_;refine qC (f138 (gt m.marks i).2.1) ?_
    refine qC (f137 [(acc,()),(aF (gt m.marks i).1,()),(aF (gt m.marks i).2.1,())] 2000 (j6 (by
     intro r hr;simp only[List.mem_cons,List.not_mem_nil,or_false] at hr
     rcases hr with rfl | rfl | rfl
     ·show acc.length<=2000;omega
     ·exact dB (by decide)
     ·exact dB (by decide))) (by show 3*2000<=4294967296;omega) (by show 3<=9223372036854775807;omega)) ?_
    exact congrArg (fun l:List aH=>rec (((i+1:Nat):Int),l)) (by simp[aX]:List.flatMap (fun r:bK=>r.1) [(acc,()),(aF (gt m.marks i).1,()),(aF (gt m.marks i).2.1,())]=acc++aX (gt m.marks i))
   ·have e1:(pre++bQ m.marks.length fun i=>aX (gt m.marks i))=dX m:=(congrArg (fun l=>pre++l) (cI aX m.marks)).trans he
    show c36_6 (aI p n) aA m rec ((m.marks.length:Int),pre++bQ m.marks.length fun i=>aX (gt m.marks i))=_
    rw[e1]
    unfold c36_6;refine qe ?_;refine qC (f140 (dX m) (uH m) (Nat.le_trans hl (by decide))) ?_
    refine qC (f137 [(dX m,()),(rP (dX m),())] 2000 (j6 (by
     intro r hr;simp only[List.mem_cons,List.not_mem_nil,or_false] at hr
     rcases hr with rfl | rfl
     ·show(dX m).length<=2000;omega
     ·show(rP (dX m)).length<=2000;rw[tC];omega)) (by show 2*2000<=4294967296;omega) (by show 2<=9223372036854775807;omega)) ?_
    exact congrArg oL (by simp[cL]:List.flatMap (fun r:bK=>r.1) [(dX m,()),(rP (dX m),())]=cL m)
  have hP:(List.flatMap (fun r:bK=>r.1) [(rk2,()),(aF m.1,()),(aF m.2.1,()),(aF m.2.2.1,()),(aF m.2.2.2.1,()),(aF m.hi,()),(cX m.tree.1,()),(aF m.tree.2.1,()),(cX m.vec,()),(cX m.leaves,()),(aF (((bI m.part).length:Nat):Int),()),(bI m.part,()),(aF (m.marks.length:Int),())])=nK m++bI m.part++aF (m.marks.length:Int):=by
   unfold nK cS fB;simp only[List.flatMap_cons,List.flatMap_nil,List.append_assoc,List.append_nil]
  have body0:=mk (nK m++bI m.part++aF (m.marks.length:Int)) (by unfold nK;simp only[List.length_append];dsimp only[MsgT.tree] at*;omega) (E9 m)
  rw[mB h]
  exact Ev.eq (fun aA=>by
   unfold T36;refine qC (f30 m hz) ?_;rw[h];refine qf ?_;refine qC (f136 m.part hok) ?_;refine qP (show 0<2 by decide) ?_
   refine qC (f138 m.1) ?_;refine qC (f138 m.2.1) ?_;refine qC (f138 m.2.2.1) ?_;refine qC (f138 m.2.2.2.1) ?_;refine qC (f138 m.hi) ?_;refine qC (f139 m.tree.1 (by omega)) ?_;refine qC (f138 m.tree.2.1) ?_;refine qC (f139 m.vec (by omega)) ?_;refine qC (f139 m.leaves (by omega)) ?_;refine qC (f138 (((bI m.part).length:Nat):Int)) ?_;refine qC (f138 (m.marks.length:Int)) ?_
   refine qC (f137 [(rk2,()),(aF m.1,()),(aF m.2.1,()),(aF m.2.2.1,()),(aF m.2.2.2.1,()),(aF m.hi,()),(cX m.tree.1,()),(aF m.tree.2.1,()),(cX m.vec,()),(cX m.leaves,()),(aF (((bI m.part).length:Nat):Int),()),(bI m.part,()),(aF (m.marks.length:Int),())] 2000 (j6 (by
    intro r hr;simp only[List.mem_cons,List.not_mem_nil,or_false] at hr
    rcases hr with rfl | rfl | rfl | rfl | rfl | rfl | rfl | rfl | rfl | rfl | rfl | rfl | rfl
    ·show rk2.length<=2000;omega
    ·exact dB (by decide)
    ·exact dB (by decide)
    ·exact dB (by decide)
    ·exact dB (by decide)
    ·exact dB (by decide)
    ·show(cX m.tree.1).length<=2000;omega
    ·exact dB (by decide)
    ·show(cX m.vec).length<=2000;omega
    ·show(cX m.leaves).length<=2000;omega
    ·exact dB (by decide)
    ·show(bI m.part).length<=2000;omega
    ·exact dB (by decide))) (by show 13*2000<=4294967296;omega) (by show 13<=9223372036854775807;omega)) ?_
   exact congrArg (fun l:List aH=>iter (c36_6 (aI p n) aA m) aA ((0:Int),l)) hP) (body0.ev (i:=()) rfl)
end Go.Abs.Xz
namespace Go.Abs.Xz
open Go Go.Abs
theorem f258(a b:kH):Ran p 1 258 [va K30 a, va K30 b] (rO K28 (gW a b,())):=go258 fun n hn=>by
 cases h0:a.2.1==b.2.1 with
 | true=>exact Ev.now fun aA=>by unfold T258 gW;rw[h0];exact jU rfl
 | false=>
  have lp:It (fun aA (_:Unit)=>c258_5 (aI p n) aA a b) ((0:Int),([]:List aH)) (fun _=>rV K28 (bQ 4 (eG a b),())):=by
   refine It.accu (α:=aH) [] (eG a b) 4 1 (fun i _=>p6 a b i) (fun i hi acc ha aA u rec=>?_) (It.stop fun aA u rec=>?_)
   ·show c258_5 (aI p n) aA a b rec ((i:Int),acc)=rec (((i+1:Nat):Int),acc++eG a b i)
    have hb:acc.length+1<=bound+(1 - (eG a b i).length):=by simp at ha;unfold bound;omega
    unfold c258_5;dsimp only;rw[aD (show i<9223372036854775807 by omega)];refine qP (show(i:Int)<4 by omega) ?_
    unfold eG at hb ⊢
    cases h1:(a.1.length:Int) != 4 with
    | true=>refine qT h1 ?_;refine qP (by rw[h1] at hb;exact hb) ?_;rfl
    | false=>
     refine qF h1 ?_
     cases h2:(b.1.length:Int) != 4 with
     | true=>refine qT h2 ?_;refine qP (by rw[h1,h2] at hb;exact hb) ?_;rfl
     | false=>
      have e1:a.1.length=4:=by rw[bne_eq_false_iff_eq] at h1;omega
      have e2:b.1.length=4:=by rw[bne_eq_false_iff_eq] at h2;omega
      refine qF h2 ?_;refine qz ?_;refine(aG (show i<a.1.length by omega)).trans ?_;refine qz ?_;refine(aG (show i<b.1.length by omega)).trans ?_
      cases h3:(gt a.1 i).1 != (gt b.1 i).1 with
      | true=>refine qt ?_;refine qP (by rw[h1,h2,h3] at hb;exact hb) ?_;rfl
      | false=>refine qf ?_;show rec _=rec _;rw[show(bif false then[((i:Int),())] else bif false then[((i:Int),())] else bif false then[((i:Int),())] else[])=([]:List aH)from rfl,List.append_nil];rfl
   ·unfold c258_5;dsimp only;refine qe ?_;rfl
  have e:gW a b=bQ 4 (eG a b):=by unfold gW;rw[h0];rfl
  rw[e]
  exact Ev.eq (fun aA=>by unfold T258;exact dH h0) (lp.ev (i:=()) rfl)
theorem f238(a b:kH):Ran p 1 238 [va K30 a, va K30 b] (rO K28 (gW a b,())):=go238 fun n hn=>by
 cases h0:a.2.1==b.2.1 with
 | true=>exact Ev.now fun aA=>by unfold T238 gW;rw[h0];exact jU rfl
 | false=>
  have lp:∀ q:Bool,q=((a.1.length:Int)==4&&(b.1.length:Int)==4)->It (fun aA (_:Unit)=>c238_6 (aI p n) aA a b) (q,(0:Int),([]:List aH)) (fun _=>rV K28 (bQ 4 (eG a b),())):=by
   intro q hq
   have step:∀ i:Nat,i<4->∀ acc:List aH,acc.length+1<=bound->∀ aA rec,c238_6 (aI p n) aA a b rec (q,(i:Int),acc)=rec (q,((i+1:Nat):Int),acc++eG a b i):=by
    intro i hi acc hb aA rec
    unfold c238_6;dsimp only;rw[aD (show i<9223372036854775807 by omega)];refine qP (show(i:Int)<4 by omega) ?_
    unfold eG
    cases h1:(a.1.length:Int)==4 with
    | false=>
     rw[h1] at hq;rw[hq];refine qt ?_;refine qP hb ?_;rw[show((a.1.length:Int) != 4)=true by unfold bne;rw[h1];rfl];rfl
    | true=>
     cases h2:(b.1.length:Int)==4 with
     | false=>rw[h1,h2] at hq;rw[hq];refine qt ?_;refine qP hb ?_;rw[show((a.1.length:Int) != 4)=false by unfold bne;rw[h1];rfl,show((b.1.length:Int) != 4)=true by unfold bne;rw[h2];rfl];rfl
     | true=>
      have e1:a.1.length=4:=by have:=eq_of_beq h1;omega
      have e2:b.1.length=4:=by have:=eq_of_beq h2;omega
      rw[h1,h2] at hq;rw[hq];refine qf ?_;refine qz ?_;refine(aG (show i<a.1.length by omega)).trans ?_;refine qz ?_;refine(aG (show i<b.1.length by omega)).trans ?_
      rw[show((a.1.length:Int) != 4)=false by unfold bne;rw[h1];rfl,show((b.1.length:Int) != 4)=false by unfold bne;rw[h2];rfl]
      cases h3:(gt a.1 i).1 != (gt b.1 i).1 with
      | true=>refine qt ?_;refine qP hb ?_;rfl
      | false=>refine qf ?_;show rec _=rec _;rw[show(bif false then[((i:Int),())] else bif false then[((i:Int),())] else bif false then[((i:Int),())] else[])=([]:List aH)from rfl,List.append_nil]
   refine It.run (fun i=>(q,(i:Int),bQ i (eG a b))) 4 (fun i hi aA u rec=>?_) (It.stop fun aA u rec=>?_)
   ·show c238_6 (aI p n) aA a b rec (q,(i:Int),bQ i (eG a b))=rec (q,((i+1:Nat):Int),bQ (i+1) (eG a b))
    have hb:(bQ i (eG a b)).length+1<=bound:=by
     have:=c7 (n:=i) (g:=eG a b) (L:=1) (fun j _=>p6 a b j)
     unfold bound;omega
    refine(step i hi (bQ i (eG a b)) hb aA rec).trans ?_
    rw[dE];rfl
   ·unfold c238_6;dsimp only;refine qe ?_;rfl
  have e:gW a b=bQ 4 (eG a b):=by unfold gW;rw[h0];rfl
  rw[e]
  cases h1:(a.1.length:Int)==4 with
  | true=>exact Ev.eq (fun aA=>by unfold T238;refine qF h0 ?_;exact jU h1) ((lp _ (by rw[h1];rfl)).ev (i:=()) rfl)
  | false=>exact Ev.eq (fun aA=>by unfold T238;refine qF h0 ?_;exact dH h1) ((lp _ (by rw[h1];rfl)).ev (i:=()) rfl)
theorem f88(nd:NodeT)(x:Int)(b:Bool)(hv:nd.sess.length<=aQ):Ran p 1 88 [va K38 nd, vf K3 (x,()), vf K4 (b,())] (rO K3 (dF nd.sess x b,())):=go88 fun n hn=>by
 have key:∀ {i:Nat} {α:Type} {X R:α},(bif(gt nd.sess i).1==x then(bif uJ (gt nd.sess i).2.2.1 b then X else R)else R)=bif dJ nd.sess i x b then X else R:=two
 have lp:It (fun aA (_:Unit)=>c88_2 (aI p n) aA nd x b) (0:Int) (fun _=>oI (dF nd.sess x b)):=by
  have:=It.first (c:=fun aA (_:Unit)=>c88_2 (aI p n) aA nd x b) (fun i=>(i:Int)) nd.sess.length (fun i=>dJ nd.sess i x b) (fun i _=>oI (i:Int)) (fun _=>oI (-1)) (fun i hi hp aA a rec=>?_) (fun i hi hp=>It.stop fun aA a rec=>?_) (It.stop fun aA a rec=>?_)
  ·revert this;unfold dF
   cases (List.range nd.sess.length).find? (fun i=>dJ nd.sess i x b)<;>exact fun h=>h
  ·have hb:=eC hi hv
   unfold c88_2;rw[aD hb];refine ql hi ?_;refine qz ?_;refine(aG hi).trans ?_
   unfold dJ at hp
   cases h1:(gt nd.sess i).1==x with
   | false=>exact dH rfl
   | true=>refine qt ?_;refine qz ?_;refine(aG hi).trans ?_;rw[h1] at hp;exact dH hp
  ·unfold c88_2;refine ql hi ?_;refine qz ?_;refine(aG hi).trans ?_
   unfold dJ at hp;rw[Bool.and_eq_true] at hp
   refine qT hp.1 ?_;refine qz ?_;refine(aG hi).trans ?_;exact jU hp.2
  ·unfold c88_2;refine qe ?_;rfl
 exact Ev.eq (fun aA=>by unfold T88;rfl) (lp.ev (i:=()) rfl)
theorem f89(x:NodeT)(k to num:Int)(hz:SzN x):Ran p 6 89 [va K38 x, vf K3 (k,()), vf K3 (to,()), vf K3 (num,())] (rO K43 (LW x k to num)):=go89 fun n hn=>Ev.now fun aA=>by
 unfold T89;refine qC (f231 x.log hz.list hz.logs) ?_;refine qP (iG hz.got) ?_;refine qC (f234 x.state hz.state) ?_;rfl
theorem f83(x:NodeT)(k to num:Int)(hz:SzN x):Ran p 6 83 [va K38 x, vf K3 (k,()), vf K3 (to,()), vf K3 (num,())] (rO K43 (LW x k to num)):=go83 fun n hn=>Ev.now fun aA=>by
 unfold T83;refine qC (f104 x.log hz.list hz.logs) ?_;refine qC (f98 x.got hz.got) ?_;refine qC (f223 x.state hz.state) ?_;rfl
structure Hears (x:NodeT) (m:MsgT):Prop where
 szn:SzN x
 szm:SzM m
 node:NodeOk x
 id:0<=x.1
 vec:x.1.toNat<m.vec.length
theorem f115(x:NodeT)(m:MsgT)(h:Hears x m):Ran p 8 115 [va K38 x, va K43 m] (rO K38 (cG x m)):=go115 fun n hn=>Ev.now fun aA=>by
 unfold T115;refine qC (f85 x h.szn) ?_;refine qP h.id ?_;refine(bB h.vec).trans ?_;refine qC (f231 x.log h.szn.list h.szn.logs) ?_;refine qC (f256 (gt m.vec x.1.toNat).1 (dZ x.log)) ?_;refine qC (f255 x.acked m.2.1 (mxI false (gt m.vec x.1.toNat).1 (dZ x.log)) h.szn.acked) ?_;refine qC (f257 x.seen m.2.1 m.marks h.szn.seen h.szn.lines h.szm.marks) ?_;refine qC (f254 (heard0 x m) pC (vC h.szn m) tW (FN (h.node.heard0 m)) tX) ?_;rfl
theorem f95(x:NodeT)(m:MsgT)(h:Hears x m):Ran p 9 95 [va K38 x, va K43 m] (rO K38 (cG x m)):=go95 fun n hn=>Ev.now fun aA=>by
 unfold T95;refine qP h.id ?_;refine(bB h.vec).trans ?_;refine qC (f104 x.log h.szn.list h.szn.logs) ?_;refine qC (f236 x.acked m.2.1 (mxI false (gt m.vec x.1.toNat).1 (dZ x.log)) h.szn.acked) ?_;refine qC (f237 x.seen m.2.1 m.marks h.szn.seen h.szn.lines h.szm.marks) ?_;refine qD (f235 (heard0 x m) pC (vC h.szn m) tW (h.node.heard0 m) tX) ?_;rfl
theorem f114(x:NodeT)(m:MsgT)(h:Hears x m)(hp:aN m.part=true):Ran p 9 114 [va K38 x, va K43 m] (rO K38 (c6 x m)):=go114 fun n hn=>Ev.now fun aA=>by
 have hs:=mW (hU h.szn m) m.part
 unfold T114;refine qC (f115 x m h) ?_;refine qC (f254 (cG x m) m.part (hU h.szn m) h.szm.part (FN (h.node.heard m)) hp) ?_;refine qC (f255 (iW (cG x m) m.part).got m.2.1 m.hi hs.got) ?_;rfl
theorem f94(x:NodeT)(m:MsgT)(h:Hears x m)(hp:aN m.part=true):Ran p 10 94 [va K38 x, va K43 m] (rO K38 (c6 x m)):=go94 fun n hn=>Ev.now fun aA=>by
 have hs:=mW (hU h.szn m) m.part
 unfold T94;refine qC (f95 x m h) ?_;refine qD (f235 (cG x m) m.part (hU h.szn m) h.szm.part (h.node.heard m) hp) ?_;refine qC (f236 (iW (cG x m) m.part).got m.2.1 m.hi hs.got) ?_;rfl
end Go.Abs.Xz
