/- What the functions of this program answer, part rc. -/
import Derived.Test.YtfhgecdbldmekaaGreatW3
import Derived.Test.YtfhgecdbldmekaaGreatXk
import Derived.Test.YtfhgecdbldmekaaGreatXa
import Derived.Test.YtfhgecdbldmekaaGreatXm
import Derived.Test.YtfhgecdbldmekaaGreatW2
set_option linter.unusedVariables false
open Go.IntKind (i64)
namespace Go.Abs.Pz
open Go Go.Abs
theorem QT(xs:List bN):cnT (.sl K106) xs=6*(xs.length:Int):=kU (c:=cnR K106) (n:=6) (λx=>rfl) xs
theorem N3(xs:List aR):cnT (.sl K154) xs=2*(xs.length:Int):=kU (c:=cnR K154) (n:=2) (λx=>rfl) xs
theorem zM(xs:List aH):cnT (.sl K3) xs=1*(xs.length:Int):=kU (c:=cnR K3) (n:=1) (λx=>rfl) xs
end Go.Abs.Pz
namespace Go.Abs.Pz
open Go Go.Abs
def MT:bT:=(List.replicate ((5:Int)).toNat (fH K3),())
def eV(n:Int):List bT:=bif inB n 1 5 then List.replicate n.toNat MT else[]
theorem f271(a:Int):Ran p 2 271 [vf K3 (a,())] (rO K62 (eV a,())):=go271 λn hn=>by
 cases h:inB a 1 5 with
 | false=>exact Ev.now λaA=>by unfold T271 eV;refine qC (f47 a 1 5) ?_;rw[h];rfl
 | true=>
  have ha:=aQ.1 h
  have lp:It (λaA (_:Unit)=>c271_5 (aJ p n) aA a) ((0:Int),([]:List (Row K38))) (λ_=>rV K62 (eV a,())):=by
   refine It.run (λi=>((i:Int),List.replicate i MT)) a.toNat (λi hi aA u rec=>?_) (It.stop λaA u rec=>?_)
   ·unfold c271_5;dsimp only;rw[aF (by omega)];refine qP (by omega) ?_;refine qT (by decide) ?_;refine qP ?_ ?_
    ·show List.length (List.replicate i MT)+1<=bound;rw[List.length_replicate];unfold bound;omega
    ·rw[List.replicate_succ'];rfl
   ·unfold c271_5;dsimp only;refine qN (by omega) ?_;unfold eV;rw[h];rfl
  exact Ev.eq (λaA=>by unfold T271;refine qC (f47 a 1 5) ?_;rw[h];rfl) (lp.ev (i:=()) rfl)
def UD:NodeT:=((0:Int),(0:Int),[],[],[],(0:Int),(0:Int),(0:Int),[],[],[],[],(0:Int),(0:Int),[],(0:Int),(0:Int),(0:Int),[],())
def lC(id n cap slots wait lim:Int):NodeT:=(id,n,[],[],(cM ([],[],())).1,(cM ([],[],())).2.1,cap,(0:Int),[],List.replicate n.toNat (fH K3),List.replicate n.toNat (fH K3),eV n,
 (0:Int),slots,[],wait,lim,(0:Int),List.replicate ((5:Int)).toNat (fH K127),())
theorem z1(s:aE):(cM s).1.length<=4:=by
 unfold cM;cases aM s with
 | true=>exact Nat.le_refl 4
 | false=>exact Nat.zero_le _
theorem P3:SzN UD:=⟨⟨Nat.zero_le _,Nat.zero_le _⟩,Nat.zero_le _,Nat.zero_le _,(λi hi=>absurd hi (Nat.not_lt_zero _)),Nat.zero_le _,Nat.zero_le _,Nat.zero_le _,(λi hi=>absurd hi (Nat.not_lt_zero _)),Nat.zero_le _,Nat.zero_le _⟩
theorem EG{n:Int}(h:inB n 1 5=true):(eV n).length<=5:=by
 have:=aQ.1 h
 unfold eV;rw[h];show(List.replicate n.toNat MT).length<=5;rw[List.length_replicate];omega
theorem pP{n:Int}(h:inB n 1 5=true){i:Nat}(hi:i<(eV n).length):gt (eV n) i=MT:=by
 rw[cS hi];unfold eV;simp[h]
theorem A0(id n cap slots wait lim:Int)(h:inB n 1 5=true):SzN (lC id n cap slots wait lim):=by
 have hh:=aQ.1 h
 have e:List.length (List.replicate n.toNat (fH K3))<=aV:=by rw[List.length_replicate];unfold aV;omega
 refine⟨⟨Nat.zero_le _,Nat.zero_le _⟩,Nat.le_trans (z1 _) (by decide),Nat.zero_le _,(λi hi=>absurd hi (Nat.not_lt_zero _)),e,e,Nat.le_trans (EG h) (by decide),λi hi=>?_,Nat.zero_le _,?_⟩
 ·rw[show gt (lC id n cap slots wait lim).seen i=MT from pP h hi];decide
 ·show List.length (List.replicate ((5:Int)).toNat (fH K127))<=aV
  rw[List.length_replicate];decide
def rK(id n cap slots wait lim:Int):Bool:=inB n 1 5&&dD (lC id n cap slots wait lim)
def sK(id n cap slots wait lim:Int):NodeT:=bif rK id n cap slots wait lim then lC id n cap slots wait lim else UD
theorem s00:SzS ([],[],()):=⟨Nat.zero_le _,Nat.zero_le _⟩
theorem dd{n:Int}(h:inB n 1 5=true):(decide (0<=n)&&decide (n<=(bound:Int))&&decide (n=n))=true:=by
 have:=aQ.1 h
 unfold bound;simp;omega
theorem f193(id m cap slots wait lim:Int):Ran p 8 193 [vf K3 (id,()), vf K3 (m,()), vf K3 (cap,()), vf K3 (slots,()), vf K3 (wait,()), vf K3 (lim,())] ⟨[⟨K66,sK id m cap slots wait lim⟩,⟨K4,(rK id m cap slots wait lim,())⟩],[]⟩:=go193 λn hn=>Ev.now λaA=>by
 show T193 (aJ p n) aA id m cap slots wait lim=some ⟨[⟨K66,sK id m cap slots wait lim⟩,⟨K4,(rK id m cap slots wait lim,())⟩],[]⟩
 unfold T193 sK rK
 refine qC (f47 m 1 5) ?_
 cases h:inB m 1 5 with
 | false=>rfl
 | true=>
  refine qf ?_
  refine qC (f112 ([],[],()) s00) ?_
  refine qT (dd h) ?_;refine qT (dd h) ?_
  refine qC (f271 m) ?_
  refine qT (by decide) ?_
  refine qC (f48 (lC id m cap slots wait lim) (A0 _ _ _ _ _ _ h)) ?_
  cases dD (lC id m cap slots wait lim)<;>rfl
theorem P4(id n cap slots wait lim:Int):SzN (sK id n cap slots wait lim):=by
 unfold sK
 cases h:rK id n cap slots wait lim with
 | false=>exact P3
 | true=>exact A0 _ _ _ _ _ _ (by unfold rK at h;simp only[Bool.and_eq_true] at h;exact h.1)
def fA(n cap slots wait lim:Int)(k:Nat):List NodeT:=(List.range k).map fun(i:Nat)=>sK (i:Int) n cap slots wait lim
theorem E8(n cap slots wait lim:Int)(k:Nat):fA n cap slots wait lim (k+1)=fA n cap slots wait lim k++[sK (k:Int) n cap slots wait lim]:=by
 unfold fA;rw[List.range_succ,List.map_append];rfl
theorem iI(n cap slots wait lim:Int)(k:Nat):(fA n cap slots wait lim k).length=k:=by unfold fA;simp
theorem uG(n cap slots wait lim:Int){k i:Nat}(h:i<k):gt (fA n cap slots wait lim k) i=sK (i:Int) n cap slots wait lim:=by
 rw[cS (by rw[iI];exact h)];unfold fA;simp
def dS(n:Int):Nat:=min n.toNat 6
def wnW(n cap slots wait lim:Int):aZ:=(fA n cap slots wait lim (dS n),[],[],())
def CL(n cap slots wait lim:Int):Bool:=bS (wnW n cap slots wait lim)
def xZ(n cap slots wait lim:Int):aZ:=bif CL n cap slots wait lim then wnW n cap slots wait lim else([],[],[],())
theorem zW(n:Int):dS n<=6:=Nat.min_le_right _ _
theorem OT(n cap slots wait lim:Int):SzW (wnW n cap slots wait lim):=by
 have hc:=zW n
 refine⟨?_,λi hi=>?_,Nat.zero_le _,Nat.zero_le _,λi hi=>absurd hi (Nat.not_lt_zero _)⟩
 ·show(fA n cap slots wait lim (dS n)).length<=aV
  rw[iI];unfold aV;omega
 ·have hi':i<dS n:=by rw[<- iI n cap slots wait lim (dS n)];exact hi
  rw[show gt (wnW n cap slots wait lim).1 i=_ from uG n cap slots wait lim hi']
  exact P4 _ _ _ _ _ _
theorem OS{n cap slots wait lim:Int}(h:bP (dS n) (λi=>rK (i:Int) n cap slots wait lim)=false):CL n cap slots wait lim=false:=by
 cases hw:CL n cap slots wait lim with
 | false=>rfl
 | true=>
  have:bP (dS n) (λi=>rK (i:Int) n cap slots wait lim)=true:=by
   rw[bJ]
   intro i hi
   have hn:=D8 (w:=wnW n cap slots wait lim) hw (i:=i) (by show i<(fA n cap slots wait lim (dS n)).length;rw[iI];exact hi)
   rw[show gt (wnW n cap slots wait lim).1 i=_ from uG n cap slots wait lim hi] at hn
   cases hx:rK (i:Int) n cap slots wait lim with
   | true=>rfl
   | false=>unfold sK at hn;rw[hx] at hn;exact hn
  rw[this] at h;cases h
theorem f97(m cap slots wait lim:Int):Ran p 9 97 [vf K3 (m,()), vf K3 (cap,()), vf K3 (slots,()), vf K3 (wait,()), vf K3 (lim,())] ⟨[⟨K28,xZ m cap slots wait lim⟩,⟨K4,(CL m cap slots wait lim,())⟩],[]⟩:=go97 λn hn=>by
 have hc:=zW m
 have hrest:∀ β,β=(((aJ p n 11 [va K28 (wnW m cap slots wait lim)]).bind (dE [K4] [])).bind λo2=>(bif(!(vB o2.1.1.1))then(some (⟨[⟨K28,(([],[],[],()):aZ)⟩,⟨K4,(false,())⟩],[]⟩:Out))else(some ⟨[⟨K28,wnW m cap slots wait lim⟩,⟨K4,(true,())⟩],[]⟩)))->
   β=some ⟨[⟨K28,xZ m cap slots wait lim⟩,⟨K4,(CL m cap slots wait lim,())⟩],[]⟩:=by
  intro β h
  rw[h]
  refine qC (f11 (wnW m cap slots wait lim) (OT _ _ _ _ _)) ?_
  unfold xZ CL
  cases bS (wnW m cap slots wait lim)<;>rfl
 have lp:It (λaA (_:Unit)=>c97_3 (aJ p n) aA m cap slots wait lim) ((0:Int),([]:List (Row K66)))
   (λ_=>bif bP (dS m) (λi=>rK (i:Int) m cap slots wait lim)then some ⟨[⟨K28,xZ m cap slots wait lim⟩,⟨K4,(CL m cap slots wait lim,())⟩],[]⟩else some ⟨[⟨K28,(([],[],[],()):aZ)⟩,⟨K4,(false,())⟩],[]⟩):=by
  refine It.all (λi=>((i:Int),fA m cap slots wait lim i)) (dS m) (λi=>rK (i:Int) m cap slots wait lim) (rA:=λ_=>(some ⟨[⟨K28,xZ m cap slots wait lim⟩,⟨K4,(CL m cap slots wait lim,())⟩],[]⟩:Option Out)) (rB:=λ_=>(some ⟨[⟨K28,(([],[],[],()):aZ)⟩,⟨K4,(false,())⟩],[]⟩:Option Out)) (λi hi aA u rec=>?_) (It.stop λaA u rec=>?_)
  ·show c97_3 (aJ p n) aA m cap slots wait lim rec ((i:Int),fA m cap slots wait lim i)=bif rK (i:Int) m cap slots wait lim then rec (((i+1:Nat):Int),fA m cap slots wait lim (i+1))else _
   have hi':i<m.toNat/\i<6:=by unfold dS at hi;omega
   unfold c97_3;dsimp only;rw[aF (by omega)];refine qP (by omega) ?_;refine qP (by omega) ?_
   refine qD (f193 (i:Int) m cap slots wait lim) ?_
   cases hx:rK (i:Int) m cap slots wait lim with
   | false=>rfl
   | true=>
    refine qf ?_
    refine qP ?_ ?_
    ·show List.length (fA m cap slots wait lim i)+1<=bound;rw[iI];unfold bound;omega
    ·rw[E8];rfl
  ·show c97_3 (aJ p n) aA m cap slots wait lim rec ((dS m:Int),fA m cap slots wait lim (dS m))=_
   refine hrest _ ?_
   unfold c97_3;dsimp only
   by_cases h:((dS m:Nat):Int)<m
   ·refine qP h ?_
    refine qN (by unfold dS at h ⊢;omega) ?_
    rfl
   ·refine qN h ?_
    rfl
 refine Ev.eq (λaA=>by unfold T97;rfl) (lp.ev (i:=()) ?_)
 cases hx:bP (dS m) (λi=>rK (i:Int) m cap slots wait lim)with
 | true=>rfl
 | false=>
  show some _=some _
  unfold xZ
  rw[OS hx];rfl
end Go.Abs.Pz
namespace Go.Abs.Pz
open Go Go.Abs
theorem gY{α:Type}[Inhabited α]{xs:List α}{i:Nat}(h:i<xs.length):xs.take i++[gt xs i]=xs.take (i+1):=by
 rw[cS h];exact List.take_append_getElem h
theorem iJ{α β:Type}{xs:List β}(h:xs.length<=aV):List.length ([]:List α)+xs.length<=bound:=by
 show 0+xs.length<=bound;unfold aV at h;unfold bound;omega
theorem k9{α:Type}{xs:List α}(h:xs.length<=aV)(i:Nat):(xs.take i).length+1<=bound:=by
 rw[List.length_take];unfold aV at h;unfold bound;omega
theorem i63{i k:Nat}(h:i<k)(hk:k<=aV):i<9223372036854775807:=by unfold aV at hk;omega
theorem f134(s:aE)(hz:SzS s):Ran p 1 134 [va K50 s] (rO K50 s):=go134 λn hn=>Ev.now λaA=>by
 show T134 (aJ p n) aA s=rV K50 s
 unfold T134;refine qP (iJ hz.a) ?_;refine qP (iJ hz.b) ?_;rfl
theorem f123(s:aE)(hz:SzS s):Ran p 1 123 [va K50 s] (rO K50 s):=go123 λn hn=>Ev.now λaA=>by
 show T123 (aJ p n) aA s=rV K50 s
 unfold T123;refine qP (iJ hz.a) ?_;refine qP (iJ hz.b) ?_;rfl
theorem f202(xs:List aH)(h:xs.length<=aV):Ran p 1 202 [vf K38 (xs,())] (rO K38 (xs,())):=go202 λn hn=>Ev.now λaA=>by
 show T202 (aJ p n) aA xs=rV K38 (xs,())
 unfold T202;refine qP (iJ h) ?_;rfl
theorem f222(t:kN)(h:t.1.length<=aV):Ran p 1 222 [va K46 t] (rO K46 t):=go222 λn hn=>Ev.now λaA=>by
 show T222 (aJ p n) aA t=rV K46 t
 unfold T222;refine qP (iJ h) ?_;rfl
theorem f200(t:kN)(h:t.1.length<=aV):Ran p 2 200 [va K46 t] (rO K46 t):=go200 λn hn=>Ev.now λaA=>by
 show T200 (aJ p n) aA t=rV K46 t
 unfold T200;refine qC (f202 t.1 h) ?_;rfl
theorem f224(ts:List bT)(h1:ts.length<=aV)(h2:∀ i,i<ts.length->(gt ts i).1.length<=aV):Ran p 1 224 [vf K62 (ts,())] (rO K62 (ts,())):=go224 λn hn=>by
 have lp:It (λaA (_:Unit)=>c224_3 (aJ p n) aA ts) ((0:Int),([]:List bT)) (λ_=>rV K62 (ts,())):=by
  refine It.run (λi=>((i:Int),ts.take i)) ts.length (λi hi aA u rec=>?_) (It.stop λaA u rec=>?_)
  ·unfold c224_3;dsimp only;rw[aF (i63 hi h1)];refine ql hi ?_;refine qz ?_;refine(aD hi).trans ?_
   refine qP (iJ (h2 i hi)) ?_;refine qP (k9 h1 i) ?_;rw[<- gY hi];rfl
  ·show c224_3 (aJ p n) aA ts rec ((ts.length:Int),ts.take ts.length)=_
   refine(congrArg (λl=>c224_3 (aJ p n) aA ts rec ((ts.length:Int),l)) (List.take_length (l:=ts))).trans ?_
   unfold c224_3;dsimp only;refine qe ?_;rfl
 exact Ev.eq (λaA=>by unfold T224;rfl) (lp.ev (i:=()) rfl)
theorem f203(ts:List bT)(h1:ts.length<=aV)(h2:∀ i,i<ts.length->(gt ts i).1.length<=aV):Ran p 2 203 [vf K62 (ts,())] (rO K62 (ts,())):=go203 λn hn=>by
 have lp:It (λaA (_:Unit)=>c203_3 (aJ p n) aA ts) ((0:Int),([]:List bT)) (λ_=>rV K62 (ts,())):=by
  refine It.run (λi=>((i:Int),ts.take i)) ts.length (λi hi aA u rec=>?_) (It.stop λaA u rec=>?_)
  ·unfold c203_3;dsimp only;rw[aF (i63 hi h1)];refine ql hi ?_;refine qz ?_;refine(aD hi).trans ?_
   refine qC (f202 (gt ts i).1 (h2 i hi)) ?_;refine qP (k9 h1 i) ?_;rw[<- gY hi];rfl
  ·show c203_3 (aJ p n) aA ts rec ((ts.length:Int),ts.take ts.length)=_
   refine(congrArg (λl=>c203_3 (aJ p n) aA ts rec ((ts.length:Int),l)) (List.take_length (l:=ts))).trans ?_
   unfold c203_3;dsimp only;refine qe ?_;rfl
 exact Ev.eq (λaA=>by unfold T203;rfl) (lp.ev (i:=()) rfl)
theorem f223(l:iE)(h1:l.2.2.1.length<=aV)(h2:∀ i,i<l.2.2.1.length->SzS (gt l.2.2.1 i)):Ran p 2 223 [va K61 l] (rO K61 l):=go223 λn hn=>by
 have lp:It (λaA (_:Unit)=>c223_3 (aJ p n) aA l) ((0:Int),([]:List aE)) (λ_=>rV K61 l):=by
  refine It.run (λi=>((i:Int),l.2.2.1.take i)) l.2.2.1.length (λi hi aA u rec=>?_) (It.stop λaA u rec=>?_)
  ·unfold c223_3;dsimp only;rw[aF (i63 hi h1)];refine ql hi ?_;refine qz ?_;refine(aD hi).trans ?_
   refine qC (f134 (gt l.2.2.1 i) (h2 i hi)) ?_;refine qP (k9 h1 i) ?_;rw[<- gY hi];rfl
  ·show c223_3 (aJ p n) aA l rec ((l.2.2.1.length:Int),l.2.2.1.take l.2.2.1.length)=_
   refine(congrArg (λq=>c223_3 (aJ p n) aA l rec ((l.2.2.1.length:Int),q)) (List.take_length (l:=l.2.2.1))).trans ?_
   unfold c223_3;dsimp only;refine qe ?_;rfl
 exact Ev.eq (λaA=>by unfold T223;rfl) (lp.ev (i:=()) rfl)
theorem f201(l:iE)(h1:l.2.2.1.length<=aV)(h2:∀ i,i<l.2.2.1.length->SzS (gt l.2.2.1 i)):Ran p 2 201 [va K61 l] (rO K61 l):=go201 λn hn=>by
 have lp:It (λaA (_:Unit)=>c201_3 (aJ p n) aA l) ((0:Int),([]:List aE)) (λ_=>rV K61 l):=by
  refine It.run (λi=>((i:Int),l.2.2.1.take i)) l.2.2.1.length (λi hi aA u rec=>?_) (It.stop λaA u rec=>?_)
  ·unfold c201_3;dsimp only;rw[aF (i63 hi h1)];refine ql hi ?_;refine qz ?_;refine(aD hi).trans ?_
   refine qC (f123 (gt l.2.2.1 i) (h2 i hi)) ?_;refine qP (k9 h1 i) ?_;rw[<- gY hi];rfl
  ·show c201_3 (aJ p n) aA l rec ((l.2.2.1.length:Int),l.2.2.1.take l.2.2.1.length)=_
   refine(congrArg (λq=>c201_3 (aJ p n) aA l rec ((l.2.2.1.length:Int),q)) (List.take_length (l:=l.2.2.1))).trans ?_
   unfold c201_3;dsimp only;refine qe ?_;rfl
 exact Ev.eq (λaA=>by unfold T201;rfl) (lp.ev (i:=()) rfl)
theorem f133(k:c9)(h:k.2.1.length<=aV):Ran p 1 133 [va K57 k] (rO K57 k):=go133 λn hn=>Ev.now λaA=>by
 show T133 (aJ p n) aA k=rV K57 k
 unfold T133;refine qP (iJ h) ?_;rfl
theorem f122(k:c9)(h:k.2.1.length<=aV):Ran p 2 122 [va K57 k] (rO K57 k):=go122 λn hn=>Ev.now λaA=>by
 show T122 (aJ p n) aA k=rV K57 k
 have hb:k.2.1.length<=bound:=by unfold aV at h;unfold bound;omega
 unfold T122;refine qC (f204 [(k.2.1,())] k.2.1.length (λi hi=>by
  have:i=0:=by simpa using hi
  subst this;exact Nat.le_refl _) (by simpa using hb) (show 1<=maxLen by decide)) ?_
 have e:([(k.2.1,())]:List bT).flatMap (λr=>r.1)=k.2.1:=by simp
 exact congrArg (λl:List aH=>(rV K57 ((k.1,l,k.2.2.1,()):c9):Option Out)) e
theorem f132(x:NodeT)(hz:SzN x):Ran p 3 132 [va K66 x] (rO K66 x):=go132 λn hn=>Ev.now λaA=>by
 show T132 (aJ p n) aA x=rV K66 x
 unfold T132
 refine qC (f134 x.state hz.state) ?_
 refine qC (f222 x.tree hz.leaves) ?_
 refine qC (f223 x.log hz.list hz.logs) ?_
 refine qP (iJ hz.got) ?_;refine qP (iJ hz.acked) ?_
 refine qC (f224 x.seen hz.seen hz.lines) ?_
 refine qP (iJ hz.sess) ?_;refine qP (iJ hz.rises) ?_
 rfl
theorem f121(x:NodeT)(hz:SzN x):Ran p 3 121 [va K66 x] (rO K66 x):=go121 λn hn=>Ev.now λaA=>by
 show T121 (aJ p n) aA x=rV K66 x
 unfold T121
 refine qC (f123 x.state hz.state) ?_
 refine qC (f200 x.tree hz.leaves) ?_
 refine qC (f201 x.log hz.list hz.logs) ?_
 refine qC (f202 x.got hz.got) ?_
 refine qC (f202 x.acked hz.acked) ?_
 refine qC (f203 x.seen hz.seen hz.lines) ?_
 refine qP (iJ hz.sess) ?_;refine qP (iJ hz.rises) ?_
 rfl
structure SzX (w:aZ):Prop extends SzW w where
 bytes:∀ i,i<w.2.1.length->(gt w.2.1 i).2.1.length<=aV
theorem f53(w:aZ)(hz:SzX w):Ran p 4 53 [va K28 w] (rO K28 w):=go53 λn hn=>by
 have said:It (λaA (_:Unit)=>c53_11 (aJ p n) aA w w.1 w.2.1) ((0:Int),([]:List y7)) (λ_=>rV K28 w):=by
  refine It.run (λi=>((i:Int),w.2.2.1.take i)) w.2.2.1.length (λi hi aA u rec=>?_) (It.stop λaA u rec=>?_)
  ·unfold c53_11;dsimp only;rw[aF (i63 hi hz.said)];refine ql hi ?_;refine qz ?_;refine(aD hi).trans ?_
   refine qz ?_;refine(aD hi).trans ?_
   refine qC (f134 (gt w.2.2.1 i).2 (hz.part i hi)) ?_;refine qP (k9 hz.said i) ?_;rw[<- gY hi];rfl
  ·show c53_11 (aJ p n) aA w w.1 w.2.1 rec ((w.2.2.1.length:Int),w.2.2.1.take w.2.2.1.length)=_
   refine(congrArg (λl=>c53_11 (aJ p n) aA w w.1 w.2.1 rec ((w.2.2.1.length:Int),l)) (List.take_length (l:=w.2.2.1))).trans ?_
   unfold c53_11;dsimp only;refine qe ?_;rfl
 have net:It (λaA (_:Unit)=>c53_7 (aJ p n) aA w w.1) ((0:Int),([]:List c9)) (λ_=>rV K28 w):=by
  refine It.run (λi=>((i:Int),w.2.1.take i)) w.2.1.length (λi hi aA u rec=>?_) (It.stopE (T:=λaA _=>iter (c53_11 (aJ p n) aA w w.1 w.2.1) aA ((0:Int),([]:List y7))) (λaA u rec=>?_) said.all_i)
  ·unfold c53_7;dsimp only;rw[aF (i63 hi hz.net)];refine ql hi ?_;refine qz ?_;refine(aD hi).trans ?_
   refine qC (f133 (gt w.2.1 i) (hz.bytes i hi)) ?_;refine qP (k9 hz.net i) ?_;rw[<- gY hi];rfl
  ·show c53_7 (aJ p n) aA w w.1 rec ((w.2.1.length:Int),w.2.1.take w.2.1.length)=_
   refine(congrArg (λl=>c53_7 (aJ p n) aA w w.1 rec ((w.2.1.length:Int),l)) (List.take_length (l:=w.2.1))).trans ?_
   unfold c53_7;dsimp only;refine qe ?_;rfl
 have nodes:It (λaA (_:Unit)=>c53_3 (aJ p n) aA w) ((0:Int),([]:List NodeT)) (λ_=>rV K28 w):=by
  refine It.run (λi=>((i:Int),w.1.take i)) w.1.length (λi hi aA u rec=>?_) (It.stopE (T:=λaA _=>iter (c53_7 (aJ p n) aA w w.1) aA ((0:Int),([]:List c9))) (λaA u rec=>?_) net.all_i)
  ·unfold c53_3;dsimp only;rw[aF (i63 hi hz.nodes)];refine ql hi ?_;refine qz ?_;refine(aD hi).trans ?_
   refine qC (f132 (gt w.1 i) (hz.node i hi)) ?_;refine qP (k9 hz.nodes i) ?_;rw[<- gY hi];rfl
  ·show c53_3 (aJ p n) aA w rec ((w.1.length:Int),w.1.take w.1.length)=_
   refine(congrArg (λl=>c53_3 (aJ p n) aA w rec ((w.1.length:Int),l)) (List.take_length (l:=w.1))).trans ?_
   unfold c53_3;dsimp only;refine qe ?_;rfl
 exact Ev.eq (λaA=>by unfold T53;rfl) (nodes.ev (i:=()) rfl)
theorem f50(w:aZ)(hz:SzX w):Ran p 4 50 [va K28 w] (rO K28 w):=go50 λn hn=>by
 have said:It (λaA (_:Unit)=>c50_13 (aJ p n) aA w w.1 w.2.1) ((0:Int),([]:List y7)) (λ_=>rV K28 w):=by
  refine It.run (λi=>((i:Int),w.2.2.1.take i)) w.2.2.1.length (λi hi aA u rec=>?_) (It.stop λaA u rec=>?_)
  ·unfold c50_13;dsimp only;rw[aF (i63 hi hz.said)];refine ql hi ?_;refine qz ?_;refine(aD hi).trans ?_
   refine qC (f123 (gt w.2.2.1 i).2 (hz.part i hi)) ?_;refine qP (k9 hz.said i) ?_;rw[<- gY hi];rfl
  ·show c50_13 (aJ p n) aA w w.1 w.2.1 rec ((w.2.2.1.length:Int),w.2.2.1.take w.2.2.1.length)=_
   refine(congrArg (λl=>c50_13 (aJ p n) aA w w.1 w.2.1 rec ((w.2.2.1.length:Int),l)) (List.take_length (l:=w.2.2.1))).trans ?_
   unfold c50_13;dsimp only;refine qe ?_;rfl
 have net:It (λaA (_:Unit)=>c50_8 (aJ p n) aA w w.1) ((0:Int),([]:List c9)) (λ_=>rV K28 w):=by
  refine It.run (λi=>((i:Int),w.2.1.take i)) w.2.1.length (λi hi aA u rec=>?_) (It.stopE (T:=λaA _=>iter (c50_13 (aJ p n) aA w w.1 w.2.1) aA ((0:Int),([]:List y7))) (λaA u rec=>?_) said.all_i)
  ·unfold c50_8;dsimp only;rw[aF (i63 hi hz.net)];refine ql hi ?_;refine qz ?_;refine(aD hi).trans ?_
   refine qC (f122 (gt w.2.1 i) (hz.bytes i hi)) ?_;refine qP (k9 hz.net i) ?_;rw[<- gY hi];rfl
  ·show c50_8 (aJ p n) aA w w.1 rec ((w.2.1.length:Int),w.2.1.take w.2.1.length)=_
   refine(congrArg (λl=>c50_8 (aJ p n) aA w w.1 rec ((w.2.1.length:Int),l)) (List.take_length (l:=w.2.1))).trans ?_
   unfold c50_8;dsimp only;refine qe ?_;rfl
 have nodes:It (λaA (_:Unit)=>c50_3 (aJ p n) aA w) ((0:Int),([]:List NodeT)) (λ_=>rV K28 w):=by
  refine It.run (λi=>((i:Int),w.1.take i)) w.1.length (λi hi aA u rec=>?_) (It.stopE (T:=λaA _=>iter (c50_8 (aJ p n) aA w w.1) aA ((0:Int),([]:List c9))) (λaA u rec=>?_) net.all_i)
  ·unfold c50_3;dsimp only;rw[aF (i63 hi hz.nodes)];refine ql hi ?_;refine qz ?_;refine(aD hi).trans ?_
   refine qC (f121 (gt w.1 i) (hz.node i hi)) ?_;refine qP (k9 hz.nodes i) ?_;rw[<- gY hi];rfl
  ·show c50_3 (aJ p n) aA w rec ((w.1.length:Int),w.1.take w.1.length)=_
   refine(congrArg (λl=>c50_3 (aJ p n) aA w rec ((w.1.length:Int),l)) (List.take_length (l:=w.1))).trans ?_
   unfold c50_3;dsimp only;refine qe ?_;rfl
 exact Ev.eq (λaA=>by unfold T50;rfl) (nodes.ev (i:=()) rfl)
end Go.Abs.Pz
namespace Go.Abs.Pz
open Go Go.Abs
def z3(x:eI):eI:=(x.1,x.2.1,x.2.2.1,i64.wrap (x.2.2.2.1+1),())
def oH(x:NodeT)(i:Nat):List eI:=bif decide (i64.wrap ((gt x.sess i).2.2.2.1+1)<=x.wait)then[z3 (gt x.sess i)] else[]
theorem wN(x:NodeT)(i:Nat):(oH x i).length<=1:=by
 unfold oH;cases decide (i64.wrap ((gt x.sess i).2.2.2.1+1)<=x.wait)<;>simp
def x9(y:NodeT):NodeT:=(y.1,y.2.1,y.2.2.1,y.2.2.2.1,y.2.2.2.2.1,y.2.2.2.2.2.1,y.2.2.2.2.2.2.1,y.2.2.2.2.2.2.2.1,y.2.2.2.2.2.2.2.2.1,y.2.2.2.2.2.2.2.2.2.1,y.2.2.2.2.2.2.2.2.2.2.1,y.2.2.2.2.2.2.2.2.2.2.2.1,y.2.2.2.2.2.2.2.2.2.2.2.2.1,y.2.2.2.2.2.2.2.2.2.2.2.2.2.1,bX y.sess.length (oH y),y.wait,y.limit,i64.wrap (y.clock+1),y.rises,())
def mU(x:NodeT):NodeT:=bif dD x then(bif x.clock==100000 then x else x9 x)else x
theorem CZ(x:NodeT):(x9 x).sess.length<=x.sess.length:=by
 have:=dH (g:=oH x) (L:=1) (n:=x.sess.length) λi _=>wN x i
 show(bX x.sess.length (oH x)).length<=x.sess.length
 omega
theorem O1{x:NodeT}(h:SzN x):SzN (mU x):=by
 unfold mU
 cases dD x with
 | false=>exact h
 | true=>
  cases x.clock==100000 with
  | true=>exact h
  | false=>exact⟨h.state,h.leaves,h.list,h.logs,h.got,h.acked,h.seen,h.lines,Nat.le_trans (CZ x) h.sess,h.rises⟩

theorem f135(x:NodeT)(hz:SzN x):Ran p 8 135 [va K66 x] (rO K66 (mU x)):=go135 λn hn=>by
 unfold mU
 cases ho:dD x with
 | false=>exact Ev.now λaA=>by show T135 (aJ p n) aA x=rV K66 x;unfold T135;refine qC (f132 x hz) ?_;refine qC (f48 x hz) ?_;rw[ho];rfl
 | true=>
  cases hc:x.clock==100000 with
  | true=>exact Ev.now λaA=>by show T135 (aJ p n) aA x=rV K66 x;unfold T135;refine qC (f132 x hz) ?_;refine qC (f48 x hz) ?_;rw[ho];refine qf ?_;exact jW hc
  | false=>
   have lp:It (λaA (_:Unit)=>c135_7 (aJ p n) aA x ((x,()),())) ((0:Int),([]:List eI)) (λ_=>rV K66 (x9 x)):=by
    refine It.accu (α:=eI) [] (oH x) x.sess.length 1 (λi _=>wN x i) (λi hi acc ha aA u rec=>?_) (It.stop λaA u rec=>?_)
    ·unfold c135_7 oH;dsimp only;rw[aF (i63 hi hz.sess)];refine ql hi ?_;refine qz ?_;refine(aD hi).trans ?_
     by_cases h:i64.wrap ((gt x.sess i).2.2.2.1+1)<=x.wait
     ·refine qP h ?_;refine qP ?_ ?_
      ·have h1:(oH x i).length=1:=by unfold oH;rw[decide_eq_true h];rfl
       have h2:=hz.sess
       rw[h1] at ha
       show acc.length+1<=bound
       unfold aV at h2;unfold bound;simp at ha;omega
      ·rw[decide_eq_true h];rfl
     ·refine qN h ?_;rw[decide_eq_false h];show rec _=rec _;rw[show(bif false then[z3 (gt x.sess i)] else[])=([]:List eI)from rfl,List.append_nil];rfl
    ·unfold c135_7;dsimp only;refine qe ?_;rfl
   exact Ev.eq (λaA=>by
    unfold T135;refine qC (f132 x hz) ?_;refine qC (f48 x hz) ?_;rw[ho];refine qf ?_;exact gR hc) (lp.ev (i:=()) rfl)
theorem f129(x:NodeT)(hz:SzN x):Ran p 8 129 [va K66 x] (rO K66 (mU x)):=go129 λn hn=>by
 unfold mU
 cases ho:dD x with
 | false=>exact Ev.now λaA=>by show T129 (aJ p n) aA x=rV K66 x;unfold T129;refine qC (f121 x hz) ?_;refine qC (f44 x hz) ?_;rw[ho];rfl
 | true=>
  cases hc:x.clock==100000 with
  | true=>exact Ev.now λaA=>by show T129 (aJ p n) aA x=rV K66 x;unfold T129;refine qC (f121 x hz) ?_;refine qC (f44 x hz) ?_;rw[ho];refine qf ?_;exact jW hc
  | false=>
   have lp:It (λaA (_:Unit)=>c129_7 (aJ p n) aA x ((x,()),())) ((0:Int),([]:List eI)) (λ_=>rV K66 (x9 x)):=by
    refine It.accu (α:=eI) [] (oH x) x.sess.length 1 (λi _=>wN x i) (λi hi acc ha aA u rec=>?_) (It.stop λaA u rec=>?_)
    ·unfold c129_7 oH;dsimp only;rw[aF (i63 hi hz.sess)];refine ql hi ?_;refine qz ?_;refine(aD hi).trans ?_
     by_cases h:i64.wrap ((gt x.sess i).2.2.2.1+1)<=x.wait
     ·refine qP h ?_;refine qP ?_ ?_
      ·have h1:(oH x i).length=1:=by unfold oH;rw[decide_eq_true h];rfl
       have h2:=hz.sess
       rw[h1] at ha
       show acc.length+1<=bound
       unfold aV at h2;unfold bound;simp at ha;omega
      ·rw[decide_eq_true h];rfl
     ·refine qN h ?_;rw[decide_eq_false h];show rec _=rec _;rw[show(bif false then[z3 (gt x.sess i)] else[])=([]:List eI)from rfl,List.append_nil];rfl
    ·unfold c129_7;dsimp only;refine qe ?_;rfl
   exact Ev.eq (λaA=>by
    unfold T129;refine qC (f121 x hz) ?_;refine qC (f44 x hz) ?_;rw[ho];refine qf ?_;exact gR hc) (lp.ev (i:=()) rfl)
theorem C2{α:Type}[Inhabited α]{c:α->Int}:∀ (xs ys:List α),xs.length=ys.length->(∀ j,j<xs.length->c (gt xs j)<=c (gt ys j))->iB c xs<=iB c ys
 | [],[],_,_=>Int.le_refl _
 | x::xs,y::ys,h,h2=>by
  have h3:c x<=c y:=h2 0 (Nat.zero_lt_succ _)
  have h4:=C2 xs ys (by simpa using h) λj hj=>h2 (j+1) (Nat.succ_lt_succ hj)
  show c x+iB c xs<=c y+iB c ys
  omega
 | [],_::_,h,_=>by cases h
 | _::_,[],h,_=>by cases h
theorem SS(xs:List eI):cnT (.sl K125) xs=4*(xs.length:Int):=kU (c:=cnR K125) (n:=4) (λx=>rfl) xs
end Go.Abs.Pz
namespace Go.Abs.Pz
open Go Go.Abs
theorem f333(a b:Int):Ran p 1 333 [vf K3 (a,()), vf K3 (b,())] (rO K3 (mxI false a b,())):=go333 λn hn=>Ev.now λaA=>by
 unfold T333;rw[G5]
 by_cases h:a<b
 ·refine qP h ?_;rw[show min a b=a by omega]
 ·refine qN h ?_;rw[show min a b=b by omega]
theorem f168(ms:List aR)(h2:ms.length<=maxLen):Ran p 3 168 [vf K51 (ms,())] (rO K4 (eS ms,())):=go168 λn hn=>by
 have inner:It (λaA (_:Unit)=>c168_2 (aJ p n) aA ms) (0:Int) (λ_=>oB (eS ms)):=by
  refine cV (It.allB ms.length (f5 ms) true (λi hi aA a rec=>?_) (It.stop λaA a rec=>?_))
  ·have hb:i<9223372036854775807:=Nat.lt_of_lt_of_le hi h2
   unfold c168_2 f5;rw[aF hb];refine ql hi ?_;refine qz ?_;refine(aD hi).trans ?_;refine qC (f118 (gt ms i).1) ?_;refine chk λ_=>?_
   cases i with
   | zero=>refine qN (by decide) ?_;refine qz ?_;refine(aD hi).trans ?_;refine qC (f47 (gt ms 0).2.1 1 1000) ?_;exact fin
   | succ j=>
    refine qP (by omega) ?_;refine qz ?_;refine(aD hi).trans ?_;rw[jY hb (by omega)];refine qz ?_;refine(aD (show j<ms.length by omega)).trans ?_;refine RQ λ_=>?_
    refine qz ?_;refine(aD hi).trans ?_;refine qC (f47 (gt ms (j+1)).2.1 1 1000) ?_;exact fin
  ·unfold c168_2;refine qe ?_;rfl
 exact Ev.eq (λaA=>by unfold T168;rfl) (inner.ev (i:=()) rfl)
theorem f280(ms:List aR)(h2:ms.length<=maxLen):Ran p 3 280 [vf K51 (ms,())] (rO K4 (eS ms,())):=go280 λn hn=>by
 have inner:It (λaA (_:Unit)=>c280_2 (aJ p n) aA ms) (0:Int) (λ_=>oB (HB ms)):=by
  refine cV (It.allB ms.length (jK ms) true (λi hi aA a rec=>?_) (It.stop λaA a rec=>?_))
  ·have hb:i<9223372036854775807:=Nat.lt_of_lt_of_le hi h2
   unfold c280_2 jK;rw[aF hb];refine ql hi ?_;refine qz ?_;refine(aD hi).trans ?_;refine qC (f109 (gt ms i).1) ?_;refine chk λ_=>?_;refine qC (f43 (gt ms i).2.1 1 1000) ?_;refine chk λ_=>?_
   cases i with
   | zero=>refine qN (by decide) ?_;rfl
   | succ j=>refine qP (by omega) ?_;rw[jY hb (by omega)];refine qz ?_;refine(aD (show j<ms.length by omega)).trans ?_;exact FL
  ·unfold c280_2;refine qe ?_;rfl
 rw[NK] at inner
 exact Ev.eq (λaA=>by unfold T280;rfl) (inner.ev (i:=()) rfl)
theorem f298(s:aE)(hz:SzS s):Ran p 5 298 [va K50 s] (rO K51 (d8 s,())):=go298 λn hn=>by
 have lp:It (λaA (_:Unit)=>c298_3 (aJ p n) aA s) ((0:Int),([]:List aR)) (λ_=>rV K51 (d8 s,())):=by
  refine It.accu (α:=aR) [] (iM s) 5 1 (λi _=>qG s i) (λi hi acc ha aA u rec=>?_) (It.stop λaA u rec=>?_)
  ·show c298_3 (aJ p n) aA s rec ((i:Int),acc)=rec (((i+1:Nat):Int),acc++iM s i)
   have hb:acc.length+1<=bound+(1 - (iM s i).length):=by simp at ha;unfold bound;omega
   unfold c298_3 iM;dsimp only;rw[aF (show i<9223372036854775807 by omega)];refine qP (show(i:Int)<5 by omega) ?_;refine qC (f157 s (i:Int) hz) ?_
   by_cases h:gone s i>0
   ·refine qP h ?_;refine qP (by
     unfold iM at hb;rw[decide_eq_true h] at hb;exact hb) ?_;rw[decide_eq_true h];rfl
   ·refine qN h ?_;rw[decide_eq_false h];show rec _=rec _;rw[show(bif false then[((i:Int),gone s i,())] else[])=([]:List aR)from rfl,List.append_nil];rfl
  ·unfold c298_3;dsimp only;refine qe ?_;rfl
 exact Ev.eq (λaA=>by unfold T298;rfl) (lp.ev (i:=()) rfl)
theorem f284(s:aE)(hz:SzS s):Ran p 5 284 [va K50 s] (rO K51 (d8 s,())):=go284 λn hn=>by
 have lp:It (λaA (_:Unit)=>c284_3 (aJ p n) aA s) ((0:Int),([]:List aR)) (λ_=>rV K51 (d8 s,())):=by
  refine It.accu (α:=aR) [] (iM s) 5 1 (λi _=>qG s i) (λi hi acc ha aA u rec=>?_) (It.stop λaA u rec=>?_)
  ·show c284_3 (aJ p n) aA s rec ((i:Int),acc)=rec (((i+1:Nat):Int),acc++iM s i)
   have hb:acc.length+1<=bound+(1 - (iM s i).length):=by simp at ha;unfold bound;omega
   unfold c284_3 iM;dsimp only;rw[aF (show i<9223372036854775807 by omega)];refine qP (show(i:Int)<5 by omega) ?_;refine qC (f61 s (i:Int) hz) ?_
   by_cases h:gone s i>0
   ·refine qP h ?_;refine qP (by
     unfold iM at hb;rw[decide_eq_true h] at hb;exact hb) ?_;rw[decide_eq_true h];rfl
   ·refine qN h ?_;rw[decide_eq_false h];show rec _=rec _;rw[show(bif false then[((i:Int),gone s i,())] else[])=([]:List aR)from rfl,List.append_nil];rfl
  ·unfold c284_3;dsimp only;refine qe ?_;rfl
 exact Ev.eq (λaA=>by unfold T284;rfl) (lp.ev (i:=()) rfl)
theorem bA{α β:Type}[Inhabited α]{xs:List α}{i:Nat}{f:α->Option β}(h:i<xs.length):(at? xs i).bind f=f (gt xs i):=by
 rw[R4 h,cS h];rfl
theorem f352(v:List aH)(k m:Int)(hv:v.length<=aV):Ran p 2 352 [vf K38 (v,()), vf K3 (k,()), vf K3 (m,())] (rO K38 (c7 v k m,())):=go352 λn hn=>Ev.now λaA=>by
 unfold T352 c7;refine qP (iJ hv) ?_;refine qC (f47 k 0 (i64.wrap ((v.length:Int) - 1))) ?_
 cases hb:inB k 0 (i64.wrap ((v.length:Int) - 1))with
 | false=>rfl
 | true=>
  obtain⟨hk,e⟩:=qL hv hb
  refine qt ?_;refine qP (show(0:Int)<=k by omega) ?_;refine(bA hk).trans ?_
  by_cases h:m>(gt v k.toNat).1
  ·refine qP h ?_;refine qP (show(0:Int)<=k by omega) ?_;refine(bA hk).trans ?_;refine(bA hk).trans ?_
   rw[sL,show max (gt v k.toNat).1 m=m by omega];rfl
  ·refine qN h ?_;rw[sL,show max (gt v k.toNat).1 m=(gt v k.toNat).1 by omega]
   show(rV K38 (v,()):Option Out)=rV K38 (v.set k.toNat (gt v k.toNat),())
   rw[uB]
theorem f283(v:List aH)(k m:Int)(hv:v.length<=aV):Ran p 2 283 [vf K38 (v,()), vf K3 (k,()), vf K3 (m,())] (rO K38 (c7 v k m,())):=go283 λn hn=>Ev.now λaA=>by
 unfold T283 c7;refine qC (f202 v hv) ?_;refine qC (f43 k 0 (i64.wrap ((v.length:Int) - 1))) ?_
 cases hb:inB k 0 (i64.wrap ((v.length:Int) - 1))with
 | false=>rfl
 | true=>
  obtain⟨hk,e⟩:=qL hv hb
  refine qt ?_;refine qP (show(0:Int)<=k by omega) ?_;refine(bA hk).trans ?_;refine qP (show(0:Int)<=k by omega) ?_;refine(bA hk).trans ?_;refine(bA hk).trans ?_;rfl
theorem wS{α:Type}(xs:List α)(i:Nat)(a b:α):(xs.set i a).set i b=xs.set i b:=by simp
theorem f297(t:List bT)(k:Int)(ms:List aR)(h1:t.length<=aV)(h2:∀ i,i<t.length->(gt t i).1.length<=aV)(h3:ms.length<=aV):Ran p 4 297 [vf K62 (t,()), vf K3 (k,()), vf K51 (ms,())] (rO K62 (bM t k ms,())):=go297 λn hn=>by
 cases hb:inB k 0 (i64.wrap ((t.length:Int) - 1))with
 | false=>exact Ev.now λaA=>by show T297 (aJ p n) aA t k ms=_;unfold T297;refine qC (f224 t h1 h2) ?_;refine qC (f47 k 0 (i64.wrap ((t.length:Int) - 1))) ?_;rw[hb,show bM t k ms=t by unfold bM nG;rw[hb];rfl];rfl
 | true=>
  obtain⟨hk,e⟩:=qL h1 hb
  cases hm:eS ms with
  | false=>exact Ev.now λaA=>by show T297 (aJ p n) aA t k ms=_;unfold T297;refine qC (f224 t h1 h2) ?_;refine qC (f47 k 0 (i64.wrap ((t.length:Int) - 1))) ?_;rw[hb];refine qf ?_;refine qC (f168 ms (aK h3)) ?_;rw[hm,show bM t k ms=t by unfold bM nG;rw[hb,hm];rfl];rfl
  | true=>
   by_cases h5:(((gt t k.toNat).1.length:Nat):Int)<5
   ·exact Ev.now λaA=>by show T297 (aJ p n) aA t k ms=_;unfold T297;refine qC (f224 t h1 h2) ?_;refine qC (f47 k 0 (i64.wrap ((t.length:Int) - 1))) ?_;rw[hb];refine qf ?_;refine qC (f168 ms (aK h3)) ?_;rw[hm];refine qf ?_;refine qP (show(0:Int)<=k by omega) ?_;refine(bA hk).trans ?_;refine qP h5 ?_;rw[show bM t k ms=t by unfold bM nG;rw[hb,hm,decide_eq_true h5];rfl]
   ·have lp:It (λaA (_:Unit)=>c297_5 (aJ p n) aA k ms) ((0:Int),t) (λ_=>rV K62 (bM t k ms,())):=by
     have h0:=u6 t k.toNat ms
     refine cast (congrArg (λz=>It (λaA (_:Unit)=>c297_5 (aJ p n) aA k ms) ((0:Int),z) (λ_=>rV K62 (bM t k ms,()))) h0) ?_
     refine It.run (λi=>((i:Int),cC t k.toNat ms i)) ms.length (λi hi aA u rec=>?_) (It.stop λaA u rec=>?_)
     ·show c297_5 (aJ p n) aA k ms rec ((i:Int),cC t k.toNat ms i)=rec (((i+1:Nat):Int),cC t k.toNat ms (i+1))
      have hd:=sN hm hi
      have hl:k.toNat<(cC t k.toNat ms i).length:=by unfold cC;rw[List.length_set];exact hk
      have hg:gt (cC t k.toNat ms i) k.toNat=kS (gt t k.toNat) ms i:=cG hk _
      have hr:(gt ms i).1.toNat<(gt (cC t k.toNat ms i) k.toNat).1.length:=by rw[hg,mQ];omega
      have hp:(0:Int)<=k:=by omega
      unfold c297_5;dsimp only;rw[aF (i63 hi h3)];refine ql hi ?_;refine qP hp ?_;refine(bA hl).trans ?_;refine(bA hl).trans ?_;refine qz ?_;refine(aD hi).trans ?_;refine qP hp ?_;refine(bA hl).trans ?_;refine(bA hl).trans ?_;refine qz ?_;refine(aD hi).trans ?_;refine qP hd.1 ?_;refine(bA hl).trans ?_;refine(bA hr).trans ?_;refine(bA hl).trans ?_;refine(bA hr).trans ?_;refine qz ?_;refine(aD hi).trans ?_
      refine qC (f161 (gt (gt (cC t k.toNat ms i) k.toNat).1 (gt ms i).1.toNat).1 (gt ms i).2.1) ?_;refine qP hd.1 ?_;refine(bA hl).trans ?_;refine(bA hr).trans ?_;refine(bA hl).trans ?_;refine(bA hr).trans ?_
      refine congrArg (λz=>rec (((i+1:Nat):Int),z)) ?_
      show(cC t k.toNat ms i).set k.toNat (AJ (gt (cC t k.toNat ms i) k.toNat) (gt ms i))=cC t k.toNat ms (i+1)
      rw[hg];exact wS ..
     ·unfold c297_5;dsimp only;refine qe ?_;rw[show bM t k ms=cC t k.toNat ms ms.length by unfold bM nG;rw[hb,hm,decide_eq_false h5];rfl]
    exact Ev.eq (λaA=>by unfold T297;refine qC (f224 t h1 h2) ?_;refine qC (f47 k 0 (i64.wrap ((t.length:Int) - 1))) ?_;rw[hb];refine qf ?_;refine qC (f168 ms (aK h3)) ?_;rw[hm];refine qf ?_;refine qP (show(0:Int)<=k by omega) ?_;refine(bA hk).trans ?_;exact jP h5) (lp.ev (i:=()) rfl)
theorem f285(t:List bT)(k:Int)(ms:List aR)(h1:t.length<=aV)(h2:∀ i,i<t.length->(gt t i).1.length<=aV)(h3:ms.length<=aV):Ran p 4 285 [vf K62 (t,()), vf K3 (k,()), vf K51 (ms,())] (rO K62 (bM t k ms,())):=go285 λn hn=>by
 cases hb:inB k 0 (i64.wrap ((t.length:Int) - 1))with
 | false=>exact Ev.now λaA=>by show T285 (aJ p n) aA t k ms=_;unfold T285;refine qC (f203 t h1 h2) ?_;refine qC (f43 k 0 (i64.wrap ((t.length:Int) - 1))) ?_;rw[hb,show bM t k ms=t by unfold bM nG;rw[hb];rfl];rfl
 | true=>
  obtain⟨hk,e⟩:=qL h1 hb
  cases hm:eS ms with
  | false=>exact Ev.now λaA=>by show T285 (aJ p n) aA t k ms=_;unfold T285;refine qC (f203 t h1 h2) ?_;refine qC (f43 k 0 (i64.wrap ((t.length:Int) - 1))) ?_;rw[hb];refine qf ?_;refine qC (f280 ms (aK h3)) ?_;rw[hm,show bM t k ms=t by unfold bM nG;rw[hb,hm];rfl];rfl
  | true=>
   by_cases h5:(((gt t k.toNat).1.length:Nat):Int)<5
   ·exact Ev.now λaA=>by show T285 (aJ p n) aA t k ms=_;unfold T285;refine qC (f203 t h1 h2) ?_;refine qC (f43 k 0 (i64.wrap ((t.length:Int) - 1))) ?_;rw[hb];refine qf ?_;refine qC (f280 ms (aK h3)) ?_;rw[hm];refine qf ?_;refine qP (show(0:Int)<=k by omega) ?_;refine(bA hk).trans ?_;refine qP h5 ?_;rw[show bM t k ms=t by unfold bM nG;rw[hb,hm,decide_eq_true h5];rfl]
   ·have lp:It (λaA (_:Unit)=>c285_5 (aJ p n) aA k ms) ((0:Int),t) (λ_=>rV K62 (bM t k ms,())):=by
     have h0:=u6 t k.toNat ms
     refine cast (congrArg (λz=>It (λaA (_:Unit)=>c285_5 (aJ p n) aA k ms) ((0:Int),z) (λ_=>rV K62 (bM t k ms,()))) h0) ?_
     refine It.run (λi=>((i:Int),cC t k.toNat ms i)) ms.length (λi hi aA u rec=>?_) (It.stop λaA u rec=>?_)
     ·show c285_5 (aJ p n) aA k ms rec ((i:Int),cC t k.toNat ms i)=rec (((i+1:Nat):Int),cC t k.toNat ms (i+1))
      have hd:=sN hm hi
      have hl:k.toNat<(cC t k.toNat ms i).length:=by unfold cC;rw[List.length_set];exact hk
      have hg:gt (cC t k.toNat ms i) k.toNat=kS (gt t k.toNat) ms i:=cG hk _
      have hr:(gt ms i).1.toNat<(gt (cC t k.toNat ms i) k.toNat).1.length:=by rw[hg,mQ];omega
      have hp:(0:Int)<=k:=by omega
      unfold c285_5;dsimp only;rw[aF (i63 hi h3)];refine ql hi ?_;refine qz ?_;refine(aD hi).trans ?_;refine qP hp ?_;refine(bA hl).trans ?_;refine(bA hl).trans ?_;refine qP hp ?_;refine(bA hl).trans ?_;refine(bA hl).trans ?_;refine qP hd.1 ?_;refine(bA hl).trans ?_;refine(bA hr).trans ?_;refine(bA hl).trans ?_;refine(bA hr).trans ?_;refine qP hd.1 ?_;refine(bA hl).trans ?_;refine(bA hr).trans ?_;refine(bA hl).trans ?_;refine(bA hr).trans ?_
      refine congrArg (λz=>rec (((i+1:Nat):Int),z)) ?_
      show(cC t k.toNat ms i).set k.toNat (AJ (gt (cC t k.toNat ms i) k.toNat) (gt ms i))=cC t k.toNat ms (i+1)
      rw[hg];exact wS ..
     ·unfold c285_5;dsimp only;refine qe ?_;rw[show bM t k ms=cC t k.toNat ms ms.length by unfold bM nG;rw[hb,hm,decide_eq_false h5];rfl]
    exact Ev.eq (λaA=>by unfold T285;refine qC (f203 t h1 h2) ?_;refine qC (f43 k 0 (i64.wrap ((t.length:Int) - 1))) ?_;rw[hb];refine qf ?_;refine qC (f280 ms (aK h3)) ?_;rw[hm];refine qf ?_;refine qP (show(0:Int)<=k by omega) ?_;refine(bA hk).trans ?_;exact jP h5) (lp.ev (i:=()) rfl)
end Go.Abs.Pz
namespace Go.Abs.Pz
open Go Go.Abs
theorem f334(t:List bT)(id:Int)(h1:t.length<=aV)(h2:∀ i,i<t.length->(gt t i).1.length<=aV):Ran p 2 334 [vf K62 (t,()), vf K3 (id,())] (rO K3 (fK t id,())):=go334 λn hn=>by
 have lp:It (λaA (_:Unit)=>c334_5 (aJ p n) aA t id) ((0:Int),(0:Int)) (λ_=>oI (fK t id)):=by
  refine cast ?_ (It.all (c:=λaA (_:Unit)=>c334_5 (aJ p n) aA t id) (rA:=λ_=>oI (kK t id t.length)) (rB:=λ_=>oI 0) (λi=>(kK t id i,(i:Int))) t.length (nB t id) (λi hi aA u rec=>?_) (It.stop λaA u rec=>?_))
  ·congr 1;funext u;unfold fK;cases bP t.length (nB t id)<;>rfl
  ·unfold c334_5 nB;dsimp only;rw[aF (i63 hi h1)];refine ql hi ?_;refine qz ?_;refine(aD hi).trans ?_;refine qC (f47 id 0 (i64.wrap ((((gt t i).1.length:Nat):Int) - 1))) ?_
   cases hb:inB id 0 (i64.wrap ((((gt t i).1.length:Nat):Int) - 1))with
   | false=>rfl
   | true=>
    obtain⟨hk,e⟩:=qL (h2 i hi) hb
    have hp:(0:Int)<=id:=by omega
    refine qf ?_
    show _=rec (bif(i:Int)==0 then _ else bif decide ((gt (gt t i).1 id.toNat).1<kK t id i)then _ else _,_)
    cases h0:(i:Int)==0 with
    | true=>refine qt ?_;refine qz ?_;refine(aD hi).trans ?_;refine qP hp ?_;refine(bA hk).trans ?_;rfl
    | false=>
     refine qf ?_;refine qz ?_;refine(aD hi).trans ?_;refine qP hp ?_;refine(bA hk).trans ?_
     by_cases hc:(gt (gt t i).1 id.toNat).1<kK t id i
     ·refine qP hc ?_;refine qz ?_;refine(aD hi).trans ?_;refine qP hp ?_;refine(bA hk).trans ?_;rw[decide_eq_true hc];rfl
     ·refine qN hc ?_;rw[decide_eq_false hc];rfl
  ·unfold c334_5;dsimp only;refine qe ?_;rfl
 cases h0:(t.length:Int)==0 with
 | false=>exact Ev.eq (λaA=>by unfold T334;exact gR h0) (lp.ev (i:=()) rfl)
 | true=>
  have e:fK t id=0:=by
   have:t=[]:=List.length_eq_zero_iff.1 (by have:=eq_of_beq h0;omega)
   rw[this];rfl
  exact Ev.now λaA=>by rw[e];unfold T334;exact jW h0
theorem f329(t:List bT)(id:Int)(h1:t.length<=aV)(h2:∀ i,i<t.length->(gt t i).1.length<=aV):Ran p 2 329 [vf K62 (t,()), vf K3 (id,())] (rO K3 (fK t id,())):=go329 λn hn=>by
 have lp:It (λaA (_:Unit)=>c329_3 (aJ p n) aA t id) ((0:Int),(0:Int)) (λ_=>oI (fK t id)):=by
  refine cast ?_ (It.all (c:=λaA (_:Unit)=>c329_3 (aJ p n) aA t id) (rA:=λ_=>oI (kK t id t.length)) (rB:=λ_=>oI 0) (λi=>(kK t id i,(i:Int))) t.length (nB t id) (λi hi aA u rec=>?_) (It.stop λaA u rec=>?_))
  ·congr 1;funext u;unfold fK;cases bP t.length (nB t id)<;>rfl
  ·unfold c329_3 nB;dsimp only;rw[aF (i63 hi h1)];refine ql hi ?_;refine qz ?_;refine(aD hi).trans ?_;refine qC (f43 id 0 (i64.wrap ((((gt t i).1.length:Nat):Int) - 1))) ?_
   cases hb:inB id 0 (i64.wrap ((((gt t i).1.length:Nat):Int) - 1))with
   | false=>rfl
   | true=>
    obtain⟨hk,e⟩:=qL (h2 i hi) hb
    have hp:(0:Int)<=id:=by omega
    refine qf ?_
    show _=rec (bif(i:Int)==0 then _ else bif decide ((gt (gt t i).1 id.toNat).1<kK t id i)then _ else _,_)
    cases h0:(i:Int)==0 with
    | true=>refine qt ?_;refine qP hp ?_;refine(bA hk).trans ?_;rfl
    | false=>
     refine qf ?_;refine qP hp ?_;refine(bA hk).trans ?_
     by_cases hc:(gt (gt t i).1 id.toNat).1<kK t id i
     ·refine qP hc ?_;refine qP hp ?_;refine(bA hk).trans ?_;rw[decide_eq_true hc];rfl
     ·refine qN hc ?_;rw[decide_eq_false hc];rfl
  ·unfold c329_3;dsimp only;refine qe ?_;rfl
 exact Ev.eq (λaA=>by unfold T329;rfl) (lp.ev (i:=()) rfl)
theorem J0(s:aE)(t:List bT):Pos (fO s t):=((aP _).1 (sS s t)).pos
theorem f299(s:aE)(t:List bT)(hz:SzS s)(h1:t.length<=aV)(h2:∀ i,i<t.length->(gt t i).1.length<=aV):Ran p 5 299 [va K50 s, vf K62 (t,())] (rO K50 (prune s t)):=go299 λn hn=>by
 cases hs:aM s with
 | false=>exact Ev.now λaA=>by unfold T299;refine qC (f49 s (aK hz.a) (aK hz.b)) ?_;rw[hs];refine qt ?_;refine qC (f134 s hz) ?_;unfold prune;rw[hs];rfl
 | true=>
  have lp:It (λaA (_:Unit)=>c299_5 (aJ p n) aA s t) ((0:Int),([]:List aR)) (λ_=>rV K50 (prune s t)):=by
   refine It.accu (α:=aR) [] (fY s t) 5 1 (λi _=>p6 s t i) (λi hi acc ha aA u rec=>?_) (It.stop λaA u rec=>?_)
   ·show c299_5 (aJ p n) aA s t rec ((i:Int),acc)=rec (((i+1:Nat):Int),acc++fY s t i)
    have hb:acc.length+1<=bound+(1 - (fY s t i).length):=by simp at ha;unfold bound;omega
    unfold c299_5 fY;dsimp only;rw[aF (show i<9223372036854775807 by omega)];refine qP (show(i:Int)<5 by omega) ?_;refine qC (f334 t (i:Int) h1 h2) ?_;refine qC (f157 s (i:Int) hz) ?_;refine qC (f333 (fK t i) (gone s i)) ?_
    by_cases h:mxI false (fK t i) (gone s i)>0
    ·refine qP h ?_;refine qP (by unfold fY at hb;rw[decide_eq_true h] at hb;exact hb) ?_;rw[decide_eq_true h];rfl
    ·refine qN h ?_;rw[decide_eq_false h];show rec _=rec _;rw[show(bif false then[((i:Int),mxI false (fK t i) (gone s i),())] else[])=([]:List aR)from rfl,List.append_nil];rfl
   ·unfold c299_5;dsimp only;refine qe ?_;refine qC (f238 s (fO s t) hz (yW s t) ((aP s).1 hs).pos (J0 s t)) ?_;unfold prune;rw[hs];rfl
  exact Ev.eq (λaA=>by unfold T299;refine qC (f49 s (aK hz.a) (aK hz.b)) ?_;rw[hs];rfl) (lp.ev (i:=()) rfl)
theorem f291(s:aE)(t:List bT)(hz:SzS s)(h1:t.length<=aV)(h2:∀ i,i<t.length->(gt t i).1.length<=aV):Ran p 6 291 [va K50 s, vf K62 (t,())] (rO K50 (prune s t)):=go291 λn hn=>by
 cases hs:aM s with
 | false=>exact Ev.now λaA=>by unfold T291;refine qC (f46 s (aK hz.a) (aK hz.b)) ?_;rw[hs];refine qt ?_;refine qC (f123 s hz) ?_;unfold prune;rw[hs];rfl
 | true=>
  have lp:It (λaA (_:Unit)=>c291_5 (aJ p n) aA s t) ((0:Int),([]:List aR)) (λ_=>rV K50 (prune s t)):=by
   refine It.accu (α:=aR) [] (fY s t) 5 1 (λi _=>p6 s t i) (λi hi acc ha aA u rec=>?_) (It.stop λaA u rec=>?_)
   ·show c291_5 (aJ p n) aA s t rec ((i:Int),acc)=rec (((i+1:Nat):Int),acc++fY s t i)
    have hb:acc.length+1<=bound+(1 - (fY s t i).length):=by simp at ha;unfold bound;omega
    unfold c291_5 fY;dsimp only;rw[aF (show i<9223372036854775807 by omega)];refine qP (show(i:Int)<5 by omega) ?_;refine qC (f329 t (i:Int) h1 h2) ?_;refine qC (f61 s (i:Int) hz) ?_
    by_cases h:mxI false (fK t i) (gone s i)>0
    ·refine qP h ?_;refine qP (by unfold fY at hb;rw[decide_eq_true h] at hb;exact hb) ?_;rw[decide_eq_true h];rfl
    ·refine qN h ?_;rw[decide_eq_false h];show rec _=rec _;rw[show(bif false then[((i:Int),mxI false (fK t i) (gone s i),())] else[])=([]:List aR)from rfl,List.append_nil];rfl
   ·unfold c291_5;dsimp only;refine qe ?_;refine qC (f233 s (fO s t) hz (yW s t)) ?_;unfold prune;rw[hs];rfl
  exact Ev.eq (λaA=>by unfold T291;refine qC (f46 s (aK hz.a) (aK hz.b)) ?_;rw[hs];rfl) (lp.ev (i:=()) rfl)
-- taking
theorem OZ{x:NodeT}(hz:SzN x)(s:aE):(tkS x s).length<=aV/\∀ i,i<(tkS x s).length->(gt (tkS x s) i).1.length<=aV:=⟨(mV hz s).seen,(mV hz s).lines⟩
structure TakeOk (x:NodeT):Prop where
 state:aM x.state=true
 rises:((x.rises.length:Int)==5)=true
theorem EF{x:NodeT}(h:NodeOk x):TakeOk x:=⟨h.state,h.rises⟩
theorem KZ{x:NodeT}{s:aE}(h:TakeOk x)(hs:aM s=true){i:Nat}(hi:i<(tkP x s).1.length):0<=(gt (tkP x s).1 i).1/\(gt (tkP x s).1 i).1.toNat<(cZ x.clock x.rises (tkP x s).1 i).length:=by
 have h1:=(((aP (tkP x s)).1 (AV (sQ h.state hs) (tkS x s))).item _ (bZ hi)).1
 unfold eF at h1;rw[aQ] at h1
 have h2:=eq_of_beq h.rises
 rw[iG];omega
theorem GK(c:Int)(rs:List kT)(xs:List bN)(i:Nat):cZ c rs xs (i+1)=bif q9 (gt (cZ c rs xs i) (gt xs i).1.toNat) (gt xs i).2 then(cZ c rs xs i).set (gt xs i).1.toNat ((gt xs i).2.1,(gt xs i).2.2.2.1,c,())else cZ c rs xs i:=by
 show(cZ c rs xs i).set _ (nZ c _ _)=_
 unfold nZ
 cases q9 (gt (cZ c rs xs i) (gt xs i).1.toNat) (gt xs i).2 with
 | true=>rfl
 | false=>exact uB
theorem f227(x:NodeT)(s:aE)(hz:SzN x)(hs':SzS s)(h:TakeOk x)(hs:aM s=true):Ran p 7 227 [va K66 x, va K50 s] (rO K66 (jD x s)):=go227 λn hn=>by
 have hj:=m6 x.state s
 have ht:=OZ hz s
 have hp:=IG x s
 have lp:It (λaA (_:Unit)=>c227_7 (aJ p n) aA x ((x,()),()) (((tkS x s,()),()),()) ((tkP x s,()),()) ((cM (tkP x s),()),())) ((0:Int),x.rises) (λ_=>rV K66 (jD x s)):=by
  refine It.run (λi=>((i:Int),cZ x.clock x.rises (tkP x s).1 i)) (tkP x s).1.length (λi hi aA u rec=>?_) (It.stop λaA u rec=>?_)
  ·show c227_7 (aJ p n) aA x ((x,()),()) (((tkS x s,()),()),()) ((tkP x s,()),()) ((cM (tkP x s),()),()) rec ((i:Int),cZ x.clock x.rises (tkP x s).1 i)=rec (((i+1:Nat):Int),cZ x.clock x.rises (tkP x s).1 (i+1))
   obtain⟨h0,hl⟩:=KZ h hs hi
   unfold c227_7;dsimp only;rw[aF (i63 hi hp.a),GK];unfold q9;refine ql hi ?_;refine qz ?_;refine(aD hi).trans ?_;refine(aD hi).trans ?_;refine qP h0 ?_;refine(bA hl).trans ?_;refine(bA hl).trans ?_
   by_cases h1:(gt (tkP x s).1 i).2.1>(gt (cZ x.clock x.rises (tkP x s).1 i) (gt (tkP x s).1 i).1.toNat).1
   ·refine qP h1 ?_;refine qP h0 ?_;refine(bA hl).trans ?_;refine(bA hl).trans ?_;rw[decide_eq_true h1];rfl
   ·refine qN h1 ?_;rw[decide_eq_false h1]
    cases h2:(gt (tkP x s).1 i).2.1==(gt (cZ x.clock x.rises (tkP x s).1 i) (gt (tkP x s).1 i).1.toNat).1 with
    | false=>rfl
    | true=>
     refine qt ?_
     by_cases h3:(gt (tkP x s).1 i).2.2.2.1>(gt (cZ x.clock x.rises (tkP x s).1 i) (gt (tkP x s).1 i).1.toNat).2.1
     ·refine qP h3 ?_;refine qP h0 ?_;refine(bA hl).trans ?_;refine(bA hl).trans ?_;rw[decide_eq_true h3];rfl
     ·refine qN h3 ?_;rw[decide_eq_false h3];rfl
  ·unfold c227_7;dsimp only;refine qe ?_;rfl
 exact Ev.eq (λaA=>by
  unfold T227;refine qC (f132 x hz) ?_;refine qC (f238 x.state s hz.state hs' ((aP _).1 h.state).pos ((aP _).1 hs).pos) ?_;refine qC (f298 (dK x.state s) hj) ?_
  refine qC (f297 x.seen x.1 (d8 (dK x.state s)) hz.seen hz.lines (Nat.le_trans (iL _) (by decide))) ?_;refine qC (f299 (dK x.state s) (tkS x s) hj ht.1 ht.2) ?_;refine qC (f112 (tkP x s) hp) ?_;rfl) (lp.ev (i:=()) rfl)
theorem f220(x:NodeT)(s:aE)(hz:SzN x)(hs':SzS s)(h:NodeOk x)(hs:aM s=true):Ran p 8 220 [va K66 x, va K50 s] ⟨[⟨K66,jD x s⟩,⟨K4,(true,())⟩],[]⟩:=go220 λn hn=>by
 have hj:=m6 x.state s
 have ht:=OZ hz s
 have hp:=IG x s
 have lp:It (λaA (_:Unit)=>c220_9 (aJ p n) aA x ((x,()),()) (((tkS x s,()),()),()) ((tkP x s,()),()) ((cM (tkP x s),()),())) ((0:Int),x.rises) (λ_=>some ⟨[⟨K66,jD x s⟩,⟨K4,(true,())⟩],[]⟩):=by
  refine It.run (λi=>((i:Int),cZ x.clock x.rises (tkP x s).1 i)) (tkP x s).1.length (λi hi aA u rec=>?_) (It.stop λaA u rec=>?_)
  ·show c220_9 (aJ p n) aA x ((x,()),()) (((tkS x s,()),()),()) ((tkP x s,()),()) ((cM (tkP x s),()),()) rec ((i:Int),cZ x.clock x.rises (tkP x s).1 i)=rec (((i+1:Nat):Int),cZ x.clock x.rises (tkP x s).1 (i+1))
   obtain⟨h0,hl⟩:=KZ (EF h) hs hi
   unfold c220_9;dsimp only;rw[aF (i63 hi hp.a),GK];unfold q9;refine ql hi ?_;refine qz ?_;refine(aD hi).trans ?_;refine(aD hi).trans ?_;refine qP h0 ?_;refine(bA hl).trans ?_;refine(bA hl).trans ?_
   by_cases h1:(gt (tkP x s).1 i).2.1>(gt (cZ x.clock x.rises (tkP x s).1 i) (gt (tkP x s).1 i).1.toNat).1
   ·refine qP h1 ?_;refine(bA hl).trans ?_;rw[decide_eq_true h1];rfl
   ·refine qN h1 ?_;refine(bA hl).trans ?_;rw[decide_eq_false h1]
    cases h2:(gt (tkP x s).1 i).2.1==(gt (cZ x.clock x.rises (tkP x s).1 i) (gt (tkP x s).1 i).1.toNat).1 with
    | false=>rfl
    | true=>
     refine qt ?_;refine(bA hl).trans ?_
     by_cases h3:(gt (tkP x s).1 i).2.2.2.1>(gt (cZ x.clock x.rises (tkP x s).1 i) (gt (tkP x s).1 i).1.toNat).2.1
     ·refine qP h3 ?_;refine(bA hl).trans ?_;rw[decide_eq_true h3];rfl
     ·refine qN h3 ?_;rw[decide_eq_false h3];rfl
  ·unfold c220_9;dsimp only;refine qe ?_;rfl
 exact Ev.eq (λaA=>by
  unfold T220;refine qC (f121 x hz) ?_;refine qC (f44 x hz) ?_;rw[(dW x).2 h];refine qf ?_;refine qC (f46 s (aK hs'.a) (aK hs'.b)) ?_;rw[hs];refine qf ?_;refine qC (f233 x.state s hz.state hs') ?_;refine qC (f284 (dK x.state s) hj) ?_
  refine qC (f285 x.seen x.1 (d8 (dK x.state s)) hz.seen hz.lines (Nat.le_trans (iL _) (by decide))) ?_;refine qC (f291 (dK x.state s) (tkS x s) hj ht.1 ht.2) ?_;refine qC (f101 (tkP x s) hp) ?_;rfl) (lp.ev (i:=()) rfl)
end Go.Abs.Pz
namespace Go.Abs.Pz
open Go Go.Abs
theorem f167(v:List aH)(a b:Int)(hv:v.length<=aV):Ran p 2 167 [vf K38 (v,()), vf K3 (a,()), vf K3 (b,())] (rO K4 (rE v a b,())):=go167 λn hn=>by
 by_cases h:(v.length:Int)>a
 ·exact Ev.now λaA=>by unfold T167 rE;rw[decide_eq_true h];exact nU h
 ·have lp:It (λaA (_:Unit)=>c167_4 (aJ p n) aA v b) (0:Int) (λ_=>oB (lM v b)):=by
   refine cV (It.allB v.length (λi=>inB (gt v i).1 0 b) true (λi hi aA u rec=>?_) (It.stop λaA u rec=>?_))
   ·unfold c167_4;rw[aF (i63 hi hv)];refine ql hi ?_;refine qz ?_;refine(aD hi).trans ?_;refine qC (f47 (gt v i).1 0 b) ?_;exact fin
   ·unfold c167_4;refine qe ?_;rfl
  have e:rE v a b=lM v b:=by unfold rE;rw[decide_eq_false h];rfl
  rw[e]
  exact Ev.eq (λaA=>by unfold T167;exact jP h) (lp.ev (i:=()) rfl)
theorem f166(t:kN)(ht:t.1.length<=aV):Ran p 3 166 [va K46 t] (rO K4 (treeB t,())):=go166 λn hn=>Ev.now λaA=>by
 unfold T166 treeB
 cases h0:(t.1.length:Int)==0 with
 | true=>exact jW h0
 | false=>
  refine qF h0 ?_
  cases h4:(t.1.length:Int)==4 with
  | false=>exact gR h4
  | true=>
   refine qT h4 ?_;refine qC (f167 t.1 4 1023 ht) ?_
   have e:rE t.1 4 1023=lM t.1 1023:=by unfold rE;rw[decide_eq_false (by have:=eq_of_beq h4;omega)];rfl
   rw[e]
   cases lM t.1 1023 with
   | false=>rfl
   | true=>refine qt ?_;refine qC (f47 t.2.1 0 1023) ?_;rfl
theorem f279(t:kN)(ht:t.1.length<=aV):Ran p 2 279 [va K46 t] (rO K4 (treeB t,())):=go279 λn hn=>by
 cases h0:(t.1.length:Int)==0 with
 | true=>exact Ev.now λaA=>by unfold T279 treeB;rw[h0];exact jW h0
 | false=>
  have lp:It (λaA (_:Unit)=>c279_4 (aJ p n) aA t) (0:Int) (λ_=>oB (lM t.1 1023&&((t.1.length:Int)==4&&inB t.2.1 0 1023))):=by
   refine It.allB t.1.length (λi=>inB (gt t.1 i).1 0 1023) _ (λi hi aA u rec=>?_) (It.stop λaA u rec=>?_)
   ·unfold c279_4;rw[aF (i63 hi ht)];refine ql hi ?_;refine qz ?_;refine(aD hi).trans ?_;refine qC (f43 (gt t.1 i).1 0 1023) ?_;exact fin
   ·unfold c279_4;refine qe ?_
    cases h4:(t.1.length:Int)==4 with
    | false=>exact gR h4
    | true=>refine qT h4 ?_;refine qC (f43 t.2.1 0 1023) ?_;rfl
  have e:treeB t=(lM t.1 1023&&((t.1.length:Int)==4&&inB t.2.1 0 1023)):=by unfold treeB;rw[h0];show(_&&(_&&_))=_;ac_rfl
  rw[e]
  exact Ev.eq (λaA=>by unfold T279;exact gR h0) (lp.ev (i:=()) rfl)
theorem f75(m:MsgT)(hz:SzM m):Ran p 4 75 [va K53 m] (rO K4 (dZ m,())):=go75 λn hn=>by
 have lp:It (λaA (_:Unit)=>c75_6 (aJ p n) aA m) (1:Int) (λ_=>oB (bP (m.leaves.length - 1) (HE m.leaves))):=by
  have:=It.all (c:=λaA (_:Unit)=>c75_6 (aJ p n) aA m) (rA:=λ_=>oB true) (rB:=λ_=>oB false) (λi=>(((i+1:Nat)):Int)) (m.leaves.length - 1) (HE m.leaves) (λi hi aA u rec=>by
   have hi1:i+1<m.leaves.length:=by omega
   have hl:=hz.list
   unfold c75_6;rw[aF (i63 hi1 hl)];refine ql hi1 ?_;refine qz ?_;refine(aD hi1).trans ?_;rw[jY (i63 hi1 hl) (by omega)];refine qz ?_;refine(aD (show i<m.leaves.length by omega)).trans ?_;exact FL) (It.stop λaA u rec=>by
   unfold c75_6;refine qN (show ¬ (((m.leaves.length - 1+1:Nat)):Int)<(m.leaves.length:Int) by omega) ?_;rfl)
  refine cast ?_ this
  congr 1;funext u;exact U2
 rw[<- LI]
 have key:∃ N,∀ aA,N<=aA->T75 (aJ p n) aA m=oB (A4 m):=by
  obtain⟨N,hN⟩:=lp.all_i
  refine⟨N,λaA hf=>?_⟩
  unfold T75 A4
  refine qC (f47 m.1 0 5) ?_;refine dJ λ_=>?_;refine qC (f118 m.2.1) ?_;refine dJ λ_=>?_;refine qC (f118 m.2.2.1) ?_;refine dJ λ_=>?_;refine tZ λ_=>?_;refine qC (f47 m.2.2.2.1 0 100000) ?_;refine dJ λ_=>?_;refine qC (f47 m.hi 0 100000) ?_;refine dJ λ_=>?_
  refine qC (f166 m.tree hz.leaves) ?_;refine dJ λ_=>?_;refine qC (f167 m.vec 5 100000 hz.vec) ?_;refine dJ λ_=>?_;refine qC (f167 m.leaves 4 3 hz.list) ?_;refine dJ λ_=>?_;refine qC (f49 m.part (aK hz.part.a) (aK hz.part.b)) ?_;refine dJ λ_=>?_;refine qC (f168 m.marks (aK hz.marks)) ?_;refine dJ λ_=>?_
  exact hN aA hf ()
 exact key
theorem f209(m:MsgT)(hz:SzM m):Ran p 4 209 [va K53 m] (rO K4 (dZ m,())):=go209 λn hn=>by
 have inner:It (λaA (_:Unit)=>c209_10 (aJ p n) aA m) (0:Int) (λ_=>oB (lM m.vec 100000&&(inB m.2.2.2.1 0 100000&&(inB m.hi 0 100000&&(treeB m.tree&&(decide ((m.vec.length:Int)<=5)&&(aM m.part&&eS m.marks))))))):=by
  refine It.allB m.vec.length (λi=>inB (gt m.vec i).1 0 100000) _ (λi hi aA u rec=>?_) (It.stop λaA u rec=>?_)
  ·unfold c209_10;rw[aF (i63 hi hz.vec)];refine ql hi ?_;refine qz ?_;refine(aD hi).trans ?_;refine qC (f43 (gt m.vec i).1 0 100000) ?_;exact fin
  ·unfold c209_10;refine qe ?_;refine qC (f43 m.2.2.2.1 0 100000) ?_;refine gB λ_=>?_;refine qC (f43 m.hi 0 100000) ?_;refine gB λ_=>?_;refine qC (f279 m.tree hz.leaves) ?_;refine gB λ_=>?_;refine gB λ_=>?_;refine qC (f46 m.part (aK hz.part.a) (aK hz.part.b)) ?_;refine gB λ_=>?_;refine qC (f280 m.marks (aK hz.marks)) ?_;rfl
 have lp:It (λaA (_:Unit)=>c209_4 (aJ p n) aA m) (0:Int) (λ_=>oB (bP m.leaves.length (v6 m.leaves)&&(lM m.vec 100000&&(inB m.2.2.2.1 0 100000&&(inB m.hi 0 100000&&(treeB m.tree&&(decide ((m.vec.length:Int)<=5)&&(aM m.part&&eS m.marks)))))))):=by
  refine It.allB m.leaves.length (v6 m.leaves) _ (λi hi aA u rec=>?_) (It.stopE (T:=λaA _=>iter (c209_10 (aJ p n) aA m) aA (0:Int)) (λaA u rec=>?_) inner.all_i)
  ·have hl:=hz.list
   unfold c209_4 v6;rw[aF (i63 hi hl)];refine ql hi ?_;refine qz ?_;refine(aD hi).trans ?_;refine qC (f43 (gt m.leaves i).1 0 3) ?_;refine chk λ_=>?_
   cases i with
   | zero=>refine qN (by decide) ?_;rfl
   | succ j=>refine qP (by omega) ?_;rw[jY (i63 hi hl) (by omega)];refine qz ?_;refine(aD (show j<m.leaves.length by omega)).trans ?_;exact FL
  ·unfold c209_4;refine qe ?_;rfl
 have key:∃ N,∀ aA,N<=aA->T209 (aJ p n) aA m=oB (dZ m):=by
  obtain⟨N,hN⟩:=lp.all_i
  refine⟨N,λaA hf=>?_⟩
  unfold T209 dZ qB
  rw[Bool.and_assoc,Bool.and_assoc,Bool.and_assoc]
  refine qC (f43 m.1 0 5) ?_;refine dJ λ_=>?_;refine qC (f109 m.2.1) ?_;refine dJ λ_=>?_;refine qC (f109 m.2.2.1) ?_;refine dJ λ_=>?_;refine tZ λ_=>?_
  exact hN aA hf ()
 exact key
-- what is shipped
theorem AF{n:Nat}{seq:Int}{l:iE}(h:gJ l seq=true):i64.wrap (seq - l.2.1)=((dM l seq:Nat):Int):=by
 have:=vD h;rw[IntKind.wrap_i64];omega
theorem f300(l:iE)(seq:Int)(hl:l.2.2.1.length<=aV)(hs:∀ i,i<l.2.2.1.length->SzS (gt l.2.2.1 i)):Ran p 5 300 [va K61 l, vf K3 (seq,())] ⟨[⟨K50,iO l seq⟩,⟨K4,(gJ l seq,())⟩],[]⟩:=go300 λn hn=>by
 cases hb:gJ l seq with
 | false=>
  exact Ev.now λaA=>by
   unfold T300 iO;rw[hb];refine qC (f113 l hl hs) ?_
   cases h1:fB l with
   | false=>rfl
   | true=>refine qf ?_;refine qC (f47 seq l.2.1 (i64.wrap (l.2.1+(l.2.2.1.length:Int)))) ?_;unfold gJ at hb;rw[h1] at hb;rw[show inB seq l.2.1 (i64.wrap (l.2.1+(l.2.2.1.length:Int)))=false from hb];rfl
 | true=>
  have hk:=vD hb
  have hb':=hb
  unfold gJ at hb';rw[Bool.and_eq_true] at hb'
  have lp:It (λaA (_:Unit)=>c300_5 (aJ p n) aA l) (((dM l seq:Nat):Int),([]:List bN),([]:List aR)) (λ_=>some ⟨[⟨K50,iO l seq⟩,⟨K4,(true,())⟩],[]⟩):=by
   refine It.run (λi=>(((dM l seq+i:Nat):Int),(fV l.2.2.1 (dM l seq) i).1,(fV l.2.2.1 (dM l seq) i).2.1)) (l.2.2.1.length - dM l seq) (λi hi aA u rec=>?_) (It.stop λaA u rec=>?_)
   ·have hi1:dM l seq+i<l.2.2.1.length:=by omega
    have o1:=(aP _).1 (t9 hb'.1 (dM l seq) i (by omega))
    have o2:=(aP _).1 (show aM (gt l.2.2.1 (dM l seq+i))=true by have h1:=hb'.1;unfold fB at h1;simp only[Bool.and_eq_true] at h1;exact bJ.1 h1.2.2.2.2 _ hi1)
    unfold c300_5;dsimp only;rw[aF (i63 hi1 hl)];refine ql hi1 ?_;refine qz ?_;refine(aD hi1).trans ?_;refine qC (f238 (fV l.2.2.1 (dM l seq) i) (gt l.2.2.1 (dM l seq+i)) (t8 _ _ _) (hs _ hi1) o1.pos o2.pos) ?_;rfl
   ·unfold c300_5;dsimp only;refine qN (show ¬ ((dM l seq+(l.2.2.1.length - dM l seq):Nat):Int)<(l.2.2.1.length:Int) by omega) ?_;unfold iO;rw[hb];rfl
  exact Ev.eq (λaA=>by unfold T300;refine qC (f113 l hl hs) ?_;rw[hb'.1];refine qf ?_;refine qC (f47 seq l.2.1 (i64.wrap (l.2.1+(l.2.2.1.length:Int)))) ?_;rw[hb'.2];refine qf ?_;rw[AF (n:=0) hb];rfl) (lp.ev (i:=()) rfl)
theorem f292(l:iE)(seq:Int)(hl:l.2.2.1.length<=aV)(hs:∀ i,i<l.2.2.1.length->SzS (gt l.2.2.1 i)):Ran p 6 292 [va K61 l, vf K3 (seq,())] ⟨[⟨K50,iO l seq⟩,⟨K4,(gJ l seq,())⟩],[]⟩:=go292 λn hn=>by
 have hq:fB l=true->cJ l=i64.wrap (l.2.1+(l.2.2.1.length:Int)):=λh=>by unfold cJ;rw[h];rfl
 cases hb:gJ l seq with
 | false=>
  exact Ev.now λaA=>by
   unfold T292 iO;rw[hb];refine qC (f103 l hl hs) ?_
   cases h1:fB l with
   | false=>rfl
   | true=>refine qf ?_;refine qC (f102 l hl hs) ?_;rw[hq h1];refine qC (f43 seq l.2.1 (i64.wrap (l.2.1+(l.2.2.1.length:Int)))) ?_;unfold gJ at hb;rw[h1] at hb;rw[show inB seq l.2.1 (i64.wrap (l.2.1+(l.2.2.1.length:Int)))=false from hb];rfl
 | true=>
  have hk:=vD hb
  have hb':=hb
  unfold gJ at hb';rw[Bool.and_eq_true] at hb'
  have hw:=AF (n:=0) hb
  have e:((l.2.2.1.take l.2.2.1.length).drop ((i64.wrap (seq - l.2.1))).toNat)=l.2.2.1.drop (dM l seq):=by rw[hw,List.take_length];rfl
  have lp:It (λaA (_:Unit)=>c292_5 (aJ p n) aA l seq) ((0:Int),([]:List bN),([]:List aR)) (λ_=>some ⟨[⟨K50,iO l seq⟩,⟨K4,(true,())⟩],[]⟩):=by
   refine It.run (λi=>((i:Int),(fV l.2.2.1 (dM l seq) i).1,(fV l.2.2.1 (dM l seq) i).2.1)) (l.2.2.1.length - dM l seq) (λi hi aA u rec=>?_) (It.stop λaA u rec=>?_)
   ·have hi1:dM l seq+i<l.2.2.1.length:=by omega
    have hi2:i<((l.2.2.1.take l.2.2.1.length).drop ((i64.wrap (seq - l.2.1))).toNat).length:=by rw[e,List.length_drop];omega
    have hg:gt ((l.2.2.1.take l.2.2.1.length).drop ((i64.wrap (seq - l.2.1))).toNat) i=gt l.2.2.1 (dM l seq+i):=by
     rw[e,cS (by rw[List.length_drop];omega),cS hi1,List.getElem_drop]
    have hj:fV l.2.2.1 (dM l seq) (i+1)=dK (fV l.2.2.1 (dM l seq) i) (gt ((l.2.2.1.take l.2.2.1.length).drop ((i64.wrap (seq - l.2.1))).toNat) i):=by rw[hg];rfl
    have hz2:=hs _ hi1
    rw[<- hg] at hz2
    show c292_5 (aJ p n) aA l seq rec ((i:Int),(fV l.2.2.1 (dM l seq) i).1,(fV l.2.2.1 (dM l seq) i).2.1)=rec (((i+1:Nat):Int),(fV l.2.2.1 (dM l seq) (i+1)).1,(fV l.2.2.1 (dM l seq) (i+1)).2.1)
    rw[hj];unfold c292_5;dsimp only;rw[aF (show i<9223372036854775807 by have:=i63 hi1 hl;omega)];refine ql hi2 ?_;refine qz ?_;refine(aD hi2).trans ?_;refine qC (f233 (fV l.2.2.1 (dM l seq) i) _ (t8 _ _ _) hz2) ?_;rfl
   ·unfold c292_5;dsimp only;refine qN (show ¬ ((l.2.2.1.length - dM l seq:Nat):Int)<((((l.2.2.1.take l.2.2.1.length).drop ((i64.wrap (seq - l.2.1))).toNat).length:Nat):Int) by rw[e,List.length_drop];omega) ?_;unfold iO;rw[hb];rfl
  exact Ev.eq (λaA=>by unfold T292;refine qC (f103 l hl hs) ?_;rw[hb'.1];refine qf ?_;refine qC (f102 l hl hs) ?_;rw[hq hb'.1];refine qC (f43 seq l.2.1 (i64.wrap (l.2.1+(l.2.2.1.length:Int)))) ?_;rw[hb'.2];refine qf ?_;exact CC (show(0:Int)<=i64.wrap (seq - l.2.1) by rw[hw];omega) (show i64.wrap (seq - l.2.1)<=(l.2.2.1.length:Int) by rw[hw];omega)) (lp.ev (i:=()) rfl)
theorem f230(x:NodeT)(seq:Int)(hz:SzN x):Ran p 6 230 [va K66 x, vf K3 (seq,())] ⟨[⟨K50,oK x seq⟩,⟨K4,(gJ x.log seq,())⟩],[]⟩:=go230 λn hn=>Ev.now λaA=>by
 unfold T230 oK;refine qD (f300 x.log seq hz.list hz.logs) ?_
 cases gJ x.log seq with
 | true=>rfl
 | false=>refine qf ?_;refine qC (f134 x.state hz.state) ?_;rfl
theorem f221(x:NodeT)(seq:Int)(hz:SzN x)(h:NodeOk x):Ran p 8 221 [va K66 x, vf K3 (seq,())] ⟨[⟨K50,oK x seq⟩,⟨K4,(gJ x.log seq,())⟩],[]⟩:=go221 λn hn=>Ev.now λaA=>by
 unfold T221 oK;refine qC (f44 x hz) ?_;rw[(dW x).2 h];refine qf ?_;refine qD (f292 x.log seq hz.list hz.logs) ?_
 cases gJ x.log seq with
 | true=>rfl
 | false=>refine qt ?_;refine qC (f123 x.state hz.state) ?_;rfl
theorem GA{s:aE}(h:aM s=true):s.1.length<=1000/\s.2.1.length<=1000:=by have:=((aP s).1 h).len;omega
theorem f340(x:NodeT)(ls:List aH)(seq:Int)(hz:SzN x)(h:NodeOk x)(hl:ls.length<=aV):Ran p 7 340 [va K66 x, vf K38 (ls,()), vf K3 (seq,())] (rO K50 (vX x ls seq)):=go340 λn hn=>Ev.now λaA=>by
 have hm:=GA h.state
 unfold T340;refine qD (f230 x seq hz) ?_;refine qC (f276 x.state ls (aK hl) hm.1 hm.2) ?_;refine qC (f238 (jS x.state ls) (oK x seq) (GC hz.state ls) (AG hz seq) ((aP _).1 (GD h.state ls)).pos ((aP _).1 (GE h seq)).pos) ?_;rfl
theorem f217(x:NodeT)(ls:List aH)(m:MsgT)(hz:SzN x)(h:NodeOk x)(hl:ls.length<=aV)(h0:0<=x.1)(hv:x.1.toNat<m.vec.length):Ran p 9 217 [va K66 x, vf K38 (ls,()), va K53 m] (rO K50 (vX x ls (gt m.vec x.1.toNat).1)):=go217 λn hn=>Ev.now λaA=>by
 have hm:=GA h.state
 unfold T217;refine qP h0 ?_;refine(bA hv).trans ?_;refine qD (f221 x (gt m.vec x.1.toNat).1 hz h) ?_;refine qC (f274 x.state ls (aK hl) hm.1 hm.2 h.state) ?_;refine qC (f233 (jS x.state ls) (oK x (gt m.vec x.1.toNat).1) (GC hz.state ls) (AG hz _)) ?_;rfl
end Go.Abs.Pz
