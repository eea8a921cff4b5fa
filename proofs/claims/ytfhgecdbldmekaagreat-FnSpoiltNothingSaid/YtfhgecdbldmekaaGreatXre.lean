/- What the functions of this program answer, part re. -/
import Derived.Test.YtfhgecdbldmekaaGreatW3
import Derived.Test.YtfhgecdbldmekaaGreatXk
import Derived.Test.YtfhgecdbldmekaaGreatXa
import Derived.Test.YtfhgecdbldmekaaGreatXm
import Derived.Test.YtfhgecdbldmekaaGreatW2
import Derived.Test.YtfhgecdbldmekaaGreatXep
set_option linter.unusedVariables false
open Go.IntKind (i64)
namespace Go.Abs.Pz
open Go Go.Abs
theorem P9(xs:List bL):cnT (.sl K106) xs=6*(xs.length:Int):=jZ (c:=cnR K106) (n:=6) (λx=>rfl) xs
theorem M6(xs:List aO):cnT (.sl K154) xs=2*(xs.length:Int):=jZ (c:=cnR K154) (n:=2) (λx=>rfl) xs
theorem yW(xs:List aH):cnT (.sl K3) xs=1*(xs.length:Int):=jZ (c:=cnR K3) (n:=1) (λx=>rfl) xs
end Go.Abs.Pz
namespace Go.Abs.Pz
open Go Go.Abs
def L1:bM:=(List.replicate ((5:Int)).toNat (eS K3),())
def dQ(n:Int):List bM:=bif inB n 1 5 then List.replicate n.toNat L1 else[]
theorem f271(a:Int):Ran p 2 271 [vf K3 (a,())] (rO K62 (dQ a,())):=go271 λn hn=>by
 cases h:inB a 1 5 with
 | false=>exact Ev.now λaA=>by unfold T271 dQ;refine qC (f47 a 1 5) ?_;rw[h];rfl
 | true=>
  have ha:=aL.1 h
  have lp:It (λaA (_:Unit)=>c271_5 (aI p n) aA a) ((0:Int),([]:List (Row K38))) (λ_=>rV K62 (dQ a,())):=by
   refine It.run (λi=>((i:Int),List.replicate i L1)) a.toNat (λi hi aA u rec=>?_) (It.stop λaA u rec=>?_)
   ·unfold c271_5;dsimp only;rw[aF (by omega)];refine qP (by omega) ?_;refine qT (by decide) ?_;refine qP ?_ ?_
    ·show List.length (List.replicate i L1)+1<=bound;rw[List.length_replicate];unfold bound;omega
    ·rw[List.replicate_succ'];rfl
   ·unfold c271_5;dsimp only;refine qN (by omega) ?_;unfold dQ;rw[h];rfl
  exact Ev.eq (λaA=>by unfold T271;refine qC (f47 a 1 5) ?_;rw[h];rfl) (lp.ev (i:=()) rfl)
def TX:NodeT:=((0:Int),(0:Int),[],[],[],(0:Int),(0:Int),(0:Int),[],[],[],[],(0:Int),(0:Int),[],(0:Int),(0:Int),(0:Int),[],())
def gJ(id n cap slots wait lim:Int):NodeT:=(id,n,[],[],(cH ([],[],())).1,(cH ([],[],())).2.1,cap,(0:Int),[],List.replicate n.toNat (eS K3),List.replicate n.toNat (eS K3),dQ n,
 (0:Int),slots,[],wait,lim,(0:Int),List.replicate ((5:Int)).toNat (eS K127),())
theorem zE(s:aE):(cH s).1.length<=4:=by
 unfold cH;cases aM s with
 | true=>exact Nat.le_refl 4
 | false=>exact Nat.zero_le _
theorem PI:SzN TX:=⟨⟨Nat.zero_le _,Nat.zero_le _⟩,Nat.zero_le _,Nat.zero_le _,(λi hi=>absurd hi (Nat.not_lt_zero _)),Nat.zero_le _,Nat.zero_le _,Nat.zero_le _,(λi hi=>absurd hi (Nat.not_lt_zero _)),Nat.zero_le _,Nat.zero_le _⟩
theorem DU{n:Int}(h:inB n 1 5=true):(dQ n).length<=5:=by
 have:=aL.1 h
 unfold dQ;rw[h];show(List.replicate n.toNat L1).length<=5;rw[List.length_replicate];omega
theorem oG{n:Int}(h:inB n 1 5=true){i:Nat}(hi:i<(dQ n).length):gt (dQ n) i=L1:=by
 rw[cJ hi];unfold dQ;simp[h]
theorem tL(id n cap slots wait lim:Int)(h:inB n 1 5=true):SzN (gJ id n cap slots wait lim):=by
 have hh:=aL.1 h
 have e:List.length (List.replicate n.toNat (eS K3))<=aP:=by rw[List.length_replicate];unfold aP;omega
 refine⟨⟨Nat.zero_le _,Nat.zero_le _⟩,Nat.le_trans (zE _) (by decide),Nat.zero_le _,(λi hi=>absurd hi (Nat.not_lt_zero _)),e,e,Nat.le_trans (DU h) (by decide),λi hi=>?_,Nat.zero_le _,?_⟩
 ·rw[show gt (gJ id n cap slots wait lim).seen i=L1 from oG h hi];decide
 ·show List.length (List.replicate ((5:Int)).toNat (eS K127))<=aP
  rw[List.length_replicate];decide
def pU(id n cap slots wait lim:Int):Bool:=inB n 1 5&&dU (gJ id n cap slots wait lim)
def qQ(id n cap slots wait lim:Int):NodeT:=bif pU id n cap slots wait lim then gJ id n cap slots wait lim else TX
theorem s00:SzS ([],[],()):=⟨Nat.zero_le _,Nat.zero_le _⟩
theorem dd{n:Int}(h:inB n 1 5=true):(decide (0<=n)&&decide (n<=(bound:Int))&&decide (n=n))=true:=by
 have:=aL.1 h
 unfold bound;simp;omega
theorem f193(id m cap slots wait lim:Int):Ran p 8 193 [vf K3 (id,()), vf K3 (m,()), vf K3 (cap,()), vf K3 (slots,()), vf K3 (wait,()), vf K3 (lim,())] ⟨[⟨K66,qQ id m cap slots wait lim⟩,⟨K4,(pU id m cap slots wait lim,())⟩],[]⟩:=go193 λn hn=>Ev.now λaA=>by
 show T193 (aI p n) aA id m cap slots wait lim=some ⟨[⟨K66,qQ id m cap slots wait lim⟩,⟨K4,(pU id m cap slots wait lim,())⟩],[]⟩
 unfold T193 qQ pU
 refine qC (f47 m 1 5) ?_
 cases h:inB m 1 5 with
 | false=>rfl
 | true=>
  refine qf ?_
  refine qC (f112 ([],[],()) s00) ?_
  refine qT (dd h) ?_;refine qT (dd h) ?_
  refine qC (f271 m) ?_
  refine qT (by decide) ?_
  refine qC (f48 (gJ id m cap slots wait lim) (tL _ _ _ _ _ _ h)) ?_
  cases dU (gJ id m cap slots wait lim)<;>rfl
theorem PJ(id n cap slots wait lim:Int):SzN (qQ id n cap slots wait lim):=by
 unfold qQ
 cases h:pU id n cap slots wait lim with
 | false=>exact PI
 | true=>exact tL _ _ _ _ _ _ (by unfold pU at h;simp only[Bool.and_eq_true] at h;exact h.1)
def eK(n cap slots wait lim:Int)(k:Nat):List NodeT:=(List.range k).map fun(i:Nat)=>qQ (i:Int) n cap slots wait lim
theorem EF(n cap slots wait lim:Int)(k:Nat):eK n cap slots wait lim (k+1)=eK n cap slots wait lim k++[qQ (k:Int) n cap slots wait lim]:=by
 unfold eK;rw[List.range_succ,List.map_append];rfl
theorem gU(n cap slots wait lim:Int)(k:Nat):(eK n cap slots wait lim k).length=k:=by unfold eK;simp
theorem tK(n cap slots wait lim:Int){k i:Nat}(h:i<k):gt (eK n cap slots wait lim k) i=qQ (i:Int) n cap slots wait lim:=by
 rw[cJ (by rw[gU];exact h)];unfold eK;simp
def cZ(n:Int):Nat:=min n.toNat 6
def wnW(n cap slots wait lim:Int):aV:=(eK n cap slots wait lim (cZ n),[],[],())
def BT(n cap slots wait lim:Int):Bool:=cE (wnW n cap slots wait lim)
def w7(n cap slots wait lim:Int):aV:=bif BT n cap slots wait lim then wnW n cap slots wait lim else([],[],[],())
theorem zB(n:Int):cZ n<=6:=Nat.min_le_right _ _
theorem NR(n cap slots wait lim:Int):SzW (wnW n cap slots wait lim):=by
 have hc:=zB n
 refine⟨?_,λi hi=>?_,Nat.zero_le _,Nat.zero_le _,λi hi=>absurd hi (Nat.not_lt_zero _)⟩
 ·show(eK n cap slots wait lim (cZ n)).length<=aP
  rw[gU];unfold aP;omega
 ·have hi':i<cZ n:=by rw[<- gU n cap slots wait lim (cZ n)];exact hi
  rw[show gt (wnW n cap slots wait lim).1 i=_ from tK n cap slots wait lim hi']
  exact PJ _ _ _ _ _ _
theorem NQ{n cap slots wait lim:Int}(h:bI (cZ n) (λi=>pU (i:Int) n cap slots wait lim)=false):BT n cap slots wait lim=false:=by
 cases hw:BT n cap slots wait lim with
 | false=>rfl
 | true=>
  have:bI (cZ n) (λi=>pU (i:Int) n cap slots wait lim)=true:=by
   rw[bD]
   intro i hi
   have hn:=DM (w:=wnW n cap slots wait lim) hw (i:=i) (by show i<(eK n cap slots wait lim (cZ n)).length;rw[gU];exact hi)
   rw[show gt (wnW n cap slots wait lim).1 i=_ from tK n cap slots wait lim hi] at hn
   cases hx:pU (i:Int) n cap slots wait lim with
   | true=>rfl
   | false=>unfold qQ at hn;rw[hx] at hn;exact hn
  rw[this] at h;cases h
theorem f97(m cap slots wait lim:Int):Ran p 9 97 [vf K3 (m,()), vf K3 (cap,()), vf K3 (slots,()), vf K3 (wait,()), vf K3 (lim,())] ⟨[⟨K28,w7 m cap slots wait lim⟩,⟨K4,(BT m cap slots wait lim,())⟩],[]⟩:=go97 λn hn=>by
 have hc:=zB m
 have hrest:∀ β,β=(((aI p n 11 [va K28 (wnW m cap slots wait lim)]).bind (cN [K4] [])).bind λo2=>(bif(!(vB o2.1.1.1))then(some (⟨[⟨K28,(([],[],[],()):aV)⟩,⟨K4,(false,())⟩],[]⟩:Out))else(some ⟨[⟨K28,wnW m cap slots wait lim⟩,⟨K4,(true,())⟩],[]⟩)))->
   β=some ⟨[⟨K28,w7 m cap slots wait lim⟩,⟨K4,(BT m cap slots wait lim,())⟩],[]⟩:=by
  intro β h
  rw[h]
  refine qC (f11 (wnW m cap slots wait lim) (NR _ _ _ _ _)) ?_
  unfold w7 BT
  cases cE (wnW m cap slots wait lim)<;>rfl
 have lp:It (λaA (_:Unit)=>c97_3 (aI p n) aA m cap slots wait lim) ((0:Int),([]:List (Row K66)))
   (λ_=>bif bI (cZ m) (λi=>pU (i:Int) m cap slots wait lim)then some ⟨[⟨K28,w7 m cap slots wait lim⟩,⟨K4,(BT m cap slots wait lim,())⟩],[]⟩else some ⟨[⟨K28,(([],[],[],()):aV)⟩,⟨K4,(false,())⟩],[]⟩):=by
  refine It.all (λi=>((i:Int),eK m cap slots wait lim i)) (cZ m) (λi=>pU (i:Int) m cap slots wait lim) (rA:=λ_=>(some ⟨[⟨K28,w7 m cap slots wait lim⟩,⟨K4,(BT m cap slots wait lim,())⟩],[]⟩:Option Out)) (rB:=λ_=>(some ⟨[⟨K28,(([],[],[],()):aV)⟩,⟨K4,(false,())⟩],[]⟩:Option Out)) (λi hi aA u rec=>?_) (It.stop λaA u rec=>?_)
  ·show c97_3 (aI p n) aA m cap slots wait lim rec ((i:Int),eK m cap slots wait lim i)=bif pU (i:Int) m cap slots wait lim then rec (((i+1:Nat):Int),eK m cap slots wait lim (i+1))else _
   have hi':i<m.toNat/\i<6:=by unfold cZ at hi;omega
   unfold c97_3;dsimp only;rw[aF (by omega)];refine qP (by omega) ?_;refine qP (by omega) ?_
   refine qD (f193 (i:Int) m cap slots wait lim) ?_
   cases hx:pU (i:Int) m cap slots wait lim with
   | false=>rfl
   | true=>
    refine qf ?_
    refine qP ?_ ?_
    ·show List.length (eK m cap slots wait lim i)+1<=bound;rw[gU];unfold bound;omega
    ·rw[EF];rfl
  ·show c97_3 (aI p n) aA m cap slots wait lim rec ((cZ m:Int),eK m cap slots wait lim (cZ m))=_
   refine hrest _ ?_
   unfold c97_3;dsimp only
   by_cases h:((cZ m:Nat):Int)<m
   ·refine qP h ?_
    refine qN (by unfold cZ at h ⊢;omega) ?_
    rfl
   ·refine qN h ?_
    rfl
 refine Ev.eq (λaA=>by unfold T97;rfl) (lp.ev (i:=()) ?_)
 cases hx:bI (cZ m) (λi=>pU (i:Int) m cap slots wait lim)with
 | true=>rfl
 | false=>
  show some _=some _
  unfold w7
  rw[NQ hx];rfl
end Go.Abs.Pz
namespace Go.Abs.Pz
open Go Go.Abs
theorem gC{α:Type}[Inhabited α]{xs:List α}{i:Nat}(h:i<xs.length):xs.take i++[gt xs i]=xs.take (i+1):=by
 rw[cJ h];exact List.take_append_getElem h
theorem gV{α β:Type}{xs:List β}(h:xs.length<=aP):List.length ([]:List α)+xs.length<=bound:=by
 show 0+xs.length<=bound;unfold aP at h;unfold bound;omega
theorem j9{α:Type}{xs:List α}(h:xs.length<=aP)(i:Nat):(xs.take i).length+1<=bound:=by
 rw[List.length_take];unfold aP at h;unfold bound;omega
theorem i63{i k:Nat}(h:i<k)(hk:k<=aP):i<9223372036854775807:=by unfold aP at hk;omega
theorem f134(s:aE)(hz:SzS s):Ran p 1 134 [va K50 s] (rO K50 s):=go134 λn hn=>Ev.now λaA=>by
 show T134 (aI p n) aA s=rV K50 s
 unfold T134;refine qP (gV hz.a) ?_;refine qP (gV hz.b) ?_;rfl
theorem f123(s:aE)(hz:SzS s):Ran p 1 123 [va K50 s] (rO K50 s):=go123 λn hn=>Ev.now λaA=>by
 show T123 (aI p n) aA s=rV K50 s
 unfold T123;refine qP (gV hz.a) ?_;refine qP (gV hz.b) ?_;rfl
theorem f202(xs:List aH)(h:xs.length<=aP):Ran p 1 202 [vf K38 (xs,())] (rO K38 (xs,())):=go202 λn hn=>Ev.now λaA=>by
 show T202 (aI p n) aA xs=rV K38 (xs,())
 unfold T202;refine qP (gV h) ?_;rfl
theorem f222(t:kQ)(h:t.1.length<=aP):Ran p 1 222 [va K46 t] (rO K46 t):=go222 λn hn=>Ev.now λaA=>by
 show T222 (aI p n) aA t=rV K46 t
 unfold T222;refine qP (gV h) ?_;rfl
theorem f200(t:kQ)(h:t.1.length<=aP):Ran p 2 200 [va K46 t] (rO K46 t):=go200 λn hn=>Ev.now λaA=>by
 show T200 (aI p n) aA t=rV K46 t
 unfold T200;refine qC (f202 t.1 h) ?_;rfl
theorem f224(ts:List bM)(h1:ts.length<=aP)(h2:∀ i,i<ts.length->(gt ts i).1.length<=aP):Ran p 1 224 [vf K62 (ts,())] (rO K62 (ts,())):=go224 λn hn=>by
 have lp:It (λaA (_:Unit)=>c224_3 (aI p n) aA ts) ((0:Int),([]:List bM)) (λ_=>rV K62 (ts,())):=by
  refine It.run (λi=>((i:Int),ts.take i)) ts.length (λi hi aA u rec=>?_) (It.stop λaA u rec=>?_)
  ·unfold c224_3;dsimp only;rw[aF (i63 hi h1)];refine ql hi ?_;refine qz ?_;refine(aD hi).trans ?_
   refine qP (gV (h2 i hi)) ?_;refine qP (j9 h1 i) ?_;rw[<- gC hi];rfl
  ·show c224_3 (aI p n) aA ts rec ((ts.length:Int),ts.take ts.length)=_
   refine(congrArg (λl=>c224_3 (aI p n) aA ts rec ((ts.length:Int),l)) (List.take_length (l:=ts))).trans ?_
   unfold c224_3;dsimp only;refine qe ?_;rfl
 exact Ev.eq (λaA=>by unfold T224;rfl) (lp.ev (i:=()) rfl)
theorem f203(ts:List bM)(h1:ts.length<=aP)(h2:∀ i,i<ts.length->(gt ts i).1.length<=aP):Ran p 2 203 [vf K62 (ts,())] (rO K62 (ts,())):=go203 λn hn=>by
 have lp:It (λaA (_:Unit)=>c203_3 (aI p n) aA ts) ((0:Int),([]:List bM)) (λ_=>rV K62 (ts,())):=by
  refine It.run (λi=>((i:Int),ts.take i)) ts.length (λi hi aA u rec=>?_) (It.stop λaA u rec=>?_)
  ·unfold c203_3;dsimp only;rw[aF (i63 hi h1)];refine ql hi ?_;refine qz ?_;refine(aD hi).trans ?_
   refine qC (f202 (gt ts i).1 (h2 i hi)) ?_;refine qP (j9 h1 i) ?_;rw[<- gC hi];rfl
  ·show c203_3 (aI p n) aA ts rec ((ts.length:Int),ts.take ts.length)=_
   refine(congrArg (λl=>c203_3 (aI p n) aA ts rec ((ts.length:Int),l)) (List.take_length (l:=ts))).trans ?_
   unfold c203_3;dsimp only;refine qe ?_;rfl
 exact Ev.eq (λaA=>by unfold T203;rfl) (lp.ev (i:=()) rfl)
theorem f223(l:f0)(h1:l.2.2.1.length<=aP)(h2:∀ i,i<l.2.2.1.length->SzS (gt l.2.2.1 i)):Ran p 2 223 [va K61 l] (rO K61 l):=go223 λn hn=>by
 have lp:It (λaA (_:Unit)=>c223_3 (aI p n) aA l) ((0:Int),([]:List aE)) (λ_=>rV K61 l):=by
  refine It.run (λi=>((i:Int),l.2.2.1.take i)) l.2.2.1.length (λi hi aA u rec=>?_) (It.stop λaA u rec=>?_)
  ·unfold c223_3;dsimp only;rw[aF (i63 hi h1)];refine ql hi ?_;refine qz ?_;refine(aD hi).trans ?_
   refine qC (f134 (gt l.2.2.1 i) (h2 i hi)) ?_;refine qP (j9 h1 i) ?_;rw[<- gC hi];rfl
  ·show c223_3 (aI p n) aA l rec ((l.2.2.1.length:Int),l.2.2.1.take l.2.2.1.length)=_
   refine(congrArg (λq=>c223_3 (aI p n) aA l rec ((l.2.2.1.length:Int),q)) (List.take_length (l:=l.2.2.1))).trans ?_
   unfold c223_3;dsimp only;refine qe ?_;rfl
 exact Ev.eq (λaA=>by unfold T223;rfl) (lp.ev (i:=()) rfl)
theorem f201(l:f0)(h1:l.2.2.1.length<=aP)(h2:∀ i,i<l.2.2.1.length->SzS (gt l.2.2.1 i)):Ran p 2 201 [va K61 l] (rO K61 l):=go201 λn hn=>by
 have lp:It (λaA (_:Unit)=>c201_3 (aI p n) aA l) ((0:Int),([]:List aE)) (λ_=>rV K61 l):=by
  refine It.run (λi=>((i:Int),l.2.2.1.take i)) l.2.2.1.length (λi hi aA u rec=>?_) (It.stop λaA u rec=>?_)
  ·unfold c201_3;dsimp only;rw[aF (i63 hi h1)];refine ql hi ?_;refine qz ?_;refine(aD hi).trans ?_
   refine qC (f123 (gt l.2.2.1 i) (h2 i hi)) ?_;refine qP (j9 h1 i) ?_;rw[<- gC hi];rfl
  ·show c201_3 (aI p n) aA l rec ((l.2.2.1.length:Int),l.2.2.1.take l.2.2.1.length)=_
   refine(congrArg (λq=>c201_3 (aI p n) aA l rec ((l.2.2.1.length:Int),q)) (List.take_length (l:=l.2.2.1))).trans ?_
   unfold c201_3;dsimp only;refine qe ?_;rfl
 exact Ev.eq (λaA=>by unfold T201;rfl) (lp.ev (i:=()) rfl)
theorem f133(k:dD)(h:k.2.1.length<=aP):Ran p 1 133 [va K57 k] (rO K57 k):=go133 λn hn=>Ev.now λaA=>by
 show T133 (aI p n) aA k=rV K57 k
 unfold T133;refine qP (gV h) ?_;rfl
theorem f122(k:dD)(h:k.2.1.length<=aP):Ran p 2 122 [va K57 k] (rO K57 k):=go122 λn hn=>Ev.now λaA=>by
 show T122 (aI p n) aA k=rV K57 k
 have hb:k.2.1.length<=bound:=by unfold aP at h;unfold bound;omega
 unfold T122;refine qC (f204 [(k.2.1,())] k.2.1.length (λi hi=>by
  have:i=0:=by simpa using hi
  subst this;exact Nat.le_refl _) (by simpa using hb) (show 1<=maxLen by decide)) ?_
 have e:([(k.2.1,())]:List bM).flatMap (λr=>r.1)=k.2.1:=by simp
 exact congrArg (λl:List aH=>(rV K57 ((k.1,l,k.2.2.1,()):dD):Option Out)) e
theorem f132(x:NodeT)(hz:SzN x):Ran p 3 132 [va K66 x] (rO K66 x):=go132 λn hn=>Ev.now λaA=>by
 show T132 (aI p n) aA x=rV K66 x
 unfold T132
 refine qC (f134 x.state hz.state) ?_
 refine qC (f222 x.tree hz.leaves) ?_
 refine qC (f223 x.log hz.list hz.logs) ?_
 refine qP (gV hz.got) ?_;refine qP (gV hz.acked) ?_
 refine qC (f224 x.seen hz.seen hz.lines) ?_
 refine qP (gV hz.sess) ?_;refine qP (gV hz.rises) ?_
 rfl
theorem f121(x:NodeT)(hz:SzN x):Ran p 3 121 [va K66 x] (rO K66 x):=go121 λn hn=>Ev.now λaA=>by
 show T121 (aI p n) aA x=rV K66 x
 unfold T121
 refine qC (f123 x.state hz.state) ?_
 refine qC (f200 x.tree hz.leaves) ?_
 refine qC (f201 x.log hz.list hz.logs) ?_
 refine qC (f202 x.got hz.got) ?_
 refine qC (f202 x.acked hz.acked) ?_
 refine qC (f203 x.seen hz.seen hz.lines) ?_
 refine qP (gV hz.sess) ?_;refine qP (gV hz.rises) ?_
 rfl
structure SzX (w:aV):Prop extends SzW w where
 bytes:∀ i,i<w.2.1.length->(gt w.2.1 i).2.1.length<=aP
theorem f53(w:aV)(hz:SzX w):Ran p 4 53 [va K28 w] (rO K28 w):=go53 λn hn=>by
 have said:It (λaA (_:Unit)=>c53_11 (aI p n) aA w w.1 w.2.1) ((0:Int),([]:List yH)) (λ_=>rV K28 w):=by
  refine It.run (λi=>((i:Int),w.2.2.1.take i)) w.2.2.1.length (λi hi aA u rec=>?_) (It.stop λaA u rec=>?_)
  ·unfold c53_11;dsimp only;rw[aF (i63 hi hz.said)];refine ql hi ?_;refine qz ?_;refine(aD hi).trans ?_
   refine qz ?_;refine(aD hi).trans ?_
   refine qC (f134 (gt w.2.2.1 i).2 (hz.part i hi)) ?_;refine qP (j9 hz.said i) ?_;rw[<- gC hi];rfl
  ·show c53_11 (aI p n) aA w w.1 w.2.1 rec ((w.2.2.1.length:Int),w.2.2.1.take w.2.2.1.length)=_
   refine(congrArg (λl=>c53_11 (aI p n) aA w w.1 w.2.1 rec ((w.2.2.1.length:Int),l)) (List.take_length (l:=w.2.2.1))).trans ?_
   unfold c53_11;dsimp only;refine qe ?_;rfl
 have net:It (λaA (_:Unit)=>c53_7 (aI p n) aA w w.1) ((0:Int),([]:List dD)) (λ_=>rV K28 w):=by
  refine It.run (λi=>((i:Int),w.2.1.take i)) w.2.1.length (λi hi aA u rec=>?_) (It.stopE (T:=λaA _=>iter (c53_11 (aI p n) aA w w.1 w.2.1) aA ((0:Int),([]:List yH))) (λaA u rec=>?_) said.all_i)
  ·unfold c53_7;dsimp only;rw[aF (i63 hi hz.net)];refine ql hi ?_;refine qz ?_;refine(aD hi).trans ?_
   refine qC (f133 (gt w.2.1 i) (hz.bytes i hi)) ?_;refine qP (j9 hz.net i) ?_;rw[<- gC hi];rfl
  ·show c53_7 (aI p n) aA w w.1 rec ((w.2.1.length:Int),w.2.1.take w.2.1.length)=_
   refine(congrArg (λl=>c53_7 (aI p n) aA w w.1 rec ((w.2.1.length:Int),l)) (List.take_length (l:=w.2.1))).trans ?_
   unfold c53_7;dsimp only;refine qe ?_;rfl
 have nodes:It (λaA (_:Unit)=>c53_3 (aI p n) aA w) ((0:Int),([]:List NodeT)) (λ_=>rV K28 w):=by
  refine It.run (λi=>((i:Int),w.1.take i)) w.1.length (λi hi aA u rec=>?_) (It.stopE (T:=λaA _=>iter (c53_7 (aI p n) aA w w.1) aA ((0:Int),([]:List dD))) (λaA u rec=>?_) net.all_i)
  ·unfold c53_3;dsimp only;rw[aF (i63 hi hz.nodes)];refine ql hi ?_;refine qz ?_;refine(aD hi).trans ?_
   refine qC (f132 (gt w.1 i) (hz.node i hi)) ?_;refine qP (j9 hz.nodes i) ?_;rw[<- gC hi];rfl
  ·show c53_3 (aI p n) aA w rec ((w.1.length:Int),w.1.take w.1.length)=_
   refine(congrArg (λl=>c53_3 (aI p n) aA w rec ((w.1.length:Int),l)) (List.take_length (l:=w.1))).trans ?_
   unfold c53_3;dsimp only;refine qe ?_;rfl
 exact Ev.eq (λaA=>by unfold T53;rfl) (nodes.ev (i:=()) rfl)
theorem f50(w:aV)(hz:SzX w):Ran p 4 50 [va K28 w] (rO K28 w):=go50 λn hn=>by
 have said:It (λaA (_:Unit)=>c50_13 (aI p n) aA w w.1 w.2.1) ((0:Int),([]:List yH)) (λ_=>rV K28 w):=by
  refine It.run (λi=>((i:Int),w.2.2.1.take i)) w.2.2.1.length (λi hi aA u rec=>?_) (It.stop λaA u rec=>?_)
  ·unfold c50_13;dsimp only;rw[aF (i63 hi hz.said)];refine ql hi ?_;refine qz ?_;refine(aD hi).trans ?_
   refine qC (f123 (gt w.2.2.1 i).2 (hz.part i hi)) ?_;refine qP (j9 hz.said i) ?_;rw[<- gC hi];rfl
  ·show c50_13 (aI p n) aA w w.1 w.2.1 rec ((w.2.2.1.length:Int),w.2.2.1.take w.2.2.1.length)=_
   refine(congrArg (λl=>c50_13 (aI p n) aA w w.1 w.2.1 rec ((w.2.2.1.length:Int),l)) (List.take_length (l:=w.2.2.1))).trans ?_
   unfold c50_13;dsimp only;refine qe ?_;rfl
 have net:It (λaA (_:Unit)=>c50_8 (aI p n) aA w w.1) ((0:Int),([]:List dD)) (λ_=>rV K28 w):=by
  refine It.run (λi=>((i:Int),w.2.1.take i)) w.2.1.length (λi hi aA u rec=>?_) (It.stopE (T:=λaA _=>iter (c50_13 (aI p n) aA w w.1 w.2.1) aA ((0:Int),([]:List yH))) (λaA u rec=>?_) said.all_i)
  ·unfold c50_8;dsimp only;rw[aF (i63 hi hz.net)];refine ql hi ?_;refine qz ?_;refine(aD hi).trans ?_
   refine qC (f122 (gt w.2.1 i) (hz.bytes i hi)) ?_;refine qP (j9 hz.net i) ?_;rw[<- gC hi];rfl
  ·show c50_8 (aI p n) aA w w.1 rec ((w.2.1.length:Int),w.2.1.take w.2.1.length)=_
   refine(congrArg (λl=>c50_8 (aI p n) aA w w.1 rec ((w.2.1.length:Int),l)) (List.take_length (l:=w.2.1))).trans ?_
   unfold c50_8;dsimp only;refine qe ?_;rfl
 have nodes:It (λaA (_:Unit)=>c50_3 (aI p n) aA w) ((0:Int),([]:List NodeT)) (λ_=>rV K28 w):=by
  refine It.run (λi=>((i:Int),w.1.take i)) w.1.length (λi hi aA u rec=>?_) (It.stopE (T:=λaA _=>iter (c50_8 (aI p n) aA w w.1) aA ((0:Int),([]:List dD))) (λaA u rec=>?_) net.all_i)
  ·unfold c50_3;dsimp only;rw[aF (i63 hi hz.nodes)];refine ql hi ?_;refine qz ?_;refine(aD hi).trans ?_
   refine qC (f121 (gt w.1 i) (hz.node i hi)) ?_;refine qP (j9 hz.nodes i) ?_;rw[<- gC hi];rfl
  ·show c50_3 (aI p n) aA w rec ((w.1.length:Int),w.1.take w.1.length)=_
   refine(congrArg (λl=>c50_3 (aI p n) aA w rec ((w.1.length:Int),l)) (List.take_length (l:=w.1))).trans ?_
   unfold c50_3;dsimp only;refine qe ?_;rfl
 exact Ev.eq (λaA=>by unfold T50;rfl) (nodes.ev (i:=()) rfl)
end Go.Abs.Pz
namespace Go.Abs.Pz
open Go Go.Abs
def B7(x:eI):eI:=(x.1,x.2.1,x.2.2.1,i64.wrap (x.2.2.2.1+1),())
def uK(x:NodeT)(i:Nat):List eI:=bif decide (i64.wrap ((gt x.sess i).2.2.2.1+1)<=x.wait)then[B7 (gt x.sess i)] else[]
theorem B9(x:NodeT)(i:Nat):(uK x i).length<=1:=by
 unfold uK;cases decide (i64.wrap ((gt x.sess i).2.2.2.1+1)<=x.wait)<;>simp
def zG(y:NodeT):NodeT:=(y.1,y.2.1,y.2.2.1,y.2.2.2.1,y.2.2.2.2.1,y.2.2.2.2.2.1,y.2.2.2.2.2.2.1,y.2.2.2.2.2.2.2.1,y.2.2.2.2.2.2.2.2.1,y.2.2.2.2.2.2.2.2.2.1,y.2.2.2.2.2.2.2.2.2.2.1,y.2.2.2.2.2.2.2.2.2.2.2.1,y.2.2.2.2.2.2.2.2.2.2.2.2.1,y.2.2.2.2.2.2.2.2.2.2.2.2.2.1,bX y.sess.length (uK y),y.wait,y.limit,i64.wrap (y.clock+1),y.rises,())
def mK(x:NodeT):NodeT:=bif dU x then(bif x.clock==100000 then x else zG x)else x
theorem CC(x:NodeT):(zG x).sess.length<=x.sess.length:=by
 have:=dK (g:=uK x) (L:=1) (n:=x.sess.length) λi _=>B9 x i
 show(bX x.sess.length (uK x)).length<=x.sess.length
 omega
theorem FB{x:NodeT}(h:SzN x):SzN (mK x):=by
 unfold mK
 cases dU x with
 | false=>exact h
 | true=>
  cases x.clock==100000 with
  | true=>exact h
  | false=>exact⟨h.state,h.leaves,h.list,h.logs,h.got,h.acked,h.seen,h.lines,Nat.le_trans (CC x) h.sess,h.rises⟩

theorem f135(x:NodeT)(hz:SzN x):Ran p 8 135 [va K66 x] (rO K66 (mK x)):=go135 λn hn=>by
 unfold mK
 cases ho:dU x with
 | false=>exact Ev.now λaA=>by show T135 (aI p n) aA x=rV K66 x;unfold T135;refine qC (f132 x hz) ?_;refine qC (f48 x hz) ?_;rw[ho];rfl
 | true=>
  cases hc:x.clock==100000 with
  | true=>exact Ev.now λaA=>by show T135 (aI p n) aA x=rV K66 x;unfold T135;refine qC (f132 x hz) ?_;refine qC (f48 x hz) ?_;rw[ho];refine qf ?_;exact mF hc
  | false=>
   have lp:It (λaA (_:Unit)=>c135_7 (aI p n) aA x ((x,()),())) ((0:Int),([]:List eI)) (λ_=>rV K66 (zG x)):=by
    refine It.accu (α:=eI) [] (uK x) x.sess.length 1 (λi _=>B9 x i) (λi hi acc ha aA u rec=>?_) (It.stop λaA u rec=>?_)
    ·unfold c135_7 uK;dsimp only;rw[aF (i63 hi hz.sess)];refine ql hi ?_;refine qz ?_;refine(aD hi).trans ?_
     by_cases h:i64.wrap ((gt x.sess i).2.2.2.1+1)<=x.wait
     ·refine qP h ?_;refine qP ?_ ?_
      ·have h1:(uK x i).length=1:=by unfold uK;rw[decide_eq_true h];rfl
       have h2:=hz.sess
       rw[h1] at ha
       show acc.length+1<=bound
       unfold aP at h2;unfold bound;simp at ha;omega
      ·rw[decide_eq_true h];rfl
     ·refine qN h ?_;rw[decide_eq_false h];show rec _=rec _;rw[show(bif false then[B7 (gt x.sess i)] else[])=([]:List eI)from rfl,List.append_nil];rfl
    ·unfold c135_7;dsimp only;refine qe ?_;rfl
   exact Ev.eq (λaA=>by
    unfold T135;refine qC (f132 x hz) ?_;refine qC (f48 x hz) ?_;rw[ho];refine qf ?_;exact iZ hc) (lp.ev (i:=()) rfl)
theorem CE{α:Type}[Inhabited α]{c:α->Int}:∀ (xs ys:List α),xs.length=ys.length->(∀ j,j<xs.length->c (gt xs j)<=c (gt ys j))->gM c xs<=gM c ys
 | [],[],_,_=>Int.le_refl _
 | x::xs,y::ys,h,h2=>by
  have h3:c x<=c y:=h2 0 (Nat.zero_lt_succ _)
  have h4:=CE xs ys (by simpa using h) λj hj=>h2 (j+1) (Nat.succ_lt_succ hj)
  show c x+gM c xs<=c y+gM c ys
  omega
 | [],_::_,h,_=>by cases h
 | _::_,[],h,_=>by cases h
theorem SE(xs:List eI):cnT (.sl K125) xs=4*(xs.length:Int):=jZ (c:=cnR K125) (n:=4) (λx=>rfl) xs
end Go.Abs.Pz
namespace Go.Abs.Pz
open Go Go.Abs
theorem f333(a b:Int):Ran p 1 333 [vf K3 (a,()), vf K3 (b,())] (rO K3 (mxI false a b,())):=go333 λn hn=>Ev.now λaA=>by
 unfold T333;rw[F7]
 by_cases h:a<b
 ·refine qP h ?_;rw[show min a b=a by omega]
 ·refine qN h ?_;rw[show min a b=b by omega]
theorem f168(ms:List aO)(h2:ms.length<=maxLen):Ran p 3 168 [vf K51 (ms,())] (rO K4 (eL ms,())):=go168 λn hn=>by
 have inner:It (λaA (_:Unit)=>c168_2 (aI p n) aA ms) (0:Int) (λ_=>oB (eL ms)):=by
  refine cI (It.allB ms.length (fK ms) true (λi hi aA a rec=>?_) (It.stop λaA a rec=>?_))
  ·have hb:i<9223372036854775807:=Nat.lt_of_lt_of_le hi h2
   unfold c168_2 fK;rw[aF hb];refine ql hi ?_;refine qz ?_;refine(aD hi).trans ?_;refine qC (f118 (gt ms i).1) ?_;refine chk λ_=>?_
   cases i with
   | zero=>refine qN (by decide) ?_;refine qz ?_;refine(aD hi).trans ?_;refine qC (f47 (gt ms 0).2.1 1 1000) ?_;exact fin
   | succ j=>
    refine qP (by omega) ?_;refine qz ?_;refine(aD hi).trans ?_;rw[i9 hb (by omega)];refine qz ?_;refine(aD (show j<ms.length by omega)).trans ?_;refine Q3 λ_=>?_
    refine qz ?_;refine(aD hi).trans ?_;refine qC (f47 (gt ms (j+1)).2.1 1 1000) ?_;exact fin
  ·unfold c168_2;refine qe ?_;rfl
 exact Ev.eq (λaA=>by unfold T168;rfl) (inner.ev (i:=()) rfl)
theorem f280(ms:List aO)(h2:ms.length<=maxLen):Ran p 3 280 [vf K51 (ms,())] (rO K4 (eL ms,())):=go280 λn hn=>by
 have inner:It (λaA (_:Unit)=>c280_2 (aI p n) aA ms) (0:Int) (λ_=>oB (GD ms)):=by
  refine cI (It.allB ms.length (iQ ms) true (λi hi aA a rec=>?_) (It.stop λaA a rec=>?_))
  ·have hb:i<9223372036854775807:=Nat.lt_of_lt_of_le hi h2
   unfold c280_2 iQ;rw[aF hb];refine ql hi ?_;refine qz ?_;refine(aD hi).trans ?_;refine qC (f109 (gt ms i).1) ?_;refine chk λ_=>?_;refine qC (f43 (gt ms i).2.1 1 1000) ?_;refine chk λ_=>?_
   cases i with
   | zero=>refine qN (by decide) ?_;rfl
   | succ j=>refine qP (by omega) ?_;rw[i9 hb (by omega)];refine qz ?_;refine(aD (show j<ms.length by omega)).trans ?_;exact EQ
  ·unfold c280_2;refine qe ?_;rfl
 rw[MN] at inner
 exact Ev.eq (λaA=>by unfold T280;rfl) (inner.ev (i:=()) rfl)
theorem f298(s:aE)(hz:SzS s):Ran p 5 298 [va K50 s] (rO K51 (c7 s,())):=go298 λn hn=>by
 have lp:It (λaA (_:Unit)=>c298_3 (aI p n) aA s) ((0:Int),([]:List aO)) (λ_=>rV K51 (c7 s,())):=by
  refine It.accu (α:=aO) [] (kV s) 5 1 (λi _=>tM s i) (λi hi acc ha aA u rec=>?_) (It.stop λaA u rec=>?_)
  ·show c298_3 (aI p n) aA s rec ((i:Int),acc)=rec (((i+1:Nat):Int),acc++kV s i)
   have hb:acc.length+1<=bound+(1 - (kV s i).length):=by simp at ha;unfold bound;omega
   unfold c298_3 kV;dsimp only;rw[aF (show i<9223372036854775807 by omega)];refine qP (show(i:Int)<5 by omega) ?_;refine qC (f157 s (i:Int) hz) ?_
   by_cases h:gone s i>0
   ·refine qP h ?_;refine qP (by
     unfold kV at hb;rw[decide_eq_true h] at hb;exact hb) ?_;rw[decide_eq_true h];rfl
   ·refine qN h ?_;rw[decide_eq_false h];show rec _=rec _;rw[show(bif false then[((i:Int),gone s i,())] else[])=([]:List aO)from rfl,List.append_nil];rfl
  ·unfold c298_3;dsimp only;refine qe ?_;rfl
 exact Ev.eq (λaA=>by unfold T298;rfl) (lp.ev (i:=()) rfl)
theorem a9{α β:Type}[Inhabited α]{xs:List α}{i:Nat}{f:α->Option β}(h:i<xs.length):(at? xs i).bind f=f (gt xs i):=by
 rw[RD h,cJ h];rfl
theorem f352(v:List aH)(k m:Int)(hv:v.length<=aP):Ran p 2 352 [vf K38 (v,()), vf K3 (k,()), vf K3 (m,())] (rO K38 (cV v k m,())):=go352 λn hn=>Ev.now λaA=>by
 unfold T352 cV;refine qP (gV hv) ?_;refine qC (f47 k 0 (i64.wrap ((v.length:Int) - 1))) ?_
 cases hb:inB k 0 (i64.wrap ((v.length:Int) - 1))with
 | false=>rfl
 | true=>
  obtain⟨hk,e⟩:=y5 hv hb
  refine qt ?_;refine qP (show(0:Int)<=k by omega) ?_;refine(a9 hk).trans ?_
  by_cases h:m>(gt v k.toNat).1
  ·refine qP h ?_;refine qP (show(0:Int)<=k by omega) ?_;refine(a9 hk).trans ?_;refine(a9 hk).trans ?_
   rw[sS,show max (gt v k.toNat).1 m=m by omega];rfl
  ·refine qN h ?_;rw[sS,show max (gt v k.toNat).1 m=(gt v k.toNat).1 by omega]
   show(rV K38 (v,()):Option Out)=rV K38 (v.set k.toNat (gt v k.toNat),())
   rw[tD]
theorem CF{α:Type}(xs:List α)(i:Nat)(a b:α):(xs.set i a).set i b=xs.set i b:=by simp
theorem f297(t:List bM)(k:Int)(ms:List aO)(h1:t.length<=aP)(h2:∀ i,i<t.length->(gt t i).1.length<=aP)(h3:ms.length<=aP):Ran p 4 297 [vf K62 (t,()), vf K3 (k,()), vf K51 (ms,())] (rO K62 (bK t k ms,())):=go297 λn hn=>by
 cases hb:inB k 0 (i64.wrap ((t.length:Int) - 1))with
 | false=>exact Ev.now λaA=>by show T297 (aI p n) aA t k ms=_;unfold T297;refine qC (f224 t h1 h2) ?_;refine qC (f47 k 0 (i64.wrap ((t.length:Int) - 1))) ?_;rw[hb,show bK t k ms=t by unfold bK pO;rw[hb];rfl];rfl
 | true=>
  obtain⟨hk,e⟩:=y5 h1 hb
  cases hm:eL ms with
  | false=>exact Ev.now λaA=>by show T297 (aI p n) aA t k ms=_;unfold T297;refine qC (f224 t h1 h2) ?_;refine qC (f47 k 0 (i64.wrap ((t.length:Int) - 1))) ?_;rw[hb];refine qf ?_;refine qC (f168 ms (aS h3)) ?_;rw[hm,show bK t k ms=t by unfold bK pO;rw[hb,hm];rfl];rfl
  | true=>
   by_cases h5:(((gt t k.toNat).1.length:Nat):Int)<5
   ·exact Ev.now λaA=>by show T297 (aI p n) aA t k ms=_;unfold T297;refine qC (f224 t h1 h2) ?_;refine qC (f47 k 0 (i64.wrap ((t.length:Int) - 1))) ?_;rw[hb];refine qf ?_;refine qC (f168 ms (aS h3)) ?_;rw[hm];refine qf ?_;refine qP (show(0:Int)<=k by omega) ?_;refine(a9 hk).trans ?_;refine qP h5 ?_;rw[show bK t k ms=t by unfold bK pO;rw[hb,hm,decide_eq_true h5];rfl]
   ·have lp:It (λaA (_:Unit)=>c297_5 (aI p n) aA k ms) ((0:Int),t) (λ_=>rV K62 (bK t k ms,())):=by
     have h0:=DT t k.toNat ms
     refine cast (congrArg (λz=>It (λaA (_:Unit)=>c297_5 (aI p n) aA k ms) ((0:Int),z) (λ_=>rV K62 (bK t k ms,()))) h0) ?_
     refine It.run (λi=>((i:Int),cU t k.toNat ms i)) ms.length (λi hi aA u rec=>?_) (It.stop λaA u rec=>?_)
     ·show c297_5 (aI p n) aA k ms rec ((i:Int),cU t k.toNat ms i)=rec (((i+1:Nat):Int),cU t k.toNat ms (i+1))
      have hd:=u7 hm hi
      have hl:k.toNat<(cU t k.toNat ms i).length:=by unfold cU;rw[List.length_set];exact hk
      have hg:gt (cU t k.toNat ms i) k.toNat=kP (gt t k.toNat) ms i:=bO hk _
      have hr:(gt ms i).1.toNat<(gt (cU t k.toNat ms i) k.toNat).1.length:=by rw[hg,oC];omega
      have hp:(0:Int)<=k:=by omega
      unfold c297_5;dsimp only;rw[aF (i63 hi h3)];refine ql hi ?_;refine qP hp ?_;refine(a9 hl).trans ?_;refine(a9 hl).trans ?_;refine qz ?_;refine(aD hi).trans ?_;refine qP hp ?_;refine(a9 hl).trans ?_;refine(a9 hl).trans ?_;refine qz ?_;refine(aD hi).trans ?_;refine qP hd.1 ?_;refine(a9 hl).trans ?_;refine(a9 hr).trans ?_;refine(a9 hl).trans ?_;refine(a9 hr).trans ?_;refine qz ?_;refine(aD hi).trans ?_
      refine qC (f161 (gt (gt (cU t k.toNat ms i) k.toNat).1 (gt ms i).1.toNat).1 (gt ms i).2.1) ?_;refine qP hd.1 ?_;refine(a9 hl).trans ?_;refine(a9 hr).trans ?_;refine(a9 hl).trans ?_;refine(a9 hr).trans ?_
      refine congrArg (λz=>rec (((i+1:Nat):Int),z)) ?_
      show(cU t k.toNat ms i).set k.toNat (D3 (gt (cU t k.toNat ms i) k.toNat) (gt ms i))=cU t k.toNat ms (i+1)
      rw[hg];exact CF ..
     ·unfold c297_5;dsimp only;refine qe ?_;rw[show bK t k ms=cU t k.toNat ms ms.length by unfold bK pO;rw[hb,hm,decide_eq_false h5];rfl]
    exact Ev.eq (λaA=>by unfold T297;refine qC (f224 t h1 h2) ?_;refine qC (f47 k 0 (i64.wrap ((t.length:Int) - 1))) ?_;rw[hb];refine qf ?_;refine qC (f168 ms (aS h3)) ?_;rw[hm];refine qf ?_;refine qP (show(0:Int)<=k by omega) ?_;refine(a9 hk).trans ?_;exact kC h5) (lp.ev (i:=()) rfl)
end Go.Abs.Pz
namespace Go.Abs.Pz
open Go Go.Abs
theorem f334(t:List bM)(id:Int)(h1:t.length<=aP)(h2:∀ i,i<t.length->(gt t i).1.length<=aP):Ran p 2 334 [vf K62 (t,()), vf K3 (id,())] (rO K3 (gY t id,())):=go334 λn hn=>by
 have lp:It (λaA (_:Unit)=>c334_5 (aI p n) aA t id) ((0:Int),(0:Int)) (λ_=>oI (gY t id)):=by
  refine cast ?_ (It.all (c:=λaA (_:Unit)=>c334_5 (aI p n) aA t id) (rA:=λ_=>oI (pB t id t.length)) (rB:=λ_=>oI 0) (λi=>(pB t id i,(i:Int))) t.length (vK t id) (λi hi aA u rec=>?_) (It.stop λaA u rec=>?_))
  ·congr 1;funext u;unfold gY;cases bI t.length (vK t id)<;>rfl
  ·unfold c334_5 vK;dsimp only;rw[aF (i63 hi h1)];refine ql hi ?_;refine qz ?_;refine(aD hi).trans ?_;refine qC (f47 id 0 (i64.wrap ((((gt t i).1.length:Nat):Int) - 1))) ?_
   cases hb:inB id 0 (i64.wrap ((((gt t i).1.length:Nat):Int) - 1))with
   | false=>rfl
   | true=>
    obtain⟨hk,e⟩:=y5 (h2 i hi) hb
    have hp:(0:Int)<=id:=by omega
    refine qf ?_
    show _=rec (bif(i:Int)==0 then _ else bif decide ((gt (gt t i).1 id.toNat).1<pB t id i)then _ else _,_)
    cases h0:(i:Int)==0 with
    | true=>refine qt ?_;refine qz ?_;refine(aD hi).trans ?_;refine qP hp ?_;refine(a9 hk).trans ?_;rfl
    | false=>
     refine qf ?_;refine qz ?_;refine(aD hi).trans ?_;refine qP hp ?_;refine(a9 hk).trans ?_
     by_cases hc:(gt (gt t i).1 id.toNat).1<pB t id i
     ·refine qP hc ?_;refine qz ?_;refine(aD hi).trans ?_;refine qP hp ?_;refine(a9 hk).trans ?_;rw[decide_eq_true hc];rfl
     ·refine qN hc ?_;rw[decide_eq_false hc];rfl
  ·unfold c334_5;dsimp only;refine qe ?_;rfl
 cases h0:(t.length:Int)==0 with
 | false=>exact Ev.eq (λaA=>by unfold T334;exact iZ h0) (lp.ev (i:=()) rfl)
 | true=>
  have e:gY t id=0:=by
   have:t=[]:=List.length_eq_zero_iff.1 (by have:=eq_of_beq h0;omega)
   rw[this];rfl
  exact Ev.now λaA=>by rw[e];unfold T334;exact mF h0
theorem I7(s:aE)(t:List bM):Pos (fJ s t):=((aN _).1 (qY s t)).pos
theorem f299(s:aE)(t:List bM)(hz:SzS s)(h1:t.length<=aP)(h2:∀ i,i<t.length->(gt t i).1.length<=aP):Ran p 5 299 [va K50 s, vf K62 (t,())] (rO K50 (prune s t)):=go299 λn hn=>by
 cases hs:aM s with
 | false=>exact Ev.now λaA=>by unfold T299;refine qC (f49 s (aS hz.a) (aS hz.b)) ?_;rw[hs];refine qt ?_;refine qC (f134 s hz) ?_;unfold prune;rw[hs];rfl
 | true=>
  have lp:It (λaA (_:Unit)=>c299_5 (aI p n) aA s t) ((0:Int),([]:List aO)) (λ_=>rV K50 (prune s t)):=by
   refine It.accu (α:=aO) [] (iV s t) 5 1 (λi _=>tH s t i) (λi hi acc ha aA u rec=>?_) (It.stop λaA u rec=>?_)
   ·show c299_5 (aI p n) aA s t rec ((i:Int),acc)=rec (((i+1:Nat):Int),acc++iV s t i)
    have hb:acc.length+1<=bound+(1 - (iV s t i).length):=by simp at ha;unfold bound;omega
    unfold c299_5 iV;dsimp only;rw[aF (show i<9223372036854775807 by omega)];refine qP (show(i:Int)<5 by omega) ?_;refine qC (f334 t (i:Int) h1 h2) ?_;refine qC (f157 s (i:Int) hz) ?_;refine qC (f333 (gY t i) (gone s i)) ?_
    by_cases h:mxI false (gY t i) (gone s i)>0
    ·refine qP h ?_;refine qP (by unfold iV at hb;rw[decide_eq_true h] at hb;exact hb) ?_;rw[decide_eq_true h];rfl
    ·refine qN h ?_;rw[decide_eq_false h];show rec _=rec _;rw[show(bif false then[((i:Int),mxI false (gY t i) (gone s i),())] else[])=([]:List aO)from rfl,List.append_nil];rfl
   ·unfold c299_5;dsimp only;refine qe ?_;refine qC (f238 s (fJ s t) hz (GS s t) ((aN s).1 hs).pos (I7 s t)) ?_;unfold prune;rw[hs];rfl
  exact Ev.eq (λaA=>by unfold T299;refine qC (f49 s (aS hz.a) (aS hz.b)) ?_;rw[hs];rfl) (lp.ev (i:=()) rfl)
theorem UJ{x:NodeT}(hz:SzN x)(s:aE):(tkS x s).length<=aP/\∀ i,i<(tkS x s).length->(gt (tkS x s) i).1.length<=aP:=⟨(lT hz s).seen,(lT hz s).lines⟩
structure TakeOk (x:NodeT):Prop where
 state:aM x.state=true
 rises:((x.rises.length:Int)==5)=true
theorem DS{x:NodeT}(h:NodeOk x):TakeOk x:=⟨h.state,h.rises⟩
theorem SI{x:NodeT}{s:aE}(h:TakeOk x)(hs:aM s=true){i:Nat}(hi:i<(tkP x s).1.length):0<=(gt (tkP x s).1 i).1/\(gt (tkP x s).1 i).1.toNat<(dH x.clock x.rises (tkP x s).1 i).length:=by
 have h1:=(((aN (tkP x s)).1 (z2 (nS h.state hs) (tkS x s))).item _ (bR hi)).1
 unfold eN at h1;rw[aL] at h1
 have h2:=eq_of_beq h.rises
 rw[gR];omega
theorem OU(c:Int)(rs:List jX)(xs:List bL)(i:Nat):dH c rs xs (i+1)=bif qB (gt (dH c rs xs i) (gt xs i).1.toNat) (gt xs i).2 then(dH c rs xs i).set (gt xs i).1.toNat ((gt xs i).2.1,(gt xs i).2.2.2.1,c,())else dH c rs xs i:=by
 show(dH c rs xs i).set _ (mX c _ _)=_
 unfold mX
 cases qB (gt (dH c rs xs i) (gt xs i).1.toNat) (gt xs i).2 with
 | true=>rfl
 | false=>exact tD
theorem f227(x:NodeT)(s:aE)(hz:SzN x)(hs':SzS s)(h:TakeOk x)(hs:aM s=true):Ran p 7 227 [va K66 x, va K50 s] (rO K66 (jN x s)):=go227 λn hn=>by
 have hj:=nR x.state s
 have ht:=UJ hz s
 have hp:=NY x s
 have lp:It (λaA (_:Unit)=>c227_7 (aI p n) aA x ((x,()),()) (((tkS x s,()),()),()) ((tkP x s,()),()) ((cH (tkP x s),()),())) ((0:Int),x.rises) (λ_=>rV K66 (jN x s)):=by
  refine It.run (λi=>((i:Int),dH x.clock x.rises (tkP x s).1 i)) (tkP x s).1.length (λi hi aA u rec=>?_) (It.stop λaA u rec=>?_)
  ·show c227_7 (aI p n) aA x ((x,()),()) (((tkS x s,()),()),()) ((tkP x s,()),()) ((cH (tkP x s),()),()) rec ((i:Int),dH x.clock x.rises (tkP x s).1 i)=rec (((i+1:Nat):Int),dH x.clock x.rises (tkP x s).1 (i+1))
   obtain⟨h0,hl⟩:=SI h hs hi
   unfold c227_7;dsimp only;rw[aF (i63 hi hp.a),OU];unfold qB;refine ql hi ?_;refine qz ?_;refine(aD hi).trans ?_;refine(aD hi).trans ?_;refine qP h0 ?_;refine(a9 hl).trans ?_;refine(a9 hl).trans ?_
   by_cases h1:(gt (tkP x s).1 i).2.1>(gt (dH x.clock x.rises (tkP x s).1 i) (gt (tkP x s).1 i).1.toNat).1
   ·refine qP h1 ?_;refine qP h0 ?_;refine(a9 hl).trans ?_;refine(a9 hl).trans ?_;rw[decide_eq_true h1];rfl
   ·refine qN h1 ?_;rw[decide_eq_false h1]
    cases h2:(gt (tkP x s).1 i).2.1==(gt (dH x.clock x.rises (tkP x s).1 i) (gt (tkP x s).1 i).1.toNat).1 with
    | false=>rfl
    | true=>
     refine qt ?_
     by_cases h3:(gt (tkP x s).1 i).2.2.2.1>(gt (dH x.clock x.rises (tkP x s).1 i) (gt (tkP x s).1 i).1.toNat).2.1
     ·refine qP h3 ?_;refine qP h0 ?_;refine(a9 hl).trans ?_;refine(a9 hl).trans ?_;rw[decide_eq_true h3];rfl
     ·refine qN h3 ?_;rw[decide_eq_false h3];rfl
  ·unfold c227_7;dsimp only;refine qe ?_;rfl
 exact Ev.eq (λaA=>by
  unfold T227;refine qC (f132 x hz) ?_;refine qC (f238 x.state s hz.state hs' ((aN _).1 h.state).pos ((aN _).1 hs).pos) ?_;refine qC (f298 (c8 x.state s) hj) ?_
  refine qC (f297 x.seen x.1 (c7 (c8 x.state s)) hz.seen hz.lines (Nat.le_trans (fS _) (by decide))) ?_;refine qC (f299 (c8 x.state s) (tkS x s) hj ht.1 ht.2) ?_;refine qC (f112 (tkP x s) hp) ?_;rfl) (lp.ev (i:=()) rfl)
end Go.Abs.Pz
namespace Go.Abs.Pz
open Go Go.Abs
theorem f167(v:List aH)(a b:Int)(hv:v.length<=aP):Ran p 2 167 [vf K38 (v,()), vf K3 (a,()), vf K3 (b,())] (rO K4 (pQ v a b,())):=go167 λn hn=>by
 by_cases h:(v.length:Int)>a
 ·exact Ev.now λaA=>by unfold T167 pQ;rw[decide_eq_true h];exact mT h
 ·have lp:It (λaA (_:Unit)=>c167_4 (aI p n) aA v b) (0:Int) (λ_=>oB (kI v b)):=by
   refine cI (It.allB v.length (λi=>inB (gt v i).1 0 b) true (λi hi aA u rec=>?_) (It.stop λaA u rec=>?_))
   ·unfold c167_4;rw[aF (i63 hi hv)];refine ql hi ?_;refine qz ?_;refine(aD hi).trans ?_;refine qC (f47 (gt v i).1 0 b) ?_;exact fin
   ·unfold c167_4;refine qe ?_;rfl
  have e:pQ v a b=kI v b:=by unfold pQ;rw[decide_eq_false h];rfl
  rw[e]
  exact Ev.eq (λaA=>by unfold T167;exact kC h) (lp.ev (i:=()) rfl)
theorem f166(t:kQ)(ht:t.1.length<=aP):Ran p 3 166 [va K46 t] (rO K4 (treeB t,())):=go166 λn hn=>Ev.now λaA=>by
 unfold T166 treeB
 cases h0:(t.1.length:Int)==0 with
 | true=>exact mF h0
 | false=>
  refine qF h0 ?_
  cases h4:(t.1.length:Int)==4 with
  | false=>exact iZ h4
  | true=>
   refine qT h4 ?_;refine qC (f167 t.1 4 1023 ht) ?_
   have e:pQ t.1 4 1023=kI t.1 1023:=by unfold pQ;rw[decide_eq_false (by have:=eq_of_beq h4;omega)];rfl
   rw[e]
   cases kI t.1 1023 with
   | false=>rfl
   | true=>refine qt ?_;refine qC (f47 t.2.1 0 1023) ?_;rfl
theorem f279(t:kQ)(ht:t.1.length<=aP):Ran p 2 279 [va K46 t] (rO K4 (treeB t,())):=go279 λn hn=>by
 cases h0:(t.1.length:Int)==0 with
 | true=>exact Ev.now λaA=>by unfold T279 treeB;rw[h0];exact mF h0
 | false=>
  have lp:It (λaA (_:Unit)=>c279_4 (aI p n) aA t) (0:Int) (λ_=>oB (kI t.1 1023&&((t.1.length:Int)==4&&inB t.2.1 0 1023))):=by
   refine It.allB t.1.length (λi=>inB (gt t.1 i).1 0 1023) _ (λi hi aA u rec=>?_) (It.stop λaA u rec=>?_)
   ·unfold c279_4;rw[aF (i63 hi ht)];refine ql hi ?_;refine qz ?_;refine(aD hi).trans ?_;refine qC (f43 (gt t.1 i).1 0 1023) ?_;exact fin
   ·unfold c279_4;refine qe ?_
    cases h4:(t.1.length:Int)==4 with
    | false=>exact iZ h4
    | true=>refine qT h4 ?_;refine qC (f43 t.2.1 0 1023) ?_;rfl
  have e:treeB t=(kI t.1 1023&&((t.1.length:Int)==4&&inB t.2.1 0 1023)):=by unfold treeB;rw[h0];show(_&&(_&&_))=_;ac_rfl
  rw[e]
  exact Ev.eq (λaA=>by unfold T279;exact iZ h0) (lp.ev (i:=()) rfl)
theorem f75(m:MsgT)(hz:SzM m):Ran p 4 75 [va K53 m] (rO K4 (dR m,())):=go75 λn hn=>by
 have lp:It (λaA (_:Unit)=>c75_6 (aI p n) aA m) (1:Int) (λ_=>oB (bI (m.leaves.length - 1) (GG m.leaves))):=by
  have:=It.all (c:=λaA (_:Unit)=>c75_6 (aI p n) aA m) (rA:=λ_=>oB true) (rB:=λ_=>oB false) (λi=>(((i+1:Nat)):Int)) (m.leaves.length - 1) (GG m.leaves) (λi hi aA u rec=>by
   have hi1:i+1<m.leaves.length:=by omega
   have hl:=hz.list
   unfold c75_6;rw[aF (i63 hi1 hl)];refine ql hi1 ?_;refine qz ?_;refine(aD hi1).trans ?_;rw[i9 (i63 hi1 hl) (by omega)];refine qz ?_;refine(aD (show i<m.leaves.length by omega)).trans ?_;exact EQ) (It.stop λaA u rec=>by
   unfold c75_6;refine qN (show ¬ (((m.leaves.length - 1+1:Nat)):Int)<(m.leaves.length:Int) by omega) ?_;rfl)
  refine cast ?_ this
  congr 1;funext u;exact UZ
 rw[<- KE]
 have key:∃ N,∀ aA,N<=aA->T75 (aI p n) aA m=oB (AB m):=by
  obtain⟨N,hN⟩:=lp.all_i
  refine⟨N,λaA hf=>?_⟩
  unfold T75 AB
  refine qC (f47 m.1 0 5) ?_;refine cT λ_=>?_;refine qC (f118 m.2.1) ?_;refine cT λ_=>?_;refine qC (f118 m.2.2.1) ?_;refine cT λ_=>?_;refine s8 λ_=>?_;refine qC (f47 m.2.2.2.1 0 100000) ?_;refine cT λ_=>?_;refine qC (f47 m.hi 0 100000) ?_;refine cT λ_=>?_
  refine qC (f166 m.tree hz.leaves) ?_;refine cT λ_=>?_;refine qC (f167 m.vec 5 100000 hz.vec) ?_;refine cT λ_=>?_;refine qC (f167 m.leaves 4 3 hz.list) ?_;refine cT λ_=>?_;refine qC (f49 m.part (aS hz.part.a) (aS hz.part.b)) ?_;refine cT λ_=>?_;refine qC (f168 m.marks (aS hz.marks)) ?_;refine cT λ_=>?_
  exact hN aA hf ()
 exact key
theorem f209(m:MsgT)(hz:SzM m):Ran p 4 209 [va K53 m] (rO K4 (dR m,())):=go209 λn hn=>by
 have inner:It (λaA (_:Unit)=>c209_10 (aI p n) aA m) (0:Int) (λ_=>oB (kI m.vec 100000&&(inB m.2.2.2.1 0 100000&&(inB m.hi 0 100000&&(treeB m.tree&&(decide ((m.vec.length:Int)<=5)&&(aM m.part&&eL m.marks))))))):=by
  refine It.allB m.vec.length (λi=>inB (gt m.vec i).1 0 100000) _ (λi hi aA u rec=>?_) (It.stop λaA u rec=>?_)
  ·unfold c209_10;rw[aF (i63 hi hz.vec)];refine ql hi ?_;refine qz ?_;refine(aD hi).trans ?_;refine qC (f43 (gt m.vec i).1 0 100000) ?_;exact fin
  ·unfold c209_10;refine qe ?_;refine qC (f43 m.2.2.2.1 0 100000) ?_;refine fN λ_=>?_;refine qC (f43 m.hi 0 100000) ?_;refine fN λ_=>?_;refine qC (f279 m.tree hz.leaves) ?_;refine fN λ_=>?_;refine fN λ_=>?_;refine qC (f46 m.part (aS hz.part.a) (aS hz.part.b)) ?_;refine fN λ_=>?_;refine qC (f280 m.marks (aS hz.marks)) ?_;rfl
 have lp:It (λaA (_:Unit)=>c209_4 (aI p n) aA m) (0:Int) (λ_=>oB (bI m.leaves.length (xR m.leaves)&&(kI m.vec 100000&&(inB m.2.2.2.1 0 100000&&(inB m.hi 0 100000&&(treeB m.tree&&(decide ((m.vec.length:Int)<=5)&&(aM m.part&&eL m.marks)))))))):=by
  refine It.allB m.leaves.length (xR m.leaves) _ (λi hi aA u rec=>?_) (It.stopE (T:=λaA _=>iter (c209_10 (aI p n) aA m) aA (0:Int)) (λaA u rec=>?_) inner.all_i)
  ·have hl:=hz.list
   unfold c209_4 xR;rw[aF (i63 hi hl)];refine ql hi ?_;refine qz ?_;refine(aD hi).trans ?_;refine qC (f43 (gt m.leaves i).1 0 3) ?_;refine chk λ_=>?_
   cases i with
   | zero=>refine qN (by decide) ?_;rfl
   | succ j=>refine qP (by omega) ?_;rw[i9 (i63 hi hl) (by omega)];refine qz ?_;refine(aD (show j<m.leaves.length by omega)).trans ?_;exact EQ
  ·unfold c209_4;refine qe ?_;rfl
 have key:∃ N,∀ aA,N<=aA->T209 (aI p n) aA m=oB (dR m):=by
  obtain⟨N,hN⟩:=lp.all_i
  refine⟨N,λaA hf=>?_⟩
  unfold T209 dR sE
  rw[Bool.and_assoc,Bool.and_assoc,Bool.and_assoc]
  refine qC (f43 m.1 0 5) ?_;refine cT λ_=>?_;refine qC (f109 m.2.1) ?_;refine cT λ_=>?_;refine qC (f109 m.2.2.1) ?_;refine cT λ_=>?_;refine s8 λ_=>?_
  exact hN aA hf ()
 exact key
-- what is shipped
theorem HO{n:Nat}{seq:Int}{l:f0}(h:j0 l seq=true):i64.wrap (seq - l.2.1)=((gE l seq:Nat):Int):=by
 have:=zP h;rw[IntKind.wrap_i64];omega
theorem f300(l:f0)(seq:Int)(hl:l.2.2.1.length<=aP)(hs:∀ i,i<l.2.2.1.length->SzS (gt l.2.2.1 i)):Ran p 5 300 [va K61 l, vf K3 (seq,())] ⟨[⟨K50,mB l seq⟩,⟨K4,(j0 l seq,())⟩],[]⟩:=go300 λn hn=>by
 cases hb:j0 l seq with
 | false=>
  exact Ev.now λaA=>by
   unfold T300 mB;rw[hb];refine qC (f113 l hl hs) ?_
   cases h1:gK l with
   | false=>rfl
   | true=>refine qf ?_;refine qC (f47 seq l.2.1 (i64.wrap (l.2.1+(l.2.2.1.length:Int)))) ?_;unfold j0 at hb;rw[h1] at hb;rw[show inB seq l.2.1 (i64.wrap (l.2.1+(l.2.2.1.length:Int)))=false from hb];rfl
 | true=>
  have hk:=zP hb
  have hb':=hb
  unfold j0 at hb';rw[Bool.and_eq_true] at hb'
  have lp:It (λaA (_:Unit)=>c300_5 (aI p n) aA l) (((gE l seq:Nat):Int),([]:List bL),([]:List aO)) (λ_=>some ⟨[⟨K50,mB l seq⟩,⟨K4,(true,())⟩],[]⟩):=by
   refine It.run (λi=>(((gE l seq+i:Nat):Int),(oH l.2.2.1 (gE l seq) i).1,(oH l.2.2.1 (gE l seq) i).2.1)) (l.2.2.1.length - gE l seq) (λi hi aA u rec=>?_) (It.stop λaA u rec=>?_)
   ·have hi1:gE l seq+i<l.2.2.1.length:=by omega
    have o1:=(aN _).1 (tB hb'.1 (gE l seq) i (by omega))
    have o2:=(aN _).1 (show aM (gt l.2.2.1 (gE l seq+i))=true by have h1:=hb'.1;unfold gK at h1;simp only[Bool.and_eq_true] at h1;exact bD.1 h1.2.2.2.2 _ hi1)
    unfold c300_5;dsimp only;rw[aF (i63 hi1 hl)];refine ql hi1 ?_;refine qz ?_;refine(aD hi1).trans ?_;refine qC (f238 (oH l.2.2.1 (gE l seq) i) (gt l.2.2.1 (gE l seq+i)) (zQ _ _ _) (hs _ hi1) o1.pos o2.pos) ?_;rfl
   ·unfold c300_5;dsimp only;refine qN (show ¬ ((gE l seq+(l.2.2.1.length - gE l seq):Nat):Int)<(l.2.2.1.length:Int) by omega) ?_;unfold mB;rw[hb];rfl
  exact Ev.eq (λaA=>by unfold T300;refine qC (f113 l hl hs) ?_;rw[hb'.1];refine qf ?_;refine qC (f47 seq l.2.1 (i64.wrap (l.2.1+(l.2.2.1.length:Int)))) ?_;rw[hb'.2];refine qf ?_;rw[HO (n:=0) hb];rfl) (lp.ev (i:=()) rfl)
theorem f230(x:NodeT)(seq:Int)(hz:SzN x):Ran p 6 230 [va K66 x, vf K3 (seq,())] ⟨[⟨K50,sQ x seq⟩,⟨K4,(j0 x.log seq,())⟩],[]⟩:=go230 λn hn=>Ev.now λaA=>by
 unfold T230 sQ;refine qD (f300 x.log seq hz.list hz.logs) ?_
 cases j0 x.log seq with
 | true=>rfl
 | false=>refine qf ?_;refine qC (f134 x.state hz.state) ?_;rfl
theorem OC{s:aE}(h:aM s=true):s.1.length<=1000/\s.2.1.length<=1000:=by have:=((aN s).1 h).len;omega
theorem f340(x:NodeT)(ls:List aH)(seq:Int)(hz:SzN x)(h:NodeOk x)(hl:ls.length<=aP):Ran p 7 340 [va K66 x, vf K38 (ls,()), vf K3 (seq,())] (rO K50 (F2 x ls seq)):=go340 λn hn=>Ev.now λaA=>by
 have hm:=OC h.state
 unfold T340;refine qD (f230 x seq hz) ?_;refine qC (f276 x.state ls (aS hl) hm.1 hm.2) ?_;refine qC (f238 (jO x.state ls) (sQ x seq) (OD hz.state ls) (FK hz seq) ((aN _).1 (OE h.state ls)).pos ((aN _).1 (OI h seq)).pos) ?_;rfl
end Go.Abs.Pz
set_option maxHeartbeats 2000000
namespace Go.Abs.Pz
open Go Go.Abs
theorem CZ(ls:List aH):(aG (ls.length:Int)++bX ls.length λi=>aG (gt ls i).1)=cW ls:=by
 unfold cW cR;rw[cB (λx:aH=>aG x.1) ls]
theorem f281(ls:List aH)(hl:ls.length<=100):Ran p 3 281 [vf K38 (ls,())] (rO K22 (cW ls,())):=go281 λn hn=>by
 have hp:=aX (ls.length:Int)
 have lp:It (λaA (_:Unit)=>c281_3 (aI p n) aA ls) ((0:Int),aG (ls.length:Int)) (λ_=>oL (cW ls)):=by
  refine It.accu (α:=aH) (aG (ls.length:Int)) (λi=>aG (gt ls i).1) ls.length 5 (λi hi=>aX _) (λi hi acc ha aA a rec=>?_) (It.stop λaA a rec=>?_)
  ·unfold c281_3;dsimp only;rw[aF (show i<9223372036854775807 by omega)];refine ql hi ?_;refine qz ?_;refine(aD hi).trans ?_;refine qC (f275 (gt ls i).1) ?_
   refine qC (f204 [(acc,()),(aG (gt ls i).1,())] 2000 (kH (by
    intro r hr;simp only[List.mem_cons,List.not_mem_nil,or_false] at hr
    rcases hr with rfl | rfl
    ·show acc.length<=2000;omega
    ·exact dG (by decide))) (by show 2*2000<=4294967296;omega) (by show 2<=9223372036854775807;omega)) ?_
   exact congrArg (λl:List aH=>rec (((i+1:Nat):Int),l)) (by simp:List.flatMap (λr:bM=>r.1) [(acc,()),(aG (gt ls i).1,())]=acc++aG (gt ls i).1)
  ·unfold c281_3;refine qe ?_;exact congrArg oL (CZ ls)
 exact Ev.eq (λaA=>by unfold T281;refine qC (f275 (ls.length:Int)) ?_;rfl) (lp.ev (i:=()) rfl)
theorem f247(ls:List aH)(hl:ls.length<=100):Ran p 3 247 [vf K38 (ls,())] (rO K22 (cW ls,())):=go247 λn hn=>by
 have hp:=aX (ls.length:Int)
 have lp:It (λaA (_:Unit)=>c247_3 (aI p n) aA ls) ((0:Int),aG (ls.length:Int)) (λ_=>oL (cW ls)):=by
  refine It.accu (α:=aH) (aG (ls.length:Int)) (λi=>aG (gt ls i).1) ls.length 5 (λi hi=>aX _) (λi hi acc ha aA a rec=>?_) (It.stop λaA a rec=>?_)
  ·replace ha:acc.length+(aG (gt ls i).1).length<=(aG (ls.length:Int)).length+ls.length*5:=ha
   unfold c247_3;dsimp only;rw[aF (show i<9223372036854775807 by omega)];refine ql hi ?_;refine qz ?_;refine(aD hi).trans ?_;refine qC (f245 (gt ls i).1) ?_;refine qP (by show acc.length+(aG (gt ls i).1).length<=4294967296;omega) ?_;rfl
  ·unfold c247_3;refine qe ?_;exact congrArg oL (CZ ls)
 exact Ev.eq (λaA=>by unfold T247;refine qC (f245 (ls.length:Int)) ?_;rfl) (lp.ev (i:=()) rfl)
theorem f282(b:List aH)(hb:ByL b)(hl:b.length<=aP):Ran p 2 282 [vf K22 (b,())] (rO K22 (pT b,())):=go282 λn hn=>Ev.now λaA=>by
 have h:=tX hb
 unfold T282;refine qC (f272 b (Nat.le_trans hl (by decide))) ?_;refine qN (by decide) ?_;refine qN (by decide) ?_;refine qN (by decide) ?_;exact congrArg oL (N7 h.2 h.1)
theorem f71(b:List aH)(hb:ByL b)(hl:b.length<=aP):Ran p 2 71 [vf K22 (b,())] (rO K22 (pT b,())):=go71 λn hn=>Ev.now λaA=>by
 have h:=tX hb
 unfold T71;refine qC (f162 b (Nat.le_trans hl (by decide))) ?_;refine qN (by decide) ?_;refine qN (by decide) ?_;refine qN (by decide) ?_;refine qN (by decide) ?_;refine qN (by decide) ?_;refine qN (by decide) ?_;exact congrArg oL (N6 h.2 h.1)
-- the body of a message, as both write it
def n8(m:MsgT):List aH:=rk2++cR (fE m)++cW m.tree.1++aG m.tree.2.1++cW m.vec++cW m.leaves++aG (((bG m.part).length:Nat):Int)
theorem G4(m:MsgT):n8 m++bG m.part++aG (m.marks.length:Int)++m.marks.flatMap aU=dV m:=by
 unfold n8 dV sU;simp only[List.append_assoc]
structure BodyL (m:MsgT):Prop where
 h5:(cR (fE m)).length<=25
 a:(cW m.tree.1).length<=25
 b:(aG m.tree.2.1).length<=5
 c:(cW m.vec).length<=30
 d:(cW m.leaves).length<=25
 e:(aG (((bG m.part).length:Nat):Int)).length<=5
 f:(bG m.part).length<=250
 g:(aG (m.marks.length:Int)).length<=5
 k:m.marks.length<=5
theorem v9(ls:List aH):(cW ls).length<=5+ls.length*5:=by
 have h1:=aX (ls.length:Int);have h2:=lQ ls
 unfold cW;rw[List.length_append];omega
theorem UB{m:MsgT}(h:MsgR m):BodyL m:=by
 have h1:=v9 m.tree.1;have h2:=v9 m.vec;have h3:=v9 m.leaves
 have l1:=h.tree.1;have l2:=h.vec.1;have l3:=h.leaves.1
 exact⟨lQ (fE m),by omega,aX _,by omega,by omega,aX _,nZ ((aN _).1 h.part),aX _,h.marks.1⟩
theorem f169(m:MsgT)(h:dR m=true):Ran p 5 169 [va K53 m] (rO K22 (dV m,())):=go169 λn hn=>by
 have hr:=oZ h
 have L:=UB hr
 have l1:=L.h5;have l2:=L.a;have l3:=L.b;have l4:=L.c;have l5:=L.d;have l6:=L.e;have l7:=L.f;have l8:=L.g;have l9:=L.k
 have t1:=hr.tree.1;have t2:=hr.vec.1;have t3:=hr.leaves.1
 have l0:rk2.length=2:=rfl
 have hok:StateOk m.part:=(aN _).1 hr.part
 have mk:∀ pre:List aH,pre.length<=1000->It (λaA (_:Unit)=>c169_16 (aI p n) aA m) ((0:Int),pre) (λ_=>oL (pre++m.marks.flatMap aU)):=by
  intro pre hp
  refine It.accu (α:=aH) pre (λi=>aU (gt m.marks i)) m.marks.length 10 (λi hi=>fL _) (λi hi acc ha aA a rec=>?_) (It.stop λaA a rec=>?_)
  ·have ha':acc.length+(aU (gt m.marks i)).length<=1050:=by omega
   unfold aU at ha';rw[List.length_append] at ha'
   unfold c169_16;dsimp only;rw[aF (show i<9223372036854775807 by omega)];refine ql hi ?_;refine qz ?_;refine(aD hi).trans ?_;refine qC (f245 (gt m.marks i).1) ?_;refine qP (by show acc.length+(aG (gt m.marks i).1).length<=4294967296;omega) ?_;refine qz ?_;refine(aD hi).trans ?_;refine qC (f245 (gt m.marks i).2.1) ?_
   refine qP (by show(acc++aG (gt m.marks i).1).length+(aG (gt m.marks i).2.1).length<=4294967296;rw[List.length_append];omega) ?_
   exact congrArg (λl:List aH=>rec (((i+1:Nat):Int),l)) (List.append_assoc _ _ _)
  ·unfold c169_16;refine qe ?_;exact congrArg (λl:List aH=>oL (pre++l)) (cB aU m.marks)
 have body0:=mk (n8 m++bG m.part++aG (m.marks.length:Int)) (by unfold n8;simp only[List.length_append];dsimp only[MsgT.tree] at*;omega)
 rw[G4] at body0
 have lp:It (λaA (_:Unit)=>c169_4 (aI p n) aA m) ((0:Int),rk2) (λ_=>oL (dV m)):=by
  refine It.accu (α:=aH) rk2 (λi=>aG (gt (fE m) i).1) 5 5 (λi hi=>aX _) (λi hi acc ha aA a rec=>?_)
   (It.stopE (T:=λaA _=>iter (c169_16 (aI p n) aA m) aA ((0:Int),n8 m++bG m.part++aG (m.marks.length:Int))) (λaA a rec=>?_) body0.all_i)
  ·replace ha:acc.length+(aG (gt (fE m) i).1).length<=2+5*5:=ha
   have hi5:i<(fE m).length:=hi
   unfold c169_4;dsimp only;rw[aF (show i<9223372036854775807 by omega)];refine ql hi5 ?_;refine qz ?_;refine(aD hi5).trans ?_;refine(aD hi5).trans ?_;refine qC (f245 (gt (fE m) i).1) ?_;refine qP (by show acc.length+(aG (gt (fE m) i).1).length<=4294967296;omega) ?_;rfl
  ·have e0:(rk2++bX 5 λi=>aG (gt (fE m) i).1)=rk2++cR (fE m):=congrArg (λl=>rk2++l) (cB (λx:aH=>aG x.1) (fE m))
   show c169_4 (aI p n) aA m rec (((5:Nat):Int),rk2++bX 5 λi=>aG (gt (fE m) i).1)=_
   rw[e0]
   have b1:(rk2++cR (fE m)).length+(cW m.tree.1).length<=bound:=by unfold bound;simp only[List.length_append];dsimp only[MsgT.tree] at*;omega
   have b2:(rk2++cR (fE m)++cW m.tree.1).length+(aG m.tree.2.1).length<=bound:=by unfold bound;simp only[List.length_append];dsimp only[MsgT.tree] at*;omega
   have b3:(rk2++cR (fE m)++cW m.tree.1++aG m.tree.2.1).length+(cW m.vec).length<=bound:=by unfold bound;simp only[List.length_append];dsimp only[MsgT.tree] at*;omega
   have b4:(rk2++cR (fE m)++cW m.tree.1++aG m.tree.2.1++cW m.vec).length+(cW m.leaves).length<=bound:=by unfold bound;simp only[List.length_append];dsimp only[MsgT.tree] at*;omega
   have b5:(rk2++cR (fE m)++cW m.tree.1++aG m.tree.2.1++cW m.vec++cW m.leaves).length+(aG (((bG m.part).length:Nat):Int)).length<=bound:=by unfold bound;simp only[List.length_append];dsimp only[MsgT.tree] at*;omega
   have b6:(n8 m).length+(bG m.part).length<=bound:=by unfold bound n8;simp only[List.length_append];dsimp only[MsgT.tree] at*;omega
   have b7:(n8 m++bG m.part).length+(aG (m.marks.length:Int)).length<=bound:=by unfold bound n8;simp only[List.length_append];dsimp only[MsgT.tree] at*;omega
   unfold c169_4;dsimp only;refine qN (show ¬ ((5:Int)<5) by decide) ?_;refine qC (f247 m.tree.1 (by omega)) ?_;refine qP b1 ?_;refine qC (f245 m.tree.2.1) ?_;refine qP b2 ?_;refine qC (f247 m.vec (by omega)) ?_;refine qP b3 ?_;refine qC (f247 m.leaves (by omega)) ?_;refine qP b4 ?_;refine qC (f165 m.part hok) ?_;refine qC (f245 (((bG m.part).length:Nat):Int)) ?_;refine qP b5 ?_;refine qP b6 ?_;refine qC (f245 (m.marks.length:Int)) ?_;refine qP b7 ?_;rfl
 exact Ev.eq (λaA=>by unfold T169;rfl) (lp.ev (i:=()) rfl)
theorem xQ{m:MsgT}(h:dR m=false):aZ m=[]:=by unfold aZ;rw[h];rfl
theorem f76(m:MsgT)(hz:SzM m):Ran p 6 76 [va K53 m] (rO K22 (aZ m,())):=go76 λn hn=>Ev.now λaA=>by
 unfold T76;refine qC (f75 m hz) ?_
 cases h:dR m with
 | false=>refine qt ?_;rw[xQ h];rfl
 | true=>
  have hl:=BJ (oZ h)
  have hb:(dV m).length+(pT (dV m)).length<=bound:=by rw[lU];unfold bound;omega
  rw[jA h];refine qf ?_;refine qC (f169 m h) ?_;refine qC (f71 (dV m) (n7 m) (Nat.le_trans hl (by decide))) ?_;refine qP hb ?_;rfl
theorem f211(m:MsgT)(hz:SzM m):Ran p 5 211 [va K53 m] (rO K22 (aZ m,())):=go211 λn hn=>by
 cases h:dR m with
 | false=>exact Ev.now λaA=>by unfold T211;refine qC (f209 m hz) ?_;rw[h];refine qt ?_;rw[xQ h];rfl
 | true=>
  have hr:=oZ h
  have L:=UB hr
  have l1:=L.h5;have l2:=L.a;have l3:=L.b;have l4:=L.c;have l5:=L.d;have l6:=L.e;have l7:=L.f;have l8:=L.g;have l9:=L.k
  have t1:=hr.tree.1;have t2:=hr.vec.1;have t3:=hr.leaves.1
  have l0:rk2.length=2:=rfl
  have hok:StateOk m.part:=(aN _).1 hr.part
  have hl:=BJ hr
  have mk:∀ pre:List aH,pre.length<=1000->pre++m.marks.flatMap aU=dV m->It (λaA (_:Unit)=>c211_6 (aI p n) aA m) ((0:Int),pre) (λ_=>oL (cO m)):=by
   intro pre hp he
   refine It.accu (α:=aH) pre (λi=>aU (gt m.marks i)) m.marks.length 10 (λi hi=>fL _) (λi hi acc ha aA a rec=>?_) (It.stop λaA a rec=>?_)
   ·unfold c211_6;dsimp only;rw[aF (show i<9223372036854775807 by omega)];refine ql hi ?_;refine qz ?_;refine(aD hi).trans ?_;refine qC (f275 (gt m.marks i).1) ?_;refine qC (f275 (gt m.marks i).2.1) ?_
    refine qC (f204 [(acc,()),(aG (gt m.marks i).1,()),(aG (gt m.marks i).2.1,())] 2000 (kH (by
     intro r hr;simp only[List.mem_cons,List.not_mem_nil,or_false] at hr
     rcases hr with rfl | rfl | rfl
     ·show acc.length<=2000;omega
     ·exact dG (by decide)
     ·exact dG (by decide))) (by show 3*2000<=4294967296;omega) (by show 3<=9223372036854775807;omega)) ?_
    exact congrArg (λl:List aH=>rec (((i+1:Nat):Int),l)) (by simp[aU]:List.flatMap (λr:bM=>r.1) [(acc,()),(aG (gt m.marks i).1,()),(aG (gt m.marks i).2.1,())]=acc++aU (gt m.marks i))
   ·have e1:(pre++bX m.marks.length λi=>aU (gt m.marks i))=dV m:=(congrArg (λl=>pre++l) (cB aU m.marks)).trans he
    show c211_6 (aI p n) aA m rec ((m.marks.length:Int),pre++bX m.marks.length λi=>aU (gt m.marks i))=_
    rw[e1]
    unfold c211_6;refine qe ?_;refine qC (f282 (dV m) (n7 m) (Nat.le_trans hl (by decide))) ?_
    refine qC (f204 [(dV m,()),(pT (dV m),())] 2000 (kH (by
     intro r hr;simp only[List.mem_cons,List.not_mem_nil,or_false] at hr
     rcases hr with rfl | rfl
     ·show(dV m).length<=2000;omega
     ·show(pT (dV m)).length<=2000;rw[lU];omega)) (by show 2*2000<=4294967296;omega) (by show 2<=9223372036854775807;omega)) ?_
    exact congrArg oL (by simp[cO]:List.flatMap (λr:bM=>r.1) [(dV m,()),(pT (dV m),())]=cO m)
  have hP:(List.flatMap (λr:bM=>r.1) [(rk2,()),(aG m.1,()),(aG m.2.1,()),(aG m.2.2.1,()),(aG m.2.2.2.1,()),(aG m.hi,()),(cW m.tree.1,()),(aG m.tree.2.1,()),(cW m.vec,()),(cW m.leaves,()),(aG (((bG m.part).length:Nat):Int),()),(bG m.part,()),(aG (m.marks.length:Int),())])=n8 m++bG m.part++aG (m.marks.length:Int):=by
   unfold n8 cR fE;simp only[List.flatMap_cons,List.flatMap_nil,List.append_assoc,List.append_nil]
  have body0:=mk (n8 m++bG m.part++aG (m.marks.length:Int)) (by unfold n8;simp only[List.length_append];dsimp only[MsgT.tree] at*;omega) (G4 m)
  rw[jA h]
  exact Ev.eq (λaA=>by
   unfold T211;refine qC (f209 m hz) ?_;rw[h];refine qf ?_;refine qC (f273 m.part hok) ?_;refine qP (show 0<2 by decide) ?_
   refine qC (f275 m.1) ?_;refine qC (f275 m.2.1) ?_;refine qC (f275 m.2.2.1) ?_;refine qC (f275 m.2.2.2.1) ?_;refine qC (f275 m.hi) ?_;refine qC (f281 m.tree.1 (by omega)) ?_;refine qC (f275 m.tree.2.1) ?_;refine qC (f281 m.vec (by omega)) ?_;refine qC (f281 m.leaves (by omega)) ?_;refine qC (f275 (((bG m.part).length:Nat):Int)) ?_;refine qC (f275 (m.marks.length:Int)) ?_
   refine qC (f204 [(rk2,()),(aG m.1,()),(aG m.2.1,()),(aG m.2.2.1,()),(aG m.2.2.2.1,()),(aG m.hi,()),(cW m.tree.1,()),(aG m.tree.2.1,()),(cW m.vec,()),(cW m.leaves,()),(aG (((bG m.part).length:Nat):Int),()),(bG m.part,()),(aG (m.marks.length:Int),())] 2000 (kH (by
    intro r hr;simp only[List.mem_cons,List.not_mem_nil,or_false] at hr
    rcases hr with rfl | rfl | rfl | rfl | rfl | rfl | rfl | rfl | rfl | rfl | rfl | rfl | rfl
    ·show rk2.length<=2000;omega
    ·exact dG (by decide)
    ·exact dG (by decide)
    ·exact dG (by decide)
    ·exact dG (by decide)
    ·exact dG (by decide)
    ·show(cW m.tree.1).length<=2000;omega
    ·exact dG (by decide)
    ·show(cW m.vec).length<=2000;omega
    ·show(cW m.leaves).length<=2000;omega
    ·exact dG (by decide)
    ·show(bG m.part).length<=2000;omega
    ·exact dG (by decide))) (by show 13*2000<=4294967296;omega) (by show 13<=9223372036854775807;omega)) ?_
   exact congrArg (λl:List aH=>iter (c211_6 (aI p n) aA m) aA ((0:Int),l)) hP) (body0.ev (i:=()) rfl)
end Go.Abs.Pz
namespace Go.Abs.Pz
open Go Go.Abs
theorem f353(a b:kQ):Ran p 1 353 [va K46 a, va K46 b] (rO K38 (mD a b,())):=go353 λn hn=>by
 cases h0:a.2.1==b.2.1 with
 | true=>exact Ev.now λaA=>by unfold T353 mD;rw[h0];exact mF rfl
 | false=>
  have lp:It (λaA (_:Unit)=>c353_5 (aI p n) aA a b) ((0:Int),([]:List aH)) (λ_=>rV K38 (bX 4 (lJ a b),())):=by
   refine It.accu (α:=aH) [] (lJ a b) 4 1 (λi _=>yC a b i) (λi hi acc ha aA u rec=>?_) (It.stop λaA u rec=>?_)
   ·show c353_5 (aI p n) aA a b rec ((i:Int),acc)=rec (((i+1:Nat):Int),acc++lJ a b i)
    have hb:acc.length+1<=bound+(1 - (lJ a b i).length):=by simp at ha;unfold bound;omega
    unfold c353_5;dsimp only;rw[aF (show i<9223372036854775807 by omega)];refine qP (show(i:Int)<4 by omega) ?_
    unfold lJ at hb ⊢
    cases h1:(a.1.length:Int) != 4 with
    | true=>refine qT h1 ?_;refine qP (by rw[h1] at hb;exact hb) ?_;rfl
    | false=>
     refine qF h1 ?_
     cases h2:(b.1.length:Int) != 4 with
     | true=>refine qT h2 ?_;refine qP (by rw[h1,h2] at hb;exact hb) ?_;rfl
     | false=>
      have e1:a.1.length=4:=by rw[bne_eq_false_iff_eq] at h1;omega
      have e2:b.1.length=4:=by rw[bne_eq_false_iff_eq] at h2;omega
      refine qF h2 ?_;refine qz ?_;refine(aD (show i<a.1.length by omega)).trans ?_;refine qz ?_;refine(aD (show i<b.1.length by omega)).trans ?_
      cases h3:(gt a.1 i).1 != (gt b.1 i).1 with
      | true=>refine qt ?_;refine qP (by rw[h1,h2,h3] at hb;exact hb) ?_;rfl
      | false=>refine qf ?_;show rec _=rec _;rw[show(bif false then[((i:Int),())] else bif false then[((i:Int),())] else bif false then[((i:Int),())] else[])=([]:List aH)from rfl,List.append_nil];rfl
   ·unfold c353_5;dsimp only;refine qe ?_;rfl
  have e:mD a b=bX 4 (lJ a b):=by unfold mD;rw[h0];rfl
  rw[e]
  exact Ev.eq (λaA=>by unfold T353;exact iZ h0) (lp.ev (i:=()) rfl)
theorem f231(nd:NodeT)(x:Int)(b:Bool)(hv:nd.sess.length<=aP):Ran p 1 231 [va K66 nd, vf K3 (x,()), vf K4 (b,())] (rO K3 (dE nd.sess x b,())):=go231 λn hn=>by
 have key:∀ {i:Nat} {α:Type} {X R:α},(bif(gt nd.sess i).1==x then(bif rM (gt nd.sess i).2.2.1 b then X else R)else R)=bif dI nd.sess i x b then X else R:=two
 have lp:It (λaA (_:Unit)=>c231_2 (aI p n) aA nd x b) (0:Int) (λ_=>oI (dE nd.sess x b)):=by
  have:=It.first (c:=λaA (_:Unit)=>c231_2 (aI p n) aA nd x b) (λi=>(i:Int)) nd.sess.length (λi=>dI nd.sess i x b) (λi _=>oI (i:Int)) (λ_=>oI (-1)) (λi hi hp aA a rec=>?_) (λi hi hp=>It.stop λaA a rec=>?_) (It.stop λaA a rec=>?_)
  ·revert this;unfold dE
   cases (List.range nd.sess.length).find? (λi=>dI nd.sess i x b)<;>exact λh=>h
  ·have hb:=bN hi hv
   unfold c231_2;rw[aF hb];refine ql hi ?_;refine qz ?_;refine(aD hi).trans ?_
   unfold dI at hp
   cases h1:(gt nd.sess i).1==x with
   | false=>exact iZ rfl
   | true=>refine qt ?_;refine qz ?_;refine(aD hi).trans ?_;rw[h1] at hp;exact iZ hp
  ·unfold c231_2;refine ql hi ?_;refine qz ?_;refine(aD hi).trans ?_
   unfold dI at hp;rw[Bool.and_eq_true] at hp
   refine qT hp.1 ?_;refine qz ?_;refine(aD hi).trans ?_;exact mF hp.2
  ·unfold c231_2;refine qe ?_;rfl
 exact Ev.eq (λaA=>by unfold T231;rfl) (lp.ev (i:=()) rfl)
theorem f229(x:NodeT)(k to num:Int)(hz:SzN x):Ran p 6 229 [va K66 x, vf K3 (k,()), vf K3 (to,()), vf K3 (num,())] (rO K53 (S5 x k to num)):=go229 λn hn=>Ev.now λaA=>by
 unfold T229;refine qC (f115 x.log hz.list hz.logs) ?_;refine qP (gV hz.got) ?_;refine qC (f298 x.state hz.state) ?_;rfl
structure Hears (x:NodeT) (m:MsgT):Prop where
 szn:SzN x
 szm:SzM m
 node:NodeOk x
 id:0<=x.1
 vec:x.1.toNat<m.vec.length
theorem f336(x:NodeT)(m:MsgT)(h:Hears x m):Ran p 8 336 [va K66 x, va K53 m] (rO K66 (eC x m)):=go336 λn hn=>Ev.now λaA=>by
 unfold T336;refine qC (f132 x h.szn) ?_;refine qP h.id ?_;refine(a9 h.vec).trans ?_;refine qC (f115 x.log h.szn.list h.szn.logs) ?_;refine qC (f333 (gt m.vec x.1.toNat).1 (cA x.log)) ?_;refine qC (f352 x.acked m.2.1 (mxI false (gt m.vec x.1.toNat).1 (cA x.log)) h.szn.acked) ?_;refine qC (f297 x.seen m.2.1 m.marks h.szn.seen h.szn.lines h.szm.marks) ?_;refine qC (f227 (heard0 x m) iX (C1 h.szn m) kA (DS (h.node.heard0 m)) yZ) ?_;rfl
theorem f335(x:NodeT)(m:MsgT)(h:Hears x m)(hp:aM m.part=true):Ran p 9 335 [va K66 x, va K53 m] (rO K66 (dY x m)):=go335 λn hn=>Ev.now λaA=>by
 have hs:=lT (lP h.szn m) m.part
 unfold T335;refine qC (f336 x m h) ?_;refine qC (f227 (eC x m) m.part (lP h.szn m) h.szm.part (DS (h.node.heard m)) hp) ?_;refine qC (f352 (jN (eC x m) m.part).got m.2.1 m.hi hs.got) ?_;rfl
end Go.Abs.Pz
namespace Go.Abs.Pz
open Go Go.Abs
theorem f338(x:NodeT)(m:MsgT)(b:Bool)(hv:x.sess.length<=aP):Ran p 2 338 [va K66 x, va K53 m, vf K4 (b,())] (rO K3 (sX x m b,())):=go338 λn hn=>Ev.now λaA=>by
 unfold T338 sX;refine qC (f231 x m.2.1 b hv) ?_
 rcases hI x.sess m.2.1 b with ⟨k,hk,e,_⟩ | ⟨e,_⟩<;>rw[e]
 ·refine qz ?_;refine qz ?_;refine(aD hk).trans ?_;rw[decide_eq_true (show((k:Nat):Int)>=0 by omega),Int.toNat_natCast]
  cases (gt x.sess k).2.1 != m.2.2.2.1<;>rfl
 ·rfl
theorem f339(x:NodeT)(k:Nat)(hz:SzN x)(hk:k<x.sess.length):Ran p 4 339 [va K66 x, vf K3 ((k:Int),())] (rO K66 (kM x k)):=go339 λn hn=>Ev.now λaA=>by
 rw[<- O0 hk hz.sess]
 unfold T339;refine qC (f132 x hz) ?_;exact QV hk hz.sess
theorem Hears.of{x:NodeT}{m:MsgT}(hz:SzN x)(hm:SzM m)(h:RecOk x m):Hears x m:=
 ⟨hz,hm,h.node,h.idn.1,by have h1:=h.idn;have h2:=h.vec;omega⟩
theorem R4{x:NodeT}{k:Nat}(hk:k<x.sess.length)(num:Int):(x.sess.set k ((gt x.sess k).1,num,(gt x.sess k).2.2)).set k ((gt (x.sess.set k ((gt x.sess k).1,num,(gt x.sess k).2.2)) k).1,(gt (x.sess.set k ((gt x.sess k).1,num,(gt x.sess k).2.2)) k).2.1,(gt (x.sess.set k ((gt x.sess k).1,num,(gt x.sess k).2.2)) k).2.2.1,(0:Int),(gt (x.sess.set k ((gt x.sess k).1,num,(gt x.sess k).2.2)) k).2.2.2.2)=oW x k num:=by
 rw[bO hk,CF];rfl
theorem VZ{x:NodeT}{m:MsgT}{k:Nat}(e:dE x.sess m.2.1 true=(k:Int)):lD x m=false/\g9 x m=oW x k m.2.2.2.1:=by
 unfold lD g9;rw[e,decide_eq_true (show((k:Nat):Int)>=0 by omega)];exact⟨rfl,by rw[Int.toNat_natCast];rfl⟩
theorem VY{x:NodeT}{m:MsgT}(e:dE x.sess m.2.1 true= -1):lD x m=((x.sess.length:Int)==x.slots)/\g9 x m=lK x m:=by
 unfold lD g9;rw[e];exact⟨rfl,rfl⟩
theorem f337(x:NodeT)(m:MsgT)(hz:SzN x)(hm:SzM m)(R:RecOk x m):Ran p 9 337 [va K66 x, va K53 m] ⟨[⟨K66,(oU x m).1⟩,⟨K161,((oU x m).2.1,())⟩,⟨K3,((oU x m).2.2,())⟩],[]⟩:=go337 λn hn=>Ev.now λaA=>by
 have h0:=R.idn.1
 have hv:x.1.toNat<m.vec.length:=(Hears.of hz hm R).vec
 have go:lD x m=false->∀ {y:NodeT},withS x (g9 x m)=y->Hears y m/\NodeOk (eC y m)/\SzN (eC y m)/\oU x m=(eC y m,[HV (eC y m) x m],0):=by
  intro hf y e
  have hr:=R.syn hf
  have hs:=uE hz (w9 R.node m)
  rw[e] at hr hs
  refine⟨Hears.of hs hm hr,hr.node.heard m,lP hs m,?_⟩
  unfold oU LM;rw[hf,e];rfl
 unfold T337;refine qC (f132 x hz) ?_;refine qC (f231 x m.2.1 true hz.sess) ?_
 rcases hI x.sess m.2.1 true with ⟨k,hk,e,_⟩ | ⟨e,_⟩
 ·obtain⟨hf,hs⟩:=VZ e
  have hk2:k<(x.sess.set k ((gt x.sess k).1,m.2.2.2.1,(gt x.sess k).2.2)).length:=by rw[List.length_set];exact hk
  obtain⟨hh,ho,hz2,he⟩:=go hf (y:=withS x ((x.sess.set k ((gt x.sess k).1,m.2.2.2.1,(gt x.sess k).2.2)).set k ((gt (x.sess.set k ((gt x.sess k).1,m.2.2.2.1,(gt x.sess k).2.2)) k).1,(gt (x.sess.set k ((gt x.sess k).1,m.2.2.2.1,(gt x.sess k).2.2)) k).2.1,(gt (x.sess.set k ((gt x.sess k).1,m.2.2.2.1,(gt x.sess k).2.2)) k).2.2.1,(0:Int),(gt (x.sess.set k ((gt x.sess k).1,m.2.2.2.1,(gt x.sess k).2.2)) k).2.2.2.2))) (by rw[hs,R4 hk])
  rw[he,e];refine qz ?_;refine qz ?_;refine(aD hk).trans ?_;refine(aD hk).trans ?_;refine qz ?_;refine(aD hk2).trans ?_;refine(aD hk2).trans ?_
  refine qC (f336 _ m hh) ?_;refine qC (f229 _ 3 m.2.1 m.2.2.2.1 hz2) ?_;refine qC (f222 (eC _ m).tree hz2.leaves) ?_;refine qC (f353 (eC _ m).tree m.tree) ?_;refine qP h0 ?_;refine(a9 hv).trans ?_;refine qC (f340 _ (mD (eC _ m).tree m.tree) (gt m.vec x.1.toNat).1 hz2 ho (Nat.le_trans (tW _ _) (by decide))) ?_;rfl
 ·obtain⟨hf,hs⟩:=VY e
  rw[e];refine qf ?_
  cases hl:(x.sess.length:Int)==x.slots with
  | true=>
   rw[hl] at hf
   refine qT hl ?_;refine qC (f229 x 5 m.2.1 m.2.2.2.1 hz) ?_;unfold oU;rw[hf];rfl
  | false=>
   rw[hl] at hf
   obtain⟨hh,ho,hz2,he⟩:=go hf (y:=withS x (lK x m)) (by rw[hs])
   have hb:x.sess.length+1<=bound:=by have:=hz.sess;unfold aP at this;unfold bound;omega
   rw[he];refine qF hl ?_;refine qP hb ?_
   refine qC (f336 (withS x (lK x m)) m hh) ?_;refine qC (f229 _ 3 m.2.1 m.2.2.2.1 hz2) ?_;refine qC (f222 (eC _ m).tree hz2.leaves) ?_;refine qC (f353 (eC _ m).tree m.tree) ?_;refine qP h0 ?_;refine(a9 hv).trans ?_;refine qC (f340 _ (mD (eC _ m).tree m.tree) (gt m.vec x.1.toNat).1 hz2 ho (Nat.le_trans (tW _ _) (by decide))) ?_;rfl
end Go.Abs.Pz
