/- What the functions of this program answer, part rg. -/
import Derived.Test.YtohahjehdododaaGreatXl
import Derived.Test.YtohahjehdododaaGreatW3
import Derived.Test.YtohahjehdododaaGreatXep
import Derived.Test.YtohahjehdododaaGreatW4
set_option linter.unusedVariables false
open Go.IntKind (i64)
namespace Go.Abs.Wz
open Go Go.Abs
def DI:bU:=(List.replicate ((5:Int)).toNat (eY K3),())
def dU(n:Int):List bU:=bif inB n 1 5 then List.replicate n.toNat DI else[]
theorem f146(a:Int):Ran p 2 146 [vf K3 (a,())] (rO K50 (dU a,())):=go146 λn hn=>by
 cases h:inB a 1 5 with
 | false=>exact Ev.now λaA=>by unfold T146 dU;refine(aB (f33 a 1 5 n (by omega))).trans ?_;rw[h];rfl
 | true=>
  have ha:=aV.1 h
  have lp:It (λaA (_:Unit)=>c146_5 (aK p n) aA a) ((0:Int),([]:List (Row K44))) (λ_=>rV K50 (dU a,())):=by
   refine It.run (λi=>((i:Int),List.replicate i DI)) a.toNat (λi hi aA u rec=>?_) (It.stop λaA u rec=>?_)
   ·show c146_5 (aK p n) aA a rec ((i:Int),List.replicate i DI)=rec (((i+1:Nat):Int),List.replicate (i+1) DI)
    unfold c146_5;dsimp only;rw[aM (by omega)];refine(aE (by omega)).trans ?_;refine(aL (by decide)).trans ?_;refine(aE ?_).trans ?_
    ·show List.length (List.replicate i DI)+1<=bound;rw[List.length_replicate];unfold bound;omega
    ·rw[List.replicate_succ'];rfl
   ·show c146_5 (aK p n) aA a rec ((a.toNat:Int),List.replicate a.toNat DI)=_
    unfold c146_5;dsimp only;refine(aI (by omega)).trans ?_;unfold dU;rw[h];rfl
  exact Ev.eq (λaA=>by unfold T146;refine(aB (f33 a 1 5 n (by omega))).trans ?_;rw[h];rfl) (lp.ev (i:=()) rfl)
def SK:NodeT:=((0:Int),(0:Int),[],[],[],(0:Int),(0:Int),(0:Int),[],[],[],[],(0:Int),(0:Int),[],(0:Int),(0:Int),(0:Int),[],())
def gN(id n cap slots wait lim:Int):NodeT:=(id,n,[],[],(cJ ([],[],())).1,(cJ ([],[],())).2.1,cap,(0:Int),[],List.replicate n.toNat (eY K3),List.replicate n.toNat (eY K3),dU n,
 (0:Int),slots,[],wait,lim,(0:Int),List.replicate ((5:Int)).toNat (eY K103),())
theorem yQ(s:aH):(cJ s).1.length<=4:=by
 unfold cJ;cases aP s with
 | true=>exact Nat.le_refl 4
 | false=>exact Nat.zero_le _
theorem OC:SzN SK:=⟨⟨Nat.zero_le _,Nat.zero_le _⟩,Nat.zero_le _,Nat.zero_le _,(λi hi=>absurd hi (Nat.not_lt_zero _)),Nat.zero_le _,Nat.zero_le _,Nat.zero_le _,(λi hi=>absurd hi (Nat.not_lt_zero _)),Nat.zero_le _,Nat.zero_le _⟩
theorem C5{n:Int}(h:inB n 1 5=true):(dU n).length<=5:=by
 have:=aV.1 h
 unfold dU;rw[h];show(List.replicate n.toNat DI).length<=5;rw[List.length_replicate];omega
theorem n8{n:Int}(h:inB n 1 5=true){i:Nat}(hi:i<(dU n).length):gt (dU n) i=DI:=by
 rw[cS hi];unfold dU;simp[h]
theorem sR(id n cap slots wait lim:Int)(h:inB n 1 5=true):SzN (gN id n cap slots wait lim):=by
 have hh:=aV.1 h
 have e:List.length (List.replicate n.toNat (eY K3))<=aW:=by rw[List.length_replicate];unfold aW;omega
 refine⟨⟨Nat.zero_le _,Nat.zero_le _⟩,Nat.le_trans (yQ _) (by decide),Nat.zero_le _,(λi hi=>absurd hi (Nat.not_lt_zero _)),e,e,Nat.le_trans (C5 h) (by decide),λi hi=>?_,Nat.zero_le _,?_⟩
 ·rw[show gt (gN id n cap slots wait lim).seen i=DI from n8 h hi];decide
 ·show List.length (List.replicate ((5:Int)).toNat (eY K103))<=aW
  rw[List.length_replicate];decide
def pM(id n cap slots wait lim:Int):Bool:=inB n 1 5&&dY (gN id n cap slots wait lim)
def qA(id n cap slots wait lim:Int):NodeT:=bif pM id n cap slots wait lim then gN id n cap slots wait lim else SK
theorem s00:SzS ([],[],()):=⟨Nat.zero_le _,Nat.zero_le _⟩
theorem dd{n:Int}(h:inB n 1 5=true):(decide (0<=n)&&decide (n<=(bound:Int))&&decide (n=n))=true:=by
 have:=aV.1 h
 unfold bound;simp;omega
theorem f122(id m cap slots wait lim:Int):Ran p 8 122 [vf K3 (id,()), vf K3 (m,()), vf K3 (cap,()), vf K3 (slots,()), vf K3 (wait,()), vf K3 (lim,())] ⟨[⟨K54,qA id m cap slots wait lim⟩,⟨K4,(pM id m cap slots wait lim,())⟩],[]⟩:=go122 λn hn=>Ev.now λaA=>by
 show T122 (aK p n) aA id m cap slots wait lim=some ⟨[⟨K54,qA id m cap slots wait lim⟩,⟨K4,(pM id m cap slots wait lim,())⟩],[]⟩
 unfold T122 qA pM
 refine(aB (f33 m 1 5 n (by omega))).trans ?_
 cases h:inB m 1 5 with
 | false=>rfl
 | true=>
  refine(aF rfl).trans ?_
  refine(aB (f65 ([],[],()) s00 n (by omega))).trans ?_
  refine(aL (dd h)).trans ?_;refine(aL (dd h)).trans ?_
  refine(aB (f146 m n (by omega))).trans ?_
  refine(aL (by decide)).trans ?_
  refine(aB (f34 (gN id m cap slots wait lim) (sR _ _ _ _ _ _ h) n (by omega))).trans ?_
  cases dY (gN id m cap slots wait lim)<;>rfl
theorem OD(id n cap slots wait lim:Int):SzN (qA id n cap slots wait lim):=by
 unfold qA
 cases h:pM id n cap slots wait lim with
 | false=>exact OC
 | true=>exact sR _ _ _ _ _ _ (by unfold pM at h;simp only[Bool.and_eq_true] at h;exact h.1)
def eL(n cap slots wait lim:Int)(k:Nat):List NodeT:=(List.range k).map fun(i:Nat)=>qA (i:Int) n cap slots wait lim
theorem DS(n cap slots wait lim:Int)(k:Nat):eL n cap slots wait lim (k+1)=eL n cap slots wait lim k++[qA (k:Int) n cap slots wait lim]:=by
 unfold eL;rw[List.range_succ,List.map_append];rfl
theorem g9(n cap slots wait lim:Int)(k:Nat):(eL n cap slots wait lim k).length=k:=by unfold eL;simp
theorem sQ(n cap slots wait lim:Int){k i:Nat}(h:i<k):gt (eL n cap slots wait lim k) i=qA (i:Int) n cap slots wait lim:=by
 rw[cS (by rw[g9];exact h)];unfold eL;simp
def dH(n:Int):Nat:=min n.toNat 6
def wnW(n cap slots wait lim:Int):a9:=(eL n cap slots wait lim (dH n),[],[],())
def BA(n cap slots wait lim:Int):Bool:=bM (wnW n cap slots wait lim)
def wI(n cap slots wait lim:Int):a9:=bif BA n cap slots wait lim then wnW n cap slots wait lim else([],[],[],())
theorem yM(n:Int):dH n<=6:=Nat.min_le_right _ _
theorem MQ(n cap slots wait lim:Int):SzW (wnW n cap slots wait lim):=by
 have hc:=yM n
 refine⟨?_,λi hi=>?_,Nat.zero_le _,Nat.zero_le _,λi hi=>absurd hi (Nat.not_lt_zero _)⟩
 ·show(eL n cap slots wait lim (dH n)).length<=aW
  rw[g9];unfold aW;omega
 ·have hi':i<dH n:=by rw[<- g9 n cap slots wait lim (dH n)];exact hi
  rw[show gt (wnW n cap slots wait lim).1 i=_ from sQ n cap slots wait lim hi']
  exact OD _ _ _ _ _ _
theorem MP{n cap slots wait lim:Int}(h:bS (dH n) (λi=>pM (i:Int) n cap slots wait lim)=false):BA n cap slots wait lim=false:=by
 cases hw:BA n cap slots wait lim with
 | false=>rfl
 | true=>
  have:bS (dH n) (λi=>pM (i:Int) n cap slots wait lim)=true:=by
   rw[bN]
   intro i hi
   have hn:=CZ (w:=wnW n cap slots wait lim) hw (i:=i) (by show i<(eL n cap slots wait lim (dH n)).length;rw[g9];exact hi)
   rw[show gt (wnW n cap slots wait lim).1 i=_ from sQ n cap slots wait lim hi] at hn
   cases hx:pM (i:Int) n cap slots wait lim with
   | true=>rfl
   | false=>unfold qA at hn;rw[hx] at hn;exact hn
  rw[this] at h;cases h
theorem f119(m cap slots wait lim:Int):Ran p 9 119 [vf K3 (m,()), vf K3 (cap,()), vf K3 (slots,()), vf K3 (wait,()), vf K3 (lim,())] ⟨[⟨K28,wI m cap slots wait lim⟩,⟨K4,(BA m cap slots wait lim,())⟩],[]⟩:=go119 λn hn=>by
 have hc:=yM m
 have hrest:∀ β,β=(((aK p n 11 [va K28 (wnW m cap slots wait lim)]).bind (dR [K4] [])).bind λo2=>(bif(!(vB o2.1.1.1))then(some (⟨[⟨K28,(([],[],[],()):a9)⟩,⟨K4,(false,())⟩],[]⟩:Out))else(some ⟨[⟨K28,wnW m cap slots wait lim⟩,⟨K4,(true,())⟩],[]⟩)))->
   β=some ⟨[⟨K28,wI m cap slots wait lim⟩,⟨K4,(BA m cap slots wait lim,())⟩],[]⟩:=by
  intro β h
  rw[h]
  refine(aB (f11 (wnW m cap slots wait lim) (MQ _ _ _ _ _) n (by omega))).trans ?_
  unfold wI BA
  cases bM (wnW m cap slots wait lim)<;>rfl
 have lp:It (λaA (_:Unit)=>c119_3 (aK p n) aA m cap slots wait lim) ((0:Int),([]:List (Row K54)))
   (λ_=>bif bS (dH m) (λi=>pM (i:Int) m cap slots wait lim)then some ⟨[⟨K28,wI m cap slots wait lim⟩,⟨K4,(BA m cap slots wait lim,())⟩],[]⟩else some ⟨[⟨K28,(([],[],[],()):a9)⟩,⟨K4,(false,())⟩],[]⟩):=by
  refine It.all (λi=>((i:Int),eL m cap slots wait lim i)) (dH m) (λi=>pM (i:Int) m cap slots wait lim) (rA:=λ_=>(some ⟨[⟨K28,wI m cap slots wait lim⟩,⟨K4,(BA m cap slots wait lim,())⟩],[]⟩:Option Out)) (rB:=λ_=>(some ⟨[⟨K28,(([],[],[],()):a9)⟩,⟨K4,(false,())⟩],[]⟩:Option Out)) (λi hi aA u rec=>?_) (It.stop λaA u rec=>?_)
  ·show c119_3 (aK p n) aA m cap slots wait lim rec ((i:Int),eL m cap slots wait lim i)=bif pM (i:Int) m cap slots wait lim then rec (((i+1:Nat):Int),eL m cap slots wait lim (i+1))else _
   have hi':i<m.toNat/\i<6:=by unfold dH at hi;omega
   unfold c119_3;dsimp only;rw[aM (by omega)];refine(aE (by omega)).trans ?_;refine(aE (by omega)).trans ?_
   refine(bA (f122 (i:Int) m cap slots wait lim n (by omega))).trans ?_
   cases hx:pM (i:Int) m cap slots wait lim with
   | false=>rfl
   | true=>
    refine(aF rfl).trans ?_
    refine(aE ?_).trans ?_
    ·show List.length (eL m cap slots wait lim i)+1<=bound;rw[g9];unfold bound;omega
    ·rw[DS];rfl
  ·show c119_3 (aK p n) aA m cap slots wait lim rec ((dH m:Int),eL m cap slots wait lim (dH m))=_
   refine hrest _ ?_
   unfold c119_3;dsimp only
   by_cases h:((dH m:Nat):Int)<m
   ·refine(aE h).trans ?_
    refine(aI (by unfold dH at h ⊢;omega)).trans ?_
    rfl
   ·refine(aI h).trans ?_
    rfl
 refine Ev.eq (λaA=>by unfold T119;rfl) (lp.ev (i:=()) ?_)
 cases hx:bS (dH m) (λi=>pM (i:Int) m cap slots wait lim)with
 | true=>rfl
 | false=>
  show some _=some _
  unfold wI
  rw[MP hx];rfl
end Go.Abs.Wz
namespace Go.Abs.Wz
open Go Go.Abs
theorem m9{α:Type}[Inhabited α]{xs:List α}{i:Nat}(h:i<xs.length):xs.take i++[gt xs i]=xs.take (i+1):=by
 rw[cS h];exact List.take_append_getElem h
theorem kQ{α β:Type}{xs:List β}(h:xs.length<=aW):List.length ([]:List α)+xs.length<=bound:=by
 show 0+xs.length<=bound;unfold aW at h;unfold bound;omega
theorem tN{α:Type}{xs:List α}(h:xs.length<=aW)(i:Nat):(xs.take i).length+1<=bound:=by
 rw[List.length_take];unfold aW at h;unfold bound;omega
theorem i63{i k:Nat}(h:i<k)(hk:k<=aW):i<9223372036854775807:=by unfold aW at hk;omega
theorem f80(s:aH)(hz:SzS s):Ran p 1 80 [va K34 s] (rO K34 s):=go80 λn hn=>Ev.now λaA=>by
 show T80 (aK p n) aA s=rV K34 s
 unfold T80;refine(aE (kQ hz.a)).trans ?_;refine(aE (kQ hz.b)).trans ?_;rfl
theorem f109(t:mU)(h:t.1.length<=aW):Ran p 1 109 [va K46 t] (rO K46 t):=go109 λn hn=>Ev.now λaA=>by
 show T109 (aK p n) aA t=rV K46 t
 unfold T109;refine(aE (kQ h)).trans ?_;rfl
theorem f111(ts:List bU)(h1:ts.length<=aW)(h2:∀ i,i<ts.length->(gt ts i).1.length<=aW):Ran p 1 111 [vf K50 (ts,())] (rO K50 (ts,())):=go111 λn hn=>by
 have lp:It (λaA (_:Unit)=>c111_3 (aK p n) aA ts) ((0:Int),([]:List bU)) (λ_=>rV K50 (ts,())):=by
  refine It.run (λi=>((i:Int),ts.take i)) ts.length (λi hi aA u rec=>?_) (It.stop λaA u rec=>?_)
  ·show c111_3 (aK p n) aA ts rec ((i:Int),ts.take i)=rec (((i+1:Nat):Int),ts.take (i+1))
   unfold c111_3;dsimp only;rw[aM (i63 hi h1)];refine(aE (Int.ofNat_lt.2 hi)).trans ?_;refine bif_nn.trans ?_;refine(aJ hi).trans ?_
   refine(aE (kQ (h2 i hi))).trans ?_;refine(aE (tN h1 i)).trans ?_;rw[<- m9 hi];rfl
  ·show c111_3 (aK p n) aA ts rec ((ts.length:Int),ts.take ts.length)=_
   refine(congrArg (λl=>c111_3 (aK p n) aA ts rec ((ts.length:Int),l)) (List.take_length (l:=ts))).trans ?_
   unfold c111_3;dsimp only;refine(aI (Int.lt_irrefl _)).trans ?_;rfl
 exact Ev.eq (λaA=>by unfold T111;rfl) (lp.ev (i:=()) rfl)
theorem f110(l:gV)(h1:l.2.2.1.length<=aW)(h2:∀ i,i<l.2.2.1.length->SzS (gt l.2.2.1 i)):Ran p 2 110 [va K49 l] (rO K49 l):=go110 λn hn=>by
 have lp:It (λaA (_:Unit)=>c110_3 (aK p n) aA l) ((0:Int),([]:List aH)) (λ_=>rV K49 l):=by
  refine It.run (λi=>((i:Int),l.2.2.1.take i)) l.2.2.1.length (λi hi aA u rec=>?_) (It.stop λaA u rec=>?_)
  ·show c110_3 (aK p n) aA l rec ((i:Int),l.2.2.1.take i)=rec (((i+1:Nat):Int),l.2.2.1.take (i+1))
   unfold c110_3;dsimp only;rw[aM (i63 hi h1)];refine(aE (Int.ofNat_lt.2 hi)).trans ?_;refine bif_nn.trans ?_;refine(aJ hi).trans ?_
   refine(aB (f80 (gt l.2.2.1 i) (h2 i hi) n (by omega))).trans ?_;refine(aE (tN h1 i)).trans ?_;rw[<- m9 hi];rfl
  ·show c110_3 (aK p n) aA l rec ((l.2.2.1.length:Int),l.2.2.1.take l.2.2.1.length)=_
   refine(congrArg (λq=>c110_3 (aK p n) aA l rec ((l.2.2.1.length:Int),q)) (List.take_length (l:=l.2.2.1))).trans ?_
   unfold c110_3;dsimp only;refine(aI (Int.lt_irrefl _)).trans ?_;rfl
 exact Ev.eq (λaA=>by unfold T110;rfl) (lp.ev (i:=()) rfl)
theorem f79(k:eA)(h:k.2.1.length<=aW):Ran p 1 79 [va K77 k] (rO K77 k):=go79 λn hn=>Ev.now λaA=>by
 show T79 (aK p n) aA k=rV K77 k
 unfold T79;refine(aE (kQ h)).trans ?_;rfl
theorem f78(x:NodeT)(hz:SzN x):Ran p 3 78 [va K54 x] (rO K54 x):=go78 λn hn=>Ev.now λaA=>by
 show T78 (aK p n) aA x=rV K54 x
 unfold T78
 refine(aB (f80 x.state hz.state n (by omega))).trans ?_
 refine(aB (f109 x.tree hz.leaves n (by omega))).trans ?_
 refine(aB (f110 x.log hz.list hz.logs n (by omega))).trans ?_
 refine(aE (kQ hz.got)).trans ?_;refine(aE (kQ hz.acked)).trans ?_
 refine(aB (f111 x.seen hz.seen hz.lines n (by omega))).trans ?_
 refine(aE (kQ hz.sess)).trans ?_;refine(aE (kQ hz.rises)).trans ?_
 rfl
structure SzX (w:a9):Prop extends SzW w where
 bytes:∀ i,i<w.2.1.length->(gt w.2.1 i).2.1.length<=aW
theorem f41(w:a9)(hz:SzX w):Ran p 4 41 [va K28 w] (rO K28 w):=go41 λn hn=>by
 have said:It (λaA (_:Unit)=>c41_11 (aK p n) aA w w.1 w.2.1) ((0:Int),([]:List CV)) (λ_=>rV K28 w):=by
  refine It.run (λi=>((i:Int),w.2.2.1.take i)) w.2.2.1.length (λi hi aA u rec=>?_) (It.stop λaA u rec=>?_)
  ·show c41_11 (aK p n) aA w w.1 w.2.1 rec ((i:Int),w.2.2.1.take i)=rec (((i+1:Nat):Int),w.2.2.1.take (i+1))
   unfold c41_11;dsimp only;rw[aM (i63 hi hz.said)];refine(aE (Int.ofNat_lt.2 hi)).trans ?_;refine bif_nn.trans ?_;refine(aJ hi).trans ?_
   refine bif_nn.trans ?_;refine(aJ hi).trans ?_
   refine(aB (f80 (gt w.2.2.1 i).2 (hz.part i hi) n (by omega))).trans ?_;refine(aE (tN hz.said i)).trans ?_;rw[<- m9 hi];rfl
  ·show c41_11 (aK p n) aA w w.1 w.2.1 rec ((w.2.2.1.length:Int),w.2.2.1.take w.2.2.1.length)=_
   refine(congrArg (λl=>c41_11 (aK p n) aA w w.1 w.2.1 rec ((w.2.2.1.length:Int),l)) (List.take_length (l:=w.2.2.1))).trans ?_
   unfold c41_11;dsimp only;refine(aI (Int.lt_irrefl _)).trans ?_;rfl
 have net:It (λaA (_:Unit)=>c41_7 (aK p n) aA w w.1) ((0:Int),([]:List eA)) (λ_=>rV K28 w):=by
  refine It.run (λi=>((i:Int),w.2.1.take i)) w.2.1.length (λi hi aA u rec=>?_) (It.stopE (T:=λaA _=>iter (c41_11 (aK p n) aA w w.1 w.2.1) aA ((0:Int),([]:List CV))) (λaA u rec=>?_) said.all_i)
  ·show c41_7 (aK p n) aA w w.1 rec ((i:Int),w.2.1.take i)=rec (((i+1:Nat):Int),w.2.1.take (i+1))
   unfold c41_7;dsimp only;rw[aM (i63 hi hz.net)];refine(aE (Int.ofNat_lt.2 hi)).trans ?_;refine bif_nn.trans ?_;refine(aJ hi).trans ?_
   refine(aB (f79 (gt w.2.1 i) (hz.bytes i hi) n (by omega))).trans ?_;refine(aE (tN hz.net i)).trans ?_;rw[<- m9 hi];rfl
  ·show c41_7 (aK p n) aA w w.1 rec ((w.2.1.length:Int),w.2.1.take w.2.1.length)=_
   refine(congrArg (λl=>c41_7 (aK p n) aA w w.1 rec ((w.2.1.length:Int),l)) (List.take_length (l:=w.2.1))).trans ?_
   unfold c41_7;dsimp only;refine(aI (Int.lt_irrefl _)).trans ?_;rfl
 have nodes:It (λaA (_:Unit)=>c41_3 (aK p n) aA w) ((0:Int),([]:List NodeT)) (λ_=>rV K28 w):=by
  refine It.run (λi=>((i:Int),w.1.take i)) w.1.length (λi hi aA u rec=>?_) (It.stopE (T:=λaA _=>iter (c41_7 (aK p n) aA w w.1) aA ((0:Int),([]:List eA))) (λaA u rec=>?_) net.all_i)
  ·show c41_3 (aK p n) aA w rec ((i:Int),w.1.take i)=rec (((i+1:Nat):Int),w.1.take (i+1))
   unfold c41_3;dsimp only;rw[aM (i63 hi hz.nodes)];refine(aE (Int.ofNat_lt.2 hi)).trans ?_;refine bif_nn.trans ?_;refine(aJ hi).trans ?_
   refine(aB (f78 (gt w.1 i) (hz.node i hi) n (by omega))).trans ?_;refine(aE (tN hz.nodes i)).trans ?_;rw[<- m9 hi];rfl
  ·show c41_3 (aK p n) aA w rec ((w.1.length:Int),w.1.take w.1.length)=_
   refine(congrArg (λl=>c41_3 (aK p n) aA w rec ((w.1.length:Int),l)) (List.take_length (l:=w.1))).trans ?_
   unfold c41_3;dsimp only;refine(aI (Int.lt_irrefl _)).trans ?_;rfl
 exact Ev.eq (λaA=>by unfold T41;rfl) (nodes.ev (i:=()) rfl)
end Go.Abs.Wz
namespace Go.Abs.Wz
open Go Go.Abs
def BK(x:eF):eF:=(x.1,x.2.1,x.2.2.1,i64.wrap (x.2.2.2.1+1),())
def pQ(x:NodeT)(i:Nat):List eF:=bif decide (i64.wrap ((gt x.sess i).2.2.2.1+1)<=x.wait)then[BK (gt x.sess i)] else[]
theorem BL(x:NodeT)(i:Nat):(pQ x i).length<=1:=by
 unfold pQ;cases decide (i64.wrap ((gt x.sess i).2.2.2.1+1)<=x.wait)<;>simp
def yT(y:NodeT):NodeT:=(y.1,y.2.1,y.2.2.1,y.2.2.2.1,y.2.2.2.2.1,y.2.2.2.2.2.1,y.2.2.2.2.2.2.1,y.2.2.2.2.2.2.2.1,y.2.2.2.2.2.2.2.2.1,y.2.2.2.2.2.2.2.2.2.1,y.2.2.2.2.2.2.2.2.2.2.1,y.2.2.2.2.2.2.2.2.2.2.2.1,y.2.2.2.2.2.2.2.2.2.2.2.2.1,y.2.2.2.2.2.2.2.2.2.2.2.2.2.1,bL y.sess.length (pQ y),y.wait,y.limit,i64.wrap (y.clock+1),y.rises,())
def mF(x:NodeT):NodeT:=bif dY x then(bif x.clock==100000 then x else yT x)else x
theorem BM(x:NodeT):(yT x).sess.length<=x.sess.length:=by
 have:=cY (g:=pQ x) (L:=1) (n:=x.sess.length) λi _=>BL x i
 show(bL x.sess.length (pQ x)).length<=x.sess.length
 omega
theorem EN{x:NodeT}(h:SzN x):SzN (mF x):=by
 unfold mF
 cases dY x with
 | false=>exact h
 | true=>
  cases x.clock==100000 with
  | true=>exact h
  | false=>exact⟨h.state,h.leaves,h.list,h.logs,h.got,h.acked,h.seen,h.lines,Nat.le_trans (BM x) h.sess,h.rises⟩

theorem f42(x:NodeT)(hz:SzN x):Ran p 8 42 [va K54 x] (rO K54 (mF x)):=go42 λn hn=>by
 unfold mF
 cases ho:dY x with
 | false=>exact Ev.now λaA=>by show T42 (aK p n) aA x=rV K54 x;unfold T42;refine(aB (f78 x hz n (by omega))).trans ?_;refine(aB (f34 x hz n (by omega))).trans ?_;rw[ho];rfl
 | true=>
  cases hc:x.clock==100000 with
  | true=>exact Ev.now λaA=>by show T42 (aK p n) aA x=rV K54 x;unfold T42;refine(aB (f78 x hz n (by omega))).trans ?_;refine(aB (f34 x hz n (by omega))).trans ?_;rw[ho];refine(aF rfl).trans ?_;exact aL hc
  | false=>
   have lp:It (λaA (_:Unit)=>c42_7 (aK p n) aA x ((x,()),())) ((0:Int),([]:List eF)) (λ_=>rV K54 (yT x)):=by
    refine It.accu (α:=eF) [] (pQ x) x.sess.length 1 (λi _=>BL x i) (λi hi acc ha aA u rec=>?_) (It.stop λaA u rec=>?_)
    ·show c42_7 (aK p n) aA x ((x,()),()) rec ((i:Int),acc)=rec (((i+1:Nat):Int),acc++pQ x i)
     unfold c42_7 pQ;dsimp only;rw[aM (i63 hi hz.sess)];refine(aE (Int.ofNat_lt.2 hi)).trans ?_;refine bif_nn.trans ?_;refine(aJ hi).trans ?_
     by_cases h:i64.wrap ((gt x.sess i).2.2.2.1+1)<=x.wait
     ·refine(aE h).trans ?_;refine(aE ?_).trans ?_
      ·have h1:(pQ x i).length=1:=by unfold pQ;rw[decide_eq_true h];rfl
       have h2:=hz.sess
       rw[h1] at ha
       show acc.length+1<=bound
       unfold aW at h2;unfold bound;simp at ha;omega
      ·rw[decide_eq_true h];rfl
     ·refine(aI h).trans ?_;rw[decide_eq_false h];show rec _=rec _;rw[show(bif false then[BK (gt x.sess i)] else[])=([]:List eF)from rfl,List.append_nil];rfl
    ·show c42_7 (aK p n) aA x ((x,()),()) rec ((x.sess.length:Int),bL x.sess.length (pQ x))=_
     unfold c42_7;dsimp only;refine(aI (Int.lt_irrefl _)).trans ?_;rfl
   exact Ev.eq (λaA=>by
    unfold T42;refine(aB (f78 x hz n (by omega))).trans ?_;refine(aB (f34 x hz n (by omega))).trans ?_;rw[ho];refine(aF rfl).trans ?_;exact aF hc) (lp.ev (i:=()) rfl)
theorem BO{α:Type}[Inhabited α]{c:α->Int}:∀ (xs ys:List α),xs.length=ys.length->(∀ j,j<xs.length->c (gt xs j)<=c (gt ys j))->gT c xs<=gT c ys
 | [],[],_,_=>Int.le_refl _
 | x::xs,y::ys,h,h2=>by
  have h3:c x<=c y:=h2 0 (Nat.zero_lt_succ _)
  have h4:=BO xs ys (by simpa using h) λj hj=>h2 (j+1) (Nat.succ_lt_succ hj)
  show c x+gT c xs<=c y+gT c ys
  omega
 | [],_::_,h,_=>by cases h
 | _::_,[],h,_=>by cases h
theorem QY(xs:List eF):cnT (.sl K107) xs=4*(xs.length:Int):=jV (c:=cnR K107) (n:=4) (λx=>rfl) xs
end Go.Abs.Wz
namespace Go.Abs.Wz
open Go Go.Abs
theorem f167(a b:Int):Ran p 1 167 [vf K3 (a,()), vf K3 (b,())] (rO K3 (mxI false a b,())):=go167 λn hn=>Ev.now λaA=>by
 unfold T167;rw[FL]
 by_cases h:a<b
 ·refine(aE h).trans ?_;rw[show min a b=a by omega]
 ·refine(aI h).trans ?_;rw[show min a b=b by omega]
theorem f148(ms:List aU)(h2:ms.length<=maxLen):Ran p 3 148 [vf K140 (ms,())] (rO K4 (fM ms,())):=go148 λn hn=>by
 have inner:It (λaA (_:Unit)=>c148_2 (aK p n) aA ms) (0:Int) (λ_=>oB (fM ms)):=by
  refine cQ (It.allB ms.length (gD ms) true (λi hi aA a rec=>?_) (It.stop λaA a rec=>?_))
  ·have hb:i<9223372036854775807:=Nat.lt_of_lt_of_le hi h2
   show c148_2 (aK p n) aA ms rec (i:Int)=_
   unfold c148_2 gD;rw[aM hb];refine(aE (Int.ofNat_lt.2 hi)).trans ?_;refine bif_nn.trans ?_;refine(aJ hi).trans ?_;refine(aB (f52 (gt ms i).1 n (by omega))).trans ?_;refine chk λ_=>?_
   cases i with
   | zero=>refine(aI (by decide)).trans ?_;refine bif_nn.trans ?_;refine(aJ hi).trans ?_;refine(aB (f33 (gt ms 0).2.1 1 1000 n (by omega))).trans ?_;exact fin
   | succ j=>
    refine(aE (by omega)).trans ?_;refine bif_nn.trans ?_;refine(aJ hi).trans ?_;rw[lG hb (by omega)];refine bif_nn.trans ?_;refine(aJ (show j<ms.length by omega)).trans ?_;refine PY λ_=>?_
    refine bif_nn.trans ?_;refine(aJ hi).trans ?_;refine(aB (f33 (gt ms (j+1)).2.1 1 1000 n (by omega))).trans ?_;exact fin
  ·show c148_2 (aK p n) aA ms rec (ms.length:Int)=_
   unfold c148_2;refine(aI (Int.lt_irrefl _)).trans ?_;rfl
 exact Ev.eq (λaA=>by unfold T148;rfl) (inner.ev (i:=()) rfl)
theorem f125(s:aH)(hz:SzS s):Ran p 5 125 [va K34 s] (rO K140 (c6 s,())):=go125 λn hn=>by
 have lp:It (λaA (_:Unit)=>c125_3 (aK p n) aA s) ((0:Int),([]:List aU)) (λ_=>rV K140 (c6 s,())):=by
  refine It.accu (α:=aU) [] (kR s) 5 1 (λi _=>sS s i) (λi hi acc ha aA u rec=>?_) (It.stop λaA u rec=>?_)
  ·show c125_3 (aK p n) aA s rec ((i:Int),acc)=rec (((i+1:Nat):Int),acc++kR s i)
   have hb:acc.length+1<=bound+(1 - (kR s i).length):=by simp at ha;unfold bound;omega
   unfold c125_3 kR;dsimp only;rw[aM (show i<9223372036854775807 by omega)];refine(aE (show(i:Int)<5 by omega)).trans ?_;refine(aB (f149 s (i:Int) hz n (by omega))).trans ?_
   by_cases h:gone s i>0
   ·refine(aE h).trans ?_;refine(aE (by
     unfold kR at hb;rw[decide_eq_true h] at hb;exact hb)).trans ?_;rw[decide_eq_true h];rfl
   ·refine(aI h).trans ?_;rw[decide_eq_false h];show rec _=rec _;rw[show(bif false then[((i:Int),gone s i,())] else[])=([]:List aU)from rfl,List.append_nil];rfl
  ·show c125_3 (aK p n) aA s rec ((5:Int),c6 s)=_
   unfold c125_3;dsimp only;refine(aI (Int.lt_irrefl _)).trans ?_;rfl
 exact Ev.eq (λaA=>by unfold T125;rfl) (lp.ev (i:=()) rfl)
theorem bK{α β:Type}[Inhabited α]{xs:List α}{i:Nat}{f:α->Option β}(h:i<xs.length):(at? xs i).bind f=f (gt xs i):=by
 rw[P4 h,cS h];rfl
theorem f200(v:List aO)(k m:Int)(hv:v.length<=aW):Ran p 2 200 [vf K44 (v,()), vf K3 (k,()), vf K3 (m,())] (rO K44 (dD v k m,())):=go200 λn hn=>Ev.now λaA=>by
 unfold T200 dD;refine(aE (kQ hv)).trans ?_;refine(aB (f33 k 0 (i64.wrap ((v.length:Int) - 1)) n (by omega))).trans ?_
 cases hb:inB k 0 (i64.wrap ((v.length:Int) - 1))with
 | false=>rfl
 | true=>
  obtain⟨hk,e⟩:=yG hv hb
  refine(aL rfl).trans ?_;refine(aE (show(0:Int)<=k by omega)).trans ?_;refine(bK hk).trans ?_
  by_cases h:m>(gt v k.toNat).1
  ·refine(aE h).trans ?_;refine(aE (show(0:Int)<=k by omega)).trans ?_;refine(bK hk).trans ?_;refine(bK hk).trans ?_
   rw[rY,show max (gt v k.toNat).1 m=m by omega];rfl
  ·refine(aI h).trans ?_;rw[rY,show max (gt v k.toNat).1 m=(gt v k.toNat).1 by omega]
   show(rV K44 (v,()):Option Out)=rV K44 (v.set k.toNat (gt v k.toNat),())
   rw[sK]
theorem BP{α:Type}(xs:List α)(i:Nat)(a b:α):(xs.set i a).set i b=xs.set i b:=by simp
theorem f124(t:List bU)(k:Int)(ms:List aU)(h1:t.length<=aW)(h2:∀ i,i<t.length->(gt t i).1.length<=aW)(h3:ms.length<=aW):Ran p 4 124 [vf K50 (t,()), vf K3 (k,()), vf K140 (ms,())] (rO K50 (bQ t k ms,())):=go124 λn hn=>by
 cases hb:inB k 0 (i64.wrap ((t.length:Int) - 1))with
 | false=>exact Ev.now λaA=>by show T124 (aK p n) aA t k ms=_;unfold T124;refine(aB (f111 t h1 h2 n (by omega))).trans ?_;refine(aB (f33 k 0 (i64.wrap ((t.length:Int) - 1)) n (by omega))).trans ?_;rw[hb,show bQ t k ms=t by unfold bQ pF;rw[hb];rfl];rfl
 | true=>
  obtain⟨hk,e⟩:=yG h1 hb
  cases hm:fM ms with
  | false=>exact Ev.now λaA=>by show T124 (aK p n) aA t k ms=_;unfold T124;refine(aB (f111 t h1 h2 n (by omega))).trans ?_;refine(aB (f33 k 0 (i64.wrap ((t.length:Int) - 1)) n (by omega))).trans ?_;rw[hb];refine(aF rfl).trans ?_;refine(aB (f148 ms (aQ h3) n (by omega))).trans ?_;rw[hm,show bQ t k ms=t by unfold bQ pF;rw[hb,hm];rfl];rfl
  | true=>
   by_cases h5:(((gt t k.toNat).1.length:Nat):Int)<5
   ·exact Ev.now λaA=>by show T124 (aK p n) aA t k ms=_;unfold T124;refine(aB (f111 t h1 h2 n (by omega))).trans ?_;refine(aB (f33 k 0 (i64.wrap ((t.length:Int) - 1)) n (by omega))).trans ?_;rw[hb];refine(aF rfl).trans ?_;refine(aB (f148 ms (aQ h3) n (by omega))).trans ?_;rw[hm];refine(aF rfl).trans ?_;refine(aE (show(0:Int)<=k by omega)).trans ?_;refine(bK hk).trans ?_;refine(aE h5).trans ?_;rw[show bQ t k ms=t by unfold bQ pF;rw[hb,hm,decide_eq_true h5];rfl]
   ·have lp:It (λaA (_:Unit)=>c124_5 (aK p n) aA k ms) ((0:Int),t) (λ_=>rV K50 (bQ t k ms,())):=by
     have h0:=C4 t k.toNat ms
     refine cast (congrArg (λz=>It (λaA (_:Unit)=>c124_5 (aK p n) aA k ms) ((0:Int),z) (λ_=>rV K50 (bQ t k ms,()))) h0) ?_
     refine It.run (λi=>((i:Int),cT t k.toNat ms i)) ms.length (λi hi aA u rec=>?_) (It.stop λaA u rec=>?_)
     ·show c124_5 (aK p n) aA k ms rec ((i:Int),cT t k.toNat ms i)=rec (((i+1:Nat):Int),cT t k.toNat ms (i+1))
      have hd:=uG hm hi
      have hl:k.toNat<(cT t k.toNat ms i).length:=by unfold cT;rw[List.length_set];exact hk
      have hg:gt (cT t k.toNat ms i) k.toNat=kL (gt t k.toNat) ms i:=cD hk _
      have hr:(gt ms i).1.toNat<(gt (cT t k.toNat ms i) k.toNat).1.length:=by rw[hg,nX];omega
      have hp:(0:Int)<=k:=by omega
      unfold c124_5;dsimp only;rw[aM (i63 hi h3)];refine(aE (Int.ofNat_lt.2 hi)).trans ?_;refine(aE hp).trans ?_;refine(bK hl).trans ?_;refine(bK hl).trans ?_;refine bif_nn.trans ?_;refine(aJ hi).trans ?_;refine(aE hp).trans ?_;refine(bK hl).trans ?_;refine(bK hl).trans ?_;refine bif_nn.trans ?_;refine(aJ hi).trans ?_;refine(aE hd.1).trans ?_;refine(bK hl).trans ?_;refine(bK hr).trans ?_;refine(bK hl).trans ?_;refine(bK hr).trans ?_;refine bif_nn.trans ?_;refine(aJ hi).trans ?_
      refine(aB (f61 (gt (gt (cT t k.toNat ms i) k.toNat).1 (gt ms i).1.toNat).1 (gt ms i).2.1 n (by omega))).trans ?_;refine(aE hd.1).trans ?_;refine(bK hl).trans ?_;refine(bK hr).trans ?_;refine(bK hl).trans ?_;refine(bK hr).trans ?_
      refine congrArg (λz=>rec (((i+1:Nat):Int),z)) ?_
      show(cT t k.toNat ms i).set k.toNat (DE (gt (cT t k.toNat ms i) k.toNat) (gt ms i))=cT t k.toNat ms (i+1)
      rw[hg];exact BP ..
     ·show c124_5 (aK p n) aA k ms rec ((ms.length:Int),cT t k.toNat ms ms.length)=_
      unfold c124_5;dsimp only;refine(aI (Int.lt_irrefl _)).trans ?_;rw[show bQ t k ms=cT t k.toNat ms ms.length by unfold bQ pF;rw[hb,hm,decide_eq_false h5];rfl]
    exact Ev.eq (λaA=>by unfold T124;refine(aB (f111 t h1 h2 n (by omega))).trans ?_;refine(aB (f33 k 0 (i64.wrap ((t.length:Int) - 1)) n (by omega))).trans ?_;rw[hb];refine(aF rfl).trans ?_;refine(aB (f148 ms (aQ h3) n (by omega))).trans ?_;rw[hm];refine(aF rfl).trans ?_;refine(aE (show(0:Int)<=k by omega)).trans ?_;refine(bK hk).trans ?_;exact aI h5) (lp.ev (i:=()) rfl)
end Go.Abs.Wz
namespace Go.Abs.Wz
open Go Go.Abs
theorem f168(t:List bU)(id:Int)(h1:t.length<=aW)(h2:∀ i,i<t.length->(gt t i).1.length<=aW):Ran p 2 168 [vf K50 (t,()), vf K3 (id,())] (rO K3 (f8 t id,())):=go168 λn hn=>by
 have lp:It (λaA (_:Unit)=>c168_5 (aK p n) aA t id) ((0:Int),(0:Int)) (λ_=>oI (f8 t id)):=by
  refine cast ?_ (It.all (c:=λaA (_:Unit)=>c168_5 (aK p n) aA t id) (rA:=λ_=>oI (j8 t id t.length)) (rB:=λ_=>oI 0) (λi=>(j8 t id i,(i:Int))) t.length (qM t id) (λi hi aA u rec=>?_) (It.stop λaA u rec=>?_))
  ·congr 1;funext u;unfold f8;cases bS t.length (qM t id)<;>rfl
  ·show c168_5 (aK p n) aA t id rec (j8 t id i,(i:Int))=bif qM t id i then rec (j8 t id (i+1),((i+1:Nat):Int))else oI 0
   unfold c168_5 qM;dsimp only;rw[aM (i63 hi h1)];refine(aE (Int.ofNat_lt.2 hi)).trans ?_;refine bif_nn.trans ?_;refine(aJ hi).trans ?_;refine(aB (f33 id 0 (i64.wrap ((((gt t i).1.length:Nat):Int) - 1)) n (by omega))).trans ?_
   cases hb:inB id 0 (i64.wrap ((((gt t i).1.length:Nat):Int) - 1))with
   | false=>rfl
   | true=>
    obtain⟨hk,e⟩:=yG (h2 i hi) hb
    have hp:(0:Int)<=id:=by omega
    refine(aF rfl).trans ?_
    show _=rec (bif(i:Int)==0 then _ else bif decide ((gt (gt t i).1 id.toNat).1<j8 t id i)then _ else _,_)
    cases h0:(i:Int)==0 with
    | true=>refine(aL rfl).trans ?_;refine bif_nn.trans ?_;refine(aJ hi).trans ?_;refine(aE hp).trans ?_;refine(bK hk).trans ?_;rfl
    | false=>
     refine(aF rfl).trans ?_;refine bif_nn.trans ?_;refine(aJ hi).trans ?_;refine(aE hp).trans ?_;refine(bK hk).trans ?_
     by_cases hc:(gt (gt t i).1 id.toNat).1<j8 t id i
     ·refine(aE hc).trans ?_;refine bif_nn.trans ?_;refine(aJ hi).trans ?_;refine(aE hp).trans ?_;refine(bK hk).trans ?_;rw[decide_eq_true hc];rfl
     ·refine(aI hc).trans ?_;rw[decide_eq_false hc];rfl
  ·show c168_5 (aK p n) aA t id rec (j8 t id t.length,(t.length:Int))=_
   unfold c168_5;dsimp only;refine(aI (Int.lt_irrefl _)).trans ?_;rfl
 cases h0:(t.length:Int)==0 with
 | false=>exact Ev.eq (λaA=>by unfold T168;exact aF h0) (lp.ev (i:=()) rfl)
 | true=>
  have e:f8 t id=0:=by
   have:t=[]:=List.length_eq_zero_iff.1 (by have:=eq_of_beq h0;omega)
   rw[this];rfl
  exact Ev.now λaA=>by rw[e];unfold T168;exact aL h0
theorem II(s:aH)(t:List bU):Pos (fF s t):=((aS _).1 (qF s t)).pos
theorem f147(s:aH)(t:List bU)(hz:SzS s)(h1:t.length<=aW)(h2:∀ i,i<t.length->(gt t i).1.length<=aW):Ran p 5 147 [va K34 s, vf K50 (t,())] (rO K34 (prune s t)):=go147 λn hn=>by
 cases hs:aP s with
 | false=>exact Ev.now λaA=>by unfold T147;refine(aB (f25 s (aQ hz.a) (aQ hz.b) n (by omega))).trans ?_;rw[hs];refine(aL rfl).trans ?_;refine(aB (f80 s hz n (by omega))).trans ?_;unfold prune;rw[hs];rfl
 | true=>
  have lp:It (λaA (_:Unit)=>c147_5 (aK p n) aA s t) ((0:Int),([]:List aU)) (λ_=>rV K34 (prune s t)):=by
   refine It.accu (α:=aU) [] (iM s t) 5 1 (λi _=>sN s t i) (λi hi acc ha aA u rec=>?_) (It.stop λaA u rec=>?_)
   ·show c147_5 (aK p n) aA s t rec ((i:Int),acc)=rec (((i+1:Nat):Int),acc++iM s t i)
    have hb:acc.length+1<=bound+(1 - (iM s t i).length):=by simp at ha;unfold bound;omega
    unfold c147_5 iM;dsimp only;rw[aM (show i<9223372036854775807 by omega)];refine(aE (show(i:Int)<5 by omega)).trans ?_;refine(aB (f168 t (i:Int) h1 h2 n (by omega))).trans ?_;refine(aB (f149 s (i:Int) hz n (by omega))).trans ?_;refine(aB (f167 (f8 t i) (gone s i) n (by omega))).trans ?_
    by_cases h:mxI false (f8 t i) (gone s i)>0
    ·refine(aE h).trans ?_;refine(aE (by unfold iM at hb;rw[decide_eq_true h] at hb;exact hb)).trans ?_;rw[decide_eq_true h];rfl
    ·refine(aI h).trans ?_;rw[decide_eq_false h];show rec _=rec _;rw[show(bif false then[((i:Int),mxI false (f8 t i) (gone s i),())] else[])=([]:List aU)from rfl,List.append_nil];rfl
   ·show c147_5 (aK p n) aA s t rec ((5:Int),bL 5 (iM s t))=_
    unfold c147_5;dsimp only;refine(aI (Int.lt_irrefl _)).trans ?_;refine(aB (f32 s (fF s t) hz (GA s t) ((aS s).1 hs).pos (II s t) n (by omega))).trans ?_;unfold prune;rw[hs];rfl
  exact Ev.eq (λaA=>by unfold T147;refine(aB (f25 s (aQ hz.a) (aQ hz.b) n (by omega))).trans ?_;rw[hs];rfl) (lp.ev (i:=()) rfl)
theorem SY{x:NodeT}(hz:SzN x)(s:aH):(tkS x s).length<=aW/\∀ i,i<(tkS x s).length->(gt (tkS x s) i).1.length<=aW:=⟨(lO hz s).seen,(lO hz s).lines⟩
structure TakeOk (x:NodeT):Prop where
 state:aP x.state=true
 rises:((x.rises.length:Int)==5)=true
theorem C3{x:NodeT}(h:NodeOk x):TakeOk x:=⟨h.state,h.rises⟩
theorem Q1{x:NodeT}{s:aH}(h:TakeOk x)(hs:aP s=true){i:Nat}(hi:i<(tkP x s).1.length):0<=(gt (tkP x s).1 i).1/\(gt (tkP x s).1 i).1.toNat<(dL x.clock x.rises (tkP x s).1 i).length:=by
 have h1:=(((aS (tkP x s)).1 (zI (nN h.state hs) (tkS x s))).item _ (cN hi)).1
 unfold eO at h1;rw[aV] at h1
 have h2:=eq_of_beq h.rises
 rw[gX];omega
theorem NN(c:Int)(rs:List kM)(xs:List bF)(i:Nat):dL c rs xs (i+1)=bif pX (gt (dL c rs xs i) (gt xs i).1.toNat) (gt xs i).2 then(dL c rs xs i).set (gt xs i).1.toNat ((gt xs i).2.1,(gt xs i).2.2.2.1,c,())else dL c rs xs i:=by
 show(dL c rs xs i).set _ (mW c _ _)=_
 unfold mW
 cases pX (gt (dL c rs xs i) (gt xs i).1.toNat) (gt xs i).2 with
 | true=>rfl
 | false=>exact sK
theorem f123(x:NodeT)(s:aH)(hz:SzN x)(hs':SzS s)(h:TakeOk x)(hs:aP s=true):Ran p 7 123 [va K54 x, va K34 s] (rO K54 (jG x s)):=go123 λn hn=>by
 have hj:=iR x.state s
 have ht:=SY hz s
 have hp:=MW x s
 have lp:It (λaA (_:Unit)=>c123_7 (aK p n) aA x ((x,()),()) (((tkS x s,()),()),()) ((tkP x s,()),()) ((cJ (tkP x s),()),())) ((0:Int),x.rises) (λ_=>rV K54 (jG x s)):=by
  refine It.run (λi=>((i:Int),dL x.clock x.rises (tkP x s).1 i)) (tkP x s).1.length (λi hi aA u rec=>?_) (It.stop λaA u rec=>?_)
  ·show c123_7 (aK p n) aA x ((x,()),()) (((tkS x s,()),()),()) ((tkP x s,()),()) ((cJ (tkP x s),()),()) rec ((i:Int),dL x.clock x.rises (tkP x s).1 i)=rec (((i+1:Nat):Int),dL x.clock x.rises (tkP x s).1 (i+1))
   obtain⟨h0,hl⟩:=Q1 h hs hi
   unfold c123_7;dsimp only;rw[aM (i63 hi hp.a),NN];unfold pX;refine(aE (Int.ofNat_lt.2 hi)).trans ?_;refine bif_nn.trans ?_;refine(aJ hi).trans ?_;refine(aJ hi).trans ?_;refine(aE h0).trans ?_;refine(bK hl).trans ?_;refine(bK hl).trans ?_
   by_cases h1:(gt (tkP x s).1 i).2.1>(gt (dL x.clock x.rises (tkP x s).1 i) (gt (tkP x s).1 i).1.toNat).1
   ·refine(aE h1).trans ?_;refine(aE h0).trans ?_;refine(bK hl).trans ?_;refine(bK hl).trans ?_;rw[decide_eq_true h1];rfl
   ·refine(aI h1).trans ?_;rw[decide_eq_false h1]
    cases h2:(gt (tkP x s).1 i).2.1==(gt (dL x.clock x.rises (tkP x s).1 i) (gt (tkP x s).1 i).1.toNat).1 with
    | false=>rfl
    | true=>
     refine(aL rfl).trans ?_
     by_cases h3:(gt (tkP x s).1 i).2.2.2.1>(gt (dL x.clock x.rises (tkP x s).1 i) (gt (tkP x s).1 i).1.toNat).2.1
     ·refine(aE h3).trans ?_;refine(aE h0).trans ?_;refine(bK hl).trans ?_;refine(bK hl).trans ?_;rw[decide_eq_true h3];rfl
     ·refine(aI h3).trans ?_;rw[decide_eq_false h3];rfl
  ·show c123_7 (aK p n) aA x ((x,()),()) (((tkS x s,()),()),()) ((tkP x s,()),()) ((cJ (tkP x s),()),()) rec (((tkP x s).1.length:Int),dL x.clock x.rises (tkP x s).1 (tkP x s).1.length)=_
   unfold c123_7;dsimp only;refine(aI (Int.lt_irrefl _)).trans ?_;rfl
 exact Ev.eq (λaA=>by
  unfold T123;refine(aB (f78 x hz n (by omega))).trans ?_;refine(aB (f32 x.state s hz.state hs' ((aS _).1 h.state).pos ((aS _).1 hs).pos n (by omega))).trans ?_;refine(aB (f125 (cL x.state s) hj n (by omega))).trans ?_
  refine(aB (f124 x.seen x.1 (c6 (cL x.state s)) hz.seen hz.lines (Nat.le_trans (fW _) (by decide)) n (by omega))).trans ?_;refine(aB (f147 (cL x.state s) (tkS x s) hj ht.1 ht.2 n (by omega))).trans ?_;refine(aB (f65 (tkP x s) hp n (by omega))).trans ?_;rfl) (lp.ev (i:=()) rfl)
end Go.Abs.Wz
namespace Go.Abs.Wz
open Go Go.Abs
theorem f186(v:List aO)(a b:Int)(hv:v.length<=aW):Ran p 2 186 [vf K44 (v,()), vf K3 (a,()), vf K3 (b,())] (rO K4 (pI v a b,())):=go186 λn hn=>by
 by_cases h:(v.length:Int)>a
 ·exact Ev.now λaA=>by unfold T186 pI;rw[decide_eq_true h];exact aE h
 ·have lp:It (λaA (_:Unit)=>c186_4 (aK p n) aA v b) (0:Int) (λ_=>oB (nF v b)):=by
   refine cQ (It.allB v.length (λi=>inB (gt v i).1 0 b) true (λi hi aA u rec=>?_) (It.stop λaA u rec=>?_))
   ·show c186_4 (aK p n) aA v b rec (i:Int)=_
    unfold c186_4;rw[aM (i63 hi hv)];refine(aE (Int.ofNat_lt.2 hi)).trans ?_;refine bif_nn.trans ?_;refine(aJ hi).trans ?_;refine(aB (f33 (gt v i).1 0 b n (by omega))).trans ?_;exact fin
   ·show c186_4 (aK p n) aA v b rec (v.length:Int)=_
    unfold c186_4;refine(aI (Int.lt_irrefl _)).trans ?_;rfl
  have e:pI v a b=nF v b:=by unfold pI;rw[decide_eq_false h];rfl
  rw[e]
  exact Ev.eq (λaA=>by unfold T186;exact aI h) (lp.ev (i:=()) rfl)
theorem f185(t:mU)(ht:t.1.length<=aW):Ran p 3 185 [va K46 t] (rO K4 (treeB t,())):=go185 λn hn=>Ev.now λaA=>by
 unfold T185 treeB
 cases h0:(t.1.length:Int)==0 with
 | true=>exact aL h0
 | false=>
  refine(aF h0).trans ?_
  cases h4:(t.1.length:Int)==4 with
  | false=>exact aF h4
  | true=>
   refine(aL h4).trans ?_;refine(aB (f186 t.1 4 1023 ht n (by omega))).trans ?_
   have e:pI t.1 4 1023=nF t.1 1023:=by unfold pI;rw[decide_eq_false (by have:=eq_of_beq h4;omega)];rfl
   rw[e]
   cases nF t.1 1023 with
   | false=>rfl
   | true=>refine(aL rfl).trans ?_;refine(aB (f33 t.2.1 0 1023 n (by omega))).trans ?_;rfl
theorem f176(m:MsgT)(hz:SzM m):Ran p 4 176 [va K143 m] (rO K4 (fA m,())):=go176 λn hn=>by
 have lp:It (λaA (_:Unit)=>c176_6 (aK p n) aA m) (1:Int) (λ_=>oB (bS (m.leaves.length - 1) (FV m.leaves))):=by
  have:=It.all (c:=λaA (_:Unit)=>c176_6 (aK p n) aA m) (rA:=λ_=>oB true) (rB:=λ_=>oB false) (λi=>(((i+1:Nat)):Int)) (m.leaves.length - 1) (FV m.leaves) (λi hi aA u rec=>by
   have hi1:i+1<m.leaves.length:=by omega
   have hl:=hz.list
   show c176_6 (aK p n) aA m rec (((i+1:Nat)):Int)=_
   unfold c176_6;rw[aM (i63 hi1 hl)];refine(aE (Int.ofNat_lt.2 hi1)).trans ?_;refine bif_nn.trans ?_;refine(aJ hi1).trans ?_;rw[lG (i63 hi1 hl) (by omega)];refine bif_nn.trans ?_;refine(aJ (show i<m.leaves.length by omega)).trans ?_;exact IL) (It.stop λaA u rec=>by
   show c176_6 (aK p n) aA m rec (((m.leaves.length - 1+1:Nat)):Int)=_
   unfold c176_6;refine(aI (show ¬ (((m.leaves.length - 1+1:Nat)):Int)<(m.leaves.length:Int) by omega)).trans ?_;rfl)
  refine cast ?_ this
  congr 1;funext u;exact TE
 rw[<- JN]
 have key:∃ N,∀ aA,N<=aA->T176 (aK p n) aA m=oB (zS m):=by
  obtain⟨N,hN⟩:=lp.all_i
  refine⟨N,λaA hf=>?_⟩
  unfold T176 zS
  refine(aB (f33 m.1 0 5 n (by omega))).trans ?_;refine eU λ_=>?_;refine(aB (f52 m.2.1 n (by omega))).trans ?_;refine eU λ_=>?_;refine(aB (f52 m.2.2.1 n (by omega))).trans ?_;refine eU λ_=>?_;refine uW λ_=>?_;refine(aB (f33 m.2.2.2.1 0 100000 n (by omega))).trans ?_;refine eU λ_=>?_;refine(aB (f33 m.hi 0 100000 n (by omega))).trans ?_;refine eU λ_=>?_
  refine(aB (f185 m.tree hz.leaves n (by omega))).trans ?_;refine eU λ_=>?_;refine(aB (f186 m.vec 5 100000 hz.vec n (by omega))).trans ?_;refine eU λ_=>?_;refine(aB (f186 m.leaves 4 3 hz.list n (by omega))).trans ?_;refine eU λ_=>?_;refine(aB (f25 m.part (aQ hz.part.a) (aQ hz.part.b) n (by omega))).trans ?_;refine eU λ_=>?_;refine(aB (f148 m.marks (aQ hz.marks) n (by omega))).trans ?_;refine eU λ_=>?_
  exact hN aA hf ()
 exact key
theorem G6{n:Nat}{seq:Int}{l:gV}(h:jW l seq=true):i64.wrap (seq - l.2.1)=((dV l seq:Nat):Int):=by
 have:=y6 h;rw[IntKind.wrap_i64];omega
theorem f184(l:gV)(seq:Int)(hl:l.2.2.1.length<=aW)(hs:∀ i,i<l.2.2.1.length->SzS (gt l.2.2.1 i)):Ran p 5 184 [va K49 l, vf K3 (seq,())] ⟨[⟨K34,lW l seq⟩,⟨K4,(jW l seq,())⟩],[]⟩:=go184 λn hn=>by
 cases hb:jW l seq with
 | false=>
  exact Ev.now λaA=>by
   unfold T184 lW;rw[hb];refine(aB (f66 l hl hs n (by omega))).trans ?_
   cases h1:gR l with
   | false=>rfl
   | true=>refine(aF rfl).trans ?_;refine(aB (f33 seq l.2.1 (i64.wrap (l.2.1+(l.2.2.1.length:Int))) n (by omega))).trans ?_;unfold jW at hb;rw[h1] at hb;rw[show inB seq l.2.1 (i64.wrap (l.2.1+(l.2.2.1.length:Int)))=false from hb];rfl
 | true=>
  have hk:=y6 hb
  have hb':=hb
  unfold jW at hb';rw[Bool.and_eq_true] at hb'
  have lp:It (λaA (_:Unit)=>c184_5 (aK p n) aA l) (((dV l seq:Nat):Int),([]:List bF),([]:List aU)) (λ_=>some ⟨[⟨K34,lW l seq⟩,⟨K4,(true,())⟩],[]⟩):=by
   refine It.run (λi=>(((dV l seq+i:Nat):Int),(jI l.2.2.1 (dV l seq) i).1,(jI l.2.2.1 (dV l seq) i).2.1)) (l.2.2.1.length - dV l seq) (λi hi aA u rec=>?_) (It.stop λaA u rec=>?_)
   ·have hi1:dV l seq+i<l.2.2.1.length:=by omega
    have o1:=(aS _).1 (sJ hb'.1 (dV l seq) i (by omega))
    have o2:=(aS _).1 (show aP (gt l.2.2.1 (dV l seq+i))=true by have h1:=hb'.1;unfold gR at h1;simp only[Bool.and_eq_true] at h1;exact bN.1 h1.2.2.2.2 _ hi1)
    show c184_5 (aK p n) aA l rec (((dV l seq+i:Nat):Int),(jI l.2.2.1 (dV l seq) i).1,(jI l.2.2.1 (dV l seq) i).2.1)=_
    unfold c184_5;dsimp only;rw[aM (i63 hi1 hl)];refine(aE (Int.ofNat_lt.2 hi1)).trans ?_;refine bif_nn.trans ?_;refine(aJ hi1).trans ?_;refine(aB (f32 (jI l.2.2.1 (dV l seq) i) (gt l.2.2.1 (dV l seq+i)) (y7 _ _ _) (hs _ hi1) o1.pos o2.pos n (by omega))).trans ?_;rfl
   ·show c184_5 (aK p n) aA l rec (((dV l seq+(l.2.2.1.length - dV l seq):Nat):Int),(jI l.2.2.1 (dV l seq) (l.2.2.1.length - dV l seq)).1,(jI l.2.2.1 (dV l seq) (l.2.2.1.length - dV l seq)).2.1)=_
    unfold c184_5;dsimp only;refine(aI (show ¬ ((dV l seq+(l.2.2.1.length - dV l seq):Nat):Int)<(l.2.2.1.length:Int) by omega)).trans ?_;unfold lW;rw[hb];rfl
  exact Ev.eq (λaA=>by unfold T184;refine(aB (f66 l hl hs n (by omega))).trans ?_;rw[hb'.1];refine(aF rfl).trans ?_;refine(aB (f33 seq l.2.1 (i64.wrap (l.2.1+(l.2.2.1.length:Int))) n (by omega))).trans ?_;rw[hb'.2];refine(aF rfl).trans ?_;rw[G6 (n:=0) hb];rfl) (lp.ev (i:=()) rfl)
theorem f175(x:NodeT)(seq:Int)(hz:SzN x):Ran p 6 175 [va K54 x, vf K3 (seq,())] ⟨[⟨K34,rS x seq⟩,⟨K4,(jW x.log seq,())⟩],[]⟩:=go175 λn hn=>Ev.now λaA=>by
 unfold T175 rS;refine(bA (f184 x.log seq hz.list hz.logs n (by omega))).trans ?_
 cases jW x.log seq with
 | true=>rfl
 | false=>refine(aF rfl).trans ?_;refine(aB (f80 x.state hz.state n (by omega))).trans ?_;rfl
theorem M9{s:aH}(h:aP s=true):s.1.length<=1000/\s.2.1.length<=1000:=by have:=((aS s).1 h).len;omega
theorem f197(x:NodeT)(ls:List aO)(seq:Int)(hz:SzN x)(h:NodeOk x)(hl:ls.length<=aW):Ran p 7 197 [va K54 x, vf K44 (ls,()), vf K3 (seq,())] (rO K34 (FG x ls seq)):=go197 λn hn=>Ev.now λaA=>by
 have hm:=M9 h.state
 unfold T197;refine(bA (f175 x seq hz n (by omega))).trans ?_;refine(aB (f136 x.state ls (aQ hl) hm.1 hm.2 n (by omega))).trans ?_;refine(aB (f32 (jH x.state ls) (rS x seq) (NA hz.state ls) (EW hz seq) ((aS _).1 (NB h.state ls)).pos ((aS _).1 (NE h seq)).pos n (by omega))).trans ?_;rfl
end Go.Abs.Wz
set_option maxHeartbeats 2000000
namespace Go.Abs.Wz
open Go Go.Abs
theorem LP(ls:List aO):(aN (ls.length:Int)++bL ls.length λi=>aN (gt ls i).1)=eP ls:=by
 unfold eP cX;rw[cG (λx:aO=>aN x.1) ls]
theorem f187(ls:List aO)(hl:ls.length<=100):Ran p 3 187 [vf K44 (ls,())] (rO K22 (eP ls,())):=go187 λn hn=>by
 have hp:=bD (ls.length:Int)
 have lp:It (λaA (_:Unit)=>c187_3 (aK p n) aA ls) ((0:Int),aN (ls.length:Int)) (λ_=>oL (eP ls)):=by
  refine It.accu (α:=aO) (aN (ls.length:Int)) (λi=>aN (gt ls i).1) ls.length 5 (λi hi=>bD _) (λi hi acc ha aA a rec=>?_) (It.stop λaA a rec=>?_)
  ·replace ha:acc.length+(aN (gt ls i).1).length<=(aN (ls.length:Int)).length+ls.length*5:=ha
   show c187_3 (aK p n) aA ls rec ((i:Int),acc)=_
   unfold c187_3;dsimp only;rw[aM (show i<9223372036854775807 by omega)];refine(aE (Int.ofNat_lt.2 hi)).trans ?_;refine bif_nn.trans ?_;refine(aJ hi).trans ?_;refine(aB (f137 (gt ls i).1 n (by omega))).trans ?_;refine(aE (by show acc.length+(aN (gt ls i).1).length<=4294967296;omega)).trans ?_;rfl
  ·show c187_3 (aK p n) aA ls rec ((ls.length:Int),aN (ls.length:Int)++bL ls.length λi=>aN (gt ls i).1)=_
   unfold c187_3;refine(aI (Int.lt_irrefl _)).trans ?_;exact congrArg oL (LP ls)
 exact Ev.eq (λaA=>by unfold T187;refine(aB (f137 (ls.length:Int) n (by omega))).trans ?_;rfl) (lp.ev (i:=()) rfl)
theorem f178(b:List aO)(hb:ByL b)(hl:b.length<=aW):Ran p 2 178 [vf K22 (b,())] (rO K22 (y2 b,())):=go178 λn hn=>Ev.now λaA=>by
 have h:=PR hb
 unfold T178;refine(aB (f134 b (Nat.le_trans hl (by decide)) n (by omega))).trans ?_;refine(aI (by decide)).trans ?_;refine(aI (by decide)).trans ?_;refine(aI (by decide)).trans ?_;refine(aI (by decide)).trans ?_;refine(aI (by decide)).trans ?_;refine(aI (by decide)).trans ?_;exact congrArg oL (M4 h.2 h.1)
-- the body of a message, as both write it
def uT(m:MsgT):List aO:=rk2++cX (fR m)++eP m.tree.1++aN m.tree.2.1++eP m.vec++eP m.leaves++aN (((bT m.part).length:Nat):Int)
theorem P2(m:MsgT):uT m++bT m.part++aN (m.marks.length:Int)++m.marks.flatMap bE=fL m:=by
 unfold uT fL rZ;simp only[List.append_assoc]
structure BodyL (m:MsgT):Prop where
 h5:(cX (fR m)).length<=25
 a:(eP m.tree.1).length<=25
 b:(aN m.tree.2.1).length<=5
 c:(eP m.vec).length<=30
 d:(eP m.leaves).length<=25
 e:(aN (((bT m.part).length:Nat):Int)).length<=5
 f:(bT m.part).length<=250
 g:(aN (m.marks.length:Int)).length<=5
 k:m.marks.length<=5
theorem vO(ls:List aO):(eP ls).length<=5+ls.length*5:=by
 have h1:=bD (ls.length:Int);have h2:=lL ls
 unfold eP;rw[List.length_append];omega
theorem UR{m:MsgT}(h:MsgR m):BodyL m:=by
 have h1:=vO m.tree.1;have h2:=vO m.vec;have h3:=vO m.leaves
 have l1:=h.tree.1;have l2:=h.vec.1;have l3:=h.leaves.1
 exact⟨lL (fR m),by omega,bD _,by omega,by omega,bD _,nV ((aS _).1 h.part),bD _,h.marks.1⟩
theorem f177(m:MsgT)(h:fA m=true):Ran p 5 177 [va K143 m] (rO K22 (fL m,())):=go177 λn hn=>by
 have hr:=rE h
 have L:=UR hr
 have l1:=L.h5;have l2:=L.a;have l3:=L.b;have l4:=L.c;have l5:=L.d;have l6:=L.e;have l7:=L.f;have l8:=L.g;have l9:=L.k
 have t1:=hr.tree.1;have t2:=hr.vec.1;have t3:=hr.leaves.1
 have l0:rk2.length=2:=rfl
 have hok:StateOk m.part:=(aS _).1 hr.part
 have mk:∀ pre:List aO,pre.length<=1000->It (λaA (_:Unit)=>c177_16 (aK p n) aA m) ((0:Int),pre) (λ_=>oL (pre++m.marks.flatMap bE)):=by
  intro pre hp
  refine It.accu (α:=aO) pre (λi=>bE (gt m.marks i)) m.marks.length 10 (λi hi=>hS _) (λi hi acc ha aA a rec=>?_) (It.stop λaA a rec=>?_)
  ·have ha':acc.length+(bE (gt m.marks i)).length<=1050:=by omega
   unfold bE at ha';rw[List.length_append] at ha'
   show c177_16 (aK p n) aA m rec ((i:Int),acc)=_
   unfold c177_16;dsimp only;rw[aM (show i<9223372036854775807 by omega)];refine(aE (Int.ofNat_lt.2 hi)).trans ?_;refine bif_nn.trans ?_;refine(aJ hi).trans ?_;refine(aB (f137 (gt m.marks i).1 n (by omega))).trans ?_;refine(aE (by show acc.length+(aN (gt m.marks i).1).length<=4294967296;omega)).trans ?_;refine bif_nn.trans ?_;refine(aJ hi).trans ?_;refine(aB (f137 (gt m.marks i).2.1 n (by omega))).trans ?_
   refine(aE (by show(acc++aN (gt m.marks i).1).length+(aN (gt m.marks i).2.1).length<=4294967296;rw[List.length_append];omega)).trans ?_
   exact congrArg (λl:List aO=>rec (((i+1:Nat):Int),l)) (List.append_assoc _ _ _)
  ·show c177_16 (aK p n) aA m rec ((m.marks.length:Int),pre++bL m.marks.length λi=>bE (gt m.marks i))=_
   unfold c177_16;refine(aI (Int.lt_irrefl _)).trans ?_;exact congrArg (λl:List aO=>oL (pre++l)) (cG bE m.marks)
 have body0:=mk (uT m++bT m.part++aN (m.marks.length:Int)) (by unfold uT;simp only[List.length_append];dsimp only[MsgT.tree] at*;omega)
 rw[P2] at body0
 have lp:It (λaA (_:Unit)=>c177_4 (aK p n) aA m) ((0:Int),rk2) (λ_=>oL (fL m)):=by
  refine It.accu (α:=aO) rk2 (λi=>aN (gt (fR m) i).1) 5 5 (λi hi=>bD _) (λi hi acc ha aA a rec=>?_)
   (It.stopE (T:=λaA _=>iter (c177_16 (aK p n) aA m) aA ((0:Int),uT m++bT m.part++aN (m.marks.length:Int))) (λaA a rec=>?_) body0.all_i)
  ·replace ha:acc.length+(aN (gt (fR m) i).1).length<=2+5*5:=ha
   have hi5:i<(fR m).length:=hi
   show c177_4 (aK p n) aA m rec ((i:Int),acc)=_
   unfold c177_4;dsimp only;rw[aM (show i<9223372036854775807 by omega)];refine(aE (Int.ofNat_lt.2 hi5)).trans ?_;refine bif_nn.trans ?_;refine(aJ hi5).trans ?_;refine(aJ hi5).trans ?_;refine(aB (f137 (gt (fR m) i).1 n (by omega))).trans ?_;refine(aE (by show acc.length+(aN (gt (fR m) i).1).length<=4294967296;omega)).trans ?_;rfl
  ·have e0:(rk2++bL 5 λi=>aN (gt (fR m) i).1)=rk2++cX (fR m):=congrArg (λl=>rk2++l) (cG (λx:aO=>aN x.1) (fR m))
   show c177_4 (aK p n) aA m rec (((5:Nat):Int),rk2++bL 5 λi=>aN (gt (fR m) i).1)=_
   rw[e0]
   have b1:(rk2++cX (fR m)).length+(eP m.tree.1).length<=bound:=by unfold bound;simp only[List.length_append];dsimp only[MsgT.tree] at*;omega
   have b2:(rk2++cX (fR m)++eP m.tree.1).length+(aN m.tree.2.1).length<=bound:=by unfold bound;simp only[List.length_append];dsimp only[MsgT.tree] at*;omega
   have b3:(rk2++cX (fR m)++eP m.tree.1++aN m.tree.2.1).length+(eP m.vec).length<=bound:=by unfold bound;simp only[List.length_append];dsimp only[MsgT.tree] at*;omega
   have b4:(rk2++cX (fR m)++eP m.tree.1++aN m.tree.2.1++eP m.vec).length+(eP m.leaves).length<=bound:=by unfold bound;simp only[List.length_append];dsimp only[MsgT.tree] at*;omega
   have b5:(rk2++cX (fR m)++eP m.tree.1++aN m.tree.2.1++eP m.vec++eP m.leaves).length+(aN (((bT m.part).length:Nat):Int)).length<=bound:=by unfold bound;simp only[List.length_append];dsimp only[MsgT.tree] at*;omega
   have b6:(uT m).length+(bT m.part).length<=bound:=by unfold bound uT;simp only[List.length_append];dsimp only[MsgT.tree] at*;omega
   have b7:(uT m++bT m.part).length+(aN (m.marks.length:Int)).length<=bound:=by unfold bound uT;simp only[List.length_append];dsimp only[MsgT.tree] at*;omega
   unfold c177_4;dsimp only;refine(aI (show ¬ ((5:Int)<5) by decide)).trans ?_;refine(aB (f187 m.tree.1 (by omega) n (by omega))).trans ?_;refine(aE b1).trans ?_;refine(aB (f137 m.tree.2.1 n (by omega))).trans ?_;refine(aE b2).trans ?_;refine(aB (f187 m.vec (by omega) n (by omega))).trans ?_;refine(aE b3).trans ?_;refine(aB (f187 m.leaves (by omega) n (by omega))).trans ?_;refine(aE b4).trans ?_;refine(aB (f135 m.part hok n (by omega))).trans ?_;refine(aB (f137 (((bT m.part).length:Nat):Int) n (by omega))).trans ?_;refine(aE b5).trans ?_;refine(aE b6).trans ?_;refine(aB (f137 (m.marks.length:Int) n (by omega))).trans ?_;refine(aE b7).trans ?_;rfl
 exact Ev.eq (λaA=>by unfold T177;rfl) (lp.ev (i:=()) rfl)
theorem FO{m:MsgT}(h:fA m=false):bR m=[]:=by unfold bR;rw[h];rfl
theorem f164(m:MsgT)(hz:SzM m):Ran p 6 164 [va K143 m] (rO K22 (bR m,())):=go164 λn hn=>Ev.now λaA=>by
 unfold T164;refine(aB (f176 m hz n (by omega))).trans ?_
 cases h:fA m with
 | false=>refine(aL rfl).trans ?_;rw[FO h];rfl
 | true=>
  have hl:=GL (rE h)
  have hb:(fL m).length+(y2 (fL m)).length<=bound:=by rw[yZ];unfold bound;omega
  rw[qB h];refine(aF rfl).trans ?_;refine(aB (f177 m h n (by omega))).trans ?_;refine(aB (f178 (fL m) (AX m) (Nat.le_trans hl (by decide)) n (by omega))).trans ?_;refine(aE hb).trans ?_;rfl
end Go.Abs.Wz
namespace Go.Abs.Wz
open Go Go.Abs
theorem f201(a b:mU):Ran p 1 201 [va K46 a, va K46 b] (rO K44 (lY a b,())):=go201 λn hn=>by
 cases h0:a.2.1==b.2.1 with
 | true=>exact Ev.now λaA=>by unfold T201 lY;rw[h0];exact aL rfl
 | false=>
  have lp:It (λaA (_:Unit)=>c201_5 (aK p n) aA a b) ((0:Int),([]:List aO)) (λ_=>rV K44 (bL 4 (kA a b),())):=by
   refine It.accu (α:=aO) [] (kA a b) 4 1 (λi _=>xK a b i) (λi hi acc ha aA u rec=>?_) (It.stop λaA u rec=>?_)
   ·show c201_5 (aK p n) aA a b rec ((i:Int),acc)=rec (((i+1:Nat):Int),acc++kA a b i)
    have hb:acc.length+1<=bound+(1 - (kA a b i).length):=by simp at ha;unfold bound;omega
    unfold c201_5;dsimp only;rw[aM (show i<9223372036854775807 by omega)];refine(aE (show(i:Int)<4 by omega)).trans ?_
    unfold kA at hb ⊢
    cases h1:(a.1.length:Int) != 4 with
    | true=>refine(aL h1).trans ?_;refine(aE (by rw[h1] at hb;exact hb)).trans ?_;rfl
    | false=>
     refine(aF h1).trans ?_
     cases h2:(b.1.length:Int) != 4 with
     | true=>refine(aL h2).trans ?_;refine(aE (by rw[h1,h2] at hb;exact hb)).trans ?_;rfl
     | false=>
      have e1:a.1.length=4:=by rw[bne_eq_false_iff_eq] at h1;omega
      have e2:b.1.length=4:=by rw[bne_eq_false_iff_eq] at h2;omega
      refine(aF h2).trans ?_;refine bif_nn.trans ?_;refine(aJ (show i<a.1.length by omega)).trans ?_;refine bif_nn.trans ?_;refine(aJ (show i<b.1.length by omega)).trans ?_
      cases h3:(gt a.1 i).1 != (gt b.1 i).1 with
      | true=>refine(aL rfl).trans ?_;refine(aE (by rw[h1,h2,h3] at hb;exact hb)).trans ?_;rfl
      | false=>refine(aF rfl).trans ?_;show rec _=rec _;rw[show(bif false then[((i:Int),())] else bif false then[((i:Int),())] else bif false then[((i:Int),())] else[])=([]:List aO)from rfl,List.append_nil];rfl
   ·show c201_5 (aK p n) aA a b rec ((4:Int),bL 4 (kA a b))=_
    unfold c201_5;dsimp only;refine(aI (Int.lt_irrefl _)).trans ?_;rfl
  have e:lY a b=bL 4 (kA a b):=by unfold lY;rw[h0];rfl
  rw[e]
  exact Ev.eq (λaA=>by unfold T201;exact aF h0) (lp.ev (i:=()) rfl)
theorem f151(nd:NodeT)(x:Int)(b:Bool)(hv:nd.sess.length<=aW):Ran p 1 151 [va K54 nd, vf K3 (x,()), vf K4 (b,())] (rO K3 (dE nd.sess x b,())):=go151 λn hn=>by
 have key:∀ {i:Nat} {α:Type} {X R:α},(bif(gt nd.sess i).1==x then(bif rM (gt nd.sess i).2.2.1 b then X else R)else R)=bif dQ nd.sess i x b then X else R:=two
 have lp:It (λaA (_:Unit)=>c151_2 (aK p n) aA nd x b) (0:Int) (λ_=>oI (dE nd.sess x b)):=by
  have:=It.first (c:=λaA (_:Unit)=>c151_2 (aK p n) aA nd x b) (λi=>(i:Int)) nd.sess.length (λi=>dQ nd.sess i x b) (λi _=>oI (i:Int)) (λ_=>oI (-1)) (λi hi hp aA a rec=>?_) (λi hi hp=>It.stop λaA a rec=>?_) (It.stop λaA a rec=>?_)
  ·revert this;unfold dE
   cases (List.range nd.sess.length).find? (λi=>dQ nd.sess i x b)<;>exact λh=>h
  ·have hb:=bV hi hv
   show c151_2 (aK p n) aA nd x b rec (i:Int)=_
   unfold c151_2;rw[aM hb];refine(aE (Int.ofNat_lt.2 hi)).trans ?_;refine bif_nn.trans ?_;refine(aJ hi).trans ?_
   unfold dQ at hp
   cases h1:(gt nd.sess i).1==x with
   | false=>exact aF rfl
   | true=>refine(aL rfl).trans ?_;refine bif_nn.trans ?_;refine(aJ hi).trans ?_;rw[h1] at hp;exact aF hp
  ·show c151_2 (aK p n) aA nd x b rec (i:Int)=_
   unfold c151_2;refine(aE (Int.ofNat_lt.2 hi)).trans ?_;refine bif_nn.trans ?_;refine(aJ hi).trans ?_
   unfold dQ at hp;rw[Bool.and_eq_true] at hp
   refine(aL hp.1).trans ?_;refine bif_nn.trans ?_;refine(aJ hi).trans ?_;exact aL hp.2
  ·show c151_2 (aK p n) aA nd x b rec (nd.sess.length:Int)=_
   unfold c151_2;refine(aI (Int.lt_irrefl _)).trans ?_;rfl
 exact Ev.eq (λaA=>by unfold T151;rfl) (lp.ev (i:=()) rfl)
theorem f152(x:NodeT)(k to num:Int)(hz:SzN x):Ran p 6 152 [va K54 x, vf K3 (k,()), vf K3 (to,()), vf K3 (num,())] (rO K143 (RN x k to num)):=go152 λn hn=>Ev.now λaA=>by
 unfold T152;refine(aB (f68 x.log hz.list hz.logs n (by omega))).trans ?_;refine(aE (kQ hz.got)).trans ?_;refine(aB (f125 x.state hz.state n (by omega))).trans ?_;rfl
structure Hears (x:NodeT) (m:MsgT):Prop where
 szn:SzN x
 szm:SzM m
 node:NodeOk x
 id:0<=x.1
 vec:x.1.toNat<m.vec.length
theorem f193(x:NodeT)(m:MsgT)(h:Hears x m):Ran p 8 193 [va K54 x, va K143 m] (rO K54 (eH x m)):=go193 λn hn=>Ev.now λaA=>by
 unfold T193;refine(aB (f78 x h.szn n (by omega))).trans ?_;refine(aE h.id).trans ?_;refine(bK h.vec).trans ?_;refine(aB (f68 x.log h.szn.list h.szn.logs n (by omega))).trans ?_;refine(aB (f167 (gt m.vec x.1.toNat).1 (cF x.log) n (by omega))).trans ?_;refine(aB (f200 x.acked m.2.1 (mxI false (gt m.vec x.1.toNat).1 (cF x.log)) h.szn.acked n (by omega))).trans ?_;refine(aB (f124 x.seen m.2.1 m.marks h.szn.seen h.szn.lines h.szm.marks n (by omega))).trans ?_;refine(aB (f123 (heard0 x m) iC (CF h.szn m) gP (C3 (h.node.heard0 m)) yD n (by omega))).trans ?_;rfl
theorem f192(x:NodeT)(m:MsgT)(h:Hears x m)(hp:aP m.part=true):Ran p 9 192 [va K54 x, va K143 m] (rO K54 (eC x m)):=go192 λn hn=>Ev.now λaA=>by
 have hs:=lO (lK h.szn m) m.part
 unfold T192;refine(aB (f193 x m h n (by omega))).trans ?_;refine(aB (f123 (eH x m) m.part (lK h.szn m) h.szm.part (C3 (h.node.heard m)) hp n (by omega))).trans ?_;refine(aB (f200 (jG (eH x m) m.part).got m.2.1 m.hi hs.got n (by omega))).trans ?_;rfl
end Go.Abs.Wz
namespace Go.Abs.Wz
open Go Go.Abs
theorem f195(x:NodeT)(m:MsgT)(b:Bool)(hv:x.sess.length<=aW):Ran p 2 195 [va K54 x, va K143 m, vf K4 (b,())] (rO K3 (sC x m b,())):=go195 λn hn=>Ev.now λaA=>by
 unfold T195 sC;refine(aB (f151 x m.2.1 b hv n (by omega))).trans ?_
 rcases hZ x.sess m.2.1 b with ⟨k,hk,e,_⟩ | ⟨e,_⟩<;>rw[e]
 ·refine bif_nn.trans ?_;refine bif_nn.trans ?_;refine(aJ hk).trans ?_;rw[decide_eq_true (show((k:Nat):Int)>=0 by omega),Int.toNat_natCast]
  cases (gt x.sess k).2.1 != m.2.2.2.1<;>rfl
 ·rfl
theorem f196(x:NodeT)(k:Nat)(hz:SzN x)(hk:k<x.sess.length):Ran p 4 196 [va K54 x, vf K3 ((k:Int),())] (rO K54 (kH x k)):=go196 λn hn=>Ev.now λaA=>by
 rw[<- NU hk hz.sess]
 unfold T196;refine(aB (f78 x hz n (by omega))).trans ?_;exact PO hk hz.sess
theorem Hears.of{x:NodeT}{m:MsgT}(hz:SzN x)(hm:SzM m)(h:RecOk x m):Hears x m:=
 ⟨hz,hm,h.node,h.idn.1,by have h1:=h.idn;have h2:=h.vec;omega⟩
theorem QM{x:NodeT}{k:Nat}(hk:k<x.sess.length)(num:Int):(x.sess.set k ((gt x.sess k).1,num,(gt x.sess k).2.2)).set k ((gt (x.sess.set k ((gt x.sess k).1,num,(gt x.sess k).2.2)) k).1,(gt (x.sess.set k ((gt x.sess k).1,num,(gt x.sess k).2.2)) k).2.1,(gt (x.sess.set k ((gt x.sess k).1,num,(gt x.sess k).2.2)) k).2.2.1,(0:Int),(gt (x.sess.set k ((gt x.sess k).1,num,(gt x.sess k).2.2)) k).2.2.2.2)=oK x k num:=by
 rw[cD hk,BP];rfl
theorem UC{x:NodeT}{m:MsgT}{k:Nat}(e:dE x.sess m.2.1 true=(k:Int)):kZ x m=false/\hY x m=oK x k m.2.2.2.1:=by
 unfold kZ hY;rw[e,decide_eq_true (show((k:Nat):Int)>=0 by omega)];exact⟨rfl,by rw[Int.toNat_natCast];rfl⟩
theorem UB{x:NodeT}{m:MsgT}(e:dE x.sess m.2.1 true= -1):kZ x m=((x.sess.length:Int)==x.slots)/\hY x m=lE x m:=by
 unfold kZ hY;rw[e];exact⟨rfl,rfl⟩
theorem f194(x:NodeT)(m:MsgT)(hz:SzN x)(hm:SzM m)(R:RecOk x m):Ran p 9 194 [va K54 x, va K143 m] ⟨[⟨K54,(oH x m).1⟩,⟨K191,((oH x m).2.1,())⟩,⟨K3,((oH x m).2.2,())⟩],[]⟩:=go194 λn hn=>Ev.now λaA=>by
 have h0:=R.idn.1
 have hv:x.1.toNat<m.vec.length:=(Hears.of hz hm R).vec
 have go:kZ x m=false->∀ {y:NodeT},withS x (hY x m)=y->Hears y m/\NodeOk (eH y m)/\SzN (eH y m)/\oH x m=(eH y m,[HC (eH y m) x m],0):=by
  intro hf y e
  have hr:=R.syn hf
  have hs:=tI hz (wL R.node m)
  rw[e] at hr hs
  refine⟨Hears.of hs hm hr,hr.node.heard m,lK hs m,?_⟩
  unfold oH KK;rw[hf,e];rfl
 unfold T194;refine(aB (f78 x hz n (by omega))).trans ?_;refine(aB (f151 x m.2.1 true hz.sess n (by omega))).trans ?_
 rcases hZ x.sess m.2.1 true with ⟨k,hk,e,_⟩ | ⟨e,_⟩
 ·obtain⟨hf,hs⟩:=UC e
  have hk2:k<(x.sess.set k ((gt x.sess k).1,m.2.2.2.1,(gt x.sess k).2.2)).length:=by rw[List.length_set];exact hk
  obtain⟨hh,ho,hz2,he⟩:=go hf (y:=withS x ((x.sess.set k ((gt x.sess k).1,m.2.2.2.1,(gt x.sess k).2.2)).set k ((gt (x.sess.set k ((gt x.sess k).1,m.2.2.2.1,(gt x.sess k).2.2)) k).1,(gt (x.sess.set k ((gt x.sess k).1,m.2.2.2.1,(gt x.sess k).2.2)) k).2.1,(gt (x.sess.set k ((gt x.sess k).1,m.2.2.2.1,(gt x.sess k).2.2)) k).2.2.1,(0:Int),(gt (x.sess.set k ((gt x.sess k).1,m.2.2.2.1,(gt x.sess k).2.2)) k).2.2.2.2))) (by rw[hs,QM hk])
  rw[he,e];refine bif_nn.trans ?_;refine bif_nn.trans ?_;refine(aJ hk).trans ?_;refine(aJ hk).trans ?_;refine bif_nn.trans ?_;refine(aJ hk2).trans ?_;refine(aJ hk2).trans ?_
  refine(aB (f193 _ m hh n (by omega))).trans ?_;refine(aB (f152 _ 3 m.2.1 m.2.2.2.1 hz2 n (by omega))).trans ?_;refine(aB (f109 (eH _ m).tree hz2.leaves n (by omega))).trans ?_;refine(aB (f201 (eH _ m).tree m.tree n (by omega))).trans ?_;refine(aE h0).trans ?_;refine(bK hv).trans ?_;refine(aB (f197 _ (lY (eH _ m).tree m.tree) (gt m.vec x.1.toNat).1 hz2 ho (Nat.le_trans (s8 _ _) (by decide)) n (by omega))).trans ?_;rfl
 ·obtain⟨hf,hs⟩:=UB e
  rw[e];refine(aF rfl).trans ?_
  cases hl:(x.sess.length:Int)==x.slots with
  | true=>
   rw[hl] at hf
   refine(aL hl).trans ?_;refine(aB (f152 x 5 m.2.1 m.2.2.2.1 hz n (by omega))).trans ?_;unfold oH;rw[hf];rfl
  | false=>
   rw[hl] at hf
   obtain⟨hh,ho,hz2,he⟩:=go hf (y:=withS x (lE x m)) (by rw[hs])
   have hb:x.sess.length+1<=bound:=by have:=hz.sess;unfold aW at this;unfold bound;omega
   rw[he];refine(aF hl).trans ?_;refine(aE hb).trans ?_
   refine(aB (f193 (withS x (lE x m)) m hh n (by omega))).trans ?_;refine(aB (f152 _ 3 m.2.1 m.2.2.2.1 hz2 n (by omega))).trans ?_;refine(aB (f109 (eH _ m).tree hz2.leaves n (by omega))).trans ?_;refine(aB (f201 (eH _ m).tree m.tree n (by omega))).trans ?_;refine(aE h0).trans ?_;refine(bK hv).trans ?_;refine(aB (f197 _ (lY (eH _ m).tree m.tree) (gt m.vec x.1.toNat).1 hz2 ho (Nat.le_trans (s8 _ _) (by decide)) n (by omega))).trans ?_;rfl
end Go.Abs.Wz
namespace Go.Abs.Wz
open Go Go.Abs
def NP(r:I8):Out:=⟨[⟨K54,r.1⟩,⟨K191,(r.2.1,())⟩,⟨K3,(r.2.2,())⟩],[]⟩
theorem IK(x:NodeT)(m:MsgT)(b:Bool):(sC x m b<0/\(dE x.sess m.2.1 b= -1\/∃ k:Nat,k<x.sess.length/\dE x.sess m.2.1 b=(k:Int)/\((gt x.sess k).2.1 != m.2.2.2.1)=true))\/∃ k:Nat,k<x.sess.length/\dE x.sess m.2.1 b=(k:Int)/\((gt x.sess k).2.1 != m.2.2.2.1)=false/\sC x m b=(k:Int):=by
 unfold sC
 rcases hZ x.sess m.2.1 b with ⟨k,hk,e,_⟩ | ⟨e,_⟩<;>rw[e]
 ·rw[decide_eq_true (show((k:Nat):Int)>=0 by omega),Int.toNat_natCast]
  cases h:(gt x.sess k).2.1 != m.2.2.2.1 with
  | true=>exact .inl ⟨by show(-1:Int)<0;omega,.inr ⟨k,hk,rfl,h⟩⟩
  | false=>exact .inr ⟨k,hk,rfl,h,rfl⟩
 ·exact .inl ⟨by show(-1:Int)<0;omega,.inl rfl⟩
theorem KX{x:NodeT}{m:MsgT}(h0:(m.1==0)=false)(h1:(m.1==1)=false)(h2:(m.1==2)=false){b:Bool}(h4:(m.1==4)=b)(hf:sC x m b<0):zE x m=(x,[],2):=by
 unfold zE;rw[h0,h1,h2,h4,decide_eq_true hf];rfl
theorem NQ{x:NodeT}{m:MsgT}(h0:(m.1==0)=false)(h1:(m.1==1)=false)(h2:(m.1==2)=false){b:Bool}(h4:(m.1==4)=b){k:Nat}(hf:sC x m b=(k:Int)):zE x m=sM x m k:=by
 unfold zE;rw[h0,h1,h2,h4,hf,decide_eq_false (show ¬ (k:Int)<0 by omega)];rfl
theorem f188(x:NodeT)(m:MsgT)(hz:SzN x)(hm:SzM m):Ran p 10 188 [va K54 x, va K143 m] (NP (gY x m)):=go188 λn hn=>Ev.now λaA=>by
 have bad:mG x m=false->(some ⟨[⟨K54,x⟩,⟨K191,(([]:List MsgT),())⟩,⟨K3,((1:Int),())⟩],[]⟩:Option Out)=some (NP (gY x m)):=λh=>by rw[Q2 h];rfl
 unfold T188;refine(aB (f34 x hz n (by omega))).trans ?_
 cases g1:dY x with
 | false=>refine(aL rfl).trans ?_;refine(aB (f78 x hz n (by omega))).trans ?_;exact bad (by unfold mG;rw[g1];rfl)
 | true=>
 refine(aF rfl).trans ?_;refine(aB (f176 m hm n (by omega))).trans ?_
 cases g2:fA m with
 | false=>refine(aL rfl).trans ?_;refine(aB (f78 x hz n (by omega))).trans ?_;exact bad (by unfold mG;rw[g1,g2];rfl)
 | true=>
 refine(aF rfl).trans ?_
 cases g3:m.2.2.1==x.1 with
 | false=>refine(aL (show(m.2.2.1 != x.1)=true by unfold bne;rw[g3];rfl)).trans ?_;refine(aB (f78 x hz n (by omega))).trans ?_;exact bad (by unfold mG;rw[g1,g2,g3];rfl)
 | true=>
 refine(aF (show(m.2.2.1 != x.1)=false by unfold bne;rw[g3];rfl)).trans ?_
 by_cases g4:m.2.1>=x.2.1
 ·refine(aE g4).trans ?_;refine(aB (f78 x hz n (by omega))).trans ?_;exact bad (by unfold mG;rw[g1,g2,g3,decide_eq_true g4];rfl)
 refine(aI g4).trans ?_
 cases g5:(m.vec.length:Int)==x.2.1 with
 | false=>refine(aL (show((m.vec.length:Int) != x.2.1)=true by unfold bne;rw[g5];rfl)).trans ?_;refine(aB (f78 x hz n (by omega))).trans ?_;exact bad (by unfold mG;rw[g1,g2,g3,decide_eq_false g4,g5];rfl)
 | true=>
 refine(aF (show((m.vec.length:Int) != x.2.1)=false by unfold bne;rw[g5];rfl)).trans ?_
 have ok:mG x m=true:=by unfold mG;rw[g1,g2,g3,decide_eq_false g4,g5];rfl
 have R:=E5 ok
 have H:=Hears.of hz hm R
 rw[NO ok]
 cases k0:m.1==0 with
 | true=>
  have hz2:=mN hz m
  (first | refine(aL k0).trans ?_ | refine(aL rfl).trans ?_);refine(aB (f192 x m H R.part n (by omega))).trans ?_;refine(aB (f152 (eC x m) 1 m.2.1 m.2.2.2.1 hz2 n (by omega))).trans ?_;unfold zE;rw[k0];rfl
 | false=>
 (first | refine(aF k0).trans ?_ | refine(aF rfl).trans ?_)
 cases k1:m.1==1 with
 | true=>(first | refine(aL k1).trans ?_ | refine(aL rfl).trans ?_);refine(aB (f193 x m H n (by omega))).trans ?_;unfold zE;rw[k0,k1];rfl
 | false=>
 (first | refine(aF k1).trans ?_ | refine(aF rfl).trans ?_)
 cases k2:m.1==2 with
 | true=>(first | refine(aL k2).trans ?_ | refine(aL rfl).trans ?_);refine(dM (f194 x m hz hm R n (by omega))).trans ?_;unfold zE;rw[k0,k1,k2];rfl
 | false=>
 (first | refine(aF k2).trans ?_ | refine(aF rfl).trans ?_);refine(aB (f195 x m (m.1==4) hz.sess n (by omega))).trans ?_
 rcases IK x m (m.1==4)with ⟨hf,_⟩ | ⟨k,hk,_,_,hf⟩
 ·refine(aE hf).trans ?_;refine(aB (f78 x hz n (by omega))).trans ?_;rw[KX k0 k1 k2 rfl hf];rfl
 ·rw[NQ k0 k1 k2 rfl hf,hf];refine(aI (show ¬ (k:Int)<0 by omega)).trans ?_;refine(aB (f196 x k hz hk n (by omega))).trans ?_
  have hg:=F4 hz k
  have Rg:=R.gone k
  have Hg:=Hears.of hg hm Rg
  have hz2:=mN hg m
  cases k5:m.1==5 with
  | true=>(first | refine(aL k5).trans ?_ | refine(aL rfl).trans ?_);unfold sM;rw[k5];rfl
  | false=>
   (first | refine(aF k5).trans ?_ | refine(aF rfl).trans ?_);refine(aB (f192 (kH x k) m Hg Rg.part n (by omega))).trans ?_
   cases k4:m.1==4 with
   | true=>(first | refine(aL k4).trans ?_ | refine(aL rfl).trans ?_);unfold sM;rw[k5,k4];rfl
   | false=>
    (first | refine(aF k4).trans ?_ | refine(aF rfl).trans ?_);refine(aB (f152 (eC (kH x k) m) 4 m.2.1 m.2.2.2.1 hz2 n (by omega))).trans ?_;refine(aE (kQ hm.list)).trans ?_;refine(aE R.idn.1).trans ?_;refine(bK H.vec).trans ?_
    refine(aB (f197 (eC (kH x k) m) m.leaves (gt m.vec x.1.toNat).1 hz2 Rg.brought hm.list n (by omega))).trans ?_;unfold sM;rw[k5,k4];rfl
end Go.Abs.Wz
set_option maxHeartbeats 2000000
namespace Go.Abs.Wz
open Go Go.Abs
end Go.Abs.Wz
