/- What the functions of this program answer, part rd. -/
import Derived.Test.YtmamlgjbendjhaaGreatXrc
set_option linter.unusedVariables false
namespace Go.Abs.Xz
open Go Go.Abs
theorem f238(a b:iV):Ran p 1 238 [.val true ⟨K30,a⟩, .val true ⟨K30,b⟩] ⟨[⟨K28,(iQ a b,())⟩],[]⟩:=go238 fun n hn=>by
 cases h0:a.2.1==b.2.1 with
 | true=>exact Ev.now fun aA=>by unfold T238 iQ;rw[h0];exact aN rfl
 | false=>
  have lp:∀ q:Bool,q=(((a.1.length:Nat):Int)==4&&((b.1.length:Nat):Int)==4)→It (fun aA (_:Unit)=>c238_6 (aJ p n) aA a b) (q,(0:Int),([]:List aZ)) (fun _=>some ⟨[⟨K28,(bD 4 (eO a b),())⟩],[]⟩):=by
   intro q hq
   have step:∀ i:Nat,i<4→∀ acc:List aZ,acc.length+1≤bound→∀ aA rec,c238_6 (aJ p n) aA a b rec (q,(i:Int),acc)=rec (q,((i+1:Nat):Int),acc++eO a b i):=by
    intro i hi acc hb aA rec
    unfold c238_6;dsimp only;rw[aL (show i<9223372036854775807 by omega)];refine(aE (show(i:Int)<4 by omega)).trans ?_
    unfold eO
    cases h1:((a.1.length:Nat):Int)==4 with
    | false=>
     rw[h1] at hq;rw[hq];refine(aN rfl).trans ?_;refine(aE hb).trans ?_;rw[show(((a.1.length:Nat):Int) != 4)=true by unfold bne;rw[h1];rfl];rfl
    | true=>
     cases h2:((b.1.length:Nat):Int)==4 with
     | false=>rw[h1,h2] at hq;rw[hq];refine(aN rfl).trans ?_;refine(aE hb).trans ?_;rw[show(((a.1.length:Nat):Int) != 4)=false by unfold bne;rw[h1];rfl,show(((b.1.length:Nat):Int) != 4)=true by unfold bne;rw[h2];rfl];rfl
     | true=>
      have e1:a.1.length=4:=by have:=eq_of_beq h1;omega
      have e2:b.1.length=4:=by have:=eq_of_beq h2;omega
      rw[h1,h2] at hq;rw[hq];refine(aF rfl).trans ?_;refine(aE (Int.natCast_nonneg _)).trans ?_;refine(aI (show i<a.1.length by omega)).trans ?_;refine(aE (Int.natCast_nonneg _)).trans ?_;refine(aI (show i<b.1.length by omega)).trans ?_
      rw[show(((a.1.length:Nat):Int) != 4)=false by unfold bne;rw[h1];rfl,show(((b.1.length:Nat):Int) != 4)=false by unfold bne;rw[h2];rfl]
      cases h3:(gt a.1 i).1 != (gt b.1 i).1 with
      | true=>refine(aN rfl).trans ?_;refine(aE hb).trans ?_;rfl
      | false=>refine(aF rfl).trans ?_;show rec _=rec _;rw[show(bif false then[((i:Int),())] else bif false then[((i:Int),())] else bif false then[((i:Int),())] else[])=([]:List aZ)from rfl,List.append_nil]
   refine It.run (fun i=>(q,(i:Int),bD i (eO a b))) 4 (fun i hi aA u rec=>?_) (It.stop fun aA u rec=>?_)
   ·show c238_6 (aJ p n) aA a b rec (q,(i:Int),bD i (eO a b))=rec (q,((i+1:Nat):Int),bD (i+1) (eO a b))
    have hb:(bD i (eO a b)).length+1≤bound:=by
     have:=cL (n:=i) (g:=eO a b) (L:=1) (fun j _=>rD a b j)
     unfold bound;omega
    refine(step i hi (bD i (eO a b)) hb aA rec).trans ?_
    rw[cV];rfl
   ·show c238_6 (aJ p n) aA a b rec (q,(4:Int),bD 4 (eO a b))=_
    unfold c238_6;dsimp only;refine(aG (Int.lt_irrefl _)).trans ?_;rfl
  have e:iQ a b=bD 4 (eO a b):=by unfold iQ;rw[h0];rfl
  rw[e]
  cases h1:((a.1.length:Nat):Int)==4 with
  | true=>exact Ev.eq (fun aA=>by unfold T238;refine(aF h0).trans ?_;exact aN h1) ((lp _ (by rw[h1];rfl)).ev (i:=()) rfl)
  | false=>exact Ev.eq (fun aA=>by unfold T238;refine(aF h0).trans ?_;exact aF h1) ((lp _ (by rw[h1];rfl)).ev (i:=()) rfl)
theorem f88(nd:NodeT)(x:Int)(b:Bool)(hv:nd.sess.length≤aS):Ran p 1 88 [.val true ⟨K38,nd⟩, .val false ⟨K3,(x,())⟩, .val false ⟨K4,(b,())⟩] ⟨[⟨K3,(cE nd.sess x b,())⟩],[]⟩:=go88 fun n hn=>by
 have key:∀ {i:Nat} {α:Type} {X R:α},(bif(gt nd.sess i).1==x then(bif l7 (gt nd.sess i).2.2.1 b then X else R)else R)=bif cM nd.sess i x b then X else R:=two
 have lp:It (fun aA (_:Unit)=>c88_2 (aJ p n) aA nd x b) (0:Int) (fun _=>oI (cE nd.sess x b)):=by
  have:=It.first (c:=fun aA (_:Unit)=>c88_2 (aJ p n) aA nd x b) (fun i=>(i:Int)) nd.sess.length (fun i=>cM nd.sess i x b) (fun i _=>oI (i:Int)) (fun _=>oI (-1)) (fun i hi hp aA a rec=>?_) (fun i hi hp=>It.stop fun aA a rec=>?_) (It.stop fun aA a rec=>?_)
  ·revert this;unfold cE
   cases (List.range nd.sess.length).find? (fun i=>cM nd.sess i x b)<;>exact fun h=>h
  ·have hb:=bZ hi hv
   show c88_2 (aJ p n) aA nd x b rec (i:Int)=_
   unfold c88_2;rw[aL hb];refine(aE (Int.ofNat_lt.2 hi)).trans ?_;refine(aE (Int.natCast_nonneg _)).trans ?_;refine(aI hi).trans ?_
   unfold cM at hp
   cases h1:(gt nd.sess i).1==x with
   | false=>exact aF rfl
   | true=>refine(aN rfl).trans ?_;refine(aE (Int.natCast_nonneg _)).trans ?_;refine(aI hi).trans ?_;rw[h1] at hp;exact aF hp
  ·show c88_2 (aJ p n) aA nd x b rec (i:Int)=_
   unfold c88_2;refine(aE (Int.ofNat_lt.2 hi)).trans ?_;refine(aE (Int.natCast_nonneg _)).trans ?_;refine(aI hi).trans ?_
   unfold cM at hp;rw[Bool.and_eq_true] at hp
   refine(aN hp.1).trans ?_;refine(aE (Int.natCast_nonneg _)).trans ?_;refine(aI hi).trans ?_;exact aN hp.2
  ·show c88_2 (aJ p n) aA nd x b rec (nd.sess.length:Int)=_
   unfold c88_2;refine(aG (Int.lt_irrefl _)).trans ?_;rfl
 exact Ev.eq (fun aA=>by unfold T88;rfl) (lp.ev (i:=()) rfl)
theorem f89(x:NodeT)(k to num:Int)(hz:SzN x):Ran p 6 89 [.val true ⟨K38,x⟩, .val false ⟨K3,(k,())⟩, .val false ⟨K3,(to,())⟩, .val false ⟨K3,(num,())⟩] ⟨[⟨K43,F8 x k to num⟩],[]⟩:=go89 fun n hn=>Ev.now fun aA=>by
 unfold T89;refine(aB (f231 x.log hz.list hz.logs n (by omega))).trans ?_;refine(aE (f4 hz.got)).trans ?_;refine(aB (f234 x.state hz.state n (by omega))).trans ?_;rfl
theorem f83(x:NodeT)(k to num:Int)(hz:SzN x):Ran p 6 83 [.val true ⟨K38,x⟩, .val false ⟨K3,(k,())⟩, .val false ⟨K3,(to,())⟩, .val false ⟨K3,(num,())⟩] ⟨[⟨K43,F8 x k to num⟩],[]⟩:=go83 fun n hn=>Ev.now fun aA=>by
 unfold T83;refine(aB (f104 x.log hz.list hz.logs n (by omega))).trans ?_;refine(aB (f98 x.got hz.got n (by omega))).trans ?_;refine(aB (f223 x.state hz.state n (by omega))).trans ?_;rfl
structure Hears (x:NodeT) (m:MsgT):Prop where
 szn:SzN x
 szm:SzM m
 node:NodeOk x
 id:0≤x.1
 vec:x.1.toNat<m.vec.length
theorem f95(x:NodeT)(m:MsgT)(h:Hears x m):Ran p 9 95 [.val true ⟨K38,x⟩, .val true ⟨K43,m⟩] ⟨[⟨K38,eK x m⟩],[]⟩:=go95 fun n hn=>Ev.now fun aA=>by
 unfold T95;refine(aE h.id).trans ?_;refine(aW h.vec).trans ?_;refine(aB (f104 x.log h.szn.list h.szn.logs n (by omega))).trans ?_;refine(aB (f236 x.acked m.2.1 (mxI false (gt m.vec x.1.toNat).1 (bT x.log)) h.szn.acked n (by omega))).trans ?_;refine(aB (f237 x.seen m.2.1 m.marks h.szn.seen h.szn.lines h.szm.marks n (by omega))).trans ?_;refine(bA (f235 (heard0 x m) iA (vO h.szn m) oK (h.node.heard0 m) AY n (by omega))).trans ?_;rfl
theorem f94(x:NodeT)(m:MsgT)(h:Hears x m)(hp:aP m.part=true):Ran p 10 94 [.val true ⟨K38,x⟩, .val true ⟨K43,m⟩] ⟨[⟨K38,fA x m⟩],[]⟩:=go94 fun n hn=>Ev.now fun aA=>by
 have hs:=iH (mO h.szn m) m.part
 unfold T94;refine(aB (f95 x m h n (by omega))).trans ?_;refine(bA (f235 (eK x m) m.part (mO h.szn m) h.szm.part (h.node.heard m) hp n (by omega))).trans ?_;refine(aB (f236 (lD (eK x m) m.part).got m.2.1 m.hi hs.got n (by omega))).trans ?_;rfl
end Go.Abs.Xz
