/- What the functions of this program answer, part rd. -/
import Derived.Test.YtmamlgjbendjhaaGreatXrc
set_option linter.unusedVariables false
namespace Go.Abs.Xz
open Go Go.Abs
theorem f258(a b:iP):Ran p 1 258 [.val true ⟨K30,a⟩, .val true ⟨K30,b⟩] ⟨[⟨K28,(eT a b,())⟩],[]⟩:=go258 fun n hn=>by
 cases h0:a.2.1==b.2.1 with
 | true=>exact Ev.now fun aA=>by unfold T258 eT;rw[h0];exact aN rfl
 | false=>
  have lp:It (fun aA (_:Unit)=>c258_5 (aK p n) aA a b) ((0:Int),([]:List aX)) (fun _=>some ⟨[⟨K28,(bH 4 (dE a b),())⟩],[]⟩):=by
   refine It.accu (α:=aX) [] (dE a b) 4 1 (fun i _=>kP a b i) (fun i hi acc ha aA u rec=>?_) (It.stop fun aA u rec=>?_)
   ·show c258_5 (aK p n) aA a b rec ((i:Int),acc)=rec (((i+1:Nat):Int),acc++dE a b i)
    have hb:acc.length+1≤bound+(1 - (dE a b i).length):=by simp at ha;unfold bound;omega
    unfold c258_5;dsimp only;rw[aL (show i<9223372036854775807 by omega)];refine(aE (show(i:Int)<4 by omega)).trans ?_
    unfold dE at hb ⊢
    cases h1:((a.1.length:Nat):Int) != 4 with
    | true=>refine(aN h1).trans ?_;refine(aE (by rw[h1] at hb;exact hb)).trans ?_;rfl
    | false=>
     refine(aF h1).trans ?_
     cases h2:((b.1.length:Nat):Int) != 4 with
     | true=>refine(aN h2).trans ?_;refine(aE (by rw[h1,h2] at hb;exact hb)).trans ?_;rfl
     | false=>
      have e1:a.1.length=4:=by rw[bne_eq_false_iff_eq] at h1;omega
      have e2:b.1.length=4:=by rw[bne_eq_false_iff_eq] at h2;omega
      refine(aF h2).trans ?_;refine bif_nn.trans ?_;refine(aJ (show i<a.1.length by omega)).trans ?_;refine bif_nn.trans ?_;refine(aJ (show i<b.1.length by omega)).trans ?_
      cases h3:(gt a.1 i).1 != (gt b.1 i).1 with
      | true=>refine(aN rfl).trans ?_;refine(aE (by rw[h1,h2,h3] at hb;exact hb)).trans ?_;rfl
      | false=>refine(aF rfl).trans ?_;show rec _=rec _;rw[show(bif false then[((i:Int),())] else bif false then[((i:Int),())] else bif false then[((i:Int),())] else[])=([]:List aX)from rfl,List.append_nil];rfl
   ·show c258_5 (aK p n) aA a b rec ((4:Int),bH 4 (dE a b))=_
    unfold c258_5;dsimp only;refine(aI (Int.lt_irrefl _)).trans ?_;rfl
  have e:eT a b=bH 4 (dE a b):=by unfold eT;rw[h0];rfl
  rw[e]
  exact Ev.eq (fun aA=>by unfold T258;exact aF h0) (lp.ev (i:=()) rfl)
theorem f238(a b:iP):Ran p 1 238 [.val true ⟨K30,a⟩, .val true ⟨K30,b⟩] ⟨[⟨K28,(eT a b,())⟩],[]⟩:=go238 fun n hn=>by
 cases h0:a.2.1==b.2.1 with
 | true=>exact Ev.now fun aA=>by unfold T238 eT;rw[h0];exact aN rfl
 | false=>
  have lp:∀ q:Bool,q=(((a.1.length:Nat):Int)==4&&((b.1.length:Nat):Int)==4)→It (fun aA (_:Unit)=>c238_6 (aK p n) aA a b) (q,(0:Int),([]:List aX)) (fun _=>some ⟨[⟨K28,(bH 4 (dE a b),())⟩],[]⟩):=by
   intro q hq
   have step:∀ i:Nat,i<4→∀ acc:List aX,acc.length+1≤bound→∀ aA rec,c238_6 (aK p n) aA a b rec (q,(i:Int),acc)=rec (q,((i+1:Nat):Int),acc++dE a b i):=by
    intro i hi acc hb aA rec
    unfold c238_6;dsimp only;rw[aL (show i<9223372036854775807 by omega)];refine(aE (show(i:Int)<4 by omega)).trans ?_
    unfold dE
    cases h1:((a.1.length:Nat):Int)==4 with
    | false=>
     rw[h1] at hq;rw[hq];refine(aN rfl).trans ?_;refine(aE hb).trans ?_;rw[show(((a.1.length:Nat):Int) != 4)=true by unfold bne;rw[h1];rfl];rfl
    | true=>
     cases h2:((b.1.length:Nat):Int)==4 with
     | false=>rw[h1,h2] at hq;rw[hq];refine(aN rfl).trans ?_;refine(aE hb).trans ?_;rw[show(((a.1.length:Nat):Int) != 4)=false by unfold bne;rw[h1];rfl,show(((b.1.length:Nat):Int) != 4)=true by unfold bne;rw[h2];rfl];rfl
     | true=>
      have e1:a.1.length=4:=by have:=eq_of_beq h1;omega
      have e2:b.1.length=4:=by have:=eq_of_beq h2;omega
      rw[h1,h2] at hq;rw[hq];refine(aF rfl).trans ?_;refine bif_nn.trans ?_;refine(aJ (show i<a.1.length by omega)).trans ?_;refine bif_nn.trans ?_;refine(aJ (show i<b.1.length by omega)).trans ?_
      rw[show(((a.1.length:Nat):Int) != 4)=false by unfold bne;rw[h1];rfl,show(((b.1.length:Nat):Int) != 4)=false by unfold bne;rw[h2];rfl]
      cases h3:(gt a.1 i).1 != (gt b.1 i).1 with
      | true=>refine(aN rfl).trans ?_;refine(aE hb).trans ?_;rfl
      | false=>refine(aF rfl).trans ?_;show rec _=rec _;rw[show(bif false then[((i:Int),())] else bif false then[((i:Int),())] else bif false then[((i:Int),())] else[])=([]:List aX)from rfl,List.append_nil]
   refine It.run (fun i=>(q,(i:Int),bH i (dE a b))) 4 (fun i hi aA u rec=>?_) (It.stop fun aA u rec=>?_)
   ·show c238_6 (aK p n) aA a b rec (q,(i:Int),bH i (dE a b))=rec (q,((i+1:Nat):Int),bH (i+1) (dE a b))
    have hb:(bH i (dE a b)).length+1≤bound:=by
     have:=cZ (n:=i) (g:=dE a b) (L:=1) (fun j _=>kP a b j)
     unfold bound;omega
    refine(step i hi (bH i (dE a b)) hb aA rec).trans ?_
    rw[cY];rfl
   ·show c238_6 (aK p n) aA a b rec (q,(4:Int),bH 4 (dE a b))=_
    unfold c238_6;dsimp only;refine(aI (Int.lt_irrefl _)).trans ?_;rfl
  have e:eT a b=bH 4 (dE a b):=by unfold eT;rw[h0];rfl
  rw[e]
  cases h1:((a.1.length:Nat):Int)==4 with
  | true=>exact Ev.eq (fun aA=>by unfold T238;refine(aF h0).trans ?_;exact aN h1) ((lp _ (by rw[h1];rfl)).ev (i:=()) rfl)
  | false=>exact Ev.eq (fun aA=>by unfold T238;refine(aF h0).trans ?_;exact aF h1) ((lp _ (by rw[h1];rfl)).ev (i:=()) rfl)
theorem f88(nd:NodeT)(x:Int)(b:Bool)(hv:nd.sess.length≤aU):Ran p 1 88 [.val true ⟨K38,nd⟩, .val false ⟨K3,(x,())⟩, .val false ⟨K4,(b,())⟩] ⟨[⟨K3,(bW nd.sess x b,())⟩],[]⟩:=go88 fun n hn=>by
 have key:∀ {i:Nat} {α:Type} {X R:α},(bif(gt nd.sess i).1==x then(bif oX (gt nd.sess i).2.2.1 b then X else R)else R)=bif dC nd.sess i x b then X else R:=two
 have lp:It (fun aA (_:Unit)=>c88_2 (aK p n) aA nd x b) (0:Int) (fun _=>oI (bW nd.sess x b)):=by
  have:=It.first (c:=fun aA (_:Unit)=>c88_2 (aK p n) aA nd x b) (fun i=>(i:Int)) nd.sess.length (fun i=>dC nd.sess i x b) (fun i _=>oI (i:Int)) (fun _=>oI (-1)) (fun i hi hp aA a rec=>?_) (fun i hi hp=>It.stop fun aA a rec=>?_) (It.stop fun aA a rec=>?_)
  ·revert this;unfold bW
   cases (List.range nd.sess.length).find? (fun i=>dC nd.sess i x b)<;>exact fun h=>h
  ·have hb:=cL hi hv
   show c88_2 (aK p n) aA nd x b rec (i:Int)=_
   unfold c88_2;rw[aL hb];refine(aE (Int.ofNat_lt.2 hi)).trans ?_;refine bif_nn.trans ?_;refine(aJ hi).trans ?_
   unfold dC at hp
   cases h1:(gt nd.sess i).1==x with
   | false=>exact aF rfl
   | true=>refine(aN rfl).trans ?_;refine bif_nn.trans ?_;refine(aJ hi).trans ?_;rw[h1] at hp;exact aF hp
  ·show c88_2 (aK p n) aA nd x b rec (i:Int)=_
   unfold c88_2;refine(aE (Int.ofNat_lt.2 hi)).trans ?_;refine bif_nn.trans ?_;refine(aJ hi).trans ?_
   unfold dC at hp;rw[Bool.and_eq_true] at hp
   refine(aN hp.1).trans ?_;refine bif_nn.trans ?_;refine(aJ hi).trans ?_;exact aN hp.2
  ·show c88_2 (aK p n) aA nd x b rec (nd.sess.length:Int)=_
   unfold c88_2;refine(aI (Int.lt_irrefl _)).trans ?_;rfl
 exact Ev.eq (fun aA=>by unfold T88;rfl) (lp.ev (i:=()) rfl)
theorem f89(x:NodeT)(k to num:Int)(hz:SzN x):Ran p 6 89 [.val true ⟨K38,x⟩, .val false ⟨K3,(k,())⟩, .val false ⟨K3,(to,())⟩, .val false ⟨K3,(num,())⟩] ⟨[⟨K43,BC x k to num⟩],[]⟩:=go89 fun n hn=>Ev.now fun aA=>by
 unfold T89;refine(aB (f231 x.log hz.list hz.logs n (by omega))).trans ?_;refine(aE (gJ hz.got)).trans ?_;refine(aB (f234 x.state hz.state n (by omega))).trans ?_;rfl
theorem f83(x:NodeT)(k to num:Int)(hz:SzN x):Ran p 6 83 [.val true ⟨K38,x⟩, .val false ⟨K3,(k,())⟩, .val false ⟨K3,(to,())⟩, .val false ⟨K3,(num,())⟩] ⟨[⟨K43,BC x k to num⟩],[]⟩:=go83 fun n hn=>Ev.now fun aA=>by
 unfold T83;refine(aB (f104 x.log hz.list hz.logs n (by omega))).trans ?_;refine(aB (f98 x.got hz.got n (by omega))).trans ?_;refine(aB (f223 x.state hz.state n (by omega))).trans ?_;rfl
structure Hears (x:NodeT) (m:MsgT):Prop where
 szn:SzN x
 szm:SzM m
 node:NodeOk x
 id:0≤x.1
 vec:x.1.toNat<m.vec.length
theorem f115(x:NodeT)(m:MsgT)(h:Hears x m):Ran p 8 115 [.val true ⟨K38,x⟩, .val true ⟨K43,m⟩] ⟨[⟨K38,bP x m⟩],[]⟩:=go115 fun n hn=>Ev.now fun aA=>by
 unfold T115;refine(aB (f85 x h.szn n (by omega))).trans ?_;refine(aE h.id).trans ?_;refine(aZ h.vec).trans ?_;refine(aB (f231 x.log h.szn.list h.szn.logs n (by omega))).trans ?_;refine(aB (f256 (gt m.vec x.1.toNat).1 (cA x.log) n (by omega))).trans ?_;refine(aB (f255 x.acked m.2.1 (mxI false (gt m.vec x.1.toNat).1 (cA x.log)) h.szn.acked n (by omega))).trans ?_;refine(aB (f257 x.seen m.2.1 m.marks h.szn.seen h.szn.lines h.szm.marks n (by omega))).trans ?_;refine(aB (f254 (heard0 x m) iA (oQ h.szn m) oK (uW (h.node.heard0 m)) oM n (by omega))).trans ?_;rfl
theorem f95(x:NodeT)(m:MsgT)(h:Hears x m):Ran p 9 95 [.val true ⟨K38,x⟩, .val true ⟨K43,m⟩] ⟨[⟨K38,bP x m⟩],[]⟩:=go95 fun n hn=>Ev.now fun aA=>by
 unfold T95;refine(aE h.id).trans ?_;refine(aZ h.vec).trans ?_;refine(aB (f104 x.log h.szn.list h.szn.logs n (by omega))).trans ?_;refine(aB (f236 x.acked m.2.1 (mxI false (gt m.vec x.1.toNat).1 (cA x.log)) h.szn.acked n (by omega))).trans ?_;refine(aB (f237 x.seen m.2.1 m.marks h.szn.seen h.szn.lines h.szm.marks n (by omega))).trans ?_;refine(bD (f235 (heard0 x m) iA (oQ h.szn m) oK (h.node.heard0 m) oM n (by omega))).trans ?_;rfl
theorem f114(x:NodeT)(m:MsgT)(h:Hears x m)(hp:aO m.part=true):Ran p 9 114 [.val true ⟨K38,x⟩, .val true ⟨K43,m⟩] ⟨[⟨K38,bF x m⟩],[]⟩:=go114 fun n hn=>Ev.now fun aA=>by
 have hs:=jC (fP h.szn m) m.part
 unfold T114;refine(aB (f115 x m h n (by omega))).trans ?_;refine(aB (f254 (bP x m) m.part (fP h.szn m) h.szm.part (uW (h.node.heard m)) hp n (by omega))).trans ?_;refine(aB (f255 (fI (bP x m) m.part).got m.2.1 m.hi hs.got n (by omega))).trans ?_;rfl
theorem f94(x:NodeT)(m:MsgT)(h:Hears x m)(hp:aO m.part=true):Ran p 10 94 [.val true ⟨K38,x⟩, .val true ⟨K43,m⟩] ⟨[⟨K38,bF x m⟩],[]⟩:=go94 fun n hn=>Ev.now fun aA=>by
 have hs:=jC (fP h.szn m) m.part
 unfold T94;refine(aB (f95 x m h n (by omega))).trans ?_;refine(bD (f235 (bP x m) m.part (fP h.szn m) h.szm.part (h.node.heard m) hp n (by omega))).trans ?_;refine(aB (f236 (fI (bP x m) m.part).got m.2.1 m.hi hs.got n (by omega))).trans ?_;rfl
end Go.Abs.Xz
