/- What the functions of this program answer, part rd. -/
import Derived.Test.YtmamlgjbendjhaaGreatXrc
set_option linter.unusedVariables false
namespace Go.Abs.Xz
open Go Go.Abs
theorem f258(a b:jZ):Ran p 1 258 [va K30 a, va K30 b] (rO K28 (gC a b,())):=go258 fun n hn=>by
 cases h0:a.2.1==b.2.1 with
 | true=>exact Ev.now fun aA=>by unfold T258 gC;rw[h0];exact aN rfl
 | false=>
  have lp:It (fun aA (_:Unit)=>c258_5 (aG p n) aA a b) ((0:Int),([]:List bB)) (fun _=>rV K28 (bI 4 (dT a b),())):=by
   refine It.accu (α:=bB) [] (dT a b) 4 1 (fun i _=>nT a b i) (fun i hi acc ha aA u rec=>?_) (It.stop fun aA u rec=>?_)
   ·show c258_5 (aG p n) aA a b rec ((i:Int),acc)=rec (((i+1:Nat):Int),acc++dT a b i)
    have hb:acc.length+1≤bound+(1 - (dT a b i).length):=by simp at ha;unfold bound;omega
    unfold c258_5;dsimp only;rw[aI (show i<9223372036854775807 by omega)];refine(aE (show(i:Int)<4 by omega)).trans ?_
    unfold dT at hb ⊢
    cases h1:(a.1.length:Int) != 4 with
    | true=>refine(aN h1).trans ?_;refine(aE (by rw[h1] at hb;exact hb)).trans ?_;rfl
    | false=>
     refine(aL h1).trans ?_
     cases h2:(b.1.length:Int) != 4 with
     | true=>refine(aN h2).trans ?_;refine(aE (by rw[h1,h2] at hb;exact hb)).trans ?_;rfl
     | false=>
      have e1:a.1.length=4:=by rw[bne_eq_false_iff_eq] at h1;omega
      have e2:b.1.length=4:=by rw[bne_eq_false_iff_eq] at h2;omega
      refine(aL h2).trans ?_;refine bif_nn.trans ?_;refine(aK (show i<a.1.length by omega)).trans ?_;refine bif_nn.trans ?_;refine(aK (show i<b.1.length by omega)).trans ?_
      cases h3:(gt a.1 i).1 != (gt b.1 i).1 with
      | true=>refine(aN rfl).trans ?_;refine(aE (by rw[h1,h2,h3] at hb;exact hb)).trans ?_;rfl
      | false=>refine(aL rfl).trans ?_;show rec _=rec _;rw[show(bif false then[((i:Int),())] else bif false then[((i:Int),())] else bif false then[((i:Int),())] else[])=([]:List bB)from rfl,List.append_nil];rfl
   ·show c258_5 (aG p n) aA a b rec ((4:Int),bI 4 (dT a b))=_
    unfold c258_5;dsimp only;refine(aF (Int.lt_irrefl _)).trans ?_;rfl
  have e:gC a b=bI 4 (dT a b):=by unfold gC;rw[h0];rfl
  rw[e]
  exact Ev.eq (fun aA=>by unfold T258;exact aL h0) (lp.ev (i:=()) rfl)
theorem f238(a b:jZ):Ran p 1 238 [va K30 a, va K30 b] (rO K28 (gC a b,())):=go238 fun n hn=>by
 cases h0:a.2.1==b.2.1 with
 | true=>exact Ev.now fun aA=>by unfold T238 gC;rw[h0];exact aN rfl
 | false=>
  have lp:∀ q:Bool,q=((a.1.length:Int)==4&&(b.1.length:Int)==4)→It (fun aA (_:Unit)=>c238_6 (aG p n) aA a b) (q,(0:Int),([]:List bB)) (fun _=>rV K28 (bI 4 (dT a b),())):=by
   intro q hq
   have step:∀ i:Nat,i<4→∀ acc:List bB,acc.length+1≤bound→∀ aA rec,c238_6 (aG p n) aA a b rec (q,(i:Int),acc)=rec (q,((i+1:Nat):Int),acc++dT a b i):=by
    intro i hi acc hb aA rec
    unfold c238_6;dsimp only;rw[aI (show i<9223372036854775807 by omega)];refine(aE (show(i:Int)<4 by omega)).trans ?_
    unfold dT
    cases h1:(a.1.length:Int)==4 with
    | false=>
     rw[h1] at hq;rw[hq];refine(aN rfl).trans ?_;refine(aE hb).trans ?_;rw[show((a.1.length:Int) != 4)=true by unfold bne;rw[h1];rfl];rfl
    | true=>
     cases h2:(b.1.length:Int)==4 with
     | false=>rw[h1,h2] at hq;rw[hq];refine(aN rfl).trans ?_;refine(aE hb).trans ?_;rw[show((a.1.length:Int) != 4)=false by unfold bne;rw[h1];rfl,show((b.1.length:Int) != 4)=true by unfold bne;rw[h2];rfl];rfl
     | true=>
      have e1:a.1.length=4:=by have:=eq_of_beq h1;omega
      have e2:b.1.length=4:=by have:=eq_of_beq h2;omega
      rw[h1,h2] at hq;rw[hq];refine(aL rfl).trans ?_;refine bif_nn.trans ?_;refine(aK (show i<a.1.length by omega)).trans ?_;refine bif_nn.trans ?_;refine(aK (show i<b.1.length by omega)).trans ?_
      rw[show((a.1.length:Int) != 4)=false by unfold bne;rw[h1];rfl,show((b.1.length:Int) != 4)=false by unfold bne;rw[h2];rfl]
      cases h3:(gt a.1 i).1 != (gt b.1 i).1 with
      | true=>refine(aN rfl).trans ?_;refine(aE hb).trans ?_;rfl
      | false=>refine(aL rfl).trans ?_;show rec _=rec _;rw[show(bif false then[((i:Int),())] else bif false then[((i:Int),())] else bif false then[((i:Int),())] else[])=([]:List bB)from rfl,List.append_nil]
   refine It.run (fun i=>(q,(i:Int),bI i (dT a b))) 4 (fun i hi aA u rec=>?_) (It.stop fun aA u rec=>?_)
   ·show c238_6 (aG p n) aA a b rec (q,(i:Int),bI i (dT a b))=rec (q,((i+1:Nat):Int),bI (i+1) (dT a b))
    have hb:(bI i (dT a b)).length+1≤bound:=by
     have:=c8 (n:=i) (g:=dT a b) (L:=1) (fun j _=>nT a b j)
     unfold bound;omega
    refine(step i hi (bI i (dT a b)) hb aA rec).trans ?_
    rw[dQ];rfl
   ·show c238_6 (aG p n) aA a b rec (q,(4:Int),bI 4 (dT a b))=_
    unfold c238_6;dsimp only;refine(aF (Int.lt_irrefl _)).trans ?_;rfl
  have e:gC a b=bI 4 (dT a b):=by unfold gC;rw[h0];rfl
  rw[e]
  cases h1:(a.1.length:Int)==4 with
  | true=>exact Ev.eq (fun aA=>by unfold T238;refine(aL h0).trans ?_;exact aN h1) ((lp _ (by rw[h1];rfl)).ev (i:=()) rfl)
  | false=>exact Ev.eq (fun aA=>by unfold T238;refine(aL h0).trans ?_;exact aL h1) ((lp _ (by rw[h1];rfl)).ev (i:=()) rfl)
theorem f88(nd:NodeT)(x:Int)(b:Bool)(hv:nd.sess.length≤aX):Ran p 1 88 [va K38 nd, vf K3 (x,()), vf K4 (b,())] (rO K3 (cP nd.sess x b,())):=go88 fun n hn=>by
 have key:∀ {i:Nat} {α:Type} {X R:α},(bif(gt nd.sess i).1==x then(bif oQ (gt nd.sess i).2.2.1 b then X else R)else R)=bif dC nd.sess i x b then X else R:=two
 have lp:It (fun aA (_:Unit)=>c88_2 (aG p n) aA nd x b) (0:Int) (fun _=>oI (cP nd.sess x b)):=by
  have:=It.first (c:=fun aA (_:Unit)=>c88_2 (aG p n) aA nd x b) (fun i=>(i:Int)) nd.sess.length (fun i=>dC nd.sess i x b) (fun i _=>oI (i:Int)) (fun _=>oI (-1)) (fun i hi hp aA a rec=>?_) (fun i hi hp=>It.stop fun aA a rec=>?_) (It.stop fun aA a rec=>?_)
  ·revert this;unfold cP
   cases (List.range nd.sess.length).find? (fun i=>dC nd.sess i x b)<;>exact fun h=>h
  ·have hb:=cN hi hv
   show c88_2 (aG p n) aA nd x b rec (i:Int)=_
   unfold c88_2;rw[aI hb];refine(aE (Int.ofNat_lt.2 hi)).trans ?_;refine bif_nn.trans ?_;refine(aK hi).trans ?_
   unfold dC at hp
   cases h1:(gt nd.sess i).1==x with
   | false=>exact aL rfl
   | true=>refine(aN rfl).trans ?_;refine bif_nn.trans ?_;refine(aK hi).trans ?_;rw[h1] at hp;exact aL hp
  ·show c88_2 (aG p n) aA nd x b rec (i:Int)=_
   unfold c88_2;refine(aE (Int.ofNat_lt.2 hi)).trans ?_;refine bif_nn.trans ?_;refine(aK hi).trans ?_
   unfold dC at hp;rw[Bool.and_eq_true] at hp
   refine(aN hp.1).trans ?_;refine bif_nn.trans ?_;refine(aK hi).trans ?_;exact aN hp.2
  ·show c88_2 (aG p n) aA nd x b rec (nd.sess.length:Int)=_
   unfold c88_2;refine(aF (Int.lt_irrefl _)).trans ?_;rfl
 exact Ev.eq (fun aA=>by unfold T88;rfl) (lp.ev (i:=()) rfl)
theorem f89(x:NodeT)(k to num:Int)(hz:SzN x):Ran p 6 89 [va K38 x, vf K3 (k,()), vf K3 (to,()), vf K3 (num,())] (rO K43 (GB x k to num)):=go89 fun n hn=>Ev.now fun aA=>by
 unfold T89;refine(aC (f231 x.log hz.list hz.logs n (by omega))).trans ?_;refine(aE (fY hz.got)).trans ?_;refine(aC (f234 x.state hz.state n (by omega))).trans ?_;rfl
theorem f83(x:NodeT)(k to num:Int)(hz:SzN x):Ran p 6 83 [va K38 x, vf K3 (k,()), vf K3 (to,()), vf K3 (num,())] (rO K43 (GB x k to num)):=go83 fun n hn=>Ev.now fun aA=>by
 unfold T83;refine(aC (f104 x.log hz.list hz.logs n (by omega))).trans ?_;refine(aC (f98 x.got hz.got n (by omega))).trans ?_;refine(aC (f223 x.state hz.state n (by omega))).trans ?_;rfl
structure Hears (x:NodeT) (m:MsgT):Prop where
 szn:SzN x
 szm:SzM m
 node:NodeOk x
 id:0≤x.1
 vec:x.1.toNat<m.vec.length
theorem f115(x:NodeT)(m:MsgT)(h:Hears x m):Ran p 8 115 [va K38 x, va K43 m] (rO K38 (cK x m)):=go115 fun n hn=>Ev.now fun aA=>by
 unfold T115;refine(aC (f85 x h.szn n (by omega))).trans ?_;refine(aE h.id).trans ?_;refine(aR h.vec).trans ?_;refine(aC (f231 x.log h.szn.list h.szn.logs n (by omega))).trans ?_;refine(aC (f256 (gt m.vec x.1.toNat).1 (dU x.log) n (by omega))).trans ?_;refine(aC (f255 x.acked m.2.1 (mxI false (gt m.vec x.1.toNat).1 (dU x.log)) h.szn.acked n (by omega))).trans ?_;refine(aC (f257 x.seen m.2.1 m.marks h.szn.seen h.szn.lines h.szm.marks n (by omega))).trans ?_;refine(aC (f254 (heard0 x m) tW (rQ h.szn m) oD (BQ (h.node.heard0 m)) uJ n (by omega))).trans ?_;rfl
theorem f95(x:NodeT)(m:MsgT)(h:Hears x m):Ran p 9 95 [va K38 x, va K43 m] (rO K38 (cK x m)):=go95 fun n hn=>Ev.now fun aA=>by
 unfold T95;refine(aE h.id).trans ?_;refine(aR h.vec).trans ?_;refine(aC (f104 x.log h.szn.list h.szn.logs n (by omega))).trans ?_;refine(aC (f236 x.acked m.2.1 (mxI false (gt m.vec x.1.toNat).1 (dU x.log)) h.szn.acked n (by omega))).trans ?_;refine(aC (f237 x.seen m.2.1 m.marks h.szn.seen h.szn.lines h.szm.marks n (by omega))).trans ?_;refine(cR (f235 (heard0 x m) tW (rQ h.szn m) oD (h.node.heard0 m) uJ n (by omega))).trans ?_;rfl
theorem f114(x:NodeT)(m:MsgT)(h:Hears x m)(hp:bA m.part=true):Ran p 9 114 [va K38 x, va K43 m] (rO K38 (c7 x m)):=go114 fun n hn=>Ev.now fun aA=>by
 have hs:=lG (gI h.szn m) m.part
 unfold T114;refine(aC (f115 x m h n (by omega))).trans ?_;refine(aC (f254 (cK x m) m.part (gI h.szn m) h.szm.part (BQ (h.node.heard m)) hp n (by omega))).trans ?_;refine(aC (f255 (m7 (cK x m) m.part).got m.2.1 m.hi hs.got n (by omega))).trans ?_;rfl
theorem f94(x:NodeT)(m:MsgT)(h:Hears x m)(hp:bA m.part=true):Ran p 10 94 [va K38 x, va K43 m] (rO K38 (c7 x m)):=go94 fun n hn=>Ev.now fun aA=>by
 have hs:=lG (gI h.szn m) m.part
 unfold T94;refine(aC (f95 x m h n (by omega))).trans ?_;refine(cR (f235 (cK x m) m.part (gI h.szn m) h.szm.part (h.node.heard m) hp n (by omega))).trans ?_;refine(aC (f236 (m7 (cK x m) m.part).got m.2.1 m.hi hs.got n (by omega))).trans ?_;rfl
end Go.Abs.Xz
