/- What the functions of this program answer, part rg. -/
import Derived.Test.YtmamlgjbendjhaaGreatXrf
set_option linter.unusedVariables false
set_option maxHeartbeats 2000000
namespace Go.Abs.Xz
open Go Go.Abs
theorem D4{a b c:Int}(h:(a==b)=true)(hc:b≠c):(a==c)=false:=by
 have:=eq_of_beq h;subst this;simpa using hc
theorem f22(x:NodeT)(m:MsgT)(hz:SzN x)(hm:SzM m):Ran p 11 22 [.val true ⟨K38,x⟩, .val true ⟨K43,m⟩] (zK (eK x m)):=go22 fun n hn=>Ev.now fun aA=>by
 have bad:dM x m=false→(some ⟨[⟨K38,x⟩,⟨K49,(([]:List MsgT),())⟩,⟨K3,((1:Int),())⟩],[]⟩:Option Out)=some (zK (eK x m)):=fun h=>by rw[zJ h];rfl
 unfold T22;refine(aB (f81 x hz n (by omega))).trans ?_;refine(aB (f23 x hz n (by omega))).trans ?_
 cases g1:eF x with
 | false=>refine(aN rfl).trans ?_;exact bad (by unfold dM;rw[g1];rfl)
 | true=>
 refine(aF rfl).trans ?_;refine(aB (f30 m hm n (by omega))).trans ?_
 cases g2:iH m with
 | false=>refine(aN rfl).trans ?_;exact bad (by unfold dM;rw[g1,g2];rfl)
 | true=>
 refine(aF rfl).trans ?_
 cases g3:m.2.2.1==x.1 with
 | false=>refine(aN (show(m.2.2.1 != x.1)=true by unfold bne;rw[g3];rfl)).trans ?_;exact bad (by unfold dM;rw[g1,g2,g3];rfl)
 | true=>
 refine(aF (show(m.2.2.1 != x.1)=false by unfold bne;rw[g3];rfl)).trans ?_
 by_cases g4:m.2.1≥x.2.1
 ·refine(aE g4).trans ?_;exact bad (by unfold dM;rw[g1,g2,g3,decide_eq_true g4];rfl)
 refine(aI g4).trans ?_
 cases g5:((m.vec.length:Nat):Int)==x.2.1 with
 | false=>refine(aN (show(((m.vec.length:Nat):Int) != x.2.1)=true by unfold bne;rw[g5];rfl)).trans ?_;exact bad (by unfold dM;rw[g1,g2,g3,decide_eq_false g4,g5];rfl)
 | true=>
 refine(aF (show(((m.vec.length:Nat):Int) != x.2.1)=false by unfold bne;rw[g5];rfl)).trans ?_
 have ok:dM x m=true:=by unfold dM;rw[g1,g2,g3,decide_eq_false g4,g5];rfl
 have R:=iE ok
 have H:=Hears.of hz hm R
 have hv:=H.vec
 rw[qN ok]
 cases k0:m.1==0 with
 | true=>
  have hz2:=hI hz m
  (first | refine(aN k0).trans ?_ | refine(aN rfl).trans ?_);refine(aB (f94 x m H R.part n (by omega))).trans ?_;refine(aB (f83 (bF x m) 1 m.2.1 m.2.2.2.1 hz2 n (by omega))).trans ?_;unfold dS;rw[k0];rfl
 | false=>
 (first | refine(aF k0).trans ?_ | refine(aF rfl).trans ?_)
 cases k1:m.1==1 with
 | true=>(first | refine(aN k1).trans ?_ | refine(aN rfl).trans ?_);refine(aB (f95 x m H n (by omega))).trans ?_;unfold dS;rw[k0,k1];rfl
 | false=>
 (first | refine(aF k1).trans ?_ | refine(aF rfl).trans ?_)
 cases k2:m.1==2 with
 | true=>
  have e0:dS x m=cF x m:=by unfold dS;rw[k0,k1,k2];rfl
  rw[e0]
  have go:dP x m=false→∀ {y:NodeT},withS x (dU x m)=y→Hears y m∧NodeOk (bP y m)∧SzN (bP y m)∧cF x m=(bP y m,[pL (bP y m) x m],0):=by
   intro hf y e
   have hr:=R.syn hf
   have hs:=lB hz (kK R.node m)
   rw[e] at hr hs
   refine⟨Hears.of hs hm hr,hr.node.heard m,fP hs m,?_⟩
   unfold cF jN;rw[hf,e];rfl
  (first | refine(aN k2).trans ?_ | refine(aN rfl).trans ?_);refine(aB (f21 x m.2.1 true hz.sess n (by omega))).trans ?_
  rcases dB x.sess m.2.1 true with ⟨k,hk,e,_⟩ | ⟨e,_⟩
  ·obtain⟨hf,hs⟩:=L4 e
   have hk2:k<(x.sess.set k ((gt x.sess k).1,m.2.2.2.1,(gt x.sess k).2.2)).length:=by rw[List.length_set];exact hk
   obtain⟨hh,ho,hz2,he⟩:=go hf (y:=withS x ((x.sess.set k ((gt x.sess k).1,m.2.2.2.1,(gt x.sess k).2.2)).set k ((gt (x.sess.set k ((gt x.sess k).1,m.2.2.2.1,(gt x.sess k).2.2)) k).1,(gt (x.sess.set k ((gt x.sess k).1,m.2.2.2.1,(gt x.sess k).2.2)) k).2.1,(gt (x.sess.set k ((gt x.sess k).1,m.2.2.2.1,(gt x.sess k).2.2)) k).2.2.1,(0:Int),(gt (x.sess.set k ((gt x.sess k).1,m.2.2.2.1,(gt x.sess k).2.2)) k).2.2.2.2))) (by rw[hs,EC hk])
   rw[he,e];refine bif_nn.trans ?_;refine bif_nn.trans ?_;refine(aJ hk).trans ?_;refine(aJ hk).trans ?_;refine bif_nn.trans ?_;refine(aJ hk2).trans ?_;refine(aJ hk2).trans ?_
   refine(aB (f95 _ m hh n (by omega))).trans ?_;refine(aB (f83 _ 3 m.2.1 m.2.2.2.1 hz2 n (by omega))).trans ?_;refine(aB (f84 (bP _ m).tree hz2.leaves n (by omega))).trans ?_;refine(aB (f238 (bP _ m).tree m.tree n (by omega))).trans ?_;refine(aB (f99 _ (eT (bP _ m).tree m.tree) m hz2 ho (Nat.le_trans (kA _ _) (by decide)) R.idn.1 hv n (by omega))).trans ?_;rfl
  ·obtain⟨hf,hs⟩:=L3 e
   have hle:=((cP x).1 R.node.sess).1
   rw[e];refine(aF rfl).trans ?_
   by_cases hl:((x.sess.length:Nat):Int)≥x.slots
   ·refine(aE hl).trans ?_
    rw[show(((x.sess.length:Nat):Int)==x.slots)=true from by rw[beq_iff_eq];omega] at hf
    refine(aB (f83 x 5 m.2.1 m.2.2.2.1 hz n (by omega))).trans ?_;unfold cF;rw[hf];rfl
   ·rw[show(((x.sess.length:Nat):Int)==x.slots)=false from by rw[beq_eq_false_iff_ne];omega] at hf
    obtain⟨hh,ho,hz2,he⟩:=go hf (y:=withS x (iO x m)) (by rw[hs])
    have hb:x.sess.length+1≤bound:=by have:=hz.sess;unfold aU at this;unfold bound;omega
    rw[he];refine(aI hl).trans ?_;refine(aE hb).trans ?_
    refine(aB (f95 (withS x (iO x m)) m hh n (by omega))).trans ?_;refine(aB (f83 _ 3 m.2.1 m.2.2.2.1 hz2 n (by omega))).trans ?_;refine(aB (f84 (bP _ m).tree hz2.leaves n (by omega))).trans ?_;refine(aB (f238 (bP _ m).tree m.tree n (by omega))).trans ?_;refine(aB (f99 _ (eT (bP _ m).tree m.tree) m hz2 ho (Nat.le_trans (kA _ _) (by decide)) R.idn.1 hv n (by omega))).trans ?_;rfl
 | false=>
 (first | refine(aF k2).trans ?_ | refine(aF rfl).trans ?_)
 have R2:∀ k:Nat,k<x.sess.length→RecOk (withS x (xE x (k:Int))) m∧SzN (withS x (xE x (k:Int)))∧withS x (xE x (k:Int))=gI x k:=fun k hk=>by
  rw[AV hk hz.sess];exact⟨R.gone k,wC hz k,rfl⟩
 cases k3:m.1==3 with
 | true=>
  have k4:(m.1==4)=false:=D4 k3 (by decide)
  have k5:(m.1==5)=false:=D4 k3 (by decide)
  (first | refine(aN k3).trans ?_ | refine(aN rfl).trans ?_);refine(aB (f21 x m.2.1 false hz.sess n (by omega))).trans ?_
  rcases mM x m false with ⟨hf,e | ⟨k,hk,e,hn2⟩⟩ | ⟨k,hk,e,hn2,hf⟩<;>rw[e]
  ·refine(aN rfl).trans ?_;rw[iX k0 k1 k2 k4 hf];rfl
  ·rw[iX k0 k1 k2 k4 hf];refine(aI (show ¬ (k:Int)<0 by omega)).trans ?_;refine bif_nn.trans ?_;refine(aJ hk).trans ?_;refine(aJ hk).trans ?_;refine(aN hn2).trans ?_;rfl
  ·rw[qO k0 k1 k2 k4 hf];refine(aI (show ¬ (k:Int)<0 by omega)).trans ?_;refine bif_nn.trans ?_;refine(aJ hk).trans ?_;refine(aJ hk).trans ?_;refine(aF hn2).trans ?_
   obtain⟨Rg,hg,eg⟩:=R2 k hk
   have hz2:=hI hg m
   refine(rK hk hz.sess).trans ?_;refine(aB (f94 (withS x (xE x (k:Int))) m (Hears.of hg hm Rg) R.part n (by omega))).trans ?_;refine(aB (f83 (bF (withS x (xE x (k:Int))) m) 4 m.2.1 m.2.2.2.1 hz2 n (by omega))).trans ?_;refine(aB (f98 m.leaves hm.list n (by omega))).trans ?_
   refine(aB (f99 (bF (withS x (xE x (k:Int))) m) m.leaves m hz2 Rg.brought hm.list R.idn.1 hv n (by omega))).trans ?_;unfold cX;rw[k5,k4,← eg];rfl
 | false=>
 (first | refine(aF k3).trans ?_ | refine(aF rfl).trans ?_)
 cases k4:m.1==4 with
 | true=>
  have k5:(m.1==5)=false:=D4 k4 (by decide)
  (first | refine(aN k4).trans ?_ | refine(aN rfl).trans ?_);refine(aB (f21 x m.2.1 true hz.sess n (by omega))).trans ?_
  rcases mM x m true with ⟨hf,e | ⟨k,hk,e,hn2⟩⟩ | ⟨k,hk,e,hn2,hf⟩<;>rw[e]
  ·refine(aN rfl).trans ?_;rw[iX k0 k1 k2 k4 hf];rfl
  ·rw[iX k0 k1 k2 k4 hf];refine(aI (show ¬ (k:Int)<0 by omega)).trans ?_;refine bif_nn.trans ?_;refine(aJ hk).trans ?_;refine(aJ hk).trans ?_;refine(aN hn2).trans ?_;rfl
  ·rw[qO k0 k1 k2 k4 hf];refine(aI (show ¬ (k:Int)<0 by omega)).trans ?_;refine bif_nn.trans ?_;refine(aJ hk).trans ?_;refine(aJ hk).trans ?_;refine(aF hn2).trans ?_
   obtain⟨Rg,hg,eg⟩:=R2 k hk
   refine(rK hk hz.sess).trans ?_;refine(aB (f94 (withS x (xE x (k:Int))) m (Hears.of hg hm Rg) R.part n (by omega))).trans ?_;unfold cX;rw[k5,k4,← eg];rfl
 | false=>
  have k5:(m.1==5)=true:=by
   have h2:=R.msg
   unfold iH l7 at h2
   simp only[Bool.and_eq_true,aS] at h2
   have h3:=h2.1.1
   rw[beq_eq_false_iff_ne] at k0 k1 k2 k3 k4
   rw[beq_iff_eq];omega
  (first | refine(aF k4).trans ?_ | refine(aF rfl).trans ?_);refine(aB (f21 x m.2.1 false hz.sess n (by omega))).trans ?_
  rcases mM x m false with ⟨hf,e | ⟨k,hk,e,hn2⟩⟩ | ⟨k,hk,e,hn2,hf⟩<;>rw[e]
  ·refine(aN rfl).trans ?_;rw[iX k0 k1 k2 k4 hf];rfl
  ·rw[iX k0 k1 k2 k4 hf];refine(aI (show ¬ (k:Int)<0 by omega)).trans ?_;refine bif_nn.trans ?_;refine(aJ hk).trans ?_;refine(aJ hk).trans ?_;refine(aN hn2).trans ?_;rfl
  ·rw[qO k0 k1 k2 k4 hf];refine(aI (show ¬ (k:Int)<0 by omega)).trans ?_;refine bif_nn.trans ?_;refine(aJ hk).trans ?_;refine(aJ hk).trans ?_;refine(aF hn2).trans ?_
   obtain⟨Rg,hg,eg⟩:=R2 k hk
   refine(rK hk hz.sess).trans ?_;unfold cX;rw[k5,← eg];rfl
end Go.Abs.Xz
