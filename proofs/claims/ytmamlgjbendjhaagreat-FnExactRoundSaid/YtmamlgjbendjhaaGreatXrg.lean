/- What the functions of this program answer, part rg. -/
import Derived.Test.YtmamlgjbendjhaaGreatXrf
set_option linter.unusedVariables false
set_option maxHeartbeats 2000000
namespace Go.Abs.Xz
open Go Go.Abs
theorem CR{a b c:Int}(h:(a==b)=true)(hc:b≠c):(a==c)=false:=by
 have:=eq_of_beq h;subst this;simpa using hc
theorem f22(x:NodeT)(m:MsgT)(hz:SzN x)(hm:SzM m):Ran p 11 22 [va K38 x, va K43 m] (pG (oO x m)):=go22 fun n hn=>Ev.now fun aA=>by
 have bad:fV x m=false→(some ⟨[⟨K38,x⟩,⟨K49,(([]:List MsgT),())⟩,⟨K3,((1:Int),())⟩],[]⟩:Option Out)=some (pG (oO x m)):=fun h=>by rw[C1 h];rfl
 unfold T22;refine(aC (f81 x hz n (by omega))).trans ?_;refine(aC (f23 x hz n (by omega))).trans ?_
 cases g1:eC x with
 | false=>refine(aN rfl).trans ?_;exact bad (by unfold fV;rw[g1];rfl)
 | true=>
 refine(aL rfl).trans ?_;refine(aC (f30 m hm n (by omega))).trans ?_
 cases g2:lL m with
 | false=>refine(aN rfl).trans ?_;exact bad (by unfold fV;rw[g1,g2];rfl)
 | true=>
 refine(aL rfl).trans ?_
 cases g3:m.2.2.1==x.1 with
 | false=>refine(aN (show(m.2.2.1 != x.1)=true by unfold bne;rw[g3];rfl)).trans ?_;exact bad (by unfold fV;rw[g1,g2,g3];rfl)
 | true=>
 refine(aL (show(m.2.2.1 != x.1)=false by unfold bne;rw[g3];rfl)).trans ?_
 by_cases g4:m.2.1≥x.2.1
 ·refine(aE g4).trans ?_;exact bad (by unfold fV;rw[g1,g2,g3,decide_eq_true g4];rfl)
 refine(aF g4).trans ?_
 cases g5:(m.vec.length:Int)==x.2.1 with
 | false=>refine(aN (show((m.vec.length:Int) != x.2.1)=true by unfold bne;rw[g5];rfl)).trans ?_;exact bad (by unfold fV;rw[g1,g2,g3,decide_eq_false g4,g5];rfl)
 | true=>
 refine(aL (show((m.vec.length:Int) != x.2.1)=false by unfold bne;rw[g5];rfl)).trans ?_
 have ok:fV x m=true:=by unfold fV;rw[g1,g2,g3,decide_eq_false g4,g5];rfl
 have R:=vC ok
 have H:=Hears.of hz hm R
 have hv:=H.vec
 rw[z8 ok]
 cases k0:m.1==0 with
 | true=>
  have hz2:=iB hz m
  (first | refine(aN k0).trans ?_ | refine(aN rfl).trans ?_);refine(aC (f94 x m H R.part n (by omega))).trans ?_;refine(aC (f83 (c7 x m) 1 m.2.1 m.2.2.2.1 hz2 n (by omega))).trans ?_;unfold nF;rw[k0];rfl
 | false=>
 (first | refine(aL k0).trans ?_ | refine(aL rfl).trans ?_)
 cases k1:m.1==1 with
 | true=>(first | refine(aN k1).trans ?_ | refine(aN rfl).trans ?_);refine(aC (f95 x m H n (by omega))).trans ?_;unfold nF;rw[k0,k1];rfl
 | false=>
 (first | refine(aL k1).trans ?_ | refine(aL rfl).trans ?_)
 cases k2:m.1==2 with
 | true=>
  have e0:nF x m=hS x m:=by unfold nF;rw[k0,k1,k2];rfl
  rw[e0]
  have go:iJ x m=false→∀ {y:NodeT},withS x (fO x m)=y→Hears y m∧NodeOk (cK y m)∧SzN (cK y m)∧hS x m=(cK y m,[yW (cK y m) x m],0):=by
   intro hf y e
   have hr:=R.syn hf
   have hs:=pX hz (m8 R.node m)
   rw[e] at hr hs
   refine⟨Hears.of hs hm hr,hr.node.heard m,gI hs m,?_⟩
   unfold hS BR;rw[hf,e];rfl
  (first | refine(aN k2).trans ?_ | refine(aN rfl).trans ?_);refine(aC (f21 x m.2.1 true hz.sess n (by omega))).trans ?_
  rcases eZ x.sess m.2.1 true with ⟨k,hk,e,_⟩ | ⟨e,_⟩
  ·obtain⟨hf,hs⟩:=I3 e
   have hk2:k<(x.sess.set k ((gt x.sess k).1,m.2.2.2.1,(gt x.sess k).2.2)).length:=by rw[List.length_set];exact hk
   obtain⟨hh,ho,hz2,he⟩:=go hf (y:=withS x ((x.sess.set k ((gt x.sess k).1,m.2.2.2.1,(gt x.sess k).2.2)).set k ((gt (x.sess.set k ((gt x.sess k).1,m.2.2.2.1,(gt x.sess k).2.2)) k).1,(gt (x.sess.set k ((gt x.sess k).1,m.2.2.2.1,(gt x.sess k).2.2)) k).2.1,(gt (x.sess.set k ((gt x.sess k).1,m.2.2.2.1,(gt x.sess k).2.2)) k).2.2.1,(0:Int),(gt (x.sess.set k ((gt x.sess k).1,m.2.2.2.1,(gt x.sess k).2.2)) k).2.2.2.2))) (by rw[hs,CV hk])
   rw[he,e];refine bif_nn.trans ?_;refine bif_nn.trans ?_;refine(aK hk).trans ?_;refine(aK hk).trans ?_;refine bif_nn.trans ?_;refine(aK hk2).trans ?_;refine(aK hk2).trans ?_
   refine(aC (f95 _ m hh n (by omega))).trans ?_;refine(aC (f83 _ 3 m.2.1 m.2.2.2.1 hz2 n (by omega))).trans ?_;refine(aC (f84 (cK _ m).tree hz2.leaves n (by omega))).trans ?_;refine(aC (f238 (cK _ m).tree m.tree n (by omega))).trans ?_;refine(aC (f99 _ (gC (cK _ m).tree m.tree) m hz2 ho (Nat.le_trans (kM _ _) (by decide)) R.idn.1 hv n (by omega))).trans ?_;rfl
  ·obtain⟨hf,hs⟩:=I2 e
   have hle:=((d7 x).1 R.node.sess).1
   rw[e];refine(aL rfl).trans ?_
   by_cases hl:(x.sess.length:Int)≥x.slots
   ·refine(aE hl).trans ?_
    rw[show((x.sess.length:Int)==x.slots)=true from by rw[beq_iff_eq];omega] at hf
    refine(aC (f83 x 5 m.2.1 m.2.2.2.1 hz n (by omega))).trans ?_;unfold hS;rw[hf];rfl
   ·rw[show((x.sess.length:Int)==x.slots)=false from by rw[beq_eq_false_iff_ne];omega] at hf
    obtain⟨hh,ho,hz2,he⟩:=go hf (y:=withS x (iS x m)) (by rw[hs])
    have hb:x.sess.length+1≤bound:=by have:=hz.sess;unfold aX at this;unfold bound;omega
    rw[he];refine(aF hl).trans ?_;refine(aE hb).trans ?_
    refine(aC (f95 (withS x (iS x m)) m hh n (by omega))).trans ?_;refine(aC (f83 _ 3 m.2.1 m.2.2.2.1 hz2 n (by omega))).trans ?_;refine(aC (f84 (cK _ m).tree hz2.leaves n (by omega))).trans ?_;refine(aC (f238 (cK _ m).tree m.tree n (by omega))).trans ?_;refine(aC (f99 _ (gC (cK _ m).tree m.tree) m hz2 ho (Nat.le_trans (kM _ _) (by decide)) R.idn.1 hv n (by omega))).trans ?_;rfl
 | false=>
 (first | refine(aL k2).trans ?_ | refine(aL rfl).trans ?_)
 have R2:∀ k:Nat,k<x.sess.length→RecOk (withS x (wQ x (k:Int))) m∧SzN (withS x (wQ x (k:Int)))∧withS x (wQ x (k:Int))=iX x k:=fun k hk=>by
  rw[AA hk hz.sess];exact⟨R.gone k,vU hz k,rfl⟩
 cases k3:m.1==3 with
 | true=>
  have k4:(m.1==4)=false:=CR k3 (by decide)
  have k5:(m.1==5)=false:=CR k3 (by decide)
  (first | refine(aN k3).trans ?_ | refine(aN rfl).trans ?_);refine(aC (f21 x m.2.1 false hz.sess n (by omega))).trans ?_
  rcases mQ x m false with ⟨hf,e | ⟨k,hk,e,hn2⟩⟩ | ⟨k,hk,e,hn2,hf⟩<;>rw[e]
  ·refine(aN rfl).trans ?_;rw[iZ k0 k1 k2 k4 hf];rfl
  ·rw[iZ k0 k1 k2 k4 hf];refine(aF (show ¬ (k:Int)<0 by omega)).trans ?_;refine bif_nn.trans ?_;refine(aK hk).trans ?_;refine(aK hk).trans ?_;refine(aN hn2).trans ?_;rfl
  ·rw[qF k0 k1 k2 k4 hf];refine(aF (show ¬ (k:Int)<0 by omega)).trans ?_;refine bif_nn.trans ?_;refine(aK hk).trans ?_;refine(aK hk).trans ?_;refine(aL hn2).trans ?_
   obtain⟨Rg,hg,eg⟩:=R2 k hk
   have hz2:=iB hg m
   refine(qT hk hz.sess).trans ?_;refine(aC (f94 (withS x (wQ x (k:Int))) m (Hears.of hg hm Rg) R.part n (by omega))).trans ?_;refine(aC (f83 (c7 (withS x (wQ x (k:Int))) m) 4 m.2.1 m.2.2.2.1 hz2 n (by omega))).trans ?_;refine(aC (f98 m.leaves hm.list n (by omega))).trans ?_
   refine(aC (f99 (c7 (withS x (wQ x (k:Int))) m) m.leaves m hz2 Rg.brought hm.list R.idn.1 hv n (by omega))).trans ?_;unfold jV;rw[k5,k4,← eg];rfl
 | false=>
 (first | refine(aL k3).trans ?_ | refine(aL rfl).trans ?_)
 cases k4:m.1==4 with
 | true=>
  have k5:(m.1==5)=false:=CR k4 (by decide)
  (first | refine(aN k4).trans ?_ | refine(aN rfl).trans ?_);refine(aC (f21 x m.2.1 true hz.sess n (by omega))).trans ?_
  rcases mQ x m true with ⟨hf,e | ⟨k,hk,e,hn2⟩⟩ | ⟨k,hk,e,hn2,hf⟩<;>rw[e]
  ·refine(aN rfl).trans ?_;rw[iZ k0 k1 k2 k4 hf];rfl
  ·rw[iZ k0 k1 k2 k4 hf];refine(aF (show ¬ (k:Int)<0 by omega)).trans ?_;refine bif_nn.trans ?_;refine(aK hk).trans ?_;refine(aK hk).trans ?_;refine(aN hn2).trans ?_;rfl
  ·rw[qF k0 k1 k2 k4 hf];refine(aF (show ¬ (k:Int)<0 by omega)).trans ?_;refine bif_nn.trans ?_;refine(aK hk).trans ?_;refine(aK hk).trans ?_;refine(aL hn2).trans ?_
   obtain⟨Rg,hg,eg⟩:=R2 k hk
   refine(qT hk hz.sess).trans ?_;refine(aC (f94 (withS x (wQ x (k:Int))) m (Hears.of hg hm Rg) R.part n (by omega))).trans ?_;unfold jV;rw[k5,k4,← eg];rfl
 | false=>
  have k5:(m.1==5)=true:=by
   have h2:=R.msg
   unfold lL qN at h2
   simp only[Bool.and_eq_true,bH] at h2
   have h3:=h2.1.1
   rw[beq_eq_false_iff_ne] at k0 k1 k2 k3 k4
   rw[beq_iff_eq];omega
  (first | refine(aL k4).trans ?_ | refine(aL rfl).trans ?_);refine(aC (f21 x m.2.1 false hz.sess n (by omega))).trans ?_
  rcases mQ x m false with ⟨hf,e | ⟨k,hk,e,hn2⟩⟩ | ⟨k,hk,e,hn2,hf⟩<;>rw[e]
  ·refine(aN rfl).trans ?_;rw[iZ k0 k1 k2 k4 hf];rfl
  ·rw[iZ k0 k1 k2 k4 hf];refine(aF (show ¬ (k:Int)<0 by omega)).trans ?_;refine bif_nn.trans ?_;refine(aK hk).trans ?_;refine(aK hk).trans ?_;refine(aN hn2).trans ?_;rfl
  ·rw[qF k0 k1 k2 k4 hf];refine(aF (show ¬ (k:Int)<0 by omega)).trans ?_;refine bif_nn.trans ?_;refine(aK hk).trans ?_;refine(aK hk).trans ?_;refine(aL hn2).trans ?_
   obtain⟨Rg,hg,eg⟩:=R2 k hk
   refine(qT hk hz.sess).trans ?_;unfold jV;rw[k5,← eg];rfl
end Go.Abs.Xz
