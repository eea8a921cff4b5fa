/- What the functions of this program answer, part rg. -/
import Derived.Test.YtmamlgjbendjhaaGreatXrf
set_option linter.unusedVariables false
set_option maxHeartbeats 2000000
namespace Go.Abs.Xz
open Go Go.Abs
theorem zX{a b c:Int}(h:(a==b)=true)(hc:b≠c):(a==c)=false:=by
 have:=eq_of_beq h;subst this;simpa using hc
theorem f22(x:NodeT)(m:MsgT)(hz:SzN x)(hm:SzM m):Ran p 11 22 [.val true ⟨K38,x⟩, .val true ⟨K43,m⟩] (wN (eT x m)):=go22 fun n hn=>Ev.now fun aA=>by
 have bad:fU x m=false→(some ⟨[⟨K38,x⟩,⟨K49,(([]:List MsgT),())⟩,⟨K3,((1:Int),())⟩],[]⟩:Option Out)=some (wN (eT x m)):=fun h=>by rw[AE h];rfl
 unfold T22;refine(aD (f81 x hz n (by omega))).trans ?_;refine(aD (f23 x hz n (by omega))).trans ?_
 cases g1:iR x with
 | false=>refine(aX rfl).trans ?_;exact bad (by unfold fU;rw[g1];rfl)
 | true=>
 refine(aN rfl).trans ?_;refine(aD (f30 m hm n (by omega))).trans ?_
 cases g2:kL m with
 | false=>refine(aX rfl).trans ?_;exact bad (by unfold fU;rw[g1,g2];rfl)
 | true=>
 refine(aN rfl).trans ?_
 cases g3:m.2.2.1==x.1 with
 | false=>refine(aX (show(m.2.2.1 != x.1)=true by unfold bne;rw[g3];rfl)).trans ?_;exact bad (by unfold fU;rw[g1,g2,g3];rfl)
 | true=>
 refine(aN (show(m.2.2.1 != x.1)=false by unfold bne;rw[g3];rfl)).trans ?_
 by_cases g4:m.2.1≥x.2.1
 ·refine(aF g4).trans ?_;exact bad (by unfold fU;rw[g1,g2,g3,decide_eq_true g4];rfl)
 refine(aH g4).trans ?_
 cases g5:((m.vec.length:Nat):Int)==x.2.1 with
 | false=>refine(aX (show(((m.vec.length:Nat):Int) != x.2.1)=true by unfold bne;rw[g5];rfl)).trans ?_;exact bad (by unfold fU;rw[g1,g2,g3,decide_eq_false g4,g5];rfl)
 | true=>
 refine(aN (show(((m.vec.length:Nat):Int) != x.2.1)=false by unfold bne;rw[g5];rfl)).trans ?_
 have ok:fU x m=true:=by unfold fU;rw[g1,g2,g3,decide_eq_false g4,g5];rfl
 have R:=tB ok
 have H:=Hears.of hz hm R
 have hv:=H.vec
 rw[xR ok]
 cases k0:m.1==0 with
 | true=>
  have hz2:=gL hz m
  (first | refine(aX k0).trans ?_ | refine(aX rfl).trans ?_);refine(aD (f94 x m H R.part n (by omega))).trans ?_;refine(aD (f83 (cV x m) 1 m.2.1 m.2.2.2.1 hz2 n (by omega))).trans ?_;unfold nP;rw[k0];rfl
 | false=>
 (first | refine(aN k0).trans ?_ | refine(aN rfl).trans ?_)
 cases k1:m.1==1 with
 | true=>(first | refine(aX k1).trans ?_ | refine(aX rfl).trans ?_);refine(aD (f95 x m H n (by omega))).trans ?_;unfold nP;rw[k0,k1];rfl
 | false=>
 (first | refine(aN k1).trans ?_ | refine(aN rfl).trans ?_)
 cases k2:m.1==2 with
 | true=>
  have e0:nP x m=hI x m:=by unfold nP;rw[k0,k1,k2];rfl
  rw[e0]
  have go:iB x m=false→∀ {y:NodeT},withS x (eU x m)=y→Hears y m∧NodeOk (cK y m)∧SzN (cK y m)∧hI x m=(cK y m,[wM (cK y m) x m],0):=by
   intro hf y e
   have hr:=R.syn hf
   have hs:=oK hz (lY R.node m)
   rw[e] at hr hs
   refine⟨Hears.of hs hm hr,hr.node.heard m,fP hs m,?_⟩
   unfold hI y2;rw[hf,e];rfl
  (first | refine(aX k2).trans ?_ | refine(aX rfl).trans ?_);refine(aD (f21 x m.2.1 true hz.sess n (by omega))).trans ?_
  rcases fK x.sess m.2.1 true with ⟨k,hk,e,_⟩ | ⟨e,_⟩
  ·obtain⟨hf,hs⟩:=F7 e
   have hk2:k<(x.sess.set k ((gt x.sess k).1,m.2.2.2.1,(gt x.sess k).2.2)).length:=by rw[List.length_set];exact hk
   obtain⟨hh,ho,hz2,he⟩:=go hf (y:=withS x ((x.sess.set k ((gt x.sess k).1,m.2.2.2.1,(gt x.sess k).2.2)).set k ((gt (x.sess.set k ((gt x.sess k).1,m.2.2.2.1,(gt x.sess k).2.2)) k).1,(gt (x.sess.set k ((gt x.sess k).1,m.2.2.2.1,(gt x.sess k).2.2)) k).2.1,(gt (x.sess.set k ((gt x.sess k).1,m.2.2.2.1,(gt x.sess k).2.2)) k).2.2.1,(0:Int),(gt (x.sess.set k ((gt x.sess k).1,m.2.2.2.1,(gt x.sess k).2.2)) k).2.2.2.2))) (by rw[hs,z9 hk])
   rw[he,e];refine(aF (Int.natCast_nonneg _)).trans ?_;refine(aF (Int.natCast_nonneg _)).trans ?_;refine(aM hk).trans ?_;refine(aM hk).trans ?_;refine(aF (Int.natCast_nonneg _)).trans ?_;refine(aM hk2).trans ?_;refine(aM hk2).trans ?_
   refine(aD (f95 _ m hh n (by omega))).trans ?_;refine(aD (f83 _ 3 m.2.1 m.2.2.2.1 hz2 n (by omega))).trans ?_;refine(aD (f84 (cK _ m).tree hz2.leaves n (by omega))).trans ?_;refine(aD (f238 (cK _ m).tree m.tree n (by omega))).trans ?_;refine(aD (f99 _ (fH (cK _ m).tree m.tree) m hz2 ho (Nat.le_trans (jN _ _) (by decide)) R.idn.1 hv n (by omega))).trans ?_;rfl
  ·obtain⟨hf,hs⟩:=F6 e
   have hle:=((g9 x).1 R.node.sess).1
   rw[e];refine(aN rfl).trans ?_
   by_cases hl:((x.sess.length:Nat):Int)≥x.slots
   ·refine(aF hl).trans ?_
    rw[show(((x.sess.length:Nat):Int)==x.slots)=true from by rw[beq_iff_eq];omega] at hf
    refine(aD (f83 x 5 m.2.1 m.2.2.2.1 hz n (by omega))).trans ?_;unfold hI;rw[hf];rfl
   ·rw[show(((x.sess.length:Nat):Int)==x.slots)=false from by rw[beq_eq_false_iff_ne];omega] at hf
    obtain⟨hh,ho,hz2,he⟩:=go hf (y:=withS x (gV x m)) (by rw[hs])
    have hb:x.sess.length+1≤bound:=by have:=hz.sess;unfold bA at this;unfold bound;omega
    rw[he];refine(aH hl).trans ?_;refine(aF hb).trans ?_
    refine(aD (f95 (withS x (gV x m)) m hh n (by omega))).trans ?_;refine(aD (f83 _ 3 m.2.1 m.2.2.2.1 hz2 n (by omega))).trans ?_;refine(aD (f84 (cK _ m).tree hz2.leaves n (by omega))).trans ?_;refine(aD (f238 (cK _ m).tree m.tree n (by omega))).trans ?_;refine(aD (f99 _ (fH (cK _ m).tree m.tree) m hz2 ho (Nat.le_trans (jN _ _) (by decide)) R.idn.1 hv n (by omega))).trans ?_;rfl
 | false=>
 (first | refine(aN k2).trans ?_ | refine(aN rfl).trans ?_)
 have R2:∀ k:Nat,k<x.sess.length→RecOk (withS x (uP x (k:Int))) m∧SzN (withS x (uP x (k:Int)))∧withS x (uP x (k:Int))=gX x k:=fun k hk=>by
  rw[xT hk hz.sess];exact⟨R.gone k,tT hz k,rfl⟩
 cases k3:m.1==3 with
 | true=>
  have k4:(m.1==4)=false:=zX k3 (by decide)
  have k5:(m.1==5)=false:=zX k3 (by decide)
  (first | refine(aX k3).trans ?_ | refine(aX rfl).trans ?_);refine(aD (f21 x m.2.1 false hz.sess n (by omega))).trans ?_
  rcases lO x m false with ⟨hf,e | ⟨k,hk,e,hn2⟩⟩ | ⟨k,hk,e,hn2,hf⟩<;>rw[e]
  ·refine(aX rfl).trans ?_;rw[hO k0 k1 k2 k4 hf];rfl
  ·rw[hO k0 k1 k2 k4 hf];refine(aH (show ¬ (k:Int)<0 by omega)).trans ?_;refine(aF (Int.natCast_nonneg _)).trans ?_;refine(aM hk).trans ?_;refine(aM hk).trans ?_;refine(aX hn2).trans ?_;rfl
  ·rw[oY k0 k1 k2 k4 hf];refine(aH (show ¬ (k:Int)<0 by omega)).trans ?_;refine(aF (Int.natCast_nonneg _)).trans ?_;refine(aM hk).trans ?_;refine(aM hk).trans ?_;refine(aN hn2).trans ?_
   obtain⟨Rg,hg,eg⟩:=R2 k hk
   have hz2:=gL hg m
   refine(pL hk hz.sess).trans ?_;refine(aD (f94 (withS x (uP x (k:Int))) m (Hears.of hg hm Rg) R.part n (by omega))).trans ?_;refine(aD (f83 (cV (withS x (uP x (k:Int))) m) 4 m.2.1 m.2.2.2.1 hz2 n (by omega))).trans ?_;refine(aD (f98 m.leaves hm.list n (by omega))).trans ?_
   refine(aD (f99 (cV (withS x (uP x (k:Int))) m) m.leaves m hz2 Rg.brought hm.list R.idn.1 hv n (by omega))).trans ?_;unfold j9;rw[k5,k4,← eg];rfl
 | false=>
 (first | refine(aN k3).trans ?_ | refine(aN rfl).trans ?_)
 cases k4:m.1==4 with
 | true=>
  have k5:(m.1==5)=false:=zX k4 (by decide)
  (first | refine(aX k4).trans ?_ | refine(aX rfl).trans ?_);refine(aD (f21 x m.2.1 true hz.sess n (by omega))).trans ?_
  rcases lO x m true with ⟨hf,e | ⟨k,hk,e,hn2⟩⟩ | ⟨k,hk,e,hn2,hf⟩<;>rw[e]
  ·refine(aX rfl).trans ?_;rw[hO k0 k1 k2 k4 hf];rfl
  ·rw[hO k0 k1 k2 k4 hf];refine(aH (show ¬ (k:Int)<0 by omega)).trans ?_;refine(aF (Int.natCast_nonneg _)).trans ?_;refine(aM hk).trans ?_;refine(aM hk).trans ?_;refine(aX hn2).trans ?_;rfl
  ·rw[oY k0 k1 k2 k4 hf];refine(aH (show ¬ (k:Int)<0 by omega)).trans ?_;refine(aF (Int.natCast_nonneg _)).trans ?_;refine(aM hk).trans ?_;refine(aM hk).trans ?_;refine(aN hn2).trans ?_
   obtain⟨Rg,hg,eg⟩:=R2 k hk
   refine(pL hk hz.sess).trans ?_;refine(aD (f94 (withS x (uP x (k:Int))) m (Hears.of hg hm Rg) R.part n (by omega))).trans ?_;unfold j9;rw[k5,k4,← eg];rfl
 | false=>
  have k5:(m.1==5)=true:=by
   have h2:=R.msg
   unfold kL pF at h2
   simp only[Bool.and_eq_true,bV] at h2
   have h3:=h2.1.1
   rw[beq_eq_false_iff_ne] at k0 k1 k2 k3 k4
   rw[beq_iff_eq];omega
  (first | refine(aN k4).trans ?_ | refine(aN rfl).trans ?_);refine(aD (f21 x m.2.1 false hz.sess n (by omega))).trans ?_
  rcases lO x m false with ⟨hf,e | ⟨k,hk,e,hn2⟩⟩ | ⟨k,hk,e,hn2,hf⟩<;>rw[e]
  ·refine(aX rfl).trans ?_;rw[hO k0 k1 k2 k4 hf];rfl
  ·rw[hO k0 k1 k2 k4 hf];refine(aH (show ¬ (k:Int)<0 by omega)).trans ?_;refine(aF (Int.natCast_nonneg _)).trans ?_;refine(aM hk).trans ?_;refine(aM hk).trans ?_;refine(aX hn2).trans ?_;rfl
  ·rw[oY k0 k1 k2 k4 hf];refine(aH (show ¬ (k:Int)<0 by omega)).trans ?_;refine(aF (Int.natCast_nonneg _)).trans ?_;refine(aM hk).trans ?_;refine(aM hk).trans ?_;refine(aN hn2).trans ?_
   obtain⟨Rg,hg,eg⟩:=R2 k hk
   refine(pL hk hz.sess).trans ?_;unfold j9;rw[k5,← eg];rfl
end Go.Abs.Xz
