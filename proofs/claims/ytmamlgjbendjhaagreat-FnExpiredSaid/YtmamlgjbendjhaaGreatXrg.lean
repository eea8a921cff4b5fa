/- What the functions of this program answer, part rg. -/
import Derived.Test.YtmamlgjbendjhaaGreatXrf
set_option linter.unusedVariables false
set_option maxHeartbeats 2000000
namespace Go.Abs.Xz
open Go Go.Abs
theorem AM{a b c:Int}(h:(a==b)=true)(hc:b≠c):(a==c)=false:=by
 have:=eq_of_beq h;subst this;simpa using hc
theorem f22(x:NodeT)(m:MsgT)(hz:SzN x)(hm:SzM m):Ran p 11 22 [.val true ⟨K38,x⟩, .val true ⟨K43,m⟩] (DA (zQ x m)):=go22 fun n hn=>Ev.now fun aA=>by
 have bad:iK x m=false→(some ⟨[⟨K38,x⟩,⟨K49,(([]:List MsgT),())⟩,⟨K3,((1:Int),())⟩],[]⟩:Option Out)=some (DA (zQ x m)):=fun h=>by rw[FS h];rfl
 unfold T22;refine(aB (f81 x hz n (by omega))).trans ?_;refine(aB (f23 x hz n (by omega))).trans ?_
 cases g1:dA x with
 | false=>refine(aN rfl).trans ?_;exact bad (by unfold iK;rw[g1];rfl)
 | true=>
 refine(aF rfl).trans ?_;refine(aB (f30 m hm n (by omega))).trans ?_
 cases g2:jQ m with
 | false=>refine(aN rfl).trans ?_;exact bad (by unfold iK;rw[g1,g2];rfl)
 | true=>
 refine(aF rfl).trans ?_
 cases g3:m.2.2.1==x.1 with
 | false=>refine(aN (show(m.2.2.1 != x.1)=true by unfold bne;rw[g3];rfl)).trans ?_;exact bad (by unfold iK;rw[g1,g2,g3];rfl)
 | true=>
 refine(aF (show(m.2.2.1 != x.1)=false by unfold bne;rw[g3];rfl)).trans ?_
 by_cases g4:m.2.1≥x.2.1
 ·refine(aE g4).trans ?_;exact bad (by unfold iK;rw[g1,g2,g3,decide_eq_true g4];rfl)
 refine(aG g4).trans ?_
 cases g5:((m.vec.length:Nat):Int)==x.2.1 with
 | false=>refine(aN (show(((m.vec.length:Nat):Int) != x.2.1)=true by unfold bne;rw[g5];rfl)).trans ?_;exact bad (by unfold iK;rw[g1,g2,g3,decide_eq_false g4,g5];rfl)
 | true=>
 refine(aF (show(((m.vec.length:Nat):Int) != x.2.1)=false by unfold bne;rw[g5];rfl)).trans ?_
 have ok:iK x m=true:=by unfold iK;rw[g1,g2,g3,decide_eq_false g4,g5];rfl
 have R:=DB ok
 have H:=Hears.of hz hm R
 have hv:=H.vec
 rw[xT ok]
 cases k0:m.1==0 with
 | true=>
  have hz2:=rG hz m
  (first | refine(aN k0).trans ?_ | refine(aN rfl).trans ?_);refine(aB (f94 x m H R.part n (by omega))).trans ?_;refine(aB (f83 (fA x m) 1 m.2.1 m.2.2.2.1 hz2 n (by omega))).trans ?_;unfold sX;rw[k0];rfl
 | false=>
 (first | refine(aF k0).trans ?_ | refine(aF rfl).trans ?_)
 cases k1:m.1==1 with
 | true=>(first | refine(aN k1).trans ?_ | refine(aN rfl).trans ?_);refine(aB (f95 x m H n (by omega))).trans ?_;unfold sX;rw[k0,k1];rfl
 | false=>
 (first | refine(aF k1).trans ?_ | refine(aF rfl).trans ?_)
 cases k2:m.1==2 with
 | true=>
  have e0:sX x m=sV x m:=by unfold sX;rw[k0,k1,k2];rfl
  rw[e0]
  have go:i7 x m=false→∀ {y:NodeT},withS x (gQ x m)=y→Hears y m∧NodeOk (eK y m)∧SzN (eK y m)∧sV x m=(eK y m,[C9 (eK y m) x m],0):=by
   intro hf y e
   have hr:=R.syn hf
   have hs:=sD hz (xJ R.node m)
   rw[e] at hr hs
   refine⟨Hears.of hs hm hr,hr.node.heard m,mO hs m,?_⟩
   unfold sV G4;rw[hf,e];rfl
  (first | refine(aN k2).trans ?_ | refine(aN rfl).trans ?_);refine(aB (f21 x m.2.1 true hz.sess n (by omega))).trans ?_
  rcases fY x.sess m.2.1 true with ⟨k,hk,e,_⟩ | ⟨e,_⟩
  ·obtain⟨hf,hs⟩:=HZ e
   have hk2:k<(x.sess.set k ((gt x.sess k).1,m.2.2.2.1,(gt x.sess k).2.2)).length:=by rw[List.length_set];exact hk
   obtain⟨hh,ho,hz2,he⟩:=go hf (y:=withS x ((x.sess.set k ((gt x.sess k).1,m.2.2.2.1,(gt x.sess k).2.2)).set k ((gt (x.sess.set k ((gt x.sess k).1,m.2.2.2.1,(gt x.sess k).2.2)) k).1,(gt (x.sess.set k ((gt x.sess k).1,m.2.2.2.1,(gt x.sess k).2.2)) k).2.1,(gt (x.sess.set k ((gt x.sess k).1,m.2.2.2.1,(gt x.sess k).2.2)) k).2.2.1,(0:Int),(gt (x.sess.set k ((gt x.sess k).1,m.2.2.2.1,(gt x.sess k).2.2)) k).2.2.2.2))) (by rw[hs,FI hk])
   rw[he,e];refine(aE (Int.natCast_nonneg _)).trans ?_;refine(aE (Int.natCast_nonneg _)).trans ?_;refine(aI hk).trans ?_;refine(aI hk).trans ?_;refine(aE (Int.natCast_nonneg _)).trans ?_;refine(aI hk2).trans ?_;refine(aI hk2).trans ?_
   refine(aB (f95 _ m hh n (by omega))).trans ?_;refine(aB (f83 _ 3 m.2.1 m.2.2.2.1 hz2 n (by omega))).trans ?_;refine(aB (f84 (eK _ m).tree hz2.leaves n (by omega))).trans ?_;refine(aB (f238 (eK _ m).tree m.tree n (by omega))).trans ?_;refine(aB (f99 _ (iQ (eK _ m).tree m.tree) m hz2 ho (Nat.le_trans (t8 _ _) (by decide)) R.idn.1 hv n (by omega))).trans ?_;rfl
  ·obtain⟨hf,hs⟩:=HY e
   have hle:=((bV x).1 R.node.sess).1
   rw[e];refine(aF rfl).trans ?_
   by_cases hl:((x.sess.length:Nat):Int)≥x.slots
   ·refine(aE hl).trans ?_
    rw[show(((x.sess.length:Nat):Int)==x.slots)=true from by rw[beq_iff_eq];omega] at hf
    refine(aB (f83 x 5 m.2.1 m.2.2.2.1 hz n (by omega))).trans ?_;unfold sV;rw[hf];rfl
   ·rw[show(((x.sess.length:Nat):Int)==x.slots)=false from by rw[beq_eq_false_iff_ne];omega] at hf
    obtain⟨hh,ho,hz2,he⟩:=go hf (y:=withS x (jC x m)) (by rw[hs])
    have hb:x.sess.length+1≤bound:=by have:=hz.sess;unfold aS at this;unfold bound;omega
    rw[he];refine(aG hl).trans ?_;refine(aE hb).trans ?_
    refine(aB (f95 (withS x (jC x m)) m hh n (by omega))).trans ?_;refine(aB (f83 _ 3 m.2.1 m.2.2.2.1 hz2 n (by omega))).trans ?_;refine(aB (f84 (eK _ m).tree hz2.leaves n (by omega))).trans ?_;refine(aB (f238 (eK _ m).tree m.tree n (by omega))).trans ?_;refine(aB (f99 _ (iQ (eK _ m).tree m.tree) m hz2 ho (Nat.le_trans (t8 _ _) (by decide)) R.idn.1 hv n (by omega))).trans ?_;rfl
 | false=>
 (first | refine(aF k2).trans ?_ | refine(aF rfl).trans ?_)
 have R2:∀ k:Nat,k<x.sess.length→RecOk (withS x (uP x (k:Int))) m∧SzN (withS x (uP x (k:Int)))∧withS x (uP x (k:Int))=oT x k:=fun k hk=>by
  rw[DC hk hz.sess];exact⟨R.gone k,EK hz k,rfl⟩
 cases k3:m.1==3 with
 | true=>
  have k4:(m.1==4)=false:=AM k3 (by decide)
  have k5:(m.1==5)=false:=AM k3 (by decide)
  (first | refine(aN k3).trans ?_ | refine(aN rfl).trans ?_);refine(aB (f21 x m.2.1 false hz.sess n (by omega))).trans ?_
  rcases nJ x m false with ⟨hf,e | ⟨k,hk,e,hn2⟩⟩ | ⟨k,hk,e,hn2,hf⟩<;>rw[e]
  ·refine(aN rfl).trans ?_;rw[iE k0 k1 k2 k4 hf];rfl
  ·rw[iE k0 k1 k2 k4 hf];refine(aG (show ¬ (k:Int)<0 by omega)).trans ?_;refine(aE (Int.natCast_nonneg _)).trans ?_;refine(aI hk).trans ?_;refine(aI hk).trans ?_;refine(aN hn2).trans ?_;rfl
  ·rw[sW k0 k1 k2 k4 hf];refine(aG (show ¬ (k:Int)<0 by omega)).trans ?_;refine(aE (Int.natCast_nonneg _)).trans ?_;refine(aI hk).trans ?_;refine(aI hk).trans ?_;refine(aF hn2).trans ?_
   obtain⟨Rg,hg,eg⟩:=R2 k hk
   have hz2:=rG hg m
   refine(t7 hk hz.sess).trans ?_;refine(aB (f94 (withS x (uP x (k:Int))) m (Hears.of hg hm Rg) R.part n (by omega))).trans ?_;refine(aB (f83 (fA (withS x (uP x (k:Int))) m) 4 m.2.1 m.2.2.2.1 hz2 n (by omega))).trans ?_;refine(aB (f98 m.leaves hm.list n (by omega))).trans ?_
   refine(aB (f99 (fA (withS x (uP x (k:Int))) m) m.leaves m hz2 Rg.brought hm.list R.idn.1 hv n (by omega))).trans ?_;unfold sY;rw[k5,k4,← eg];rfl
 | false=>
 (first | refine(aF k3).trans ?_ | refine(aF rfl).trans ?_)
 cases k4:m.1==4 with
 | true=>
  have k5:(m.1==5)=false:=AM k4 (by decide)
  (first | refine(aN k4).trans ?_ | refine(aN rfl).trans ?_);refine(aB (f21 x m.2.1 true hz.sess n (by omega))).trans ?_
  rcases nJ x m true with ⟨hf,e | ⟨k,hk,e,hn2⟩⟩ | ⟨k,hk,e,hn2,hf⟩<;>rw[e]
  ·refine(aN rfl).trans ?_;rw[iE k0 k1 k2 k4 hf];rfl
  ·rw[iE k0 k1 k2 k4 hf];refine(aG (show ¬ (k:Int)<0 by omega)).trans ?_;refine(aE (Int.natCast_nonneg _)).trans ?_;refine(aI hk).trans ?_;refine(aI hk).trans ?_;refine(aN hn2).trans ?_;rfl
  ·rw[sW k0 k1 k2 k4 hf];refine(aG (show ¬ (k:Int)<0 by omega)).trans ?_;refine(aE (Int.natCast_nonneg _)).trans ?_;refine(aI hk).trans ?_;refine(aI hk).trans ?_;refine(aF hn2).trans ?_
   obtain⟨Rg,hg,eg⟩:=R2 k hk
   refine(t7 hk hz.sess).trans ?_;refine(aB (f94 (withS x (uP x (k:Int))) m (Hears.of hg hm Rg) R.part n (by omega))).trans ?_;unfold sY;rw[k5,k4,← eg];rfl
 | false=>
  have k5:(m.1==5)=true:=by
   have h2:=R.msg
   unfold jQ mK at h2
   simp only[Bool.and_eq_true,aQ] at h2
   have h3:=h2.1.1
   rw[beq_eq_false_iff_ne] at k0 k1 k2 k3 k4
   rw[beq_iff_eq];omega
  (first | refine(aF k4).trans ?_ | refine(aF rfl).trans ?_);refine(aB (f21 x m.2.1 false hz.sess n (by omega))).trans ?_
  rcases nJ x m false with ⟨hf,e | ⟨k,hk,e,hn2⟩⟩ | ⟨k,hk,e,hn2,hf⟩<;>rw[e]
  ·refine(aN rfl).trans ?_;rw[iE k0 k1 k2 k4 hf];rfl
  ·rw[iE k0 k1 k2 k4 hf];refine(aG (show ¬ (k:Int)<0 by omega)).trans ?_;refine(aE (Int.natCast_nonneg _)).trans ?_;refine(aI hk).trans ?_;refine(aI hk).trans ?_;refine(aN hn2).trans ?_;rfl
  ·rw[sW k0 k1 k2 k4 hf];refine(aG (show ¬ (k:Int)<0 by omega)).trans ?_;refine(aE (Int.natCast_nonneg _)).trans ?_;refine(aI hk).trans ?_;refine(aI hk).trans ?_;refine(aF hn2).trans ?_
   obtain⟨Rg,hg,eg⟩:=R2 k hk
   refine(t7 hk hz.sess).trans ?_;unfold sY;rw[k5,← eg];rfl
end Go.Abs.Xz
