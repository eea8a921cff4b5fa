/- What the functions of this program answer, part rg. -/
import Derived.Test.YtmamlgjbendjhaaGreatXrf
set_option linter.unusedVariables false
set_option maxHeartbeats 2000000
namespace Go.Abs.Xz
open Go Go.Abs
theorem BI{a b c:Int}(h:(a==b)=true)(hc:b≠c):(a==c)=false:=by
 have:=eq_of_beq h;subst this;simpa using hc
theorem f22(x:NodeT)(m:MsgT)(hz:SzN x)(hm:SzM m):Ran p 11 22 [.val true ⟨K38,x⟩, .val true ⟨K43,m⟩] (oM (nU x m)):=go22 fun n hn=>Ev.now fun aA=>by
 have bad:fN x m=false→(some ⟨[⟨K38,x⟩,⟨K49,(([]:List MsgT),())⟩,⟨K3,((1:Int),())⟩],[]⟩:Option Out)=some (oM (nU x m)):=fun h=>by rw[BQ h];rfl
 unfold T22;refine(aD (f81 x hz n (by omega))).trans ?_;refine(aD (f23 x hz n (by omega))).trans ?_
 cases g1:gW x with
 | false=>refine(aO rfl).trans ?_;exact bad (by unfold fN;rw[g1];rfl)
 | true=>
 refine(aK rfl).trans ?_;refine(aD (f30 m hm n (by omega))).trans ?_
 cases g2:k9 m with
 | false=>refine(aO rfl).trans ?_;exact bad (by unfold fN;rw[g1,g2];rfl)
 | true=>
 refine(aK rfl).trans ?_
 cases g3:m.2.2.1==x.1 with
 | false=>refine(aO (show(m.2.2.1 != x.1)=true by unfold bne;rw[g3];rfl)).trans ?_;exact bad (by unfold fN;rw[g1,g2,g3];rfl)
 | true=>
 refine(aK (show(m.2.2.1 != x.1)=false by unfold bne;rw[g3];rfl)).trans ?_
 by_cases g4:m.2.1≥x.2.1
 ·refine(aE g4).trans ?_;exact bad (by unfold fN;rw[g1,g2,g3,decide_eq_true g4];rfl)
 refine(aF g4).trans ?_
 cases g5:((m.vec.length:Nat):Int)==x.2.1 with
 | false=>refine(aO (show(((m.vec.length:Nat):Int) != x.2.1)=true by unfold bne;rw[g5];rfl)).trans ?_;exact bad (by unfold fN;rw[g1,g2,g3,decide_eq_false g4,g5];rfl)
 | true=>
 refine(aK (show(((m.vec.length:Nat):Int) != x.2.1)=false by unfold bne;rw[g5];rfl)).trans ?_
 have ok:fN x m=true:=by unfold fN;rw[g1,g2,g3,decide_eq_false g4,g5];rfl
 have R:=uC ok
 have H:=Hears.of hz hm R
 have hv:=H.vec
 rw[yU ok]
 cases k0:m.1==0 with
 | true=>
  have hz2:=g9 hz m
  (first | refine(aO k0).trans ?_ | refine(aO rfl).trans ?_);refine(aD (f94 x m H R.part n (by omega))).trans ?_;refine(aD (f83 (cX x m) 1 m.2.1 m.2.2.2.1 hz2 n (by omega))).trans ?_;unfold mU;rw[k0];rfl
 | false=>
 (first | refine(aK k0).trans ?_ | refine(aK rfl).trans ?_)
 cases k1:m.1==1 with
 | true=>(first | refine(aO k1).trans ?_ | refine(aO rfl).trans ?_);refine(aD (f95 x m H n (by omega))).trans ?_;unfold mU;rw[k0,k1];rfl
 | false=>
 (first | refine(aK k1).trans ?_ | refine(aK rfl).trans ?_)
 cases k2:m.1==2 with
 | true=>
  have e0:mU x m=gV x m:=by unfold mU;rw[k0,k1,k2];rfl
  rw[e0]
  have go:hY x m=false→∀ {y:NodeT},withS x (fG x m)=y→Hears y m∧NodeOk (cG y m)∧SzN (cG y m)∧gV x m=(cG y m,[xT (cG y m) x m],0):=by
   intro hf y e
   have hr:=R.syn hf
   have hs:=pE hz (mM R.node m)
   rw[e] at hr hs
   refine⟨Hears.of hs hm hr,hr.node.heard m,fZ hs m,?_⟩
   unfold gV AK;rw[hf,e];rfl
  (first | refine(aO k2).trans ?_ | refine(aO rfl).trans ?_);refine(aD (f21 x m.2.1 true hz.sess n (by omega))).trans ?_
  rcases eP x.sess m.2.1 true with ⟨k,hk,e,_⟩ | ⟨e,_⟩
  ·obtain⟨hf,hs⟩:=HE e
   have hk2:k<(x.sess.set k ((gt x.sess k).1,m.2.2.2.1,(gt x.sess k).2.2)).length:=by rw[List.length_set];exact hk
   obtain⟨hh,ho,hz2,he⟩:=go hf (y:=withS x ((x.sess.set k ((gt x.sess k).1,m.2.2.2.1,(gt x.sess k).2.2)).set k ((gt (x.sess.set k ((gt x.sess k).1,m.2.2.2.1,(gt x.sess k).2.2)) k).1,(gt (x.sess.set k ((gt x.sess k).1,m.2.2.2.1,(gt x.sess k).2.2)) k).2.1,(gt (x.sess.set k ((gt x.sess k).1,m.2.2.2.1,(gt x.sess k).2.2)) k).2.2.1,(0:Int),(gt (x.sess.set k ((gt x.sess k).1,m.2.2.2.1,(gt x.sess k).2.2)) k).2.2.2.2))) (by rw[hs,BM hk])
   rw[he,e];refine bif_nn.trans ?_;refine bif_nn.trans ?_;refine(aL hk).trans ?_;refine(aL hk).trans ?_;refine bif_nn.trans ?_;refine(aL hk2).trans ?_;refine(aL hk2).trans ?_
   refine(aD (f95 _ m hh n (by omega))).trans ?_;refine(aD (f83 _ 3 m.2.1 m.2.2.2.1 hz2 n (by omega))).trans ?_;refine(aD (f84 (cG _ m).tree hz2.leaves n (by omega))).trans ?_;refine(aD (f238 (cG _ m).tree m.tree n (by omega))).trans ?_;refine(aD (f99 _ (fU (cG _ m).tree m.tree) m hz2 ho (Nat.le_trans (kA _ _) (by decide)) R.idn.1 hv n (by omega))).trans ?_;rfl
  ·obtain⟨hf,hs⟩:=HD e
   have hle:=((dX x).1 R.node.sess).1
   rw[e];refine(aK rfl).trans ?_
   by_cases hl:((x.sess.length:Nat):Int)≥x.slots
   ·refine(aE hl).trans ?_
    rw[show(((x.sess.length:Nat):Int)==x.slots)=true from by rw[beq_iff_eq];omega] at hf
    refine(aD (f83 x 5 m.2.1 m.2.2.2.1 hz n (by omega))).trans ?_;unfold gV;rw[hf];rfl
   ·rw[show(((x.sess.length:Nat):Int)==x.slots)=false from by rw[beq_eq_false_iff_ne];omega] at hf
    obtain⟨hh,ho,hz2,he⟩:=go hf (y:=withS x (iJ x m)) (by rw[hs])
    have hb:x.sess.length+1≤bound:=by have:=hz.sess;unfold aW at this;unfold bound;omega
    rw[he];refine(aF hl).trans ?_;refine(aE hb).trans ?_
    refine(aD (f95 (withS x (iJ x m)) m hh n (by omega))).trans ?_;refine(aD (f83 _ 3 m.2.1 m.2.2.2.1 hz2 n (by omega))).trans ?_;refine(aD (f84 (cG _ m).tree hz2.leaves n (by omega))).trans ?_;refine(aD (f238 (cG _ m).tree m.tree n (by omega))).trans ?_;refine(aD (f99 _ (fU (cG _ m).tree m.tree) m hz2 ho (Nat.le_trans (kA _ _) (by decide)) R.idn.1 hv n (by omega))).trans ?_;rfl
 | false=>
 (first | refine(aK k2).trans ?_ | refine(aK rfl).trans ?_)
 have R2:∀ k:Nat,k<x.sess.length→RecOk (withS x (vP x (k:Int))) m∧SzN (withS x (vP x (k:Int)))∧withS x (vP x (k:Int))=iL x k:=fun k hk=>by
  rw[yW hk hz.sess];exact⟨R.gone k,uR hz k,rfl⟩
 cases k3:m.1==3 with
 | true=>
  have k4:(m.1==4)=false:=BI k3 (by decide)
  have k5:(m.1==5)=false:=BI k3 (by decide)
  (first | refine(aO k3).trans ?_ | refine(aO rfl).trans ?_);refine(aD (f21 x m.2.1 false hz.sess n (by omega))).trans ?_
  rcases mC x m false with ⟨hf,e | ⟨k,hk,e,hn2⟩⟩ | ⟨k,hk,e,hn2,hf⟩<;>rw[e]
  ·refine(aO rfl).trans ?_;rw[iO k0 k1 k2 k4 hf];rfl
  ·rw[iO k0 k1 k2 k4 hf];refine(aF (show ¬ (k:Int)<0 by omega)).trans ?_;refine bif_nn.trans ?_;refine(aL hk).trans ?_;refine(aL hk).trans ?_;refine(aO hn2).trans ?_;rfl
  ·rw[pS k0 k1 k2 k4 hf];refine(aF (show ¬ (k:Int)<0 by omega)).trans ?_;refine bif_nn.trans ?_;refine(aL hk).trans ?_;refine(aL hk).trans ?_;refine(aK hn2).trans ?_
   obtain⟨Rg,hg,eg⟩:=R2 k hk
   have hz2:=g9 hg m
   refine(p9 hk hz.sess).trans ?_;refine(aD (f94 (withS x (vP x (k:Int))) m (Hears.of hg hm Rg) R.part n (by omega))).trans ?_;refine(aD (f83 (cX (withS x (vP x (k:Int))) m) 4 m.2.1 m.2.2.2.1 hz2 n (by omega))).trans ?_;refine(aD (f98 m.leaves hm.list n (by omega))).trans ?_
   refine(aD (f99 (cX (withS x (vP x (k:Int))) m) m.leaves m hz2 Rg.brought hm.list R.idn.1 hv n (by omega))).trans ?_;unfold jH;rw[k5,k4,← eg];rfl
 | false=>
 (first | refine(aK k3).trans ?_ | refine(aK rfl).trans ?_)
 cases k4:m.1==4 with
 | true=>
  have k5:(m.1==5)=false:=BI k4 (by decide)
  (first | refine(aO k4).trans ?_ | refine(aO rfl).trans ?_);refine(aD (f21 x m.2.1 true hz.sess n (by omega))).trans ?_
  rcases mC x m true with ⟨hf,e | ⟨k,hk,e,hn2⟩⟩ | ⟨k,hk,e,hn2,hf⟩<;>rw[e]
  ·refine(aO rfl).trans ?_;rw[iO k0 k1 k2 k4 hf];rfl
  ·rw[iO k0 k1 k2 k4 hf];refine(aF (show ¬ (k:Int)<0 by omega)).trans ?_;refine bif_nn.trans ?_;refine(aL hk).trans ?_;refine(aL hk).trans ?_;refine(aO hn2).trans ?_;rfl
  ·rw[pS k0 k1 k2 k4 hf];refine(aF (show ¬ (k:Int)<0 by omega)).trans ?_;refine bif_nn.trans ?_;refine(aL hk).trans ?_;refine(aL hk).trans ?_;refine(aK hn2).trans ?_
   obtain⟨Rg,hg,eg⟩:=R2 k hk
   refine(p9 hk hz.sess).trans ?_;refine(aD (f94 (withS x (vP x (k:Int))) m (Hears.of hg hm Rg) R.part n (by omega))).trans ?_;unfold jH;rw[k5,k4,← eg];rfl
 | false=>
  have k5:(m.1==5)=true:=by
   have h2:=R.msg
   unfold k9 pZ at h2
   simp only[Bool.and_eq_true,bH] at h2
   have h3:=h2.1.1
   rw[beq_eq_false_iff_ne] at k0 k1 k2 k3 k4
   rw[beq_iff_eq];omega
  (first | refine(aK k4).trans ?_ | refine(aK rfl).trans ?_);refine(aD (f21 x m.2.1 false hz.sess n (by omega))).trans ?_
  rcases mC x m false with ⟨hf,e | ⟨k,hk,e,hn2⟩⟩ | ⟨k,hk,e,hn2,hf⟩<;>rw[e]
  ·refine(aO rfl).trans ?_;rw[iO k0 k1 k2 k4 hf];rfl
  ·rw[iO k0 k1 k2 k4 hf];refine(aF (show ¬ (k:Int)<0 by omega)).trans ?_;refine bif_nn.trans ?_;refine(aL hk).trans ?_;refine(aL hk).trans ?_;refine(aO hn2).trans ?_;rfl
  ·rw[pS k0 k1 k2 k4 hf];refine(aF (show ¬ (k:Int)<0 by omega)).trans ?_;refine bif_nn.trans ?_;refine(aL hk).trans ?_;refine(aL hk).trans ?_;refine(aK hn2).trans ?_
   obtain⟨Rg,hg,eg⟩:=R2 k hk
   refine(p9 hk hz.sess).trans ?_;unfold jH;rw[k5,← eg];rfl
end Go.Abs.Xz
