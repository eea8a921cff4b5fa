/- What the functions of this program answer, part re. -/
import Derived.Test.YtmamlgjbendjhaaGreatXrd
set_option linter.unusedVariables false
namespace Go.Abs.Xz
open Go Go.Abs
theorem f117(x:NodeT)(m:MsgT)(b:Bool)(hv:x.sess.length≤bA):Ran p 2 117 [.val true ⟨K38,x⟩, .val true ⟨K43,m⟩, .val false ⟨K4,(b,())⟩] ⟨[⟨K3,(nI x m b,())⟩],[]⟩:=go117 fun n hn=>Ev.now fun aA=>by
 unfold T117 nI;refine(aD (f88 x m.2.1 b hv n (by omega))).trans ?_
 rcases fK x.sess m.2.1 b with ⟨k,hk,e,_⟩ | ⟨e,_⟩<;>rw[e]
 ·refine(aF (Int.natCast_nonneg _)).trans ?_;refine(aF (Int.natCast_nonneg _)).trans ?_;refine(aM hk).trans ?_;rw[decide_eq_true (show((k:Nat):Int)≥0 by omega),Int.toNat_natCast]
  cases (gt x.sess k).2.1 != m.2.2.2.1<;>rfl
 ·rfl
theorem f118(x:NodeT)(k:Nat)(hz:SzN x)(hk:k<x.sess.length):Ran p 4 118 [.val true ⟨K38,x⟩, .val false ⟨K3,((k:Int),())⟩] ⟨[⟨K38,gX x k⟩],[]⟩:=go118 fun n hn=>Ev.now fun aA=>by
 rw[← xT hk hz.sess]
 unfold T118;refine(aD (f85 x hz n (by omega))).trans ?_;exact pL hk hz.sess
theorem Hears.of{x:NodeT}{m:MsgT}(hz:SzN x)(hm:SzM m)(h:RecOk x m):Hears x m:=
 ⟨hz,hm,h.node,h.idn.1,by have h1:=h.idn;have h2:=h.vec;omega⟩
theorem z9{x:NodeT}{k:Nat}(hk:k<x.sess.length)(num:Int):(x.sess.set k ((gt x.sess k).1,num,(gt x.sess k).2.2)).set k ((gt (x.sess.set k ((gt x.sess k).1,num,(gt x.sess k).2.2)) k).1,(gt (x.sess.set k ((gt x.sess k).1,num,(gt x.sess k).2.2)) k).2.1,(gt (x.sess.set k ((gt x.sess k).1,num,(gt x.sess k).2.2)) k).2.2.1,(0:Int),(gt (x.sess.set k ((gt x.sess k).1,num,(gt x.sess k).2.2)) k).2.2.2.2)=lA x k num:=by
 rw[eI hk,pY];rfl
theorem F7{x:NodeT}{m:MsgT}{k:Nat}(e:cX x.sess m.2.1 true=(k:Int)):iB x m=false∧eU x m=lA x k m.2.2.2.1:=by
 unfold iB eU;rw[e,decide_eq_true (show((k:Nat):Int)≥0 by omega)];exact⟨rfl,by rw[Int.toNat_natCast];rfl⟩
theorem F6{x:NodeT}{m:MsgT}(e:cX x.sess m.2.1 true= -1):iB x m=(((x.sess.length:Nat):Int)==x.slots)∧eU x m=gV x m:=by
 unfold iB eU;rw[e];exact⟨rfl,rfl⟩
theorem f116(x:NodeT)(m:MsgT)(hz:SzN x)(hm:SzM m)(R:RecOk x m):Ran p 9 116 [.val true ⟨K38,x⟩, .val true ⟨K43,m⟩] ⟨[⟨K38,(hI x m).1⟩,⟨K49,((hI x m).2.1,())⟩,⟨K3,((hI x m).2.2,())⟩],[]⟩:=go116 fun n hn=>Ev.now fun aA=>by
 have h0:=R.idn.1
 have hv:x.1.toNat<m.vec.length:=(Hears.of hz hm R).vec
 have go:iB x m=false→∀ {y:NodeT},withS x (eU x m)=y→Hears y m∧NodeOk (cK y m)∧SzN (cK y m)∧hI x m=(cK y m,[wM (cK y m) x m],0):=by
  intro hf y e
  have hr:=R.syn hf
  have hs:=oK hz (lY R.node m)
  rw[e] at hr hs
  refine⟨Hears.of hs hm hr,hr.node.heard m,fP hs m,?_⟩
  unfold hI y2;rw[hf,e];rfl
 unfold T116;refine(aD (f85 x hz n (by omega))).trans ?_;refine(aD (f88 x m.2.1 true hz.sess n (by omega))).trans ?_
 rcases fK x.sess m.2.1 true with ⟨k,hk,e,_⟩ | ⟨e,_⟩
 ·obtain⟨hf,hs⟩:=F7 e
  have hk2:k<(x.sess.set k ((gt x.sess k).1,m.2.2.2.1,(gt x.sess k).2.2)).length:=by rw[List.length_set];exact hk
  obtain⟨hh,ho,hz2,he⟩:=go hf (y:=withS x ((x.sess.set k ((gt x.sess k).1,m.2.2.2.1,(gt x.sess k).2.2)).set k ((gt (x.sess.set k ((gt x.sess k).1,m.2.2.2.1,(gt x.sess k).2.2)) k).1,(gt (x.sess.set k ((gt x.sess k).1,m.2.2.2.1,(gt x.sess k).2.2)) k).2.1,(gt (x.sess.set k ((gt x.sess k).1,m.2.2.2.1,(gt x.sess k).2.2)) k).2.2.1,(0:Int),(gt (x.sess.set k ((gt x.sess k).1,m.2.2.2.1,(gt x.sess k).2.2)) k).2.2.2.2))) (by rw[hs,z9 hk])
  rw[he,e];refine(aF (Int.natCast_nonneg _)).trans ?_;refine(aF (Int.natCast_nonneg _)).trans ?_;refine(aM hk).trans ?_;refine(aM hk).trans ?_;refine(aF (Int.natCast_nonneg _)).trans ?_;refine(aM hk2).trans ?_;refine(aM hk2).trans ?_
  refine(aD (f115 _ m hh n (by omega))).trans ?_;refine(aD (f89 _ 3 m.2.1 m.2.2.2.1 hz2 n (by omega))).trans ?_;refine(aD (f90 (cK _ m).tree hz2.leaves n (by omega))).trans ?_;refine(aD (f258 (cK _ m).tree m.tree n (by omega))).trans ?_;refine(aF h0).trans ?_;refine(bD hv).trans ?_;refine(aD (f119 _ (fH (cK _ m).tree m.tree) (gt m.vec x.1.toNat).1 hz2 ho (Nat.le_trans (jN _ _) (by decide)) n (by omega))).trans ?_;rfl
 ·obtain⟨hf,hs⟩:=F6 e
  rw[e];refine(aN rfl).trans ?_
  cases hl:((x.sess.length:Nat):Int)==x.slots with
  | true=>
   rw[hl] at hf
   refine(aX hl).trans ?_;refine(aD (f89 x 5 m.2.1 m.2.2.2.1 hz n (by omega))).trans ?_;unfold hI;rw[hf];rfl
  | false=>
   rw[hl] at hf
   obtain⟨hh,ho,hz2,he⟩:=go hf (y:=withS x (gV x m)) (by rw[hs])
   have hb:x.sess.length+1≤bound:=by have:=hz.sess;unfold bA at this;unfold bound;omega
   rw[he];refine(aN hl).trans ?_;refine(aF hb).trans ?_
   refine(aD (f115 (withS x (gV x m)) m hh n (by omega))).trans ?_;refine(aD (f89 _ 3 m.2.1 m.2.2.2.1 hz2 n (by omega))).trans ?_;refine(aD (f90 (cK _ m).tree hz2.leaves n (by omega))).trans ?_;refine(aD (f258 (cK _ m).tree m.tree n (by omega))).trans ?_;refine(aF h0).trans ?_;refine(bD hv).trans ?_;refine(aD (f119 _ (fH (cK _ m).tree m.tree) (gt m.vec x.1.toNat).1 hz2 ho (Nat.le_trans (jN _ _) (by decide)) n (by omega))).trans ?_;rfl
end Go.Abs.Xz
