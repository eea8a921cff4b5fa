/- What the functions of this program answer, part re. -/
import Derived.Test.YtmamlgjbendjhaaGreatXrd
set_option linter.unusedVariables false
namespace Go.Abs.Xz
open Go Go.Abs
theorem f117(x:NodeT)(m:MsgT)(b:Bool)(hv:x.sess.length≤aU):Ran p 2 117 [.val true ⟨K38,x⟩, .val true ⟨K43,m⟩, .val false ⟨K4,(b,())⟩] ⟨[⟨K3,(dK x m b,())⟩],[]⟩:=go117 fun n hn=>Ev.now fun aA=>by
 unfold T117 dK;refine(aB (f88 x m.2.1 b hv n (by omega))).trans ?_
 rcases dB x.sess m.2.1 b with ⟨k,hk,e,_⟩ | ⟨e,_⟩<;>rw[e]
 ·refine bif_nn.trans ?_;refine bif_nn.trans ?_;refine(aJ hk).trans ?_;rw[decide_eq_true (show((k:Nat):Int)≥0 by omega),Int.toNat_natCast]
  cases (gt x.sess k).2.1 != m.2.2.2.1<;>rfl
 ·rfl
theorem f118(x:NodeT)(k:Nat)(hz:SzN x)(hk:k<x.sess.length):Ran p 4 118 [.val true ⟨K38,x⟩, .val false ⟨K3,((k:Int),())⟩] ⟨[⟨K38,gI x k⟩],[]⟩:=go118 fun n hn=>Ev.now fun aA=>by
 rw[← AV hk hz.sess]
 unfold T118;refine(aB (f85 x hz n (by omega))).trans ?_;exact rK hk hz.sess
theorem Hears.of{x:NodeT}{m:MsgT}(hz:SzN x)(hm:SzM m)(h:RecOk x m):Hears x m:=
 ⟨hz,hm,h.node,h.idn.1,by have h1:=h.idn;have h2:=h.vec;omega⟩
theorem EC{x:NodeT}{k:Nat}(hk:k<x.sess.length)(num:Int):(x.sess.set k ((gt x.sess k).1,num,(gt x.sess k).2.2)).set k ((gt (x.sess.set k ((gt x.sess k).1,num,(gt x.sess k).2.2)) k).1,(gt (x.sess.set k ((gt x.sess k).1,num,(gt x.sess k).2.2)) k).2.1,(gt (x.sess.set k ((gt x.sess k).1,num,(gt x.sess k).2.2)) k).2.2.1,(0:Int),(gt (x.sess.set k ((gt x.sess k).1,num,(gt x.sess k).2.2)) k).2.2.2.2)=iY x k num:=by
 rw[cC hk,rX];rfl
theorem L4{x:NodeT}{m:MsgT}{k:Nat}(e:bW x.sess m.2.1 true=(k:Int)):dP x m=false∧dU x m=iY x k m.2.2.2.1:=by
 unfold dP dU;rw[e,decide_eq_true (show((k:Nat):Int)≥0 by omega)];exact⟨rfl,by rw[Int.toNat_natCast];rfl⟩
theorem L3{x:NodeT}{m:MsgT}(e:bW x.sess m.2.1 true= -1):dP x m=(((x.sess.length:Nat):Int)==x.slots)∧dU x m=iO x m:=by
 unfold dP dU;rw[e];exact⟨rfl,rfl⟩
theorem f116(x:NodeT)(m:MsgT)(hz:SzN x)(hm:SzM m)(R:RecOk x m):Ran p 9 116 [.val true ⟨K38,x⟩, .val true ⟨K43,m⟩] ⟨[⟨K38,(cF x m).1⟩,⟨K49,((cF x m).2.1,())⟩,⟨K3,((cF x m).2.2,())⟩],[]⟩:=go116 fun n hn=>Ev.now fun aA=>by
 have h0:=R.idn.1
 have hv:x.1.toNat<m.vec.length:=(Hears.of hz hm R).vec
 have go:dP x m=false→∀ {y:NodeT},withS x (dU x m)=y→Hears y m∧NodeOk (bP y m)∧SzN (bP y m)∧cF x m=(bP y m,[pL (bP y m) x m],0):=by
  intro hf y e
  have hr:=R.syn hf
  have hs:=lB hz (kK R.node m)
  rw[e] at hr hs
  refine⟨Hears.of hs hm hr,hr.node.heard m,fP hs m,?_⟩
  unfold cF jN;rw[hf,e];rfl
 unfold T116;refine(aB (f85 x hz n (by omega))).trans ?_;refine(aB (f88 x m.2.1 true hz.sess n (by omega))).trans ?_
 rcases dB x.sess m.2.1 true with ⟨k,hk,e,_⟩ | ⟨e,_⟩
 ·obtain⟨hf,hs⟩:=L4 e
  have hk2:k<(x.sess.set k ((gt x.sess k).1,m.2.2.2.1,(gt x.sess k).2.2)).length:=by rw[List.length_set];exact hk
  obtain⟨hh,ho,hz2,he⟩:=go hf (y:=withS x ((x.sess.set k ((gt x.sess k).1,m.2.2.2.1,(gt x.sess k).2.2)).set k ((gt (x.sess.set k ((gt x.sess k).1,m.2.2.2.1,(gt x.sess k).2.2)) k).1,(gt (x.sess.set k ((gt x.sess k).1,m.2.2.2.1,(gt x.sess k).2.2)) k).2.1,(gt (x.sess.set k ((gt x.sess k).1,m.2.2.2.1,(gt x.sess k).2.2)) k).2.2.1,(0:Int),(gt (x.sess.set k ((gt x.sess k).1,m.2.2.2.1,(gt x.sess k).2.2)) k).2.2.2.2))) (by rw[hs,EC hk])
  rw[he,e];refine bif_nn.trans ?_;refine bif_nn.trans ?_;refine(aJ hk).trans ?_;refine(aJ hk).trans ?_;refine bif_nn.trans ?_;refine(aJ hk2).trans ?_;refine(aJ hk2).trans ?_
  refine(aB (f115 _ m hh n (by omega))).trans ?_;refine(aB (f89 _ 3 m.2.1 m.2.2.2.1 hz2 n (by omega))).trans ?_;refine(aB (f90 (bP _ m).tree hz2.leaves n (by omega))).trans ?_;refine(aB (f258 (bP _ m).tree m.tree n (by omega))).trans ?_;refine(aE h0).trans ?_;refine(aZ hv).trans ?_;refine(aB (f119 _ (eT (bP _ m).tree m.tree) (gt m.vec x.1.toNat).1 hz2 ho (Nat.le_trans (kA _ _) (by decide)) n (by omega))).trans ?_;rfl
 ·obtain⟨hf,hs⟩:=L3 e
  rw[e];refine(aF rfl).trans ?_
  cases hl:((x.sess.length:Nat):Int)==x.slots with
  | true=>
   rw[hl] at hf
   refine(aN hl).trans ?_;refine(aB (f89 x 5 m.2.1 m.2.2.2.1 hz n (by omega))).trans ?_;unfold cF;rw[hf];rfl
  | false=>
   rw[hl] at hf
   obtain⟨hh,ho,hz2,he⟩:=go hf (y:=withS x (iO x m)) (by rw[hs])
   have hb:x.sess.length+1≤bound:=by have:=hz.sess;unfold aU at this;unfold bound;omega
   rw[he];refine(aF hl).trans ?_;refine(aE hb).trans ?_
   refine(aB (f115 (withS x (iO x m)) m hh n (by omega))).trans ?_;refine(aB (f89 _ 3 m.2.1 m.2.2.2.1 hz2 n (by omega))).trans ?_;refine(aB (f90 (bP _ m).tree hz2.leaves n (by omega))).trans ?_;refine(aB (f258 (bP _ m).tree m.tree n (by omega))).trans ?_;refine(aE h0).trans ?_;refine(aZ hv).trans ?_;refine(aB (f119 _ (eT (bP _ m).tree m.tree) (gt m.vec x.1.toNat).1 hz2 ho (Nat.le_trans (kA _ _) (by decide)) n (by omega))).trans ?_;rfl
end Go.Abs.Xz
