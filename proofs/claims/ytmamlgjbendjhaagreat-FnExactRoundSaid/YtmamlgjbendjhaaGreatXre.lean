/- What the functions of this program answer, part re. -/
import Derived.Test.YtmamlgjbendjhaaGreatXrd
set_option linter.unusedVariables false
namespace Go.Abs.Xz
open Go Go.Abs
theorem f117(x:NodeT)(m:MsgT)(b:Bool)(hv:x.sess.length≤aX):Ran p 2 117 [va K38 x, va K43 m, vf K4 (b,())] (rO K3 (nR x m b,())):=go117 fun n hn=>Ev.now fun aA=>by
 unfold T117 nR;refine(aC (f88 x m.2.1 b hv n (by omega))).trans ?_
 rcases eZ x.sess m.2.1 b with ⟨k,hk,e,_⟩ | ⟨e,_⟩<;>rw[e]
 ·refine bif_nn.trans ?_;refine bif_nn.trans ?_;refine(aK hk).trans ?_;rw[decide_eq_true (show((k:Nat):Int)≥0 by omega),Int.toNat_natCast]
  cases (gt x.sess k).2.1 != m.2.2.2.1<;>rfl
 ·rfl
theorem f118(x:NodeT)(k:Nat)(hz:SzN x)(hk:k<x.sess.length):Ran p 4 118 [va K38 x, vf K3 ((k:Int),())] (rO K38 (iX x k)):=go118 fun n hn=>Ev.now fun aA=>by
 rw[← AA hk hz.sess]
 unfold T118;refine(aC (f85 x hz n (by omega))).trans ?_;exact qT hk hz.sess
theorem Hears.of{x:NodeT}{m:MsgT}(hz:SzN x)(hm:SzM m)(h:RecOk x m):Hears x m:=
 ⟨hz,hm,h.node,h.idn.1,by have h1:=h.idn;have h2:=h.vec;omega⟩
theorem CV{x:NodeT}{k:Nat}(hk:k<x.sess.length)(num:Int):(x.sess.set k ((gt x.sess k).1,num,(gt x.sess k).2.2)).set k ((gt (x.sess.set k ((gt x.sess k).1,num,(gt x.sess k).2.2)) k).1,(gt (x.sess.set k ((gt x.sess k).1,num,(gt x.sess k).2.2)) k).2.1,(gt (x.sess.set k ((gt x.sess k).1,num,(gt x.sess k).2.2)) k).2.2.1,(0:Int),(gt (x.sess.set k ((gt x.sess k).1,num,(gt x.sess k).2.2)) k).2.2.2.2)=mE x k num:=by
 rw[dG hk,rI];rfl
theorem I3{x:NodeT}{m:MsgT}{k:Nat}(e:cP x.sess m.2.1 true=(k:Int)):iJ x m=false∧fO x m=mE x k m.2.2.2.1:=by
 unfold iJ fO;rw[e,decide_eq_true (show((k:Nat):Int)≥0 by omega)];exact⟨rfl,by rw[Int.toNat_natCast];rfl⟩
theorem I2{x:NodeT}{m:MsgT}(e:cP x.sess m.2.1 true= -1):iJ x m=((x.sess.length:Int)==x.slots)∧fO x m=iS x m:=by
 unfold iJ fO;rw[e];exact⟨rfl,rfl⟩
theorem f116(x:NodeT)(m:MsgT)(hz:SzN x)(hm:SzM m)(R:RecOk x m):Ran p 9 116 [va K38 x, va K43 m] ⟨[⟨K38,(hS x m).1⟩,⟨K49,((hS x m).2.1,())⟩,⟨K3,((hS x m).2.2,())⟩],[]⟩:=go116 fun n hn=>Ev.now fun aA=>by
 have h0:=R.idn.1
 have hv:x.1.toNat<m.vec.length:=(Hears.of hz hm R).vec
 have go:iJ x m=false→∀ {y:NodeT},withS x (fO x m)=y→Hears y m∧NodeOk (cK y m)∧SzN (cK y m)∧hS x m=(cK y m,[yW (cK y m) x m],0):=by
  intro hf y e
  have hr:=R.syn hf
  have hs:=pX hz (m8 R.node m)
  rw[e] at hr hs
  refine⟨Hears.of hs hm hr,hr.node.heard m,gI hs m,?_⟩
  unfold hS BR;rw[hf,e];rfl
 unfold T116;refine(aC (f85 x hz n (by omega))).trans ?_;refine(aC (f88 x m.2.1 true hz.sess n (by omega))).trans ?_
 rcases eZ x.sess m.2.1 true with ⟨k,hk,e,_⟩ | ⟨e,_⟩
 ·obtain⟨hf,hs⟩:=I3 e
  have hk2:k<(x.sess.set k ((gt x.sess k).1,m.2.2.2.1,(gt x.sess k).2.2)).length:=by rw[List.length_set];exact hk
  obtain⟨hh,ho,hz2,he⟩:=go hf (y:=withS x ((x.sess.set k ((gt x.sess k).1,m.2.2.2.1,(gt x.sess k).2.2)).set k ((gt (x.sess.set k ((gt x.sess k).1,m.2.2.2.1,(gt x.sess k).2.2)) k).1,(gt (x.sess.set k ((gt x.sess k).1,m.2.2.2.1,(gt x.sess k).2.2)) k).2.1,(gt (x.sess.set k ((gt x.sess k).1,m.2.2.2.1,(gt x.sess k).2.2)) k).2.2.1,(0:Int),(gt (x.sess.set k ((gt x.sess k).1,m.2.2.2.1,(gt x.sess k).2.2)) k).2.2.2.2))) (by rw[hs,CV hk])
  rw[he,e];refine bif_nn.trans ?_;refine bif_nn.trans ?_;refine(aK hk).trans ?_;refine(aK hk).trans ?_;refine bif_nn.trans ?_;refine(aK hk2).trans ?_;refine(aK hk2).trans ?_
  refine(aC (f115 _ m hh n (by omega))).trans ?_;refine(aC (f89 _ 3 m.2.1 m.2.2.2.1 hz2 n (by omega))).trans ?_;refine(aC (f90 (cK _ m).tree hz2.leaves n (by omega))).trans ?_;refine(aC (f258 (cK _ m).tree m.tree n (by omega))).trans ?_;refine(aE h0).trans ?_;refine(aR hv).trans ?_;refine(aC (f119 _ (gC (cK _ m).tree m.tree) (gt m.vec x.1.toNat).1 hz2 ho (Nat.le_trans (kM _ _) (by decide)) n (by omega))).trans ?_;rfl
 ·obtain⟨hf,hs⟩:=I2 e
  rw[e];refine(aL rfl).trans ?_
  cases hl:(x.sess.length:Int)==x.slots with
  | true=>
   rw[hl] at hf
   refine(aN hl).trans ?_;refine(aC (f89 x 5 m.2.1 m.2.2.2.1 hz n (by omega))).trans ?_;unfold hS;rw[hf];rfl
  | false=>
   rw[hl] at hf
   obtain⟨hh,ho,hz2,he⟩:=go hf (y:=withS x (iS x m)) (by rw[hs])
   have hb:x.sess.length+1≤bound:=by have:=hz.sess;unfold aX at this;unfold bound;omega
   rw[he];refine(aL hl).trans ?_;refine(aE hb).trans ?_
   refine(aC (f115 (withS x (iS x m)) m hh n (by omega))).trans ?_;refine(aC (f89 _ 3 m.2.1 m.2.2.2.1 hz2 n (by omega))).trans ?_;refine(aC (f90 (cK _ m).tree hz2.leaves n (by omega))).trans ?_;refine(aC (f258 (cK _ m).tree m.tree n (by omega))).trans ?_;refine(aE h0).trans ?_;refine(aR hv).trans ?_;refine(aC (f119 _ (gC (cK _ m).tree m.tree) (gt m.vec x.1.toNat).1 hz2 ho (Nat.le_trans (kM _ _) (by decide)) n (by omega))).trans ?_;rfl
end Go.Abs.Xz
