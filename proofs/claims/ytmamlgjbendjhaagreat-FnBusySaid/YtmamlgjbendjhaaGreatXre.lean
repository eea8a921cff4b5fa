/- What the functions of this program answer, part re. -/
import Derived.Test.YtmamlgjbendjhaaGreatXrd
set_option linter.unusedVariables false
namespace Go.Abs.Xz
open Go Go.Abs
theorem Hears.of{x:NodeT}{m:MsgT}(hz:SzN x)(hm:SzM m)(h:RecOk x m):Hears x m:=
 ⟨hz,hm,h.node,h.idn.1,by have h1:=h.idn;have h2:=h.vec;omega⟩
theorem F7{x:NodeT}{k:Nat}(hk:k<x.sess.length)(num:Int):(x.sess.set k ((gt x.sess k).1,num,(gt x.sess k).2.2)).set k ((gt (x.sess.set k ((gt x.sess k).1,num,(gt x.sess k).2.2)) k).1,(gt (x.sess.set k ((gt x.sess k).1,num,(gt x.sess k).2.2)) k).2.1,(gt (x.sess.set k ((gt x.sess k).1,num,(gt x.sess k).2.2)) k).2.2.1,(0:Int),(gt (x.sess.set k ((gt x.sess k).1,num,(gt x.sess k).2.2)) k).2.2.2.2)=lW x k num:=by
 rw[cS hk,pU];rfl
theorem IO{x:NodeT}{m:MsgT}{k:Nat}(e:bT x.sess m.2.1 true=(k:Int)):gU x m=false∧gT x m=lW x k m.2.2.2.1:=by
 unfold gU gT;rw[e,decide_eq_true (show((k:Nat):Int)≥0 by omega)];exact⟨rfl,by rw[Int.toNat_natCast];rfl⟩
theorem IM{x:NodeT}{m:MsgT}(e:bT x.sess m.2.1 true= -1):gU x m=(((x.sess.length:Nat):Int)==x.slots)∧gT x m=jH x m:=by
 unfold gU gT;rw[e];exact⟨rfl,rfl⟩
end Go.Abs.Xz
