/- What the functions of this program answer, part re. -/
import Derived.Test.YtmamlgjbendjhaaGreatXrd
set_option linter.unusedVariables false
namespace Go.Abs.Xz
open Go Go.Abs
theorem Hears.of{x:NodeT}{m:MsgT}(hz:SzN x)(hm:SzM m)(h:RecOk x m):Hears x m:=
 ⟨hz,hm,h.node,h.idn.1,by have h1:=h.idn;have h2:=h.vec;omega⟩
theorem FI{x:NodeT}{k:Nat}(hk:k<x.sess.length)(num:Int):(x.sess.set k ((gt x.sess k).1,num,(gt x.sess k).2.2)).set k ((gt (x.sess.set k ((gt x.sess k).1,num,(gt x.sess k).2.2)) k).1,(gt (x.sess.set k ((gt x.sess k).1,num,(gt x.sess k).2.2)) k).2.1,(gt (x.sess.set k ((gt x.sess k).1,num,(gt x.sess k).2.2)) k).2.2.1,(0:Int),(gt (x.sess.set k ((gt x.sess k).1,num,(gt x.sess k).2.2)) k).2.2.2.2)=lL x k num:=by
 rw[cQ hk,pH];rfl
theorem HZ{x:NodeT}{m:MsgT}{k:Nat}(e:cE x.sess m.2.1 true=(k:Int)):i7 x m=false∧gQ x m=lL x k m.2.2.2.1:=by
 unfold i7 gQ;rw[e,decide_eq_true (show((k:Nat):Int)≥0 by omega)];exact⟨rfl,by rw[Int.toNat_natCast];rfl⟩
theorem HY{x:NodeT}{m:MsgT}(e:cE x.sess m.2.1 true= -1):i7 x m=(((x.sess.length:Nat):Int)==x.slots)∧gQ x m=jC x m:=by
 unfold i7 gQ;rw[e];exact⟨rfl,rfl⟩
end Go.Abs.Xz
