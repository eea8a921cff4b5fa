/- What the functions of this program answer, part rf. -/
import Derived.Test.YtmamlgjbendjhaaGreatXre
set_option linter.unusedVariables false
namespace Go.Abs.Xz
open Go Go.Abs
def DA(r:CR):Out:=⟨[⟨K38,r.1⟩,⟨K49,(r.2.1,())⟩,⟨K3,(r.2.2,())⟩],[]⟩
theorem nJ(x:NodeT)(m:MsgT)(b:Bool):(m6 x m b<0∧(cE x.sess m.2.1 b= -1∨∃ k:Nat,k<x.sess.length∧cE x.sess m.2.1 b=(k:Int)∧((gt x.sess k).2.1 != m.2.2.2.1)=true))∨∃ k:Nat,k<x.sess.length∧cE x.sess m.2.1 b=(k:Int)∧((gt x.sess k).2.1 != m.2.2.2.1)=false∧m6 x m b=(k:Int):=by
 unfold m6
 rcases fY x.sess m.2.1 b with ⟨k,hk,e,_⟩ | ⟨e,_⟩<;>rw[e]
 ·rw[decide_eq_true (show((k:Nat):Int)≥0 by omega),Int.toNat_natCast]
  cases h:(gt x.sess k).2.1 != m.2.2.2.1 with
  | true=>exact .inl ⟨by show(-1:Int)<0;omega, .inr ⟨k,hk,rfl,h⟩⟩
  | false=>exact .inr ⟨k,hk,rfl,h,rfl⟩
 ·exact .inl ⟨by show(-1:Int)<0;omega, .inl rfl⟩
theorem iE{x:NodeT}{m:MsgT}(h0:(m.1==0)=false)(h1:(m.1==1)=false)(h2:(m.1==2)=false){b:Bool}(h4:(m.1==4)=b)(hf:m6 x m b<0):sX x m=(x,[],2):=by
 unfold sX;rw[h0,h1,h2,h4,decide_eq_true hf];rfl
theorem sW{x:NodeT}{m:MsgT}(h0:(m.1==0)=false)(h1:(m.1==1)=false)(h2:(m.1==2)=false){b:Bool}(h4:(m.1==4)=b){k:Nat}(hf:m6 x m b=(k:Int)):sX x m=sY x m k:=by
 unfold sX;rw[h0,h1,h2,h4,hf,decide_eq_false (show ¬ (k:Int)<0 by omega)];rfl
end Go.Abs.Xz
