/- What the functions of this program answer, part eb. -/
import Derived.Test.YtmamlgjbendjhaaGreatXea
set_option linter.unusedVariables false
set_option maxHeartbeats 2000000
namespace Go.Abs.Xz
open Go Go.Abs
theorem lV{α:Type}[Inhabited α]{f:α→α→Bool}(h:∀ x,f x x=true)(xs:List α):nE f xs xs=true:=by
 unfold nE gL;rw[Bool.and_eq_true];exact⟨by simp,bJ.2 fun i _=>h _⟩
theorem A7(x:NodeT):vT x x=true:=by
 have s1:nE sG x.seen x.seen=true:=lV (fun r=>gW r.1) _
 have s2:dJ x.state x.state=true:=gK.2 rfl
 have s3:y4 x.tree x.tree=true:=by unfold y4;rw[gW];simp
 have s4:v5 x.log x.log=true:=by unfold v5;rw[lV (fun s=>gK.2 rfl)];simp
 have s5:nE nU x.sess x.sess=true:=lV (fun s=>by unfold nU;rw[show eM s.1 s.1=true from lQ.2 rfl,show eM s.2.1 s.2.1=true from lQ.2 rfl,show eM s.2.2.2.1 s.2.2.2.1=true from lQ.2 rfl,yS];rfl) _
 have s6:nE kY x.rises x.rises=true:=lV (fun s=>by unfold kY;rw[show eM s.1 s.1=true from lQ.2 rfl,show eM s.2.1 s.2.1=true from lQ.2 rfl,show eM s.2.2.1 s.2.2.1=true from lQ.2 rfl];rfl) _
 unfold vT
 rw[s1,s2,s3,s4,s5,s6,gW,gW]
 simp
theorem f15(b:List aX):Ran p 1 15 [.val false ⟨K22,(b,())⟩] ⟨[⟨K4,(decide (((b.length:Nat):Int)>1048576),())⟩],[]⟩:=go15 fun n hn=>Ev.now fun aA=>by
 unfold T15;rfl
end Go.Abs.Xz
