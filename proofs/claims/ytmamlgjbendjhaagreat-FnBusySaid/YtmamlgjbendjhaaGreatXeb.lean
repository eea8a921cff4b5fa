/- What the functions of this program answer, part eb. -/
import Derived.Test.YtmamlgjbendjhaaGreatXea
set_option linter.unusedVariables false
set_option maxHeartbeats 2000000
namespace Go.Abs.Xz
open Go Go.Abs
theorem kL{α:Type}[Inhabited α]{f:α→α→Bool}(h:∀ x,f x x=true)(xs:List α):lS f xs xs=true:=by
 unfold lS fM;rw[Bool.and_eq_true];exact⟨by simp,bK.2 fun i _=>h _⟩
theorem rE(x:NodeT):tP x x=true:=by
 have s1:lS p5 x.seen x.seen=true:=kL (fun r=>gM r.1) _
 have s2:dG x.state x.state=true:=jJ.2 rfl
 have s3:wQ x.tree x.tree=true:=by unfold wQ;rw[gM];simp
 have s4:tX x.log x.log=true:=by unfold tX;rw[kL (fun s=>jJ.2 rfl)];simp
 have s5:lS mD x.sess x.sess=true:=kL (fun s=>by unfold mD;rw[show eJ s.1 s.1=true from kD.2 rfl,show eJ s.2.1 s.2.1=true from kD.2 rfl,show eJ s.2.2.2.1 s.2.2.2.1=true from kD.2 rfl,wI];rfl) _
 have s6:lS jP x.rises x.rises=true:=kL (fun s=>by unfold jP;rw[show eJ s.1 s.1=true from kD.2 rfl,show eJ s.2.1 s.2.1=true from kD.2 rfl,show eJ s.2.2.1 s.2.2.1=true from kD.2 rfl];rfl) _
 unfold tP
 rw[s1,s2,s3,s4,s5,s6,gM,gM]
 simp
theorem f15(b:List aY):Ran p 1 15 [.val false ⟨K22,(b,())⟩] ⟨[⟨K4,(decide (((b.length:Nat):Int)>1048576),())⟩],[]⟩:=go15 fun n hn=>Ev.now fun aA=>by
 unfold T15;rfl
end Go.Abs.Xz
