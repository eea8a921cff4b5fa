/- What the functions of this program answer, part eb. -/
import Derived.Test.YtmamlgjbendjhaaGreatXea
set_option linter.unusedVariables false
set_option maxHeartbeats 2000000
namespace Go.Abs.Xz
open Go Go.Abs
theorem lO{α:Type}[Inhabited α]{f:α→α→Bool}(h:∀ x,f x x=true)(xs:List α):m7 f xs xs=true:=by
 unfold m7 gJ;rw[Bool.and_eq_true];exact⟨by simp,bI.2 fun i _=>h _⟩
theorem tF(x:NodeT):vJ x x=true:=by
 have s1:m7 rY x.seen x.seen=true:=lO (fun r=>iR r.1) _
 have s2:eF x.state x.state=true:=iW.2 rfl
 have s3:yW x.tree x.tree=true:=by unfold yW;rw[iR];simp
 have s4:vU x.log x.log=true:=by unfold vU;rw[lO (fun s=>iW.2 rfl)];simp
 have s5:m7 nN x.sess x.sess=true:=lO (fun s=>by unfold nN;rw[show fK s.1 s.1=true from lK.2 rfl,show fK s.2.1 s.2.1=true from lK.2 rfl,show fK s.2.2.2.1 s.2.2.2.1=true from lK.2 rfl,yM];rfl) _
 have s6:m7 kS x.rises x.rises=true:=lO (fun s=>by unfold kS;rw[show fK s.1 s.1=true from lK.2 rfl,show fK s.2.1 s.2.1=true from lK.2 rfl,show fK s.2.2.1 s.2.2.1=true from lK.2 rfl];rfl) _
 unfold vJ
 rw[s1,s2,s3,s4,s5,s6,iR,iR]
 simp
theorem f15(b:List aZ):Ran p 1 15 [.val false ⟨K22,(b,())⟩] ⟨[⟨K4,(decide (((b.length:Nat):Int)>1048576),())⟩],[]⟩:=go15 fun n hn=>Ev.now fun aA=>by
 unfold T15;rfl
end Go.Abs.Xz
