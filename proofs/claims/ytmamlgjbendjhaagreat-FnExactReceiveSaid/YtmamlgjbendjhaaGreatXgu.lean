/- What the functions of this program answer, part gu. -/
import Derived.Test.YtmamlgjbendjhaaGreatXgo
set_option linter.unusedVariables false
namespace Go.Abs.Xz
open Go Go.Abs
theorem uX{α:Type}[Inhabited α]{c:α→Int}:∀ (xs ys:List α),xs.length=ys.length→(∀ j,j<xs.length→c (gt xs j)≤c (gt ys j))→cI c xs≤cI c ys
 | [],[],_,_=>Int.le_refl _
 | x::xs,y::ys,h,h2=>by
  have h3:c x≤c y:=h2 0 (Nat.zero_lt_succ _)
  have h4:=uX xs ys (by simpa using h) fun j hj=>h2 (j+1) (Nat.succ_lt_succ hj)
  show c x+cI c xs≤c y+cI c ys
  omega
 | [],_::_,h,_=>by cases h
 | _::_,[],h,_=>by cases h
theorem E9(xs:List eJ):cnT (.sl K141) xs=4*((xs.length:Nat):Int):=gZ (c:=cnR K141) (n:=4) (fun x=>rfl) xs
end Go.Abs.Xz
