/- What the functions of this program answer, part gu. -/
import Derived.Test.YtmamlgjbendjhaaGreatXgo
set_option linter.unusedVariables false
namespace Go.Abs.Xz
open Go Go.Abs
theorem vW{α:Type}[Inhabited α]{c:α→Int}:∀ (xs ys:List α),xs.length=ys.length→(∀ j,j<xs.length→c (gt xs j)≤c (gt ys j))→bQ c xs≤bQ c ys
 | [],[],_,_=>Int.le_refl _
 | x::xs,y::ys,h,h2=>by
  have h3:c x≤c y:=h2 0 (Nat.zero_lt_succ _)
  have h4:=vW xs ys (by simpa using h) fun j hj=>h2 (j+1) (Nat.succ_lt_succ hj)
  show c x+bQ c xs≤c y+bQ c ys
  omega
 | [],_::_,h,_=>by cases h
 | _::_,[],h,_=>by cases h
theorem GH(xs:List eO):cnT (.sl K141) xs=4*((xs.length:Nat):Int):=iM (c:=cnR K141) (n:=4) (fun x=>rfl) xs
theorem HU{w:bS}(h:Small E7 w):SzX w:=⟨HV h,zJ (P:=fun x:qE=>x.2.1.length≤aW) fun i hi=>(tsl (shd (stl ((tsl (shd (stl h))).2 i hi)))).1⟩
end Go.Abs.Xz
