/- What the functions of this program answer, part gu. -/
import Derived.Test.YtmamlgjbendjhaaGreatXgo
set_option linter.unusedVariables false
open Go.IntKind (i64)
namespace Go.Abs.Xz
open Go Go.Abs
def xL(x:c7):c7:=(x.1,x.2.1,x.2.2.1,i64.wrap (x.2.2.2.1+1),())
def m7(x:NodeT)(i:Nat):List c7:=bif decide (i64.wrap ((gt x.sess i).2.2.2.1+1)≤x.wait)then[xL (gt x.sess i)] else[]
theorem xM(x:NodeT)(i:Nat):(m7 x i).length≤1:=by
 unfold m7;cases decide (i64.wrap ((gt x.sess i).2.2.2.1+1)≤x.wait)<;>simp
def uV(y:NodeT):NodeT:=(y.1,y.2.1,y.2.2.1,y.2.2.2.1,y.2.2.2.2.1,y.2.2.2.2.2.1,y.2.2.2.2.2.2.1,y.2.2.2.2.2.2.2.1,y.2.2.2.2.2.2.2.2.1,y.2.2.2.2.2.2.2.2.2.1,y.2.2.2.2.2.2.2.2.2.2.1,y.2.2.2.2.2.2.2.2.2.2.2.1,y.2.2.2.2.2.2.2.2.2.2.2.2.1,y.2.2.2.2.2.2.2.2.2.2.2.2.2.1,bH y.sess.length (m7 y),y.wait,y.limit,i64.wrap (y.clock+1),y.rises,())
def mP(x:NodeT):NodeT:=bif eF x then(bif x.clock==100000 then x else uV x)else x
theorem xN(x:NodeT):(uV x).sess.length≤x.sess.length:=by
 have:=cZ (g:=m7 x) (L:=1) (n:=x.sess.length) fun i _=>xM x i
 show(bH x.sess.length (m7 x)).length≤x.sess.length
 omega
theorem HB{x:NodeT}(h:SzN x):SzN (mP x):=by
 unfold mP
 cases eF x with
 | false=>exact h
 | true=>
  cases x.clock==100000 with
  | true=>exact h
  | false=>exact⟨h.state,h.leaves,h.list,h.logs,h.got,h.acked,h.seen,h.lines,Nat.le_trans (xN x) h.sess,h.rises⟩

theorem f297(x:NodeT)(hz:SzN x):Ran p 8 297 [.val true ⟨K38,x⟩] ⟨[⟨K38,mP x⟩],[]⟩:=go297 fun n hn=>by
 unfold mP
 cases ho:eF x with
 | false=>exact Ev.now fun aA=>by show T297 (aK p n) aA x=some ⟨[⟨K38,x⟩],[]⟩;unfold T297;refine(aB (f85 x hz n (by omega))).trans ?_;refine(aB (f86 x hz n (by omega))).trans ?_;rw[ho];rfl
 | true=>
  cases hc:x.clock==100000 with
  | true=>exact Ev.now fun aA=>by show T297 (aK p n) aA x=some ⟨[⟨K38,x⟩],[]⟩;unfold T297;refine(aB (f85 x hz n (by omega))).trans ?_;refine(aB (f86 x hz n (by omega))).trans ?_;rw[ho];refine(aF rfl).trans ?_;exact aN hc
  | false=>
   have lp:It (fun aA (_:Unit)=>c297_7 (aK p n) aA x ((x,()),())) ((0:Int),([]:List c7)) (fun _=>some ⟨[⟨K38,uV x⟩],[]⟩):=by
    refine It.accu (α:=c7) [] (m7 x) x.sess.length 1 (fun i _=>xM x i) (fun i hi acc ha aA u rec=>?_) (It.stop fun aA u rec=>?_)
    ·show c297_7 (aK p n) aA x ((x,()),()) rec ((i:Int),acc)=rec (((i+1:Nat):Int),acc++m7 x i)
     unfold c297_7 m7;dsimp only;rw[aL (i63 hi hz.sess)];refine(aE (Int.ofNat_lt.2 hi)).trans ?_;refine bif_nn.trans ?_;refine(aJ hi).trans ?_
     by_cases h:i64.wrap ((gt x.sess i).2.2.2.1+1)≤x.wait
     ·refine(aE h).trans ?_;refine(aE ?_).trans ?_
      ·have h1:(m7 x i).length=1:=by unfold m7;rw[decide_eq_true h];rfl
       have h2:=hz.sess
       rw[h1] at ha
       show acc.length+1≤bound
       unfold aU at h2;unfold bound;simp at ha;omega
      ·rw[decide_eq_true h];rfl
     ·refine(aI h).trans ?_;rw[decide_eq_false h];show rec _=rec _;rw[show(bif false then[xL (gt x.sess i)] else[])=([]:List c7)from rfl,List.append_nil];rfl
    ·show c297_7 (aK p n) aA x ((x,()),()) rec ((x.sess.length:Int),bH x.sess.length (m7 x))=_
     unfold c297_7;dsimp only;refine(aI (Int.lt_irrefl _)).trans ?_;rfl
   exact Ev.eq (fun aA=>by
    unfold T297;refine(aB (f85 x hz n (by omega))).trans ?_;refine(aB (f86 x hz n (by omega))).trans ?_;rw[ho];refine(aF rfl).trans ?_;exact aF hc) (lp.ev (i:=()) rfl)
theorem xP{α:Type}[Inhabited α]{c:α→Int}:∀ (xs ys:List α),xs.length=ys.length→(∀ j,j<xs.length→c (gt xs j)≤c (gt ys j))→fZ c xs≤fZ c ys
 | [],[],_,_=>Int.le_refl _
 | x::xs,y::ys,h,h2=>by
  have h3:c x≤c y:=h2 0 (Nat.zero_lt_succ _)
  have h4:=xP xs ys (by simpa using h) fun j hj=>h2 (j+1) (Nat.succ_lt_succ hj)
  show c x+fZ c xs≤c y+fZ c ys
  omega
 | [],_::_,h,_=>by cases h
 | _::_,[],h,_=>by cases h
theorem KR(xs:List c7):cnT (.sl K141) xs=4*((xs.length:Nat):Int):=iU (c:=cnR K141) (n:=4) (fun x=>rfl) xs
end Go.Abs.Xz
