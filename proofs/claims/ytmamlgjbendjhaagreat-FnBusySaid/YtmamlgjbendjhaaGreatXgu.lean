/- What the functions of this program answer, part gu. -/
import Derived.Test.YtmamlgjbendjhaaGreatXgo
set_option linter.unusedVariables false
namespace Go.Abs.Xz
open Go Go.Abs
def u7(x:c5):c5:=(x.1,x.2.1,x.2.2.1,IntKind.i64.wrap (x.2.2.2.1+1),())
def lN(x:NodeT)(i:Nat):List c5:=bif decide (IntKind.i64.wrap ((gt x.sess i).2.2.2.1+1)≤x.wait)then[u7 (gt x.sess i)] else[]
theorem u9(x:NodeT)(i:Nat):(lN x i).length≤1:=by
 unfold lN;cases decide (IntKind.i64.wrap ((gt x.sess i).2.2.2.1+1)≤x.wait)<;>simp
def sV(y:NodeT):NodeT:=(y.1,y.2.1,y.2.2.1,y.2.2.2.1,y.2.2.2.2.1,y.2.2.2.2.2.1,y.2.2.2.2.2.2.1,y.2.2.2.2.2.2.2.1,y.2.2.2.2.2.2.2.2.1,y.2.2.2.2.2.2.2.2.2.1,y.2.2.2.2.2.2.2.2.2.2.1,y.2.2.2.2.2.2.2.2.2.2.2.1,y.2.2.2.2.2.2.2.2.2.2.2.2.1,y.2.2.2.2.2.2.2.2.2.2.2.2.2.1,bE y.sess.length (lN y),y.wait,y.limit,IntKind.i64.wrap (y.clock+1),y.rises,())
def lH(x:NodeT):NodeT:=bif dC x then(bif x.clock==100000 then x else sV x)else x
theorem vA(x:NodeT):(sV x).sess.length≤x.sess.length:=by
 have:=cN (g:=lN x) (L:=1) (n:=x.sess.length) fun i _=>u9 x i
 show(bE x.sess.length (lN x)).length≤x.sess.length
 omega
theorem DH{x:NodeT}(h:SzN x):SzN (lH x):=by
 unfold lH
 cases dC x with
 | false=>exact h
 | true=>
  cases x.clock==100000 with
  | true=>exact h
  | false=>exact⟨h.state,h.leaves,h.list,h.logs,h.got,h.acked,h.seen,h.lines,Nat.le_trans (vA x) h.sess,h.rises⟩

theorem f297(x:NodeT)(hz:SzN x):Ran p 8 297 [.val true ⟨K38,x⟩] ⟨[⟨K38,lH x⟩],[]⟩:=go297 fun n hn=>by
 unfold lH
 cases ho:dC x with
 | false=>exact Ev.now fun aA=>by show T297 (aK p n) aA x=some ⟨[⟨K38,x⟩],[]⟩;unfold T297;refine(aB (f85 x hz n (by omega))).trans ?_;refine(aB (f86 x hz n (by omega))).trans ?_;rw[ho];rfl
 | true=>
  cases hc:x.clock==100000 with
  | true=>exact Ev.now fun aA=>by show T297 (aK p n) aA x=some ⟨[⟨K38,x⟩],[]⟩;unfold T297;refine(aB (f85 x hz n (by omega))).trans ?_;refine(aB (f86 x hz n (by omega))).trans ?_;rw[ho];refine(aF rfl).trans ?_;exact aN hc
  | false=>
   have lp:It (fun aA (_:Unit)=>c297_7 (aK p n) aA x ((x,()),())) ((0:Int),([]:List c5)) (fun _=>some ⟨[⟨K38,sV x⟩],[]⟩):=by
    refine It.accu (α:=c5) [] (lN x) x.sess.length 1 (fun i _=>u9 x i) (fun i hi acc ha aA u rec=>?_) (It.stop fun aA u rec=>?_)
    ·show c297_7 (aK p n) aA x ((x,()),()) rec ((i:Int),acc)=rec (((i+1:Nat):Int),acc++lN x i)
     unfold c297_7 lN;dsimp only;rw[aL (i63 hi hz.sess)];refine(aE (Int.ofNat_lt.2 hi)).trans ?_;refine(aE (Int.natCast_nonneg _)).trans ?_;refine(aJ hi).trans ?_
     by_cases h:IntKind.i64.wrap ((gt x.sess i).2.2.2.1+1)≤x.wait
     ·refine(aE h).trans ?_;refine(aE ?_).trans ?_
      ·have h1:(lN x i).length=1:=by unfold lN;rw[decide_eq_true h];rfl
       have h2:=hz.sess
       rw[h1] at ha
       show acc.length+1≤bound
       unfold aW at h2;unfold bound;simp at ha;omega
      ·rw[decide_eq_true h];rfl
     ·refine(aG h).trans ?_;rw[decide_eq_false h];show rec _=rec _;rw[show(bif false then[u7 (gt x.sess i)] else[])=([]:List c5)from rfl,List.append_nil];rfl
    ·show c297_7 (aK p n) aA x ((x,()),()) rec ((x.sess.length:Int),bE x.sess.length (lN x))=_
     unfold c297_7;dsimp only;refine(aG (Int.lt_irrefl _)).trans ?_;rfl
   exact Ev.eq (fun aA=>by
    unfold T297;refine(aB (f85 x hz n (by omega))).trans ?_;refine(aB (f86 x hz n (by omega))).trans ?_;rw[ho];refine(aF rfl).trans ?_;exact aF hc) (lp.ev (i:=()) rfl)
end Go.Abs.Xz
