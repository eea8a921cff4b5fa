/- What the functions of this program answer, part gu. -/
import Derived.Test.YtmamlgjbendjhaaGreatXgo
set_option linter.unusedVariables false
namespace Go.Abs.Xz
open Go Go.Abs
def nU(x:cW):cW:=(x.1,x.2.1,x.2.2.1,IntKind.i64.wrap (x.2.2.2.1+1),())
def gV(x:NodeT)(i:Nat):List cW:=bif decide (IntKind.i64.wrap ((gt x.sess i).2.2.2.1+1)≤x.wait)then[nU (gt x.sess i)] else[]
theorem pC(x:NodeT)(i:Nat):(gV x i).length≤1:=by
 unfold gV;cases decide (IntKind.i64.wrap ((gt x.sess i).2.2.2.1+1)≤x.wait)<;>simp
def mW(y:NodeT):NodeT:=(y.1,y.2.1,y.2.2.1,y.2.2.2.1,y.2.2.2.2.1,y.2.2.2.2.2.1,y.2.2.2.2.2.2.1,y.2.2.2.2.2.2.2.1,y.2.2.2.2.2.2.2.2.1,y.2.2.2.2.2.2.2.2.2.1,y.2.2.2.2.2.2.2.2.2.2.1,y.2.2.2.2.2.2.2.2.2.2.2.1,y.2.2.2.2.2.2.2.2.2.2.2.2.1,y.2.2.2.2.2.2.2.2.2.2.2.2.2.1,bD y.sess.length (gV y),y.wait,y.limit,IntKind.i64.wrap (y.clock+1),y.rises,())
def gE(x:NodeT):NodeT:=bif dA x then(bif x.clock==100000 then x else mW x)else x
theorem uU(x:NodeT):(mW x).sess.length≤x.sess.length:=by
 have:=cL (g:=gV x) (L:=1) (n:=x.sess.length) fun i _=>pC x i
 show(bD x.sess.length (gV x)).length≤x.sess.length
 omega
theorem xF{x:NodeT}(h:SzN x):SzN (gE x):=by
 unfold gE
 cases dA x with
 | false=>exact h
 | true=>
  cases x.clock==100000 with
  | true=>exact h
  | false=>exact⟨h.state,h.leaves,h.list,h.logs,h.got,h.acked,h.seen,h.lines,Nat.le_trans (uU x) h.sess,h.rises⟩

theorem f297(x:NodeT)(hz:SzN x):Ran p 8 297 [.val true ⟨K38,x⟩] ⟨[⟨K38,gE x⟩],[]⟩:=go297 fun n hn=>by
 unfold gE
 cases ho:dA x with
 | false=>exact Ev.now fun aA=>by show T297 (aJ p n) aA x=some ⟨[⟨K38,x⟩],[]⟩;unfold T297;refine(aB (f85 x hz n (by omega))).trans ?_;refine(aB (f86 x hz n (by omega))).trans ?_;rw[ho];rfl
 | true=>
  cases hc:x.clock==100000 with
  | true=>exact Ev.now fun aA=>by show T297 (aJ p n) aA x=some ⟨[⟨K38,x⟩],[]⟩;unfold T297;refine(aB (f85 x hz n (by omega))).trans ?_;refine(aB (f86 x hz n (by omega))).trans ?_;rw[ho];refine(aF rfl).trans ?_;exact aN hc
  | false=>
   have lp:It (fun aA (_:Unit)=>c297_7 (aJ p n) aA x ((x,()),())) ((0:Int),([]:List cW)) (fun _=>some ⟨[⟨K38,mW x⟩],[]⟩):=by
    refine It.accu (α:=cW) [] (gV x) x.sess.length 1 (fun i _=>pC x i) (fun i hi acc ha aA u rec=>?_) (It.stop fun aA u rec=>?_)
    ·show c297_7 (aJ p n) aA x ((x,()),()) rec ((i:Int),acc)=rec (((i+1:Nat):Int),acc++gV x i)
     unfold c297_7 gV;dsimp only;rw[aL (i63 hi hz.sess)];refine(aE (Int.ofNat_lt.2 hi)).trans ?_;refine(aE (Int.natCast_nonneg _)).trans ?_;refine(aI hi).trans ?_
     by_cases h:IntKind.i64.wrap ((gt x.sess i).2.2.2.1+1)≤x.wait
     ·refine(aE h).trans ?_;refine(aE ?_).trans ?_
      ·have h1:(gV x i).length=1:=by unfold gV;rw[decide_eq_true h];rfl
       have h2:=hz.sess
       rw[h1] at ha
       show acc.length+1≤bound
       unfold aS at h2;unfold bound;simp at ha;omega
      ·rw[decide_eq_true h];rfl
     ·refine(aG h).trans ?_;rw[decide_eq_false h];show rec _=rec _;rw[show(bif false then[nU (gt x.sess i)] else[])=([]:List cW)from rfl,List.append_nil];rfl
    ·show c297_7 (aJ p n) aA x ((x,()),()) rec ((x.sess.length:Int),bD x.sess.length (gV x))=_
     unfold c297_7;dsimp only;refine(aG (Int.lt_irrefl _)).trans ?_;rfl
   exact Ev.eq (fun aA=>by
    unfold T297;refine(aB (f85 x hz n (by omega))).trans ?_;refine(aB (f86 x hz n (by omega))).trans ?_;rw[ho];refine(aF rfl).trans ?_;exact aF hc) (lp.ev (i:=()) rfl)
theorem f20(x:NodeT)(hz:SzN x):Ran p 8 20 [.val true ⟨K38,x⟩] ⟨[⟨K38,gE x⟩],[]⟩:=go20 fun n hn=>by
 unfold gE
 cases ho:dA x with
 | false=>exact Ev.now fun aA=>by show T20 (aJ p n) aA x=some ⟨[⟨K38,x⟩],[]⟩;unfold T20;refine(aB (f81 x hz n (by omega))).trans ?_;refine(aB (f23 x hz n (by omega))).trans ?_;rw[ho];rfl
 | true=>
  cases hc:x.clock==100000 with
  | true=>exact Ev.now fun aA=>by show T20 (aJ p n) aA x=some ⟨[⟨K38,x⟩],[]⟩;unfold T20;refine(aB (f81 x hz n (by omega))).trans ?_;refine(aB (f23 x hz n (by omega))).trans ?_;rw[ho];refine(aF rfl).trans ?_;exact aN hc
  | false=>
   have lp:It (fun aA (_:Unit)=>c20_7 (aJ p n) aA x ((x,()),())) ((0:Int),([]:List cW)) (fun _=>some ⟨[⟨K38,mW x⟩],[]⟩):=by
    refine It.accu (α:=cW) [] (gV x) x.sess.length 1 (fun i _=>pC x i) (fun i hi acc ha aA u rec=>?_) (It.stop fun aA u rec=>?_)
    ·show c20_7 (aJ p n) aA x ((x,()),()) rec ((i:Int),acc)=rec (((i+1:Nat):Int),acc++gV x i)
     unfold c20_7 gV;dsimp only;rw[aL (i63 hi hz.sess)];refine(aE (Int.ofNat_lt.2 hi)).trans ?_;refine(aE (Int.natCast_nonneg _)).trans ?_;refine(aI hi).trans ?_
     by_cases h:IntKind.i64.wrap ((gt x.sess i).2.2.2.1+1)≤x.wait
     ·refine(aE h).trans ?_;refine(aE ?_).trans ?_
      ·have h1:(gV x i).length=1:=by unfold gV;rw[decide_eq_true h];rfl
       have h2:=hz.sess
       rw[h1] at ha
       show acc.length+1≤bound
       unfold aS at h2;unfold bound;simp at ha;omega
      ·rw[decide_eq_true h];rfl
     ·refine(aG h).trans ?_;rw[decide_eq_false h];show rec _=rec _;rw[show(bif false then[nU (gt x.sess i)] else[])=([]:List cW)from rfl,List.append_nil];rfl
    ·show c20_7 (aJ p n) aA x ((x,()),()) rec ((x.sess.length:Int),bD x.sess.length (gV x))=_
     unfold c20_7;dsimp only;refine(aG (Int.lt_irrefl _)).trans ?_;rfl
   exact Ev.eq (fun aA=>by
    unfold T20;refine(aB (f81 x hz n (by omega))).trans ?_;refine(aB (f23 x hz n (by omega))).trans ?_;rw[ho];refine(aF rfl).trans ?_;exact aF hc) (lp.ev (i:=()) rfl)
def c7(x:NodeT):Nat→NodeT
 | 0=>x
 | k+1=>gE (c7 x k)
theorem xH{x:NodeT}(h:SzN x):∀ k,SzN (c7 x k)
 | 0=>h
 | k+1=>xF (xH h k)
end Go.Abs.Xz
