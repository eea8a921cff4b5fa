/- What the functions of this program answer, part sa. -/
import Derived.Test.YtmamlgjbendjhaaGreatXrg
import Derived.Test.YtmamlgjbendjhaaGreatW3
set_option linter.unusedVariables false
namespace Go.Abs.Xz
open Go Go.Abs
def HH(r:NW):Out:=⟨[⟨K38,r.1⟩,⟨K43,r.2.1⟩,⟨K4,(r.2.2,())⟩],[]⟩
theorem f87(x:NodeT)(i:Int):Ran p 2 87 [.val true ⟨K38,x⟩, .val false ⟨K3,(i,())⟩] ⟨[⟨K4,(qT x i,())⟩],[]⟩:=go87 fun n hn=>Ev.now fun aA=>by
 unfold T87 qT;refine(aB (f211 i 0 (IntKind.i64.wrap (x.2.1 - 1)) n (by omega))).trans ?_
 cases inB i 0 (IntKind.i64.wrap (x.2.1 - 1))<;>rfl
theorem f18(x:NodeT)(i:Int)(hz:SzN x):Ran p 8 18 [.val true ⟨K38,x⟩, .val false ⟨K3,(i,())⟩] (HH (m9 x i)):=go18 fun n hn=>Ev.now fun aA=>by
 have bad:nA x i=false→(some ⟨[⟨K38,x⟩,⟨K43,LM⟩,⟨K4,(false,())⟩],[]⟩:Option Out)=some (HH (m9 x i)):=fun h=>by rw[KM h];rfl
 unfold T18;refine(aB (f85 x hz n (by omega))).trans ?_;refine(aB (f86 x hz n (by omega))).trans ?_
 cases g1:eF x with
 | false=>refine(aN rfl).trans ?_;exact bad (by unfold nA;rw[g1];rfl)
 | true=>
 refine(aF rfl).trans ?_;refine(aB (f87 x i n (by omega))).trans ?_
 cases g2:qT x i with
 | false=>refine(aN rfl).trans ?_;exact bad (by unfold nA;rw[g1,g2];rfl)
 | true=>
 refine(aF rfl).trans ?_;refine(aB (f88 x i false hz.sess n (by omega))).trans ?_
 by_cases g3:bW x.sess i false≥0
 ·refine(aE g3).trans ?_;exact bad (by unfold nA;rw[g1,g2,decide_eq_true g3];rfl)
 refine(aI g3).trans ?_
 have hle:=((cP x).1 ((eE x).1 g1).sess).1
 cases g4:((x.sess.length:Nat):Int)==x.slots with
 | true=>
  have e:=eq_of_beq g4
  (first | refine(aN g4).trans ?_ | refine(aE (show((x.sess.length:Nat):Int)≥x.slots by omega)).trans ?_);exact bad (by unfold nA;rw[g1,g2,decide_eq_false g3,g4];rfl)
 | false=>
 have e:((x.sess.length:Nat):Int)≠x.slots:=by rw[beq_eq_false_iff_ne] at g4;exact g4
 (first | refine(aF g4).trans ?_ | refine(aI (show ¬ ((x.sess.length:Nat):Int)≥x.slots by omega)).trans ?_)
 cases g5:x.num==100000 with
 | true=>(first | refine(aN g5).trans ?_ | refine(aN rfl).trans ?_);exact bad (by unfold nA;rw[g1,g2,decide_eq_false g3,g4,g5];rfl)
 | false=>
 (first | refine(aF g5).trans ?_ | refine(aF rfl).trans ?_)
 have ok:nA x i=true:=by unfold nA;rw[g1,g2,decide_eq_false g3,g4,g5];rfl
 have hb:x.sess.length+1≤bound:=by have:=hz.sess;unfold aU at this;unfold bound;omega
 have hz2:=AE hz (qC ok)
 rw[HF ok];refine(aE hb).trans ?_;refine(aB (f89 (AF x i) 2 i (IntKind.i64.wrap (x.num+1)) hz2 n (by omega))).trans ?_;refine(aB (f90 x.tree hz.leaves n (by omega))).trans ?_;rfl
end Go.Abs.Xz
