/- What the functions of this program answer, part sa. -/
import Derived.Test.YtmamlgjbendjhaaGreatXrg
import Derived.Test.YtmamlgjbendjhaaGreatW3
set_option linter.unusedVariables false
open Go.IntKind (i64)
namespace Go.Abs.Xz
open Go Go.Abs
def xJ(r:IU):Out:=⟨[⟨K38,r.1⟩,⟨K43,r.2.1⟩,⟨K4,(r.2.2,())⟩],[]⟩
theorem f87(x:NodeT)(i:Int):Ran p 2 87 [.val true ⟨K38,x⟩, .val false ⟨K3,(i,())⟩] ⟨[⟨K4,(nY x i,())⟩],[]⟩:=go87 fun n hn=>Ev.now fun aA=>by
 unfold T87 nY;refine(aD (f211 i 0 (i64.wrap (x.2.1 - 1)) n (by omega))).trans ?_
 cases inB i 0 (i64.wrap (x.2.1 - 1))<;>rfl
theorem f18(x:NodeT)(i:Int)(hz:SzN x):Ran p 8 18 [.val true ⟨K38,x⟩, .val false ⟨K3,(i,())⟩] (xJ (pI x i)):=go18 fun n hn=>Ev.now fun aA=>by
 have bad:jF x i=false→(some ⟨[⟨K38,x⟩,⟨K43,ET⟩,⟨K4,(false,())⟩],[]⟩:Option Out)=some (xJ (pI x i)):=fun h=>by rw[xI h];rfl
 unfold T18;refine(aD (f85 x hz n (by omega))).trans ?_;refine(aD (f86 x hz n (by omega))).trans ?_
 cases g1:gW x with
 | false=>refine(aO rfl).trans ?_;exact bad (by unfold jF;rw[g1];rfl)
 | true=>
 refine(aK rfl).trans ?_;refine(aD (f87 x i n (by omega))).trans ?_
 cases g2:nY x i with
 | false=>refine(aO rfl).trans ?_;exact bad (by unfold jF;rw[g1,g2];rfl)
 | true=>
 refine(aK rfl).trans ?_;refine(aD (f88 x i false hz.sess n (by omega))).trans ?_
 by_cases g3:cL x.sess i false≥0
 ·refine(aE g3).trans ?_;exact bad (by unfold jF;rw[g1,g2,decide_eq_true g3];rfl)
 refine(aF g3).trans ?_
 have hle:=((dX x).1 ((iP x).1 g1).sess).1
 cases g4:((x.sess.length:Nat):Int)==x.slots with
 | true=>
  have e:=eq_of_beq g4
  (first | refine(aO g4).trans ?_ | refine(aE (show((x.sess.length:Nat):Int)≥x.slots by omega)).trans ?_);exact bad (by unfold jF;rw[g1,g2,decide_eq_false g3,g4];rfl)
 | false=>
 have e:((x.sess.length:Nat):Int)≠x.slots:=by rw[beq_eq_false_iff_ne] at g4;exact g4
 (first | refine(aK g4).trans ?_ | refine(aF (show ¬ ((x.sess.length:Nat):Int)≥x.slots by omega)).trans ?_)
 cases g5:x.num==100000 with
 | true=>(first | refine(aO g5).trans ?_ | refine(aO rfl).trans ?_);exact bad (by unfold jF;rw[g1,g2,decide_eq_false g3,g4,g5];rfl)
 | false=>
 (first | refine(aK g5).trans ?_ | refine(aK rfl).trans ?_)
 have ok:jF x i=true:=by unfold jF;rw[g1,g2,decide_eq_false g3,g4,g5];rfl
 have hb:x.sess.length+1≤bound:=by have:=hz.sess;unfold aW at this;unfold bound;omega
 have hz2:=tU hz (tX ok)
 rw[tW ok];refine(aE hb).trans ?_;refine(aD (f89 (tV x i) 2 i (i64.wrap (x.num+1)) hz2 n (by omega))).trans ?_;refine(aD (f90 x.tree hz.leaves n (by omega))).trans ?_;rfl
theorem f17(x:NodeT)(i:Int)(hz:SzN x):Ran p 8 17 [.val true ⟨K38,x⟩, .val false ⟨K3,(i,())⟩] (xJ (pI x i)):=go17 fun n hn=>Ev.now fun aA=>by
 have bad:jF x i=false→(some ⟨[⟨K38,x⟩,⟨K43,ET⟩,⟨K4,(false,())⟩],[]⟩:Option Out)=some (xJ (pI x i)):=fun h=>by rw[xI h];rfl
 unfold T17;refine(aD (f81 x hz n (by omega))).trans ?_;refine(aD (f23 x hz n (by omega))).trans ?_
 cases g1:gW x with
 | false=>refine(aO rfl).trans ?_;exact bad (by unfold jF;rw[g1];rfl)
 | true=>
 refine(aK rfl).trans ?_;refine(aD (f82 x i n (by omega))).trans ?_
 cases g2:nY x i with
 | false=>refine(aO rfl).trans ?_;exact bad (by unfold jF;rw[g1,g2];rfl)
 | true=>
 refine(aK rfl).trans ?_;refine(aD (f21 x i false hz.sess n (by omega))).trans ?_
 by_cases g3:cL x.sess i false≥0
 ·refine(aE g3).trans ?_;exact bad (by unfold jF;rw[g1,g2,decide_eq_true g3];rfl)
 refine(aF g3).trans ?_
 have hle:=((dX x).1 ((iP x).1 g1).sess).1
 cases g4:((x.sess.length:Nat):Int)==x.slots with
 | true=>
  have e:=eq_of_beq g4
  (first | refine(aO g4).trans ?_ | refine(aE (show((x.sess.length:Nat):Int)≥x.slots by omega)).trans ?_);exact bad (by unfold jF;rw[g1,g2,decide_eq_false g3,g4];rfl)
 | false=>
 have e:((x.sess.length:Nat):Int)≠x.slots:=by rw[beq_eq_false_iff_ne] at g4;exact g4
 (first | refine(aK g4).trans ?_ | refine(aF (show ¬ ((x.sess.length:Nat):Int)≥x.slots by omega)).trans ?_)
 cases g5:x.num==100000 with
 | true=>(first | refine(aO g5).trans ?_ | refine(aO rfl).trans ?_);exact bad (by unfold jF;rw[g1,g2,decide_eq_false g3,g4,g5];rfl)
 | false=>
 (first | refine(aK g5).trans ?_ | refine(aK rfl).trans ?_)
 have ok:jF x i=true:=by unfold jF;rw[g1,g2,decide_eq_false g3,g4,g5];rfl
 have hb:x.sess.length+1≤bound:=by have:=hz.sess;unfold aW at this;unfold bound;omega
 have hz2:=tU hz (tX ok)
 rw[tW ok];refine(aE hb).trans ?_;refine(aD (f83 (tV x i) 2 i (i64.wrap (x.num+1)) hz2 n (by omega))).trans ?_;refine(aD (f84 x.tree hz.leaves n (by omega))).trans ?_;rfl
end Go.Abs.Xz
