/- What the functions of this program answer, part sa. -/
import Derived.Test.YtmamlgjbendjhaaGreatXrg
import Derived.Test.YtmamlgjbendjhaaGreatW3
set_option linter.unusedVariables false
open Go.IntKind (i64)
namespace Go.Abs.Xz
open Go Go.Abs
def yK(r:KC):Out:=⟨[⟨K38,r.1⟩,⟨K43,r.2.1⟩,⟨K4,(r.2.2,())⟩],[]⟩
theorem f87(x:NodeT)(i:Int):Ran p 2 87 [va K38 x, vf K3 (i,())] (rO K4 (oV x i,())):=go87 fun n hn=>Ev.now fun aA=>by
 unfold T87 oV;refine(aC (f211 i 0 (i64.wrap (x.2.1 - 1)) n (by omega))).trans ?_
 cases inB i 0 (i64.wrap (x.2.1 - 1))<;>rfl
theorem f18(x:NodeT)(i:Int)(hz:SzN x):Ran p 8 18 [va K38 x, vf K3 (i,())] (yK (p5 x i)):=go18 fun n hn=>Ev.now fun aA=>by
 have bad:jS x i=false→(some ⟨[⟨K38,x⟩,⟨K43,GC⟩,⟨K4,(false,())⟩],[]⟩:Option Out)=some (yK (p5 x i)):=fun h=>by rw[yJ h];rfl
 unfold T18;refine(aC (f85 x hz n (by omega))).trans ?_;refine(aC (f86 x hz n (by omega))).trans ?_
 cases g1:eC x with
 | false=>refine(aN rfl).trans ?_;exact bad (by unfold jS;rw[g1];rfl)
 | true=>
 refine(aL rfl).trans ?_;refine(aC (f87 x i n (by omega))).trans ?_
 cases g2:oV x i with
 | false=>refine(aN rfl).trans ?_;exact bad (by unfold jS;rw[g1,g2];rfl)
 | true=>
 refine(aL rfl).trans ?_;refine(aC (f88 x i false hz.sess n (by omega))).trans ?_
 by_cases g3:cP x.sess i false≥0
 ·refine(aE g3).trans ?_;exact bad (by unfold jS;rw[g1,g2,decide_eq_true g3];rfl)
 refine(aF g3).trans ?_
 have hle:=((d7 x).1 ((i7 x).1 g1).sess).1
 cases g4:(x.sess.length:Int)==x.slots with
 | true=>
  have e:=eq_of_beq g4
  (first | refine(aN g4).trans ?_ | refine(aE (show(x.sess.length:Int)≥x.slots by omega)).trans ?_);exact bad (by unfold jS;rw[g1,g2,decide_eq_false g3,g4];rfl)
 | false=>
 have e:(x.sess.length:Int)≠x.slots:=by rw[beq_eq_false_iff_ne] at g4;exact g4
 (first | refine(aL g4).trans ?_ | refine(aF (show ¬ (x.sess.length:Int)≥x.slots by omega)).trans ?_)
 cases g5:x.num==100000 with
 | true=>(first | refine(aN g5).trans ?_ | refine(aN rfl).trans ?_);exact bad (by unfold jS;rw[g1,g2,decide_eq_false g3,g4,g5];rfl)
 | false=>
 (first | refine(aL g5).trans ?_ | refine(aL rfl).trans ?_)
 have ok:jS x i=true:=by unfold jS;rw[g1,g2,decide_eq_false g3,g4,g5];rfl
 have hb:x.sess.length+1≤bound:=by have:=hz.sess;unfold aX at this;unfold bound;omega
 have hz2:=uV hz (uY ok)
 rw[uX ok];refine(aE hb).trans ?_;refine(aC (f89 (uW x i) 2 i (i64.wrap (x.num+1)) hz2 n (by omega))).trans ?_;refine(aC (f90 x.tree hz.leaves n (by omega))).trans ?_;rfl
theorem f17(x:NodeT)(i:Int)(hz:SzN x):Ran p 8 17 [va K38 x, vf K3 (i,())] (yK (p5 x i)):=go17 fun n hn=>Ev.now fun aA=>by
 have bad:jS x i=false→(some ⟨[⟨K38,x⟩,⟨K43,GC⟩,⟨K4,(false,())⟩],[]⟩:Option Out)=some (yK (p5 x i)):=fun h=>by rw[yJ h];rfl
 unfold T17;refine(aC (f81 x hz n (by omega))).trans ?_;refine(aC (f23 x hz n (by omega))).trans ?_
 cases g1:eC x with
 | false=>refine(aN rfl).trans ?_;exact bad (by unfold jS;rw[g1];rfl)
 | true=>
 refine(aL rfl).trans ?_;refine(aC (f82 x i n (by omega))).trans ?_
 cases g2:oV x i with
 | false=>refine(aN rfl).trans ?_;exact bad (by unfold jS;rw[g1,g2];rfl)
 | true=>
 refine(aL rfl).trans ?_;refine(aC (f21 x i false hz.sess n (by omega))).trans ?_
 by_cases g3:cP x.sess i false≥0
 ·refine(aE g3).trans ?_;exact bad (by unfold jS;rw[g1,g2,decide_eq_true g3];rfl)
 refine(aF g3).trans ?_
 have hle:=((d7 x).1 ((i7 x).1 g1).sess).1
 cases g4:(x.sess.length:Int)==x.slots with
 | true=>
  have e:=eq_of_beq g4
  (first | refine(aN g4).trans ?_ | refine(aE (show(x.sess.length:Int)≥x.slots by omega)).trans ?_);exact bad (by unfold jS;rw[g1,g2,decide_eq_false g3,g4];rfl)
 | false=>
 have e:(x.sess.length:Int)≠x.slots:=by rw[beq_eq_false_iff_ne] at g4;exact g4
 (first | refine(aL g4).trans ?_ | refine(aF (show ¬ (x.sess.length:Int)≥x.slots by omega)).trans ?_)
 cases g5:x.num==100000 with
 | true=>(first | refine(aN g5).trans ?_ | refine(aN rfl).trans ?_);exact bad (by unfold jS;rw[g1,g2,decide_eq_false g3,g4,g5];rfl)
 | false=>
 (first | refine(aL g5).trans ?_ | refine(aL rfl).trans ?_)
 have ok:jS x i=true:=by unfold jS;rw[g1,g2,decide_eq_false g3,g4,g5];rfl
 have hb:x.sess.length+1≤bound:=by have:=hz.sess;unfold aX at this;unfold bound;omega
 have hz2:=uV hz (uY ok)
 rw[uX ok];refine(aE hb).trans ?_;refine(aC (f83 (uW x i) 2 i (i64.wrap (x.num+1)) hz2 n (by omega))).trans ?_;refine(aC (f84 x.tree hz.leaves n (by omega))).trans ?_;rfl
end Go.Abs.Xz
