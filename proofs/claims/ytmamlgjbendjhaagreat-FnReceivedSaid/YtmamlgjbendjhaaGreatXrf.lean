/- What the functions of this program answer, part rf. -/
import Derived.Test.YtmamlgjbendjhaaGreatXre
set_option linter.unusedVariables false
namespace Go.Abs.Xz
open Go Go.Abs
def zK(r:D9):Out:=⟨[⟨K38,r.1⟩,⟨K49,(r.2.1,())⟩,⟨K3,(r.2.2,())⟩],[]⟩
theorem mM(x:NodeT)(m:MsgT)(b:Bool):(dK x m b<0∧(bW x.sess m.2.1 b= -1∨∃ k:Nat,k<x.sess.length∧bW x.sess m.2.1 b=(k:Int)∧((gt x.sess k).2.1 != m.2.2.2.1)=true))∨∃ k:Nat,k<x.sess.length∧bW x.sess m.2.1 b=(k:Int)∧((gt x.sess k).2.1 != m.2.2.2.1)=false∧dK x m b=(k:Int):=by
 unfold dK
 rcases dB x.sess m.2.1 b with ⟨k,hk,e,_⟩ | ⟨e,_⟩<;>rw[e]
 ·rw[decide_eq_true (show((k:Nat):Int)≥0 by omega),Int.toNat_natCast]
  cases h:(gt x.sess k).2.1 != m.2.2.2.1 with
  | true=>exact .inl ⟨by show(-1:Int)<0;omega, .inr ⟨k,hk,rfl,h⟩⟩
  | false=>exact .inr ⟨k,hk,rfl,h,rfl⟩
 ·exact .inl ⟨by show(-1:Int)<0;omega, .inl rfl⟩
theorem iX{x:NodeT}{m:MsgT}(h0:(m.1==0)=false)(h1:(m.1==1)=false)(h2:(m.1==2)=false){b:Bool}(h4:(m.1==4)=b)(hf:dK x m b<0):dS x m=(x,[],2):=by
 unfold dS;rw[h0,h1,h2,h4,decide_eq_true hf];rfl
theorem qO{x:NodeT}{m:MsgT}(h0:(m.1==0)=false)(h1:(m.1==1)=false)(h2:(m.1==2)=false){b:Bool}(h4:(m.1==4)=b){k:Nat}(hf:dK x m b=(k:Int)):dS x m=cX x m k:=by
 unfold dS;rw[h0,h1,h2,h4,hf,decide_eq_false (show ¬ (k:Int)<0 by omega)];rfl
theorem f27(x:NodeT)(m:MsgT)(hz:SzN x)(hm:SzM m):Ran p 10 27 [.val true ⟨K38,x⟩, .val true ⟨K43,m⟩] (zK (eK x m)):=go27 fun n hn=>Ev.now fun aA=>by
 have bad:dM x m=false→(some ⟨[⟨K38,x⟩,⟨K49,(([]:List MsgT),())⟩,⟨K3,((1:Int),())⟩],[]⟩:Option Out)=some (zK (eK x m)):=fun h=>by rw[zJ h];rfl
 unfold T27;refine(aB (f86 x hz n (by omega))).trans ?_
 cases g1:eF x with
 | false=>refine(aN rfl).trans ?_;refine(aB (f85 x hz n (by omega))).trans ?_;exact bad (by unfold dM;rw[g1];rfl)
 | true=>
 refine(aF rfl).trans ?_;refine(aB (f113 m hm n (by omega))).trans ?_
 cases g2:iH m with
 | false=>refine(aN rfl).trans ?_;refine(aB (f85 x hz n (by omega))).trans ?_;exact bad (by unfold dM;rw[g1,g2];rfl)
 | true=>
 refine(aF rfl).trans ?_
 cases g3:m.2.2.1==x.1 with
 | false=>refine(aN (show(m.2.2.1 != x.1)=true by unfold bne;rw[g3];rfl)).trans ?_;refine(aB (f85 x hz n (by omega))).trans ?_;exact bad (by unfold dM;rw[g1,g2,g3];rfl)
 | true=>
 refine(aF (show(m.2.2.1 != x.1)=false by unfold bne;rw[g3];rfl)).trans ?_
 by_cases g4:m.2.1≥x.2.1
 ·refine(aE g4).trans ?_;refine(aB (f85 x hz n (by omega))).trans ?_;exact bad (by unfold dM;rw[g1,g2,g3,decide_eq_true g4];rfl)
 refine(aI g4).trans ?_
 cases g5:((m.vec.length:Nat):Int)==x.2.1 with
 | false=>refine(aN (show(((m.vec.length:Nat):Int) != x.2.1)=true by unfold bne;rw[g5];rfl)).trans ?_;refine(aB (f85 x hz n (by omega))).trans ?_;exact bad (by unfold dM;rw[g1,g2,g3,decide_eq_false g4,g5];rfl)
 | true=>
 refine(aF (show(((m.vec.length:Nat):Int) != x.2.1)=false by unfold bne;rw[g5];rfl)).trans ?_
 have ok:dM x m=true:=by unfold dM;rw[g1,g2,g3,decide_eq_false g4,g5];rfl
 have R:=iE ok
 have H:=Hears.of hz hm R
 rw[qN ok]
 cases k0:m.1==0 with
 | true=>
  have hz2:=hI hz m
  (first | refine(aN k0).trans ?_ | refine(aN rfl).trans ?_);refine(aB (f114 x m H R.part n (by omega))).trans ?_;refine(aB (f89 (bF x m) 1 m.2.1 m.2.2.2.1 hz2 n (by omega))).trans ?_;unfold dS;rw[k0];rfl
 | false=>
 (first | refine(aF k0).trans ?_ | refine(aF rfl).trans ?_)
 cases k1:m.1==1 with
 | true=>(first | refine(aN k1).trans ?_ | refine(aN rfl).trans ?_);refine(aB (f115 x m H n (by omega))).trans ?_;unfold dS;rw[k0,k1];rfl
 | false=>
 (first | refine(aF k1).trans ?_ | refine(aF rfl).trans ?_)
 cases k2:m.1==2 with
 | true=>(first | refine(aN k2).trans ?_ | refine(aN rfl).trans ?_);refine(gB (f116 x m hz hm R n (by omega))).trans ?_;unfold dS;rw[k0,k1,k2];rfl
 | false=>
 (first | refine(aF k2).trans ?_ | refine(aF rfl).trans ?_);refine(aB (f117 x m (m.1==4) hz.sess n (by omega))).trans ?_
 rcases mM x m (m.1==4)with ⟨hf,_⟩ | ⟨k,hk,_,_,hf⟩
 ·refine(aE hf).trans ?_;refine(aB (f85 x hz n (by omega))).trans ?_;rw[iX k0 k1 k2 rfl hf];rfl
 ·rw[qO k0 k1 k2 rfl hf,hf];refine(aI (show ¬ (k:Int)<0 by omega)).trans ?_;refine(aB (f118 x k hz hk n (by omega))).trans ?_
  have hg:=wC hz k
  have Rg:=R.gone k
  have Hg:=Hears.of hg hm Rg
  have hz2:=hI hg m
  cases k5:m.1==5 with
  | true=>(first | refine(aN k5).trans ?_ | refine(aN rfl).trans ?_);unfold cX;rw[k5];rfl
  | false=>
   (first | refine(aF k5).trans ?_ | refine(aF rfl).trans ?_);refine(aB (f114 (gI x k) m Hg Rg.part n (by omega))).trans ?_
   cases k4:m.1==4 with
   | true=>(first | refine(aN k4).trans ?_ | refine(aN rfl).trans ?_);unfold cX;rw[k5,k4];rfl
   | false=>
    (first | refine(aF k4).trans ?_ | refine(aF rfl).trans ?_);refine(aB (f89 (bF (gI x k) m) 4 m.2.1 m.2.2.2.1 hz2 n (by omega))).trans ?_;refine(aE (gJ hm.list)).trans ?_;refine(aE R.idn.1).trans ?_;refine(aZ H.vec).trans ?_
    refine(aB (f119 (bF (gI x k) m) m.leaves (gt m.vec x.1.toNat).1 hz2 Rg.brought hm.list n (by omega))).trans ?_;unfold cX;rw[k5,k4];rfl
end Go.Abs.Xz
