/- What the functions of this program answer, part rf. -/
import Derived.Test.YtmamlgjbendjhaaGreatXre
set_option linter.unusedVariables false
namespace Go.Abs.Xz
open Go Go.Abs
def pG(r:tZ):Out:=⟨[⟨K38,r.1⟩,⟨K49,(r.2.1,())⟩,⟨K3,(r.2.2,())⟩],[]⟩
theorem mQ(x:NodeT)(m:MsgT)(b:Bool):(nR x m b<0∧(cP x.sess m.2.1 b= -1∨∃ k:Nat,k<x.sess.length∧cP x.sess m.2.1 b=(k:Int)∧((gt x.sess k).2.1 != m.2.2.2.1)=true))∨∃ k:Nat,k<x.sess.length∧cP x.sess m.2.1 b=(k:Int)∧((gt x.sess k).2.1 != m.2.2.2.1)=false∧nR x m b=(k:Int):=by
 unfold nR
 rcases eZ x.sess m.2.1 b with ⟨k,hk,e,_⟩ | ⟨e,_⟩<;>rw[e]
 ·rw[decide_eq_true (show((k:Nat):Int)≥0 by omega),Int.toNat_natCast]
  cases h:(gt x.sess k).2.1 != m.2.2.2.1 with
  | true=>exact .inl ⟨by show(-1:Int)<0;omega,.inr ⟨k,hk,rfl,h⟩⟩
  | false=>exact .inr ⟨k,hk,rfl,h,rfl⟩
 ·exact .inl ⟨by show(-1:Int)<0;omega,.inl rfl⟩
theorem iZ{x:NodeT}{m:MsgT}(h0:(m.1==0)=false)(h1:(m.1==1)=false)(h2:(m.1==2)=false){b:Bool}(h4:(m.1==4)=b)(hf:nR x m b<0):nF x m=(x,[],2):=by
 unfold nF;rw[h0,h1,h2,h4,decide_eq_true hf];rfl
theorem qF{x:NodeT}{m:MsgT}(h0:(m.1==0)=false)(h1:(m.1==1)=false)(h2:(m.1==2)=false){b:Bool}(h4:(m.1==4)=b){k:Nat}(hf:nR x m b=(k:Int)):nF x m=jV x m k:=by
 unfold nF;rw[h0,h1,h2,h4,hf,decide_eq_false (show ¬ (k:Int)<0 by omega)];rfl
theorem f27(x:NodeT)(m:MsgT)(hz:SzN x)(hm:SzM m):Ran p 10 27 [va K38 x, va K43 m] (pG (oO x m)):=go27 fun n hn=>Ev.now fun aA=>by
 have bad:fV x m=false→(some ⟨[⟨K38,x⟩,⟨K49,(([]:List MsgT),())⟩,⟨K3,((1:Int),())⟩],[]⟩:Option Out)=some (pG (oO x m)):=fun h=>by rw[C1 h];rfl
 unfold T27;refine(aC (f86 x hz n (by omega))).trans ?_
 cases g1:eC x with
 | false=>refine(aN rfl).trans ?_;refine(aC (f85 x hz n (by omega))).trans ?_;exact bad (by unfold fV;rw[g1];rfl)
 | true=>
 refine(aL rfl).trans ?_;refine(aC (f113 m hm n (by omega))).trans ?_
 cases g2:lL m with
 | false=>refine(aN rfl).trans ?_;refine(aC (f85 x hz n (by omega))).trans ?_;exact bad (by unfold fV;rw[g1,g2];rfl)
 | true=>
 refine(aL rfl).trans ?_
 cases g3:m.2.2.1==x.1 with
 | false=>refine(aN (show(m.2.2.1 != x.1)=true by unfold bne;rw[g3];rfl)).trans ?_;refine(aC (f85 x hz n (by omega))).trans ?_;exact bad (by unfold fV;rw[g1,g2,g3];rfl)
 | true=>
 refine(aL (show(m.2.2.1 != x.1)=false by unfold bne;rw[g3];rfl)).trans ?_
 by_cases g4:m.2.1≥x.2.1
 ·refine(aE g4).trans ?_;refine(aC (f85 x hz n (by omega))).trans ?_;exact bad (by unfold fV;rw[g1,g2,g3,decide_eq_true g4];rfl)
 refine(aF g4).trans ?_
 cases g5:(m.vec.length:Int)==x.2.1 with
 | false=>refine(aN (show((m.vec.length:Int) != x.2.1)=true by unfold bne;rw[g5];rfl)).trans ?_;refine(aC (f85 x hz n (by omega))).trans ?_;exact bad (by unfold fV;rw[g1,g2,g3,decide_eq_false g4,g5];rfl)
 | true=>
 refine(aL (show((m.vec.length:Int) != x.2.1)=false by unfold bne;rw[g5];rfl)).trans ?_
 have ok:fV x m=true:=by unfold fV;rw[g1,g2,g3,decide_eq_false g4,g5];rfl
 have R:=vC ok
 have H:=Hears.of hz hm R
 rw[z8 ok]
 cases k0:m.1==0 with
 | true=>
  have hz2:=iB hz m
  (first | refine(aN k0).trans ?_ | refine(aN rfl).trans ?_);refine(aC (f114 x m H R.part n (by omega))).trans ?_;refine(aC (f89 (c7 x m) 1 m.2.1 m.2.2.2.1 hz2 n (by omega))).trans ?_;unfold nF;rw[k0];rfl
 | false=>
 (first | refine(aL k0).trans ?_ | refine(aL rfl).trans ?_)
 cases k1:m.1==1 with
 | true=>(first | refine(aN k1).trans ?_ | refine(aN rfl).trans ?_);refine(aC (f115 x m H n (by omega))).trans ?_;unfold nF;rw[k0,k1];rfl
 | false=>
 (first | refine(aL k1).trans ?_ | refine(aL rfl).trans ?_)
 cases k2:m.1==2 with
 | true=>(first | refine(aN k2).trans ?_ | refine(aN rfl).trans ?_);refine(fE (f116 x m hz hm R n (by omega))).trans ?_;unfold nF;rw[k0,k1,k2];rfl
 | false=>
 (first | refine(aL k2).trans ?_ | refine(aL rfl).trans ?_);refine(aC (f117 x m (m.1==4) hz.sess n (by omega))).trans ?_
 rcases mQ x m (m.1==4)with ⟨hf,_⟩ | ⟨k,hk,_,_,hf⟩
 ·refine(aE hf).trans ?_;refine(aC (f85 x hz n (by omega))).trans ?_;rw[iZ k0 k1 k2 rfl hf];rfl
 ·rw[qF k0 k1 k2 rfl hf,hf];refine(aF (show ¬ (k:Int)<0 by omega)).trans ?_;refine(aC (f118 x k hz hk n (by omega))).trans ?_
  have hg:=vU hz k
  have Rg:=R.gone k
  have Hg:=Hears.of hg hm Rg
  have hz2:=iB hg m
  cases k5:m.1==5 with
  | true=>(first | refine(aN k5).trans ?_ | refine(aN rfl).trans ?_);unfold jV;rw[k5];rfl
  | false=>
   (first | refine(aL k5).trans ?_ | refine(aL rfl).trans ?_);refine(aC (f114 (iX x k) m Hg Rg.part n (by omega))).trans ?_
   cases k4:m.1==4 with
   | true=>(first | refine(aN k4).trans ?_ | refine(aN rfl).trans ?_);unfold jV;rw[k5,k4];rfl
   | false=>
    (first | refine(aL k4).trans ?_ | refine(aL rfl).trans ?_);refine(aC (f89 (c7 (iX x k) m) 4 m.2.1 m.2.2.2.1 hz2 n (by omega))).trans ?_;refine(aE (fY hm.list)).trans ?_;refine(aE R.idn.1).trans ?_;refine(aR H.vec).trans ?_
    refine(aC (f119 (c7 (iX x k) m) m.leaves (gt m.vec x.1.toNat).1 hz2 Rg.brought hm.list n (by omega))).trans ?_;unfold jV;rw[k5,k4];rfl
end Go.Abs.Xz
