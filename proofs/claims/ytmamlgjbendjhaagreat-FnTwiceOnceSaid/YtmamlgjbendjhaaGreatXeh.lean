/- What the functions of this program answer, part eh. -/
import Derived.Test.YtmamlgjbendjhaaGreatXeg
import Derived.Test.YtmamlgjbendjhaaGreatXeb
set_option linter.unusedVariables false
set_option maxHeartbeats 4000000
open Go.IntKind (i64)
namespace Go.Abs.Xz
open Go Go.Abs
theorem law_twice(b:List aZ)(ho:mQ K22 (b,())):Ran p 14 5 [.val false ⟨K22,(b,())⟩] pW:=by
 have h1:=f15 b
 by_cases hb:((b.length:Nat):Int)>1048576
 ·rw[decide_eq_true hb] at h1
  exact go5 fun n hn=>Ev.now fun aA=>by unfold T5;refine(aB (h1 n (by omega))).trans ?_;rfl
 rw[decide_eq_false hb] at h1
 obtain⟨x,m,h2,X,zm⟩:=f26 b (by omega)
 have h3:=f22 x m X.sz zm
 have h4:=f27 x m X.sz zm
 have zo:SzM (m.1,m.2.1,(i64.wrap (m.2.2.1+1)).tmod 5,m.2.2.2):=⟨zm.leaves,zm.vec,zm.list,zm.part,zm.marks⟩
 have h5:=f22 x (m.1,m.2.1,(i64.wrap (m.2.2.1+1)).tmod 5,m.2.2.2) X.sz zo
 have h6:=f19 x x X.sz
 rw[tF] at h6
 have hT:=E9 (x:=x) X.sz (m:=m)
 have hS:=HF (x:=x) (m:=m)
 have hZ:=(KD X.sz zm).node
 have hO:(i64.wrap (m.2.2.1+1)).tmod 5≠x.1→gC x (m.1,m.2.1,(i64.wrap (m.2.2.1+1)).tmod 5,m.2.2.2)=(x,[],1):=fun h=>FA _ h
 generalize gC x m=r at h3 h4 hT hS hZ
 obtain⟨y,ls,cd⟩:=r
 generalize gC x (m.1,m.2.1,(i64.wrap (m.2.2.1+1)).tmod 5,m.2.2.2)=r5 at h5 hO
 -- the end of the law
 have tail:∀ n,14 - 1≤n→(bif cd != (0:Int)then qq (aK p n 19 [va K38 y,va K38 x]) [K4] [] fun o7=>rB (vB o7.1.1.1)else
   qq (aK p n 22 [va K38 y,va K43 m]) [K38,K49,K3] [] fun o8=>bif m.1==(3:Int)then(bif vI o8.1.2.2.1.1==(2:Int)then qq (aK p n 19 [va K38 o8.1.1,va K38 y]) [K4] [] fun o9=>rB (vB o9.1.1.1)else rB false)
    else bif m.1==(4:Int)then(bif vI o8.1.2.2.1.1==(2:Int)then qq (aK p n 19 [va K38 o8.1.1,va K38 y]) [K4] [] fun o9=>rB (vB o9.1.1.1)else rB false)
    else bif m.1==(5:Int)then(bif vI o8.1.2.2.1.1==(2:Int)then qq (aK p n 19 [va K38 o8.1.1,va K38 y]) [K4] [] fun o9=>rB (vB o9.1.1.1)else rB false)
    else(bif vI o8.1.2.2.1.1==(0:Int)then qq (aK p n 19 [va K38 o8.1.1,va K38 y]) [K4] [] fun o9=>rB (vB o9.1.1.1)else rB false))=some pW:=by
  intro n hn
  by_cases hc:cd=0
  ·subst hc
   obtain⟨t1,t2⟩:(gC y m).1=y∧(gC y m).2.2=(bif A7 m then 2 else 0):=hT rfl
   clear hT hS
   have h8:=f22 y m hZ zm
   have h9:=f19 y y hZ
   rw[tF] at h9
   generalize gC y m=r8 at h8 t1 t2
   obtain⟨y8,l8,c8⟩:=r8
   have t1:y8=y:=t1
   subst t1
   have t2:c8=bif A7 m then 2 else 0:=t2
   unfold A7 at t2
   refine(aF rfl).trans ?_;refine(eO (h8 n (by omega))).trans ?_
   cases q3:m.1==(3:Int)with
   | true=>
    rw[q3] at t2
    have t2:c8=2:=t2
    subst t2
    refine(aM rfl).trans ?_;refine(aM rfl).trans ?_;refine(aB (h9 n (by omega))).trans ?_;rfl
   | false=>
   cases q4:m.1==(4:Int)with
   | true=>
    rw[q3,q4] at t2
    have t2:c8=2:=t2
    subst t2
    refine(aF rfl).trans ?_;refine(aM rfl).trans ?_;refine(aM rfl).trans ?_;refine(aB (h9 n (by omega))).trans ?_;rfl
   | false=>
   cases q5:m.1==(5:Int)with
   | true=>
    rw[q3,q4,q5] at t2
    have t2:c8=2:=t2
    subst t2
    refine(aF rfl).trans ?_;refine(aF rfl).trans ?_;refine(aM rfl).trans ?_;refine(aM rfl).trans ?_;refine(aB (h9 n (by omega))).trans ?_;rfl
   | false=>
    rw[q3,q4,q5] at t2
    have t2:c8=0:=t2
    subst t2
    refine(aF rfl).trans ?_;refine(aF rfl).trans ?_;refine(aF rfl).trans ?_;refine(aM rfl).trans ?_;refine(aB (h9 n (by omega))).trans ?_;rfl
  ·have e:y=x:=hS hc
   subst e
   refine(aM (show(cd != (0:Int))=true by simpa using hc)).trans ?_;refine(aB (h6 n (by omega))).trans ?_;rfl
 by_cases ht:(i64.wrap (m.2.2.1+1)).tmod 5=x.1
 ·exact go5 fun n hn=>Ev.now fun aA=>by
   unfold T5;refine(aB (h1 n (by omega))).trans ?_;refine(aF rfl).trans ?_;refine(bD (h2 n (by omega))).trans ?_;refine(eO (h3 n (by omega))).trans ?_;refine(eO (h4 n (by omega))).trans ?_;refine(aF (bne_self_eq_false _)).trans ?_;refine(aI (show ¬ ((5:Int)=0) by omega)).trans ?_;refine(eO (h5 n (by omega))).trans ?_
   refine(aF (show((i64.wrap (m.2.2.1+1)).tmod 5 != x.1)=false by simpa using ht)).trans ?_;exact tail n hn
 ·have e5:=hO ht
  subst e5
  exact go5 fun n hn=>Ev.now fun aA=>by
   unfold T5;refine(aB (h1 n (by omega))).trans ?_;refine(aF rfl).trans ?_;refine(bD (h2 n (by omega))).trans ?_;refine(eO (h3 n (by omega))).trans ?_;refine(eO (h4 n (by omega))).trans ?_;refine(aF (bne_self_eq_false _)).trans ?_;refine(aI (show ¬ ((5:Int)=0) by omega)).trans ?_;refine(eO (h5 n (by omega))).trans ?_
   refine(aM (show((i64.wrap (m.2.2.1+1)).tmod 5 != x.1)=true by simpa using ht)).trans ?_;refine(aF rfl).trans ?_;refine(aF rfl).trans ?_;refine(aB (h6 n (by omega))).trans ?_;refine(aF rfl).trans ?_;exact tail n hn
end Go.Abs.Xz
