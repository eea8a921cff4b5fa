/- What the functions of this program answer, part ea. -/
import Derived.Test.YtmamlgjbendjhaaGreatXdj
import Derived.Test.YtmamlgjbendjhaaGreatXns
import Derived.Test.YtmamlgjbendjhaaGreatXrg
set_option linter.unusedVariables false
namespace Go.Abs.Xz
open Go Go.Abs
structure Ticked (x:NodeT) (k:Nat) (y:NodeT):Prop where
 ok:NodeOk y
 id:y.1=x.1
 n:y.2.1=x.2.1
 num:y.num=x.num
 wait:y.wait=x.wait
 clock:y.clock=x.clock+((k:Nat):Int)
 age:∀ s∈y.sess,((k:Nat):Int)≤s.2.2.2.1
theorem FF{x:NodeT}(h:NodeOk x):Ticked x 0 x:=
 ⟨h,rfl,rfl,rfl,rfl,by show x.clock=x.clock+0;omega,fun s hs=>by
  have:=(((bV x).1 h.sess).2.1 s hs).2.2.2;rw[aQ] at this;exact this.1⟩
theorem xE{x y:NodeT}{k:Nat}(h:Ticked x k y)(hc:x.clock+((k:Nat):Int)<100000):Ticked x (k+1) (gE y):=by
 have hk:=xG h.ok
 have hcl:=h.ok.clock;have hwt:=h.ok.wait
 rw[aQ] at hcl hwt
 have hne:(y.clock==100000)=false:=by rw[beq_eq_false_iff_ne,h.clock];omega
 have e:gE y=mW y:=by unfold gE;rw[(cN y).2 h.ok,hne];rfl
 have hs:=(bV y).1 h.ok.sess
 rw[e] at hk ⊢
 refine⟨hk,h.id,h.n,h.num,h.wait,?_,fun s hm=>?_⟩
 ·show IntKind.i64.wrap (y.clock+1)=_;rw[h.clock] at hcl ⊢;rw[IntKind.wrap_i64];omega
 ·have e2:(mW y).sess=y.sess.flatMap fun s=>bif decide (IntKind.i64.wrap (s.2.2.2.1+1)≤y.wait)then[nU s] else[]:=cG (fun s:cW=>bif decide (IntKind.i64.wrap (s.2.2.2.1+1)≤y.wait)then[nU s] else[]) y.sess
  rw[e2] at hm
  obtain⟨r,hr,hx⟩:=List.mem_flatMap.1 hm
  have h1:=h.age r hr
  have h2:=(hs.2.1 r hr).2.2.2
  rw[aQ] at h2
  by_cases hd:IntKind.i64.wrap (r.2.2.2.1+1)≤y.wait
  ·rw[decide_eq_true hd] at hx
   rw[List.mem_singleton.1 hx]
   show((k+1:Nat):Int)≤IntKind.i64.wrap (r.2.2.2.1+1)
   rw[IntKind.wrap_i64];omega
  ·rw[decide_eq_false hd] at hx;cases hx
theorem zC{x y:NodeT}{k:Nat}(h:Ticked x k y)(hk:x.wait<((k:Nat):Int)):y.sess=[]:=by
 rw[List.eq_nil_iff_forall_not_mem]
 intro s hs
 have h1:=h.age s hs
 have h2:=(((bV y).1 h.ok.sess).2.1 s hs).2.2.2
 rw[aQ,h.wait] at h2
 omega
theorem xL(i:Int)(b:Bool):cE [] i b= -1:=rfl
def tN(x:NodeT)(to:Int):MsgT:=((3:Int),to,x.1,IntKind.i64.wrap (x.num+1),(0:Int),[],(0:Int),List.replicate (x.2.1).toNat z0,[],[],[],[],())
theorem D6{x y:NodeT}{to:Int}{k:Nat}(S:SynOk x to)(h:Ticked (bK x to) k y)(he:y.sess=[]):zQ y (tN x to)=(y,[],2):=by
 have hp:=S.peer;have hn:=S.nn;have hm:=S.num;have hid:=S.node.id
 rw[aQ,IntKind.wrap_i64] at hid
 have hyi:y.1=x.1:=h.id
 have hyn:y.2.1=x.2.1:=h.n
 have hv:mZ (List.replicate (x.2.1).toNat z0) 100000=true:=by
  unfold mZ;rw[bJ]
  intro i hi
  rw[w3 (by rw[List.length_replicate] at hi;exact hi)];rfl
 have hl:(((List.replicate (x.2.1).toNat z0).length:Nat):Int)=x.2.1:=by rw[List.length_replicate];omega
 have hok:jQ (tN x to)=true:=by
  unfold jQ mK dH
  simp only[Bool.and_eq_true,aQ,Bool.not_eq_true',beq_eq_false_iff_ne,decide_eq_true_eq]
  refine⟨⟨by show(0:Int)≤3∧(3:Int)≤5;omega,by show 0≤to∧to≤4;omega,by show 0≤x.1∧x.1≤4;omega,hp.2.2⟩,rfl,hv,?_,by show(0:Int)≤0∧(0:Int)≤100000;omega,rfl,?_,rfl,rfl⟩
  ·show 0≤IntKind.i64.wrap (x.num+1)∧IntKind.i64.wrap (x.num+1)≤100000;rw[tB hm];omega
  ·show(((List.replicate (x.2.1).toNat z0).length:Nat):Int)≤5;omega
 have hr:iK y (tN x to)=true:=by
  unfold iK
  simp only[Bool.and_eq_true,beq_iff_eq,Bool.not_eq_true',decide_eq_false_iff_not]
  exact⟨(cN y).2 h.ok,hok,by show x.1=y.1;omega,by show ¬ to≥y.2.1;omega,by rw[hyn];exact hl⟩
 rw[xT hr]
 have hf:m6 y (tN x to) false= -1:=by unfold m6;rw[he];rfl
 unfold sX
 show(bif decide (m6 y (tN x to) false<0)then(y,[],2)else _)=_
 rw[hf];rfl
theorem D5{x y:NodeT}{to:Int}{k:Nat}(S:SynOk x to)(h:Ticked (bK x to) k y)(he:y.sess=[])(hn:x.num≤8):gB y to=true:=by
 have hp:=S.peer;have hnn:=S.nn;have hm:=S.num
 have hyi:y.1=x.1:=h.id
 have hyn:y.2.1=x.2.1:=h.n
 have hyu:y.num=IntKind.i64.wrap (x.num+1):=h.num
 rw[tB hm] at hyu
 have hs:=h.ok.slots
 rw[aQ] at hs
 unfold gB lO
 simp only[Bool.and_eq_true,Bool.not_eq_true',decide_eq_false_iff_not,beq_eq_false_iff_ne,bne_iff_ne,aQ]
 refine⟨(cN y).2 h.ok,⟨?_,by omega⟩,by rw[he,xL];omega,by rw[he];show((0:Nat):Int)≠y.slots;omega,by omega⟩
 rw[hyn,IntKind.wrap_i64];omega
end Go.Abs.Xz
