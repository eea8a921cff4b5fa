/- What the functions of this program answer, part ec. -/
import Derived.Test.YtmamlgjbendjhaaGreatXeb
import Derived.Test.YtmamlgjbendjhaaGreatW3
set_option linter.unusedVariables false
namespace Go.Abs.Xz
open Go Go.Abs
theorem CC{a b:List aY}(h:eG a b=true):a=b:=by
 unfold eG at h
 simp only[Bool.and_eq_true,beq_iff_eq,bK] at h
 exact AO (by omega) fun i hi=>Prod.ext (by have:=h.2 i hi;simpa using this) rfl
theorem F4{x:NodeT}(h:NodeOk x):jT x.tree=true:=by
 have h1:=h.tree
 unfold oA at h1
 rw[Bool.and_eq_true] at h1
 have e1:x.tree.1=(bS x.state).1:=CC h1.1
 have e2:x.tree.2.1=(bS x.state).2.1:=eq_of_beq h1.2
 have e:x.tree=bS x.state:=Prod.ext e1 (Prod.ext e2 rfl)
 rw[e];exact DE h.state
theorem sS{v:List aY}{n:Int}(h:dF v n=true):nG v 100000=true∧((v.length:Nat):Int)=n∧1≤n∧n≤5:=by
 unfold dF at h
 simp only[Bool.and_eq_true,beq_iff_eq,aQ] at h
 exact⟨h.2.2,h.2.1,h.1⟩
/-- A message that a right node writes fits, whatever its kind. -/
theorem EH{x:NodeT}(h:NodeOk x){k to num:Int}{tree:hZ}(hk:0≤k∧k≤5)(ht:0≤to∧to≤4∧to≠x.1)(hn:0≤num∧num≤100000)(hT:jT tree=true):
  iS (k,x.1,to,num,bU x.log,tree.1,tree.2.1,x.got,[],[],[],cZ x.state,())=true:=by
 have hv:=sS h.got
 have hid:=h.id
 have hl:=vX h.log
 rw[aQ,IntKind.wrap_i64] at hid
 unfold iS mW dK
 simp only[Bool.and_eq_true,aQ,Bool.not_eq_true',beq_eq_false_iff_ne,decide_eq_true_eq]
 exact⟨⟨hk,by show 0≤x.1∧x.1≤4;omega,by show 0≤to∧to≤4;omega,fun e=>ht.2.2 e.symm⟩,rfl,hv.1,hn,hl,hT,by show((x.got.length:Nat):Int)≤5;omega,rfl,z5 _⟩
end Go.Abs.Xz
