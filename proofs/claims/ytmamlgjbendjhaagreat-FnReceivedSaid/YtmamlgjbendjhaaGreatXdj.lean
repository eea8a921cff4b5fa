/- What the functions of this program answer, part dj. -/
import Derived.Test.YtmamlgjbendjhaaGreatXdi
set_option linter.unusedVariables false
set_option maxHeartbeats 2000000
open Go.IntKind (i64)
namespace Go.Abs.Xz
open Go Go.Abs
structure NodX (y:NodeT):Prop where
 sz:SzN y
 n:1≤y.2.1∧y.2.1≤4
 sess:y.sess.length≤5
 cnt:y.num≤8∧y.clock≤8
theorem f218(c:dL)(h:CurOk c):∃ (y:NodeT) (d:dL),Ran p 11 218 [.ref ⟨K264,c⟩] ⟨[⟨K38,y⟩],[⟨K264,d⟩]⟩∧CurOk d∧NodX y:=by
 obtain⟨y,d1,h1,k1,D⟩:=f306 c h
 obtain⟨x2,d2,h2,k2,_⟩:=f219 d1 18 k1
 have z:=D.sz
 have s5:y.sess.length≤5:=Nat.le_succ_of_le D.sess
 cases q0:x2==0 with
 | true=>
  obtain⟨x3,d3,h3,k3,_⟩:=f249 d2 [((-1:Int),()),(y.2.1,())] k2 (by show 0<2;omega)
  exact⟨(x3,y.2),d3,go218 fun n hn=>Ev.now fun aA=>by unfold T218;refine(aG (h1 n (by omega))).trans ?_;refine(aG (h2 n (by omega))).trans ?_;refine(aN q0).trans ?_;refine(aG (h3 n (by omega))).trans ?_;rfl,k3,⟨⟨z.state,z.leaves,z.list,z.logs,z.got,z.acked,z.seen,z.lines,z.sess,z.rises⟩,D.n,s5,D.cnt⟩⟩
 | false=>
 cases q1:x2==1 with
 | true=>
  exact⟨(y.1,y.2.1,y.2.2.1,y.2.2.2.1,y.2.2.2.2.1,i64.wrap (y.2.2.2.2.2.1+1),y.2.2.2.2.2.2),d2,go218 fun n hn=>Ev.now fun aA=>by unfold T218;refine(aG (h1 n (by omega))).trans ?_;refine(aG (h2 n (by omega))).trans ?_;refine(aF q0).trans ?_;refine(aN q1).trans ?_;rfl,k2,⟨⟨z.state,z.leaves,z.list,z.logs,z.got,z.acked,z.seen,z.lines,z.sess,z.rises⟩,D.n,s5,D.cnt⟩⟩
 | false=>
 cases q2:x2==2 with
 | true=>
  have h0:=D.id.1
  have hk:y.1.toNat<y.got.length:=by have h3:=D.id;have h4:=D.got;omega
  refine⟨CF y (y.got.set y.1.toNat (i64.wrap ((gt y.got y.1.toNat).1+1),())) y.acked,d2,go218 fun n hn=>Ev.now fun aA=>by unfold T218;refine(aG (h1 n (by omega))).trans ?_;refine(aG (h2 n (by omega))).trans ?_;refine(aF q0).trans ?_;refine(aF q1).trans ?_;refine(aN q2).trans ?_;refine(aE h0).trans ?_;refine(aZ hk).trans ?_;refine(aZ hk).trans ?_;refine(aE h0).trans ?_;refine(aZ hk).trans ?_;refine(aZ hk).trans ?_;rfl,k2,⟨⟨z.state,z.leaves,z.list,z.logs,?_,z.acked,z.seen,z.lines,z.sess,z.rises⟩,D.n,s5,D.cnt⟩⟩
  show(List.set _ _ _).length≤aU;rw[List.length_set];exact z.got
 | false=>
 cases q3:x2==3 with
 | true=>
  obtain⟨t,d3,h3,k3,ht⟩:=f307 d2 k2
  exact⟨(y.1,y.2.1,y.2.2.1,y.2.2.2.1,y.2.2.2.2.1,y.2.2.2.2.2.1,y.2.2.2.2.2.2.1,y.2.2.2.2.2.2.2.1,y.2.2.2.2.2.2.2.2.1,y.got,y.acked,t,y.num,y.slots,y.sess,y.wait,y.limit,y.clock,y.rises,()),d3,go218 fun n hn=>Ev.now fun aA=>by unfold T218;refine(aG (h1 n (by omega))).trans ?_;refine(aG (h2 n (by omega))).trans ?_;refine(aF q0).trans ?_;refine(aF q1).trans ?_;refine(aF q2).trans ?_;refine(aN q3).trans ?_;refine(aG (h3 n (by omega))).trans ?_;rfl,k3,⟨⟨z.state,z.leaves,z.list,z.logs,z.got,z.acked,ht.sz.1,ht.sz.2,z.sess,z.rises⟩,D.n,s5,D.cnt⟩⟩
 | false=>
 cases q4:x2==4 with
 | true=>
  obtain⟨x3,d3,h3,k3,_⟩:=f249 d2 [((0:Int),()),((5:Int),())] k2 (by show 0<2;omega)
  exact⟨(y.1,y.2.1,y.2.2.1,y.2.2.2.1,y.2.2.2.2.1,y.2.2.2.2.2.1,y.2.2.2.2.2.2.1,y.2.2.2.2.2.2.2.1,y.2.2.2.2.2.2.2.2.1,y.got,y.acked,y.seen,y.num,x3,y.sess,y.wait,y.limit,y.clock,y.rises,()),d3,go218 fun n hn=>Ev.now fun aA=>by unfold T218;refine(aG (h1 n (by omega))).trans ?_;refine(aG (h2 n (by omega))).trans ?_;refine(aF q0).trans ?_;refine(aF q1).trans ?_;refine(aF q2).trans ?_;refine(aF q3).trans ?_;refine(aN q4).trans ?_;refine(aG (h3 n (by omega))).trans ?_;rfl,k3,⟨⟨z.state,z.leaves,z.list,z.logs,z.got,z.acked,z.seen,z.lines,z.sess,z.rises⟩,D.n,s5,D.cnt⟩⟩
 | false=>
 cases q5:x2==5 with
 | true=>
  obtain⟨x8,d8,h8,k8,_⟩:=f219 d2 6 k2
  obtain⟨b9,d9,h9,k9⟩:=f128 d8 2 k8
  obtain⟨x10,d10,h10,k10,_⟩:=f219 d9 9 k9
  have hb:y.sess.length+1≤bound:=by have:=D.sess;unfold bound;omega
  have hl:(y.sess++[(i64.wrap (x8 - 1),(1:Int),b9,x10,())]).length≤5:=by rw[List.length_append,List.length_singleton];have:=D.sess;omega
  exact⟨withS y (y.sess++[(i64.wrap (x8 - 1),(1:Int),b9,x10,())]),d10,go218 fun n hn=>Ev.now fun aA=>by unfold T218;refine(aG (h1 n (by omega))).trans ?_;refine(aG (h2 n (by omega))).trans ?_;refine(aF q0).trans ?_;refine(aF q1).trans ?_;refine(aF q2).trans ?_;refine(aF q3).trans ?_;refine(aF q4).trans ?_;refine(aN q5).trans ?_;refine(aG (h8 n (by omega))).trans ?_;refine(aG (h9 n (by omega))).trans ?_;refine(aG (h10 n (by omega))).trans ?_;refine(aE hb).trans ?_;rfl,k10,⟨lB z (Nat.le_trans hl (by decide)),D.n,hl,D.cnt⟩⟩
 | false=>
 cases q6:x2==6 with
 | true=>
  obtain⟨s,d3,h3,k3,hs⟩:=f308 d2 k2
  exact⟨(y.1,y.2.1,s.1,s.2.1,y.2.2.2.2),d3,go218 fun n hn=>Ev.now fun aA=>by unfold T218;refine(aG (h1 n (by omega))).trans ?_;refine(aG (h2 n (by omega))).trans ?_;refine(aF q0).trans ?_;refine(aF q1).trans ?_;refine(aF q2).trans ?_;refine(aF q3).trans ?_;refine(aF q4).trans ?_;refine(aF q5).trans ?_;refine(aN q6).trans ?_;refine(aG (h3 n (by omega))).trans ?_;rfl,k3,⟨⟨hs.sz (by omega),z.leaves,z.list,z.logs,z.got,z.acked,z.seen,z.lines,z.sess,z.rises⟩,D.n,s5,D.cnt⟩⟩
 | false=>
 cases q7:x2==7 with
 | true=>
  have hr:0<y.rises.length:=by rw[D.rises];omega
  refine⟨(y.1,y.2.1,y.2.2.1,y.2.2.2.1,y.2.2.2.2.1,y.2.2.2.2.2.1,y.2.2.2.2.2.2.1,y.2.2.2.2.2.2.2.1,y.2.2.2.2.2.2.2.2.1,y.got,y.acked,y.seen,y.num,y.slots,y.sess,y.wait,y.limit,y.clock,y.rises.set 0 ((gt y.rises 0).1,(gt y.rises 0).2.1,i64.wrap (y.clock+1),(gt y.rises 0).2.2.2),()),d2,go218 fun n hn=>Ev.now fun aA=>by unfold T218;refine(aG (h1 n (by omega))).trans ?_;refine(aG (h2 n (by omega))).trans ?_;refine(aF q0).trans ?_;refine(aF q1).trans ?_;refine(aF q2).trans ?_;refine(aF q3).trans ?_;refine(aF q4).trans ?_;refine(aF q5).trans ?_;refine(aF q6).trans ?_;refine(aN q7).trans ?_;refine(aE (show(0:Int)≤0 by omega)).trans ?_;refine(aZ hr).trans ?_;refine(aZ hr).trans ?_;rfl,k2,⟨⟨z.state,z.leaves,z.list,z.logs,z.got,z.acked,z.seen,z.lines,z.sess,?_⟩,D.n,s5,D.cnt⟩⟩
  show(List.set _ _ _).length≤aU;rw[List.length_set];exact z.rises
 | false=>
 cases q8:x2==8 with
 | true=>
  obtain⟨l,d3,h3,k3,hl⟩:=f309 d2 k2
  have hz:=hl.sz (by omega)
  exact⟨(y.1,y.2.1,y.2.2.1,y.2.2.2.1,y.2.2.2.2.1,y.2.2.2.2.2.1,l.1,l.2.1,l.2.2.1,y.got,y.acked,y.seen,y.num,y.slots,y.sess,y.wait,y.limit,y.clock,y.rises,()),d3,go218 fun n hn=>Ev.now fun aA=>by unfold T218;refine(aG (h1 n (by omega))).trans ?_;refine(aG (h2 n (by omega))).trans ?_;refine(aF q0).trans ?_;refine(aF q1).trans ?_;refine(aF q2).trans ?_;refine(aF q3).trans ?_;refine(aF q4).trans ?_;refine(aF q5).trans ?_;refine(aF q6).trans ?_;refine(aF q7).trans ?_;refine(aN q8).trans ?_;refine(aG (h3 n (by omega))).trans ?_;rfl,k3,⟨⟨z.state,z.leaves,hz.1,hz.2,z.got,z.acked,z.seen,z.lines,z.sess,z.rises⟩,D.n,s5,D.cnt⟩⟩
 | false=>exact⟨y,d2,go218 fun n hn=>Ev.now fun aA=>by unfold T218;refine(aG (h1 n (by omega))).trans ?_;refine(aG (h2 n (by omega))).trans ?_;refine(aF q0).trans ?_;refine(aF q1).trans ?_;refine(aF q2).trans ?_;refine(aF q3).trans ?_;refine(aF q4).trans ?_;refine(aF q5).trans ?_;refine(aF q6).trans ?_;refine(aF q7).trans ?_;refine(aF q8).trans ?_;rfl,k2,⟨z,D.n,s5,D.cnt⟩⟩
end Go.Abs.Xz
