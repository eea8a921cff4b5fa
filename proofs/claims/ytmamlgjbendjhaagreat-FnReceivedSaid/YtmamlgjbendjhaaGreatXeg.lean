/- What the functions of this program answer, part eg. -/
import Derived.Test.YtmamlgjbendjhaaGreatXef
import Derived.Test.YtmamlgjbendjhaaGreatXrh
import Derived.Test.YtmamlgjbendjhaaGreatW3
set_option linter.unusedVariables false
set_option maxHeartbeats 2000000
open Go.IntKind (i64)
namespace Go.Abs.Xz
open Go Go.Abs
theorem f247(c:dL)(h:CurOk c):∃ (m:MsgT) (d:dL),Ran p 8 247 [.ref ⟨K264,c⟩] ⟨[⟨K43,m⟩],[⟨K264,d⟩]⟩∧CurOk d∧SzM m:=by
 obtain⟨m,d1,h1,k1,D⟩:=f323 c h
 obtain⟨x2,d2,h2,k2,_⟩:=f219 d1 14 k1
 have z:=D.sz
 cases q0:x2==0 with
 | true=>
  obtain⟨x3,d3,h3,k3,_⟩:=f249 d2 [((-1:Int),()),((6:Int),())] k2 (by show 0<2;omega)
  exact⟨(x3,m.2),d3,go247 fun n hn=>Ev.now fun aA=>by unfold T247;refine(aG (h1 n (by omega))).trans ?_;refine(aG (h2 n (by omega))).trans ?_;refine(aN q0).trans ?_;refine(aG (h3 n (by omega))).trans ?_;rfl,k3,⟨z.leaves,z.vec,z.list,z.part,z.marks⟩⟩
 | false=>
 cases q1:x2==1 with
 | true=>exact⟨(m.1,m.2.1,m.2.1,m.2.2.2),d2,go247 fun n hn=>Ev.now fun aA=>by unfold T247;refine(aG (h1 n (by omega))).trans ?_;refine(aG (h2 n (by omega))).trans ?_;refine(aF q0).trans ?_;refine(aN q1).trans ?_;rfl,k2,⟨z.leaves,z.vec,z.list,z.part,z.marks⟩⟩
 | false=>
 cases q2:x2==2 with
 | true=>
  obtain⟨x3,d3,h3,k3,_⟩:=f249 d2 [((-1:Int),()),((1024:Int),()),((5:Int),())] k2 (by show 0<3;omega)
  exact⟨(m.1,m.2.1,m.2.2.1,m.2.2.2.1,m.hi,m.tree.1,x3,m.2.2.2.2.2.2.2),d3,go247 fun n hn=>Ev.now fun aA=>by unfold T247;refine(aG (h1 n (by omega))).trans ?_;refine(aG (h2 n (by omega))).trans ?_;refine(aF q0).trans ?_;refine(aF q1).trans ?_;refine(aN q2).trans ?_;refine(aG (h3 n (by omega))).trans ?_;rfl,k3,⟨z.leaves,z.vec,z.list,z.part,z.marks⟩⟩
 | false=>
 cases q3:x2==3 with
 | true=>
  obtain⟨x3,d3,h3,k3,_⟩:=f249 d2 [((-1:Int),()),((100001:Int),())] k2 (by show 0<2;omega)
  have hb:m.vec.length+1≤bound:=by have:=D.vec;unfold bound;omega
  exact⟨(m.1,m.2.1,m.2.2.1,m.2.2.2.1,m.hi,m.tree.1,m.tree.2.1,m.vec++[(x3,())],m.2.2.2.2.2.2.2.2),d3,go247 fun n hn=>Ev.now fun aA=>by unfold T247;refine(aG (h1 n (by omega))).trans ?_;refine(aG (h2 n (by omega))).trans ?_;refine(aF q0).trans ?_;refine(aF q1).trans ?_;refine(aF q2).trans ?_;refine(aN q3).trans ?_;refine(aG (h3 n (by omega))).trans ?_;refine(aE hb).trans ?_;rfl,k3,⟨z.leaves,by show(m.vec++[_]).length≤aU;rw[List.length_append,List.length_singleton];have:=D.vec;unfold aU;omega,z.list,z.part,z.marks⟩⟩
 | false=>
 cases q4:x2==4 with
 | true=>
  have hb:m.leaves.length+1≤bound:=by have:=D.list;unfold bound;omega
  exact⟨(m.1,m.2.1,m.2.2.1,m.2.2.2.1,m.hi,m.tree.1,m.tree.2.1,m.vec,m.leaves++[((0:Int),())],m.2.2.2.2.2.2.2.2.2),d2,go247 fun n hn=>Ev.now fun aA=>by unfold T247;refine(aG (h1 n (by omega))).trans ?_;refine(aG (h2 n (by omega))).trans ?_;refine(aF q0).trans ?_;refine(aF q1).trans ?_;refine(aF q2).trans ?_;refine(aF q3).trans ?_;refine(aN q4).trans ?_;refine(aE hb).trans ?_;rfl,k2,⟨z.leaves,z.vec,by show(m.leaves++[_]).length≤aU;rw[List.length_append,List.length_singleton];have:=D.list;unfold aU;omega,z.part,z.marks⟩⟩
 | false=>
 cases q5:x2==5 with
 | true=>
  obtain⟨s,d3,h3,k3,hs⟩:=f308 d2 k2
  exact⟨(m.1,m.2.1,m.2.2.1,m.2.2.2.1,m.hi,m.tree.1,m.tree.2.1,m.vec,m.leaves,s.1,s.2.1,m.marks,()),d3,go247 fun n hn=>Ev.now fun aA=>by unfold T247;refine(aG (h1 n (by omega))).trans ?_;refine(aG (h2 n (by omega))).trans ?_;refine(aF q0).trans ?_;refine(aF q1).trans ?_;refine(aF q2).trans ?_;refine(aF q3).trans ?_;refine(aF q4).trans ?_;refine(aN q5).trans ?_;refine(aG (h3 n (by omega))).trans ?_;rfl,k3,⟨z.leaves,z.vec,z.list,hs.sz (by omega),z.marks⟩⟩
 | false=>
 cases q6:x2==6 with
 | true=>
  obtain⟨s,d3,h3,k3,hs⟩:=f324 d2 k2
  exact⟨(m.1,m.2.1,m.2.2.1,m.2.2.2.1,m.hi,m.tree.1,m.tree.2.1,m.vec,m.leaves,m.part.1,m.part.2.1,s,()),d3,go247 fun n hn=>Ev.now fun aA=>by unfold T247;refine(aG (h1 n (by omega))).trans ?_;refine(aG (h2 n (by omega))).trans ?_;refine(aF q0).trans ?_;refine(aF q1).trans ?_;refine(aF q2).trans ?_;refine(aF q3).trans ?_;refine(aF q4).trans ?_;refine(aF q5).trans ?_;refine(aN q6).trans ?_;refine(aG (h3 n (by omega))).trans ?_;rfl,k3,⟨z.leaves,z.vec,z.list,z.part,Nat.le_trans hs (by decide)⟩⟩
 | false=>exact⟨m,d2,go247 fun n hn=>Ev.now fun aA=>by unfold T247;refine(aG (h1 n (by omega))).trans ?_;refine(aG (h2 n (by omega))).trans ?_;refine(aF q0).trans ?_;refine(aF q1).trans ?_;refine(aF q2).trans ?_;refine(aF q3).trans ?_;refine(aF q4).trans ?_;refine(aF q5).trans ?_;refine(aF q6).trans ?_;rfl,k2,z⟩
def KA:Out→Prop:=fun o=>∃ (y:NodeT) (m:MsgT),o=⟨[⟨K38,y⟩,⟨K43,m⟩],[]⟩∧NodX y∧SzM m
theorem F4{y:NodeT}{m:MsgT}(hy:NodX y)(hm:SzM m)(d1 d2:dL)(a:Int)(x5:Int)(d5 d:dL)(hd:CurOk d):∃ o,KA o∧∀ n,12 - 1≤n→It (fun aA (_:Unit)=>c112_9 (aK p n) aA ((y,()),(d1,())) ((m,()),(d2,())) (((a,()),()),()) (((x5,()),()),(d5,()))) ((0:Int),([]:List aX),d.1,d.2.1,d.2.2.1) (fun _=>some o):=by
 obtain⟨N,hN⟩:∃ N:Nat,y.2.1=((N:Nat):Int):=⟨y.2.1.toNat,by have:=hy.n;omega⟩
 have hn4:=hy.n
 refine It.ex (c:=fun n aA (_:Unit)=>c112_9 (aK p n) aA ((y,()),(d1,())) ((m,()),(d2,())) (((a,()),()),()) (((x5,()),()),(d5,()))) (fun i z=>∃ (v:List aX) (d:dL),z=((i:Int),v,d.1,d.2.1,d.2.2.1)∧CurOk d∧v.length≤i) KA N ?_ ?_ N 0 _ (by omega) ⟨[],d,rfl,hd,Nat.le_refl _⟩
 ·rintro i z hi ⟨v,d,rfl,hd,hv⟩
  obtain⟨q,e,hq,ke,_⟩:=f219 d 5 hd
  have hbd:v.length+1≤bound:=by unfold bound;omega
  refine⟨_,⟨v++[(q,())],e,rfl,ke,by rw[List.length_append,List.length_singleton];omega⟩,fun n hn aA u rec=>?_⟩
  show c112_9 (aK p n) aA ((y,()),(d1,())) ((m,()),(d2,())) (((a,()),()),()) (((x5,()),()),(d5,())) rec ((i:Int),v,d.1,d.2.1,d.2.2.1)=_
  unfold c112_9;dsimp only;rw[aL (show i<9223372036854775807 by omega)];refine(aE (show(i:Int)<y.2.1 by omega)).trans ?_;refine(aG (hq n (by omega))).trans ?_;refine(aE hbd).trans ?_;rfl
 ·rintro z ⟨v,d,rfl,hd,hv⟩
  have hv5:v.length≤aU:=by unfold aU;omega
  have fin:∀ (k fr:Int) (num:Int),SzM (k,fr,y.1,num,m.hi,m.tree.1,m.tree.2.1,v,m.leaves,m.part.1,m.part.2.1,m.marks,()):=fun k fr num=>⟨hm.leaves,hv5,hm.list,hm.part,hm.marks⟩
  by_cases hs:((y.sess.length:Nat):Int)>0
  ·obtain⟨b8,d8,h8,k8⟩:=f128 d 2 hd
   cases b8 with
   | true=>
    obtain⟨x9,d9,h9,k9,a9,b9,_⟩:=f219 d8 ((y.sess.length:Nat):Int) k8
    obtain⟨t,rfl⟩:∃ t:Nat,x9=t:=⟨x9.toNat,by omega⟩
    have ht:t<y.sess.length:=by have:=b9 hs;omega
    obtain⟨x11,d11,h11,k11,_⟩:=f249 d9 [((3:Int),()),((5:Int),())] k9 (by show 0<2;omega)
    cases hin:(gt y.sess t).2.2.1 with
    | true=>
     refine⟨_,⟨y,_,rfl,hy,fin 4 (gt y.sess t).1 (gt y.sess t).2.1⟩,fun n hn=>It.stop fun aA u rec=>?_⟩
     show c112_9 (aK p n) aA ((y,()),(d1,())) ((m,()),(d2,())) (((a,()),()),()) (((x5,()),()),(d5,())) rec ((N:Int),v,d.1,d.2.1,d.2.2.1)=_
     unfold c112_9;dsimp only;refine(aI (show ¬ (N:Int)<y.2.1 by omega)).trans ?_;refine(aE hs).trans ?_;refine(aG (h8 n (by omega))).trans ?_;refine(aN rfl).trans ?_;refine(aG (h9 n (by omega))).trans ?_;refine bif_nn.trans ?_;refine(aJ ht).trans ?_;refine(aG (h11 n (by omega))).trans ?_;refine(aN hin).trans ?_;rfl
    | false=>
     refine⟨_,⟨y,_,rfl,hy,fin x11 (gt y.sess t).1 (gt y.sess t).2.1⟩,fun n hn=>It.stop fun aA u rec=>?_⟩
     show c112_9 (aK p n) aA ((y,()),(d1,())) ((m,()),(d2,())) (((a,()),()),()) (((x5,()),()),(d5,())) rec ((N:Int),v,d.1,d.2.1,d.2.2.1)=_
     unfold c112_9;dsimp only;refine(aI (show ¬ (N:Int)<y.2.1 by omega)).trans ?_;refine(aE hs).trans ?_;refine(aG (h8 n (by omega))).trans ?_;refine(aN rfl).trans ?_;refine(aG (h9 n (by omega))).trans ?_;refine bif_nn.trans ?_;refine(aJ ht).trans ?_;refine(aG (h11 n (by omega))).trans ?_;refine(aF hin).trans ?_;rfl
   | false=>
    refine⟨_,⟨y,_,rfl,hy,fin m.1 ((i64.wrap (i64.wrap (a+1)+x5)).tmod y.2.1) m.2.2.2.1⟩,fun n hn=>It.stop fun aA u rec=>?_⟩
    show c112_9 (aK p n) aA ((y,()),(d1,())) ((m,()),(d2,())) (((a,()),()),()) (((x5,()),()),(d5,())) rec ((N:Int),v,d.1,d.2.1,d.2.2.1)=_
    unfold c112_9;dsimp only;refine(aI (show ¬ (N:Int)<y.2.1 by omega)).trans ?_;refine(aE hs).trans ?_;refine(aG (h8 n (by omega))).trans ?_;refine(aF rfl).trans ?_;rfl
  ·refine⟨_,⟨y,_,rfl,hy,fin m.1 ((i64.wrap (i64.wrap (a+1)+x5)).tmod y.2.1) m.2.2.2.1⟩,fun n hn=>It.stop fun aA u rec=>?_⟩
   show c112_9 (aK p n) aA ((y,()),(d1,())) ((m,()),(d2,())) (((a,()),()),()) (((x5,()),()),(d5,())) rec ((N:Int),v,d.1,d.2.1,d.2.2.1)=_
   unfold c112_9;dsimp only;refine(aI (show ¬ (N:Int)<y.2.1 by omega)).trans ?_;refine(aI hs).trans ?_;rfl
theorem f112(b:List aX)(hb:b.length≤1048576):∃ (y:NodeT) (m:MsgT),Ran p 12 112 [.val false ⟨K22,(b,())⟩] ⟨[⟨K38,y⟩,⟨K43,m⟩],[]⟩∧NodX y∧SzM m:=by
 obtain⟨o,⟨y,m,rfl,hy,hm⟩,hL⟩:=It.new (lvl:=12 - 1) (c:=fun n aA (_:Unit)=>c112_10003 (aK p n) aA b) KA b hb (fun i h hi h4=>⟨_,fun n hn aA a rec=>by
   show c112_10003 (aK p n) aA b rec (h,(i:Int))=_
   unfold c112_10003;dsimp only;rw[aL (show i<9223372036854775807 by omega)];refine(aE (Int.ofNat_lt.2 hi)).trans ?_;refine(aE (show(i:Int)<4000 by omega)).trans ?_;refine bif_nn.trans ?_;refine(aJ hi).trans ?_;rfl⟩) (fun h i hc hi=>by
   obtain⟨y,d1,h1,k1,hy⟩:=f218 _ hc
   obtain⟨m,d2,h2,k2,hm⟩:=f247 d1 k1
   have hn4:=hy.n
   by_cases hN:y.2.1>1
   ·obtain⟨b3,d3,h3,k3⟩:=f128 d2 6 k2
    cases b3 with
    | true=>
     exact⟨_,⟨y,m,rfl,hy,hm⟩,fun n hn=>⟨0,fun aA _ a rec=>by
      show c112_10003 (aK p n) aA b rec (h,i)=_
      unfold c112_10003;refine(v9 hi).trans ?_;refine(aG (h1 n (by omega))).trans ?_;refine(aG (h2 n (by omega))).trans ?_;refine(aE hN).trans ?_;refine(aG (h3 n (by omega))).trans ?_;refine(aF rfl).trans ?_;rfl⟩⟩
    | false=>
     have h4:=f248 y.1 0
     obtain⟨x5,d5,h5,k5,_⟩:=f219 d3 (i64.wrap (y.2.1 - 1)) k3
     obtain⟨o,ho,hL⟩:=F4 hy hm d1 d2 (mxI true y.1 0) x5 d5 d5 k5
     refine⟨o,ho,fun n hn=>?_⟩
     obtain⟨M,hM⟩:=(hL n hn).all_i
     refine⟨M,fun aA hf a rec=>?_⟩
     show c112_10003 (aK p n) aA b rec (h,i)=_
     unfold c112_10003;refine(v9 hi).trans ?_;refine(aG (h1 n (by omega))).trans ?_;refine(aG (h2 n (by omega))).trans ?_;refine(aE hN).trans ?_;refine(aG (h3 n (by omega))).trans ?_;refine(aN rfl).trans ?_;refine(aB (h4 n (by omega))).trans ?_;refine(aG (h5 n (by omega))).trans ?_;refine(aI (show ¬ y.2.1=0 by omega)).trans ?_;exact hM aA hf a
   ·exact⟨_,⟨y,m,rfl,hy,hm⟩,fun n hn=>⟨0,fun aA _ a rec=>by
     show c112_10003 (aK p n) aA b rec (h,i)=_
     unfold c112_10003;refine(v9 hi).trans ?_;refine(aG (h1 n (by omega))).trans ?_;refine(aG (h2 n (by omega))).trans ?_;refine(aI hN).trans ?_;rfl⟩⟩) (i64.wrap (26583+((b.length:Nat):Int)))
 exact⟨y,m,go112 fun n hn=>Ev.eq (fun aA=>by unfold T112;rfl) ((hL n (by omega)).ev (i:=()) rfl),hy,hm⟩
theorem f26(b:List aX)(hb:b.length≤1048576):∃ (y:NodeT) (m:MsgT),Ran p 13 26 [.val false ⟨K22,(b,())⟩] ⟨[⟨K38,y⟩,⟨K43,m⟩],[]⟩∧NodX y∧SzM m:=by
 obtain⟨y,m,h1,hy,hm⟩:=f112 b hb
 exact⟨y,m,go26 fun n hn=>Ev.now fun aA=>by unfold T26;refine(bD (h1 n (by omega))).trans ?_;rfl,hy,hm⟩
end Go.Abs.Xz
