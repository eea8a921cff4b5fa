/- What the functions of this program answer, part di. -/
import Derived.Test.YtmamlgjbendjhaaGreatXdh
set_option linter.unusedVariables false
set_option maxHeartbeats 2000000
open Go.IntKind (i64)
namespace Go.Abs.Xz
open Go Go.Abs
structure NodD (y:NodeT):Prop where
 sz:SzN y
 n:1≤y.2.1∧y.2.1≤4
 id:0≤y.1∧y.1<y.2.1
 got:y.got.length=y.2.1.toNat
 acked:y.acked.length=y.2.1.toNat
 sess:y.sess.length≤4
 rises:y.rises.length=5
 cnt:y.num≤8∧y.clock≤8
structure NodR (m i:Nat) (y:NodeT):Prop where
 ok:NodeOk y
 sz:SzN y
 n:y.2.1=((m:Nat):Int)
 cnt:y.num≤((i:Nat):Int)∧y.clock≤((i:Nat):Int)
theorem NodR.d{m i:Nat}{y:NodeT}(h:NodR m i y)(h4:m≤4)(hi:i≤8):NodD y:=by
 have h1:=h.ok.n;have h2:=h.ok.id;have h3:=h.ok.got;have h5:=((cN y).1 h.ok.sess).1;have h6:=h.ok.slots;have h7:=eq_of_beq h.ok.rises;have h8:=h.ok.acked
 have hn:=h.n
 rw[aU] at h1 h2 h6
 rw[IntKind.wrap_i64] at h2
 unfold dS at h3 h8
 simp only[Bool.and_eq_true,beq_iff_eq] at h3 h8
 exact⟨h.sz,by omega,by omega,by omega,by omega,by omega,by omega,by have:=h.cnt;omega⟩
theorem MA(x:NodeT)(k i:Int)(t:ByteArray):(qA x k i t).1.2.1=x.2.1:=by
 unfold qA
 cases rP x k i with
 | false=>rfl
 | true=>
  cases (fV x.state k i t).2 != 0 with
  | true=>rfl
  | false=>cases mP x.log (fV x.state k i t).1<;>rfl
theorem HA(x:NodeT)(k i:Int)(t:ByteArray):(qA x k i t).1.num=x.num∧(qA x k i t).1.clock=x.clock:=by
 unfold qA
 cases rP x k i with
 | false=>exact⟨rfl,rfl⟩
 | true=>
  cases (fV x.state k i t).2 != 0 with
  | true=>exact⟨rfl,rfl⟩
  | false=>cases mP x.log (fV x.state k i t).1<;>exact⟨rfl,rfl⟩
theorem GZ(x:NodeT)(i:Int):(mX x i).1.num≤x.num+1∧(mX x i).1.clock=x.clock:=by
 unfold mX
 cases hb:mY x i with
 | false=>exact⟨by show x.num≤x.num+1;omega,rfl⟩
 | true=>exact⟨by show i64.wrap (x.num+1)≤x.num+1;rw[CK (p5 hb).num];omega,rfl⟩
theorem ET{x:NodeT}(h:NodeOk x):(mI x).num=x.num∧(mI x).clock≤x.clock+1:=by
 have hc:=h.clock;rw[aU] at hc
 unfold mI
 cases dP x with
 | false=>exact⟨rfl,by show x.clock≤x.clock+1;omega⟩
 | true=>
  cases x.clock==100000 with
  | true=>exact⟨rfl,by show x.clock≤x.clock+1;omega⟩
  | false=>exact⟨rfl,by show i64.wrap (x.clock+1)≤x.clock+1;rw[IntKind.wrap_i64];omega⟩
theorem L5(x:NodeT)(i:Int):(mX x i).1.2.1=x.2.1:=by unfold mX;cases mY x i<;>rfl
theorem J3{x:NodeT}(h:NodeOk x)(i:Int):NodeOk (mX x i).1:=by
 unfold mX
 cases hb:mY x i with
 | false=>exact h
 | true=>exact(p5 hb).up
theorem J0(x:NodeT):(mI x).2.1=x.2.1:=by unfold mI;cases dP x<;>cases x.clock==100000<;>rfl
def CD(x:NodeT)(k:Int)(ms:List aR):NodeT:=
 (x.1,x.2.1,x.2.2.1,x.2.2.2.1,x.2.2.2.2.1,x.2.2.2.2.2.1,x.2.2.2.2.2.2.1,x.2.2.2.2.2.2.2.1,x.2.2.2.2.2.2.2.2.1,x.got,x.acked,bB x.seen k ms,x.num,x.slots,x.sess,x.wait,x.limit,x.clock,x.rises,())
theorem E3{x:NodeT}(h:NodeOk x)(k:Int)(ms:List aR):NodeOk (CD x k ms):=
 ⟨h.n,h.id,h.state,h.tree,h.log,h.got,h.acked,h.own,mW h.seen,h.ack,h.num,h.clock,h.slots,h.wait,h.limit,h.rises,h.rise,h.sess⟩
theorem E0{x:NodeT}(h:SzN x)(k:Int)(ms:List aR):SzN (CD x k ms):=
 ⟨h.state,h.leaves,h.list,h.logs,h.got,h.acked,by show(bB _ _ _).length≤aS;rw[cT];exact h.seen,fun i hi=>by
  show(gt (bB x.seen k ms) i).1.length≤aS
  rw[eG];exact h.lines i (by have:i<(bB x.seen k ms).length:=hi;rw[cT] at this;exact this),h.sess,h.rises⟩
def B3(y:NodeT)(g a:List aZ):NodeT:=
 (y.1,y.2.1,y.2.2.1,y.2.2.2.1,y.2.2.2.2.1,y.2.2.2.2.2.1,y.2.2.2.2.2.2.1,y.2.2.2.2.2.2.2.1,y.2.2.2.2.2.2.2.2.1,g,a,y.seen,y.num,y.slots,y.sess,y.wait,y.limit,y.clock,y.rises,())
theorem f306(c:dI)(h:CurOk c):∃ (y:NodeT) (d:dI),Ran p 10 306 [.ref ⟨K264,c⟩] ⟨[⟨K38,y⟩],[⟨K264,d⟩]⟩∧CurOk d∧NodD y:=by
 obtain⟨x1,d1,h1,k1,a1,b1,_⟩:=f219 c 4 h
 have c1:=b1 (by omega)
 obtain⟨m,hm⟩:∃ m:Nat,1+x1=m:=⟨(1+x1).toNat,by omega⟩
 have hw:i64.wrap (1+x1)=(m:Int):=by rw[IntKind.wrap_i64];omega
 have hm1:1≤m∧m≤4:=by omega
 obtain⟨x2,d2,h2,k2,a2,b2,_⟩:=f219 d1 (i64.wrap (1+x1)) k1
 obtain⟨x3,d3,h3,k3,e3⟩:=f249 d2 [((1:Int),()),((2:Int),()),((8:Int),())] k2 (by show 0<3;omega)
 obtain⟨x4,d4,h4,k4,a4,b4,_⟩:=f219 d3 3 k3
 obtain⟨x5,d5,h5,k5,a5,b5,_⟩:=f219 d4 5 k4
 obtain⟨x6,d6,h6,k6,a6,b6,_⟩:=f219 d5 6 k5
 obtain⟨x8,d8,h8,k8,a8,b8,_⟩:=f219 d6 8 k6
 have h7:=f348 x2 (i64.wrap (1+x1)) x3 (i64.wrap (1+x4)) (i64.wrap (1+x5)) (i64.wrap (1+x6))
 have w4:i64.wrap (1+x4)=1+x4:=by have:=b4 (by omega);rw[IntKind.wrap_i64];omega
 have w5:i64.wrap (1+x5)=1+x5:=by have:=b5 (by omega);rw[IntKind.wrap_i64];omega
 have w6:i64.wrap (1+x6)=1+x6:=by have:=b6 (by omega);rw[IntKind.wrap_i64];omega
 have c2:=b2 (by rw[hw];omega)
 have c3:inB x3 1 8=true:=by
  simp only[List.mem_cons,List.not_mem_nil,or_false,Prod.mk.injEq,and_true] at e3
  rw[aU];omega
 have hB:inB (i64.wrap (1+x1)) 1 5=true:=by rw[hw,aU];omega
 have hNN:=HW (id:=x2) (n:=i64.wrap (1+x1)) (cap:=x3) (slots:=i64.wrap (1+x4)) (wait:=i64.wrap (1+x5)) (lim:=i64.wrap (1+x6)) hB ⟨a2,c2⟩ c3
  (by rw[w4,aU];have:=b4 (by omega);omega) (by rw[w5,aU];have:=b5 (by omega);omega) (by rw[w6,aU];have:=b6 (by omega);omega)
 have hN0:=vH (id:=x2) (n:=i64.wrap (1+x1)) (cap:=x3) (slots:=i64.wrap (1+x4)) (wait:=i64.wrap (1+x5)) (lim:=i64.wrap (1+x6)) hB ⟨a2,c2⟩ c3
  (by rw[w4,aU];have:=b4 (by omega);omega) (by rw[w5,aU];have:=b5 (by omega);omega) (by rw[w6,aU];have:=b6 (by omega);omega)
 have hZ0:=vG x2 (i64.wrap (1+x1)) x3 (i64.wrap (1+x4)) (i64.wrap (1+x5)) (i64.wrap (1+x6)) hB
 have hcnt0:(gR x2 (i64.wrap (1+x1)) x3 (i64.wrap (1+x4)) (i64.wrap (1+x5)) (i64.wrap (1+x6))).num≤((0:Nat):Int)∧(gR x2 (i64.wrap (1+x1)) x3 (i64.wrap (1+x4)) (i64.wrap (1+x5)) (i64.wrap (1+x6))).clock≤((0:Nat):Int):=⟨Int.le_refl _,Int.le_refl _⟩
 have hn0:(gR x2 (i64.wrap (1+x1)) x3 (i64.wrap (1+x4)) (i64.wrap (1+x5)) (i64.wrap (1+x6))).2.1=((m:Nat):Int):=hw
 generalize gR x2 (i64.wrap (1+x1)) x3 (i64.wrap (1+x4)) (i64.wrap (1+x5)) (i64.wrap (1+x6))=y0 at hNN hN0 hZ0 hn0 hcnt0
 let Good:Out→Prop:=fun o=>∃ (y:NodeT) (d:dI),o=⟨[⟨K38,y⟩],[⟨K264,d⟩]⟩∧CurOk d∧NodD y
 have second:∀ (y:NodeT) (d:dI),NodR m 8 y→CurOk d→∃ o,Good o∧∀ n,10 - 1≤n→It (fun aA (_:Unit)=>c306_18 (aK p n) aA (((x1,()),()),(d1,())) y.1 y.clock y.2.2.1 y.2.2.2.1 y.2.2.2.2.1 y.log.2.2.1 y.seen y.sess y.rises y.2.1 y.2.2.2.2.2.1 y.log.1 y.log.2.1 y.num y.slots y.wait y.limit) ((0:Int),y.got,y.acked,d.1,d.2.1,d.2.2.1) (fun _=>some o):=by
  intro y d hy hd
  have D:=hy.d hm1.2 (Nat.le_refl _)
  have hlog:=f231 y.log hy.sz.list hy.sz.logs
  have lenm:y.got.length=m∧y.acked.length=m:=by have h1:=D.got;have h2:=D.acked;have h3:=hy.n;omega
  refine It.ex (c:=fun n aA (_:Unit)=>c306_18 (aK p n) aA (((x1,()),()),(d1,())) y.1 y.clock y.2.2.1 y.2.2.2.1 y.2.2.2.2.1 y.log.2.2.1 y.seen y.sess y.rises y.2.1 y.2.2.2.2.2.1 y.log.1 y.log.2.1 y.num y.slots y.wait y.limit) (fun i z=>∃ (g a:List aZ) (d:dI),z=((i:Int),g,a,d.1,d.2.1,d.2.2.1)∧CurOk d∧g.length=m∧a.length=m) Good m ?_ ?_ m 0 _ (by omega) ⟨y.got,y.acked,d,rfl,hd,lenm.1,lenm.2⟩
  ·rintro i z hi ⟨g,a,d,rfl,hd,hg,ha⟩
   have gi:i<g.length:=by omega
   have ai:i<a.length:=by omega
   cases q:(i:Int) != y.1 with
   | true=>
    obtain⟨x23,d23,h23,k23,_⟩:=f219 d 4 hd
    obtain⟨x26,d26,h26,k26,_⟩:=f219 d23 (i64.wrap (bZ y.log+1)) k23
    refine⟨_,⟨g.set i (x23,()),a.set i (x26,()),d26,rfl,k26,by rw[List.length_set];exact hg,by rw[List.length_set];exact ha⟩,fun n hn aA u rec=>?_⟩
    show c306_18 (aK p n) aA (((x1,()),()),(d1,())) y.1 y.clock y.2.2.1 y.2.2.2.1 y.2.2.2.2.1 y.log.2.2.1 y.seen y.sess y.rises y.2.1 y.2.2.2.2.2.1 y.log.1 y.log.2.1 y.num y.slots y.wait y.limit rec ((i:Int),g,a,d.1,d.2.1,d.2.2.1)=_
    unfold c306_18;dsimp only;rw[aL (show i<9223372036854775807 by omega)];refine(aE (show(i:Int)<i64.wrap (1+x1) by rw[hw];omega)).trans ?_
    (first | refine(aM q).trans ?_ | refine(aM rfl).trans ?_);refine(aG (h23 n (by omega))).trans ?_;refine bif_nn.trans ?_;refine(aJ gi).trans ?_;refine(aJ gi).trans ?_;refine(aB (hlog n (by omega))).trans ?_;refine(aG (h26 n (by omega))).trans ?_;refine bif_nn.trans ?_;refine(aJ ai).trans ?_;refine(aJ ai).trans ?_;rfl
   | false=>
    obtain⟨x26,d26,h26,k26,_⟩:=f219 d (i64.wrap (bZ y.log+1)) hd
    refine⟨_,⟨g,a.set i (x26,()),d26,rfl,k26,hg,by rw[List.length_set];exact ha⟩,fun n hn aA u rec=>?_⟩
    show c306_18 (aK p n) aA (((x1,()),()),(d1,())) y.1 y.clock y.2.2.1 y.2.2.2.1 y.2.2.2.2.1 y.log.2.2.1 y.seen y.sess y.rises y.2.1 y.2.2.2.2.2.1 y.log.1 y.log.2.1 y.num y.slots y.wait y.limit rec ((i:Int),g,a,d.1,d.2.1,d.2.2.1)=_
    unfold c306_18;dsimp only;rw[aL (show i<9223372036854775807 by omega)];refine(aE (show(i:Int)<i64.wrap (1+x1) by rw[hw];omega)).trans ?_
    (first | refine(aF q).trans ?_ | refine(aF rfl).trans ?_);refine(aB (hlog n (by omega))).trans ?_;refine(aG (h26 n (by omega))).trans ?_;refine bif_nn.trans ?_;refine(aJ ai).trans ?_;refine(aJ ai).trans ?_;rfl
  ·rintro z ⟨g,a,d,rfl,hd,hg,ha⟩
   have hsm:m≤aS:=by unfold aS;omega
   have hz:SzN (B3 y g a):=⟨hy.sz.state,hy.sz.leaves,hy.sz.list,hy.sz.logs,by show g.length≤aS;omega,by show a.length≤aS;omega,hy.sz.seen,hy.sz.lines,hy.sz.sess,hy.sz.rises⟩
   have hn1:=hy.n
   refine⟨_,⟨B3 y g a,d,rfl,hd,⟨hz,D.n,D.id,by show g.length=y.2.1.toNat;omega,by show a.length=y.2.1.toNat;omega,D.sess,D.rises,D.cnt⟩⟩,fun n hn=>It.stop fun aA u rec=>?_⟩
   show c306_18 (aK p n) aA (((x1,()),()),(d1,())) y.1 y.clock y.2.2.1 y.2.2.2.1 y.2.2.2.2.1 y.log.2.2.1 y.seen y.sess y.rises y.2.1 y.2.2.2.2.2.1 y.log.1 y.log.2.1 y.num y.slots y.wait y.limit rec ((m:Int),g,a,d.1,d.2.1,d.2.2.1)=_
   unfold c306_18;refine(aI (show ¬ (m:Int)<i64.wrap (1+x1) by rw[hw];omega)).trans ?_;rfl
 obtain⟨t,rfl⟩:∃ t:Nat,x8=t:=⟨x8.toNat,by omega⟩
 have ht:=b8 (by omega)
 have first:=It.ex (lvl:=10 - 1) (c:=fun n aA (_:Unit)=>c306_5 (aK p n) aA (((x1,()),()),(d1,())) ((((t:Int),()),()),(d8,()))) (fun i z=>∃ (y:NodeT) (d:dI),z=((i:Int),y.1,y.2.1,y.2.2.2.2.2.1,y.log.1,y.log.2.1,y.num,y.slots,y.wait,y.limit,y.clock,y.2.2.1,y.2.2.2.1,y.2.2.2.2.1,y.log.2.2.1,y.got,y.acked,y.seen,y.sess,y.rises,d.1,d.2.1,d.2.2.1)∧CurOk d∧NodR m i y) Good t (by
  rintro i z hi ⟨y,d,rfl,hd,hy⟩
  obtain⟨x9,d9,h9,k9,_⟩:=f219 d 6 hd
  cases q0:x9==0 with
  | true=>
   obtain⟨s,d10,h10,k10,hs,ho⟩:=f349 d9 k9
   have h11:=f254 y s hy.sz (hs.sz (by omega)) (uO hy.ok) ho
   refine⟨_,⟨fF y s,d10,rfl,k10,⟨hy.ok.take ho,i7 hy.sz s,hy.n,by have:=hy.cnt;exact⟨by show y.num≤_;omega,by show y.clock≤_;omega⟩⟩⟩,fun n hn aA u rec=>?_⟩
   show c306_5 (aK p n) aA (((x1,()),()),(d1,())) ((((t:Int),()),()),(d8,())) rec _=_
   unfold c306_5;dsimp only;rw[aL (show i<9223372036854775807 by omega)];refine(aE (show(i:Int)<(t:Int) by omega)).trans ?_;refine(aG (h9 n (by omega))).trans ?_;refine(aM q0).trans ?_;refine(aG (h10 n (by omega))).trans ?_;refine(aB (h11 n (by omega))).trans ?_;rfl
  | false=>
  cases q1:x9==1 with
  | true=>
   have h11:=f297 y hy.sz
   refine⟨_,⟨mI y,d9,rfl,k9,⟨GV hy.ok,GU hy.sz,by rw[J0];exact hy.n,by have h1:=hy.cnt;have h2:=ET hy.ok;omega⟩⟩,fun n hn aA u rec=>?_⟩
   show c306_5 (aK p n) aA (((x1,()),()),(d1,())) ((((t:Int),()),()),(d8,())) rec _=_
   unfold c306_5;dsimp only;rw[aL (show i<9223372036854775807 by omega)];refine(aE (show(i:Int)<(t:Int) by omega)).trans ?_;refine(aG (h9 n (by omega))).trans ?_;refine(aF q0).trans ?_;refine(aM q1).trans ?_;refine(aB (h11 n (by omega))).trans ?_;rfl
  | false=>
  cases q2:x9==2 with
  | true=>
   obtain⟨x13,d13,h13,k13,_⟩:=f219 d9 (i64.wrap (1+x1)) k9
   obtain⟨s,d14,h14,k14,hs,ho⟩:=f349 d13 k13
   have h15:=f234 s (hs.sz (by omega))
   have h16:=f257 y.seen x13 (cA s) hy.sz.seen hy.sz.lines (Nat.le_trans (dU s) (by decide))
   refine⟨_,⟨CD y x13 (cA s),d14,rfl,k14,⟨E3 hy.ok _ _,E0 hy.sz _ _,hy.n,by have:=hy.cnt;exact⟨by show y.num≤_;omega,by show y.clock≤_;omega⟩⟩⟩,fun n hn aA u rec=>?_⟩
   show c306_5 (aK p n) aA (((x1,()),()),(d1,())) ((((t:Int),()),()),(d8,())) rec _=_
   unfold c306_5;dsimp only;rw[aL (show i<9223372036854775807 by omega)];refine(aE (show(i:Int)<(t:Int) by omega)).trans ?_;refine(aG (h9 n (by omega))).trans ?_;refine(aF q0).trans ?_;refine(aF q1).trans ?_;refine(aM q2).trans ?_;refine(aG (h13 n (by omega))).trans ?_;refine(aG (h14 n (by omega))).trans ?_;refine(aB (h15 n (by omega))).trans ?_;refine(aB (h16 n (by omega))).trans ?_;rfl
  | false=>
  cases q3:x9==3 with
  | true=>
   obtain⟨x17,d17,h17,k17,_⟩:=f219 d9 (i64.wrap (1+x1)) k9
   have h18:=f18 y x17 hy.sz
   refine⟨_,⟨(mX y x17).1,d17,rfl,k17,⟨J3 hy.ok _,(J2 hy.sz _).1,by rw[L5];exact hy.n,by have h1:=hy.cnt;have h2:=GZ y x17;omega⟩⟩,fun n hn aA u rec=>?_⟩
   show c306_5 (aK p n) aA (((x1,()),()),(d1,())) ((((t:Int),()),()),(d8,())) rec _=_
   unfold c306_5;dsimp only;rw[aL (show i<9223372036854775807 by omega)];refine(aE (show(i:Int)<(t:Int) by omega)).trans ?_;refine(aG (h9 n (by omega))).trans ?_;refine(aF q0).trans ?_;refine(aF q1).trans ?_;refine(aF q2).trans ?_;refine(aM q3).trans ?_;refine(aG (h17 n (by omega))).trans ?_;refine(eO (h18 n (by omega))).trans ?_;rfl
  | false=>
   obtain⟨x19,d19,h19,k19,_⟩:=f219 d9 5 k9
   obtain⟨x20,d20,h20,k20,_⟩:=f219 d19 (i64.wrap (1+x1)) k19
   obtain⟨x21,d21,h21,k21,_⟩:=f350 d20 [((⟨#[]⟩:ByteArray),()),((⟨#[120]⟩:ByteArray),()),((⟨#[121,122]⟩:ByteArray),())] k20 (by show 0<3;omega)
   have h22:=f298 y x19 x20 x21 hy.sz
   refine⟨_,⟨(qA y x19 x20 x21).1,d21,rfl,k21,⟨KC hy.ok _ _ _,KB hy.sz _ _ _,by rw[MA];exact hy.n,by have h1:=hy.cnt;have h2:=HA y x19 x20 x21;omega⟩⟩,fun n hn aA u rec=>?_⟩
   show c306_5 (aK p n) aA (((x1,()),()),(d1,())) ((((t:Int),()),()),(d8,())) rec _=_
   unfold c306_5;dsimp only;rw[aL (show i<9223372036854775807 by omega)];refine(aE (show(i:Int)<(t:Int) by omega)).trans ?_;refine(aG (h9 n (by omega))).trans ?_;refine(aF q0).trans ?_;refine(aF q1).trans ?_;refine(aF q2).trans ?_;refine(aF q3).trans ?_;refine(aG (h19 n (by omega))).trans ?_;refine(aG (h20 n (by omega))).trans ?_;refine(aG (h21 n (by omega))).trans ?_;refine(eO (h22 n (by omega))).trans ?_;rfl) (by
  rintro z ⟨y,d,rfl,hd,hy⟩
  obtain⟨o,ho,hL⟩:=second y d ⟨hy.ok,hy.sz,hy.n,by have:=hy.cnt;omega⟩ hd
  refine⟨o,ho,fun n hn=>It.stopE (T:=fun aA _=>iter (c306_18 (aK p n) aA (((x1,()),()),(d1,())) y.1 y.clock y.2.2.1 y.2.2.2.1 y.2.2.2.2.1 y.log.2.2.1 y.seen y.sess y.rises y.2.1 y.2.2.2.2.2.1 y.log.1 y.log.2.1 y.num y.slots y.wait y.limit) aA ((0:Int),y.got,y.acked,d.1,d.2.1,d.2.2.1)) (fun aA u rec=>?_) (hL n hn).all_i⟩
  show c306_5 (aK p n) aA (((x1,()),()),(d1,())) ((((t:Int),()),()),(d8,())) rec _=_
  unfold c306_5;refine(aI (Int.lt_irrefl _)).trans ?_;rfl)
 obtain⟨o,⟨y,d,rfl,hd,hy⟩,hL⟩:=first t 0 ((0:Int),y0.1,y0.2.1,y0.2.2.2.2.2.1,y0.log.1,y0.log.2.1,y0.num,y0.slots,y0.wait,y0.limit,y0.clock,y0.2.2.1,y0.2.2.2.1,y0.2.2.2.2.1,y0.log.2.2.1,y0.got,y0.acked,y0.seen,y0.sess,y0.rises,d8.1,d8.2.1,d8.2.2.1) (by omega) ⟨y0,d8,rfl,k8,⟨hN0,hZ0,hn0,hcnt0⟩⟩
 rw[hNN.2] at h7
 exact⟨y,d,go306 fun n hn=>Ev.eq (fun aA=>by unfold T306;refine(aG (h1 n (by omega))).trans ?_;refine(aG (h2 n (by omega))).trans ?_;refine(aG (h3 n (by omega))).trans ?_;refine(aG (h4 n (by omega))).trans ?_;refine(aG (h5 n (by omega))).trans ?_;refine(aG (h6 n (by omega))).trans ?_;refine(bD (h7 n (by omega))).trans ?_;refine(aG (h8 n (by omega))).trans ?_;rfl) ((hL n (by omega)).ev (i:=()) rfl),hd,hy⟩
end Go.Abs.Xz
