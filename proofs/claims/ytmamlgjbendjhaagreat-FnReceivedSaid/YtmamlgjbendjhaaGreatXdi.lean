/- What the functions of this program answer, part di. -/
import Derived.Test.YtmamlgjbendjhaaGreatXdh
set_option linter.unusedVariables false
set_option maxHeartbeats 2000000
open Go.IntKind (i64)
namespace Go.Abs.Xz
open Go Go.Abs
structure NodD (y:NodeT):Prop where
 sz:SzN y
 n:1≤y.2.1∧y.2.1≤4
 id:0≤y.1∧y.1<y.2.1
 got:y.got.length=y.2.1.toNat
 acked:y.acked.length=y.2.1.toNat
 sess:y.sess.length≤4
 rises:y.rises.length=5
 cnt:y.num≤8∧y.clock≤8
structure NodR (m i:Nat) (y:NodeT):Prop where
 ok:NodeOk y
 sz:SzN y
 n:y.2.1=((m:Nat):Int)
 cnt:y.num≤((i:Nat):Int)∧y.clock≤((i:Nat):Int)
theorem NodR.d{m i:Nat}{y:NodeT}(h:NodR m i y)(h4:m≤4)(hi:i≤8):NodD y:=by
 have h1:=h.ok.n;have h2:=h.ok.id;have h3:=h.ok.got;have h5:=((cP y).1 h.ok.sess).1;have h6:=h.ok.slots;have h7:=eq_of_beq h.ok.rises;have h8:=h.ok.acked
 have hn:=h.n
 rw[aS] at h1 h2 h6
 rw[IntKind.wrap_i64] at h2
 unfold dX at h3 h8
 simp only[Bool.and_eq_true,beq_iff_eq] at h3 h8
 exact⟨h.sz,by omega,by omega,by omega,by omega,by omega,by omega,by have:=h.cnt;omega⟩
theorem MP(x:NodeT)(k i:Int)(t:ByteArray):(qH x k i t).1.2.1=x.2.1:=by
 unfold qH
 cases rZ x k i with
 | false=>rfl
 | true=>
  cases (fW x.state k i t).2 != 0 with
  | true=>rfl
  | false=>cases mX x.log (fW x.state k i t).1<;>rfl
theorem HQ(x:NodeT)(k i:Int)(t:ByteArray):(qH x k i t).1.num=x.num∧(qH x k i t).1.clock=x.clock:=by
 unfold qH
 cases rZ x k i with
 | false=>exact⟨rfl,rfl⟩
 | true=>
  cases (fW x.state k i t).2 != 0 with
  | true=>exact⟨rfl,rfl⟩
  | false=>cases mX x.log (fW x.state k i t).1<;>exact⟨rfl,rfl⟩
theorem HG(x:NodeT)(i:Int):(m9 x i).1.num≤x.num+1∧(m9 x i).1.clock=x.clock:=by
 unfold m9
 cases hb:nA x i with
 | false=>exact⟨by show x.num≤x.num+1;omega,rfl⟩
 | true=>exact⟨by show i64.wrap (x.num+1)≤x.num+1;rw[CY (qC hb).num];omega,rfl⟩
theorem FB{x:NodeT}(h:NodeOk x):(mP x).num=x.num∧(mP x).clock≤x.clock+1:=by
 have hc:=h.clock;rw[aS] at hc
 unfold mP
 cases eF x with
 | false=>exact⟨rfl,by show x.clock≤x.clock+1;omega⟩
 | true=>
  cases x.clock==100000 with
  | true=>exact⟨rfl,by show x.clock≤x.clock+1;omega⟩
  | false=>exact⟨rfl,by show i64.wrap (x.clock+1)≤x.clock+1;rw[IntKind.wrap_i64];omega⟩
theorem MK(x:NodeT)(i:Int):(m9 x i).1.2.1=x.2.1:=by unfold m9;cases nA x i<;>rfl
theorem KL{x:NodeT}(h:NodeOk x)(i:Int):NodeOk (m9 x i).1:=by
 unfold m9
 cases hb:nA x i with
 | false=>exact h
 | true=>exact(qC hb).up
theorem KI(x:NodeT):(mP x).2.1=x.2.1:=by unfold mP;cases eF x<;>cases x.clock==100000<;>rfl
def CQ(x:NodeT)(k:Int)(ms:List aR):NodeT:=
 (x.1,x.2.1,x.2.2.1,x.2.2.2.1,x.2.2.2.2.1,x.2.2.2.2.2.1,x.2.2.2.2.2.2.1,x.2.2.2.2.2.2.2.1,x.2.2.2.2.2.2.2.2.1,x.got,x.acked,bB x.seen k ms,x.num,x.slots,x.sess,x.wait,x.limit,x.clock,x.rises,())
theorem FJ{x:NodeT}(h:NodeOk x)(k:Int)(ms:List aR):NodeOk (CQ x k ms):=
 ⟨h.n,h.id,h.state,h.tree,h.log,h.got,h.acked,h.own,m8 h.seen,h.ack,h.num,h.clock,h.slots,h.wait,h.limit,h.rises,h.rise,h.sess⟩
theorem FI{x:NodeT}(h:SzN x)(k:Int)(ms:List aR):SzN (CQ x k ms):=
 ⟨h.state,h.leaves,h.list,h.logs,h.got,h.acked,by show(bB _ _ _).length≤aU;rw[cU];exact h.seen,fun i hi=>by
  show(gt (bB x.seen k ms) i).1.length≤aU
  rw[eN];exact h.lines i (by have:i<(bB x.seen k ms).length:=hi;rw[cU] at this;exact this),h.sess,h.rises⟩
def CF(y:NodeT)(g a:List aX):NodeT:=
 (y.1,y.2.1,y.2.2.1,y.2.2.2.1,y.2.2.2.2.1,y.2.2.2.2.2.1,y.2.2.2.2.2.2.1,y.2.2.2.2.2.2.2.1,y.2.2.2.2.2.2.2.2.1,g,a,y.seen,y.num,y.slots,y.sess,y.wait,y.limit,y.clock,y.rises,())
theorem f306(c:dL)(h:CurOk c):∃ (y:NodeT) (d:dL),Ran p 10 306 [.ref ⟨K264,c⟩] ⟨[⟨K38,y⟩],[⟨K264,d⟩]⟩∧CurOk d∧NodD y:=by
 obtain⟨x1,d1,h1,k1,a1,b1,_⟩:=f219 c 4 h
 have c1:=b1 (by omega)
 obtain⟨m,hm⟩:∃ m:Nat,1+x1=m:=⟨(1+x1).toNat,by omega⟩
 have hw:i64.wrap (1+x1)=(m:Int):=by rw[IntKind.wrap_i64];omega
 have hm1:1≤m∧m≤4:=by omega
 obtain⟨x2,d2,h2,k2,a2,b2,_⟩:=f219 d1 (i64.wrap (1+x1)) k1
 obtain⟨x3,d3,h3,k3,e3⟩:=f249 d2 [((1:Int),()),((2:Int),()),((8:Int),())] k2 (by show 0<3;omega)
 obtain⟨x4,d4,h4,k4,a4,b4,_⟩:=f219 d3 3 k3
 obtain⟨x5,d5,h5,k5,a5,b5,_⟩:=f219 d4 5 k4
 obtain⟨x6,d6,h6,k6,a6,b6,_⟩:=f219 d5 6 k5
 obtain⟨x8,d8,h8,k8,a8,b8,_⟩:=f219 d6 8 k6
 have h7:=f348 x2 (i64.wrap (1+x1)) x3 (i64.wrap (1+x4)) (i64.wrap (1+x5)) (i64.wrap (1+x6))
 have w4:i64.wrap (1+x4)=1+x4:=by have:=b4 (by omega);rw[IntKind.wrap_i64];omega
 have w5:i64.wrap (1+x5)=1+x5:=by have:=b5 (by omega);rw[IntKind.wrap_i64];omega
 have w6:i64.wrap (1+x6)=1+x6:=by have:=b6 (by omega);rw[IntKind.wrap_i64];omega
 have c2:=b2 (by rw[hw];omega)
 have c3:inB x3 1 8=true:=by
  simp only[List.mem_cons,List.not_mem_nil,or_false,Prod.mk.injEq,and_true] at e3
  rw[aS];omega
 have hB:inB (i64.wrap (1+x1)) 1 5=true:=by rw[hw,aS];omega
 have hNN:=IG (id:=x2) (n:=i64.wrap (1+x1)) (cap:=x3) (slots:=i64.wrap (1+x4)) (wait:=i64.wrap (1+x5)) (lim:=i64.wrap (1+x6)) hB ⟨a2,c2⟩ c3
  (by rw[w4,aS];have:=b4 (by omega);omega) (by rw[w5,aS];have:=b5 (by omega);omega) (by rw[w6,aS];have:=b6 (by omega);omega)
 have hN0:=vR (id:=x2) (n:=i64.wrap (1+x1)) (cap:=x3) (slots:=i64.wrap (1+x4)) (wait:=i64.wrap (1+x5)) (lim:=i64.wrap (1+x6)) hB ⟨a2,c2⟩ c3
  (by rw[w4,aS];have:=b4 (by omega);omega) (by rw[w5,aS];have:=b5 (by omega);omega) (by rw[w6,aS];have:=b6 (by omega);omega)
 have hZ0:=vQ x2 (i64.wrap (1+x1)) x3 (i64.wrap (1+x4)) (i64.wrap (1+x5)) (i64.wrap (1+x6)) hB
 have hcnt0:(gU x2 (i64.wrap (1+x1)) x3 (i64.wrap (1+x4)) (i64.wrap (1+x5)) (i64.wrap (1+x6))).num≤((0:Nat):Int)∧(gU x2 (i64.wrap (1+x1)) x3 (i64.wrap (1+x4)) (i64.wrap (1+x5)) (i64.wrap (1+x6))).clock≤((0:Nat):Int):=⟨Int.le_refl _,Int.le_refl _⟩
 have hn0:(gU x2 (i64.wrap (1+x1)) x3 (i64.wrap (1+x4)) (i64.wrap (1+x5)) (i64.wrap (1+x6))).2.1=((m:Nat):Int):=hw
 generalize gU x2 (i64.wrap (1+x1)) x3 (i64.wrap (1+x4)) (i64.wrap (1+x5)) (i64.wrap (1+x6))=y0 at hNN hN0 hZ0 hn0 hcnt0
 let Good:Out→Prop:=fun o=>∃ (y:NodeT) (d:dL),o=⟨[⟨K38,y⟩],[⟨K264,d⟩]⟩∧CurOk d∧NodD y
 have second:∀ (y:NodeT) (d:dL),NodR m 8 y→CurOk d→∃ o,Good o∧∀ n,10 - 1≤n→It (fun aA (_:Unit)=>c306_18 (aK p n) aA (((x1,()),()),(d1,())) y.1 y.clock y.2.2.1 y.2.2.2.1 y.2.2.2.2.1 y.log.2.2.1 y.seen y.sess y.rises y.2.1 y.2.2.2.2.2.1 y.log.1 y.log.2.1 y.num y.slots y.wait y.limit) ((0:Int),y.got,y.acked,d.1,d.2.1,d.2.2.1) (fun _=>some o):=by
  intro y d hy hd
  have D:=hy.d hm1.2 (Nat.le_refl _)
  have hlog:=f231 y.log hy.sz.list hy.sz.logs
  have lenm:y.got.length=m∧y.acked.length=m:=by have h1:=D.got;have h2:=D.acked;have h3:=hy.n;omega
  refine It.ex (c:=fun n aA (_:Unit)=>c306_18 (aK p n) aA (((x1,()),()),(d1,())) y.1 y.clock y.2.2.1 y.2.2.2.1 y.2.2.2.2.1 y.log.2.2.1 y.seen y.sess y.rises y.2.1 y.2.2.2.2.2.1 y.log.1 y.log.2.1 y.num y.slots y.wait y.limit) (fun i z=>∃ (g a:List aX) (d:dL),z=((i:Int),g,a,d.1,d.2.1,d.2.2.1)∧CurOk d∧g.length=m∧a.length=m) Good m ?_ ?_ m 0 _ (by omega) ⟨y.got,y.acked,d,rfl,hd,lenm.1,lenm.2⟩
  ·rintro i z hi ⟨g,a,d,rfl,hd,hg,ha⟩
   have gi:i<g.length:=by omega
   have ai:i<a.length:=by omega
   cases q:(i:Int) != y.1 with
   | true=>
    obtain⟨x23,d23,h23,k23,_⟩:=f219 d 4 hd
    obtain⟨x26,d26,h26,k26,_⟩:=f219 d23 (i64.wrap (cA y.log+1)) k23
    refine⟨_,⟨g.set i (x23,()),a.set i (x26,()),d26,rfl,k26,by rw[List.length_set];exact hg,by rw[List.length_set];exact ha⟩,fun n hn aA u rec=>?_⟩
    show c306_18 (aK p n) aA (((x1,()),()),(d1,())) y.1 y.clock y.2.2.1 y.2.2.2.1 y.2.2.2.2.1 y.log.2.2.1 y.seen y.sess y.rises y.2.1 y.2.2.2.2.2.1 y.log.1 y.log.2.1 y.num y.slots y.wait y.limit rec ((i:Int),g,a,d.1,d.2.1,d.2.2.1)=_
    unfold c306_18;dsimp only;rw[aL (show i<9223372036854775807 by omega)];refine(aE (show(i:Int)<i64.wrap (1+x1) by rw[hw];omega)).trans ?_
    (first | refine(aN q).trans ?_ | refine(aN rfl).trans ?_);refine(aG (h23 n (by omega))).trans ?_;refine bif_nn.trans ?_;refine(aJ gi).trans ?_;refine(aJ gi).trans ?_;refine(aB (hlog n (by omega))).trans ?_;refine(aG (h26 n (by omega))).trans ?_;refine bif_nn.trans ?_;refine(aJ ai).trans ?_;refine(aJ ai).trans ?_;rfl
   | false=>
    obtain⟨x26,d26,h26,k26,_⟩:=f219 d (i64.wrap (cA y.log+1)) hd
    refine⟨_,⟨g,a.set i (x26,()),d26,rfl,k26,hg,by rw[List.length_set];exact ha⟩,fun n hn aA u rec=>?_⟩
    show c306_18 (aK p n) aA (((x1,()),()),(d1,())) y.1 y.clock y.2.2.1 y.2.2.2.1 y.2.2.2.2.1 y.log.2.2.1 y.seen y.sess y.rises y.2.1 y.2.2.2.2.2.1 y.log.1 y.log.2.1 y.num y.slots y.wait y.limit rec ((i:Int),g,a,d.1,d.2.1,d.2.2.1)=_
    unfold c306_18;dsimp only;rw[aL (show i<9223372036854775807 by omega)];refine(aE (show(i:Int)<i64.wrap (1+x1) by rw[hw];omega)).trans ?_
    (first | refine(aF q).trans ?_ | refine(aF rfl).trans ?_);refine(aB (hlog n (by omega))).trans ?_;refine(aG (h26 n (by omega))).trans ?_;refine bif_nn.trans ?_;refine(aJ ai).trans ?_;refine(aJ ai).trans ?_;rfl
  ·rintro z ⟨g,a,d,rfl,hd,hg,ha⟩
   have hsm:m≤aU:=by unfold aU;omega
   have hz:SzN (CF y g a):=⟨hy.sz.state,hy.sz.leaves,hy.sz.list,hy.sz.logs,by show g.length≤aU;omega,by show a.length≤aU;omega,hy.sz.seen,hy.sz.lines,hy.sz.sess,hy.sz.rises⟩
   have hn1:=hy.n
   refine⟨_,⟨CF y g a,d,rfl,hd,⟨hz,D.n,D.id,by show g.length=y.2.1.toNat;omega,by show a.length=y.2.1.toNat;omega,D.sess,D.rises,D.cnt⟩⟩,fun n hn=>It.stop fun aA u rec=>?_⟩
   show c306_18 (aK p n) aA (((x1,()),()),(d1,())) y.1 y.clock y.2.2.1 y.2.2.2.1 y.2.2.2.2.1 y.log.2.2.1 y.seen y.sess y.rises y.2.1 y.2.2.2.2.2.1 y.log.1 y.log.2.1 y.num y.slots y.wait y.limit rec ((m:Int),g,a,d.1,d.2.1,d.2.2.1)=_
   unfold c306_18;refine(aI (show ¬ (m:Int)<i64.wrap (1+x1) by rw[hw];omega)).trans ?_;rfl
 obtain⟨t,rfl⟩:∃ t:Nat,x8=t:=⟨x8.toNat,by omega⟩
 have ht:=b8 (by omega)
 have first:=It.ex (lvl:=10 - 1) (c:=fun n aA (_:Unit)=>c306_5 (aK p n) aA (((x1,()),()),(d1,())) ((((t:Int),()),()),(d8,()))) (fun i z=>∃ (y:NodeT) (d:dL),z=((i:Int),y.1,y.2.1,y.2.2.2.2.2.1,y.log.1,y.log.2.1,y.num,y.slots,y.wait,y.limit,y.clock,y.2.2.1,y.2.2.2.1,y.2.2.2.2.1,y.log.2.2.1,y.got,y.acked,y.seen,y.sess,y.rises,d.1,d.2.1,d.2.2.1)∧CurOk d∧NodR m i y) Good t (by
  rintro i z hi ⟨y,d,rfl,hd,hy⟩
  obtain⟨x9,d9,h9,k9,_⟩:=f219 d 6 hd
  cases q0:x9==0 with
  | true=>
   obtain⟨s,d10,h10,k10,hs,ho⟩:=f349 d9 k9
   have h11:=f254 y s hy.sz (hs.sz (by omega)) (uW hy.ok) ho
   refine⟨_,⟨fI y s,d10,rfl,k10,⟨hy.ok.take ho,jC hy.sz s,hy.n,by have:=hy.cnt;exact⟨by show y.num≤_;omega,by show y.clock≤_;omega⟩⟩⟩,fun n hn aA u rec=>?_⟩
   show c306_5 (aK p n) aA (((x1,()),()),(d1,())) ((((t:Int),()),()),(d8,())) rec _=_
   unfold c306_5;dsimp only;rw[aL (show i<9223372036854775807 by omega)];refine(aE (show(i:Int)<(t:Int) by omega)).trans ?_;refine(aG (h9 n (by omega))).trans ?_;refine(aN q0).trans ?_;refine(aG (h10 n (by omega))).trans ?_;refine(aB (h11 n (by omega))).trans ?_;rfl
  | false=>
  cases q1:x9==1 with
  | true=>
   have h11:=f297 y hy.sz
   refine⟨_,⟨mP y,d9,rfl,k9,⟨HC hy.ok,HB hy.sz,by rw[KI];exact hy.n,by have h1:=hy.cnt;have h2:=FB hy.ok;omega⟩⟩,fun n hn aA u rec=>?_⟩
   show c306_5 (aK p n) aA (((x1,()),()),(d1,())) ((((t:Int),()),()),(d8,())) rec _=_
   unfold c306_5;dsimp only;rw[aL (show i<9223372036854775807 by omega)];refine(aE (show(i:Int)<(t:Int) by omega)).trans ?_;refine(aG (h9 n (by omega))).trans ?_;refine(aF q0).trans ?_;refine(aN q1).trans ?_;refine(aB (h11 n (by omega))).trans ?_;rfl
  | false=>
  cases q2:x9==2 with
  | true=>
   obtain⟨x13,d13,h13,k13,_⟩:=f219 d9 (i64.wrap (1+x1)) k9
   obtain⟨s,d14,h14,k14,hs,ho⟩:=f349 d13 k13
   have h15:=f234 s (hs.sz (by omega))
   have h16:=f257 y.seen x13 (cB s) hy.sz.seen hy.sz.lines (Nat.le_trans (dZ s) (by decide))
   refine⟨_,⟨CQ y x13 (cB s),d14,rfl,k14,⟨FJ hy.ok _ _,FI hy.sz _ _,hy.n,by have:=hy.cnt;exact⟨by show y.num≤_;omega,by show y.clock≤_;omega⟩⟩⟩,fun n hn aA u rec=>?_⟩
   show c306_5 (aK p n) aA (((x1,()),()),(d1,())) ((((t:Int),()),()),(d8,())) rec _=_
   unfold c306_5;dsimp only;rw[aL (show i<9223372036854775807 by omega)];refine(aE (show(i:Int)<(t:Int) by omega)).trans ?_;refine(aG (h9 n (by omega))).trans ?_;refine(aF q0).trans ?_;refine(aF q1).trans ?_;refine(aN q2).trans ?_;refine(aG (h13 n (by omega))).trans ?_;refine(aG (h14 n (by omega))).trans ?_;refine(aB (h15 n (by omega))).trans ?_;refine(aB (h16 n (by omega))).trans ?_;rfl
  | false=>
  cases q3:x9==3 with
  | true=>
   obtain⟨x17,d17,h17,k17,_⟩:=f219 d9 (i64.wrap (1+x1)) k9
   have h18:=f18 y x17 hy.sz
   refine⟨_,⟨(m9 y x17).1,d17,rfl,k17,⟨KL hy.ok _,(KK hy.sz _).1,by rw[MK];exact hy.n,by have h1:=hy.cnt;have h2:=HG y x17;omega⟩⟩,fun n hn aA u rec=>?_⟩
   show c306_5 (aK p n) aA (((x1,()),()),(d1,())) ((((t:Int),()),()),(d8,())) rec _=_
   unfold c306_5;dsimp only;rw[aL (show i<9223372036854775807 by omega)];refine(aE (show(i:Int)<(t:Int) by omega)).trans ?_;refine(aG (h9 n (by omega))).trans ?_;refine(aF q0).trans ?_;refine(aF q1).trans ?_;refine(aF q2).trans ?_;refine(aN q3).trans ?_;refine(aG (h17 n (by omega))).trans ?_;refine(gB (h18 n (by omega))).trans ?_;rfl
  | false=>
   obtain⟨x19,d19,h19,k19,_⟩:=f219 d9 5 k9
   obtain⟨x20,d20,h20,k20,_⟩:=f219 d19 (i64.wrap (1+x1)) k19
   obtain⟨x21,d21,h21,k21,_⟩:=f350 d20 [((⟨#[]⟩:ByteArray),()),((⟨#[120]⟩:ByteArray),()),((⟨#[121,122]⟩:ByteArray),())] k20 (by show 0<3;omega)
   have h22:=f298 y x19 x20 x21 hy.sz
   refine⟨_,⟨(qH y x19 x20 x21).1,d21,rfl,k21,⟨KU hy.ok _ _ _,KT hy.sz _ _ _,by rw[MP];exact hy.n,by have h1:=hy.cnt;have h2:=HQ y x19 x20 x21;omega⟩⟩,fun n hn aA u rec=>?_⟩
   show c306_5 (aK p n) aA (((x1,()),()),(d1,())) ((((t:Int),()),()),(d8,())) rec _=_
   unfold c306_5;dsimp only;rw[aL (show i<9223372036854775807 by omega)];refine(aE (show(i:Int)<(t:Int) by omega)).trans ?_;refine(aG (h9 n (by omega))).trans ?_;refine(aF q0).trans ?_;refine(aF q1).trans ?_;refine(aF q2).trans ?_;refine(aF q3).trans ?_;refine(aG (h19 n (by omega))).trans ?_;refine(aG (h20 n (by omega))).trans ?_;refine(aG (h21 n (by omega))).trans ?_;refine(gB (h22 n (by omega))).trans ?_;rfl) (by
  rintro z ⟨y,d,rfl,hd,hy⟩
  obtain⟨o,ho,hL⟩:=second y d ⟨hy.ok,hy.sz,hy.n,by have:=hy.cnt;omega⟩ hd
  refine⟨o,ho,fun n hn=>It.stopE (T:=fun aA _=>iter (c306_18 (aK p n) aA (((x1,()),()),(d1,())) y.1 y.clock y.2.2.1 y.2.2.2.1 y.2.2.2.2.1 y.log.2.2.1 y.seen y.sess y.rises y.2.1 y.2.2.2.2.2.1 y.log.1 y.log.2.1 y.num y.slots y.wait y.limit) aA ((0:Int),y.got,y.acked,d.1,d.2.1,d.2.2.1)) (fun aA u rec=>?_) (hL n hn).all_i⟩
  show c306_5 (aK p n) aA (((x1,()),()),(d1,())) ((((t:Int),()),()),(d8,())) rec _=_
  unfold c306_5;refine(aI (Int.lt_irrefl _)).trans ?_;rfl)
 obtain⟨o,⟨y,d,rfl,hd,hy⟩,hL⟩:=first t 0 ((0:Int),y0.1,y0.2.1,y0.2.2.2.2.2.1,y0.log.1,y0.log.2.1,y0.num,y0.slots,y0.wait,y0.limit,y0.clock,y0.2.2.1,y0.2.2.2.1,y0.2.2.2.2.1,y0.log.2.2.1,y0.got,y0.acked,y0.seen,y0.sess,y0.rises,d8.1,d8.2.1,d8.2.2.1) (by omega) ⟨y0,d8,rfl,k8,⟨hN0,hZ0,hn0,hcnt0⟩⟩
 rw[hNN.2] at h7
 exact⟨y,d,go306 fun n hn=>Ev.eq (fun aA=>by unfold T306;refine(aG (h1 n (by omega))).trans ?_;refine(aG (h2 n (by omega))).trans ?_;refine(aG (h3 n (by omega))).trans ?_;refine(aG (h4 n (by omega))).trans ?_;refine(aG (h5 n (by omega))).trans ?_;refine(aG (h6 n (by omega))).trans ?_;refine(bD (h7 n (by omega))).trans ?_;refine(aG (h8 n (by omega))).trans ?_;rfl) ((hL n (by omega)).ev (i:=()) rfl),hd,hy⟩
end Go.Abs.Xz
