/- What the functions of this program answer, part fh. -/
import Derived.Test.YthhpkmbhjghidaaGreatW3
import Derived.Test.YthhpkmbhjghidaaGreatXdh
import Derived.Test.YthhpkmbhjghidaaGreatXra
import Derived.Test.YthhpkmbhjghidaaGreatXsa
import Derived.Test.YthhpkmbhjghidaaGreatW2
set_option linter.unusedVariables false
set_option maxHeartbeats 2000000
open Go.IntKind (i64)
namespace Go.Abs.Uz
open Go Go.Abs
structure NodD (y:NodeT):Prop where
 sz:SzN y
 n:1<=y.2.1/\y.2.1<=4
 id:0<=y.1/\y.1<y.2.1
 got:y.got.length=y.2.1.toNat
 acked:y.acked.length=y.2.1.toNat
 sess:y.sess.length<=4
 rises:y.rises.length=5
 cnt:y.num<=8/\y.clock<=8
structure NodR (m i:Nat) (y:NodeT):Prop where
 ok:NodeOk y
 sz:SzN y
 n:y.2.1=((m:Nat):Int)
 cnt:y.num<=((i:Nat):Int)/\y.clock<=((i:Nat):Int)
theorem NodR.d{m i:Nat}{y:NodeT}(h:NodR m i y)(h4:m<=4)(hi:i<=8):NodD y:=by
 have h1:=h.ok.n;have h2:=h.ok.id;have h3:=h.ok.got;have h5:=((dS y).1 h.ok.sess).1;have h6:=h.ok.slots;have h7:=eq_of_beq h.ok.rises;have h8:=h.ok.acked
 have hn:=h.n
 rw[aM] at h1 h2 h6
 rw[IntKind.wrap_i64] at h2
 unfold eD at h3 h8
 simp only[Bool.and_eq_true,beq_iff_eq] at h3 h8
 exact⟨h.sz,by omega,by omega,by omega,by omega,by omega,by omega,by have:=h.cnt;omega⟩
theorem T1(x:NodeT)(k i:Int)(t:ByteArray):(jJ x k i t).1.2.1=x.2.1:=by
 unfold jJ
 cases uP x k i with
 | false=>rfl
 | true=>
  cases (fQ x.state k i t).2 != 0 with
  | true=>rfl
  | false=>cases m6 x.log (fQ x.state k i t).1<;>rfl
theorem N5(x:NodeT)(k i:Int)(t:ByteArray):(jJ x k i t).1.num=x.num/\(jJ x k i t).1.clock=x.clock:=by
 unfold jJ
 cases uP x k i with
 | false=>exact⟨rfl,rfl⟩
 | true=>
  cases (fQ x.state k i t).2 != 0 with
  | true=>exact⟨rfl,rfl⟩
  | false=>cases m6 x.log (fQ x.state k i t).1<;>exact⟨rfl,rfl⟩
theorem NO(x:NodeT)(i:Int):(iZ x i).1.num<=x.num+1/\(iZ x i).1.clock=x.clock:=by
 unfold iZ
 cases hb:qA x i with
 | false=>exact⟨by show x.num<=x.num+1;omega,rfl⟩
 | true=>exact⟨by show i64.wrap (x.num+1)<=x.num+1;rw[HY (uI hb).num];omega,rfl⟩
theorem K0{x:NodeT}(h:NodeOk x):(mL x).num=x.num/\(mL x).clock<=x.clock+1:=by
 have hc:=h.clock;rw[aM] at hc
 unfold mL
 cases dU x with
 | false=>exact⟨rfl,by show x.clock<=x.clock+1;omega⟩
 | true=>
  cases x.clock==100000 with
  | true=>exact⟨rfl,by show x.clock<=x.clock+1;omega⟩
  | false=>exact⟨rfl,by show i64.wrap (x.clock+1)<=x.clock+1;rw[IntKind.wrap_i64];omega⟩
theorem TX(x:NodeT)(i:Int):(iZ x i).1.2.1=x.2.1:=by unfold iZ;cases qA x i<;>rfl
theorem RJ{x:NodeT}(h:NodeOk x)(i:Int):NodeOk (iZ x i).1:=by
 unfold iZ
 cases hb:qA x i with
 | false=>exact h
 | true=>exact(uI hb).up
theorem RG(x:NodeT):(mL x).2.1=x.2.1:=by unfold mL;cases dU x<;>cases x.clock==100000<;>rfl
def HM(x:NodeT)(k:Int)(ms:List aO):NodeT:=
 (x.1,x.2.1,x.2.2.1,x.2.2.2.1,x.2.2.2.2.1,x.2.2.2.2.2.1,x.2.2.2.2.2.2.1,x.2.2.2.2.2.2.2.1,x.2.2.2.2.2.2.2.2.1,x.got,x.acked,bL x.seen k ms,x.num,x.slots,x.sess,x.wait,x.limit,x.clock,x.rises,())
theorem LI{x:NodeT}(h:NodeOk x)(k:Int)(ms:List aO):NodeOk (HM x k ms):=
 ⟨h.n,h.id,h.state,h.tree,h.log,h.got,h.acked,h.own,p9 h.seen,h.ack,h.num,h.clock,h.slots,h.wait,h.limit,h.rises,h.rise,h.sess⟩
theorem LH{x:NodeT}(h:SzN x)(k:Int)(ms:List aO):SzN (HM x k ms):=
 ⟨h.state,h.leaves,h.list,h.logs,h.got,h.acked,by show(bL _ _ _).length<=aP;rw[c7];exact h.seen,λi hi=>by
  show(gt (bL x.seen k ms) i).1.length<=aP
  rw[eX];exact h.lines i (by have:i<(bL x.seen k ms).length:=hi;rw[c7] at this;exact this),h.sess,h.rises⟩
def G9(y:NodeT)(g a:List aH):NodeT:=
 (y.1,y.2.1,y.2.2.1,y.2.2.2.1,y.2.2.2.2.1,y.2.2.2.2.2.1,y.2.2.2.2.2.2.1,y.2.2.2.2.2.2.2.1,y.2.2.2.2.2.2.2.2.1,g,a,y.seen,y.num,y.slots,y.sess,y.wait,y.limit,y.clock,y.rises,())
theorem f152(c:eJ)(h:CurOk c):∃ (y:NodeT) (d:eJ),Ran p 10 152 [.ref ⟨K134,c⟩] ⟨[⟨K73,y⟩],[⟨K134,d⟩]⟩/\CurOk d/\NodD y:=by
 obtain⟨x1,d1,h1,k1,a1,b1,_⟩:=f35 c 4 h
 have c1:=b1 (by omega)
 obtain⟨m,hm⟩:∃ m:Nat,1+x1=m:=⟨(1+x1).toNat,by omega⟩
 have hw:i64.wrap (1+x1)=(m:Int):=by rw[IntKind.wrap_i64];omega
 have hm1:1<=m/\m<=4:=by omega
 obtain⟨x2,d2,h2,k2,a2,b2,_⟩:=f35 d1 (i64.wrap (1+x1)) k1
 obtain⟨x3,d3,h3,k3,e3⟩:=f153 d2 [((1:Int),()),((2:Int),()),((8:Int),())] k2 (by show 0<3;omega)
 obtain⟨x4,d4,h4,k4,a4,b4,_⟩:=f35 d3 3 k3
 obtain⟨x5,d5,h5,k5,a5,b5,_⟩:=f35 d4 5 k4
 obtain⟨x6,d6,h6,k6,a6,b6,_⟩:=f35 d5 6 k5
 obtain⟨x8,d8,h8,k8,a8,b8,_⟩:=f35 d6 8 k6
 have h7:=f202 x2 (i64.wrap (1+x1)) x3 (i64.wrap (1+x4)) (i64.wrap (1+x5)) (i64.wrap (1+x6))
 have w4:i64.wrap (1+x4)=1+x4:=by have:=b4 (by omega);rw[IntKind.wrap_i64];omega
 have w5:i64.wrap (1+x5)=1+x5:=by have:=b5 (by omega);rw[IntKind.wrap_i64];omega
 have w6:i64.wrap (1+x6)=1+x6:=by have:=b6 (by omega);rw[IntKind.wrap_i64];omega
 have c2:=b2 (by rw[hw];omega)
 have c3:inB x3 1 8=true:=by
  simp only[List.mem_cons,List.not_mem_nil,or_false,Prod.mk.injEq,and_true] at e3
  rw[aM];omega
 have hB:inB (i64.wrap (1+x1)) 1 5=true:=by rw[hw,aM];omega
 have hNN:=FZ (id:=x2) (n:=i64.wrap (1+x1)) (cap:=x3) (slots:=i64.wrap (1+x4)) (wait:=i64.wrap (1+x5)) (lim:=i64.wrap (1+x6)) hB ⟨a2,c2⟩ c3
  (by rw[w4,aM];have:=b4 (by omega);omega) (by rw[w5,aM];have:=b5 (by omega);omega) (by rw[w6,aM];have:=b6 (by omega);omega)
 have hN0:=AB (id:=x2) (n:=i64.wrap (1+x1)) (cap:=x3) (slots:=i64.wrap (1+x4)) (wait:=i64.wrap (1+x5)) (lim:=i64.wrap (1+x6)) hB ⟨a2,c2⟩ c3
  (by rw[w4,aM];have:=b4 (by omega);omega) (by rw[w5,aM];have:=b5 (by omega);omega) (by rw[w6,aM];have:=b6 (by omega);omega)
 have hZ0:=tJ x2 (i64.wrap (1+x1)) x3 (i64.wrap (1+x4)) (i64.wrap (1+x5)) (i64.wrap (1+x6)) hB
 have hcnt0:(gL x2 (i64.wrap (1+x1)) x3 (i64.wrap (1+x4)) (i64.wrap (1+x5)) (i64.wrap (1+x6))).num<=((0:Nat):Int)/\(gL x2 (i64.wrap (1+x1)) x3 (i64.wrap (1+x4)) (i64.wrap (1+x5)) (i64.wrap (1+x6))).clock<=((0:Nat):Int):=⟨Int.le_refl _,Int.le_refl _⟩
 have hn0:(gL x2 (i64.wrap (1+x1)) x3 (i64.wrap (1+x4)) (i64.wrap (1+x5)) (i64.wrap (1+x6))).2.1=((m:Nat):Int):=hw
 generalize gL x2 (i64.wrap (1+x1)) x3 (i64.wrap (1+x4)) (i64.wrap (1+x5)) (i64.wrap (1+x6))=y0 at hNN hN0 hZ0 hn0 hcnt0
 let Good:Out->Prop:=λo=>∃ (y:NodeT) (d:eJ),o=⟨[⟨K73,y⟩],[⟨K134,d⟩]⟩/\CurOk d/\NodD y
 have second:∀ (y:NodeT) (d:eJ),NodR m 8 y->CurOk d->∃ o,Good o/\∀ n,10 - 1<=n->It (λaA (_:Unit)=>c152_18 (aI p n) aA (((x1,()),()),(d1,())) y.1 y.clock y.2.2.1 y.2.2.2.1 y.2.2.2.2.1 y.log.2.2.1 y.seen y.sess y.rises y.2.1 y.2.2.2.2.2.1 y.log.1 y.log.2.1 y.num y.slots y.wait y.limit) ((0:Int),y.got,y.acked,d.1,d.2.1,d.2.2.1) (λ_=>some o):=by
  intro y d hy hd
  have D:=hy.d hm1.2 (Nat.le_refl _)
  have hlog:=f160 y.log hy.sz.list hy.sz.logs
  have lenm:y.got.length=m/\y.acked.length=m:=by have h1:=D.got;have h2:=D.acked;have h3:=hy.n;omega
  refine It.ex (c:=λn aA (_:Unit)=>c152_18 (aI p n) aA (((x1,()),()),(d1,())) y.1 y.clock y.2.2.1 y.2.2.2.1 y.2.2.2.2.1 y.log.2.2.1 y.seen y.sess y.rises y.2.1 y.2.2.2.2.2.1 y.log.1 y.log.2.1 y.num y.slots y.wait y.limit) (λi z=>∃ (g a:List aH) (d:eJ),z=((i:Int),g,a,d.1,d.2.1,d.2.2.1)/\CurOk d/\g.length=m/\a.length=m) Good m ?_ ?_ m 0 _ (by omega) ⟨y.got,y.acked,d,rfl,hd,lenm.1,lenm.2⟩
  ·rintro i z hi ⟨g,a,d,rfl,hd,hg,ha⟩
   have gi:i<g.length:=by omega
   have ai:i<a.length:=by omega
   cases q:(i:Int) != y.1 with
   | true=>
    obtain⟨x23,d23,h23,k23,_⟩:=f35 d 4 hd
    obtain⟨x26,d26,h26,k26,_⟩:=f35 d23 (i64.wrap (cA y.log+1)) k23
    refine⟨_,⟨g.set i (x23,()),a.set i (x26,()),d26,rfl,k26,by rw[List.length_set];exact hg,by rw[List.length_set];exact ha⟩,λn hn aA u rec=>?_⟩
    unfold c152_18;dsimp only;rw[aF (show i<9223372036854775807 by omega)];refine qP (show(i:Int)<i64.wrap (1+x1) by rw[hw];omega) ?_
    (first | refine qT q ?_ | refine qt ?_);refine qR h23 ?_;refine qz ?_;refine(aD gi).trans ?_;refine(aD gi).trans ?_;refine qC hlog ?_;refine qR h26 ?_;refine qz ?_;refine(aD ai).trans ?_;refine(aD ai).trans ?_;rfl
   | false=>
    obtain⟨x26,d26,h26,k26,_⟩:=f35 d (i64.wrap (cA y.log+1)) hd
    refine⟨_,⟨g,a.set i (x26,()),d26,rfl,k26,hg,by rw[List.length_set];exact ha⟩,λn hn aA u rec=>?_⟩
    unfold c152_18;dsimp only;rw[aF (show i<9223372036854775807 by omega)];refine qP (show(i:Int)<i64.wrap (1+x1) by rw[hw];omega) ?_
    (first | refine qF q ?_ | refine qf ?_);refine qC hlog ?_;refine qR h26 ?_;refine qz ?_;refine(aD ai).trans ?_;refine(aD ai).trans ?_;rfl
  ·rintro z ⟨g,a,d,rfl,hd,hg,ha⟩
   have hsm:m<=aP:=by unfold aP;omega
   have hz:SzN (G9 y g a):=⟨hy.sz.state,hy.sz.leaves,hy.sz.list,hy.sz.logs,by show g.length<=aP;omega,by show a.length<=aP;omega,hy.sz.seen,hy.sz.lines,hy.sz.sess,hy.sz.rises⟩
   have hn1:=hy.n
   refine⟨_,⟨G9 y g a,d,rfl,hd,⟨hz,D.n,D.id,by show g.length=y.2.1.toNat;omega,by show a.length=y.2.1.toNat;omega,D.sess,D.rises,D.cnt⟩⟩,λn hn=>It.stop λaA u rec=>?_⟩
   unfold c152_18;refine qN (show ¬ (m:Int)<i64.wrap (1+x1) by rw[hw];omega) ?_;rfl
 obtain⟨t,rfl⟩:∃ t:Nat,x8=t:=⟨x8.toNat,by omega⟩
 have ht:=b8 (by omega)
 have first:=It.ex (lvl:=10 - 1) (c:=λn aA (_:Unit)=>c152_5 (aI p n) aA (((x1,()),()),(d1,())) ((((t:Int),()),()),(d8,()))) (λi z=>∃ (y:NodeT) (d:eJ),z=((i:Int),y.1,y.2.1,y.2.2.2.2.2.1,y.log.1,y.log.2.1,y.num,y.slots,y.wait,y.limit,y.clock,y.2.2.1,y.2.2.2.1,y.2.2.2.2.1,y.log.2.2.1,y.got,y.acked,y.seen,y.sess,y.rises,d.1,d.2.1,d.2.2.1)/\CurOk d/\NodR m i y) Good t (by
  rintro i z hi ⟨y,d,rfl,hd,hy⟩
  obtain⟨x9,d9,h9,k9,_⟩:=f35 d 6 hd
  cases q0:x9==0 with
  | true=>
   obtain⟨s,d10,h10,k10,hs,ho⟩:=f204 d9 k9
   have h11:=f203 y s hy.sz (hs.sz (by omega)) (DN hy.ok) ho
   refine⟨_,⟨jM y s,d10,rfl,k10,⟨hy.ok.take ho,lV hy.sz s,hy.n,by have:=hy.cnt;exact⟨by show y.num<=_;omega,by show y.clock<=_;omega⟩⟩⟩,λn hn aA u rec=>?_⟩
   unfold c152_5;dsimp only;rw[aF (show i<9223372036854775807 by omega)];refine qP (show(i:Int)<(t:Int) by omega) ?_;refine qR h9 ?_;refine qT q0 ?_;refine qR h10 ?_;refine qC h11 ?_;rfl
  | false=>
  cases q1:x9==1 with
  | true=>
   have h11:=f205 y hy.sz
   refine⟨_,⟨mL y,d9,rfl,k9,⟨NK hy.ok,E5 hy.sz,by rw[RG];exact hy.n,by have h1:=hy.cnt;have h2:=K0 hy.ok;omega⟩⟩,λn hn aA u rec=>?_⟩
   unfold c152_5;dsimp only;rw[aF (show i<9223372036854775807 by omega)];refine qP (show(i:Int)<(t:Int) by omega) ?_;refine qR h9 ?_;refine qF q0 ?_;refine qT q1 ?_;refine qC h11 ?_;rfl
  | false=>
  cases q2:x9==2 with
  | true=>
   obtain⟨x13,d13,h13,k13,_⟩:=f35 d9 (i64.wrap (1+x1)) k9
   obtain⟨s,d14,h14,k14,hs,ho⟩:=f204 d13 k13
   have h15:=f207 s (hs.sz (by omega))
   have h16:=f206 y.seen x13 (c8 s) hy.sz.seen hy.sz.lines (Nat.le_trans (fR s) (by decide))
   refine⟨_,⟨HM y x13 (c8 s),d14,rfl,k14,⟨LI hy.ok _ _,LH hy.sz _ _,hy.n,by have:=hy.cnt;exact⟨by show y.num<=_;omega,by show y.clock<=_;omega⟩⟩⟩,λn hn aA u rec=>?_⟩
   unfold c152_5;dsimp only;rw[aF (show i<9223372036854775807 by omega)];refine qP (show(i:Int)<(t:Int) by omega) ?_;refine qR h9 ?_;refine qF q0 ?_;refine qF q1 ?_;refine qT q2 ?_;refine qR h13 ?_;refine qR h14 ?_;refine qC h15 ?_;refine qC h16 ?_;rfl
  | false=>
  cases q3:x9==3 with
  | true=>
   obtain⟨x17,d17,h17,k17,_⟩:=f35 d9 (i64.wrap (1+x1)) k9
   have h18:=f208 y x17 hy.sz
   refine⟨_,⟨(iZ y x17).1,d17,rfl,k17,⟨RJ hy.ok _,(DT hy.sz _).1,by rw[TX];exact hy.n,by have h1:=hy.cnt;have h2:=NO y x17;omega⟩⟩,λn hn aA u rec=>?_⟩
   unfold c152_5;dsimp only;rw[aF (show i<9223372036854775807 by omega)];refine qP (show(i:Int)<(t:Int) by omega) ?_;refine qR h9 ?_;refine qF q0 ?_;refine qF q1 ?_;refine qF q2 ?_;refine qT q3 ?_;refine qR h17 ?_;refine qE h18 ?_;rfl
  | false=>
   obtain⟨x19,d19,h19,k19,_⟩:=f35 d9 5 k9
   obtain⟨x20,d20,h20,k20,_⟩:=f35 d19 (i64.wrap (1+x1)) k19
   obtain⟨x21,d21,h21,k21,_⟩:=f210 d20 [((⟨#[]⟩:ByteArray),()),((⟨#[120]⟩:ByteArray),()),((⟨#[121,122]⟩:ByteArray),())] k20 (by show 0<3;omega)
   have h22:=f209 y x19 x20 x21 hy.sz
   refine⟨_,⟨(jJ y x19 x20 x21).1,d21,rfl,k21,⟨RX hy.ok _ _ _,JY hy.sz _ _ _,by rw[T1];exact hy.n,by have h1:=hy.cnt;have h2:=N5 y x19 x20 x21;omega⟩⟩,λn hn aA u rec=>?_⟩
   unfold c152_5;dsimp only;rw[aF (show i<9223372036854775807 by omega)];refine qP (show(i:Int)<(t:Int) by omega) ?_;refine qR h9 ?_;refine qF q0 ?_;refine qF q1 ?_;refine qF q2 ?_;refine qF q3 ?_;refine qR h19 ?_;refine qR h20 ?_;refine qR h21 ?_;refine qE h22 ?_;rfl) (by
  rintro z ⟨y,d,rfl,hd,hy⟩
  obtain⟨o,ho,hL⟩:=second y d ⟨hy.ok,hy.sz,hy.n,by have:=hy.cnt;omega⟩ hd
  refine⟨o,ho,λn hn=>It.stopE (T:=λaA _=>iter (c152_18 (aI p n) aA (((x1,()),()),(d1,())) y.1 y.clock y.2.2.1 y.2.2.2.1 y.2.2.2.2.1 y.log.2.2.1 y.seen y.sess y.rises y.2.1 y.2.2.2.2.2.1 y.log.1 y.log.2.1 y.num y.slots y.wait y.limit) aA ((0:Int),y.got,y.acked,d.1,d.2.1,d.2.2.1)) (λaA u rec=>?_) (hL n hn).all_i⟩
  unfold c152_5;refine qe ?_;rfl)
 obtain⟨o,⟨y,d,rfl,hd,hy⟩,hL⟩:=first t 0 ((0:Int),y0.1,y0.2.1,y0.2.2.2.2.2.1,y0.log.1,y0.log.2.1,y0.num,y0.slots,y0.wait,y0.limit,y0.clock,y0.2.2.1,y0.2.2.2.1,y0.2.2.2.2.1,y0.log.2.2.1,y0.got,y0.acked,y0.seen,y0.sess,y0.rises,d8.1,d8.2.1,d8.2.2.1) (by omega) ⟨y0,d8,rfl,k8,⟨hN0,hZ0,hn0,hcnt0⟩⟩
 rw[hNN.2] at h7
 exact⟨y,d,go152 λn hn=>Ev.eq (λaA=>by unfold T152;refine qR h1 ?_;refine qR h2 ?_;refine qR h3 ?_;refine qR h4 ?_;refine qR h5 ?_;refine qR h6 ?_;refine qD h7 ?_;refine qR h8 ?_;rfl) ((hL n (by omega)).ev (i:=()) rfl),hd,hy⟩
end Go.Abs.Uz
set_option maxHeartbeats 2000000
namespace Go.Abs.Uz
open Go Go.Abs
structure NodX (y:NodeT):Prop where
 sz:SzN y
 n:1<=y.2.1/\y.2.1<=4
 sess:y.sess.length<=5
 cnt:y.num<=8/\y.clock<=8
theorem f81(c:eJ)(h:CurOk c):∃ (y:NodeT) (d:eJ),Ran p 11 81 [.ref ⟨K134,c⟩] ⟨[⟨K73,y⟩],[⟨K134,d⟩]⟩/\CurOk d/\NodX y:=by
 obtain⟨y,d1,h1,k1,D⟩:=f152 c h
 obtain⟨x2,d2,h2,k2,_⟩:=f35 d1 18 k1
 have z:=D.sz
 have s5:y.sess.length<=5:=Nat.le_succ_of_le D.sess
 cases q0:x2==0 with
 | true=>
  obtain⟨x3,d3,h3,k3,_⟩:=f153 d2 [((-1:Int),()),(y.2.1,())] k2 (by show 0<2;omega)
  exact⟨(x3,y.2),d3,go81 λn hn=>Ev.now λaA=>by unfold T81;refine qR h1 ?_;refine qR h2 ?_;refine qT q0 ?_;refine qR h3 ?_;rfl,k3,⟨⟨z.state,z.leaves,z.list,z.logs,z.got,z.acked,z.seen,z.lines,z.sess,z.rises⟩,D.n,s5,D.cnt⟩⟩
 | false=>
 cases q1:x2==1 with
 | true=>
  exact⟨(y.1,y.2.1,y.2.2.1,y.2.2.2.1,y.2.2.2.2.1,i64.wrap (y.2.2.2.2.2.1+1),y.2.2.2.2.2.2),d2,go81 λn hn=>Ev.now λaA=>by unfold T81;refine qR h1 ?_;refine qR h2 ?_;refine qF q0 ?_;refine qT q1 ?_;rfl,k2,⟨⟨z.state,z.leaves,z.list,z.logs,z.got,z.acked,z.seen,z.lines,z.sess,z.rises⟩,D.n,s5,D.cnt⟩⟩
 | false=>
 cases q2:x2==2 with
 | true=>
  have h0:=D.id.1
  have hk:y.1.toNat<y.got.length:=by have h3:=D.id;have h4:=D.got;omega
  refine⟨G9 y (y.got.set y.1.toNat (i64.wrap ((gt y.got y.1.toNat).1+1),())) y.acked,d2,go81 λn hn=>Ev.now λaA=>by unfold T81;refine qR h1 ?_;refine qR h2 ?_;refine qF q0 ?_;refine qF q1 ?_;refine qT q2 ?_;refine qP h0 ?_;refine(aZ hk).trans ?_;refine(aZ hk).trans ?_;refine qP h0 ?_;refine(aZ hk).trans ?_;refine(aZ hk).trans ?_;rfl,k2,⟨⟨z.state,z.leaves,z.list,z.logs,?_,z.acked,z.seen,z.lines,z.sess,z.rises⟩,D.n,s5,D.cnt⟩⟩
  show(List.set _ _ _).length<=aP;rw[List.length_set];exact z.got
 | false=>
 cases q3:x2==3 with
 | true=>
  obtain⟨t,d3,h3,k3,ht⟩:=f154 d2 k2
  exact⟨(y.1,y.2.1,y.2.2.1,y.2.2.2.1,y.2.2.2.2.1,y.2.2.2.2.2.1,y.2.2.2.2.2.2.1,y.2.2.2.2.2.2.2.1,y.2.2.2.2.2.2.2.2.1,y.got,y.acked,t,y.num,y.slots,y.sess,y.wait,y.limit,y.clock,y.rises,()),d3,go81 λn hn=>Ev.now λaA=>by unfold T81;refine qR h1 ?_;refine qR h2 ?_;refine qF q0 ?_;refine qF q1 ?_;refine qF q2 ?_;refine qT q3 ?_;refine qR h3 ?_;rfl,k3,⟨⟨z.state,z.leaves,z.list,z.logs,z.got,z.acked,ht.sz.1,ht.sz.2,z.sess,z.rises⟩,D.n,s5,D.cnt⟩⟩
 | false=>
 cases q4:x2==4 with
 | true=>
  obtain⟨x3,d3,h3,k3,_⟩:=f153 d2 [((0:Int),()),((5:Int),())] k2 (by show 0<2;omega)
  exact⟨(y.1,y.2.1,y.2.2.1,y.2.2.2.1,y.2.2.2.2.1,y.2.2.2.2.2.1,y.2.2.2.2.2.2.1,y.2.2.2.2.2.2.2.1,y.2.2.2.2.2.2.2.2.1,y.got,y.acked,y.seen,y.num,x3,y.sess,y.wait,y.limit,y.clock,y.rises,()),d3,go81 λn hn=>Ev.now λaA=>by unfold T81;refine qR h1 ?_;refine qR h2 ?_;refine qF q0 ?_;refine qF q1 ?_;refine qF q2 ?_;refine qF q3 ?_;refine qT q4 ?_;refine qR h3 ?_;rfl,k3,⟨⟨z.state,z.leaves,z.list,z.logs,z.got,z.acked,z.seen,z.lines,z.sess,z.rises⟩,D.n,s5,D.cnt⟩⟩
 | false=>
 cases q5:x2==5 with
 | true=>
  obtain⟨x8,d8,h8,k8,_⟩:=f35 d2 6 k2
  obtain⟨b9,d9,h9,k9⟩:=f65 d8 2 k8
  obtain⟨x10,d10,h10,k10,_⟩:=f35 d9 9 k9
  have hb:y.sess.length+1<=bound:=by have:=D.sess;unfold bound;omega
  have hl:(y.sess++[(i64.wrap (x8 - 1),(1:Int),b9,x10,())]).length<=5:=by rw[List.length_append,List.length_singleton];have:=D.sess;omega
  exact⟨withS y (y.sess++[(i64.wrap (x8 - 1),(1:Int),b9,x10,())]),d10,go81 λn hn=>Ev.now λaA=>by unfold T81;refine qR h1 ?_;refine qR h2 ?_;refine qF q0 ?_;refine qF q1 ?_;refine qF q2 ?_;refine qF q3 ?_;refine qF q4 ?_;refine qT q5 ?_;refine qR h8 ?_;refine qR h9 ?_;refine qR h10 ?_;refine qP hb ?_;rfl,k10,⟨uB z (Nat.le_trans hl (by decide)),D.n,hl,D.cnt⟩⟩
 | false=>
 cases q6:x2==6 with
 | true=>
  obtain⟨s,d3,h3,k3,hs⟩:=f155 d2 k2
  exact⟨(y.1,y.2.1,s.1,s.2.1,y.2.2.2.2),d3,go81 λn hn=>Ev.now λaA=>by unfold T81;refine qR h1 ?_;refine qR h2 ?_;refine qF q0 ?_;refine qF q1 ?_;refine qF q2 ?_;refine qF q3 ?_;refine qF q4 ?_;refine qF q5 ?_;refine qT q6 ?_;refine qR h3 ?_;rfl,k3,⟨⟨hs.sz (by omega),z.leaves,z.list,z.logs,z.got,z.acked,z.seen,z.lines,z.sess,z.rises⟩,D.n,s5,D.cnt⟩⟩
 | false=>
 cases q7:x2==7 with
 | true=>
  have hr:0<y.rises.length:=by rw[D.rises];omega
  refine⟨(y.1,y.2.1,y.2.2.1,y.2.2.2.1,y.2.2.2.2.1,y.2.2.2.2.2.1,y.2.2.2.2.2.2.1,y.2.2.2.2.2.2.2.1,y.2.2.2.2.2.2.2.2.1,y.got,y.acked,y.seen,y.num,y.slots,y.sess,y.wait,y.limit,y.clock,y.rises.set 0 ((gt y.rises 0).1,(gt y.rises 0).2.1,i64.wrap (y.clock+1),(gt y.rises 0).2.2.2),()),d2,go81 λn hn=>Ev.now λaA=>by unfold T81;refine qR h1 ?_;refine qR h2 ?_;refine qF q0 ?_;refine qF q1 ?_;refine qF q2 ?_;refine qF q3 ?_;refine qF q4 ?_;refine qF q5 ?_;refine qF q6 ?_;refine qT q7 ?_;refine qP (show(0:Int)<=0 by omega) ?_;refine(aZ hr).trans ?_;refine(aZ hr).trans ?_;rfl,k2,⟨⟨z.state,z.leaves,z.list,z.logs,z.got,z.acked,z.seen,z.lines,z.sess,?_⟩,D.n,s5,D.cnt⟩⟩
  show(List.set _ _ _).length<=aP;rw[List.length_set];exact z.rises
 | false=>
 cases q8:x2==8 with
 | true=>
  obtain⟨l,d3,h3,k3,hl⟩:=f156 d2 k2
  have hz:=hl.sz (by omega)
  exact⟨(y.1,y.2.1,y.2.2.1,y.2.2.2.1,y.2.2.2.2.1,y.2.2.2.2.2.1,l.1,l.2.1,l.2.2.1,y.got,y.acked,y.seen,y.num,y.slots,y.sess,y.wait,y.limit,y.clock,y.rises,()),d3,go81 λn hn=>Ev.now λaA=>by unfold T81;refine qR h1 ?_;refine qR h2 ?_;refine qF q0 ?_;refine qF q1 ?_;refine qF q2 ?_;refine qF q3 ?_;refine qF q4 ?_;refine qF q5 ?_;refine qF q6 ?_;refine qF q7 ?_;refine qT q8 ?_;refine qR h3 ?_;rfl,k3,⟨⟨z.state,z.leaves,hz.1,hz.2,z.got,z.acked,z.seen,z.lines,z.sess,z.rises⟩,D.n,s5,D.cnt⟩⟩
 | false=>exact⟨y,d2,go81 λn hn=>Ev.now λaA=>by unfold T81;refine qR h1 ?_;refine qR h2 ?_;refine qF q0 ?_;refine qF q1 ?_;refine qF q2 ?_;refine qF q3 ?_;refine qF q4 ?_;refine qF q5 ?_;refine qF q6 ?_;refine qF q7 ?_;refine qF q8 ?_;rfl,k2,⟨z,D.n,s5,D.cnt⟩⟩
end Go.Abs.Uz
/- Deeds as drawn; drawn worlds. -/
namespace Go.Abs.Uz
open Go Go.Abs
theorem f200(c:eJ)(w:aU)(h:CurOk c):∃ (d:jV) (e:eJ),Ran p 4 200 [.ref ⟨K134,c⟩, va K28 w] ⟨[⟨K222,d⟩],[⟨K134,e⟩]⟩/\CurOk e:=by
 obtain⟨k,c1,h1,k1,_⟩:=f153 c [((0:Int),()),((0:Int),()),((0:Int),()),((1:Int),()),((2:Int),()),((2:Int),()),((3:Int),()),((3:Int),()),((4:Int),()),((4:Int),()),((4:Int),()),((4:Int),()),((4:Int),()),((4:Int),()),((5:Int),()),((6:Int),()),((7:Int),())] h (by show 0<17;omega)
 obtain⟨a,c2,h2,k2,_⟩:=f35 c1 (w.1.length:Int) k1
 obtain⟨a',c3,h3,k3,_⟩:=f35 c2 (mxI true (w.2.1.length:Int) 1) k2
 cases q0:k==0 with
 | true=>
  obtain⟨b,d1,g1,l1,_⟩:=f153 c2 [((0:Int),()),((0:Int),()),((1:Int),()),((1:Int),()),((1:Int),()),((2:Int),()),((3:Int),()),((4:Int),())] k2 (by show 0<8;omega)
  cases q4:b==4 with
  | true=>
   obtain⟨v,d2,g2,l2,_⟩:=f35 d1 (w.1.length:Int) l1
   obtain⟨t,d3,g3,l3,_⟩:=f210 d2 [((⟨#[]⟩:ByteArray),()),((⟨#[120]⟩:ByteArray),()),((⟨#[121,122]⟩:ByteArray),())] l2 (by show 0<3;omega)
   exact⟨(k,a,b,v,t,()),d3,go200 λn hn=>Ev.now λaA=>by unfold T200;refine qR h1 ?_;refine qR h2 ?_;refine qT q0 ?_;refine qR g1 ?_;refine qT q4 ?_;refine qR g2 ?_;refine qR g3 ?_;rfl,l3⟩
  | false=>
   obtain⟨t,d3,g3,l3,_⟩:=f210 d1 [((⟨#[]⟩:ByteArray),()),((⟨#[120]⟩:ByteArray),()),((⟨#[121,122]⟩:ByteArray),())] l1 (by show 0<3;omega)
   exact⟨(k,a,b,a,t,()),d3,go200 λn hn=>Ev.now λaA=>by unfold T200;refine qR h1 ?_;refine qR h2 ?_;refine qT q0 ?_;refine qR g1 ?_;refine qF q4 ?_;refine qR g3 ?_;rfl,l3⟩
 | false=>
 obtain⟨x,d1,g1,l1,_⟩:=f35 c2 (w.1.length:Int) k2
 cases q2:k==2 with
 | true=>exact⟨(k,a,x,0,⟨#[]⟩,()),d1,go200 λn hn=>Ev.now λaA=>by unfold T200;refine qR h1 ?_;refine qR h2 ?_;refine qF q0 ?_;refine qT q2 ?_;refine qT q2 ?_;refine qR g1 ?_;rfl,l1⟩
 | false=>
 cases q3:k==3 with
 | true=>exact⟨(k,a,x,0,⟨#[]⟩,()),d1,go200 λn hn=>Ev.now λaA=>by unfold T200;refine qR h1 ?_;refine qR h2 ?_;refine qF q0 ?_;refine qF q2 ?_;refine qT q3 ?_;refine qR g1 ?_;rfl,l1⟩
 | false=>
 have hm:=f230 (w.2.1.length:Int) 1
 cases q4:k==4 with
 | true=>exact⟨(k,a',0,0,⟨#[]⟩,()),c3,go200 λn hn=>Ev.now λaA=>by unfold T200;refine qR h1 ?_;refine qR h2 ?_;refine qF q0 ?_;refine qF q2 ?_;refine qF q3 ?_;refine qT q4 ?_;refine qT q4 ?_;refine qC hm ?_;refine qR h3 ?_;rfl,k3⟩
 | false=>
 cases q5:k==5 with
 | true=>exact⟨(k,a',0,0,⟨#[]⟩,()),c3,go200 λn hn=>Ev.now λaA=>by unfold T200;refine qR h1 ?_;refine qR h2 ?_;refine qF q0 ?_;refine qF q2 ?_;refine qF q3 ?_;refine qF q4 ?_;refine qT q5 ?_;refine qT q5 ?_;refine qC hm ?_;refine qR h3 ?_;rfl,k3⟩
 | false=>
 cases q6:k==6 with
 | true=>exact⟨(k,a',0,0,⟨#[]⟩,()),c3,go200 λn hn=>Ev.now λaA=>by unfold T200;refine qR h1 ?_;refine qR h2 ?_;refine qF q0 ?_;refine qF q2 ?_;refine qF q3 ?_;refine qF q4 ?_;refine qF q5 ?_;refine qT q6 ?_;refine qC hm ?_;refine qR h3 ?_;rfl,k3⟩
 | false=>
 cases q7:k==7 with
 | true=>
  obtain⟨b,d2,g2,l2,_⟩:=f35 c3 40 k3
  obtain⟨v,d3,g3,l3,_⟩:=f35 d2 255 l2
  exact⟨(k,a',b,i64.wrap (1+v),⟨#[]⟩,()),d3,go200 λn hn=>Ev.now λaA=>by unfold T200;refine qR h1 ?_;refine qR h2 ?_;refine qF q0 ?_;refine qF q2 ?_;refine qF q3 ?_;refine qF q4 ?_;refine qF q5 ?_;refine qF q6 ?_;refine qT q7 ?_;refine qC hm ?_;refine qR h3 ?_;refine qR g2 ?_;refine qR g3 ?_;rfl,l3⟩
 | false=>exact⟨(k,a,0,0,⟨#[]⟩,()),c2,go200 λn hn=>Ev.now λaA=>by unfold T200;refine qR h1 ?_;refine qR h2 ?_;refine qF q0 ?_;refine qF q2 ?_;refine qF q3 ?_;refine qF q4 ?_;refine qF q5 ?_;refine qF q6 ?_;refine qF q7 ?_;rfl,k2⟩
end Go.Abs.Uz
/- Drawn worlds. -/
namespace Go.Abs.Uz
open Go Go.Abs
theorem GT(w:aU)(d:jV):(cQ w d).1.1.length=w.1.length:=by
 unfold cQ
 cases d.1==1<;>cases d.1==0<;>cases (w.2.2.1.length:Int)==40<;>cases (w.2.1.length:Int)==12<;>cases d.1==2<;>
  cases (jJ (gt w.1 d.2.1.toNat) d.2.2.1 d.2.2.2.1 d.2.2.2.2.1).2.2 != 0<;>cases (jQ (gt w.1 d.2.1.toNat) d.2.2.1).2<;>cases (iZ (gt w.1 d.2.1.toNat) d.2.2.1).2.2<;>first | rfl | exact List.length_set
theorem O4(w:aU)(d:jV):(nB w d).1.1.length=w.1.length:=by
 unfold nB
 cases d.1==4<;>cases d.1==5<;>cases d.1==6<;>cases (w.2.1.length:Int)==12<;>cases pD w d<;>first | rfl | exact List.length_set
theorem S0(w:aU)(d:jV):(doW w d).1.1.length=w.1.length:=by
 unfold doW
 cases !bP w<;>cases !inB d.1 0 7<;>cases decide (d.1<=3)<;>cases !inB d.2.1 0 (i64.wrap ((w.1.length:Int) - 1))<;>cases !inB d.2.1 0 (i64.wrap ((w.2.1.length:Int) - 1))<;>
  first | rfl | exact GT w d | exact O4 w d
theorem NC{m:Nat}{cap slots wait lim:Int}(hm:1<=m/\m<=4)(hc:inB cap 1 8=true)(hs:inB slots 1 4=true)(hw:inB wait 1 20=true)(hl:inB lim 1 50=true):BR (m:Int) cap slots wait lim=true:=by
 have hcnt:c6 (m:Int)=m:=by unfold c6;omega
 have hlen:(eL (m:Int) cap slots wait lim (c6 (m:Int))).length=m:=by rw[gW,hcnt]
 unfold BR bP
 simp only[Bool.and_eq_true,bD]
 refine⟨?_,rfl,rfl,λi hi=>?_,λi hi=>absurd hi (Nat.not_lt_zero _),λi hi=>absurd hi (Nat.not_lt_zero _)⟩
 ·rw[aM];show 1<=(((eL (m:Int) cap slots wait lim (c6 (m:Int))).length:Nat):Int)/\(((eL (m:Int) cap slots wait lim (c6 (m:Int))).length:Nat):Int)<=5
  rw[hlen];omega
 ·have hi':i<c6 (m:Int):=by rw[hcnt];rw[show(wnW (m:Int) cap slots wait lim).1.length=m from hlen] at hi;exact hi
  have hy:=FZ (id:=(i:Int)) (n:=(m:Int)) (cap:=cap) (slots:=slots) (wait:=wait) (lim:=lim) (by rw[aM];omega) (by omega) hc hs hw hl
  have hg:gt (wnW (m:Int) cap slots wait lim).1 i=gL (i:Int) (m:Int) cap slots wait lim:=by
   rw[show gt (wnW (m:Int) cap slots wait lim).1 i=_ from tI (m:Int) cap slots wait lim hi',hy.2]
  have h1:=hy.1
  unfold pY at h1
  simp only[Bool.and_eq_true] at h1
  unfold kN
  rw[hg,h1.2,show(wnW (m:Int) cap slots wait lim).1.length=m from hlen]
  simp[gL]
def Few(w:aU):Prop:=w.2.1.length<=12/\w.2.2.1.length<=40
theorem G6{rs:List bM}:∀ (k i:Nat) (net:List cN),net.length<=12->(vP rs k i net).length<=12
 | 0,i,net,hl=>hl
 | k+1,i,net,hl=>by
  unfold vP
  by_cases h12:(net.length:Int)<12
  ·rw[decide_eq_true h12];exact G6 k (i+1) _ (by rw[List.length_append,List.length_singleton];omega)
  ·rw[decide_eq_false h12];exact hl
theorem EN{α:Type}{l:List α}{n:Nat}{x:α}(h:l.length<=n)(g:((l.length:Int)==(n:Int))=false):(l++[x]).length<=n:=by
 rw[beq_eq_false_iff_ne] at g;rw[List.length_append,List.length_singleton];omega
theorem S1{w:aU}(d:jV)(h:Few w):Few (doW w d).1:=by
 have hA:Few (cQ w d).1:=by
  unfold cQ
  cases d.1==1 with
  | true=>exact h
  | false=>
  cases d.1==0 with
  | true=>
   cases g:(w.2.2.1.length:Int)==40 with
   | true=>exact h
   | false=>cases (jJ (gt w.1 d.2.1.toNat) d.2.2.1 d.2.2.2.1 d.2.2.2.2.1).2.2 != 0 with
    | true=>exact h
    | false=>exact⟨h.1,EN h.2 g⟩
  | false=>
  cases g:(w.2.1.length:Int)==12 with
  | true=>exact h
  | false=>
  cases d.1==2 with
  | true=>cases (jQ (gt w.1 d.2.1.toNat) d.2.2.1).2 with
   | false=>exact h
   | true=>exact⟨EN h.1 g,h.2⟩
  | false=>cases (iZ (gt w.1 d.2.1.toNat) d.2.2.1).2.2 with
   | false=>exact h
   | true=>exact⟨EN h.1 g,h.2⟩
 have hB:Few (nB w d).1:=by
  unfold nB
  cases d.1==4 with
  | true=>exact⟨G6 _ _ _ (Nat.le_trans (kG _ _) h.1),h.2⟩
  | false=>
  cases d.1==5 with
  | true=>exact⟨Nat.le_trans (kG _ _) h.1,h.2⟩
  | false=>
  cases d.1==6 with
  | true=>
   cases g:(w.2.1.length:Int)==12 with
   | true=>exact h
   | false=>exact⟨EN h.1 g,h.2⟩
  | false=>
  cases pD w d with
  | true=>exact h
  | false=>exact⟨by show(List.set _ _ _).length<=12;rw[List.length_set];exact h.1,h.2⟩
 unfold doW
 cases !bP w<;>cases !inB d.1 0 7<;>cases decide (d.1<=3)<;>cases !inB d.2.1 0 (i64.wrap ((w.1.length:Int) - 1))<;>cases !inB d.2.1 0 (i64.wrap ((w.2.1.length:Int) - 1))<;>
  first | exact h | exact hA | exact hB
theorem Q9(n cap slots wait lim:Int):SzY (wnW n cap slots wait lim):=
 { toSzW:=NB n cap slots wait lim,bytes:=λi hi=>absurd hi (Nat.not_lt_zero _),by_:=λi hi=>absurd hi (Nat.not_lt_zero _) }
theorem J3{x:Int}{l:List aH}{a b:Int}(h:(x,())∈l)(hl:l.all (λy=>inB y.1 a b)=true):inB x a b=true:=(List.all_eq_true.1 hl) _ h
theorem VH{α:Type}[Inhabited α]{l r:List α}{i:Nat}(h:i<l.length):gt (l++r) i=gt l i:=by
 rw[cU h,cU (by rw[List.length_append];omega),List.getElem_append_left h]
theorem SU{α:Type}[Inhabited α]{l:List α}{x:α}:gt (l++[x]) l.length=x:=by
 rw[cU (by rw[List.length_append,List.length_singleton];omega),List.getElem_concat_length rfl]
theorem f34(c:eJ)(h:CurOk c):∃ (w:aU) (e:eJ),Ran p 17 34 [.ref ⟨K134,c⟩] ⟨[⟨K28,w⟩],[⟨K134,e⟩]⟩/\CurOk e/\SzY w:=by
 obtain⟨x1,d1,h1,k1,a1,b1,_⟩:=f35 c 16 h
 obtain⟨x2,d2,h2,k2,a2,b2,_⟩:=f35 d1 4 k1
 obtain⟨x3,d3,h3,k3,m3⟩:=f153 d2 [((1:Int),()),((2:Int),()),((8:Int),())] k2 (by show 0<3;omega)
 obtain⟨x4,d4,h4,k4,m4⟩:=f153 d3 [((1:Int),()),((2:Int),()),((4:Int),())] k3 (by show 0<3;omega)
 obtain⟨x5,d5,h5,k5,a5,b5,_⟩:=f35 d4 4 k4
 obtain⟨x6,d6,h6,k6,a6,b6,_⟩:=f35 d5 4 k5
 have b1:=b1 (by omega)
 have b2:=b2 (by omega)
 have b5:=b5 (by omega)
 have b6:=b6 (by omega)
 obtain⟨m,e2,hm⟩:∃ m:Nat,i64.wrap (1+x2)=(m:Int)/\1<=m/\m<=4:=⟨(1+x2).toNat,by rw[IntKind.wrap_i64];omega,by omega,by omega⟩
 have e5:i64.wrap (1+x5)=1+x5:=by rw[IntKind.wrap_i64];omega
 have e6:i64.wrap (1+x6)=1+x6:=by rw[IntKind.wrap_i64];omega
 have hw:=f199 (m:Int) x3 x4 (1+x5) (1+x6)
 have ok:=NC hm (J3 m3 (show _=true by decide)) (J3 m4 (show _=true by decide)) (show inB (1+x5) 1 20=true by rw[aM];omega) (show inB (1+x6) 1 50=true by rw[aM];omega)
 have e7:xB (m:Int) x3 x4 (1+x5) (1+x6)=wnW (m:Int) x3 x4 (1+x5) (1+x6):=by unfold xB;rw[ok];rfl
 have hcnt:c6 (m:Int)=m:=by unfold c6;omega
 have hlen:(wnW (m:Int) x3 x4 (1+x5) (1+x6)).1.length=m:=by show(eL (m:Int) x3 x4 (1+x5) (1+x6) (c6 (m:Int))).length=m;rw[gW,hcnt]
 have hsz:=Q9 (m:Int) x3 x4 (1+x5) (1+x6)
 have hfew:Few (wnW (m:Int) x3 x4 (1+x5) (1+x6)):=⟨Nat.zero_le _,Nat.zero_le _⟩
 rw[e7,ok] at hw
 generalize wnW (m:Int) x3 x4 (1+x5) (1+x6)=W0 at hw hlen hsz hfew
 obtain⟨t,rfl⟩:∃ t:Nat,x1=t:=⟨x1.toNat,by omega⟩
 obtain⟨o,⟨w,e,rfl,he,hwz⟩,hL⟩:=It.ex (lvl:=17 - 1) (c:=λn aA (_:Unit)=>c34_20005 (aI p n) aA ((((t:Int),()),()),(d1,())) ((W0,(true,()),()),())) (λi z=>∃ (l:List jV) (d:eJ) (w:aU),z=((i:Int),d.1,d.2.1,d.2.2.1,l,w.1,w.2.1,w.2.2.1)/\CurOk d/\SzY w/\Few w/\l.length<=i/\w.1.length=m)
  (λo=>∃ (w:aU) (e:eJ),o=⟨[⟨K28,w⟩],[⟨K134,e⟩]⟩/\CurOk e/\SzY w) t (by
   rintro i z hi ⟨l,d,w,rfl,hd,hz,hf,hl,hn⟩
   obtain⟨dd,e,hde,ke⟩:=f200 d w hd
   have hbd:l.length+1<=bound:=by unfold bound;omega
   have stp:∀ q:jV,∃ (l':List jV) (d':eJ) (w':aU),(((i+1:Nat):Int),e.1,e.2.1,e.2.2.1,l++[q],(doW w q).1.1,(doW w q).1.2.1,(doW w q).1.2.2.1)=(((i+1:Nat):Int),d'.1,d'.2.1,d'.2.2.1,l',w'.1,w'.2.1,w'.2.2.1)/\CurOk d'/\SzY w'/\Few w'/\l'.length<=i+1/\w'.1.length=m:=
    λq=>⟨l++[q],e,(doW w q).1,rfl,ke,UQ hz q,S1 q hf,by rw[List.length_append,List.length_singleton];omega,by rw[S0];exact hn⟩
   by_cases him:i<m
   ·have hdo:=f201 w ((0:Int),(i:Int),(0:Int),(i:Int),(⟨#[]⟩:ByteArray),()) hz
    refine⟨_,stp ((0:Int),(i:Int),(0:Int),(i:Int),(⟨#[]⟩:ByteArray),()),λn hn aA u rec=>?_⟩
    unfold c34_20005;dsimp only;rw[aF (show i<9223372036854775807 by omega)];refine ql hi ?_;refine qR hde ?_;refine qP (Int.ofNat_lt.2 (show i<W0.1.length by omega)) ?_;refine qP hbd ?_;refine qD hdo ?_;rfl
   ·have hdo:=f201 w dd hz
    refine⟨_,stp dd,λn hn aA u rec=>?_⟩
    unfold c34_20005;dsimp only;rw[aF (show i<9223372036854775807 by omega)];refine ql hi ?_;refine qR hde ?_;refine qN (show ¬ (i:Int)<(W0.1.length:Int) by omega) ?_;refine qP hbd ?_;refine qD hdo ?_;rfl) (by
   rintro z ⟨l,d,w,rfl,hd,hz,hf,hl,hn⟩
   obtain⟨x8,d8,h8,k8,_⟩:=f35 d 14 hd
   have start:∀ {o:Out},(∀ n,17 - 1<=n->∀ aA rec,c34_20005 (aI p n) aA ((((t:Int),()),()),(d1,())) ((W0,(true,()),()),()) rec ((t:Int),d.1,d.2.1,d.2.2.1,l,w.1,w.2.1,w.2.2.1)=some o)->∀ n,17 - 1<=n->It (λaA (_:Unit)=>c34_20005 (aI p n) aA ((((t:Int),()),()),(d1,())) ((W0,(true,()),()),())) ((t:Int),d.1,d.2.1,d.2.2.1,l,w.1,w.2.1,w.2.2.1) (λ_=>some o):=
    λH n hn=>It.stop λaA u rec=>H n hn aA rec
   cases q0:x8==0 with
   | true=>
    obtain⟨y,d9,h9,k9,hy⟩:=f81 d8 k8
    have hr:0<w.1.length:=by omega
    refine⟨_,⟨(w.1.set 0 y,w.2.1,w.2.2.1,()),d9,rfl,k9,jN (by rw[List.length_set];exact hz.nodes) (vZ hz.node 0 hy.sz) hz.net hz.all hz.said hz.part⟩,start λn hn aA rec=>?_⟩
    unfold c34_20005;dsimp only;refine qe ?_;refine qR h8 ?_;refine qT q0 ?_;refine qR h9 ?_;refine qP (show(0:Int)<=0 by omega) ?_;refine(aZ hr).trans ?_;refine(aZ hr).trans ?_;rfl
   | false=>
   cases q1:x8==1 with
   | true=>
    obtain⟨x9,d9,h9,k9,_⟩:=f35 d8 7 k8
    have hb:w.2.1.length+1<=bound:=by have:=hf.1;unfold bound;omega
    refine⟨_,⟨(w.1,w.2.1++[(i64.wrap (x9 - 1),[((1:Int),())],false,())],w.2.2.1,()),d9,rfl,k9,jN hz.nodes hz.node (by rw[List.length_append,List.length_singleton];have:=hf.1;unfold aP;omega) (y5 hz.all ⟨λx hx=>?_,(by decide:1<=aP)⟩) hz.said hz.part⟩,start λn hn aA rec=>?_⟩
    ·rw[List.mem_singleton.1 hx];exact⟨1,rfl,by decide⟩
    ·unfold c34_20005;dsimp only;refine qe ?_;refine qR h8 ?_;refine qF q0 ?_;refine qT q1 ?_;refine qR h9 ?_;refine qP hb ?_;rfl
   | false=>
   cases q2:x8==2 with
   | true=>
    obtain⟨x9,d9,h9,k9,_⟩:=f35 d8 7 k8
    have hb:w.2.2.1.length+1<=bound:=by have:=hf.2;unfold bound;omega
    refine⟨_,⟨(w.1,w.2.1,w.2.2.1++[(i64.wrap (x9 - 1),[],[],())],()),d9,rfl,k9,jN hz.nodes hz.node hz.net hz.all (by rw[List.length_append,List.length_singleton];have:=hf.2;unfold aP;omega) (λi hi=>?_)⟩,start λn hn aA rec=>?_⟩
    ·rcases Nat.lt_or_ge i w.2.2.1.length with h | h
     ·rw[VH h];exact hz.part i h
     ·rw[List.length_append,List.length_singleton] at hi
      rw[show i=w.2.2.1.length by omega,SU];exact kC
    ·unfold c34_20005;dsimp only;refine qe ?_;refine qR h8 ?_;refine qF q0 ?_;refine qF q1 ?_;refine qT q2 ?_;refine qR h9 ?_;refine qP hb ?_;rfl
   | false=>
   cases q3:x8==3 with
   | true=>
    refine⟨_,⟨([],w.2.1,w.2.2.1,()),d8,rfl,k8,jN (Nat.zero_le _) (λi hi=>absurd hi (Nat.not_lt_zero _)) hz.net hz.all hz.said hz.part⟩,start λn hn aA rec=>?_⟩
    unfold c34_20005;dsimp only;refine qe ?_;refine qR h8 ?_;refine qF q0 ?_;refine qF q1 ?_;refine qF q2 ?_;refine qT q3 ?_;rfl
   | false=>
    refine⟨_,⟨w,d8,rfl,k8,hz⟩,start λn hn aA rec=>?_⟩
    unfold c34_20005;dsimp only;refine qe ?_;refine qR h8 ?_;refine qF q0 ?_;refine qF q1 ?_;refine qF q2 ?_;refine qF q3 ?_;rfl) t 0 ((0:Int),d6.1,d6.2.1,d6.2.2.1,([]:List jV),W0.1,W0.2.1,W0.2.2.1) (by omega) ⟨[],d6,W0,rfl,k6,hsz,hfew,Nat.zero_le _,hlen⟩
 exact⟨w,e,go34 λn hn=>Ev.eq (λaA=>by
  unfold T34;refine qR h1 ?_;refine qR h2 ?_;refine qR h3 ?_;refine qR h4 ?_;refine qR h5 ?_;refine qR h6 ?_
  rw[show i64.wrap ((1:Int)+vI x2)=(m:Int)from e2,show i64.wrap ((1:Int)+vI x5)=1+x5 from e5,show i64.wrap ((1:Int)+vI x6)=1+x6 from e6]
  refine qD hw ?_;rfl) ((hL n (by omega)).ev (i:=()) rfl),he,hwz⟩
end Go.Abs.Uz
namespace Go.Abs.Uz
open Go Go.Abs
theorem f70(a b:fZ)(hl:a.2.2.1.length<=aP)(hr:∀ i,i<a.2.2.1.length->SzS (gt a.2.2.1 i)):Ran p 2 70 [va K68 a, va K68 b] (rO K4 (AQ a b,())):=go70 λn hn=>by
 have lp:∃ N,∀ aA,N<=aA->iQ a.2.2.1 b.2.2.1=true->iter (c70_4 (aI p n) aA a b) aA (0:Int)=oB (bJ a.2.2.1.length λi=>eW (gt a.2.2.1 i) (gt b.2.2.1 i)):=by
  cases he:iQ a.2.2.1 b.2.2.1 with
  | false=>exact⟨0,λ_ _ h=>by cases h⟩
  | true=>
   have e:=sI.1 he
   have lp:It (λaA (_:Unit)=>c70_4 (aI p n) aA a b) (0:Int) (λ_=>oB (bJ a.2.2.1.length λi=>eW (gt a.2.2.1 i) (gt b.2.2.1 i))):=by
    refine cH (It.allB a.2.2.1.length _ true (λi hi aA a' rec=>?_) (It.stop λaA a' rec=>?_))
    ·have hb:=bN hi hl
     have hi':i<b.2.2.1.length:=by omega
     unfold c70_4;rw[aF hb];refine ql hi ?_;refine qz ?_;refine(aD hi).trans ?_;refine qz ?_;refine(aD hi').trans ?_;refine qC (f29 (gt a.2.2.1 i) (gt b.2.2.1 i) (hr i hi)) ?_;exact fin
    ·unfold c70_4;refine qe ?_;rfl
   obtain⟨N,hN⟩:=lp.all_i
   exact⟨N,λaA hf _=>hN aA hf ()⟩
 obtain⟨N,hN⟩:=lp
 refine⟨N,λaA hf=>?_⟩
 show T70 (aI p n) aA a b=oB (AQ a b)
 unfold T70 AQ qH;refine cS λ_=>?_;refine cS λ_=>?_;refine cS λh=>?_;exact hN aA hf h
theorem f28(a b:NodeT)(hz:SzN a):Ran p 3 28 [va K73 a, va K73 b] (rO K4 (AC a b,())):=go28 λn hn=>by
 rw[<- O1]
 have ri:∃ N,∀ aA,N<=aA->iQ a.rises b.rises=true->iter (c28_16 (aI p n) aA a b) aA (0:Int)=oB (bJ a.rises.length λi=>nF (gt a.rises i) (gt b.rises i)):=by
  cases he:iQ a.rises b.rises with
  | false=>exact⟨0,λ_ _ h=>by cases h⟩
  | true=>
   have e:=sI.1 he
   have lp:It (λaA (_:Unit)=>c28_16 (aI p n) aA a b) (0:Int) (λ_=>oB (bJ a.rises.length λi=>nF (gt a.rises i) (gt b.rises i))):=by
    refine cH (It.allB a.rises.length _ true (λi hi aA a' rec=>?_) (It.stop λaA a' rec=>?_))
    ·have hb:=bN hi hz.rises
     have hi':i<b.rises.length:=by omega
     unfold c28_16;rw[aF hb];refine ql hi ?_;refine qz ?_;refine(aD hi).trans ?_;refine qz ?_;refine(aD hi').trans ?_;exact fin
    ·unfold c28_16;refine qe ?_;rfl
   obtain⟨N,hN⟩:=lp.all_i
   exact⟨N,λaA hf _=>hN aA hf ()⟩
 obtain⟨M,hM⟩:=ri
 have se:∃ N,∀ aA,N<=aA->iQ a.sess b.sess=true->iQ a.rises b.rises=true->iter (c28_11 (aI p n) aA a b) aA (0:Int)=oB (bJ a.sess.length (λi=>rE (gt a.sess i) (gt b.sess i))&&bJ a.rises.length λi=>nF (gt a.rises i) (gt b.rises i)):=by
  cases he:iQ a.sess b.sess with
  | false=>exact⟨0,λ_ _ h=>by cases h⟩
  | true=>cases he2:iQ a.rises b.rises with
   | false=>exact⟨0,λ_ _ _ h=>by cases h⟩
   | true=>
    have e:=sI.1 he
    have lp:It (λaA (_:Unit)=>c28_11 (aI p n) aA a b) (0:Int) (λ_=>oB (bJ a.sess.length (λi=>rE (gt a.sess i) (gt b.sess i))&&bJ a.rises.length λi=>nF (gt a.rises i) (gt b.rises i))):=by
     refine It.allB a.sess.length _ _ (λi hi aA a' rec=>?_) (It.stopE (T:=λaA _=>iter (c28_16 (aI p n) aA a b) aA (0:Int)) (λaA a' rec=>?_) ⟨M,λaA hf _=>hM aA hf he2⟩)
     ·have hb:=bN hi hz.sess
      have hi':i<b.sess.length:=by omega
      unfold c28_11;rw[aF hb];refine ql hi ?_;refine qz ?_;refine(aD hi).trans ?_;refine qz ?_;refine(aD hi').trans ?_;exact fin
     ·unfold c28_11;refine qe ?_;rfl
    obtain⟨N,hN⟩:=lp.all_i
    exact⟨N,λaA hf _ _=>hN aA hf ()⟩
 obtain⟨M',hM'⟩:=se
 have ro:∃ N,∀ aA,N<=aA->iQ a.seen b.seen=true->iQ a.sess b.sess=true->iQ a.rises b.rises=true->iter (c28_6 (aI p n) aA a b) aA (0:Int)=oB (bJ a.seen.length (λi=>wD (gt a.seen i) (gt b.seen i))&&(bJ a.sess.length (λi=>rE (gt a.sess i) (gt b.sess i))&&bJ a.rises.length λi=>nF (gt a.rises i) (gt b.rises i))):=by
  cases he:iQ a.seen b.seen with
  | false=>exact⟨0,λ_ _ h=>by cases h⟩
  | true=>cases he2:iQ a.sess b.sess with
   | false=>exact⟨0,λ_ _ _ h=>by cases h⟩
   | true=>cases he3:iQ a.rises b.rises with
    | false=>exact⟨0,λ_ _ _ _ h=>by cases h⟩
    | true=>
     have e:=sI.1 he
     have lp:It (λaA (_:Unit)=>c28_6 (aI p n) aA a b) (0:Int) (λ_=>oB (bJ a.seen.length (λi=>wD (gt a.seen i) (gt b.seen i))&&(bJ a.sess.length (λi=>rE (gt a.sess i) (gt b.sess i))&&bJ a.rises.length λi=>nF (gt a.rises i) (gt b.rises i)))):=by
      refine It.allB a.seen.length _ _ (λi hi aA a' rec=>?_) (It.stopE (T:=λaA _=>iter (c28_11 (aI p n) aA a b) aA (0:Int)) (λaA a' rec=>?_) ⟨M',λaA hf _=>hM' aA hf he2 he3⟩)
      ·have hb:=bN hi hz.seen
       have hi':i<b.seen.length:=by omega
       unfold c28_6 wD;rw[aF hb];refine ql hi ?_;refine qz ?_;refine(aD hi).trans ?_;refine qz ?_;refine(aD hi').trans ?_;refine qC (f71 (gt a.seen i).1 (gt b.seen i).1 (aR (hz.lines i hi))) ?_;exact fin
      ·unfold c28_6;refine qe ?_;rfl
     obtain⟨N,hN⟩:=lp.all_i
     exact⟨N,λaA hf _ _ _=>hN aA hf ()⟩
 obtain⟨N,hN⟩:=ro
 refine⟨N,λaA hf=>?_⟩
 show T28 (aI p n) aA a b=oB (y3 a b)
 unfold T28 y3;refine cS λ_=>?_;refine cS λ_=>?_;refine qC (f29 a.state b.state hz.state) ?_;refine cS λ_=>?_;refine qC (f69 a.tree b.tree (aR hz.leaves)) ?_;refine cS λ_=>?_;refine qC (f70 a.log b.log hz.list hz.logs) ?_;refine cS λ_=>?_;refine qC (f71 a.got b.got (aR hz.got)) ?_;refine cS λ_=>?_;refine qC (f71 a.acked b.acked (aR hz.acked)) ?_;refine cS λ_=>?_
 refine cS λh1=>?_;refine cS λ_=>?_;refine cS λ_=>?_;refine cS λ_=>?_;refine cS λ_=>?_;refine cS λ_=>?_;refine cS λh2=>?_;refine cS λh3=>?_;exact hN aA hf h1 h2 h3
end Go.Abs.Uz
namespace Go.Abs.Uz
open Go Go.Abs
structure Ticked (x:NodeT) (k:Nat) (y:NodeT):Prop where
 ok:NodeOk y
 id:y.1=x.1
 n:y.2.1=x.2.1
 num:y.num=x.num
 wait:y.wait=x.wait
 clock:y.clock=x.clock+((k:Nat):Int)
 age:∀ s∈y.sess,((k:Nat):Int)<=s.2.2.2.1
end Go.Abs.Uz
set_option maxHeartbeats 2000000
namespace Go.Abs.Uz
open Go Go.Abs
theorem oQ{α:Type}[Inhabited α]{f:α->α->Bool}(h:∀ x,f x x=true)(xs:List α):qH f xs xs=true:=by
 unfold qH iQ;rw[Bool.and_eq_true];exact⟨by simp,bD.2 λi _=>h _⟩
theorem FY(x:NodeT):AC x x=true:=by
 have s1:qH wD x.seen x.seen=true:=oQ (λr=>j7 r.1) _
 have s2:eW x.state x.state=true:=iO.2 rfl
 have s3:DL x.tree x.tree=true:=by unfold DL;rw[j7];simp
 have s4:AQ x.log x.log=true:=by unfold AQ;rw[oQ (λs=>iO.2 rfl)];simp
 have s5:qH rE x.sess x.sess=true:=oQ (λs=>by unfold rE;rw[show gD s.1 s.1=true from oE.2 rfl,show gD s.2.1 s.2.1=true from oE.2 rfl,show gD s.2.2.2.1 s.2.2.2.1=true from oE.2 rfl,wZ];rfl) _
 have s6:qH nF x.rises x.rises=true:=oQ (λs=>by unfold nF;rw[show gD s.1 s.1=true from oE.2 rfl,show gD s.2.1 s.2.1=true from oE.2 rfl,show gD s.2.2.1 s.2.2.1=true from oE.2 rfl];rfl) _
 unfold AC
 rw[s1,s2,s3,s4,s5,s6,j7,j7]
 simp
theorem f5(b:List aH):Ran p 1 5 [vf K22 (b,())] (rO K4 (decide ((b.length:Int)>1048576),())):=go5 λn hn=>Ev.now λaA=>by
 unfold T5;rfl
end Go.Abs.Uz
/- Two equal worlds are the same. -/
set_option maxHeartbeats 4000000
namespace Go.Abs.Uz
open Go Go.Abs
theorem pS(x:Int):(x != x)=false:=by simp
theorem f8(w:aU)(hz:SzX w):Ran p 4 8 [va K28 w, va K28 w] lC:=go8 λn hn=>by
 have l3:It (λaA (_:Unit)=>c8_14 (aI p n) aA w w) (0:Int) (λ_=>some lC):=by
  refine It.run (λi=>(i:Int)) w.2.2.1.length (λi hi aA u rec=>?_) (It.stop λaA u rec=>?_)
  ·have hb:=bN hi hz.said
   have hs:=f29 (gt w.2.2.1 i).2 (gt w.2.2.1 i).2 (hz.part i hi)
   rw[iO.2 rfl] at hs
   unfold c8_14;rw[aF hb];refine ql hi ?_;refine qz ?_;refine(aD hi).trans ?_;refine qz ?_;refine(aD hi).trans ?_;refine qF (pS _) ?_;refine qz ?_;refine(aD hi).trans ?_;refine qz ?_;refine(aD hi).trans ?_;refine qC hs ?_;rfl
  ·unfold c8_14;refine qe ?_;rfl
 have l2:It (λaA (_:Unit)=>c8_9 (aI p n) aA w w) (0:Int) (λ_=>some lC):=by
  refine It.run (λi=>(i:Int)) w.2.1.length (λi hi aA u rec=>?_) (It.stopE (T:=λaA _=>iter (c8_14 (aI p n) aA w w) aA (0:Int)) (λaA u rec=>?_) l3.all_i)
  ·have hb:=bN hi hz.net
   unfold c8_9;rw[aF hb];refine ql hi ?_;refine qz ?_;refine(aD hi).trans ?_;refine qz ?_;refine(aD hi).trans ?_;refine qF (pS _) ?_;refine qz ?_;refine(aD hi).trans ?_;refine qz ?_;refine(aD hi).trans ?_;refine qF (by rw[wZ];rfl) ?_;refine qz ?_;refine(aD hi).trans ?_;refine qz ?_;refine(aD hi).trans ?_;refine qF (by simp) ?_;rfl
  ·unfold c8_9;refine qe ?_;rfl
 have l1:It (λaA (_:Unit)=>c8_4 (aI p n) aA w w) (0:Int) (λ_=>some lC):=by
  refine It.run (λi=>(i:Int)) w.1.length (λi hi aA u rec=>?_) (It.stopE (T:=λaA _=>iter (c8_9 (aI p n) aA w w) aA (0:Int)) (λaA u rec=>?_) l2.all_i)
  ·have hb:=bN hi hz.nodes
   have hs:=f28 (gt w.1 i) (gt w.1 i) (hz.node i hi)
   rw[FY] at hs
   unfold c8_4;rw[aF hb];refine ql hi ?_;refine qz ?_;refine(aD hi).trans ?_;refine qz ?_;refine(aD hi).trans ?_;refine qC hs ?_;rfl
  ·unfold c8_4;refine qe ?_;rfl
 exact Ev.eq (λaA=>by unfold T8;refine qF (pS _) ?_;refine qF (pS _) ?_;refine qF (pS _) ?_;rfl) (l1.ev (i:=()) rfl)
end Go.Abs.Uz
namespace Go.Abs.Uz
open Go Go.Abs
theorem f36(s:aE)(id:Int)(hz:SzS s):Ran p 5 36 [va K43 s, vf K3 (id,())] ⟨[⟨K83,(fF s id).1⟩,⟨K4,((fF s id).2,())⟩],[]⟩:=go36 λn hn=>Ev.now λaA=>by
 unfold T36;refine qC (f84 s hz) ?_;refine qD (f83 (lU s,[],()) id (aR (B4 hz))) ?_;rfl
end Go.Abs.Uz
/- Nets cut in two, and FnCut. -/
set_option maxHeartbeats 4000000
namespace Go.Abs.Uz
open Go Go.Abs
def f0(v:List aH)(q:cN):Bool:=match cI q.2.1 with
 | none=>true
 | some m=>decide (m.2.1>=(v.length:Int))||(gt v m.2.1.toNat).1==(gt v q.1.toNat).1
theorem CD{v:List aH}{q:cN}(h:cI q.2.1=none):f0 v q=true:=by unfold f0;rw[h]
theorem nH{v:List aH}{q:cN}{m:MsgT}(h:cI q.2.1=some m):f0 v q=(decide (m.2.1>=(v.length:Int))||(gt v m.2.1.toNat).1==(gt v q.1.toNat).1):=by unfold f0;rw[h]
def iG(w:aU)(v:List aH):aU:=bif eK w v then(w.1,w.2.1.filter (f0 v),w.2.2.1,())else w
theorem EJ{b:List aH}{m:MsgT}(h:cI b=some m):0<=m.2.1/\m.2.1<=4:=by
 have:=(wA h).1
 unfold dR pF eF at this
 simp only[Bool.and_eq_true,aM] at this
 exact this.1.2.1
def stT(v:List aH)(l:List cN)(i:Nat):Int×List cN:=((i:Int),(l.take i).filter (f0 v))
theorem FB(v:List aH){l:List cN}{i:Nat}(h:i<l.length):(stT v l (i+1)).2=bif f0 v (gt l i)then(stT v l i).2++[gt l i] else(stT v l i).2:=by
 show(l.take (i+1)).filter (f0 v)=bif f0 v (gt l i)then(l.take i).filter (f0 v)++[gt l i] else(l.take i).filter (f0 v)
 rw[<- fI h,List.filter_append]
 cases hs:f0 v (gt l i)with
 | true=>rw[List.filter_cons_of_pos hs];rfl
 | false=>rw[List.filter_cons_of_neg (by rw[hs];decide)];exact List.append_nil _
theorem JT(v:List aH)(l:List cN)(i:Nat)(h:l.length<=12)(x:cN):(stT v l i).2.length+([x]:List cN).length<=bound:=by
 have h1:((l.take i).filter (f0 v)).length<=(l.take i).length:=List.length_filter_le ..
 rw[List.length_take] at h1
 show((l.take i).filter (f0 v)).length+1<=bound
 unfold bound;omega
theorem JU{w:aU}{v:List aH}(h:eK w v=true){i:Nat}(hi:i<w.2.1.length):0<=(gt w.2.1 i).1/\(gt w.2.1 i).1.toNat<v.length:=by
 have hw:bP w=true:=by unfold eK at h;rw[Bool.and_eq_true] at h;exact h.1
 rw[lW h]
 exact H0 hw hi
theorem f7(w:aU)(v:List aH)(hz:SzY w):Ran p 10 7 [va K28 w, vf K29 (v,())] (rO K28 (iG w v)):=go7 λn hn=>by
 cases hs:eK w v with
 | false=>
  exact Ev.now λaA=>by
   unfold T7 iG;refine qC (f25 w hz.toSzX) ?_;refine qC (f26 w v hz.toSzW) ?_;rw[hs];rfl
 | true=>
  have hw:bP w=true:=by unfold eK at hs;rw[Bool.and_eq_true] at hs;exact hs.1
  have hl:=kF hw
  have hv:=lW hs
  have lp:It (λaA (_:Unit)=>c7_6 (aI p n) aA w v ((w,()),())) ((0:Int),([]:List cN)) (λ_=>rV K28 (iG w v)):=by
   refine It.run (stT v w.2.1) w.2.1.length (λi hi aA u rec=>?_) (It.stop λaA u rec=>?_)
   ·have hb:=JT v w.2.1 i hl.2.2.1 (gt w.2.1 i)
    have hq:=hz.pk hi
    have hS:=JU hs hi
    have hm:=f14 (gt w.2.1 i).2.1 hq.by_.b8 hq.len
    have e:stT v w.2.1 (i+1)=(((i+1:Nat):Int),bif f0 v (gt w.2.1 i)then(stT v w.2.1 i).2++[gt w.2.1 i] else(stT v w.2.1 i).2):=Prod.ext rfl (FB v hi)
    rw[e]
    show c7_6 (aI p n) aA w v ((w,()),()) rec ((i:Int),(stT v w.2.1 i).2)=_
    unfold c7_6;dsimp only;rw[aF (show i<9223372036854775807 by omega)];refine ql hi ?_;refine qz ?_;refine(aD hi).trans ?_;refine(aD hi).trans ?_
    rw[sE] at hm
    cases hk:cI (gt w.2.1 i).2.1 with
    | none=>rw[hk] at hm;refine qD hm ?_;refine qt ?_;refine qP hb ?_;rw[CD hk];rfl
    | some m=>
     have hf:=EJ hk
     rw[hk] at hm
     refine qD hm ?_;refine qf ?_;refine qC (f27 w m.2.1) ?_
     by_cases hlt:m.2.1<(v.length:Int)
     ·rw[show inB m.2.1 0 (i64.wrap ((w.1.length:Int) - 1))=true by rw[MM (by omega)];omega]
      have hj:m.2.1.toNat<v.length:=by omega
      refine qf ?_;refine qP (show 0<=m.2.1 by omega) ?_;refine(aZ hj).trans ?_;refine qP hS.1 ?_;refine(aZ hS.2).trans ?_
      rw[nH hk,decide_eq_false (show ¬ m.2.1>=(v.length:Int) by omega),Bool.false_or]
      cases hc:(gt v m.2.1.toNat).1==(gt v (gt w.2.1 i).1.toNat).1 with
      | true=>(first | refine qT hc ?_ | refine qt ?_);refine qP hb ?_;rfl
      | false=>(first | refine qF hc ?_ | refine qf ?_);rfl
     ·rw[show inB m.2.1 0 (i64.wrap ((w.1.length:Int) - 1))=false by
       cases hi2:inB m.2.1 0 (i64.wrap ((w.1.length:Int) - 1))with
       | false=>rfl
       | true=>rw[MM (by omega)] at hi2;omega]
      refine qt ?_;refine qP hb ?_;rw[nH hk,decide_eq_true (show m.2.1>=(v.length:Int) by omega)];rfl
   ·show c7_6 (aI p n) aA w v ((w,()),()) rec ((w.2.1.length:Int),(w.2.1.take w.2.1.length).filter (f0 v))=_
    rw[List.take_length]
    unfold c7_6 iG;dsimp only;refine qe ?_;rw[hs];rfl
  exact Ev.eq (λaA=>by unfold T7;refine qC (f25 w hz.toSzX) ?_;refine qC (f26 w v hz.toSzW) ?_;rw[hs];rfl) (lp.ev (i:=()) rfl)
theorem f9(w:aU)(v:List aH)(hz:SzY w):Ran p 10 9 [va K28 w, vf K29 (v,())] (rO K28 (iG w v)):=go9 λn hn=>by
 cases hs:eK w v with
 | false=>
  exact Ev.now λaA=>by
   unfold T9 iG;refine qC (f30 w hz.toSzX) ?_;refine qC (f13 w v hz.toSzW) ?_;rw[hs];rfl
 | true=>
  have hw:bP w=true:=by unfold eK at hs;rw[Bool.and_eq_true] at hs;exact hs.1
  have hl:=kF hw
  have hv:=lW hs
  have lp:It (λaA (_:Unit)=>c9_6 (aI p n) aA w v ((w,()),())) ((0:Int),([]:List cN)) (λ_=>rV K28 (iG w v)):=by
   refine It.run (stT v w.2.1) w.2.1.length (λi hi aA u rec=>?_) (It.stop λaA u rec=>?_)
   ·have hb:=JT v w.2.1 i hl.2.2.1 (gt w.2.1 i)
    have hq:=hz.pk hi
    have hS:=JU hs hi
    have hm:=f31 (gt w.2.1 i).2.1 hq.by_.b8 hq.len
    have hc:=f32 (gt w.2.1 i) hq.len
    have e:stT v w.2.1 (i+1)=(((i+1:Nat):Int),bif f0 v (gt w.2.1 i)then(stT v w.2.1 i).2++[gt w.2.1 i] else(stT v w.2.1 i).2):=Prod.ext rfl (FB v hi)
    rw[e]
    show c9_6 (aI p n) aA w v ((w,()),()) rec ((i:Int),(stT v w.2.1 i).2)=_
    unfold c9_6;dsimp only;rw[aF (show i<9223372036854775807 by omega)];refine ql hi ?_;refine qz ?_;refine(aD hi).trans ?_
    rw[sE] at hm
    cases hk:cI (gt w.2.1 i).2.1 with
    | none=>rw[hk] at hm;refine qD hm ?_;refine qt ?_;refine qz ?_;refine(aD hi).trans ?_;refine qC hc ?_;refine qP hb ?_;rw[CD hk];rfl
    | some m=>
     have hf:=EJ hk
     rw[hk] at hm
     refine qD hm ?_;refine qf ?_
     by_cases hlt:m.2.1<(v.length:Int)
     ·have hj:m.2.1.toNat<v.length:=by omega
      refine qN (show ¬ m.2.1>=(v.length:Int) by omega) ?_;refine qP (show 0<=m.2.1 by omega) ?_;refine(aZ hj).trans ?_;refine qz ?_;refine(aD hi).trans ?_;refine qP hS.1 ?_;refine(aZ hS.2).trans ?_
      rw[nH hk,decide_eq_false (show ¬ m.2.1>=(v.length:Int) by omega),Bool.false_or]
      cases hc2:(gt v m.2.1.toNat).1==(gt v (gt w.2.1 i).1.toNat).1 with
      | true=>(first | refine qT hc2 ?_ | refine qt ?_);refine qz ?_;refine(aD hi).trans ?_;refine qC hc ?_;refine qP hb ?_;rfl
      | false=>(first | refine qF hc2 ?_ | refine qf ?_);rfl
     ·refine qP (show m.2.1>=(v.length:Int) by omega) ?_;refine qz ?_;refine(aD hi).trans ?_;refine qC hc ?_;refine qP hb ?_;rw[nH hk,decide_eq_true (show m.2.1>=(v.length:Int) by omega)];rfl
   ·show c9_6 (aI p n) aA w v ((w,()),()) rec ((w.2.1.length:Int),(w.2.1.take w.2.1.length).filter (f0 v))=_
    rw[List.take_length]
    unfold c9_6 iG;dsimp only;refine qe ?_;rw[hs];rfl
  exact Ev.eq (λaA=>by unfold T9;refine qC (f30 w hz.toSzX) ?_;refine qC (f13 w v hz.toSzW) ?_;rw[hs];rfl) (lp.ev (i:=()) rfl)
def nD(w:aU)(id:Int):Int:=bif bP w then cP w id w.1.length else 0
theorem j8(w:aU)(id:Int):∀ k,0<=cP w id k/\cP w id k<=(k:Int)
 | 0=>⟨Int.le_refl _,Int.le_refl _⟩
 | k+1=>by
  have h:=j8 w id k
  show 0<=cP w id k+p4 (fF (gt w.1 k).state id).2/\cP w id k+p4 (fF (gt w.1 k).state id).2<=((k+1:Nat):Int)
  cases (fF (gt w.1 k).state id).2<;>simp only[p4,cond_true,cond_false]<;>omega
theorem f11(w:aU)(id:Int)(hz:SzW w):Ran p 9 11 [va K28 w, vf K3 (id,())] (rO K3 (nD w id,())):=go11 λn hn=>by
 cases hw:bP w with
 | false=>exact Ev.now λaA=>by unfold T11 nD;refine qC (f15 w hz) ?_;rw[hw];rfl
 | true=>
  have hl:=kF hw
  have lp:It (λaA (_:Unit)=>c11_5 (aI p n) aA w id) ((0:Int),(0:Int)) (λ_=>rV K3 (nD w id,())):=by
   refine It.run (λi=>(cP w id i,(i:Int))) w.1.length (λi hi aA u rec=>?_) (It.stop λaA u rec=>?_)
   ·have hk:=j8 w id i
    show c11_5 (aI p n) aA w id rec (cP w id i,(i:Int))=rec (cP w id i+p4 (fF (gt w.1 i).state id).2,((i+1:Nat):Int))
    unfold c11_5;dsimp only;rw[aF (show i<9223372036854775807 by omega)];refine ql hi ?_;refine qz ?_;refine(aD hi).trans ?_;refine qD (f36 (gt w.1 i).state id (hz.node i hi).state) ?_
    cases (fF (gt w.1 i).state id).2 with
    | true=>refine qt ?_;rw[show i64.wrap (cP w id i+1)=cP w id i+p4 true by rw[IntKind.wrap_i64];show _=cP w id i+1;omega]
    | false=>refine qf ?_;rw[show cP w id i+p4 false=cP w id i from Int.add_zero _]
   ·show c11_5 (aI p n) aA w id rec (cP w id w.1.length,(w.1.length:Int))=_
    unfold c11_5 nD;dsimp only;refine qe ?_;rw[hw];rfl
  exact Ev.eq (λaA=>by unfold T11;refine qC (f15 w hz) ?_;rw[hw];rfl) (lp.ev (i:=()) rfl)
theorem f12(w:aU)(id:Int)(hz:SzW w):Ran p 9 12 [va K28 w, vf K3 (id,())] (rO K3 (nD w id,())):=go12 λn hn=>by
 cases hw:bP w with
 | false=>exact Ev.now λaA=>by unfold T12 nD;refine qC (f37 w hz) ?_;rw[hw];rfl
 | true=>
  have hl:=kF hw
  have lp:It (λaA (_:Unit)=>c12_5 (aI p n) aA w id) ((0:Int),(0:Int)) (λ_=>rV K3 (nD w id,())):=by
   refine It.run (λi=>(cP w id i,(i:Int))) w.1.length (λi hi aA u rec=>?_) (It.stop λaA u rec=>?_)
   ·have hk:=j8 w id i
    show c12_5 (aI p n) aA w id rec (cP w id i,(i:Int))=rec (cP w id i+p4 (fF (gt w.1 i).state id).2,((i+1:Nat):Int))
    unfold c12_5;dsimp only;rw[aF (show i<9223372036854775807 by omega)];refine ql hi ?_;refine qz ?_;refine(aD hi).trans ?_;refine qD (f38 (gt w.1 i).state id (hz.node i hi).state) ?_;refine qC (f39 (fF (gt w.1 i).state id).2) ?_
    rw[show i64.wrap (cP w id i+vI (p4 (fF (gt w.1 i).state id).2))=cP w id i+p4 (fF (gt w.1 i).state id).2 by
     rw[IntKind.wrap_i64];show(cP w id i+p4 _+_) % _ - _=_;cases (fF (gt w.1 i).state id).2<;>simp only[p4,cond_true,cond_false]<;>omega]
   ·show c12_5 (aI p n) aA w id rec (cP w id w.1.length,(w.1.length:Int))=_
    unfold c12_5 nD;dsimp only;refine qe ?_;rw[hw];rfl
  exact Ev.eq (λaA=>by unfold T12;refine qC (f37 w hz) ?_;rw[hw];rfl) (lp.ev (i:=()) rfl)
end Go.Abs.Uz
/- FnCut. -/
set_option maxHeartbeats 4000000
namespace Go.Abs.Uz
open Go Go.Abs
theorem f24(b:List aH)(hb:b.length<=1048576):∃ (w:aU) (v:List aH),Ran p 18 24 [vf K22 (b,())] ⟨[⟨K28,w⟩,⟨K29,(v,())⟩],[]⟩/\SzY w:=by
 let Good:Out->Prop:=λo=>∃ (w:aU) (v:List aH),o=⟨[⟨K28,w⟩,⟨K29,(v,())⟩],[]⟩/\SzY w
 have inner:∀ (w:aU) (d:eJ),CurOk d->SzY w->∃ o,Good o/\∀ n,18 - 1<=n->It (λaA (_:Unit)=>c24_5 (aI p n) aA ((w,()),(d,()))) ((0:Int),([]:List aH),d.1,d.2.1,d.2.2.1) (λ_=>some o):=by
  intro w d hd hw
  have hn:w.1.length<=1048576:=hw.nodes
  refine It.ex (c:=λn aA (_:Unit)=>c24_5 (aI p n) aA ((w,()),(d,()))) (λi z=>∃ (v:List aH) (e:eJ),z=((i:Int),v,e.1,e.2.1,e.2.2.1)/\CurOk e/\v.length<=i) Good w.1.length ?_ ?_ w.1.length 0 _ (by omega) ⟨[],d,rfl,hd,Nat.le_refl _⟩
  ·rintro i z hi ⟨v,e,rfl,he,hv⟩
   obtain⟨x,e2,hx,ke,_⟩:=f35 e 2 he
   have hbd:v.length+1<=bound:=by unfold bound;omega
   refine⟨_,⟨v++[(x,())],e2,rfl,ke,by rw[List.length_append,List.length_singleton];omega⟩,λn hn aA u rec=>?_⟩
   unfold c24_5;dsimp only;rw[aF (show i<9223372036854775807 by omega)];refine ql hi ?_;refine qR hx ?_;refine qP hbd ?_;rfl
  ·rintro z ⟨v,e,rfl,he,hv⟩
   obtain⟨x,e2,hx,ke⟩:=f65 e 12 he
   have hbd:v.length+1<=bound:=by unfold bound;omega
   cases x with
   | true=>
    refine⟨_,⟨w,v++[((0:Int),())],rfl,hw⟩,λn hn=>It.stop λaA u rec=>?_⟩
    unfold c24_5;dsimp only;refine qe ?_;refine qR hx ?_;refine qt ?_;refine qP hbd ?_;rfl
   | false=>
    refine⟨_,⟨w,v,rfl,hw⟩,λn hn=>It.stop λaA u rec=>?_⟩
    unfold c24_5;dsimp only;refine qe ?_;refine qR hx ?_;refine qf ?_;rfl
 obtain⟨o,⟨w,v,rfl,hw⟩,hL⟩:=It.new (lvl:=18 - 1) (c:=λn aA (_:Unit)=>c24_10003 (aI p n) aA b) Good b hb (λi h hi h4=>⟨_,λn hn aA a rec=>by
   unfold c24_10003;dsimp only;rw[aF (show i<9223372036854775807 by omega)];refine ql hi ?_;refine qP (show(i:Int)<4000 by omega) ?_;refine qz ?_;refine(aD hi).trans ?_;rfl⟩) (λh i hc hi=>by
   obtain⟨w,d1,h1,k1,hw⟩:=f34 _ hc
   obtain⟨o,hg,hL⟩:=inner w d1 k1 hw
   refine⟨o,hg,λn hn=>?_⟩
   obtain⟨N,hN⟩:=(hL n hn).ev (i:=()) rfl
   refine⟨N,λaA hf a rec=>?_⟩
   unfold c24_10003;refine(GF hi).trans ?_;refine qR h1 ?_;exact hN aA hf) (i64.wrap (26583+(b.length:Int)))
 exact⟨w,v,go24 λn hn=>Ev.eq (λaA=>by unfold T24;rfl) ((hL n (by omega)).ev (i:=()) rfl),hw⟩
theorem f6(b:List aH)(hb:b.length<=1048576):∃ (w:aU) (v:List aH),Ran p 19 6 [vf K22 (b,())] ⟨[⟨K28,w⟩,⟨K29,(v,())⟩],[]⟩/\SzY w:=by
 obtain⟨w,v,h1,hw⟩:=f24 b hb
 exact⟨w,v,go6 λn hn=>Ev.now λaA=>by unfold T6;refine qD h1 ?_;rfl,hw⟩
theorem f10(b:List aH)(hb:b.length<=1048576):∃ (w:aU) (i:Int),Ran p 18 10 [vf K22 (b,())] ⟨[⟨K28,w⟩,⟨K3,(i,())⟩],[]⟩/\SzY w:=by
 obtain⟨o,⟨w,i,rfl,hw⟩,hL⟩:=It.new (lvl:=18 - 1) (c:=λn aA (_:Unit)=>c10_10003 (aI p n) aA b) (λo=>∃ (w:aU) (i:Int),o=⟨[⟨K28,w⟩,⟨K3,(i,())⟩],[]⟩/\SzY w) b hb (λi h hi h4=>⟨_,λn hn aA a rec=>by
   unfold c10_10003;dsimp only;rw[aF (show i<9223372036854775807 by omega)];refine ql hi ?_;refine qP (show(i:Int)<4000 by omega) ?_;refine qz ?_;refine(aD hi).trans ?_;rfl⟩) (λh i hc hi=>by
   obtain⟨w,d1,h1,k1,hw⟩:=f34 _ hc
   obtain⟨x,d2,h2,k2,_⟩:=f35 _ 7 k1
   exact⟨_,⟨w,i64.wrap (x - 1),rfl,hw⟩,λn hn=>⟨0,λaA _ a rec=>by
    unfold c10_10003;refine(GF hi).trans ?_;refine qR h1 ?_;refine qR h2 ?_;rfl⟩⟩) (i64.wrap (26583+(b.length:Int)))
 exact⟨w,i,go10 λn hn=>Ev.eq (λaA=>by unfold T10;rfl) ((hL n (by omega)).ev (i:=()) rfl),hw⟩
theorem UR{w:aU}(hz:SzY w)(v:List aH):SzY (iG w v):=by
 unfold iG
 cases eK w v with
 | false=>exact hz
 | true=>exact jN hz.nodes hz.node (Nat.le_trans (List.length_filter_le ..) hz.net) (λq hq=>hz.all q (List.mem_filter.1 hq).1) hz.said hz.part
theorem QG{w:aU}{v:List aH}(h:eK w v=true):WOk (iG w v):=by
 have hw:bP w=true:=by unfold eK at h;rw[Bool.and_eq_true] at h;exact h.1
 have hk:=(yR w).1 hw
 unfold iG;rw[h]
 exact⟨hk.n,Nat.le_trans (List.length_filter_le ..) hk.net,hk.said,hk.node,λp hp=>hk.to p (List.mem_filter.1 hp).1,hk.part⟩
theorem MV(w:aU)(v:List aH):(iG w v).1=w.1:=by unfold iG;cases eK w v<;>rfl
theorem QF{w:aU}{v:List aH}(h:eK w v=true):eK (iG w v) v=true:=by
 unfold eK
 rw[(yR _).2 (QG h),MV,lW h];simp
theorem KM{w:aU}{v:List aH}(h:eK w v=true):iG w v=(w.1,w.2.1.filter (f0 v),w.2.2.1,()):=by unfold iG;rw[h];rfl
theorem MX{w:aU}{v:List aH}(h:eK w v=true):iG (iG w v) v=iG w v:=by
 rw[KM (QF h),KM h]
 show((w.1,(w.2.1.filter (f0 v)).filter (f0 v),w.2.2.1,()):aU)=(w.1,w.2.1.filter (f0 v),w.2.2.1,())
 rw[List.filter_filter];simp only[Bool.and_self]
theorem law_cut(b:List aH)(ho:pX K22 (b,())):Ran p 20 3 [vf K22 (b,())] lC:=by
 have h1:=f5 b
 by_cases hb:(b.length:Int)>1048576
 ·rw[decide_eq_true hb] at h1
  exact go3 λn hn=>Ev.now λaA=>by unfold T3;refine qC h1 ?_;rfl
 rw[decide_eq_false hb] at h1
 obtain⟨w,v,h2,hz⟩:=f6 b (by omega)
 obtain⟨x,id,h6,hx⟩:=f10 b (by omega)
 have hzX:=UR hz v
 have h3:=f7 w v hz
 have h4:=f9 w v hz
 have h5:=f8 (iG w v) hzX.toSzX
 have h7:=f11 x id hx.toSzW
 have h8:=f12 x id hx.toSzW
 have hkn:¬ nD x id>(x.1.length:Int):=by
  unfold nD
  cases bP x with
  | false=>show ¬ (0:Int)>_;omega
  | true=>have:=j8 x id x.1.length;show ¬ cP x id x.1.length>_;omega
 have h10:=f13 w v hz.toSzW
 cases hs:eK w v with
 | false=>
  rw[hs] at h10
  have e:iG w v=w:=by unfold iG;rw[hs];rfl
  rw[e] at h3 h4 h5
  exact go3 λn hn=>Ev.now λaA=>by
   unfold T3;refine qC h1 ?_;refine qf ?_;refine qD h2 ?_;refine qC h3 ?_;refine qC h4 ?_;refine qC h5 ?_;refine qf ?_;refine qD h6 ?_;refine qC h7 ?_;refine qC h8 ?_;refine qF (pS _) ?_;refine qC h7 ?_;refine qN hkn ?_;refine qC h10 ?_;refine qt ?_;refine qC h5 ?_;rfl
 | true=>
 rw[hs] at h10
 have hw:bP w=true:=by unfold eK at hs;rw[Bool.and_eq_true] at hs;exact hs.1
 have hl:=kF hw
 have h15:=f15 (iG w v) hzX.toSzW
 rw[(yR _).2 (QG hs)] at h15
 have h16:=f7 (iG w v) v hzX
 rw[MX hs] at h16
 have hnet:(iG w v).2.1=w.2.1.filter (f0 v):=by unfold iG;rw[hs];rfl
 have hlen:(iG w v).2.1.length<=w.2.1.length:=by rw[hnet];exact List.length_filter_le ..
 have hstay:∀ i,i<(iG w v).2.1.length->f0 v (gt (iG w v).2.1 i)=true/\0<=(gt (iG w v).2.1 i).1/\(gt (iG w v).2.1 i).1.toNat<v.length:=λi hi=>by
  have hm:=cB hi
  rw[hnet] at hm
  have h1:=List.mem_filter.1 (show gt (iG w v).2.1 i∈w.2.1.filter (f0 v)from hnet▸cB hi)
  have h2:=((yR w).1 hw).to _ h1.1
  have h3:=lW hs
  exact⟨h1.2,h2.1,by omega⟩
 refine go3 λn hn=>?_
 generalize iG w v=X at h3 h4 h5 h15 h16 hlen hstay hzX
 have lp:It (λaA (_:Unit)=>c3_13 (aI p n) aA ((w,(v,()),()),()) ((X,()),())) (0:Int) (λ_=>some lC):=by
  refine It.run (λi=>(i:Int)) X.2.1.length (λk hk aA u rec=>?_) (It.stop λaA u rec=>?_)
  ·have hq:=hzX.pk hk
   have hS:=hstay k hk
   have hm:=f14 (gt X.2.1 k).2.1 hq.by_.b8 hq.len
   rw[sE] at hm
   unfold c3_13;dsimp only;rw[aF (show k<9223372036854775807 by omega)];refine ql hk ?_;refine qz ?_;refine(aD hk).trans ?_
   cases hmo:cI (gt X.2.1 k).2.1 with
   | none=>rw[hmo] at hm;refine qD hm ?_;refine qf ?_;rfl
   | some m=>
    have hf:=EJ hmo
    rw[hmo] at hm
    refine qD hm ?_;refine qt ?_
    by_cases hlt:m.2.1<(v.length:Int)
    ·have hj:m.2.1.toNat<v.length:=by omega
     have he:=hS.1
     rw[nH hmo,decide_eq_false (show ¬ m.2.1>=(v.length:Int) by omega),Bool.false_or] at he
     refine qP hlt ?_;refine qP (show 0<=m.2.1 by omega) ?_;refine(aZ hj).trans ?_;refine qz ?_;refine(aD hk).trans ?_;refine qP hS.2.1 ?_;refine(aZ hS.2.2).trans ?_
     refine qF (show((gt v m.2.1.toNat).1 != (gt v (gt X.2.1 k).1.toNat).1)=false by rw[eq_of_beq he];simp) ?_;rfl
    ·refine qN hlt ?_;rfl
  ·unfold c3_13;dsimp only;refine qe ?_;refine qP (show(X.2.1.length:Int)<=(w.2.1.length:Int) by omega) ?_;refine qC h15 ?_;refine qt ?_;refine qC h16 ?_;refine qC h5 ?_;rfl
 exact Ev.eq (λaA=>by
  unfold T3;refine qC h1 ?_;refine qf ?_;refine qD h2 ?_;refine qC h3 ?_;refine qC h4 ?_;refine qC h5 ?_;refine qf ?_;refine qD h6 ?_;refine qC h7 ?_;refine qC h8 ?_;refine qF (pS _) ?_;refine qC h7 ?_;refine qN hkn ?_;refine qC h10 ?_;refine qf ?_;rfl) (lp.ev (i:=()) rfl)
end Go.Abs.Uz
