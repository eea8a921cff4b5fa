/- What the functions of this program answer, part eb. -/
import Derived.Test.YtmamlgjbendjhaaGreatW3
import Derived.Test.YtmamlgjbendjhaaGreatXk
import Derived.Test.YtmamlgjbendjhaaGreatXdf
import Derived.Test.YtmamlgjbendjhaaGreatXeq
set_option linter.unusedVariables false
open Go.IntKind (i64)
namespace Go.Abs.Xz
open Go Go.Abs
theorem f310(c:dZ)(h:CurOk c):∃ (x:Int) (d:dZ),Ran p 1 310 [.ref ⟨K264,c⟩] ⟨[⟨K3,(x,())⟩],[⟨K264,d⟩]⟩/\CurOk d/\0<=x/\x<=255:=by
 by_cases hi:c.2.1<(c.1.length:Int)
 ·obtain⟨i,hi'⟩:∃ i:Nat,c.2.1=i:=⟨c.2.1.toNat,by have:=h.lo;omega⟩
  have hi2:i<c.1.length:=by omega
  have e:(at? (α:=Row K5) c.1 (c.2.1).toNat)=some (gt (α:=aH) c.1 i):=by rw[hi',Int.toNat_natCast];exact(O2 hi2).trans (by rw[dC hi2])
  refine⟨_,_,go310 λn hn=>Ev.now λaA=>by
   unfold T310;refine qN (by decide) ?_;refine qN (by decide) ?_;refine qP hi ?_;refine qP h.lo ?_
   refine(congrArg (λo=>Option.bind o _) e).trans ?_
   rfl,?_⟩
  have hl:=h.len
  refine⟨⟨h.len,?_,?_⟩,(yI _).1,(yI _).2⟩
  ·show 0<=i64.wrap (c.2.1+1);have:=h.lo;rw[IntKind.wrap_i64];omega
  ·show i64.wrap (c.2.1+1)<=_;have:=h.lo;rw[IntKind.wrap_i64];show _<=(c.1.length:Int);omega
 ·refine⟨_,_,go310 λn hn=>Ev.now λaA=>by
   unfold T310;refine qN (by decide) ?_;refine qN (by decide) ?_;refine qN hi ?_;rfl,?_⟩
  exact⟨⟨h.len,h.lo,h.hi⟩,(yI _).1,(yI _).2⟩
theorem f219(c:dZ)(k:Int)(h:CurOk c):∃ (x:Int) (d:dZ),Ran p 2 219 [.ref ⟨K264,c⟩, vf K3 (k,())] ⟨[⟨K3,(x,())⟩],[⟨K264,d⟩]⟩/\CurOk d/\0<=x/\(0<k->x<k)/\(k<=0->x=0):=by
 by_cases h0:k<=0
 ·exact⟨0,c,go219 λn hn=>Ev.now λaA=>by unfold T219;exact jY h0,h,by omega,λh=>by omega,λ_=>rfl⟩
 by_cases h1:k<=256
 ·obtain⟨x,d,hx,hd,b0,b1⟩:=f310 c h
  refine⟨x.tmod k,d,go219 λn hn=>Ev.now λaA=>?_,hd,(tL b0 (by omega)).1,λh=>(tL b0 h).2,λh=>by omega⟩
  unfold T219;refine qN h0 ?_;refine qP h1 ?_;refine qR hx ?_;exact iR (by omega)
 ·obtain⟨x,d,hx,hd,b0,b1⟩:=f310 c h
  obtain⟨x2,d2,hx2,hq2,b2,b3⟩:=f310 d hd
  obtain⟨x3,d3,hx3,hq3,b4,b5⟩:=f310 d2 hq2
  obtain⟨x4,d4,hx4,hq4,b6,b7⟩:=f310 d3 hq3
  have e:i64.wrap (i64.wrap (i64.wrap (i64.wrap (x*16777216)+i64.wrap (x2*65536))+i64.wrap (x3*256))+x4)=x*16777216+x2*65536+x3*256+x4:=by
   repeat rw[IntKind.wrap_i64]
   omega
  have hp:0<=x*16777216+x2*65536+x3*256+x4:=by omega
  refine⟨(x*16777216+x2*65536+x3*256+x4).tmod k,d4,go219 λn hn=>Ev.now λaA=>?_,hq4,(tL hp (by omega)).1,λh=>(tL hp h).2,λh=>by omega⟩
  unfold T219;refine qN h0 ?_;refine qN h1 ?_;refine qR hx ?_;refine qR hx2 ?_;refine qR hx3 ?_;refine qR hx4 ?_;refine qN (by omega) ?_;rw[<- e]
theorem f128(c:dZ)(k:Int)(h:CurOk c):∃ (x:Bool) (d:dZ),Ran p 3 128 [.ref ⟨K264,c⟩, vf K3 (k,())] ⟨[⟨K4,(x,())⟩],[⟨K264,d⟩]⟩/\CurOk d:=by
 obtain⟨x,d,hx,hd,_⟩:=f219 c k h
 exact⟨_,d,go128 λn hn=>Ev.now λaA=>by unfold T128;refine qR hx ?_;rfl,hd⟩
theorem f249(c:dZ)(ls:List aH)(h:CurOk c)(h0:0<ls.length):∃ (x:Int) (d:dZ),Ran p 3 249 [.ref ⟨K264,c⟩, vf K28 (ls,())] ⟨[⟨K3,(x,())⟩],[⟨K264,d⟩]⟩/\CurOk d/\(x,())∈ls:=by
 obtain⟨x,d,hx,hd,b0,b1,_⟩:=f219 c (ls.length:Int) h
 have b2:=b1 (by omega)
 obtain⟨i,rfl⟩:∃ i:Nat,x=i:=⟨x.toNat,by omega⟩
 have hi:i<ls.length:=by omega
 refine⟨(gt ls i).1,d,go249 λn hn=>Ev.now λaA=>?_,hd,?_⟩
 ·unfold T249;refine qR hx ?_;refine qz ?_;refine(aE hi).trans ?_;rfl
 ·show gt ls i∈ls;rw[dC hi];exact List.getElem_mem hi
theorem f350(c:dZ)(ls:List (ByteArray×Unit))(h:CurOk c)(h0:0<ls.length):∃ (x:ByteArray) (d:dZ),Ran p 3 350 [.ref ⟨K264,c⟩, vf K340 (ls,())] ⟨[⟨K9,(x,())⟩],[⟨K264,d⟩]⟩/\CurOk d/\(x,())∈ls:=by
 obtain⟨x,d,hx,hd,b0,b1,_⟩:=f219 c (ls.length:Int) h
 have b2:=b1 (by omega)
 obtain⟨i,rfl⟩:∃ i:Nat,x=i:=⟨x.toNat,by omega⟩
 have hi:i<ls.length:=by omega
 refine⟨(gt ls i).1,d,go350 λn hn=>Ev.now λaA=>?_,hd,?_⟩
 ·unfold T350;refine qR hx ?_;refine qz ?_;refine(aE hi).trans ?_;rfl
 ·show gt ls i∈ls;rw[dC hi];exact List.getElem_mem hi
theorem f374(c:dZ)(h:CurOk c):∃ (e:bD) (d:dZ),Ran p 4 374 [.ref ⟨K264,c⟩] ⟨[⟨K161,e⟩],[⟨K264,d⟩]⟩/\CurOk d/\PF e/\1<=e.1:=by
 obtain⟨x1,d1,h1,k1,a1,b1,_⟩:=f219 c 3 h
 obtain⟨x2,d2,h2,k2,a2,b2,_⟩:=f219 d1 2 k1
 obtain⟨x3,d3,h3,k3,a3,b3,_⟩:=f219 d2 3 k2
 obtain⟨x4,d4,h4,k4,a4,b4,_⟩:=f219 d3 3 k3
 obtain⟨x5,d5,h5,k5,m5⟩:=f350 d4 [((⟨#[]⟩:ByteArray),()),((⟨#[97]⟩:ByteArray),()),((⟨#[98]⟩:ByteArray),()),((⟨#[97,98]⟩:ByteArray),()),((⟨#[49,50,51,52,53,54,55,56]⟩:ByteArray),())] k4 (by show 0<5;omega)
 refine⟨_,d5,go374 λn hn=>Ev.now λaA=>by unfold T374;refine qR h1 ?_;refine qR h2 ?_;refine qR h3 ?_;refine qR h4 ?_;refine qR h5 ?_;rfl,k5,?_,?_⟩
 ·have:x5∈datas.take 5:=by
   have:=List.mem_map_of_mem (f:=λy:ByteArray×Unit=>y.1) m5
   exact this
  exact List.mem_of_mem_take this
 ·show 1<=i64.wrap (1+x1);have:=b1 (by omega);rw[IntKind.wrap_i64];omega
theorem f352(c:dZ)(h:CurOk c):∃ (e:bD) (d:dZ),Ran p 5 352 [.ref ⟨K264,c⟩] ⟨[⟨K161,e⟩],[⟨K264,d⟩]⟩/\CurOk d/\PF e:=by
 obtain⟨e,d1,h1,k1,he,_⟩:=f374 c h
 obtain⟨x,d2,h2,k2,_⟩:=f219 d1 14 k1
 cases q0:x==0 with
 | true=>
  obtain⟨y,d3,h3,k3,_⟩:=f249 d2 [((0:Int),()),((1000:Int),()),((1001:Int),()),((-1:Int),())] k2 (by show 0<4;omega)
  exact⟨(y,e.2),d3,go352 λn hn=>Ev.now λaA=>by unfold T352;refine qR h1 ?_;refine qR h2 ?_;refine qT q0 ?_;refine qR h3 ?_;rfl,k3,he⟩
 | false=>
 cases q1:x==1 with
 | true=>
  obtain⟨y,d3,h3,k3,_⟩:=f249 d2 [((-1:Int),()),((2:Int),())] k2 (by show 0<2;omega)
  exact⟨(e.1,y,e.2.2),d3,go352 λn hn=>Ev.now λaA=>by unfold T352;refine qR h1 ?_;refine qR h2 ?_;refine qF q0 ?_;refine qT q1 ?_;refine qR h3 ?_;rfl,k3,he⟩
 | false=>
 cases q2:x==2 with
 | true=>
  obtain⟨y,d3,h3,k3,_⟩:=f249 d2 [((-1:Int),()),((100000:Int),()),((100001:Int),())] k2 (by show 0<3;omega)
  exact⟨(e.1,e.2.1,y,e.2.2.2),d3,go352 λn hn=>Ev.now λaA=>by unfold T352;refine qR h1 ?_;refine qR h2 ?_;refine qF q0 ?_;refine qF q1 ?_;refine qT q2 ?_;refine qR h3 ?_;rfl,k3,he⟩
 | false=>
 cases q3:x==3 with
 | true=>
  obtain⟨y,d3,h3,k3,_⟩:=f249 d2 [((-1:Int),()),((1000:Int),()),((1001:Int),())] k2 (by show 0<3;omega)
  exact⟨(e.1,e.2.1,e.2.2.1,y,e.2.2.2.2),d3,go352 λn hn=>Ev.now λaA=>by unfold T352;refine qR h1 ?_;refine qR h2 ?_;refine qF q0 ?_;refine qF q1 ?_;refine qF q2 ?_;refine qT q3 ?_;refine qR h3 ?_;rfl,k3,he⟩
 | false=>
 cases q4:x==4 with
 | true=>exact⟨(e.1,e.2.1,e.2.2.1,e.2.2.2.1,⟨#[49,50,51,52,53,54,55,56,57]⟩,()),d2,go352 λn hn=>Ev.now λaA=>by unfold T352;refine qR h1 ?_;refine qR h2 ?_;refine qF q0 ?_;refine qF q1 ?_;refine qF q2 ?_;refine qF q3 ?_;refine qT q4 ?_;rfl,k2,by show(⟨#[49,50,51,52,53,54,55,56,57]⟩:ByteArray)∈datas;unfold datas;simp⟩
 | false=>exact⟨e,d2,go352 λn hn=>Ev.now λaA=>by unfold T352;refine qR h1 ?_;refine qR h2 ?_;refine qF q0 ?_;refine qF q1 ?_;refine qF q2 ?_;refine qF q3 ?_;refine qF q4 ?_;rfl,k2,he⟩
theorem f373(i:Int)(e:bD):∃ (s:aD) (b:Bool),Ran p 4 373 [vf K3 (i,()), va K161 e] ⟨[⟨K27,s⟩,⟨K4,(b,())⟩],[]⟩/\(s=([(i,e)],[],())\/s=([],[],()))/\aJ s=true:=by
 have hs:=f227 ([(i,e)],[],()) (by show 1<=9223372036854775807;omega) (by show 0<=9223372036854775807;omega)
 cases ho:aJ ([(i,e)],[],())with
 | false=>exact⟨_,false,go373 λn hn=>Ev.now λaA=>by unfold T373;refine qC hs ?_;rw[ho];rfl,.inr rfl,rfl⟩
 | true=>exact⟨_,true,go373 λn hn=>Ev.now λaA=>by unfold T373;refine qC hs ?_;rw[ho];rfl,.inl rfl,ho⟩
end Go.Abs.Xz
namespace Go.Abs.Xz
open Go Go.Abs
theorem NP{n:Nat}(h:n<=1048576):0+n<=bound:=by unfold bound;omega
theorem QB{i x:Int}(h:0<=x):Pos (([],[(i,x,())],()):aD):=⟨λx hx=>(List.not_mem_nil hx).elim,λf hf=>by rcases List.mem_singleton.1 hf with rfl;exact h⟩
theorem ME{s:aD}{i:Int}{e:bD}(he:PF e)(hi:1<=e.1)(h:s=([(i,e)],[],())\/s=([],[],())):StD 5 s/\Pos s:=by
 rcases h with rfl | rfl
 ·exact⟨⟨by show 1<=5;omega,by show 0<=5;omega,λx hx=>by rcases List.mem_singleton.1 hx with rfl;exact he⟩,⟨λx hx=>by rcases List.mem_singleton.1 hx with rfl;exact hi,λx hx=>(List.not_mem_nil hx).elim⟩⟩
 ·exact⟨⟨by show 0<=5;omega,by show 0<=5;omega,λx hx=>(List.not_mem_nil hx).elim⟩,QC⟩
theorem R7{i x:Int}(h1:0<=i)(h2:i<=4)(h3:1<=x)(h4:x<=1000):aJ ([],[(i,x,())],())=true:=
 (aM _).2 ⟨(λx hx=>by cases hx),List.Pairwise.nil,λf hf=>by rw[List.mem_singleton.1 hf];exact⟨by unfold eH;rw[aQ];exact⟨h1,h2⟩,by rw[aQ];exact⟨h3,h4⟩⟩,List.pairwise_singleton ..⟩
theorem f349(c:dZ)(h:CurOk c):∃ (s:aD) (d:dZ),Ran p 5 349 [.ref ⟨K264,c⟩] ⟨[⟨K27,s⟩],[⟨K264,d⟩]⟩/\CurOk d/\StD 5 s/\aJ s=true:=by
 obtain⟨x1,d1,h1,k1,a1,b1,_⟩:=f219 c 7 h
 let Good:Out->Prop:=λo=>∃ (s:aD) (d:dZ),o=⟨[⟨K27,s⟩],[⟨K264,d⟩]⟩/\CurOk d/\StD 5 s/\aJ s=true
 have second:∀ (s:aD) (d d0:dZ) (x:Int),0<=x->x<3->StD 5 s->aJ s=true->CurOk d->∃ o,Good o/\∀ n,5 - 1<=n->It (λaA (_:Unit)=>c349_10 (aL p n) aA (((x,()),()),(d0,()))) ((0:Int),s.1,s.2.1,d.1,d.2.1,d.2.2.1) (λ_=>some o):=by
  intro s d d0 x hx hx3 hs hp hd
  obtain⟨m,rfl⟩:∃ m:Nat,x=m:=⟨x.toNat,by omega⟩
  refine It.ex (c:=λn aA (_:Unit)=>c349_10 (aL p n) aA ((((m:Int),()),()),(d0,()))) (λi y=>∃ (s:aD) (d:dZ),y=((i:Int),s.1,s.2.1,d.1,d.2.1,d.2.2.1)/\CurOk d/\StD 5 s/\aJ s=true) Good m ?_ ?_ m 0 _ (by omega) ⟨s,d,rfl,hd,hs,hp⟩
  ·rintro i y hi ⟨s,d,rfl,hd,hs,hp⟩
   obtain⟨x7,d7,h7,k7,a7,b7,_⟩:=f219 d 5 hd
   obtain⟨x8,d8,h8,k8,a8,b8,_⟩:=f219 d7 2 k7
   have hw:i64.wrap (1+x8)=1+x8:=by have:=b8 (by omega);rw[IntKind.wrap_i64];omega
   have hq:StD 5 (([],[(x7,i64.wrap (1+x8),())],()):aD):=⟨by show 0<=5;omega,by show 1<=5;omega,λx hx=>(List.not_mem_nil hx).elim⟩
   have h9:=f260 s ([],[(x7,i64.wrap (1+x8),())],()) (hs.sz (by omega)) (hq.sz (by omega)) ((aM _).1 hp).pos (QB (by omega))
   have ho:=R7 (i:=x7) (x:=i64.wrap (1+x8)) a7 (by have:=b7 (by omega);omega) (by omega) (by have:=b8 (by omega);omega)
   refine⟨_,⟨cM s ([],[(x7,i64.wrap (1+x8),())],()),d8,rfl,k8,I5 hs hq,m8 hp ho⟩,λn hn aA a rec=>?_⟩
   unfold c349_10;dsimp only;rw[aF (show i<9223372036854775807 by omega)];refine qP (show(i:Int)<(m:Int) by omega) ?_;refine qR h7 ?_;refine qR h8 ?_;refine qC h9 ?_;rfl
  ·rintro y ⟨s,d,rfl,hd,hs,hp⟩
   refine⟨_,⟨s,d,rfl,hd,hs,hp⟩,λn hn=>It.stop λaA a rec=>?_⟩
   unfold c349_10;refine qe ?_;rfl
 obtain⟨m,rfl⟩:∃ m:Nat,x1=m:=⟨x1.toNat,by omega⟩
 have hm:=b1 (by omega)
 have first:=It.ex (lvl:=5 - 1) (c:=λn aA (_:Unit)=>c349_4 (aL p n) aA ((((m:Int),()),()),(d1,()))) (λi y=>∃ (s:aD) (d:dZ),y=((i:Int),s.1,s.2.1,d.1,d.2.1,d.2.2.1)/\CurOk d/\StD 5 s/\aJ s=true) Good m (by
  rintro i y hi ⟨s,d,rfl,hd,hs,hp⟩
  obtain⟨x2,d2,h2,k2,_⟩:=f219 d 5 hd
  obtain⟨e3,d3,h3,k3,he,hi3⟩:=f374 d2 k2
  obtain⟨s4,b4,h4,q4⟩:=f373 x2 e3
  obtain⟨q5,q6⟩:=ME he hi3 q4.1
  have h5:=f260 s s4 (hs.sz (by omega)) (q5.sz (by omega)) ((aM _).1 hp).pos q6
  refine⟨_,⟨cM s s4,d3,rfl,k3,I5 hs q5,m8 hp q4.2⟩,λn hn aA a rec=>?_⟩
  unfold c349_4;dsimp only;rw[aF (show i<9223372036854775807 by omega)];refine qP (show(i:Int)<(m:Int) by omega) ?_;refine qR h2 ?_;refine qR h3 ?_;refine(AO (h4 n (by omega))).trans ?_;refine qC h5 ?_;rfl) (by
  rintro y ⟨s,d,rfl,hd,hs,hp⟩
  obtain⟨x6,d6,h6,k6,a6,b6,_⟩:=f219 d 3 hd
  obtain⟨o,ho,hL⟩:=second s d6 d6 x6 a6 (b6 (by omega)) hs hp k6
  refine⟨o,ho,λn hn=>It.stopE (T:=λaA _=>iter (c349_10 (aL p n) aA (((x6,()),()),(d6,()))) aA ((0:Int),s.1,s.2.1,d6.1,d6.2.1,d6.2.2.1)) (λaA a rec=>?_) (hL n hn).all_i⟩
  unfold c349_4;refine qe ?_;refine qR h6 ?_;rfl)
 obtain⟨o,⟨s,d,rfl,hd,hs,hp⟩,hL⟩:=first m 0 ((0:Int),[],[],d1.1,d1.2.1,d1.2.2.1) (by omega) ⟨([],[],()),d1,rfl,k1,⟨by show 0<=5;omega,by show 0<=5;omega,λx hx=>(List.not_mem_nil hx).elim⟩,rfl⟩
 exact⟨s,d,go349 λn hn=>Ev.eq (λaA=>by unfold T349;refine qR h1 ?_;rfl) ((hL n (by omega)).ev (i:=()) rfl),hd,hs,hp⟩
theorem f308(c:dZ)(h:CurOk c):∃ (s:aD) (d:dZ),Ran p 6 308 [.ref ⟨K264,c⟩] ⟨[⟨K27,s⟩],[⟨K264,d⟩]⟩/\CurOk d/\StD 6 s:=by
 obtain⟨s,d1,h1,k1,hs,hp⟩:=f349 c h
 obtain⟨x2,d2,h2,k2,_⟩:=f219 d1 14 k1
 have hs6:StD 6 s:=⟨Nat.le_trans hs.a (by omega),Nat.le_trans hs.b (by omega),hs.data⟩
 have ha:=hs.a
 have hb:=hs.b
 cases q0:x2==0 with
 | true=>
  obtain⟨x3,d3,h3,k3,_⟩:=f219 d2 7 k2
  obtain⟨e4,d4,h4,k4,he⟩:=f352 d3 k3
  refine⟨(s.1++[(i64.wrap (x3 - 1),e4)],s.2.1,()),d4,go308 λn hn=>Ev.now λaA=>?_,k4,⟨by show(s.1++_).length<=6;simp;omega,hs6.b,λx hx=>?_⟩⟩
  ·unfold T308;refine qR h1 ?_;refine qR h2 ?_;refine qT q0 ?_;refine qR h3 ?_;refine qR h4 ?_;refine qP (show s.1.length+1<=bound by unfold bound;omega) ?_;rfl
  ·rcases List.mem_append.1 hx with hx | hx
   ·exact hs.data x hx
   ·rcases List.mem_singleton.1 hx with rfl;exact he
 | false=>
 cases q1:x2==1 with
 | true=>
  obtain⟨x3,d3,h3,k3,_⟩:=f219 d2 7 k2
  obtain⟨x4,d4,h4,k4,_⟩:=f249 d3 [((0:Int),()),((1:Int),()),((5:Int),()),((1001:Int),())] k3 (by show 0<4;omega)
  refine⟨(s.1,s.2.1++[(i64.wrap (x3 - 1),x4,())],()),d4,go308 λn hn=>Ev.now λaA=>?_,k4,⟨hs6.a,by show(s.2.1++_).length<=6;simp;omega,hs.data⟩⟩
  unfold T308;refine qR h1 ?_;refine qR h2 ?_;refine qF q0 ?_;refine qT q1 ?_;refine qR h3 ?_;refine qR h4 ?_;refine qP (show s.2.1.length+1<=bound by unfold bound;omega) ?_;rfl
 | false=>
 cases q2:x2==2 with
 | true=>
  by_cases hl:(s.1.length:Int)>0
  ·obtain⟨x3,d3,h3,k3,a3,b3,_⟩:=f219 d2 (s.1.length:Int) k2
   obtain⟨e4,d4,h4,k4,he⟩:=f352 d3 k3
   have b3':=b3 (by omega)
   obtain⟨i,rfl⟩:∃ i:Nat,x3=i:=⟨x3.toNat,by omega⟩
   have hi:i<s.1.length:=by omega
   refine⟨(List.set s.1 i ((gt s.1 i).1,e4),s.2.1,()),d4,go308 λn hn=>Ev.now λaA=>?_,k4,⟨by show(List.set s.1 i _).length<=6;simp;omega,hs6.b,λx hx=>?_⟩⟩
   ·unfold T308;refine qR h1 ?_;refine qR h2 ?_;refine qF q0 ?_;refine qF q1 ?_;refine qT q2 ?_;refine qP hl ?_;refine qR h3 ?_;refine qR h4 ?_;refine qz ?_;refine(aE hi).trans ?_;refine(aE hi).trans ?_;rfl
   ·rcases List.mem_or_eq_of_mem_set hx with hx | rfl
    ·exact hs.data x hx
    ·exact he
  ·refine⟨s,d2,go308 λn hn=>Ev.now λaA=>?_,k2,hs6⟩
   unfold T308;refine qR h1 ?_;refine qR h2 ?_;refine qF q0 ?_;refine qF q1 ?_;refine qT q2 ?_;refine qN hl ?_;rfl
 | false=>
 cases q3:x2==3 with
 | true=>
  by_cases hl:(s.1.length:Int)>1
  ·have hi1:1<s.1.length:=by omega
   have hi0:0<s.1.length:=by omega
   refine⟨(List.set s.1 0 (gt s.1 1),s.2.1,()),d2,go308 λn hn=>Ev.now λaA=>?_,k2,⟨by show(List.set s.1 0 _).length<=6;simp;omega,hs6.b,λx hx=>?_⟩⟩
   ·unfold T308;refine qR h1 ?_;refine qR h2 ?_;refine qF q0 ?_;refine qF q1 ?_;refine qF q2 ?_;refine qT q3 ?_;refine qP hl ?_;refine qP (by decide) ?_;refine(aE (i:=1) hi1).trans ?_;refine(aE (i:=1) hi1).trans ?_;refine qP (by decide) ?_;refine(aE (i:=0) hi0).trans ?_;refine(aE (i:=0) hi0).trans ?_;rfl
   ·rcases List.mem_or_eq_of_mem_set hx with hx | rfl
    ·exact hs.data x hx
    ·rw[dC hi1];exact hs.data _ (List.getElem_mem hi1)
  ·refine⟨s,d2,go308 λn hn=>Ev.now λaA=>?_,k2,hs6⟩
   unfold T308;refine qR h1 ?_;refine qR h2 ?_;refine qF q0 ?_;refine qF q1 ?_;refine qF q2 ?_;refine qT q3 ?_;refine qN hl ?_;rfl
 | false=>
  refine⟨s,d2,go308 λn hn=>Ev.now λaA=>?_,k2,hs6⟩
  unfold T308;refine qR h1 ?_;refine qR h2 ?_;refine qF q0 ?_;refine qF q1 ?_;refine qF q2 ?_;refine qF q3 ?_;rfl
end Go.Abs.Xz
namespace Go.Abs.Xz
open Go Go.Abs
-- tables drawn
structure TabD (t:List bH):Prop where
 len:t.length<=5
 row:∀ i,i<t.length->(gt t i).1.length<=5
theorem TabD.sz{t:List bH}(h:TabD t):t.length<=aN/\∀ i,i<t.length->(gt t i).1.length<=aN:=
 ⟨by have:=h.len;unfold aN;omega,λi hi=>by have:=h.row i hi;unfold aN;omega⟩
structure TabN (n:Nat) (t:List bH):Prop where
 len:t.length=n
 row:∀ i,i<n->(gt t i).1.length=5
theorem TabN.d{n:Nat}{t:List bH}(h:TabN n t)(hn:n<=5):TabD t:=⟨by rw[h.len];exact hn,λi hi=>by rw[h.row i (by rw[<- h.len];exact hi)];exact Nat.le_refl _⟩
theorem TabN.add{n:Nat}{t:List bH}(h:TabN n t)(k:Int)(ms:List aK):TabN n (bB t k ms):=⟨by rw[dA];exact h.len,λi hi=>by rw[eV];exact h.row i hi⟩
theorem D8{n:Nat}(h1:1<=n)(h5:n<=5):TabN n (dS (n:Int)):=by
 have hb:inB (n:Int) 1 5=true:=by rw[aQ];omega
 refine⟨?_,λi hi=>?_⟩
 ·unfold dS;rw[hb];show(List.replicate _ _).length=n;rw[List.length_replicate];omega
 ·have hl:i<(dS (n:Int)).length:=by unfold dS;rw[hb];show i<(List.replicate _ _).length;rw[List.length_replicate];omega
  rw[nK hb hl];rfl
theorem f307(c:dZ)(h:CurOk c):∃ (t:List bH) (d:dZ),Ran p 7 307 [.ref ⟨K264,c⟩] ⟨[⟨K34,(t,())⟩],[⟨K264,d⟩]⟩/\CurOk d/\TabD t:=by
 obtain⟨x1,d1,h1,k1,a1,b1,_⟩:=f219 c 4 h
 obtain⟨m,rfl⟩:∃ m:Nat,x1=m:=⟨x1.toNat,by omega⟩
 have hm:=b1 (by omega)
 have hw:i64.wrap (1+(m:Int))=((m+1:Nat):Int):=by rw[IntKind.wrap_i64];omega
 let Good:Out->Prop:=λo=>∃ (t:List bH) (d:dZ),o=⟨[⟨K34,(t,())⟩],[⟨K264,d⟩]⟩/\CurOk d/\TabD t
 have lp:=It.ex (lvl:=7 - 1) (c:=λn aA (_:Unit)=>c307_10004 (aL p n) aA ((((m:Int),()),()),(d1,()))) (λi y=>∃ (t:List bH) (d:dZ),y=((i:Int),d.1,d.2.1,d.2.2.1,t)/\CurOk d/\TabN (m+1) t) Good (m+1) (by
  rintro i y hi ⟨t,d,rfl,hd,ht⟩
  obtain⟨s,d3,h3,k3,hs,_⟩:=f349 d hd
  have h4:=f234 s (hs.sz (by omega))
  have hz:=(ht.d (by omega)).sz
  have h5:=f257 t (i:Int) (cB s) hz.1 hz.2 (Nat.le_trans (eI s) (by decide))
  refine⟨_,⟨bB t (i:Int) (cB s),d3,rfl,k3,ht.add _ _⟩,λn hn aA a rec=>?_⟩
  unfold c307_10004;dsimp only;rw[aF (show i<9223372036854775807 by omega)];refine qP (show(i:Int)<i64.wrap (1+(m:Int)) by rw[hw];omega) ?_;refine qR h3 ?_;refine qC h4 ?_;refine qC h5 ?_;rfl) (by
  rintro y ⟨t,d,rfl,hd,ht⟩
  obtain⟨x6,d6,h6,k6,_⟩:=f219 d 12 hd
  have hl:0<t.length:=by rw[ht.len];omega
  have h0:(gt t 0).1.length=5:=ht.row 0 (by omega)
  have hT:=ht.d (show m+1<=5 by omega)
  have un:∀ n,7 - 1<=n->∀ {o:Option Out},(∀ aA rec,c307_10004 (aL p n) aA ((((m:Int),()),()),(d1,())) rec (((m+1:Nat):Int),d.1,d.2.1,d.2.2.1,t)=o)->It (λaA (_:Unit)=>c307_10004 (aL p n) aA ((((m:Int),()),()),(d1,()))) (((m+1:Nat):Int),d.1,d.2.1,d.2.2.1,t) (λ_=>o):=λn hn o ho=>It.stop λaA a rec=>ho aA rec
  have en:¬ (((m+1:Nat):Int)<i64.wrap (1+(m:Int))):=by rw[hw];omega
  cases q0:x6==0 with
  | true=>
   refine⟨_,⟨t.set 0 (((gt t 0).1.take ((3:Int)).toNat).drop 0,(gt t 0).2),d6,rfl,k6,⟨by rw[List.length_set];exact hT.len,λi hi=>?_⟩⟩,λn hn=>un n hn λaA rec=>?_⟩
   ·rw[List.length_set] at hi
    by_cases e:0=i
    ·rw[<- e,cE hl];show(((gt t 0).1.take 3).drop 0).length<=5;rw[List.drop_zero,List.length_take];omega
    ·rw[eL e];exact hT.row i hi
   ·unfold c307_10004;refine qN en ?_;refine qR h6 ?_;refine qT q0 ?_;refine qP (show(0:Int)<=0 by omega) ?_;refine(aU hl).trans ?_;refine(aU hl).trans ?_
    refine(qK (show(0:Int)<=3 by omega) (show(3:Int)<=(((gt t 0).1.length:Nat):Int) by rw[h0];omega)).trans ?_;refine qP (show(0:Int)<=0 by omega) ?_;refine(aU hl).trans ?_;refine(aU hl).trans ?_;rfl
  | false=>
  cases q1:x6==1 with
  | true=>
   obtain⟨x7,d7,h7,k7,_⟩:=f249 d6 [((-1:Int),()),((1001:Int),())] k6 (by show 0<2;omega)
   have h00:0<(gt t 0).1.length:=by omega
   refine⟨_,⟨t.set 0 ((gt t 0).1.set 0 (x7,(gt (gt t 0).1 0).2),(gt t 0).2),d7,rfl,k7,⟨by rw[List.length_set];exact hT.len,λi hi=>?_⟩⟩,λn hn=>un n hn λaA rec=>?_⟩
   ·rw[List.length_set] at hi
    by_cases e:0=i
    ·rw[<- e,cE hl];show((gt t 0).1.set 0 _).length<=5;rw[List.length_set];omega
    ·rw[eL e];exact hT.row i hi
   ·unfold c307_10004;refine qN en ?_;refine qR h6 ?_;refine qF q0 ?_;refine qT q1 ?_;refine qP (show(0:Int)<=0 by omega) ?_;refine(aU hl).trans ?_;refine(aU hl).trans ?_;refine qR h7 ?_;refine qP (show(0:Int)<=0 by omega) ?_;refine(aU hl).trans ?_;refine(aU h00).trans ?_;refine(aU hl).trans ?_;refine(aU h00).trans ?_;rfl
  | false=>
  cases q2:x6==2 with
  | true=>
   refine⟨_,⟨[],d6,rfl,k6,⟨Nat.zero_le _,λi hi=>absurd hi (Nat.not_lt_zero _)⟩⟩,λn hn=>un n hn λaA rec=>?_⟩
   unfold c307_10004;refine qN en ?_;refine qR h6 ?_;refine qF q0 ?_;refine qF q1 ?_;refine qT q2 ?_;rfl
  | false=>
   refine⟨_,⟨t,d6,rfl,k6,hT⟩,λn hn=>un n hn λaA rec=>?_⟩
   unfold c307_10004;refine qN en ?_;refine qR h6 ?_;refine qF q0 ?_;refine qF q1 ?_;refine qF q2 ?_;rfl)
 have h2:=f372 ((m+1:Nat):Int)
 obtain⟨o,⟨t,d,rfl,hd,ht⟩,hL⟩:=lp (m+1) 0 ((0:Int),d1.1,d1.2.1,d1.2.2.1,dS ((m+1:Nat):Int)) (by omega) ⟨dS ((m+1:Nat):Int),d1,rfl,k1,D8 (by omega) (by omega)⟩
 exact⟨t,d,go307 λn hn=>Ev.eq (λaA=>by unfold T307;refine qR h1 ?_;rw[<- hw] at h2;refine qC h2 ?_;rw[hw]) ((hL n (by omega)).ev (i:=()) rfl),hd,ht⟩
-- logs drawn
structure LogD (k:Nat) (l:fJ):Prop where
 len:l.2.2.1.length<=k
 st:∀ s∈l.2.2.1,SzS s
theorem LogD.sz{k:Nat}{l:fJ}(h:LogD k l)(hk:k<=1048576):l.2.2.1.length<=aN/\∀ i,i<l.2.2.1.length->SzS (gt l.2.2.1 i):=
 ⟨Nat.le_trans h.len hk,λi hi=>h.st _ (cR hi)⟩
theorem LogD.add{k:Nat}{l:fJ}(h:LogD k l){d:aD}(hd:SzS d):LogD (k+1) (sQ l d).1:=by
 unfold sQ
 cases oY l d with
 | false=>exact⟨Nat.le_succ_of_le h.len,h.st⟩
 | true=>
  refine⟨Nat.le_trans (G6 l d) (Nat.succ_le_succ h.len),λs hs=>?_⟩
  have key:s∈l.2.2.1++[d]:=by
   have hs:s∈(gB l d).2.2.1:=hs
   unfold gB at hs
   cases hc:decide ((((l.2.2.1++[d]).length:Nat):Int)>l.1)with
   | true=>rw[hc] at hs;exact List.mem_of_mem_drop hs
   | false=>rw[hc] at hs;exact hs
  rcases List.mem_append.1 key with hs | hs
  ·exact h.st s hs
  ·rw[List.mem_singleton.1 hs];exact hd
theorem f353(c:dZ)(h:CurOk c):∃ (l:fJ) (d:dZ),Ran p 6 353 [.ref ⟨K264,c⟩] ⟨[⟨K33,l⟩],[⟨K264,d⟩]⟩/\CurOk d/\LogD 6 l:=by
 obtain⟨x1,d1,h1,k1,_⟩:=f249 c [((1:Int),()),((2:Int),()),((4:Int),()),((8:Int),())] h (by show 0<4;omega)
 obtain⟨x2,d2,h2,k2,_⟩:=f249 d1 [((0:Int),()),((0:Int),()),((5:Int),()),((99990:Int),())] k1 (by show 0<4;omega)
 obtain⟨x3,d3,h3,k3,a3,b3,_⟩:=f219 d2 6 k2
 obtain⟨m,rfl⟩:∃ m:Nat,x3=m:=⟨x3.toNat,by omega⟩
 have hm:=b3 (by omega)
 let Good:Out->Prop:=λo=>∃ (l:fJ) (d:dZ),o=⟨[⟨K33,l⟩],[⟨K264,d⟩]⟩/\CurOk d/\LogD 6 l
 have lp:=It.ex (lvl:=6 - 1) (c:=λn aA (_:Unit)=>c353_4 (aL p n) aA ((((m:Int),()),()),(d3,()))) (λi y=>∃ (l:fJ) (d:dZ),y=((i:Int),l.1,l.2.1,l.2.2.1,d.1,d.2.1,d.2.2.1)/\CurOk d/\LogD i l) Good m (by
  rintro i y hi ⟨l,d,rfl,hd,hl⟩
  obtain⟨x4,d4,h4,k4,_⟩:=f219 d 5 hd
  obtain⟨e5,d5,h5,k5,_,_⟩:=f374 d4 k4
  obtain⟨b6,h6⟩:=yY x4 e5
  have hz:=hl.sz (by omega)
  have ho:=sG (uH x4 e5)
  have h7:=f345 l (zG x4 e5) hz.1 hz.2 ho
  refine⟨_,⟨(sQ l (zG x4 e5)).1,d5,rfl,k5,hl.add ho⟩,λn hn aA a rec=>?_⟩
  unfold c353_4;dsimp only;rw[aF (show i<9223372036854775807 by omega)];refine qP (show(i:Int)<(m:Int) by omega) ?_;refine qR h4 ?_;refine qR h5 ?_;refine(AO (h6 n (by omega))).trans ?_;refine(AO (h7 n (by omega))).trans ?_;rfl) (by
  rintro y ⟨l,d,rfl,hd,hl⟩
  refine⟨_,⟨l,d,rfl,hd,⟨Nat.le_trans hl.len (by omega),hl.st⟩⟩,λn hn=>It.stop λaA a rec=>?_⟩
  unfold c353_4;refine qe ?_;rfl)
 obtain⟨o,⟨l,d,rfl,hd,hl⟩,hL⟩:=lp m 0 ((0:Int),x1,x2,[],d3.1,d3.2.1,d3.2.2.1) (by omega) ⟨(x1,x2,[],()),d3,rfl,k3,⟨Nat.le_refl _,λs hs=>by cases hs⟩⟩
 exact⟨l,d,go353 λn hn=>Ev.eq (λaA=>by unfold T353;refine qR h1 ?_;refine qR h2 ?_;refine qR h3 ?_;rfl) ((hL n (by omega)).ev (i:=()) rfl),hd,hl⟩
theorem f309(c:dZ)(h:CurOk c):∃ (l:fJ) (d:dZ),Ran p 7 309 [.ref ⟨K264,c⟩] ⟨[⟨K33,l⟩],[⟨K264,d⟩]⟩/\CurOk d/\LogD 7 l:=by
 obtain⟨l,d1,h1,k1,hl⟩:=f353 c h
 obtain⟨x2,d2,h2,k2,_⟩:=f219 d1 12 k1
 have hl7:LogD 7 l:=⟨Nat.le_succ_of_le hl.len,hl.st⟩
 cases q0:x2==0 with
 | true=>
  obtain⟨x3,d3,h3,k3,_⟩:=f249 d2 [((0:Int),()),((9:Int),()),((1:Int),())] k2 (by show 0<3;omega)
  exact⟨(x3,l.2.1,l.2.2.1,()),d3,go309 λn hn=>Ev.now λaA=>by unfold T309;refine qR h1 ?_;refine qR h2 ?_;refine qT q0 ?_;refine qR h3 ?_;rfl,k3,⟨hl7.len,hl7.st⟩⟩
 | false=>
 cases q1:x2==1 with
 | true=>
  obtain⟨x3,d3,h3,k3,_⟩:=f249 d2 [((-1:Int),()),((100000:Int),()),((9223372036854775807:Int),())] k2 (by show 0<3;omega)
  exact⟨(l.1,x3,l.2.2.1,()),d3,go309 λn hn=>Ev.now λaA=>by unfold T309;refine qR h1 ?_;refine qR h2 ?_;refine qF q0 ?_;refine qT q1 ?_;refine qR h3 ?_;rfl,k3,⟨hl7.len,hl7.st⟩⟩
 | false=>
 cases q2:x2==2 with
 | true=>
  obtain⟨s,d3,h3,k3,hs⟩:=f308 d2 k2
  have hb:l.2.2.1.length+1<=bound:=by have:=hl.len;unfold bound;omega
  refine⟨(l.1,l.2.1,l.2.2.1++[s],()),d3,go309 λn hn=>Ev.now λaA=>by unfold T309;refine qR h1 ?_;refine qR h2 ?_;refine qF q0 ?_;refine qF q1 ?_;refine qT q2 ?_;refine qR h3 ?_;refine qP hb ?_;rfl,k3,⟨?_,λr hr=>?_⟩⟩
  ·show(l.2.2.1++[s]).length<=7;rw[List.length_append,List.length_singleton];have:=hl.len;omega
  ·rcases List.mem_append.1 hr with hr | hr
   ·exact hl.st r hr
   ·rw[List.mem_singleton.1 hr];exact hs.sz (by omega)
 | false=>exact⟨l,d2,go309 λn hn=>Ev.now λaA=>by unfold T309;refine qR h1 ?_;refine qR h2 ?_;refine qF q0 ?_;refine qF q1 ?_;refine qF q2 ?_;rfl,k2,hl7⟩
end Go.Abs.Xz
namespace Go.Abs.Xz
open Go Go.Abs
theorem HK{α:Type}[Inhabited α]{n i:Nat}{x:α}(h:i<n):gt (List.replicate n x) i=x:=by
 rw[dC (by rw[List.length_replicate];exact h),List.getElem_replicate]
def z0:aH:=((0:Int),())
theorem IG{n:Int}(h:inB n 1 5=true):eG (List.replicate n.toNat z0) n=true:=by
 have h1:=aQ.1 h
 unfold eG
 simp only[Bool.and_eq_true,beq_iff_eq]
 rw[List.length_replicate]
 refine⟨h,by omega,bJ.2 λi hi=>?_⟩
 rw[HK hi];rfl
theorem zK{id n cap slots wait lim:Int}(hn:inB n 1 5=true)(hi:0<=id/\id<n)(hc:inB cap 1 8=true)(hs:inB slots 1 4=true)(hw:inB wait 1 20=true)(hl:inB lim 1 50=true):NodeOk (iO id n cap slots wait lim):=by
 have h1:=aQ.1 hn
 have h2:=aQ.1 hc
 have h3:=aQ.1 hs
 have hL:LogOk (cap,0,[],()):=⟨h2,by show((0:Nat):Int)<=cap;omega,by show(0:Int)<=0/\(0:Int)<=100000;omega,by show(0:Int)+((0:Nat):Int)<=100000;omega,λs h=>by cases h⟩
 have hq:bU (cap,0,[],())=0:=by rw[rH hL];rfl
 have hk:id.toNat<n.toNat:=by omega
 exact {
  n:=hn
  id:=by show inB id 0 (i64.wrap (n - 1))=true;rw[aQ,IntKind.wrap_i64];omega
  state:=rfl
  tree:=by
   show(fW (bV ([],[],())).1 (bV ([],[],())).1&&(bV ([],[],())).2.1==(bV ([],[],())).2.1)=true
   rw[jO];simp
  log:=(mY _).2 hL
  got:=IG hn
  acked:=IG hn
  own:=by
   show((gt (List.replicate n.toNat z0) id.toNat).1==bU (cap,0,[],()))=true
   rw[HK hk,hq];rfl
  seen:=by
   show gE (dS n) n=true
   have hT:TabN n.toNat (dS n):=by
    have:=D8 (n:=n.toNat) (by omega) (by omega)
    rw[show((n.toNat:Nat):Int)=n by omega] at this;exact this
   unfold gE
   simp only[Bool.and_eq_true,beq_iff_eq]
   refine⟨hn,by rw[hT.len];omega,bJ.2 λi hi=>?_⟩
   rw[nK hn hi];rfl
  ack:=by
   show bL (List.replicate n.toNat z0).length _=true
   rw[bJ]
   intro i hi
   show(!decide ((gt (List.replicate n.toNat z0) i).1>bU (cap,0,[],())))=true
   rw[hq,HK (by rw[List.length_replicate] at hi;exact hi)];rfl
  num:=rfl
  clock:=rfl
  slots:=hs
  wait:=hw
  limit:=hl
  rises:=rfl
  rise:=rfl
  sess:=by
   refine(dG _).2 ⟨?_,(λs h=>by cases h),List.Pairwise.nil⟩
   show((0:Nat):Int)<=slots;omega }
theorem M4{id n cap slots wait lim:Int}(hn:inB n 1 5=true)(hi:0<=id/\id<n)(hc:inB cap 1 8=true)(hs:inB slots 1 4=true)(hw:inB wait 1 20=true)(hl:inB lim 1 50=true):GW id n cap slots wait lim=true/\E0 id n cap slots wait lim=iO id n cap slots wait lim:=by
 have h:=(fQ _).2 (zK hn hi hc hs hw hl)
 have e:GW id n cap slots wait lim=true:=by unfold GW;rw[hn,h];rfl
 exact⟨e,by unfold E0;rw[e];rfl⟩
end Go.Abs.Xz
set_option maxHeartbeats 2000000
namespace Go.Abs.Xz
open Go Go.Abs
structure NodD (y:NodeT):Prop where
 sz:SzN y
 n:1<=y.2.1/\y.2.1<=4
 id:0<=y.1/\y.1<y.2.1
 got:y.got.length=y.2.1.toNat
 acked:y.acked.length=y.2.1.toNat
 sess:y.sess.length<=4
 rises:y.rises.length=5
 cnt:y.num<=8/\y.clock<=8
structure NodR (m i:Nat) (y:NodeT):Prop where
 ok:NodeOk y
 sz:SzN y
 n:y.2.1=((m:Nat):Int)
 cnt:y.num<=((i:Nat):Int)/\y.clock<=((i:Nat):Int)
theorem NodR.d{m i:Nat}{y:NodeT}(h:NodR m i y)(h4:m<=4)(hi:i<=8):NodD y:=by
 have h1:=h.ok.n;have h2:=h.ok.id;have h3:=h.ok.got;have h5:=((dG y).1 h.ok.sess).1;have h6:=h.ok.slots;have h7:=eq_of_beq h.ok.rises;have h8:=h.ok.acked
 have hn:=h.n
 rw[aQ] at h1 h2 h6
 rw[IntKind.wrap_i64] at h2
 unfold eG at h3 h8
 simp only[Bool.and_eq_true,beq_iff_eq] at h3 h8
 exact⟨h.sz,by omega,by omega,by omega,by omega,by omega,by omega,by have:=h.cnt;omega⟩
theorem RY(x:NodeT)(k i:Int)(t:ByteArray):(tW x k i t).1.2.1=x.2.1:=by
 unfold tW
 cases vE x k i with
 | false=>rfl
 | true=>
  cases (gH x.state k i t).2 != 0 with
  | true=>rfl
  | false=>cases oY x.log (gH x.state k i t).1<;>rfl
theorem MI(x:NodeT)(k i:Int)(t:ByteArray):(tW x k i t).1.num=x.num/\(tW x k i t).1.clock=x.clock:=by
 unfold tW
 cases vE x k i with
 | false=>exact⟨rfl,rfl⟩
 | true=>
  cases (gH x.state k i t).2 != 0 with
  | true=>exact⟨rfl,rfl⟩
  | false=>cases oY x.log (gH x.state k i t).1<;>exact⟨rfl,rfl⟩
theorem L5(x:NodeT)(i:Int):(pI x i).1.num<=x.num+1/\(pI x i).1.clock=x.clock:=by
 unfold pI
 cases hb:pJ x i with
 | false=>exact⟨by show x.num<=x.num+1;omega,rfl⟩
 | true=>exact⟨by show i64.wrap (x.num+1)<=x.num+1;rw[GU (tO hb).num];omega,rfl⟩
theorem JN{x:NodeT}(h:NodeOk x):(oT x).num=x.num/\(oT x).clock<=x.clock+1:=by
 have hc:=h.clock;rw[aQ] at hc
 unfold oT
 cases eO x with
 | false=>exact⟨rfl,by show x.clock<=x.clock+1;omega⟩
 | true=>
  cases x.clock==100000 with
  | true=>exact⟨rfl,by show x.clock<=x.clock+1;omega⟩
  | false=>exact⟨rfl,by show i64.wrap (x.clock+1)<=x.clock+1;rw[IntKind.wrap_i64];omega⟩
theorem RQ(x:NodeT)(i:Int):(pI x i).1.2.1=x.2.1:=by unfold pI;cases pJ x i<;>rfl
theorem PO{x:NodeT}(h:NodeOk x)(i:Int):NodeOk (pI x i).1:=by
 unfold pI
 cases hb:pJ x i with
 | false=>exact h
 | true=>exact(tO hb).up
theorem PL(x:NodeT):(oT x).2.1=x.2.1:=by unfold oT;cases eO x<;>cases x.clock==100000<;>rfl
def GJ(x:NodeT)(k:Int)(ms:List aK):NodeT:=
 (x.1,x.2.1,x.2.2.1,x.2.2.2.1,x.2.2.2.2.1,x.2.2.2.2.2.1,x.2.2.2.2.2.2.1,x.2.2.2.2.2.2.2.1,x.2.2.2.2.2.2.2.2.1,x.got,x.acked,bB x.seen k ms,x.num,x.slots,x.sess,x.wait,x.limit,x.clock,x.rises,())
theorem JW{x:NodeT}(h:NodeOk x)(k:Int)(ms:List aK):NodeOk (GJ x k ms):=
 ⟨h.n,h.id,h.state,h.tree,h.log,h.got,h.acked,h.own,pG h.seen,h.ack,h.num,h.clock,h.slots,h.wait,h.limit,h.rises,h.rise,h.sess⟩
theorem JV{x:NodeT}(h:SzN x)(k:Int)(ms:List aK):SzN (GJ x k ms):=
 ⟨h.state,h.leaves,h.list,h.logs,h.got,h.acked,by show(bB _ _ _).length<=aN;rw[dA];exact h.seen,λi hi=>by
  show(gt (bB x.seen k ms) i).1.length<=aN
  rw[eV];exact h.lines i (by have:i<(bB x.seen k ms).length:=hi;rw[dA] at this;exact this),h.sess,h.rises⟩
def F6(y:NodeT)(g a:List aH):NodeT:=
 (y.1,y.2.1,y.2.2.1,y.2.2.2.1,y.2.2.2.2.1,y.2.2.2.2.2.1,y.2.2.2.2.2.2.1,y.2.2.2.2.2.2.2.1,y.2.2.2.2.2.2.2.2.1,g,a,y.seen,y.num,y.slots,y.sess,y.wait,y.limit,y.clock,y.rises,())
theorem f306(c:dZ)(h:CurOk c):∃ (y:NodeT) (d:dZ),Ran p 10 306 [.ref ⟨K264,c⟩] ⟨[⟨K38,y⟩],[⟨K264,d⟩]⟩/\CurOk d/\NodD y:=by
 obtain⟨x1,d1,h1,k1,a1,b1,_⟩:=f219 c 4 h
 have c1:=b1 (by omega)
 obtain⟨m,hm⟩:∃ m:Nat,1+x1=m:=⟨(1+x1).toNat,by omega⟩
 have hw:i64.wrap (1+x1)=(m:Int):=by rw[IntKind.wrap_i64];omega
 have hm1:1<=m/\m<=4:=by omega
 obtain⟨x2,d2,h2,k2,a2,b2,_⟩:=f219 d1 (i64.wrap (1+x1)) k1
 obtain⟨x3,d3,h3,k3,e3⟩:=f249 d2 [((1:Int),()),((2:Int),()),((8:Int),())] k2 (by show 0<3;omega)
 obtain⟨x4,d4,h4,k4,a4,b4,_⟩:=f219 d3 3 k3
 obtain⟨x5,d5,h5,k5,a5,b5,_⟩:=f219 d4 5 k4
 obtain⟨x6,d6,h6,k6,a6,b6,_⟩:=f219 d5 6 k5
 obtain⟨x8,d8,h8,k8,a8,b8,_⟩:=f219 d6 8 k6
 have h7:=f348 x2 (i64.wrap (1+x1)) x3 (i64.wrap (1+x4)) (i64.wrap (1+x5)) (i64.wrap (1+x6))
 have w4:i64.wrap (1+x4)=1+x4:=by have:=b4 (by omega);rw[IntKind.wrap_i64];omega
 have w5:i64.wrap (1+x5)=1+x5:=by have:=b5 (by omega);rw[IntKind.wrap_i64];omega
 have w6:i64.wrap (1+x6)=1+x6:=by have:=b6 (by omega);rw[IntKind.wrap_i64];omega
 have c2:=b2 (by rw[hw];omega)
 have c3:inB x3 1 8=true:=by
  simp only[List.mem_cons,List.not_mem_nil,or_false,Prod.mk.injEq,and_true] at e3
  rw[aQ];omega
 have hB:inB (i64.wrap (1+x1)) 1 5=true:=by rw[hw,aQ];omega
 have hNN:=M4 (id:=x2) (n:=i64.wrap (1+x1)) (cap:=x3) (slots:=i64.wrap (1+x4)) (wait:=i64.wrap (1+x5)) (lim:=i64.wrap (1+x6)) hB ⟨a2,c2⟩ c3
  (by rw[w4,aQ];have:=b4 (by omega);omega) (by rw[w5,aQ];have:=b5 (by omega);omega) (by rw[w6,aQ];have:=b6 (by omega);omega)
 have hN0:=zK (id:=x2) (n:=i64.wrap (1+x1)) (cap:=x3) (slots:=i64.wrap (1+x4)) (wait:=i64.wrap (1+x5)) (lim:=i64.wrap (1+x6)) hB ⟨a2,c2⟩ c3
  (by rw[w4,aQ];have:=b4 (by omega);omega) (by rw[w5,aQ];have:=b5 (by omega);omega) (by rw[w6,aQ];have:=b6 (by omega);omega)
 have hZ0:=zJ x2 (i64.wrap (1+x1)) x3 (i64.wrap (1+x4)) (i64.wrap (1+x5)) (i64.wrap (1+x6)) hB
 have hcnt0:(iO x2 (i64.wrap (1+x1)) x3 (i64.wrap (1+x4)) (i64.wrap (1+x5)) (i64.wrap (1+x6))).num<=((0:Nat):Int)/\(iO x2 (i64.wrap (1+x1)) x3 (i64.wrap (1+x4)) (i64.wrap (1+x5)) (i64.wrap (1+x6))).clock<=((0:Nat):Int):=⟨Int.le_refl _,Int.le_refl _⟩
 have hn0:(iO x2 (i64.wrap (1+x1)) x3 (i64.wrap (1+x4)) (i64.wrap (1+x5)) (i64.wrap (1+x6))).2.1=((m:Nat):Int):=hw
 generalize iO x2 (i64.wrap (1+x1)) x3 (i64.wrap (1+x4)) (i64.wrap (1+x5)) (i64.wrap (1+x6))=y0 at hNN hN0 hZ0 hn0 hcnt0
 let Good:Out->Prop:=λo=>∃ (y:NodeT) (d:dZ),o=⟨[⟨K38,y⟩],[⟨K264,d⟩]⟩/\CurOk d/\NodD y
 have second:∀ (y:NodeT) (d:dZ),NodR m 8 y->CurOk d->∃ o,Good o/\∀ n,10 - 1<=n->It (λaA (_:Unit)=>c306_18 (aL p n) aA (((x1,()),()),(d1,())) y.1 y.clock y.2.2.1 y.2.2.2.1 y.2.2.2.2.1 y.log.2.2.1 y.seen y.sess y.rises y.2.1 y.2.2.2.2.2.1 y.log.1 y.log.2.1 y.num y.slots y.wait y.limit) ((0:Int),y.got,y.acked,d.1,d.2.1,d.2.2.1) (λ_=>some o):=by
  intro y d hy hd
  have D:=hy.d hm1.2 (Nat.le_refl _)
  have hlog:=f231 y.log hy.sz.list hy.sz.logs
  have lenm:y.got.length=m/\y.acked.length=m:=by have h1:=D.got;have h2:=D.acked;have h3:=hy.n;omega
  refine It.ex (c:=λn aA (_:Unit)=>c306_18 (aL p n) aA (((x1,()),()),(d1,())) y.1 y.clock y.2.2.1 y.2.2.2.1 y.2.2.2.2.1 y.log.2.2.1 y.seen y.sess y.rises y.2.1 y.2.2.2.2.2.1 y.log.1 y.log.2.1 y.num y.slots y.wait y.limit) (λi z=>∃ (g a:List aH) (d:dZ),z=((i:Int),g,a,d.1,d.2.1,d.2.2.1)/\CurOk d/\g.length=m/\a.length=m) Good m ?_ ?_ m 0 _ (by omega) ⟨y.got,y.acked,d,rfl,hd,lenm.1,lenm.2⟩
  ·rintro i z hi ⟨g,a,d,rfl,hd,hg,ha⟩
   have gi:i<g.length:=by omega
   have ai:i<a.length:=by omega
   cases q:(i:Int) != y.1 with
   | true=>
    obtain⟨x23,d23,h23,k23,_⟩:=f219 d 4 hd
    obtain⟨x26,d26,h26,k26,_⟩:=f219 d23 (i64.wrap (bU y.log+1)) k23
    refine⟨_,⟨g.set i (x23,()),a.set i (x26,()),d26,rfl,k26,by rw[List.length_set];exact hg,by rw[List.length_set];exact ha⟩,λn hn aA u rec=>?_⟩
    unfold c306_18;dsimp only;rw[aF (show i<9223372036854775807 by omega)];refine qP (show(i:Int)<i64.wrap (1+x1) by rw[hw];omega) ?_
    (first | refine qT q ?_ | refine qt ?_);refine qR h23 ?_;refine qz ?_;refine(aE gi).trans ?_;refine(aE gi).trans ?_;refine qC hlog ?_;refine qR h26 ?_;refine qz ?_;refine(aE ai).trans ?_;refine(aE ai).trans ?_;rfl
   | false=>
    obtain⟨x26,d26,h26,k26,_⟩:=f219 d (i64.wrap (bU y.log+1)) hd
    refine⟨_,⟨g,a.set i (x26,()),d26,rfl,k26,hg,by rw[List.length_set];exact ha⟩,λn hn aA u rec=>?_⟩
    unfold c306_18;dsimp only;rw[aF (show i<9223372036854775807 by omega)];refine qP (show(i:Int)<i64.wrap (1+x1) by rw[hw];omega) ?_
    (first | refine qF q ?_ | refine qf ?_);refine qC hlog ?_;refine qR h26 ?_;refine qz ?_;refine(aE ai).trans ?_;refine(aE ai).trans ?_;rfl
  ·rintro z ⟨g,a,d,rfl,hd,hg,ha⟩
   have hsm:m<=aN:=by unfold aN;omega
   have hz:SzN (F6 y g a):=⟨hy.sz.state,hy.sz.leaves,hy.sz.list,hy.sz.logs,by show g.length<=aN;omega,by show a.length<=aN;omega,hy.sz.seen,hy.sz.lines,hy.sz.sess,hy.sz.rises⟩
   have hn1:=hy.n
   refine⟨_,⟨F6 y g a,d,rfl,hd,⟨hz,D.n,D.id,by show g.length=y.2.1.toNat;omega,by show a.length=y.2.1.toNat;omega,D.sess,D.rises,D.cnt⟩⟩,λn hn=>It.stop λaA u rec=>?_⟩
   unfold c306_18;refine qN (show ¬ (m:Int)<i64.wrap (1+x1) by rw[hw];omega) ?_;rfl
 obtain⟨t,rfl⟩:∃ t:Nat,x8=t:=⟨x8.toNat,by omega⟩
 have ht:=b8 (by omega)
 have first:=It.ex (lvl:=10 - 1) (c:=λn aA (_:Unit)=>c306_5 (aL p n) aA (((x1,()),()),(d1,())) ((((t:Int),()),()),(d8,()))) (λi z=>∃ (y:NodeT) (d:dZ),z=((i:Int),y.1,y.2.1,y.2.2.2.2.2.1,y.log.1,y.log.2.1,y.num,y.slots,y.wait,y.limit,y.clock,y.2.2.1,y.2.2.2.1,y.2.2.2.2.1,y.log.2.2.1,y.got,y.acked,y.seen,y.sess,y.rises,d.1,d.2.1,d.2.2.1)/\CurOk d/\NodR m i y) Good t (by
  rintro i z hi ⟨y,d,rfl,hd,hy⟩
  obtain⟨x9,d9,h9,k9,_⟩:=f219 d 6 hd
  cases q0:x9==0 with
  | true=>
   obtain⟨s,d10,h10,k10,hs,ho⟩:=f349 d9 k9
   have h11:=f254 y s hy.sz (hs.sz (by omega)) (yP hy.ok) ho
   refine⟨_,⟨hU y s,d10,rfl,k10,⟨hy.ok.take ho,j0 hy.sz s,hy.n,by have:=hy.cnt;exact⟨by show y.num<=_;omega,by show y.clock<=_;omega⟩⟩⟩,λn hn aA u rec=>?_⟩
   unfold c306_5;dsimp only;rw[aF (show i<9223372036854775807 by omega)];refine qP (show(i:Int)<(t:Int) by omega) ?_;refine qR h9 ?_;refine qT q0 ?_;refine qR h10 ?_;refine qC h11 ?_;rfl
  | false=>
  cases q1:x9==1 with
  | true=>
   have h11:=f297 y hy.sz
   refine⟨_,⟨oT y,d9,rfl,k9,⟨L1 hy.ok,L0 hy.sz,by rw[PL];exact hy.n,by have h1:=hy.cnt;have h2:=JN hy.ok;omega⟩⟩,λn hn aA u rec=>?_⟩
   unfold c306_5;dsimp only;rw[aF (show i<9223372036854775807 by omega)];refine qP (show(i:Int)<(t:Int) by omega) ?_;refine qR h9 ?_;refine qF q0 ?_;refine qT q1 ?_;refine qC h11 ?_;rfl
  | false=>
  cases q2:x9==2 with
  | true=>
   obtain⟨x13,d13,h13,k13,_⟩:=f219 d9 (i64.wrap (1+x1)) k9
   obtain⟨s,d14,h14,k14,hs,ho⟩:=f349 d13 k13
   have h15:=f234 s (hs.sz (by omega))
   have h16:=f257 y.seen x13 (cB s) hy.sz.seen hy.sz.lines (Nat.le_trans (eI s) (by decide))
   refine⟨_,⟨GJ y x13 (cB s),d14,rfl,k14,⟨JW hy.ok _ _,JV hy.sz _ _,hy.n,by have:=hy.cnt;exact⟨by show y.num<=_;omega,by show y.clock<=_;omega⟩⟩⟩,λn hn aA u rec=>?_⟩
   unfold c306_5;dsimp only;rw[aF (show i<9223372036854775807 by omega)];refine qP (show(i:Int)<(t:Int) by omega) ?_;refine qR h9 ?_;refine qF q0 ?_;refine qF q1 ?_;refine qT q2 ?_;refine qR h13 ?_;refine qR h14 ?_;refine qC h15 ?_;refine qC h16 ?_;rfl
  | false=>
  cases q3:x9==3 with
  | true=>
   obtain⟨x17,d17,h17,k17,_⟩:=f219 d9 (i64.wrap (1+x1)) k9
   have h18:=f18 y x17 hy.sz
   refine⟨_,⟨(pI y x17).1,d17,rfl,k17,⟨PO hy.ok _,(PN hy.sz _).1,by rw[RQ];exact hy.n,by have h1:=hy.cnt;have h2:=L5 y x17;omega⟩⟩,λn hn aA u rec=>?_⟩
   unfold c306_5;dsimp only;rw[aF (show i<9223372036854775807 by omega)];refine qP (show(i:Int)<(t:Int) by omega) ?_;refine qR h9 ?_;refine qF q0 ?_;refine qF q1 ?_;refine qF q2 ?_;refine qT q3 ?_;refine qR h17 ?_;refine qE h18 ?_;rfl
  | false=>
   obtain⟨x19,d19,h19,k19,_⟩:=f219 d9 5 k9
   obtain⟨x20,d20,h20,k20,_⟩:=f219 d19 (i64.wrap (1+x1)) k19
   obtain⟨x21,d21,h21,k21,_⟩:=f350 d20 [((⟨#[]⟩:ByteArray),()),((⟨#[120]⟩:ByteArray),()),((⟨#[121,122]⟩:ByteArray),())] k20 (by show 0<3;omega)
   have h22:=f298 y x19 x20 x21 hy.sz
   refine⟨_,⟨(tW y x19 x20 x21).1,d21,rfl,k21,⟨PZ hy.ok _ _ _,PY hy.sz _ _ _,by rw[RY];exact hy.n,by have h1:=hy.cnt;have h2:=MI y x19 x20 x21;omega⟩⟩,λn hn aA u rec=>?_⟩
   unfold c306_5;dsimp only;rw[aF (show i<9223372036854775807 by omega)];refine qP (show(i:Int)<(t:Int) by omega) ?_;refine qR h9 ?_;refine qF q0 ?_;refine qF q1 ?_;refine qF q2 ?_;refine qF q3 ?_;refine qR h19 ?_;refine qR h20 ?_;refine qR h21 ?_;refine qE h22 ?_;rfl) (by
  rintro z ⟨y,d,rfl,hd,hy⟩
  obtain⟨o,ho,hL⟩:=second y d ⟨hy.ok,hy.sz,hy.n,by have:=hy.cnt;omega⟩ hd
  refine⟨o,ho,λn hn=>It.stopE (T:=λaA _=>iter (c306_18 (aL p n) aA (((x1,()),()),(d1,())) y.1 y.clock y.2.2.1 y.2.2.2.1 y.2.2.2.2.1 y.log.2.2.1 y.seen y.sess y.rises y.2.1 y.2.2.2.2.2.1 y.log.1 y.log.2.1 y.num y.slots y.wait y.limit) aA ((0:Int),y.got,y.acked,d.1,d.2.1,d.2.2.1)) (λaA u rec=>?_) (hL n hn).all_i⟩
  unfold c306_5;refine qe ?_;rfl)
 obtain⟨o,⟨y,d,rfl,hd,hy⟩,hL⟩:=first t 0 ((0:Int),y0.1,y0.2.1,y0.2.2.2.2.2.1,y0.log.1,y0.log.2.1,y0.num,y0.slots,y0.wait,y0.limit,y0.clock,y0.2.2.1,y0.2.2.2.1,y0.2.2.2.2.1,y0.log.2.2.1,y0.got,y0.acked,y0.seen,y0.sess,y0.rises,d8.1,d8.2.1,d8.2.2.1) (by omega) ⟨y0,d8,rfl,k8,⟨hN0,hZ0,hn0,hcnt0⟩⟩
 rw[hNN.2] at h7
 exact⟨y,d,go306 λn hn=>Ev.eq (λaA=>by unfold T306;refine qR h1 ?_;refine qR h2 ?_;refine qR h3 ?_;refine qR h4 ?_;refine qR h5 ?_;refine qR h6 ?_;refine qD h7 ?_;refine qR h8 ?_;rfl) ((hL n (by omega)).ev (i:=()) rfl),hd,hy⟩
end Go.Abs.Xz
set_option maxHeartbeats 2000000
namespace Go.Abs.Xz
open Go Go.Abs
structure NodX (y:NodeT):Prop where
 sz:SzN y
 n:1<=y.2.1/\y.2.1<=4
 sess:y.sess.length<=5
 cnt:y.num<=8/\y.clock<=8
theorem f218(c:dZ)(h:CurOk c):∃ (y:NodeT) (d:dZ),Ran p 11 218 [.ref ⟨K264,c⟩] ⟨[⟨K38,y⟩],[⟨K264,d⟩]⟩/\CurOk d/\NodX y:=by
 obtain⟨y,d1,h1,k1,D⟩:=f306 c h
 obtain⟨x2,d2,h2,k2,_⟩:=f219 d1 18 k1
 have z:=D.sz
 have s5:y.sess.length<=5:=Nat.le_succ_of_le D.sess
 cases q0:x2==0 with
 | true=>
  obtain⟨x3,d3,h3,k3,_⟩:=f249 d2 [((-1:Int),()),(y.2.1,())] k2 (by show 0<2;omega)
  exact⟨(x3,y.2),d3,go218 λn hn=>Ev.now λaA=>by unfold T218;refine qR h1 ?_;refine qR h2 ?_;refine qT q0 ?_;refine qR h3 ?_;rfl,k3,⟨⟨z.state,z.leaves,z.list,z.logs,z.got,z.acked,z.seen,z.lines,z.sess,z.rises⟩,D.n,s5,D.cnt⟩⟩
 | false=>
 cases q1:x2==1 with
 | true=>
  exact⟨(y.1,y.2.1,y.2.2.1,y.2.2.2.1,y.2.2.2.2.1,i64.wrap (y.2.2.2.2.2.1+1),y.2.2.2.2.2.2),d2,go218 λn hn=>Ev.now λaA=>by unfold T218;refine qR h1 ?_;refine qR h2 ?_;refine qF q0 ?_;refine qT q1 ?_;rfl,k2,⟨⟨z.state,z.leaves,z.list,z.logs,z.got,z.acked,z.seen,z.lines,z.sess,z.rises⟩,D.n,s5,D.cnt⟩⟩
 | false=>
 cases q2:x2==2 with
 | true=>
  have h0:=D.id.1
  have hk:y.1.toNat<y.got.length:=by have h3:=D.id;have h4:=D.got;omega
  refine⟨F6 y (y.got.set y.1.toNat (i64.wrap ((gt y.got y.1.toNat).1+1),())) y.acked,d2,go218 λn hn=>Ev.now λaA=>by unfold T218;refine qR h1 ?_;refine qR h2 ?_;refine qF q0 ?_;refine qF q1 ?_;refine qT q2 ?_;refine qP h0 ?_;refine(aU hk).trans ?_;refine(aU hk).trans ?_;refine qP h0 ?_;refine(aU hk).trans ?_;refine(aU hk).trans ?_;rfl,k2,⟨⟨z.state,z.leaves,z.list,z.logs,?_,z.acked,z.seen,z.lines,z.sess,z.rises⟩,D.n,s5,D.cnt⟩⟩
  show(List.set _ _ _).length<=aN;rw[List.length_set];exact z.got
 | false=>
 cases q3:x2==3 with
 | true=>
  obtain⟨t,d3,h3,k3,ht⟩:=f307 d2 k2
  exact⟨(y.1,y.2.1,y.2.2.1,y.2.2.2.1,y.2.2.2.2.1,y.2.2.2.2.2.1,y.2.2.2.2.2.2.1,y.2.2.2.2.2.2.2.1,y.2.2.2.2.2.2.2.2.1,y.got,y.acked,t,y.num,y.slots,y.sess,y.wait,y.limit,y.clock,y.rises,()),d3,go218 λn hn=>Ev.now λaA=>by unfold T218;refine qR h1 ?_;refine qR h2 ?_;refine qF q0 ?_;refine qF q1 ?_;refine qF q2 ?_;refine qT q3 ?_;refine qR h3 ?_;rfl,k3,⟨⟨z.state,z.leaves,z.list,z.logs,z.got,z.acked,ht.sz.1,ht.sz.2,z.sess,z.rises⟩,D.n,s5,D.cnt⟩⟩
 | false=>
 cases q4:x2==4 with
 | true=>
  obtain⟨x3,d3,h3,k3,_⟩:=f249 d2 [((0:Int),()),((5:Int),())] k2 (by show 0<2;omega)
  exact⟨(y.1,y.2.1,y.2.2.1,y.2.2.2.1,y.2.2.2.2.1,y.2.2.2.2.2.1,y.2.2.2.2.2.2.1,y.2.2.2.2.2.2.2.1,y.2.2.2.2.2.2.2.2.1,y.got,y.acked,y.seen,y.num,x3,y.sess,y.wait,y.limit,y.clock,y.rises,()),d3,go218 λn hn=>Ev.now λaA=>by unfold T218;refine qR h1 ?_;refine qR h2 ?_;refine qF q0 ?_;refine qF q1 ?_;refine qF q2 ?_;refine qF q3 ?_;refine qT q4 ?_;refine qR h3 ?_;rfl,k3,⟨⟨z.state,z.leaves,z.list,z.logs,z.got,z.acked,z.seen,z.lines,z.sess,z.rises⟩,D.n,s5,D.cnt⟩⟩
 | false=>
 cases q5:x2==5 with
 | true=>
  obtain⟨x8,d8,h8,k8,_⟩:=f219 d2 6 k2
  obtain⟨b9,d9,h9,k9⟩:=f128 d8 2 k8
  obtain⟨x10,d10,h10,k10,_⟩:=f219 d9 9 k9
  have hb:y.sess.length+1<=bound:=by have:=D.sess;unfold bound;omega
  have hl:(y.sess++[(i64.wrap (x8 - 1),(1:Int),b9,x10,())]).length<=5:=by rw[List.length_append,List.length_singleton];have:=D.sess;omega
  exact⟨withS y (y.sess++[(i64.wrap (x8 - 1),(1:Int),b9,x10,())]),d10,go218 λn hn=>Ev.now λaA=>by unfold T218;refine qR h1 ?_;refine qR h2 ?_;refine qF q0 ?_;refine qF q1 ?_;refine qF q2 ?_;refine qF q3 ?_;refine qF q4 ?_;refine qT q5 ?_;refine qR h8 ?_;refine qR h9 ?_;refine qR h10 ?_;refine qP hb ?_;rfl,k10,⟨pD z (Nat.le_trans hl (by decide)),D.n,hl,D.cnt⟩⟩
 | false=>
 cases q6:x2==6 with
 | true=>
  obtain⟨s,d3,h3,k3,hs⟩:=f308 d2 k2
  exact⟨(y.1,y.2.1,s.1,s.2.1,y.2.2.2.2),d3,go218 λn hn=>Ev.now λaA=>by unfold T218;refine qR h1 ?_;refine qR h2 ?_;refine qF q0 ?_;refine qF q1 ?_;refine qF q2 ?_;refine qF q3 ?_;refine qF q4 ?_;refine qF q5 ?_;refine qT q6 ?_;refine qR h3 ?_;rfl,k3,⟨⟨hs.sz (by omega),z.leaves,z.list,z.logs,z.got,z.acked,z.seen,z.lines,z.sess,z.rises⟩,D.n,s5,D.cnt⟩⟩
 | false=>
 cases q7:x2==7 with
 | true=>
  have hr:0<y.rises.length:=by rw[D.rises];omega
  refine⟨(y.1,y.2.1,y.2.2.1,y.2.2.2.1,y.2.2.2.2.1,y.2.2.2.2.2.1,y.2.2.2.2.2.2.1,y.2.2.2.2.2.2.2.1,y.2.2.2.2.2.2.2.2.1,y.got,y.acked,y.seen,y.num,y.slots,y.sess,y.wait,y.limit,y.clock,y.rises.set 0 ((gt y.rises 0).1,(gt y.rises 0).2.1,i64.wrap (y.clock+1),(gt y.rises 0).2.2.2),()),d2,go218 λn hn=>Ev.now λaA=>by unfold T218;refine qR h1 ?_;refine qR h2 ?_;refine qF q0 ?_;refine qF q1 ?_;refine qF q2 ?_;refine qF q3 ?_;refine qF q4 ?_;refine qF q5 ?_;refine qF q6 ?_;refine qT q7 ?_;refine qP (show(0:Int)<=0 by omega) ?_;refine(aU hr).trans ?_;refine(aU hr).trans ?_;rfl,k2,⟨⟨z.state,z.leaves,z.list,z.logs,z.got,z.acked,z.seen,z.lines,z.sess,?_⟩,D.n,s5,D.cnt⟩⟩
  show(List.set _ _ _).length<=aN;rw[List.length_set];exact z.rises
 | false=>
 cases q8:x2==8 with
 | true=>
  obtain⟨l,d3,h3,k3,hl⟩:=f309 d2 k2
  have hz:=hl.sz (by omega)
  exact⟨(y.1,y.2.1,y.2.2.1,y.2.2.2.1,y.2.2.2.2.1,y.2.2.2.2.2.1,l.1,l.2.1,l.2.2.1,y.got,y.acked,y.seen,y.num,y.slots,y.sess,y.wait,y.limit,y.clock,y.rises,()),d3,go218 λn hn=>Ev.now λaA=>by unfold T218;refine qR h1 ?_;refine qR h2 ?_;refine qF q0 ?_;refine qF q1 ?_;refine qF q2 ?_;refine qF q3 ?_;refine qF q4 ?_;refine qF q5 ?_;refine qF q6 ?_;refine qF q7 ?_;refine qT q8 ?_;refine qR h3 ?_;rfl,k3,⟨⟨z.state,z.leaves,hz.1,hz.2,z.got,z.acked,z.seen,z.lines,z.sess,z.rises⟩,D.n,s5,D.cnt⟩⟩
 | false=>exact⟨y,d2,go218 λn hn=>Ev.now λaA=>by unfold T218;refine qR h1 ?_;refine qR h2 ?_;refine qF q0 ?_;refine qF q1 ?_;refine qF q2 ?_;refine qF q3 ?_;refine qF q4 ?_;refine qF q5 ?_;refine qF q6 ?_;refine qF q7 ?_;refine qF q8 ?_;rfl,k2,⟨z,D.n,s5,D.cnt⟩⟩
end Go.Abs.Xz
set_option maxHeartbeats 2000000
namespace Go.Abs.Xz
open Go Go.Abs
structure MsgD (m:MsgT):Prop where
 leaves:m.tree.1.length<=4
 vec:m.vec.length<=5
 list:m.leaves.length<=5
 part:SzS m.part
 marks:m.marks.length<=6
theorem MsgD.sz{m:MsgT}(h:MsgD m):SzM m:=
 ⟨Nat.le_trans h.leaves (by decide),Nat.le_trans h.vec (by decide),Nat.le_trans h.list (by decide),h.part,Nat.le_trans h.marks (by decide)⟩
theorem f324(c:dZ)(h:CurOk c):∃ (ms:List aK) (d:dZ),Ran p 6 324 [.ref ⟨K264,c⟩] ⟨[⟨K41,(ms,())⟩],[⟨K264,d⟩]⟩/\CurOk d/\ms.length<=6:=by
 obtain⟨s,d1,h1,k1,hs,_⟩:=f349 c h
 have h2:=f234 s (hs.sz (by omega))
 have hl:=eI s
 obtain⟨b,d3,h3,k3⟩:=f128 d1 10 k1
 cases b with
 | true=>
  obtain⟨x4,d4,h4,k4,_⟩:=f219 d3 7 k3
  obtain⟨x5,d5,h5,k5,_⟩:=f249 d4 [((0:Int),()),((1:Int),()),((1001:Int),())] k4 (by show 0<3;omega)
  have hb:(cB s).length+1<=bound:=by unfold bound;omega
  refine⟨cB s++[(i64.wrap (x4 - 1),x5,())],d5,go324 λn hn=>Ev.now λaA=>by unfold T324;refine qR h1 ?_;refine qC h2 ?_;refine qR h3 ?_;refine qt ?_;refine qR h4 ?_;refine qR h5 ?_;refine qP hb ?_;rfl,k5,?_⟩
  rw[List.length_append,List.length_singleton];omega
 | false=>exact⟨cB s,d3,go324 λn hn=>Ev.now λaA=>by unfold T324;refine qR h1 ?_;refine qC h2 ?_;refine qR h3 ?_;refine qf ?_;rfl,k3,by omega⟩
theorem f323(c:dZ)(h:CurOk c):∃ (m:MsgT) (d:dZ),Ran p 7 323 [.ref ⟨K264,c⟩] ⟨[⟨K43,m⟩],[⟨K264,d⟩]⟩/\CurOk d/\MsgD m:=by
 obtain⟨s,d1,h1,k1,hs,ho⟩:=f349 c h
 obtain⟨x2,d2,h2,k2,_⟩:=f219 d1 5 k1
 obtain⟨x3,d3,h3,k3,_⟩:=f219 d2 6 k2
 obtain⟨x4,d4,h4,k4,_⟩:=f219 d3 4 k3
 obtain⟨x5,d5,h5,k5,_⟩:=f219 d4 5 k4
 obtain⟨x6,d6,h6,k6,_⟩:=f219 d5 300 k5
 obtain⟨b7,d7,h7,k7⟩:=f128 d6 2 k6
 have h8:=f228 s (hs.sz (by omega))
 obtain⟨x9,d9,h9,k9,a9,b9,_⟩:=f219 d7 4 k7
 have c9:=b9 (by omega)
 have hsm:=yW ho
 let Good:Out->Prop:=λo=>∃ (m:MsgT) (d:dZ),o=⟨[⟨K43,m⟩],[⟨K264,d⟩]⟩/\CurOk d/\MsgD m
 have second:∀ (r:Int) (lv v:List aH) (d:dZ),CurOk d->lv.length<=4->v.length<=5->∃ o,Good o/\∀ n,7 - 1<=n->It (λaA (_:Unit)=>c323_12 (aL p n) aA ((s,()),(d1,())) (((x2,()),()),(d2,())) (((x3,()),()),(d3,())) (((x4,()),()),(d4,())) (((x5,()),()),(d5,())) (((x6,()),()),(d6,())) v) (r,lv,(0:Int),([]:List aH),d.1,d.2.1,d.2.2.1) (λ_=>some o):=by
  intro r lv v d hd hlv hv
  refine It.ex (c:=λn aA (_:Unit)=>c323_12 (aL p n) aA ((s,()),(d1,())) (((x2,()),()),(d2,())) (((x3,()),()),(d3,())) (((x4,()),()),(d4,())) (((x5,()),()),(d5,())) (((x6,()),()),(d6,())) v) (λi z=>∃ (a:List aH) (d:dZ),z=(r,lv,(i:Int),a,d.1,d.2.1,d.2.2.1)/\CurOk d/\a.length<=i) Good 4 ?_ ?_ 4 0 _ (by omega) ⟨[],d,rfl,hd,Nat.le_refl _⟩
  ·rintro i z hi ⟨a,d,rfl,hd,ha⟩
   obtain⟨b,e,hb,ke⟩:=f128 d 2 hd
   have hbd:a.length+1<=bound:=by unfold bound;omega
   cases b with
   | true=>
    refine⟨_,⟨a++[((i:Int),())],e,rfl,ke,by rw[List.length_append,List.length_singleton];omega⟩,λn hn aA u rec=>?_⟩
    unfold c323_12;dsimp only;rw[aF (show i<9223372036854775807 by omega)];refine qP (show(i:Int)<4 by omega) ?_;refine qR hb ?_;refine qt ?_;refine qP hbd ?_;rfl
   | false=>
    refine⟨_,⟨a,e,rfl,ke,by omega⟩,λn hn aA u rec=>?_⟩
    unfold c323_12;dsimp only;rw[aF (show i<9223372036854775807 by omega)];refine qP (show(i:Int)<4 by omega) ?_;refine qR hb ?_;refine qf ?_;rfl
  ·rintro z ⟨a,d,rfl,hd,ha⟩
   have g1:=f261 s a (Nat.le_trans ha (by decide)) hsm.1 hsm.2
   have g2:=f234 s (hs.sz (by omega))
   refine⟨_,⟨(x3,x2,(i64.wrap (i64.wrap (x2+1)+x4)).tmod 5,x5,x6,lv,r,v,a,(gK s a).1,(gK s a).2.1,cB s,()),d,rfl,hd,⟨hlv,hv,by show a.length<=5;omega,yX (hs.sz (by omega)) a,by show(cB s).length<=6;have:=eI s;omega⟩⟩,λn hn=>It.stop λaA u rec=>?_⟩
   unfold c323_12;dsimp only;refine qN (show ¬ (4:Int)<4 by omega) ?_;refine qC g1 ?_;refine qC g2 ?_;rfl
 obtain⟨t,rfl⟩:∃ t:Nat,x9=t:=⟨x9.toNat,by omega⟩
 have first:∀ (r:Int) (lv:List aH),lv.length<=4->∃ o,Good o/\∀ n,7 - 1<=n->It (λaA (_:Unit)=>c323_8 (aL p n) aA ((s,()),(d1,())) (((x2,()),()),(d2,())) (((x3,()),()),(d3,())) (((x4,()),()),(d4,())) (((x5,()),()),(d5,())) (((x6,()),()),(d6,()))) ((t:Int),r,lv,(0:Int),([]:List aH),d9.1,d9.2.1,d9.2.2.1) (λ_=>some o):=by
  intro r lv hlv
  refine It.ex (c:=λn aA (_:Unit)=>c323_8 (aL p n) aA ((s,()),(d1,())) (((x2,()),()),(d2,())) (((x3,()),()),(d3,())) (((x4,()),()),(d4,())) (((x5,()),()),(d5,())) (((x6,()),()),(d6,()))) (λi z=>∃ (v:List aH) (d:dZ),z=((t:Int),r,lv,(i:Int),v,d.1,d.2.1,d.2.2.1)/\CurOk d/\v.length<=i) Good t ?_ ?_ t 0 _ (by omega) ⟨[],d9,rfl,k9,Nat.le_refl _⟩
  ·rintro i z hi ⟨v,d,rfl,hd,hv⟩
   obtain⟨y,e,hy,ke,_⟩:=f219 d 200 hd
   have hbd:v.length+1<=bound:=by unfold bound;omega
   refine⟨_,⟨v++[(y,())],e,rfl,ke,by rw[List.length_append,List.length_singleton];omega⟩,λn hn aA u rec=>?_⟩
   unfold c323_8;dsimp only;rw[aF (show i<9223372036854775807 by omega)];refine qP (show(i:Int)<(t:Int) by omega) ?_;refine qR hy ?_;refine qP hbd ?_;rfl
  ·rintro z ⟨v,d,rfl,hd,hv⟩
   obtain⟨o,hg,hL⟩:=second r lv v d hd hlv (by omega)
   refine⟨o,hg,λn hn=>It.stopE (T:=λaA _=>iter (c323_12 (aL p n) aA ((s,()),(d1,())) (((x2,()),()),(d2,())) (((x3,()),()),(d3,())) (((x4,()),()),(d4,())) (((x5,()),()),(d5,())) (((x6,()),()),(d6,())) v) aA (r,lv,(0:Int),([]:List aH),d.1,d.2.1,d.2.2.1)) (λaA u rec=>?_) (hL n hn).all_i⟩
   unfold c323_8;dsimp only;refine qe ?_;rfl
 have n5:¬ ((5:Int)=0):=by omega
 cases b7 with
 | true=>
  obtain⟨o,⟨m,d,rfl,hd,hm⟩,hL⟩:=first (bV s).2.1 (bV s).1 (sE s)
  exact⟨m,d,go323 λn hn=>Ev.eq (λaA=>by unfold T323;refine qR h1 ?_;refine qR h2 ?_;refine qR h3 ?_;refine qR h4 ?_;refine qN n5 ?_;refine qR h5 ?_;refine qR h6 ?_;refine qR h7 ?_;refine qt ?_;refine qC h8 ?_;refine qR h9 ?_;rfl) ((hL n (by omega)).ev (i:=()) rfl),hd,hm⟩
 | false=>
  obtain⟨o,⟨m,d,rfl,hd,hm⟩,hL⟩:=first 0 [] (Nat.zero_le _)
  exact⟨m,d,go323 λn hn=>Ev.eq (λaA=>by unfold T323;refine qR h1 ?_;refine qR h2 ?_;refine qR h3 ?_;refine qR h4 ?_;refine qN n5 ?_;refine qR h5 ?_;refine qR h6 ?_;refine qR h7 ?_;refine qf ?_;refine qR h9 ?_;rfl) ((hL n (by omega)).ev (i:=()) rfl),hd,hm⟩
end Go.Abs.Xz
set_option maxHeartbeats 2000000
namespace Go.Abs.Xz
open Go Go.Abs
theorem f247(c:dZ)(h:CurOk c):∃ (m:MsgT) (d:dZ),Ran p 8 247 [.ref ⟨K264,c⟩] ⟨[⟨K43,m⟩],[⟨K264,d⟩]⟩/\CurOk d/\SzM m:=by
 obtain⟨m,d1,h1,k1,D⟩:=f323 c h
 obtain⟨x2,d2,h2,k2,_⟩:=f219 d1 14 k1
 have z:=D.sz
 cases q0:x2==0 with
 | true=>
  obtain⟨x3,d3,h3,k3,_⟩:=f249 d2 [((-1:Int),()),((6:Int),())] k2 (by show 0<2;omega)
  exact⟨(x3,m.2),d3,go247 λn hn=>Ev.now λaA=>by unfold T247;refine qR h1 ?_;refine qR h2 ?_;refine qT q0 ?_;refine qR h3 ?_;rfl,k3,⟨z.leaves,z.vec,z.list,z.part,z.marks⟩⟩
 | false=>
 cases q1:x2==1 with
 | true=>exact⟨(m.1,m.2.1,m.2.1,m.2.2.2),d2,go247 λn hn=>Ev.now λaA=>by unfold T247;refine qR h1 ?_;refine qR h2 ?_;refine qF q0 ?_;refine qT q1 ?_;rfl,k2,⟨z.leaves,z.vec,z.list,z.part,z.marks⟩⟩
 | false=>
 cases q2:x2==2 with
 | true=>
  obtain⟨x3,d3,h3,k3,_⟩:=f249 d2 [((-1:Int),()),((1024:Int),()),((5:Int),())] k2 (by show 0<3;omega)
  exact⟨(m.1,m.2.1,m.2.2.1,m.2.2.2.1,m.hi,m.tree.1,x3,m.2.2.2.2.2.2.2),d3,go247 λn hn=>Ev.now λaA=>by unfold T247;refine qR h1 ?_;refine qR h2 ?_;refine qF q0 ?_;refine qF q1 ?_;refine qT q2 ?_;refine qR h3 ?_;rfl,k3,⟨z.leaves,z.vec,z.list,z.part,z.marks⟩⟩
 | false=>
 cases q3:x2==3 with
 | true=>
  obtain⟨x3,d3,h3,k3,_⟩:=f249 d2 [((-1:Int),()),((100001:Int),())] k2 (by show 0<2;omega)
  have hb:m.vec.length+1<=bound:=by have:=D.vec;unfold bound;omega
  exact⟨(m.1,m.2.1,m.2.2.1,m.2.2.2.1,m.hi,m.tree.1,m.tree.2.1,m.vec++[(x3,())],m.2.2.2.2.2.2.2.2),d3,go247 λn hn=>Ev.now λaA=>by unfold T247;refine qR h1 ?_;refine qR h2 ?_;refine qF q0 ?_;refine qF q1 ?_;refine qF q2 ?_;refine qT q3 ?_;refine qR h3 ?_;refine qP hb ?_;rfl,k3,⟨z.leaves,by show(m.vec++[_]).length<=aN;rw[List.length_append,List.length_singleton];have:=D.vec;unfold aN;omega,z.list,z.part,z.marks⟩⟩
 | false=>
 cases q4:x2==4 with
 | true=>
  have hb:m.leaves.length+1<=bound:=by have:=D.list;unfold bound;omega
  exact⟨(m.1,m.2.1,m.2.2.1,m.2.2.2.1,m.hi,m.tree.1,m.tree.2.1,m.vec,m.leaves++[((0:Int),())],m.2.2.2.2.2.2.2.2.2),d2,go247 λn hn=>Ev.now λaA=>by unfold T247;refine qR h1 ?_;refine qR h2 ?_;refine qF q0 ?_;refine qF q1 ?_;refine qF q2 ?_;refine qF q3 ?_;refine qT q4 ?_;refine qP hb ?_;rfl,k2,⟨z.leaves,z.vec,by show(m.leaves++[_]).length<=aN;rw[List.length_append,List.length_singleton];have:=D.list;unfold aN;omega,z.part,z.marks⟩⟩
 | false=>
 cases q5:x2==5 with
 | true=>
  obtain⟨s,d3,h3,k3,hs⟩:=f308 d2 k2
  exact⟨(m.1,m.2.1,m.2.2.1,m.2.2.2.1,m.hi,m.tree.1,m.tree.2.1,m.vec,m.leaves,s.1,s.2.1,m.marks,()),d3,go247 λn hn=>Ev.now λaA=>by unfold T247;refine qR h1 ?_;refine qR h2 ?_;refine qF q0 ?_;refine qF q1 ?_;refine qF q2 ?_;refine qF q3 ?_;refine qF q4 ?_;refine qT q5 ?_;refine qR h3 ?_;rfl,k3,⟨z.leaves,z.vec,z.list,hs.sz (by omega),z.marks⟩⟩
 | false=>
 cases q6:x2==6 with
 | true=>
  obtain⟨s,d3,h3,k3,hs⟩:=f324 d2 k2
  exact⟨(m.1,m.2.1,m.2.2.1,m.2.2.2.1,m.hi,m.tree.1,m.tree.2.1,m.vec,m.leaves,m.part.1,m.part.2.1,s,()),d3,go247 λn hn=>Ev.now λaA=>by unfold T247;refine qR h1 ?_;refine qR h2 ?_;refine qF q0 ?_;refine qF q1 ?_;refine qF q2 ?_;refine qF q3 ?_;refine qF q4 ?_;refine qF q5 ?_;refine qT q6 ?_;refine qR h3 ?_;rfl,k3,⟨z.leaves,z.vec,z.list,z.part,Nat.le_trans hs (by decide)⟩⟩
 | false=>exact⟨m,d2,go247 λn hn=>Ev.now λaA=>by unfold T247;refine qR h1 ?_;refine qR h2 ?_;refine qF q0 ?_;refine qF q1 ?_;refine qF q2 ?_;refine qF q3 ?_;refine qF q4 ?_;refine qF q5 ?_;refine qF q6 ?_;rfl,k2,z⟩
def PC:Out->Prop:=λo=>∃ (y:NodeT) (m:MsgT),o=⟨[⟨K38,y⟩,⟨K43,m⟩],[]⟩/\NodX y/\SzM m
theorem KF{y:NodeT}{m:MsgT}(hy:NodX y)(hm:SzM m)(d1 d2:dZ)(a:Int)(x5:Int)(d5 d:dZ)(hd:CurOk d):∃ o,PC o/\∀ n,12 - 1<=n->It (λaA (_:Unit)=>c112_9 (aL p n) aA ((y,()),(d1,())) ((m,()),(d2,())) (((a,()),()),()) (((x5,()),()),(d5,()))) ((0:Int),([]:List aH),d.1,d.2.1,d.2.2.1) (λ_=>some o):=by
 obtain⟨N,hN⟩:∃ N:Nat,y.2.1=((N:Nat):Int):=⟨y.2.1.toNat,by have:=hy.n;omega⟩
 have hn4:=hy.n
 refine It.ex (c:=λn aA (_:Unit)=>c112_9 (aL p n) aA ((y,()),(d1,())) ((m,()),(d2,())) (((a,()),()),()) (((x5,()),()),(d5,()))) (λi z=>∃ (v:List aH) (d:dZ),z=((i:Int),v,d.1,d.2.1,d.2.2.1)/\CurOk d/\v.length<=i) PC N ?_ ?_ N 0 _ (by omega) ⟨[],d,rfl,hd,Nat.le_refl _⟩
 ·rintro i z hi ⟨v,d,rfl,hd,hv⟩
  obtain⟨q,e,hq,ke,_⟩:=f219 d 5 hd
  have hbd:v.length+1<=bound:=by unfold bound;omega
  refine⟨_,⟨v++[(q,())],e,rfl,ke,by rw[List.length_append,List.length_singleton];omega⟩,λn hn aA u rec=>?_⟩
  unfold c112_9;dsimp only;rw[aF (show i<9223372036854775807 by omega)];refine qP (show(i:Int)<y.2.1 by omega) ?_;refine qR hq ?_;refine qP hbd ?_;rfl
 ·rintro z ⟨v,d,rfl,hd,hv⟩
  have hv5:v.length<=aN:=by unfold aN;omega
  have fin:∀ (k fr:Int) (num:Int),SzM (k,fr,y.1,num,m.hi,m.tree.1,m.tree.2.1,v,m.leaves,m.part.1,m.part.2.1,m.marks,()):=λk fr num=>⟨hm.leaves,hv5,hm.list,hm.part,hm.marks⟩
  by_cases hs:(y.sess.length:Int)>0
  ·obtain⟨b8,d8,h8,k8⟩:=f128 d 2 hd
   cases b8 with
   | true=>
    obtain⟨x9,d9,h9,k9,a9,b9,_⟩:=f219 d8 (y.sess.length:Int) k8
    obtain⟨t,rfl⟩:∃ t:Nat,x9=t:=⟨x9.toNat,by omega⟩
    have ht:t<y.sess.length:=by have:=b9 hs;omega
    obtain⟨x11,d11,h11,k11,_⟩:=f249 d9 [((3:Int),()),((5:Int),())] k9 (by show 0<2;omega)
    cases hin:(gt y.sess t).2.2.1 with
    | true=>
     refine⟨_,⟨y,_,rfl,hy,fin 4 (gt y.sess t).1 (gt y.sess t).2.1⟩,λn hn=>It.stop λaA u rec=>?_⟩
     unfold c112_9;dsimp only;refine qN (show ¬ (N:Int)<y.2.1 by omega) ?_;refine qP hs ?_;refine qR h8 ?_;refine qt ?_;refine qR h9 ?_;refine qz ?_;refine(aE ht).trans ?_;refine qR h11 ?_;refine qT hin ?_;rfl
    | false=>
     refine⟨_,⟨y,_,rfl,hy,fin x11 (gt y.sess t).1 (gt y.sess t).2.1⟩,λn hn=>It.stop λaA u rec=>?_⟩
     unfold c112_9;dsimp only;refine qN (show ¬ (N:Int)<y.2.1 by omega) ?_;refine qP hs ?_;refine qR h8 ?_;refine qt ?_;refine qR h9 ?_;refine qz ?_;refine(aE ht).trans ?_;refine qR h11 ?_;refine qF hin ?_;rfl
   | false=>
    refine⟨_,⟨y,_,rfl,hy,fin m.1 ((i64.wrap (i64.wrap (a+1)+x5)).tmod y.2.1) m.2.2.2.1⟩,λn hn=>It.stop λaA u rec=>?_⟩
    unfold c112_9;dsimp only;refine qN (show ¬ (N:Int)<y.2.1 by omega) ?_;refine qP hs ?_;refine qR h8 ?_;refine qf ?_;rfl
  ·refine⟨_,⟨y,_,rfl,hy,fin m.1 ((i64.wrap (i64.wrap (a+1)+x5)).tmod y.2.1) m.2.2.2.1⟩,λn hn=>It.stop λaA u rec=>?_⟩
   unfold c112_9;dsimp only;refine qN (show ¬ (N:Int)<y.2.1 by omega) ?_;refine qN hs ?_;rfl
theorem f112(b:List aH)(hb:b.length<=1048576):∃ (y:NodeT) (m:MsgT),Ran p 12 112 [vf K22 (b,())] ⟨[⟨K38,y⟩,⟨K43,m⟩],[]⟩/\NodX y/\SzM m:=by
 obtain⟨o,⟨y,m,rfl,hy,hm⟩,hL⟩:=It.new (lvl:=12 - 1) (c:=λn aA (_:Unit)=>c112_10003 (aL p n) aA b) PC b hb (λi h hi h4=>⟨_,λn hn aA a rec=>by
   unfold c112_10003;dsimp only;rw[aF (show i<9223372036854775807 by omega)];refine ql hi ?_;refine qP (show(i:Int)<4000 by omega) ?_;refine qz ?_;refine(aE hi).trans ?_;rfl⟩) (λh i hc hi=>by
   obtain⟨y,d1,h1,k1,hy⟩:=f218 _ hc
   obtain⟨m,d2,h2,k2,hm⟩:=f247 d1 k1
   have hn4:=hy.n
   by_cases hN:y.2.1>1
   ·obtain⟨b3,d3,h3,k3⟩:=f128 d2 6 k2
    cases b3 with
    | true=>
     exact⟨_,⟨y,m,rfl,hy,hm⟩,λn hn=>⟨0,λaA _ a rec=>by
      unfold c112_10003;refine(iH hi).trans ?_;refine qR h1 ?_;refine qR h2 ?_;refine qP hN ?_;refine qR h3 ?_;refine qf ?_;rfl⟩⟩
    | false=>
     have h4:=f248 y.1 0
     obtain⟨x5,d5,h5,k5,_⟩:=f219 d3 (i64.wrap (y.2.1 - 1)) k3
     obtain⟨o,ho,hL⟩:=KF hy hm d1 d2 (mxI true y.1 0) x5 d5 d5 k5
     refine⟨o,ho,λn hn=>?_⟩
     obtain⟨M,hM⟩:=(hL n hn).all_i
     refine⟨M,λaA hf a rec=>?_⟩
     unfold c112_10003;refine(iH hi).trans ?_;refine qR h1 ?_;refine qR h2 ?_;refine qP hN ?_;refine qR h3 ?_;refine qt ?_;refine qC h4 ?_;refine qR h5 ?_;refine qN (show ¬ y.2.1=0 by omega) ?_;exact hM aA hf a
   ·exact⟨_,⟨y,m,rfl,hy,hm⟩,λn hn=>⟨0,λaA _ a rec=>by
     unfold c112_10003;refine(iH hi).trans ?_;refine qR h1 ?_;refine qR h2 ?_;refine qN hN ?_;rfl⟩⟩) (i64.wrap (26583+(b.length:Int)))
 exact⟨y,m,go112 λn hn=>Ev.eq (λaA=>by unfold T112;rfl) ((hL n (by omega)).ev (i:=()) rfl),hy,hm⟩
end Go.Abs.Xz
namespace Go.Abs.Xz
open Go Go.Abs
theorem f92(a b:fJ)(hl:a.2.2.1.length<=aN)(hr:∀ i,i<a.2.2.1.length->SzS (gt a.2.2.1 i)):Ran p 2 92 [va K33 a, va K33 b] (rO K4 (zY a b,())):=go92 λn hn=>by
 have lp:∃ N,∀ aA,N<=aA->iE a.2.2.1 b.2.2.1=true->iter (c92_4 (aL p n) aA a b) aA (0:Int)=oB (bL a.2.2.1.length λi=>eU (gt a.2.2.1 i) (gt b.2.2.1 i)):=by
  cases he:iE a.2.2.1 b.2.2.1 with
  | false=>exact⟨0,λ_ _ h=>by cases h⟩
  | true=>
   have e:=rJ.1 he
   have lp:It (λaA (_:Unit)=>c92_4 (aL p n) aA a b) (0:Int) (λ_=>oB (bL a.2.2.1.length λi=>eU (gt a.2.2.1 i) (gt b.2.2.1 i))):=by
    refine cU (It.allB a.2.2.1.length _ true (λi hi aA a' rec=>?_) (It.stop λaA a' rec=>?_))
    ·have hb:=cO hi hl
     have hi':i<b.2.2.1.length:=by omega
     unfold c92_4;rw[aF hb];refine ql hi ?_;refine qz ?_;refine(aE hi).trans ?_;refine qz ?_;refine(aE hi').trans ?_;refine qC (f25 (gt a.2.2.1 i) (gt b.2.2.1 i) (hr i hi)) ?_;exact fin
    ·unfold c92_4;refine qe ?_;rfl
   obtain⟨N,hN⟩:=lp.all_i
   exact⟨N,λaA hf _=>hN aA hf ()⟩
 obtain⟨N,hN⟩:=lp
 refine⟨N,λaA hf=>?_⟩
 show T92 (aL p n) aA a b=oB (zY a b)
 unfold T92 zY pN;refine c8 λ_=>?_;refine c8 λ_=>?_;refine c8 λh=>?_;exact hN aA hf h
theorem f19(a b:NodeT)(hz:SzN a):Ran p 3 19 [va K38 a, va K38 b] (rO K4 (zL a b,())):=go19 λn hn=>by
 rw[<- M2]
 have ri:∃ N,∀ aA,N<=aA->iE a.rises b.rises=true->iter (c19_16 (aL p n) aA a b) aA (0:Int)=oB (bL a.rises.length λi=>mL (gt a.rises i) (gt b.rises i)):=by
  cases he:iE a.rises b.rises with
  | false=>exact⟨0,λ_ _ h=>by cases h⟩
  | true=>
   have e:=rJ.1 he
   have lp:It (λaA (_:Unit)=>c19_16 (aL p n) aA a b) (0:Int) (λ_=>oB (bL a.rises.length λi=>mL (gt a.rises i) (gt b.rises i))):=by
    refine cU (It.allB a.rises.length _ true (λi hi aA a' rec=>?_) (It.stop λaA a' rec=>?_))
    ·have hb:=cO hi hz.rises
     have hi':i<b.rises.length:=by omega
     unfold c19_16;rw[aF hb];refine ql hi ?_;refine qz ?_;refine(aE hi).trans ?_;refine qz ?_;refine(aE hi').trans ?_;exact fin
    ·unfold c19_16;refine qe ?_;rfl
   obtain⟨N,hN⟩:=lp.all_i
   exact⟨N,λaA hf _=>hN aA hf ()⟩
 obtain⟨M,hM⟩:=ri
 have se:∃ N,∀ aA,N<=aA->iE a.sess b.sess=true->iE a.rises b.rises=true->iter (c19_11 (aL p n) aA a b) aA (0:Int)=oB (bL a.sess.length (λi=>qA (gt a.sess i) (gt b.sess i))&&bL a.rises.length λi=>mL (gt a.rises i) (gt b.rises i)):=by
  cases he:iE a.sess b.sess with
  | false=>exact⟨0,λ_ _ h=>by cases h⟩
  | true=>cases he2:iE a.rises b.rises with
   | false=>exact⟨0,λ_ _ _ h=>by cases h⟩
   | true=>
    have e:=rJ.1 he
    have lp:It (λaA (_:Unit)=>c19_11 (aL p n) aA a b) (0:Int) (λ_=>oB (bL a.sess.length (λi=>qA (gt a.sess i) (gt b.sess i))&&bL a.rises.length λi=>mL (gt a.rises i) (gt b.rises i))):=by
     refine It.allB a.sess.length _ _ (λi hi aA a' rec=>?_) (It.stopE (T:=λaA _=>iter (c19_16 (aL p n) aA a b) aA (0:Int)) (λaA a' rec=>?_) ⟨M,λaA hf _=>hM aA hf he2⟩)
     ·have hb:=cO hi hz.sess
      have hi':i<b.sess.length:=by omega
      unfold c19_11;rw[aF hb];refine ql hi ?_;refine qz ?_;refine(aE hi).trans ?_;refine qz ?_;refine(aE hi').trans ?_;exact fin
     ·unfold c19_11;refine qe ?_;rfl
    obtain⟨N,hN⟩:=lp.all_i
    exact⟨N,λaA hf _ _=>hN aA hf ()⟩
 obtain⟨M',hM'⟩:=se
 have ro:∃ N,∀ aA,N<=aA->iE a.seen b.seen=true->iE a.sess b.sess=true->iE a.rises b.rises=true->iter (c19_6 (aL p n) aA a b) aA (0:Int)=oB (bL a.seen.length (λi=>vQ (gt a.seen i) (gt b.seen i))&&(bL a.sess.length (λi=>qA (gt a.sess i) (gt b.sess i))&&bL a.rises.length λi=>mL (gt a.rises i) (gt b.rises i))):=by
  cases he:iE a.seen b.seen with
  | false=>exact⟨0,λ_ _ h=>by cases h⟩
  | true=>cases he2:iE a.sess b.sess with
   | false=>exact⟨0,λ_ _ _ h=>by cases h⟩
   | true=>cases he3:iE a.rises b.rises with
    | false=>exact⟨0,λ_ _ _ _ h=>by cases h⟩
    | true=>
     have e:=rJ.1 he
     have lp:It (λaA (_:Unit)=>c19_6 (aL p n) aA a b) (0:Int) (λ_=>oB (bL a.seen.length (λi=>vQ (gt a.seen i) (gt b.seen i))&&(bL a.sess.length (λi=>qA (gt a.sess i) (gt b.sess i))&&bL a.rises.length λi=>mL (gt a.rises i) (gt b.rises i)))):=by
      refine It.allB a.seen.length _ _ (λi hi aA a' rec=>?_) (It.stopE (T:=λaA _=>iter (c19_11 (aL p n) aA a b) aA (0:Int)) (λaA a' rec=>?_) ⟨M',λaA hf _=>hM' aA hf he2 he3⟩)
      ·have hb:=cO hi hz.seen
       have hi':i<b.seen.length:=by omega
       unfold c19_6 vQ;rw[aF hb];refine ql hi ?_;refine qz ?_;refine(aE hi).trans ?_;refine qz ?_;refine(aE hi').trans ?_;refine qC (f93 (gt a.seen i).1 (gt b.seen i).1 (aO (hz.lines i hi))) ?_;exact fin
      ·unfold c19_6;refine qe ?_;rfl
     obtain⟨N,hN⟩:=lp.all_i
     exact⟨N,λaA hf _ _ _=>hN aA hf ()⟩
 obtain⟨N,hN⟩:=ro
 refine⟨N,λaA hf=>?_⟩
 show T19 (aL p n) aA a b=oB (yC a b)
 unfold T19 yC;refine c8 λ_=>?_;refine c8 λ_=>?_;refine qC (f25 a.state b.state hz.state) ?_;refine c8 λ_=>?_;refine qC (f91 a.tree b.tree (aO hz.leaves)) ?_;refine c8 λ_=>?_;refine qC (f92 a.log b.log hz.list hz.logs) ?_;refine c8 λ_=>?_;refine qC (f93 a.got b.got (aO hz.got)) ?_;refine c8 λ_=>?_;refine qC (f93 a.acked b.acked (aO hz.acked)) ?_;refine c8 λ_=>?_
 refine c8 λh1=>?_;refine c8 λ_=>?_;refine c8 λ_=>?_;refine c8 λ_=>?_;refine c8 λ_=>?_;refine c8 λ_=>?_;refine c8 λh2=>?_;refine c8 λh3=>?_;exact hN aA hf h1 h2 h3
end Go.Abs.Xz
namespace Go.Abs.Xz
open Go Go.Abs
structure Ticked (x:NodeT) (k:Nat) (y:NodeT):Prop where
 ok:NodeOk y
 id:y.1=x.1
 n:y.2.1=x.2.1
 num:y.num=x.num
 wait:y.wait=x.wait
 clock:y.clock=x.clock+((k:Nat):Int)
 age:∀ s∈y.sess,((k:Nat):Int)<=s.2.2.2.1
end Go.Abs.Xz
set_option maxHeartbeats 2000000
namespace Go.Abs.Xz
open Go Go.Abs
theorem nL{α:Type}[Inhabited α]{f:α->α->Bool}(h:∀ x,f x x=true)(xs:List α):pN f xs xs=true:=by
 unfold pN iE;rw[Bool.and_eq_true];exact⟨by simp,bJ.2 λi _=>h _⟩
theorem wZ(x:NodeT):zL x x=true:=by
 have s1:pN vQ x.seen x.seen=true:=nL (λr=>jO r.1) _
 have s2:eU x.state x.state=true:=jV.2 rfl
 have s3:CW x.tree x.tree=true:=by unfold CW;rw[jO];simp
 have s4:zY x.log x.log=true:=by unfold zY;rw[nL (λs=>jV.2 rfl)];simp
 have s5:pN qA x.sess x.sess=true:=nL (λs=>by unfold qA;rw[show f0 s.1 s.1=true from nH.2 rfl,show f0 s.2.1 s.2.1=true from nH.2 rfl,show f0 s.2.2.2.1 s.2.2.2.1=true from nH.2 rfl,CL];rfl) _
 have s6:pN mL x.rises x.rises=true:=nL (λs=>by unfold mL;rw[show f0 s.1 s.1=true from nH.2 rfl,show f0 s.2.1 s.2.1=true from nH.2 rfl,show f0 s.2.2.1 s.2.2.1=true from nH.2 rfl];rfl) _
 unfold zL
 rw[s1,s2,s3,s4,s5,s6,jO,jO]
 simp
theorem f15(b:List aH):Ran p 1 15 [vf K22 (b,())] (rO K4 (decide ((b.length:Int)>1048576),())):=go15 λn hn=>Ev.now λaA=>by
 unfold T15;rfl
end Go.Abs.Xz
