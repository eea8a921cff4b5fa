/- What the functions of this program answer, part eb. -/
import Derived.Test.YtfhgecdbldmekaaGreatW3
import Derived.Test.YtfhgecdbldmekaaGreatXk
import Derived.Test.YtfhgecdbldmekaaGreatXew
import Derived.Test.YtfhgecdbldmekaaGreatXre
set_option linter.unusedVariables false
open Go.IntKind (i64)
namespace Go.Abs.Pz
open Go Go.Abs
theorem f99(c:eQ)(h:CurOk c):∃ (x:Int) (d:eQ),Ran p 1 99 [.ref ⟨K143,c⟩] ⟨[⟨K3,(x,())⟩],[⟨K143,d⟩]⟩/\CurOk d/\0<=x/\x<=255:=by
 by_cases hi:c.2.1<(c.1.length:Int)
 ·obtain⟨i,hi'⟩:∃ i:Nat,c.2.1=i:=⟨c.2.1.toNat,by have:=h.lo;omega⟩
  have hi2:i<c.1.length:=by omega
  have e:(at? (α:=Row K5) c.1 (c.2.1).toNat)=some (gt (α:=aH) c.1 i):=by rw[hi',Int.toNat_natCast];exact(RD hi2).trans (by rw[cJ hi2])
  refine⟨_,_,go99 λn hn=>Ev.now λaA=>by
   unfold T99;refine qN (by decide) ?_;refine qN (by decide) ?_;refine qP hi ?_;refine qP h.lo ?_
   refine(congrArg (λo=>Option.bind o _) e).trans ?_
   rfl,?_⟩
  have hl:=h.len
  refine⟨⟨h.len,?_,?_⟩,(y9 _).1,(y9 _).2⟩
  ·show 0<=i64.wrap (c.2.1+1);have:=h.lo;rw[IntKind.wrap_i64];omega
  ·show i64.wrap (c.2.1+1)<=_;have:=h.lo;rw[IntKind.wrap_i64];show _<=(c.1.length:Int);omega
 ·refine⟨_,_,go99 λn hn=>Ev.now λaA=>by
   unfold T99;refine qN (by decide) ?_;refine qN (by decide) ?_;refine qN hi ?_;rfl,?_⟩
  exact⟨⟨h.len,h.lo,h.hi⟩,(y9 _).1,(y9 _).2⟩
theorem f41(c:eQ)(k:Int)(h:CurOk c):∃ (x:Int) (d:eQ),Ran p 2 41 [.ref ⟨K143,c⟩, vf K3 (k,())] ⟨[⟨K3,(x,())⟩],[⟨K143,d⟩]⟩/\CurOk d/\0<=x/\(0<k->x<k)/\(k<=0->x=0):=by
 by_cases h0:k<=0
 ·exact⟨0,c,go41 λn hn=>Ev.now λaA=>by unfold T41;exact mT h0,h,by omega,λh=>by omega,λ_=>rfl⟩
 by_cases h1:k<=256
 ·obtain⟨x,d,hx,hd,b0,b1⟩:=f99 c h
  refine⟨x.tmod k,d,go41 λn hn=>Ev.now λaA=>?_,hd,(uJ b0 (by omega)).1,λh=>(uJ b0 h).2,λh=>by omega⟩
  unfold T41;refine qN h0 ?_;refine qP h1 ?_;refine qR hx ?_;exact kC (by omega)
 ·obtain⟨x,d,hx,hd,b0,b1⟩:=f99 c h
  obtain⟨x2,d2,hx2,hq2,b2,b3⟩:=f99 d hd
  obtain⟨x3,d3,hx3,hq3,b4,b5⟩:=f99 d2 hq2
  obtain⟨x4,d4,hx4,hq4,b6,b7⟩:=f99 d3 hq3
  have e:i64.wrap (i64.wrap (i64.wrap (i64.wrap (x*16777216)+i64.wrap (x2*65536))+i64.wrap (x3*256))+x4)=x*16777216+x2*65536+x3*256+x4:=by
   repeat rw[IntKind.wrap_i64]
   omega
  have hp:0<=x*16777216+x2*65536+x3*256+x4:=by omega
  refine⟨(x*16777216+x2*65536+x3*256+x4).tmod k,d4,go41 λn hn=>Ev.now λaA=>?_,hq4,(uJ hp (by omega)).1,λh=>(uJ hp h).2,λh=>by omega⟩
  unfold T41;refine qN h0 ?_;refine qN h1 ?_;refine qR hx ?_;refine qR hx2 ?_;refine qR hx3 ?_;refine qR hx4 ?_;refine qN (by omega) ?_;rw[<- e]
theorem f69(c:eQ)(k:Int)(h:CurOk c):∃ (x:Bool) (d:eQ),Ran p 3 69 [.ref ⟨K143,c⟩, vf K3 (k,())] ⟨[⟨K4,(x,())⟩],[⟨K143,d⟩]⟩/\CurOk d:=by
 obtain⟨x,d,hx,hd,_⟩:=f41 c k h
 exact⟨_,d,go69 λn hn=>Ev.now λaA=>by unfold T69;refine qR hx ?_;rfl,hd⟩
theorem f98(c:eQ)(ls:List aH)(h:CurOk c)(h0:0<ls.length):∃ (x:Int) (d:eQ),Ran p 3 98 [.ref ⟨K143,c⟩, vf K38 (ls,())] ⟨[⟨K3,(x,())⟩],[⟨K143,d⟩]⟩/\CurOk d/\(x,())∈ls:=by
 obtain⟨x,d,hx,hd,b0,b1,_⟩:=f41 c (ls.length:Int) h
 have b2:=b1 (by omega)
 obtain⟨i,rfl⟩:∃ i:Nat,x=i:=⟨x.toNat,by omega⟩
 have hi:i<ls.length:=by omega
 refine⟨(gt ls i).1,d,go98 λn hn=>Ev.now λaA=>?_,hd,?_⟩
 ·unfold T98;refine qR hx ?_;refine qz ?_;refine(aD hi).trans ?_;rfl
 ·show gt ls i∈ls;rw[cJ hi];exact List.getElem_mem hi
theorem f160(c:eQ)(ls:List (ByteArray×Unit))(h:CurOk c)(h0:0<ls.length):∃ (x:ByteArray) (d:eQ),Ran p 3 160 [.ref ⟨K143,c⟩, vf K182 (ls,())] ⟨[⟨K9,(x,())⟩],[⟨K143,d⟩]⟩/\CurOk d/\(x,())∈ls:=by
 obtain⟨x,d,hx,hd,b0,b1,_⟩:=f41 c (ls.length:Int) h
 have b2:=b1 (by omega)
 obtain⟨i,rfl⟩:∃ i:Nat,x=i:=⟨x.toNat,by omega⟩
 have hi:i<ls.length:=by omega
 refine⟨(gt ls i).1,d,go160 λn hn=>Ev.now λaA=>?_,hd,?_⟩
 ·unfold T160;refine qR hx ?_;refine qz ?_;refine(aD hi).trans ?_;rfl
 ·show gt ls i∈ls;rw[cJ hi];exact List.getElem_mem hi
theorem f344(c:eQ)(h:CurOk c):∃ (e:bA) (d:eQ),Ran p 4 344 [.ref ⟨K143,c⟩] ⟨[⟨K104,e⟩],[⟨K143,d⟩]⟩/\CurOk d/\RP e/\1<=e.1:=by
 obtain⟨x1,d1,h1,k1,a1,b1,_⟩:=f41 c 3 h
 obtain⟨x2,d2,h2,k2,a2,b2,_⟩:=f41 d1 2 k1
 obtain⟨x3,d3,h3,k3,a3,b3,_⟩:=f41 d2 3 k2
 obtain⟨x4,d4,h4,k4,a4,b4,_⟩:=f41 d3 3 k3
 obtain⟨x5,d5,h5,k5,m5⟩:=f160 d4 [((⟨#[]⟩:ByteArray),()),((⟨#[97]⟩:ByteArray),()),((⟨#[98]⟩:ByteArray),()),((⟨#[97,98]⟩:ByteArray),()),((⟨#[49,50,51,52,53,54,55,56]⟩:ByteArray),())] k4 (by show 0<5;omega)
 refine⟨_,d5,go344 λn hn=>Ev.now λaA=>by unfold T344;refine qR h1 ?_;refine qR h2 ?_;refine qR h3 ?_;refine qR h4 ?_;refine qR h5 ?_;rfl,k5,?_,?_⟩
 ·have:x5∈datas.take 5:=by
   have:=List.mem_map_of_mem (f:=λy:ByteArray×Unit=>y.1) m5
   exact this
  exact List.mem_of_mem_take this
 ·show 1<=i64.wrap (1+x1);have:=b1 (by omega);rw[IntKind.wrap_i64];omega
theorem f306(c:eQ)(h:CurOk c):∃ (e:bA) (d:eQ),Ran p 5 306 [.ref ⟨K143,c⟩] ⟨[⟨K104,e⟩],[⟨K143,d⟩]⟩/\CurOk d/\RP e:=by
 obtain⟨e,d1,h1,k1,he,_⟩:=f344 c h
 obtain⟨x,d2,h2,k2,_⟩:=f41 d1 14 k1
 cases q0:x==0 with
 | true=>
  obtain⟨y,d3,h3,k3,_⟩:=f98 d2 [((0:Int),()),((1000:Int),()),((1001:Int),()),((-1:Int),())] k2 (by show 0<4;omega)
  exact⟨(y,e.2),d3,go306 λn hn=>Ev.now λaA=>by unfold T306;refine qR h1 ?_;refine qR h2 ?_;refine qT q0 ?_;refine qR h3 ?_;rfl,k3,he⟩
 | false=>
 cases q1:x==1 with
 | true=>
  obtain⟨y,d3,h3,k3,_⟩:=f98 d2 [((-1:Int),()),((2:Int),())] k2 (by show 0<2;omega)
  exact⟨(e.1,y,e.2.2),d3,go306 λn hn=>Ev.now λaA=>by unfold T306;refine qR h1 ?_;refine qR h2 ?_;refine qF q0 ?_;refine qT q1 ?_;refine qR h3 ?_;rfl,k3,he⟩
 | false=>
 cases q2:x==2 with
 | true=>
  obtain⟨y,d3,h3,k3,_⟩:=f98 d2 [((-1:Int),()),((100000:Int),()),((100001:Int),())] k2 (by show 0<3;omega)
  exact⟨(e.1,e.2.1,y,e.2.2.2),d3,go306 λn hn=>Ev.now λaA=>by unfold T306;refine qR h1 ?_;refine qR h2 ?_;refine qF q0 ?_;refine qF q1 ?_;refine qT q2 ?_;refine qR h3 ?_;rfl,k3,he⟩
 | false=>
 cases q3:x==3 with
 | true=>
  obtain⟨y,d3,h3,k3,_⟩:=f98 d2 [((-1:Int),()),((1000:Int),()),((1001:Int),())] k2 (by show 0<3;omega)
  exact⟨(e.1,e.2.1,e.2.2.1,y,e.2.2.2.2),d3,go306 λn hn=>Ev.now λaA=>by unfold T306;refine qR h1 ?_;refine qR h2 ?_;refine qF q0 ?_;refine qF q1 ?_;refine qF q2 ?_;refine qT q3 ?_;refine qR h3 ?_;rfl,k3,he⟩
 | false=>
 cases q4:x==4 with
 | true=>exact⟨(e.1,e.2.1,e.2.2.1,e.2.2.2.1,⟨#[49,50,51,52,53,54,55,56,57]⟩,()),d2,go306 λn hn=>Ev.now λaA=>by unfold T306;refine qR h1 ?_;refine qR h2 ?_;refine qF q0 ?_;refine qF q1 ?_;refine qF q2 ?_;refine qF q3 ?_;refine qT q4 ?_;rfl,k2,by show(⟨#[49,50,51,52,53,54,55,56,57]⟩:ByteArray)∈datas;unfold datas;simp⟩
 | false=>exact⟨e,d2,go306 λn hn=>Ev.now λaA=>by unfold T306;refine qR h1 ?_;refine qR h2 ?_;refine qF q0 ?_;refine qF q1 ?_;refine qF q2 ?_;refine qF q3 ?_;refine qF q4 ?_;rfl,k2,he⟩
theorem f343(i:Int)(e:bA):∃ (s:aE) (b:Bool),Ran p 4 343 [vf K3 (i,()), va K104 e] ⟨[⟨K50,s⟩,⟨K4,(b,())⟩],[]⟩/\(s=([(i,e)],[],())\/s=([],[],()))/\aM s=true:=by
 have hs:=f49 ([(i,e)],[],()) (by show 1<=9223372036854775807;omega) (by show 0<=9223372036854775807;omega)
 cases ho:aM ([(i,e)],[],())with
 | false=>exact⟨_,false,go343 λn hn=>Ev.now λaA=>by unfold T343;refine qC hs ?_;rw[ho];rfl,.inr rfl,rfl⟩
 | true=>exact⟨_,true,go343 λn hn=>Ev.now λaA=>by unfold T343;refine qC hs ?_;rw[ho];rfl,.inl rfl,ho⟩
end Go.Abs.Pz
namespace Go.Abs.Pz
open Go Go.Abs
theorem P3{n:Nat}(h:n<=1048576):0+n<=bound:=by unfold bound;omega
theorem SV{i x:Int}(h:0<=x):Pos (([],[(i,x,())],()):aE):=⟨λx hx=>(List.not_mem_nil hx).elim,λf hf=>by rcases List.mem_singleton.1 hf with rfl;exact h⟩
theorem OH{s:aE}{i:Int}{e:bA}(he:RP e)(hi:1<=e.1)(h:s=([(i,e)],[],())\/s=([],[],())):StD 5 s/\Pos s:=by
 rcases h with rfl | rfl
 ·exact⟨⟨by show 1<=5;omega,by show 0<=5;omega,λx hx=>by rcases List.mem_singleton.1 hx with rfl;exact he⟩,⟨λx hx=>by rcases List.mem_singleton.1 hx with rfl;exact hi,λx hx=>(List.not_mem_nil hx).elim⟩⟩
 ·exact⟨⟨by show 0<=5;omega,by show 0<=5;omega,λx hx=>(List.not_mem_nil hx).elim⟩,SW⟩
theorem UY{i x:Int}(h1:0<=i)(h2:i<=4)(h3:1<=x)(h4:x<=1000):aM ([],[(i,x,())],())=true:=
 (aN _).2 ⟨(λx hx=>by cases hx),List.Pairwise.nil,λf hf=>by rw[List.mem_singleton.1 hf];exact⟨by unfold eN;rw[aL];exact⟨h1,h2⟩,by rw[aL];exact⟨h3,h4⟩⟩,List.pairwise_singleton ..⟩
theorem f304(c:eQ)(h:CurOk c):∃ (s:aE) (d:eQ),Ran p 5 304 [.ref ⟨K143,c⟩] ⟨[⟨K50,s⟩],[⟨K143,d⟩]⟩/\CurOk d/\StD 5 s/\aM s=true:=by
 obtain⟨x1,d1,h1,k1,a1,b1,_⟩:=f41 c 7 h
 let Good:Out->Prop:=λo=>∃ (s:aE) (d:eQ),o=⟨[⟨K50,s⟩],[⟨K143,d⟩]⟩/\CurOk d/\StD 5 s/\aM s=true
 have second:∀ (s:aE) (d d0:eQ) (x:Int),0<=x->x<3->StD 5 s->aM s=true->CurOk d->∃ o,Good o/\∀ n,5 - 1<=n->It (λaA (_:Unit)=>c304_10 (aI p n) aA (((x,()),()),(d0,()))) ((0:Int),s.1,s.2.1,d.1,d.2.1,d.2.2.1) (λ_=>some o):=by
  intro s d d0 x hx hx3 hs hp hd
  obtain⟨m,rfl⟩:∃ m:Nat,x=m:=⟨x.toNat,by omega⟩
  refine It.ex (c:=λn aA (_:Unit)=>c304_10 (aI p n) aA ((((m:Int),()),()),(d0,()))) (λi y=>∃ (s:aE) (d:eQ),y=((i:Int),s.1,s.2.1,d.1,d.2.1,d.2.2.1)/\CurOk d/\StD 5 s/\aM s=true) Good m ?_ ?_ m 0 _ (by omega) ⟨s,d,rfl,hd,hs,hp⟩
  ·rintro i y hi ⟨s,d,rfl,hd,hs,hp⟩
   obtain⟨x7,d7,h7,k7,a7,b7,_⟩:=f41 d 5 hd
   obtain⟨x8,d8,h8,k8,a8,b8,_⟩:=f41 d7 2 k7
   have hw:i64.wrap (1+x8)=1+x8:=by have:=b8 (by omega);rw[IntKind.wrap_i64];omega
   have hq:StD 5 (([],[(x7,i64.wrap (1+x8),())],()):aE):=⟨by show 0<=5;omega,by show 1<=5;omega,λx hx=>(List.not_mem_nil hx).elim⟩
   have h9:=f238 s ([],[(x7,i64.wrap (1+x8),())],()) (hs.sz (by omega)) (hq.sz (by omega)) ((aN _).1 hp).pos (SV (by omega))
   have ho:=UY (i:=x7) (x:=i64.wrap (1+x8)) a7 (by have:=b7 (by omega);omega) (by omega) (by have:=b8 (by omega);omega)
   refine⟨_,⟨c8 s ([],[(x7,i64.wrap (1+x8),())],()),d8,rfl,k8,KN hs hq,nS hp ho⟩,λn hn aA a rec=>?_⟩
   unfold c304_10;dsimp only;rw[aF (show i<9223372036854775807 by omega)];refine qP (show(i:Int)<(m:Int) by omega) ?_;refine qR h7 ?_;refine qR h8 ?_;refine qC h9 ?_;rfl
  ·rintro y ⟨s,d,rfl,hd,hs,hp⟩
   refine⟨_,⟨s,d,rfl,hd,hs,hp⟩,λn hn=>It.stop λaA a rec=>?_⟩
   unfold c304_10;refine qe ?_;rfl
 obtain⟨m,rfl⟩:∃ m:Nat,x1=m:=⟨x1.toNat,by omega⟩
 have hm:=b1 (by omega)
 have first:=It.ex (lvl:=5 - 1) (c:=λn aA (_:Unit)=>c304_4 (aI p n) aA ((((m:Int),()),()),(d1,()))) (λi y=>∃ (s:aE) (d:eQ),y=((i:Int),s.1,s.2.1,d.1,d.2.1,d.2.2.1)/\CurOk d/\StD 5 s/\aM s=true) Good m (by
  rintro i y hi ⟨s,d,rfl,hd,hs,hp⟩
  obtain⟨x2,d2,h2,k2,_⟩:=f41 d 5 hd
  obtain⟨e3,d3,h3,k3,he,hi3⟩:=f344 d2 k2
  obtain⟨s4,b4,h4,q4⟩:=f343 x2 e3
  obtain⟨q5,q6⟩:=OH he hi3 q4.1
  have h5:=f238 s s4 (hs.sz (by omega)) (q5.sz (by omega)) ((aN _).1 hp).pos q6
  refine⟨_,⟨c8 s s4,d3,rfl,k3,KN hs q5,nS hp q4.2⟩,λn hn aA a rec=>?_⟩
  unfold c304_4;dsimp only;rw[aF (show i<9223372036854775807 by omega)];refine qP (show(i:Int)<(m:Int) by omega) ?_;refine qR h2 ?_;refine qR h3 ?_;refine(BF (h4 n (by omega))).trans ?_;refine qC h5 ?_;rfl) (by
  rintro y ⟨s,d,rfl,hd,hs,hp⟩
  obtain⟨x6,d6,h6,k6,a6,b6,_⟩:=f41 d 3 hd
  obtain⟨o,ho,hL⟩:=second s d6 d6 x6 a6 (b6 (by omega)) hs hp k6
  refine⟨o,ho,λn hn=>It.stopE (T:=λaA _=>iter (c304_10 (aI p n) aA (((x6,()),()),(d6,()))) aA ((0:Int),s.1,s.2.1,d6.1,d6.2.1,d6.2.2.1)) (λaA a rec=>?_) (hL n hn).all_i⟩
  unfold c304_4;refine qe ?_;refine qR h6 ?_;rfl)
 obtain⟨o,⟨s,d,rfl,hd,hs,hp⟩,hL⟩:=first m 0 ((0:Int),[],[],d1.1,d1.2.1,d1.2.2.1) (by omega) ⟨([],[],()),d1,rfl,k1,⟨by show 0<=5;omega,by show 0<=5;omega,λx hx=>(List.not_mem_nil hx).elim⟩,rfl⟩
 exact⟨s,d,go304 λn hn=>Ev.eq (λaA=>by unfold T304;refine qR h1 ?_;rfl) ((hL n (by omega)).ev (i:=()) rfl),hd,hs,hp⟩
theorem f243(c:eQ)(h:CurOk c):∃ (s:aE) (d:eQ),Ran p 6 243 [.ref ⟨K143,c⟩] ⟨[⟨K50,s⟩],[⟨K143,d⟩]⟩/\CurOk d/\StD 6 s:=by
 obtain⟨s,d1,h1,k1,hs,hp⟩:=f304 c h
 obtain⟨x2,d2,h2,k2,_⟩:=f41 d1 14 k1
 have hs6:StD 6 s:=⟨Nat.le_trans hs.a (by omega),Nat.le_trans hs.b (by omega),hs.data⟩
 have ha:=hs.a
 have hb:=hs.b
 cases q0:x2==0 with
 | true=>
  obtain⟨x3,d3,h3,k3,_⟩:=f41 d2 7 k2
  obtain⟨e4,d4,h4,k4,he⟩:=f306 d3 k3
  refine⟨(s.1++[(i64.wrap (x3 - 1),e4)],s.2.1,()),d4,go243 λn hn=>Ev.now λaA=>?_,k4,⟨by show(s.1++_).length<=6;simp;omega,hs6.b,λx hx=>?_⟩⟩
  ·unfold T243;refine qR h1 ?_;refine qR h2 ?_;refine qT q0 ?_;refine qR h3 ?_;refine qR h4 ?_;refine qP (show s.1.length+1<=bound by unfold bound;omega) ?_;rfl
  ·rcases List.mem_append.1 hx with hx | hx
   ·exact hs.data x hx
   ·rcases List.mem_singleton.1 hx with rfl;exact he
 | false=>
 cases q1:x2==1 with
 | true=>
  obtain⟨x3,d3,h3,k3,_⟩:=f41 d2 7 k2
  obtain⟨x4,d4,h4,k4,_⟩:=f98 d3 [((0:Int),()),((1:Int),()),((5:Int),()),((1001:Int),())] k3 (by show 0<4;omega)
  refine⟨(s.1,s.2.1++[(i64.wrap (x3 - 1),x4,())],()),d4,go243 λn hn=>Ev.now λaA=>?_,k4,⟨hs6.a,by show(s.2.1++_).length<=6;simp;omega,hs.data⟩⟩
  unfold T243;refine qR h1 ?_;refine qR h2 ?_;refine qF q0 ?_;refine qT q1 ?_;refine qR h3 ?_;refine qR h4 ?_;refine qP (show s.2.1.length+1<=bound by unfold bound;omega) ?_;rfl
 | false=>
 cases q2:x2==2 with
 | true=>
  by_cases hl:(s.1.length:Int)>0
  ·obtain⟨x3,d3,h3,k3,a3,b3,_⟩:=f41 d2 (s.1.length:Int) k2
   obtain⟨e4,d4,h4,k4,he⟩:=f306 d3 k3
   have b3':=b3 (by omega)
   obtain⟨i,rfl⟩:∃ i:Nat,x3=i:=⟨x3.toNat,by omega⟩
   have hi:i<s.1.length:=by omega
   refine⟨(List.set s.1 i ((gt s.1 i).1,e4),s.2.1,()),d4,go243 λn hn=>Ev.now λaA=>?_,k4,⟨by show(List.set s.1 i _).length<=6;simp;omega,hs6.b,λx hx=>?_⟩⟩
   ·unfold T243;refine qR h1 ?_;refine qR h2 ?_;refine qF q0 ?_;refine qF q1 ?_;refine qT q2 ?_;refine qP hl ?_;refine qR h3 ?_;refine qR h4 ?_;refine qz ?_;refine(aD hi).trans ?_;refine(aD hi).trans ?_;rfl
   ·rcases List.mem_or_eq_of_mem_set hx with hx | rfl
    ·exact hs.data x hx
    ·exact he
  ·refine⟨s,d2,go243 λn hn=>Ev.now λaA=>?_,k2,hs6⟩
   unfold T243;refine qR h1 ?_;refine qR h2 ?_;refine qF q0 ?_;refine qF q1 ?_;refine qT q2 ?_;refine qN hl ?_;rfl
 | false=>
 cases q3:x2==3 with
 | true=>
  by_cases hl:(s.1.length:Int)>1
  ·have hi1:1<s.1.length:=by omega
   have hi0:0<s.1.length:=by omega
   refine⟨(List.set s.1 0 (gt s.1 1),s.2.1,()),d2,go243 λn hn=>Ev.now λaA=>?_,k2,⟨by show(List.set s.1 0 _).length<=6;simp;omega,hs6.b,λx hx=>?_⟩⟩
   ·unfold T243;refine qR h1 ?_;refine qR h2 ?_;refine qF q0 ?_;refine qF q1 ?_;refine qF q2 ?_;refine qT q3 ?_;refine qP hl ?_;refine qP (by decide) ?_;refine(aD (i:=1) hi1).trans ?_;refine(aD (i:=1) hi1).trans ?_;refine qP (by decide) ?_;refine(aD (i:=0) hi0).trans ?_;refine(aD (i:=0) hi0).trans ?_;rfl
   ·rcases List.mem_or_eq_of_mem_set hx with hx | rfl
    ·exact hs.data x hx
    ·rw[cJ hi1];exact hs.data _ (List.getElem_mem hi1)
  ·refine⟨s,d2,go243 λn hn=>Ev.now λaA=>?_,k2,hs6⟩
   unfold T243;refine qR h1 ?_;refine qR h2 ?_;refine qF q0 ?_;refine qF q1 ?_;refine qF q2 ?_;refine qT q3 ?_;refine qN hl ?_;rfl
 | false=>
  refine⟨s,d2,go243 λn hn=>Ev.now λaA=>?_,k2,hs6⟩
  unfold T243;refine qR h1 ?_;refine qR h2 ?_;refine qF q0 ?_;refine qF q1 ?_;refine qF q2 ?_;refine qF q3 ?_;rfl
end Go.Abs.Pz
namespace Go.Abs.Pz
open Go Go.Abs
-- tables drawn
structure TabD (t:List bM):Prop where
 len:t.length<=5
 row:∀ i,i<t.length->(gt t i).1.length<=5
theorem TabD.sz{t:List bM}(h:TabD t):t.length<=aP/\∀ i,i<t.length->(gt t i).1.length<=aP:=
 ⟨by have:=h.len;unfold aP;omega,λi hi=>by have:=h.row i hi;unfold aP;omega⟩
structure TabN (n:Nat) (t:List bM):Prop where
 len:t.length=n
 row:∀ i,i<n->(gt t i).1.length=5
theorem TabN.d{n:Nat}{t:List bM}(h:TabN n t)(hn:n<=5):TabD t:=⟨by rw[h.len];exact hn,λi hi=>by rw[h.row i (by rw[<- h.len];exact hi)];exact Nat.le_refl _⟩
theorem TabN.add{n:Nat}{t:List bM}(h:TabN n t)(k:Int)(ms:List aO):TabN n (bK t k ms):=⟨by rw[c6];exact h.len,λi hi=>by rw[eX];exact h.row i hi⟩
theorem FD{n:Nat}(h1:1<=n)(h5:n<=5):TabN n (dQ (n:Int)):=by
 have hb:inB (n:Int) 1 5=true:=by rw[aL];omega
 refine⟨?_,λi hi=>?_⟩
 ·unfold dQ;rw[hb];show(List.replicate _ _).length=n;rw[List.length_replicate];omega
 ·have hl:i<(dQ (n:Int)).length:=by unfold dQ;rw[hb];show i<(List.replicate _ _).length;rw[List.length_replicate];omega
  rw[oG hb hl];rfl
theorem f242(c:eQ)(h:CurOk c):∃ (t:List bM) (d:eQ),Ran p 7 242 [.ref ⟨K143,c⟩] ⟨[⟨K62,(t,())⟩],[⟨K143,d⟩]⟩/\CurOk d/\TabD t:=by
 obtain⟨x1,d1,h1,k1,a1,b1,_⟩:=f41 c 4 h
 obtain⟨m,rfl⟩:∃ m:Nat,x1=m:=⟨x1.toNat,by omega⟩
 have hm:=b1 (by omega)
 have hw:i64.wrap (1+(m:Int))=((m+1:Nat):Int):=by rw[IntKind.wrap_i64];omega
 let Good:Out->Prop:=λo=>∃ (t:List bM) (d:eQ),o=⟨[⟨K62,(t,())⟩],[⟨K143,d⟩]⟩/\CurOk d/\TabD t
 have lp:=It.ex (lvl:=7 - 1) (c:=λn aA (_:Unit)=>c242_10004 (aI p n) aA ((((m:Int),()),()),(d1,()))) (λi y=>∃ (t:List bM) (d:eQ),y=((i:Int),d.1,d.2.1,d.2.2.1,t)/\CurOk d/\TabN (m+1) t) Good (m+1) (by
  rintro i y hi ⟨t,d,rfl,hd,ht⟩
  obtain⟨s,d3,h3,k3,hs,_⟩:=f304 d hd
  have h4:=f298 s (hs.sz (by omega))
  have hz:=(ht.d (by omega)).sz
  have h5:=f297 t (i:Int) (c7 s) hz.1 hz.2 (Nat.le_trans (fS s) (by decide))
  refine⟨_,⟨bK t (i:Int) (c7 s),d3,rfl,k3,ht.add _ _⟩,λn hn aA a rec=>?_⟩
  unfold c242_10004;dsimp only;rw[aF (show i<9223372036854775807 by omega)];refine qP (show(i:Int)<i64.wrap (1+(m:Int)) by rw[hw];omega) ?_;refine qR h3 ?_;refine qC h4 ?_;refine qC h5 ?_;rfl) (by
  rintro y ⟨t,d,rfl,hd,ht⟩
  obtain⟨x6,d6,h6,k6,_⟩:=f41 d 12 hd
  have hl:0<t.length:=by rw[ht.len];omega
  have h0:(gt t 0).1.length=5:=ht.row 0 (by omega)
  have hT:=ht.d (show m+1<=5 by omega)
  have un:∀ n,7 - 1<=n->∀ {o:Option Out},(∀ aA rec,c242_10004 (aI p n) aA ((((m:Int),()),()),(d1,())) rec (((m+1:Nat):Int),d.1,d.2.1,d.2.2.1,t)=o)->It (λaA (_:Unit)=>c242_10004 (aI p n) aA ((((m:Int),()),()),(d1,()))) (((m+1:Nat):Int),d.1,d.2.1,d.2.2.1,t) (λ_=>o):=λn hn o ho=>It.stop λaA a rec=>ho aA rec
  have en:¬ (((m+1:Nat):Int)<i64.wrap (1+(m:Int))):=by rw[hw];omega
  cases q0:x6==0 with
  | true=>
   refine⟨_,⟨t.set 0 (((gt t 0).1.take ((3:Int)).toNat).drop 0,(gt t 0).2),d6,rfl,k6,⟨by rw[List.length_set];exact hT.len,λi hi=>?_⟩⟩,λn hn=>un n hn λaA rec=>?_⟩
   ·rw[List.length_set] at hi
    by_cases e:0=i
    ·rw[<- e,bO hl];show(((gt t 0).1.take 3).drop 0).length<=5;rw[List.drop_zero,List.length_take];omega
    ·rw[dZ e];exact hT.row i hi
   ·unfold c242_10004;refine qN en ?_;refine qR h6 ?_;refine qT q0 ?_;refine qP (show(0:Int)<=0 by omega) ?_;refine(a9 hl).trans ?_;refine(a9 hl).trans ?_
    refine(G5 (show(0:Int)<=3 by omega) (show(3:Int)<=(((gt t 0).1.length:Nat):Int) by rw[h0];omega)).trans ?_;refine qP (show(0:Int)<=0 by omega) ?_;refine(a9 hl).trans ?_;refine(a9 hl).trans ?_;rfl
  | false=>
  cases q1:x6==1 with
  | true=>
   obtain⟨x7,d7,h7,k7,_⟩:=f98 d6 [((-1:Int),()),((1001:Int),())] k6 (by show 0<2;omega)
   have h00:0<(gt t 0).1.length:=by omega
   refine⟨_,⟨t.set 0 ((gt t 0).1.set 0 (x7,(gt (gt t 0).1 0).2),(gt t 0).2),d7,rfl,k7,⟨by rw[List.length_set];exact hT.len,λi hi=>?_⟩⟩,λn hn=>un n hn λaA rec=>?_⟩
   ·rw[List.length_set] at hi
    by_cases e:0=i
    ·rw[<- e,bO hl];show((gt t 0).1.set 0 _).length<=5;rw[List.length_set];omega
    ·rw[dZ e];exact hT.row i hi
   ·unfold c242_10004;refine qN en ?_;refine qR h6 ?_;refine qF q0 ?_;refine qT q1 ?_;refine qP (show(0:Int)<=0 by omega) ?_;refine(a9 hl).trans ?_;refine(a9 hl).trans ?_;refine qR h7 ?_;refine qP (show(0:Int)<=0 by omega) ?_;refine(a9 hl).trans ?_;refine(a9 h00).trans ?_;refine(a9 hl).trans ?_;refine(a9 h00).trans ?_;rfl
  | false=>
  cases q2:x6==2 with
  | true=>
   refine⟨_,⟨[],d6,rfl,k6,⟨Nat.zero_le _,λi hi=>absurd hi (Nat.not_lt_zero _)⟩⟩,λn hn=>un n hn λaA rec=>?_⟩
   unfold c242_10004;refine qN en ?_;refine qR h6 ?_;refine qF q0 ?_;refine qF q1 ?_;refine qT q2 ?_;rfl
  | false=>
   refine⟨_,⟨t,d6,rfl,k6,hT⟩,λn hn=>un n hn λaA rec=>?_⟩
   unfold c242_10004;refine qN en ?_;refine qR h6 ?_;refine qF q0 ?_;refine qF q1 ?_;refine qF q2 ?_;rfl)
 have h2:=f271 ((m+1:Nat):Int)
 obtain⟨o,⟨t,d,rfl,hd,ht⟩,hL⟩:=lp (m+1) 0 ((0:Int),d1.1,d1.2.1,d1.2.2.1,dQ ((m+1:Nat):Int)) (by omega) ⟨dQ ((m+1:Nat):Int),d1,rfl,k1,FD (by omega) (by omega)⟩
 exact⟨t,d,go242 λn hn=>Ev.eq (λaA=>by unfold T242;refine qR h1 ?_;rw[<- hw] at h2;refine qC h2 ?_;rw[hw]) ((hL n (by omega)).ev (i:=()) rfl),hd,ht⟩
-- logs drawn
structure LogD (k:Nat) (l:f0):Prop where
 len:l.2.2.1.length<=k
 st:∀ s∈l.2.2.1,SzS s
theorem LogD.sz{k:Nat}{l:f0}(h:LogD k l)(hk:k<=1048576):l.2.2.1.length<=aP/\∀ i,i<l.2.2.1.length->SzS (gt l.2.2.1 i):=
 ⟨Nat.le_trans h.len hk,λi hi=>h.st _ (bR hi)⟩
theorem LogD.add{k:Nat}{l:f0}(h:LogD k l){d:aE}(hd:SzS d):LogD (k+1) (tN l d).1:=by
 unfold tN
 cases mW l d with
 | false=>exact⟨Nat.le_succ_of_le h.len,h.st⟩
 | true=>
  refine⟨Nat.le_trans (II l d) (Nat.succ_le_succ h.len),λs hs=>?_⟩
  have key:s∈l.2.2.1++[d]:=by
   have hs:s∈(gH l d).2.2.1:=hs
   unfold gH at hs
   cases hc:decide ((((l.2.2.1++[d]).length:Nat):Int)>l.1)with
   | true=>rw[hc] at hs;exact List.mem_of_mem_drop hs
   | false=>rw[hc] at hs;exact hs
  rcases List.mem_append.1 key with hs | hs
  ·exact h.st s hs
  ·rw[List.mem_singleton.1 hs];exact hd
theorem f307(c:eQ)(h:CurOk c):∃ (l:f0) (d:eQ),Ran p 6 307 [.ref ⟨K143,c⟩] ⟨[⟨K61,l⟩],[⟨K143,d⟩]⟩/\CurOk d/\LogD 6 l:=by
 obtain⟨x1,d1,h1,k1,_⟩:=f98 c [((1:Int),()),((2:Int),()),((4:Int),()),((8:Int),())] h (by show 0<4;omega)
 obtain⟨x2,d2,h2,k2,_⟩:=f98 d1 [((0:Int),()),((0:Int),()),((5:Int),()),((99990:Int),())] k1 (by show 0<4;omega)
 obtain⟨x3,d3,h3,k3,a3,b3,_⟩:=f41 d2 6 k2
 obtain⟨m,rfl⟩:∃ m:Nat,x3=m:=⟨x3.toNat,by omega⟩
 have hm:=b3 (by omega)
 let Good:Out->Prop:=λo=>∃ (l:f0) (d:eQ),o=⟨[⟨K61,l⟩],[⟨K143,d⟩]⟩/\CurOk d/\LogD 6 l
 have lp:=It.ex (lvl:=6 - 1) (c:=λn aA (_:Unit)=>c307_4 (aI p n) aA ((((m:Int),()),()),(d3,()))) (λi y=>∃ (l:f0) (d:eQ),y=((i:Int),l.1,l.2.1,l.2.2.1,d.1,d.2.1,d.2.2.1)/\CurOk d/\LogD i l) Good m (by
  rintro i y hi ⟨l,d,rfl,hd,hl⟩
  obtain⟨x4,d4,h4,k4,_⟩:=f41 d 5 hd
  obtain⟨e5,d5,h5,k5,_,_⟩:=f344 d4 k4
  obtain⟨b6,h6⟩:=zO x4 e5
  have hz:=hl.sz (by omega)
  have ho:=tA (u4 x4 e5)
  have h7:=f226 l (z6 x4 e5) hz.1 hz.2 ho
  refine⟨_,⟨(tN l (z6 x4 e5)).1,d5,rfl,k5,hl.add ho⟩,λn hn aA a rec=>?_⟩
  unfold c307_4;dsimp only;rw[aF (show i<9223372036854775807 by omega)];refine qP (show(i:Int)<(m:Int) by omega) ?_;refine qR h4 ?_;refine qR h5 ?_;refine(BF (h6 n (by omega))).trans ?_;refine(BF (h7 n (by omega))).trans ?_;rfl) (by
  rintro y ⟨l,d,rfl,hd,hl⟩
  refine⟨_,⟨l,d,rfl,hd,⟨Nat.le_trans hl.len (by omega),hl.st⟩⟩,λn hn=>It.stop λaA a rec=>?_⟩
  unfold c307_4;refine qe ?_;rfl)
 obtain⟨o,⟨l,d,rfl,hd,hl⟩,hL⟩:=lp m 0 ((0:Int),x1,x2,[],d3.1,d3.2.1,d3.2.2.1) (by omega) ⟨(x1,x2,[],()),d3,rfl,k3,⟨Nat.le_refl _,λs hs=>by cases hs⟩⟩
 exact⟨l,d,go307 λn hn=>Ev.eq (λaA=>by unfold T307;refine qR h1 ?_;refine qR h2 ?_;refine qR h3 ?_;rfl) ((hL n (by omega)).ev (i:=()) rfl),hd,hl⟩
theorem f244(c:eQ)(h:CurOk c):∃ (l:f0) (d:eQ),Ran p 7 244 [.ref ⟨K143,c⟩] ⟨[⟨K61,l⟩],[⟨K143,d⟩]⟩/\CurOk d/\LogD 7 l:=by
 obtain⟨l,d1,h1,k1,hl⟩:=f307 c h
 obtain⟨x2,d2,h2,k2,_⟩:=f41 d1 12 k1
 have hl7:LogD 7 l:=⟨Nat.le_succ_of_le hl.len,hl.st⟩
 cases q0:x2==0 with
 | true=>
  obtain⟨x3,d3,h3,k3,_⟩:=f98 d2 [((0:Int),()),((9:Int),()),((1:Int),())] k2 (by show 0<3;omega)
  exact⟨(x3,l.2.1,l.2.2.1,()),d3,go244 λn hn=>Ev.now λaA=>by unfold T244;refine qR h1 ?_;refine qR h2 ?_;refine qT q0 ?_;refine qR h3 ?_;rfl,k3,⟨hl7.len,hl7.st⟩⟩
 | false=>
 cases q1:x2==1 with
 | true=>
  obtain⟨x3,d3,h3,k3,_⟩:=f98 d2 [((-1:Int),()),((100000:Int),()),((9223372036854775807:Int),())] k2 (by show 0<3;omega)
  exact⟨(l.1,x3,l.2.2.1,()),d3,go244 λn hn=>Ev.now λaA=>by unfold T244;refine qR h1 ?_;refine qR h2 ?_;refine qF q0 ?_;refine qT q1 ?_;refine qR h3 ?_;rfl,k3,⟨hl7.len,hl7.st⟩⟩
 | false=>
 cases q2:x2==2 with
 | true=>
  obtain⟨s,d3,h3,k3,hs⟩:=f243 d2 k2
  have hb:l.2.2.1.length+1<=bound:=by have:=hl.len;unfold bound;omega
  refine⟨(l.1,l.2.1,l.2.2.1++[s],()),d3,go244 λn hn=>Ev.now λaA=>by unfold T244;refine qR h1 ?_;refine qR h2 ?_;refine qF q0 ?_;refine qF q1 ?_;refine qT q2 ?_;refine qR h3 ?_;refine qP hb ?_;rfl,k3,⟨?_,λr hr=>?_⟩⟩
  ·show(l.2.2.1++[s]).length<=7;rw[List.length_append,List.length_singleton];have:=hl.len;omega
  ·rcases List.mem_append.1 hr with hr | hr
   ·exact hl.st r hr
   ·rw[List.mem_singleton.1 hr];exact hs.sz (by omega)
 | false=>exact⟨l,d2,go244 λn hn=>Ev.now λaA=>by unfold T244;refine qR h1 ?_;refine qR h2 ?_;refine qF q0 ?_;refine qF q1 ?_;refine qF q2 ?_;rfl,k2,hl7⟩
end Go.Abs.Pz
namespace Go.Abs.Pz
open Go Go.Abs
theorem I0{α:Type}[Inhabited α]{n i:Nat}{x:α}(h:i<n):gt (List.replicate n x) i=x:=by
 rw[cJ (by rw[List.length_replicate];exact h),List.getElem_replicate]
def z0:aH:=((0:Int),())
theorem J1{n:Int}(h:inB n 1 5=true):eD (List.replicate n.toNat z0) n=true:=by
 have h1:=aL.1 h
 unfold eD
 simp only[Bool.and_eq_true,beq_iff_eq]
 rw[List.length_replicate]
 refine⟨h,by omega,bD.2 λi hi=>?_⟩
 rw[I0 hi];rfl
theorem z8{id n cap slots wait lim:Int}(hn:inB n 1 5=true)(hi:0<=id/\id<n)(hc:inB cap 1 8=true)(hs:inB slots 1 4=true)(hw:inB wait 1 20=true)(hl:inB lim 1 50=true):NodeOk (gJ id n cap slots wait lim):=by
 have h1:=aL.1 hn
 have h2:=aL.1 hc
 have h3:=aL.1 hs
 have hL:LogOk (cap,0,[],()):=⟨h2,by show((0:Nat):Int)<=cap;omega,by show(0:Int)<=0/\(0:Int)<=100000;omega,by show(0:Int)+((0:Nat):Int)<=100000;omega,λs h=>by cases h⟩
 have hq:cA (cap,0,[],())=0:=by rw[sH hL];rfl
 have hk:id.toNat<n.toNat:=by omega
 exact {
  n:=hn
  id:=by show inB id 0 (i64.wrap (n - 1))=true;rw[aL,IntKind.wrap_i64];omega
  state:=rfl
  tree:=by
   show(f6 (cH ([],[],())).1 (cH ([],[],())).1&&(cH ([],[],())).2.1==(cH ([],[],())).2.1)=true
   rw[j6];simp
  log:=(nN _).2 hL
  got:=J1 hn
  acked:=J1 hn
  own:=by
   show((gt (List.replicate n.toNat z0) id.toNat).1==cA (cap,0,[],()))=true
   rw[I0 hk,hq];rfl
  seen:=by
   show gI (dQ n) n=true
   have hT:TabN n.toNat (dQ n):=by
    have:=FD (n:=n.toNat) (by omega) (by omega)
    rw[show((n.toNat:Nat):Int)=n by omega] at this;exact this
   unfold gI
   simp only[Bool.and_eq_true,beq_iff_eq]
   refine⟨hn,by rw[hT.len];omega,bD.2 λi hi=>?_⟩
   rw[oG hn hi];rfl
  ack:=by
   show bI (List.replicate n.toNat z0).length _=true
   rw[bD]
   intro i hi
   show(!decide ((gt (List.replicate n.toNat z0) i).1>cA (cap,0,[],())))=true
   rw[hq,I0 (by rw[List.length_replicate] at hi;exact hi)];rfl
  num:=rfl
  clock:=rfl
  slots:=hs
  wait:=hw
  limit:=hl
  rises:=rfl
  rise:=rfl
  sess:=by
   refine(dS _).2 ⟨?_,(λs h=>by cases h),List.Pairwise.nil⟩
   show((0:Nat):Int)<=slots;omega }
theorem F5{id n cap slots wait lim:Int}(hn:inB n 1 5=true)(hi:0<=id/\id<n)(hc:inB cap 1 8=true)(hs:inB slots 1 4=true)(hw:inB wait 1 20=true)(hl:inB lim 1 50=true):pU id n cap slots wait lim=true/\qQ id n cap slots wait lim=gJ id n cap slots wait lim:=by
 have h:=(fD _).2 (z8 hn hi hc hs hw hl)
 have e:pU id n cap slots wait lim=true:=by unfold pU;rw[hn,h];rfl
 exact⟨e,by unfold qQ;rw[e];rfl⟩
end Go.Abs.Pz
set_option maxHeartbeats 2000000
namespace Go.Abs.Pz
open Go Go.Abs
structure NodD (y:NodeT):Prop where
 sz:SzN y
 n:1<=y.2.1/\y.2.1<=4
 id:0<=y.1/\y.1<y.2.1
 got:y.got.length=y.2.1.toNat
 acked:y.acked.length=y.2.1.toNat
 sess:y.sess.length<=4
 rises:y.rises.length=5
 cnt:y.num<=8/\y.clock<=8
structure NodR (m i:Nat) (y:NodeT):Prop where
 ok:NodeOk y
 sz:SzN y
 n:y.2.1=((m:Nat):Int)
 cnt:y.num<=((i:Nat):Int)/\y.clock<=((i:Nat):Int)
theorem NodR.d{m i:Nat}{y:NodeT}(h:NodR m i y)(h4:m<=4)(hi:i<=8):NodD y:=by
 have h1:=h.ok.n;have h2:=h.ok.id;have h3:=h.ok.got;have h5:=((dS y).1 h.ok.sess).1;have h6:=h.ok.slots;have h7:=eq_of_beq h.ok.rises;have h8:=h.ok.acked
 have hn:=h.n
 rw[aL] at h1 h2 h6
 rw[IntKind.wrap_i64] at h2
 unfold eD at h3 h8
 simp only[Bool.and_eq_true,beq_iff_eq] at h3 h8
 exact⟨h.sz,by omega,by omega,by omega,by omega,by omega,by omega,by have:=h.cnt;omega⟩
theorem UR(x:NodeT)(k i:Int)(t:ByteArray):(iU x k i t).1.2.1=x.2.1:=by
 unfold iU
 cases uQ x k i with
 | false=>rfl
 | true=>
  cases (fR x.state k i t).2 != 0 with
  | true=>rfl
  | false=>cases mW x.log (fR x.state k i t).1<;>rfl
theorem OL(x:NodeT)(k i:Int)(t:ByteArray):(iU x k i t).1.num=x.num/\(iU x k i t).1.clock=x.clock:=by
 unfold iU
 cases uQ x k i with
 | false=>exact⟨rfl,rfl⟩
 | true=>
  cases (fR x.state k i t).2 != 0 with
  | true=>exact⟨rfl,rfl⟩
  | false=>cases mW x.log (fR x.state k i t).1<;>exact⟨rfl,rfl⟩
theorem N4(x:NodeT)(i:Int):(iH x i).1.num<=x.num+1/\(iH x i).1.clock=x.clock:=by
 unfold iH
 cases hb:p4 x i with
 | false=>exact⟨by show x.num<=x.num+1;omega,rfl⟩
 | true=>exact⟨by show i64.wrap (x.num+1)<=x.num+1;rw[H3 (uL hb).num];omega,rfl⟩
theorem LI{x:NodeT}(h:NodeOk x):(mK x).num=x.num/\(mK x).clock<=x.clock+1:=by
 have hc:=h.clock;rw[aL] at hc
 unfold mK
 cases dU x with
 | false=>exact⟨rfl,by show x.clock<=x.clock+1;omega⟩
 | true=>
  cases x.clock==100000 with
  | true=>exact⟨rfl,by show x.clock<=x.clock+1;omega⟩
  | false=>exact⟨rfl,by show i64.wrap (x.clock+1)<=x.clock+1;rw[IntKind.wrap_i64];omega⟩
theorem UM(x:NodeT)(i:Int):(iH x i).1.2.1=x.2.1:=by unfold iH;cases p4 x i<;>rfl
theorem R5{x:NodeT}(h:NodeOk x)(i:Int):NodeOk (iH x i).1:=by
 unfold iH
 cases hb:p4 x i with
 | false=>exact h
 | true=>exact(uL hb).up
theorem RZ(x:NodeT):(mK x).2.1=x.2.1:=by unfold mK;cases dU x<;>cases x.clock==100000<;>rfl
def HR(x:NodeT)(k:Int)(ms:List aO):NodeT:=
 (x.1,x.2.1,x.2.2.1,x.2.2.2.1,x.2.2.2.2.1,x.2.2.2.2.2.1,x.2.2.2.2.2.2.1,x.2.2.2.2.2.2.2.1,x.2.2.2.2.2.2.2.2.1,x.got,x.acked,bK x.seen k ms,x.num,x.slots,x.sess,x.wait,x.limit,x.clock,x.rises,())
theorem LV{x:NodeT}(h:NodeOk x)(k:Int)(ms:List aO):NodeOk (HR x k ms):=
 ⟨h.n,h.id,h.state,h.tree,h.log,h.got,h.acked,h.own,p0 h.seen,h.ack,h.num,h.clock,h.slots,h.wait,h.limit,h.rises,h.rise,h.sess⟩
theorem LU{x:NodeT}(h:SzN x)(k:Int)(ms:List aO):SzN (HR x k ms):=
 ⟨h.state,h.leaves,h.list,h.logs,h.got,h.acked,by show(bK _ _ _).length<=aP;rw[c6];exact h.seen,λi hi=>by
  show(gt (bK x.seen k ms) i).1.length<=aP
  rw[eX];exact h.lines i (by have:i<(bK x.seen k ms).length:=hi;rw[c6] at this;exact this),h.sess,h.rises⟩
def HD(y:NodeT)(g a:List aH):NodeT:=
 (y.1,y.2.1,y.2.2.1,y.2.2.2.1,y.2.2.2.2.1,y.2.2.2.2.2.1,y.2.2.2.2.2.2.1,y.2.2.2.2.2.2.2.1,y.2.2.2.2.2.2.2.2.1,g,a,y.seen,y.num,y.slots,y.sess,y.wait,y.limit,y.clock,y.rises,())
theorem f241(c:eQ)(h:CurOk c):∃ (y:NodeT) (d:eQ),Ran p 10 241 [.ref ⟨K143,c⟩] ⟨[⟨K66,y⟩],[⟨K143,d⟩]⟩/\CurOk d/\NodD y:=by
 obtain⟨x1,d1,h1,k1,a1,b1,_⟩:=f41 c 4 h
 have c1:=b1 (by omega)
 obtain⟨m,hm⟩:∃ m:Nat,1+x1=m:=⟨(1+x1).toNat,by omega⟩
 have hw:i64.wrap (1+x1)=(m:Int):=by rw[IntKind.wrap_i64];omega
 have hm1:1<=m/\m<=4:=by omega
 obtain⟨x2,d2,h2,k2,a2,b2,_⟩:=f41 d1 (i64.wrap (1+x1)) k1
 obtain⟨x3,d3,h3,k3,e3⟩:=f98 d2 [((1:Int),()),((2:Int),()),((8:Int),())] k2 (by show 0<3;omega)
 obtain⟨x4,d4,h4,k4,a4,b4,_⟩:=f41 d3 3 k3
 obtain⟨x5,d5,h5,k5,a5,b5,_⟩:=f41 d4 5 k4
 obtain⟨x6,d6,h6,k6,a6,b6,_⟩:=f41 d5 6 k5
 obtain⟨x8,d8,h8,k8,a8,b8,_⟩:=f41 d6 8 k6
 have h7:=f193 x2 (i64.wrap (1+x1)) x3 (i64.wrap (1+x4)) (i64.wrap (1+x5)) (i64.wrap (1+x6))
 have w4:i64.wrap (1+x4)=1+x4:=by have:=b4 (by omega);rw[IntKind.wrap_i64];omega
 have w5:i64.wrap (1+x5)=1+x5:=by have:=b5 (by omega);rw[IntKind.wrap_i64];omega
 have w6:i64.wrap (1+x6)=1+x6:=by have:=b6 (by omega);rw[IntKind.wrap_i64];omega
 have c2:=b2 (by rw[hw];omega)
 have c3:inB x3 1 8=true:=by
  simp only[List.mem_cons,List.not_mem_nil,or_false,Prod.mk.injEq,and_true] at e3
  rw[aL];omega
 have hB:inB (i64.wrap (1+x1)) 1 5=true:=by rw[hw,aL];omega
 have hNN:=F5 (id:=x2) (n:=i64.wrap (1+x1)) (cap:=x3) (slots:=i64.wrap (1+x4)) (wait:=i64.wrap (1+x5)) (lim:=i64.wrap (1+x6)) hB ⟨a2,c2⟩ c3
  (by rw[w4,aL];have:=b4 (by omega);omega) (by rw[w5,aL];have:=b5 (by omega);omega) (by rw[w6,aL];have:=b6 (by omega);omega)
 have hN0:=z8 (id:=x2) (n:=i64.wrap (1+x1)) (cap:=x3) (slots:=i64.wrap (1+x4)) (wait:=i64.wrap (1+x5)) (lim:=i64.wrap (1+x6)) hB ⟨a2,c2⟩ c3
  (by rw[w4,aL];have:=b4 (by omega);omega) (by rw[w5,aL];have:=b5 (by omega);omega) (by rw[w6,aL];have:=b6 (by omega);omega)
 have hZ0:=tL x2 (i64.wrap (1+x1)) x3 (i64.wrap (1+x4)) (i64.wrap (1+x5)) (i64.wrap (1+x6)) hB
 have hcnt0:(gJ x2 (i64.wrap (1+x1)) x3 (i64.wrap (1+x4)) (i64.wrap (1+x5)) (i64.wrap (1+x6))).num<=((0:Nat):Int)/\(gJ x2 (i64.wrap (1+x1)) x3 (i64.wrap (1+x4)) (i64.wrap (1+x5)) (i64.wrap (1+x6))).clock<=((0:Nat):Int):=⟨Int.le_refl _,Int.le_refl _⟩
 have hn0:(gJ x2 (i64.wrap (1+x1)) x3 (i64.wrap (1+x4)) (i64.wrap (1+x5)) (i64.wrap (1+x6))).2.1=((m:Nat):Int):=hw
 generalize gJ x2 (i64.wrap (1+x1)) x3 (i64.wrap (1+x4)) (i64.wrap (1+x5)) (i64.wrap (1+x6))=y0 at hNN hN0 hZ0 hn0 hcnt0
 let Good:Out->Prop:=λo=>∃ (y:NodeT) (d:eQ),o=⟨[⟨K66,y⟩],[⟨K143,d⟩]⟩/\CurOk d/\NodD y
 have second:∀ (y:NodeT) (d:eQ),NodR m 8 y->CurOk d->∃ o,Good o/\∀ n,10 - 1<=n->It (λaA (_:Unit)=>c241_18 (aI p n) aA (((x1,()),()),(d1,())) y.1 y.clock y.2.2.1 y.2.2.2.1 y.2.2.2.2.1 y.log.2.2.1 y.seen y.sess y.rises y.2.1 y.2.2.2.2.2.1 y.log.1 y.log.2.1 y.num y.slots y.wait y.limit) ((0:Int),y.got,y.acked,d.1,d.2.1,d.2.2.1) (λ_=>some o):=by
  intro y d hy hd
  have D:=hy.d hm1.2 (Nat.le_refl _)
  have hlog:=f115 y.log hy.sz.list hy.sz.logs
  have lenm:y.got.length=m/\y.acked.length=m:=by have h1:=D.got;have h2:=D.acked;have h3:=hy.n;omega
  refine It.ex (c:=λn aA (_:Unit)=>c241_18 (aI p n) aA (((x1,()),()),(d1,())) y.1 y.clock y.2.2.1 y.2.2.2.1 y.2.2.2.2.1 y.log.2.2.1 y.seen y.sess y.rises y.2.1 y.2.2.2.2.2.1 y.log.1 y.log.2.1 y.num y.slots y.wait y.limit) (λi z=>∃ (g a:List aH) (d:eQ),z=((i:Int),g,a,d.1,d.2.1,d.2.2.1)/\CurOk d/\g.length=m/\a.length=m) Good m ?_ ?_ m 0 _ (by omega) ⟨y.got,y.acked,d,rfl,hd,lenm.1,lenm.2⟩
  ·rintro i z hi ⟨g,a,d,rfl,hd,hg,ha⟩
   have gi:i<g.length:=by omega
   have ai:i<a.length:=by omega
   cases q:(i:Int) != y.1 with
   | true=>
    obtain⟨x23,d23,h23,k23,_⟩:=f41 d 4 hd
    obtain⟨x26,d26,h26,k26,_⟩:=f41 d23 (i64.wrap (cA y.log+1)) k23
    refine⟨_,⟨g.set i (x23,()),a.set i (x26,()),d26,rfl,k26,by rw[List.length_set];exact hg,by rw[List.length_set];exact ha⟩,λn hn aA u rec=>?_⟩
    unfold c241_18;dsimp only;rw[aF (show i<9223372036854775807 by omega)];refine qP (show(i:Int)<i64.wrap (1+x1) by rw[hw];omega) ?_
    (first | refine qT q ?_ | refine qt ?_);refine qR h23 ?_;refine qz ?_;refine(aD gi).trans ?_;refine(aD gi).trans ?_;refine qC hlog ?_;refine qR h26 ?_;refine qz ?_;refine(aD ai).trans ?_;refine(aD ai).trans ?_;rfl
   | false=>
    obtain⟨x26,d26,h26,k26,_⟩:=f41 d (i64.wrap (cA y.log+1)) hd
    refine⟨_,⟨g,a.set i (x26,()),d26,rfl,k26,hg,by rw[List.length_set];exact ha⟩,λn hn aA u rec=>?_⟩
    unfold c241_18;dsimp only;rw[aF (show i<9223372036854775807 by omega)];refine qP (show(i:Int)<i64.wrap (1+x1) by rw[hw];omega) ?_
    (first | refine qF q ?_ | refine qf ?_);refine qC hlog ?_;refine qR h26 ?_;refine qz ?_;refine(aD ai).trans ?_;refine(aD ai).trans ?_;rfl
  ·rintro z ⟨g,a,d,rfl,hd,hg,ha⟩
   have hsm:m<=aP:=by unfold aP;omega
   have hz:SzN (HD y g a):=⟨hy.sz.state,hy.sz.leaves,hy.sz.list,hy.sz.logs,by show g.length<=aP;omega,by show a.length<=aP;omega,hy.sz.seen,hy.sz.lines,hy.sz.sess,hy.sz.rises⟩
   have hn1:=hy.n
   refine⟨_,⟨HD y g a,d,rfl,hd,⟨hz,D.n,D.id,by show g.length=y.2.1.toNat;omega,by show a.length=y.2.1.toNat;omega,D.sess,D.rises,D.cnt⟩⟩,λn hn=>It.stop λaA u rec=>?_⟩
   unfold c241_18;refine qN (show ¬ (m:Int)<i64.wrap (1+x1) by rw[hw];omega) ?_;rfl
 obtain⟨t,rfl⟩:∃ t:Nat,x8=t:=⟨x8.toNat,by omega⟩
 have ht:=b8 (by omega)
 have first:=It.ex (lvl:=10 - 1) (c:=λn aA (_:Unit)=>c241_5 (aI p n) aA (((x1,()),()),(d1,())) ((((t:Int),()),()),(d8,()))) (λi z=>∃ (y:NodeT) (d:eQ),z=((i:Int),y.1,y.2.1,y.2.2.2.2.2.1,y.log.1,y.log.2.1,y.num,y.slots,y.wait,y.limit,y.clock,y.2.2.1,y.2.2.2.1,y.2.2.2.2.1,y.log.2.2.1,y.got,y.acked,y.seen,y.sess,y.rises,d.1,d.2.1,d.2.2.1)/\CurOk d/\NodR m i y) Good t (by
  rintro i z hi ⟨y,d,rfl,hd,hy⟩
  obtain⟨x9,d9,h9,k9,_⟩:=f41 d 6 hd
  cases q0:x9==0 with
  | true=>
   obtain⟨s,d10,h10,k10,hs,ho⟩:=f304 d9 k9
   have h11:=f227 y s hy.sz (hs.sz (by omega)) (DS hy.ok) ho
   refine⟨_,⟨jN y s,d10,rfl,k10,⟨hy.ok.take ho,lT hy.sz s,hy.n,by have:=hy.cnt;exact⟨by show y.num<=_;omega,by show y.clock<=_;omega⟩⟩⟩,λn hn aA u rec=>?_⟩
   unfold c241_5;dsimp only;rw[aF (show i<9223372036854775807 by omega)];refine qP (show(i:Int)<(t:Int) by omega) ?_;refine qR h9 ?_;refine qT q0 ?_;refine qR h10 ?_;refine qC h11 ?_;rfl
  | false=>
  cases q1:x9==1 with
  | true=>
   have h11:=f135 y hy.sz
   refine⟨_,⟨mK y,d9,rfl,k9,⟨N0 hy.ok,FB hy.sz,by rw[RZ];exact hy.n,by have h1:=hy.cnt;have h2:=LI hy.ok;omega⟩⟩,λn hn aA u rec=>?_⟩
   unfold c241_5;dsimp only;rw[aF (show i<9223372036854775807 by omega)];refine qP (show(i:Int)<(t:Int) by omega) ?_;refine qR h9 ?_;refine qF q0 ?_;refine qT q1 ?_;refine qC h11 ?_;rfl
  | false=>
  cases q2:x9==2 with
  | true=>
   obtain⟨x13,d13,h13,k13,_⟩:=f41 d9 (i64.wrap (1+x1)) k9
   obtain⟨s,d14,h14,k14,hs,ho⟩:=f304 d13 k13
   have h15:=f298 s (hs.sz (by omega))
   have h16:=f297 y.seen x13 (c7 s) hy.sz.seen hy.sz.lines (Nat.le_trans (fS s) (by decide))
   refine⟨_,⟨HR y x13 (c7 s),d14,rfl,k14,⟨LV hy.ok _ _,LU hy.sz _ _,hy.n,by have:=hy.cnt;exact⟨by show y.num<=_;omega,by show y.clock<=_;omega⟩⟩⟩,λn hn aA u rec=>?_⟩
   unfold c241_5;dsimp only;rw[aF (show i<9223372036854775807 by omega)];refine qP (show(i:Int)<(t:Int) by omega) ?_;refine qR h9 ?_;refine qF q0 ?_;refine qF q1 ?_;refine qT q2 ?_;refine qR h13 ?_;refine qR h14 ?_;refine qC h15 ?_;refine qC h16 ?_;rfl
  | false=>
  cases q3:x9==3 with
  | true=>
   obtain⟨x17,d17,h17,k17,_⟩:=f41 d9 (i64.wrap (1+x1)) k9
   have h18:=f138 y x17 hy.sz
   refine⟨_,⟨(iH y x17).1,d17,rfl,k17,⟨R5 hy.ok _,(DX hy.sz _).1,by rw[UM];exact hy.n,by have h1:=hy.cnt;have h2:=N4 y x17;omega⟩⟩,λn hn aA u rec=>?_⟩
   unfold c241_5;dsimp only;rw[aF (show i<9223372036854775807 by omega)];refine qP (show(i:Int)<(t:Int) by omega) ?_;refine qR h9 ?_;refine qF q0 ?_;refine qF q1 ?_;refine qF q2 ?_;refine qT q3 ?_;refine qR h17 ?_;refine qE h18 ?_;rfl
  | false=>
   obtain⟨x19,d19,h19,k19,_⟩:=f41 d9 5 k9
   obtain⟨x20,d20,h20,k20,_⟩:=f41 d19 (i64.wrap (1+x1)) k19
   obtain⟨x21,d21,h21,k21,_⟩:=f160 d20 [((⟨#[]⟩:ByteArray),()),((⟨#[120]⟩:ByteArray),()),((⟨#[121,122]⟩:ByteArray),())] k20 (by show 0<3;omega)
   have h22:=f136 y x19 x20 x21 hy.sz
   refine⟨_,⟨(iU y x19 x20 x21).1,d21,rfl,k21,⟨SG hy.ok _ _ _,J6 hy.sz _ _ _,by rw[UR];exact hy.n,by have h1:=hy.cnt;have h2:=OL y x19 x20 x21;omega⟩⟩,λn hn aA u rec=>?_⟩
   unfold c241_5;dsimp only;rw[aF (show i<9223372036854775807 by omega)];refine qP (show(i:Int)<(t:Int) by omega) ?_;refine qR h9 ?_;refine qF q0 ?_;refine qF q1 ?_;refine qF q2 ?_;refine qF q3 ?_;refine qR h19 ?_;refine qR h20 ?_;refine qR h21 ?_;refine qE h22 ?_;rfl) (by
  rintro z ⟨y,d,rfl,hd,hy⟩
  obtain⟨o,ho,hL⟩:=second y d ⟨hy.ok,hy.sz,hy.n,by have:=hy.cnt;omega⟩ hd
  refine⟨o,ho,λn hn=>It.stopE (T:=λaA _=>iter (c241_18 (aI p n) aA (((x1,()),()),(d1,())) y.1 y.clock y.2.2.1 y.2.2.2.1 y.2.2.2.2.1 y.log.2.2.1 y.seen y.sess y.rises y.2.1 y.2.2.2.2.2.1 y.log.1 y.log.2.1 y.num y.slots y.wait y.limit) aA ((0:Int),y.got,y.acked,d.1,d.2.1,d.2.2.1)) (λaA u rec=>?_) (hL n hn).all_i⟩
  unfold c241_5;refine qe ?_;rfl)
 obtain⟨o,⟨y,d,rfl,hd,hy⟩,hL⟩:=first t 0 ((0:Int),y0.1,y0.2.1,y0.2.2.2.2.2.1,y0.log.1,y0.log.2.1,y0.num,y0.slots,y0.wait,y0.limit,y0.clock,y0.2.2.1,y0.2.2.2.1,y0.2.2.2.2.1,y0.log.2.2.1,y0.got,y0.acked,y0.seen,y0.sess,y0.rises,d8.1,d8.2.1,d8.2.2.1) (by omega) ⟨y0,d8,rfl,k8,⟨hN0,hZ0,hn0,hcnt0⟩⟩
 rw[hNN.2] at h7
 exact⟨y,d,go241 λn hn=>Ev.eq (λaA=>by unfold T241;refine qR h1 ?_;refine qR h2 ?_;refine qR h3 ?_;refine qR h4 ?_;refine qR h5 ?_;refine qR h6 ?_;refine qD h7 ?_;refine qR h8 ?_;rfl) ((hL n (by omega)).ev (i:=()) rfl),hd,hy⟩
end Go.Abs.Pz
set_option maxHeartbeats 2000000
namespace Go.Abs.Pz
open Go Go.Abs
structure NodX (y:NodeT):Prop where
 sz:SzN y
 n:1<=y.2.1/\y.2.1<=4
 sess:y.sess.length<=5
 cnt:y.num<=8/\y.clock<=8
theorem f159(c:eQ)(h:CurOk c):∃ (y:NodeT) (d:eQ),Ran p 11 159 [.ref ⟨K143,c⟩] ⟨[⟨K66,y⟩],[⟨K143,d⟩]⟩/\CurOk d/\NodX y:=by
 obtain⟨y,d1,h1,k1,D⟩:=f241 c h
 obtain⟨x2,d2,h2,k2,_⟩:=f41 d1 18 k1
 have z:=D.sz
 have s5:y.sess.length<=5:=Nat.le_succ_of_le D.sess
 cases q0:x2==0 with
 | true=>
  obtain⟨x3,d3,h3,k3,_⟩:=f98 d2 [((-1:Int),()),(y.2.1,())] k2 (by show 0<2;omega)
  exact⟨(x3,y.2),d3,go159 λn hn=>Ev.now λaA=>by unfold T159;refine qR h1 ?_;refine qR h2 ?_;refine qT q0 ?_;refine qR h3 ?_;rfl,k3,⟨⟨z.state,z.leaves,z.list,z.logs,z.got,z.acked,z.seen,z.lines,z.sess,z.rises⟩,D.n,s5,D.cnt⟩⟩
 | false=>
 cases q1:x2==1 with
 | true=>
  exact⟨(y.1,y.2.1,y.2.2.1,y.2.2.2.1,y.2.2.2.2.1,i64.wrap (y.2.2.2.2.2.1+1),y.2.2.2.2.2.2),d2,go159 λn hn=>Ev.now λaA=>by unfold T159;refine qR h1 ?_;refine qR h2 ?_;refine qF q0 ?_;refine qT q1 ?_;rfl,k2,⟨⟨z.state,z.leaves,z.list,z.logs,z.got,z.acked,z.seen,z.lines,z.sess,z.rises⟩,D.n,s5,D.cnt⟩⟩
 | false=>
 cases q2:x2==2 with
 | true=>
  have h0:=D.id.1
  have hk:y.1.toNat<y.got.length:=by have h3:=D.id;have h4:=D.got;omega
  refine⟨HD y (y.got.set y.1.toNat (i64.wrap ((gt y.got y.1.toNat).1+1),())) y.acked,d2,go159 λn hn=>Ev.now λaA=>by unfold T159;refine qR h1 ?_;refine qR h2 ?_;refine qF q0 ?_;refine qF q1 ?_;refine qT q2 ?_;refine qP h0 ?_;refine(a9 hk).trans ?_;refine(a9 hk).trans ?_;refine qP h0 ?_;refine(a9 hk).trans ?_;refine(a9 hk).trans ?_;rfl,k2,⟨⟨z.state,z.leaves,z.list,z.logs,?_,z.acked,z.seen,z.lines,z.sess,z.rises⟩,D.n,s5,D.cnt⟩⟩
  show(List.set _ _ _).length<=aP;rw[List.length_set];exact z.got
 | false=>
 cases q3:x2==3 with
 | true=>
  obtain⟨t,d3,h3,k3,ht⟩:=f242 d2 k2
  exact⟨(y.1,y.2.1,y.2.2.1,y.2.2.2.1,y.2.2.2.2.1,y.2.2.2.2.2.1,y.2.2.2.2.2.2.1,y.2.2.2.2.2.2.2.1,y.2.2.2.2.2.2.2.2.1,y.got,y.acked,t,y.num,y.slots,y.sess,y.wait,y.limit,y.clock,y.rises,()),d3,go159 λn hn=>Ev.now λaA=>by unfold T159;refine qR h1 ?_;refine qR h2 ?_;refine qF q0 ?_;refine qF q1 ?_;refine qF q2 ?_;refine qT q3 ?_;refine qR h3 ?_;rfl,k3,⟨⟨z.state,z.leaves,z.list,z.logs,z.got,z.acked,ht.sz.1,ht.sz.2,z.sess,z.rises⟩,D.n,s5,D.cnt⟩⟩
 | false=>
 cases q4:x2==4 with
 | true=>
  obtain⟨x3,d3,h3,k3,_⟩:=f98 d2 [((0:Int),()),((5:Int),())] k2 (by show 0<2;omega)
  exact⟨(y.1,y.2.1,y.2.2.1,y.2.2.2.1,y.2.2.2.2.1,y.2.2.2.2.2.1,y.2.2.2.2.2.2.1,y.2.2.2.2.2.2.2.1,y.2.2.2.2.2.2.2.2.1,y.got,y.acked,y.seen,y.num,x3,y.sess,y.wait,y.limit,y.clock,y.rises,()),d3,go159 λn hn=>Ev.now λaA=>by unfold T159;refine qR h1 ?_;refine qR h2 ?_;refine qF q0 ?_;refine qF q1 ?_;refine qF q2 ?_;refine qF q3 ?_;refine qT q4 ?_;refine qR h3 ?_;rfl,k3,⟨⟨z.state,z.leaves,z.list,z.logs,z.got,z.acked,z.seen,z.lines,z.sess,z.rises⟩,D.n,s5,D.cnt⟩⟩
 | false=>
 cases q5:x2==5 with
 | true=>
  obtain⟨x8,d8,h8,k8,_⟩:=f41 d2 6 k2
  obtain⟨b9,d9,h9,k9⟩:=f69 d8 2 k8
  obtain⟨x10,d10,h10,k10,_⟩:=f41 d9 9 k9
  have hb:y.sess.length+1<=bound:=by have:=D.sess;unfold bound;omega
  have hl:(y.sess++[(i64.wrap (x8 - 1),(1:Int),b9,x10,())]).length<=5:=by rw[List.length_append,List.length_singleton];have:=D.sess;omega
  exact⟨withS y (y.sess++[(i64.wrap (x8 - 1),(1:Int),b9,x10,())]),d10,go159 λn hn=>Ev.now λaA=>by unfold T159;refine qR h1 ?_;refine qR h2 ?_;refine qF q0 ?_;refine qF q1 ?_;refine qF q2 ?_;refine qF q3 ?_;refine qF q4 ?_;refine qT q5 ?_;refine qR h8 ?_;refine qR h9 ?_;refine qR h10 ?_;refine qP hb ?_;rfl,k10,⟨uE z (Nat.le_trans hl (by decide)),D.n,hl,D.cnt⟩⟩
 | false=>
 cases q6:x2==6 with
 | true=>
  obtain⟨s,d3,h3,k3,hs⟩:=f243 d2 k2
  exact⟨(y.1,y.2.1,s.1,s.2.1,y.2.2.2.2),d3,go159 λn hn=>Ev.now λaA=>by unfold T159;refine qR h1 ?_;refine qR h2 ?_;refine qF q0 ?_;refine qF q1 ?_;refine qF q2 ?_;refine qF q3 ?_;refine qF q4 ?_;refine qF q5 ?_;refine qT q6 ?_;refine qR h3 ?_;rfl,k3,⟨⟨hs.sz (by omega),z.leaves,z.list,z.logs,z.got,z.acked,z.seen,z.lines,z.sess,z.rises⟩,D.n,s5,D.cnt⟩⟩
 | false=>
 cases q7:x2==7 with
 | true=>
  have hr:0<y.rises.length:=by rw[D.rises];omega
  refine⟨(y.1,y.2.1,y.2.2.1,y.2.2.2.1,y.2.2.2.2.1,y.2.2.2.2.2.1,y.2.2.2.2.2.2.1,y.2.2.2.2.2.2.2.1,y.2.2.2.2.2.2.2.2.1,y.got,y.acked,y.seen,y.num,y.slots,y.sess,y.wait,y.limit,y.clock,y.rises.set 0 ((gt y.rises 0).1,(gt y.rises 0).2.1,i64.wrap (y.clock+1),(gt y.rises 0).2.2.2),()),d2,go159 λn hn=>Ev.now λaA=>by unfold T159;refine qR h1 ?_;refine qR h2 ?_;refine qF q0 ?_;refine qF q1 ?_;refine qF q2 ?_;refine qF q3 ?_;refine qF q4 ?_;refine qF q5 ?_;refine qF q6 ?_;refine qT q7 ?_;refine qP (show(0:Int)<=0 by omega) ?_;refine(a9 hr).trans ?_;refine(a9 hr).trans ?_;rfl,k2,⟨⟨z.state,z.leaves,z.list,z.logs,z.got,z.acked,z.seen,z.lines,z.sess,?_⟩,D.n,s5,D.cnt⟩⟩
  show(List.set _ _ _).length<=aP;rw[List.length_set];exact z.rises
 | false=>
 cases q8:x2==8 with
 | true=>
  obtain⟨l,d3,h3,k3,hl⟩:=f244 d2 k2
  have hz:=hl.sz (by omega)
  exact⟨(y.1,y.2.1,y.2.2.1,y.2.2.2.1,y.2.2.2.2.1,y.2.2.2.2.2.1,l.1,l.2.1,l.2.2.1,y.got,y.acked,y.seen,y.num,y.slots,y.sess,y.wait,y.limit,y.clock,y.rises,()),d3,go159 λn hn=>Ev.now λaA=>by unfold T159;refine qR h1 ?_;refine qR h2 ?_;refine qF q0 ?_;refine qF q1 ?_;refine qF q2 ?_;refine qF q3 ?_;refine qF q4 ?_;refine qF q5 ?_;refine qF q6 ?_;refine qF q7 ?_;refine qT q8 ?_;refine qR h3 ?_;rfl,k3,⟨⟨z.state,z.leaves,hz.1,hz.2,z.got,z.acked,z.seen,z.lines,z.sess,z.rises⟩,D.n,s5,D.cnt⟩⟩
 | false=>exact⟨y,d2,go159 λn hn=>Ev.now λaA=>by unfold T159;refine qR h1 ?_;refine qR h2 ?_;refine qF q0 ?_;refine qF q1 ?_;refine qF q2 ?_;refine qF q3 ?_;refine qF q4 ?_;refine qF q5 ?_;refine qF q6 ?_;refine qF q7 ?_;refine qF q8 ?_;rfl,k2,⟨z,D.n,s5,D.cnt⟩⟩
end Go.Abs.Pz
/- Deeds as drawn; drawn worlds. -/
namespace Go.Abs.Pz
open Go Go.Abs
theorem f70(c:eQ)(w:aV)(h:CurOk c):∃ (d:fO) (e:eQ),Ran p 4 70 [.ref ⟨K143,c⟩, va K28 w] ⟨[⟨K36,d⟩],[⟨K143,e⟩]⟩/\CurOk e:=by
 obtain⟨k,c1,h1,k1,_⟩:=f98 c [((0:Int),()),((0:Int),()),((0:Int),()),((1:Int),()),((2:Int),()),((2:Int),()),((3:Int),()),((3:Int),()),((4:Int),()),((4:Int),()),((4:Int),()),((4:Int),()),((4:Int),()),((4:Int),()),((5:Int),()),((6:Int),()),((7:Int),())] h (by show 0<17;omega)
 obtain⟨a,c2,h2,k2,_⟩:=f41 c1 (w.1.length:Int) k1
 obtain⟨a',c3,h3,k3,_⟩:=f41 c2 (mxI true (w.2.1.length:Int) 1) k2
 cases q0:k==0 with
 | true=>
  obtain⟨b,d1,g1,l1,_⟩:=f98 c2 [((0:Int),()),((0:Int),()),((1:Int),()),((1:Int),()),((1:Int),()),((2:Int),()),((3:Int),()),((4:Int),())] k2 (by show 0<8;omega)
  cases q4:b==4 with
  | true=>
   obtain⟨v,d2,g2,l2,_⟩:=f41 d1 (w.1.length:Int) l1
   obtain⟨t,d3,g3,l3,_⟩:=f160 d2 [((⟨#[]⟩:ByteArray),()),((⟨#[120]⟩:ByteArray),()),((⟨#[121,122]⟩:ByteArray),())] l2 (by show 0<3;omega)
   exact⟨(k,a,b,v,t,()),d3,go70 λn hn=>Ev.now λaA=>by unfold T70;refine qR h1 ?_;refine qR h2 ?_;refine qT q0 ?_;refine qR g1 ?_;refine qT q4 ?_;refine qR g2 ?_;refine qR g3 ?_;rfl,l3⟩
  | false=>
   obtain⟨t,d3,g3,l3,_⟩:=f160 d1 [((⟨#[]⟩:ByteArray),()),((⟨#[120]⟩:ByteArray),()),((⟨#[121,122]⟩:ByteArray),())] l1 (by show 0<3;omega)
   exact⟨(k,a,b,a,t,()),d3,go70 λn hn=>Ev.now λaA=>by unfold T70;refine qR h1 ?_;refine qR h2 ?_;refine qT q0 ?_;refine qR g1 ?_;refine qF q4 ?_;refine qR g3 ?_;rfl,l3⟩
 | false=>
 obtain⟨x,d1,g1,l1,_⟩:=f41 c2 (w.1.length:Int) k2
 cases q2:k==2 with
 | true=>exact⟨(k,a,x,0,⟨#[]⟩,()),d1,go70 λn hn=>Ev.now λaA=>by unfold T70;refine qR h1 ?_;refine qR h2 ?_;refine qF q0 ?_;refine qT q2 ?_;refine qT q2 ?_;refine qR g1 ?_;rfl,l1⟩
 | false=>
 cases q3:k==3 with
 | true=>exact⟨(k,a,x,0,⟨#[]⟩,()),d1,go70 λn hn=>Ev.now λaA=>by unfold T70;refine qR h1 ?_;refine qR h2 ?_;refine qF q0 ?_;refine qF q2 ?_;refine qT q3 ?_;refine qR g1 ?_;rfl,l1⟩
 | false=>
 have hm:=f161 (w.2.1.length:Int) 1
 cases q4:k==4 with
 | true=>exact⟨(k,a',0,0,⟨#[]⟩,()),c3,go70 λn hn=>Ev.now λaA=>by unfold T70;refine qR h1 ?_;refine qR h2 ?_;refine qF q0 ?_;refine qF q2 ?_;refine qF q3 ?_;refine qT q4 ?_;refine qT q4 ?_;refine qC hm ?_;refine qR h3 ?_;rfl,k3⟩
 | false=>
 cases q5:k==5 with
 | true=>exact⟨(k,a',0,0,⟨#[]⟩,()),c3,go70 λn hn=>Ev.now λaA=>by unfold T70;refine qR h1 ?_;refine qR h2 ?_;refine qF q0 ?_;refine qF q2 ?_;refine qF q3 ?_;refine qF q4 ?_;refine qT q5 ?_;refine qT q5 ?_;refine qC hm ?_;refine qR h3 ?_;rfl,k3⟩
 | false=>
 cases q6:k==6 with
 | true=>exact⟨(k,a',0,0,⟨#[]⟩,()),c3,go70 λn hn=>Ev.now λaA=>by unfold T70;refine qR h1 ?_;refine qR h2 ?_;refine qF q0 ?_;refine qF q2 ?_;refine qF q3 ?_;refine qF q4 ?_;refine qF q5 ?_;refine qT q6 ?_;refine qC hm ?_;refine qR h3 ?_;rfl,k3⟩
 | false=>
 cases q7:k==7 with
 | true=>
  obtain⟨b,d2,g2,l2,_⟩:=f41 c3 40 k3
  obtain⟨v,d3,g3,l3,_⟩:=f41 d2 255 l2
  exact⟨(k,a',b,i64.wrap (1+v),⟨#[]⟩,()),d3,go70 λn hn=>Ev.now λaA=>by unfold T70;refine qR h1 ?_;refine qR h2 ?_;refine qF q0 ?_;refine qF q2 ?_;refine qF q3 ?_;refine qF q4 ?_;refine qF q5 ?_;refine qF q6 ?_;refine qT q7 ?_;refine qC hm ?_;refine qR h3 ?_;refine qR g2 ?_;refine qR g3 ?_;rfl,l3⟩
 | false=>exact⟨(k,a,0,0,⟨#[]⟩,()),c2,go70 λn hn=>Ev.now λaA=>by unfold T70;refine qR h1 ?_;refine qR h2 ?_;refine qF q0 ?_;refine qF q2 ?_;refine qF q3 ?_;refine qF q4 ?_;refine qF q5 ?_;refine qF q6 ?_;refine qF q7 ?_;rfl,k2⟩
end Go.Abs.Pz
/- Drawn worlds. -/
namespace Go.Abs.Pz
open Go Go.Abs
theorem GW(w:aV)(d:fO):(cM w d).1.1.length=w.1.length:=by
 unfold cM
 cases d.1==1<;>cases d.1==0<;>cases (w.2.2.1.length:Int)==40<;>cases (w.2.1.length:Int)==12<;>cases d.1==2<;>
  cases (iU (gt w.1 d.2.1.toNat) d.2.2.1 d.2.2.2.1 d.2.2.2.2.1).2.2 != 0<;>cases (i8 (gt w.1 d.2.1.toNat) d.2.2.1).2<;>cases (iH (gt w.1 d.2.1.toNat) d.2.2.1).2.2<;>first | rfl | exact List.length_set
theorem PK(w:aV)(d:fO):(gN w d).1.1.length=w.1.length:=by
 unfold gN
 cases d.1==4<;>cases d.1==5<;>cases d.1==6<;>cases (w.2.1.length:Int)==12<;>cases fF w d<;>first | rfl | exact List.length_set
theorem TK(w:aV)(d:fO):(doW w d).1.1.length=w.1.length:=by
 unfold doW
 cases !cE w<;>cases !inB d.1 0 7<;>cases decide (d.1<=3)<;>cases !inB d.2.1 0 (i64.wrap ((w.1.length:Int) - 1))<;>cases !inB d.2.1 0 (i64.wrap ((w.2.1.length:Int) - 1))<;>
  first | rfl | exact GW w d | exact PK w d
theorem NT{m:Nat}{cap slots wait lim:Int}(hm:1<=m/\m<=4)(hc:inB cap 1 8=true)(hs:inB slots 1 4=true)(hw:inB wait 1 20=true)(hl:inB lim 1 50=true):BT (m:Int) cap slots wait lim=true:=by
 have hcnt:cZ (m:Int)=m:=by unfold cZ;omega
 have hlen:(eK (m:Int) cap slots wait lim (cZ (m:Int))).length=m:=by rw[gU,hcnt]
 unfold BT cE
 simp only[Bool.and_eq_true,bD]
 refine⟨?_,rfl,rfl,λi hi=>?_,λi hi=>absurd hi (Nat.not_lt_zero _),λi hi=>absurd hi (Nat.not_lt_zero _)⟩
 ·rw[aL];show 1<=(((eK (m:Int) cap slots wait lim (cZ (m:Int))).length:Nat):Int)/\(((eK (m:Int) cap slots wait lim (cZ (m:Int))).length:Nat):Int)<=5
  rw[hlen];omega
 ·have hi':i<cZ (m:Int):=by rw[hcnt];rw[show(wnW (m:Int) cap slots wait lim).1.length=m from hlen] at hi;exact hi
  have hy:=F5 (id:=(i:Int)) (n:=(m:Int)) (cap:=cap) (slots:=slots) (wait:=wait) (lim:=lim) (by rw[aL];omega) (by omega) hc hs hw hl
  have hg:gt (wnW (m:Int) cap slots wait lim).1 i=gJ (i:Int) (m:Int) cap slots wait lim:=by
   rw[show gt (wnW (m:Int) cap slots wait lim).1 i=_ from tK (m:Int) cap slots wait lim hi',hy.2]
  have h1:=hy.1
  unfold pU at h1
  simp only[Bool.and_eq_true] at h1
  unfold kK
  rw[hg,h1.2,show(wnW (m:Int) cap slots wait lim).1.length=m from hlen]
  simp[gJ]
def Few(w:aV):Prop:=w.2.1.length<=12/\w.2.2.1.length<=40
theorem HA{rs:List bM}:∀ (k i:Nat) (net:List dD),net.length<=12->(sN rs k i net).length<=12
 | 0,i,net,hl=>hl
 | k+1,i,net,hl=>by
  unfold sN
  by_cases h12:(net.length:Int)<12
  ·rw[decide_eq_true h12];exact HA k (i+1) _ (by rw[List.length_append,List.length_singleton];omega)
  ·rw[decide_eq_false h12];exact hl
theorem ER{α:Type}{l:List α}{n:Nat}{x:α}(h:l.length<=n)(g:((l.length:Int)==(n:Int))=false):(l++[x]).length<=n:=by
 rw[beq_eq_false_iff_ne] at g;rw[List.length_append,List.length_singleton];omega
theorem TL{w:aV}(d:fO)(h:Few w):Few (doW w d).1:=by
 have hA:Few (cM w d).1:=by
  unfold cM
  cases d.1==1 with
  | true=>exact h
  | false=>
  cases d.1==0 with
  | true=>
   cases g:(w.2.2.1.length:Int)==40 with
   | true=>exact h
   | false=>cases (iU (gt w.1 d.2.1.toNat) d.2.2.1 d.2.2.2.1 d.2.2.2.2.1).2.2 != 0 with
    | true=>exact h
    | false=>exact⟨h.1,ER h.2 g⟩
  | false=>
  cases g:(w.2.1.length:Int)==12 with
  | true=>exact h
  | false=>
  cases d.1==2 with
  | true=>cases (i8 (gt w.1 d.2.1.toNat) d.2.2.1).2 with
   | false=>exact h
   | true=>exact⟨ER h.1 g,h.2⟩
  | false=>cases (iH (gt w.1 d.2.1.toNat) d.2.2.1).2.2 with
   | false=>exact h
   | true=>exact⟨ER h.1 g,h.2⟩
 have hB:Few (gN w d).1:=by
  unfold gN
  cases d.1==4 with
  | true=>exact⟨HA _ _ _ (Nat.le_trans (i7 _ _) h.1),h.2⟩
  | false=>
  cases d.1==5 with
  | true=>exact⟨Nat.le_trans (i7 _ _) h.1,h.2⟩
  | false=>
  cases d.1==6 with
  | true=>
   cases g:(w.2.1.length:Int)==12 with
   | true=>exact h
   | false=>exact⟨ER h.1 g,h.2⟩
  | false=>
  cases fF w d with
  | true=>exact h
  | false=>exact⟨by show(List.set _ _ _).length<=12;rw[List.length_set];exact h.1,h.2⟩
 unfold doW
 cases !cE w<;>cases !inB d.1 0 7<;>cases decide (d.1<=3)<;>cases !inB d.2.1 0 (i64.wrap ((w.1.length:Int) - 1))<;>cases !inB d.2.1 0 (i64.wrap ((w.2.1.length:Int) - 1))<;>
  first | exact h | exact hA | exact hB
theorem RU(n cap slots wait lim:Int):SzY (wnW n cap slots wait lim):=
 { toSzW:=NR n cap slots wait lim,bytes:=λi hi=>absurd hi (Nat.not_lt_zero _),by_:=λi hi=>absurd hi (Nat.not_lt_zero _) }
theorem KB{x:Int}{l:List aH}{a b:Int}(h:(x,())∈l)(hl:l.all (λy=>inB y.1 a b)=true):inB x a b=true:=(List.all_eq_true.1 hl) _ h
theorem WB{α:Type}[Inhabited α]{l r:List α}{i:Nat}(h:i<l.length):gt (l++r) i=gt l i:=by
 rw[cJ h,cJ (by rw[List.length_append];omega),List.getElem_append_left h]
theorem TE{α:Type}[Inhabited α]{l:List α}{x:α}:gt (l++[x]) l.length=x:=by
 rw[cJ (by rw[List.length_append,List.length_singleton];omega),List.getElem_concat_length rfl]
end Go.Abs.Pz
/- Drawn worlds, and what their packs hold. -/
namespace Go.Abs.Pz
open Go Go.Abs
def PkH(p:dD):Prop:=p.2.2.1=true\/(∃ m,p.2.1=aZ m)\/p.2.1=[((1:Int),())]
def PkA(w:aV):Prop:=∀ q∈w.2.1,PkH q
theorem SX{w:aV}(h:PkA w)(t:Int):PkA (w.1,w.2.1++[(t,[((1:Int),())],false,())],w.2.2.1,()):=λq hq=>by
 rcases List.mem_append.1 hq with hq | hq
 ·exact h q hq
 ·rw[List.mem_singleton.1 hq];exact .inr (.inr rfl)
theorem EA{l:List dD}(h:∀ q∈l,PkH q){x:dD}(hx:PkH x):∀ q∈l++[x],PkH q:=λq hq=>by
 rcases List.mem_append.1 hq with hq | hq
 ·exact h q hq
 ·rw[List.mem_singleton.1 hq];exact hx
theorem SH{x:NodeT}{b:List aH}:∀ q∈(eE x b).2.1,∃ m,q.1=aZ m:=λq hq=>by
 cases h:bW b with
 | none=>rw[iK h] at hq;cases hq
 | some m=>
  rw[mY h] at hq
  obtain⟨a,_,rfl⟩:=List.mem_map.1 hq
  exact⟨a,rfl⟩
theorem KY{rs:List bM}(hr:∀ q∈rs,∃ m,q.1=aZ m):∀ (k i:Nat) (net:List dD),i+k<=rs.length->(∀ q∈net,PkH q)->∀ q∈sN rs k i net,PkH q
 | 0,i,net,_,h=>h
 | k+1,i,net,hi,h=>by
  unfold sN
  by_cases h12:(net.length:Int)<12
  ·rw[decide_eq_true h12]
   exact KY hr k (i+1) _ (by omega) (EA h (.inr (.inl (hr _ (bR (by omega))))))
  ·rw[decide_eq_false h12];exact h
theorem JF{w:aV}(d:fO)(h:PkA w):PkA (cM w d).1:=by
 unfold cM
 cases d.1==1 with
 | true=>exact h
 | false=>
 cases d.1==0 with
 | true=>
  cases (w.2.2.1.length:Int)==40 with
  | true=>exact h
  | false=>cases (iU (gt w.1 d.2.1.toNat) d.2.2.1 d.2.2.2.1 d.2.2.2.2.1).2.2 != 0<;>exact h
 | false=>
 cases (w.2.1.length:Int)==12 with
 | true=>exact h
 | false=>
 cases d.1==2 with
 | true=>cases (i8 (gt w.1 d.2.1.toNat) d.2.2.1).2 with
  | false=>exact h
  | true=>exact EA h (.inr (.inl ⟨_,rfl⟩))
 | false=>cases (iH (gt w.1 d.2.1.toNat) d.2.2.1).2.2 with
  | false=>exact h
  | true=>exact EA h (.inr (.inl ⟨_,rfl⟩))
theorem S3{w:aV}{d:fO}(h:PkA w)(ha:d.2.1.toNat<w.2.1.length):PkA (gN w d).1:=by
 unfold gN
 cases d.1==4 with
 | true=>exact KY SH _ 0 _ (by omega) λq hq=>h q (kD hq)
 | false=>
 cases d.1==5 with
 | true=>exact λq hq=>h q (kD hq)
 | false=>
 cases d.1==6 with
 | true=>
  cases (w.2.1.length:Int)==12 with
  | true=>exact h
  | false=>exact EA h (h _ (bR ha))
 | false=>
 cases fF w d with
 | true=>exact h
 | false=>
  intro q hq
  rcases List.mem_or_eq_of_mem_set hq with h1 | h1
  ·exact h q h1
  ·rw[h1];exact .inl rfl
theorem VE{w:aV}(d:fO)(h:PkA w):PkA (doW w d).1:=by
 unfold doW
 cases ho:cE w with
 | false=>exact h
 | true=>
 have hl:=lR ho
 cases inB d.1 0 7 with
 | false=>exact h
 | true=>
 cases decide (d.1<=3)with
 | true=>cases inB d.2.1 0 (i64.wrap ((w.1.length:Int) - 1))with
  | false=>exact h
  | true=>exact JF d h
 | false=>cases ha:inB d.2.1 0 (i64.wrap ((w.2.1.length:Int) - 1))with
  | false=>exact h
  | true=>exact S3 h (qV (by omega) ha).2
theorem IQ(c:eQ)(h:CurOk c):∃ (w:aV) (e:eQ),Ran p 17 68 [.ref ⟨K143,c⟩] ⟨[⟨K28,w⟩],[⟨K143,e⟩]⟩/\CurOk e/\SzY w/\PkA w:=by
 obtain⟨x1,d1,h1,k1,a1,b1,_⟩:=f41 c 16 h
 obtain⟨x2,d2,h2,k2,a2,b2,_⟩:=f41 d1 4 k1
 obtain⟨x3,d3,h3,k3,m3⟩:=f98 d2 [((1:Int),()),((2:Int),()),((8:Int),())] k2 (by show 0<3;omega)
 obtain⟨x4,d4,h4,k4,m4⟩:=f98 d3 [((1:Int),()),((2:Int),()),((4:Int),())] k3 (by show 0<3;omega)
 obtain⟨x5,d5,h5,k5,a5,b5,_⟩:=f41 d4 4 k4
 obtain⟨x6,d6,h6,k6,a6,b6,_⟩:=f41 d5 4 k5
 have b1:=b1 (by omega)
 have b2:=b2 (by omega)
 have b5:=b5 (by omega)
 have b6:=b6 (by omega)
 obtain⟨m,e2,hm⟩:∃ m:Nat,i64.wrap (1+x2)=(m:Int)/\1<=m/\m<=4:=⟨(1+x2).toNat,by rw[IntKind.wrap_i64];omega,by omega,by omega⟩
 have e5:i64.wrap (1+x5)=1+x5:=by rw[IntKind.wrap_i64];omega
 have e6:i64.wrap (1+x6)=1+x6:=by rw[IntKind.wrap_i64];omega
 have hw:=f97 (m:Int) x3 x4 (1+x5) (1+x6)
 have ok:=NT hm (KB m3 (show _=true by decide)) (KB m4 (show _=true by decide)) (show inB (1+x5) 1 20=true by rw[aL];omega) (show inB (1+x6) 1 50=true by rw[aL];omega)
 have e7:w7 (m:Int) x3 x4 (1+x5) (1+x6)=wnW (m:Int) x3 x4 (1+x5) (1+x6):=by unfold w7;rw[ok];rfl
 have hcnt:cZ (m:Int)=m:=by unfold cZ;omega
 have hlen:(wnW (m:Int) x3 x4 (1+x5) (1+x6)).1.length=m:=by show(eK (m:Int) x3 x4 (1+x5) (1+x6) (cZ (m:Int))).length=m;rw[gU,hcnt]
 have hsz:=RU (m:Int) x3 x4 (1+x5) (1+x6)
 have hfew:Few (wnW (m:Int) x3 x4 (1+x5) (1+x6)):=⟨Nat.zero_le _,Nat.zero_le _⟩
 have hpk:PkA (wnW (m:Int) x3 x4 (1+x5) (1+x6)):=λq hq=>by cases hq
 rw[e7,ok] at hw
 generalize wnW (m:Int) x3 x4 (1+x5) (1+x6)=W0 at hw hlen hsz hfew hpk
 obtain⟨t,rfl⟩:∃ t:Nat,x1=t:=⟨x1.toNat,by omega⟩
 obtain⟨o,⟨w,e,rfl,he,hwz,hwp⟩,hL⟩:=It.ex (lvl:=17 - 1) (c:=λn aA (_:Unit)=>c68_20005 (aI p n) aA ((((t:Int),()),()),(d1,())) ((W0,(true,()),()),())) (λi z=>∃ (l:List fO) (d:eQ) (w:aV),z=((i:Int),d.1,d.2.1,d.2.2.1,l,w.1,w.2.1,w.2.2.1)/\CurOk d/\SzY w/\PkA w/\Few w/\l.length<=i/\w.1.length=m)
  (λo=>∃ (w:aV) (e:eQ),o=⟨[⟨K28,w⟩],[⟨K143,e⟩]⟩/\CurOk e/\SzY w/\PkA w) t (by
   rintro i z hi ⟨l,d,w,rfl,hd,hz,hp,hf,hl,hn⟩
   obtain⟨dd,e,hde,ke⟩:=f70 d w hd
   have hbd:l.length+1<=bound:=by unfold bound;omega
   have stp:∀ q:fO,∃ (l':List fO) (d':eQ) (w':aV),(((i+1:Nat):Int),e.1,e.2.1,e.2.2.1,l++[q],(doW w q).1.1,(doW w q).1.2.1,(doW w q).1.2.2.1)=(((i+1:Nat):Int),d'.1,d'.2.1,d'.2.2.1,l',w'.1,w'.2.1,w'.2.2.1)/\CurOk d'/\SzY w'/\PkA w'/\Few w'/\l'.length<=i+1/\w'.1.length=m:=
    λq=>⟨l++[q],e,(doW w q).1,rfl,ke,JD hz q,VE q hp,TL q hf,by rw[List.length_append,List.length_singleton];omega,by rw[TK];exact hn⟩
   by_cases him:i<m
   ·have hdo:=f13 w ((0:Int),(i:Int),(0:Int),(i:Int),(⟨#[]⟩:ByteArray),()) hz
    refine⟨_,stp ((0:Int),(i:Int),(0:Int),(i:Int),(⟨#[]⟩:ByteArray),()),λn hn aA u rec=>?_⟩
    unfold c68_20005;dsimp only;rw[aF (show i<9223372036854775807 by omega)];refine ql hi ?_;refine qR hde ?_;refine qP (Int.ofNat_lt.2 (show i<W0.1.length by omega)) ?_;refine qP hbd ?_;refine qD hdo ?_;rfl
   ·have hdo:=f13 w dd hz
    refine⟨_,stp dd,λn hn aA u rec=>?_⟩
    unfold c68_20005;dsimp only;rw[aF (show i<9223372036854775807 by omega)];refine ql hi ?_;refine qR hde ?_;refine qN (show ¬ (i:Int)<(W0.1.length:Int) by omega) ?_;refine qP hbd ?_;refine qD hdo ?_;rfl) (by
   rintro z ⟨l,d,w,rfl,hd,hz,hp,hf,hl,hn⟩
   obtain⟨x8,d8,h8,k8,_⟩:=f41 d 14 hd
   have start:∀ {o:Out},(∀ n,17 - 1<=n->∀ aA rec,c68_20005 (aI p n) aA ((((t:Int),()),()),(d1,())) ((W0,(true,()),()),()) rec ((t:Int),d.1,d.2.1,d.2.2.1,l,w.1,w.2.1,w.2.2.1)=some o)->∀ n,17 - 1<=n->It (λaA (_:Unit)=>c68_20005 (aI p n) aA ((((t:Int),()),()),(d1,())) ((W0,(true,()),()),())) ((t:Int),d.1,d.2.1,d.2.2.1,l,w.1,w.2.1,w.2.2.1) (λ_=>some o):=
    λH n hn=>It.stop λaA u rec=>H n hn aA rec
   cases q0:x8==0 with
   | true=>
    obtain⟨y,d9,h9,k9,hy⟩:=f159 d8 k8
    have hr:0<w.1.length:=by omega
    refine⟨_,⟨(w.1.set 0 y,w.2.1,w.2.2.1,()),d9,rfl,k9,jY (by rw[List.length_set];exact hz.nodes) (vW hz.node 0 hy.sz) hz.net hz.all hz.said hz.part,hp⟩,start λn hn aA rec=>?_⟩
    unfold c68_20005;dsimp only;refine qe ?_;refine qR h8 ?_;refine qT q0 ?_;refine qR h9 ?_;refine qP (show(0:Int)<=0 by omega) ?_;refine(a9 hr).trans ?_;refine(a9 hr).trans ?_;rfl
   | false=>
   cases q1:x8==1 with
   | true=>
    obtain⟨x9,d9,h9,k9,_⟩:=f41 d8 7 k8
    have hb:w.2.1.length+1<=bound:=by have:=hf.1;unfold bound;omega
    refine⟨_,⟨(w.1,w.2.1++[(i64.wrap (x9 - 1),[((1:Int),())],false,())],w.2.2.1,()),d9,rfl,k9,jY hz.nodes hz.node (by rw[List.length_append,List.length_singleton];have:=hf.1;unfold aP;omega) (y2 hz.all ⟨λx hx=>?_,(by decide:1<=aP)⟩) hz.said hz.part,SX hp _⟩,start λn hn aA rec=>?_⟩
    ·rw[List.mem_singleton.1 hx];exact⟨1,rfl,by decide⟩
    ·unfold c68_20005;dsimp only;refine qe ?_;refine qR h8 ?_;refine qF q0 ?_;refine qT q1 ?_;refine qR h9 ?_;refine qP hb ?_;rfl
   | false=>
   cases q2:x8==2 with
   | true=>
    obtain⟨x9,d9,h9,k9,_⟩:=f41 d8 7 k8
    have hb:w.2.2.1.length+1<=bound:=by have:=hf.2;unfold bound;omega
    refine⟨_,⟨(w.1,w.2.1,w.2.2.1++[(i64.wrap (x9 - 1),[],[],())],()),d9,rfl,k9,jY hz.nodes hz.node hz.net hz.all (by rw[List.length_append,List.length_singleton];have:=hf.2;unfold aP;omega) (λi hi=>?_),hp⟩,start λn hn aA rec=>?_⟩
    ·rcases Nat.lt_or_ge i w.2.2.1.length with h | h
     ·rw[WB h];exact hz.part i h
     ·rw[List.length_append,List.length_singleton] at hi
      rw[show i=w.2.2.1.length by omega,TE];exact kA
    ·unfold c68_20005;dsimp only;refine qe ?_;refine qR h8 ?_;refine qF q0 ?_;refine qF q1 ?_;refine qT q2 ?_;refine qR h9 ?_;refine qP hb ?_;rfl
   | false=>
   cases q3:x8==3 with
   | true=>
    refine⟨_,⟨([],w.2.1,w.2.2.1,()),d8,rfl,k8,jY (Nat.zero_le _) (λi hi=>absurd hi (Nat.not_lt_zero _)) hz.net hz.all hz.said hz.part,hp⟩,start λn hn aA rec=>?_⟩
    unfold c68_20005;dsimp only;refine qe ?_;refine qR h8 ?_;refine qF q0 ?_;refine qF q1 ?_;refine qF q2 ?_;refine qT q3 ?_;rfl
   | false=>
    refine⟨_,⟨w,d8,rfl,k8,hz,hp⟩,start λn hn aA rec=>?_⟩
    unfold c68_20005;dsimp only;refine qe ?_;refine qR h8 ?_;refine qF q0 ?_;refine qF q1 ?_;refine qF q2 ?_;refine qF q3 ?_;rfl) t 0 ((0:Int),d6.1,d6.2.1,d6.2.2.1,([]:List fO),W0.1,W0.2.1,W0.2.2.1) (by omega) ⟨[],d6,W0,rfl,k6,hsz,hpk,hfew,Nat.zero_le _,hlen⟩
 exact⟨w,e,go68 λn hn=>Ev.eq (λaA=>by
  unfold T68;refine qR h1 ?_;refine qR h2 ?_;refine qR h3 ?_;refine qR h4 ?_;refine qR h5 ?_;refine qR h6 ?_
  rw[show i64.wrap ((1:Int)+vI x2)=(m:Int)from e2,show i64.wrap ((1:Int)+vI x5)=1+x5 from e5,show i64.wrap ((1:Int)+vI x6)=1+x6 from e6]
  refine qD hw ?_;rfl) ((hL n (by omega)).ev (i:=()) rfl),he,hwz,hwp⟩
end Go.Abs.Pz
namespace Go.Abs.Pz
open Go Go.Abs
theorem f78(a b:f0)(hl:a.2.2.1.length<=aP)(hr:∀ i,i<a.2.2.1.length->SzS (gt a.2.2.1 i)):Ran p 2 78 [va K61 a, va K61 b] (rO K4 (AP a b,())):=go78 λn hn=>by
 have lp:∃ N,∀ aA,N<=aA->iL a.2.2.1 b.2.2.1=true->iter (c78_4 (aI p n) aA a b) aA (0:Int)=oB (bI a.2.2.1.length λi=>eW (gt a.2.2.1 i) (gt b.2.2.1 i)):=by
  cases he:iL a.2.2.1 b.2.2.1 with
  | false=>exact⟨0,λ_ _ h=>by cases h⟩
  | true=>
   have e:=sI.1 he
   have lp:It (λaA (_:Unit)=>c78_4 (aI p n) aA a b) (0:Int) (λ_=>oB (bI a.2.2.1.length λi=>eW (gt a.2.2.1 i) (gt b.2.2.1 i))):=by
    refine cI (It.allB a.2.2.1.length _ true (λi hi aA a' rec=>?_) (It.stop λaA a' rec=>?_))
    ·have hb:=bN hi hl
     have hi':i<b.2.2.1.length:=by omega
     unfold c78_4;rw[aF hb];refine ql hi ?_;refine qz ?_;refine(aD hi).trans ?_;refine qz ?_;refine(aD hi').trans ?_;refine qC (f63 (gt a.2.2.1 i) (gt b.2.2.1 i) (hr i hi)) ?_;exact fin
    ·unfold c78_4;refine qe ?_;rfl
   obtain⟨N,hN⟩:=lp.all_i
   exact⟨N,λaA hf _=>hN aA hf ()⟩
 obtain⟨N,hN⟩:=lp
 refine⟨N,λaA hf=>?_⟩
 show T78 (aI p n) aA a b=oB (AP a b)
 unfold T78 AP p8;refine cT λ_=>?_;refine cT λ_=>?_;refine cT λh=>?_;exact hN aA hf h
theorem f24(a b:NodeT)(hz:SzN a):Ran p 3 24 [va K66 a, va K66 b] (rO K4 (z9 a b,())):=go24 λn hn=>by
 rw[<- PH]
 have ri:∃ N,∀ aA,N<=aA->iL a.rises b.rises=true->iter (c24_16 (aI p n) aA a b) aA (0:Int)=oB (bI a.rises.length λi=>nA (gt a.rises i) (gt b.rises i)):=by
  cases he:iL a.rises b.rises with
  | false=>exact⟨0,λ_ _ h=>by cases h⟩
  | true=>
   have e:=sI.1 he
   have lp:It (λaA (_:Unit)=>c24_16 (aI p n) aA a b) (0:Int) (λ_=>oB (bI a.rises.length λi=>nA (gt a.rises i) (gt b.rises i))):=by
    refine cI (It.allB a.rises.length _ true (λi hi aA a' rec=>?_) (It.stop λaA a' rec=>?_))
    ·have hb:=bN hi hz.rises
     have hi':i<b.rises.length:=by omega
     unfold c24_16;rw[aF hb];refine ql hi ?_;refine qz ?_;refine(aD hi).trans ?_;refine qz ?_;refine(aD hi').trans ?_;exact fin
    ·unfold c24_16;refine qe ?_;rfl
   obtain⟨N,hN⟩:=lp.all_i
   exact⟨N,λaA hf _=>hN aA hf ()⟩
 obtain⟨M,hM⟩:=ri
 have se:∃ N,∀ aA,N<=aA->iL a.sess b.sess=true->iL a.rises b.rises=true->iter (c24_11 (aI p n) aA a b) aA (0:Int)=oB (bI a.sess.length (λi=>rD (gt a.sess i) (gt b.sess i))&&bI a.rises.length λi=>nA (gt a.rises i) (gt b.rises i)):=by
  cases he:iL a.sess b.sess with
  | false=>exact⟨0,λ_ _ h=>by cases h⟩
  | true=>cases he2:iL a.rises b.rises with
   | false=>exact⟨0,λ_ _ _ h=>by cases h⟩
   | true=>
    have e:=sI.1 he
    have lp:It (λaA (_:Unit)=>c24_11 (aI p n) aA a b) (0:Int) (λ_=>oB (bI a.sess.length (λi=>rD (gt a.sess i) (gt b.sess i))&&bI a.rises.length λi=>nA (gt a.rises i) (gt b.rises i))):=by
     refine It.allB a.sess.length _ _ (λi hi aA a' rec=>?_) (It.stopE (T:=λaA _=>iter (c24_16 (aI p n) aA a b) aA (0:Int)) (λaA a' rec=>?_) ⟨M,λaA hf _=>hM aA hf he2⟩)
     ·have hb:=bN hi hz.sess
      have hi':i<b.sess.length:=by omega
      unfold c24_11;rw[aF hb];refine ql hi ?_;refine qz ?_;refine(aD hi).trans ?_;refine qz ?_;refine(aD hi').trans ?_;exact fin
     ·unfold c24_11;refine qe ?_;rfl
    obtain⟨N,hN⟩:=lp.all_i
    exact⟨N,λaA hf _ _=>hN aA hf ()⟩
 obtain⟨M',hM'⟩:=se
 have ro:∃ N,∀ aA,N<=aA->iL a.seen b.seen=true->iL a.sess b.sess=true->iL a.rises b.rises=true->iter (c24_6 (aI p n) aA a b) aA (0:Int)=oB (bI a.seen.length (λi=>wA (gt a.seen i) (gt b.seen i))&&(bI a.sess.length (λi=>rD (gt a.sess i) (gt b.sess i))&&bI a.rises.length λi=>nA (gt a.rises i) (gt b.rises i))):=by
  cases he:iL a.seen b.seen with
  | false=>exact⟨0,λ_ _ h=>by cases h⟩
  | true=>cases he2:iL a.sess b.sess with
   | false=>exact⟨0,λ_ _ _ h=>by cases h⟩
   | true=>cases he3:iL a.rises b.rises with
    | false=>exact⟨0,λ_ _ _ _ h=>by cases h⟩
    | true=>
     have e:=sI.1 he
     have lp:It (λaA (_:Unit)=>c24_6 (aI p n) aA a b) (0:Int) (λ_=>oB (bI a.seen.length (λi=>wA (gt a.seen i) (gt b.seen i))&&(bI a.sess.length (λi=>rD (gt a.sess i) (gt b.sess i))&&bI a.rises.length λi=>nA (gt a.rises i) (gt b.rises i)))):=by
      refine It.allB a.seen.length _ _ (λi hi aA a' rec=>?_) (It.stopE (T:=λaA _=>iter (c24_11 (aI p n) aA a b) aA (0:Int)) (λaA a' rec=>?_) ⟨M',λaA hf _=>hM' aA hf he2 he3⟩)
      ·have hb:=bN hi hz.seen
       have hi':i<b.seen.length:=by omega
       unfold c24_6 wA;rw[aF hb];refine ql hi ?_;refine qz ?_;refine(aD hi).trans ?_;refine qz ?_;refine(aD hi').trans ?_;refine qC (f79 (gt a.seen i).1 (gt b.seen i).1 (aS (hz.lines i hi))) ?_;exact fin
      ·unfold c24_6;refine qe ?_;rfl
     obtain⟨N,hN⟩:=lp.all_i
     exact⟨N,λaA hf _ _ _=>hN aA hf ()⟩
 obtain⟨N,hN⟩:=ro
 refine⟨N,λaA hf=>?_⟩
 show T24 (aI p n) aA a b=oB (yY a b)
 unfold T24 yY;refine cT λ_=>?_;refine cT λ_=>?_;refine qC (f63 a.state b.state hz.state) ?_;refine cT λ_=>?_;refine qC (f77 a.tree b.tree (aS hz.leaves)) ?_;refine cT λ_=>?_;refine qC (f78 a.log b.log hz.list hz.logs) ?_;refine cT λ_=>?_;refine qC (f79 a.got b.got (aS hz.got)) ?_;refine cT λ_=>?_;refine qC (f79 a.acked b.acked (aS hz.acked)) ?_;refine cT λ_=>?_
 refine cT λh1=>?_;refine cT λ_=>?_;refine cT λ_=>?_;refine cT λ_=>?_;refine cT λ_=>?_;refine cT λ_=>?_;refine cT λh2=>?_;refine cT λh3=>?_;exact hN aA hf h1 h2 h3
end Go.Abs.Pz
namespace Go.Abs.Pz
open Go Go.Abs
structure Ticked (x:NodeT) (k:Nat) (y:NodeT):Prop where
 ok:NodeOk y
 id:y.1=x.1
 n:y.2.1=x.2.1
 num:y.num=x.num
 wait:y.wait=x.wait
 clock:y.clock=x.clock+((k:Nat):Int)
 age:∀ s∈y.sess,((k:Nat):Int)<=s.2.2.2.1
end Go.Abs.Pz
set_option maxHeartbeats 2000000
namespace Go.Abs.Pz
open Go Go.Abs
theorem oK{α:Type}[Inhabited α]{f:α->α->Bool}(h:∀ x,f x x=true)(xs:List α):p8 f xs xs=true:=by
 unfold p8 iL;rw[Bool.and_eq_true];exact⟨by simp,bD.2 λi _=>h _⟩
theorem xP(x:NodeT):z9 x x=true:=by
 have s1:p8 wA x.seen x.seen=true:=oK (λr=>j6 r.1) _
 have s2:eW x.state x.state=true:=iI.2 rfl
 have s3:DQ x.tree x.tree=true:=by unfold DQ;rw[j6];simp
 have s4:AP x.log x.log=true:=by unfold AP;rw[oK (λs=>iI.2 rfl)];simp
 have s5:p8 rD x.sess x.sess=true:=oK (λs=>by unfold rD;rw[show gA s.1 s.1=true from n9.2 rfl,show gA s.2.1 s.2.1=true from n9.2 rfl,show gA s.2.2.2.1 s.2.2.2.1=true from n9.2 rfl,wV];rfl) _
 have s6:p8 nA x.rises x.rises=true:=oK (λs=>by unfold nA;rw[show gA s.1 s.1=true from n9.2 rfl,show gA s.2.1 s.2.1=true from n9.2 rfl,show gA s.2.2.1 s.2.2.1=true from n9.2 rfl];rfl) _
 unfold z9
 rw[s1,s2,s3,s4,s5,s6,j6,j6]
 simp
theorem f8(b:List aH):Ran p 1 8 [vf K22 (b,())] (rO K4 (decide ((b.length:Int)>1048576),())):=go8 λn hn=>Ev.now λaA=>by
 unfold T8;rfl
end Go.Abs.Pz
