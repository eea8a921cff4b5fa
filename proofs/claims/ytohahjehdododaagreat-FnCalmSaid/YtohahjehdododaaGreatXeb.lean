/- What the functions of this program answer, part eb. -/
import Derived.Test.YtohahjehdododaaGreatXda
import Derived.Test.YtohahjehdododaaGreatW3
import Derived.Test.YtohahjehdododaaGreatXgo
import Derived.Test.YtohahjehdododaaGreatXer
set_option linter.unusedVariables false
open Go.IntKind (i64)
namespace Go.Abs.Wz
open Go Go.Abs
theorem OU{n:Nat}(h:n<=1048576):0+n<=bound:=by unfold bound;omega
theorem RI{i x:Int}(h:0<=x):Pos (([],[(i,x,())],()):aJ):=⟨λx hx=>(List.not_mem_nil hx).elim,λf hf=>by rcases List.mem_singleton.1 hf with rfl;exact h⟩
theorem M8{s:aJ}{i:Int}{e:bF}(he:QG e)(hi:1<=e.1)(h:s=([(i,e)],[],())\/s=([],[],())):StD 5 s/\Pos s:=by
 rcases h with rfl | rfl
 ·exact⟨⟨by show 1<=5;omega,by show 0<=5;omega,λx hx=>by rcases List.mem_singleton.1 hx with rfl;exact he⟩,⟨λx hx=>by rcases List.mem_singleton.1 hx with rfl;exact hi,λx hx=>(List.not_mem_nil hx).elim⟩⟩
 ·exact⟨⟨by show 0<=5;omega,by show 0<=5;omega,λx hx=>(List.not_mem_nil hx).elim⟩,RJ⟩
theorem TI{i x:Int}(h1:0<=i)(h2:i<=4)(h3:1<=x)(h4:x<=1000):aS ([],[(i,x,())],())=true:=
 (aV _).2 ⟨(λx hx=>by cases hx),List.Pairwise.nil,λf hf=>by rw[List.mem_singleton.1 hf];exact⟨by unfold eM;rw[aP];exact⟨h1,h2⟩,by rw[aP];exact⟨h3,h4⟩⟩,List.pairwise_singleton ..⟩
theorem f117(c:eQ)(h:CurOk c):∃ (s:aJ) (d:eQ),Ran p 5 117 [.ref ⟨K88,c⟩] ⟨[⟨K34,s⟩],[⟨K88,d⟩]⟩/\CurOk d/\StD 5 s/\aS s=true:=by
 obtain⟨x1,d1,h1,k1,a1,b1,_⟩:=f30 c 7 h
 let Good:Out->Prop:=λo=>∃ (s:aJ) (d:eQ),o=⟨[⟨K34,s⟩],[⟨K88,d⟩]⟩/\CurOk d/\StD 5 s/\aS s=true
 have second:∀ (s:aJ) (d d0:eQ) (x:Int),0<=x->x<3->StD 5 s->aS s=true->CurOk d->∃ o,Good o/\∀ n,5 - 1<=n->It (λaA (_:Unit)=>c117_10 (aK p n) aA (((x,()),()),(d0,()))) ((0:Int),s.1,s.2.1,d.1,d.2.1,d.2.2.1) (λ_=>some o):=by
  intro s d d0 x hx hx3 hs hp hd
  obtain⟨m,rfl⟩:∃ m:Nat,x=m:=⟨x.toNat,by omega⟩
  refine It.ex (c:=λn aA (_:Unit)=>c117_10 (aK p n) aA ((((m:Int),()),()),(d0,()))) (λi y=>∃ (s:aJ) (d:eQ),y=((i:Int),s.1,s.2.1,d.1,d.2.1,d.2.2.1)/\CurOk d/\StD 5 s/\aS s=true) Good m ?_ ?_ m 0 _ (by omega) ⟨s,d,rfl,hd,hs,hp⟩
  ·rintro i y hi ⟨s,d,rfl,hd,hs,hp⟩
   obtain⟨x7,d7,h7,k7,a7,b7,_⟩:=f30 d 5 hd
   obtain⟨x8,d8,h8,k8,a8,b8,_⟩:=f30 d7 2 k7
   have hw:i64.wrap (1+x8)=1+x8:=by have:=b8 (by omega);rw[IntKind.wrap_i64];omega
   have hq:StD 5 (([],[(x7,i64.wrap (1+x8),())],()):aJ):=⟨by show 0<=5;omega,by show 1<=5;omega,λx hx=>(List.not_mem_nil hx).elim⟩
   have h9:=f32 s ([],[(x7,i64.wrap (1+x8),())],()) (hs.sz (by omega)) (hq.sz (by omega)) ((aV _).1 hp).pos (RI (by omega))
   have ho:=TI (i:=x7) (x:=i64.wrap (1+x8)) a7 (by have:=b7 (by omega);omega) (by omega) (by have:=b8 (by omega);omega)
   refine⟨_,⟨dG s ([],[(x7,i64.wrap (1+x8),())],()),d8,rfl,k8,JT hs hq,nK hp ho⟩,λn hn aA a rec=>?_⟩
   show c117_10 (aK p n) aA ((((m:Int),()),()),(d0,())) rec ((i:Int),s.1,s.2.1,d.1,d.2.1,d.2.2.1)=_
   unfold c117_10;dsimp only;rw[aL (show i<9223372036854775807 by omega)];refine(aE (show(i:Int)<(m:Int) by omega)).trans ?_;refine(aG (h7 n (by omega))).trans ?_;refine(aG (h8 n (by omega))).trans ?_;refine(aB (h9 n (by omega))).trans ?_;rfl
  ·rintro y ⟨s,d,rfl,hd,hs,hp⟩
   refine⟨_,⟨s,d,rfl,hd,hs,hp⟩,λn hn=>It.stop λaA a rec=>?_⟩
   show c117_10 (aK p n) aA ((((m:Int),()),()),(d0,())) rec ((m:Int),s.1,s.2.1,d.1,d.2.1,d.2.2.1)=_
   unfold c117_10;refine(aI (Int.lt_irrefl _)).trans ?_;rfl
 obtain⟨m,rfl⟩:∃ m:Nat,x1=m:=⟨x1.toNat,by omega⟩
 have hm:=b1 (by omega)
 have first:=It.ex (lvl:=5 - 1) (c:=λn aA (_:Unit)=>c117_4 (aK p n) aA ((((m:Int),()),()),(d1,()))) (λi y=>∃ (s:aJ) (d:eQ),y=((i:Int),s.1,s.2.1,d.1,d.2.1,d.2.2.1)/\CurOk d/\StD 5 s/\aS s=true) Good m (by
  rintro i y hi ⟨s,d,rfl,hd,hs,hp⟩
  obtain⟨x2,d2,h2,k2,_⟩:=f30 d 5 hd
  obtain⟨e3,d3,h3,k3,he,hi3⟩:=f143 d2 k2
  obtain⟨s4,b4,h4,q4⟩:=f142 x2 e3
  obtain⟨q5,q6⟩:=M8 he hi3 q4.1
  have h5:=f32 s s4 (hs.sz (by omega)) (q5.sz (by omega)) ((aV _).1 hp).pos q6
  refine⟨_,⟨dG s s4,d3,rfl,k3,JT hs q5,nK hp q4.2⟩,λn hn aA a rec=>?_⟩
  show c117_4 (aK p n) aA ((((m:Int),()),()),(d1,())) rec ((i:Int),s.1,s.2.1,d.1,d.2.1,d.2.2.1)=_
  unfold c117_4;dsimp only;rw[aL (show i<9223372036854775807 by omega)];refine(aE (show(i:Int)<(m:Int) by omega)).trans ?_;refine(aG (h2 n (by omega))).trans ?_;refine(aG (h3 n (by omega))).trans ?_;refine(AR (h4 n (by omega))).trans ?_;refine(aB (h5 n (by omega))).trans ?_;rfl) (by
  rintro y ⟨s,d,rfl,hd,hs,hp⟩
  obtain⟨x6,d6,h6,k6,a6,b6,_⟩:=f30 d 3 hd
  obtain⟨o,ho,hL⟩:=second s d6 d6 x6 a6 (b6 (by omega)) hs hp k6
  refine⟨o,ho,λn hn=>It.stopE (T:=λaA _=>iter (c117_10 (aK p n) aA (((x6,()),()),(d6,()))) aA ((0:Int),s.1,s.2.1,d6.1,d6.2.1,d6.2.2.1)) (λaA a rec=>?_) (hL n hn).all_i⟩
  show c117_4 (aK p n) aA ((((m:Int),()),()),(d1,())) rec ((m:Int),s.1,s.2.1,d.1,d.2.1,d.2.2.1)=_
  unfold c117_4;refine(aI (Int.lt_irrefl _)).trans ?_;refine(aG (h6 n (by omega))).trans ?_;rfl)
 obtain⟨o,⟨s,d,rfl,hd,hs,hp⟩,hL⟩:=first m 0 ((0:Int),[],[],d1.1,d1.2.1,d1.2.2.1) (by omega) ⟨([],[],()),d1,rfl,k1,⟨by show 0<=5;omega,by show 0<=5;omega,λx hx=>(List.not_mem_nil hx).elim⟩,rfl⟩
 exact⟨s,d,go117 λn hn=>Ev.eq (λaA=>by unfold T117;refine(aG (h1 n (by omega))).trans ?_;rfl) ((hL n (by omega)).ev (i:=()) rfl),hd,hs,hp⟩
theorem f91(c:eQ)(h:CurOk c):∃ (s:aJ) (d:eQ),Ran p 6 91 [.ref ⟨K88,c⟩] ⟨[⟨K34,s⟩],[⟨K88,d⟩]⟩/\CurOk d/\StD 6 s:=by
 obtain⟨s,d1,h1,k1,hs,hp⟩:=f117 c h
 obtain⟨x2,d2,h2,k2,_⟩:=f30 d1 14 k1
 have hs6:StD 6 s:=⟨Nat.le_trans hs.a (by omega),Nat.le_trans hs.b (by omega),hs.data⟩
 have ha:=hs.a
 have hb:=hs.b
 cases q0:x2==0 with
 | true=>
  obtain⟨x3,d3,h3,k3,_⟩:=f30 d2 7 k2
  obtain⟨e4,d4,h4,k4,he⟩:=f118 d3 k3
  refine⟨(s.1++[(i64.wrap (x3 - 1),e4)],s.2.1,()),d4,go91 λn hn=>Ev.now λaA=>?_,k4,⟨by show(s.1++_).length<=6;simp;omega,hs6.b,λx hx=>?_⟩⟩
  ·unfold T91;refine(aG (h1 n (by omega))).trans ?_;refine(aG (h2 n (by omega))).trans ?_;refine(aM q0).trans ?_;refine(aG (h3 n (by omega))).trans ?_;refine(aG (h4 n (by omega))).trans ?_;refine(aE (show s.1.length+1<=bound by unfold bound;omega)).trans ?_;rfl
  ·rcases List.mem_append.1 hx with hx | hx
   ·exact hs.data x hx
   ·rcases List.mem_singleton.1 hx with rfl;exact he
 | false=>
 cases q1:x2==1 with
 | true=>
  obtain⟨x3,d3,h3,k3,_⟩:=f30 d2 7 k2
  obtain⟨x4,d4,h4,k4,_⟩:=f96 d3 [((0:Int),()),((1:Int),()),((5:Int),()),((1001:Int),())] k3 (by show 0<4;omega)
  refine⟨(s.1,s.2.1++[(i64.wrap (x3 - 1),x4,())],()),d4,go91 λn hn=>Ev.now λaA=>?_,k4,⟨hs6.a,by show(s.2.1++_).length<=6;simp;omega,hs.data⟩⟩
  unfold T91;refine(aG (h1 n (by omega))).trans ?_;refine(aG (h2 n (by omega))).trans ?_;refine(aF q0).trans ?_;refine(aM q1).trans ?_;refine(aG (h3 n (by omega))).trans ?_;refine(aG (h4 n (by omega))).trans ?_;refine(aE (show s.2.1.length+1<=bound by unfold bound;omega)).trans ?_;rfl
 | false=>
 cases q2:x2==2 with
 | true=>
  by_cases hl:(s.1.length:Int)>0
  ·obtain⟨x3,d3,h3,k3,a3,b3,_⟩:=f30 d2 (s.1.length:Int) k2
   obtain⟨e4,d4,h4,k4,he⟩:=f118 d3 k3
   have b3':=b3 (by omega)
   obtain⟨i,rfl⟩:∃ i:Nat,x3=i:=⟨x3.toNat,by omega⟩
   have hi:i<s.1.length:=by omega
   refine⟨(List.set s.1 i ((gt s.1 i).1,e4),s.2.1,()),d4,go91 λn hn=>Ev.now λaA=>?_,k4,⟨by show(List.set s.1 i _).length<=6;simp;omega,hs6.b,λx hx=>?_⟩⟩
   ·unfold T91;refine(aG (h1 n (by omega))).trans ?_;refine(aG (h2 n (by omega))).trans ?_;refine(aF q0).trans ?_;refine(aF q1).trans ?_;refine(aM q2).trans ?_;refine(aE hl).trans ?_;refine(aG (h3 n (by omega))).trans ?_;refine(aG (h4 n (by omega))).trans ?_;refine bif_nn.trans ?_;refine(aH hi).trans ?_;refine(aH hi).trans ?_;rfl
   ·rcases List.mem_or_eq_of_mem_set hx with hx | rfl
    ·exact hs.data x hx
    ·exact he
  ·refine⟨s,d2,go91 λn hn=>Ev.now λaA=>?_,k2,hs6⟩
   unfold T91;refine(aG (h1 n (by omega))).trans ?_;refine(aG (h2 n (by omega))).trans ?_;refine(aF q0).trans ?_;refine(aF q1).trans ?_;refine(aM q2).trans ?_;refine(aI hl).trans ?_;rfl
 | false=>
 cases q3:x2==3 with
 | true=>
  by_cases hl:(s.1.length:Int)>1
  ·have hi1:1<s.1.length:=by omega
   have hi0:0<s.1.length:=by omega
   refine⟨(List.set s.1 0 (gt s.1 1),s.2.1,()),d2,go91 λn hn=>Ev.now λaA=>?_,k2,⟨by show(List.set s.1 0 _).length<=6;simp;omega,hs6.b,λx hx=>?_⟩⟩
   ·unfold T91;refine(aG (h1 n (by omega))).trans ?_;refine(aG (h2 n (by omega))).trans ?_;refine(aF q0).trans ?_;refine(aF q1).trans ?_;refine(aF q2).trans ?_;refine(aM q3).trans ?_;refine(aE hl).trans ?_;refine(aE (by decide)).trans ?_;refine(aH (i:=1) hi1).trans ?_;refine(aH (i:=1) hi1).trans ?_;refine(aE (by decide)).trans ?_;refine(aH (i:=0) hi0).trans ?_;refine(aH (i:=0) hi0).trans ?_;rfl
   ·rcases List.mem_or_eq_of_mem_set hx with hx | rfl
    ·exact hs.data x hx
    ·rw[cK hi1];exact hs.data _ (List.getElem_mem hi1)
  ·refine⟨s,d2,go91 λn hn=>Ev.now λaA=>?_,k2,hs6⟩
   unfold T91;refine(aG (h1 n (by omega))).trans ?_;refine(aG (h2 n (by omega))).trans ?_;refine(aF q0).trans ?_;refine(aF q1).trans ?_;refine(aF q2).trans ?_;refine(aM q3).trans ?_;refine(aI hl).trans ?_;rfl
 | false=>
  refine⟨s,d2,go91 λn hn=>Ev.now λaA=>?_,k2,hs6⟩
  unfold T91;refine(aG (h1 n (by omega))).trans ?_;refine(aG (h2 n (by omega))).trans ?_;refine(aF q0).trans ?_;refine(aF q1).trans ?_;refine(aF q2).trans ?_;refine(aF q3).trans ?_;rfl
end Go.Abs.Wz
namespace Go.Abs.Wz
open Go Go.Abs
-- tables drawn
structure TabD (t:List bQ):Prop where
 len:t.length<=5
 row:∀ i,i<t.length->(gt t i).1.length<=5
theorem TabD.sz{t:List bQ}(h:TabD t):t.length<=aW/\∀ i,i<t.length->(gt t i).1.length<=aW:=
 ⟨by have:=h.len;unfold aW;omega,λi hi=>by have:=h.row i hi;unfold aW;omega⟩
structure TabN (n:Nat) (t:List bQ):Prop where
 len:t.length=n
 row:∀ i,i<n->(gt t i).1.length=5
theorem TabN.d{n:Nat}{t:List bQ}(h:TabN n t)(hn:n<=5):TabD t:=⟨by rw[h.len];exact hn,λi hi=>by rw[h.row i (by rw[<- h.len];exact hi)];exact Nat.le_refl _⟩
theorem TabN.add{n:Nat}{t:List bQ}(h:TabN n t)(k:Int)(ms:List aU):TabN n (bO t k ms):=⟨by rw[dD];exact h.len,λi hi=>by rw[fA];exact h.row i hi⟩
theorem EM{n:Nat}(h1:1<=n)(h5:n<=5):TabN n (dV (n:Int)):=by
 have hb:inB (n:Int) 1 5=true:=by rw[aP];omega
 refine⟨?_,λi hi=>?_⟩
 ·unfold dV;rw[hb];show(List.replicate _ _).length=n;rw[List.length_replicate];omega
 ·have hl:i<(dV (n:Int)).length:=by unfold dV;rw[hb];show i<(List.replicate _ _).length;rw[List.length_replicate];omega
  rw[nZ hb hl];rfl
theorem f97(c:eQ)(h:CurOk c):∃ (t:List bQ) (d:eQ),Ran p 7 97 [.ref ⟨K88,c⟩] ⟨[⟨K50,(t,())⟩],[⟨K88,d⟩]⟩/\CurOk d/\TabD t:=by
 obtain⟨x1,d1,h1,k1,a1,b1,_⟩:=f30 c 4 h
 obtain⟨m,rfl⟩:∃ m:Nat,x1=m:=⟨x1.toNat,by omega⟩
 have hm:=b1 (by omega)
 have hw:i64.wrap (1+(m:Int))=((m+1:Nat):Int):=by rw[IntKind.wrap_i64];omega
 let Good:Out->Prop:=λo=>∃ (t:List bQ) (d:eQ),o=⟨[⟨K50,(t,())⟩],[⟨K88,d⟩]⟩/\CurOk d/\TabD t
 have lp:=It.ex (lvl:=7 - 1) (c:=λn aA (_:Unit)=>c97_10004 (aK p n) aA ((((m:Int),()),()),(d1,()))) (λi y=>∃ (t:List bQ) (d:eQ),y=((i:Int),d.1,d.2.1,d.2.2.1,t)/\CurOk d/\TabN (m+1) t) Good (m+1) (by
  rintro i y hi ⟨t,d,rfl,hd,ht⟩
  obtain⟨s,d3,h3,k3,hs,_⟩:=f117 d hd
  have h4:=f125 s (hs.sz (by omega))
  have hz:=(ht.d (by omega)).sz
  have h5:=f124 t (i:Int) (cX s) hz.1 hz.2 (Nat.le_trans (fU s) (by decide))
  refine⟨_,⟨bO t (i:Int) (cX s),d3,rfl,k3,ht.add _ _⟩,λn hn aA a rec=>?_⟩
  show c97_10004 (aK p n) aA ((((m:Int),()),()),(d1,())) rec ((i:Int),d.1,d.2.1,d.2.2.1,t)=_
  unfold c97_10004;dsimp only;rw[aL (show i<9223372036854775807 by omega)];refine(aE (show(i:Int)<i64.wrap (1+(m:Int)) by rw[hw];omega)).trans ?_;refine(aG (h3 n (by omega))).trans ?_;refine(aB (h4 n (by omega))).trans ?_;refine(aB (h5 n (by omega))).trans ?_;rfl) (by
  rintro y ⟨t,d,rfl,hd,ht⟩
  obtain⟨x6,d6,h6,k6,_⟩:=f30 d 12 hd
  have hl:0<t.length:=by rw[ht.len];omega
  have h0:(gt t 0).1.length=5:=ht.row 0 (by omega)
  have hT:=ht.d (show m+1<=5 by omega)
  have un:∀ n,7 - 1<=n->∀ {o:Option Out},(∀ aA rec,c97_10004 (aK p n) aA ((((m:Int),()),()),(d1,())) rec (((m+1:Nat):Int),d.1,d.2.1,d.2.2.1,t)=o)->It (λaA (_:Unit)=>c97_10004 (aK p n) aA ((((m:Int),()),()),(d1,()))) (((m+1:Nat):Int),d.1,d.2.1,d.2.2.1,t) (λ_=>o):=λn hn o ho=>It.stop λaA a rec=>ho aA rec
  have en:¬ (((m+1:Nat):Int)<i64.wrap (1+(m:Int))):=by rw[hw];omega
  cases q0:x6==0 with
  | true=>
   refine⟨_,⟨t.set 0 (((gt t 0).1.take ((3:Int)).toNat).drop 0,(gt t 0).2),d6,rfl,k6,⟨by rw[List.length_set];exact hT.len,λi hi=>?_⟩⟩,λn hn=>un n hn λaA rec=>?_⟩
   ·rw[List.length_set] at hi
    by_cases e:0=i
    ·rw[<- e,cC hl];show(((gt t 0).1.take 3).drop 0).length<=5;rw[List.drop_zero,List.length_take];omega
    ·rw[eC e];exact hT.row i hi
   ·unfold c97_10004;refine(aI en).trans ?_;refine(aG (h6 n (by omega))).trans ?_;refine(aM q0).trans ?_;refine(aE (show(0:Int)<=0 by omega)).trans ?_;refine(bH hl).trans ?_;refine(bH hl).trans ?_
    refine(uT (show(0:Int)<=3 by omega) (show(3:Int)<=(((gt t 0).1.length:Nat):Int) by rw[h0];omega)).trans ?_;refine(aE (show(0:Int)<=0 by omega)).trans ?_;refine(bH hl).trans ?_;refine(bH hl).trans ?_;rfl
  | false=>
  cases q1:x6==1 with
  | true=>
   obtain⟨x7,d7,h7,k7,_⟩:=f96 d6 [((-1:Int),()),((1001:Int),())] k6 (by show 0<2;omega)
   have h00:0<(gt t 0).1.length:=by omega
   refine⟨_,⟨t.set 0 ((gt t 0).1.set 0 (x7,(gt (gt t 0).1 0).2),(gt t 0).2),d7,rfl,k7,⟨by rw[List.length_set];exact hT.len,λi hi=>?_⟩⟩,λn hn=>un n hn λaA rec=>?_⟩
   ·rw[List.length_set] at hi
    by_cases e:0=i
    ·rw[<- e,cC hl];show((gt t 0).1.set 0 _).length<=5;rw[List.length_set];omega
    ·rw[eC e];exact hT.row i hi
   ·unfold c97_10004;refine(aI en).trans ?_;refine(aG (h6 n (by omega))).trans ?_;refine(aF q0).trans ?_;refine(aM q1).trans ?_;refine(aE (show(0:Int)<=0 by omega)).trans ?_;refine(bH hl).trans ?_;refine(bH hl).trans ?_;refine(aG (h7 n (by omega))).trans ?_;refine(aE (show(0:Int)<=0 by omega)).trans ?_;refine(bH hl).trans ?_;refine(bH h00).trans ?_;refine(bH hl).trans ?_;refine(bH h00).trans ?_;rfl
  | false=>
  cases q2:x6==2 with
  | true=>
   refine⟨_,⟨[],d6,rfl,k6,⟨Nat.zero_le _,λi hi=>absurd hi (Nat.not_lt_zero _)⟩⟩,λn hn=>un n hn λaA rec=>?_⟩
   unfold c97_10004;refine(aI en).trans ?_;refine(aG (h6 n (by omega))).trans ?_;refine(aF q0).trans ?_;refine(aF q1).trans ?_;refine(aM q2).trans ?_;rfl
  | false=>
   refine⟨_,⟨t,d6,rfl,k6,hT⟩,λn hn=>un n hn λaA rec=>?_⟩
   unfold c97_10004;refine(aI en).trans ?_;refine(aG (h6 n (by omega))).trans ?_;refine(aF q0).trans ?_;refine(aF q1).trans ?_;refine(aF q2).trans ?_;rfl)
 have h2:=f146 ((m+1:Nat):Int)
 obtain⟨o,⟨t,d,rfl,hd,ht⟩,hL⟩:=lp (m+1) 0 ((0:Int),d1.1,d1.2.1,d1.2.2.1,dV ((m+1:Nat):Int)) (by omega) ⟨dV ((m+1:Nat):Int),d1,rfl,k1,EM (by omega) (by omega)⟩
 exact⟨t,d,go97 λn hn=>Ev.eq (λaA=>by unfold T97;refine(aG (h1 n (by omega))).trans ?_;rw[<- hw] at h2;refine(aB (h2 n (by omega))).trans ?_;rw[hw]) ((hL n (by omega)).ev (i:=()) rfl),hd,ht⟩
-- logs drawn
structure LogD (k:Nat) (l:f8):Prop where
 len:l.2.2.1.length<=k
 st:∀ s∈l.2.2.1,SzS s
theorem LogD.sz{k:Nat}{l:f8}(h:LogD k l)(hk:k<=1048576):l.2.2.1.length<=aW/\∀ i,i<l.2.2.1.length->SzS (gt l.2.2.1 i):=
 ⟨Nat.le_trans h.len hk,λi hi=>h.st _ (cJ hi)⟩
theorem LogD.add{k:Nat}{l:f8}(h:LogD k l){d:aJ}(hd:SzS d):LogD (k+1) (sO l d).1:=by
 unfold sO
 cases mQ l d with
 | false=>exact⟨Nat.le_succ_of_le h.len,h.st⟩
 | true=>
  refine⟨Nat.le_trans (HR l d) (Nat.succ_le_succ h.len),λs hs=>?_⟩
  have key:s∈l.2.2.1++[d]:=by
   have hs:s∈(gM l d).2.2.1:=hs
   unfold gM at hs
   cases hc:decide ((((l.2.2.1++[d]).length:Nat):Int)>l.1)with
   | true=>rw[hc] at hs;exact List.mem_of_mem_drop hs
   | false=>rw[hc] at hs;exact hs
  rcases List.mem_append.1 key with hs | hs
  ·exact h.st s hs
  ·rw[List.mem_singleton.1 hs];exact hd
theorem f130(c:eQ)(h:CurOk c):∃ (l:f8) (d:eQ),Ran p 6 130 [.ref ⟨K88,c⟩] ⟨[⟨K49,l⟩],[⟨K88,d⟩]⟩/\CurOk d/\LogD 6 l:=by
 obtain⟨x1,d1,h1,k1,_⟩:=f96 c [((1:Int),()),((2:Int),()),((4:Int),()),((8:Int),())] h (by show 0<4;omega)
 obtain⟨x2,d2,h2,k2,_⟩:=f96 d1 [((0:Int),()),((0:Int),()),((5:Int),()),((99990:Int),())] k1 (by show 0<4;omega)
 obtain⟨x3,d3,h3,k3,a3,b3,_⟩:=f30 d2 6 k2
 obtain⟨m,rfl⟩:∃ m:Nat,x3=m:=⟨x3.toNat,by omega⟩
 have hm:=b3 (by omega)
 let Good:Out->Prop:=λo=>∃ (l:f8) (d:eQ),o=⟨[⟨K49,l⟩],[⟨K88,d⟩]⟩/\CurOk d/\LogD 6 l
 have lp:=It.ex (lvl:=6 - 1) (c:=λn aA (_:Unit)=>c130_4 (aK p n) aA ((((m:Int),()),()),(d3,()))) (λi y=>∃ (l:f8) (d:eQ),y=((i:Int),l.1,l.2.1,l.2.2.1,d.1,d.2.1,d.2.2.1)/\CurOk d/\LogD i l) Good m (by
  rintro i y hi ⟨l,d,rfl,hd,hl⟩
  obtain⟨x4,d4,h4,k4,_⟩:=f30 d 5 hd
  obtain⟨e5,d5,h5,k5,_,_⟩:=f143 d4 k4
  obtain⟨b6,h6⟩:=y6 x4 e5
  have hz:=hl.sz (by omega)
  have ho:=sC (t8 x4 e5)
  have h7:=f154 l (zM x4 e5) hz.1 hz.2 ho
  refine⟨_,⟨(sO l (zM x4 e5)).1,d5,rfl,k5,hl.add ho⟩,λn hn aA a rec=>?_⟩
  show c130_4 (aK p n) aA ((((m:Int),()),()),(d3,())) rec ((i:Int),l.1,l.2.1,l.2.2.1,d.1,d.2.1,d.2.2.1)=_
  unfold c130_4;dsimp only;rw[aL (show i<9223372036854775807 by omega)];refine(aE (show(i:Int)<(m:Int) by omega)).trans ?_;refine(aG (h4 n (by omega))).trans ?_;refine(aG (h5 n (by omega))).trans ?_;refine(AR (h6 n (by omega))).trans ?_;refine(AR (h7 n (by omega))).trans ?_;rfl) (by
  rintro y ⟨l,d,rfl,hd,hl⟩
  refine⟨_,⟨l,d,rfl,hd,⟨Nat.le_trans hl.len (by omega),hl.st⟩⟩,λn hn=>It.stop λaA a rec=>?_⟩
  show c130_4 (aK p n) aA ((((m:Int),()),()),(d3,())) rec ((m:Int),l.1,l.2.1,l.2.2.1,d.1,d.2.1,d.2.2.1)=_
  unfold c130_4;refine(aI (Int.lt_irrefl _)).trans ?_;rfl)
 obtain⟨o,⟨l,d,rfl,hd,hl⟩,hL⟩:=lp m 0 ((0:Int),x1,x2,[],d3.1,d3.2.1,d3.2.2.1) (by omega) ⟨(x1,x2,[],()),d3,rfl,k3,⟨Nat.le_refl _,λs hs=>by cases hs⟩⟩
 exact⟨l,d,go130 λn hn=>Ev.eq (λaA=>by unfold T130;refine(aG (h1 n (by omega))).trans ?_;refine(aG (h2 n (by omega))).trans ?_;refine(aG (h3 n (by omega))).trans ?_;rfl) ((hL n (by omega)).ev (i:=()) rfl),hd,hl⟩
theorem f98(c:eQ)(h:CurOk c):∃ (l:f8) (d:eQ),Ran p 7 98 [.ref ⟨K88,c⟩] ⟨[⟨K49,l⟩],[⟨K88,d⟩]⟩/\CurOk d/\LogD 7 l:=by
 obtain⟨l,d1,h1,k1,hl⟩:=f130 c h
 obtain⟨x2,d2,h2,k2,_⟩:=f30 d1 12 k1
 have hl7:LogD 7 l:=⟨Nat.le_succ_of_le hl.len,hl.st⟩
 cases q0:x2==0 with
 | true=>
  obtain⟨x3,d3,h3,k3,_⟩:=f96 d2 [((0:Int),()),((9:Int),()),((1:Int),())] k2 (by show 0<3;omega)
  exact⟨(x3,l.2.1,l.2.2.1,()),d3,go98 λn hn=>Ev.now λaA=>by unfold T98;refine(aG (h1 n (by omega))).trans ?_;refine(aG (h2 n (by omega))).trans ?_;refine(aM q0).trans ?_;refine(aG (h3 n (by omega))).trans ?_;rfl,k3,⟨hl7.len,hl7.st⟩⟩
 | false=>
 cases q1:x2==1 with
 | true=>
  obtain⟨x3,d3,h3,k3,_⟩:=f96 d2 [((-1:Int),()),((100000:Int),()),((9223372036854775807:Int),())] k2 (by show 0<3;omega)
  exact⟨(l.1,x3,l.2.2.1,()),d3,go98 λn hn=>Ev.now λaA=>by unfold T98;refine(aG (h1 n (by omega))).trans ?_;refine(aG (h2 n (by omega))).trans ?_;refine(aF q0).trans ?_;refine(aM q1).trans ?_;refine(aG (h3 n (by omega))).trans ?_;rfl,k3,⟨hl7.len,hl7.st⟩⟩
 | false=>
 cases q2:x2==2 with
 | true=>
  obtain⟨s,d3,h3,k3,hs⟩:=f91 d2 k2
  have hb:l.2.2.1.length+1<=bound:=by have:=hl.len;unfold bound;omega
  refine⟨(l.1,l.2.1,l.2.2.1++[s],()),d3,go98 λn hn=>Ev.now λaA=>by unfold T98;refine(aG (h1 n (by omega))).trans ?_;refine(aG (h2 n (by omega))).trans ?_;refine(aF q0).trans ?_;refine(aF q1).trans ?_;refine(aM q2).trans ?_;refine(aG (h3 n (by omega))).trans ?_;refine(aE hb).trans ?_;rfl,k3,⟨?_,λr hr=>?_⟩⟩
  ·show(l.2.2.1++[s]).length<=7;rw[List.length_append,List.length_singleton];have:=hl.len;omega
  ·rcases List.mem_append.1 hr with hr | hr
   ·exact hl.st r hr
   ·rw[List.mem_singleton.1 hr];exact hs.sz (by omega)
 | false=>exact⟨l,d2,go98 λn hn=>Ev.now λaA=>by unfold T98;refine(aG (h1 n (by omega))).trans ?_;refine(aG (h2 n (by omega))).trans ?_;refine(aF q0).trans ?_;refine(aF q1).trans ?_;refine(aF q2).trans ?_;rfl,k2,hl7⟩
end Go.Abs.Wz
namespace Go.Abs.Wz
open Go Go.Abs
theorem H6{α:Type}[Inhabited α]{n i:Nat}{x:α}(h:i<n):gt (List.replicate n x) i=x:=by
 rw[cK (by rw[List.length_replicate];exact h),List.getElem_replicate]
def z0:aO:=((0:Int),())
theorem I8{n:Int}(h:inB n 1 5=true):eG (List.replicate n.toNat z0) n=true:=by
 have h1:=aP.1 h
 unfold eG
 simp only[Bool.and_eq_true,beq_iff_eq]
 rw[List.length_replicate]
 refine⟨h,by omega,bI.2 λi hi=>?_⟩
 rw[H6 hi];rfl
theorem zO{id n cap slots wait lim:Int}(hn:inB n 1 5=true)(hi:0<=id/\id<n)(hc:inB cap 1 8=true)(hs:inB slots 1 4=true)(hw:inB wait 1 20=true)(hl:inB lim 1 50=true):NodeOk (gP id n cap slots wait lim):=by
 have h1:=aP.1 hn
 have h2:=aP.1 hc
 have h3:=aP.1 hs
 have hL:LogOk (cap,0,[],()):=⟨h2,by show((0:Nat):Int)<=cap;omega,by show(0:Int)<=0/\(0:Int)<=100000;omega,by show(0:Int)+((0:Nat):Int)<=100000;omega,λs h=>by cases h⟩
 have hq:cE (cap,0,[],())=0:=by rw[q9 hL];rfl
 have hk:id.toNat<n.toNat:=by omega
 exact {
  n:=hn
  id:=by show inB id 0 (i64.wrap (n - 1))=true;rw[aP,IntKind.wrap_i64];omega
  state:=rfl
  tree:=by
   show(gB (cI ([],[],())).1 (cI ([],[],())).1&&(cI ([],[],())).2.1==(cI ([],[],())).2.1)=true
   rw[jY];simp
  log:=(nF _).2 hL
  got:=I8 hn
  acked:=I8 hn
  own:=by
   show((gt (List.replicate n.toNat z0) id.toNat).1==cE (cap,0,[],()))=true
   rw[H6 hk,hq];rfl
  seen:=by
   show gN (dV n) n=true
   have hT:TabN n.toNat (dV n):=by
    have:=EM (n:=n.toNat) (by omega) (by omega)
    rw[show((n.toNat:Nat):Int)=n by omega] at this;exact this
   unfold gN
   simp only[Bool.and_eq_true,beq_iff_eq]
   refine⟨hn,by rw[hT.len];omega,bI.2 λi hi=>?_⟩
   rw[nZ hn hi];rfl
  ack:=by
   show bL (List.replicate n.toNat z0).length _=true
   rw[bI]
   intro i hi
   show(!decide ((gt (List.replicate n.toNat z0) i).1>cE (cap,0,[],())))=true
   rw[hq,H6 (by rw[List.length_replicate] at hi;exact hi)];rfl
  num:=rfl
  clock:=rfl
  slots:=hs
  wait:=hw
  limit:=hl
  rises:=rfl
  rise:=rfl
  sess:=by
   refine(cV _).2 ⟨?_,(λs h=>by cases h),List.Pairwise.nil⟩
   show((0:Nat):Int)<=slots;omega }
theorem FF{id n cap slots wait lim:Int}(hn:inB n 1 5=true)(hi:0<=id/\id<n)(hc:inB cap 1 8=true)(hs:inB slots 1 4=true)(hw:inB wait 1 20=true)(hl:inB lim 1 50=true):pJ id n cap slots wait lim=true/\p7 id n cap slots wait lim=gP id n cap slots wait lim:=by
 have h:=(eU _).2 (zO hn hi hc hs hw hl)
 have e:pJ id n cap slots wait lim=true:=by unfold pJ;rw[hn,h];rfl
 exact⟨e,by unfold p7;rw[e];rfl⟩
end Go.Abs.Wz
set_option maxHeartbeats 2000000
namespace Go.Abs.Wz
open Go Go.Abs
structure NodD (y:NodeT):Prop where
 sz:SzN y
 n:1<=y.2.1/\y.2.1<=4
 id:0<=y.1/\y.1<y.2.1
 got:y.got.length=y.2.1.toNat
 acked:y.acked.length=y.2.1.toNat
 sess:y.sess.length<=4
 rises:y.rises.length=5
 cnt:y.num<=8/\y.clock<=8
structure NodR (m i:Nat) (y:NodeT):Prop where
 ok:NodeOk y
 sz:SzN y
 n:y.2.1=((m:Nat):Int)
 cnt:y.num<=((i:Nat):Int)/\y.clock<=((i:Nat):Int)
theorem NodR.d{m i:Nat}{y:NodeT}(h:NodR m i y)(h4:m<=4)(hi:i<=8):NodD y:=by
 have h1:=h.ok.n;have h2:=h.ok.id;have h3:=h.ok.got;have h5:=((cV y).1 h.ok.sess).1;have h6:=h.ok.slots;have h7:=eq_of_beq h.ok.rises;have h8:=h.ok.acked
 have hn:=h.n
 rw[aP] at h1 h2 h6
 rw[IntKind.wrap_i64] at h2
 unfold eG at h3 h8
 simp only[Bool.and_eq_true,beq_iff_eq] at h3 h8
 exact⟨h.sz,by omega,by omega,by omega,by omega,by omega,by omega,by have:=h.cnt;omega⟩
theorem S9(x:NodeT)(k i:Int)(t:ByteArray):(jF x k i t).1.2.1=x.2.1:=by
 unfold jF
 cases tO x k i with
 | false=>rfl
 | true=>
  cases (fT x.state k i t).2 != 0 with
  | true=>rfl
  | false=>cases mQ x.log (fT x.state k i t).1<;>rfl
theorem ND(x:NodeT)(k i:Int)(t:ByteArray):(jF x k i t).1.num=x.num/\(jF x k i t).1.clock=x.clock:=by
 unfold jF
 cases tO x k i with
 | false=>exact⟨rfl,rfl⟩
 | true=>
  cases (fT x.state k i t).2 != 0 with
  | true=>exact⟨rfl,rfl⟩
  | false=>cases mQ x.log (fT x.state k i t).1<;>exact⟨rfl,rfl⟩
theorem MX(x:NodeT)(i:Int):(i7 x i).1.num<=x.num+1/\(i7 x i).1.clock=x.clock:=by
 unfold i7
 cases hb:pO x i with
 | false=>exact⟨by show x.num<=x.num+1;omega,rfl⟩
 | true=>exact⟨by show i64.wrap (x.num+1)<=x.num+1;rw[HF (tL hb).num];omega,rfl⟩
theorem KF{x:NodeT}(h:NodeOk x):(eZ x).num=x.num/\(eZ x).clock<=x.clock+1:=by
 have hc:=h.clock;rw[aP] at hc
 unfold eZ
 cases dJ x with
 | false=>exact⟨rfl,by show x.clock<=x.clock+1;omega⟩
 | true=>
  cases x.clock==100000 with
  | true=>exact⟨rfl,by show x.clock<=x.clock+1;omega⟩
  | false=>exact⟨rfl,by show i64.wrap (x.clock+1)<=x.clock+1;rw[IntKind.wrap_i64];omega⟩
theorem S5(x:NodeT)(i:Int):(i7 x i).1.2.1=x.2.1:=by unfold i7;cases pO x i<;>rfl
theorem QQ{x:NodeT}(h:NodeOk x)(i:Int):NodeOk (i7 x i).1:=by
 unfold i7
 cases hb:pO x i with
 | false=>exact h
 | true=>exact(tL hb).up
theorem QN(x:NodeT):(eZ x).2.1=x.2.1:=by unfold eZ;cases dJ x<;>cases x.clock==100000<;>rfl
def G4(x:NodeT)(k:Int)(ms:List aU):NodeT:=
 (x.1,x.2.1,x.2.2.1,x.2.2.2.1,x.2.2.2.2.1,x.2.2.2.2.2.1,x.2.2.2.2.2.2.1,x.2.2.2.2.2.2.2.1,x.2.2.2.2.2.2.2.2.1,x.got,x.acked,bO x.seen k ms,x.num,x.slots,x.sess,x.wait,x.limit,x.clock,x.rises,())
theorem KP{x:NodeT}(h:NodeOk x)(k:Int)(ms:List aU):NodeOk (G4 x k ms):=
 ⟨h.n,h.id,h.state,h.tree,h.log,h.got,h.acked,h.own,pN h.seen,h.ack,h.num,h.clock,h.slots,h.wait,h.limit,h.rises,h.rise,h.sess⟩
theorem KO{x:NodeT}(h:SzN x)(k:Int)(ms:List aU):SzN (G4 x k ms):=
 ⟨h.state,h.leaves,h.list,h.logs,h.got,h.acked,by show(bO _ _ _).length<=aW;rw[dD];exact h.seen,λi hi=>by
  show(gt (bO x.seen k ms) i).1.length<=aW
  rw[fA];exact h.lines i (by have:i<(bO x.seen k ms).length:=hi;rw[dD] at this;exact this),h.sess,h.rises⟩
def GP(y:NodeT)(g a:List aO):NodeT:=
 (y.1,y.2.1,y.2.2.1,y.2.2.2.1,y.2.2.2.2.1,y.2.2.2.2.2.1,y.2.2.2.2.2.2.1,y.2.2.2.2.2.2.2.1,y.2.2.2.2.2.2.2.2.1,g,a,y.seen,y.num,y.slots,y.sess,y.wait,y.limit,y.clock,y.rises,())
theorem f95(c:eQ)(h:CurOk c):∃ (y:NodeT) (d:eQ),Ran p 10 95 [.ref ⟨K88,c⟩] ⟨[⟨K54,y⟩],[⟨K88,d⟩]⟩/\CurOk d/\NodD y:=by
 obtain⟨x1,d1,h1,k1,a1,b1,_⟩:=f30 c 4 h
 have c1:=b1 (by omega)
 obtain⟨m,hm⟩:∃ m:Nat,1+x1=m:=⟨(1+x1).toNat,by omega⟩
 have hw:i64.wrap (1+x1)=(m:Int):=by rw[IntKind.wrap_i64];omega
 have hm1:1<=m/\m<=4:=by omega
 obtain⟨x2,d2,h2,k2,a2,b2,_⟩:=f30 d1 (i64.wrap (1+x1)) k1
 obtain⟨x3,d3,h3,k3,e3⟩:=f96 d2 [((1:Int),()),((2:Int),()),((8:Int),())] k2 (by show 0<3;omega)
 obtain⟨x4,d4,h4,k4,a4,b4,_⟩:=f30 d3 3 k3
 obtain⟨x5,d5,h5,k5,a5,b5,_⟩:=f30 d4 5 k4
 obtain⟨x6,d6,h6,k6,a6,b6,_⟩:=f30 d5 6 k5
 obtain⟨x8,d8,h8,k8,a8,b8,_⟩:=f30 d6 8 k6
 have h7:=f122 x2 (i64.wrap (1+x1)) x3 (i64.wrap (1+x4)) (i64.wrap (1+x5)) (i64.wrap (1+x6))
 have w4:i64.wrap (1+x4)=1+x4:=by have:=b4 (by omega);rw[IntKind.wrap_i64];omega
 have w5:i64.wrap (1+x5)=1+x5:=by have:=b5 (by omega);rw[IntKind.wrap_i64];omega
 have w6:i64.wrap (1+x6)=1+x6:=by have:=b6 (by omega);rw[IntKind.wrap_i64];omega
 have c2:=b2 (by rw[hw];omega)
 have c3:inB x3 1 8=true:=by
  simp only[List.mem_cons,List.not_mem_nil,or_false,Prod.mk.injEq,and_true] at e3
  rw[aP];omega
 have hB:inB (i64.wrap (1+x1)) 1 5=true:=by rw[hw,aP];omega
 have hNN:=FF (id:=x2) (n:=i64.wrap (1+x1)) (cap:=x3) (slots:=i64.wrap (1+x4)) (wait:=i64.wrap (1+x5)) (lim:=i64.wrap (1+x6)) hB ⟨a2,c2⟩ c3
  (by rw[w4,aP];have:=b4 (by omega);omega) (by rw[w5,aP];have:=b5 (by omega);omega) (by rw[w6,aP];have:=b6 (by omega);omega)
 have hN0:=zO (id:=x2) (n:=i64.wrap (1+x1)) (cap:=x3) (slots:=i64.wrap (1+x4)) (wait:=i64.wrap (1+x5)) (lim:=i64.wrap (1+x6)) hB ⟨a2,c2⟩ c3
  (by rw[w4,aP];have:=b4 (by omega);omega) (by rw[w5,aP];have:=b5 (by omega);omega) (by rw[w6,aP];have:=b6 (by omega);omega)
 have hZ0:=sM x2 (i64.wrap (1+x1)) x3 (i64.wrap (1+x4)) (i64.wrap (1+x5)) (i64.wrap (1+x6)) hB
 have hcnt0:(gP x2 (i64.wrap (1+x1)) x3 (i64.wrap (1+x4)) (i64.wrap (1+x5)) (i64.wrap (1+x6))).num<=((0:Nat):Int)/\(gP x2 (i64.wrap (1+x1)) x3 (i64.wrap (1+x4)) (i64.wrap (1+x5)) (i64.wrap (1+x6))).clock<=((0:Nat):Int):=⟨Int.le_refl _,Int.le_refl _⟩
 have hn0:(gP x2 (i64.wrap (1+x1)) x3 (i64.wrap (1+x4)) (i64.wrap (1+x5)) (i64.wrap (1+x6))).2.1=((m:Nat):Int):=hw
 generalize gP x2 (i64.wrap (1+x1)) x3 (i64.wrap (1+x4)) (i64.wrap (1+x5)) (i64.wrap (1+x6))=y0 at hNN hN0 hZ0 hn0 hcnt0
 let Good:Out->Prop:=λo=>∃ (y:NodeT) (d:eQ),o=⟨[⟨K54,y⟩],[⟨K88,d⟩]⟩/\CurOk d/\NodD y
 have second:∀ (y:NodeT) (d:eQ),NodR m 8 y->CurOk d->∃ o,Good o/\∀ n,10 - 1<=n->It (λaA (_:Unit)=>c95_18 (aK p n) aA (((x1,()),()),(d1,())) y.1 y.clock y.2.2.1 y.2.2.2.1 y.2.2.2.2.1 y.log.2.2.1 y.seen y.sess y.rises y.2.1 y.2.2.2.2.2.1 y.log.1 y.log.2.1 y.num y.slots y.wait y.limit) ((0:Int),y.got,y.acked,d.1,d.2.1,d.2.2.1) (λ_=>some o):=by
  intro y d hy hd
  have D:=hy.d hm1.2 (Nat.le_refl _)
  have hlog:=f68 y.log hy.sz.list hy.sz.logs
  have lenm:y.got.length=m/\y.acked.length=m:=by have h1:=D.got;have h2:=D.acked;have h3:=hy.n;omega
  refine It.ex (c:=λn aA (_:Unit)=>c95_18 (aK p n) aA (((x1,()),()),(d1,())) y.1 y.clock y.2.2.1 y.2.2.2.1 y.2.2.2.2.1 y.log.2.2.1 y.seen y.sess y.rises y.2.1 y.2.2.2.2.2.1 y.log.1 y.log.2.1 y.num y.slots y.wait y.limit) (λi z=>∃ (g a:List aO) (d:eQ),z=((i:Int),g,a,d.1,d.2.1,d.2.2.1)/\CurOk d/\g.length=m/\a.length=m) Good m ?_ ?_ m 0 _ (by omega) ⟨y.got,y.acked,d,rfl,hd,lenm.1,lenm.2⟩
  ·rintro i z hi ⟨g,a,d,rfl,hd,hg,ha⟩
   have gi:i<g.length:=by omega
   have ai:i<a.length:=by omega
   cases q:(i:Int) != y.1 with
   | true=>
    obtain⟨x23,d23,h23,k23,_⟩:=f30 d 4 hd
    obtain⟨x26,d26,h26,k26,_⟩:=f30 d23 (i64.wrap (cE y.log+1)) k23
    refine⟨_,⟨g.set i (x23,()),a.set i (x26,()),d26,rfl,k26,by rw[List.length_set];exact hg,by rw[List.length_set];exact ha⟩,λn hn aA u rec=>?_⟩
    show c95_18 (aK p n) aA (((x1,()),()),(d1,())) y.1 y.clock y.2.2.1 y.2.2.2.1 y.2.2.2.2.1 y.log.2.2.1 y.seen y.sess y.rises y.2.1 y.2.2.2.2.2.1 y.log.1 y.log.2.1 y.num y.slots y.wait y.limit rec ((i:Int),g,a,d.1,d.2.1,d.2.2.1)=_
    unfold c95_18;dsimp only;rw[aL (show i<9223372036854775807 by omega)];refine(aE (show(i:Int)<i64.wrap (1+x1) by rw[hw];omega)).trans ?_
    (first | refine(aM q).trans ?_ | refine(aM rfl).trans ?_);refine(aG (h23 n (by omega))).trans ?_;refine bif_nn.trans ?_;refine(aH gi).trans ?_;refine(aH gi).trans ?_;refine(aB (hlog n (by omega))).trans ?_;refine(aG (h26 n (by omega))).trans ?_;refine bif_nn.trans ?_;refine(aH ai).trans ?_;refine(aH ai).trans ?_;rfl
   | false=>
    obtain⟨x26,d26,h26,k26,_⟩:=f30 d (i64.wrap (cE y.log+1)) hd
    refine⟨_,⟨g,a.set i (x26,()),d26,rfl,k26,hg,by rw[List.length_set];exact ha⟩,λn hn aA u rec=>?_⟩
    show c95_18 (aK p n) aA (((x1,()),()),(d1,())) y.1 y.clock y.2.2.1 y.2.2.2.1 y.2.2.2.2.1 y.log.2.2.1 y.seen y.sess y.rises y.2.1 y.2.2.2.2.2.1 y.log.1 y.log.2.1 y.num y.slots y.wait y.limit rec ((i:Int),g,a,d.1,d.2.1,d.2.2.1)=_
    unfold c95_18;dsimp only;rw[aL (show i<9223372036854775807 by omega)];refine(aE (show(i:Int)<i64.wrap (1+x1) by rw[hw];omega)).trans ?_
    (first | refine(aF q).trans ?_ | refine(aF rfl).trans ?_);refine(aB (hlog n (by omega))).trans ?_;refine(aG (h26 n (by omega))).trans ?_;refine bif_nn.trans ?_;refine(aH ai).trans ?_;refine(aH ai).trans ?_;rfl
  ·rintro z ⟨g,a,d,rfl,hd,hg,ha⟩
   have hsm:m<=aW:=by unfold aW;omega
   have hz:SzN (GP y g a):=⟨hy.sz.state,hy.sz.leaves,hy.sz.list,hy.sz.logs,by show g.length<=aW;omega,by show a.length<=aW;omega,hy.sz.seen,hy.sz.lines,hy.sz.sess,hy.sz.rises⟩
   have hn1:=hy.n
   refine⟨_,⟨GP y g a,d,rfl,hd,⟨hz,D.n,D.id,by show g.length=y.2.1.toNat;omega,by show a.length=y.2.1.toNat;omega,D.sess,D.rises,D.cnt⟩⟩,λn hn=>It.stop λaA u rec=>?_⟩
   show c95_18 (aK p n) aA (((x1,()),()),(d1,())) y.1 y.clock y.2.2.1 y.2.2.2.1 y.2.2.2.2.1 y.log.2.2.1 y.seen y.sess y.rises y.2.1 y.2.2.2.2.2.1 y.log.1 y.log.2.1 y.num y.slots y.wait y.limit rec ((m:Int),g,a,d.1,d.2.1,d.2.2.1)=_
   unfold c95_18;refine(aI (show ¬ (m:Int)<i64.wrap (1+x1) by rw[hw];omega)).trans ?_;rfl
 obtain⟨t,rfl⟩:∃ t:Nat,x8=t:=⟨x8.toNat,by omega⟩
 have ht:=b8 (by omega)
 have first:=It.ex (lvl:=10 - 1) (c:=λn aA (_:Unit)=>c95_5 (aK p n) aA (((x1,()),()),(d1,())) ((((t:Int),()),()),(d8,()))) (λi z=>∃ (y:NodeT) (d:eQ),z=((i:Int),y.1,y.2.1,y.2.2.2.2.2.1,y.log.1,y.log.2.1,y.num,y.slots,y.wait,y.limit,y.clock,y.2.2.1,y.2.2.2.1,y.2.2.2.2.1,y.log.2.2.1,y.got,y.acked,y.seen,y.sess,y.rises,d.1,d.2.1,d.2.2.1)/\CurOk d/\NodR m i y) Good t (by
  rintro i z hi ⟨y,d,rfl,hd,hy⟩
  obtain⟨x9,d9,h9,k9,_⟩:=f30 d 6 hd
  cases q0:x9==0 with
  | true=>
   obtain⟨s,d10,h10,k10,hs,ho⟩:=f117 d9 k9
   have h11:=f123 y s hy.sz (hs.sz (by omega)) (C2 hy.ok) ho
   refine⟨_,⟨jG y s,d10,rfl,k10,⟨hy.ok.take ho,lT hy.sz s,hy.n,by have:=hy.cnt;exact⟨by show y.num<=_;omega,by show y.clock<=_;omega⟩⟩⟩,λn hn aA u rec=>?_⟩
   show c95_5 (aK p n) aA (((x1,()),()),(d1,())) ((((t:Int),()),()),(d8,())) rec _=_
   unfold c95_5;dsimp only;rw[aL (show i<9223372036854775807 by omega)];refine(aE (show(i:Int)<(t:Int) by omega)).trans ?_;refine(aG (h9 n (by omega))).trans ?_;refine(aM q0).trans ?_;refine(aG (h10 n (by omega))).trans ?_;refine(aB (h11 n (by omega))).trans ?_;rfl
  | false=>
  cases q1:x9==1 with
  | true=>
   have h11:=f42 y hy.sz
   refine⟨_,⟨eZ y,d9,rfl,k9,⟨yU hy.ok,yT hy.sz,by rw[QN];exact hy.n,by have h1:=hy.cnt;have h2:=KF hy.ok;omega⟩⟩,λn hn aA u rec=>?_⟩
   show c95_5 (aK p n) aA (((x1,()),()),(d1,())) ((((t:Int),()),()),(d8,())) rec _=_
   unfold c95_5;dsimp only;rw[aL (show i<9223372036854775807 by omega)];refine(aE (show(i:Int)<(t:Int) by omega)).trans ?_;refine(aG (h9 n (by omega))).trans ?_;refine(aF q0).trans ?_;refine(aM q1).trans ?_;refine(aB (h11 n (by omega))).trans ?_;rfl
  | false=>
  cases q2:x9==2 with
  | true=>
   obtain⟨x13,d13,h13,k13,_⟩:=f30 d9 (i64.wrap (1+x1)) k9
   obtain⟨s,d14,h14,k14,hs,ho⟩:=f117 d13 k13
   have h15:=f125 s (hs.sz (by omega))
   have h16:=f124 y.seen x13 (cX s) hy.sz.seen hy.sz.lines (Nat.le_trans (fU s) (by decide))
   refine⟨_,⟨G4 y x13 (cX s),d14,rfl,k14,⟨KP hy.ok _ _,KO hy.sz _ _,hy.n,by have:=hy.cnt;exact⟨by show y.num<=_;omega,by show y.clock<=_;omega⟩⟩⟩,λn hn aA u rec=>?_⟩
   show c95_5 (aK p n) aA (((x1,()),()),(d1,())) ((((t:Int),()),()),(d8,())) rec _=_
   unfold c95_5;dsimp only;rw[aL (show i<9223372036854775807 by omega)];refine(aE (show(i:Int)<(t:Int) by omega)).trans ?_;refine(aG (h9 n (by omega))).trans ?_;refine(aF q0).trans ?_;refine(aF q1).trans ?_;refine(aM q2).trans ?_;refine(aG (h13 n (by omega))).trans ?_;refine(aG (h14 n (by omega))).trans ?_;refine(aB (h15 n (by omega))).trans ?_;refine(aB (h16 n (by omega))).trans ?_;rfl
  | false=>
  cases q3:x9==3 with
  | true=>
   obtain⟨x17,d17,h17,k17,_⟩:=f30 d9 (i64.wrap (1+x1)) k9
   have h18:=f126 y x17 hy.sz
   refine⟨_,⟨(i7 y x17).1,d17,rfl,k17,⟨QQ hy.ok _,(C7 hy.sz _).1,by rw[S5];exact hy.n,by have h1:=hy.cnt;have h2:=MX y x17;omega⟩⟩,λn hn aA u rec=>?_⟩
   show c95_5 (aK p n) aA (((x1,()),()),(d1,())) ((((t:Int),()),()),(d8,())) rec _=_
   unfold c95_5;dsimp only;rw[aL (show i<9223372036854775807 by omega)];refine(aE (show(i:Int)<(t:Int) by omega)).trans ?_;refine(aG (h9 n (by omega))).trans ?_;refine(aF q0).trans ?_;refine(aF q1).trans ?_;refine(aF q2).trans ?_;refine(aM q3).trans ?_;refine(aG (h17 n (by omega))).trans ?_;refine(dK (h18 n (by omega))).trans ?_;rfl
  | false=>
   obtain⟨x19,d19,h19,k19,_⟩:=f30 d9 5 k9
   obtain⟨x20,d20,h20,k20,_⟩:=f30 d19 (i64.wrap (1+x1)) k19
   obtain⟨x21,d21,h21,k21,_⟩:=f128 d20 [((⟨#[]⟩:ByteArray),()),((⟨#[120]⟩:ByteArray),()),((⟨#[121,122]⟩:ByteArray),())] k20 (by show 0<3;omega)
   have h22:=f127 y x19 x20 x21 hy.sz
   refine⟨_,⟨(jF y x19 x20 x21).1,d21,rfl,k21,⟨Q3 hy.ok _ _ _,JC hy.sz _ _ _,by rw[S9];exact hy.n,by have h1:=hy.cnt;have h2:=ND y x19 x20 x21;omega⟩⟩,λn hn aA u rec=>?_⟩
   show c95_5 (aK p n) aA (((x1,()),()),(d1,())) ((((t:Int),()),()),(d8,())) rec _=_
   unfold c95_5;dsimp only;rw[aL (show i<9223372036854775807 by omega)];refine(aE (show(i:Int)<(t:Int) by omega)).trans ?_;refine(aG (h9 n (by omega))).trans ?_;refine(aF q0).trans ?_;refine(aF q1).trans ?_;refine(aF q2).trans ?_;refine(aF q3).trans ?_;refine(aG (h19 n (by omega))).trans ?_;refine(aG (h20 n (by omega))).trans ?_;refine(aG (h21 n (by omega))).trans ?_;refine(dK (h22 n (by omega))).trans ?_;rfl) (by
  rintro z ⟨y,d,rfl,hd,hy⟩
  obtain⟨o,ho,hL⟩:=second y d ⟨hy.ok,hy.sz,hy.n,by have:=hy.cnt;omega⟩ hd
  refine⟨o,ho,λn hn=>It.stopE (T:=λaA _=>iter (c95_18 (aK p n) aA (((x1,()),()),(d1,())) y.1 y.clock y.2.2.1 y.2.2.2.1 y.2.2.2.2.1 y.log.2.2.1 y.seen y.sess y.rises y.2.1 y.2.2.2.2.2.1 y.log.1 y.log.2.1 y.num y.slots y.wait y.limit) aA ((0:Int),y.got,y.acked,d.1,d.2.1,d.2.2.1)) (λaA u rec=>?_) (hL n hn).all_i⟩
  show c95_5 (aK p n) aA (((x1,()),()),(d1,())) ((((t:Int),()),()),(d8,())) rec _=_
  unfold c95_5;refine(aI (Int.lt_irrefl _)).trans ?_;rfl)
 obtain⟨o,⟨y,d,rfl,hd,hy⟩,hL⟩:=first t 0 ((0:Int),y0.1,y0.2.1,y0.2.2.2.2.2.1,y0.log.1,y0.log.2.1,y0.num,y0.slots,y0.wait,y0.limit,y0.clock,y0.2.2.1,y0.2.2.2.1,y0.2.2.2.2.1,y0.log.2.2.1,y0.got,y0.acked,y0.seen,y0.sess,y0.rises,d8.1,d8.2.1,d8.2.2.1) (by omega) ⟨y0,d8,rfl,k8,⟨hN0,hZ0,hn0,hcnt0⟩⟩
 rw[hNN.2] at h7
 exact⟨y,d,go95 λn hn=>Ev.eq (λaA=>by unfold T95;refine(aG (h1 n (by omega))).trans ?_;refine(aG (h2 n (by omega))).trans ?_;refine(aG (h3 n (by omega))).trans ?_;refine(aG (h4 n (by omega))).trans ?_;refine(aG (h5 n (by omega))).trans ?_;refine(aG (h6 n (by omega))).trans ?_;refine(bE (h7 n (by omega))).trans ?_;refine(aG (h8 n (by omega))).trans ?_;rfl) ((hL n (by omega)).ev (i:=()) rfl),hd,hy⟩
end Go.Abs.Wz
set_option maxHeartbeats 2000000
namespace Go.Abs.Wz
open Go Go.Abs
structure NodX (y:NodeT):Prop where
 sz:SzN y
 n:1<=y.2.1/\y.2.1<=4
 sess:y.sess.length<=5
 cnt:y.num<=8/\y.clock<=8
theorem f56(c:eQ)(h:CurOk c):∃ (y:NodeT) (d:eQ),Ran p 11 56 [.ref ⟨K88,c⟩] ⟨[⟨K54,y⟩],[⟨K88,d⟩]⟩/\CurOk d/\NodX y:=by
 obtain⟨y,d1,h1,k1,D⟩:=f95 c h
 obtain⟨x2,d2,h2,k2,_⟩:=f30 d1 18 k1
 have z:=D.sz
 have s5:y.sess.length<=5:=Nat.le_succ_of_le D.sess
 cases q0:x2==0 with
 | true=>
  obtain⟨x3,d3,h3,k3,_⟩:=f96 d2 [((-1:Int),()),(y.2.1,())] k2 (by show 0<2;omega)
  exact⟨(x3,y.2),d3,go56 λn hn=>Ev.now λaA=>by unfold T56;refine(aG (h1 n (by omega))).trans ?_;refine(aG (h2 n (by omega))).trans ?_;refine(aM q0).trans ?_;refine(aG (h3 n (by omega))).trans ?_;rfl,k3,⟨⟨z.state,z.leaves,z.list,z.logs,z.got,z.acked,z.seen,z.lines,z.sess,z.rises⟩,D.n,s5,D.cnt⟩⟩
 | false=>
 cases q1:x2==1 with
 | true=>
  exact⟨(y.1,y.2.1,y.2.2.1,y.2.2.2.1,y.2.2.2.2.1,i64.wrap (y.2.2.2.2.2.1+1),y.2.2.2.2.2.2),d2,go56 λn hn=>Ev.now λaA=>by unfold T56;refine(aG (h1 n (by omega))).trans ?_;refine(aG (h2 n (by omega))).trans ?_;refine(aF q0).trans ?_;refine(aM q1).trans ?_;rfl,k2,⟨⟨z.state,z.leaves,z.list,z.logs,z.got,z.acked,z.seen,z.lines,z.sess,z.rises⟩,D.n,s5,D.cnt⟩⟩
 | false=>
 cases q2:x2==2 with
 | true=>
  have h0:=D.id.1
  have hk:y.1.toNat<y.got.length:=by have h3:=D.id;have h4:=D.got;omega
  refine⟨GP y (y.got.set y.1.toNat (i64.wrap ((gt y.got y.1.toNat).1+1),())) y.acked,d2,go56 λn hn=>Ev.now λaA=>by unfold T56;refine(aG (h1 n (by omega))).trans ?_;refine(aG (h2 n (by omega))).trans ?_;refine(aF q0).trans ?_;refine(aF q1).trans ?_;refine(aM q2).trans ?_;refine(aE h0).trans ?_;refine(bH hk).trans ?_;refine(bH hk).trans ?_;refine(aE h0).trans ?_;refine(bH hk).trans ?_;refine(bH hk).trans ?_;rfl,k2,⟨⟨z.state,z.leaves,z.list,z.logs,?_,z.acked,z.seen,z.lines,z.sess,z.rises⟩,D.n,s5,D.cnt⟩⟩
  show(List.set _ _ _).length<=aW;rw[List.length_set];exact z.got
 | false=>
 cases q3:x2==3 with
 | true=>
  obtain⟨t,d3,h3,k3,ht⟩:=f97 d2 k2
  exact⟨(y.1,y.2.1,y.2.2.1,y.2.2.2.1,y.2.2.2.2.1,y.2.2.2.2.2.1,y.2.2.2.2.2.2.1,y.2.2.2.2.2.2.2.1,y.2.2.2.2.2.2.2.2.1,y.got,y.acked,t,y.num,y.slots,y.sess,y.wait,y.limit,y.clock,y.rises,()),d3,go56 λn hn=>Ev.now λaA=>by unfold T56;refine(aG (h1 n (by omega))).trans ?_;refine(aG (h2 n (by omega))).trans ?_;refine(aF q0).trans ?_;refine(aF q1).trans ?_;refine(aF q2).trans ?_;refine(aM q3).trans ?_;refine(aG (h3 n (by omega))).trans ?_;rfl,k3,⟨⟨z.state,z.leaves,z.list,z.logs,z.got,z.acked,ht.sz.1,ht.sz.2,z.sess,z.rises⟩,D.n,s5,D.cnt⟩⟩
 | false=>
 cases q4:x2==4 with
 | true=>
  obtain⟨x3,d3,h3,k3,_⟩:=f96 d2 [((0:Int),()),((5:Int),())] k2 (by show 0<2;omega)
  exact⟨(y.1,y.2.1,y.2.2.1,y.2.2.2.1,y.2.2.2.2.1,y.2.2.2.2.2.1,y.2.2.2.2.2.2.1,y.2.2.2.2.2.2.2.1,y.2.2.2.2.2.2.2.2.1,y.got,y.acked,y.seen,y.num,x3,y.sess,y.wait,y.limit,y.clock,y.rises,()),d3,go56 λn hn=>Ev.now λaA=>by unfold T56;refine(aG (h1 n (by omega))).trans ?_;refine(aG (h2 n (by omega))).trans ?_;refine(aF q0).trans ?_;refine(aF q1).trans ?_;refine(aF q2).trans ?_;refine(aF q3).trans ?_;refine(aM q4).trans ?_;refine(aG (h3 n (by omega))).trans ?_;rfl,k3,⟨⟨z.state,z.leaves,z.list,z.logs,z.got,z.acked,z.seen,z.lines,z.sess,z.rises⟩,D.n,s5,D.cnt⟩⟩
 | false=>
 cases q5:x2==5 with
 | true=>
  obtain⟨x8,d8,h8,k8,_⟩:=f30 d2 6 k2
  obtain⟨b9,d9,h9,k9⟩:=f90 d8 2 k8
  obtain⟨x10,d10,h10,k10,_⟩:=f30 d9 9 k9
  have hb:y.sess.length+1<=bound:=by have:=D.sess;unfold bound;omega
  have hl:(y.sess++[(i64.wrap (x8 - 1),(1:Int),b9,x10,())]).length<=5:=by rw[List.length_append,List.length_singleton];have:=D.sess;omega
  exact⟨withS y (y.sess++[(i64.wrap (x8 - 1),(1:Int),b9,x10,())]),d10,go56 λn hn=>Ev.now λaA=>by unfold T56;refine(aG (h1 n (by omega))).trans ?_;refine(aG (h2 n (by omega))).trans ?_;refine(aF q0).trans ?_;refine(aF q1).trans ?_;refine(aF q2).trans ?_;refine(aF q3).trans ?_;refine(aF q4).trans ?_;refine(aM q5).trans ?_;refine(aG (h8 n (by omega))).trans ?_;refine(aG (h9 n (by omega))).trans ?_;refine(aG (h10 n (by omega))).trans ?_;refine(aE hb).trans ?_;rfl,k10,⟨tF z (Nat.le_trans hl (by decide)),D.n,hl,D.cnt⟩⟩
 | false=>
 cases q6:x2==6 with
 | true=>
  obtain⟨s,d3,h3,k3,hs⟩:=f91 d2 k2
  exact⟨(y.1,y.2.1,s.1,s.2.1,y.2.2.2.2),d3,go56 λn hn=>Ev.now λaA=>by unfold T56;refine(aG (h1 n (by omega))).trans ?_;refine(aG (h2 n (by omega))).trans ?_;refine(aF q0).trans ?_;refine(aF q1).trans ?_;refine(aF q2).trans ?_;refine(aF q3).trans ?_;refine(aF q4).trans ?_;refine(aF q5).trans ?_;refine(aM q6).trans ?_;refine(aG (h3 n (by omega))).trans ?_;rfl,k3,⟨⟨hs.sz (by omega),z.leaves,z.list,z.logs,z.got,z.acked,z.seen,z.lines,z.sess,z.rises⟩,D.n,s5,D.cnt⟩⟩
 | false=>
 cases q7:x2==7 with
 | true=>
  have hr:0<y.rises.length:=by rw[D.rises];omega
  refine⟨(y.1,y.2.1,y.2.2.1,y.2.2.2.1,y.2.2.2.2.1,y.2.2.2.2.2.1,y.2.2.2.2.2.2.1,y.2.2.2.2.2.2.2.1,y.2.2.2.2.2.2.2.2.1,y.got,y.acked,y.seen,y.num,y.slots,y.sess,y.wait,y.limit,y.clock,y.rises.set 0 ((gt y.rises 0).1,(gt y.rises 0).2.1,i64.wrap (y.clock+1),(gt y.rises 0).2.2.2),()),d2,go56 λn hn=>Ev.now λaA=>by unfold T56;refine(aG (h1 n (by omega))).trans ?_;refine(aG (h2 n (by omega))).trans ?_;refine(aF q0).trans ?_;refine(aF q1).trans ?_;refine(aF q2).trans ?_;refine(aF q3).trans ?_;refine(aF q4).trans ?_;refine(aF q5).trans ?_;refine(aF q6).trans ?_;refine(aM q7).trans ?_;refine(aE (show(0:Int)<=0 by omega)).trans ?_;refine(bH hr).trans ?_;refine(bH hr).trans ?_;rfl,k2,⟨⟨z.state,z.leaves,z.list,z.logs,z.got,z.acked,z.seen,z.lines,z.sess,?_⟩,D.n,s5,D.cnt⟩⟩
  show(List.set _ _ _).length<=aW;rw[List.length_set];exact z.rises
 | false=>
 cases q8:x2==8 with
 | true=>
  obtain⟨l,d3,h3,k3,hl⟩:=f98 d2 k2
  have hz:=hl.sz (by omega)
  exact⟨(y.1,y.2.1,y.2.2.1,y.2.2.2.1,y.2.2.2.2.1,y.2.2.2.2.2.1,l.1,l.2.1,l.2.2.1,y.got,y.acked,y.seen,y.num,y.slots,y.sess,y.wait,y.limit,y.clock,y.rises,()),d3,go56 λn hn=>Ev.now λaA=>by unfold T56;refine(aG (h1 n (by omega))).trans ?_;refine(aG (h2 n (by omega))).trans ?_;refine(aF q0).trans ?_;refine(aF q1).trans ?_;refine(aF q2).trans ?_;refine(aF q3).trans ?_;refine(aF q4).trans ?_;refine(aF q5).trans ?_;refine(aF q6).trans ?_;refine(aF q7).trans ?_;refine(aM q8).trans ?_;refine(aG (h3 n (by omega))).trans ?_;rfl,k3,⟨⟨z.state,z.leaves,hz.1,hz.2,z.got,z.acked,z.seen,z.lines,z.sess,z.rises⟩,D.n,s5,D.cnt⟩⟩
 | false=>exact⟨y,d2,go56 λn hn=>Ev.now λaA=>by unfold T56;refine(aG (h1 n (by omega))).trans ?_;refine(aG (h2 n (by omega))).trans ?_;refine(aF q0).trans ?_;refine(aF q1).trans ?_;refine(aF q2).trans ?_;refine(aF q3).trans ?_;refine(aF q4).trans ?_;refine(aF q5).trans ?_;refine(aF q6).trans ?_;refine(aF q7).trans ?_;refine(aF q8).trans ?_;rfl,k2,⟨z,D.n,s5,D.cnt⟩⟩
end Go.Abs.Wz
/- Deeds as drawn; drawn worlds. -/
namespace Go.Abs.Wz
open Go Go.Abs
theorem f120(c:eQ)(w:a9)(h:CurOk c):∃ (d:jR) (e:eQ),Ran p 4 120 [.ref ⟨K88,c⟩, va K28 w] ⟨[⟨K132,d⟩],[⟨K88,e⟩]⟩/\CurOk e:=by
 obtain⟨k,c1,h1,k1,_⟩:=f96 c [((0:Int),()),((0:Int),()),((0:Int),()),((1:Int),()),((2:Int),()),((2:Int),()),((3:Int),()),((3:Int),()),((4:Int),()),((4:Int),()),((4:Int),()),((4:Int),()),((4:Int),()),((4:Int),()),((5:Int),()),((6:Int),()),((7:Int),())] h (by show 0<17;omega)
 obtain⟨a,c2,h2,k2,_⟩:=f30 c1 (w.1.length:Int) k1
 obtain⟨a',c3,h3,k3,_⟩:=f30 c2 (mxI true (w.2.1.length:Int) 1) k2
 cases q0:k==0 with
 | true=>
  obtain⟨b,d1,g1,l1,_⟩:=f96 c2 [((0:Int),()),((0:Int),()),((1:Int),()),((1:Int),()),((1:Int),()),((2:Int),()),((3:Int),()),((4:Int),())] k2 (by show 0<8;omega)
  cases q4:b==4 with
  | true=>
   obtain⟨v,d2,g2,l2,_⟩:=f30 d1 (w.1.length:Int) l1
   obtain⟨t,d3,g3,l3,_⟩:=f128 d2 [((⟨#[]⟩:ByteArray),()),((⟨#[120]⟩:ByteArray),()),((⟨#[121,122]⟩:ByteArray),())] l2 (by show 0<3;omega)
   exact⟨(k,a,b,v,t,()),d3,go120 λn hn=>Ev.now λaA=>by unfold T120;refine(aG (h1 n (by omega))).trans ?_;refine(aG (h2 n (by omega))).trans ?_;refine(aM q0).trans ?_;refine(aG (g1 n (by omega))).trans ?_;refine(aM q4).trans ?_;refine(aG (g2 n (by omega))).trans ?_;refine(aG (g3 n (by omega))).trans ?_;rfl,l3⟩
  | false=>
   obtain⟨t,d3,g3,l3,_⟩:=f128 d1 [((⟨#[]⟩:ByteArray),()),((⟨#[120]⟩:ByteArray),()),((⟨#[121,122]⟩:ByteArray),())] l1 (by show 0<3;omega)
   exact⟨(k,a,b,a,t,()),d3,go120 λn hn=>Ev.now λaA=>by unfold T120;refine(aG (h1 n (by omega))).trans ?_;refine(aG (h2 n (by omega))).trans ?_;refine(aM q0).trans ?_;refine(aG (g1 n (by omega))).trans ?_;refine(aF q4).trans ?_;refine(aG (g3 n (by omega))).trans ?_;rfl,l3⟩
 | false=>
 obtain⟨x,d1,g1,l1,_⟩:=f30 c2 (w.1.length:Int) k2
 cases q2:k==2 with
 | true=>exact⟨(k,a,x,0,⟨#[]⟩,()),d1,go120 λn hn=>Ev.now λaA=>by unfold T120;refine(aG (h1 n (by omega))).trans ?_;refine(aG (h2 n (by omega))).trans ?_;refine(aF q0).trans ?_;refine(aM q2).trans ?_;refine(aM q2).trans ?_;refine(aG (g1 n (by omega))).trans ?_;rfl,l1⟩
 | false=>
 cases q3:k==3 with
 | true=>exact⟨(k,a,x,0,⟨#[]⟩,()),d1,go120 λn hn=>Ev.now λaA=>by unfold T120;refine(aG (h1 n (by omega))).trans ?_;refine(aG (h2 n (by omega))).trans ?_;refine(aF q0).trans ?_;refine(aF q2).trans ?_;refine(aM q3).trans ?_;refine(aG (g1 n (by omega))).trans ?_;rfl,l1⟩
 | false=>
 have hm:=f61 (w.2.1.length:Int) 1
 cases q4:k==4 with
 | true=>exact⟨(k,a',0,0,⟨#[]⟩,()),c3,go120 λn hn=>Ev.now λaA=>by unfold T120;refine(aG (h1 n (by omega))).trans ?_;refine(aG (h2 n (by omega))).trans ?_;refine(aF q0).trans ?_;refine(aF q2).trans ?_;refine(aF q3).trans ?_;refine(aM q4).trans ?_;refine(aM q4).trans ?_;refine(aB (hm n (by omega))).trans ?_;refine(aG (h3 n (by omega))).trans ?_;rfl,k3⟩
 | false=>
 cases q5:k==5 with
 | true=>exact⟨(k,a',0,0,⟨#[]⟩,()),c3,go120 λn hn=>Ev.now λaA=>by unfold T120;refine(aG (h1 n (by omega))).trans ?_;refine(aG (h2 n (by omega))).trans ?_;refine(aF q0).trans ?_;refine(aF q2).trans ?_;refine(aF q3).trans ?_;refine(aF q4).trans ?_;refine(aM q5).trans ?_;refine(aM q5).trans ?_;refine(aB (hm n (by omega))).trans ?_;refine(aG (h3 n (by omega))).trans ?_;rfl,k3⟩
 | false=>
 cases q6:k==6 with
 | true=>exact⟨(k,a',0,0,⟨#[]⟩,()),c3,go120 λn hn=>Ev.now λaA=>by unfold T120;refine(aG (h1 n (by omega))).trans ?_;refine(aG (h2 n (by omega))).trans ?_;refine(aF q0).trans ?_;refine(aF q2).trans ?_;refine(aF q3).trans ?_;refine(aF q4).trans ?_;refine(aF q5).trans ?_;refine(aM q6).trans ?_;refine(aB (hm n (by omega))).trans ?_;refine(aG (h3 n (by omega))).trans ?_;rfl,k3⟩
 | false=>
 cases q7:k==7 with
 | true=>
  obtain⟨b,d2,g2,l2,_⟩:=f30 c3 40 k3
  obtain⟨v,d3,g3,l3,_⟩:=f30 d2 255 l2
  exact⟨(k,a',b,i64.wrap (1+v),⟨#[]⟩,()),d3,go120 λn hn=>Ev.now λaA=>by unfold T120;refine(aG (h1 n (by omega))).trans ?_;refine(aG (h2 n (by omega))).trans ?_;refine(aF q0).trans ?_;refine(aF q2).trans ?_;refine(aF q3).trans ?_;refine(aF q4).trans ?_;refine(aF q5).trans ?_;refine(aF q6).trans ?_;refine(aM q7).trans ?_;refine(aB (hm n (by omega))).trans ?_;refine(aG (h3 n (by omega))).trans ?_;refine(aG (g2 n (by omega))).trans ?_;refine(aG (g3 n (by omega))).trans ?_;rfl,l3⟩
 | false=>exact⟨(k,a,0,0,⟨#[]⟩,()),c2,go120 λn hn=>Ev.now λaA=>by unfold T120;refine(aG (h1 n (by omega))).trans ?_;refine(aG (h2 n (by omega))).trans ?_;refine(aF q0).trans ?_;refine(aF q2).trans ?_;refine(aF q3).trans ?_;refine(aF q4).trans ?_;refine(aF q5).trans ?_;refine(aF q6).trans ?_;refine(aF q7).trans ?_;rfl,k2⟩
end Go.Abs.Wz
/- Drawn worlds. -/
namespace Go.Abs.Wz
open Go Go.Abs
theorem GA(w:a9)(d:jR):(cQ w d).1.1.length=w.1.length:=by
 unfold cQ
 cases d.1==1<;>cases d.1==0<;>cases (w.2.2.1.length:Int)==40<;>cases (w.2.1.length:Int)==12<;>cases d.1==2<;>
  cases (jF (gt w.1 d.2.1.toNat) d.2.2.1 d.2.2.2.1 d.2.2.2.2.1).2.2 != 0<;>cases (jK (gt w.1 d.2.1.toNat) d.2.2.1).2<;>cases (i7 (gt w.1 d.2.1.toNat) d.2.2.1).2.2<;>first | rfl | exact List.length_set
theorem OA(w:a9)(d:jR):(mX w d).1.1.length=w.1.length:=by
 unfold mX
 cases d.1==4<;>cases d.1==5<;>cases d.1==6<;>cases (w.2.1.length:Int)==12<;>cases oO w d<;>first | rfl | exact List.length_set
theorem SA(w:a9)(d:jR):(doW w d).1.1.length=w.1.length:=by
 unfold doW
 cases !bT w<;>cases !inB d.1 0 7<;>cases decide (d.1<=3)<;>cases !inB d.2.1 0 (i64.wrap ((w.1.length:Int) - 1))<;>cases !inB d.2.1 0 (i64.wrap ((w.2.1.length:Int) - 1))<;>
  first | rfl | exact GA w d | exact OA w d
theorem MN{m:Nat}{cap slots wait lim:Int}(hm:1<=m/\m<=4)(hc:inB cap 1 8=true)(hs:inB slots 1 4=true)(hw:inB wait 1 20=true)(hl:inB lim 1 50=true):BB (m:Int) cap slots wait lim=true:=by
 have hcnt:c9 (m:Int)=m:=by unfold c9;omega
 have hlen:(eJ (m:Int) cap slots wait lim (c9 (m:Int))).length=m:=by rw[g9,hcnt]
 unfold BB bT
 simp only[Bool.and_eq_true,bI]
 refine⟨?_,rfl,rfl,λi hi=>?_,λi hi=>absurd hi (Nat.not_lt_zero _),λi hi=>absurd hi (Nat.not_lt_zero _)⟩
 ·rw[aP];show 1<=(((eJ (m:Int) cap slots wait lim (c9 (m:Int))).length:Nat):Int)/\(((eJ (m:Int) cap slots wait lim (c9 (m:Int))).length:Nat):Int)<=5
  rw[hlen];omega
 ·have hi':i<c9 (m:Int):=by rw[hcnt];rw[show(wnW (m:Int) cap slots wait lim).1.length=m from hlen] at hi;exact hi
  have hy:=FF (id:=(i:Int)) (n:=(m:Int)) (cap:=cap) (slots:=slots) (wait:=wait) (lim:=lim) (by rw[aP];omega) (by omega) hc hs hw hl
  have hg:gt (wnW (m:Int) cap slots wait lim).1 i=gP (i:Int) (m:Int) cap slots wait lim:=by
   rw[show gt (wnW (m:Int) cap slots wait lim).1 i=_ from sK (m:Int) cap slots wait lim hi',hy.2]
  have h1:=hy.1
  unfold pJ at h1
  simp only[Bool.and_eq_true] at h1
  unfold kL
  rw[hg,h1.2,show(wnW (m:Int) cap slots wait lim).1.length=m from hlen]
  simp[gP]
def Few(w:a9):Prop:=w.2.1.length<=12/\w.2.2.1.length<=40
theorem GM{rs:List bQ}:∀ (k i:Nat) (net:List dN),net.length<=12->(uW rs k i net).length<=12
 | 0,i,net,hl=>hl
 | k+1,i,net,hl=>by
  unfold uW
  by_cases h12:(net.length:Int)<12
  ·rw[decide_eq_true h12];exact GM k (i+1) _ (by rw[List.length_append,List.length_singleton];omega)
  ·rw[decide_eq_false h12];exact hl
theorem D3{α:Type}{l:List α}{n:Nat}{x:α}(h:l.length<=n)(g:((l.length:Int)==(n:Int))=false):(l++[x]).length<=n:=by
 rw[beq_eq_false_iff_ne] at g;rw[List.length_append,List.length_singleton];omega
theorem SB{w:a9}(d:jR)(h:Few w):Few (doW w d).1:=by
 have hA:Few (cQ w d).1:=by
  unfold cQ
  cases d.1==1 with
  | true=>exact h
  | false=>
  cases d.1==0 with
  | true=>
   cases g:(w.2.2.1.length:Int)==40 with
   | true=>exact h
   | false=>cases (jF (gt w.1 d.2.1.toNat) d.2.2.1 d.2.2.2.1 d.2.2.2.2.1).2.2 != 0 with
    | true=>exact h
    | false=>exact⟨h.1,D3 h.2 g⟩
  | false=>
  cases g:(w.2.1.length:Int)==12 with
  | true=>exact h
  | false=>
  cases d.1==2 with
  | true=>cases (jK (gt w.1 d.2.1.toNat) d.2.2.1).2 with
   | false=>exact h
   | true=>exact⟨D3 h.1 g,h.2⟩
  | false=>cases (i7 (gt w.1 d.2.1.toNat) d.2.2.1).2.2 with
   | false=>exact h
   | true=>exact⟨D3 h.1 g,h.2⟩
 have hB:Few (mX w d).1:=by
  unfold mX
  cases d.1==4 with
  | true=>exact⟨GM _ _ _ (Nat.le_trans (kE _ _) h.1),h.2⟩
  | false=>
  cases d.1==5 with
  | true=>exact⟨Nat.le_trans (kE _ _) h.1,h.2⟩
  | false=>
  cases d.1==6 with
  | true=>
   cases g:(w.2.1.length:Int)==12 with
   | true=>exact h
   | false=>exact⟨D3 h.1 g,h.2⟩
  | false=>
  cases oO w d with
  | true=>exact h
  | false=>exact⟨by show(List.set _ _ _).length<=12;rw[List.length_set];exact h.1,h.2⟩
 unfold doW
 cases !bT w<;>cases !inB d.1 0 7<;>cases decide (d.1<=3)<;>cases !inB d.2.1 0 (i64.wrap ((w.1.length:Int) - 1))<;>cases !inB d.2.1 0 (i64.wrap ((w.2.1.length:Int) - 1))<;>
  first | exact h | exact hA | exact hB
theorem QI(n cap slots wait lim:Int):SzY (wnW n cap slots wait lim):=
 { toSzW:=MM n cap slots wait lim,bytes:=λi hi=>absurd hi (Nat.not_lt_zero _),by_:=λi hi=>absurd hi (Nat.not_lt_zero _) }
theorem JH{x:Int}{l:List aO}{a b:Int}(h:(x,())∈l)(hl:l.all (λy=>inB y.1 a b)=true):inB x a b=true:=(List.all_eq_true.1 hl) _ h
theorem UT{α:Type}[Inhabited α]{l r:List α}{i:Nat}(h:i<l.length):gt (l++r) i=gt l i:=by
 rw[cK h,cK (by rw[List.length_append];omega),List.getElem_append_left h]
theorem R5{α:Type}[Inhabited α]{l:List α}{x:α}:gt (l++[x]) l.length=x:=by
 rw[cK (by rw[List.length_append,List.length_singleton];omega),List.getElem_concat_length rfl]
theorem f29(c:eQ)(h:CurOk c):∃ (w:a9) (e:eQ),Ran p 17 29 [.ref ⟨K88,c⟩] ⟨[⟨K28,w⟩],[⟨K88,e⟩]⟩/\CurOk e/\SzY w:=by
 obtain⟨x1,d1,h1,k1,a1,b1,_⟩:=f30 c 16 h
 obtain⟨x2,d2,h2,k2,a2,b2,_⟩:=f30 d1 4 k1
 obtain⟨x3,d3,h3,k3,m3⟩:=f96 d2 [((1:Int),()),((2:Int),()),((8:Int),())] k2 (by show 0<3;omega)
 obtain⟨x4,d4,h4,k4,m4⟩:=f96 d3 [((1:Int),()),((2:Int),()),((4:Int),())] k3 (by show 0<3;omega)
 obtain⟨x5,d5,h5,k5,a5,b5,_⟩:=f30 d4 4 k4
 obtain⟨x6,d6,h6,k6,a6,b6,_⟩:=f30 d5 4 k5
 have b1:=b1 (by omega)
 have b2:=b2 (by omega)
 have b5:=b5 (by omega)
 have b6:=b6 (by omega)
 obtain⟨m,e2,hm⟩:∃ m:Nat,i64.wrap (1+x2)=(m:Int)/\1<=m/\m<=4:=⟨(1+x2).toNat,by rw[IntKind.wrap_i64];omega,by omega,by omega⟩
 have e5:i64.wrap (1+x5)=1+x5:=by rw[IntKind.wrap_i64];omega
 have e6:i64.wrap (1+x6)=1+x6:=by rw[IntKind.wrap_i64];omega
 have hw:=f119 (m:Int) x3 x4 (1+x5) (1+x6)
 have ok:=MN hm (JH m3 (show _=true by decide)) (JH m4 (show _=true by decide)) (show inB (1+x5) 1 20=true by rw[aP];omega) (show inB (1+x6) 1 50=true by rw[aP];omega)
 have e7:wI (m:Int) x3 x4 (1+x5) (1+x6)=wnW (m:Int) x3 x4 (1+x5) (1+x6):=by unfold wI;rw[ok];rfl
 have hcnt:c9 (m:Int)=m:=by unfold c9;omega
 have hlen:(wnW (m:Int) x3 x4 (1+x5) (1+x6)).1.length=m:=by show(eJ (m:Int) x3 x4 (1+x5) (1+x6) (c9 (m:Int))).length=m;rw[g9,hcnt]
 have hsz:=QI (m:Int) x3 x4 (1+x5) (1+x6)
 have hfew:Few (wnW (m:Int) x3 x4 (1+x5) (1+x6)):=⟨Nat.zero_le _,Nat.zero_le _⟩
 rw[e7,ok] at hw
 generalize wnW (m:Int) x3 x4 (1+x5) (1+x6)=W0 at hw hlen hsz hfew
 obtain⟨t,rfl⟩:∃ t:Nat,x1=t:=⟨x1.toNat,by omega⟩
 obtain⟨o,⟨w,e,rfl,he,hwz⟩,hL⟩:=It.ex (lvl:=17 - 1) (c:=λn aA (_:Unit)=>c29_20005 (aK p n) aA ((((t:Int),()),()),(d1,())) ((W0,(true,()),()),())) (λi z=>∃ (l:List jR) (d:eQ) (w:a9),z=((i:Int),d.1,d.2.1,d.2.2.1,l,w.1,w.2.1,w.2.2.1)/\CurOk d/\SzY w/\Few w/\l.length<=i/\w.1.length=m)
  (λo=>∃ (w:a9) (e:eQ),o=⟨[⟨K28,w⟩],[⟨K88,e⟩]⟩/\CurOk e/\SzY w) t (by
   rintro i z hi ⟨l,d,w,rfl,hd,hz,hf,hl,hn⟩
   obtain⟨dd,e,hde,ke⟩:=f120 d w hd
   have hbd:l.length+1<=bound:=by unfold bound;omega
   have stp:∀ q:jR,∃ (l':List jR) (d':eQ) (w':a9),(((i+1:Nat):Int),e.1,e.2.1,e.2.2.1,l++[q],(doW w q).1.1,(doW w q).1.2.1,(doW w q).1.2.2.1)=(((i+1:Nat):Int),d'.1,d'.2.1,d'.2.2.1,l',w'.1,w'.2.1,w'.2.2.1)/\CurOk d'/\SzY w'/\Few w'/\l'.length<=i+1/\w'.1.length=m:=
    λq=>⟨l++[q],e,(doW w q).1,rfl,ke,TV hz q,SB q hf,by rw[List.length_append,List.length_singleton];omega,by rw[SA];exact hn⟩
   by_cases him:i<m
   ·have hdo:=f121 w ((0:Int),(i:Int),(0:Int),(i:Int),(⟨#[]⟩:ByteArray),()) hz
    refine⟨_,stp ((0:Int),(i:Int),(0:Int),(i:Int),(⟨#[]⟩:ByteArray),()),λn hn aA u rec=>?_⟩
    show c29_20005 (aK p n) aA ((((t:Int),()),()),(d1,())) ((W0,(true,()),()),()) rec ((i:Int),d.1,d.2.1,d.2.2.1,l,w.1,w.2.1,w.2.2.1)=_
    unfold c29_20005;dsimp only;rw[aL (show i<9223372036854775807 by omega)];refine(aE (Int.ofNat_lt.2 hi)).trans ?_;refine(aG (hde n (by omega))).trans ?_;refine(aE (Int.ofNat_lt.2 (show i<W0.1.length by omega))).trans ?_;refine(aE hbd).trans ?_;refine(bE (hdo n (by omega))).trans ?_;rfl
   ·have hdo:=f121 w dd hz
    refine⟨_,stp dd,λn hn aA u rec=>?_⟩
    show c29_20005 (aK p n) aA ((((t:Int),()),()),(d1,())) ((W0,(true,()),()),()) rec ((i:Int),d.1,d.2.1,d.2.2.1,l,w.1,w.2.1,w.2.2.1)=_
    unfold c29_20005;dsimp only;rw[aL (show i<9223372036854775807 by omega)];refine(aE (Int.ofNat_lt.2 hi)).trans ?_;refine(aG (hde n (by omega))).trans ?_;refine(aI (show ¬ (i:Int)<(W0.1.length:Int) by omega)).trans ?_;refine(aE hbd).trans ?_;refine(bE (hdo n (by omega))).trans ?_;rfl) (by
   rintro z ⟨l,d,w,rfl,hd,hz,hf,hl,hn⟩
   obtain⟨x8,d8,h8,k8,_⟩:=f30 d 14 hd
   have start:∀ {o:Out},(∀ n,17 - 1<=n->∀ aA rec,c29_20005 (aK p n) aA ((((t:Int),()),()),(d1,())) ((W0,(true,()),()),()) rec ((t:Int),d.1,d.2.1,d.2.2.1,l,w.1,w.2.1,w.2.2.1)=some o)->∀ n,17 - 1<=n->It (λaA (_:Unit)=>c29_20005 (aK p n) aA ((((t:Int),()),()),(d1,())) ((W0,(true,()),()),())) ((t:Int),d.1,d.2.1,d.2.2.1,l,w.1,w.2.1,w.2.2.1) (λ_=>some o):=
    λH n hn=>It.stop λaA u rec=>H n hn aA rec
   cases q0:x8==0 with
   | true=>
    obtain⟨y,d9,h9,k9,hy⟩:=f56 d8 k8
    have hr:0<w.1.length:=by omega
    refine⟨_,⟨(w.1.set 0 y,w.2.1,w.2.2.1,()),d9,rfl,k9,jV (by rw[List.length_set];exact hz.nodes) (u9 hz.node 0 hy.sz) hz.net hz.all hz.said hz.part⟩,start λn hn aA rec=>?_⟩
    unfold c29_20005;dsimp only;refine(aI (Int.lt_irrefl _)).trans ?_;refine(aG (h8 n (by omega))).trans ?_;refine(aM q0).trans ?_;refine(aG (h9 n (by omega))).trans ?_;refine(aE (show(0:Int)<=0 by omega)).trans ?_;refine(bH hr).trans ?_;refine(bH hr).trans ?_;rfl
   | false=>
   cases q1:x8==1 with
   | true=>
    obtain⟨x9,d9,h9,k9,_⟩:=f30 d8 7 k8
    have hb:w.2.1.length+1<=bound:=by have:=hf.1;unfold bound;omega
    refine⟨_,⟨(w.1,w.2.1++[(i64.wrap (x9 - 1),[((1:Int),())],false,())],w.2.2.1,()),d9,rfl,k9,jV hz.nodes hz.node (by rw[List.length_append,List.length_singleton];have:=hf.1;unfold aW;omega) (yE hz.all ⟨λx hx=>?_,(by decide:1<=aW)⟩) hz.said hz.part⟩,start λn hn aA rec=>?_⟩
    ·rw[List.mem_singleton.1 hx];exact⟨1,rfl,by decide⟩
    ·unfold c29_20005;dsimp only;refine(aI (Int.lt_irrefl _)).trans ?_;refine(aG (h8 n (by omega))).trans ?_;refine(aF q0).trans ?_;refine(aM q1).trans ?_;refine(aG (h9 n (by omega))).trans ?_;refine(aE hb).trans ?_;rfl
   | false=>
   cases q2:x8==2 with
   | true=>
    obtain⟨x9,d9,h9,k9,_⟩:=f30 d8 7 k8
    have hb:w.2.2.1.length+1<=bound:=by have:=hf.2;unfold bound;omega
    refine⟨_,⟨(w.1,w.2.1,w.2.2.1++[(i64.wrap (x9 - 1),[],[],())],()),d9,rfl,k9,jV hz.nodes hz.node hz.net hz.all (by rw[List.length_append,List.length_singleton];have:=hf.2;unfold aW;omega) (λi hi=>?_)⟩,start λn hn aA rec=>?_⟩
    ·rcases Nat.lt_or_ge i w.2.2.1.length with h | h
     ·rw[UT h];exact hz.part i h
     ·rw[List.length_append,List.length_singleton] at hi
      rw[show i=w.2.2.1.length by omega,R5];exact kA
    ·unfold c29_20005;dsimp only;refine(aI (Int.lt_irrefl _)).trans ?_;refine(aG (h8 n (by omega))).trans ?_;refine(aF q0).trans ?_;refine(aF q1).trans ?_;refine(aM q2).trans ?_;refine(aG (h9 n (by omega))).trans ?_;refine(aE hb).trans ?_;rfl
   | false=>
   cases q3:x8==3 with
   | true=>
    refine⟨_,⟨([],w.2.1,w.2.2.1,()),d8,rfl,k8,jV (Nat.zero_le _) (λi hi=>absurd hi (Nat.not_lt_zero _)) hz.net hz.all hz.said hz.part⟩,start λn hn aA rec=>?_⟩
    unfold c29_20005;dsimp only;refine(aI (Int.lt_irrefl _)).trans ?_;refine(aG (h8 n (by omega))).trans ?_;refine(aF q0).trans ?_;refine(aF q1).trans ?_;refine(aF q2).trans ?_;refine(aM q3).trans ?_;rfl
   | false=>
    refine⟨_,⟨w,d8,rfl,k8,hz⟩,start λn hn aA rec=>?_⟩
    unfold c29_20005;dsimp only;refine(aI (Int.lt_irrefl _)).trans ?_;refine(aG (h8 n (by omega))).trans ?_;refine(aF q0).trans ?_;refine(aF q1).trans ?_;refine(aF q2).trans ?_;refine(aF q3).trans ?_;rfl) t 0 ((0:Int),d6.1,d6.2.1,d6.2.2.1,([]:List jR),W0.1,W0.2.1,W0.2.2.1) (by omega) ⟨[],d6,W0,rfl,k6,hsz,hfew,Nat.zero_le _,hlen⟩
 exact⟨w,e,go29 λn hn=>Ev.eq (λaA=>by
  unfold T29;refine(aG (h1 n (by omega))).trans ?_;refine(aG (h2 n (by omega))).trans ?_;refine(aG (h3 n (by omega))).trans ?_;refine(aG (h4 n (by omega))).trans ?_;refine(aG (h5 n (by omega))).trans ?_;refine(aG (h6 n (by omega))).trans ?_
  rw[show i64.wrap ((1:Int)+vI x2)=(m:Int)from e2,show i64.wrap ((1:Int)+vI x5)=1+x5 from e5,show i64.wrap ((1:Int)+vI x6)=1+x6 from e6]
  refine(bE (hw n (by omega))).trans ?_;rfl) ((hL n (by omega)).ev (i:=()) rfl),he,hwz⟩
end Go.Abs.Wz
namespace Go.Abs.Wz
open Go Go.Abs
theorem f76(a b:f8)(hl:a.2.2.1.length<=aW)(hr:∀ i,i<a.2.2.1.length->SzS (gt a.2.2.1 i)):Ran p 2 76 [va K49 a, va K49 b] (rO K4 (z2 a b,())):=go76 λn hn=>by
 have lp:∃ N,∀ aA,N<=aA->iS a.2.2.1 b.2.2.1=true->iter (c76_4 (aK p n) aA a b) aA (0:Int)=oB (bL a.2.2.1.length λi=>eY (gt a.2.2.1 i) (gt b.2.2.1 i)):=by
  cases he:iS a.2.2.1 b.2.2.1 with
  | false=>exact⟨0,λ_ _ h=>by cases h⟩
  | true=>
   have e:=rC.1 he
   have lp:It (λaA (_:Unit)=>c76_4 (aK p n) aA a b) (0:Int) (λ_=>oB (bL a.2.2.1.length λi=>eY (gt a.2.2.1 i) (gt b.2.2.1 i))):=by
    refine cO (It.allB a.2.2.1.length _ true (λi hi aA a' rec=>?_) (It.stop λaA a' rec=>?_))
    ·have hb:=bU hi hl
     have hi':i<b.2.2.1.length:=by omega
     show c76_4 (aK p n) aA a b rec (i:Int)=_
     unfold c76_4;rw[aL hb];refine(aE (Int.ofNat_lt.2 hi)).trans ?_;refine bif_nn.trans ?_;refine(aH hi).trans ?_;refine bif_nn.trans ?_;refine(aH hi').trans ?_;refine(aB (f9 (gt a.2.2.1 i) (gt b.2.2.1 i) (hr i hi) n (by omega))).trans ?_;exact fin
    ·show c76_4 (aK p n) aA a b rec (a.2.2.1.length:Int)=_
     unfold c76_4;refine(aI (Int.lt_irrefl _)).trans ?_;rfl
   obtain⟨N,hN⟩:=lp.all_i
   exact⟨N,λaA hf _=>hN aA hf ()⟩
 obtain⟨N,hN⟩:=lp
 refine⟨N,λaA hf=>?_⟩
 show T76 (aK p n) aA a b=oB (z2 a b)
 unfold T76 z2 pS;refine dE λ_=>?_;refine dE λ_=>?_;refine dE λh=>?_;exact hN aA hf h
theorem f40(a b:NodeT)(hz:SzN a):Ran p 3 40 [va K54 a, va K54 b] (rO K4 (zP a b,())):=go40 λn hn=>by
 rw[<- N6]
 have ri:∃ N,∀ aA,N<=aA->iS a.rises b.rises=true->iter (c40_16 (aK p n) aA a b) aA (0:Int)=oB (bL a.rises.length λi=>mZ (gt a.rises i) (gt b.rises i)):=by
  cases he:iS a.rises b.rises with
  | false=>exact⟨0,λ_ _ h=>by cases h⟩
  | true=>
   have e:=rC.1 he
   have lp:It (λaA (_:Unit)=>c40_16 (aK p n) aA a b) (0:Int) (λ_=>oB (bL a.rises.length λi=>mZ (gt a.rises i) (gt b.rises i))):=by
    refine cO (It.allB a.rises.length _ true (λi hi aA a' rec=>?_) (It.stop λaA a' rec=>?_))
    ·have hb:=bU hi hz.rises
     have hi':i<b.rises.length:=by omega
     show c40_16 (aK p n) aA a b rec (i:Int)=_
     unfold c40_16;rw[aL hb];refine(aE (Int.ofNat_lt.2 hi)).trans ?_;refine bif_nn.trans ?_;refine(aH hi).trans ?_;refine bif_nn.trans ?_;refine(aH hi').trans ?_;exact fin
    ·show c40_16 (aK p n) aA a b rec (a.rises.length:Int)=_
     unfold c40_16;refine(aI (Int.lt_irrefl _)).trans ?_;rfl
   obtain⟨N,hN⟩:=lp.all_i
   exact⟨N,λaA hf _=>hN aA hf ()⟩
 obtain⟨M,hM⟩:=ri
 have se:∃ N,∀ aA,N<=aA->iS a.sess b.sess=true->iS a.rises b.rises=true->iter (c40_11 (aK p n) aA a b) aA (0:Int)=oB (bL a.sess.length (λi=>qF (gt a.sess i) (gt b.sess i))&&bL a.rises.length λi=>mZ (gt a.rises i) (gt b.rises i)):=by
  cases he:iS a.sess b.sess with
  | false=>exact⟨0,λ_ _ h=>by cases h⟩
  | true=>cases he2:iS a.rises b.rises with
   | false=>exact⟨0,λ_ _ _ h=>by cases h⟩
   | true=>
    have e:=rC.1 he
    have lp:It (λaA (_:Unit)=>c40_11 (aK p n) aA a b) (0:Int) (λ_=>oB (bL a.sess.length (λi=>qF (gt a.sess i) (gt b.sess i))&&bL a.rises.length λi=>mZ (gt a.rises i) (gt b.rises i))):=by
     refine It.allB a.sess.length _ _ (λi hi aA a' rec=>?_) (It.stopE (T:=λaA _=>iter (c40_16 (aK p n) aA a b) aA (0:Int)) (λaA a' rec=>?_) ⟨M,λaA hf _=>hM aA hf he2⟩)
     ·have hb:=bU hi hz.sess
      have hi':i<b.sess.length:=by omega
      show c40_11 (aK p n) aA a b rec (i:Int)=_
      unfold c40_11;rw[aL hb];refine(aE (Int.ofNat_lt.2 hi)).trans ?_;refine bif_nn.trans ?_;refine(aH hi).trans ?_;refine bif_nn.trans ?_;refine(aH hi').trans ?_;exact fin
     ·show c40_11 (aK p n) aA a b rec (a.sess.length:Int)=_
      unfold c40_11;refine(aI (Int.lt_irrefl _)).trans ?_;rfl
    obtain⟨N,hN⟩:=lp.all_i
    exact⟨N,λaA hf _ _=>hN aA hf ()⟩
 obtain⟨M',hM'⟩:=se
 have ro:∃ N,∀ aA,N<=aA->iS a.seen b.seen=true->iS a.sess b.sess=true->iS a.rises b.rises=true->iter (c40_6 (aK p n) aA a b) aA (0:Int)=oB (bL a.seen.length (λi=>vM (gt a.seen i) (gt b.seen i))&&(bL a.sess.length (λi=>qF (gt a.sess i) (gt b.sess i))&&bL a.rises.length λi=>mZ (gt a.rises i) (gt b.rises i))):=by
  cases he:iS a.seen b.seen with
  | false=>exact⟨0,λ_ _ h=>by cases h⟩
  | true=>cases he2:iS a.sess b.sess with
   | false=>exact⟨0,λ_ _ _ h=>by cases h⟩
   | true=>cases he3:iS a.rises b.rises with
    | false=>exact⟨0,λ_ _ _ _ h=>by cases h⟩
    | true=>
     have e:=rC.1 he
     have lp:It (λaA (_:Unit)=>c40_6 (aK p n) aA a b) (0:Int) (λ_=>oB (bL a.seen.length (λi=>vM (gt a.seen i) (gt b.seen i))&&(bL a.sess.length (λi=>qF (gt a.sess i) (gt b.sess i))&&bL a.rises.length λi=>mZ (gt a.rises i) (gt b.rises i)))):=by
      refine It.allB a.seen.length _ _ (λi hi aA a' rec=>?_) (It.stopE (T:=λaA _=>iter (c40_11 (aK p n) aA a b) aA (0:Int)) (λaA a' rec=>?_) ⟨M',λaA hf _=>hM' aA hf he2 he3⟩)
      ·have hb:=bU hi hz.seen
       have hi':i<b.seen.length:=by omega
       show c40_6 (aK p n) aA a b rec (i:Int)=_
       unfold c40_6 vM;rw[aL hb];refine(aE (Int.ofNat_lt.2 hi)).trans ?_;refine bif_nn.trans ?_;refine(aH hi).trans ?_;refine bif_nn.trans ?_;refine(aH hi').trans ?_;refine(aB (f77 (gt a.seen i).1 (gt b.seen i).1 (aZ (hz.lines i hi)) n (by omega))).trans ?_;exact fin
      ·show c40_6 (aK p n) aA a b rec (a.seen.length:Int)=_
       unfold c40_6;refine(aI (Int.lt_irrefl _)).trans ?_;rfl
     obtain⟨N,hN⟩:=lp.all_i
     exact⟨N,λaA hf _ _ _=>hN aA hf ()⟩
 obtain⟨N,hN⟩:=ro
 refine⟨N,λaA hf=>?_⟩
 show T40 (aK p n) aA a b=oB (yC a b)
 unfold T40 yC;refine dE λ_=>?_;refine dE λ_=>?_;refine(aB (f9 a.state b.state hz.state n (by omega))).trans ?_;refine dE λ_=>?_;refine(aB (f64 a.tree b.tree (aZ hz.leaves) n (by omega))).trans ?_;refine dE λ_=>?_;refine(aB (f76 a.log b.log hz.list hz.logs n (by omega))).trans ?_;refine dE λ_=>?_;refine(aB (f77 a.got b.got (aZ hz.got) n (by omega))).trans ?_;refine dE λ_=>?_;refine(aB (f77 a.acked b.acked (aZ hz.acked) n (by omega))).trans ?_;refine dE λ_=>?_
 refine dE λh1=>?_;refine dE λ_=>?_;refine dE λ_=>?_;refine dE λ_=>?_;refine dE λ_=>?_;refine dE λ_=>?_;refine dE λh2=>?_;refine dE λh3=>?_;exact hN aA hf h1 h2 h3
end Go.Abs.Wz
namespace Go.Abs.Wz
open Go Go.Abs
structure Ticked (x:NodeT) (k:Nat) (y:NodeT):Prop where
 ok:NodeOk y
 id:y.1=x.1
 n:y.2.1=x.2.1
 num:y.num=x.num
 wait:y.wait=x.wait
 clock:y.clock=x.clock+((k:Nat):Int)
 age:∀ s∈y.sess,((k:Nat):Int)<=s.2.2.2.1
theorem QM{x:NodeT}(h:NodeOk x):Ticked x 0 x:=
 ⟨h,rfl,rfl,rfl,rfl,by show x.clock=x.clock+0;omega,λs hs=>by
  have:=(((cV x).1 h.sess).2.1 s hs).2.2.2;rw[aP] at this;exact this.1⟩
theorem EK{x y:NodeT}{k:Nat}(h:Ticked x k y)(hc:x.clock+((k:Nat):Int)<100000):Ticked x (k+1) (eZ y):=by
 have hk:=yU h.ok
 have hcl:=h.ok.clock;have hwt:=h.ok.wait
 rw[aP] at hcl hwt
 have hne:(y.clock==100000)=false:=by rw[beq_eq_false_iff_ne,h.clock];omega
 have e:eZ y=rI y:=by unfold eZ;rw[(eU y).2 h.ok,hne];rfl
 have hs:=(cV y).1 h.ok.sess
 rw[e] at hk ⊢
 refine⟨hk,h.id,h.n,h.num,h.wait,?_,λs hm=>?_⟩
 ·show i64.wrap (y.clock+1)=_;rw[h.clock] at hcl ⊢;rw[IntKind.wrap_i64];omega
 ·have e2:(rI y).sess=y.sess.flatMap λs=>bif decide (i64.wrap (s.2.2.2.1+1)<=y.wait)then[tJ s] else[]:=cF (λs:dM=>bif decide (i64.wrap (s.2.2.2.1+1)<=y.wait)then[tJ s] else[]) y.sess
  rw[e2] at hm
  obtain⟨r,hr,hx⟩:=List.mem_flatMap.1 hm
  have h1:=h.age r hr
  have h2:=(hs.2.1 r hr).2.2.2
  rw[aP] at h2
  by_cases hd:i64.wrap (r.2.2.2.1+1)<=y.wait
  ·rw[decide_eq_true hd] at hx
   rw[List.mem_singleton.1 hx]
   show((k+1:Nat):Int)<=i64.wrap (r.2.2.2.1+1)
   rw[IntKind.wrap_i64];omega
  ·rw[decide_eq_false hd] at hx;cases hx
theorem GV{x y:NodeT}{k:Nat}(h:Ticked x k y)(hk:x.wait<((k:Nat):Int)):y.sess=[]:=by
 rw[List.eq_nil_iff_forall_not_mem]
 intro s hs
 have h1:=h.age s hs
 have h2:=(((cV y).1 h.ok.sess).2.1 s hs).2.2.2
 rw[aP,h.wait] at h2
 omega
end Go.Abs.Wz
set_option maxHeartbeats 2000000
namespace Go.Abs.Wz
open Go Go.Abs
theorem n7{α:Type}[Inhabited α]{f:α->α->Bool}(h:∀ x,f x x=true)(xs:List α):pS f xs xs=true:=by
 unfold pS iS;rw[Bool.and_eq_true];exact⟨by simp,bI.2 λi _=>h _⟩
theorem FE(x:NodeT):zP x x=true:=by
 have s1:pS vM x.seen x.seen=true:=n7 (λr=>jY r.1) _
 have s2:eY x.state x.state=true:=gK.2 rfl
 have s3:C1 x.tree x.tree=true:=by unfold C1;rw[jY];simp
 have s4:z2 x.log x.log=true:=by unfold z2;rw[n7 (λs=>gK.2 rfl)];simp
 have s5:pS qF x.sess x.sess=true:=n7 (λs=>by unfold qF;rw[show gG s.1 s.1=true from nT.2 rfl,show gG s.2.1 s.2.1=true from nT.2 rfl,show gG s.2.2.2.1 s.2.2.2.1=true from nT.2 rfl,wC];rfl) _
 have s6:pS mZ x.rises x.rises=true:=n7 (λs=>by unfold mZ;rw[show gG s.1 s.1=true from nT.2 rfl,show gG s.2.1 s.2.1=true from nT.2 rfl,show gG s.2.2.1 s.2.2.1=true from nT.2 rfl];rfl) _
 unfold zP
 rw[s1,s2,s3,s4,s5,s6,jY,jY]
 simp
theorem f6(b:List aO):Ran p 1 6 [vf K22 (b,())] (rO K4 (decide ((b.length:Int)>1048576),())):=go6 λn hn=>Ev.now λaA=>by
 unfold T6;rfl
end Go.Abs.Wz
