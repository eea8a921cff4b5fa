/- What the functions of this program answer, part ez. -/
import Derived.Test.YtohahjehdododaaGreatXda
import Derived.Test.YtohahjehdododaaGreatW3
import Derived.Test.YtohahjehdododaaGreatXrg
import Derived.Test.YtohahjehdododaaGreatXl
import Derived.Test.YtohahjehdododaaGreatW4
set_option linter.unusedVariables false
open Go.IntKind (i64)
namespace Go.Abs.Wz
open Go Go.Abs
theorem OY{n:Nat}(h:n<=1048576):0+n<=bound:=by unfold bound;omega
theorem RE{i x:Int}(h:0<=x):Pos (([],[(i,x,())],()):aH):=⟨λx hx=>(List.not_mem_nil hx).elim,λf hf=>by rcases List.mem_singleton.1 hf with rfl;exact h⟩
theorem ND{s:aH}{i:Int}{e:bI}(he:QE e)(hi:1<=e.1)(h:s=([(i,e)],[],())\/s=([],[],())):StD 5 s/\Pos s:=by
 rcases h with rfl | rfl
 ·exact⟨⟨by show 1<=5;omega,by show 0<=5;omega,λx hx=>by rcases List.mem_singleton.1 hx with rfl;exact he⟩,⟨λx hx=>by rcases List.mem_singleton.1 hx with rfl;exact hi,λx hx=>(List.not_mem_nil hx).elim⟩⟩
 ·exact⟨⟨by show 0<=5;omega,by show 0<=5;omega,λx hx=>(List.not_mem_nil hx).elim⟩,DN⟩
theorem TD{i x:Int}(h1:0<=i)(h2:i<=4)(h3:1<=x)(h4:x<=1000):aP ([],[(i,x,())],())=true:=
 (aS _).2 ⟨(λx hx=>by cases hx),List.Pairwise.nil,λf hf=>by rw[List.mem_singleton.1 hf];exact⟨by unfold eO;rw[aV];exact⟨h1,h2⟩,by rw[aV];exact⟨h3,h4⟩⟩,List.pairwise_singleton ..⟩
theorem f117(c:eV)(h:CurOk c):∃ (s:aH) (d:eV),Ran p 5 117 [.ref ⟨K88,c⟩] ⟨[⟨K34,s⟩],[⟨K88,d⟩]⟩/\CurOk d/\StD 5 s/\aP s=true:=by
 obtain⟨x1,d1,h1,k1,a1,b1,_⟩:=f30 c 7 h
 let Good:Out->Prop:=λo=>∃ (s:aH) (d:eV),o=⟨[⟨K34,s⟩],[⟨K88,d⟩]⟩/\CurOk d/\StD 5 s/\aP s=true
 have second:∀ (s:aH) (d d0:eV) (x:Int),0<=x->x<3->StD 5 s->aP s=true->CurOk d->∃ o,Good o/\∀ n,5 - 1<=n->It (λaA (_:Unit)=>c117_10 (aK p n) aA (((x,()),()),(d0,()))) ((0:Int),s.1,s.2.1,d.1,d.2.1,d.2.2.1) (λ_=>some o):=by
  intro s d d0 x hx hx3 hs hp hd
  obtain⟨m,rfl⟩:∃ m:Nat,x=m:=⟨x.toNat,by omega⟩
  refine It.ex (c:=λn aA (_:Unit)=>c117_10 (aK p n) aA ((((m:Int),()),()),(d0,()))) (λi y=>∃ (s:aH) (d:eV),y=((i:Int),s.1,s.2.1,d.1,d.2.1,d.2.2.1)/\CurOk d/\StD 5 s/\aP s=true) Good m ?_ ?_ m 0 _ (by omega) ⟨s,d,rfl,hd,hs,hp⟩
  ·rintro i y hi ⟨s,d,rfl,hd,hs,hp⟩
   obtain⟨x7,d7,h7,k7,a7,b7,_⟩:=f30 d 5 hd
   obtain⟨x8,d8,h8,k8,a8,b8,_⟩:=f30 d7 2 k7
   have hw:i64.wrap (1+x8)=1+x8:=by have:=b8 (by omega);rw[IntKind.wrap_i64];omega
   have hq:StD 5 (([],[(x7,i64.wrap (1+x8),())],()):aH):=⟨by show 0<=5;omega,by show 1<=5;omega,λx hx=>(List.not_mem_nil hx).elim⟩
   have h9:=f32 s ([],[(x7,i64.wrap (1+x8),())],()) (hs.sz (by omega)) (hq.sz (by omega)) ((aS _).1 hp).pos (RE (by omega))
   have ho:=TD (i:=x7) (x:=i64.wrap (1+x8)) a7 (by have:=b7 (by omega);omega) (by omega) (by have:=b8 (by omega);omega)
   refine⟨_,⟨cL s ([],[(x7,i64.wrap (1+x8),())],()),d8,rfl,k8,JW hs hq,nN hp ho⟩,λn hn aA a rec=>?_⟩
   show c117_10 (aK p n) aA ((((m:Int),()),()),(d0,())) rec ((i:Int),s.1,s.2.1,d.1,d.2.1,d.2.2.1)=_
   unfold c117_10;dsimp only;rw[aM (show i<9223372036854775807 by omega)];refine(aE (show(i:Int)<(m:Int) by omega)).trans ?_;refine(aG (h7 n (by omega))).trans ?_;refine(aG (h8 n (by omega))).trans ?_;refine(aB (h9 n (by omega))).trans ?_;rfl
  ·rintro y ⟨s,d,rfl,hd,hs,hp⟩
   refine⟨_,⟨s,d,rfl,hd,hs,hp⟩,λn hn=>It.stop λaA a rec=>?_⟩
   show c117_10 (aK p n) aA ((((m:Int),()),()),(d0,())) rec ((m:Int),s.1,s.2.1,d.1,d.2.1,d.2.2.1)=_
   unfold c117_10;refine(aI (Int.lt_irrefl _)).trans ?_;rfl
 obtain⟨m,rfl⟩:∃ m:Nat,x1=m:=⟨x1.toNat,by omega⟩
 have hm:=b1 (by omega)
 have first:=It.ex (lvl:=5 - 1) (c:=λn aA (_:Unit)=>c117_4 (aK p n) aA ((((m:Int),()),()),(d1,()))) (λi y=>∃ (s:aH) (d:eV),y=((i:Int),s.1,s.2.1,d.1,d.2.1,d.2.2.1)/\CurOk d/\StD 5 s/\aP s=true) Good m (by
  rintro i y hi ⟨s,d,rfl,hd,hs,hp⟩
  obtain⟨x2,d2,h2,k2,_⟩:=f30 d 5 hd
  obtain⟨e3,d3,h3,k3,he,hi3⟩:=f143 d2 k2
  obtain⟨s4,b4,h4,q4⟩:=f142 x2 e3
  obtain⟨q5,q6⟩:=ND he hi3 q4.1
  have h5:=f32 s s4 (hs.sz (by omega)) (q5.sz (by omega)) ((aS _).1 hp).pos q6
  refine⟨_,⟨cL s s4,d3,rfl,k3,JW hs q5,nN hp q4.2⟩,λn hn aA a rec=>?_⟩
  show c117_4 (aK p n) aA ((((m:Int),()),()),(d1,())) rec ((i:Int),s.1,s.2.1,d.1,d.2.1,d.2.2.1)=_
  unfold c117_4;dsimp only;rw[aM (show i<9223372036854775807 by omega)];refine(aE (show(i:Int)<(m:Int) by omega)).trans ?_;refine(aG (h2 n (by omega))).trans ?_;refine(aG (h3 n (by omega))).trans ?_;refine(AS (h4 n (by omega))).trans ?_;refine(aB (h5 n (by omega))).trans ?_;rfl) (by
  rintro y ⟨s,d,rfl,hd,hs,hp⟩
  obtain⟨x6,d6,h6,k6,a6,b6,_⟩:=f30 d 3 hd
  obtain⟨o,ho,hL⟩:=second s d6 d6 x6 a6 (b6 (by omega)) hs hp k6
  refine⟨o,ho,λn hn=>It.stopE (T:=λaA _=>iter (c117_10 (aK p n) aA (((x6,()),()),(d6,()))) aA ((0:Int),s.1,s.2.1,d6.1,d6.2.1,d6.2.2.1)) (λaA a rec=>?_) (hL n hn).all_i⟩
  show c117_4 (aK p n) aA ((((m:Int),()),()),(d1,())) rec ((m:Int),s.1,s.2.1,d.1,d.2.1,d.2.2.1)=_
  unfold c117_4;refine(aI (Int.lt_irrefl _)).trans ?_;refine(aG (h6 n (by omega))).trans ?_;rfl)
 obtain⟨o,⟨s,d,rfl,hd,hs,hp⟩,hL⟩:=first m 0 ((0:Int),[],[],d1.1,d1.2.1,d1.2.2.1) (by omega) ⟨([],[],()),d1,rfl,k1,⟨by show 0<=5;omega,by show 0<=5;omega,λx hx=>(List.not_mem_nil hx).elim⟩,rfl⟩
 exact⟨s,d,go117 λn hn=>Ev.eq (λaA=>by unfold T117;refine(aG (h1 n (by omega))).trans ?_;rfl) ((hL n (by omega)).ev (i:=()) rfl),hd,hs,hp⟩
theorem f91(c:eV)(h:CurOk c):∃ (s:aH) (d:eV),Ran p 6 91 [.ref ⟨K88,c⟩] ⟨[⟨K34,s⟩],[⟨K88,d⟩]⟩/\CurOk d/\StD 6 s:=by
 obtain⟨s,d1,h1,k1,hs,hp⟩:=f117 c h
 obtain⟨x2,d2,h2,k2,_⟩:=f30 d1 14 k1
 have hs6:StD 6 s:=⟨Nat.le_trans hs.a (by omega),Nat.le_trans hs.b (by omega),hs.data⟩
 have ha:=hs.a
 have hb:=hs.b
 cases q0:x2==0 with
 | true=>
  obtain⟨x3,d3,h3,k3,_⟩:=f30 d2 7 k2
  obtain⟨e4,d4,h4,k4,he⟩:=f118 d3 k3
  refine⟨(s.1++[(i64.wrap (x3 - 1),e4)],s.2.1,()),d4,go91 λn hn=>Ev.now λaA=>?_,k4,⟨by show(s.1++_).length<=6;simp;omega,hs6.b,λx hx=>?_⟩⟩
  ·unfold T91;refine(aG (h1 n (by omega))).trans ?_;refine(aG (h2 n (by omega))).trans ?_;refine(aL q0).trans ?_;refine(aG (h3 n (by omega))).trans ?_;refine(aG (h4 n (by omega))).trans ?_;refine(aE (show s.1.length+1<=bound by unfold bound;omega)).trans ?_;rfl
  ·rcases List.mem_append.1 hx with hx | hx
   ·exact hs.data x hx
   ·rcases List.mem_singleton.1 hx with rfl;exact he
 | false=>
 cases q1:x2==1 with
 | true=>
  obtain⟨x3,d3,h3,k3,_⟩:=f30 d2 7 k2
  obtain⟨x4,d4,h4,k4,_⟩:=f96 d3 [((0:Int),()),((1:Int),()),((5:Int),()),((1001:Int),())] k3 (by show 0<4;omega)
  refine⟨(s.1,s.2.1++[(i64.wrap (x3 - 1),x4,())],()),d4,go91 λn hn=>Ev.now λaA=>?_,k4,⟨hs6.a,by show(s.2.1++_).length<=6;simp;omega,hs.data⟩⟩
  unfold T91;refine(aG (h1 n (by omega))).trans ?_;refine(aG (h2 n (by omega))).trans ?_;refine(aF q0).trans ?_;refine(aL q1).trans ?_;refine(aG (h3 n (by omega))).trans ?_;refine(aG (h4 n (by omega))).trans ?_;refine(aE (show s.2.1.length+1<=bound by unfold bound;omega)).trans ?_;rfl
 | false=>
 cases q2:x2==2 with
 | true=>
  by_cases hl:(s.1.length:Int)>0
  ·obtain⟨x3,d3,h3,k3,a3,b3,_⟩:=f30 d2 (s.1.length:Int) k2
   obtain⟨e4,d4,h4,k4,he⟩:=f118 d3 k3
   have b3':=b3 (by omega)
   obtain⟨i,rfl⟩:∃ i:Nat,x3=i:=⟨x3.toNat,by omega⟩
   have hi:i<s.1.length:=by omega
   refine⟨(List.set s.1 i ((gt s.1 i).1,e4),s.2.1,()),d4,go91 λn hn=>Ev.now λaA=>?_,k4,⟨by show(List.set s.1 i _).length<=6;simp;omega,hs6.b,λx hx=>?_⟩⟩
   ·unfold T91;refine(aG (h1 n (by omega))).trans ?_;refine(aG (h2 n (by omega))).trans ?_;refine(aF q0).trans ?_;refine(aF q1).trans ?_;refine(aL q2).trans ?_;refine(aE hl).trans ?_;refine(aG (h3 n (by omega))).trans ?_;refine(aG (h4 n (by omega))).trans ?_;refine bif_nn.trans ?_;refine(aJ hi).trans ?_;refine(aJ hi).trans ?_;rfl
   ·rcases List.mem_or_eq_of_mem_set hx with hx | rfl
    ·exact hs.data x hx
    ·exact he
  ·refine⟨s,d2,go91 λn hn=>Ev.now λaA=>?_,k2,hs6⟩
   unfold T91;refine(aG (h1 n (by omega))).trans ?_;refine(aG (h2 n (by omega))).trans ?_;refine(aF q0).trans ?_;refine(aF q1).trans ?_;refine(aL q2).trans ?_;refine(aI hl).trans ?_;rfl
 | false=>
 cases q3:x2==3 with
 | true=>
  by_cases hl:(s.1.length:Int)>1
  ·have hi1:1<s.1.length:=by omega
   have hi0:0<s.1.length:=by omega
   refine⟨(List.set s.1 0 (gt s.1 1),s.2.1,()),d2,go91 λn hn=>Ev.now λaA=>?_,k2,⟨by show(List.set s.1 0 _).length<=6;simp;omega,hs6.b,λx hx=>?_⟩⟩
   ·unfold T91;refine(aG (h1 n (by omega))).trans ?_;refine(aG (h2 n (by omega))).trans ?_;refine(aF q0).trans ?_;refine(aF q1).trans ?_;refine(aF q2).trans ?_;refine(aL q3).trans ?_;refine(aE hl).trans ?_;refine(aE (by decide)).trans ?_;refine(aJ (i:=1) hi1).trans ?_;refine(aJ (i:=1) hi1).trans ?_;refine(aE (by decide)).trans ?_;refine(aJ (i:=0) hi0).trans ?_;refine(aJ (i:=0) hi0).trans ?_;rfl
   ·rcases List.mem_or_eq_of_mem_set hx with hx | rfl
    ·exact hs.data x hx
    ·rw[cS hi1];exact hs.data _ (List.getElem_mem hi1)
  ·refine⟨s,d2,go91 λn hn=>Ev.now λaA=>?_,k2,hs6⟩
   unfold T91;refine(aG (h1 n (by omega))).trans ?_;refine(aG (h2 n (by omega))).trans ?_;refine(aF q0).trans ?_;refine(aF q1).trans ?_;refine(aF q2).trans ?_;refine(aL q3).trans ?_;refine(aI hl).trans ?_;rfl
 | false=>
  refine⟨s,d2,go91 λn hn=>Ev.now λaA=>?_,k2,hs6⟩
  unfold T91;refine(aG (h1 n (by omega))).trans ?_;refine(aG (h2 n (by omega))).trans ?_;refine(aF q0).trans ?_;refine(aF q1).trans ?_;refine(aF q2).trans ?_;refine(aF q3).trans ?_;rfl
end Go.Abs.Wz
namespace Go.Abs.Wz
open Go Go.Abs
-- tables drawn
structure TabD (t:List bU):Prop where
 len:t.length<=5
 row:∀ i,i<t.length->(gt t i).1.length<=5
theorem TabD.sz{t:List bU}(h:TabD t):t.length<=aW/\∀ i,i<t.length->(gt t i).1.length<=aW:=
 ⟨by have:=h.len;unfold aW;omega,λi hi=>by have:=h.row i hi;unfold aW;omega⟩
structure TabN (n:Nat) (t:List bU):Prop where
 len:t.length=n
 row:∀ i,i<n->(gt t i).1.length=5
theorem TabN.d{n:Nat}{t:List bU}(h:TabN n t)(hn:n<=5):TabD t:=⟨by rw[h.len];exact hn,λi hi=>by rw[h.row i (by rw[<- h.len];exact hi)];exact Nat.le_refl _⟩
theorem TabN.add{n:Nat}{t:List bU}(h:TabN n t)(k:Int)(ms:List aU):TabN n (bQ t k ms):=⟨by rw[dI];exact h.len,λi hi=>by rw[fD];exact h.row i hi⟩
theorem EP{n:Nat}(h1:1<=n)(h5:n<=5):TabN n (dU (n:Int)):=by
 have hb:inB (n:Int) 1 5=true:=by rw[aV];omega
 refine⟨?_,λi hi=>?_⟩
 ·unfold dU;rw[hb];show(List.replicate _ _).length=n;rw[List.length_replicate];omega
 ·have hl:i<(dU (n:Int)).length:=by unfold dU;rw[hb];show i<(List.replicate _ _).length;rw[List.length_replicate];omega
  rw[n8 hb hl];rfl
theorem f97(c:eV)(h:CurOk c):∃ (t:List bU) (d:eV),Ran p 7 97 [.ref ⟨K88,c⟩] ⟨[⟨K50,(t,())⟩],[⟨K88,d⟩]⟩/\CurOk d/\TabD t:=by
 obtain⟨x1,d1,h1,k1,a1,b1,_⟩:=f30 c 4 h
 obtain⟨m,rfl⟩:∃ m:Nat,x1=m:=⟨x1.toNat,by omega⟩
 have hm:=b1 (by omega)
 have hw:i64.wrap (1+(m:Int))=((m+1:Nat):Int):=by rw[IntKind.wrap_i64];omega
 let Good:Out->Prop:=λo=>∃ (t:List bU) (d:eV),o=⟨[⟨K50,(t,())⟩],[⟨K88,d⟩]⟩/\CurOk d/\TabD t
 have lp:=It.ex (lvl:=7 - 1) (c:=λn aA (_:Unit)=>c97_10004 (aK p n) aA ((((m:Int),()),()),(d1,()))) (λi y=>∃ (t:List bU) (d:eV),y=((i:Int),d.1,d.2.1,d.2.2.1,t)/\CurOk d/\TabN (m+1) t) Good (m+1) (by
  rintro i y hi ⟨t,d,rfl,hd,ht⟩
  obtain⟨s,d3,h3,k3,hs,_⟩:=f117 d hd
  have h4:=f125 s (hs.sz (by omega))
  have hz:=(ht.d (by omega)).sz
  have h5:=f124 t (i:Int) (c6 s) hz.1 hz.2 (Nat.le_trans (fW s) (by decide))
  refine⟨_,⟨bQ t (i:Int) (c6 s),d3,rfl,k3,ht.add _ _⟩,λn hn aA a rec=>?_⟩
  show c97_10004 (aK p n) aA ((((m:Int),()),()),(d1,())) rec ((i:Int),d.1,d.2.1,d.2.2.1,t)=_
  unfold c97_10004;dsimp only;rw[aM (show i<9223372036854775807 by omega)];refine(aE (show(i:Int)<i64.wrap (1+(m:Int)) by rw[hw];omega)).trans ?_;refine(aG (h3 n (by omega))).trans ?_;refine(aB (h4 n (by omega))).trans ?_;refine(aB (h5 n (by omega))).trans ?_;rfl) (by
  rintro y ⟨t,d,rfl,hd,ht⟩
  obtain⟨x6,d6,h6,k6,_⟩:=f30 d 12 hd
  have hl:0<t.length:=by rw[ht.len];omega
  have h0:(gt t 0).1.length=5:=ht.row 0 (by omega)
  have hT:=ht.d (show m+1<=5 by omega)
  have un:∀ n,7 - 1<=n->∀ {o:Option Out},(∀ aA rec,c97_10004 (aK p n) aA ((((m:Int),()),()),(d1,())) rec (((m+1:Nat):Int),d.1,d.2.1,d.2.2.1,t)=o)->It (λaA (_:Unit)=>c97_10004 (aK p n) aA ((((m:Int),()),()),(d1,()))) (((m+1:Nat):Int),d.1,d.2.1,d.2.2.1,t) (λ_=>o):=λn hn o ho=>It.stop λaA a rec=>ho aA rec
  have en:¬ (((m+1:Nat):Int)<i64.wrap (1+(m:Int))):=by rw[hw];omega
  cases q0:x6==0 with
  | true=>
   refine⟨_,⟨t.set 0 (((gt t 0).1.take ((3:Int)).toNat).drop 0,(gt t 0).2),d6,rfl,k6,⟨by rw[List.length_set];exact hT.len,λi hi=>?_⟩⟩,λn hn=>un n hn λaA rec=>?_⟩
   ·rw[List.length_set] at hi
    by_cases e:0=i
    ·rw[<- e,cD hl];show(((gt t 0).1.take 3).drop 0).length<=5;rw[List.drop_zero,List.length_take];omega
    ·rw[eD e];exact hT.row i hi
   ·unfold c97_10004;refine(aI en).trans ?_;refine(aG (h6 n (by omega))).trans ?_;refine(aL q0).trans ?_;refine(aE (show(0:Int)<=0 by omega)).trans ?_;refine(bK hl).trans ?_;refine(bK hl).trans ?_
    refine(uV (show(0:Int)<=3 by omega) (show(3:Int)<=(((gt t 0).1.length:Nat):Int) by rw[h0];omega)).trans ?_;refine(aE (show(0:Int)<=0 by omega)).trans ?_;refine(bK hl).trans ?_;refine(bK hl).trans ?_;rfl
  | false=>
  cases q1:x6==1 with
  | true=>
   obtain⟨x7,d7,h7,k7,_⟩:=f96 d6 [((-1:Int),()),((1001:Int),())] k6 (by show 0<2;omega)
   have h00:0<(gt t 0).1.length:=by omega
   refine⟨_,⟨t.set 0 ((gt t 0).1.set 0 (x7,(gt (gt t 0).1 0).2),(gt t 0).2),d7,rfl,k7,⟨by rw[List.length_set];exact hT.len,λi hi=>?_⟩⟩,λn hn=>un n hn λaA rec=>?_⟩
   ·rw[List.length_set] at hi
    by_cases e:0=i
    ·rw[<- e,cD hl];show((gt t 0).1.set 0 _).length<=5;rw[List.length_set];omega
    ·rw[eD e];exact hT.row i hi
   ·unfold c97_10004;refine(aI en).trans ?_;refine(aG (h6 n (by omega))).trans ?_;refine(aF q0).trans ?_;refine(aL q1).trans ?_;refine(aE (show(0:Int)<=0 by omega)).trans ?_;refine(bK hl).trans ?_;refine(bK hl).trans ?_;refine(aG (h7 n (by omega))).trans ?_;refine(aE (show(0:Int)<=0 by omega)).trans ?_;refine(bK hl).trans ?_;refine(bK h00).trans ?_;refine(bK hl).trans ?_;refine(bK h00).trans ?_;rfl
  | false=>
  cases q2:x6==2 with
  | true=>
   refine⟨_,⟨[],d6,rfl,k6,⟨Nat.zero_le _,λi hi=>absurd hi (Nat.not_lt_zero _)⟩⟩,λn hn=>un n hn λaA rec=>?_⟩
   unfold c97_10004;refine(aI en).trans ?_;refine(aG (h6 n (by omega))).trans ?_;refine(aF q0).trans ?_;refine(aF q1).trans ?_;refine(aL q2).trans ?_;rfl
  | false=>
   refine⟨_,⟨t,d6,rfl,k6,hT⟩,λn hn=>un n hn λaA rec=>?_⟩
   unfold c97_10004;refine(aI en).trans ?_;refine(aG (h6 n (by omega))).trans ?_;refine(aF q0).trans ?_;refine(aF q1).trans ?_;refine(aF q2).trans ?_;rfl)
 have h2:=f146 ((m+1:Nat):Int)
 obtain⟨o,⟨t,d,rfl,hd,ht⟩,hL⟩:=lp (m+1) 0 ((0:Int),d1.1,d1.2.1,d1.2.2.1,dU ((m+1:Nat):Int)) (by omega) ⟨dU ((m+1:Nat):Int),d1,rfl,k1,EP (by omega) (by omega)⟩
 exact⟨t,d,go97 λn hn=>Ev.eq (λaA=>by unfold T97;refine(aG (h1 n (by omega))).trans ?_;rw[<- hw] at h2;refine(aB (h2 n (by omega))).trans ?_;rw[hw]) ((hL n (by omega)).ev (i:=()) rfl),hd,ht⟩
-- logs drawn
structure LogD (k:Nat) (l:gV):Prop where
 len:l.2.2.1.length<=k
 st:∀ s∈l.2.2.1,SzS s
theorem LogD.sz{k:Nat}{l:gV}(h:LogD k l)(hk:k<=1048576):l.2.2.1.length<=aW/\∀ i,i<l.2.2.1.length->SzS (gt l.2.2.1 i):=
 ⟨Nat.le_trans h.len hk,λi hi=>h.st _ (cN hi)⟩
theorem LogD.add{k:Nat}{l:gV}(h:LogD k l){d:aH}(hd:SzS d):LogD (k+1) (sU l d).1:=by
 unfold sU
 cases mT l d with
 | false=>exact⟨Nat.le_succ_of_le h.len,h.st⟩
 | true=>
  refine⟨Nat.le_trans (HU l d) (Nat.succ_le_succ h.len),λs hs=>?_⟩
  have key:s∈l.2.2.1++[d]:=by
   have hs:s∈(gK l d).2.2.1:=hs
   unfold gK at hs
   cases hc:decide ((((l.2.2.1++[d]).length:Nat):Int)>l.1)with
   | true=>rw[hc] at hs;exact List.mem_of_mem_drop hs
   | false=>rw[hc] at hs;exact hs
  rcases List.mem_append.1 key with hs | hs
  ·exact h.st s hs
  ·rw[List.mem_singleton.1 hs];exact hd
theorem f130(c:eV)(h:CurOk c):∃ (l:gV) (d:eV),Ran p 6 130 [.ref ⟨K88,c⟩] ⟨[⟨K49,l⟩],[⟨K88,d⟩]⟩/\CurOk d/\LogD 6 l:=by
 obtain⟨x1,d1,h1,k1,_⟩:=f96 c [((1:Int),()),((2:Int),()),((4:Int),()),((8:Int),())] h (by show 0<4;omega)
 obtain⟨x2,d2,h2,k2,_⟩:=f96 d1 [((0:Int),()),((0:Int),()),((5:Int),()),((99990:Int),())] k1 (by show 0<4;omega)
 obtain⟨x3,d3,h3,k3,a3,b3,_⟩:=f30 d2 6 k2
 obtain⟨m,rfl⟩:∃ m:Nat,x3=m:=⟨x3.toNat,by omega⟩
 have hm:=b3 (by omega)
 let Good:Out->Prop:=λo=>∃ (l:gV) (d:eV),o=⟨[⟨K49,l⟩],[⟨K88,d⟩]⟩/\CurOk d/\LogD 6 l
 have lp:=It.ex (lvl:=6 - 1) (c:=λn aA (_:Unit)=>c130_4 (aK p n) aA ((((m:Int),()),()),(d3,()))) (λi y=>∃ (l:gV) (d:eV),y=((i:Int),l.1,l.2.1,l.2.2.1,d.1,d.2.1,d.2.2.1)/\CurOk d/\LogD i l) Good m (by
  rintro i y hi ⟨l,d,rfl,hd,hl⟩
  obtain⟨x4,d4,h4,k4,_⟩:=f30 d 5 hd
  obtain⟨e5,d5,h5,k5,_,_⟩:=f143 d4 k4
  obtain⟨b6,h6⟩:=y5 x4 e5
  have hz:=hl.sz (by omega)
  have ho:=sI (uB x4 e5)
  have h7:=f154 l (zM x4 e5) hz.1 hz.2 ho
  refine⟨_,⟨(sU l (zM x4 e5)).1,d5,rfl,k5,hl.add ho⟩,λn hn aA a rec=>?_⟩
  show c130_4 (aK p n) aA ((((m:Int),()),()),(d3,())) rec ((i:Int),l.1,l.2.1,l.2.2.1,d.1,d.2.1,d.2.2.1)=_
  unfold c130_4;dsimp only;rw[aM (show i<9223372036854775807 by omega)];refine(aE (show(i:Int)<(m:Int) by omega)).trans ?_;refine(aG (h4 n (by omega))).trans ?_;refine(aG (h5 n (by omega))).trans ?_;refine(AS (h6 n (by omega))).trans ?_;refine(AS (h7 n (by omega))).trans ?_;rfl) (by
  rintro y ⟨l,d,rfl,hd,hl⟩
  refine⟨_,⟨l,d,rfl,hd,⟨Nat.le_trans hl.len (by omega),hl.st⟩⟩,λn hn=>It.stop λaA a rec=>?_⟩
  show c130_4 (aK p n) aA ((((m:Int),()),()),(d3,())) rec ((m:Int),l.1,l.2.1,l.2.2.1,d.1,d.2.1,d.2.2.1)=_
  unfold c130_4;refine(aI (Int.lt_irrefl _)).trans ?_;rfl)
 obtain⟨o,⟨l,d,rfl,hd,hl⟩,hL⟩:=lp m 0 ((0:Int),x1,x2,[],d3.1,d3.2.1,d3.2.2.1) (by omega) ⟨(x1,x2,[],()),d3,rfl,k3,⟨Nat.le_refl _,λs hs=>by cases hs⟩⟩
 exact⟨l,d,go130 λn hn=>Ev.eq (λaA=>by unfold T130;refine(aG (h1 n (by omega))).trans ?_;refine(aG (h2 n (by omega))).trans ?_;refine(aG (h3 n (by omega))).trans ?_;rfl) ((hL n (by omega)).ev (i:=()) rfl),hd,hl⟩
theorem f98(c:eV)(h:CurOk c):∃ (l:gV) (d:eV),Ran p 7 98 [.ref ⟨K88,c⟩] ⟨[⟨K49,l⟩],[⟨K88,d⟩]⟩/\CurOk d/\LogD 7 l:=by
 obtain⟨l,d1,h1,k1,hl⟩:=f130 c h
 obtain⟨x2,d2,h2,k2,_⟩:=f30 d1 12 k1
 have hl7:LogD 7 l:=⟨Nat.le_succ_of_le hl.len,hl.st⟩
 cases q0:x2==0 with
 | true=>
  obtain⟨x3,d3,h3,k3,_⟩:=f96 d2 [((0:Int),()),((9:Int),()),((1:Int),())] k2 (by show 0<3;omega)
  exact⟨(x3,l.2.1,l.2.2.1,()),d3,go98 λn hn=>Ev.now λaA=>by unfold T98;refine(aG (h1 n (by omega))).trans ?_;refine(aG (h2 n (by omega))).trans ?_;refine(aL q0).trans ?_;refine(aG (h3 n (by omega))).trans ?_;rfl,k3,⟨hl7.len,hl7.st⟩⟩
 | false=>
 cases q1:x2==1 with
 | true=>
  obtain⟨x3,d3,h3,k3,_⟩:=f96 d2 [((-1:Int),()),((100000:Int),()),((9223372036854775807:Int),())] k2 (by show 0<3;omega)
  exact⟨(l.1,x3,l.2.2.1,()),d3,go98 λn hn=>Ev.now λaA=>by unfold T98;refine(aG (h1 n (by omega))).trans ?_;refine(aG (h2 n (by omega))).trans ?_;refine(aF q0).trans ?_;refine(aL q1).trans ?_;refine(aG (h3 n (by omega))).trans ?_;rfl,k3,⟨hl7.len,hl7.st⟩⟩
 | false=>
 cases q2:x2==2 with
 | true=>
  obtain⟨s,d3,h3,k3,hs⟩:=f91 d2 k2
  have hb:l.2.2.1.length+1<=bound:=by have:=hl.len;unfold bound;omega
  refine⟨(l.1,l.2.1,l.2.2.1++[s],()),d3,go98 λn hn=>Ev.now λaA=>by unfold T98;refine(aG (h1 n (by omega))).trans ?_;refine(aG (h2 n (by omega))).trans ?_;refine(aF q0).trans ?_;refine(aF q1).trans ?_;refine(aL q2).trans ?_;refine(aG (h3 n (by omega))).trans ?_;refine(aE hb).trans ?_;rfl,k3,⟨?_,λr hr=>?_⟩⟩
  ·show(l.2.2.1++[s]).length<=7;rw[List.length_append,List.length_singleton];have:=hl.len;omega
  ·rcases List.mem_append.1 hr with hr | hr
   ·exact hl.st r hr
   ·rw[List.mem_singleton.1 hr];exact hs.sz (by omega)
 | false=>exact⟨l,d2,go98 λn hn=>Ev.now λaA=>by unfold T98;refine(aG (h1 n (by omega))).trans ?_;refine(aG (h2 n (by omega))).trans ?_;refine(aF q0).trans ?_;refine(aF q1).trans ?_;refine(aF q2).trans ?_;rfl,k2,hl7⟩
end Go.Abs.Wz
namespace Go.Abs.Wz
open Go Go.Abs
theorem IA{α:Type}[Inhabited α]{n i:Nat}{x:α}(h:i<n):gt (List.replicate n x) i=x:=by
 rw[cS (by rw[List.length_replicate];exact h),List.getElem_replicate]
def z0:aO:=((0:Int),())
theorem JB{n:Int}(h:inB n 1 5=true):eI (List.replicate n.toNat z0) n=true:=by
 have h1:=aV.1 h
 unfold eI
 simp only[Bool.and_eq_true,beq_iff_eq]
 rw[List.length_replicate]
 refine⟨h,by omega,bN.2 λi hi=>?_⟩
 rw[IA hi];rfl
theorem zO{id n cap slots wait lim:Int}(hn:inB n 1 5=true)(hi:0<=id/\id<n)(hc:inB cap 1 8=true)(hs:inB slots 1 4=true)(hw:inB wait 1 20=true)(hl:inB lim 1 50=true):NodeOk (gN id n cap slots wait lim):=by
 have h1:=aV.1 hn
 have h2:=aV.1 hc
 have h3:=aV.1 hs
 have hL:LogOk (cap,0,[],()):=⟨h2,by show((0:Nat):Int)<=cap;omega,by show(0:Int)<=0/\(0:Int)<=100000;omega,by show(0:Int)+((0:Nat):Int)<=100000;omega,λs h=>by cases h⟩
 have hq:cF (cap,0,[],())=0:=by rw[rI hL];rfl
 have hk:id.toNat<n.toNat:=by omega
 exact {
  n:=hn
  id:=by show inB id 0 (i64.wrap (n - 1))=true;rw[aV,IntKind.wrap_i64];omega
  state:=rfl
  tree:=by
   show(jJ (cJ ([],[],())).1 (cJ ([],[],())).1&&(cJ ([],[],())).2.1==(cJ ([],[],())).2.1)=true
   rw[y8];simp
  log:=(nI _).2 hL
  got:=JB hn
  acked:=JB hn
  own:=by
   show((gt (List.replicate n.toNat z0) id.toNat).1==cF (cap,0,[],()))=true
   rw[IA hk,hq];rfl
  seen:=by
   show gM (dU n) n=true
   have hT:TabN n.toNat (dU n):=by
    have:=EP (n:=n.toNat) (by omega) (by omega)
    rw[show((n.toNat:Nat):Int)=n by omega] at this;exact this
   unfold gM
   simp only[Bool.and_eq_true,beq_iff_eq]
   refine⟨hn,by rw[hT.len];omega,bN.2 λi hi=>?_⟩
   rw[n8 hn hi];rfl
  ack:=by
   show bS (List.replicate n.toNat z0).length _=true
   rw[bN]
   intro i hi
   show(!decide ((gt (List.replicate n.toNat z0) i).1>cF (cap,0,[],())))=true
   rw[hq,IA (by rw[List.length_replicate] at hi;exact hi)];rfl
  num:=rfl
  clock:=rfl
  slots:=hs
  wait:=hw
  limit:=hl
  rises:=rfl
  rise:=rfl
  sess:=by
   refine(dW _).2 ⟨?_,(λs h=>by cases h),List.Pairwise.nil⟩
   show((0:Nat):Int)<=slots;omega }
theorem FK{id n cap slots wait lim:Int}(hn:inB n 1 5=true)(hi:0<=id/\id<n)(hc:inB cap 1 8=true)(hs:inB slots 1 4=true)(hw:inB wait 1 20=true)(hl:inB lim 1 50=true):pM id n cap slots wait lim=true/\qA id n cap slots wait lim=gN id n cap slots wait lim:=by
 have h:=(hI _).2 (zO hn hi hc hs hw hl)
 have e:pM id n cap slots wait lim=true:=by unfold pM;rw[hn,h];rfl
 exact⟨e,by unfold qA;rw[e];rfl⟩
end Go.Abs.Wz
set_option maxHeartbeats 2000000
namespace Go.Abs.Wz
open Go Go.Abs
structure NodD (y:NodeT):Prop where
 sz:SzN y
 n:1<=y.2.1/\y.2.1<=4
 id:0<=y.1/\y.1<y.2.1
 got:y.got.length=y.2.1.toNat
 acked:y.acked.length=y.2.1.toNat
 sess:y.sess.length<=4
 rises:y.rises.length=5
 cnt:y.num<=8/\y.clock<=8
structure NodR (m i:Nat) (y:NodeT):Prop where
 ok:NodeOk y
 sz:SzN y
 n:y.2.1=((m:Nat):Int)
 cnt:y.num<=((i:Nat):Int)/\y.clock<=((i:Nat):Int)
theorem NodR.d{m i:Nat}{y:NodeT}(h:NodR m i y)(h4:m<=4)(hi:i<=8):NodD y:=by
 have h1:=h.ok.n;have h2:=h.ok.id;have h3:=h.ok.got;have h5:=((dW y).1 h.ok.sess).1;have h6:=h.ok.slots;have h7:=eq_of_beq h.ok.rises;have h8:=h.ok.acked
 have hn:=h.n
 rw[aV] at h1 h2 h6
 rw[IntKind.wrap_i64] at h2
 unfold eI at h3 h8
 simp only[Bool.and_eq_true,beq_iff_eq] at h3 h8
 exact⟨h.sz,by omega,by omega,by omega,by omega,by omega,by omega,by have:=h.cnt;omega⟩
theorem S5(x:NodeT)(k i:Int)(t:ByteArray):(jF x k i t).1.2.1=x.2.1:=by
 unfold jF
 cases tR x k i with
 | false=>rfl
 | true=>
  cases (fV x.state k i t).2 != 0 with
  | true=>rfl
  | false=>cases mT x.log (fV x.state k i t).1<;>rfl
theorem NJ(x:NodeT)(k i:Int)(t:ByteArray):(jF x k i t).1.num=x.num/\(jF x k i t).1.clock=x.clock:=by
 unfold jF
 cases tR x k i with
 | false=>exact⟨rfl,rfl⟩
 | true=>
  cases (fV x.state k i t).2 != 0 with
  | true=>exact⟨rfl,rfl⟩
  | false=>cases mT x.log (fV x.state k i t).1<;>exact⟨rfl,rfl⟩
theorem M2(x:NodeT)(i:Int):(i7 x i).1.num<=x.num+1/\(i7 x i).1.clock=x.clock:=by
 unfold i7
 cases hb:pS x i with
 | false=>exact⟨by show x.num<=x.num+1;omega,rfl⟩
 | true=>exact⟨by show i64.wrap (x.num+1)<=x.num+1;rw[HJ (tO hb).num];omega,rfl⟩
theorem KG{x:NodeT}(h:NodeOk x):(mF x).num=x.num/\(mF x).clock<=x.clock+1:=by
 have hc:=h.clock;rw[aV] at hc
 unfold mF
 cases dY x with
 | false=>exact⟨rfl,by show x.clock<=x.clock+1;omega⟩
 | true=>
  cases x.clock==100000 with
  | true=>exact⟨rfl,by show x.clock<=x.clock+1;omega⟩
  | false=>exact⟨rfl,by show i64.wrap (x.clock+1)<=x.clock+1;rw[IntKind.wrap_i64];omega⟩
theorem S1(x:NodeT)(i:Int):(i7 x i).1.2.1=x.2.1:=by unfold i7;cases pS x i<;>rfl
theorem QN{x:NodeT}(h:NodeOk x)(i:Int):NodeOk (i7 x i).1:=by
 unfold i7
 cases hb:pS x i with
 | false=>exact h
 | true=>exact(tO hb).up
theorem QK(x:NodeT):(mF x).2.1=x.2.1:=by unfold mF;cases dY x<;>cases x.clock==100000<;>rfl
def G7(x:NodeT)(k:Int)(ms:List aU):NodeT:=
 (x.1,x.2.1,x.2.2.1,x.2.2.2.1,x.2.2.2.2.1,x.2.2.2.2.2.1,x.2.2.2.2.2.2.1,x.2.2.2.2.2.2.2.1,x.2.2.2.2.2.2.2.2.1,x.got,x.acked,bQ x.seen k ms,x.num,x.slots,x.sess,x.wait,x.limit,x.clock,x.rises,())
theorem KQ{x:NodeT}(h:NodeOk x)(k:Int)(ms:List aU):NodeOk (G7 x k ms):=
 ⟨h.n,h.id,h.state,h.tree,h.log,h.got,h.acked,h.own,pR h.seen,h.ack,h.num,h.clock,h.slots,h.wait,h.limit,h.rises,h.rise,h.sess⟩
theorem KP{x:NodeT}(h:SzN x)(k:Int)(ms:List aU):SzN (G7 x k ms):=
 ⟨h.state,h.leaves,h.list,h.logs,h.got,h.acked,by show(bQ _ _ _).length<=aW;rw[dI];exact h.seen,λi hi=>by
  show(gt (bQ x.seen k ms) i).1.length<=aW
  rw[fD];exact h.lines i (by have:i<(bQ x.seen k ms).length:=hi;rw[dI] at this;exact this),h.sess,h.rises⟩
def GV(y:NodeT)(g a:List aO):NodeT:=
 (y.1,y.2.1,y.2.2.1,y.2.2.2.1,y.2.2.2.2.1,y.2.2.2.2.2.1,y.2.2.2.2.2.2.1,y.2.2.2.2.2.2.2.1,y.2.2.2.2.2.2.2.2.1,g,a,y.seen,y.num,y.slots,y.sess,y.wait,y.limit,y.clock,y.rises,())
theorem f95(c:eV)(h:CurOk c):∃ (y:NodeT) (d:eV),Ran p 10 95 [.ref ⟨K88,c⟩] ⟨[⟨K54,y⟩],[⟨K88,d⟩]⟩/\CurOk d/\NodD y:=by
 obtain⟨x1,d1,h1,k1,a1,b1,_⟩:=f30 c 4 h
 have c1:=b1 (by omega)
 obtain⟨m,hm⟩:∃ m:Nat,1+x1=m:=⟨(1+x1).toNat,by omega⟩
 have hw:i64.wrap (1+x1)=(m:Int):=by rw[IntKind.wrap_i64];omega
 have hm1:1<=m/\m<=4:=by omega
 obtain⟨x2,d2,h2,k2,a2,b2,_⟩:=f30 d1 (i64.wrap (1+x1)) k1
 obtain⟨x3,d3,h3,k3,e3⟩:=f96 d2 [((1:Int),()),((2:Int),()),((8:Int),())] k2 (by show 0<3;omega)
 obtain⟨x4,d4,h4,k4,a4,b4,_⟩:=f30 d3 3 k3
 obtain⟨x5,d5,h5,k5,a5,b5,_⟩:=f30 d4 5 k4
 obtain⟨x6,d6,h6,k6,a6,b6,_⟩:=f30 d5 6 k5
 obtain⟨x8,d8,h8,k8,a8,b8,_⟩:=f30 d6 8 k6
 have h7:=f122 x2 (i64.wrap (1+x1)) x3 (i64.wrap (1+x4)) (i64.wrap (1+x5)) (i64.wrap (1+x6))
 have w4:i64.wrap (1+x4)=1+x4:=by have:=b4 (by omega);rw[IntKind.wrap_i64];omega
 have w5:i64.wrap (1+x5)=1+x5:=by have:=b5 (by omega);rw[IntKind.wrap_i64];omega
 have w6:i64.wrap (1+x6)=1+x6:=by have:=b6 (by omega);rw[IntKind.wrap_i64];omega
 have c2:=b2 (by rw[hw];omega)
 have c3:inB x3 1 8=true:=by
  simp only[List.mem_cons,List.not_mem_nil,or_false,Prod.mk.injEq,and_true] at e3
  rw[aV];omega
 have hB:inB (i64.wrap (1+x1)) 1 5=true:=by rw[hw,aV];omega
 have hNN:=FK (id:=x2) (n:=i64.wrap (1+x1)) (cap:=x3) (slots:=i64.wrap (1+x4)) (wait:=i64.wrap (1+x5)) (lim:=i64.wrap (1+x6)) hB ⟨a2,c2⟩ c3
  (by rw[w4,aV];have:=b4 (by omega);omega) (by rw[w5,aV];have:=b5 (by omega);omega) (by rw[w6,aV];have:=b6 (by omega);omega)
 have hN0:=zO (id:=x2) (n:=i64.wrap (1+x1)) (cap:=x3) (slots:=i64.wrap (1+x4)) (wait:=i64.wrap (1+x5)) (lim:=i64.wrap (1+x6)) hB ⟨a2,c2⟩ c3
  (by rw[w4,aV];have:=b4 (by omega);omega) (by rw[w5,aV];have:=b5 (by omega);omega) (by rw[w6,aV];have:=b6 (by omega);omega)
 have hZ0:=sR x2 (i64.wrap (1+x1)) x3 (i64.wrap (1+x4)) (i64.wrap (1+x5)) (i64.wrap (1+x6)) hB
 have hcnt0:(gN x2 (i64.wrap (1+x1)) x3 (i64.wrap (1+x4)) (i64.wrap (1+x5)) (i64.wrap (1+x6))).num<=((0:Nat):Int)/\(gN x2 (i64.wrap (1+x1)) x3 (i64.wrap (1+x4)) (i64.wrap (1+x5)) (i64.wrap (1+x6))).clock<=((0:Nat):Int):=⟨Int.le_refl _,Int.le_refl _⟩
 have hn0:(gN x2 (i64.wrap (1+x1)) x3 (i64.wrap (1+x4)) (i64.wrap (1+x5)) (i64.wrap (1+x6))).2.1=((m:Nat):Int):=hw
 generalize gN x2 (i64.wrap (1+x1)) x3 (i64.wrap (1+x4)) (i64.wrap (1+x5)) (i64.wrap (1+x6))=y0 at hNN hN0 hZ0 hn0 hcnt0
 let Good:Out->Prop:=λo=>∃ (y:NodeT) (d:eV),o=⟨[⟨K54,y⟩],[⟨K88,d⟩]⟩/\CurOk d/\NodD y
 have second:∀ (y:NodeT) (d:eV),NodR m 8 y->CurOk d->∃ o,Good o/\∀ n,10 - 1<=n->It (λaA (_:Unit)=>c95_18 (aK p n) aA (((x1,()),()),(d1,())) y.1 y.clock y.2.2.1 y.2.2.2.1 y.2.2.2.2.1 y.log.2.2.1 y.seen y.sess y.rises y.2.1 y.2.2.2.2.2.1 y.log.1 y.log.2.1 y.num y.slots y.wait y.limit) ((0:Int),y.got,y.acked,d.1,d.2.1,d.2.2.1) (λ_=>some o):=by
  intro y d hy hd
  have D:=hy.d hm1.2 (Nat.le_refl _)
  have hlog:=f68 y.log hy.sz.list hy.sz.logs
  have lenm:y.got.length=m/\y.acked.length=m:=by have h1:=D.got;have h2:=D.acked;have h3:=hy.n;omega
  refine It.ex (c:=λn aA (_:Unit)=>c95_18 (aK p n) aA (((x1,()),()),(d1,())) y.1 y.clock y.2.2.1 y.2.2.2.1 y.2.2.2.2.1 y.log.2.2.1 y.seen y.sess y.rises y.2.1 y.2.2.2.2.2.1 y.log.1 y.log.2.1 y.num y.slots y.wait y.limit) (λi z=>∃ (g a:List aO) (d:eV),z=((i:Int),g,a,d.1,d.2.1,d.2.2.1)/\CurOk d/\g.length=m/\a.length=m) Good m ?_ ?_ m 0 _ (by omega) ⟨y.got,y.acked,d,rfl,hd,lenm.1,lenm.2⟩
  ·rintro i z hi ⟨g,a,d,rfl,hd,hg,ha⟩
   have gi:i<g.length:=by omega
   have ai:i<a.length:=by omega
   cases q:(i:Int) != y.1 with
   | true=>
    obtain⟨x23,d23,h23,k23,_⟩:=f30 d 4 hd
    obtain⟨x26,d26,h26,k26,_⟩:=f30 d23 (i64.wrap (cF y.log+1)) k23
    refine⟨_,⟨g.set i (x23,()),a.set i (x26,()),d26,rfl,k26,by rw[List.length_set];exact hg,by rw[List.length_set];exact ha⟩,λn hn aA u rec=>?_⟩
    show c95_18 (aK p n) aA (((x1,()),()),(d1,())) y.1 y.clock y.2.2.1 y.2.2.2.1 y.2.2.2.2.1 y.log.2.2.1 y.seen y.sess y.rises y.2.1 y.2.2.2.2.2.1 y.log.1 y.log.2.1 y.num y.slots y.wait y.limit rec ((i:Int),g,a,d.1,d.2.1,d.2.2.1)=_
    unfold c95_18;dsimp only;rw[aM (show i<9223372036854775807 by omega)];refine(aE (show(i:Int)<i64.wrap (1+x1) by rw[hw];omega)).trans ?_
    (first | refine(aL q).trans ?_ | refine(aL rfl).trans ?_);refine(aG (h23 n (by omega))).trans ?_;refine bif_nn.trans ?_;refine(aJ gi).trans ?_;refine(aJ gi).trans ?_;refine(aB (hlog n (by omega))).trans ?_;refine(aG (h26 n (by omega))).trans ?_;refine bif_nn.trans ?_;refine(aJ ai).trans ?_;refine(aJ ai).trans ?_;rfl
   | false=>
    obtain⟨x26,d26,h26,k26,_⟩:=f30 d (i64.wrap (cF y.log+1)) hd
    refine⟨_,⟨g,a.set i (x26,()),d26,rfl,k26,hg,by rw[List.length_set];exact ha⟩,λn hn aA u rec=>?_⟩
    show c95_18 (aK p n) aA (((x1,()),()),(d1,())) y.1 y.clock y.2.2.1 y.2.2.2.1 y.2.2.2.2.1 y.log.2.2.1 y.seen y.sess y.rises y.2.1 y.2.2.2.2.2.1 y.log.1 y.log.2.1 y.num y.slots y.wait y.limit rec ((i:Int),g,a,d.1,d.2.1,d.2.2.1)=_
    unfold c95_18;dsimp only;rw[aM (show i<9223372036854775807 by omega)];refine(aE (show(i:Int)<i64.wrap (1+x1) by rw[hw];omega)).trans ?_
    (first | refine(aF q).trans ?_ | refine(aF rfl).trans ?_);refine(aB (hlog n (by omega))).trans ?_;refine(aG (h26 n (by omega))).trans ?_;refine bif_nn.trans ?_;refine(aJ ai).trans ?_;refine(aJ ai).trans ?_;rfl
  ·rintro z ⟨g,a,d,rfl,hd,hg,ha⟩
   have hsm:m<=aW:=by unfold aW;omega
   have hz:SzN (GV y g a):=⟨hy.sz.state,hy.sz.leaves,hy.sz.list,hy.sz.logs,by show g.length<=aW;omega,by show a.length<=aW;omega,hy.sz.seen,hy.sz.lines,hy.sz.sess,hy.sz.rises⟩
   have hn1:=hy.n
   refine⟨_,⟨GV y g a,d,rfl,hd,⟨hz,D.n,D.id,by show g.length=y.2.1.toNat;omega,by show a.length=y.2.1.toNat;omega,D.sess,D.rises,D.cnt⟩⟩,λn hn=>It.stop λaA u rec=>?_⟩
   show c95_18 (aK p n) aA (((x1,()),()),(d1,())) y.1 y.clock y.2.2.1 y.2.2.2.1 y.2.2.2.2.1 y.log.2.2.1 y.seen y.sess y.rises y.2.1 y.2.2.2.2.2.1 y.log.1 y.log.2.1 y.num y.slots y.wait y.limit rec ((m:Int),g,a,d.1,d.2.1,d.2.2.1)=_
   unfold c95_18;refine(aI (show ¬ (m:Int)<i64.wrap (1+x1) by rw[hw];omega)).trans ?_;rfl
 obtain⟨t,rfl⟩:∃ t:Nat,x8=t:=⟨x8.toNat,by omega⟩
 have ht:=b8 (by omega)
 have first:=It.ex (lvl:=10 - 1) (c:=λn aA (_:Unit)=>c95_5 (aK p n) aA (((x1,()),()),(d1,())) ((((t:Int),()),()),(d8,()))) (λi z=>∃ (y:NodeT) (d:eV),z=((i:Int),y.1,y.2.1,y.2.2.2.2.2.1,y.log.1,y.log.2.1,y.num,y.slots,y.wait,y.limit,y.clock,y.2.2.1,y.2.2.2.1,y.2.2.2.2.1,y.log.2.2.1,y.got,y.acked,y.seen,y.sess,y.rises,d.1,d.2.1,d.2.2.1)/\CurOk d/\NodR m i y) Good t (by
  rintro i z hi ⟨y,d,rfl,hd,hy⟩
  obtain⟨x9,d9,h9,k9,_⟩:=f30 d 6 hd
  cases q0:x9==0 with
  | true=>
   obtain⟨s,d10,h10,k10,hs,ho⟩:=f117 d9 k9
   have h11:=f123 y s hy.sz (hs.sz (by omega)) (C3 hy.ok) ho
   refine⟨_,⟨jG y s,d10,rfl,k10,⟨hy.ok.take ho,lO hy.sz s,hy.n,by have:=hy.cnt;exact⟨by show y.num<=_;omega,by show y.clock<=_;omega⟩⟩⟩,λn hn aA u rec=>?_⟩
   show c95_5 (aK p n) aA (((x1,()),()),(d1,())) ((((t:Int),()),()),(d8,())) rec _=_
   unfold c95_5;dsimp only;rw[aM (show i<9223372036854775807 by omega)];refine(aE (show(i:Int)<(t:Int) by omega)).trans ?_;refine(aG (h9 n (by omega))).trans ?_;refine(aL q0).trans ?_;refine(aG (h10 n (by omega))).trans ?_;refine(aB (h11 n (by omega))).trans ?_;rfl
  | false=>
  cases q1:x9==1 with
  | true=>
   have h11:=f42 y hy.sz
   refine⟨_,⟨mF y,d9,rfl,k9,⟨MY hy.ok,EN hy.sz,by rw[QK];exact hy.n,by have h1:=hy.cnt;have h2:=KG hy.ok;omega⟩⟩,λn hn aA u rec=>?_⟩
   show c95_5 (aK p n) aA (((x1,()),()),(d1,())) ((((t:Int),()),()),(d8,())) rec _=_
   unfold c95_5;dsimp only;rw[aM (show i<9223372036854775807 by omega)];refine(aE (show(i:Int)<(t:Int) by omega)).trans ?_;refine(aG (h9 n (by omega))).trans ?_;refine(aF q0).trans ?_;refine(aL q1).trans ?_;refine(aB (h11 n (by omega))).trans ?_;rfl
  | false=>
  cases q2:x9==2 with
  | true=>
   obtain⟨x13,d13,h13,k13,_⟩:=f30 d9 (i64.wrap (1+x1)) k9
   obtain⟨s,d14,h14,k14,hs,ho⟩:=f117 d13 k13
   have h15:=f125 s (hs.sz (by omega))
   have h16:=f124 y.seen x13 (c6 s) hy.sz.seen hy.sz.lines (Nat.le_trans (fW s) (by decide))
   refine⟨_,⟨G7 y x13 (c6 s),d14,rfl,k14,⟨KQ hy.ok _ _,KP hy.sz _ _,hy.n,by have:=hy.cnt;exact⟨by show y.num<=_;omega,by show y.clock<=_;omega⟩⟩⟩,λn hn aA u rec=>?_⟩
   show c95_5 (aK p n) aA (((x1,()),()),(d1,())) ((((t:Int),()),()),(d8,())) rec _=_
   unfold c95_5;dsimp only;rw[aM (show i<9223372036854775807 by omega)];refine(aE (show(i:Int)<(t:Int) by omega)).trans ?_;refine(aG (h9 n (by omega))).trans ?_;refine(aF q0).trans ?_;refine(aF q1).trans ?_;refine(aL q2).trans ?_;refine(aG (h13 n (by omega))).trans ?_;refine(aG (h14 n (by omega))).trans ?_;refine(aB (h15 n (by omega))).trans ?_;refine(aB (h16 n (by omega))).trans ?_;rfl
  | false=>
  cases q3:x9==3 with
  | true=>
   obtain⟨x17,d17,h17,k17,_⟩:=f30 d9 (i64.wrap (1+x1)) k9
   have h18:=f126 y x17 hy.sz
   refine⟨_,⟨(i7 y x17).1,d17,rfl,k17,⟨QN hy.ok _,(C8 hy.sz _).1,by rw[S1];exact hy.n,by have h1:=hy.cnt;have h2:=M2 y x17;omega⟩⟩,λn hn aA u rec=>?_⟩
   show c95_5 (aK p n) aA (((x1,()),()),(d1,())) ((((t:Int),()),()),(d8,())) rec _=_
   unfold c95_5;dsimp only;rw[aM (show i<9223372036854775807 by omega)];refine(aE (show(i:Int)<(t:Int) by omega)).trans ?_;refine(aG (h9 n (by omega))).trans ?_;refine(aF q0).trans ?_;refine(aF q1).trans ?_;refine(aF q2).trans ?_;refine(aL q3).trans ?_;refine(aG (h17 n (by omega))).trans ?_;refine(dM (h18 n (by omega))).trans ?_;rfl
  | false=>
   obtain⟨x19,d19,h19,k19,_⟩:=f30 d9 5 k9
   obtain⟨x20,d20,h20,k20,_⟩:=f30 d19 (i64.wrap (1+x1)) k19
   obtain⟨x21,d21,h21,k21,_⟩:=f128 d20 [((⟨#[]⟩:ByteArray),()),((⟨#[120]⟩:ByteArray),()),((⟨#[121,122]⟩:ByteArray),())] k20 (by show 0<3;omega)
   have h22:=f127 y x19 x20 x21 hy.sz
   refine⟨_,⟨(jF y x19 x20 x21).1,d21,rfl,k21,⟨Q0 hy.ok _ _ _,JF hy.sz _ _ _,by rw[S5];exact hy.n,by have h1:=hy.cnt;have h2:=NJ y x19 x20 x21;omega⟩⟩,λn hn aA u rec=>?_⟩
   show c95_5 (aK p n) aA (((x1,()),()),(d1,())) ((((t:Int),()),()),(d8,())) rec _=_
   unfold c95_5;dsimp only;rw[aM (show i<9223372036854775807 by omega)];refine(aE (show(i:Int)<(t:Int) by omega)).trans ?_;refine(aG (h9 n (by omega))).trans ?_;refine(aF q0).trans ?_;refine(aF q1).trans ?_;refine(aF q2).trans ?_;refine(aF q3).trans ?_;refine(aG (h19 n (by omega))).trans ?_;refine(aG (h20 n (by omega))).trans ?_;refine(aG (h21 n (by omega))).trans ?_;refine(dM (h22 n (by omega))).trans ?_;rfl) (by
  rintro z ⟨y,d,rfl,hd,hy⟩
  obtain⟨o,ho,hL⟩:=second y d ⟨hy.ok,hy.sz,hy.n,by have:=hy.cnt;omega⟩ hd
  refine⟨o,ho,λn hn=>It.stopE (T:=λaA _=>iter (c95_18 (aK p n) aA (((x1,()),()),(d1,())) y.1 y.clock y.2.2.1 y.2.2.2.1 y.2.2.2.2.1 y.log.2.2.1 y.seen y.sess y.rises y.2.1 y.2.2.2.2.2.1 y.log.1 y.log.2.1 y.num y.slots y.wait y.limit) aA ((0:Int),y.got,y.acked,d.1,d.2.1,d.2.2.1)) (λaA u rec=>?_) (hL n hn).all_i⟩
  show c95_5 (aK p n) aA (((x1,()),()),(d1,())) ((((t:Int),()),()),(d8,())) rec _=_
  unfold c95_5;refine(aI (Int.lt_irrefl _)).trans ?_;rfl)
 obtain⟨o,⟨y,d,rfl,hd,hy⟩,hL⟩:=first t 0 ((0:Int),y0.1,y0.2.1,y0.2.2.2.2.2.1,y0.log.1,y0.log.2.1,y0.num,y0.slots,y0.wait,y0.limit,y0.clock,y0.2.2.1,y0.2.2.2.1,y0.2.2.2.2.1,y0.log.2.2.1,y0.got,y0.acked,y0.seen,y0.sess,y0.rises,d8.1,d8.2.1,d8.2.2.1) (by omega) ⟨y0,d8,rfl,k8,⟨hN0,hZ0,hn0,hcnt0⟩⟩
 rw[hNN.2] at h7
 exact⟨y,d,go95 λn hn=>Ev.eq (λaA=>by unfold T95;refine(aG (h1 n (by omega))).trans ?_;refine(aG (h2 n (by omega))).trans ?_;refine(aG (h3 n (by omega))).trans ?_;refine(aG (h4 n (by omega))).trans ?_;refine(aG (h5 n (by omega))).trans ?_;refine(aG (h6 n (by omega))).trans ?_;refine(bA (h7 n (by omega))).trans ?_;refine(aG (h8 n (by omega))).trans ?_;rfl) ((hL n (by omega)).ev (i:=()) rfl),hd,hy⟩
end Go.Abs.Wz
set_option maxHeartbeats 2000000
namespace Go.Abs.Wz
open Go Go.Abs
structure NodX (y:NodeT):Prop where
 sz:SzN y
 n:1<=y.2.1/\y.2.1<=4
 sess:y.sess.length<=5
 cnt:y.num<=8/\y.clock<=8
theorem f56(c:eV)(h:CurOk c):∃ (y:NodeT) (d:eV),Ran p 11 56 [.ref ⟨K88,c⟩] ⟨[⟨K54,y⟩],[⟨K88,d⟩]⟩/\CurOk d/\NodX y:=by
 obtain⟨y,d1,h1,k1,D⟩:=f95 c h
 obtain⟨x2,d2,h2,k2,_⟩:=f30 d1 18 k1
 have z:=D.sz
 have s5:y.sess.length<=5:=Nat.le_succ_of_le D.sess
 cases q0:x2==0 with
 | true=>
  obtain⟨x3,d3,h3,k3,_⟩:=f96 d2 [((-1:Int),()),(y.2.1,())] k2 (by show 0<2;omega)
  exact⟨(x3,y.2),d3,go56 λn hn=>Ev.now λaA=>by unfold T56;refine(aG (h1 n (by omega))).trans ?_;refine(aG (h2 n (by omega))).trans ?_;refine(aL q0).trans ?_;refine(aG (h3 n (by omega))).trans ?_;rfl,k3,⟨⟨z.state,z.leaves,z.list,z.logs,z.got,z.acked,z.seen,z.lines,z.sess,z.rises⟩,D.n,s5,D.cnt⟩⟩
 | false=>
 cases q1:x2==1 with
 | true=>
  exact⟨(y.1,y.2.1,y.2.2.1,y.2.2.2.1,y.2.2.2.2.1,i64.wrap (y.2.2.2.2.2.1+1),y.2.2.2.2.2.2),d2,go56 λn hn=>Ev.now λaA=>by unfold T56;refine(aG (h1 n (by omega))).trans ?_;refine(aG (h2 n (by omega))).trans ?_;refine(aF q0).trans ?_;refine(aL q1).trans ?_;rfl,k2,⟨⟨z.state,z.leaves,z.list,z.logs,z.got,z.acked,z.seen,z.lines,z.sess,z.rises⟩,D.n,s5,D.cnt⟩⟩
 | false=>
 cases q2:x2==2 with
 | true=>
  have h0:=D.id.1
  have hk:y.1.toNat<y.got.length:=by have h3:=D.id;have h4:=D.got;omega
  refine⟨GV y (y.got.set y.1.toNat (i64.wrap ((gt y.got y.1.toNat).1+1),())) y.acked,d2,go56 λn hn=>Ev.now λaA=>by unfold T56;refine(aG (h1 n (by omega))).trans ?_;refine(aG (h2 n (by omega))).trans ?_;refine(aF q0).trans ?_;refine(aF q1).trans ?_;refine(aL q2).trans ?_;refine(aE h0).trans ?_;refine(bK hk).trans ?_;refine(bK hk).trans ?_;refine(aE h0).trans ?_;refine(bK hk).trans ?_;refine(bK hk).trans ?_;rfl,k2,⟨⟨z.state,z.leaves,z.list,z.logs,?_,z.acked,z.seen,z.lines,z.sess,z.rises⟩,D.n,s5,D.cnt⟩⟩
  show(List.set _ _ _).length<=aW;rw[List.length_set];exact z.got
 | false=>
 cases q3:x2==3 with
 | true=>
  obtain⟨t,d3,h3,k3,ht⟩:=f97 d2 k2
  exact⟨(y.1,y.2.1,y.2.2.1,y.2.2.2.1,y.2.2.2.2.1,y.2.2.2.2.2.1,y.2.2.2.2.2.2.1,y.2.2.2.2.2.2.2.1,y.2.2.2.2.2.2.2.2.1,y.got,y.acked,t,y.num,y.slots,y.sess,y.wait,y.limit,y.clock,y.rises,()),d3,go56 λn hn=>Ev.now λaA=>by unfold T56;refine(aG (h1 n (by omega))).trans ?_;refine(aG (h2 n (by omega))).trans ?_;refine(aF q0).trans ?_;refine(aF q1).trans ?_;refine(aF q2).trans ?_;refine(aL q3).trans ?_;refine(aG (h3 n (by omega))).trans ?_;rfl,k3,⟨⟨z.state,z.leaves,z.list,z.logs,z.got,z.acked,ht.sz.1,ht.sz.2,z.sess,z.rises⟩,D.n,s5,D.cnt⟩⟩
 | false=>
 cases q4:x2==4 with
 | true=>
  obtain⟨x3,d3,h3,k3,_⟩:=f96 d2 [((0:Int),()),((5:Int),())] k2 (by show 0<2;omega)
  exact⟨(y.1,y.2.1,y.2.2.1,y.2.2.2.1,y.2.2.2.2.1,y.2.2.2.2.2.1,y.2.2.2.2.2.2.1,y.2.2.2.2.2.2.2.1,y.2.2.2.2.2.2.2.2.1,y.got,y.acked,y.seen,y.num,x3,y.sess,y.wait,y.limit,y.clock,y.rises,()),d3,go56 λn hn=>Ev.now λaA=>by unfold T56;refine(aG (h1 n (by omega))).trans ?_;refine(aG (h2 n (by omega))).trans ?_;refine(aF q0).trans ?_;refine(aF q1).trans ?_;refine(aF q2).trans ?_;refine(aF q3).trans ?_;refine(aL q4).trans ?_;refine(aG (h3 n (by omega))).trans ?_;rfl,k3,⟨⟨z.state,z.leaves,z.list,z.logs,z.got,z.acked,z.seen,z.lines,z.sess,z.rises⟩,D.n,s5,D.cnt⟩⟩
 | false=>
 cases q5:x2==5 with
 | true=>
  obtain⟨x8,d8,h8,k8,_⟩:=f30 d2 6 k2
  obtain⟨b9,d9,h9,k9⟩:=f90 d8 2 k8
  obtain⟨x10,d10,h10,k10,_⟩:=f30 d9 9 k9
  have hb:y.sess.length+1<=bound:=by have:=D.sess;unfold bound;omega
  have hl:(y.sess++[(i64.wrap (x8 - 1),(1:Int),b9,x10,())]).length<=5:=by rw[List.length_append,List.length_singleton];have:=D.sess;omega
  exact⟨withS y (y.sess++[(i64.wrap (x8 - 1),(1:Int),b9,x10,())]),d10,go56 λn hn=>Ev.now λaA=>by unfold T56;refine(aG (h1 n (by omega))).trans ?_;refine(aG (h2 n (by omega))).trans ?_;refine(aF q0).trans ?_;refine(aF q1).trans ?_;refine(aF q2).trans ?_;refine(aF q3).trans ?_;refine(aF q4).trans ?_;refine(aL q5).trans ?_;refine(aG (h8 n (by omega))).trans ?_;refine(aG (h9 n (by omega))).trans ?_;refine(aG (h10 n (by omega))).trans ?_;refine(aE hb).trans ?_;rfl,k10,⟨tI z (Nat.le_trans hl (by decide)),D.n,hl,D.cnt⟩⟩
 | false=>
 cases q6:x2==6 with
 | true=>
  obtain⟨s,d3,h3,k3,hs⟩:=f91 d2 k2
  exact⟨(y.1,y.2.1,s.1,s.2.1,y.2.2.2.2),d3,go56 λn hn=>Ev.now λaA=>by unfold T56;refine(aG (h1 n (by omega))).trans ?_;refine(aG (h2 n (by omega))).trans ?_;refine(aF q0).trans ?_;refine(aF q1).trans ?_;refine(aF q2).trans ?_;refine(aF q3).trans ?_;refine(aF q4).trans ?_;refine(aF q5).trans ?_;refine(aL q6).trans ?_;refine(aG (h3 n (by omega))).trans ?_;rfl,k3,⟨⟨hs.sz (by omega),z.leaves,z.list,z.logs,z.got,z.acked,z.seen,z.lines,z.sess,z.rises⟩,D.n,s5,D.cnt⟩⟩
 | false=>
 cases q7:x2==7 with
 | true=>
  have hr:0<y.rises.length:=by rw[D.rises];omega
  refine⟨(y.1,y.2.1,y.2.2.1,y.2.2.2.1,y.2.2.2.2.1,y.2.2.2.2.2.1,y.2.2.2.2.2.2.1,y.2.2.2.2.2.2.2.1,y.2.2.2.2.2.2.2.2.1,y.got,y.acked,y.seen,y.num,y.slots,y.sess,y.wait,y.limit,y.clock,y.rises.set 0 ((gt y.rises 0).1,(gt y.rises 0).2.1,i64.wrap (y.clock+1),(gt y.rises 0).2.2.2),()),d2,go56 λn hn=>Ev.now λaA=>by unfold T56;refine(aG (h1 n (by omega))).trans ?_;refine(aG (h2 n (by omega))).trans ?_;refine(aF q0).trans ?_;refine(aF q1).trans ?_;refine(aF q2).trans ?_;refine(aF q3).trans ?_;refine(aF q4).trans ?_;refine(aF q5).trans ?_;refine(aF q6).trans ?_;refine(aL q7).trans ?_;refine(aE (show(0:Int)<=0 by omega)).trans ?_;refine(bK hr).trans ?_;refine(bK hr).trans ?_;rfl,k2,⟨⟨z.state,z.leaves,z.list,z.logs,z.got,z.acked,z.seen,z.lines,z.sess,?_⟩,D.n,s5,D.cnt⟩⟩
  show(List.set _ _ _).length<=aW;rw[List.length_set];exact z.rises
 | false=>
 cases q8:x2==8 with
 | true=>
  obtain⟨l,d3,h3,k3,hl⟩:=f98 d2 k2
  have hz:=hl.sz (by omega)
  exact⟨(y.1,y.2.1,y.2.2.1,y.2.2.2.1,y.2.2.2.2.1,y.2.2.2.2.2.1,l.1,l.2.1,l.2.2.1,y.got,y.acked,y.seen,y.num,y.slots,y.sess,y.wait,y.limit,y.clock,y.rises,()),d3,go56 λn hn=>Ev.now λaA=>by unfold T56;refine(aG (h1 n (by omega))).trans ?_;refine(aG (h2 n (by omega))).trans ?_;refine(aF q0).trans ?_;refine(aF q1).trans ?_;refine(aF q2).trans ?_;refine(aF q3).trans ?_;refine(aF q4).trans ?_;refine(aF q5).trans ?_;refine(aF q6).trans ?_;refine(aF q7).trans ?_;refine(aL q8).trans ?_;refine(aG (h3 n (by omega))).trans ?_;rfl,k3,⟨⟨z.state,z.leaves,hz.1,hz.2,z.got,z.acked,z.seen,z.lines,z.sess,z.rises⟩,D.n,s5,D.cnt⟩⟩
 | false=>exact⟨y,d2,go56 λn hn=>Ev.now λaA=>by unfold T56;refine(aG (h1 n (by omega))).trans ?_;refine(aG (h2 n (by omega))).trans ?_;refine(aF q0).trans ?_;refine(aF q1).trans ?_;refine(aF q2).trans ?_;refine(aF q3).trans ?_;refine(aF q4).trans ?_;refine(aF q5).trans ?_;refine(aF q6).trans ?_;refine(aF q7).trans ?_;refine(aF q8).trans ?_;rfl,k2,⟨z,D.n,s5,D.cnt⟩⟩
end Go.Abs.Wz
/- Deeds as drawn; drawn worlds. -/
namespace Go.Abs.Wz
open Go Go.Abs
theorem f120(c:eV)(w:a9)(h:CurOk c):∃ (d:jQ) (e:eV),Ran p 4 120 [.ref ⟨K88,c⟩, va K28 w] ⟨[⟨K132,d⟩],[⟨K88,e⟩]⟩/\CurOk e:=by
 obtain⟨k,c1,h1,k1,_⟩:=f96 c [((0:Int),()),((0:Int),()),((0:Int),()),((1:Int),()),((2:Int),()),((2:Int),()),((3:Int),()),((3:Int),()),((4:Int),()),((4:Int),()),((4:Int),()),((4:Int),()),((4:Int),()),((4:Int),()),((5:Int),()),((6:Int),()),((7:Int),())] h (by show 0<17;omega)
 obtain⟨a,c2,h2,k2,_⟩:=f30 c1 (w.1.length:Int) k1
 obtain⟨a',c3,h3,k3,_⟩:=f30 c2 (mxI true (w.2.1.length:Int) 1) k2
 cases q0:k==0 with
 | true=>
  obtain⟨b,d1,g1,l1,_⟩:=f96 c2 [((0:Int),()),((0:Int),()),((1:Int),()),((1:Int),()),((1:Int),()),((2:Int),()),((3:Int),()),((4:Int),())] k2 (by show 0<8;omega)
  cases q4:b==4 with
  | true=>
   obtain⟨v,d2,g2,l2,_⟩:=f30 d1 (w.1.length:Int) l1
   obtain⟨t,d3,g3,l3,_⟩:=f128 d2 [((⟨#[]⟩:ByteArray),()),((⟨#[120]⟩:ByteArray),()),((⟨#[121,122]⟩:ByteArray),())] l2 (by show 0<3;omega)
   exact⟨(k,a,b,v,t,()),d3,go120 λn hn=>Ev.now λaA=>by unfold T120;refine(aG (h1 n (by omega))).trans ?_;refine(aG (h2 n (by omega))).trans ?_;refine(aL q0).trans ?_;refine(aG (g1 n (by omega))).trans ?_;refine(aL q4).trans ?_;refine(aG (g2 n (by omega))).trans ?_;refine(aG (g3 n (by omega))).trans ?_;rfl,l3⟩
  | false=>
   obtain⟨t,d3,g3,l3,_⟩:=f128 d1 [((⟨#[]⟩:ByteArray),()),((⟨#[120]⟩:ByteArray),()),((⟨#[121,122]⟩:ByteArray),())] l1 (by show 0<3;omega)
   exact⟨(k,a,b,a,t,()),d3,go120 λn hn=>Ev.now λaA=>by unfold T120;refine(aG (h1 n (by omega))).trans ?_;refine(aG (h2 n (by omega))).trans ?_;refine(aL q0).trans ?_;refine(aG (g1 n (by omega))).trans ?_;refine(aF q4).trans ?_;refine(aG (g3 n (by omega))).trans ?_;rfl,l3⟩
 | false=>
 obtain⟨x,d1,g1,l1,_⟩:=f30 c2 (w.1.length:Int) k2
 cases q2:k==2 with
 | true=>exact⟨(k,a,x,0,⟨#[]⟩,()),d1,go120 λn hn=>Ev.now λaA=>by unfold T120;refine(aG (h1 n (by omega))).trans ?_;refine(aG (h2 n (by omega))).trans ?_;refine(aF q0).trans ?_;refine(aL q2).trans ?_;refine(aL q2).trans ?_;refine(aG (g1 n (by omega))).trans ?_;rfl,l1⟩
 | false=>
 cases q3:k==3 with
 | true=>exact⟨(k,a,x,0,⟨#[]⟩,()),d1,go120 λn hn=>Ev.now λaA=>by unfold T120;refine(aG (h1 n (by omega))).trans ?_;refine(aG (h2 n (by omega))).trans ?_;refine(aF q0).trans ?_;refine(aF q2).trans ?_;refine(aL q3).trans ?_;refine(aG (g1 n (by omega))).trans ?_;rfl,l1⟩
 | false=>
 have hm:=f61 (w.2.1.length:Int) 1
 cases q4:k==4 with
 | true=>exact⟨(k,a',0,0,⟨#[]⟩,()),c3,go120 λn hn=>Ev.now λaA=>by unfold T120;refine(aG (h1 n (by omega))).trans ?_;refine(aG (h2 n (by omega))).trans ?_;refine(aF q0).trans ?_;refine(aF q2).trans ?_;refine(aF q3).trans ?_;refine(aL q4).trans ?_;refine(aL q4).trans ?_;refine(aB (hm n (by omega))).trans ?_;refine(aG (h3 n (by omega))).trans ?_;rfl,k3⟩
 | false=>
 cases q5:k==5 with
 | true=>exact⟨(k,a',0,0,⟨#[]⟩,()),c3,go120 λn hn=>Ev.now λaA=>by unfold T120;refine(aG (h1 n (by omega))).trans ?_;refine(aG (h2 n (by omega))).trans ?_;refine(aF q0).trans ?_;refine(aF q2).trans ?_;refine(aF q3).trans ?_;refine(aF q4).trans ?_;refine(aL q5).trans ?_;refine(aL q5).trans ?_;refine(aB (hm n (by omega))).trans ?_;refine(aG (h3 n (by omega))).trans ?_;rfl,k3⟩
 | false=>
 cases q6:k==6 with
 | true=>exact⟨(k,a',0,0,⟨#[]⟩,()),c3,go120 λn hn=>Ev.now λaA=>by unfold T120;refine(aG (h1 n (by omega))).trans ?_;refine(aG (h2 n (by omega))).trans ?_;refine(aF q0).trans ?_;refine(aF q2).trans ?_;refine(aF q3).trans ?_;refine(aF q4).trans ?_;refine(aF q5).trans ?_;refine(aL q6).trans ?_;refine(aB (hm n (by omega))).trans ?_;refine(aG (h3 n (by omega))).trans ?_;rfl,k3⟩
 | false=>
 cases q7:k==7 with
 | true=>
  obtain⟨b,d2,g2,l2,_⟩:=f30 c3 40 k3
  obtain⟨v,d3,g3,l3,_⟩:=f30 d2 255 l2
  exact⟨(k,a',b,i64.wrap (1+v),⟨#[]⟩,()),d3,go120 λn hn=>Ev.now λaA=>by unfold T120;refine(aG (h1 n (by omega))).trans ?_;refine(aG (h2 n (by omega))).trans ?_;refine(aF q0).trans ?_;refine(aF q2).trans ?_;refine(aF q3).trans ?_;refine(aF q4).trans ?_;refine(aF q5).trans ?_;refine(aF q6).trans ?_;refine(aL q7).trans ?_;refine(aB (hm n (by omega))).trans ?_;refine(aG (h3 n (by omega))).trans ?_;refine(aG (g2 n (by omega))).trans ?_;refine(aG (g3 n (by omega))).trans ?_;rfl,l3⟩
 | false=>exact⟨(k,a,0,0,⟨#[]⟩,()),c2,go120 λn hn=>Ev.now λaA=>by unfold T120;refine(aG (h1 n (by omega))).trans ?_;refine(aG (h2 n (by omega))).trans ?_;refine(aF q0).trans ?_;refine(aF q2).trans ?_;refine(aF q3).trans ?_;refine(aF q4).trans ?_;refine(aF q5).trans ?_;refine(aF q6).trans ?_;refine(aF q7).trans ?_;rfl,k2⟩
end Go.Abs.Wz
/- Drawn worlds. -/
namespace Go.Abs.Wz
open Go Go.Abs
theorem GE(w:a9)(d:jQ):(cU w d).1.1.length=w.1.length:=by
 unfold cU
 cases d.1==1<;>cases d.1==0<;>cases (w.2.2.1.length:Int)==40<;>cases (w.2.1.length:Int)==12<;>cases d.1==2<;>
  cases (jF (gt w.1 d.2.1.toNat) d.2.2.1 d.2.2.2.1 d.2.2.2.2.1).2.2 != 0<;>cases (jL (gt w.1 d.2.1.toNat) d.2.2.1).2<;>cases (i7 (gt w.1 d.2.1.toNat) d.2.2.1).2.2<;>first | rfl | exact List.length_set
theorem OG(w:a9)(d:jQ):(m6 w d).1.1.length=w.1.length:=by
 unfold m6
 cases d.1==4<;>cases d.1==5<;>cases d.1==6<;>cases (w.2.1.length:Int)==12<;>cases oP w d<;>first | rfl | exact List.length_set
theorem R5(w:a9)(d:jQ):(doW w d).1.1.length=w.1.length:=by
 unfold doW
 cases !bM w<;>cases !inB d.1 0 7<;>cases decide (d.1<=3)<;>cases !inB d.2.1 0 (i64.wrap ((w.1.length:Int) - 1))<;>cases !inB d.2.1 0 (i64.wrap ((w.2.1.length:Int) - 1))<;>
  first | rfl | exact GE w d | exact OG w d
theorem MR{m:Nat}{cap slots wait lim:Int}(hm:1<=m/\m<=4)(hc:inB cap 1 8=true)(hs:inB slots 1 4=true)(hw:inB wait 1 20=true)(hl:inB lim 1 50=true):BA (m:Int) cap slots wait lim=true:=by
 have hcnt:dH (m:Int)=m:=by unfold dH;omega
 have hlen:(eL (m:Int) cap slots wait lim (dH (m:Int))).length=m:=by rw[g9,hcnt]
 unfold BA bM
 simp only[Bool.and_eq_true,bN]
 refine⟨?_,rfl,rfl,λi hi=>?_,λi hi=>absurd hi (Nat.not_lt_zero _),λi hi=>absurd hi (Nat.not_lt_zero _)⟩
 ·rw[aV];show 1<=(((eL (m:Int) cap slots wait lim (dH (m:Int))).length:Nat):Int)/\(((eL (m:Int) cap slots wait lim (dH (m:Int))).length:Nat):Int)<=5
  rw[hlen];omega
 ·have hi':i<dH (m:Int):=by rw[hcnt];rw[show(wnW (m:Int) cap slots wait lim).1.length=m from hlen] at hi;exact hi
  have hy:=FK (id:=(i:Int)) (n:=(m:Int)) (cap:=cap) (slots:=slots) (wait:=wait) (lim:=lim) (by rw[aV];omega) (by omega) hc hs hw hl
  have hg:gt (wnW (m:Int) cap slots wait lim).1 i=gN (i:Int) (m:Int) cap slots wait lim:=by
   rw[show gt (wnW (m:Int) cap slots wait lim).1 i=_ from sQ (m:Int) cap slots wait lim hi',hy.2]
  have h1:=hy.1
  unfold pM at h1
  simp only[Bool.and_eq_true] at h1
  unfold lU
  rw[hg,h1.2,show(wnW (m:Int) cap slots wait lim).1.length=m from hlen]
  simp[gN]
def Few(w:a9):Prop:=w.2.1.length<=12/\w.2.2.1.length<=40
theorem GS{rs:List bU}:∀ (k i:Nat) (net:List eA),net.length<=12->(uY rs k i net).length<=12
 | 0,i,net,hl=>hl
 | k+1,i,net,hl=>by
  unfold uY
  by_cases h12:(net.length:Int)<12
  ·rw[decide_eq_true h12];exact GS k (i+1) _ (by rw[List.length_append,List.length_singleton];omega)
  ·rw[decide_eq_false h12];exact hl
theorem D6{α:Type}{l:List α}{n:Nat}{x:α}(h:l.length<=n)(g:((l.length:Int)==(n:Int))=false):(l++[x]).length<=n:=by
 rw[beq_eq_false_iff_ne] at g;rw[List.length_append,List.length_singleton];omega
theorem R6{w:a9}(d:jQ)(h:Few w):Few (doW w d).1:=by
 have hA:Few (cU w d).1:=by
  unfold cU
  cases d.1==1 with
  | true=>exact h
  | false=>
  cases d.1==0 with
  | true=>
   cases g:(w.2.2.1.length:Int)==40 with
   | true=>exact h
   | false=>cases (jF (gt w.1 d.2.1.toNat) d.2.2.1 d.2.2.2.1 d.2.2.2.2.1).2.2 != 0 with
    | true=>exact h
    | false=>exact⟨h.1,D6 h.2 g⟩
  | false=>
  cases g:(w.2.1.length:Int)==12 with
  | true=>exact h
  | false=>
  cases d.1==2 with
  | true=>cases (jL (gt w.1 d.2.1.toNat) d.2.2.1).2 with
   | false=>exact h
   | true=>exact⟨D6 h.1 g,h.2⟩
  | false=>cases (i7 (gt w.1 d.2.1.toNat) d.2.2.1).2.2 with
   | false=>exact h
   | true=>exact⟨D6 h.1 g,h.2⟩
 have hB:Few (m6 w d).1:=by
  unfold m6
  cases d.1==4 with
  | true=>exact⟨GS _ _ _ (Nat.le_trans (kB _ _) h.1),h.2⟩
  | false=>
  cases d.1==5 with
  | true=>exact⟨Nat.le_trans (kB _ _) h.1,h.2⟩
  | false=>
  cases d.1==6 with
  | true=>
   cases g:(w.2.1.length:Int)==12 with
   | true=>exact h
   | false=>exact⟨D6 h.1 g,h.2⟩
  | false=>
  cases oP w d with
  | true=>exact h
  | false=>exact⟨by show(List.set _ _ _).length<=12;rw[List.length_set];exact h.1,h.2⟩
 unfold doW
 cases !bM w<;>cases !inB d.1 0 7<;>cases decide (d.1<=3)<;>cases !inB d.2.1 0 (i64.wrap ((w.1.length:Int) - 1))<;>cases !inB d.2.1 0 (i64.wrap ((w.2.1.length:Int) - 1))<;>
  first | exact h | exact hA | exact hB
theorem QG(n cap slots wait lim:Int):SzY (wnW n cap slots wait lim):=
 { toSzW:=MQ n cap slots wait lim,bytes:=λi hi=>absurd hi (Nat.not_lt_zero _),by_:=λi hi=>absurd hi (Nat.not_lt_zero _) }
theorem JK{x:Int}{l:List aO}{a b:Int}(h:(x,())∈l)(hl:l.all (λy=>inB y.1 a b)=true):inB x a b=true:=(List.all_eq_true.1 hl) _ h
theorem UO{α:Type}[Inhabited α]{l r:List α}{i:Nat}(h:i<l.length):gt (l++r) i=gt l i:=by
 rw[cS h,cS (by rw[List.length_append];omega),List.getElem_append_left h]
theorem RX{α:Type}[Inhabited α]{l:List α}{x:α}:gt (l++[x]) l.length=x:=by
 rw[cS (by rw[List.length_append,List.length_singleton];omega),List.getElem_concat_length rfl]
theorem f29(c:eV)(h:CurOk c):∃ (w:a9) (e:eV),Ran p 17 29 [.ref ⟨K88,c⟩] ⟨[⟨K28,w⟩],[⟨K88,e⟩]⟩/\CurOk e/\SzY w:=by
 obtain⟨x1,d1,h1,k1,a1,b1,_⟩:=f30 c 16 h
 obtain⟨x2,d2,h2,k2,a2,b2,_⟩:=f30 d1 4 k1
 obtain⟨x3,d3,h3,k3,m3⟩:=f96 d2 [((1:Int),()),((2:Int),()),((8:Int),())] k2 (by show 0<3;omega)
 obtain⟨x4,d4,h4,k4,m4⟩:=f96 d3 [((1:Int),()),((2:Int),()),((4:Int),())] k3 (by show 0<3;omega)
 obtain⟨x5,d5,h5,k5,a5,b5,_⟩:=f30 d4 4 k4
 obtain⟨x6,d6,h6,k6,a6,b6,_⟩:=f30 d5 4 k5
 have b1:=b1 (by omega)
 have b2:=b2 (by omega)
 have b5:=b5 (by omega)
 have b6:=b6 (by omega)
 obtain⟨m,e2,hm⟩:∃ m:Nat,i64.wrap (1+x2)=(m:Int)/\1<=m/\m<=4:=⟨(1+x2).toNat,by rw[IntKind.wrap_i64];omega,by omega,by omega⟩
 have e5:i64.wrap (1+x5)=1+x5:=by rw[IntKind.wrap_i64];omega
 have e6:i64.wrap (1+x6)=1+x6:=by rw[IntKind.wrap_i64];omega
 have hw:=f119 (m:Int) x3 x4 (1+x5) (1+x6)
 have ok:=MR hm (JK m3 (show _=true by decide)) (JK m4 (show _=true by decide)) (show inB (1+x5) 1 20=true by rw[aV];omega) (show inB (1+x6) 1 50=true by rw[aV];omega)
 have e7:wI (m:Int) x3 x4 (1+x5) (1+x6)=wnW (m:Int) x3 x4 (1+x5) (1+x6):=by unfold wI;rw[ok];rfl
 have hcnt:dH (m:Int)=m:=by unfold dH;omega
 have hlen:(wnW (m:Int) x3 x4 (1+x5) (1+x6)).1.length=m:=by show(eL (m:Int) x3 x4 (1+x5) (1+x6) (dH (m:Int))).length=m;rw[g9,hcnt]
 have hsz:=QG (m:Int) x3 x4 (1+x5) (1+x6)
 have hfew:Few (wnW (m:Int) x3 x4 (1+x5) (1+x6)):=⟨Nat.zero_le _,Nat.zero_le _⟩
 rw[e7,ok] at hw
 generalize wnW (m:Int) x3 x4 (1+x5) (1+x6)=W0 at hw hlen hsz hfew
 obtain⟨t,rfl⟩:∃ t:Nat,x1=t:=⟨x1.toNat,by omega⟩
 obtain⟨o,⟨w,e,rfl,he,hwz⟩,hL⟩:=It.ex (lvl:=17 - 1) (c:=λn aA (_:Unit)=>c29_20005 (aK p n) aA ((((t:Int),()),()),(d1,())) ((W0,(true,()),()),())) (λi z=>∃ (l:List jQ) (d:eV) (w:a9),z=((i:Int),d.1,d.2.1,d.2.2.1,l,w.1,w.2.1,w.2.2.1)/\CurOk d/\SzY w/\Few w/\l.length<=i/\w.1.length=m)
  (λo=>∃ (w:a9) (e:eV),o=⟨[⟨K28,w⟩],[⟨K88,e⟩]⟩/\CurOk e/\SzY w) t (by
   rintro i z hi ⟨l,d,w,rfl,hd,hz,hf,hl,hn⟩
   obtain⟨dd,e,hde,ke⟩:=f120 d w hd
   have hbd:l.length+1<=bound:=by unfold bound;omega
   have stp:∀ q:jQ,∃ (l':List jQ) (d':eV) (w':a9),(((i+1:Nat):Int),e.1,e.2.1,e.2.2.1,l++[q],(doW w q).1.1,(doW w q).1.2.1,(doW w q).1.2.2.1)=(((i+1:Nat):Int),d'.1,d'.2.1,d'.2.2.1,l',w'.1,w'.2.1,w'.2.2.1)/\CurOk d'/\SzY w'/\Few w'/\l'.length<=i+1/\w'.1.length=m:=
    λq=>⟨l++[q],e,(doW w q).1,rfl,ke,TO hz q,R6 q hf,by rw[List.length_append,List.length_singleton];omega,by rw[R5];exact hn⟩
   by_cases him:i<m
   ·have hdo:=f121 w ((0:Int),(i:Int),(0:Int),(i:Int),(⟨#[]⟩:ByteArray),()) hz
    refine⟨_,stp ((0:Int),(i:Int),(0:Int),(i:Int),(⟨#[]⟩:ByteArray),()),λn hn aA u rec=>?_⟩
    show c29_20005 (aK p n) aA ((((t:Int),()),()),(d1,())) ((W0,(true,()),()),()) rec ((i:Int),d.1,d.2.1,d.2.2.1,l,w.1,w.2.1,w.2.2.1)=_
    unfold c29_20005;dsimp only;rw[aM (show i<9223372036854775807 by omega)];refine(aE (Int.ofNat_lt.2 hi)).trans ?_;refine(aG (hde n (by omega))).trans ?_;refine(aE (Int.ofNat_lt.2 (show i<W0.1.length by omega))).trans ?_;refine(aE hbd).trans ?_;refine(bA (hdo n (by omega))).trans ?_;rfl
   ·have hdo:=f121 w dd hz
    refine⟨_,stp dd,λn hn aA u rec=>?_⟩
    show c29_20005 (aK p n) aA ((((t:Int),()),()),(d1,())) ((W0,(true,()),()),()) rec ((i:Int),d.1,d.2.1,d.2.2.1,l,w.1,w.2.1,w.2.2.1)=_
    unfold c29_20005;dsimp only;rw[aM (show i<9223372036854775807 by omega)];refine(aE (Int.ofNat_lt.2 hi)).trans ?_;refine(aG (hde n (by omega))).trans ?_;refine(aI (show ¬ (i:Int)<(W0.1.length:Int) by omega)).trans ?_;refine(aE hbd).trans ?_;refine(bA (hdo n (by omega))).trans ?_;rfl) (by
   rintro z ⟨l,d,w,rfl,hd,hz,hf,hl,hn⟩
   obtain⟨x8,d8,h8,k8,_⟩:=f30 d 14 hd
   have start:∀ {o:Out},(∀ n,17 - 1<=n->∀ aA rec,c29_20005 (aK p n) aA ((((t:Int),()),()),(d1,())) ((W0,(true,()),()),()) rec ((t:Int),d.1,d.2.1,d.2.2.1,l,w.1,w.2.1,w.2.2.1)=some o)->∀ n,17 - 1<=n->It (λaA (_:Unit)=>c29_20005 (aK p n) aA ((((t:Int),()),()),(d1,())) ((W0,(true,()),()),())) ((t:Int),d.1,d.2.1,d.2.2.1,l,w.1,w.2.1,w.2.2.1) (λ_=>some o):=
    λH n hn=>It.stop λaA u rec=>H n hn aA rec
   cases q0:x8==0 with
   | true=>
    obtain⟨y,d9,h9,k9,hy⟩:=f56 d8 k8
    have hr:0<w.1.length:=by omega
    refine⟨_,⟨(w.1.set 0 y,w.2.1,w.2.2.1,()),d9,rfl,k9,jU (by rw[List.length_set];exact hz.nodes) (vD hz.node 0 hy.sz) hz.net hz.all hz.said hz.part⟩,start λn hn aA rec=>?_⟩
    unfold c29_20005;dsimp only;refine(aI (Int.lt_irrefl _)).trans ?_;refine(aG (h8 n (by omega))).trans ?_;refine(aL q0).trans ?_;refine(aG (h9 n (by omega))).trans ?_;refine(aE (show(0:Int)<=0 by omega)).trans ?_;refine(bK hr).trans ?_;refine(bK hr).trans ?_;rfl
   | false=>
   cases q1:x8==1 with
   | true=>
    obtain⟨x9,d9,h9,k9,_⟩:=f30 d8 7 k8
    have hb:w.2.1.length+1<=bound:=by have:=hf.1;unfold bound;omega
    refine⟨_,⟨(w.1,w.2.1++[(i64.wrap (x9 - 1),[((1:Int),())],false,())],w.2.2.1,()),d9,rfl,k9,jU hz.nodes hz.node (by rw[List.length_append,List.length_singleton];have:=hf.1;unfold aW;omega) (yE hz.all ⟨λx hx=>?_,(by decide:1<=aW)⟩) hz.said hz.part⟩,start λn hn aA rec=>?_⟩
    ·rw[List.mem_singleton.1 hx];exact⟨1,rfl,by decide⟩
    ·unfold c29_20005;dsimp only;refine(aI (Int.lt_irrefl _)).trans ?_;refine(aG (h8 n (by omega))).trans ?_;refine(aF q0).trans ?_;refine(aL q1).trans ?_;refine(aG (h9 n (by omega))).trans ?_;refine(aE hb).trans ?_;rfl
   | false=>
   cases q2:x8==2 with
   | true=>
    obtain⟨x9,d9,h9,k9,_⟩:=f30 d8 7 k8
    have hb:w.2.2.1.length+1<=bound:=by have:=hf.2;unfold bound;omega
    refine⟨_,⟨(w.1,w.2.1,w.2.2.1++[(i64.wrap (x9 - 1),[],[],())],()),d9,rfl,k9,jU hz.nodes hz.node hz.net hz.all (by rw[List.length_append,List.length_singleton];have:=hf.2;unfold aW;omega) (λi hi=>?_)⟩,start λn hn aA rec=>?_⟩
    ·rcases Nat.lt_or_ge i w.2.2.1.length with h | h
     ·rw[UO h];exact hz.part i h
     ·rw[List.length_append,List.length_singleton] at hi
      rw[show i=w.2.2.1.length by omega,RX];exact gP
    ·unfold c29_20005;dsimp only;refine(aI (Int.lt_irrefl _)).trans ?_;refine(aG (h8 n (by omega))).trans ?_;refine(aF q0).trans ?_;refine(aF q1).trans ?_;refine(aL q2).trans ?_;refine(aG (h9 n (by omega))).trans ?_;refine(aE hb).trans ?_;rfl
   | false=>
   cases q3:x8==3 with
   | true=>
    refine⟨_,⟨([],w.2.1,w.2.2.1,()),d8,rfl,k8,jU (Nat.zero_le _) (λi hi=>absurd hi (Nat.not_lt_zero _)) hz.net hz.all hz.said hz.part⟩,start λn hn aA rec=>?_⟩
    unfold c29_20005;dsimp only;refine(aI (Int.lt_irrefl _)).trans ?_;refine(aG (h8 n (by omega))).trans ?_;refine(aF q0).trans ?_;refine(aF q1).trans ?_;refine(aF q2).trans ?_;refine(aL q3).trans ?_;rfl
   | false=>
    refine⟨_,⟨w,d8,rfl,k8,hz⟩,start λn hn aA rec=>?_⟩
    unfold c29_20005;dsimp only;refine(aI (Int.lt_irrefl _)).trans ?_;refine(aG (h8 n (by omega))).trans ?_;refine(aF q0).trans ?_;refine(aF q1).trans ?_;refine(aF q2).trans ?_;refine(aF q3).trans ?_;rfl) t 0 ((0:Int),d6.1,d6.2.1,d6.2.2.1,([]:List jQ),W0.1,W0.2.1,W0.2.2.1) (by omega) ⟨[],d6,W0,rfl,k6,hsz,hfew,Nat.zero_le _,hlen⟩
 exact⟨w,e,go29 λn hn=>Ev.eq (λaA=>by
  unfold T29;refine(aG (h1 n (by omega))).trans ?_;refine(aG (h2 n (by omega))).trans ?_;refine(aG (h3 n (by omega))).trans ?_;refine(aG (h4 n (by omega))).trans ?_;refine(aG (h5 n (by omega))).trans ?_;refine(aG (h6 n (by omega))).trans ?_
  rw[show i64.wrap ((1:Int)+vI x2)=(m:Int)from e2,show i64.wrap ((1:Int)+vI x5)=1+x5 from e5,show i64.wrap ((1:Int)+vI x6)=1+x6 from e6]
  refine(bA (hw n (by omega))).trans ?_;rfl) ((hL n (by omega)).ev (i:=()) rfl),he,hwz⟩
end Go.Abs.Wz
namespace Go.Abs.Wz
open Go Go.Abs
end Go.Abs.Wz
namespace Go.Abs.Wz
open Go Go.Abs
structure Ticked (x:NodeT) (k:Nat) (y:NodeT):Prop where
 ok:NodeOk y
 id:y.1=x.1
 n:y.2.1=x.2.1
 num:y.num=x.num
 wait:y.wait=x.wait
 clock:y.clock=x.clock+((k:Nat):Int)
 age:∀ s∈y.sess,((k:Nat):Int)<=s.2.2.2.1
end Go.Abs.Wz
set_option maxHeartbeats 2000000
namespace Go.Abs.Wz
open Go Go.Abs
theorem f6(b:List aO):Ran p 1 6 [vf K22 (b,())] (rO K4 (decide ((b.length:Int)>1048576),())):=go6 λn hn=>Ev.now λaA=>by
 unfold T6;rfl
end Go.Abs.Wz
/- What drawn worlds say: FnSaidInOrder, FnExplained. -/
set_option maxHeartbeats 4000000
namespace Go.Abs.Wz
open Go Go.Abs
theorem f46(b:List aO)(hb:b.length<=1048576):∃ (w:a9) (s:aH),Ran p 18 46 [vf K22 (b,())] ⟨[⟨K28,w⟩,⟨K34,s⟩],[]⟩/\SzY w/\SzS s:=by
 obtain⟨o,⟨w,s,rfl,hw,hs⟩,hL⟩:=It.new (lvl:=18 - 1) (c:=λn aA (_:Unit)=>c46_10003 (aK p n) aA b) (λo=>∃ (w:a9) (s:aH),o=⟨[⟨K28,w⟩,⟨K34,s⟩],[]⟩/\SzY w/\SzS s) b hb (λi h hi h4=>⟨_,λn hn aA a rec=>by
   show c46_10003 (aK p n) aA b rec (h,(i:Int))=_
   unfold c46_10003;dsimp only;rw[aM (show i<9223372036854775807 by omega)];refine(aE (Int.ofNat_lt.2 hi)).trans ?_;refine(aE (show(i:Int)<4000 by omega)).trans ?_;refine bif_nn.trans ?_;refine(aJ hi).trans ?_;rfl⟩) (λh i hc hi=>by
   obtain⟨w,d1,h1,k1,hw⟩:=f29 _ hc
   by_cases h0:(w.1.length:Int)>0
   ·obtain⟨x,d2,h2,k2⟩:=f90 _ 3 k1
    cases x with
    | false=>
     obtain⟨y,d3,h3,k3,r3,s3,_⟩:=f30 _ (w.1.length:Int) k2
     obtain⟨j,rfl⟩:∃ j:Nat,y=j:=⟨y.toNat,by omega⟩
     have hj:j<w.1.length:=by have:=s3 (by omega);omega
     have hs:=(hw.node j hj).state
     have h4:=f80 _ hs
     exact⟨_,⟨w,_,rfl,hw,hs⟩,λn hn=>⟨0,λaA _ a rec=>by
      show c46_10003 (aK p n) aA b rec (h,i)=_
      unfold c46_10003;refine(z9 hi).trans ?_;refine(aG (h1 n (by omega))).trans ?_;refine(aE h0).trans ?_;refine(aG (h2 n (by omega))).trans ?_;refine(aL rfl).trans ?_;refine(aG (h3 n (by omega))).trans ?_;refine bif_nn.trans ?_;refine(aJ hj).trans ?_;refine(aB (h4 n (by omega))).trans ?_;rfl⟩⟩
    | true=>
     obtain⟨s,d3,h3,k3,hs⟩:=f91 _ k2
     exact⟨_,⟨w,s,rfl,hw,hs.sz (by omega)⟩,λn hn=>⟨0,λaA _ a rec=>by
      show c46_10003 (aK p n) aA b rec (h,i)=_
      unfold c46_10003;refine(z9 hi).trans ?_;refine(aG (h1 n (by omega))).trans ?_;refine(aE h0).trans ?_;refine(aG (h2 n (by omega))).trans ?_;refine(aF rfl).trans ?_;refine(aG (h3 n (by omega))).trans ?_;rfl⟩⟩
   ·obtain⟨s,d3,h3,k3,hs⟩:=f91 _ k1
    exact⟨_,⟨w,s,rfl,hw,hs.sz (by omega)⟩,λn hn=>⟨0,λaA _ a rec=>by
     show c46_10003 (aK p n) aA b rec (h,i)=_
     unfold c46_10003;refine(z9 hi).trans ?_;refine(aG (h1 n (by omega))).trans ?_;refine(aI h0).trans ?_;refine(aG (h3 n (by omega))).trans ?_;rfl⟩⟩) (i64.wrap (26583+(b.length:Int)))
 exact⟨w,s,go46 λn hn=>Ev.eq (λaA=>by unfold T46;rfl) ((hL n (by omega)).ev (i:=()) rfl),hw,hs⟩
theorem f21(b:List aO)(hb:b.length<=1048576):∃ (w:a9) (s:aH),Ran p 19 21 [vf K22 (b,())] ⟨[⟨K28,w⟩,⟨K34,s⟩],[]⟩/\SzY w/\SzS s:=by
 obtain⟨w,s,h1,hw,hs⟩:=f46 b hb
 exact⟨w,s,go21 λn hn=>Ev.now λaA=>by unfold T21;refine(bA (h1 n (by omega))).trans ?_;rfl,hw,hs⟩
theorem HB(s:aH):fB s s=true:=mV.2 rfl
theorem law_explained(b:List aO)(ho:pL K22 (b,())):Ran p 20 5 [vf K22 (b,())] tK:=by
 have h1:=f6 b
 by_cases hb:(b.length:Int)>1048576
 ·rw[decide_eq_true hb] at h1
  exact go5 λn hn=>Ev.now λaA=>by unfold T5;refine(aB (h1 n (by omega))).trans ?_;rfl
 rw[decide_eq_false hb] at h1
 obtain⟨w,s,h2,hw,hs⟩:=f21 b (by omega)
 have hz:=hw.toSzW
 have h3:=f22 w s hz hs
 have h4:=f23 w s hz hs
 have h5:=f15 w hz
 have h6:=f24 w hz
 have h7:=f9 (kK w) (kK w) (EE w)
 have h8:=f11 w hz
 have h9:=f25 s (aQ hs.a) (aQ hs.b)
 have h10:=f26 w s hz hs
 rw[HB] at h7
 have hbeq:(!rM (eR w s) (eR w s))=false:=by cases eR w s<;>rfl
 cases ok:bM w with
 | false=>
  have e:eR w s=false:=by unfold eR;rw[ok];rfl
  have e2:bH w s=[]:=by unfold bH;rw[ok];rfl
  rw[ok] at h8
  rw[e] at h3 h4
  rw[e2] at h10
  exact go5 λn hn=>Ev.now λaA=>by unfold T5;refine(aB (h1 n (by omega))).trans ?_;refine(aF rfl).trans ?_;refine(bA (h2 n (by omega))).trans ?_;refine(aB (h3 n (by omega))).trans ?_;refine(aB (h4 n (by omega))).trans ?_;refine(aF rfl).trans ?_;refine(aB (h5 n (by omega))).trans ?_;refine(aB (h6 n (by omega))).trans ?_;refine(aB (h7 n (by omega))).trans ?_;refine(aF rfl).trans ?_;refine(aB (h8 n (by omega))).trans ?_;refine(aL rfl).trans ?_;refine(aL rfl).trans ?_;refine(aB (h10 n (by omega))).trans ?_;rfl
 | true=>
 rw[ok] at h8
 cases os:aP s with
 | false=>
  have e:eR w s=false:=by unfold eR;rw[ok,os];rfl
  have e2:bH w s=[]:=by unfold bH;rw[ok,os];rfl
  rw[os] at h9
  rw[e] at h3 h4
  rw[e2] at h10
  exact go5 λn hn=>Ev.now λaA=>by unfold T5;refine(aB (h1 n (by omega))).trans ?_;refine(aF rfl).trans ?_;refine(bA (h2 n (by omega))).trans ?_;refine(aB (h3 n (by omega))).trans ?_;refine(aB (h4 n (by omega))).trans ?_;refine(aF rfl).trans ?_;refine(aB (h5 n (by omega))).trans ?_;refine(aB (h6 n (by omega))).trans ?_;refine(aB (h7 n (by omega))).trans ?_;refine(aF rfl).trans ?_;refine(aB (h8 n (by omega))).trans ?_;refine(aF rfl).trans ?_;refine(aB (h9 n (by omega))).trans ?_;refine(aL rfl).trans ?_;refine(aL rfl).trans ?_;refine(aB (h10 n (by omega))).trans ?_;rfl
 | true=>
 rw[os] at h9
 have hbl:=qR w s hz.said
 have hj:=vP w (bH w s)
 have h11:=f27 w (bH w s) hz hbl
 have hm:=λx hx=>EA ok os (x:=x) hx
 have hasc:=λi hi=>R8 ok os (i:=i) hi
 have hle:=H3 ok os
 have hn0:=R9 ok
 refine go5 λn hn=>?_
 have lp:It (λaA (_:Unit)=>c5_15 (aK p n) aA (((bH w s,()),()),()) ((eM w (bH w s),()),()) ((w,s,()),()) ((kK w,()),())) (0:Int) (λ_=>some tK):=by
  refine It.run (λi=>(i:Int)) (bH w s).length (λk hk aA u rec=>?_) (It.stop λaA u rec=>?_)
  ·obtain⟨i,hi,e,hq⟩:=hm _ (cN hk)
   have e1:(gt (bH w s) k).1=(i:Int):=by rw[e]
   have h12:=f13 (bP w i) s (hz.part i hi) hs
   rw[nK.2 hq] at h12
   have hlen:=tH ok
   show c5_15 (aK p n) aA (((bH w s,()),()),()) ((eM w (bH w s),()),()) ((w,s,()),()) ((kK w,()),()) rec (k:Int)=rec ((k+1:Nat):Int)
   unfold c5_15;dsimp only;rw[aM (show k<9223372036854775807 by unfold aW at hbl;omega)];refine(aE (Int.ofNat_lt.2 hk)).trans ?_;refine bif_nn.trans ?_;refine(aJ hk).trans ?_;refine(aJ hk).trans ?_;refine(aI (show ¬ (gt (bH w s) k).1<0 by omega)).trans ?_;refine bif_nn.trans ?_;refine(aJ hk).trans ?_;refine(aJ hk).trans ?_
   refine(aI (show ¬ (gt (bH w s) k).1>=(w.2.2.1.length:Int) by omega)).trans ?_;refine bif_nn.trans ?_;refine(aJ hk).trans ?_;refine(aJ hk).trans ?_;refine(aE (show 0<=(gt (bH w s) k).1 by omega)).trans ?_
   rw[show vI (gt (bH w s) k).1=(i:Int)from e1];refine(aJ hi).trans ?_;refine(aB (h12 n (by omega))).trans ?_;refine(aF rfl).trans ?_
   by_cases hk0:(k:Int)>0
   ·obtain⟨k',rfl⟩:∃ k',k=k'+1:=⟨k - 1,by omega⟩
    have hk1:k'<(bH w s).length:=by omega
    have e2:i64.wrap (((k'+1:Nat):Int) - 1)=(k':Int):=by rw[IntKind.wrap_i64];unfold aW at hbl;omega
    have h13:=hasc k' hk
    refine(aE hk0).trans ?_;refine bif_nn.trans ?_;refine(aJ hk).trans ?_;refine(aJ hk).trans ?_;rw[e2];refine bif_nn.trans ?_;refine(aJ hk1).trans ?_;refine(aJ hk1).trans ?_;refine(aI (show ¬ (gt (bH w s) (k'+1)).1<=(gt (bH w s) k').1 by omega)).trans ?_;rfl
   ·refine(aI hk0).trans ?_;rfl
  ·have h14:=f13 (eM w (bH w s)) s hj hs
   have h15:=f13 (eM w (bH w s)) (kK w) hj (EE w)
   have h16:=f26 w (kK w) hz (EE w)
   rw[nK.2 hle.1] at h14
   rw[nK.2 hle.2] at h15
   show c5_15 (aK p n) aA (((bH w s,()),()),()) ((eM w (bH w s),()),()) ((w,s,()),()) ((kK w,()),()) rec ((bH w s).length:Int)=_
   unfold c5_15;dsimp only;refine(aI (Int.lt_irrefl _)).trans ?_;refine(aB (h14 n (by omega))).trans ?_;refine(aL rfl).trans ?_;refine(aB (h15 n (by omega))).trans ?_;refine(aL rfl).trans ?_;refine(aB (h16 n (by omega))).trans ?_
   show rB (((((bH w (kK w)).length:Nat):Int)==(w.2.2.1.length:Int)))=_
   rw[hn0];simp;rfl
 exact Ev.eq (λaA=>by
  unfold T5;refine(aB (h1 n (by omega))).trans ?_;refine(aF rfl).trans ?_;refine(bA (h2 n (by omega))).trans ?_;refine(aB (h3 n (by omega))).trans ?_;refine(aB (h4 n (by omega))).trans ?_;refine(aF hbeq).trans ?_;refine(aB (h5 n (by omega))).trans ?_;refine(aB (h6 n (by omega))).trans ?_;refine(aB (h7 n (by omega))).trans ?_;refine(aF rfl).trans ?_;refine(aB (h8 n (by omega))).trans ?_;refine(aF rfl).trans ?_;refine(aB (h9 n (by omega))).trans ?_;refine(aF rfl).trans ?_;refine(aB (h10 n (by omega))).trans ?_;refine(aB (h11 n (by omega))).trans ?_;rfl) (lp.ev (i:=()) rfl)
end Go.Abs.Wz
