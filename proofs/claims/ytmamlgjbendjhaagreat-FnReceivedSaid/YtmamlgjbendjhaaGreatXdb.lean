/- What the functions of this program answer, part db. -/
import Derived.Test.YtmamlgjbendjhaaGreatXda
import Derived.Test.YtmamlgjbendjhaaGreatW3
set_option linter.unusedVariables false
open Go.IntKind (i64)
namespace Go.Abs.Xz
open Go Go.Abs
theorem IZ{n:Nat}(h:n≤1048576):0+n≤bound:=by unfold bound;omega
theorem f224(s:aH)(hz:SzS s):Ran p 1 224 [.val true ⟨K27,s⟩] ⟨[⟨K27,s⟩],[]⟩:=go224 fun n hn=>Ev.now fun aA=>by
 show T224 (aK p n) aA s=some ⟨[⟨K27,s⟩],[]⟩
 unfold T224;refine(aE (IZ hz.a)).trans ?_;refine(aE (IZ hz.b)).trans ?_;rfl
theorem LF{i x:Int}(h:0≤x):Pos (([],[(i,x,())],()):aH):=⟨fun x hx=>(List.not_mem_nil hx).elim,fun f hf=>by rcases List.mem_singleton.1 hf with rfl;exact h⟩
theorem HM{s:aH}{i:Int}{e:bE}(he:KD e)(hi:1≤e.1)(h:s=([(i,e)],[],())∨s=([],[],())):StD 5 s∧Pos s:=by
 rcases h with rfl | rfl
 ·exact⟨⟨by show 1≤5;omega,by show 0≤5;omega,fun x hx=>by rcases List.mem_singleton.1 hx with rfl;exact he⟩,⟨fun x hx=>by rcases List.mem_singleton.1 hx with rfl;exact hi,fun x hx=>(List.not_mem_nil hx).elim⟩⟩
 ·exact⟨⟨by show 0≤5;omega,by show 0≤5;omega,fun x hx=>(List.not_mem_nil hx).elim⟩,LG⟩
theorem MU{i x:Int}(h1:0≤i)(h2:i≤4)(h3:1≤x)(h4:x≤1000):aO ([],[(i,x,())],())=true:=
 (aV _).2 ⟨(fun x hx=>by cases hx),List.Pairwise.nil,fun f hf=>by rw[List.mem_singleton.1 hf];exact⟨by unfold dY;rw[aS];exact⟨h1,h2⟩,by rw[aS];exact⟨h3,h4⟩⟩,List.pairwise_singleton ..⟩
theorem f349(c:dL)(h:CurOk c):∃ (s:aH) (d:dL),Ran p 5 349 [.ref ⟨K264,c⟩] ⟨[⟨K27,s⟩],[⟨K264,d⟩]⟩∧CurOk d∧StD 5 s∧aO s=true:=by
 obtain⟨x1,d1,h1,k1,a1,b1,_⟩:=f219 c 7 h
 let Good:Out→Prop:=fun o=>∃ (s:aH) (d:dL),o=⟨[⟨K27,s⟩],[⟨K264,d⟩]⟩∧CurOk d∧StD 5 s∧aO s=true
 have second:∀ (s:aH) (d d0:dL) (x:Int),0≤x→x<3→StD 5 s→aO s=true→CurOk d→∃ o,Good o∧∀ n,5 - 1≤n→It (fun aA (_:Unit)=>c349_10 (aK p n) aA (((x,()),()),(d0,()))) ((0:Int),s.1,s.2.1,d.1,d.2.1,d.2.2.1) (fun _=>some o):=by
  intro s d d0 x hx hx3 hs hp hd
  obtain⟨m,rfl⟩:∃ m:Nat,x=m:=⟨x.toNat,by omega⟩
  refine It.ex (c:=fun n aA (_:Unit)=>c349_10 (aK p n) aA ((((m:Int),()),()),(d0,()))) (fun i y=>∃ (s:aH) (d:dL),y=((i:Int),s.1,s.2.1,d.1,d.2.1,d.2.2.1)∧CurOk d∧StD 5 s∧aO s=true) Good m ?_ ?_ m 0 _ (by omega) ⟨s,d,rfl,hd,hs,hp⟩
  ·rintro i y hi ⟨s,d,rfl,hd,hs,hp⟩
   obtain⟨x7,d7,h7,k7,a7,b7,_⟩:=f219 d 5 hd
   obtain⟨x8,d8,h8,k8,a8,b8,_⟩:=f219 d7 2 k7
   have hw:i64.wrap (1+x8)=1+x8:=by have:=b8 (by omega);rw[IntKind.wrap_i64];omega
   have hq:StD 5 (([],[(x7,i64.wrap (1+x8),())],()):aH):=⟨by show 0≤5;omega,by show 1≤5;omega,fun x hx=>(List.not_mem_nil hx).elim⟩
   have h9:=f260 s ([],[(x7,i64.wrap (1+x8),())],()) (hs.sz (by omega)) (hq.sz (by omega)) ((aV _).1 hp).pos (LF (by omega))
   have ho:=MU (i:=x7) (x:=i64.wrap (1+x8)) a7 (by have:=b7 (by omega);omega) (by omega) (by have:=b8 (by omega);omega)
   refine⟨_,⟨cJ s ([],[(x7,i64.wrap (1+x8),())],()),d8,rfl,k8,ES hs hq,j8 hp ho⟩,fun n hn aA a rec=>?_⟩
   show c349_10 (aK p n) aA ((((m:Int),()),()),(d0,())) rec ((i:Int),s.1,s.2.1,d.1,d.2.1,d.2.2.1)=_
   unfold c349_10;dsimp only;rw[aL (show i<9223372036854775807 by omega)];refine(aE (show(i:Int)<(m:Int) by omega)).trans ?_;refine(aG (h7 n (by omega))).trans ?_;refine(aG (h8 n (by omega))).trans ?_;refine(aB (h9 n (by omega))).trans ?_;rfl
  ·rintro y ⟨s,d,rfl,hd,hs,hp⟩
   refine⟨_,⟨s,d,rfl,hd,hs,hp⟩,fun n hn=>It.stop fun aA a rec=>?_⟩
   show c349_10 (aK p n) aA ((((m:Int),()),()),(d0,())) rec ((m:Int),s.1,s.2.1,d.1,d.2.1,d.2.2.1)=_
   unfold c349_10;refine(aI (Int.lt_irrefl _)).trans ?_;rfl
 obtain⟨m,rfl⟩:∃ m:Nat,x1=m:=⟨x1.toNat,by omega⟩
 have hm:=b1 (by omega)
 have first:=It.ex (lvl:=5 - 1) (c:=fun n aA (_:Unit)=>c349_4 (aK p n) aA ((((m:Int),()),()),(d1,()))) (fun i y=>∃ (s:aH) (d:dL),y=((i:Int),s.1,s.2.1,d.1,d.2.1,d.2.2.1)∧CurOk d∧StD 5 s∧aO s=true) Good m (by
  rintro i y hi ⟨s,d,rfl,hd,hs,hp⟩
  obtain⟨x2,d2,h2,k2,_⟩:=f219 d 5 hd
  obtain⟨e3,d3,h3,k3,he,hi3⟩:=f374 d2 k2
  obtain⟨s4,b4,h4,q4⟩:=f373 x2 e3
  obtain⟨q5,q6⟩:=HM he hi3 q4.1
  have h5:=f260 s s4 (hs.sz (by omega)) (q5.sz (by omega)) ((aV _).1 hp).pos q6
  refine⟨_,⟨cJ s s4,d3,rfl,k3,ES hs q5,j8 hp q4.2⟩,fun n hn aA a rec=>?_⟩
  show c349_4 (aK p n) aA ((((m:Int),()),()),(d1,())) rec ((i:Int),s.1,s.2.1,d.1,d.2.1,d.2.2.1)=_
  unfold c349_4;dsimp only;rw[aL (show i<9223372036854775807 by omega)];refine(aE (show(i:Int)<(m:Int) by omega)).trans ?_;refine(aG (h2 n (by omega))).trans ?_;refine(aG (h3 n (by omega))).trans ?_;refine(wQ (h4 n (by omega))).trans ?_;refine(aB (h5 n (by omega))).trans ?_;rfl) (by
  rintro y ⟨s,d,rfl,hd,hs,hp⟩
  obtain⟨x6,d6,h6,k6,a6,b6,_⟩:=f219 d 3 hd
  obtain⟨o,ho,hL⟩:=second s d6 d6 x6 a6 (b6 (by omega)) hs hp k6
  refine⟨o,ho,fun n hn=>It.stopE (T:=fun aA _=>iter (c349_10 (aK p n) aA (((x6,()),()),(d6,()))) aA ((0:Int),s.1,s.2.1,d6.1,d6.2.1,d6.2.2.1)) (fun aA a rec=>?_) (hL n hn).all_i⟩
  show c349_4 (aK p n) aA ((((m:Int),()),()),(d1,())) rec ((m:Int),s.1,s.2.1,d.1,d.2.1,d.2.2.1)=_
  unfold c349_4;refine(aI (Int.lt_irrefl _)).trans ?_;refine(aG (h6 n (by omega))).trans ?_;rfl)
 obtain⟨o,⟨s,d,rfl,hd,hs,hp⟩,hL⟩:=first m 0 ((0:Int),[],[],d1.1,d1.2.1,d1.2.2.1) (by omega) ⟨([],[],()),d1,rfl,k1,⟨by show 0≤5;omega,by show 0≤5;omega,fun x hx=>(List.not_mem_nil hx).elim⟩,rfl⟩
 exact⟨s,d,go349 fun n hn=>Ev.eq (fun aA=>by unfold T349;refine(aG (h1 n (by omega))).trans ?_;rfl) ((hL n (by omega)).ev (i:=()) rfl),hd,hs,hp⟩
theorem f308(c:dL)(h:CurOk c):∃ (s:aH) (d:dL),Ran p 6 308 [.ref ⟨K264,c⟩] ⟨[⟨K27,s⟩],[⟨K264,d⟩]⟩∧CurOk d∧StD 6 s:=by
 obtain⟨s,d1,h1,k1,hs,hp⟩:=f349 c h
 obtain⟨x2,d2,h2,k2,_⟩:=f219 d1 14 k1
 have hs6:StD 6 s:=⟨Nat.le_trans hs.a (by omega),Nat.le_trans hs.b (by omega),hs.data⟩
 have ha:=hs.a
 have hb:=hs.b
 cases q0:x2==0 with
 | true=>
  obtain⟨x3,d3,h3,k3,_⟩:=f219 d2 7 k2
  obtain⟨e4,d4,h4,k4,he⟩:=f352 d3 k3
  refine⟨(s.1++[(i64.wrap (x3 - 1),e4)],s.2.1,()),d4,go308 fun n hn=>Ev.now fun aA=>?_,k4,⟨by show(s.1++_).length≤6;simp;omega,hs6.b,fun x hx=>?_⟩⟩
  ·unfold T308;refine(aG (h1 n (by omega))).trans ?_;refine(aG (h2 n (by omega))).trans ?_;refine(aN q0).trans ?_;refine(aG (h3 n (by omega))).trans ?_;refine(aG (h4 n (by omega))).trans ?_;refine(aE (show s.1.length+1≤bound by unfold bound;omega)).trans ?_;rfl
  ·rcases List.mem_append.1 hx with hx | hx
   ·exact hs.data x hx
   ·rcases List.mem_singleton.1 hx with rfl;exact he
 | false=>
 cases q1:x2==1 with
 | true=>
  obtain⟨x3,d3,h3,k3,_⟩:=f219 d2 7 k2
  obtain⟨x4,d4,h4,k4,_⟩:=f249 d3 [((0:Int),()),((1:Int),()),((5:Int),()),((1001:Int),())] k3 (by show 0<4;omega)
  refine⟨(s.1,s.2.1++[(i64.wrap (x3 - 1),x4,())],()),d4,go308 fun n hn=>Ev.now fun aA=>?_,k4,⟨hs6.a,by show(s.2.1++_).length≤6;simp;omega,hs.data⟩⟩
  unfold T308;refine(aG (h1 n (by omega))).trans ?_;refine(aG (h2 n (by omega))).trans ?_;refine(aF q0).trans ?_;refine(aN q1).trans ?_;refine(aG (h3 n (by omega))).trans ?_;refine(aG (h4 n (by omega))).trans ?_;refine(aE (show s.2.1.length+1≤bound by unfold bound;omega)).trans ?_;rfl
 | false=>
 cases q2:x2==2 with
 | true=>
  by_cases hl:((s.1.length:Nat):Int)>0
  ·obtain⟨x3,d3,h3,k3,a3,b3,_⟩:=f219 d2 ((s.1.length:Nat):Int) k2
   obtain⟨e4,d4,h4,k4,he⟩:=f352 d3 k3
   have b3':=b3 (by omega)
   obtain⟨i,rfl⟩:∃ i:Nat,x3=i:=⟨x3.toNat,by omega⟩
   have hi:i<s.1.length:=by omega
   refine⟨(List.set s.1 i ((gt s.1 i).1,e4),s.2.1,()),d4,go308 fun n hn=>Ev.now fun aA=>?_,k4,⟨by show(List.set s.1 i _).length≤6;simp;omega,hs6.b,fun x hx=>?_⟩⟩
   ·unfold T308;refine(aG (h1 n (by omega))).trans ?_;refine(aG (h2 n (by omega))).trans ?_;refine(aF q0).trans ?_;refine(aF q1).trans ?_;refine(aN q2).trans ?_;refine(aE hl).trans ?_;refine(aG (h3 n (by omega))).trans ?_;refine(aG (h4 n (by omega))).trans ?_;refine bif_nn.trans ?_;refine(aJ hi).trans ?_;refine(aJ hi).trans ?_;rfl
   ·rcases List.mem_or_eq_of_mem_set hx with hx | rfl
    ·exact hs.data x hx
    ·exact he
  ·refine⟨s,d2,go308 fun n hn=>Ev.now fun aA=>?_,k2,hs6⟩
   unfold T308;refine(aG (h1 n (by omega))).trans ?_;refine(aG (h2 n (by omega))).trans ?_;refine(aF q0).trans ?_;refine(aF q1).trans ?_;refine(aN q2).trans ?_;refine(aI hl).trans ?_;rfl
 | false=>
 cases q3:x2==3 with
 | true=>
  by_cases hl:((s.1.length:Nat):Int)>1
  ·have hi1:1<s.1.length:=by omega
   have hi0:0<s.1.length:=by omega
   refine⟨(List.set s.1 0 (gt s.1 1),s.2.1,()),d2,go308 fun n hn=>Ev.now fun aA=>?_,k2,⟨by show(List.set s.1 0 _).length≤6;simp;omega,hs6.b,fun x hx=>?_⟩⟩
   ·unfold T308;refine(aG (h1 n (by omega))).trans ?_;refine(aG (h2 n (by omega))).trans ?_;refine(aF q0).trans ?_;refine(aF q1).trans ?_;refine(aF q2).trans ?_;refine(aN q3).trans ?_;refine(aE hl).trans ?_;refine(aE (by decide)).trans ?_;refine(aJ (i:=1) hi1).trans ?_;refine(aJ (i:=1) hi1).trans ?_;refine(aE (by decide)).trans ?_;refine(aJ (i:=0) hi0).trans ?_;refine(aJ (i:=0) hi0).trans ?_;rfl
   ·rcases List.mem_or_eq_of_mem_set hx with hx | rfl
    ·exact hs.data x hx
    ·rw[cV hi1];exact hs.data _ (List.getElem_mem hi1)
  ·refine⟨s,d2,go308 fun n hn=>Ev.now fun aA=>?_,k2,hs6⟩
   unfold T308;refine(aG (h1 n (by omega))).trans ?_;refine(aG (h2 n (by omega))).trans ?_;refine(aF q0).trans ?_;refine(aF q1).trans ?_;refine(aF q2).trans ?_;refine(aN q3).trans ?_;refine(aI hl).trans ?_;rfl
 | false=>
  refine⟨s,d2,go308 fun n hn=>Ev.now fun aA=>?_,k2,hs6⟩
  unfold T308;refine(aG (h1 n (by omega))).trans ?_;refine(aG (h2 n (by omega))).trans ?_;refine(aF q0).trans ?_;refine(aF q1).trans ?_;refine(aF q2).trans ?_;refine(aF q3).trans ?_;rfl
end Go.Abs.Xz
