/- What the functions of this program answer, part dg. -/
import Derived.Test.YtmamlgjbendjhaaGreatXdf
import Derived.Test.YtmamlgjbendjhaaGreatXdb
set_option linter.unusedVariables false
namespace Go.Abs.Xz
open Go Go.Abs
-- tables drawn
structure TabD (t:List bQ):Prop where
 len:t.length≤5
 row:∀ i,i<t.length→(gt t i).1.length≤5
theorem TabD.sz{t:List bQ}(h:TabD t):t.length≤aU∧∀ i,i<t.length→(gt t i).1.length≤aU:=
 ⟨by have:=h.len;unfold aU;omega,fun i hi=>by have:=h.row i hi;unfold aU;omega⟩
structure TabN (n:Nat) (t:List bQ):Prop where
 len:t.length=n
 row:∀ i,i<n→(gt t i).1.length=5
theorem TabN.d{n:Nat}{t:List bQ}(h:TabN n t)(hn:n≤5):TabD t:=⟨by rw[h.len];exact hn,fun i hi=>by rw[h.row i (by rw[← h.len];exact hi)];exact Nat.le_refl _⟩
theorem TabN.add{n:Nat}{t:List bQ}(h:TabN n t)(k:Int)(ms:List aR):TabN n (bB t k ms):=⟨by rw[cU];exact h.len,fun i hi=>by rw[eN];exact h.row i hi⟩
theorem AC{n:Nat}(h1:1≤n)(h5:n≤5):TabN n (dI (n:Int)):=by
 have hb:inB (n:Int) 1 5=true:=by rw[aS];omega
 refine⟨?_,fun i hi=>?_⟩
 ·unfold dI;rw[hb];show(List.replicate _ _).length=n;rw[List.length_replicate];omega
 ·have hl:i<(dI (n:Int)).length:=by unfold dI;rw[hb];show i<(List.replicate _ _).length;rw[List.length_replicate];omega
  rw[lU hb hl];rfl
theorem f307(c:dL)(h:CurOk c):∃ (t:List bQ) (d:dL),Ran p 7 307 [.ref ⟨K264,c⟩] ⟨[⟨K34,(t,())⟩],[⟨K264,d⟩]⟩∧CurOk d∧TabD t:=by
 obtain⟨x1,d1,h1,k1,a1,b1,_⟩:=f219 c 4 h
 obtain⟨m,rfl⟩:∃ m:Nat,x1=m:=⟨x1.toNat,by omega⟩
 have hm:=b1 (by omega)
 have hw:IntKind.i64.wrap (1+(m:Int))=((m+1:Nat):Int):=by rw[IntKind.wrap_i64];omega
 let Good:Out→Prop:=fun o=>∃ (t:List bQ) (d:dL),o=⟨[⟨K34,(t,())⟩],[⟨K264,d⟩]⟩∧CurOk d∧TabD t
 have lp:=It.ex (lvl:=7 - 1) (c:=fun n aA (_:Unit)=>c307_10004 (aK p n) aA ((((m:Int),()),()),(d1,()))) (fun i y=>∃ (t:List bQ) (d:dL),y=((i:Int),d.1,d.2.1,d.2.2.1,t)∧CurOk d∧TabN (m+1) t) Good (m+1) (by
  rintro i y hi ⟨t,d,rfl,hd,ht⟩
  obtain⟨s,d3,h3,k3,hs,_⟩:=f349 d hd
  have h4:=f234 s (hs.sz (by omega))
  have hz:=(ht.d (by omega)).sz
  have h5:=f257 t (i:Int) (cB s) hz.1 hz.2 (Nat.le_trans (dZ s) (by decide))
  refine⟨_,⟨bB t (i:Int) (cB s),d3,rfl,k3,ht.add _ _⟩,fun n hn aA a rec=>?_⟩
  show c307_10004 (aK p n) aA ((((m:Int),()),()),(d1,())) rec ((i:Int),d.1,d.2.1,d.2.2.1,t)=_
  unfold c307_10004;dsimp only;rw[aL (show i<9223372036854775807 by omega)];refine(aE (show(i:Int)<IntKind.i64.wrap (1+(m:Int)) by rw[hw];omega)).trans ?_;refine(aG (h3 n (by omega))).trans ?_;refine(aB (h4 n (by omega))).trans ?_;refine(aB (h5 n (by omega))).trans ?_;rfl) (by
  rintro y ⟨t,d,rfl,hd,ht⟩
  obtain⟨x6,d6,h6,k6,_⟩:=f219 d 12 hd
  have hl:0<t.length:=by rw[ht.len];omega
  have h0:(gt t 0).1.length=5:=ht.row 0 (by omega)
  have hT:=ht.d (show m+1≤5 by omega)
  have un:∀ n,7 - 1≤n→∀ {o:Option Out},(∀ aA rec,c307_10004 (aK p n) aA ((((m:Int),()),()),(d1,())) rec (((m+1:Nat):Int),d.1,d.2.1,d.2.2.1,t)=o)→It (fun aA (_:Unit)=>c307_10004 (aK p n) aA ((((m:Int),()),()),(d1,()))) (((m+1:Nat):Int),d.1,d.2.1,d.2.2.1,t) (fun _=>o):=fun n hn o ho=>It.stop fun aA a rec=>ho aA rec
  have en:¬ (((m+1:Nat):Int)<IntKind.i64.wrap (1+(m:Int))):=by rw[hw];omega
  cases q0:x6==0 with
  | true=>
   refine⟨_,⟨t.set 0 (((gt t 0).1.take ((3:Int)).toNat).drop 0,(gt t 0).2),d6,rfl,k6,⟨by rw[List.length_set];exact hT.len,fun i hi=>?_⟩⟩,fun n hn=>un n hn fun aA rec=>?_⟩
   ·rw[List.length_set] at hi
    by_cases e:0=i
    ·rw[← e,cC hl];show(((gt t 0).1.take 3).drop 0).length≤5;rw[List.drop_zero,List.length_take];omega
    ·rw[eC e];exact hT.row i hi
   ·unfold c307_10004;refine(aI en).trans ?_;refine(aG (h6 n (by omega))).trans ?_;refine(aN q0).trans ?_;refine(aE (show(0:Int)≤0 by omega)).trans ?_;refine(aZ hl).trans ?_;refine(aZ hl).trans ?_
    refine(n4 (show(0:Int)≤3 by omega) (show(3:Int)≤(((gt t 0).1.length:Nat):Int) by rw[h0];omega)).trans ?_;refine(aE (show(0:Int)≤0 by omega)).trans ?_;refine(aZ hl).trans ?_;refine(aZ hl).trans ?_;rfl
  | false=>
  cases q1:x6==1 with
  | true=>
   obtain⟨x7,d7,h7,k7,_⟩:=f249 d6 [((-1:Int),()),((1001:Int),())] k6 (by show 0<2;omega)
   have h00:0<(gt t 0).1.length:=by omega
   refine⟨_,⟨t.set 0 ((gt t 0).1.set 0 (x7,(gt (gt t 0).1 0).2),(gt t 0).2),d7,rfl,k7,⟨by rw[List.length_set];exact hT.len,fun i hi=>?_⟩⟩,fun n hn=>un n hn fun aA rec=>?_⟩
   ·rw[List.length_set] at hi
    by_cases e:0=i
    ·rw[← e,cC hl];show((gt t 0).1.set 0 _).length≤5;rw[List.length_set];omega
    ·rw[eC e];exact hT.row i hi
   ·unfold c307_10004;refine(aI en).trans ?_;refine(aG (h6 n (by omega))).trans ?_;refine(aF q0).trans ?_;refine(aN q1).trans ?_;refine(aE (show(0:Int)≤0 by omega)).trans ?_;refine(aZ hl).trans ?_;refine(aZ hl).trans ?_;refine(aG (h7 n (by omega))).trans ?_;refine(aE (show(0:Int)≤0 by omega)).trans ?_;refine(aZ hl).trans ?_;refine(aZ h00).trans ?_;refine(aZ hl).trans ?_;refine(aZ h00).trans ?_;rfl
  | false=>
  cases q2:x6==2 with
  | true=>
   refine⟨_,⟨[],d6,rfl,k6,⟨Nat.zero_le _,fun i hi=>absurd hi (Nat.not_lt_zero _)⟩⟩,fun n hn=>un n hn fun aA rec=>?_⟩
   unfold c307_10004;refine(aI en).trans ?_;refine(aG (h6 n (by omega))).trans ?_;refine(aF q0).trans ?_;refine(aF q1).trans ?_;refine(aN q2).trans ?_;rfl
  | false=>
   refine⟨_,⟨t,d6,rfl,k6,hT⟩,fun n hn=>un n hn fun aA rec=>?_⟩
   unfold c307_10004;refine(aI en).trans ?_;refine(aG (h6 n (by omega))).trans ?_;refine(aF q0).trans ?_;refine(aF q1).trans ?_;refine(aF q2).trans ?_;rfl)
 have h2:=f372 ((m+1:Nat):Int)
 obtain⟨o,⟨t,d,rfl,hd,ht⟩,hL⟩:=lp (m+1) 0 ((0:Int),d1.1,d1.2.1,d1.2.2.1,dI ((m+1:Nat):Int)) (by omega) ⟨dI ((m+1:Nat):Int),d1,rfl,k1,AC (by omega) (by omega)⟩
 exact⟨t,d,go307 fun n hn=>Ev.eq (fun aA=>by unfold T307;refine(aG (h1 n (by omega))).trans ?_;rw[← hw] at h2;refine(aB (h2 n (by omega))).trans ?_;rw[hw]) ((hL n (by omega)).ev (i:=()) rfl),hd,ht⟩
-- logs drawn
structure LogD (k:Nat) (l:fA):Prop where
 len:l.2.2.1.length≤k
 st:∀ s∈l.2.2.1,SzS s
theorem LogD.sz{k:Nat}{l:fA}(h:LogD k l)(hk:k≤1048576):l.2.2.1.length≤aU∧∀ i,i<l.2.2.1.length→SzS (gt l.2.2.1 i):=
 ⟨Nat.le_trans h.len hk,fun i hi=>h.st _ (c6 hi)⟩
theorem LogD.add{k:Nat}{l:fA}(h:LogD k l){d:aH}(hd:SzS d):LogD (k+1) (pM l d).1:=by
 unfold pM
 cases mX l d with
 | false=>exact⟨Nat.le_succ_of_le h.len,h.st⟩
 | true=>
  refine⟨Nat.le_trans (C7 l d) (Nat.succ_le_succ h.len),fun s hs=>?_⟩
  have key:s∈l.2.2.1++[d]:=by
   have hs:s∈(fT l d).2.2.1:=hs
   unfold fT at hs
   cases hc:decide ((((l.2.2.1++[d]).length:Nat):Int)>l.1)with
   | true=>rw[hc] at hs;exact List.mem_of_mem_drop hs
   | false=>rw[hc] at hs;exact hs
  rcases List.mem_append.1 key with hs | hs
  ·exact h.st s hs
  ·rw[List.mem_singleton.1 hs];exact hd
theorem f353(c:dL)(h:CurOk c):∃ (l:fA) (d:dL),Ran p 6 353 [.ref ⟨K264,c⟩] ⟨[⟨K33,l⟩],[⟨K264,d⟩]⟩∧CurOk d∧LogD 6 l:=by
 obtain⟨x1,d1,h1,k1,_⟩:=f249 c [((1:Int),()),((2:Int),()),((4:Int),()),((8:Int),())] h (by show 0<4;omega)
 obtain⟨x2,d2,h2,k2,_⟩:=f249 d1 [((0:Int),()),((0:Int),()),((5:Int),()),((99990:Int),())] k1 (by show 0<4;omega)
 obtain⟨x3,d3,h3,k3,a3,b3,_⟩:=f219 d2 6 k2
 obtain⟨m,rfl⟩:∃ m:Nat,x3=m:=⟨x3.toNat,by omega⟩
 have hm:=b3 (by omega)
 let Good:Out→Prop:=fun o=>∃ (l:fA) (d:dL),o=⟨[⟨K33,l⟩],[⟨K264,d⟩]⟩∧CurOk d∧LogD 6 l
 have lp:=It.ex (lvl:=6 - 1) (c:=fun n aA (_:Unit)=>c353_4 (aK p n) aA ((((m:Int),()),()),(d3,()))) (fun i y=>∃ (l:fA) (d:dL),y=((i:Int),l.1,l.2.1,l.2.2.1,d.1,d.2.1,d.2.2.1)∧CurOk d∧LogD i l) Good m (by
  rintro i y hi ⟨l,d,rfl,hd,hl⟩
  obtain⟨x4,d4,h4,k4,_⟩:=f219 d 5 hd
  obtain⟨e5,d5,h5,k5,_,_⟩:=f374 d4 k4
  obtain⟨b6,h6⟩:=u9 x4 e5
  have hz:=hl.sz (by omega)
  have ho:=pG (qX x4 e5)
  have h7:=f345 l (vO x4 e5) hz.1 hz.2 ho
  refine⟨_,⟨(pM l (vO x4 e5)).1,d5,rfl,k5,hl.add ho⟩,fun n hn aA a rec=>?_⟩
  show c353_4 (aK p n) aA ((((m:Int),()),()),(d3,())) rec ((i:Int),l.1,l.2.1,l.2.2.1,d.1,d.2.1,d.2.2.1)=_
  unfold c353_4;dsimp only;rw[aL (show i<9223372036854775807 by omega)];refine(aE (show(i:Int)<(m:Int) by omega)).trans ?_;refine(aG (h4 n (by omega))).trans ?_;refine(aG (h5 n (by omega))).trans ?_;refine(wQ (h6 n (by omega))).trans ?_;refine(wQ (h7 n (by omega))).trans ?_;rfl) (by
  rintro y ⟨l,d,rfl,hd,hl⟩
  refine⟨_,⟨l,d,rfl,hd,⟨Nat.le_trans hl.len (by omega),hl.st⟩⟩,fun n hn=>It.stop fun aA a rec=>?_⟩
  show c353_4 (aK p n) aA ((((m:Int),()),()),(d3,())) rec ((m:Int),l.1,l.2.1,l.2.2.1,d.1,d.2.1,d.2.2.1)=_
  unfold c353_4;refine(aI (Int.lt_irrefl _)).trans ?_;rfl)
 obtain⟨o,⟨l,d,rfl,hd,hl⟩,hL⟩:=lp m 0 ((0:Int),x1,x2,[],d3.1,d3.2.1,d3.2.2.1) (by omega) ⟨(x1,x2,[],()),d3,rfl,k3,⟨Nat.le_refl _,fun s hs=>by cases hs⟩⟩
 exact⟨l,d,go353 fun n hn=>Ev.eq (fun aA=>by unfold T353;refine(aG (h1 n (by omega))).trans ?_;refine(aG (h2 n (by omega))).trans ?_;refine(aG (h3 n (by omega))).trans ?_;rfl) ((hL n (by omega)).ev (i:=()) rfl),hd,hl⟩
theorem f309(c:dL)(h:CurOk c):∃ (l:fA) (d:dL),Ran p 7 309 [.ref ⟨K264,c⟩] ⟨[⟨K33,l⟩],[⟨K264,d⟩]⟩∧CurOk d∧LogD 7 l:=by
 obtain⟨l,d1,h1,k1,hl⟩:=f353 c h
 obtain⟨x2,d2,h2,k2,_⟩:=f219 d1 12 k1
 have hl7:LogD 7 l:=⟨Nat.le_succ_of_le hl.len,hl.st⟩
 cases q0:x2==0 with
 | true=>
  obtain⟨x3,d3,h3,k3,_⟩:=f249 d2 [((0:Int),()),((9:Int),()),((1:Int),())] k2 (by show 0<3;omega)
  exact⟨(x3,l.2.1,l.2.2.1,()),d3,go309 fun n hn=>Ev.now fun aA=>by unfold T309;refine(aG (h1 n (by omega))).trans ?_;refine(aG (h2 n (by omega))).trans ?_;refine(aN q0).trans ?_;refine(aG (h3 n (by omega))).trans ?_;rfl,k3,⟨hl7.len,hl7.st⟩⟩
 | false=>
 cases q1:x2==1 with
 | true=>
  obtain⟨x3,d3,h3,k3,_⟩:=f249 d2 [((-1:Int),()),((100000:Int),()),((9223372036854775807:Int),())] k2 (by show 0<3;omega)
  exact⟨(l.1,x3,l.2.2.1,()),d3,go309 fun n hn=>Ev.now fun aA=>by unfold T309;refine(aG (h1 n (by omega))).trans ?_;refine(aG (h2 n (by omega))).trans ?_;refine(aF q0).trans ?_;refine(aN q1).trans ?_;refine(aG (h3 n (by omega))).trans ?_;rfl,k3,⟨hl7.len,hl7.st⟩⟩
 | false=>
 cases q2:x2==2 with
 | true=>
  obtain⟨s,d3,h3,k3,hs⟩:=f308 d2 k2
  have hb:l.2.2.1.length+1≤bound:=by have:=hl.len;unfold bound;omega
  refine⟨(l.1,l.2.1,l.2.2.1++[s],()),d3,go309 fun n hn=>Ev.now fun aA=>by unfold T309;refine(aG (h1 n (by omega))).trans ?_;refine(aG (h2 n (by omega))).trans ?_;refine(aF q0).trans ?_;refine(aF q1).trans ?_;refine(aN q2).trans ?_;refine(aG (h3 n (by omega))).trans ?_;refine(aE hb).trans ?_;rfl,k3,⟨?_,fun r hr=>?_⟩⟩
  ·show(l.2.2.1++[s]).length≤7;rw[List.length_append,List.length_singleton];have:=hl.len;omega
  ·rcases List.mem_append.1 hr with hr | hr
   ·exact hl.st r hr
   ·rw[List.mem_singleton.1 hr];exact hs.sz (by omega)
 | false=>exact⟨l,d2,go309 fun n hn=>Ev.now fun aA=>by unfold T309;refine(aG (h1 n (by omega))).trans ?_;refine(aG (h2 n (by omega))).trans ?_;refine(aF q0).trans ?_;refine(aF q1).trans ?_;refine(aF q2).trans ?_;rfl,k2,hl7⟩
end Go.Abs.Xz
