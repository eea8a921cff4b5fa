/- A by-value reading of the model, and its soundness, part 3. -/
import Derived.Test.YthhpkmbhjghidaaGreatW2
set_option linter.unusedVariables false
set_option maxHeartbeats 2000000
/- Plain laws: draws. -/
open Go.IntKind (i64)
namespace Go.Abs
abbrev eJ:=List aH×Int×Int×Unit
structure CurOk (c:eJ):Prop where
 len:c.1.length<=1048576
 lo:0<=c.2.1
 hi:c.2.1<=c.1.length
theorem zC(a:Int):0<=p5 .i64 a 255/\p5 .i64 a 255<=255:=by
 unfold p5
 have h:(BitVec.ofInt i64.bits a&&& BitVec.ofInt i64.bits 255).toNat<=255:=by
  rw[BitVec.toNat_and];exact Nat.le_trans Nat.and_le_right (by decide)
 generalize (BitVec.ofInt i64.bits a&&& BitVec.ofInt i64.bits 255).toNat=m at h
 have e:i64.wrap (m:Int)=m:=by rw[IntKind.wrap_i64];omega
 rw[e];omega
theorem uG{x n:Int}(hx:0<=x)(hn:0<n):0<=x.tmod n/\x.tmod n<n:=by
 rw[Int.tmod_eq_emod_of_nonneg hx]
 exact⟨Int.emod_nonneg _ (by omega),Int.emod_lt_of_pos _ hn⟩
theorem QQ{β:Type}{o:Option Out}{A B:List Kd}{r:Row A}{s:Row B}{f:Rows [A]×Rows [B]->Option β}(h:o=some ⟨[⟨A,r⟩],[⟨B,s⟩]⟩):(o.bind (cL [A] [B])).bind f=f ((r,()),(s,())):=by
 rw[h];simp[cL,fA,jT];rfl
theorem BE{β:Type}{o:Option Out}{A B:List Kd}{r:Row A}{s:Row B}{f:Rows [A,B]×Rows []->Option β}(h:o=some ⟨[⟨A,r⟩,⟨B,s⟩],[]⟩):(o.bind (cL [A,B] [])).bind f=f ((r,s,()),()):=by
 rw[h];simp[cL,fA,jT];rfl
/-- A loop whose rounds are told by what they keep. -/
theorem It.ex {ι σ:Type} {lvl:Nat} {c:Nat->Nat->ι->(σ->Option Out)->σ->Option Out} (Inv:Nat->σ->Prop) (Good:Out->Prop) (N:Nat)
  (hs:∀ i x,i<N->Inv i x->∃ y,Inv (i+1) y/\∀ n,lvl<=n->∀ aA a rec,c n aA a rec x=rec y)
  (he:∀ x,Inv N x->∃ o,Good o/\∀ n,lvl<=n->It (c n) x (λ_=>some o)):∀ (m j:Nat) x,j+m=N->Inv j x->∃ o,Good o/\∀ n,lvl<=n->It (c n) x (λ_=>some o)
 | 0,j,x,hj,hx=>he x ((show j=N by omega)▸hx)
 | m+1,j,x,hj,hx=>by
  obtain⟨y,hy,h⟩:=hs j x (by omega) hx
  obtain⟨o,ho,h'⟩:=It.ex Inv Good N hs he m (j+1) y (by omega) hy
  exact⟨o,ho,λn hn=>It.next (λaA a rec=>h n hn aA a rec) (h' n hn)⟩
def datas:List ByteArray:=[⟨#[]⟩,⟨#[97]⟩,⟨#[98]⟩,⟨#[97,98]⟩,⟨#[49,50,51,52,53,54,55,56]⟩,⟨#[49,50,51,52,53,54,55,56,57]⟩]
def Q7(e:bA):Prop:=e.2.2.2.2.1∈datas
structure StD (k:Nat) (s:aE):Prop where
 a:s.1.length<=k
 b:s.2.1.length<=k
 data:∀ x∈s.1,Q7 x.2
theorem StD.sz{k:Nat}{s:aE}(h:StD k s)(hk:k<=1048576):SzS s:=⟨Nat.le_trans h.a hk,Nat.le_trans h.b hk⟩
theorem Q8:Q7 dN:=List.mem_cons_self ..
theorem yE{P:bA->Prop}(hz:P dN){s:aE}(hs:∀ x∈s.1,P x.2)(i:Int):P (a9 s i).1:=by
 unfold a9
 cases h:(List.range s.1.length).find? (λj=>(gt s.1 j).1==i)with
 | none=>omega
 | some j=>
  have hj:=List.mem_range.1 (List.mem_of_find?_eq_some h)
  show P (gt s.1 j).2
  rw[cU hj];grind
theorem jU{α:Type}{n:Nat}{g:Nat->List α}{x:α}(h:x∈bW n g):∃ i,i<n/\x∈g i:=by
 induction n with
 | zero=>exact(List.not_mem_nil h).elim
 | succ n ih=>
  rw[eB] at h
  grind
theorem MF{P:bA->Prop}(hz:P dN){a b:aE}(ha:∀ x∈a.1,P x.2)(hb:∀ x∈b.1,P x.2):∀ x∈(c9 a b).1,P x.2:=by
 intro x hx
 obtain⟨i,_,hi⟩:=jU hx
 unfold eH at hi
 cases hc:decide ((eU a b (i:Int)).1>flr a b (i:Int))with
 | false=>rw[hc] at hi;simp_all
 | true=>
  rw[hc] at hi
  have e:x=((i:Int),eU a b (i:Int)):=List.mem_singleton.1 hi
  subst e
  show P (eU a b (i:Int))
  unfold eU mxE
  cases decide (jL (a9 a (i:Int)).1 (a9 b (i:Int)).1<0)
  ·exact yE hz ha _
  ·exact yE hz hb _
theorem KE{j k:Nat}{a b:aE}(ha:StD j a)(hb:StD k b):StD 5 (c9 a b):=⟨(lQ a b).1,(lQ a b).2,MF Q8 ha.data hb.data⟩
theorem GF{β:Type}{A B:Prop}[Decidable A][Decidable B]{X R:β}(h:¬ A\/¬ B):(bif decide A then(bif decide B then X else R)else R)=R:=by
 grind
/-- The loop of a new cursor, and what comes behind it. -/
theorem It.new {lvl:Nat} {c:Nat->Nat->Unit->(Int×Int->Option Out)->Int×Int->Option Out} (Good:Out->Prop) (b:List aH) (hb:b.length<=1048576)
  (hs:∀ (i:Nat) (h:Int),i<b.length->i<4000->∃ h',∀ n,lvl<=n->∀ aA a rec,c n aA a rec (h,(i:Int))=rec (h',((i+1:Nat):Int)))
  (he:∀ (h i:Int),CurOk (b,0,h,())->(¬ i<(b.length:Int)\/¬ i<4000)->∃ o,Good o/\∀ n,lvl<=n->∃ M,∀ aA,M<=aA->∀ a rec,c n aA a rec (h,i)=some o) (h0:Int):
  ∃ o,Good o/\∀ n,lvl<=n->It (c n) (h0,(0:Int)) (λ_=>some o):=by
 refine It.ex (λi y=>∃ h,y=(h,(i:Int))) Good (min b.length 4000) ?_ ?_ (min b.length 4000) 0 (h0,(0:Int)) (by omega) ⟨h0,rfl⟩
 ·rintro i y hi ⟨h,rfl⟩
  obtain⟨h',hh⟩:=hs i h (by omega) (by omega)
  exact⟨_,⟨h',rfl⟩,hh⟩
 ·rintro y ⟨h,rfl⟩
  obtain⟨o,ho,hh⟩:=he h ((min b.length 4000:Nat):Int) ⟨hb,by simp,by simp⟩ (by omega)
  refine⟨o,ho,λn hn=>?_⟩
  obtain⟨M,hM⟩:=hh n hn
  refine⟨M+1,λaA k hf hk a=>?_⟩
  obtain⟨k,rfl⟩:∃ k',k=k'+1:=⟨k - 1,by omega⟩
  exact hM aA (by omega) a _
end Go.Abs
-- marks, tables, taking and receiving: plain laws
namespace Go.Abs
abbrev MsgT:=Int×Int×Int×Int×Int×List aH×Int×List aH×List aH×List bE×List aO×List aO×Unit
abbrev MsgT.hi(m:MsgT):Int:=m.2.2.2.2.1
abbrev MsgT.tree(m:MsgT):kS:=(m.2.2.2.2.2.1,m.2.2.2.2.2.2.1,())
abbrev MsgT.vec(m:MsgT):List aH:=m.2.2.2.2.2.2.2.1
abbrev MsgT.leaves(m:MsgT):List aH:=m.2.2.2.2.2.2.2.2.1
abbrev MsgT.part(m:MsgT):aE:=(m.2.2.2.2.2.2.2.2.2.1,m.2.2.2.2.2.2.2.2.2.2.1,())
abbrev MsgT.marks(m:MsgT):List aO:=m.2.2.2.2.2.2.2.2.2.2.2.1
structure SzM (m:MsgT):Prop where
 leaves:m.tree.1.length<=aP
 vec:m.vec.length<=aP
 list:m.leaves.length<=aP
 part:SzS m.part
 marks:m.marks.length<=aP
theorem sQ(a b:Int):mxI true a b=max a b:=by unfold mxI;grind
theorem F1(a b:Int):mxI false a b=min a b:=by unfold mxI;grind
-- lists in order
theorem sK{α:Type}{k:α->Int}{g:Nat->List α}(h1:∀ i,(g i).length<=1)(h:∀ i,∀ x∈g i,k x=(i:Int)):∀ n,(bW n g).Pairwise (λx y=>k x<k y)
 | 0=>by rw[xA];simp
 | n+1=>by
  rw[eB,List.pairwise_append]
  refine⟨sK h1 h n,?_,λx hx y hy=>?_⟩
  ·match hg:g n with
   | []=>simp
   | [x]=>simp
   | x::y::t=>grind
  ·obtain⟨i,hi,hx⟩:=jU hx
   rw[h i x hx,h n y hy];omega
theorem pN{s:aE}(h:StateOk s)(i:Int):0<=cK s.2.1 i/\cK s.2.1 i<=1000:=by
 rcases eO s i with ⟨x,hx,_,e⟩ | ⟨_,e⟩
 ·have:=(h.floor x hx).2;rw[aM] at this;rw[e];omega
 omega
theorem tT{s:aE}(h:StateOk s)(i:Int):(a9 s i).1=dN\/eA (a9 s i).1=true:=by
 rcases gG s i with ⟨x,hx,_,e⟩ | ⟨_,e⟩
 ·rw[e];exact .inr (h.item x hx).2.1
 simp_all
theorem OT{a b:aE}(ha:StateOk a)(hb:StateOk b)(i:Int):eU a b i=dN\/eA (eU a b i)=true:=by
 unfold eU mxE
 cases decide (jL (a9 a i).1 (a9 b i).1<0)with
 | true=>exact tT hb i
 | false=>exact tT ha i
theorem P8{a b:aE}(ha:StateOk a)(hb:StateOk b)(i:Int):0<=flr a b i/\flr a b i<=1000:=by
 have h1:=pN ha i
 have h2:=pN hb i
 unfold flr;rw[sQ];omega
theorem wG{a b:aE}{i:Nat}{x:bE}(h:x∈eH a b i):x=((i:Int),eU a b i)/\(eU a b i).1>flr a b i:=by
 unfold eH at h
 grind
theorem pL{a b:aE}{i:Nat}{x:aO}(h:x∈eN a b i):x=((i:Int),flr a b i,())/\flr a b i>0:=by
 unfold eN at h
 grind
theorem EB{i:Nat}(h:i<5):eF (i:Int)=true:=by unfold eF;rw[aM];omega
theorem StateOk.join{a b:aE}(ha:StateOk a)(hb:StateOk b):StateOk (c9 a b) where
 item x hx:=by
  obtain⟨i,hi,hx⟩:=jU hx
  obtain⟨rfl,hg⟩:=wG hx
  have hf:=P8 ha hb (i:Int)
  refine⟨EB hi,?_,?_⟩
  ·rcases OT ha hb (i:Int)with e | e
   ·rw[e] at hg;have h0:(0:Int)>flr a b i:=hg;omega
   omega
  ·show cK (c9 a b).2.1 (i:Int)<(eU a b i).1
   rcases eO (c9 a b) (i:Int)with ⟨f,hf',e1,e⟩ | ⟨_,e⟩
   ·obtain⟨j,_,hf'⟩:=jU hf'
    obtain⟨rfl,_⟩:=pL hf'
    simp_all
   omega
 items:=sK (k:=λx:bE=>x.1) (wH a b) (λi x hx=>by rw[(wG hx).1]) 5
 floor f hf:=by
  obtain⟨i,hi,hf⟩:=jU hf
  obtain⟨rfl,hg⟩:=pL hf
  have:=P8 ha hb (i:Int)
  refine⟨EB hi,?_⟩
  rw[aM];grind
 floors:=sK (k:=λx:aO=>x.1) (tO a b) (λi x hx=>by rw[(pL hx).1]) 5
theorem nX{a b:aE}(ha:aL a=true)(hb:aL b=true):aL (c9 a b)=true:=
 (aN _).2 (((aN _).1 ha).join ((aN _).1 hb))
theorem y4:aL i9=true:=rfl
-- marks
def eM(ms:List aO):Bool:=bJ ms.length (fL ms)
def F7(ms:List aO):Bool:=bJ ms.length (iU ms)
theorem MA(ms:List aO):F7 ms=eM ms:=mH λi hi=>by unfold iU fL;ac_rfl
theorem AH(ms:List aO):aL ([],ms,())=eM ms:=by
 rfl
def kX(s:aE)(i:Nat):List aO:=bif decide (gone s i>0)then[((i:Int),gone s i,())] else[]
def c8(s:aE):List aO:=bW 5 (kX s)
theorem tK(s:aE)(i:Nat):(kX s i).length<=1:=by unfold kX;cases decide (gone s i>0)<;>simp
theorem fR(s:aE):(c8 s).length<=5:=dL (n:=5) (L:=1) λi _=>tK s i
theorem KH(s:aE)(i:Int):gone s i<=1000:=by
 cases hs:aL s with
 | false=>rw[PZ hs];omega
 | true=>
  have h:=(aN s).1 hs
  have hf:=pN h i
  unfold gone;rw[hs]
  show(bif(a9 s i).2 then _ else _)<=(1000:Int)
  cases h2:(a9 s i).2 with
  | false=>simp_all
  | true=>
   have he:(a9 s i).1.1<=1000/\0<=(a9 s i).1.1:=by
    rcases tT h i with e | e
    ·rw[e];show(0:Int)<=1000/\(0:Int)<=0;omega
    ·unfold eA at e;simp only[Bool.and_eq_true,aM] at e;omega
   show(bif(a9 s i).1.2.1==0 then i64.wrap ((a9 s i).1.1 - 1)else(a9 s i).1.1)<=1000
   cases (a9 s i).1.2.1==0 with
   | false=>simp_all
   | true=>show i64.wrap ((a9 s i).1.1 - 1)<=1000;rw[IntKind.wrap_i64];omega
theorem H6{s:aE}{i:Nat}{x:aO}(h:x∈kX s i):x=((i:Int),gone s i,())/\gone s i>0:=by
 unfold kX at h
 grind
theorem C2{fs:List aO}(g:Nat->List aO)(he:fs=bW 5 g)(h1:∀ i,(g i).length<=1)(h:∀ i,∀ x∈g i,x.1=(i:Int)/\1<=x.2.1/\x.2.1<=1000):StateOk ([],fs,()) where
 item x hx:=by grind
 items:=List.Pairwise.nil
 floor f hf:=by
  have hf:f∈fs:=hf
  rw[he] at hf
  obtain⟨i,hi,hf⟩:=jU hf
  obtain⟨e,h2,h3⟩:=h i f hf
  exact⟨by rw[e];exact EB hi,aM.2 ⟨h2,h3⟩⟩
 floors:=by
  show fs.Pairwise _
  rw[he];exact sK (k:=λx:aO=>x.1) h1 (λi x hx=>(h i x hx).1) 5
theorem H5(s:aE):eM (c8 s)=true:=by
 rw[<- AH]
 exact(aN _).2 (C2 (kX s) rfl (tK s) λi x hx=>by
  obtain⟨rfl,h⟩:=H6 hx
  exact⟨rfl,h,KH s i⟩)
theorem u7{ms:List aO}(h:eM ms=true){i:Nat}(hi:i<ms.length):0<=(gt ms i).1/\(gt ms i).1<=4/\1<=(gt ms i).2.1/\(gt ms i).2.1<=1000:=by
 unfold eM at h
 have:=bD.1 h i hi
 unfold fL eF at this
 simp only[Bool.and_eq_true,aM] at this
 omega
theorem L9{ms:List aO}(h:eM ms=true):ms.length<=5:=by
 rw[<- AH] at h
 exact((aN _).1 h).len.2
-- tables
def DZ(r:bM)(f:aO):bM:=(r.1.set f.1.toNat (mxI true (gt r.1 f.1.toNat).1 f.2.1,()),())
def kR(r:bM)(ms:List aO):Nat->bM
 | 0=>r
 | i+1=>DZ (kR r ms i) (gt ms i)
def pT(t:List bM)(k:Int)(ms:List aO):Bool:=inB k 0 (i64.wrap ((t.length:Int) - 1))&&(eM ms&& !decide ((((gt t k.toNat).1.length:Nat):Int)<5))
def cT(t:List bM)(k:Nat)(ms:List aO)(i:Nat):List bM:=t.set k (kR (gt t k) ms i)
def bL(t:List bM)(k:Int)(ms:List aO):List bM:=bif pT t k ms then cT t k.toNat ms ms.length else t
theorem oH(r:bM)(ms:List aO):∀ i,(kR r ms i).1.length=r.1.length
 | 0=>rfl
 | i+1=>by show(List.set _ _ _).length=_;rw[List.length_set];exact oH r ms i
theorem bX{α:Type}[Inhabited α]{xs:List α}{i:Nat}(h:i<xs.length)(x:α):gt (xs.set i x) i=x:=by
 rw[cU (by rw[List.length_set];omega)];simp
theorem dZ{α:Type}[Inhabited α]{xs:List α}{i j:Nat}(h:i≠j)(x:α):gt (xs.set i x) j=gt xs j:=by
 unfold gt;grind
theorem tB{α:Type}[Inhabited α]{xs:List α}{i:Nat}:xs.set i (gt xs i)=xs:=by
 rcases Nat.lt_or_ge i xs.length with h | h
 ·rw[cU h];simp
 ·exact List.set_eq_of_length_le h
theorem DP(t:List bM)(k:Nat)(ms:List aO):cT t k ms 0=t:=tB
theorem c7(t:List bM)(k:Int)(ms:List aO):(bL t k ms).length=t.length:=by
 unfold bL
 cases pT t k ms with
 | false=>rfl
 | true=>show(cT _ _ _ _).length=_;unfold cT;rw[List.length_set]
theorem y8{k:Int}{n:Nat}(hn:n<=aP)(h:inB k 0 (i64.wrap ((n:Int) - 1))=true):k.toNat<n/\((k.toNat:Nat):Int)=k:=by
 rw[aM,IntKind.wrap_i64] at h;omega
theorem eX(t:List bM)(k:Int)(ms:List aO)(j:Nat):((gt (bL t k ms) j).1.length)=(gt t j).1.length:=by
 unfold bL
 cases hb:pT t k ms with
 | false=>rfl
 | true=>
  show(gt (cT t k.toNat ms ms.length) j).1.length=_
  unfold cT
  rcases Nat.lt_or_ge k.toNat t.length with h | h
  ·by_cases e:k.toNat=j
   ·subst e;rw[bX h,oH]
   ·rw[dZ e]
  ·rw[List.set_eq_of_length_le h]
theorem G5{r:bM}{ms:List aO}(hm:eM ms=true)(hr:∀ j,j<r.1.length->inB (gt r.1 j).1 0 1000=true):∀ i,i<=ms.length->∀ j,j<r.1.length->inB (gt (kR r ms i).1 j).1 0 1000=true
 | 0,_,j,hj=>hr j hj
 | i+1,hi,j,hj=>by
  have ih:=G5 hm hr i (by omega)
  have hid:=u7 hm (i:=i) (by omega)
  have hl:=oH r ms i
  show inB (gt (List.set (kR r ms i).1 (gt ms i).1.toNat (mxI true (gt (kR r ms i).1 (gt ms i).1.toNat).1 (gt ms i).2.1,())) j).1 0 1000=true
  by_cases e:(gt ms i).1.toNat=j
  ·subst e
   rw[bX (by omega)]
   have:=ih _ hj
   rw[aM] at this ⊢
   show 0<=mxI true _ _/\mxI true _ _<=1000
   rw[sQ];omega
  ·rw[dZ e];simp_all
theorem p9{t:List bM}{n k:Int}{ms:List aO}(ht:gK t n=true):gK (bL t k ms) n=true:=by
 unfold gK at ht ⊢
 simp only[Bool.and_eq_true] at ht ⊢
 obtain⟨h1,h2,h3⟩:=ht
 refine⟨h1,by rw[c7];omega,?_⟩
 rw[c7]
 rw[bD] at h3 ⊢
 intro j hj
 have h4:=h3 j hj
 unfold tM at h4 ⊢
 simp only[Bool.and_eq_true] at h4 ⊢
 rw[eX]
 refine⟨h4.1,?_⟩
 have h5:=bD.1 h4.2
 rw[bD]
 intro i hi
 unfold bL
 cases hb:pT t k ms with
 | false=>simp_all
 | true=>
  show inB (gt (gt (cT t k.toNat ms ms.length) j).1 i).1 0 1000=true
  unfold cT
  by_cases e:k.toNat=j
  ·subst e
   rw[bX hj]
   have hm:eM ms=true:=by unfold pT at hb;simp_all
   exact G5 hm h5 _ (Nat.le_refl _) i hi
  ·rw[dZ e];simp_all
def vK(t:List bM)(id:Int)(k:Nat):Bool:=inB id 0 (i64.wrap ((((gt t k).1.length:Nat):Int) - 1))
def pG(t:List bM)(id:Int):Nat->Int
 | 0=>0
 | k+1=>bif(k:Int)==0 then(gt (gt t k).1 id.toNat).1 else bif decide ((gt (gt t k).1 id.toNat).1<pG t id k)then(gt (gt t k).1 id.toNat).1 else pG t id k
def hI(t:List bM)(id:Int):Int:=bif bJ t.length (vK t id)then pG t id t.length else 0
-- pruning
def i7(s:aE)(t:List bM)(i:Nat):List aO:=bif decide (mxI false (hI t i) (gone s i)>0)then[((i:Int),mxI false (hI t i) (gone s i),())] else[]
def fK(s:aE)(t:List bM):aE:=([],bW 5 (i7 s t),())
def prune(s:aE)(t:List bM):aE:=bif aL s then c9 s (fK s t)else s
theorem tF(s:aE)(t:List bM)(i:Nat):(i7 s t i).length<=1:=by unfold i7;cases decide (mxI false (hI t i) (gone s i)>0)<;>simp
theorem qZ(s:aE)(t:List bM):aL (fK s t)=true:=
 (aN _).2 (C2 (i7 s t) rfl (tF s t) λi x hx=>by
  unfold i7 at hx
  cases hd:decide (mxI false (hI t i) (gone s i)>0)with
  | false=>rw[hd] at hx;grind
  | true=>
   rw[hd] at hx
   have e:=List.mem_singleton.1 hx
   have h0:=of_decide_eq_true hd
   have hg:=KH s i
   rw[e];refine⟨rfl,h0,?_⟩
   show mxI false (hI t i) (gone s i)<=1000
   rw[F1];omega)
theorem GP(s:aE)(t:List bM):SzS (fK s t):=⟨Nat.zero_le _,Nat.le_trans (dL (n:=5) (L:=1) λi _=>tF s t i) (by decide)⟩
theorem z5{s:aE}(h:aL s=true)(t:List bM):aL (prune s t)=true:=by
 unfold prune;rw[h];exact nX h (qZ s t)
theorem OQ{s:aE}(h:SzS s)(t:List bM):SzS (prune s t):=by
 unfold prune;cases aL s with
 | false=>grind
 | true=>exact nW _ _
-- vectors
def cV(v:List aH)(k n:Int):List aH:=bif inB k 0 (i64.wrap ((v.length:Int) - 1))then v.set k.toNat (mxI true (gt v k.toNat).1 n,())else v
theorem fT(v:List aH)(k n:Int):(cV v k n).length=v.length:=by
 unfold cV;grind
theorem p6(v:List aH)(k n:Int)(j:Nat):(gt (cV v k n) j).1=(gt v j).1\/(gt (cV v k n) j).1=max (gt v j).1 n:=by
 unfold cV;cases inB k 0 (i64.wrap ((v.length:Int) - 1))with
 | false=>simp
 | true=>
  show(gt (v.set _ _) j).1=_\/(gt (v.set _ _) j).1=_
  rcases Nat.lt_or_ge k.toNat v.length with h | h
  ·by_cases e:k.toNat=j
   ·subst e;rw[bX h];exact .inr (sQ _ _)
   ·rw[dZ e];omega
  ·rw[List.set_eq_of_length_le h];omega
theorem EX(v:List aH){k n:Int}{j:Nat}(h:k.toNat≠j):gt (cV v k n) j=gt v j:=by
 unfold cV;cases inB k 0 (i64.wrap ((v.length:Int) - 1))with
 | false=>rfl
 | true=>exact dZ h _
theorem xD{v:List aH}{m k n:Int}(h:eD v m=true)(hn:n<=100000):eD (cV v k n) m=true:=by
 unfold eD at h ⊢
 simp only[Bool.and_eq_true] at h ⊢
 rw[fT]
 refine⟨h.1,h.2.1,?_⟩
 have h3:=bD.1 h.2.2
 rw[bD]
 intro i hi
 have:=h3 i hi
 rw[aM] at this ⊢
 rcases p6 v k n i with e | e<;>rw[e]<;>omega
end Go.Abs
-- taking and receiving: plain laws
namespace Go.Abs
-- rises
def qK(r:jZ)(e:bA):Bool:=decide (e.1>r.1)||(e.1==r.1&&decide (e.2.2.1>r.2.1))
def m7(clock:Int)(r:jZ)(e:bA):jZ:=bif qK r e then(e.1,e.2.2.1,clock,())else r
def dI(clock:Int)(rs:List jZ)(xs:List bE):Nat->List jZ
 | 0=>rs
 | i+1=>(dI clock rs xs i).set (gt xs i).1.toNat (m7 clock (gt (dI clock rs xs i) (gt xs i).1.toNat) (gt xs i).2)
theorem gT(clock:Int)(rs:List jZ)(xs:List bE):∀ i,(dI clock rs xs i).length=rs.length
 | 0=>rfl
 | i+1=>by show(List.set _ _ _).length=_;rw[List.length_set];exact gT clock rs xs i
def zX(clock:Int)(r:jZ):Bool:=inB r.1 0 1000&&(inB r.2.1 0 100000&&inB r.2.2.1 0 clock)
theorem CH{clock:Int}(hc:0<=clock){rs:List jZ}{s:aE}(hs:StateOk s)(h:∀ j,j<rs.length->zX clock (gt rs j)=true):
  ∀ i,i<=s.1.length->∀ j,j<rs.length->zX clock (gt (dI clock rs s.1 i) j)=true
 | 0,_,j,hj=>h j hj
 | i+1,hi,j,hj=>by
  have ih:=CH hc hs h i (by omega)
  have he:=(hs.item _ (cB (xs:=s.1) (i:=i) (by omega))).2.1
  show zX clock (gt ((dI clock rs s.1 i).set (gt s.1 i).1.toNat (m7 clock (gt (dI clock rs s.1 i) (gt s.1 i).1.toNat) (gt s.1 i).2)) j)=true
  by_cases e:(gt s.1 i).1.toNat=j
  ·rw[e,bX (by rw[gT];omega)]
   unfold m7
   cases qK (gt (dI clock rs s.1 i) j) (gt s.1 i).2 with
   | false=>simp_all
   | true=>
    unfold eA at he
    simp only[Bool.and_eq_true,aM] at he
    show zX clock ((gt s.1 i).2.1,(gt s.1 i).2.2.2.1,clock,())=true
    unfold zX
    simp only[Bool.and_eq_true,aM]
    omega
  ·rw[dZ e];simp_all
-- a node with another state, other rows and rises
def tkS(x:NodeT)(s:aE):List bM:=bL x.seen x.1 (c8 (c9 x.state s))
def tkP(x:NodeT)(s:aE):aE:=prune (c9 x.state s) (tkS x s)
def tkR(x:NodeT)(s:aE):List jZ:=dI x.clock x.rises (tkP x s).1 (tkP x s).1.length
def jM(x:NodeT)(s:aE):NodeT:=
 (x.1,x.2.1,(tkP x s).1,(tkP x s).2.1,(cG (tkP x s)).1,(cG (tkP x s)).2.1,x.2.2.2.2.2.2.1,x.2.2.2.2.2.2.2.1,x.2.2.2.2.2.2.2.2.1,x.got,x.acked,tkS x s,x.num,x.slots,x.sess,x.wait,x.limit,x.clock,tkR x s,())
theorem j7(a:List aH):gA a a=true:=by
 unfold gA;simp[bJ]
structure NodeOk (x:NodeT):Prop where
 n:inB x.2.1 1 5=true
 id:inB x.1 0 (i64.wrap (x.2.1 - 1))=true
 state:aL x.state=true
 tree:uE x=true
 log:gM x.log=true
 got:eD x.got x.2.1=true
 acked:eD x.acked x.2.1=true
 own:((gt x.got x.1.toNat).1==cA x.log)=true
 seen:gK x.seen x.2.1=true
 ack:BN x=true
 num:inB x.num 0 100000=true
 clock:inB x.clock 0 100000=true
 slots:inB x.slots 1 4=true
 wait:inB x.wait 1 20=true
 limit:inB x.limit 1 50=true
 rises:(x.rises.length:Int)==5
 rise:bJ x.rises.length (kI x)=true
 sess:lX x=true
theorem fE(x:NodeT):dU x=true↔NodeOk x:=by
 unfold dU nN
 simp only[Bool.and_eq_true]
 constructor
 ·rintro ⟨h1,h2,h3,h4,h5,h6,h7,h8,h9,h10,h11,h12,h13,h14,h15,h16,h17,h18⟩
  exact⟨h1,h2,h3,h4,h5,h6,h7,h8,h9,h10,h11,h12,h13,h14,h15,h16,h17,h18⟩
 ·rintro ⟨h1,h2,h3,h4,h5,h6,h7,h8,h9,h10,h11,h12,h13,h14,h15,h16,h17,h18⟩
  simp_all
theorem NJ{x:NodeT}{s:aE}(h:NodeOk x)(hs:aL s=true):aL (tkP x s)=true:=z5 (nX h.state hs) _
theorem NodeOk.take{x:NodeT}{s:aE}(h:NodeOk x)(hs:aL s=true):NodeOk (jM x s) where
 n:=h.n
 id:=h.id
 state:=NJ h hs
 tree:=by
  show(gA (cG (tkP x s)).1 (cG (tkP x s)).1&&(cG (tkP x s)).2.1==(cG (tkP x s)).2.1)=true
  rw[j7];simp
 log:=h.log
 got:=h.got
 acked:=h.acked
 own:=h.own
 seen:=p9 h.seen
 ack:=h.ack
 num:=h.num
 clock:=h.clock
 slots:=h.slots
 wait:=h.wait
 limit:=h.limit
 rises:=by
  show(((dI x.clock x.rises (tkP x s).1 (tkP x s).1.length).length:Nat):Int)==5
  rw[gT];exact h.rises
 rise:=by
  show bJ (dI x.clock x.rises (tkP x s).1 (tkP x s).1.length).length _=true
  rw[gT,bD]
  intro i hi
  have hc:=h.clock;rw[aM] at hc
  exact CH hc.1 ((aN _).1 (NJ h hs)) (λj hj=>bD.1 h.rise j hj) _ (Nat.le_refl _) i hi
 sess:=h.sess
theorem NH(x:NodeT)(s:aE):SzS (tkP x s):=OQ (nW _ _) _
theorem KZ(s:aE):(cG s).1.length<=aP:=by
 unfold cG;cases aL s with
 | false=>simp
 | true=>show 4<=aP;decide
theorem lV{x:NodeT}(h:SzN x)(s:aE):SzN (jM x s) where
 state:=NH x s
 leaves:=KZ _
 list:=h.list
 logs:=h.logs
 got:=h.got
 acked:=h.acked
 seen:=by show(tkS x s).length<=aP;unfold tkS;rw[c7];exact h.seen
 lines:=by
  intro i hi
  show(gt (tkS x s) i).1.length<=aP
  unfold tkS;rw[eX]
  exact h.lines i (by have:i<(tkS x s).length:=hi;unfold tkS at this;rw[c7] at this;omega)
 sess:=h.sess
 rises:=by show(dI x.clock x.rises (tkP x s).1 (tkP x s).1.length).length<=aP;rw[gT];exact h.rises
-- hearing
def heard0(x:NodeT)(m:MsgT):NodeT:=
 (x.1,x.2.1,x.2.2.1,x.2.2.2.1,x.2.2.2.2.1,x.2.2.2.2.2.1,x.2.2.2.2.2.2.1,x.2.2.2.2.2.2.2.1,x.2.2.2.2.2.2.2.2.1,x.got,cV x.acked m.2.1 (mxI false (gt m.vec x.1.toNat).1 (cA x.log)),bL x.seen m.2.1 m.marks,x.num,x.slots,x.sess,x.wait,x.limit,x.clock,x.rises,())
def eC(x:NodeT)(m:MsgT):NodeT:=jM (heard0 x m) i9
def gotUp(x:NodeT)(m:MsgT):NodeT:=
 (x.1,x.2.1,x.2.2.1,x.2.2.2.1,x.2.2.2.2.1,x.2.2.2.2.2.1,x.2.2.2.2.2.2.1,x.2.2.2.2.2.2.2.1,x.2.2.2.2.2.2.2.2.1,cV x.got m.2.1 m.hi,x.acked,x.seen,x.num,x.slots,x.sess,x.wait,x.limit,x.clock,x.rises,())
def dY(x:NodeT)(m:MsgT):NodeT:=gotUp (jM (eC x m) m.part) m
theorem CU{l:fZ}(h:gM l=true):0<=cA l/\cA l<=100000:=by
 unfold cA;rw[h]
 unfold gM at h
 simp only[Bool.and_eq_true,aM,Bool.not_eq_true',decide_eq_false_iff_not] at h
 show 0<=i64.wrap _/\i64.wrap _<=100000
 rw[IntKind.wrap_i64] at h ⊢
 omega
theorem NodeOk.heard0{x:NodeT}(h:NodeOk x)(m:MsgT):NodeOk (heard0 x m) where
 n:=h.n
 id:=h.id
 state:=h.state
 tree:=h.tree
 log:=h.log
 got:=h.got
 acked:=xD h.acked (by rw[F1];have:=CU h.log;omega)
 own:=h.own
 seen:=p9 h.seen
 ack:=by
  have:=h.ack
  unfold BN at this ⊢
  rw[show(Go.Abs.heard0 x m).acked=cV x.acked m.2.1 (mxI false (gt m.vec x.1.toNat).1 (cA x.log))from rfl,fT]
  rw[bD] at this ⊢
  intro i hi
  have h1:=this i hi
  rw[show(Go.Abs.heard0 x m).log=x.log from rfl]
  simp only[Bool.not_eq_true',decide_eq_false_iff_not] at h1 ⊢
  rcases p6 x.acked m.2.1 (mxI false (gt m.vec x.1.toNat).1 (cA x.log)) i with e | e
  ·rw[e];omega
  ·rw[e,F1];omega
 num:=h.num
 clock:=h.clock
 slots:=h.slots
 wait:=h.wait
 limit:=h.limit
 rises:=h.rises
 rise:=h.rise
 sess:=h.sess
theorem NodeOk.heard{x:NodeT}(h:NodeOk x)(m:MsgT):NodeOk (eC x m):=(h.heard0 m).take y4
theorem CY{x:NodeT}(h:SzN x)(m:MsgT):SzN (heard0 x m) where
 state:=h.state
 leaves:=h.leaves
 list:=h.list
 logs:=h.logs
 got:=h.got
 acked:=by show(cV _ _ _).length<=aP;rw[fT];exact h.acked
 seen:=by show(bL _ _ _).length<=aP;rw[c7];exact h.seen
 lines:=by
  intro i hi
  show(gt (bL x.seen m.2.1 m.marks) i).1.length<=aP
  rw[eX]
  exact h.lines i (by have:i<(bL x.seen m.2.1 m.marks).length:=hi;rw[c7] at this;omega)
 sess:=h.sess
 rises:=h.rises
theorem lR{x:NodeT}(h:SzN x)(m:MsgT):SzN (eC x m):=lV (CY h m) _
theorem NodeOk.gotUp{x:NodeT}(h:NodeOk x){m:MsgT}(hi:m.hi<=100000)(hm:m.2.1.toNat≠x.1.toNat):NodeOk (gotUp x m) where
 n:=h.n
 id:=h.id
 state:=h.state
 tree:=h.tree
 log:=h.log
 got:=xD h.got hi
 acked:=h.acked
 own:=by
  show((gt (cV x.got m.2.1 m.hi) x.1.toNat).1==cA x.log)=true
  rw[EX _ hm];exact h.own
 seen:=h.seen
 ack:=h.ack
 num:=h.num
 clock:=h.clock
 slots:=h.slots
 wait:=h.wait
 limit:=h.limit
 rises:=h.rises
 rise:=h.rise
 sess:=h.sess
theorem PY{x:NodeT}(h:SzN x)(m:MsgT):SzN (gotUp x m) where
 state:=h.state
 leaves:=h.leaves
 list:=h.list
 logs:=h.logs
 got:=by show(cV _ _ _).length<=aP;rw[fT];exact h.got
 acked:=h.acked
 seen:=h.seen
 lines:=h.lines
 sess:=h.sess
 rises:=h.rises
theorem mV{x:NodeT}(h:SzN x)(m:MsgT):SzN (dY x m):=PY (lV (lR h m) _) _
-- messages
def kL(v:List aH)(top:Int):Bool:=bJ v.length λi=>inB (gt v i).1 0 top
def treeB(t:kS):Bool:=bif(t.1.length:Int)==0 then t.2.1==0 else((t.1.length:Int)==4&&(kL t.1 1023&&inB t.2.1 0 1023))
def xV(v:List aH)(i:Nat):Bool:=inB (gt v i).1 0 3&&xO (λj=> !decide ((gt v (j+1)).1<=(gt v j).1)) i
def pF(m:MsgT):Bool:=inB m.1 0 5&&(eF m.2.1&&(eF m.2.2.1&& !(m.2.1==m.2.2.1)))
def dR(m:MsgT):Bool:=pF m&&((bJ m.leaves.length (xV m.leaves))&&(kL m.vec 100000&&(inB m.2.2.2.1 0 100000&&(inB m.hi 0 100000&&(treeB m.tree&&(decide ((m.vec.length:Int)<=5)&&(aL m.part&&eM m.marks)))))))
def pV(v:List aH)(most top:Int):Bool:= !decide ((v.length:Int)>most)&&kL v top
def GA(v:List aH)(i:Nat):Bool:= !decide ((gt v (i+1)).1<=(gt v i).1)
def AF(m:MsgT):Bool:=inB m.1 0 5&&(eF m.2.1&&(eF m.2.2.1&&(!(m.2.1==m.2.2.1)&&(inB m.2.2.2.1 0 100000&&(inB m.hi 0 100000&&(treeB m.tree&&(pV m.vec 5 100000&&(pV m.leaves 4 3&&(aL m.part&&(eM m.marks&&bJ (m.leaves.length - 1) (GA m.leaves)))))))))))
theorem PJ(v:List aH):(pV v 4 3&&bJ (v.length - 1) (GA v))=bJ v.length (xV v):=by
 rw[Bool.eq_iff_iff]
 unfold pV kL xV GA
 simp only[Bool.and_eq_true,bD,Bool.not_eq_true',decide_eq_false_iff_not]
 constructor
 ·rintro ⟨⟨_,h2⟩,h3⟩ i hi
  refine⟨h2 i hi,?_⟩
  cases i with
  | zero=>rfl
  | succ j=>show(!decide ((gt v (j+1)).1<=(gt v j).1))=true;rw[decide_eq_false (h3 j (by omega))];rfl
 ·intro h
  have hp:∀ j,j+1<v.length->(gt v j).1<(gt v (j+1)).1:=λj hj=>by
   have:=(h (j+1) hj).2
   unfold xO at this
   simp_all
  have hge:∀ i,i<v.length->(i:Int)<=(gt v i).1:=by
   intro i
   induction i with
   | zero=>intro hi;have:=(h 0 hi).1;rw[aM] at this;omega
   | succ j ih=>grind
  refine⟨⟨?_,λi hi=>(h i hi).1⟩,λi hi=>by grind⟩
  rcases Nat.lt_or_ge 4 v.length with h5 | h5
  ·have h6:=hge 4 h5
   have:=(h 4 h5).1;rw[aM] at this;omega
  omega
theorem J6(m:MsgT):AF m=dR m:=by
 unfold AF dR pF
 rw[<- PJ]
 unfold pV
 grind
theorem AS{m:MsgT}(h:dR m=true):m.leaves.length<=4:=by
 rw[<- J6] at h
 unfold AF pV at h
 grind
end Go.Abs
-- messages and receiving: plain laws
namespace Go.Abs
theorem JB{β:Type}{o:Option Out}{A B C:List Kd}{r:Row A}{s:Row B}{t:Row C}{f:Rows [A,B,C]×Rows []->Option β}(h:o=some ⟨[⟨A,r⟩,⟨B,s⟩,⟨C,t⟩],[]⟩):(o.bind (cL [A,B,C] [])).bind f=f ((r,s,t,()),()):=by
 rw[h];simp[cL,fA,jT];rfl
def oO(l:List aE)(k:Nat):Nat->aE
 | 0=>i9
 | i+1=>c9 (oO l k i) (gt l (k+i))
theorem zT(l:List aE)(k:Nat):∀ i,SzS (oO l k i)
 | 0=>kC
 | i+1=>nW _ _
theorem s9{l:fZ}(h:gM l=true)(k:Nat):∀ i,k+i<=l.2.2.1.length->aL (oO l.2.2.1 k i)=true
 | 0,_=>y4
 | i+1,hi=>nX (s9 h k i (by omega)) (by
   unfold gM at h
   simp only[Bool.and_eq_true] at h
   exact bD.1 h.2.2.2.2 (k+i) (by omega))
def j6(l:fZ)(seq:Int):Bool:=gM l&&inB seq l.2.1 (i64.wrap (l.2.1+(l.2.2.1.length:Int)))
def gH(l:fZ)(seq:Int):Nat:=(seq - l.2.1).toNat
def mC(l:fZ)(seq:Int):aE:=bif j6 l seq then oO l.2.2.1 (gH l seq) (l.2.2.1.length - gH l seq)else i9
theorem zS{l:fZ}{seq:Int}(h:j6 l seq=true):l.2.1+((gH l seq:Nat):Int)=seq/\gH l seq<=l.2.2.1.length/\0<=l.2.1/\l.2.1<=100000/\l.2.2.1.length<=8:=by
 unfold j6 gM at h
 simp only[Bool.and_eq_true,aM,Bool.not_eq_true',decide_eq_false_iff_not] at h
 unfold gH
 rw[IntKind.wrap_i64] at h
 omega
def sM(x:NodeT)(seq:Int):aE:=bif j6 x.log seq then mC x.log seq else x.state
theorem FE{x:NodeT}(h:SzN x)(seq:Int):SzS (sM x seq):=by
 unfold sM mC
 cases j6 x.log seq with
 | false=>exact h.state
 | true=>exact zT _ _ _
theorem N1{x:NodeT}(h:NodeOk x)(seq:Int):aL (sM x seq)=true:=by
 unfold sM mC
 cases hs:j6 x.log seq with
 | false=>exact h.state
 | true=>have:=zS hs;exact s9 h.log _ _ (by omega)
theorem NX{s:aE}(h:SzS s)(ls:List aH):SzS (jO s ls):=
 ⟨Nat.le_trans (List.length_filter_le ..) h.1,Nat.le_trans (List.length_filter_le ..) h.2⟩
theorem NY{s:aE}(h:aL s=true)(ls:List aH):aL (jO s ls)=true:=(aN _).2 (((aN _).1 h).slice ls)
def FV(x:NodeT)(ls:List aH)(seq:Int):aE:=c9 (jO x.state ls) (sM x seq)
def lJ(a b:kS)(i:Nat):List aH:=bif(a.1.length:Int) != 4 then[((i:Int),())] else bif(b.1.length:Int) != 4 then[((i:Int),())] else bif(gt a.1 i).1 != (gt b.1 i).1 then[((i:Int),())] else[]
def mE(a b:kS):List aH:=bif a.2.1==b.2.1 then[] else bW 4 (lJ a b)
theorem yG(a b:kS)(i:Nat):(lJ a b i).length<=1:=by
 unfold lJ
 cases (a.1.length:Int) != 4<;>cases (b.1.length:Int) != 4<;>cases (gt a.1 i).1 != (gt b.1 i).1<;>simp
theorem tU(a b:kS):(mE a b).length<=4:=by
 unfold mE
 cases a.2.1==b.2.1 with
 | true=>simp
 | false=>exact dL (n:=4) (L:=1) λi _=>yG a b i
def SM(x:NodeT)(kind to num:Int):MsgT:=(kind,x.1,to,num,cA x.log,[],0,x.got,[],[],[],c8 x.state,())
-- exchanges
def withS(x:NodeT)(ss:List eI):NodeT:=
 (x.1,x.2.1,x.2.2.1,x.2.2.2.1,x.2.2.2.2.1,x.2.2.2.2.2.1,x.2.2.2.2.2.2.1,x.2.2.2.2.2.2.2.1,x.2.2.2.2.2.2.2.2.1,x.got,x.acked,x.seen,x.num,x.slots,ss,x.wait,x.limit,x.clock,x.rises,())
def pZ(s:eI):Int×Bool:=(s.1,s.2.2.1)
def TK(x:NodeT)(s:eI):Prop:=inB s.1 0 (i64.wrap (x.2.1 - 1))=true/\s.1≠x.1/\inB s.2.1 0 100000=true/\inB s.2.2.2.1 0 x.wait=true
theorem lH{v:List eI}{k:Nat}{p:Int}{b:Bool}:dJ v k p b=true↔pZ (gt v k)=(p,b):=by
 unfold dJ pZ
 rw[Bool.and_eq_true,beq_iff_eq,QV,Prod.mk.injEq]
theorem OX(v:List eI):(∀ i,i<v.length->CN v i=true)↔(v.map pZ).Nodup:=by
 unfold List.Nodup
 rw[List.pairwise_iff_getElem]
 unfold CN
 simp only[bD,Bool.not_eq_true',List.length_map,List.getElem_map]
 constructor
 ·intro h i j hi hj hij e
  have:=h j hj i hij
  rw[<- Bool.not_eq_true,lH] at this
  apply this
  rw[cU hi,cU hj];exact e
 ·intro h j hj i hij
  rw[<- Bool.not_eq_true,lH]
  intro e
  refine h i j (by omega) hj hij ?_
  rw[cU (by omega),cU hj] at e;exact e
theorem dS(x:NodeT):lX x=true↔(x.sess.length:Int)<=x.slots/\(∀ s∈x.sess,TK x s)/\(x.sess.map pZ).Nodup:=by
 rw[<- OX]
 unfold lX nJ
 simp only[Bool.and_eq_true,bD,Bool.not_eq_true',decide_eq_false_iff_not]
 constructor
 ·rintro ⟨h1,h2⟩
  refine⟨by omega,λs hs=>?_,λi hi=>(h2 i hi).2.2.2.2⟩
  obtain⟨i,hi,rfl⟩:=fW hs
  obtain⟨a,b,c,d,_⟩:=h2 i hi
  refine⟨a,?_,c,d⟩
  simp_all
 ·rintro ⟨h1,h2,h3⟩
  refine⟨by omega,λi hi=>?_⟩
  obtain⟨a,b,c,d⟩:=h2 _ (cB hi)
  simp_all
theorem NodeOk.withS{x:NodeT}(h:NodeOk x){ss:List eI}(h1:(ss.length:Int)<=x.slots)(h2:∀ s∈ss,TK x s)(h3:(ss.map pZ).Nodup):NodeOk (withS x ss) where
 n:=h.n
 id:=h.id
 state:=h.state
 tree:=h.tree
 log:=h.log
 got:=h.got
 acked:=h.acked
 own:=h.own
 seen:=h.seen
 ack:=h.ack
 num:=h.num
 clock:=h.clock
 slots:=h.slots
 wait:=h.wait
 limit:=h.limit
 rises:=h.rises
 rise:=h.rise
 sess:=(dS _).2 ⟨h1,h2,h3⟩
theorem uB{x:NodeT}(h:SzN x){ss:List eI}(h1:ss.length<=aP):SzN (withS x ss):=
 ⟨h.state,h.leaves,h.list,h.logs,h.got,h.acked,h.seen,h.lines,h1,h.rises⟩
theorem hX(v:List eI)(p:Int)(b:Bool):(∃ k:Nat,k<v.length/\dE v p b=(k:Int)/\pZ (gt v k)=(p,b))\/(dE v p b= -1/\∀ s∈v,pZ s≠(p,b)):=by
 unfold dE
 cases hf:(List.range v.length).find? (λk=>dJ v k p b)with
 | none=>
  refine .inr ⟨rfl,λs hs e=>?_⟩
  obtain⟨i,hi,rfl⟩:=fW hs
  have:=List.find?_eq_none.1 hf i (List.mem_range.2 hi)
  exact this (lH.2 e)
 | some k=>
  refine .inl ⟨k,List.mem_range.1 (List.mem_of_find?_eq_some hf),rfl,?_⟩
  exact lH.1 (show dJ v k p b=true from List.find?_some (p:=λk=>dJ v k p b) hf)
def sV(x:NodeT)(m:MsgT)(b:Bool):Int:=bif decide (dE x.sess m.2.1 b>=0)then(bif(gt x.sess (dE x.sess m.2.1 b).toNat).2.1 != m.2.2.2.1 then -1 else dE x.sess m.2.1 b)else dE x.sess m.2.1 b
def kP(x:NodeT)(k:Nat):NodeT:=withS x (x.sess.take k++x.sess.drop (k+1))
theorem P1{x:NodeT}(h:NodeOk x)(k:Nat):NodeOk (kP x k):=by
 have hs:=(dS x).1 h.sess
 have sub:List.Sublist (x.sess.take k++x.sess.drop (k+1)) x.sess:=by rw[<- List.eraseIdx_eq_take_drop_succ];grind
 refine h.withS ?_ (λs hm=>hs.2.1 s (sub.subset hm)) ((sub.map pZ).nodup hs.2.2)
 grind
theorem GK{x:NodeT}(h:SzN x)(k:Nat):SzN (kP x k):=uB h (by
 have:=h.sess;rw[List.length_append,List.length_take,List.length_drop];omega)
def pA(x:NodeT)(k:Nat)(num:Int):List eI:=x.sess.set k ((gt x.sess k).1,num,(gt x.sess k).2.2.1,(0:Int),())
def lK(x:NodeT)(m:MsgT):List eI:=x.sess++[(m.2.1,m.2.2.2.1,true,(0:Int),())]
theorem LV{x:NodeT}(h:NodeOk x){k:Nat}(hk:k<x.sess.length){num:Int}(hn:inB num 0 100000=true):NodeOk (withS x (pA x k num)):=by
 have hs:=(dS x).1 h.sess
 refine h.withS (by unfold pA;rw[List.length_set];omega) (λs hm=>?_) ?_
 ·rcases List.mem_or_eq_of_mem_set hm with h1 | h1
  ·grind
  ·have h2:=hs.2.1 _ (cB hk)
   rw[h1]
   refine⟨h2.1,h2.2.1,hn,?_⟩
   have:=h.wait;rw[aM] at this ⊢;grind
 ·unfold pA
  rw[List.map_set,show pZ ((gt x.sess k).1,num,(gt x.sess k).2.2.1,(0:Int),())=pZ (gt x.sess k)from rfl]
  have:(x.sess.map pZ).set k (pZ (gt x.sess k))=x.sess.map pZ:=by
   rw[<- List.map_set,tB]
  rw[this];simp_all
theorem JM{x:NodeT}(h:NodeOk x){m:MsgT}(hp:inB m.2.1 0 (i64.wrap (x.2.1 - 1))=true)(hi:m.2.1≠x.1)(hn:inB m.2.2.2.1 0 100000=true)(hf:dE x.sess m.2.1 true<0)(hl:(x.sess.length:Int)≠x.slots):NodeOk (withS x (lK x m)):=by
 have hs:=(dS x).1 h.sess
 refine h.withS (by unfold lK;rw[List.length_append,List.length_singleton];omega) (λs hm=>?_) ?_
 ·rcases List.mem_append.1 hm with h1 | h1
  ·grind
  ·rw[List.mem_singleton.1 h1]
   refine⟨hp,hi,hn,?_⟩
   have:=h.wait;rw[aM] at this ⊢;grind
 ·unfold lK
  rw[List.map_append,List.nodup_append]
  refine⟨hs.2.2,by simp,λa ha b hb=>?_⟩
  obtain⟨s,hs1,rfl⟩:=List.mem_map.1 ha
  have hb:b=(m.2.1,true):=by simpa [pZ] using hb
  rw[hb]
  rcases hX x.sess m.2.1 true with ⟨k,_,e,_⟩ | ⟨_,e⟩
  ·rw[e] at hf;omega
  grind
-- receiving
def HQ(o:NodeT)(x:NodeT)(m:MsgT):MsgT:=
 (3,o.1,m.2.1,m.2.2.2.1,cA o.log,o.tree.1,o.tree.2.1,o.got,mE o.tree m.tree,(FV o (mE o.tree m.tree) (gt m.vec x.1.toNat).1).1,(FV o (mE o.tree m.tree) (gt m.vec x.1.toNat).1).2.1,c8 o.state,())
def TI(o:NodeT)(x:NodeT)(m:MsgT):MsgT:=
 (4,o.1,m.2.1,m.2.2.2.1,cA o.log,[],0,o.got,m.leaves,(FV o m.leaves (gt m.vec x.1.toNat).1).1,(FV o m.leaves (gt m.vec x.1.toNat).1).2.1,c8 o.state,())
abbrev JO:=NodeT×List MsgT×Int
def hU(x:NodeT)(m:MsgT):List eI:=bif decide (dE x.sess m.2.1 true>=0)then pA x (dE x.sess m.2.1 true).toNat m.2.2.2.1 else lK x m
def LC(x:NodeT)(m:MsgT):NodeT:=eC (withS x (hU x m)) m
def lD(x:NodeT)(m:MsgT):Bool:= !decide (dE x.sess m.2.1 true>=0)&&(x.sess.length:Int)==x.slots
def oY(x:NodeT)(m:MsgT):JO:=bif lD x m then(x,[SM x 5 m.2.1 m.2.2.2.1],3)else(LC x m,[HQ (LC x m) x m],0)
def tE(x:NodeT)(m:MsgT)(k:Nat):JO:=
 bif m.1==5 then(kP x k,[],0)else bif m.1==4 then(dY (kP x k) m,[],0)else(dY (kP x k) m,[TI (dY (kP x k) m) x m],0)
def zZ(x:NodeT)(m:MsgT):JO:=
 bif m.1==0 then(dY x m,[SM (dY x m) 1 m.2.1 m.2.2.2.1],0)else
 bif m.1==1 then(eC x m,[],0)else bif m.1==2 then oY x m else
 bif decide (sV x m (m.1==4)<0)then(x,[],2)else tE x m (sV x m (m.1==4)).toNat
def mM(x:NodeT)(m:MsgT):Bool:=dU x&&(dR m&&(m.2.2.1==x.1&&(!decide (m.2.1>=x.2.1)&&(m.vec.length:Int)==x.2.1)))
def gU(x:NodeT)(m:MsgT):JO:=bif mM x m then zZ x m else(x,[],1)
structure RecOk (x:NodeT) (m:MsgT):Prop where
 node:NodeOk x
 msg:dR m=true
 idn:0<=x.1/\x.1<x.2.1/\1<=x.2.1/\x.2.1<=5
 frm:0<=m.2.1/\m.2.1<x.2.1
 ne:m.2.1≠x.1
 vec:(m.vec.length:Int)=x.2.1
 to:m.2.2.1=x.1
 num:inB m.2.2.2.1 0 100000=true
 hi:0<=m.hi/\m.hi<=100000
 part:aL m.part=true
 marks:eM m.marks=true
 leaves:m.leaves.length<=4
theorem FK{x:NodeT}{m:MsgT}(h:mM x m=true):RecOk x m:=by
 unfold mM at h
 simp only[Bool.and_eq_true,beq_iff_eq,Bool.not_eq_true',decide_eq_false_iff_not] at h
 obtain⟨h1,h2,h3,h4,h5⟩:=h
 have hn:=(fE x).1 h1
 have a1:=hn.n
 have a2:=hn.id
 rw[aM] at a1 a2
 rw[IntKind.wrap_i64] at a2
 have hm:=h2
 unfold dR pF eF at hm
 simp only[Bool.and_eq_true,aM,Bool.not_eq_true',beq_eq_false_iff_ne] at hm
 obtain⟨⟨b1,b2,b3,b4⟩,b5,b6,b7,b8,b9,b10,b11,b12⟩:=hm
 exact⟨hn,h2,by omega,by omega,by rw[<- h3];omega,h5,h3,aM.2 b7,b8,b11,b12,AS h2⟩
theorem RecOk.gone{x:NodeT}{m:MsgT}(h:RecOk x m)(k:Nat):RecOk (kP x k) m:=
 ⟨P1 h.node k,h.msg,h.idn,h.frm,h.ne,h.vec,h.to,h.num,h.hi,h.part,h.marks,h.leaves⟩
theorem RecOk.brought{x:NodeT}{m:MsgT}(h:RecOk x m):NodeOk (dY x m):=
 NodeOk.gotUp ((h.node.heard m).take h.part) h.hi.2 (by
  have h1:=h.ne;have h2:=h.idn;have h3:=h.frm
  show m.2.1.toNat≠x.1.toNat
  omega)
theorem RecOk.syn{x:NodeT}{m:MsgT}(h:RecOk x m)(hf:lD x m=false):RecOk (withS x (hU x m)) m:=by
 refine⟨?_,h.msg,h.idn,h.frm,h.ne,h.vec,h.to,h.num,h.hi,h.part,h.marks,h.leaves⟩
 unfold hU
 unfold lD at hf
 by_cases hc:dE x.sess m.2.1 true>=0
 ·rw[decide_eq_true hc]
  rcases hX x.sess m.2.1 true with ⟨k,hk,e,_⟩ | ⟨e,_⟩
  ·show NodeOk (withS x (pA x (dE x.sess m.2.1 true).toNat m.2.2.2.1))
   rw[e];exact LV h.node hk h.num
  omega
 ·rw[decide_eq_false hc] at hf ⊢
  refine JM h.node ?_ h.ne h.num (by omega) (by simp_all)
  have h2:=h.idn;have h3:=h.frm
  rw[aM,IntKind.wrap_i64];omega
theorem xE{x:NodeT}(h:NodeOk x)(m:MsgT):(hU x m).length<=aP:=by
 have h1:=((dS x).1 h.sess).1
 have h2:=h.slots;rw[aM] at h2
 unfold hU pA lK aP
 grind
theorem RL{x:NodeT}(hz:SzN x)(h:NodeOk x)(m:MsgT):SzN (LC x m):=lR (uB hz (xE h m)) m
theorem RZ{x:NodeT}{m:MsgT}(h:mM x m=false):gU x m=(x,[],1):=by unfold gU;rw[h];rfl
theorem OB{x:NodeT}{m:MsgT}(h:mM x m=true):gU x m=zZ x m:=by unfold gU;rw[h];rfl
-- an exchange taken out, as the code does it
def UA(x:NodeT)(k:Int):List eI:=([]++((x.sess.take (k.toNat)).drop 0))++((x.sess.take x.sess.length).drop ((i64.wrap (k+1))).toNat)
theorem R4{x:NodeT}{k:Nat}(hk:k<x.sess.length)(hl:x.sess.length<=aP):UA x (k:Int)=x.sess.take k++x.sess.drop (k+1):=by
 unfold UA
 rw[aF (Nat.lt_of_lt_of_le hk (Nat.le_trans hl (by decide))),List.take_length,Int.toNat_natCast,Int.toNat_natCast];rfl
theorem OH{x:NodeT}{k:Nat}(hk:k<x.sess.length)(hl:x.sess.length<=aP):withS x (UA x (k:Int))=kP x k:=by rw[R4 hk hl];rfl
theorem QE{α β:Type}{ss:List α}{k:Nat}{F Z:β}(hk:k<ss.length)(hl:ss.length<=aP):
  (bif decide (0<=(k:Int))&&decide ((k:Int)<=(ss.length:Int))then(bif decide (List.length ([]:List α)+List.length ((ss.take ((k:Int).toNat)).drop 0)<=bound)then
   (bif decide (0<=i64.wrap ((k:Int)+1))&&decide (i64.wrap ((k:Int)+1)<=(ss.length:Int))then
    (bif decide (List.length ([]++((ss.take ((k:Int).toNat)).drop 0))+List.length ((ss.take ss.length).drop ((i64.wrap ((k:Int)+1))).toNat)<=bound)then F else Z)else Z)else Z)else Z)=F:=by
 have hb:aP<=bound:=by decide
 rw[aF (Nat.lt_of_lt_of_le hk (Nat.le_trans hl (by decide)))]
 grind
end Go.Abs
-- short steps
namespace Go.Abs
open Go
theorem qP{β:Type}{q:Prop}[Decidable q]{x y z:β}(h:q)(k:x=z):(bif decide q then x else y)=z:=(mX h).trans k
theorem qN{β:Type}{q:Prop}[Decidable q]{x y z:β}(h:¬ q)(k:y=z):(bif decide q then x else y)=z:=(kE h).trans k
theorem qT{β:Type}{b:Bool}{x y z:β}(h:b=true)(k:x=z):(bif b then x else y)=z:=(mG h).trans k
theorem qF{β:Type}{b:Bool}{x y z:β}(h:b=false)(k:y=z):(bif b then x else y)=z:=(iM h).trans k
theorem qt{β:Type}{x y z:β}(k:x=z):(bif true then x else y)=z:=k
theorem qf{β:Type}{x y z:β}(k:y=z):(bif false then x else y)=z:=k
theorem qz{β:Type}{m:Nat}{x y z:β}(k:x=z):(bif decide ((0:Int)<=(m:Int))then x else y)=z:=(mX (Int.natCast_nonneg m)).trans k
theorem ql{β:Type}{i m:Nat}{x y z:β}(h:i<m)(k:x=z):(bif decide ((i:Int)<(m:Int))then x else y)=z:=(mX (Int.ofNat_lt.2 h)).trans k
theorem qe{β:Type}{a:Int}{x y z:β}(k:y=z):(bif decide (a<a)then x else y)=z:=(kE (Int.lt_irrefl a)).trans k
theorem qC{β:Type}{p:Prg}{v n g:Nat}{as:List Arg}{A:List Kd}{r:Row A}{f:Rows [A]×Rows []->Option β}{z:Option β}(h:Ran p v g as ⟨[⟨A,r⟩],[]⟩)(k:f ((r,()),())=z)(hn:v<=n:=by omega):
  ((aI p n g as).bind (cL [A] [])).bind f=z:=(MZ (h n hn)).trans k
theorem qD{β:Type}{p:Prg}{v n g:Nat}{as:List Arg}{A B:List Kd}{r:Row A}{s:Row B}{f:Rows [A,B]×Rows []->Option β}{z:Option β}(h:Ran p v g as ⟨[⟨A,r⟩,⟨B,s⟩],[]⟩)(k:f ((r,s,()),())=z)(hn:v<=n:=by omega):
  ((aI p n g as).bind (cL [A,B] [])).bind f=z:=(JC (h n hn)).trans k
theorem qE{β:Type}{p:Prg}{v n g:Nat}{as:List Arg}{A B C:List Kd}{r:Row A}{s:Row B}{t:Row C}{f:Rows [A,B,C]×Rows []->Option β}{z:Option β}(h:Ran p v g as ⟨[⟨A,r⟩,⟨B,s⟩,⟨C,t⟩],[]⟩)(k:f ((r,s,t,()),())=z)(hn:v<=n:=by omega):
  ((aI p n g as).bind (cL [A,B,C] [])).bind f=z:=(JB (h n hn)).trans k
theorem qR{β:Type}{p:Prg}{v n g:Nat}{as:List Arg}{A B:List Kd}{r:Row A}{s:Row B}{f:Rows [A]×Rows [B]->Option β}{z:Option β}(h:Ran p v g as ⟨[⟨A,r⟩],[⟨B,s⟩]⟩)(k:f ((r,()),(s,()))=z)(hn:v<=n:=by omega):
  ((aI p n g as).bind (cL [A] [B])).bind f=z:=(QQ (h n hn)).trans k
end Go.Abs
/- Plain laws: rows marked cell by cell; how many cells there are. -/
namespace Go.Abs
def gP{α:Type}(c:α->Int):List α->Int
 | []=>0
 | x::xs=>c x+gP c xs
def P4{α:Type}(f:α->Int->α)(c:α->Int):List α->Int->List α
 | [],_=>[]
 | x::xs,n=>f x n::P4 f c xs (n+c x)
mutual
/-- How many cells lie in a value. -/
def cnT:(k:Kd)->k.T->Int
 | .int _,_=>1
 | .bool,_=>1
 | .str,_=>1
 | .fn,_=>1
 | .sl ks,xs=>gP (cnR ks) xs
def cnR:(ks:List Kd)->Row ks->Int
 | [],_=>0
 | k::ks,r=>cnT k r.1+cnR ks r.2
end
/-- How many cells lie in a struct's slices. -/
def cnS:(ks:List Kd)->Row ks->Int
 | [],_=>0
 | .sl k::ks,r=>cnT (.sl k) r.1+cnS ks r.2
 | .int _::ks,r=>cnS ks r.2
 | .bool::ks,r=>cnS ks r.2
 | .str::ks,r=>cnS ks r.2
 | .fn::ks,r=>cnS ks r.2
mutual
/-- How much lies in a value: elements and texts' bytes. -/
def szT:(k:Kd)->k.T->Int
 | .int _,_=>0
 | .bool,_=>0
 | .str,s=>((ByteArray.size s:Nat):Int)
 | .fn,_=>0
 | .sl ks,xs=>((List.length xs:Nat):Int)+gP (szR ks) xs
def szR:(ks:List Kd)->Row ks->Int
 | [],_=>0
 | k::ks,r=>szT k r.1+szR ks r.2
end
mutual
def H1:Kd->Bool
 | .sl ks=>Nat.ble ks.length 64&&u5 ks
 | .int _=>true
 | .bool=>true
 | .str=>true
 | .fn=>true
def u5:List Kd->Bool
 | []=>true
 | k::ks=>H1 k&&u5 ks
end
theorem rU{α:Type}{c:α->Int}:∀ (xs:List α),(∀ x∈xs,0<=c x)->0<=gP c xs
 | [],_=>Int.le_refl _
 | x::xs,h=>by
  have h1:=h x (List.mem_cons_self ..)
  have h2:=rU xs λy hy=>h y (List.mem_cons_of_mem _ hy)
  show 0<=c x+gP c xs
  omega
theorem JS{α:Type}{c d:α->Int}{A B:Int}:∀ (xs:List α),(∀ x∈xs,c x<=A+B*d x)->gP c xs<=A*(xs.length:Int)+B*gP d xs
 | [],_=>by show(0:Int)<=A*((0:Nat):Int)+B*0;omega
 | x::xs,h=>by
  have h1:=h x (List.mem_cons_self ..)
  have h2:=JS (A:=A) (B:=B) (c:=c) (d:=d) xs λy hy=>h y (List.mem_cons_of_mem _ hy)
  show c x+gP c xs<=A*(((xs.length+1:Nat):Nat):Int)+B*(d x+gP d xs)
  rw[Int.mul_add,show(((xs.length+1:Nat):Nat):Int)=(xs.length:Int)+1 from by omega,Int.mul_add]
  omega
theorem qB{α:Type}{c:α->Int}:∀ (xs ys:List α),gP c (xs++ys)=gP c xs+gP c ys
 | [],ys=>by show gP c ys=0+gP c ys;omega
 | x::xs,ys=>by
  show c x+gP c (xs++ys)=c x+gP c xs+gP c ys
  rw[qB xs ys];omega
theorem zO{α:Type}{c:α->Int}{xs:List α}{i:Nat}(h:i<xs.length):gP c (xs.take (i+1))=gP c (xs.take i)+c xs[i]:=by
 rw[<- List.take_append_getElem h,qB]
 show gP c (xs.take i)+(c xs[i]+0)=_
 omega
mutual
theorem UT:∀ (k:Kd) (x:k.T),0<=cnT k x
 | .int _,_=>by show(0:Int)<=1;omega
 | .bool,_=>by show(0:Int)<=1;omega
 | .str,_=>by show(0:Int)<=1;omega
 | .fn,_=>by show(0:Int)<=1;omega
 | .sl ks,xs=>rU (c:=cnR ks) xs λx _=>QL ks x
theorem QL:∀ (ks:List Kd) (r:Row ks),0<=cnR ks r
 | [],_=>Int.le_refl _
 | k::ks,r=>by
  have h1:=UT k r.1
  have h2:=QL ks r.2
  show 0<=cnT k r.1+cnR ks r.2
  omega
end
mutual
theorem HF:∀ (k:Kd) (x:k.T),0<=szT k x
 | .int _,_=>Int.le_refl _
 | .bool,_=>Int.le_refl _
 | .str,s=>by show(0:Int)<=((ByteArray.size s:Nat):Int);omega
 | .fn,_=>Int.le_refl _
 | .sl ks,xs=>by
  have h:=rU (c:=szR ks) xs λx _=>zN ks x
  show(0:Int)<=((List.length xs:Nat):Int)+gP (szR ks) xs
  omega
theorem zN:∀ (ks:List Kd) (r:Row ks),0<=szR ks r
 | [],_=>Int.le_refl _
 | k::ks,r=>by
  have h1:=HF k r.1
  have h2:=zN ks r.2
  show 0<=szT k r.1+szR ks r.2
  omega
end
mutual
theorem UU:∀ (k:Kd) (x:k.T),H1 k=true->cnT k x<=(bif jD k then 1 else 0)+64*szT k x
 | .int _,_,_=>by show(1:Int)<=1+64*0;omega
 | .bool,_,_=>by show(1:Int)<=1+64*0;omega
 | .str,s,_=>by show(1:Int)<=1+64*((ByteArray.size s:Nat):Int);omega
 | .fn,_,_=>by show(1:Int)<=1+64*0;omega
 | .sl ks,xs,h=>by
  have h':(Nat.ble ks.length 64&&u5 ks)=true:=h
  rw[Bool.and_eq_true] at h'
  have hl:=Nat.le_of_ble_eq_true h'.1
  have:=JS (c:=cnR ks) (d:=szR ks) (A:=64) (B:=64) xs λx _=>by
   have:=QM ks x h'.2
   omega
  show gP (cnR ks) xs<=0+64*(((List.length xs:Nat):Int)+gP (szR ks) xs)
  rw[Int.mul_add];omega
theorem QM:∀ (ks:List Kd) (r:Row ks),u5 ks=true->cnR ks r<=(ks.length:Int)+64*szR ks r
 | [],_,_=>by show(0:Int)<=((0:Nat):Int)+64*0;omega
 | k::ks,r,h=>by
  have h':(H1 k&&u5 ks)=true:=h
  rw[Bool.and_eq_true] at h'
  have h1:=UU k r.1 h'.1
  have h2:=QM ks r.2 h'.2
  have h3:=HF k r.1
  show cnT k r.1+cnR ks r.2<=(((ks.length+1:Nat):Nat):Int)+64*(szT k r.1+szR ks r.2)
  grind
end
/-- A number as a cell of a kind holds it. -/
def wr(j:IntKind)(n:Int):Int:=match j with
 | .i64=>n
 | j=>j.wrap n
section
variable (txt:Int->ByteArray)
mutual
/-- A value whose cells are numbered. -/
def mkT:(k:Kd)->k.T->Int->k.T
 | .int j,_,n=>wr j n
 | .bool,_,n=>n.tmod 3==0
 | .str,_,n=>txt n
 | .fn,x,_=>x
 | .sl ks,xs,n=>P4 (mkR ks) (cnR ks) xs n
def mkR:(ks:List Kd)->Row ks->Int->Row ks
 | [],_,_=>()
 | k::ks,r,n=>(mkT k r.1 n,mkR ks r.2 (n+cnT k r.1))
end
end
section
variable {ι σ α:Type} {c:Nat->ι->(σ->Option Out)->σ->Option Out} {r:ι->Option Out}
theorem DU{d:α->Int}(hd:∀ x,0<=d x){xs:List α}{i:Nat}(h:i<xs.length):0<=gP d (xs.take i)/\gP d (xs.take i)+d xs[i]<=gP d xs:=by
 have e:gP d xs=gP d (xs.take (i+1))+gP d (xs.drop (i+1)):=by rw[<- qB,List.take_append_drop]
 rw[e,zO h]
 have h1:=rU (c:=d) (xs.take i) λx _=>hd x
 have h2:=rU (c:=d) (xs.drop (i+1)) λx _=>hd x
 omega
end
mutual
/-- No row in a value is too long. -/
def LmT:(k:Kd)->k.T->Prop
 | .int _,_=>True
 | .bool,_=>True
 | .str,_=>True
 | .fn,_=>True
 | .sl ks,xs=>List.length xs<=4611686018427387904/\∀ (i:Nat) (r:Row ks),at? xs i=some r->LmR ks r
def LmR:(ks:List Kd)->Row ks->Prop
 | [],_=>True
 | k::ks,r=>LmT k r.1/\LmR ks r.2
end
mutual
theorem TSm.lm:∀ (k:Kd) (x:k.T),TSm k x->LmT k x
 | .int _,_,_=>trivial
 | .bool,_,_=>trivial
 | .str,_,_=>trivial
 | .fn,_,_=>trivial
 | .sl ks,xs,h=>⟨Nat.le_trans h.1 (by decide),λi r hr=>Small.lm ks r (h.2 i r hr)⟩
theorem Small.lm:∀ (ks:List Kd) (r:Row ks),Small ks r->LmR ks r
 | [],_,_=>trivial
 | k::ks,r,h=>⟨TSm.lm k r.1 h.1,Small.lm ks r.2 h.2⟩
end
mutual
theorem TW:∀ (k:Kd) (x:k.T),szT k x<=4611686018427387904->LmT k x
 | .int _,_,_=>trivial
 | .bool,_,_=>trivial
 | .str,_,_=>trivial
 | .fn,_,_=>trivial
 | .sl ks,xs,h=>by
  have h':((List.length xs:Nat):Int)+gP (szR ks) xs<=4611686018427387904:=h
  have h2:=rU (c:=szR ks) xs λx _=>zN ks x
  refine⟨by omega,λi r hr=>NM ks r ?_⟩
  obtain⟨hi,rfl⟩:=S3 hr
  have:=(DU (d:=szR ks) (λx=>zN ks x) hi)
  omega
theorem NM:∀ (ks:List Kd) (r:Row ks),szR ks r<=4611686018427387904->LmR ks r
 | [],_,_=>trivial
 | k::ks,r,h=>by
  have h':szT k r.1+szR ks r.2<=4611686018427387904:=h
  have h1:=HF k r.1
  have h2:=zN ks r.2
  exact⟨TW k r.1 (by omega),NM ks r.2 (by omega)⟩
end
theorem j0{α:Type}{c:α->Int}{n:Int}(h:∀ x,c x=n):∀ xs:List α,gP c xs=n*(xs.length:Int)
 | []=>by show(0:Int)=n*((0:Nat):Int);simp
 | x::xs=>by
  show c x+gP c xs=n*(((xs.length+1:Nat):Nat):Int)
  rw[h,j0 h xs,show(((xs.length+1:Nat):Nat):Int)=(xs.length:Int)+1 from by omega,Int.mul_add];omega
theorem JW{α ρ:Type}(x:α)(f:α->Option ρ):N2 x f=f x:=rfl
theorem set_set{α:Type}(ys:List α)(i:Nat)(x y:α):(ys.set i x).set i y=ys.set i y:=by simp
end Go.Abs
-- exchanges begun and gone through: plain laws
namespace Go.Abs
def qA(x:NodeT)(to:Int):Bool:=dU x&&(mN x to&&(!decide (dE x.sess to false>=0)&&(!((x.sess.length:Int)==x.slots)&& !(x.num==100000))))
def E9(x:NodeT)(to:Int):NodeT:=
 (x.1,x.2.1,x.2.2.1,x.2.2.2.1,x.2.2.2.2.1,x.2.2.2.2.2.1,x.2.2.2.2.2.2.1,x.2.2.2.2.2.2.2.1,x.2.2.2.2.2.2.2.2.1,x.got,x.acked,x.seen,i64.wrap (x.num+1),x.slots,x.sess++[(to,i64.wrap (x.num+1),false,(0:Int),())],x.wait,x.limit,x.clock,x.rises,())
def TY(x:NodeT)(to:Int):MsgT:=(2,x.1,to,i64.wrap (x.num+1),cA x.log,x.tree.1,x.tree.2.1,x.got,[],[],[],c8 x.state,())
def BX:MsgT:=((0:Int),(0:Int),(0:Int),(0:Int),(0:Int),[],(0:Int),[],[],[],[],[],())
abbrev VL:=NodeT×MsgT×Bool
def iZ(x:NodeT)(to:Int):VL:=bif qA x to then(E9 x to,TY x to,true)else(x,BX,false)
structure SynOk (x:NodeT) (to:Int):Prop where
 node:NodeOk x
 peer:0<=to/\to<x.2.1/\to≠x.1
 slot:dE x.sess to false<0
 room:(x.sess.length:Int)<x.slots
 num:0<=x.num/\x.num<100000
 nn:1<=x.2.1/\x.2.1<=5
theorem uI{x:NodeT}{to:Int}(h:qA x to=true):SynOk x to:=by
 unfold qA mN at h
 simp only[Bool.and_eq_true,Bool.not_eq_true',decide_eq_false_iff_not,beq_eq_false_iff_ne,bne_iff_ne,aM] at h
 obtain⟨h1,⟨h2,h3⟩,h4,h5,h6⟩:=h
 have hn:=(fE x).1 h1
 have h7:=hn.n;have h8:=hn.num
 have h9:=((dS x).1 hn.sess).1
 rw[aM] at h7 h8
 rw[IntKind.wrap_i64] at h2
 exact⟨hn,by omega,by omega,by omega,by omega,by omega⟩
theorem HY{n:Int}(h:0<=n/\n<100000):i64.wrap (n+1)=n+1:=by rw[IntKind.wrap_i64];omega
theorem SynOk.up{x:NodeT}{to:Int}(h:SynOk x to):NodeOk (E9 x to) where
 n:=h.node.n
 id:=h.node.id
 state:=h.node.state
 tree:=h.node.tree
 log:=h.node.log
 got:=h.node.got
 acked:=h.node.acked
 own:=h.node.own
 seen:=h.node.seen
 ack:=h.node.ack
 num:=by show inB (i64.wrap (x.num+1)) 0 100000=true;rw[HY h.num,aM];have:=h.num;omega
 clock:=h.node.clock
 slots:=h.node.slots
 wait:=h.node.wait
 limit:=h.node.limit
 rises:=h.node.rises
 rise:=h.node.rise
 sess:=by
  have hs:=(dS x).1 h.node.sess
  refine(dS _).2 ⟨?_,λs hm=>?_,?_⟩
  ·show(((x.sess++[_]).length:Nat):Int)<=x.slots
   rw[List.length_append,List.length_singleton];have:=h.room;omega
  ·have hm:s∈x.sess++[(to,i64.wrap (x.num+1),false,(0:Int),())]:=hm
   rcases List.mem_append.1 hm with h1 | h1
   ·exact hs.2.1 s h1
   ·rw[List.mem_singleton.1 h1]
    have h2:=h.peer;have h3:=h.num;have h4:=h.node.wait;have h5:=h.nn
    rw[aM] at h4
    refine⟨?_,h2.2.2,?_,?_⟩
    ·show inB to 0 (i64.wrap (x.2.1 - 1))=true
     rw[aM,IntKind.wrap_i64];omega
    ·show inB (i64.wrap (x.num+1)) 0 100000=true
     rw[HY h.num,aM];omega
    ·show inB 0 0 x.wait=true
     rw[aM];omega
  ·show(List.map pZ (x.sess++[(to,i64.wrap (x.num+1),false,(0:Int),())])).Nodup
   rw[List.map_append,List.nodup_append]
   refine⟨hs.2.2,by simp,λa ha b hb=>?_⟩
   obtain⟨s,hs1,rfl⟩:=List.mem_map.1 ha
   have hb:b=(to,false):=by simpa [pZ] using hb
   rw[hb]
   rcases hX x.sess to false with ⟨k,_,e,_⟩ | ⟨_,e⟩
   ·have:=h.slot;rw[e] at this;omega
   grind
theorem E8{x:NodeT}{to:Int}(hz:SzN x)(h:SynOk x to):SzN (E9 x to):=
 ⟨hz.state,hz.leaves,hz.list,hz.logs,hz.got,hz.acked,hz.seen,hz.lines,by
  have h1:=h.room;have h2:=h.node.slots;rw[aM] at h2
  show(x.sess++[_]).length<=aP
  rw[List.length_append,List.length_singleton];unfold aP;omega,hz.rises⟩
theorem RM{x:NodeT}(hz:SzN x)(to:Int):SzM (TY x to):=⟨hz.leaves,hz.got,Nat.zero_le _,kC,Nat.le_trans (fR _) (by decide)⟩
theorem J8:SzM BX:=⟨Nat.zero_le _,Nat.zero_le _,Nat.zero_le _,kC,Nat.zero_le _⟩
theorem DT{x:NodeT}(hz:SzN x)(to:Int):SzN (iZ x to).1/\SzM (iZ x to).2.1:=by
 unfold iZ
 cases h:qA x to with
 | false=>exact⟨hz,J8⟩
 | true=>exact⟨E8 hz (uI h),RM hz to⟩
theorem NN{x:NodeT}{to:Int}(h:qA x to=true):iZ x to=(E9 x to,TY x to,true):=by unfold iZ;rw[h];rfl
theorem RK{x:NodeT}{to:Int}(h:qA x to=false):iZ x to=(x,BX,false):=by unfold iZ;rw[h];rfl
-- who answers whom
structure RecTo (x:NodeT) (m:MsgT) (r:JO):Prop where
 id:r.1.1=x.1
 to:∀ q∈r.2.1,q.2.2.1=m.2.1/\q.2.1=x.1
-- an exchange gone through
end Go.Abs
-- saying: plain laws
namespace Go.Abs
abbrev Q4:=aE×Int
def z9(id:Int)(e:bA):aE:=bif aL ([(id,e)],[],())then([(id,e)],[],())else i9
theorem u3(id:Int)(e:bA):aL (z9 id e)=true:=by
 unfold z9
 cases h:aL ([(id,e)],[],())with
 | true=>grind
 | false=>rfl
def upE(s:aE)(id:Int):bA×Int:=bif aL s then(bif eF id then(bif(fF s id).2 then((fF s id).1,0)else(dN,3))else(dN,1))else(dN,1)
def vA(s:aE)(id:Int):Int:=mxI true (a9 s id).1.1 (cK s.2.1 id)
def rY(s:aE)(id:Int):Q4:=bif aL s then(bif eF id then(bif(fF s id).2 then(i9,2)else bif vA s id==1000 then(i9,4)else(z9 id (i64.wrap (vA s id+1),0,0,0,⟨#[]⟩,()),0))else(i9,1))else(i9,1)
def sA(s:aE)(id:Int):Q4:=bif(upE s id).2 != 0 then(i9,(upE s id).2)else bif(upE s id).1.2.2.1==100000 then(i9,4)else
 (z9 id ((upE s id).1.1,(upE s id).1.2.1,i64.wrap ((upE s id).1.2.2.1+1),(upE s id).1.2.2.2.1,(upE s id).1.2.2.2.2.1,()),0)
def v3(s:aE)(id:Int)(t:ByteArray):Q4:=bif(upE s id).2 != 0 then(i9,(upE s id).2)else bif(upE s id).1.2.2.2.1==1000 then(i9,4)else bif decide (((ByteArray.size t:Nat):Int)>8)then(i9,4)else
 (z9 id ((upE s id).1.1,(upE s id).1.2.1,(upE s id).1.2.2.1,i64.wrap ((upE s id).1.2.2.2.1+1),t,()),0)
def rZ(s:aE)(id:Int):Q4:=bif(upE s id).2 != 0 then(i9,(upE s id).2)else(z9 id ((upE s id).1.1,1,(upE s id).1.2.2.1,(upE s id).1.2.2.2.1,(upE s id).1.2.2.2.2.1,()),0)
def fQ(s:aE)(k id:Int)(t:ByteArray):Q4:=bif k==0 then rY s id else bif k==1 then sA s id else bif k==2 then v3 s id t else rZ s id
theorem HN(s:aE)(id:Int):aL (rY s id).1=true:=by
 unfold rY
 cases aL s<;>cases eF id<;>cases (fF s id).2<;>cases vA s id==1000<;>first | rfl | exact u3 _ _
theorem HP(s:aE)(id:Int):aL (sA s id).1=true:=by
 unfold sA
 cases (upE s id).2 != 0<;>cases (upE s id).1.2.2.1==100000<;>first | rfl | exact u3 _ _
theorem LJ(s:aE)(id:Int)(t:ByteArray):aL (v3 s id t).1=true:=by
 unfold v3
 cases (upE s id).2 != 0<;>cases (upE s id).1.2.2.2.1==1000<;>cases decide (((ByteArray.size t:Nat):Int)>8)<;>first | rfl | exact u3 _ _
theorem HO(s:aE)(id:Int):aL (rZ s id).1=true:=by
 unfold rZ
 cases (upE s id).2 != 0<;>first | rfl | exact u3 _ _
theorem FH(s:aE)(k id:Int)(t:ByteArray):aL (fQ s k id t).1=true:=by
 unfold fQ
 cases k==0
 ·cases k==1
  ·cases k==2
   ·exact HO s id
   ·exact LJ s id t
  ·exact HP s id
 ·exact HN s id
-- logs
def m6(l:fZ)(d:aE):Bool:=gM l&&(aL d&& !(i64.wrap (l.2.1+(l.2.2.1.length:Int))==100000))
def gJ(l:fZ)(d:aE):fZ:=bif decide ((((l.2.2.1++[d]).length:Nat):Int)>l.1)then(l.1,i64.wrap (l.2.1+1),(l.2.2.1++[d]).drop 1,())else(l.1,l.2.1,l.2.2.1++[d],())
def tL(l:fZ)(d:aE):fZ×Bool:=bif m6 l d then(gJ l d,true)else(l,false)
structure LogOk (l:fZ):Prop where
 cap:1<=l.1/\l.1<=8
 len:(l.2.2.1.length:Int)<=l.1
 frm:0<=l.2.1/\l.2.1<=100000
 top:l.2.1+(l.2.2.1.length:Int)<=100000
 all:∀ s∈l.2.2.1,aL s=true
theorem nS(l:fZ):gM l=true↔LogOk l:=by
 unfold gM
 simp only[Bool.and_eq_true,aM,Bool.not_eq_true',decide_eq_false_iff_not,bD]
 constructor
 ·rintro ⟨h1,h2,h3,h4,h5⟩
  rw[IntKind.wrap_i64] at h4
  refine⟨h1,by omega,h3,by omega,λs hs=>?_⟩
  obtain⟨i,hi,rfl⟩:=fW hs
  simp_all
 ·rintro ⟨h1,h2,h3,h4,h5⟩
  rw[IntKind.wrap_i64]
  exact⟨h1,by omega,h3,by omega,λi hi=>h5 _ (cB hi)⟩
theorem sH{l:fZ}(h:LogOk l):cA l=l.2.1+(l.2.2.1.length:Int):=by
 have h1:=h.frm;have h2:=h.top
 unfold cA;rw[(nS l).2 h];show i64.wrap _=_;rw[IntKind.wrap_i64];omega
theorem MB{l:fZ}{d:aE}(h:LogOk l)(hd:aL d=true)(hn:l.2.1+(l.2.2.1.length:Int)<100000):LogOk (gJ l d)/\cA (gJ l d)=cA l+1:=by
 have h1:=h.cap;have h2:=h.len;have h3:=h.frm
 have hl:(l.2.2.1++[d]).length=l.2.2.1.length+1:=by rw[List.length_append,List.length_singleton]
 have ha:∀ s∈l.2.2.1++[d],aL s=true:=λs hs=>by
  rcases List.mem_append.1 hs with hs | hs
  ·exact h.all s hs
  simp_all
 have key:LogOk (gJ l d)/\(gJ l d).2.1+(((gJ l d).2.2.1.length:Nat):Int)=l.2.1+(l.2.2.1.length:Int)+1:=by
  unfold gJ
  by_cases hc:(((l.2.2.1++[d]).length:Nat):Int)>l.1
  ·rw[decide_eq_true hc]
   have hw:i64.wrap (l.2.1+1)=l.2.1+1:=by rw[IntKind.wrap_i64];omega
   have hdl:((l.2.2.1++[d]).drop 1).length=l.2.2.1.length:=by rw[List.length_drop,hl];omega
   refine⟨⟨h1,?_,?_,?_,λs hs=>ha s (List.mem_of_mem_drop hs)⟩,?_⟩
   ·simp_all
   ·grind
   ·grind
   grind
  ·rw[decide_eq_false hc]
   rw[hl] at hc
   refine⟨⟨h1,?_,h3,?_,ha⟩,?_⟩
   ·simp_all
   ·grind
   grind
 exact⟨key.1,by rw[sH key.1,sH h];omega⟩
-- a node says
def uP(x:NodeT)(k id:Int):Bool:=dU x&&(inB k 0 4&&(inB id 0 (i64.wrap (x.2.1 - 1))&& !(rP (k==4) (id==x.1))))
def JZ(x:NodeT)(d:aE):NodeT:=
 (x.1,x.2.1,x.2.2.1,x.2.2.2.1,x.2.2.2.2.1,x.2.2.2.2.2.1,(gJ x.log d).1,(gJ x.log d).2.1,(gJ x.log d).2.2.1,x.got.set x.1.toNat (i64.wrap ((gt x.got x.1.toNat).1+1),()),x.acked,x.seen,x.num,x.slots,x.sess,x.wait,x.limit,x.clock,x.rises,())
abbrev KS:=NodeT×aE×Int
def jJ(x:NodeT)(k id:Int)(t:ByteArray):KS:=
 bif uP x k id then(bif(fQ x.state k id t).2 != 0 then(x,i9,(fQ x.state k id t).2)else bif m6 x.log (fQ x.state k id t).1 then(jM (JZ x (fQ x.state k id t).1) (fQ x.state k id t).1,(fQ x.state k id t).1,0)else(x,i9,4))else(x,i9,1)
theorem zU{x:NodeT}{d:aE}(h:NodeOk x)(hd:m6 x.log d=true):NodeOk (JZ x d):=by
 unfold m6 at hd
 simp only[Bool.and_eq_true,Bool.not_eq_true',beq_eq_false_iff_ne] at hd
 have hL:=(nS x.log).1 h.log
 have h1:=hL.frm;have h2:=hL.top;have h3:=hL.len;have h4:=hL.cap
 have hw:i64.wrap (x.log.2.1+(x.log.2.2.1.length:Int))=x.log.2.1+(x.log.2.2.1.length:Int):=by rw[IntKind.wrap_i64];omega
 rw[hw] at hd
 obtain⟨p1,p2⟩:=MB hL hd.2.1 (by omega)
 have hs:cA x.log<100000/\0<=cA x.log:=by rw[sH hL];omega
 have hg:(gt x.got x.1.toNat).1=cA x.log:=eq_of_beq h.own
 have hwg:i64.wrap ((gt x.got x.1.toNat).1+1)=cA x.log+1:=by rw[hg,IntKind.wrap_i64];omega
 have hid:=h.id;have hn:=h.n;have hv:=h.got
 rw[aM] at hid hn
 rw[IntKind.wrap_i64] at hid
 unfold eD at hv
 simp only[Bool.and_eq_true,beq_iff_eq] at hv
 have hk:x.1.toNat<x.got.length:=by omega
 exact {
  n:=h.n,id:=h.id,state:=h.state,tree:=h.tree
  log:=(nS _).2 p1
  got:=by
   show eD (x.got.set x.1.toNat _) x.2.1=true
   unfold eD
   simp only[Bool.and_eq_true,beq_iff_eq]
   rw[List.length_set]
   refine⟨hv.1,hv.2.1,?_⟩
   have h5:=bD.1 hv.2.2
   rw[bD]
   intro i hi
   by_cases e:x.1.toNat=i
   ·rw[<- e,bX hk];show inB (i64.wrap _) 0 100000=true;rw[hwg,aM];omega
   ·rw[dZ e];simp_all
  acked:=h.acked
  own:=by
   show((gt (x.got.set x.1.toNat (i64.wrap ((gt x.got x.1.toNat).1+1),())) x.1.toNat).1==cA (gJ x.log d))=true
   rw[bX hk,p2,beq_iff_eq];omega
  seen:=h.seen
  ack:=by
   have h6:=h.ack
   unfold BN at h6 ⊢
   rw[bD] at h6 ⊢
   intro i hi
   have h7:=h6 i hi
   show(!decide ((gt x.acked i).1>cA (gJ x.log d)))=true
   rw[p2]
   grind
  num:=h.num,clock:=h.clock,slots:=h.slots,wait:=h.wait,limit:=h.limit,rises:=h.rises,rise:=h.rise,sess:=h.sess }
theorem IA(l:fZ)(d:aE):(gJ l d).2.2.1.length<=l.2.2.1.length+1:=by
 unfold gJ
 grind
theorem FI{x:NodeT}{d:aE}(hz:SzN x)(h:NodeOk x)(hd:m6 x.log d=true):SzN (JZ x d):=by
 have ho:=(nS _).1 (zU h hd).log
 have h1:=ho.cap;have h2:=ho.len
 refine⟨hz.state,hz.leaves,?_,λi hi=>?_,?_,hz.acked,hz.seen,hz.lines,hz.sess,hz.rises⟩
 ·unfold aP;omega
 ·have:=((aN _).1 (ho.all _ (cB hi))).len
  exact⟨by unfold aP;omega,by unfold aP;omega⟩
 ·show(x.got.set _ _).length<=aP;rw[List.length_set];exact hz.got
theorem RX{x:NodeT}(h:NodeOk x)(k id:Int)(t:ByteArray):NodeOk (jJ x k id t).1:=by
 unfold jJ
 cases uP x k id with
 | false=>grind
 | true=>
  cases (fQ x.state k id t).2 != 0 with
  | true=>grind
  | false=>
   cases hb:m6 x.log (fQ x.state k id t).1 with
   | false=>grind
   | true=>exact(zU h hb).take (FH _ _ _ _)
theorem JY{x:NodeT}(hz:SzN x)(k id:Int)(t:ByteArray):SzN (jJ x k id t).1:=by
 unfold jJ
 cases hs:uP x k id with
 | false=>grind
 | true=>
  have h:NodeOk x:=(fE x).1 (by unfold uP at hs;simp_all)
  cases (fQ x.state k id t).2 != 0 with
  | true=>grind
  | false=>
   cases hb:m6 x.log (fQ x.state k id t).1 with
   | false=>grind
   | true=>exact lV (FI hz h hb) _
end Go.Abs
-- check sums lie in 0 .. 2^32 - 1: plain laws
namespace Go.Abs
def vQ(x:Int):Prop:=0<=x/\x<4294967296
theorem M8{a b:Int}(ha:vQ a)(hb:vQ b):vQ (kU .i64 a b):=by
 obtain⟨n,rfl⟩:∃ n:Nat,a=n:=⟨a.toNat,by have:=ha.1;omega⟩
 obtain⟨m,rfl⟩:∃ m:Nat,b=m:=⟨b.toNat,by have:=hb.1;omega⟩
 have hn:n<2 ^ 32:=by have:=ha.2;omega
 have hm:m<2 ^ 32:=by have:=hb.2;omega
 unfold kU
 have h:(BitVec.ofInt i64.bits (n:Int) ^^^ BitVec.ofInt i64.bits (m:Int)).toNat<2 ^ 32:=by
  rw[BitVec.toNat_xor]
  have e1:(BitVec.ofInt i64.bits (n:Int)).toNat=n:=by
   rw[BitVec.toNat_ofInt];show((n:Int) % ((2 ^ 64:Nat):Int)).toNat=n;omega
  have e2:(BitVec.ofInt i64.bits (m:Int)).toNat=m:=by
   rw[BitVec.toNat_ofInt];show((m:Int) % ((2 ^ 64:Nat):Int)).toNat=m;omega
  rw[e1,e2];exact Nat.xor_lt_two_pow hn hm
 generalize (BitVec.ofInt i64.bits (n:Int) ^^^ BitVec.ofInt i64.bits (m:Int)).toNat=k at h
 have e:i64.wrap (k:Int)=k:=by rw[IntKind.wrap_i64];omega
 rw[e];exact⟨by omega,by omega⟩
theorem QJ{x:Int}(h:vQ x):vQ (tV x):=by
 have hd:0<=x.tdiv 2/\x.tdiv 2<4294967296:=by
  have h1:=h.1;have h2:=h.2
  rw[Int.tdiv_eq_ediv_of_nonneg h1];omega
 have hw:i64.wrap (x.tdiv 2)=x.tdiv 2:=by rw[IntKind.wrap_i64];omega
 unfold tV
 rw[hw]
 cases (x.tmod 2)==1 with
 | true=>exact M8 hd ⟨by omega,by omega⟩
 | false=>exact hd
theorem C7{x:Int}(h:vQ x):∀ k,vQ (iY k x)
 | 0=>h
 | k+1=>QJ (C7 h k)
theorem KN{bs:List aH}(h:∀ b∈bs,vQ b.1):∀ i,i<=bs.length->vQ (yH bs i)
 | 0,_=>⟨by show(0:Int)<=4294967295;omega,by show(4294967295:Int)<4294967296;omega⟩
 | i+1,hi=>by
  have hb:=h _ (cB (xs:=bs) (i:=i) (by omega))
  have hw:i64.wrap (gt bs i).1=(gt bs i).1:=by have h1:=hb.1;have h2:=hb.2;rw[IntKind.wrap_i64];omega
  show vQ (iY 8 (kU .i64 (yH bs i) (i64.wrap (gt bs i).1)))
  rw[hw]
  exact C7 (M8 (KN h i (by omega)) hb) 8
theorem QK{bs:List aH}(h:∀ b∈bs,vQ b.1):vQ (crc bs):=by
 unfold crc
 exact M8 (KN h _ (Nat.le_refl _)) ⟨by omega,by omega⟩
def B32(bs:List aH):Prop:=∀ b∈bs,vQ b.1
theorem B32.app{a b:List aH}(ha:B32 a)(hb:B32 b):B32 (a++b):=λx hx=>by
 rcases List.mem_append.1 hx with h | h
 ·exact ha x h
 ·exact hb x h
theorem B32.flat{α:Type}{f:α->List aH}(h:∀ x,B32 (f x))(xs:List α):B32 (xs.flatMap f):=λx hx=>by
 obtain⟨a,_,ha⟩:=List.mem_flatMap.1 hx
 exact h a x ha
theorem UB(n:Nat):B32 (hZ n):=by
 induction n using Nat.strongRecOn with
 | _ n ih=>
  unfold hZ
  split
  ·rename_i h
   intro b hb
   rw[List.mem_singleton.1 hb];exact⟨by omega,by omega⟩
  ·rename_i h
   intro b hb
   rcases List.mem_cons.1 hb with e | e
   ·rw[e];exact⟨by omega,by omega⟩
   ·exact ih (n / 128) (Nat.div_lt_self (by omega) (by omega)) b e
theorem gV(x:Int):B32 (aG x):=by
 unfold aG
 cases inB x 0 2147483647 with
 | false=>intro b hb;grind
 | true=>exact UB _
theorem LZ(t:ByteArray):B32 (dP t):=by
 unfold dP
 refine(gV _).app λb hb=>?_
 unfold fN eP at hb
 obtain⟨u,_,rfl⟩:=List.mem_map.1 hb
 have:=u.toNat_lt
 exact⟨by omega,by omega⟩
theorem QS(s:aE):B32 (bI s):=by
 unfold bI
 refine(((gV _).app (B32.flat (λx=>?_) _)).app (gV _)).app (B32.flat (λf=>?_) _)
 ·unfold aY;exact(((((gV _).app (gV _)).app (gV _)).app (gV _)).app (gV _)).app (LZ _)
 ·unfold aV;exact(gV _).app (gV _)
theorem E4{x:Int}(h:vQ x):inB (x.tmod 1024) 0 1023=true:=by
 rw[aM];have:=uG (x:=x) (n:=1024) h.1 (by omega);omega
theorem pH(s:aE)(k:Int):inB (iX s k) 0 1023=true:=by
 unfold iX
 cases aL s&&inB k 0 3 with
 | true=>exact E4 (QK (QS _))
 | false=>rfl
theorem NG{s:aE}(h:aL s=true):treeB (cG s)=true:=by
 unfold cG;rw[h]
 show treeB (dM s,lY (dM s),())=true
 have hr:inB (lY (dM s)) 0 1023=true:=E4 (QK (B32.flat (λx=>gV _) _))
 have hl:kL (dM s) 1023=true:=bD.2 λi hi=>by
  match i,hi with
  | 0,_=>exact pH s 0
  | 1,_=>exact pH s 1
  | 2,_=>exact pH s 2
  | 3,_=>exact pH s 3
 unfold treeB
 rw[hl,hr];rfl
end Go.Abs
-- states as points of a lattice: plain laws
namespace Go.Abs
-- comparing one after another
structure Cmp {α:Type} (c:α->α->Int):Prop where
 neg:∀ a b,c b a= - c a b
 eq:∀ a b,c a b=0->a=b
 tr:∀ a b d,c a b<=0->c b d<=0->c a d<=0
theorem Cmp.self{α:Type}{c:α->α->Int}(h:Cmp c)(a:α):c a a=0:=by have:=h.neg a a;omega
theorem Cmp.lex{α β:Type}{c:α->α->Int}{d:β->β->Int}(hc:Cmp c)(hd:Cmp d):Cmp (fun(a b:α×β)=>if c a.1 b.1≠0 then c a.1 b.1 else d a.2 b.2) where
 neg a b:=by
  show(if c b.1 a.1≠0 then c b.1 a.1 else d b.2 a.2)= -(if c a.1 b.1≠0 then c a.1 b.1 else d a.2 b.2)
  rw[hc.neg a.1 b.1,hd.neg a.2 b.2];omega
 eq a b h:=by
  have h:(if c a.1 b.1≠0 then c a.1 b.1 else d a.2 b.2)=0:=h
  by_cases h0:c a.1 b.1=0
  ·rw[if_neg (λg=>g h0)] at h
   exact Prod.ext (hc.eq _ _ h0) (hd.eq _ _ h)
  omega
 tr a b e h1 h2:=by
  have h1:(if c a.1 b.1≠0 then c a.1 b.1 else d a.2 b.2)<=0:=h1
  have h2:(if c b.1 e.1≠0 then c b.1 e.1 else d b.2 e.2)<=0:=h2
  show(if c a.1 e.1≠0 then c a.1 e.1 else d a.2 e.2)<=0
  have k2:c b.1 e.1<=0:=by
   omega
  by_cases h0:c a.1 b.1=0
  ·rw[if_neg (λg=>g h0)] at h1
   rw[hc.eq _ _ h0]
   by_cases g0:c b.1 e.1=0
   ·rw[if_neg (λg=>g g0)] at h2 ⊢;exact hd.tr _ _ _ h1 h2
   omega
  ·rw[if_pos h0] at h1
   have k3:=hc.tr _ _ _ h1 k2
   by_cases g0:c a.1 e.1=0
   ·have e1:=hc.eq _ _ g0
    rw[<- e1,hc.neg a.1 b.1] at k2;omega
   omega
theorem l2_cmp:Cmp l2 where
 neg:=AU
 eq a b h:=by
  unfold l2 at h
  grind
 tr a b d h1 h2:=by
  have key:∀ x y:Int,l2 x y<=0↔x<=y:=λx y=>by
   unfold l2
   grind
  rw[key] at h1 h2 ⊢;omega
theorem KC{x y:Int}(h:l2 x y<=0):x<=y:=by
 unfold l2 at h
 grind
theorem SS(x:Int):l2 x x=0:=l2_cmp.self x
theorem GX:∀ x y:List UInt8,Lib.compareBytes x y=0->x=y
 | [],[],_=>rfl
 | [],_::_,h=>by unfold Lib.compareBytes at h;omega
 | _::_,[],h=>by unfold Lib.compareBytes at h;omega
 | a::x,b::y,h=>by
  unfold Lib.compareBytes at h
  by_cases h1:a<b
  ·rw[if_pos h1] at h;omega
  ·rw[if_neg h1] at h
   by_cases h2:b<a
   ·rw[if_pos h2] at h;omega
   ·rw[if_neg h2] at h
    have e:a=b:=UInt8.toNat_inj.1 (by rw[UInt8.lt_iff_toNat_lt] at h1 h2;omega)
    rw[e,GX x y h]
theorem GW:∀ x y z:List UInt8,Lib.compareBytes x y<=0->Lib.compareBytes y z<=0->Lib.compareBytes x z<=0
 | [],_,[],_,_=>by unfold Lib.compareBytes;omega
 | [],_,_::_,_,_=>by unfold Lib.compareBytes;omega
 | _::_,[],_,h,_=>by unfold Lib.compareBytes at h;omega
 | _::_,_::_,[],_,h=>by unfold Lib.compareBytes at h;omega
 | a ::x,b::y,c::z,h1,h2=>by
  unfold Lib.compareBytes at h1 h2 ⊢
  simp only[UInt8.lt_iff_toNat_lt] at h1 h2 ⊢
  by_cases c1:a.toNat<b.toNat
  ·omega
  ·rw [if_neg c1] at h1
   by_cases c2:b.toNat<a.toNat
   ·rw[if_pos c2] at h1;omega
   ·rw[if_neg c2] at h1
    by_cases c3:b.toNat<c.toNat
    ·rw[if_pos (by omega)];omega
    ·rw[if_neg c3] at h2
     by_cases c4:c.toNat<b.toNat
     ·rw[if_pos c4] at h2;omega
     ·rw[if_neg c4] at h2
      rw[if_neg (by omega),if_neg (by omega)];exact GW x y z h1 h2
theorem QN:Cmp (fun(a b:ByteArray×Unit)=>I8 a.1 b.1) where
 neg a b:=wR _ _
 eq a b h:=by
  have h1:=GX _ _ h
  obtain⟨⟨⟨x⟩⟩,u⟩:=a
  simp_all
 tr a b d h1 h2:=GW _ _ _ h1 h2
theorem cmpE_cmp:Cmp jL:=l2_cmp.lex (l2_cmp.lex (l2_cmp.lex (l2_cmp.lex QN)))
def leE(a b:bA):Prop:=jL a b<=0
theorem nU(a:bA):leE a a:=Int.le_of_eq (cmpE_cmp.self a)
theorem MC{a b c:bA}(h1:leE a b)(h2:leE b c):leE a c:=cmpE_cmp.tr _ _ _ h1 h2
theorem MD(a b:bA):leE a b\/leE b a:=by unfold leE;have:=rK a b;omega
theorem pI{a b:bA}(h1:leE a b)(h2:leE b a):a=b:=cmpE_cmp.eq _ _ (by unfold leE at h1 h2;have:=rK a b;omega)
theorem mQ{a b:bA}(h:leE a b):a.1<=b.1:=by
 unfold leE jL at h
 by_cases h0:l2 a.1 b.1=0
 ·exact KC (by omega)
 ·rw[if_pos h0] at h;exact KC h
theorem PM{a b:bA}(h:leE a b)(e:a.1=b.1):a.2.1<=b.2.1:=by
 unfold leE jL at h
 rw[e,if_neg (λg=>g (SS _))] at h
 by_cases h0:l2 a.2.1 b.2.1=0
 ·exact KC (by omega)
 ·rw[if_pos h0] at h;exact KC h
theorem M6{e:bA}(h:1<=e.1):leE dN e:=by unfold leE;rw[wO h];omega
theorem F2(a b:bA):leE a (mxE a b):=by
 unfold mxE
 by_cases h:jL a b<0
 ·rw[decide_eq_true h];show jL a b<=0;omega
 ·rw[decide_eq_false h];exact nU a
theorem O6(a b:bA):leE b (mxE a b):=by
 unfold mxE
 by_cases h:jL a b<0
 ·rw[decide_eq_true h];exact nU b
 ·rw[decide_eq_false h];show jL b a<=0;rw[rK a b];omega
theorem H2(a b:bA):mxE a b=a\/mxE a b=b:=by
 unfold mxE;grind
theorem O7{a b:bA}(h:leE a b):mxE a b=b:=pI (by rcases H2 a b with e | e<;>rw[e];exact h;exact nU b) (O6 a b)
theorem J5{a b:bA}(h:leE b a):mxE a b=a:=pI (by rcases H2 a b with e | e<;>rw[e];exact nU a;omega) (F2 a b)
-- points
def ent(s:aE)(i:Int):bA:=(a9 s i).1
def flo(s:aE)(i:Int):Int:=cK s.2.1 i
structure Pt (e:bA) (f:Int):Prop where
 nn:0<=f
 up:e=dN\/f<e.1
def nrm(m:bA)(f:Int):bA:=if f<m.1 then m else dN
theorem hO:dN.1=0:=rfl
theorem MH{s:aE}(h:StateOk s){x:bE}(hx:x∈s.1):a9 s x.1=(x.2,true):=by
 rcases gG s x.1 with ⟨y,hy,h1,e⟩ | ⟨h1,_⟩
 ·have:y=x:=by
   obtain⟨i,hi,rfl⟩:=fW hx
   obtain⟨j,hj,rfl⟩:=fW hy
   have hp:=h.items
   rw[List.pairwise_iff_getElem] at hp
   rcases Nat.lt_trichotomy i j with h2 | h2 | h2
   ·have:=hp i j hi hj h2;rw[<- cU hi,<- cU hj] at this;omega
   ·rw[h2]
   ·have:=hp j i hj hi h2;rw[<- cU hi,<- cU hj] at this;omega
  rw[e,this]
 grind
theorem QD{s:aE}(h:StateOk s){x:bE}(hx:x∈s.1):ent s x.1=x.2:=by unfold ent;rw[MH h hx]
theorem GB{s:aE}(h:StateOk s){x:bE}(hx:x∈s.1):1<=x.2.1:=h.pos.item x hx
theorem n9{s:aE}(h:StateOk s)(i:Int):(1<=(ent s i).1/\(i,ent s i)∈s.1/\(a9 s i).2=true/\eA (ent s i)=true)\/(ent s i=dN/\(a9 s i).2=false):=by
 unfold ent
 rcases gG s i with ⟨x,hx,h1,e⟩ | ⟨h1,e⟩
 ·rw[e];subst h1;exact .inl ⟨GB h hx,hx,rfl,(h.item x hx).2.1⟩
 simp_all
theorem pU{s:aE}(h:StateOk s)(i:Int):Pt (ent s i) (flo s i):=by
 refine⟨(pN h i).1,?_⟩
 rcases n9 h i with ⟨_,h2,_⟩ | ⟨h2,_⟩
 ·exact .inr (h.item _ h2).2.2
 simp_all
theorem ET{α:Type}{k:α->Int}:∀ {a b:List α},a.Pairwise (λx y=>k x<k y)->b.Pairwise (λx y=>k x<k y)->(∀ x,x∈a↔x∈b)->a=b
 | [],[],_,_,_=>rfl
 | [],y::_,_,_,h=>by have:=(h y).2 (List.mem_cons_self ..);simp_all
 | x::_,[],_,_,h=>by have:=(h x).1 (List.mem_cons_self ..);simp_all
 | x::a,y::b,ha,hb,h=>by
  rw[List.pairwise_cons] at ha hb
  have e:x=y:=by
   grind
  subst e
  rw[ET ha.2 hb.2 λz=>⟨λhz=>?_,λhz=>?_⟩]
  ·grind
  grind
theorem nO{i:Int}(h:eF i=true):∃ k:Nat,k<5/\i=k:=by
 unfold eF at h;rw[aM] at h
 exact⟨i.toNat,by omega,by omega⟩
theorem NU{a b:aE}(ha:StateOk a)(hb:StateOk b)(h:∀ i:Nat,i<5->ent a i=ent b i/\flo a i=flo b i):a=b:=by
 have key:∀ {a b:aE},StateOk a->StateOk b->(∀ i:Nat,i<5->ent a i=ent b i/\flo a i=flo b i)->∀ x,x∈a.1->x∈b.1:=by
  intro a b ha hb h x hx
  obtain⟨k,hk,e⟩:=nO (ha.item x hx).1
  have h1:=(h k hk).1
  rw[<- e,QD ha hx] at h1
  rcases n9 hb x.1 with ⟨_,h2,_⟩ | ⟨h2,_⟩
  ·rw[<- h1] at h2;omega
  ·have:=GB ha hx;rw[h1,h2] at this;have:(1:Int)<=0:=this;omega
 have keyF:∀ {a b:aE},StateOk a->StateOk b->(∀ i:Nat,i<5->ent a i=ent b i/\flo a i=flo b i)->∀ x,x∈a.2.1->x∈b.2.1:=by
  intro a b ha hb h x hx
  obtain⟨k,hk,e⟩:=nO (ha.floor x hx).1
  have h1:=(h k hk).2
  have h3:flo a x.1=x.2.1:=EL ha hx
  have h4:=(ha.floor x hx).2
  rw[aM] at h4
  rw[<- e,h3] at h1
  rcases eO b x.1 with ⟨y,hy,h5,h6⟩ | ⟨_,h6⟩
  ·have h6:flo b x.1=y.2.1:=h6
   grind
  ·have h6:flo b x.1=0:=h6
   omega
 have h':∀ i:Nat,i<5->ent b i=ent a i/\flo b i=flo a i:=λi hi=>⟨(h i hi).1.symm,(h i hi).2.symm⟩
 refine Prod.ext (ET (k:=λx:bE=>x.1) ha.items hb.items λx=>⟨key ha hb h x,key hb ha h' x⟩) (Prod.ext (ET (k:=λx:aO=>x.1) ha.floors hb.floors λx=>⟨keyF ha hb h x,keyF hb ha h' x⟩) rfl)
theorem nZ{a b:aE}(ha:StateOk a){i:Nat}(hi:i<5):flo (c9 a b) i=max (flo a i) (flo b i):=by
 have hf:flr a b i=max (flo a i) (flo b i):=by unfold flr;rw[sQ];rfl
 have h0:=P7 (b:=b) ha.pos (i:Int)
 unfold flo
 rcases eO (c9 a b) i with ⟨x,hx,h1,e⟩ | ⟨h1,e⟩
 ·rw[e]
  obtain⟨j,_,hx⟩:=jU hx
  obtain⟨rfl,_⟩:=pL hx
  have:(j:Int)=(i:Int):=h1
  show flr a b (j:Int)=_
  rw[this];exact hf
 ·rw[e]
  by_cases h2:flr a b i>0
  ·refine absurd rfl (h1 ((i:Int),flr a b i,()) ?_)
   exact List.mem_flatMap.2 ⟨i,List.mem_range.2 hi,by rw[A0 h2];simp⟩
  ·show 0=max (flo a i) (flo b i)
   omega
theorem n8(a b:aE){i:Nat}(hi:i<5):ent (c9 a b) i=nrm (mxE (ent a i) (ent b i)) (max (flo a i) (flo b i)):=by
 have hf:flr a b i=max (flo a i) (flo b i):=by unfold flr;rw[sQ];rfl
 have hp:eU a b i=mxE (ent a i) (ent b i):=rfl
 rw[<- hf,<- hp]
 unfold ent nrm
 rcases gG (c9 a b) i with ⟨x,hx,h1,e⟩ | ⟨h1,e⟩
 ·rw[e]
  obtain⟨j,_,hx⟩:=jU hx
  obtain⟨rfl,h2⟩:=wG hx
  grind
 ·rw[e]
  by_cases h2:flr a b i<(eU a b i).1
  ·refine absurd rfl (h1 ((i:Int),eU a b i) ?_)
   exact List.mem_flatMap.2 ⟨i,List.mem_range.2 hi,by rw[iC rfl h2];simp⟩
  grind
-- the order of points
def LeP(e:bA)(f:Int)(e':bA)(f':Int):Prop:=f<=f'/\(e.1<=f'\/leE e e')
theorem LeP.refl(e:bA)(f:Int):LeP e f e f:=⟨Int.le_refl f,.inr (nU e)⟩
theorem LeP.trans{e f e' f' e'' f''}(h:LeP e f e' f')(h':LeP e' f' e'' f''):LeP e f e'' f'':=by
 refine⟨Int.le_trans h.1 h'.1,?_⟩
 rcases h.2 with h2 | h2
 ·exact .inl (Int.le_trans h2 h'.1)
 ·rcases h'.2 with h3 | h3
  ·exact .inl (Int.le_trans (mQ h2) h3)
  ·exact .inr (MC h2 h3)
theorem UI{m:bA}{f:Int}(h:Pt m f):nrm m f=m:=by
 unfold nrm
 rcases h.up with e | e
 ·simp_all
 simp_all
theorem KB{e f e' f'}(h:Pt e f)(h':Pt e' f'):(nrm (mxE e e') (max f f')=e'/\max f f'=f')↔LeP e f e' f':=by
 constructor
 ·rintro ⟨h1,h2⟩
  refine⟨by omega,?_⟩
  rw[h2] at h1
  by_cases h3:e.1<=f'
  ·omega
  ·have h4:=mQ (F2 e e')
   unfold nrm at h1
   rw[if_pos (by omega)] at h1
   exact .inr (by have:=F2 e e';rw[h1] at this;omega)
 ·rintro ⟨h1,h2⟩
  have hm:max f f'=f':=by omega
  rw[hm]
  refine⟨?_,rfl⟩
  by_cases hl:leE e e'
  ·rw[O7 hl];exact UI h'
  ·have h3:e.1<=f':=by simp_all
   have h4:leE e' e:=by rcases MD e e' with h4 | h4;exact absurd h4 hl;omega
   rw[J5 h4]
   unfold nrm
   rw[if_neg (by omega)]
   rcases h'.up with h5 | h5
   ·simp_all
   ·have:=mQ h4;omega
theorem IJ{e f e' f'}:LeP e f (nrm (mxE e e') (max f f')) (max f f'):=by
 refine⟨by omega,?_⟩
 by_cases h:e.1<=max f f'
 ·omega
 ·have h4:=mQ (F2 e e')
  unfold nrm;rw[if_pos (by omega)];exact .inr (F2 e e')
theorem II{e f e' f'}:LeP e' f' (nrm (mxE e e') (max f f')) (max f f'):=by
 refine⟨by omega,?_⟩
 by_cases h:e'.1<=max f f'
 ·omega
 ·have h4:=mQ (O6 e e')
  unfold nrm;rw[if_pos (by omega)];exact .inr (O6 e e')
theorem SR{e f e' f' e'' f''}(h0:0<=f'')(h:LeP e f e'' f'')(h':LeP e' f' e'' f''):LeP (nrm (mxE e e') (max f f')) (max f f') e'' f'':=by
 refine⟨by have:=h.1;have:=h'.1;omega,?_⟩
 unfold nrm
 split
 ·rcases H2 e e' with e1 | e1<;>rw[e1]
  ·exact h.2
  ·exact h'.2
 ·exact .inl h0
theorem EG{e f e' f'}(h:Pt e f)(h':Pt e' f')(h1:LeP e f e' f')(h2:LeP e' f' e f):e=e'/\f=f':=by
 have hf:f=f':=Int.le_antisymm h1.1 h2.1
 subst hf
 refine⟨?_,rfl⟩
 have hz:=h.nn
 rcases h.up with e0 | e0
 ·rcases h'.up with e1 | e1
  ·rw[e0,e1]
  ·rcases h2.2 with h3 | h3
   ·omega
   ·have:=mQ h3;rw[e0,hO] at this;omega
 ·rcases h1.2 with h3 | h3
  ·omega
  ·rcases h2.2 with h4 | h4
   ·have:=mQ h3;omega
   ·exact pI h3 h4
-- the order of states
structure Leq (a b:aE):Prop where
 oka:StateOk a
 okb:StateOk b
 le:∀ i:Nat,i<5->LeP (ent a i) (flo a i) (ent b i) (flo b i)
theorem PI{a b:aE}:SP a b=true↔Leq a b:=by
 unfold SP
 rw[Bool.and_eq_true,Bool.and_eq_true,iO,aN,aN]
 constructor
 ·rintro ⟨ha,hb,e⟩
  refine⟨ha,hb,λi hi=>(KB (pU ha _) (pU hb _)).1 ?_⟩
  rw[<- n8 a b hi,<- nZ ha hi,e];simp
 ·rintro ⟨ha,hb,h⟩
  refine⟨ha,hb,NU (ha.join hb) hb λi hi=>?_⟩
  rw[n8 a b hi,nZ ha hi]
  exact(KB (pU ha _) (pU hb _)).2 (h i hi)
theorem Leq.join{a b:aE}(h:Leq a b):c9 a b=b:=by
 have:=PI.2 h
 unfold SP at this
 rw[Bool.and_eq_true,Bool.and_eq_true,iO] at this
 simp_all
theorem Leq.refl{a:aE}(h:StateOk a):Leq a a:=⟨h,h,λi _=>LeP.refl _ _⟩
theorem Leq.trans{a b c:aE}(h:Leq a b)(h':Leq b c):Leq a c:=⟨h.oka,h'.okb,λi hi=>(h.le i hi).trans (h'.le i hi)⟩
theorem Leq.antisymm{a b:aE}(h:Leq a b)(h':Leq b a):a=b:=NU h.oka h.okb λi hi=>EG (pU h.oka _) (pU h.okb _) (h.le i hi) (h'.le i hi)
theorem Leq.left{a b:aE}(ha:StateOk a)(hb:StateOk b):Leq a (c9 a b):=⟨ha,ha.join hb,λi hi=>by rw[n8 a b hi,nZ ha hi];exact IJ⟩
theorem Leq.right{a b:aE}(ha:StateOk a)(hb:StateOk b):Leq b (c9 a b):=⟨hb,ha.join hb,λi hi=>by rw[n8 a b hi,nZ ha hi];exact II⟩
theorem Leq.lub{a b c:aE}(h:Leq a c)(h':Leq b c):Leq (c9 a b) c:=⟨h.oka.join h'.oka,h.okb,λi hi=>by rw[n8 a b hi,nZ h.oka hi];exact SR (pU h.okb _).nn (h.le i hi) (h'.le i hi)⟩
theorem IL{a b:aE}(ha:StateOk a)(hb:StateOk b):c9 a b=c9 b a:=
 Leq.antisymm (Leq.lub (Leq.right hb ha) (Leq.left hb ha)) (Leq.lub (Leq.right ha hb) (Leq.left ha hb))
theorem Leq.joinR{a b:aE}(h:Leq a b):c9 b a=b:=by rw[IL h.okb h.oka];exact h.join
theorem Leq.mono{a a' b b':aE}(h:Leq a a')(h':Leq b b'):Leq (c9 a b) (c9 a' b'):=Leq.lub (h.trans (Leq.left h.okb h'.okb)) (h'.trans (Leq.right h.okb h'.okb))
theorem F0:StateOk i9:=(aN _).1 y4
theorem Leq.nil{a:aE}(h:StateOk a):Leq i9 a:=⟨F0,h,λi _=>⟨(pU h _).nn,.inl (pU h _).nn⟩⟩
-- what is over at a point
def iS(e:bA)(f:Int):Int:=if 1<=e.1 then(if e.2.1=0 then e.1 - 1 else e.1)else f
theorem tR{e:bA}(h:eA e=true):1<=e.1/\e.1<=1000/\(e.2.1=0\/e.2.1=1):=by
 unfold eA at h;simp only[Bool.and_eq_true,aM] at h;omega
theorem vE{s:aE}(h:StateOk s)(i:Int):gone s i=iS (ent s i) (flo s i):=by
 unfold gone iS
 rw[(aN s).2 h]
 rcases n9 h i with ⟨h1,_,h3,h4⟩ | ⟨h2,h3⟩
 ·have h5:=tR h4
  rw[h3,if_pos h1]
  show(bif(ent s i).2.1==0 then i64.wrap ((ent s i).1 - 1)else(ent s i).1)=_
  rcases h5.2.2 with e | e
  ·rw[e,if_pos rfl];show i64.wrap ((ent s i).1 - 1)=_;rw[IntKind.wrap_i64];omega
  simp_all
 ·rw[h3,h2,if_neg (by rw[hO];omega)];rfl
theorem GI{e:bA}{f:Int}(h:¬ 1<=e.1):iS e f=f:=by unfold iS;rw[if_neg h]
theorem GH{e:bA}{f:Int}(h:1<=e.1)(h':e.2.1=0):iS e f=e.1 - 1:=by unfold iS;rw[if_pos h,if_pos h']
theorem GJ{e:bA}{f:Int}(h:1<=e.1)(h':e.2.1≠0):iS e f=e.1:=by unfold iS;rw[if_pos h,if_neg h']
theorem AZ{e:bA}{f:Int}(h:1<=e.1):e.1 - 1<=iS e f/\iS e f<=e.1:=by
 by_cases h':e.2.1=0
 ·rw[GH h h'];omega
 ·rw[GJ h h'];omega
theorem P0{e:bA}{f:Int}(h:Pt e f):f<=iS e f:=by
 by_cases h1:1<=e.1
 ·have h2:=AZ (f:=f) h1
  rcases h.up with h3 | h3
  ·rw[h3,hO] at h1;omega
  omega
 ·rw[GI h1];omega
theorem IU{e f e' f'}(h:Pt e f)(h':Pt e' f')(hr:e.1=e'.1->e.2.1≠0->e.2.1<=e'.2.1->e'.2.1≠0)(hl:LeP e f e' f'):iS e f<=iS e' f':=by
 have g:=P0 h'
 by_cases h1:1<=e.1
 ·have g1:=AZ (f:=f) h1
  rcases hl.2 with h2 | h2
  ·omega
  ·have h3:=mQ h2
   have h1':1<=e'.1:=by omega
   have g2:=AZ (f:=f') h1'
   by_cases h4:e.1=e'.1
   ·by_cases h6:e.2.1=0
    ·rw[GH h1 h6];omega
    ·rw[GJ h1' (hr h4 h6 (PM h2 h4))];omega
   omega
 ·rw[GI h1];have:=hl.1;omega
theorem Leq.gone{a b:aE}(h:Leq a b){i:Nat}(hi:i<5):gone a i<=Go.Abs.gone b i:=by
 rw[vE h.oka,vE h.okb]
 refine IU (pU h.oka _) (pU h.okb _) (λh1 h2 h3=>?_) (h.le i hi)
 rcases n9 h.oka i with ⟨_,_,_,h4⟩ | ⟨h4,_⟩
 ·have:=tR h4;omega
 ·rw[h4] at h2;exact absurd rfl h2
end Go.Abs
-- pruning, tables and taking done twice: plain laws
namespace Go.Abs
theorem OY(f:Int)(h:0<=f):nrm dN f=dN:=by unfold nrm;rw[if_neg (by rw[hO];omega)]
theorem I0(s:aE)(t:List bM){i:Nat}(hi:i<5):flo (fK s t) i=max 0 (min (hI t i) (gone s i)):=by
 have hm:mxI false (hI t i) (gone s i)=min (hI t i) (gone s i):=F1 _ _
 unfold flo
 rcases eO (fK s t) i with ⟨x,hx,h1,e⟩ | ⟨h1,e⟩
 ·rw[e]
  obtain⟨j,_,hx⟩:=jU hx
  unfold i7 at hx
  grind
 ·rw[e]
  by_cases h2:mxI false (hI t i) (gone s i)>0
  ·refine absurd rfl (h1 ((i:Int),mxI false (hI t i) (gone s i),()) ?_)
   exact List.mem_flatMap.2 ⟨i,List.mem_range.2 hi,by unfold i7;rw[decide_eq_true h2];simp⟩
  omega
theorem I3(s:aE)(t:List bM)(i:Int):ent (fK s t) i=dN:=by
 rfl
theorem A1(s:aE)(t:List bM):StateOk (fK s t):=(aN _).1 (qZ s t)
theorem uX{s:aE}(h:StateOk s)(t:List bM):prune s t=c9 s (fK s t):=by unfold prune;rw[(aN s).2 h];rfl
theorem v8{s:aE}(h:StateOk s)(t:List bM):StateOk (prune s t):=(aN _).1 (z5 ((aN s).2 h) t)
theorem MP{e:bA}{f g:Int}(h:Pt e f)(hr:1<=e.1->e.2.1=0\/e.2.1=1)(hg:g<=iS e f):iS (nrm (mxE e dN) (max f g)) (max f g)=iS e f:=by
 have h0:=h.nn
 rcases h.up with e0 | e1
 ·rw[e0,O7 (nU dN)]
  rw[OY _ (by omega)]
  rw[e0] at hg
  unfold iS at hg ⊢
  rw[if_neg (by rw[hO];omega)] at hg
  rw[if_neg (by rw[hO];omega),if_neg (by rw[hO];omega)];omega
 ·rw[J5 (M6 (by omega))]
  unfold nrm
  have h1:1<=e.1:=by omega
  have hgo:iS e f=if e.2.1=0 then e.1 - 1 else e.1:=by unfold iS;rw[if_pos h1]
  by_cases hc:max f g<e.1
  ·rw[if_pos hc,hgo];unfold iS;rw[if_pos h1]
  ·rw[if_neg hc]
   rw[hgo] at hg ⊢
   unfold iS;rw[if_neg (by rw[hO];omega)]
   omega
theorem QC{s:aE}(h:StateOk s)(i:Int):1<=(ent s i).1->(ent s i).2.1=0\/(ent s i).2.1=1:=by
 intro h1
 rcases n9 h i with ⟨_,_,_,h4⟩ | ⟨h4,_⟩
 ·exact(tR h4).2.2
 ·rw[h4,hO] at h1;omega
theorem AY{s:aE}(h:StateOk s)(t:List bM){i:Nat}(hi:i<5):gone (prune s t) i=gone s i:=by
 have hg:=SW ((aN s).2 h) (i:Int)
 rw[vE (v8 h t),uX h,n8 _ _ hi,nZ h hi,I3,I0 s t hi,vE h]
 rw[vE h] at hg
 exact MP (pU h _) (QC h _) (by omega)
theorem t8{α:Type}{g g':Nat->List α}:∀ {n:Nat},(∀ i,i<n->g i=g' i)->bW n g=bW n g'
 | 0,_=>rfl
 | n+1,h=>by rw[eB,eB,t8 (n:=n) λi hi=>h i (by omega),h n (by omega)]
theorem A3{s s':aE}(t:List bM)(h:∀ i:Nat,i<5->gone s i=gone s' i):fK s t=fK s' t:=by
 have:bW 5 (i7 s t)=bW 5 (i7 s' t):=t8 λi hi=>by unfold i7;rw[h i hi]
 unfold fK;rw[this]
theorem BZ{s s':aE}(h:∀ i:Nat,i<5->gone s i=gone s' i):c8 s=c8 s':=by
 unfold c8;exact t8 λi hi=>by unfold kX;rw[h i hi]
theorem FT{s:aE}(h:StateOk s)(t:List bM):prune (prune s t) t=prune s t:=by
 have hp:=v8 h t
 rw[uX hp,A3 (s:=prune s t) (s':=s) t λi hi=>AY h t hi]
 refine Leq.joinR ?_
 rw[uX h];exact Leq.right h (A1 s t)
theorem L1{s:aE}(h:StateOk s)(t:List bM):Leq s (prune s t):=by rw[uX h];exact Leq.left h (A1 s t)
theorem F6{s:aE}(h:StateOk s)(t:List bM):c8 (prune s t)=c8 s:=BZ λi hi=>AY h t hi
-- rows that hold marks already
def QX(t:List bM)(k j:Nat):Int:=(gt (gt t k).1 j).1
def Cov(t:List bM)(k:Int)(ms:List aO):Prop:=∀ i,i<ms.length->(gt ms i).2.1<=QX t k.toNat (gt ms i).1.toNat
def DoneT(t:List bM)(k:Int)(ms:List aO):Prop:=pT t k ms=true->Cov t k ms
theorem JN{t t':List bM}(hl:t.length=t'.length)(hr:∀ j,(gt t j).1.length=(gt t' j).1.length)(k:Int)(ms:List aO):pT t k ms=pT t' k ms:=by
 unfold pT;rw[hl,hr]
theorem G7(t:List bM)(k k':Int)(ms ms':List aO):pT (bL t k' ms') k ms=pT t k ms:=
 JN (c7 t k' ms') (λj=>eX t k' ms' j) k ms
theorem G4(r:bM)(ms:List aO):∀ i j,(gt r.1 j).1<=(gt (kR r ms i).1 j).1
 | 0,_=>Int.le_refl _
 | i+1,j=>by
  have ih:=G4 r ms i j
  show _<=(gt (List.set (kR r ms i).1 (gt ms i).1.toNat (mxI true (gt (kR r ms i).1 (gt ms i).1.toNat).1 (gt ms i).2.1,())) j).1
  rcases Nat.lt_or_ge (gt ms i).1.toNat (kR r ms i).1.length with h | h
  ·by_cases e:(gt ms i).1.toNat=j
   ·rw[e] at h ⊢
    rw[bX h]
    show _<=mxI true _ _
    rw[sQ];omega
   ·rw[dZ e];omega
  ·rw[List.set_eq_of_length_le h];omega
theorem w9(r:bM){ms:List aO}(h:∀ i,i<ms.length->(gt ms i).1.toNat<r.1.length):∀ n,n<=ms.length->∀ i,i<n->(gt ms i).2.1<=(gt (kR r ms n).1 (gt ms i).1.toNat).1
 | 0,_,_,hi=>by omega
 | n+1,hn,i,hi=>by
  show _<=(gt (List.set (kR r ms n).1 (gt ms n).1.toNat (mxI true (gt (kR r ms n).1 (gt ms n).1.toNat).1 (gt ms n).2.1,())) (gt ms i).1.toNat).1
  have hl:(gt ms n).1.toNat<(kR r ms n).1.length:=by rw[oH];grind
  by_cases e:(gt ms n).1.toNat=(gt ms i).1.toNat
  ·rw[e] at hl ⊢
   rw[bX hl]
   show _<=mxI true _ _
   rw[sQ]
   by_cases c:i=n
   ·grind
   ·have:=w9 r h n (by omega) i (by omega);omega
  ·rw[dZ e]
   exact w9 r h n (by omega) i (by
    grind)
theorem G3{r:bM}{ms:List aO}(h:∀ i,i<ms.length->(gt ms i).2.1<=(gt r.1 (gt ms i).1.toNat).1):∀ n,n<=ms.length->kR r ms n=r
 | 0,_=>rfl
 | n+1,hn=>by
  show DZ (kR r ms n) (gt ms n)=r
  rw[G3 h n (by omega)]
  have:=h n (by omega)
  unfold DZ
  rw[sQ,show max (gt r.1 (gt ms n).1.toNat).1 (gt ms n).2.1=(gt r.1 (gt ms n).1.toNat).1 by omega]
  show(r.1.set (gt ms n).1.toNat (gt r.1 (gt ms n).1.toNat),())=r
  rw[tB]
structure AddOk (t:List bM) (k:Int) (ms:List aO):Prop where
 kn:k.toNat<t.length
 mok:eM ms=true
 row:5<=(gt t k.toNat).1.length
theorem Q2{t:List bM}{k:Int}{ms:List aO}(hl:t.length<=aP)(h:pT t k ms=true):AddOk t k ms:=by
 unfold pT at h
 simp only[Bool.and_eq_true,Bool.not_eq_true',decide_eq_false_iff_not] at h
 exact⟨(y8 hl h.1).1,h.2.1,by omega⟩
theorem AddOk.ids{t:List bM}{k:Int}{ms:List aO}(h:AddOk t k ms):∀ i,i<ms.length->(gt ms i).1.toNat<(gt t k.toNat).1.length:=λi hi=>by
 have h1:=u7 h.mok hi;have h2:=h.row;omega
theorem Q1{t:List bM}(hl:t.length<=aP)(k:Int)(ms:List aO):DoneT (bL t k ms) k ms:=by
 intro hb
 rw[G7] at hb
 have ho:=Q2 hl hb
 intro i hi
 unfold QX bL
 rw[hb]
 show _<=(gt (gt (cT t k.toNat ms ms.length) k.toNat).1 _).1
 unfold cT
 rw[bX ho.kn]
 exact w9 _ ho.ids _ (Nat.le_refl _) i hi
theorem UZ(t:List bM)(k:Int)(ms:List aO)(q j:Nat):QX t q j<=QX (bL t k ms) q j:=by
 unfold QX bL
 cases pT t k ms with
 | false=>simp
 | true=>
  show _<=(gt (gt (cT t k.toNat ms ms.length) q).1 j).1
  unfold cT
  rcases Nat.lt_or_ge k.toNat t.length with h | h
  ·by_cases e:k.toNat=q
   ·subst e;rw[bX h];exact G4 _ _ _ _
   ·rw[dZ e];omega
  ·rw[List.set_eq_of_length_le h];omega
theorem DoneT.add{t:List bM}{k:Int}{ms:List aO}(h:DoneT t k ms)(k':Int)(ms':List aO):DoneT (bL t k' ms') k ms:=λhb i hi=>by
 rw[G7] at hb
 exact Int.le_trans (h hb i hi) (UZ t k' ms' _ _)
theorem DoneT.eq{t:List bM}{k:Int}{ms:List aO}(h:DoneT t k ms):bL t k ms=t:=by
 unfold bL
 cases hb:pT t k ms with
 | false=>rfl
 | true=>
  show cT t k.toNat ms ms.length=t
  unfold cT
  rw[G3 (h hb) _ (Nat.le_refl _)]
  exact tB
-- vectors that are raised already
theorem EY(v:List aH)(k n:Int)(j:Nat):(gt v j).1<=(gt (cV v k n) j).1:=by
 rcases p6 v k n j with e | e<;>rw[e]<;>omega
-- rises that are up to date
def RisesUp(rs:List jZ)(xs:List bE):Prop:=∀ i,i<xs.length->qK (gt rs (gt xs i).1.toNat) (gt xs i).2=false
theorem LO(clock:Int)(r:jZ)(e:bA):qK (m7 clock r e) e=false:=by
 unfold m7
 cases h:qK r e with
 | false=>grind
 | true=>unfold qK;simp
theorem RisesUp.eq{clock:Int}{rs:List jZ}{xs:List bE}(h:RisesUp rs xs):∀ n,n<=xs.length->dI clock rs xs n=rs
 | 0,_=>rfl
 | n+1,hn=>by
  show(dI clock rs xs n).set (gt xs n).1.toNat (m7 clock (gt (dI clock rs xs n) (gt xs n).1.toNat) (gt xs n).2)=rs
  rw[h.eq n (by omega)]
  unfold m7
  rw[h n (by omega)]
  exact tB
theorem CG{clock:Int}{rs:List jZ}{xs:List bE}(hl:∀ i,i<xs.length->(gt xs i).1.toNat<rs.length)(hd:∀ i j,i<j->j<xs.length->(gt xs i).1.toNat≠(gt xs j).1.toNat):
  ∀ n,n<=xs.length->∀ i,i<n->qK (gt (dI clock rs xs n) (gt xs i).1.toNat) (gt xs i).2=false
 | 0,_,_,hi=>by omega
 | n+1,hn,i,hi=>by
  show qK (gt ((dI clock rs xs n).set (gt xs n).1.toNat (m7 clock (gt (dI clock rs xs n) (gt xs n).1.toNat) (gt xs n).2)) (gt xs i).1.toNat) (gt xs i).2=false
  by_cases c:i=n
  ·subst c
   rw[bX (by rw[gT];grind)]
   exact LO _ _ _
  ·rw[dZ (λe=>hd i n (by omega) (by omega) e.symm)]
   exact CG hl hd n (by omega) i (by omega)
theorem MG{s:aE}(h:StateOk s):(∀ i,i<s.1.length->(gt s.1 i).1.toNat<5)/\∀ i j,i<j->j<s.1.length->(gt s.1 i).1.toNat≠(gt s.1 j).1.toNat:=by
 refine⟨λi hi=>?_,λi j hij hj e=>?_⟩
 ·obtain⟨k,hk,e⟩:=nO (h.item _ (cB hi)).1;omega
 ·obtain⟨k,hk,e1⟩:=nO (h.item _ (cB (i:=i) (by omega))).1
  obtain⟨k',hk',e2⟩:=nO (h.item _ (cB hj)).1
  have hp:=h.items
  rw[List.pairwise_iff_getElem] at hp
  have:=hp i j (by omega) hj hij
  rw[<- cU (by omega),<- cU hj] at this
  omega
-- a node at rest
structure Rest (x:NodeT):Prop where
 ok:StateOk x.state
 seen:DoneT x.seen x.1 (c8 x.state)
 prune:prune x.state x.seen=x.state
 tree:cG x.state=x.tree
 rises:RisesUp x.rises x.state.1
theorem Rest.take{x:NodeT}(h:Rest x){s:aE}(hs:Leq s x.state):jM x s=x:=by
 have e1:c9 x.state s=x.state:=hs.joinR
 have e2:tkS x s=x.seen:=by unfold tkS;rw[e1];exact h.seen.eq
 have e3:tkP x s=x.state:=by unfold tkP;rw[e2,e1];exact h.prune
 have e4:tkR x s=x.rises:=by unfold tkR;rw[e3];exact h.rises.eq _ (Nat.le_refl _)
 unfold jM
 rw[e2,e4,e3,h.tree]
theorem HE{x:NodeT}(h:NodeOk x)(hl:x.seen.length<=aP){s:aE}(hs:StateOk s):Rest (jM x s):=by
 have hx:=(aN _).1 h.state
 have hj:=hx.join hs
 have e:(jM x s).state=tkP x s:=rfl
 have hm:c8 (tkP x s)=c8 (c9 x.state s):=F6 hj _
 have hp:StateOk (tkP x s):=v8 hj _
 refine⟨hp,?_,?_,rfl,?_⟩
 ·show DoneT (tkS x s) x.1 (c8 (tkP x s))
  rw[hm];exact Q1 hl _ _
 ·show prune (tkP x s) (tkS x s)=tkP x s
  exact FT hj _
 ·show RisesUp (tkR x s) (tkP x s).1
  have hi:=MG hp
  have hr:=h.rises
  rw[beq_iff_eq] at hr
  exact λi hi'=>CG (λi hi''=>by grind) hi.2 _ (Nat.le_refl _) i hi'
theorem K1{x:NodeT}(h:NodeOk x){s:aE}(hs:StateOk s):Leq x.state (jM x s).state/\Leq s (jM x s).state:=by
 have hx:=(aN _).1 h.state
 have hj:=hx.join hs
 have hp:Leq (c9 x.state s) (jM x s).state:=L1 hj _
 exact⟨(Leq.left hx hs).trans hp,(Leq.right hx hs).trans hp⟩
-- hearing twice
structure Heard (x:NodeT) (m:MsgT):Prop where
 rest:Rest x
 acked:cV x.acked m.2.1 (mxI false (gt m.vec x.1.toNat).1 (cA x.log))=x.acked
 seen:DoneT x.seen m.2.1 m.marks
theorem Heard.eq{x:NodeT}{m:MsgT}(h:Heard x m):eC x m=x:=by
 have e:heard0 x m=x:=by
  unfold heard0
  rw[h.acked,h.seen.eq]
 unfold eC
 rw[e];exact h.rest.take (Leq.nil h.rest.ok)
theorem Heard.take{x:NodeT}{m:MsgT}(h:Heard x m)(ho:NodeOk x)(hl:x.seen.length<=aP){s:aE}(hs:StateOk s):Heard (jM x s) m:=
 ⟨HE ho hl hs,h.acked,h.seen.add _ _⟩
theorem Heard.gotUp{x:NodeT}{m:MsgT}(h:Heard x m):Heard (gotUp x m) m:=⟨⟨h.rest.ok,h.rest.seen,h.rest.prune,h.rest.tree,h.rest.rises⟩,h.acked,h.seen⟩
end Go.Abs
-- receiving twice, and what receiving keeps: plain laws
namespace Go.Abs
-- what receiving keeps
def VLe(a b:List aH):Prop:=a.length=b.length/\∀ i,(gt a i).1<=(gt b i).1
theorem VLe.refl(a:List aH):VLe a a:=⟨rfl,λ_=>Int.le_refl _⟩
theorem VLe.trans{a b c:List aH}(h:VLe a b)(h':VLe b c):VLe a c:=⟨h.1.trans h'.1,λi=>Int.le_trans (h.2 i) (h'.2 i)⟩
theorem VLe.raise(v:List aH)(k n:Int):VLe v (cV v k n):=⟨(fT v k n).symm,EY v k n⟩
structure Kept (x y:NodeT):Prop where
 state:Leq x.state y.state
 got:VLe x.got y.got
 acked:VLe x.acked y.acked
theorem NodeOk.st{x:NodeT}(h:NodeOk x):StateOk x.state:=(aN _).1 h.state
theorem Kept.refl{x:NodeT}(h:NodeOk x):Kept x x:=⟨Leq.refl h.st,VLe.refl _,VLe.refl _⟩
theorem Kept.trans{x y z:NodeT}(h:Kept x y)(h':Kept y z):Kept x z:=⟨h.state.trans h'.state,h.got.trans h'.got,h.acked.trans h'.acked⟩
theorem Kept.take{x:NodeT}(h:NodeOk x){s:aE}(hs:StateOk s):Kept x (jM x s):=⟨(K1 h hs).1,VLe.refl _,VLe.refl _⟩
theorem Kept.heard{x:NodeT}(h:NodeOk x)(m:MsgT):Kept x (eC x m):=
 Kept.trans (y:=heard0 x m) ⟨Leq.refl h.st,VLe.refl _,VLe.raise _ _ _⟩ (Kept.take (h.heard0 m) F0)
theorem Kept.brought{x:NodeT}(h:NodeOk x){m:MsgT}(hp:aL m.part=true):Kept x (dY x m):=by
 have h1:=(Kept.heard h m).trans (Kept.take (h.heard m) ((aN _).1 hp))
 exact⟨h1.state,h1.got.trans (VLe.raise _ _ _),h1.acked⟩
theorem Kept.with{x:NodeT}(h:NodeOk x)(ss:List eI):Kept x (withS x ss):=⟨Leq.refl h.st,VLe.refl _,VLe.refl _⟩
-- what is answered
theorem N6{a b:List aH}(h:gA a b=true):a=b:=by
 unfold gA at h
 simp only[Bool.and_eq_true,beq_iff_eq,bD] at h
 exact I2 (by omega) λi hi=>Prod.ext (by simp_all) rfl
theorem NodeOk.treeB{x:NodeT}(h:NodeOk x):treeB x.tree=true:=by
 have h1:=h.tree
 unfold uE at h1
 rw[Bool.and_eq_true] at h1
 have e1:x.tree.1=(cG x.state).1:=N6 h1.1
 have e2:x.tree.2.1=(cG x.state).2.1:=eq_of_beq h1.2
 have e:x.tree=cG x.state:=Prod.ext e1 (Prod.ext e2 rfl)
 rw[e];exact NG h.state
theorem HA{v:List aH}{n:Int}(h:eD v n=true):kL v 100000=true/\(v.length:Int)=n/\1<=n/\n<=5:=by
 unfold eD at h
 simp only[Bool.and_eq_true,beq_iff_eq,aM] at h
 exact⟨h.2.2,h.2.1,h.1⟩
def SQ(v:List aH):Bool:=bJ v.length (xV v)
/-- A message that a right node writes is right. -/
theorem NodeOk.says {x:NodeT} (h:NodeOk x) {k to num:Int} {tree:kS} {leaves:List aH} {part:aE} (hk:0<=k/\k<=5) (ht:0<=to/\to<=4/\to≠x.1) (hn:inB num 0 100000=true)
  (hT:Go.Abs.treeB tree=true) (hl:SQ leaves=true) (hp:aL part=true):
  dR (k,x.1,to,num,cA x.log,tree.1,tree.2.1,x.got,leaves,part.1,part.2.1,c8 x.state,())=true:=by
 have hv:=HA h.got
 have hid:=h.id
 have hl2:=CU h.log
 rw[aM,IntKind.wrap_i64] at hid
 rw[aM] at hn
 unfold dR pF eF
 simp only[Bool.and_eq_true,aM,Bool.not_eq_true',beq_eq_false_iff_ne,decide_eq_true_eq]
 exact⟨⟨hk,by omega,by omega,λe=>ht.2.2 e.symm⟩,hl,hv.1,hn,hl2,hT,by simp_all,hp,H5 _⟩
structure Ans (x:NodeT) (m q:MsgT):Prop where
 ok:dR q=true
 frm:q.2.1=x.1
 to:q.2.2.1=m.2.1
 num:q.2.2.2.1=m.2.2.2.1
theorem RecOk.peer{x:NodeT}{m:MsgT}(h:RecOk x m):0<=m.2.1/\m.2.1<=4/\m.2.1≠x.1:=by
 have h1:=h.frm;have h2:=h.idn;exact⟨by omega,by omega,h.ne⟩
-- vectors compared
def atV(v:List aH)(i:Int):Int:=bif inB i 0 (i64.wrap ((v.length:Int) - 1))then(gt v i.toNat).1 else 0
def NE(a b:List aH):Bool:=bJ a.length λi=> !decide ((gt a i).1>atV b (i:Int))
theorem VLe.leq{a b:List aH}(h:VLe a b)(hl:b.length<=aP):NE a b=true:=by
 unfold NE;rw[bD]
 intro i hi
 have h1:=h.1;have h2:=h.2 i
 unfold atV
 rw[aM.2 (by rw[IntKind.wrap_i64];unfold aP at hl;omega)]
 simp_all
end Go.Abs
namespace Go.Abs
open Go
-- a number read back: what lies at place i of b, five bytes at most
def tN(b:List aH)(i:Nat):Nat->Nat->Nat->Option (Nat×Nat)
 | 0,_,_=>none
 | n+1,k,acc=>
  if i+k<b.length then
   if 128<=(gt b (i+k)).1.toNat then tN b i n (k+1) (acc+(gt b (i+k)).1.toNat % 128*128 ^ k)
   else if 0<k/\(gt b (i+k)).1.toNat=0 then none
   else if acc+(gt b (i+k)).1.toNat*128 ^ k>2147483647 then none
   else some (acc+(gt b (i+k)).1.toNat*128 ^ k,i+k+1)
  else none
def qY(b:List aH)(i:Nat):Option (Nat×Nat):=tN b i 5 0 0
theorem IT(u v:List aH)(x:aH):gt (u++x::v) u.length=x:=by
 rw[cU (by simp)];simp
theorem P3(v:List aH):∀ (m n k acc i:Nat) (u:List aH),n<128 ^ (m+1)->(0<k->0<n)->acc+n*128 ^ k<=2147483647->i+k=u.length->
  tN (u++hZ n++v) i (m+1) k acc=some (acc+n*128 ^ k,i+k+(hZ n).length):=by
 intro m
 induction m with
 | zero=>
  intro n k acc i u h h0 hb hi
  have hn:n<128:=by omega
  have e:hZ n=[((n:Int),())]:=by unfold hZ;rw[dif_pos hn]
  rw[e]
  have eg:gt (u++[((n:Int),())]++v) (i+k)=((n:Int),()):=by rw[hi,List.append_assoc];exact IT u v _
  unfold tN
  rw[eg,if_pos (by rw[hi];simp)]
  grind
 | succ m ih=>
  intro n k acc i u h h0 hb hi
  by_cases hn:n<128
  ·have e:hZ n=[((n:Int),())]:=by unfold hZ;rw[dif_pos hn]
   rw[e]
   have eg:gt (u++[((n:Int),())]++v) (i+k)=((n:Int),()):=by rw[hi,List.append_assoc];exact IT u v _
   unfold tN
   rw[eg,if_pos (by rw[hi];simp)]
   grind
  ·have e:hZ n=(((n % 128+128:Nat):Int),())::hZ (n / 128):=by conv=>lhs;unfold hZ;rw[dif_neg hn]
   have hm:n % 128*128 ^ k+n / 128*128 ^ (k+1)=n*128 ^ k:=by
    have:=Nat.mod_add_div n 128
    rw[Nat.pow_succ,show n / 128*(128 ^ k*128)=128*(n / 128)*128 ^ k by ac_rfl,<- Nat.add_mul,this]
   have eb:u++hZ n++v=(u++[(((n % 128+128:Nat):Int),())])++hZ (n / 128)++v:=by rw[e];simp
   have eg:gt (u++hZ n++v) (i+k)=(((n % 128+128:Nat):Int),()):=by rw[hi,e,List.append_assoc];exact IT u _ _
   have hl:i+k<(u++hZ n++v).length:=by rw[e,hi];simp
   have ih':=ih (n / 128) (k+1) (acc+n % 128*128 ^ k) i (u++[(((n % 128+128:Nat):Int),())]) (by rw[Nat.pow_succ] at h;omega) (λ_=>by omega) (by omega) (by rw[List.length_append,List.length_singleton];omega)
   rw[<- eb] at ih'
   unfold tN
   rw[if_pos hl,eg]
   grind
theorem IV(u v:List aH){n:Nat}(h:n<=2147483647):qY (u++hZ n++v) u.length=some (n,u.length+(hZ n).length):=by
 have:=P3 v 4 n 0 0 u.length u (by omega) (λh=>absurd h (by omega)) (by omega) rfl
 unfold qY;rw[this];simp
end Go.Abs
namespace Go.Abs
open Go
theorem SX{b:List aH}{i:Nat}:∀ (n k acc:Nat) {x j:Nat},tN b i n k acc=some (x,j)->x<=2147483647/\j<=b.length/\i+k<j:=by
 intro n
 induction n with
 | zero=>intro k acc x j h;unfold tN at h;simp_all
 | succ n ih=>
  intro k acc x j h
  unfold tN at h
  grind
theorem yQ{n:Nat}(h:n<9223372036854775808):i64.wrap (n:Int)=(n:Int):=by
 rw[IntKind.wrap_i64];omega
theorem M9{k:Nat}(hk:k<5):i64.wrap ((7:Int)*(k:Int))=((7*k:Nat):Int):=by
 rw[IntKind.wrap_i64];omega
theorem JV{x k:Nat}(hx:x<128)(hk:k<5):uM i64 (x:Int) (i64.wrap ((7:Int)*(k:Int)))=((x*128 ^ k:Nat):Int):=by
 rw[M9 hk]
 unfold uM
 rw[Int.toNat_natCast]
 have h:k=0\/k=1\/k=2\/k=3\/k=4:=by omega
 rcases h with rfl | rfl | rfl | rfl | rfl
 ·rw[show(2:Int) ^ (min (7*0) i64.bits)=1 by decide,IntKind.wrap_i64];omega
 ·rw[show(2:Int) ^ (min (7*1) i64.bits)=128 by decide,IntKind.wrap_i64];omega
 ·rw[show(2:Int) ^ (min (7*2) i64.bits)=16384 by decide,IntKind.wrap_i64];omega
 ·rw[show(2:Int) ^ (min (7*3) i64.bits)=2097152 by decide,IntKind.wrap_i64];omega
 ·rw[show(2:Int) ^ (min (7*4) i64.bits)=268435456 by decide,IntKind.wrap_i64];omega
theorem uF(x:Nat):((x:Int)).tmod 128=((x % 128:Nat):Int):=by
 rw[Int.tmod_eq_emod_of_nonneg (by omega)];omega
theorem UC{k:Nat}(hk:k<5):128 ^ k<=268435456:=by
 have h:k=0\/k=1\/k=2\/k=3\/k=4:=by omega
 rcases h with rfl | rfl | rfl | rfl | rfl<;>decide
theorem UF{a x k:Nat}(ha:a<128 ^ k)(hx:x<128)(hk:k<5):orI i64 (a:Int) ((x*128 ^ k:Nat):Int)=((a+x*128 ^ k:Nat):Int):=by
 have hp:=UC hk
 have hm:x*128 ^ k<=127*268435456:=Nat.mul_le_mul (by omega) hp
 unfold orI
 have e:(BitVec.ofInt i64.bits (a:Int)||| BitVec.ofInt i64.bits ((x*128 ^ k:Nat):Int)).toNat=a+x*128 ^ k:=by
  rw[BitVec.toNat_or,BitVec.ofInt_natCast,BitVec.ofInt_natCast,BitVec.toNat_ofNat,BitVec.toNat_ofNat]
  rw[Nat.mod_eq_of_lt (show a<2 ^ i64.bits by show a<2 ^ 64;omega),Nat.mod_eq_of_lt (show x*128 ^ k<2 ^ i64.bits by show x*128 ^ k<2 ^ 64;omega)]
  have h2:128 ^ k=2 ^ (7*k):=by rw[Nat.pow_mul]
  rw[h2] at ha ⊢
  rw[Nat.or_comm,Nat.mul_comm x,<- Nat.two_pow_add_eq_or_of_lt ha];omega
 rw[e];exact yQ (by omega)
theorem Q3{a x k:Nat}(ha:a<128 ^ k):a+x % 128*128 ^ k<128 ^ (k+1):=by
 have h:x % 128<128:=Nat.mod_lt _ (by omega)
 have h2:x % 128*128 ^ k<=127*128 ^ k:=Nat.mul_le_mul (by omega) (Nat.le_refl _)
 rw[Nat.pow_succ];omega
end Go.Abs
/- Plain laws: worlds compared. -/
namespace Go.Abs
def iQ{α:Type}(a b:List α):Bool:=(a.length:Int)==(b.length:Int)
theorem sI{α:Type}{a b:List α}:iQ a b=true↔a.length=b.length:=by unfold iQ;rw[beq_iff_eq];omega
def qH{α:Type}[Inhabited α](f:α->α->Bool)(a b:List α):Bool:=iQ a b&&bJ a.length λi=>f (gt a i) (gt b i)
def bU(a b:List aH):Bool:=ByteArray.toList (cF a)==ByteArray.toList (cF b)
def wD(a b:bM):Bool:=gA a.1 b.1
def rE(x y:eI):Bool:=gD x.1 y.1&&(gD x.2.1 y.2.1&&(rP x.2.2.1 y.2.2.1&&(gD x.2.2.2.1 y.2.2.2.1&&true)))
def nF(x y:jZ):Bool:=gD x.1 y.1&&(gD x.2.1 y.2.1&&(gD x.2.2.1 y.2.2.1&&true))
def DL(a b:kS):Bool:=gA a.1 b.1&&a.2.1==b.2.1
def AQ(a b:fZ):Bool:=a.1==b.1&&(a.2.1==b.2.1&&qH eW a.2.2.1 b.2.2.1)
def AC(a b:NodeT):Bool:=a.1==b.1&&(a.2.1==b.2.1&&(a.num==b.num&&(a.slots==b.slots&&(a.wait==b.wait&&(a.limit==b.limit&&(a.clock==b.clock&&(qH wD a.seen b.seen&&(eW a.state b.state&&(DL a.tree b.tree&&(AQ a.log b.log&&(gA a.got b.got&&(gA a.acked b.acked&&(qH rE a.sess b.sess&&qH nF a.rises b.rises)))))))))))))
def y3(a b:NodeT):Bool:=a.1==b.1&&(a.2.1==b.2.1&&(eW a.state b.state&&(DL a.tree b.tree&&(AQ a.log b.log&&(gA a.got b.got&&(gA a.acked b.acked&&(iQ a.seen b.seen&&(a.num==b.num&&(a.slots==b.slots&&(a.wait==b.wait&&(a.limit==b.limit&&(a.clock==b.clock&&(iQ a.sess b.sess&&(iQ a.rises b.rises&&
 (bJ a.seen.length (λi=>wD (gt a.seen i) (gt b.seen i))&&(bJ a.sess.length (λi=>rE (gt a.sess i) (gt b.sess i))&&bJ a.rises.length λi=>nF (gt a.rises i) (gt b.rises i)))))))))))))))))
theorem O1(a b:NodeT):y3 a b=AC a b:=by
 unfold y3 AC qH;ac_rfl
end Go.Abs
-- bytes read back: plain laws of readers
namespace Go.Abs
open Go
def B8(b:List aH):Prop:=∀ k,k<b.length->∃ y:Nat,(gt b k).1=(y:Int)/\y<=255
def ByL(b:List aH):Prop:=∀ x∈b,∃ y:Nat,x.1=(y:Int)/\y<=255
theorem ByL.b8{b:List aH}(h:ByL b):B8 b:=λk hk=>h _ (cB hk)
theorem B8.byL{b:List aH}(h:B8 b):ByL b:=λx hx=>by
 obtain⟨i,hi,e⟩:=fW hx
 rw[<- e];exact h i hi
theorem ByL.app{a b:List aH}(ha:ByL a)(hb:ByL b):ByL (a++b):=λx hx=>by
 rcases List.mem_append.1 hx with h | h
 ·exact ha x h
 ·exact hb x h
theorem ByL.flat{α:Type}{f:α->List aH}(h:∀ x,ByL (f x))(xs:List α):ByL (xs.flatMap f):=λx hx=>by
 obtain⟨a,_,ha⟩:=List.mem_flatMap.1 hx
 exact h a x ha
theorem ByL.sub{a b:List aH}(h:ByL b)(hs:∀ x∈a,x∈b):ByL a:=λx hx=>h x (hs x hx)
theorem SB(n:Nat):ByL (hZ n):=by
 induction n using Nat.strongRecOn with
 | _ n ih=>
  unfold hZ
  split
  ·rename_i h
   intro b hb
   rw[List.mem_singleton.1 hb];grind
  ·rename_i h
   intro b hb
   rcases List.mem_cons.1 hb with e | e
   ·rw[e];exact⟨n % 128+128,rfl,by omega⟩
   ·exact ih (n / 128) (Nat.div_lt_self (by omega) (by omega)) b e
theorem dT(x:Int):ByL (aG x):=by
 unfold aG
 cases inB x 0 2147483647 with
 | false=>intro b hb;grind
 | true=>exact SB _
theorem M3(t:ByteArray):ByL (fN t):=λb hb=>by
 unfold fN eP at hb
 obtain⟨u,_,rfl⟩:=List.mem_map.1 hb
 have:=u.toNat_lt
 grind
theorem HU(t:ByteArray):ByL (dP t):=(dT _).app (M3 t)
theorem EH(x:bE):ByL (aY x):=by
 unfold aY;exact(((((dT _).app (dT _)).app (dT _)).app (dT _)).app (dT _)).app (HU _)
theorem sU(f:aO):ByL (aV f):=(dT _).app (dT _)
theorem wS(s:aE):ByL (bI s):=(((dT _).app (ByL.flat EH _)).app (dT _)).app (ByL.flat sU _)
theorem DA{l:List aH}(h:ByL l):fN (cF l)=l:=by
 show List.map (λb:UInt8=>(((b.toNat:Nat):Int),())) (List.map (λr:aH=>UInt8.ofNat (Int.toNat r.1)) l)=l
 rw[List.map_map]
 conv=>rhs;rw[<- List.map_id l]
 refine List.map_congr_left λx hx=>?_
 obtain⟨y,hy,hy2⟩:=h x hx
 obtain⟨z,u⟩:=x
 have hy:z=(y:Int):=hy
 subst hy
 show((((UInt8.ofNat ((y:Int)).toNat).toNat:Nat):Int),())=((y:Int),u)
 rw[Int.toNat_natCast,UInt8.toNat_ofNat',Nat.mod_eq_of_lt (by omega)]
theorem M2(s:ByteArray):cF (fN s)=s:=by
 have e:List.map (λr:aH=>UInt8.ofNat (Int.toNat r.1)) (fN s)=s.data.toList:=by
  show List.map _ (List.map (λb:UInt8=>(((b.toNat:Nat):Int),())) s.data.toList)=_
  rw[List.map_map]
  conv=>rhs;rw[<- List.map_id s.data.toList]
  refine List.map_congr_left λx hx=>?_
  simp
 exact congrArg (λl:List UInt8=>(⟨l.toArray⟩:ByteArray)) e
theorem mU{a b:List aH}(ha:ByL a)(hb:ByL b):bU a b=true↔a=b:=by
 unfold bU
 rw[beq_iff_eq,ByteArray.toList_eq,ByteArray.toList_eq]
 constructor
 ·intro h
  have:fN (cF a)=fN (cF b):=by unfold fN eP;rw[h]
  rwa [DA ha,DA hb] at this
 simp_all
-- readers
abbrev RdT:Type:=List aH×Int×Bool×Unit
def p0(b:List aH)(i:Int):Option (Nat×Nat):=bif decide (i<0)then none else qY b i.toNat
theorem y9{b:List aH}{i:Int}{x j:Nat}(h:p0 b i=some (x,j)):x<=2147483647/\j<=b.length:=by
 unfold p0 at h
 cases e:decide (i<0)with
 | true=>rw[e] at h;grind
 | false=>
  rw[e] at h
  have h:tN b i.toNat 5 0 0=some (x,j):=h
  have:=SX 5 0 0 h
  omega
-- a number read off a reader: (the number, the reader behind it)
def aK(r:RdT):Int×RdT:=bif r.2.2.1 then(0,(r.1,r.2.1,true,()))else
 match p0 r.1 r.2.1 with
 | none=>(0,(r.1,r.2.1,true,()))
 | some (x,j)=>((x:Int),(r.1,(j:Int),r.2.2.1,()))
def eE(r:RdT)(m:Int):Int×RdT:=bif decide ((aK r).1>m)then(0,((aK r).2.1,(aK r).2.2.1,true,()))else aK r
def uD(b:List aH)(i:Int):Option (ByteArray×Nat):=match p0 b i with
 | none=>none
 | some (x,j)=>if x>b.length - j then none else some (cF ((b.take (j+x)).drop j),j+x)
def lZ(r:RdT):ByteArray×RdT:=bif r.2.2.1 then(⟨#[]⟩,(r.1,r.2.1,true,()))else
 match uD r.1 r.2.1 with
 | none=>(⟨#[]⟩,(r.1,r.2.1,true,()))
 | some (s,j)=>(s,(r.1,(j:Int),r.2.2.1,()))
structure RdOk (r:RdT):Prop where
 b8:B8 r.1
 len:r.1.length<=aP
 lo:0<=r.2.1
 hi:r.2.1<=(r.1.length:Int)
theorem sC(r:RdT):(aK r).2.1=r.1/\(0<=r.2.1->r.2.1<=(r.1.length:Int)->0<=(aK r).2.2.1/\(aK r).2.2.1<=(r.1.length:Int))/\0<=(aK r).1/\(aK r).1<=2147483647/\(r.2.2.1=true->(aK r).2.2.2.1=true):=by
 obtain⟨b,i,bad,u⟩:=r
 cases bad with
 | true=>exact⟨rfl,λh1 h2=>⟨h1,h2⟩,Int.le_refl _,by show(0:Int)<=2147483647;omega,λ_=>rfl⟩
 | false=>
  have e:aK (b,i,false,u)=(match p0 b i with | none=>((0:Int),((b,i,true,()):RdT)) | some (x,j)=>((x:Int),(b,(j:Int),false,()))):=rfl
  rw[e]
  cases h:p0 b i with
  | none=>simp_all
  | some q=>
   obtain⟨x,j⟩:=q
   have hb:=y9 h
   grind
theorem fV(r:RdT):(aK r).2.1=r.1:=(sC r).1
theorem z3(r:RdT):0<=(aK r).1:=(sC r).2.2.1
theorem RdOk.num{r:RdT}(h:RdOk r):RdOk (aK r).2:=by
 have e:=sC r
 have p:=e.2.1 h.lo h.hi
 exact⟨by rw[e.1];exact h.b8,by rw[e.1];exact h.len,p.1,by rw[e.1];omega⟩
theorem RdOk.cnt{r:RdT}(h:RdOk r)(m:Int):RdOk (eE r m).2:=by
 have hn:=h.num
 unfold eE
 cases decide ((aK r).1>m)with
 | true=>exact⟨hn.b8,hn.len,hn.lo,hn.hi⟩
 | false=>grind
theorem HS(r:RdT)(m:Int):(eE r m).2.1=r.1:=by
 unfold eE
 cases decide ((aK r).1>m)with
 | true=>exact fV r
 | false=>exact fV r
theorem z2(r:RdT):(lZ r).2.1=r.1/\(0<=r.2.1->r.2.1<=(r.1.length:Int)->0<=(lZ r).2.2.1/\(lZ r).2.2.1<=(r.1.length:Int)):=by
 obtain⟨b,i,bad,u⟩:=r
 cases bad with
 | true=>exact⟨rfl,λh1 h2=>⟨h1,h2⟩⟩
 | false=>
  have e:lZ (b,i,false,u)=(match uD b i with | none=>((⟨#[]⟩:ByteArray),((b,i,true,()):RdT)) | some (s,j)=>(s,(b,(j:Int),false,()))):=rfl
  rw[e]
  cases h:uD b i with
  | none=>simp_all
  | some q=>
   obtain⟨s,j⟩:=q
   refine⟨rfl,λh1 h2=>⟨Int.natCast_nonneg _,?_⟩⟩
   show(j:Int)<=(b.length:Int)
   unfold uD at h
   cases hg:p0 b i with
   | none=>rw[hg] at h;grind
   | some q=>
    obtain⟨x,k⟩:=q
    have hb:=y9 hg
    rw[hg] at h
    grind
theorem RdOk.txt{r:RdT}(h:RdOk r):RdOk (lZ r).2:=by
 have e:=z2 r
 have p:=e.2 h.lo h.hi
 exact⟨by rw[e.1];exact h.b8,by rw[e.1];exact h.len,p.1,by rw[e.1];omega⟩
theorem qO(r:RdT){m:Int}(hm:0<=m):0<=(eE r m).1/\(eE r m).1<=m:=by
 have:=z3 r
 unfold eE
 grind
-- several numbers
def rdK(r:RdT):Nat->RdT
 | 0=>r
 | k+1=>(aK (rdK r k)).2
def rdV(r:RdT)(k:Nat):Int:=(aK (rdK r k)).1
theorem RdOk.k{r:RdT}(h:RdOk r):∀ k,RdOk (rdK r k)
 | 0=>h
 | k+1=>(RdOk.k h k).num
theorem uU(r:RdT):∀ k,(rdK r k).1=r.1
 | 0=>rfl
 | k+1=>(fV _).trans (uU r k)
-- the same reading done several times
def cC{α:Type}(f:RdT->α×RdT)(r:RdT):Nat->List α×RdT
 | 0=>([],r)
 | k+1=>((cC f r k).1++[(f (cC f r k).2).1],(f (cC f r k).2).2)
theorem iA{α:Type}(f:RdT->α×RdT)(r:RdT):∀ k,(cC f r k).1.length=k
 | 0=>rfl
 | k+1=>by show((cC f r k).1++[_]).length=k+1;rw[List.length_append,iA f r k];rfl
theorem nR{α:Type}{f:RdT->α×RdT}(hf:∀ r,RdOk r->RdOk (f r).2){r:RdT}(h:RdOk r):∀ k,RdOk (cC f r k).2
 | 0=>h
 | k+1=>hf _ (nR hf h k)
theorem AK{α:Type}{f:RdT->α×RdT}(hf:∀ r,(f r).2.1=r.1)(r:RdT):∀ k,(cC f r k).2.1=r.1
 | 0=>rfl
 | k+1=>(hf _).trans (AK hf r k)
def v9(r:RdT):aH×RdT:=(((aK r).1,()),(aK r).2)
def dK(r:RdT):aO×RdT:=((rdV r 0,rdV r 1,()),rdK r 2)
def cO(r:RdT):bE×RdT:=((rdV r 0,rdV r 1,rdV r 2,rdV r 3,rdV r 4,(lZ (rdK r 5)).1,()),(lZ (rdK r 5)).2)
theorem RdOk.floor{r:RdT}(h:RdOk r):RdOk (dK r).2:=h.k 2
theorem RdOk.item{r:RdT}(h:RdOk r):RdOk (cO r).2:=(h.k 5).txt
theorem IO(r:RdT):(cO r).2.1=r.1:=(z2 _).1.trans (uU r 5)
def kW(r:RdT)(m:Int):List aH×RdT:=cC v9 (eE r m).2 (eE r m).1.toNat
theorem RdOk.nums{r:RdT}(h:RdOk r)(m:Int):RdOk (kW r m).2:=nR (f:=v9) (λr h=>RdOk.num h) (h.cnt m) _
theorem HR(r:RdT){m:Int}(hm:0<=m):((kW r m).1.length:Int)<=m:=by
 have:=qO r hm
 unfold kW;rw[iA];omega
theorem FM(r:RdT)(m:Int):(kW r m).2.1=r.1:=(AK (f:=v9) (λr=>fV r) _ _).trans (HS r m)
-- what is read back
def lA{α:Type}(f:RdT->α×RdT)(e:List aH)(x:α):Prop:=
 ∀ b u v:List aH,b=u++(e++v)->f (b,(u.length:Int),false,())=(x,(b,(((u++e).length:Nat):Int),false,()))
theorem GM{x:Int}(h:inB x 0 2147483647=true){b u v:List aH}(hb:b=u++(aG x++v)):p0 b (u.length:Int)=some (x.toNat,(u++aG x).length):=by
 rw[aM] at h
 have e:aG x=hZ x.toNat:=by unfold aG;rw[aM.2 h];rfl
 rw[e] at hb ⊢
 unfold p0
 rw[decide_eq_false (by omega)]
 show qY b (u.length:Int).toNat=_
 rw[Int.toNat_natCast,hb,<- List.append_assoc,IV u v (by omega),List.length_append]
theorem hY{x:Int}(h:inB x 0 2147483647=true):lA aK (aG x) x:=by
 intro b u v hb
 have g:=GM h hb
 show(match p0 b (u.length:Int)with | none=>((0:Int),((b,(u.length:Int),true,()):RdT)) | some (x,j)=>((x:Int),(b,(j:Int),false,())))=_
 rw[g]
 show(((x.toNat:Nat):Int),_)=(x,_)
 rw[aM] at h
 rw[show((x.toNat:Nat):Int)=x by omega]
theorem sB{x m:Int}(h:inB x 0 2147483647=true)(hm:x<=m):lA (λr=>eE r m) (aG x) x:=by
 intro b u v hb
 have:=hY h b u v hb
 show eE _ m=_
 unfold eE
 rw[this,decide_eq_false (show ¬ x>m by omega)];rfl
theorem RP{s:ByteArray}(h:ByteArray.size s<=2147483647):inB ((ByteArray.size s:Nat):Int) 0 2147483647=true:=by rw[aM];omega
theorem sW{α:Type}(a b c:List α):((a++(b++c)).take (a.length+b.length)).drop a.length=b:=by
 rw[<- List.append_assoc,List.take_left' (by rw[List.length_append]),List.drop_left' rfl]
theorem NF{s:ByteArray}(h:ByteArray.size s<=2147483647){b u v:List aH}(hb:b=u++(dP s++v)):uD b (u.length:Int)=some (s,(u++dP s).length):=by
 unfold dP at hb ⊢
 have g:=GM (RP h) (b:=b) (u:=u) (v:=fN s++v) (by rw[hb];simp)
 unfold uD;rw[g]
 show(if((ByteArray.size s:Nat):Int).toNat>b.length - (u++aG ((ByteArray.size s:Nat):Int)).length then none else some (cF ((b.take ((u++aG ((ByteArray.size s:Nat):Int)).length+((ByteArray.size s:Nat):Int).toNat)).drop (u++aG ((ByteArray.size s:Nat):Int)).length),(u++aG ((ByteArray.size s:Nat):Int)).length+((ByteArray.size s:Nat):Int).toNat))=_
 have e2:b=(u++aG ((ByteArray.size s:Nat):Int))++(fN s++v):=by rw[hb];simp
 have e3:b.length=(u++aG ((ByteArray.size s:Nat):Int)).length+(ByteArray.size s+v.length):=by rw[e2,List.length_append,List.length_append (as:=fN s),j9]
 rw[Int.toNat_natCast,if_neg (by omega)]
 have e4:=sW (α:=aH) (u++aG ((ByteArray.size s:Nat):Int)) (fN s) v
 rw[<- e2,j9] at e4
 refine(congrArg (λl:List aH=>some (cF l,(u++aG ((ByteArray.size s:Nat):Int)).length+ByteArray.size s)) e4).trans ?_
 rw[M2,<- List.append_assoc,List.length_append (bs:=fN s),j9]
theorem LU{s:ByteArray}(h:ByteArray.size s<=2147483647):lA lZ (dP s) s:=by
 intro b u v hb
 have g:=NF h hb
 show(match uD b (u.length:Int)with | none=>((⟨#[]⟩:ByteArray),((b,(u.length:Int),true,()):RdT)) | some (s,j)=>(s,(b,(j:Int),false,())))=_
 rw[g]
def cR(ns:List aH):List aH:=ns.flatMap λx=>aG x.1
theorem n7(a b:List aH):cR (a++b)=cR a++cR b:=List.flatMap_append
theorem wJ(x:aH):cR [x]=aG x.1:=by unfold cR;simp
theorem oK{α:Type}[Inhabited α]{xs:List α}{k:Nat}(h:k<xs.length):xs.take (k+1)=xs.take k++[gt xs k]:=by
 rw[<- List.take_append_getElem h,cU h]
theorem zQ{α:Type}[Inhabited α]{xs:List α}{k:Nat}(h:k<xs.length):xs=xs.take k++(gt xs k::xs.drop (k+1)):=by
 rw[cU h,<- List.drop_eq_getElem_cons h,List.take_append_drop]
theorem nK{ns:List aH}(h:∀ x∈ns,inB x.1 0 2147483647=true){b u v:List aH}(hb:b=u++(cR ns++v)):
  ∀ k,k<=ns.length->rdK (b,(u.length:Int),false,()) k=(b,(((u++cR (ns.take k)).length:Nat):Int),false,())
 | 0,_=>by
  show(b,(u.length:Int),false,())=_
  rw[List.take_zero];unfold cR;rw[List.flatMap_nil,List.append_nil]
 | k+1,hk=>by
  have ih:=nK h hb k (by omega)
  have hg:b=(u++cR (ns.take k))++(aG (gt ns k).1++(cR (ns.drop (k+1))++v)):=by
   rw[hb];conv=>lhs;rw[zQ (show k<ns.length by omega)]
   rw[n7,show gt ns k::ns.drop (k+1)=[gt ns k]++ns.drop (k+1)from rfl,n7,wJ];simp
  have:=hY (h _ (cB (show k<ns.length by omega))) b _ _ hg
  show(aK (rdK _ k)).2=_
  rw[ih,this,oK (by omega),n7,wJ,List.append_assoc]
theorem v6{ns:List aH}(h:∀ x∈ns,inB x.1 0 2147483647=true){b u v:List aH}(hb:b=u++(cR ns++v))(k:Nat)(hk:k<ns.length):
  rdV (b,(u.length:Int),false,()) k=(gt ns k).1:=by
 have ih:=nK h hb k (by omega)
 have hg:b=(u++cR (ns.take k))++(aG (gt ns k).1++(cR (ns.drop (k+1))++v)):=by
  rw[hb];conv=>lhs;rw[zQ hk]
  rw[n7,show gt ns k::ns.drop (k+1)=[gt ns k]++ns.drop (k+1)from rfl,n7,wJ];simp
 have:=hY (h _ (cB hk)) b _ _ hg
 unfold rdV;rw[ih,this]
theorem AJ{α:Type}[Inhabited α]{f:RdT->α×RdT}{e:α->List aH}{xs:List α}(h:∀ x∈xs,lA f (e x) x){b u v:List aH}(hb:b=u++(xs.flatMap e++v)):
  ∀ k,k<=xs.length->cC f (b,(u.length:Int),false,()) k=(xs.take k,(b,(((u++(xs.take k).flatMap e).length:Nat):Int),false,()))
 | 0,_=>by
  show(([]:List α),((b,(u.length:Int),false,()):RdT))=_
  rw[List.take_zero,List.flatMap_nil,List.append_nil]
 | k+1,hk=>by
  have ih:=AJ h hb k (by omega)
  have hg:b=(u++(xs.take k).flatMap e)++(e (gt xs k)++((xs.drop (k+1)).flatMap e++v)):=by
   rw[hb];conv=>lhs;rw[zQ (show k<xs.length by omega)]
   rw[List.flatMap_append,List.flatMap_cons];simp
  have:=h _ (cB (show k<xs.length by omega)) b _ _ hg
  show((cC f _ k).1++[(f (cC f _ k).2).1],(f (cC f _ k).2).2)=_
  rw[ih,this,oK (by omega),List.flatMap_append,List.append_assoc]
  simp
theorem oZ{α:Type}[Inhabited α]{f:RdT->α×RdT}{e:α->List aH}{xs:List α}(h:∀ x∈xs,lA f (e x) x):lA (λr=>cC f r xs.length) (xs.flatMap e) xs:=by
 intro b u v hb
 have:=AJ h hb xs.length (Nat.le_refl _)
 rw[List.take_length] at this
 omega
theorem HZ{x:aH}(h:inB x.1 0 2147483647=true):lA v9 (aG x.1) x:=by
 intro b u v hb
 unfold v9;rw[hY h b u v hb]
theorem EK{f:aO}(h1:inB f.1 0 2147483647=true)(h2:inB f.2.1 0 2147483647=true):lA dK (aV f) f:=by
 intro b u v hb
 have e:aV f=cR [(f.1,()),(f.2.1,())]:=by unfold cR aV;simp
 rw[e] at hb ⊢
 have hn:∀ x∈[((f.1,()):aH),(f.2.1,())],inB x.1 0 2147483647=true:=by
  simp_all
 have a:=v6 hn hb
 have c:=nK hn hb 2 (Nat.le_refl _)
 unfold dK
 rw[a 0 (show 0<2 by omega),a 1 (show 1<2 by omega),c];rfl
theorem GC{x:bE}(h:∀ y∈five x,inB y.1 0 2147483647=true)(hs:ByteArray.size x.2.2.2.2.2.1<=2147483647):lA cO (aY x) x:=by
 intro b u v hb
 have e:aY x=cR (five x)++dP x.2.2.2.2.2.1:=by unfold cR aY five;simp
 rw[e] at hb ⊢
 have hb1:b=u++(cR (five x)++(dP x.2.2.2.2.2.1++v)):=by rw[hb];simp
 have hb2:b=(u++cR (five x))++(dP x.2.2.2.2.2.1++v):=by rw[hb];simp
 have a:=v6 h hb1
 have c:=nK h hb1 5 (Nat.le_refl _)
 rw[show(five x).take 5=five x from rfl] at c
 have d:=LU hs b _ _ hb2
 unfold cO
 rw[c,d,a 0 (show 0<5 by omega),a 1 (show 1<5 by omega),a 2 (show 2<5 by omega),a 3 (show 3<5 by omega),a 4 (show 4<5 by omega),List.append_assoc];rfl
end Go.Abs
-- states and messages read back: plain laws
namespace Go.Abs
open Go
def InN(x:Int):Prop:=inB x 0 2147483647=true
theorem InN.of{x hi:Int}(h:inB x 0 hi=true)(hh:hi<=2147483647):InN x:=by
 unfold InN;rw[aM] at h ⊢;omega
theorem InN.of1{x hi:Int}(h:inB x 1 hi=true)(hh:hi<=2147483647):InN x:=by
 unfold InN;rw[aM] at h ⊢;omega
theorem InN.nat{n:Nat}(h:n<=2147483647):InN (n:Int):=by unfold InN;rw[aM];omega
theorem StateOk.five{s:aE}(h:StateOk s){x:bE}(hx:x∈s.1):(∀ y∈five x,inB y.1 0 2147483647=true)/\ByteArray.size x.2.2.2.2.2.1<=2147483647:=by
 obtain⟨h1,h2,_⟩:=h.item x hx
 unfold eA at h2
 simp only[Bool.and_eq_true,decide_eq_true_eq] at h2
 obtain⟨a,b,c,d,e⟩:=h2
 refine⟨λy hy=>?_,by omega⟩
 unfold Go.Abs.five at hy
 simp only[List.mem_cons,List.not_mem_nil,or_false] at hy
 rcases hy with rfl | rfl | rfl | rfl | rfl
 ·exact InN.of (h1:inB x.1 0 4=true) (by decide)
 ·exact InN.of1 a (by decide)
 ·exact InN.of b (by decide)
 ·exact InN.of c (by decide)
 ·exact InN.of d (by decide)
theorem StateOk.flo{s:aE}(h:StateOk s){f:aO}(hf:f∈s.2.1):InN f.1/\InN f.2.1:=
 ⟨InN.of ((h.floor f hf).1:inB f.1 0 4=true) (by decide),InN.of1 (h.floor f hf).2 (by decide)⟩
theorem AV{s:aE}(h:StateOk s):∀ x∈s.1,lA cO (aY x) x:=λx hx=>GC (h.five hx).1 (h.five hx).2
theorem yA{fs:List aO}(h:∀ f∈fs,InN f.1/\InN f.2.1):∀ x∈fs,lA dK (aV x) x:=λx hx=>EK (h x hx).1 (h x hx).2
-- the program's reader of states
def rs0(b:List aH):RdT:=(b,0,false,())
def siC(b:List aH):Int×RdT:=eE (rs0 b) 5
def siI(b:List aH):List bE×RdT:=cC cO (siC b).2 (siC b).1.toNat
def siF(b:List aH):Int×RdT:=eE (siI b).2 5
def siG(b:List aH):List aO×RdT:=cC dK (siF b).2 (siF b).1.toNat
def stI(b:List aH):aE:=((siI b).1,(siG b).1,())
def bT(b:List aH):Option aE:=bif(siG b).2.2.2.1||(!aL (stI b)|| !bU (bI (stI b)) b)then none else some (stI b)
theorem QT{α:Type}{c:Bool}{x y:α}(h:(bif c then none else some x)=some y):c=false/\x=y:=by
 grind
theorem xG{b:List aH}{s:aE}(h:bT b=some s):aL s=true/\bU (bI s) b=true:=by
 obtain⟨h1,h2⟩:=QT h
 simp_all
theorem vM(s:aE):bI s=([]:List aH)++(aG (s.1.length:Int)++(s.1.flatMap aY++(aG (s.2.1.length:Int)++(s.2.1.flatMap aV++[])))):=by
 unfold bI;simp
theorem iJ(b:List aH):bU b b=true:=by unfold bU;simp
theorem lE{s:aE}(hs:aL s=true):bT (bI s)=some s:=by
 have h:=(aN s).1 hs
 have h5:=h.len
 have hb:=vM s
 generalize e:bI s=b at hb
 have c1:siC b=((s.1.length:Int),(b,(((([]:List aH)++aG (s.1.length:Int)).length:Nat):Int),false,())):=
  sB (m:=5) (InN.nat (by omega)) (by omega) b [] _ hb
 have c2:siI b=(s.1,(b,(((([]:List aH)++aG (s.1.length:Int)++s.1.flatMap aY).length:Nat):Int),false,())):=by
  unfold siI;rw[c1]
  show cC cO _ ((s.1.length:Int)).toNat=_
  rw[Int.toNat_natCast]
  exact oZ (AV h) b _ _ (by rw[hb,List.append_assoc])
 have c3:siF b=((s.2.1.length:Int),(b,(((([]:List aH)++aG (s.1.length:Int)++s.1.flatMap aY++aG (s.2.1.length:Int)).length:Nat):Int),false,())):=by
  unfold siF;rw[c2]
  exact sB (m:=5) (InN.nat (by omega)) (by omega) b _ (s.2.1.flatMap aV++[]) (by rw[hb];simp)
 have c4:siG b=(s.2.1,(b,(((([]:List aH)++aG (s.1.length:Int)++s.1.flatMap aY++aG (s.2.1.length:Int)++s.2.1.flatMap aV).length:Nat):Int),false,())):=by
  unfold siG;rw[c3]
  show cC dK _ ((s.2.1.length:Int)).toNat=_
  rw[Int.toNat_natCast]
  exact oZ (yA λf hf=>h.flo hf) b _ [] (by rw[hb];simp)
 have c5:stI b=s:=by unfold stI;rw[c2,c4]
 unfold bT;rw[c4,c5,hs,e,iJ];rfl
-- the reference's reader of states
def oP:RdT->Nat->List aH×RdT
 | r,0=>([],r)
 | r,k+1=>bif r.2.2.1 then([],r)else(((aK r).1,())::(oP (aK r).2 k).1,(oP (aK r).2 k).2)
def cJ(r:RdT)(t:Nat):List aH×RdT:=bif decide ((aK r).1>100)then([],((aK r).2.1,(aK r).2.2.1,true,()))else oP (aK r).2 ((aK r).1.toNat*t)
theorem FG:∀ (k:Nat) (r:RdT),(oP r k).1.length<=k
 | 0,r=>Nat.le_refl _
 | k+1,r=>by
  unfold oP
  cases r.2.2.1 with
  | true=>simp
  | false=>show(((aK r).1,())::(oP (aK r).2 k).1).length<=k+1;rw[List.length_cons];have:=FG k (aK r).2;omega
theorem JX:∀ (k:Nat) {r:RdT},RdOk r->RdOk (oP r k).2
 | 0,r,h=>h
 | k+1,r,h=>by
  unfold oP
  cases r.2.2.1 with
  | true=>grind
  | false=>exact JX k h.num
theorem CF:∀ (k:Nat) (r:RdT),(oP r k).2.1=r.1
 | 0,r=>rfl
 | k+1,r=>by
  unfold oP
  cases r.2.2.1 with
  | true=>rfl
  | false=>exact(CF k _).trans (fV r)
theorem H7(r:RdT)(t:Nat):(cJ r t).2.1=r.1:=by
 unfold cJ
 cases decide ((aK r).1>100)with
 | true=>exact fV r
 | false=>exact(CF _ _).trans (fV r)
theorem sF(r:RdT)(t:Nat):(cJ r t).1.length<=100*t:=by
 unfold cJ
 by_cases h:(aK r).1>100
 ·rw[decide_eq_true h];simp
 ·rw[decide_eq_false h]
  have h1:=FG ((aK r).1.toNat*t) (aK r).2
  have h2:(aK r).1.toNat*t<=100*t:=Nat.mul_le_mul (by omega) (Nat.le_refl _)
  grind
theorem RdOk.many{r:RdT}(h:RdOk r)(t:Nat):RdOk (cJ r t).2:=by
 unfold cJ
 cases decide ((aK r).1>100)with
 | true=>exact⟨h.num.b8,h.num.len,h.num.lo,h.num.hi⟩
 | false=>exact JX _ h.num
theorem CJ:∀ (ns:List aH),(∀ x∈ns,InN x.1)->lA (λr=>oP r ns.length) (cR ns) ns
 | [],_=>λb u v hb=>by show(([]:List aH),((b,(u.length:Int),false,()):RdT))=_;unfold cR;rw[List.flatMap_nil,List.append_nil]
 | x::ns,h=>λb u v hb=>by
  have e:cR (x::ns)=aG x.1++cR ns:=by rfl
  rw[e] at hb ⊢
  have h1:=hY (h x (List.mem_cons_self ..)) b u (cR ns++v) (by rw[hb];simp)
  have h2:=CJ ns (λy hy=>h y (List.mem_cons_of_mem _ hy)) b (u++aG x.1) v (by rw[hb];simp)
  show(((aK _).1,())::(oP (aK _).2 ns.length).1,(oP (aK _).2 ns.length).2)=_
  rw[h1]
  simp_all
theorem xN{ns:List aH}{n t:Nat}(hl:ns.length=n*t)(hn:n<=100)(h:∀ x∈ns,InN x.1):lA (λr=>cJ r t) (aG ((n:Nat):Int)++cR ns) ns:=by
 intro b u v hb
 have h1:=hY (InN.nat (show n<=2147483647 by omega)) b u (cR ns++v) (by rw[hb];simp)
 have h2:=CJ ns h b (u++aG ((n:Nat):Int)) v (by rw[hb];simp)
 show cJ _ t=_
 unfold cJ
 rw[h1,decide_eq_false (show ¬ (((n:Nat):Int)>100) by omega)]
 simp_all
def i8(fl:List aH)(k:Nat):List aO:=(List.range k).map λi=>((gt fl (2*i)).1,(gt fl (2*i+1)).1,())
theorem tG(fl:List aH)(k:Nat):(i8 fl k).length=k:=by unfold i8;rw[List.length_map,List.length_range]
theorem xR(fl:List aH)(k:Nat):i8 fl (k+1)=i8 fl k++[((gt fl (2*k)).1,(gt fl (2*k+1)).1,())]:=by
 unfold i8;rw[List.range_succ,List.map_append];rfl
theorem FW(x y:aH)(l:List aH)(k:Nat):i8 (x::y::l) (k+1)=(x.1,y.1,())::i8 l k:=by
 unfold i8
 rw[List.range_succ_eq_map,List.map_cons,List.map_map]
 rfl
def E3(fs:List aO):List aH:=fs.flatMap λf=>[(f.1,()),(f.2.1,())]
theorem vT(f:aO)(fs:List aO):E3 (f::fs)=(f.1,())::(f.2.1,())::E3 fs:=by rfl
theorem zG:∀ fs:List aO,(E3 fs).length=fs.length*2
 | []=>rfl
 | f::fs=>by rw[vT,List.length_cons,List.length_cons,zG fs,List.length_cons];omega
theorem B6:∀ fs:List aO,cR (E3 fs)=fs.flatMap aV
 | []=>rfl
 | f::fs=>by
  rw[vT,List.flatMap_cons,<- B6 fs]
  unfold cR aV;rw[List.flatMap_cons,List.flatMap_cons,List.append_assoc]
theorem RE{fs:List aO}(h:∀ f∈fs,InN f.1/\InN f.2.1):∀ x∈E3 fs,InN x.1:=λx hx=>by
 obtain⟨f,hf,hx⟩:=List.mem_flatMap.1 hx
 grind
theorem z8:∀ fs:List aO,i8 (E3 fs) fs.length=fs
 | []=>rfl
 | f::fs=>by rw[vT,List.length_cons,FW,z8 fs]
def flR(r:RdT):List aO×RdT:=(i8 (cJ r 2).1 ((cJ r 2).1.length / 2),(cJ r 2).2)
theorem C4{fs:List aO}(hl:fs.length<=100)(h:∀ f∈fs,InN f.1/\InN f.2.1):lA flR (aG (fs.length:Int)++fs.flatMap aV) fs:=by
 intro b u v hb
 rw[<- B6] at hb ⊢
 have:=xN (t:=2) (zG fs) hl (RE h) b u v hb
 have this:cJ (b,(u.length:Int),false,()) 2=_:=this
 unfold flR;rw[this]
 show(i8 (E3 fs) ((E3 fs).length / 2),_)=_
 rw[zG,Nat.mul_div_cancel _ (by decide),z8]
theorem KJ(r:RdT):(flR r).1.length<=100:=by
 unfold flR;rw[tG];have:=sF r 2;omega
def jA:RdT->Nat->Option (List bE×RdT)
 | r,0=>some ([],r)
 | r,k+1=>bif r.2.2.1 then some ([],r)else bif(cO r).2.2.2.1 then none else(jA (cO r).2 k).map λq=>((cO r).1::q.1,q.2)
theorem vC:∀ (xs:List bE),(∀ x∈xs,lA cO (aY x) x)->∀ b u v,b=u++(xs.flatMap aY++v)->
  jA (b,(u.length:Int),false,()) xs.length=some (xs,(b,(((u++xs.flatMap aY).length:Nat):Int),false,()))
 | [],_,b,u,v,hb=>by show some (([]:List bE),((b,(u.length:Int),false,()):RdT))=_;rw[List.flatMap_nil,List.append_nil]
 | x::xs,h,b,u,v,hb=>by
  rw[List.flatMap_cons] at hb ⊢
  have h1:=h x (List.mem_cons_self ..) b u (xs.flatMap aY++v) (by rw[hb];simp)
  have h2:=vC xs (λy hy=>h y (List.mem_cons_of_mem _ hy)) b (u++aY x) v (by rw[hb];simp)
  show(bif(cO _).2.2.2.1 then none else(jA (cO _).2 xs.length).map λq=>((cO _).1::q.1,q.2))=_
  rw[h1]
  simp_all
def ssI(b:List aH):Option (List bE×RdT):=bif decide ((aK (rs0 b)).1>100)then some ([],(aK (rs0 b)).2)else jA (aK (rs0 b)).2 (aK (rs0 b)).1.toNat
def stS(q:List bE×RdT):aE:=(q.1,(flR q.2).1,())
def f4(b:List aH):Option aE:=match ssI b with
 | none=>none
 | some q=>bif(flR q.2).2.2.2.1||(decide ((aK (rs0 b)).1>100)||(!aL (stS q)|| !bU (bI (stS q)) b))then none else some (stS q)
theorem FA{b:List aH}{s:aE}(h:f4 b=some s):aL s=true/\bU (bI s) b=true:=by
 unfold f4 at h
 grind
theorem DV{s:aE}(hs:aL s=true):f4 (bI s)=some s:=by
 have h:=(aN s).1 hs
 have h5:=h.len
 have hb:=vM s
 generalize e:bI s=b at hb
 have c1:aK (rs0 b)=((s.1.length:Int),(b,(((([]:List aH)++aG (s.1.length:Int)).length:Nat):Int),false,())):=
  hY (InN.nat (by omega)) b [] _ hb
 have hd:decide ((s.1.length:Int)>100)=false:=decide_eq_false (by omega)
 have c2:ssI b=some (s.1,(b,(((([]:List aH)++aG (s.1.length:Int)++s.1.flatMap aY).length:Nat):Int),false,())):=by
  unfold ssI;rw[c1,hd]
  show jA _ ((s.1.length:Int)).toNat=_
  rw[Int.toNat_natCast]
  exact vC s.1 (AV h) b _ _ (by rw[hb,List.append_assoc])
 have c3:=C4 (show s.2.1.length<=100 by omega) (λf hf=>h.flo hf) b (([]:List aH)++aG (s.1.length:Int)++s.1.flatMap aY) [] (by rw[hb];simp)
 unfold f4;rw[c1,c2,hd]
 show(bif(flR _).2.2.2.1||(false||(!aL (s.1,(flR _).1,())|| !bU (bI (s.1,(flR _).1,())) b))then none else some (s.1,(flR _).1,()))=_
 rw[c3]
 show(bif false||(false||(!aL s|| !bU (bI s) b))then none else some s)=_
 rw[hs,e,iJ];rfl
theorem LF{b:List aH}(hb:ByL b):f4 b=bT b:=by
 cases h:bT b with
 | some s=>
  obtain⟨h1,h2⟩:=xG h
  have e:=(mU (wS s) hb).1 h2
  rw[<- e];exact DV h1
 | none=>
  cases h2:f4 b with
  | none=>rfl
  | some s=>
   obtain⟨h3,h4⟩:=FA h2
   have e:=(mU (wS s) hb).1 h4
   rw[<- e,lE h3] at h;omega
end Go.Abs
-- messages as bytes, and read back: plain laws
namespace Go.Abs
open Go
def fG(m:MsgT):List aH:=[(m.1,()),(m.2.1,()),(m.2.2.1,()),(m.2.2.2.1,()),(m.hi,())]
def cX(ns:List aH):List aH:=aG (ns.length:Int)++cR ns
def sR(fs:List aO):List aH:=aG (fs.length:Int)++fs.flatMap aV
def rk2:List aH:=[(82,()),(75,())]
def dV(m:MsgT):List aH:=rk2++(cR (fG m)++(cX m.tree.1++(aG m.tree.2.1++(cX m.vec++(cX m.leaves++(aG (((bI m.part).length:Nat):Int)++(bI m.part++sR m.marks)))))))
def HG(x:Nat):List aH:=[(((x / 16777216:Nat):Int),()),(((x / 65536 % 256:Nat):Int),()),(((x / 256 % 256:Nat):Int),()),(((x % 256:Nat):Int),())]
def uK(b:List aH):List aH:=HG (crc b).toNat
def cM(m:MsgT):List aH:=dV m++uK (dV m)
theorem GQ(ns:List aH):ByL (cR ns):=ByL.flat (λx=>dT _) ns
theorem AR(ns:List aH):ByL (cX ns):=(dT _).app (GQ ns)
theorem PE(fs:List aO):ByL (sR fs):=(dT _).app (ByL.flat sU fs)
theorem rk2_by:ByL rk2:=λx hx=>by
 unfold rk2 at hx
 simp only[List.mem_cons,List.not_mem_nil,or_false] at hx
 rcases hx with rfl | rfl
 ·exact⟨82,rfl,by decide⟩
 ·exact⟨75,rfl,by decide⟩
theorem vN(m:MsgT):ByL (dV m):=rk2_by.app ((GQ _).app ((AR _).app ((dT _).app ((AR _).app ((AR _).app ((dT _).app ((wS _).app (PE _))))))))
theorem ByL.b32{b:List aH}(h:ByL b):B32 b:=λx hx=>by
 obtain⟨y,hy,hy2⟩:=h x hx
 exact⟨by omega,by omega⟩
theorem RN{x:Nat}(h:x<4294967296):ByL (HG x):=λy hy=>by
 unfold HG at hy
 simp only[List.mem_cons,List.not_mem_nil,or_false] at hy
 rcases hy with rfl | rfl | rfl | rfl
 ·exact⟨_,rfl,by omega⟩
 ·exact⟨_,rfl,by omega⟩
 ·exact⟨_,rfl,by omega⟩
 ·exact⟨_,rfl,by omega⟩
theorem I7{b:List aH}(h:ByL b):(crc b).toNat<4294967296/\0<=crc b:=by
 have:=QK (bs:=b) h.b32
 have h1:=this.1;have h2:=this.2
 omega
theorem RO{b:List aH}(h:ByL b):ByL (uK b):=RN (I7 h).1
theorem M4(m:MsgT):ByL (cM m):=(vN m).app (RO (vN m))
theorem uJ(b:List aH):(uK b).length=4:=rfl
-- numbers of a right message
structure MsgR (m:MsgT):Prop where
 head:∀ x∈fG m,InN x.1
 tree:m.tree.1.length<=4/\∀ x∈m.tree.1,InN x.1
 root:InN m.tree.2.1
 vec:m.vec.length<=5/\∀ x∈m.vec,InN x.1
 leaves:m.leaves.length<=4/\∀ x∈m.leaves,InN x.1
 part:aL m.part=true
 marks:m.marks.length<=5/\∀ f∈m.marks,InN f.1/\InN f.2.1
theorem QZ{v:List aH}{top:Int}(h:kL v top=true)(ht:top<=2147483647):∀ x∈v,InN x.1:=λx hx=>by
 obtain⟨i,hi,rfl⟩:=fW hx
 exact InN.of (bD.1 h i hi) ht
theorem pE{m:MsgT}(h:dR m=true):MsgR m:=by
 have hl:=AS h
 unfold dR pF at h
 simp only[Bool.and_eq_true] at h
 obtain⟨⟨h1,h2,h3,_⟩,h4,h5,h6,h7,h8,h9,h10,h11⟩:=h
 rw[decide_eq_true_eq] at h9
 refine⟨λx hx=>?_,?_,?_,⟨by omega,QZ h5 (by decide)⟩,⟨hl,λx hx=>?_⟩,h10,⟨L9 h11,λf hf=>?_⟩⟩
 ·unfold fG at hx
  simp only[List.mem_cons,List.not_mem_nil,or_false] at hx
  rcases hx with rfl | rfl | rfl | rfl | rfl
  ·exact InN.of h1 (by decide)
  ·exact InN.of (h2:inB _ 0 4=true) (by decide)
  ·exact InN.of (h3:inB _ 0 4=true) (by decide)
  ·exact InN.of h6 (by decide)
  ·exact InN.of h7 (by decide)
 ·unfold treeB at h8
  cases he:(m.tree.1.length:Int)==0 with
  | true=>
   simp_all
  | false=>
   rw[he] at h8
   have h8:((m.tree.1.length:Int)==4&&(kL m.tree.1 1023&&inB m.tree.2.1 0 1023))=true:=h8
   rw[Bool.and_eq_true] at h8
   have h8a:=eq_of_beq h8.1
   have h8b:=h8.2
   rw[Bool.and_eq_true] at h8b
   exact⟨by omega,QZ h8b.1 (by decide)⟩
 ·unfold treeB at h8
  cases he:(m.tree.1.length:Int)==0 with
  | true=>
   rw[he] at h8
   have h8:(m.tree.2.1==0)=true:=h8
   rw[beq_iff_eq] at h8
   show InN m.tree.2.1
   rw[h8];rfl
  | false=>
   rw[he] at h8
   have h8:((m.tree.1.length:Int)==4&&(kL m.tree.1 1023&&inB m.tree.2.1 0 1023))=true:=h8
   simp only[Bool.and_eq_true] at h8
   exact InN.of h8.2.2 (by decide)
 ·obtain⟨i,hi,rfl⟩:=fW hx
  have:=bD.1 h4 i hi
  unfold xV at this
  simp only[Bool.and_eq_true] at this
  exact InN.of this.1 (by decide)
 ·obtain⟨i,hi,rfl⟩:=fW hf
  have:=u7 h11 hi
  unfold InN;rw[aM,aM];omega
theorem lT(ns:List aH):(cR ns).length<=ns.length*5:=by
 unfold cR;rw[<- bV];exact dL λi hi=>aX _
theorem BI{m:MsgT}(h:MsgR m):(dV m).length<=500:=by
 have h1:=lT (fG m);have h2:=lT m.tree.1;have h3:=lT m.vec;have h4:=lT m.leaves
 have h5:=oC ((aN _).1 h.part)
 have h6:(m.marks.flatMap aV).length<=m.marks.length*10:=by rw[<- bV];exact dL λi hi=>fM _
 have n1:=aX (m.tree.1.length:Int);have n2:=aX m.tree.2.1;have n3:=aX (m.vec.length:Int);have n4:=aX (m.leaves.length:Int)
 have n5:=aX (((bI m.part).length:Nat):Int);have n6:=aX (m.marks.length:Int)
 have l1:=h.tree.1;have l2:=h.vec.1;have l3:=h.leaves.1;have l4:=h.marks.1
 have l5:(fG m).length=5:=rfl
 have l6:rk2.length=2:=rfl
 unfold dV cX sR
 simp only[List.length_append]
 grind
theorem BG{m:MsgT}(h:dR m=true):(cM m).length<=504:=by
 have:=BI (pE h)
 unfold cM;rw[List.length_append,uJ];omega
def bG(m:MsgT):List aH:=bif dR m then cM m else[]
theorem mP(m:MsgT):ByL (bG m):=by
 unfold bG;cases dR m with
 | true=>exact M4 m
 | false=>exact λx hx=>by grind
theorem u6(m:MsgT):(bG m).length<=504:=by
 unfold bG;cases h:dR m with
 | true=>exact BG h
 | false=>simp
-- the reader of messages, by the ways of reading lists
def mR(b:List aH):RdT:=(b.take (b.length - 4),2,false,())
section
variable (N:Int->RdT->List aH×RdT) (r:RdT)
def mgA:List aH×RdT:=N 4 (rdK r 5)
def mgB:Int×RdT:=aK (mgA N r).2
def mgC:List aH×RdT:=N 5 (mgB N r).2
def mgD:List aH×RdT:=N 4 (mgC N r).2
def mgE:Int×RdT:=aK (mgD N r).2
def nP:Bool:=(mgE N r).2.2.2.1||decide ((mgE N r).1>(((mgE N r).2.1.length:Nat):Int) - (mgE N r).2.2.1)
def eV:List aH:=((mgE N r).2.1.take ((mgE N r).2.2.1+(mgE N r).1).toNat).drop (mgE N r).2.2.1.toNat
def mgR:RdT:=((mgE N r).2.1,(mgE N r).2.2.1+(mgE N r).1,(mgE N r).2.2.2.1,())
def mgM(s:aE)(fs:List aO):MsgT:=(rdV r 0,rdV r 1,rdV r 2,rdV r 3,rdV r 4,(mgA N r).1,(mgB N r).1,(mgC N r).1,(mgD N r).1,s.1,s.2.1,fs,())
end
def JP(N:Int->RdT->List aH×RdT):Prop:=∀ (k:Int) (ns:List aH),(ns.length:Int)<=k->k<=5->(∀ x∈ns,InN x.1)->lA (N k) (cX ns) ns
def NI(k:Int)(r:RdT):List aH×RdT:=kW r k
def NS(k:Int)(r:RdT):List aH×RdT:=cJ r 1
theorem OG:JP NI:=λk ns hl hk h b u v hb=>by
 unfold cX at hb ⊢
 have h1:=sB (InN.nat (show ns.length<=2147483647 by omega)) hl b u (cR ns++v) (by rw[hb];simp)
 have h2:=oZ (f:=v9) (xs:=ns) (e:=λx=>aG x.1) (λx hx=>HZ (h x hx)) b (u++aG (ns.length:Int)) v (by rw[hb];simp only[List.append_assoc];rfl)
 show kW _ k=_
 unfold kW
 have h1:eE (b,(u.length:Int),false,()) k=_:=h1
 rw[h1]
 show cC v9 _ ((ns.length:Int)).toNat=_
 rw[Int.toNat_natCast]
 exact h2.trans (by rw[List.append_assoc];rfl)
theorem OE:JP NS:=λk ns hl hk h=>xN (t:=1) (by omega) (by omega) h
theorem PA{N:Int->RdT->List aH×RdT}(hN:JP N){m:MsgT}(h:MsgR m){b:List aH}(hb:b=dV m):
  nP N (b,2,false,())=false/\eV N (b,2,false,())=bI m.part/\mgM N (b,2,false,()) m.part m.marks=m/\
  ∃ u:List aH,b=u++(sR m.marks++[])/\mgR N (b,2,false,())=(b,(u.length:Int),false,()):=by
 have h0:((b,2,false,()):RdT)=(b,(rk2.length:Int),false,()):=rfl
 rw[h0]
 have hb:=hb
 unfold dV at hb
 have c0:=nK (ns:=fG m) h.head hb 5 (Nat.le_refl _)
 rw[show(fG m).take 5=fG m from rfl] at c0
 have v0:=v6 (ns:=fG m) h.head hb
 have c1:mgA N (b,(rk2.length:Int),false,())=_:=(congrArg (N 4) c0).trans (hN 4 m.tree.1 (by have:=h.tree.1;omega) (by decide) h.tree.2 b _ _ (by rw[hb];rfl))
 have c2:mgB N (b,(rk2.length:Int),false,())=_:=(congrArg (λq:List aH×RdT=>aK q.2) c1).trans (hY h.root b _ _ (by rw[hb];simp only[List.append_assoc];rfl))
 have c3:mgC N (b,(rk2.length:Int),false,())=_:=(congrArg (λq:Int×RdT=>N 5 q.2) c2).trans (hN 5 m.vec (by have:=h.vec.1;omega) (by decide) h.vec.2 b _ _ (by rw[hb];simp only[List.append_assoc];rfl))
 have c4:mgD N (b,(rk2.length:Int),false,())=_:=(congrArg (λq:List aH×RdT=>N 4 q.2) c3).trans (hN 4 m.leaves (by have:=h.leaves.1;omega) (by decide) h.leaves.2 b _ _ (by rw[hb];simp only[List.append_assoc];rfl))
 have hl:=oC ((aN _).1 h.part)
 have c5:mgE N (b,(rk2.length:Int),false,())=_:=(congrArg (λq:List aH×RdT=>aK q.2) c4).trans (hY (x:=(((bI m.part).length:Nat):Int)) (InN.nat (by omega)) b _ _ (by rw[hb];simp only[List.append_assoc];rfl))
 generalize hu:rk2++cR (fG m)++cX m.tree.1++aG m.tree.2.1++cX m.vec++cX m.leaves++aG (((bI m.part).length:Nat):Int)=U at c5
 have hb2:b=U++(bI m.part++sR m.marks):=by rw[hb,<- hu];simp
 have hbl:b.length=U.length+((bI m.part).length+(sR m.marks).length):=by rw[hb2,List.length_append,List.length_append]
 refine⟨?_,?_,?_,U++bI m.part,?_,?_⟩
 ·unfold nP;rw[c5]
  grind
 ·unfold eV;rw[c5]
  show(b.take ((U.length:Int)+(((bI m.part).length:Nat):Int)).toNat).drop ((U.length:Int)).toNat=_
  rw[show((U.length:Int)+(((bI m.part).length:Nat):Int)).toNat=U.length+(bI m.part).length by omega,Int.toNat_natCast,hb2]
  exact sW _ _ _
 ·unfold mgM;rw[c1,c2,c3,c4,v0 0 (show 0<5 by omega),v0 1 (show 1<5 by omega),v0 2 (show 2<5 by omega),v0 3 (show 3<5 by omega),v0 4 (show 4<5 by omega)];rfl
 ·rw[hb2];simp
 ·unfold mgR;rw[c5]
  simp
-- the program's reader of messages
def miC(b:List aH):Int×RdT:=eE (mgR NI (mR b)) 5
def miF(b:List aH):List aO×RdT:=cC dK (miC b).2 (miC b).1.toNat
def miM(b:List aH)(s:aE):MsgT:=mgM NI (mR b) s (miF b).1
def cI(b:List aH):Option MsgT:=bif decide (i64.wrap ((b.length:Int) - 4)<2)then none else bif !bU (b.take 2) rk2 then none else bif nP NI (mR b)then none else
 match bT (eV NI (mR b))with
 | none=>none
 | some s=>bif(miF b).2.2.2.1||(!dR (miM b s)|| !bU (bG (miM b s)) b)then none else some (miM b s)
-- the reference's
def msF(b:List aH):List aO×RdT:=flR (mgR NS (mR b))
def msM(b:List aH):MsgT:=mgM NS (mR b) ((bT (eV NS (mR b))).getD i9) (msF b).1
def fJ(b:List aH):Option MsgT:=bif decide ((b.length:Int)<6)then none else bif !bU (uK (b.take (b.length - 4))) (b.drop (b.length - 4))then none else bif nP NS (mR b)then none else
 bif(bT (eV NS (mR b))).isNone||((msF b).2.2.2.1||(!dR (msM b)|| !bU (bG (msM b)) b))then none else some (msM b)
theorem wA{b:List aH}{m:MsgT}(h:cI b=some m):dR m=true/\bU (bG m) b=true:=by
 unfold cI at h
 grind
theorem L7{b:List aH}{m:MsgT}(h:fJ b=some m):dR m=true/\bU (bG m) b=true:=by
 unfold fJ at h
 grind
theorem BH(m:MsgT):(cM m).length - 4=(dV m).length/\(cM m).take ((cM m).length - 4)=dV m/\(cM m).drop ((cM m).length - 4)=uK (dV m):=by
 have e:(cM m).length - 4=(dV m).length:=by unfold cM;rw[List.length_append,uJ];omega
 rw[e]
 exact⟨rfl,List.take_left' rfl,List.drop_left' rfl⟩
theorem DB(m:MsgT):2<=(dV m).length:=by unfold dV;rw[List.length_append];exact Nat.le_add_right 2 _
theorem H4{m:MsgT}(h:dR m=true):cI (cM m)=some m:=by
 have hr:=pE h
 obtain⟨p1,p2,p3⟩:=BH m
 have h2:=DB m
 have hl:=BG h
 obtain⟨q1,q2,q3,u,q4,q5⟩:=PA OG hr rfl
 have e:mR (cM m)=(dV m,2,false,()):=by unfold mR;rw[p2]
 have ht:(cM m).take 2=rk2:=by rfl
 have c1:miC (cM m)=_:=(congrArg (λr:RdT=>eE (mgR NI r) 5) e).trans ((congrArg (λr:RdT=>eE r 5) q5).trans
  (sB (m:=5) (InN.nat (show m.marks.length<=2147483647 by have:=hr.marks.1;omega)) (by have:=hr.marks.1;omega) (dV m) u (m.marks.flatMap aV++[]) (q4.trans (by unfold sR;simp))))
 have c2:miF (cM m)=(m.marks,(dV m,(((u++aG (m.marks.length:Int)++m.marks.flatMap aV).length:Nat):Int),false,())):=by
  unfold miF;rw[c1]
  show cC dK _ ((m.marks.length:Int)).toNat=_
  rw[Int.toNat_natCast]
  exact oZ (yA hr.marks.2) (dV m) _ [] (q4.trans (by unfold sR;simp))
 have c3:miM (cM m) m.part=m:=by unfold miM;rw[c2,e];omega
 have hw:i64.wrap ((((cM m).length:Nat):Int) - 4)=(((cM m).length:Nat):Int) - 4:=by rw[IntKind.wrap_i64];omega
 unfold cI
 rw[hw,decide_eq_false (show ¬ ((((cM m).length:Nat):Int) - 4<2) by omega),ht,iJ,e,q1,q2,lE hr.part]
 show(bif(miF (cM m)).2.2.2.1||(!dR (miM (cM m) m.part)|| !bU (bG (miM (cM m) m.part)) (cM m))then none else some (miM (cM m) m.part))=some m
 rw[c3,c2,h,show bG m=cM m by unfold bG;rw[h];rfl,iJ];rfl
theorem H3{m:MsgT}(h:dR m=true):fJ (cM m)=some m:=by
 have hr:=pE h
 obtain⟨p1,p2,p3⟩:=BH m
 have h2:=DB m
 obtain⟨q1,q2,q3,u,q4,q5⟩:=PA OE hr rfl
 have e:mR (cM m)=(dV m,2,false,()):=by unfold mR;rw[p2]
 have c2:msF (cM m)=(m.marks,(dV m,(((u++sR m.marks).length:Nat):Int),false,())):=by
  unfold msF;rw[e,q5]
  exact C4 (show m.marks.length<=100 by have:=hr.marks.1;omega) hr.marks.2 (dV m) u [] q4
 have c3:msM (cM m)=m:=by unfold msM;rw[c2,e,q2,lE hr.part];grind
 unfold fJ
 rw[decide_eq_false (show ¬ ((((cM m).length:Nat):Int)<6) by omega),p2,p3,iJ,c3,c2,e,q1,q2,lE hr.part,h,show bG m=cM m by unfold bG;rw[h];rfl,iJ];rfl
theorem mO{m:MsgT}(h:dR m=true):bG m=cM m:=by unfold bG;rw[h];rfl
theorem SL{b:List aH}(hb:ByL b):fJ b=cI b:=by
 cases h:cI b with
 | some m=>
  obtain⟨h1,h2⟩:=wA h
  have e:=(mU (mP m) hb).1 h2
  rw[<- e,mO h1];exact H3 h1
 | none=>
  cases h2:fJ b with
  | none=>rfl
  | some m=>
   obtain⟨h3,h4⟩:=L7 h2
   have e:=(mU (mP m) hb).1 h4
   rw[<- e,mO h3,H4 h3] at h;omega
end Go.Abs
-- bytes of sums; sizes of what readers yield: plain laws
namespace Go.Abs
open Go
theorem uA(x:Nat):IntKind.u8.wrap (x:Int)=((x % 256:Nat):Int):=by
 rfl
theorem EV{x:Nat}(h:x<4294967296):p5 .i64 (x:Int) 255=((x % 256:Nat):Int):=by
 unfold p5
 have e:(BitVec.ofInt i64.bits (x:Int)&&& BitVec.ofInt i64.bits 255).toNat=x % 256:=by
  rw[BitVec.toNat_and]
  have e1:(BitVec.ofInt i64.bits (x:Int)).toNat=x:=by
   rw[BitVec.toNat_ofInt];show((x:Int) % ((2 ^ 64:Nat):Int)).toNat=x;omega
  have e2:(BitVec.ofInt i64.bits 255).toNat=2 ^ 8 - 1:=by decide
  rw[e1,e2,Nat.and_two_pow_sub_one_eq_mod]
 rw[e,IntKind.wrap_i64];omega
theorem DW(x:Nat)(s:Nat)(hs:s<=64)(d:Nat)(hd:2 ^ s=d):tA .i64 (x:Int) (s:Int)=((x / d:Nat):Int):=by
 unfold tA
 rw[Int.toNat_natCast,show min s i64.bits=s from Nat.min_eq_left hs,Int.fdiv_eq_ediv_of_nonneg _ (Int.le_of_lt (Int.pow_pos (by decide)))]
 rw[show((2:Int) ^ s)=((d:Nat):Int) by rw[<- hd];rfl]
 rfl
theorem NR{x:Int}(h0:0<=x)(h:x.toNat<4294967296):
  ([((IntKind.u8.wrap (p5 i64 (tA i64 x (24:Int)) (255:Int))),()),((IntKind.u8.wrap (p5 i64 (tA i64 x (16:Int)) (255:Int))),()),((IntKind.u8.wrap (p5 i64 (tA i64 x (8:Int)) (255:Int))),()),((IntKind.u8.wrap (p5 i64 x (255:Int))),())]:List aH)=HG x.toNat:=by
 obtain⟨n,rfl⟩:∃ n:Nat,x=(n:Int):=⟨x.toNat,by omega⟩
 rw[Int.toNat_natCast] at h ⊢
 have e1:tA .i64 (n:Int) (24:Int)=((n / 16777216:Nat):Int):=DW n 24 (by decide) _ rfl
 have e2:tA .i64 (n:Int) (16:Int)=((n / 65536:Nat):Int):=DW n 16 (by decide) _ rfl
 have e3:tA .i64 (n:Int) (8:Int)=((n / 256:Nat):Int):=DW n 8 (by decide) _ rfl
 rw[e1,e2,e3,EV (show n / 16777216<4294967296 by omega),EV (show n / 65536<4294967296 by omega),EV (show n / 256<4294967296 by omega),EV h,uA,uA,uA,uA]
 unfold HG
 rw[show n / 16777216 % 256 % 256=n / 16777216 by omega,show n / 65536 % 256 % 256=n / 65536 % 256 by omega,show n / 256 % 256 % 256=n / 256 % 256 by omega,show n % 256 % 256=n % 256 by omega]
theorem zK(n d:Nat):((n:Int)).tdiv (d:Int)=((n / d:Nat):Int):=by
 rw[Int.tdiv_eq_ediv_of_nonneg (by omega)];rfl
theorem zI(n d:Nat):((n:Int)).tmod (d:Int)=((n % d:Nat):Int):=by
 rw[Int.tmod_eq_emod_of_nonneg (by omega)];rfl
theorem NQ{x:Int}(h0:0<=x)(h:x.toNat<4294967296):
  ([((IntKind.u8.wrap (i64.wrap (x.tdiv (16777216:Int)))),()),((IntKind.u8.wrap ((i64.wrap (x.tdiv (65536:Int))).tmod (256:Int))),()),((IntKind.u8.wrap ((i64.wrap (x.tdiv (256:Int))).tmod (256:Int))),()),((IntKind.u8.wrap (x.tmod (256:Int))),())]:List aH)=HG x.toNat:=by
 obtain⟨n,rfl⟩:∃ n:Nat,x=(n:Int):=⟨x.toNat,by omega⟩
 rw[Int.toNat_natCast] at h ⊢
 have e1:((n:Int)).tdiv (16777216:Int)=((n / 16777216:Nat):Int):=zK n 16777216
 have e2:((n:Int)).tdiv (65536:Int)=((n / 65536:Nat):Int):=zK n 65536
 have e3:((n:Int)).tdiv (256:Int)=((n / 256:Nat):Int):=zK n 256
 rw[e1,e2,e3,yQ (show n / 16777216<9223372036854775808 by omega),yQ (show n / 65536<9223372036854775808 by omega),yQ (show n / 256<9223372036854775808 by omega)]
 have m2:(((n / 65536:Nat):Int)).tmod (256:Int)=((n / 65536 % 256:Nat):Int):=zI _ 256
 have m3:(((n / 256:Nat):Int)).tmod (256:Int)=((n / 256 % 256:Nat):Int):=zI _ 256
 have m4:((n:Int)).tmod (256:Int)=((n % 256:Nat):Int):=zI _ 256
 rw[m2,m3,m4,uA,uA,uA,uA]
 unfold HG
 rw[show n / 16777216 % 256=n / 16777216 by omega,show n / 65536 % 256 % 256=n / 65536 % 256 by omega,show n / 256 % 256 % 256=n / 256 % 256 by omega,show n % 256 % 256=n % 256 by omega]
-- ways of reading lists
def U2(N:Int->RdT->List aH×RdT):Prop:=∀ k r,0<=k->k<=5->RdOk r->RdOk (N k r).2/\(N k r).2.1=r.1/\(N k r).1.length<=100
theorem VO:U2 NI:=λk r h0 h5 h=>⟨h.nums k,FM r k,by have:=HR r h0;show(kW r k).1.length<=100;omega⟩
theorem VN:U2 NS:=λk r h0 h5 h=>⟨h.many 1,H7 r 1,by have:=sF r 1;show(cJ r 1).1.length<=100;omega⟩
structure MgOk (N:Int->RdT->List aH×RdT) (r:RdT):Prop where
 a:RdOk (mgA N r).2
 b:RdOk (mgB N r).2
 c:RdOk (mgC N r).2
 d:RdOk (mgD N r).2
 e:RdOk (mgE N r).2
 list:(mgE N r).2.1=r.1
 len:(mgA N r).1.length<=100/\(mgC N r).1.length<=100/\(mgD N r).1.length<=100
 nn:0<=(mgE N r).1/\(mgE N r).1<=2147483647
theorem TG{N:Int->RdT->List aH×RdT}(hN:U2 N){r:RdT}(h:RdOk r):MgOk N r:=by
 have h5:=h.k 5
 have hA:=hN 4 _ (by decide) (by decide) h5
 have hB:RdOk (mgB N r).2:=hA.1.num
 have hC:=hN 5 _ (by decide) (by decide) hB
 have hD:=hN 4 _ (by decide) (by decide) hC.1
 have hE:RdOk (mgE N r).2:=hD.1.num
 have q:=sC (mgD N r).2
 refine⟨hA.1,hB,hC.1,hD.1,hE,?_,⟨hA.2.2,hC.2.2,hD.2.2⟩,⟨q.2.2.1,q.2.2.2.1⟩⟩
 have e1:(mgE N r).2.1=(mgD N r).2.1:=q.1
 have e2:(mgD N r).2.1=(mgC N r).2.1:=hD.2.1
 have e3:(mgC N r).2.1=(mgB N r).2.1:=hC.2.1
 have e4:(mgB N r).2.1=(mgA N r).2.1:=fV _
 have e5:(mgA N r).2.1=(rdK r 5).1:=hA.2.1
 rw[e1,e2,e3,e4,e5];exact uU r 5
theorem PC{N:Int->RdT->List aH×RdT}{r:RdT}(h:MgOk N r){s:aE}(hs:SzS s){fs:List aO}(hf:fs.length<=100):SzM (mgM N r s fs):=
 ⟨Nat.le_trans h.len.1 (by decide),Nat.le_trans h.len.2.1 (by decide),Nat.le_trans h.len.2.2 (by decide),hs,Nat.le_trans hf (by decide)⟩
theorem uL{b:List aH}{s:aE}(h:bT b=some s):StateOk s:=(aN s).1 (xG h).1
theorem D6{s:aE}(h:StateOk s):SzS s:=⟨Nat.le_trans h.len.1 (by decide),Nat.le_trans h.len.2 (by decide)⟩
theorem TH{b:List aH}(hb:B8 b)(hl:b.length<=aP)(h6:6<=b.length):RdOk (mR b) where
 b8:=(hb.byL.sub λx hx=>List.mem_of_mem_take hx).b8
 len:=by show(b.take (b.length - 4)).length<=aP;rw[List.length_take];omega
 lo:=by show(0:Int)<=2;omega
 hi:=by show(2:Int)<=(((b.take (b.length - 4)).length:Nat):Int);rw[List.length_take];omega
theorem PB{N:Int->RdT->List aH×RdT}{r:RdT}(h:MgOk N r)(hb:nP N r=false):RdOk (mgR N r):=by
 unfold nP at hb
 simp only[Bool.or_eq_false_iff,decide_eq_false_iff_not] at hb
 have hn:=h.nn
 have lo:=h.e.lo;have hi:=h.e.hi
 exact⟨h.e.b8,h.e.len,by show 0<=(mgE N r).2.2.1+(mgE N r).1;omega,by show(mgE N r).2.2.1+(mgE N r).1<=(((mgE N r).2.1.length:Nat):Int);omega⟩
theorem F3{b:List aH}{m:MsgT}(h:cI b=some m):SzM m:=by
 have hr:=pE (wA h).1
 exact⟨Nat.le_trans hr.tree.1 (by decide),Nat.le_trans hr.vec.1 (by decide),Nat.le_trans hr.leaves.1 (by decide),D6 ((aN _).1 hr.part),Nat.le_trans hr.marks.1 (by decide)⟩
theorem VS(a b:Int):∃ y:Nat,kU .u8 a b=(y:Int)/\y<=255:=by
 unfold kU
 rw[uA]
 exact⟨_,rfl,by omega⟩
theorem UV{b:List aH}(h:ByL b)(i:Nat)(x y:Int)(u:Unit):ByL (b.set i (kU .u8 x y,u)):=λz hz=>by
 rcases List.mem_or_eq_of_mem_set hz with h1 | h1
 ·exact h z h1
 ·rw[h1];exact VS x y
end Go.Abs
-- what was said, in order and ER: plain laws
namespace Go.Abs
open Go
theorem kF{w:aU}(h:bP w=true):1<=w.1.length/\w.1.length<=5/\w.2.1.length<=12/\w.2.2.1.length<=40:=by
 unfold bP at h
 simp only[Bool.and_eq_true,aM,Bool.not_eq_true',decide_eq_false_iff_not] at h
 omega
-- ER
end Go.Abs
-- a world in order, told by its parts: plain laws
namespace Go.Abs
open Go
structure WOk (w:aU):Prop where
 n:1<=w.1.length/\w.1.length<=5
 net:w.2.1.length<=12
 said:w.2.2.1.length<=40
 node:∀ i,i<w.1.length->NodeOk (gt w.1 i)/\(gt w.1 i).2.1=(w.1.length:Int)/\(gt w.1 i).1=(i:Int)
 to:∀ p∈w.2.1,0<=p.1/\p.1<(w.1.length:Int)
 part:∀ p∈w.2.2.1,(0<=p.1/\p.1<(w.1.length:Int))/\StateOk p.2
theorem MM{x:Int}{n:Nat}(h:n<=5):inB x 0 (i64.wrap ((n:Int) - 1))=true↔0<=x/\x<(n:Int):=by
 rw[aM,IntKind.wrap_i64];omega
theorem yR(w:aU):bP w=true↔WOk w:=by
 unfold bP kN iP
 simp only[Bool.and_eq_true,bD,aM,Bool.not_eq_true',decide_eq_false_iff_not,beq_iff_eq]
 constructor
 ·rintro ⟨h1,h2,h3,h4,h5,h6⟩
  have h7:w.1.length<=5:=by omega
  refine⟨by omega,by omega,by omega,λi hi=>⟨(fE _).1 (h4 i hi).1,(h4 i hi).2.1,(h4 i hi).2.2⟩,λp hp=>?_,λp hp=>?_⟩
  ·obtain⟨i,hi,rfl⟩:=fW hp
   exact(MM h7).1 (aM.2 (h5 i hi))
  ·obtain⟨i,hi,rfl⟩:=fW hp
   exact⟨(MM h7).1 (aM.2 (h6 i hi).1),(aN _).1 (h6 i hi).2⟩
 ·intro h
  have h7:=h.n.2
  refine⟨⟨by have:=h.n;omega,by omega⟩,by have:=h.net;omega,by have:=h.said;omega,λi hi=>⟨(fE _).2 (h.node i hi).1,(h.node i hi).2⟩,λi hi=>aM.1 ((MM h7).2 (h.to _ (cB hi))),λi hi=>⟨aM.1 ((MM h7).2 (h.part _ (cB hi)).1),(aN _).2 (h.part _ (cB hi)).2⟩⟩
end Go.Abs
