/- A by-value reading of the model, and its soundness, part 3. -/
import Derived.Test.YtmamlgjbendjhaaGreatW2
import Derived.Lib.Bytealg
set_option linter.unusedVariables false
/- Plain laws: differences of views applied, and what they are. -/
open Go.IntKind (i64)
namespace Go.Abs
end Go.Abs
/- Plain laws: draws. -/
namespace Go.Abs
abbrev R8:=List aH×Int×Int×Unit
structure CurOk (c:R8):Prop where
 len:c.1.length<=1048576
 lo:0<=c.2.1
 hi:c.2.1<=c.1.length
theorem NY{x n:Int}(hx:0<=x)(hn:0<n):0<=x.tmod n/\x.tmod n<n:=by
 rw[Int.tmod_eq_emod_of_nonneg hx]
 exact⟨Int.emod_nonneg _ (by omega),Int.emod_lt_of_pos _ hn⟩
theorem NA{β:Type}{o:Option Out}{A B:List Kd}{r:Row A}{s:Row B}{f:Rows [A]×Rows [B]->Option β}(h:o=some ⟨[⟨A,r⟩],[⟨B,s⟩]⟩):(o.bind (cP [A] [B])).bind f=f ((r,()),(s,())):=by
 rw[h];simp[cP,eV,jF];rfl
/-- A loop whose rounds are told by what they keep. -/
theorem It.ex {ι σ:Type} {lvl:Nat} {c:Nat->Nat->ι->(σ->Option Out)->σ->Option Out} (Inv:Nat->σ->Prop) (Good:Out->Prop) (N:Nat)
  (hs:∀ i x,i<N->Inv i x->∃ y,Inv (i+1) y/\∀ n,lvl<=n->∀ aA a rec,c n aA a rec x=rec y)
  (he:∀ x,Inv N x->∃ o,Good o/\∀ n,lvl<=n->It (c n) x (fun _=>some o)):∀ (m j:Nat) x,j+m=N->Inv j x->∃ o,Good o/\∀ n,lvl<=n->It (c n) x (fun _=>some o)
 | 0,j,x,hj,hx=>he x ((show j=N by omega)▸hx)
 | m+1,j,x,hj,hx=>by
  obtain⟨y,hy,h⟩:=hs j x (by omega) hx
  obtain⟨o,ho,h'⟩:=It.ex Inv Good N hs he m (j+1) y (by omega) hy
  exact⟨o,ho,fun n hn=>It.next (fun aA a rec=>h n hn aA a rec) (h' n hn)⟩
def RH:List ByteArray:=[⟨#[]⟩,⟨#[97]⟩,⟨#[98]⟩,⟨#[97,98]⟩,⟨#[49,50,51,52,53,54,55,56]⟩,⟨#[49,50,51,52,53,54,55,56,57]⟩]
def R7(e:bJ):Prop:=e.2.2.2.2.1∈RH
structure StD (k:Nat) (s:aE):Prop where
 a:s.1.length<=k
 b:s.2.1.length<=k
 data:∀ x∈s.1,R7 x.2
theorem StD.sz{k:Nat}{s:aE}(h:StD k s)(hk:k<=1048576):SzS s:=⟨Nat.le_trans h.a hk,Nat.le_trans h.b hk⟩
theorem kG{α:Type}{n:Nat}{g:Nat->List α}{x:α}(h:x∈bQ n g):∃ i,i<n/\x∈g i:=by
 induction n with
 | zero=>exact(List.not_mem_nil h).elim
 | succ n ih=>
  rw[dE] at h
  rcases List.mem_append.1 h with h | h
  ·obtain⟨i,hi,hx⟩:=ih h;exact⟨i,by omega,hx⟩
  ·exact⟨n,by omega,h⟩
/-- The loop of a new cursor, and what comes behind it. -/
theorem It.new {lvl:Nat} {c:Nat->Nat->Unit->(Int×Int->Option Out)->Int×Int->Option Out} (Good:Out->Prop) (b:List aH) (hb:b.length<=1048576)
  (hs:∀ (i:Nat) (h:Int),i<b.length->i<4000->∃ h',∀ n,lvl<=n->∀ aA a rec,c n aA a rec (h,(i:Int))=rec (h',((i+1:Nat):Int)))
  (he:∀ (h i:Int),CurOk (b,0,h,())->(¬ i<(b.length:Int)\/¬ i<4000)->∃ o,Good o/\∀ n,lvl<=n->∃ M,∀ aA,M<=aA->∀ a rec,c n aA a rec (h,i)=some o) (h0:Int):
  ∃ o,Good o/\∀ n,lvl<=n->It (c n) (h0,(0:Int)) (fun _=>some o):=by
 refine It.ex (fun i y=>∃ h,y=(h,(i:Int))) Good (min b.length 4000) ?_ ?_ (min b.length 4000) 0 (h0,(0:Int)) (by omega) ⟨h0,rfl⟩
 ·rintro i y hi ⟨h,rfl⟩
  obtain⟨h',hh⟩:=hs i h (by omega) (by omega)
  exact⟨_,⟨h',rfl⟩,hh⟩
 ·rintro y ⟨h,rfl⟩
  obtain⟨o,ho,hh⟩:=he h ((min b.length 4000:Nat):Int) ⟨hb,by show(0:Int)<=0;omega,by show(0:Int)<=(b.length:Int);omega⟩ (by omega)
  refine⟨o,ho,fun n hn=>?_⟩
  obtain⟨M,hM⟩:=hh n hn
  refine⟨M+1,fun aA k hf hk a=>?_⟩
  obtain⟨k,rfl⟩:∃ k',k=k'+1:=⟨k - 1,by omega⟩
  exact hM aA (by omega) a _
end Go.Abs
-- marks, tables, taking and receiving: plain laws
namespace Go.Abs
abbrev MsgT:=Int×Int×Int×Int×Int×List aH×Int×List aH×List aH×List bL×List aL×List aL×Unit
abbrev MsgT.hi(m:MsgT):Int:=m.2.2.2.2.1
abbrev MsgT.tree(m:MsgT):kH:=(m.2.2.2.2.2.1,m.2.2.2.2.2.2.1,())
abbrev MsgT.vec(m:MsgT):List aH:=m.2.2.2.2.2.2.2.1
abbrev MsgT.leaves(m:MsgT):List aH:=m.2.2.2.2.2.2.2.2.1
abbrev MsgT.part(m:MsgT):aE:=(m.2.2.2.2.2.2.2.2.2.1,m.2.2.2.2.2.2.2.2.2.2.1,())
abbrev MsgT.marks(m:MsgT):List aL:=m.2.2.2.2.2.2.2.2.2.2.2.1
structure SzM (m:MsgT):Prop where
 leaves:m.tree.1.length<=aQ
 vec:m.vec.length<=aQ
 list:m.leaves.length<=aQ
 part:SzS m.part
 marks:m.marks.length<=aQ
theorem q9(a b:Int):mxI true a b=max a b:=by unfold mxI;simp only[if_true];split<;>omega
theorem EB(a b:Int):mxI false a b=min a b:=by unfold mxI;simp only[Bool.false_eq_true,if_false];split<;>omega
-- lists in order
theorem qW{α:Type}{k:α->Int}{g:Nat->List α}(h1:∀ i,(g i).length<=1)(h:∀ i,∀ x∈g i,k x=(i:Int)):∀ n,(bQ n g).Pairwise (fun x y=>k x<k y)
 | 0=>by rw[v4];exact List.Pairwise.nil
 | n+1=>by
  rw[dE,List.pairwise_append]
  refine⟨qW h1 h n,?_,fun x hx y hy=>?_⟩
  ·match hg:g n with
   | []=>exact List.Pairwise.nil
   | [x]=>exact List.pairwise_singleton _ _
   | x::y::t=>have:=h1 n;rw[hg] at this;simp at this
  ·obtain⟨i,hi,hx⟩:=kG hx
   rw[h i x hx,h n y hy];omega
theorem oS{s:aE}(h:StateOk s)(i:Int):0<=cO s.2.1 i/\cO s.2.1 i<=1000:=by
 rcases eI s i with ⟨x,hx,_,e⟩ | ⟨_,e⟩
 ·have:=(h.floor x hx).2;rw[bA] at this;rw[e];omega
 ·rw[e];omega
theorem sI{s:aE}(h:StateOk s)(i:Int):(bD s i).1=dW\/d6 (bD s i).1=true:=by
 rcases eJ s i with ⟨x,hx,_,e⟩ | ⟨_,e⟩
 ·rw[e];exact .inr (h.item x hx).2.1
 ·rw[e];exact .inl rfl
theorem LI{a b:aE}(ha:StateOk a)(hb:StateOk b)(i:Int):eS a b i=dW\/d6 (eS a b i)=true:=by
 unfold eS mxE
 cases decide (gM (bD a i).1 (bD b i).1<0)with
 | true=>exact sI hb i
 | false=>exact sI ha i
theorem MV{a b:aE}(ha:StateOk a)(hb:StateOk b)(i:Int):0<=flr a b i/\flr a b i<=1000:=by
 have h1:=oS ha i
 have h2:=oS hb i
 unfold flr;rw[q9];omega
theorem vE{a b:aE}{i:Nat}{x:bL}(h:x∈d9 a b i):x=((i:Int),eS a b i)/\(eS a b i).1>flr a b i:=by
 unfold d9 at h
 cases hd:decide ((eS a b i).1>flr a b i)with
 | false=>rw[hd] at h;cases h
 | true=>rw[hd] at h;exact⟨List.mem_singleton.1 h,of_decide_eq_true hd⟩
theorem oO{a b:aE}{i:Nat}{x:aL}(h:x∈dS a b i):x=((i:Int),flr a b i,())/\flr a b i>0:=by
 unfold dS at h
 cases hd:decide (flr a b i>0)with
 | false=>rw[hd] at h;cases h
 | true=>rw[hd] at h;exact⟨List.mem_singleton.1 h,of_decide_eq_true hd⟩
theorem CQ{i:Nat}(h:i<5):fO (i:Int)=true:=by unfold fO;rw[bA];omega
theorem StateOk.join{a b:aE}(ha:StateOk a)(hb:StateOk b):StateOk (cU a b) where
 item x hx:=by
  obtain⟨i,hi,hx⟩:=kG hx
  obtain⟨rfl,hg⟩:=vE hx
  have hf:=MV ha hb (i:Int)
  refine⟨CQ hi,?_,?_⟩
  ·rcases LI ha hb (i:Int)with e | e
   ·rw[e] at hg;have h0:(0:Int)>flr a b i:=hg;omega
   ·exact e
  ·show cO (cU a b).2.1 (i:Int)<(eS a b i).1
   rcases eI (cU a b) (i:Int)with ⟨f,hf',e1,e⟩ | ⟨_,e⟩
   ·obtain⟨j,_,hf'⟩:=kG hf'
    obtain⟨rfl,_⟩:=oO hf'
    have:(j:Int)=(i:Int):=e1
    rw[e];show flr a b (j:Int)<_;rw[this];omega
   ·rw[e];omega
 items:=qW (k:=fun x:bL=>x.1) (qU a b) (fun i x hx=>by rw[(vE hx).1]) 5
 floor f hf:=by
  obtain⟨i,hi,hf⟩:=kG hf
  obtain⟨rfl,hg⟩:=oO hf
  have:=MV ha hb (i:Int)
  refine⟨CQ hi,?_⟩
  rw[bA];show 1<=flr a b i/\flr a b i<=1000;omega
 floors:=qW (k:=fun x:aL=>x.1) (oP a b) (fun i x hx=>by rw[(oO hx).1]) 5
theorem tY{a b:aE}(ha:aN a=true)(hb:aN b=true):aN (cU a b)=true:=
 (aM _).2 (((aM _).1 ha).join ((aM _).1 hb))
theorem tX:aN pC=true:=rfl
-- marks
def d5(ms:List aL):Bool:=cE ms.length (fG ms)
def EG(ms:List aL):Bool:=cE ms.length (iL ms)
theorem JI(ms:List aL):EG ms=d5 ms:=lQ fun i hi=>by unfold iL fG;ac_rfl
theorem yS(ms:List aL):aN ([],ms,())=d5 ms:=by
 unfold aN d5;rw[show cE ([]:List bL).length (mD ([],ms,()))=true from rfl,Bool.true_and]
def gS(s:aE)(i:Nat):List aL:=bif decide (gone s i>0)then[((i:Int),gone s i,())] else[]
def dV(s:aE):List aL:=bQ 5 (gS s)
theorem oE(s:aE)(i:Nat):(gS s i).length<=1:=by unfold gS;cases decide (gone s i>0)<;>simp
theorem kA(s:aE):(dV s).length<=5:=c7 (n:=5) (L:=1) fun i _=>oE s i
theorem H4(s:aE)(i:Int):gone s i<=1000:=by
 cases hs:aN s with
 | false=>rw[EQ hs];omega
 | true=>
  have h:=(aM s).1 hs
  have hf:=oS h i
  unfold gone;rw[hs]
  show(bif(bD s i).2 then _ else _)<=(1000:Int)
  cases h2:(bD s i).2 with
  | false=>exact hf.2
  | true=>
   have he:(bD s i).1.1<=1000/\0<=(bD s i).1.1:=by
    rcases sI h i with e | e
    ·rw[e];show(0:Int)<=1000/\(0:Int)<=0;omega
    ·unfold d6 at e;simp only[Bool.and_eq_true,bA] at e;omega
   show(bif(bD s i).1.2.1==0 then i64.wrap ((bD s i).1.1 - 1)else(bD s i).1.1)<=1000
   cases (bD s i).1.2.1==0 with
   | false=>exact he.1
   | true=>show i64.wrap ((bD s i).1.1 - 1)<=1000;rw[IntKind.wrap_i64];omega
theorem F7{s:aE}{i:Nat}{x:aL}(h:x∈gS s i):x=((i:Int),gone s i,())/\gone s i>0:=by
 unfold gS at h
 cases hd:decide (gone s i>0)with
 | false=>rw[hd] at h;cases h
 | true=>rw[hd] at h;exact⟨List.mem_singleton.1 h,of_decide_eq_true hd⟩
theorem BG{fs:List aL}(g:Nat->List aL)(he:fs=bQ 5 g)(h1:∀ i,(g i).length<=1)(h:∀ i,∀ x∈g i,x.1=(i:Int)/\1<=x.2.1/\x.2.1<=1000):StateOk ([],fs,()) where
 item x hx:=by cases hx
 items:=List.Pairwise.nil
 floor f hf:=by
  have hf:f∈fs:=hf
  rw[he] at hf
  obtain⟨i,hi,hf⟩:=kG hf
  obtain⟨e,h2,h3⟩:=h i f hf
  exact⟨by rw[e];exact CQ hi,bA.2 ⟨h2,h3⟩⟩
 floors:=by
  show fs.Pairwise _
  rw[he];exact qW (k:=fun x:aL=>x.1) h1 (fun i x hx=>(h i x hx).1) 5
theorem F6(s:aE):d5 (dV s)=true:=by
 rw[<- yS]
 exact(aM _).2 (BG (gS s) rfl (oE s) fun i x hx=>by
  obtain⟨rfl,h⟩:=F7 hx
  exact⟨rfl,h,H4 s i⟩)
theorem pU{ms:List aL}(h:d5 ms=true){i:Nat}(hi:i<ms.length):0<=(gt ms i).1/\(gt ms i).1<=4/\1<=(gt ms i).2.1/\(gt ms i).2.1<=1000:=by
 unfold d5 at h
 have:=bZ.1 h i hi
 unfold fG fO at this
 simp only[Bool.and_eq_true,bA] at this
 omega
theorem JH{ms:List aL}(h:d5 ms=true):ms.length<=5:=by
 rw[<- yS] at h
 exact((aM _).1 h).len.2
-- tables
def yA(r:bK)(f:aL):bK:=(r.1.set f.1.toNat (mxI true (gt r.1 f.1.toNat).1 f.2.1,()),())
def jM(r:bK)(ms:List aL):Nat->bK
 | 0=>r
 | i+1=>yA (jM r ms i) (gt ms i)
def lT(t:List bK)(k:Int)(ms:List aL):Bool:=inB k 0 (i64.wrap ((t.length:Int) - 1))&&(d5 ms&& !decide ((((gt t k.toNat).1.length:Nat):Int)<5))
def bU(t:List bK)(k:Nat)(ms:List aL)(i:Nat):List bK:=t.set k (jM (gt t k) ms i)
def bH(t:List bK)(k:Int)(ms:List aL):List bK:=bif lT t k ms then bU t k.toNat ms ms.length else t
theorem k8(r:bK)(ms:List aL):∀ i,(jM r ms i).1.length=r.1.length
 | 0=>rfl
 | i+1=>by show(List.set _ _ _).length=_;rw[List.length_set];exact k8 r ms i
theorem dC{α:Type}[Inhabited α]{xs:List α}{i:Nat}(h:i<xs.length)(x:α):gt (xs.set i x) i=x:=by
 rw[d8 (by rw[List.length_set];exact h)];simp
theorem gE{α:Type}[Inhabited α]{xs:List α}{i j:Nat}(h:i≠j)(x:α):gt (xs.set i x) j=gt xs j:=by
 unfold gt;simp[h]
theorem rU{α:Type}[Inhabited α]{xs:List α}{i:Nat}:xs.set i (gt xs i)=xs:=by
 rcases Nat.lt_or_ge i xs.length with h | h
 ·rw[d8 h];exact List.set_getElem_self h
 ·exact List.set_eq_of_length_le h
theorem tB(t:List bK)(k:Nat)(ms:List aL):bU t k ms 0=t:=rU
theorem eE(t:List bK)(k:Int)(ms:List aL):(bH t k ms).length=t.length:=by
 unfold bH
 cases lT t k ms with
 | false=>rfl
 | true=>show(bU _ _ _ _).length=_;unfold bU;rw[List.length_set]
theorem oK{k:Int}{n:Nat}(hn:n<=aQ)(h:inB k 0 (i64.wrap ((n:Int) - 1))=true):k.toNat<n/\((k.toNat:Nat):Int)=k:=by
 rw[bA,IntKind.wrap_i64] at h;unfold aQ at hn;omega
theorem gX(t:List bK)(k:Int)(ms:List aL)(j:Nat):((gt (bH t k ms) j).1.length)=(gt t j).1.length:=by
 unfold bH
 cases hb:lT t k ms with
 | false=>rfl
 | true=>
  show(gt (bU t k.toNat ms ms.length) j).1.length=_
  unfold bU
  rcases Nat.lt_or_ge k.toNat t.length with h | h
  ·by_cases e:k.toNat=j
   ·subst e;rw[dC h,k8]
   ·rw[gE e]
  ·rw[List.set_eq_of_length_le h]
theorem FD{r:bK}{ms:List aL}(hm:d5 ms=true)(hr:∀ j,j<r.1.length->inB (gt r.1 j).1 0 1000=true):∀ i,i<=ms.length->∀ j,j<r.1.length->inB (gt (jM r ms i).1 j).1 0 1000=true
 | 0,_,j,hj=>hr j hj
 | i+1,hi,j,hj=>by
  have ih:=FD hm hr i (by omega)
  have hid:=pU hm (i:=i) (by omega)
  have hl:=k8 r ms i
  show inB (gt (List.set (jM r ms i).1 (gt ms i).1.toNat (mxI true (gt (jM r ms i).1 (gt ms i).1.toNat).1 (gt ms i).2.1,())) j).1 0 1000=true
  by_cases e:(gt ms i).1.toNat=j
  ·subst e
   rw[dC (by omega)]
   have:=ih _ hj
   rw[bA] at this ⊢
   show 0<=mxI true _ _/\mxI true _ _<=1000
   rw[q9];omega
  ·rw[gE e];exact ih j hj
theorem v7{t:List bK}{n k:Int}{ms:List aL}(ht:iP t n=true):iP (bH t k ms) n=true:=by
 unfold iP at ht ⊢
 simp only[Bool.and_eq_true] at ht ⊢
 obtain⟨h1,h2,h3⟩:=ht
 refine⟨h1,by rw[eE];exact h2,?_⟩
 rw[eE]
 rw[bZ] at h3 ⊢
 intro j hj
 have h4:=h3 j hj
 unfold sD at h4 ⊢
 simp only[Bool.and_eq_true] at h4 ⊢
 rw[gX]
 refine⟨h4.1,?_⟩
 have h5:=bZ.1 h4.2
 rw[bZ]
 intro i hi
 unfold bH
 cases hb:lT t k ms with
 | false=>exact h5 i hi
 | true=>
  show inB (gt (gt (bU t k.toNat ms ms.length) j).1 i).1 0 1000=true
  unfold bU
  by_cases e:k.toNat=j
  ·subst e
   rw[dC hj]
   have hm:d5 ms=true:=by unfold lT at hb;simp only[Bool.and_eq_true] at hb;exact hb.2.1
   exact FD hm h5 _ (Nat.le_refl _) i hi
  ·rw[gE e];exact h5 i hi
def lO(t:List bK)(id:Int)(k:Nat):Bool:=inB id 0 (i64.wrap ((((gt t k).1.length:Nat):Int) - 1))
def jD(t:List bK)(id:Int):Nat->Int
 | 0=>0
 | k+1=>bif(k:Int)==0 then(gt (gt t k).1 id.toNat).1 else bif decide ((gt (gt t k).1 id.toNat).1<jD t id k)then(gt (gt t k).1 id.toNat).1 else jD t id k
def eH(t:List bK)(id:Int):Int:=bif cE t.length (lO t id)then jD t id t.length else 0
-- pruning
def fE(s:aE)(t:List bK)(i:Nat):List aL:=bif decide (mxI false (eH t i) (gone s i)>0)then[((i:Int),mxI false (eH t i) (gone s i),())] else[]
def eN(s:aE)(t:List bK):aE:=([],bQ 5 (fE s t),())
def prune(s:aE)(t:List bK):aE:=bif aN s then cU s (eN s t)else s
theorem nV(s:aE)(t:List bK)(i:Nat):(fE s t i).length<=1:=by unfold fE;cases decide (mxI false (eH t i) (gone s i)>0)<;>simp
theorem pY(s:aE)(t:List bK):aN (eN s t)=true:=
 (aM _).2 (BG (fE s t) rfl (nV s t) fun i x hx=>by
  unfold fE at hx
  cases hd:decide (mxI false (eH t i) (gone s i)>0)with
  | false=>rw[hd] at hx;cases hx
  | true=>
   rw[hd] at hx
   have e:=List.mem_singleton.1 hx
   have h0:=of_decide_eq_true hd
   have hg:=H4 s i
   rw[e];refine⟨rfl,h0,?_⟩
   show mxI false (eH t i) (gone s i)<=1000
   rw[EB];omega)
theorem wU(s:aE)(t:List bK):SzS (eN s t):=⟨Nat.zero_le _,Nat.le_trans (c7 (n:=5) (L:=1) fun i _=>nV s t i) (by decide)⟩
theorem yJ{s:aE}(h:aN s=true)(t:List bK):aN (prune s t)=true:=by
 unfold prune;rw[h];exact tY h (pY s t)
theorem LH{s:aE}(h:SzS s)(t:List bK):SzS (prune s t):=by
 unfold prune;cases aN s with
 | false=>exact h
 | true=>exact lL _ _
-- vectors
def cQ(v:List aH)(k n:Int):List aH:=bif inB k 0 (i64.wrap ((v.length:Int) - 1))then v.set k.toNat (mxI true (gt v k.toNat).1 n,())else v
theorem fP(v:List aH)(k n:Int):(cQ v k n).length=v.length:=by
 unfold cQ;cases inB k 0 (i64.wrap ((v.length:Int) - 1))with
 | false=>rfl
 | true=>exact List.length_set ..
theorem pE(v:List aH)(k n:Int)(j:Nat):(gt (cQ v k n) j).1=(gt v j).1\/(gt (cQ v k n) j).1=max (gt v j).1 n:=by
 unfold cQ;cases inB k 0 (i64.wrap ((v.length:Int) - 1))with
 | false=>exact .inl rfl
 | true=>
  show(gt (v.set _ _) j).1=_\/(gt (v.set _ _) j).1=_
  rcases Nat.lt_or_ge k.toNat v.length with h | h
  ·by_cases e:k.toNat=j
   ·subst e;rw[dC h];exact .inr (q9 _ _)
   ·rw[gE e];exact .inl rfl
  ·rw[List.set_eq_of_length_le h];exact .inl rfl
theorem DD(v:List aH){k n:Int}{j:Nat}(h:k.toNat≠j):gt (cQ v k n) j=gt v j:=by
 unfold cQ;cases inB k 0 (i64.wrap ((v.length:Int) - 1))with
 | false=>rfl
 | true=>exact gE h _
theorem v6{v:List aH}{m k n:Int}(h:fX v m=true)(hn:n<=100000):fX (cQ v k n) m=true:=by
 unfold fX at h ⊢
 simp only[Bool.and_eq_true] at h ⊢
 rw[fP]
 refine⟨h.1,h.2.1,?_⟩
 have h3:=bZ.1 h.2.2
 rw[bZ]
 intro i hi
 have:=h3 i hi
 rw[bA] at this ⊢
 rcases pE v k n i with e | e<;>rw[e]<;>omega
end Go.Abs
-- taking and receiving: plain laws
namespace Go.Abs
-- rises
def oY(r:jN)(e:bJ):Bool:=decide (e.1>r.1)||(e.1==r.1&&decide (e.2.2.1>r.2.1))
def mK(clock:Int)(r:jN)(e:bJ):jN:=bif oY r e then(e.1,e.2.2.1,clock,())else r
def cN(clock:Int)(rs:List jN)(xs:List bL):Nat->List jN
 | 0=>rs
 | i+1=>(cN clock rs xs i).set (gt xs i).1.toNat (mK clock (gt (cN clock rs xs i) (gt xs i).1.toNat) (gt xs i).2)
theorem gP(clock:Int)(rs:List jN)(xs:List bL):∀ i,(cN clock rs xs i).length=rs.length
 | 0=>rfl
 | i+1=>by show(List.set _ _ _).length=_;rw[List.length_set];exact gP clock rs xs i
def yD(clock:Int)(r:jN):Bool:=inB r.1 0 1000&&(inB r.2.1 0 100000&&inB r.2.2.1 0 clock)
theorem AS{clock:Int}(hc:0<=clock){rs:List jN}{s:aE}(hs:StateOk s)(h:∀ j,j<rs.length->yD clock (gt rs j)=true):
  ∀ i,i<=s.1.length->∀ j,j<rs.length->yD clock (gt (cN clock rs s.1 i) j)=true
 | 0,_,j,hj=>h j hj
 | i+1,hi,j,hj=>by
  have ih:=AS hc hs h i (by omega)
  have he:=(hs.item _ (c8 (xs:=s.1) (i:=i) (by omega))).2.1
  show yD clock (gt ((cN clock rs s.1 i).set (gt s.1 i).1.toNat (mK clock (gt (cN clock rs s.1 i) (gt s.1 i).1.toNat) (gt s.1 i).2)) j)=true
  by_cases e:(gt s.1 i).1.toNat=j
  ·rw[e,dC (by rw[gP];exact hj)]
   unfold mK
   cases oY (gt (cN clock rs s.1 i) j) (gt s.1 i).2 with
   | false=>exact ih j hj
   | true=>
    unfold d6 at he
    simp only[Bool.and_eq_true,bA] at he
    show yD clock ((gt s.1 i).2.1,(gt s.1 i).2.2.2.1,clock,())=true
    unfold yD
    simp only[Bool.and_eq_true,bA]
    omega
  ·rw[gE e];exact ih j hj
-- a node with another state, other rows and rises
def tkS(x:NodeT)(s:aE):List bK:=bH x.seen x.1 (dV (cU x.state s))
def tkP(x:NodeT)(s:aE):aE:=prune (cU x.state s) (tkS x s)
def tkR(x:NodeT)(s:aE):List jN:=cN x.clock x.rises (tkP x s).1 (tkP x s).1.length
def iW(x:NodeT)(s:aE):NodeT:=
 (x.1,x.2.1,(tkP x s).1,(tkP x s).2.1,(cT (tkP x s)).1,(cT (tkP x s)).2.1,x.2.2.2.2.2.2.1,x.2.2.2.2.2.2.2.1,x.2.2.2.2.2.2.2.2.1,x.got,x.acked,tkS x s,x.num,x.slots,x.sess,x.wait,x.limit,x.clock,tkR x s,())
theorem FU(a:List aH):jI a a=true:=by
 unfold jI;simp[cE]
structure NodeOk (x:NodeT):Prop where
 n:inB x.2.1 1 5=true
 id:inB x.1 0 (i64.wrap (x.2.1 - 1))=true
 state:aN x.state=true
 tree:sZ x=true
 log:iC x.log=true
 got:fX x.got x.2.1=true
 acked:fX x.acked x.2.1=true
 own:((gt x.got x.1.toNat).1==dZ x.log)=true
 seen:iP x.seen x.2.1=true
 ack:BW x=true
 num:inB x.num 0 100000=true
 clock:inB x.clock 0 100000=true
 slots:inB x.slots 1 4=true
 wait:inB x.wait 1 20=true
 limit:inB x.limit 1 50=true
 rises:(x.rises.length:Int)==5
 rise:cE x.rises.length (lC x)=true
 sess:lA x=true
theorem sC(x:NodeT):kL x=true↔NodeOk x:=by
 unfold kL m7
 simp only[Bool.and_eq_true]
 constructor
 ·rintro ⟨h1,h2,h3,h4,h5,h6,h7,h8,h9,h10,h11,h12,h13,h14,h15,h16,h17,h18⟩
  exact⟨h1,h2,h3,h4,h5,h6,h7,h8,h9,h10,h11,h12,h13,h14,h15,h16,h17,h18⟩
 ·rintro ⟨h1,h2,h3,h4,h5,h6,h7,h8,h9,h10,h11,h12,h13,h14,h15,h16,h17,h18⟩
  exact⟨h1,h2,h3,h4,h5,h6,h7,h8,h9,h10,h11,h12,h13,h14,h15,h16,h17,h18⟩
theorem KK{x:NodeT}{s:aE}(h:NodeOk x)(hs:aN s=true):aN (tkP x s)=true:=yJ (tY h.state hs) _
theorem NodeOk.take{x:NodeT}{s:aE}(h:NodeOk x)(hs:aN s=true):NodeOk (iW x s) where
 n:=h.n
 id:=h.id
 state:=KK h hs
 tree:=by
  show(jI (cT (tkP x s)).1 (cT (tkP x s)).1&&(cT (tkP x s)).2.1==(cT (tkP x s)).2.1)=true
  rw[FU];simp
 log:=h.log
 got:=h.got
 acked:=h.acked
 own:=h.own
 seen:=v7 h.seen
 ack:=h.ack
 num:=h.num
 clock:=h.clock
 slots:=h.slots
 wait:=h.wait
 limit:=h.limit
 rises:=by
  show(((cN x.clock x.rises (tkP x s).1 (tkP x s).1.length).length:Nat):Int)==5
  rw[gP];exact h.rises
 rise:=by
  show cE (cN x.clock x.rises (tkP x s).1 (tkP x s).1.length).length _=true
  rw[gP,bZ]
  intro i hi
  have hc:=h.clock;rw[bA] at hc
  exact AS hc.1 ((aM _).1 (KK h hs)) (fun j hj=>bZ.1 h.rise j hj) _ (Nat.le_refl _) i hi
 sess:=h.sess
theorem FL(x:NodeT)(s:aE):SzS (tkP x s):=LH (lL _ _) _
theorem IK(s:aE):(cT s).1.length<=aQ:=by
 unfold cT;cases aN s with
 | false=>exact Nat.zero_le _
 | true=>show 4<=aQ;decide
theorem mW{x:NodeT}(h:SzN x)(s:aE):SzN (iW x s) where
 state:=FL x s
 leaves:=IK _
 list:=h.list
 logs:=h.logs
 got:=h.got
 acked:=h.acked
 seen:=by show(tkS x s).length<=aQ;unfold tkS;rw[eE];exact h.seen
 lines:=by
  intro i hi
  show(gt (tkS x s) i).1.length<=aQ
  unfold tkS;rw[gX]
  exact h.lines i (by have:i<(tkS x s).length:=hi;unfold tkS at this;rw[eE] at this;exact this)
 sess:=h.sess
 rises:=by show(cN x.clock x.rises (tkP x s).1 (tkP x s).1.length).length<=aQ;rw[gP];exact h.rises
-- hearing
def heard0(x:NodeT)(m:MsgT):NodeT:=
 (x.1,x.2.1,x.2.2.1,x.2.2.2.1,x.2.2.2.2.1,x.2.2.2.2.2.1,x.2.2.2.2.2.2.1,x.2.2.2.2.2.2.2.1,x.2.2.2.2.2.2.2.2.1,x.got,cQ x.acked m.2.1 (mxI false (gt m.vec x.1.toNat).1 (dZ x.log)),bH x.seen m.2.1 m.marks,x.num,x.slots,x.sess,x.wait,x.limit,x.clock,x.rises,())
def cG(x:NodeT)(m:MsgT):NodeT:=iW (heard0 x m) pC
def gotUp(x:NodeT)(m:MsgT):NodeT:=
 (x.1,x.2.1,x.2.2.1,x.2.2.2.1,x.2.2.2.2.1,x.2.2.2.2.2.1,x.2.2.2.2.2.2.1,x.2.2.2.2.2.2.2.1,x.2.2.2.2.2.2.2.2.1,cQ x.got m.2.1 m.hi,x.acked,x.seen,x.num,x.slots,x.sess,x.wait,x.limit,x.clock,x.rises,())
def c6(x:NodeT)(m:MsgT):NodeT:=gotUp (iW (cG x m) m.part) m
theorem A9{l:mV}(h:iC l=true):0<=dZ l/\dZ l<=100000:=by
 unfold dZ;rw[h]
 unfold iC at h
 simp only[Bool.and_eq_true,bA,Bool.not_eq_true',decide_eq_false_iff_not] at h
 show 0<=i64.wrap _/\i64.wrap _<=100000
 rw[IntKind.wrap_i64] at h ⊢
 omega
theorem NodeOk.heard0{x:NodeT}(h:NodeOk x)(m:MsgT):NodeOk (heard0 x m) where
 n:=h.n
 id:=h.id
 state:=h.state
 tree:=h.tree
 log:=h.log
 got:=h.got
 acked:=v6 h.acked (by rw[EB];have:=A9 h.log;omega)
 own:=h.own
 seen:=v7 h.seen
 ack:=by
  have:=h.ack
  unfold BW at this ⊢
  rw[show(Go.Abs.heard0 x m).acked=cQ x.acked m.2.1 (mxI false (gt m.vec x.1.toNat).1 (dZ x.log))from rfl,fP]
  rw[bZ] at this ⊢
  intro i hi
  have h1:=this i hi
  rw[show(Go.Abs.heard0 x m).log=x.log from rfl]
  simp only[Bool.not_eq_true',decide_eq_false_iff_not] at h1 ⊢
  rcases pE x.acked m.2.1 (mxI false (gt m.vec x.1.toNat).1 (dZ x.log)) i with e | e
  ·rw[e];exact h1
  ·rw[e,EB];omega
 num:=h.num
 clock:=h.clock
 slots:=h.slots
 wait:=h.wait
 limit:=h.limit
 rises:=h.rises
 rise:=h.rise
 sess:=h.sess
theorem NodeOk.heard{x:NodeT}(h:NodeOk x)(m:MsgT):NodeOk (cG x m):=(h.heard0 m).take tX
theorem vC{x:NodeT}(h:SzN x)(m:MsgT):SzN (heard0 x m) where
 state:=h.state
 leaves:=h.leaves
 list:=h.list
 logs:=h.logs
 got:=h.got
 acked:=by show(cQ _ _ _).length<=aQ;rw[fP];exact h.acked
 seen:=by show(bH _ _ _).length<=aQ;rw[eE];exact h.seen
 lines:=by
  intro i hi
  show(gt (bH x.seen m.2.1 m.marks) i).1.length<=aQ
  rw[gX]
  exact h.lines i (by have:i<(bH x.seen m.2.1 m.marks).length:=hi;rw[eE] at this;exact this)
 sess:=h.sess
 rises:=h.rises
theorem hU{x:NodeT}(h:SzN x)(m:MsgT):SzN (cG x m):=mW (vC h m) _
theorem NodeOk.gotUp{x:NodeT}(h:NodeOk x){m:MsgT}(hi:m.hi<=100000)(hm:m.2.1.toNat≠x.1.toNat):NodeOk (gotUp x m) where
 n:=h.n
 id:=h.id
 state:=h.state
 tree:=h.tree
 log:=h.log
 got:=v6 h.got hi
 acked:=h.acked
 own:=by
  show((gt (cQ x.got m.2.1 m.hi) x.1.toNat).1==dZ x.log)=true
  rw[DD _ hm];exact h.own
 seen:=h.seen
 ack:=h.ack
 num:=h.num
 clock:=h.clock
 slots:=h.slots
 wait:=h.wait
 limit:=h.limit
 rises:=h.rises
 rise:=h.rise
 sess:=h.sess
theorem MN{x:NodeT}(h:SzN x)(m:MsgT):SzN (gotUp x m) where
 state:=h.state
 leaves:=h.leaves
 list:=h.list
 logs:=h.logs
 got:=by show(cQ _ _ _).length<=aQ;rw[fP];exact h.got
 acked:=h.acked
 seen:=h.seen
 lines:=h.lines
 sess:=h.sess
 rises:=h.rises
theorem iZ{x:NodeT}(h:SzN x)(m:MsgT):SzN (c6 x m):=MN (mW (hU h m) _) _
-- messages
def j7(v:List aH)(top:Int):Bool:=cE v.length fun i=>inB (gt v i).1 0 top
def treeB(t:kH):Bool:=bif(t.1.length:Int)==0 then t.2.1==0 else((t.1.length:Int)==4&&(j7 t.1 1023&&inB t.2.1 0 1023))
def wO(v:List aH)(i:Nat):Bool:=inB (gt v i).1 0 3&&wG (fun j=> !decide ((gt v (j+1)).1<=(gt v j).1)) i
def oD(m:MsgT):Bool:=inB m.1 0 5&&(fO m.2.1&&(fO m.2.2.1&& !(m.2.1==m.2.2.1)))
def dQ(m:MsgT):Bool:=oD m&&((cE m.leaves.length (wO m.leaves))&&(j7 m.vec 100000&&(inB m.2.2.2.1 0 100000&&(inB m.hi 0 100000&&(treeB m.tree&&(decide ((m.vec.length:Int)<=5)&&(aN m.part&&d5 m.marks)))))))
def pA(v:List aH)(most top:Int):Bool:= !decide ((v.length:Int)>most)&&j7 v top
def EK(v:List aH)(i:Nat):Bool:= !decide ((gt v (i+1)).1<=(gt v i).1)
def yP(m:MsgT):Bool:=inB m.1 0 5&&(fO m.2.1&&(fO m.2.2.1&&(!(m.2.1==m.2.2.1)&&(inB m.2.2.2.1 0 100000&&(inB m.hi 0 100000&&(treeB m.tree&&(pA m.vec 5 100000&&(pA m.leaves 4 3&&(aN m.part&&(d5 m.marks&&cE (m.leaves.length - 1) (EK m.leaves)))))))))))
theorem L7(v:List aH):(pA v 4 3&&cE (v.length - 1) (EK v))=cE v.length (wO v):=by
 rw[Bool.eq_iff_iff]
 unfold pA j7 wO EK
 simp only[Bool.and_eq_true,bZ,Bool.not_eq_true',decide_eq_false_iff_not]
 constructor
 ·rintro ⟨⟨_,h2⟩,h3⟩ i hi
  refine⟨h2 i hi,?_⟩
  cases i with
  | zero=>rfl
  | succ j=>show(!decide ((gt v (j+1)).1<=(gt v j).1))=true;rw[decide_eq_false (h3 j (by omega))];rfl
 ·intro h
  have hp:∀ j,j+1<v.length->(gt v j).1<(gt v (j+1)).1:=fun j hj=>by
   have:=(h (j+1) hj).2
   unfold wG at this
   simpa using this
  have hge:∀ i,i<v.length->(i:Int)<=(gt v i).1:=by
   intro i
   induction i with
   | zero=>intro hi;have:=(h 0 hi).1;rw[bA] at this;exact this.1
   | succ j ih=>intro hi;have:=ih (by omega);have:=hp j hi;omega
  refine⟨⟨?_,fun i hi=>(h i hi).1⟩,fun i hi=>by have:=hp i (by omega);omega⟩
  rcases Nat.lt_or_ge 4 v.length with h5 | h5
  ·have h6:=hge 4 h5
   have:=(h 4 h5).1;rw[bA] at this;omega
  ·omega
theorem HV(m:MsgT):yP m=dQ m:=by
 unfold yP dQ oD
 rw[<- L7]
 unfold pA
 simp only[u6]
 ac_rfl
theorem y3{m:MsgT}(h:dQ m=true):m.leaves.length<=4:=by
 rw[<- HV] at h
 unfold yP pA at h
 simp only[Bool.and_eq_true,Bool.not_eq_true',decide_eq_false_iff_not] at h
 omega
end Go.Abs
-- messages and receiving: plain laws
namespace Go.Abs
theorem oX{β:Type}{o:Option Out}{A B C:List Kd}{r:Row A}{s:Row B}{t:Row C}{f:Rows [A,B,C]×Rows []->Option β}(h:o=some ⟨[⟨A,r⟩,⟨B,s⟩,⟨C,t⟩],[]⟩):(o.bind (cP [A,B,C] [])).bind f=f ((r,s,t,()),()):=by
 rw[h];simp[cP,eV,jF];rfl
def fC(l:List aE)(k:Nat):Nat->aE
 | 0=>pC
 | i+1=>cU (fC l k i) (gt l (k+i))
theorem rS(l:List aE)(k:Nat):∀ i,SzS (fC l k i)
 | 0=>tW
 | i+1=>lL _ _
theorem rT{l:mV}(h:iC l=true)(k:Nat):∀ i,k+i<=l.2.2.1.length->aN (fC l.2.2.1 k i)=true
 | 0,_=>tX
 | i+1,hi=>tY (rT h k i (by omega)) (by
   unfold iC at h
   simp only[Bool.and_eq_true] at h
   exact bZ.1 h.2.2.2.2 (k+i) (by omega))
def fR(l:mV)(seq:Int):Bool:=iC l&&inB seq l.2.1 (i64.wrap (l.2.1+(l.2.2.1.length:Int)))
def cW(l:mV)(seq:Int):Nat:=(seq - l.2.1).toNat
def gT(l:mV)(seq:Int):aE:=bif fR l seq then fC l.2.2.1 (cW l seq) (l.2.2.1.length - cW l seq)else pC
theorem tE{l:mV}{seq:Int}(h:fR l seq=true):l.2.1+((cW l seq:Nat):Int)=seq/\cW l seq<=l.2.2.1.length/\0<=l.2.1/\l.2.1<=100000/\l.2.2.1.length<=8:=by
 unfold fR iC at h
 simp only[Bool.and_eq_true,bA,Bool.not_eq_true',decide_eq_false_iff_not] at h
 unfold cW
 rw[IntKind.wrap_i64] at h
 omega
def pI(x:NodeT)(seq:Int):aE:=bif fR x.log seq then gT x.log seq else x.state
theorem DQ{x:NodeT}(h:SzN x)(seq:Int):SzS (pI x seq):=by
 unfold pI gT
 cases fR x.log seq with
 | false=>exact h.state
 | true=>exact rS _ _ _
theorem KW{x:NodeT}(h:NodeOk x)(seq:Int):aN (pI x seq)=true:=by
 unfold pI gT
 cases hs:fR x.log seq with
 | false=>exact h.state
 | true=>have:=tE hs;exact rT h.log _ _ (by omega)
theorem DP{s:aE}(h:SzS s)(ls:List aH):SzS (iT s ls):=
 ⟨Nat.le_trans (List.length_filter_le ..) h.1,Nat.le_trans (List.length_filter_le ..) h.2⟩
theorem KU{s:aE}(h:aN s=true)(ls:List aH):aN (iT s ls)=true:=(aM _).2 (((aM _).1 h).slice ls)
def AZ(x:NodeT)(ls:List aH)(seq:Int):aE:=cU (iT x.state ls) (pI x seq)
def eG(a b:kH)(i:Nat):List aH:=bif(a.1.length:Int) != 4 then[((i:Int),())] else bif(b.1.length:Int) != 4 then[((i:Int),())] else bif(gt a.1 i).1 != (gt b.1 i).1 then[((i:Int),())] else[]
def gW(a b:kH):List aH:=bif a.2.1==b.2.1 then[] else bQ 4 (eG a b)
theorem p6(a b:kH)(i:Nat):(eG a b i).length<=1:=by
 unfold eG
 cases (a.1.length:Int) != 4<;>cases (b.1.length:Int) != 4<;>cases (gt a.1 i).1 != (gt b.1 i).1<;>simp
theorem lM(a b:kH):(gW a b).length<=4:=by
 unfold gW
 cases a.2.1==b.2.1 with
 | true=>exact Nat.zero_le _
 | false=>exact c7 (n:=4) (L:=1) fun i _=>p6 a b i
def LW(x:NodeT)(kind to num:Int):MsgT:=(kind,x.1,to,num,dZ x.log,[],0,x.got,[],[],[],dV x.state,())
-- exchanges
def withS(x:NodeT)(ss:List gC):NodeT:=
 (x.1,x.2.1,x.2.2.1,x.2.2.2.1,x.2.2.2.2.1,x.2.2.2.2.2.1,x.2.2.2.2.2.2.1,x.2.2.2.2.2.2.2.1,x.2.2.2.2.2.2.2.2.1,x.got,x.acked,x.seen,x.num,x.slots,ss,x.wait,x.limit,x.clock,x.rises,())
def qX(s:gC):Int×Bool:=(s.1,s.2.2.1)
def PP(x:NodeT)(s:gC):Prop:=inB s.1 0 (i64.wrap (x.2.1 - 1))=true/\s.1≠x.1/\inB s.2.1 0 100000=true/\inB s.2.2.2.1 0 x.wait=true
theorem kT{v:List gC}{k:Nat}{p:Int}{b:Bool}:dJ v k p b=true↔qX (gt v k)=(p,b):=by
 unfold dJ qX
 rw[Bool.and_eq_true,beq_iff_eq,NG,Prod.mk.injEq]
theorem LM(v:List gC):(∀ i,i<v.length->A0 v i=true)↔(v.map qX).Nodup:=by
 unfold List.Nodup
 rw[List.pairwise_iff_getElem]
 unfold A0
 simp only[bZ,Bool.not_eq_true',List.length_map,List.getElem_map]
 constructor
 ·intro h i j hi hj hij e
  have:=h j hj i hij
  rw[<- Bool.not_eq_true,kT] at this
  apply this
  rw[d8 hi,d8 hj];exact e
 ·intro h j hj i hij
  rw[<- Bool.not_eq_true,kT]
  intro e
  refine h i j (by omega) hj hij ?_
  rw[d8 (by omega),d8 hj] at e;exact e
theorem gN(x:NodeT):lA x=true↔(x.sess.length:Int)<=x.slots/\(∀ s∈x.sess,PP x s)/\(x.sess.map qX).Nodup:=by
 rw[<- LM]
 unfold lA mY
 simp only[Bool.and_eq_true,bZ,Bool.not_eq_true',decide_eq_false_iff_not]
 constructor
 ·rintro ⟨h1,h2⟩
  refine⟨by omega,fun s hs=>?_,fun i hi=>(h2 i hi).2.2.2.2⟩
  obtain⟨i,hi,rfl⟩:=iH hs
  obtain⟨a,b,c,d,_⟩:=h2 i hi
  refine⟨a,?_,c,d⟩
  intro e;rw[e] at b;simp at b
 ·rintro ⟨h1,h2,h3⟩
  refine⟨by omega,fun i hi=>?_⟩
  obtain⟨a,b,c,d⟩:=h2 _ (c8 hi)
  exact⟨a,by simpa using b,c,d,h3 i hi⟩
theorem NodeOk.withS{x:NodeT}(h:NodeOk x){ss:List gC}(h1:(ss.length:Int)<=x.slots)(h2:∀ s∈ss,PP x s)(h3:(ss.map qX).Nodup):NodeOk (withS x ss) where
 n:=h.n
 id:=h.id
 state:=h.state
 tree:=h.tree
 log:=h.log
 got:=h.got
 acked:=h.acked
 own:=h.own
 seen:=h.seen
 ack:=h.ack
 num:=h.num
 clock:=h.clock
 slots:=h.slots
 wait:=h.wait
 limit:=h.limit
 rises:=h.rises
 rise:=h.rise
 sess:=(gN _).2 ⟨h1,h2,h3⟩
theorem sW{x:NodeT}(h:SzN x){ss:List gC}(h1:ss.length<=aQ):SzN (withS x ss):=
 ⟨h.state,h.leaves,h.list,h.logs,h.got,h.acked,h.seen,h.lines,h1,h.rises⟩
theorem fQ(v:List gC)(p:Int)(b:Bool):(∃ k:Nat,k<v.length/\dF v p b=(k:Int)/\qX (gt v k)=(p,b))\/(dF v p b= -1/\∀ s∈v,qX s≠(p,b)):=by
 unfold dF
 cases hf:(List.range v.length).find? (fun k=>dJ v k p b)with
 | none=>
  refine .inr ⟨rfl,fun s hs e=>?_⟩
  obtain⟨i,hi,rfl⟩:=iH hs
  have:=List.find?_eq_none.1 hf i (List.mem_range.2 hi)
  exact this (kT.2 e)
 | some k=>
  refine .inl ⟨k,List.mem_range.1 (List.mem_of_find?_eq_some hf),rfl,?_⟩
  exact kT.1 (show dJ v k p b=true from List.find?_some (p:=fun k=>dJ v k p b) hf)
def rJ(x:NodeT)(m:MsgT)(b:Bool):Int:=bif decide (dF x.sess m.2.1 b>=0)then(bif(gt x.sess (dF x.sess m.2.1 b).toNat).2.1 != m.2.2.2.1 then -1 else dF x.sess m.2.1 b)else dF x.sess m.2.1 b
def jL(x:NodeT)(k:Nat):NodeT:=withS x (x.sess.take k++x.sess.drop (k+1))
theorem MP{x:NodeT}(h:NodeOk x)(k:Nat):NodeOk (jL x k):=by
 have hs:=(gN x).1 h.sess
 have sub:List.Sublist (x.sess.take k++x.sess.drop (k+1)) x.sess:=by rw[<- List.eraseIdx_eq_take_drop_succ];exact List.eraseIdx_sublist ..
 refine h.withS ?_ (fun s hm=>hs.2.1 s (sub.subset hm)) ((sub.map qX).nodup hs.2.2)
 have:=sub.length_le;omega
theorem y9{x:NodeT}(h:SzN x)(k:Nat):SzN (jL x k):=sW h (by
 have:=h.sess;rw[List.length_append,List.length_take,List.length_drop];omega)
def nU(x:NodeT)(k:Nat)(num:Int):List gC:=x.sess.set k ((gt x.sess k).1,num,(gt x.sess k).2.2.1,(0:Int),())
def jG(x:NodeT)(m:MsgT):List gC:=x.sess++[(m.2.1,m.2.2.2.1,true,(0:Int),())]
theorem I2{x:NodeT}(h:NodeOk x){k:Nat}(hk:k<x.sess.length){num:Int}(hn:inB num 0 100000=true):NodeOk (withS x (nU x k num)):=by
 have hs:=(gN x).1 h.sess
 refine h.withS (by unfold nU;rw[List.length_set];exact hs.1) (fun s hm=>?_) ?_
 ·rcases List.mem_or_eq_of_mem_set hm with h1 | h1
  ·exact hs.2.1 s h1
  ·have h2:=hs.2.1 _ (c8 hk)
   rw[h1]
   refine⟨h2.1,h2.2.1,hn,?_⟩
   have:=h.wait;rw[bA] at this ⊢;show 0<=(0:Int)/\(0:Int)<=x.wait;omega
 ·unfold nU
  rw[List.map_set,show qX ((gt x.sess k).1,num,(gt x.sess k).2.2.1,(0:Int),())=qX (gt x.sess k)from rfl]
  have:(x.sess.map qX).set k (qX (gt x.sess k))=x.sess.map qX:=by
   rw[<- List.map_set,rU]
  rw[this];exact hs.2.2
theorem HC{x:NodeT}(h:NodeOk x){m:MsgT}(hp:inB m.2.1 0 (i64.wrap (x.2.1 - 1))=true)(hi:m.2.1≠x.1)(hn:inB m.2.2.2.1 0 100000=true)(hf:dF x.sess m.2.1 true<0)(hl:(x.sess.length:Int)≠x.slots):NodeOk (withS x (jG x m)):=by
 have hs:=(gN x).1 h.sess
 refine h.withS (by unfold jG;rw[List.length_append,List.length_singleton];omega) (fun s hm=>?_) ?_
 ·rcases List.mem_append.1 hm with h1 | h1
  ·exact hs.2.1 s h1
  ·rw[List.mem_singleton.1 h1]
   refine⟨hp,hi,hn,?_⟩
   have:=h.wait;rw[bA] at this ⊢;show 0<=(0:Int)/\(0:Int)<=x.wait;omega
 ·unfold jG
  rw[List.map_append,List.nodup_append]
  refine⟨hs.2.2,by simp,fun a ha b hb=>?_⟩
  obtain⟨s,hs1,rfl⟩:=List.mem_map.1 ha
  have hb:b=(m.2.1,true):=by simpa [qX] using hb
  rw[hb]
  rcases fQ x.sess m.2.1 true with ⟨k,_,e,_⟩ | ⟨_,e⟩
  ·rw[e] at hf;omega
  ·exact e s hs1
-- receiving
def CK(o:NodeT)(x:NodeT)(m:MsgT):MsgT:=
 (3,o.1,m.2.1,m.2.2.2.1,dZ o.log,o.tree.1,o.tree.2.1,o.got,gW o.tree m.tree,(AZ o (gW o.tree m.tree) (gt m.vec x.1.toNat).1).1,(AZ o (gW o.tree m.tree) (gt m.vec x.1.toNat).1).2.1,dV o.state,())
def PL(o:NodeT)(x:NodeT)(m:MsgT):MsgT:=
 (4,o.1,m.2.1,m.2.2.2.1,dZ o.log,[],0,o.got,m.leaves,(AZ o m.leaves (gt m.vec x.1.toNat).1).1,(AZ o m.leaves (gt m.vec x.1.toNat).1).2.1,dV o.state,())
abbrev HE:=NodeT×List MsgT×Int
def gK(x:NodeT)(m:MsgT):List gC:=bif decide (dF x.sess m.2.1 true>=0)then nU x (dF x.sess m.2.1 true).toNat m.2.2.2.1 else jG x m
def FP(x:NodeT)(m:MsgT):NodeT:=cG (withS x (gK x m)) m
def jW(x:NodeT)(m:MsgT):Bool:= !decide (dF x.sess m.2.1 true>=0)&&(x.sess.length:Int)==x.slots
def jO(x:NodeT)(m:MsgT):HE:=bif jW x m then(x,[LW x 5 m.2.1 m.2.2.2.1],3)else(FP x m,[CK (FP x m) x m],0)
def mL(x:NodeT)(m:MsgT)(k:Nat):HE:=
 bif m.1==5 then(jL x k,[],0)else bif m.1==4 then(c6 (jL x k) m,[],0)else(c6 (jL x k) m,[PL (c6 (jL x k) m) x m],0)
def rZ(x:NodeT)(m:MsgT):HE:=
 bif m.1==0 then(c6 x m,[LW (c6 x m) 1 m.2.1 m.2.2.2.1],0)else
 bif m.1==1 then(cG x m,[],0)else bif m.1==2 then jO x m else
 bif decide (rJ x m (m.1==4)<0)then(x,[],2)else mL x m (rJ x m (m.1==4)).toNat
def iB(x:NodeT)(m:MsgT):Bool:=kL x&&(dQ m&&(m.2.2.1==x.1&&(!decide (m.2.1>=x.2.1)&&(m.vec.length:Int)==x.2.1)))
def dN(x:NodeT)(m:MsgT):HE:=bif iB x m then rZ x m else(x,[],1)
structure RecOk (x:NodeT) (m:MsgT):Prop where
 node:NodeOk x
 msg:dQ m=true
 idn:0<=x.1/\x.1<x.2.1/\1<=x.2.1/\x.2.1<=5
 frm:0<=m.2.1/\m.2.1<x.2.1
 ne:m.2.1≠x.1
 vec:(m.vec.length:Int)=x.2.1
 to:m.2.2.1=x.1
 num:inB m.2.2.2.1 0 100000=true
 hi:0<=m.hi/\m.hi<=100000
 part:aN m.part=true
 marks:d5 m.marks=true
 leaves:m.leaves.length<=4
theorem yE{x:NodeT}{m:MsgT}(h:iB x m=true):RecOk x m:=by
 unfold iB at h
 simp only[Bool.and_eq_true,beq_iff_eq,Bool.not_eq_true',decide_eq_false_iff_not] at h
 obtain⟨h1,h2,h3,h4,h5⟩:=h
 have hn:=(sC x).1 h1
 have a1:=hn.n
 have a2:=hn.id
 rw[bA] at a1 a2
 rw[IntKind.wrap_i64] at a2
 have hm:=h2
 unfold dQ oD fO at hm
 simp only[Bool.and_eq_true,bA,Bool.not_eq_true',beq_eq_false_iff_ne] at hm
 obtain⟨⟨b1,b2,b3,b4⟩,b5,b6,b7,b8,b9,b10,b11,b12⟩:=hm
 exact⟨hn,h2,by omega,by omega,by rw[<- h3];exact b4,h5,h3,bA.2 b7,b8,b11,b12,y3 h2⟩
theorem RecOk.gone{x:NodeT}{m:MsgT}(h:RecOk x m)(k:Nat):RecOk (jL x k) m:=
 ⟨MP h.node k,h.msg,h.idn,h.frm,h.ne,h.vec,h.to,h.num,h.hi,h.part,h.marks,h.leaves⟩
theorem RecOk.brought{x:NodeT}{m:MsgT}(h:RecOk x m):NodeOk (c6 x m):=
 NodeOk.gotUp ((h.node.heard m).take h.part) h.hi.2 (by
  have h1:=h.ne;have h2:=h.idn;have h3:=h.frm
  show m.2.1.toNat≠x.1.toNat
  omega)
theorem RecOk.syn{x:NodeT}{m:MsgT}(h:RecOk x m)(hf:jW x m=false):RecOk (withS x (gK x m)) m:=by
 refine⟨?_,h.msg,h.idn,h.frm,h.ne,h.vec,h.to,h.num,h.hi,h.part,h.marks,h.leaves⟩
 unfold gK
 unfold jW at hf
 by_cases hc:dF x.sess m.2.1 true>=0
 ·rw[decide_eq_true hc]
  rcases fQ x.sess m.2.1 true with ⟨k,hk,e,_⟩ | ⟨e,_⟩
  ·show NodeOk (withS x (nU x (dF x.sess m.2.1 true).toNat m.2.2.2.1))
   rw[e];exact I2 h.node hk h.num
  ·omega
 ·rw[decide_eq_false hc] at hf ⊢
  refine HC h.node ?_ h.ne h.num (by omega) (by intro e;rw[e] at hf;simp at hf)
  have h2:=h.idn;have h3:=h.frm
  rw[bA,IntKind.wrap_i64];omega
theorem pG{x:NodeT}(h:NodeOk x)(m:MsgT):(gK x m).length<=aQ:=by
 have h1:=((gN x).1 h.sess).1
 have h2:=h.slots;rw[bA] at h2
 unfold gK nU jG aQ
 cases decide (dF x.sess m.2.1 true>=0)with
 | true=>show(List.set _ _ _).length<=_;rw[List.length_set];omega
 | false=>show(x.sess++[_]).length<=_;rw[List.length_append,List.length_singleton];omega
theorem N0{x:NodeT}(hz:SzN x)(h:NodeOk x)(m:MsgT):SzN (FP x m):=hU (sW hz (pG h m)) m
theorem HO{x:NodeT}{m:MsgT}(h:iB x m=false):dN x m=(x,[],1):=by unfold dN;rw[h];rfl
theorem DV{x:NodeT}{m:MsgT}(h:iB x m=true):dN x m=rZ x m:=by unfold dN;rw[h];rfl
-- an exchange taken out, as the code does it
def AC(x:NodeT)(k:Int):List gC:=([]++((x.sess.take (k.toNat)).drop 0))++((x.sess.take x.sess.length).drop ((i64.wrap (k+1))).toNat)
theorem N8{x:NodeT}{k:Nat}(hk:k<x.sess.length)(hl:x.sess.length<=aQ):AC x (k:Int)=x.sess.take k++x.sess.drop (k+1):=by
 unfold AC
 rw[aD (Nat.lt_of_lt_of_le hk (Nat.le_trans hl (by decide))),List.take_length,Int.toNat_natCast,Int.toNat_natCast];rfl
theorem DZ{x:NodeT}{k:Nat}(hk:k<x.sess.length)(hl:x.sess.length<=aQ):withS x (AC x (k:Int))=jL x k:=by rw[N8 hk hl];rfl
theorem uC{α β:Type}{ss:List α}{k:Nat}{F Z:β}(hk:k<ss.length)(hl:ss.length<=aQ):
  (bif decide (0<=(k:Int))&&decide ((k:Int)<=(ss.length:Int))then(bif decide (List.length ([]:List α)+List.length ((ss.take ((k:Int).toNat)).drop 0)<=bound)then
   (bif decide (0<=i64.wrap ((k:Int)+1))&&decide (i64.wrap ((k:Int)+1)<=(ss.length:Int))then
    (bif decide (List.length ([]++((ss.take ((k:Int).toNat)).drop 0))+List.length ((ss.take ss.length).drop ((i64.wrap ((k:Int)+1))).toNat)<=bound)then F else Z)else Z)else Z)else Z)=F:=by
 have hb:aQ<=bound:=by decide
 rw[aD (Nat.lt_of_lt_of_le hk (Nat.le_trans hl (by decide)))]
 refine(zQ (Int.natCast_nonneg _) (by omega)).trans ?_
 refine(cB (by rw[List.drop_zero,List.length_take];simp;omega)).trans ?_
 refine(zQ (Int.natCast_nonneg _) (by omega)).trans ?_
 exact cB (by rw[List.nil_append,List.drop_zero,List.length_take,List.length_drop,List.length_take,Int.toNat_natCast,Int.toNat_natCast];omega)
end Go.Abs
-- short steps
namespace Go.Abs
open Go
theorem qP{β:Type}{q:Prop}[Decidable q]{x y z:β}(h:q)(k:x=z):(bif decide q then x else y)=z:=(cB h).trans k
theorem qN{β:Type}{q:Prop}[Decidable q]{x y z:β}(h:¬ q)(k:y=z):(bif decide q then x else y)=z:=(aW h).trans k
theorem qT{β:Type}{b:Bool}{x y z:β}(h:b=true)(k:x=z):(bif b then x else y)=z:=(jU h).trans k
theorem qF{β:Type}{b:Bool}{x y z:β}(h:b=false)(k:y=z):(bif b then x else y)=z:=(dH h).trans k
theorem qt{β:Type}{x y z:β}(k:x=z):(bif true then x else y)=z:=k
theorem qf{β:Type}{x y z:β}(k:y=z):(bif false then x else y)=z:=k
theorem qz{β:Type}{m:Nat}{x y z:β}(k:x=z):(bif decide ((0:Int)<=(m:Int))then x else y)=z:=(cB (Int.natCast_nonneg m)).trans k
theorem ql{β:Type}{i m:Nat}{x y z:β}(h:i<m)(k:x=z):(bif decide ((i:Int)<(m:Int))then x else y)=z:=(cB (Int.ofNat_lt.2 h)).trans k
theorem qe{β:Type}{a:Int}{x y z:β}(k:y=z):(bif decide (a<a)then x else y)=z:=(aW (Int.lt_irrefl a)).trans k
theorem qC{β:Type}{p:Prg}{v n g:Nat}{as:List Arg}{A:List Kd}{r:Row A}{f:Rows [A]×Rows []->Option β}{z:Option β}(h:Ran p v g as ⟨[⟨A,r⟩],[]⟩)(k:f ((r,()),())=z)(hn:v<=n:=by omega):
  ((aI p n g as).bind (cP [A] [])).bind f=z:=(aJ (h n hn)).trans k
theorem qD{β:Type}{p:Prg}{v n g:Nat}{as:List Arg}{A B:List Kd}{r:Row A}{s:Row B}{f:Rows [A,B]×Rows []->Option β}{z:Option β}(h:Ran p v g as ⟨[⟨A,r⟩,⟨B,s⟩],[]⟩)(k:f ((r,s,()),())=z)(hn:v<=n:=by omega):
  ((aI p n g as).bind (cP [A,B] [])).bind f=z:=(G2 (h n hn)).trans k
theorem qE{β:Type}{p:Prg}{v n g:Nat}{as:List Arg}{A B C:List Kd}{r:Row A}{s:Row B}{t:Row C}{f:Rows [A,B,C]×Rows []->Option β}{z:Option β}(h:Ran p v g as ⟨[⟨A,r⟩,⟨B,s⟩,⟨C,t⟩],[]⟩)(k:f ((r,s,t,()),())=z)(hn:v<=n:=by omega):
  ((aI p n g as).bind (cP [A,B,C] [])).bind f=z:=(oX (h n hn)).trans k
theorem qR{β:Type}{p:Prg}{v n g:Nat}{as:List Arg}{A B:List Kd}{r:Row A}{s:Row B}{f:Rows [A]×Rows [B]->Option β}{z:Option β}(h:Ran p v g as ⟨[⟨A,r⟩],[⟨B,s⟩]⟩)(k:f ((r,()),(s,()))=z)(hn:v<=n:=by omega):
  ((aI p n g as).bind (cP [A] [B])).bind f=z:=(NA (h n hn)).trans k
end Go.Abs
/- A function of two texts with a contract of the library's. -/
namespace Go.Abs
open Go
def QM:List Arg->Option Out
 | [.val false ⟨[.str],x⟩,.val false ⟨[.str],y⟩]=>some ⟨[⟨[.int .i64],(Lib.compareBytes (ByteArray.data x.1).toList (ByteArray.data y.1).toList,())⟩],[]⟩
 | _=>none
theorem JM(rb:Nat->Prop)(w:World):Keep rb w w:=⟨rfl,rfl,rfl,Nat.le_refl _,fun _ _ _=>rfl⟩
theorem J4 {P:Program} {ti:Ti} {rts:Nat->Option (List Nat)} {fr:Nat->Bool} {g:Nat} (hf:∃ fn,P.funcs[g]? =some fn/\fn.name≠ "runtime.NumGoroutine" /\fn.body.isNone=false)
  (hrt:(rts g).bind (dR { ti:=ti,n:=0,call:=fun _ _=>none,fresh:=fr,owns:=fun _=>false,h:=⟨false,[],[],false,false,[],[],[],[]⟩ })=some [(false,[.int .i64])])
  (hc:∀ (a b:ByteArray) (w:World),Calls P g #[.string a,.string b] w fun e w'=>e= .returned (.int .i64 (Lib.compareBytes a.data.toList b.data.toList))/\w'=w) (as:List Arg) (out:Out) (h:QM as=some out):lU P ti rts fr g as out:=by
 unfold QM at h
 split at h
 ·rename_i x y
  cases h
  show QS P ti rts fr g _ _
  refine⟨hf,fun rt h1 vs bs rbs w hA _ _ _=>?_⟩
  rw[hrt] at h1
  cases h1
  obtain⟨v,vs',b,b',r,r',rfl,rfl,rfl,⟨rfl,us,hs,u,us',bb,bb',e1,e2,⟨e3,e4⟩,e5,e6⟩,v2,vs2,c,c',q,q',rfl,rfl,rfl,⟨rfl,us2,hs2,u2,us2',dd,dd',g1,g2,⟨g3,g4⟩,g5,g6⟩,rfl,rfl,rfl⟩:=hA
  have hv:v= .string x.1:=by
   rcases hs with ⟨hh,_⟩ | ⟨_,hh⟩
   ·cases hh
   ·rw[e1,e5,e3] at hh;injection hh with hh;exact hh.symm
  have hv2:v2= .string y.1:=by
   rcases hs2 with ⟨hh,_⟩ | ⟨_,hh⟩
   ·cases hh
   ·rw[g1,g5,g3] at hh;injection hh with hh;exact hh.symm
  subst hv;subst hv2
  refine Calls.mono (hc x.1 y.1 w) ?_
  rintro e w' ⟨rfl,rfl⟩
  refine⟨_,rfl,⟨JM _ _,(fun b _=>SizeLe.same rfl),(fun b h1 h2=>by omega),[_],[],[],[],rfl,?_,?_,(fun b hb=>by cases hb),(fun b hb=>by cases hb),(fun b hb=>by cases hb),fun _=>⟨List.nodup_nil,List.nodup_nil⟩⟩⟩
  ·refine⟨_,[],_,[],[_],[],[],[],[],rfl,rfl,rfl,rfl,.inr ⟨rfl,rfl⟩,?_,rfl,rfl,rfl,rfl⟩
   unfold PB
   cases fr g with
   | false=>exact⟨rfl,_,[],[],[],rfl,rfl,⟨rfl,rfl⟩,rfl,rfl⟩
   | true=>exact⟨_,[],rfl,⟨rfl,rfl⟩,rfl,rfl,rfl⟩
  ·exact⟨rfl,rfl⟩
 ·cases h
end Go.Abs
/- Plain laws: rows marked cell by cell; how many cells there are. -/
namespace Go.Abs
def cJ{α:Type}(c:α->Int):List α->Int
 | []=>0
 | x::xs=>c x+cJ c xs
def dT{α:Type}(f:α->Int->α)(c:α->Int):List α->Int->List α
 | [],_=>[]
 | x::xs,n=>f x n::dT f c xs (n+c x)
mutual
/-- How many cells lie in a value. -/
def cnT:(k:Kd)->k.T->Int
 | .int _,_=>1
 | .bool,_=>1
 | .str,_=>1
 | .fn,_=>1
 | .sl ks,xs=>cJ (cnR ks) xs
def cnR:(ks:List Kd)->Row ks->Int
 | [],_=>0
 | k::ks,r=>cnT k r.1+cnR ks r.2
end
/-- How many cells lie in a struct's slices. -/
def cnS:(ks:List Kd)->Row ks->Int
 | [],_=>0
 | .sl k::ks,r=>cnT (.sl k) r.1+cnS ks r.2
 | .int _::ks,r=>cnS ks r.2
 | .bool::ks,r=>cnS ks r.2
 | .str::ks,r=>cnS ks r.2
 | .fn::ks,r=>cnS ks r.2
mutual
/-- How much lies in a value: elements and texts' bytes. -/
def szT:(k:Kd)->k.T->Int
 | .int _,_=>0
 | .bool,_=>0
 | .str,s=>((ByteArray.size s:Nat):Int)
 | .fn,_=>0
 | .sl ks,xs=>((List.length xs:Nat):Int)+cJ (szR ks) xs
def szR:(ks:List Kd)->Row ks->Int
 | [],_=>0
 | k::ks,r=>szT k r.1+szR ks r.2
end
mutual
def CR:Kd->Bool
 | .sl ks=>Nat.ble ks.length 64&&nZ ks
 | .int _=>true
 | .bool=>true
 | .str=>true
 | .fn=>true
def nZ:List Kd->Bool
 | []=>true
 | k::ks=>CR k&&nZ ks
end
theorem qI{α:Type}{c:α->Int}:∀ (xs:List α),(∀ x∈xs,0<=c x)->0<=cJ c xs
 | [],_=>Int.le_refl _
 | x::xs,h=>by
  have h1:=h x (List.mem_cons_self ..)
  have h2:=qI xs fun y hy=>h y (List.mem_cons_of_mem _ hy)
  show 0<=c x+cJ c xs
  omega
theorem HJ{α:Type}{c d:α->Int}{A B:Int}:∀ (xs:List α),(∀ x∈xs,c x<=A+B*d x)->cJ c xs<=A*(xs.length:Int)+B*cJ d xs
 | [],_=>by show(0:Int)<=A*((0:Nat):Int)+B*0;omega
 | x::xs,h=>by
  have h1:=h x (List.mem_cons_self ..)
  have h2:=HJ (A:=A) (B:=B) (c:=c) (d:=d) xs fun y hy=>h y (List.mem_cons_of_mem _ hy)
  show c x+cJ c xs<=A*(((xs.length+1:Nat):Nat):Int)+B*(d x+cJ d xs)
  rw[Int.mul_add,show(((xs.length+1:Nat):Nat):Int)=(xs.length:Int)+1 from by omega,Int.mul_add]
  omega
theorem pH{α:Type}{c:α->Int}:∀ (xs ys:List α),cJ c (xs++ys)=cJ c xs+cJ c ys
 | [],ys=>by show cJ c ys=0+cJ c ys;omega
 | x::xs,ys=>by
  show c x+cJ c (xs++ys)=c x+cJ c xs+cJ c ys
  rw[pH xs ys];omega
theorem k9{α:Type}{c:α->Int}{xs:List α}{i:Nat}(h:i<xs.length):cJ c (xs.take (i+1))=cJ c (xs.take i)+c xs[i]:=by
 rw[<- List.take_append_getElem h,pH]
 show cJ c (xs.take i)+(c xs[i]+0)=_
 omega
mutual
theorem c9:∀ (k:Kd) (x:k.T),0<=cnT k x
 | .int _,_=>by show(0:Int)<=1;omega
 | .bool,_=>by show(0:Int)<=1;omega
 | .str,_=>by show(0:Int)<=1;omega
 | .fn,_=>by show(0:Int)<=1;omega
 | .sl ks,xs=>qI (c:=cnR ks) xs fun x _=>eZ ks x
theorem eZ:∀ (ks:List Kd) (r:Row ks),0<=cnR ks r
 | [],_=>Int.le_refl _
 | k::ks,r=>by
  have h1:=c9 k r.1
  have h2:=eZ ks r.2
  show 0<=cnT k r.1+cnR ks r.2
  omega
end
mutual
theorem B9:∀ (k:Kd) (x:k.T),0<=szT k x
 | .int _,_=>Int.le_refl _
 | .bool,_=>Int.le_refl _
 | .str,s=>by show(0:Int)<=((ByteArray.size s:Nat):Int);omega
 | .fn,_=>Int.le_refl _
 | .sl ks,xs=>by
  have h:=qI (c:=szR ks) xs fun x _=>eQ ks x
  show(0:Int)<=((List.length xs:Nat):Int)+cJ (szR ks) xs
  omega
theorem eQ:∀ (ks:List Kd) (r:Row ks),0<=szR ks r
 | [],_=>Int.le_refl _
 | k::ks,r=>by
  have h1:=B9 k r.1
  have h2:=eQ ks r.2
  show 0<=szT k r.1+szR ks r.2
  omega
end
mutual
theorem GZ:∀ (k:Kd) (x:k.T),CR k=true->cnT k x<=(bif iE k then 1 else 0)+64*szT k x
 | .int _,_,_=>by show(1:Int)<=1+64*0;omega
 | .bool,_,_=>by show(1:Int)<=1+64*0;omega
 | .str,s,_=>by show(1:Int)<=1+64*((ByteArray.size s:Nat):Int);omega
 | .fn,_,_=>by show(1:Int)<=1+64*0;omega
 | .sl ks,xs,h=>by
  have h':(Nat.ble ks.length 64&&nZ ks)=true:=h
  rw[Bool.and_eq_true] at h'
  have hl:=Nat.le_of_ble_eq_true h'.1
  have:=HJ (c:=cnR ks) (d:=szR ks) (A:=64) (B:=64) xs fun x _=>by
   have:=M6 ks x h'.2
   omega
  show cJ (cnR ks) xs<=0+64*(((List.length xs:Nat):Int)+cJ (szR ks) xs)
  rw[Int.mul_add];omega
theorem M6:∀ (ks:List Kd) (r:Row ks),nZ ks=true->cnR ks r<=(ks.length:Int)+64*szR ks r
 | [],_,_=>by show(0:Int)<=((0:Nat):Int)+64*0;omega
 | k::ks,r,h=>by
  have h':(CR k&&nZ ks)=true:=h
  rw[Bool.and_eq_true] at h'
  have h1:=GZ k r.1 h'.1
  have h2:=M6 ks r.2 h'.2
  have h3:=B9 k r.1
  show cnT k r.1+cnR ks r.2<=(((ks.length+1:Nat):Nat):Int)+64*(szT k r.1+szR ks r.2)
  have h4:cnT k r.1<=1+64*szT k r.1:=by
   cases hf:iE k<;>rw[hf] at h1<;>simp only[cond_true,cond_false] at h1<;>omega
  rw[Int.mul_add]
  omega
end
theorem sK:∀ (ks:List Kd) (r:Row ks),0<=cnS ks r
 | [],_=>Int.le_refl _
 | .sl k::ks,r=>by
  have h1:=c9 (.sl k) r.1
  have h2:=sK ks r.2
  show 0<=cnT (.sl k) r.1+cnS ks r.2
  omega
 | .int _::ks,r=>sK ks r.2
 | .bool::ks,r=>sK ks r.2
 | .str::ks,r=>sK ks r.2
 | .fn::ks,r=>sK ks r.2
theorem M5:∀ (ks:List Kd) (r:Row ks),nZ ks=true->cnS ks r<=64*szR ks r
 | [],_,_=>by show(0:Int)<=64*0;omega
 | k::ks,r,h=>by
  have h':(CR k&&nZ ks)=true:=h
  rw[Bool.and_eq_true] at h'
  have h2:=M5 ks r.2 h'.2
  have h3:=B9 k r.1
  have e:64*szR (k::ks) r=64*szT k r.1+64*szR ks r.2:=by
   show 64*(szT k r.1+szR ks r.2)=_
   rw[Int.mul_add]
  rw[e]
  cases k with
  | sl ks'=>
   have h1:cnT (.sl ks') r.1<=0+64*szT (.sl ks') r.1:=GZ (.sl ks') r.1 h'.1
   show cnT (.sl ks') r.1+cnS ks r.2<=_
   omega
  | int _=>show cnS ks r.2<=_;omega
  | bool=>show cnS ks r.2<=_;omega
  | str=>show cnS ks r.2<=_;omega
  | fn=>show cnS ks r.2<=_;omega
/-- A number as a cell of a kind holds it. -/
def wr(j:IntKind)(n:Int):Int:=match j with
 | .i64=>n
 | j=>j.wrap n
section
variable (txt:Int->ByteArray)
mutual
/-- A value whose cells are numbered. -/
def mkT:(k:Kd)->k.T->Int->k.T
 | .int j,_,n=>wr j n
 | .bool,_,n=>n.tmod 3==0
 | .str,_,n=>txt n
 | .fn,x,_=>x
 | .sl ks,xs,n=>dT (mkR ks) (cnR ks) xs n
def mkR:(ks:List Kd)->Row ks->Int->Row ks
 | [],_,_=>()
 | k::ks,r,n=>(mkT k r.1 n,mkR ks r.2 (n+cnT k r.1))
end
/-- A struct whose slices' cells are numbered. -/
def mkS:(ks:List Kd)->Row ks->Int->Row ks
 | [],_,_=>()
 | .sl k::ks,r,n=>(mkT txt (.sl k) r.1 n,mkS ks r.2 (n+cnT (.sl k) r.1))
 | .int _::ks,r,n=>(r.1,mkS ks r.2 n)
 | .bool::ks,r,n=>(r.1,mkS ks r.2 n)
 | .str::ks,r,n=>(r.1,mkS ks r.2 n)
 | .fn::ks,r,n=>(r.1,mkS ks r.2 n)
end
section
variable {ι σ α:Type} {c:Nat->ι->(σ->Option Out)->σ->Option Out} {r:ι->Option Out}
theorem mT{f:α->Int->α}{d:α->Int}:∀ (xs ys:List α) (n:Int),dT f d (xs++ys) n=dT f d xs n++dT f d ys (n+cJ d xs)
 | [],ys,n=>by show dT f d ys n=dT f d ys (n+0);rw[Int.add_zero]
 | x::xs,ys,n=>by
  show f x n::dT f d (xs++ys) (n+d x)=f x n::(dT f d xs (n+d x)++dT f d ys (n+(d x+cJ d xs)))
  rw[mT xs ys,Int.add_assoc]
theorem bO{f:α->Int->α}{d:α->Int}:∀ (xs:List α) (n:Int),(dT f d xs n).length=xs.length
 | [],_=>rfl
 | x::xs,n=>by show(dT f d xs (n+d x)).length+1=xs.length+1;rw[bO xs]
theorem JZ{f:α->Int->α}{d:α->Int}{xs:List α}{i:Nat}(h:i<xs.length)(n:Int):at? (dT f d xs n) i=some (f xs[i] (n+cJ d (xs.take i))):=by
 have e:xs=xs.take i++(xs[i]::xs.drop (i+1)):=by
  conv=>lhs;rw[<- List.take_append_drop i xs,List.drop_eq_getElem_cons h]
 have e2:dT f d xs n=dT f d (xs.take i) n++dT f d (xs[i]::xs.drop (i+1)) (n+cJ d (xs.take i)):=by
  conv=>lhs;rw[e]
  exact mT _ _ _
 unfold at?
 rw[e2,List.getElem?_append_right (by rw[bO,List.length_take];omega),bO,List.length_take,show i - min i xs.length=0 from by omega]
 rfl
theorem EX{f:α->Int->α}{d:α->Int}{xs:List α}{i:Nat}(h:i<xs.length)(n:Int):
  (dT f d (xs.take i) n++xs.drop i).set i (f xs[i] (n+cJ d (xs.take i)))=dT f d (xs.take (i+1)) n++xs.drop (i+1):=by
 rw[List.drop_eq_getElem_cons h,List.set_append_right _ _ (by rw[bO,List.length_take];omega),bO,List.length_take,show i - min i xs.length=0 from by omega,List.set_cons_zero,<- List.take_append_getElem h,mT,List.append_assoc]
 rfl
theorem nO{d:α->Int}(hd:∀ x,0<=d x){xs:List α}{i:Nat}(h:i<xs.length):0<=cJ d (xs.take i)/\cJ d (xs.take i)+d xs[i]<=cJ d xs:=by
 have e:cJ d xs=cJ d (xs.take (i+1))+cJ d (xs.drop (i+1)):=by rw[<- pH,List.take_append_drop]
 rw[e,k9 h]
 have h1:=qI (c:=d) (xs.take i) fun x _=>hd x
 have h2:=qI (c:=d) (xs.drop (i+1)) fun x _=>hd x
 omega
/-- A loop that numbers the cells of every element. -/
theorem hI (f:α->Int->α) (d:α->Int) (hd:∀ x,0<=d x) (xs:List α) (n0 B:Int) (h0:0<=n0) (hB:n0+cJ d xs<=B) (st:Nat->Int->List α->σ)
  (hstep:∀ i (h:i<xs.length) (ys:List α) (k:Int),ys.length=xs.length->at? ys i=some xs[i]->0<=k->k+d xs[i]<=B->∀ aA a rec,c aA a rec (st i k ys)=rec (st (i+1) (k+d xs[i]) (ys.set i (f xs[i] k))))
  (hstop:∀ aA a rec,c aA a rec (st xs.length (n0+cJ d xs) (dT f d xs n0))=r a):It c (st 0 n0 xs) r:=by
 have:=It.upto (c:=c) (r:=r) (fun i=>st i (n0+cJ d (xs.take i)) (dT f d (xs.take i) n0++xs.drop i)) xs.length 0 (fun i _ hi aA a rec=>?_) (It.stop fun aA a rec=>?_)
 ·simpa [dT,cJ] using this
 ·have hi':i<xs.length:=by omega
  obtain⟨h1,h2⟩:=nO hd hi'
  have hl:(dT f d (xs.take i) n0++xs.drop i).length=xs.length:=by
   rw[List.length_append,bO,List.length_take,List.length_drop];omega
  have ha:at? (dT f d (xs.take i) n0++xs.drop i) i=some xs[i]:=by
   unfold at?
   rw[List.getElem?_append_right (by rw[bO,List.length_take];omega),bO,List.length_take,show i - min i xs.length=0 from by omega,List.drop_eq_getElem_cons hi']
   rfl
  show c aA a rec (st i (n0+cJ d (xs.take i)) (dT f d (xs.take i) n0++xs.drop i))=_
  rw[hstep i hi' _ _ hl ha (by omega) (by omega) aA a rec,EX hi',k9 hi',Int.add_assoc]
 ·show c aA a rec (st (0+xs.length) (n0+cJ d (xs.take (0+xs.length))) (dT f d (xs.take (0+xs.length)) n0++xs.drop (0+xs.length)))=_
  have:=hstop aA a rec
  simpa using this
/-- A loop that finds the numbers in every element. -/
theorem hS (f:α->Int->α) (d:α->Int) (hd:∀ x,0<=d x) (xs:List α) (n0 B:Int) (h0:0<=n0) (hB:n0+cJ d xs<=B) (st:Nat->Int->σ)
  (hstep:∀ i (h:i<xs.length) (k:Int),i<(dT f d xs n0).length->at? (dT f d xs n0) i=some (f xs[i] k)->0<=k->k+d xs[i]<=B->∀ aA a rec,c aA a rec (st i k)=rec (st (i+1) (k+d xs[i])))
  (hstop:∀ aA a rec,c aA a rec (st (dT f d xs n0).length (n0+cJ d xs))=r a):It c (st 0 n0) r:=by
 have:=It.upto (c:=c) (r:=r) (fun i=>st i (n0+cJ d (xs.take i))) xs.length 0 (fun i _ hi aA a rec=>?_) (It.stop fun aA a rec=>?_)
 ·simpa [cJ] using this
 ·have hi':i<xs.length:=by omega
  obtain⟨h1,h2⟩:=nO hd hi'
  show c aA a rec (st i (n0+cJ d (xs.take i)))=_
  rw[hstep i hi' _ (by rw[bO];exact hi') (JZ hi' n0) (by omega) (by omega) aA a rec,k9 hi',Int.add_assoc]
 ·show c aA a rec (st (0+xs.length) (n0+cJ d (xs.take (0+xs.length))))=_
  have:=hstop aA a rec
  rw[bO] at this
  simpa using this
end
mutual
/-- No row in a value is too long. -/
def LmT:(k:Kd)->k.T->Prop
 | .int _,_=>True
 | .bool,_=>True
 | .str,_=>True
 | .fn,_=>True
 | .sl ks,xs=>List.length xs<=4611686018427387904/\∀ (i:Nat) (r:Row ks),at? xs i=some r->LmR ks r
def LmR:(ks:List Kd)->Row ks->Prop
 | [],_=>True
 | k::ks,r=>LmT k r.1/\LmR ks r.2
end
mutual
theorem TSm.lm:∀ (k:Kd) (x:k.T),TSm k x->LmT k x
 | .int _,_,_=>trivial
 | .bool,_,_=>trivial
 | .str,_,_=>trivial
 | .fn,_,_=>trivial
 | .sl ks,xs,h=>⟨Nat.le_trans h.1 (by decide),fun i r hr=>Small.lm ks r (h.2 i r hr)⟩
theorem Small.lm:∀ (ks:List Kd) (r:Row ks),Small ks r->LmR ks r
 | [],_,_=>trivial
 | k::ks,r,h=>⟨TSm.lm k r.1 h.1,Small.lm ks r.2 h.2⟩
end
mutual
theorem PY:∀ (k:Kd) (x:k.T),szT k x<=4611686018427387904->LmT k x
 | .int _,_,_=>trivial
 | .bool,_,_=>trivial
 | .str,_,_=>trivial
 | .fn,_,_=>trivial
 | .sl ks,xs,h=>by
  have h':((List.length xs:Nat):Int)+cJ (szR ks) xs<=4611686018427387904:=h
  have h2:=qI (c:=szR ks) xs fun x _=>eQ ks x
  refine⟨by omega,fun i r hr=>KN ks r ?_⟩
  obtain⟨hi,rfl⟩:=xU hr
  have:=(nO (d:=szR ks) (fun x=>eQ ks x) hi)
  omega
theorem KN:∀ (ks:List Kd) (r:Row ks),szR ks r<=4611686018427387904->LmR ks r
 | [],_,_=>trivial
 | k::ks,r,h=>by
  have h':szT k r.1+szR ks r.2<=4611686018427387904:=h
  have h1:=B9 k r.1
  have h2:=eQ ks r.2
  exact⟨PY k r.1 (by omega),KN ks r.2 (by omega)⟩
end
theorem dD{β:Type}{o:Option Out}{A B:List Kd}{r:Row A}{s:Row B}(h:o=some ⟨[⟨A,r⟩],[⟨B,s⟩]⟩)(f:Rows [A]×Rows [B]->Option β):(o.bind (cP [A] [B])).bind f=f ((r,()),(s,())):=by
 rw[h];simp[cP,eV,jF];rfl
/-- The text that a number is marked by. -/
theorem AM {c:Nat->Unit->(Int×ByteArray->Option Out)->Int×ByteArray->Option Out} {A:List Kd} (mk:ByteArray->Row A) (dg:Int->ByteArray) (hd:∀ k,(dg k).size=1) (pre:ByteArray) (hp:pre.size=1)
  (hstep:∀ (k:Int) (s:ByteArray),0<k->1+s.size<=bound->∀ aA a rec,c aA a rec (k,s)=rec (i64.wrap (k.tdiv 10),dg k++s))
  (hend:∀ (s:ByteArray),1+s.size<=bound->∀ aA a rec,c aA a rec (0,s)=some ⟨[⟨A,mk (pre++s)⟩],[]⟩):
  ∀ (f:Nat) (k:Int) (s:ByteArray),0<=k->k<10 ^ f->k<=9223372036854775807->f+s.size+1<=bound->∃ r:ByteArray,It c (k,s) (fun _=>some ⟨[⟨A,mk r⟩],[]⟩)
 | 0,k,s,h0,h1,_,hs=>by
  have:k=0:=by have:(10:Int) ^ 0=1:=rfl;omega
  subst this
  exact⟨pre++s,It.stop fun aA a rec=>hend s (by omega) aA a rec⟩
 | f+1,k,s,h0,h1,h2,hs=>by
  by_cases hk:k=0
  ·subst hk
   exact⟨pre++s,It.stop fun aA a rec=>hend s (by omega) aA a rec⟩
  ·have hdiv:k.tdiv 10=k / 10:=Int.tdiv_eq_ediv_of_nonneg h0
   have hw:i64.wrap (k.tdiv 10)=k / 10:=by rw[hdiv];exact jB (by omega) (by omega)
   have hpow:(10:Int) ^ (f+1)=10 ^ f*10:=Int.pow_succ ..
   obtain⟨r,hr⟩:=AM mk dg hd pre hp hstep hend f (k / 10) (dg k++s) (by omega) (by omega) (by omega) (by rw[ByteArray.size_append,hd];omega)
   exact⟨r,It.next (fun aA a rec=>by rw[hstep k s (by omega) (by omega) aA a rec,hw]) hr⟩
/-- A loop that measures every element. -/
theorem DJ {ι σ α:Type} {c:Nat->ι->(σ->Option Out)->σ->Option Out} {r0:Int->ι->Option Out} {rB:ι->Option Out} (xs:List α) (S:α->Prop) (M:α->Int) (hM:∀ x,0<=M x) (B:Int) (st:Nat->Int->σ) (hst:∀ left,0<=left->∀ aA a rec,c aA a rec (st xs.length left)=r0 left a) (hB:r0 (-1)=rB)
  (hstep:∀ i (h:i<xs.length) left,0<=left->left<=B->∃ r,(0<=r->r+M xs[i]<=left/\S xs[i])/\∀ aA a rec,c aA a rec (st i left)=bif decide (r<0)then rB a else rec (st (i+1) r)):
  ∀ n i,i+n=xs.length->∀ left,0<=left->left<=B->∃ r,It c (st i left) (r0 r)/\(0<=r->r+cJ M (xs.drop i)<=left/\∀ j (h:j<xs.length),i<=j->S xs[j])
 | 0,i,hi,left,h0,h1=>by
  have:i=xs.length:=by omega
  subst this
  exact⟨left,It.stop fun aA a rec=>hst left h0 aA a rec,fun _=>⟨by rw[List.drop_length];show left+0<=left;omega,fun j h hj=>by omega⟩⟩
 | n +1,i,hi,left,h0,h1=>by
  have hlt:i<xs.length:=by omega
  obtain⟨r,hr,hc⟩:=hstep i hlt left h0 h1
  by_cases hneg:r<0
  ·refine⟨-1,It.stop fun aA a rec=>?_,fun h=>by omega⟩
   rw[hc,hB,decide_eq_true hneg];rfl
  ·have hm:=hM xs[i]
   obtain⟨r',ht,hp⟩:=DJ xs S M hM B st hst hB hstep n (i+1) (by omega) r (by omega) (by have:=(hr (by omega)).1;omega)
   refine⟨r',It.next (fun aA a rec=>by rw[hc,decide_eq_false hneg];rfl) ht,fun h=>⟨?_,fun j hj hij=>?_⟩⟩
   ·have h3:=(hp h).1
    have h4:=(hr (by omega)).1
    rw[List.drop_eq_getElem_cons hlt]
    show r'+(M xs[i]+cJ M (xs.drop (i+1)))<=left
    omega
   ·rcases Nat.lt_or_ge i j with h2 | h2
    ·exact(hp h).2 j hj h2
    ·have:j=i:=by omega
     subst this;exact(hr (by omega)).2
theorem uQ {α σ:Type} {p:Prg} {lvl:Nat} (xs:List α) (S:α->Prop) (M:α->Int) (hM:∀ x,0<=M x) (st:Nat->Int->σ) (W:Nat->Nat->Option Out) (c:Nat->Nat->Unit->(σ->Option Out)->σ->Option Out) (l0:Int) (f:α->Int->List Arg) (q:Nat) (r0:Int->Out)
  (hstep:∀ i (hi:i<xs.length) l,0<=l->l<=1048576->∃ r,(0<=r->r+M xs[i]<=l/\S xs[i])/\∀ n,lvl<=n->aI p n q (f xs[i] l)=some (r0 r))
  (hW:∀ n,lvl<=n->∀ aA,W n aA=iter (c n aA ()) aA (st 0 l0))
  (hc:∀ n aA a rec i (hi:i<xs.length) l r,aI p n q (f xs[i] l)=some (r0 r)->c n aA a rec (st i l)=bif decide (r<0)then some (r0 (-1))else rec (st (i+1) r))
  (hend:∀ n aA a rec l,c n aA a rec (st xs.length l)=some (r0 l)) (h0:0<=l0) (h1:l0<=1048576)
  {Q:Prop} (k:∀ r,(∀ n,lvl<=n->Ev (W n) (r0 r))->(0<=r->r+cJ M xs<=l0/\∀ j (h:j<xs.length),S xs[j])->Q):Q:=by
 obtain⟨r,hr,hp⟩:=DJ (ι:={ n:Nat // lvl<=n }) (c:=fun aA a=>c a.1 aA ()) (r0:=fun r _=>some (r0 r)) (rB:=fun _=>some (r0 (-1))) xs S M hM 1048576 st
  (fun left _ aA a rec=>hend a.1 aA () rec left) rfl
  (fun i hi l h2 h3=>by
   obtain⟨r,g,hf⟩:=hstep i hi l h2 h3
   exact⟨r,g,fun aA a rec=>hc a.1 aA () rec i hi l r (hf a.1 a.2)⟩) xs.length 0 (by omega) l0 h0 h1
 refine k r (fun n hn=>?_) (fun h=>⟨(hp h).1,fun j hj=>(hp h).2 j hj (Nat.zero_le j)⟩)
 obtain⟨N,hN⟩:=hr
 exact⟨N,fun aA hf=>(hW n hn aA).trans (hN aA aA hf hf ⟨n,hn⟩)⟩
theorem kX{α:Type}{c:α->Int}(h:∀ x,c x=0):∀ xs:List α,cJ c xs=0
 | []=>rfl
 | x::xs=>by show c x+cJ c xs=0;rw[h,kX h xs];rfl
theorem aO{α β:Type}{xs:List α}{i:Nat}{r:α}{f:α->Option β}(h:at? xs i=some r):(at? xs ((i:Int)).toNat).bind f=f r:=by
 rw[Int.toNat_natCast,h];rfl
theorem d4{α ρ:Type}{x:α}{f:α->Option ρ}(y:α)(h:x=y):kS x f=f y:=by rw[h];rfl
theorem kR{α:Type}{ys:List α}{i:Nat}{y:α}:ys.set ((i:Int)).toNat y=ys.set i y:=by rw[Int.toNat_natCast]
theorem fZ{α:Type}{ys:List α}{i:Nat}{x y:α}:(ys.set i x).set ((i:Int)).toNat y=ys.set i y:=by rw[Int.toNat_natCast];simp
theorem ltl{k:Kd}{ks:List Kd}{r:Row (k::ks)}(h:LmR (k::ks) r):LmR ks r.2:=h.2
theorem lhd{k:Kd}{ks:List Kd}{r:Row (k::ks)}(h:LmR (k::ks) r):LmT k r.1:=h.1
theorem lmk{k:Kd}{ks:List Kd}{x:k.T}{r:Row ks}(h:LmT k x)(h':LmR ks r):LmR (k::ks) (x,r):=⟨h,h'⟩
theorem lsl{ks:List Kd}{xs:List (Row ks)}(h:LmR [.sl ks] (xs,())):xs.length<=4611686018427387904/\∀ (i:Nat) (r:Row ks),at? xs i=some r->LmR ks r:=h.1
theorem iS{α:Type}{c:α->Int}{n:Int}(h:∀ x,c x=n):∀ xs:List α,cJ c xs=n*(xs.length:Int)
 | []=>by show(0:Int)=n*((0:Nat):Int);simp
 | x::xs=>by
  show c x+cJ c xs=n*(((xs.length+1:Nat):Nat):Int)
  rw[h,iS h xs,show(((xs.length+1:Nat):Nat):Int)=(xs.length:Int)+1 from by omega,Int.mul_add];omega
theorem fA{α:Type}{ys:List α}{i:Nat}(h:i<ys.length)(x:α):at? (ys.set i x) i=some x:=by
 unfold at?;simp[h]
theorem set_set{α:Type}(ys:List α)(i:Nat)(x y:α):(ys.set i x).set i y=ys.set i y:=by simp
/-- What is counted before a row's place. -/
def sR:(ks:List Kd)->Row ks->Int->Nat->Int
 | [],_,n,_=>n
 | k::ks,r,n,j=>match j with
  | 0=>n
  | j+1=>sR ks r.2 (n+cnT k r.1) j
/-- A row whose first places are another one's. -/
def eY:(ks:List Kd)->Nat->Row ks->Row ks->Row ks
 | [],_,_,_=>()
 | k::ks,j,y,x=>match j with
  | 0=>x
  | j+1=>(y.1,eY ks j y.2 x.2)
theorem PH:∀ (ks:List Kd) (r:Row ks) (n:Int) (j:Nat),n<=sR ks r n j
 | [],_,n,_=>Int.le_refl n
 | k::ks,r,n,0=>Int.le_refl n
 | k::ks,r,n,j+1=>by
  have h1:=PH ks r.2 (n+cnT k r.1) j
  have h2:=c9 k r.1
  show n<=sR ks r.2 (n+cnT k r.1) j
  omega
theorem K0:∀ (ks:List Kd) (r:Row ks) (n:Int) (j:Nat),sR ks r n j<=n+cnR ks r
 | [],_,n,_=>by show n<=n+0;omega
 | k::ks,r,n,0=>by
  have h1:=eZ (k::ks) r
  show n<=n+cnR (k::ks) r
  omega
 | k::ks,r,n,j+1=>by
  have h1:=K0 ks r.2 (n+cnT k r.1) j
  show sR ks r.2 (n+cnT k r.1) j<=n+(cnT k r.1+cnR ks r.2)
  omega
theorem fS:∀ (ks:List Kd) (r:Row ks) (n:Int),sR ks r n ks.length=n+cnR ks r
 | [],_,n=>by show n=n+0;omega
 | k::ks,r,n=>by
  have h1:=fS ks r.2 (n+cnT k r.1)
  show sR ks r.2 (n+cnT k r.1) ks.length=n+(cnT k r.1+cnR ks r.2)
  omega
theorem jJ(ks:List Kd)(r:Row ks){n:Int}(h:0<=n)(j:Nat):0<=sR ks r n j:=Int.le_trans h (PH ks r n j)
theorem jK(ks:List Kd)(r:Row ks){n B:Int}(h:n+cnR ks r<=B)(j:Nat):sR ks r n j<=B:=Int.le_trans (K0 ks r n j) h
theorem eO{ks:List Kd}{r:Row ks}{n:Int}(h0:∀ j,0<=sR ks r n j)(h1:∀ j,sR ks r n j<=4611686018427387904)(j:Nat):i64.wrap (sR ks r n j)=sR ks r n j:=jB (by have:=h0 j;omega) (by have:=h1 j;omega)
theorem CE{ks:List Kd}{r:Row ks}{n:Int}(h0:∀ j,0<=sR ks r n j)(j:Nat):decide (sR ks r n j<0)=false:=decide_eq_false (by have:=h0 j;omega)
theorem O6(b:ByteArray):(!(ByteArray.toList b==ByteArray.toList b))=false:=by rw[beq_self_eq_true];rfl
theorem NF(b:Bool):(!(uJ b b))=false:=by cases b<;>rfl
end Go.Abs
-- exchanges begun and gone through: plain laws
namespace Go.Abs
def QX(x:NodeT)(to:Int):NodeT:=
 (x.1,x.2.1,x.2.2.1,x.2.2.2.1,x.2.2.2.2.1,x.2.2.2.2.2.1,x.2.2.2.2.2.2.1,x.2.2.2.2.2.2.2.1,x.2.2.2.2.2.2.2.2.1,x.got,x.acked,x.seen,i64.wrap (x.num+1),x.slots,x.sess++[(to,i64.wrap (x.num+1),false,(0:Int),())],x.wait,x.limit,x.clock,x.rises,())
def RV:MsgT:=((0:Int),(0:Int),(0:Int),(0:Int),(0:Int),[],(0:Int),[],[],[],[],[],())
structure SynOk (x:NodeT) (to:Int):Prop where
 node:NodeOk x
 peer:0<=to/\to<x.2.1/\to≠x.1
 slot:dF x.sess to false<0
 room:(x.sess.length:Int)<x.slots
 num:0<=x.num/\x.num<100000
 nn:1<=x.2.1/\x.2.1<=5
theorem LN{n:Int}(h:0<=n/\n<100000):i64.wrap (n+1)=n+1:=by rw[IntKind.wrap_i64];omega
theorem SynOk.up{x:NodeT}{to:Int}(h:SynOk x to):NodeOk (QX x to) where
 n:=h.node.n
 id:=h.node.id
 state:=h.node.state
 tree:=h.node.tree
 log:=h.node.log
 got:=h.node.got
 acked:=h.node.acked
 own:=h.node.own
 seen:=h.node.seen
 ack:=h.node.ack
 num:=by show inB (i64.wrap (x.num+1)) 0 100000=true;rw[LN h.num,bA];have:=h.num;omega
 clock:=h.node.clock
 slots:=h.node.slots
 wait:=h.node.wait
 limit:=h.node.limit
 rises:=h.node.rises
 rise:=h.node.rise
 sess:=by
  have hs:=(gN x).1 h.node.sess
  refine(gN _).2 ⟨?_,fun s hm=>?_,?_⟩
  ·show(((x.sess++[_]).length:Nat):Int)<=x.slots
   rw[List.length_append,List.length_singleton];have:=h.room;omega
  ·have hm:s∈x.sess++[(to,i64.wrap (x.num+1),false,(0:Int),())]:=hm
   rcases List.mem_append.1 hm with h1 | h1
   ·exact hs.2.1 s h1
   ·rw[List.mem_singleton.1 h1]
    have h2:=h.peer;have h3:=h.num;have h4:=h.node.wait;have h5:=h.nn
    rw[bA] at h4
    refine⟨?_,h2.2.2,?_,?_⟩
    ·show inB to 0 (i64.wrap (x.2.1 - 1))=true
     rw[bA,IntKind.wrap_i64];omega
    ·show inB (i64.wrap (x.num+1)) 0 100000=true
     rw[LN h.num,bA];omega
    ·show inB 0 0 x.wait=true
     rw[bA];omega
  ·show(List.map qX (x.sess++[(to,i64.wrap (x.num+1),false,(0:Int),())])).Nodup
   rw[List.map_append,List.nodup_append]
   refine⟨hs.2.2,by simp,fun a ha b hb=>?_⟩
   obtain⟨s,hs1,rfl⟩:=List.mem_map.1 ha
   have hb:b=(to,false):=by simpa [qX] using hb
   rw[hb]
   rcases fQ x.sess to false with ⟨k,_,e,_⟩ | ⟨_,e⟩
   ·have:=h.slot;rw[e] at this;omega
   ·exact e s hs1
-- who answers whom
structure RecTo (x:NodeT) (m:MsgT) (r:HE):Prop where
 id:r.1.1=x.1
 to:∀ q∈r.2.1,q.2.2.1=m.2.1/\q.2.1=x.1
-- an exchange gone through
end Go.Abs
-- saying: plain laws
namespace Go.Abs
-- logs
structure LogOk (l:mV):Prop where
 cap:1<=l.1/\l.1<=8
 len:(l.2.2.1.length:Int)<=l.1
 frm:0<=l.2.1/\l.2.1<=100000
 top:l.2.1+(l.2.2.1.length:Int)<=100000
 all:∀ s∈l.2.2.1,aN s=true
-- a node says
end Go.Abs
-- check sums lie in 0 .. 2^32 - 1: plain laws
namespace Go.Abs
def uM(x:Int):Prop:=0<=x/\x<4294967296
theorem KD{a b:Int}(ha:uM a)(hb:uM b):uM (sU .i64 a b):=by
 obtain⟨n,rfl⟩:∃ n:Nat,a=n:=⟨a.toNat,by have:=ha.1;omega⟩
 obtain⟨m,rfl⟩:∃ m:Nat,b=m:=⟨b.toNat,by have:=hb.1;omega⟩
 have hn:n<2 ^ 32:=by have:=ha.2;omega
 have hm:m<2 ^ 32:=by have:=hb.2;omega
 unfold sU
 have h:(BitVec.ofInt i64.bits (n:Int) ^^^ BitVec.ofInt i64.bits (m:Int)).toNat<2 ^ 32:=by
  rw[BitVec.toNat_xor]
  have e1:(BitVec.ofInt i64.bits (n:Int)).toNat=n:=by
   rw[BitVec.toNat_ofInt];show((n:Int) % ((2 ^ 64:Nat):Int)).toNat=n;omega
  have e2:(BitVec.ofInt i64.bits (m:Int)).toNat=m:=by
   rw[BitVec.toNat_ofInt];show((m:Int) % ((2 ^ 64:Nat):Int)).toNat=m;omega
  rw[e1,e2];exact Nat.xor_lt_two_pow hn hm
 generalize (BitVec.ofInt i64.bits (n:Int) ^^^ BitVec.ofInt i64.bits (m:Int)).toNat=k at h
 have e:i64.wrap (k:Int)=k:=by rw[IntKind.wrap_i64];omega
 rw[e];exact⟨by omega,by omega⟩
theorem M3{x:Int}(h:uM x):uM (sJ x):=by
 have hd:0<=x.tdiv 2/\x.tdiv 2<4294967296:=by
  have h1:=h.1;have h2:=h.2
  rw[Int.tdiv_eq_ediv_of_nonneg h1];omega
 have hw:i64.wrap (x.tdiv 2)=x.tdiv 2:=by rw[IntKind.wrap_i64];omega
 unfold sJ
 rw[hw]
 cases (x.tmod 2)==1 with
 | true=>exact KD hd ⟨by omega,by omega⟩
 | false=>exact hd
theorem BM{x:Int}(h:uM x):∀ k,uM (iR k x)
 | 0=>h
 | k+1=>M3 (BM h k)
theorem H7{bs:List aH}(h:∀ b∈bs,uM b.1):∀ i,i<=bs.length->uM (w6 bs i)
 | 0,_=>⟨by show(0:Int)<=4294967295;omega,by show(4294967295:Int)<4294967296;omega⟩
 | i+1,hi=>by
  have hb:=h _ (c8 (xs:=bs) (i:=i) (by omega))
  have hw:i64.wrap (gt bs i).1=(gt bs i).1:=by have h1:=hb.1;have h2:=hb.2;rw[IntKind.wrap_i64];omega
  show uM (iR 8 (sU .i64 (w6 bs i) (i64.wrap (gt bs i).1)))
  rw[hw]
  exact BM (KD (H7 h i (by omega)) hb) 8
theorem M4{bs:List aH}(h:∀ b∈bs,uM b.1):uM (crc bs):=by
 unfold crc
 exact KD (H7 h _ (Nat.le_refl _)) ⟨by omega,by omega⟩
def B32(bs:List aH):Prop:=∀ b∈bs,uM b.1
theorem B32.app{a b:List aH}(ha:B32 a)(hb:B32 b):B32 (a++b):=fun x hx=>by
 rcases List.mem_append.1 hx with h | h
 ·exact ha x h
 ·exact hb x h
theorem B32.flat{α:Type}{f:α->List aH}(h:∀ x,B32 (f x))(xs:List α):B32 (xs.flatMap f):=fun x hx=>by
 obtain⟨a,_,ha⟩:=List.mem_flatMap.1 hx
 exact h a x ha
theorem P5(n:Nat):B32 (g9 n):=by
 induction n using Nat.strongRecOn with
 | _ n ih=>
  unfold g9
  split
  ·rename_i h
   intro b hb
   rw[List.mem_singleton.1 hb];exact⟨by show(0:Int)<=(n:Int);omega,by show(n:Int)<4294967296;omega⟩
  ·rename_i h
   intro b hb
   rcases List.mem_cons.1 hb with e | e
   ·rw[e];exact⟨by show(0:Int)<=((n % 128+128:Nat):Int);omega,by show((n % 128+128:Nat):Int)<4294967296;omega⟩
   ·exact ih (n / 128) (Nat.div_lt_self (by omega) (by omega)) b e
theorem gR(x:Int):B32 (aF x):=by
 unfold aF
 cases inB x 0 2147483647 with
 | false=>intro b hb;cases hb
 | true=>exact P5 _
theorem I6(t:ByteArray):B32 (dU t):=by
 unfold dU
 refine(gR _).app fun b hb=>?_
 unfold fK eK at hb
 obtain⟨u,_,rfl⟩:=List.mem_map.1 hb
 have:=u.toNat_lt
 exact⟨by show(0:Int)<=((u.toNat:Nat):Int);omega,by show((u.toNat:Nat):Int)<4294967296;omega⟩
theorem NC(s:aE):B32 (bI s):=by
 unfold bI
 refine(((gR _).app (B32.flat (fun x=>?_) _)).app (gR _)).app (B32.flat (fun f=>?_) _)
 ·unfold a9;exact(((((gR _).app (gR _)).app (gR _)).app (gR _)).app (gR _)).app (I6 _)
 ·unfold aX;exact(gR _).app (gR _)
theorem DH{x:Int}(h:uM x):inB (x.tmod 1024) 0 1023=true:=by
 rw[bA];have:=NY (x:=x) (n:=1024) h.1 (by omega);omega
theorem oG(s:aE)(k:Int):inB (iQ s k) 0 1023=true:=by
 unfold iQ
 cases aN s&&inB k 0 3 with
 | true=>exact DH (M4 (NC _))
 | false=>rfl
theorem KI{s:aE}(h:aN s=true):treeB (cT s)=true:=by
 unfold cT;rw[h]
 show treeB (dM s,lB (dM s),())=true
 have hr:inB (lB (dM s)) 0 1023=true:=DH (M4 (B32.flat (fun x=>gR _) _))
 have hl:j7 (dM s) 1023=true:=bZ.2 fun i hi=>by
  match i,hi with
  | 0,_=>exact oG s 0
  | 1,_=>exact oG s 1
  | 2,_=>exact oG s 2
  | 3,_=>exact oG s 3
 unfold treeB
 rw[hl,hr];rfl
end Go.Abs
-- states as points of a lattice: plain laws
namespace Go.Abs
-- comparing one after another
structure Cmp {α:Type} (c:α->α->Int):Prop where
 neg:∀ a b,c b a= - c a b
 eq:∀ a b,c a b=0->a=b
 tr:∀ a b d,c a b<=0->c b d<=0->c a d<=0
theorem Cmp.self{α:Type}{c:α->α->Int}(h:Cmp c)(a:α):c a a=0:=by have:=h.neg a a;omega
theorem Cmp.lex{α β:Type}{c:α->α->Int}{d:β->β->Int}(hc:Cmp c)(hd:Cmp d):Cmp (fun(a b:α×β)=>if c a.1 b.1≠0 then c a.1 b.1 else d a.2 b.2) where
 neg a b:=by
  show(if c b.1 a.1≠0 then c b.1 a.1 else d b.2 a.2)= -(if c a.1 b.1≠0 then c a.1 b.1 else d a.2 b.2)
  rw[hc.neg a.1 b.1,hd.neg a.2 b.2];exact t7 _ _
 eq a b h:=by
  have h:(if c a.1 b.1≠0 then c a.1 b.1 else d a.2 b.2)=0:=h
  by_cases h0:c a.1 b.1=0
  ·rw[if_neg (fun g=>g h0)] at h
   exact Prod.ext (hc.eq _ _ h0) (hd.eq _ _ h)
  ·rw[if_pos h0] at h;exact absurd h h0
 tr a b e h1 h2:=by
  have h1:(if c a.1 b.1≠0 then c a.1 b.1 else d a.2 b.2)<=0:=h1
  have h2:(if c b.1 e.1≠0 then c b.1 e.1 else d b.2 e.2)<=0:=h2
  show(if c a.1 e.1≠0 then c a.1 e.1 else d a.2 e.2)<=0
  have k2:c b.1 e.1<=0:=by
   by_cases h0:c b.1 e.1=0
   ·omega
   ·rw[if_pos h0] at h2;exact h2
  by_cases h0:c a.1 b.1=0
  ·rw[if_neg (fun g=>g h0)] at h1
   rw[hc.eq _ _ h0]
   by_cases g0:c b.1 e.1=0
   ·rw[if_neg (fun g=>g g0)] at h2 ⊢;exact hd.tr _ _ _ h1 h2
   ·rw[if_pos g0];exact k2
  ·rw[if_pos h0] at h1
   have k3:=hc.tr _ _ _ h1 k2
   by_cases g0:c a.1 e.1=0
   ·have e1:=hc.eq _ _ g0
    rw[<- e1,hc.neg a.1 b.1] at k2;omega
   ·rw[if_pos g0];exact k3
theorem l2_cmp:Cmp l2 where
 neg:=y4
 eq a b h:=by
  unfold l2 at h
  by_cases h1:a<b
  ·rw[decide_eq_true h1] at h;cases h
  ·rw[decide_eq_false h1] at h
   by_cases h2:a>b
   ·rw[decide_eq_true h2] at h;cases h
   ·omega
 tr a b d h1 h2:=by
  have key:∀ x y:Int,l2 x y<=0↔x<=y:=fun x y=>by
   unfold l2
   by_cases h1:x<y
   ·rw[decide_eq_true h1];exact⟨fun _=>by omega,fun _=>by show(-1:Int)<=0;omega⟩
   ·rw[decide_eq_false h1]
    by_cases h2:x>y
    ·rw[decide_eq_true h2];exact⟨fun h=>by have h:(1:Int)<=0:=h;omega,fun _=>by omega⟩
    ·rw[decide_eq_false h2];exact⟨fun _=>by omega,fun _=>Int.le_refl 0⟩
  rw[key] at h1 h2 ⊢;omega
theorem H0{x y:Int}(h:l2 x y<=0):x<=y:=by
 unfold l2 at h
 by_cases h1:x<y
 ·omega
 ·rw[decide_eq_false h1] at h
  by_cases h2:x>y
  ·rw[decide_eq_true h2] at h;have h:(1:Int)<=0:=h;omega
  ·omega
theorem OY(x:Int):l2 x x=0:=l2_cmp.self x
theorem E6:∀ x y:List UInt8,Lib.compareBytes x y=0->x=y
 | [],[],_=>rfl
 | [],_::_,h=>by unfold Lib.compareBytes at h;omega
 | _::_,[],h=>by unfold Lib.compareBytes at h;omega
 | a::x,b::y,h=>by
  unfold Lib.compareBytes at h
  by_cases h1:a<b
  ·rw[if_pos h1] at h;omega
  ·rw[if_neg h1] at h
   by_cases h2:b<a
   ·rw[if_pos h2] at h;omega
   ·rw[if_neg h2] at h
    have e:a=b:=UInt8.toNat_inj.1 (by rw[UInt8.lt_iff_toNat_lt] at h1 h2;omega)
    rw[e,E6 x y h]
theorem E5:∀ x y z:List UInt8,Lib.compareBytes x y<=0->Lib.compareBytes y z<=0->Lib.compareBytes x z<=0
 | [],_,[],_,_=>by unfold Lib.compareBytes;omega
 | [],_,_::_,_,_=>by unfold Lib.compareBytes;omega
 | _::_,[],_,h,_=>by unfold Lib.compareBytes at h;omega
 | _::_,_::_,[],_,h=>by unfold Lib.compareBytes at h;omega
 | a ::x,b::y,c::z,h1,h2=>by
  unfold Lib.compareBytes at h1 h2 ⊢
  simp only[UInt8.lt_iff_toNat_lt] at h1 h2 ⊢
  by_cases c1:a.toNat<b.toNat
  ·by_cases c2:b.toNat<c.toNat
   ·rw[if_pos (by omega)];omega
   ·rw[if_neg c2] at h2
    by_cases c3:c.toNat<b.toNat
    ·rw[if_pos c3] at h2;omega
    ·rw[if_pos (by omega)];omega
  ·rw [if_neg c1] at h1
   by_cases c2:b.toNat<a.toNat
   ·rw[if_pos c2] at h1;omega
   ·rw[if_neg c2] at h1
    by_cases c3:b.toNat<c.toNat
    ·rw[if_pos (by omega)];omega
    ·rw[if_neg c3] at h2
     by_cases c4:c.toNat<b.toNat
     ·rw[if_pos c4] at h2;omega
     ·rw[if_neg c4] at h2
      rw[if_neg (by omega),if_neg (by omega)];exact E5 x y z h1 h2
theorem M7:Cmp (fun(a b:ByteArray×Unit)=>uF a.1 b.1) where
 neg a b:=vP _ _
 eq a b h:=by
  have h1:=E6 _ _ h
  obtain⟨⟨⟨x⟩⟩,u⟩:=a
  obtain⟨⟨⟨y⟩⟩,v⟩:=b
  have h1:x=y:=h1
  rw[h1]
 tr a b d h1 h2:=E5 _ _ _ h1 h2
theorem cmpE_cmp:Cmp gM:=l2_cmp.lex (l2_cmp.lex (l2_cmp.lex (l2_cmp.lex M7)))
def leE(a b:bJ):Prop:=gM a b<=0
theorem nB(a:bJ):leE a a:=Int.le_of_eq (cmpE_cmp.self a)
theorem JJ{a b c:bJ}(h1:leE a b)(h2:leE b c):leE a c:=cmpE_cmp.tr _ _ _ h1 h2
theorem JK(a b:bJ):leE a b\/leE b a:=by unfold leE;have:=p7 a b;omega
theorem oH{a b:bJ}(h1:leE a b)(h2:leE b a):a=b:=cmpE_cmp.eq _ _ (by unfold leE at h1 h2;have:=p7 a b;omega)
theorem mC{a b:bJ}(h:leE a b):a.1<=b.1:=by
 unfold leE gM at h
 by_cases h0:l2 a.1 b.1=0
 ·exact H0 (by omega)
 ·rw[if_pos h0] at h;exact H0 h
theorem L9{a b:bJ}(h:leE a b)(e:a.1=b.1):a.2.1<=b.2.1:=by
 unfold leE gM at h
 rw[e,if_neg (fun g=>g (OY _))] at h
 by_cases h0:l2 a.2.1 b.2.1=0
 ·exact H0 (by omega)
 ·rw[if_pos h0] at h;exact H0 h
theorem KB{e:bJ}(h:1<=e.1):leE dW e:=by unfold leE;rw[vM h];omega
theorem EC(a b:bJ):leE a (mxE a b):=by
 unfold mxE
 by_cases h:gM a b<0
 ·rw[decide_eq_true h];show gM a b<=0;omega
 ·rw[decide_eq_false h];exact nB a
theorem LU(a b:bJ):leE b (mxE a b):=by
 unfold mxE
 by_cases h:gM a b<0
 ·rw[decide_eq_true h];exact nB b
 ·rw[decide_eq_false h];show gM b a<=0;rw[p7 a b];omega
theorem F3(a b:bJ):mxE a b=a\/mxE a b=b:=by
 unfold mxE;cases decide (gM a b<0)
 ·exact .inl rfl
 ·exact .inr rfl
theorem LV{a b:bJ}(h:leE a b):mxE a b=b:=oH (by rcases F3 a b with e | e<;>rw[e];exact h;exact nB b) (LU a b)
theorem HU{a b:bJ}(h:leE b a):mxE a b=a:=oH (by rcases F3 a b with e | e<;>rw[e];exact nB a;exact h) (EC a b)
-- points
def ent(s:aE)(i:Int):bJ:=(bD s i).1
def flo(s:aE)(i:Int):Int:=cO s.2.1 i
structure Pt (e:bJ) (f:Int):Prop where
 nn:0<=f
 up:e=dW\/f<e.1
def nrm(m:bJ)(f:Int):bJ:=if f<m.1 then m else dW
theorem gD:dW.1=0:=rfl
theorem JO{s:aE}(h:StateOk s){x:bL}(hx:x∈s.1):bD s x.1=(x.2,true):=by
 rcases eJ s x.1 with ⟨y,hy,h1,e⟩ | ⟨h1,_⟩
 ·have:y=x:=by
   obtain⟨i,hi,rfl⟩:=iH hx
   obtain⟨j,hj,rfl⟩:=iH hy
   have hp:=h.items
   rw[List.pairwise_iff_getElem] at hp
   rcases Nat.lt_trichotomy i j with h2 | h2 | h2
   ·have:=hp i j hi hj h2;rw[<- d8 hi,<- d8 hj] at this;omega
   ·rw[h2]
   ·have:=hp j i hj hi h2;rw[<- d8 hi,<- d8 hj] at this;omega
  rw[e,this]
 ·exact absurd rfl (h1 x hx)
theorem M0{s:aE}(h:StateOk s){x:bL}(hx:x∈s.1):ent s x.1=x.2:=by unfold ent;rw[JO h hx]
theorem EM{s:aE}(h:StateOk s){x:bL}(hx:x∈s.1):1<=x.2.1:=h.pos.item x hx
theorem nH{s:aE}(h:StateOk s)(i:Int):(1<=(ent s i).1/\(i,ent s i)∈s.1/\(bD s i).2=true/\d6 (ent s i)=true)\/(ent s i=dW/\(bD s i).2=false):=by
 unfold ent
 rcases eJ s i with ⟨x,hx,h1,e⟩ | ⟨h1,e⟩
 ·rw[e];subst h1;exact .inl ⟨EM h hx,hx,rfl,(h.item x hx).2.1⟩
 ·rw[e];exact .inr ⟨rfl,rfl⟩
theorem oZ{s:aE}(h:StateOk s)(i:Int):Pt (ent s i) (flo s i):=by
 refine⟨(oS h i).1,?_⟩
 rcases nH h i with ⟨_,h2,_⟩ | ⟨h2,_⟩
 ·exact .inr (h.item _ h2).2.2
 ·exact .inl h2
theorem C9{α:Type}{k:α->Int}:∀ {a b:List α},a.Pairwise (fun x y=>k x<k y)->b.Pairwise (fun x y=>k x<k y)->(∀ x,x∈a↔x∈b)->a=b
 | [],[],_,_,_=>rfl
 | [],y::_,_,_,h=>by have:=(h y).2 (List.mem_cons_self ..);cases this
 | x::_,[],_,_,h=>by have:=(h x).1 (List.mem_cons_self ..);cases this
 | x::a,y::b,ha,hb,h=>by
  rw[List.pairwise_cons] at ha hb
  have e:x=y:=by
   rcases List.mem_cons.1 ((h x).1 (List.mem_cons_self ..))with e | e
   ·exact e
   ·rcases List.mem_cons.1 ((h y).2 (List.mem_cons_self ..))with e2 | e2
    ·exact e2.symm
    ·have h1:=hb.1 x e;have h2:=ha.1 y e2;omega
  subst e
  rw[C9 ha.2 hb.2 fun z=>⟨fun hz=>?_,fun hz=>?_⟩]
  ·rcases List.mem_cons.1 ((h z).1 (List.mem_cons_of_mem _ hz))with e | e
   ·have:=ha.1 z hz;rw[e] at this;omega
   ·exact e
  ·rcases List.mem_cons.1 ((h z).2 (List.mem_cons_of_mem _ hz))with e | e
   ·have:=hb.1 z hz;rw[e] at this;omega
   ·exact e
theorem m8{i:Int}(h:fO i=true):∃ k:Nat,k<5/\i=k:=by
 unfold fO at h;rw[bA] at h
 exact⟨i.toNat,by omega,by omega⟩
theorem KS{a b:aE}(ha:StateOk a)(hb:StateOk b)(h:∀ i:Nat,i<5->ent a i=ent b i/\flo a i=flo b i):a=b:=by
 have key:∀ {a b:aE},StateOk a->StateOk b->(∀ i:Nat,i<5->ent a i=ent b i/\flo a i=flo b i)->∀ x,x∈a.1->x∈b.1:=by
  intro a b ha hb h x hx
  obtain⟨k,hk,e⟩:=m8 (ha.item x hx).1
  have h1:=(h k hk).1
  rw[<- e,M0 ha hx] at h1
  rcases nH hb x.1 with ⟨_,h2,_⟩ | ⟨h2,_⟩
  ·rw[<- h1] at h2;exact h2
  ·have:=EM ha hx;rw[h1,h2] at this;have:(1:Int)<=0:=this;omega
 have keyF:∀ {a b:aE},StateOk a->StateOk b->(∀ i:Nat,i<5->ent a i=ent b i/\flo a i=flo b i)->∀ x,x∈a.2.1->x∈b.2.1:=by
  intro a b ha hb h x hx
  obtain⟨k,hk,e⟩:=m8 (ha.floor x hx).1
  have h1:=(h k hk).2
  have h3:flo a x.1=x.2.1:=C2 ha hx
  have h4:=(ha.floor x hx).2
  rw[bA] at h4
  rw[<- e,h3] at h1
  rcases eI b x.1 with ⟨y,hy,h5,h6⟩ | ⟨_,h6⟩
  ·have h6:flo b x.1=y.2.1:=h6
   have:y=x:=Prod.ext h5 (Prod.ext (by rw[<- h6,<- h1]) rfl)
   rw[<- this];exact hy
  ·have h6:flo b x.1=0:=h6
   omega
 have h':∀ i:Nat,i<5->ent b i=ent a i/\flo b i=flo a i:=fun i hi=>⟨(h i hi).1.symm,(h i hi).2.symm⟩
 refine Prod.ext (C9 (k:=fun x:bL=>x.1) ha.items hb.items fun x=>⟨key ha hb h x,key hb ha h' x⟩) (Prod.ext (C9 (k:=fun x:aL=>x.1) ha.floors hb.floors fun x=>⟨keyF ha hb h x,keyF hb ha h' x⟩) rfl)
theorem nD{a b:aE}(ha:StateOk a){i:Nat}(hi:i<5):flo (cU a b) i=max (flo a i) (flo b i):=by
 have hf:flr a b i=max (flo a i) (flo b i):=by unfold flr;rw[q9];rfl
 have h0:=MU (b:=b) ha.pos (i:Int)
 unfold flo
 rcases eI (cU a b) i with ⟨x,hx,h1,e⟩ | ⟨h1,e⟩
 ·rw[e]
  obtain⟨j,_,hx⟩:=kG hx
  obtain⟨rfl,_⟩:=oO hx
  have:(j:Int)=(i:Int):=h1
  show flr a b (j:Int)=_
  rw[this];exact hf
 ·rw[e]
  by_cases h2:flr a b i>0
  ·refine absurd rfl (h1 ((i:Int),flr a b i,()) ?_)
   exact List.mem_flatMap.2 ⟨i,List.mem_range.2 hi,by rw[oM h2];exact List.mem_singleton.2 rfl⟩
  ·show 0=max (flo a i) (flo b i)
   omega
theorem nG(a b:aE){i:Nat}(hi:i<5):ent (cU a b) i=nrm (mxE (ent a i) (ent b i)) (max (flo a i) (flo b i)):=by
 have hf:flr a b i=max (flo a i) (flo b i):=by unfold flr;rw[q9];rfl
 have hp:eS a b i=mxE (ent a i) (ent b i):=rfl
 rw[<- hf,<- hp]
 unfold ent nrm
 rcases eJ (cU a b) i with ⟨x,hx,h1,e⟩ | ⟨h1,e⟩
 ·rw[e]
  obtain⟨j,_,hx⟩:=kG hx
  obtain⟨rfl,h2⟩:=vE hx
  have e2:(j:Int)=(i:Int):=h1
  rw[e2] at h2
  rw[if_pos h2];show eS a b (j:Int)=_;rw[e2]
 ·rw[e]
  by_cases h2:flr a b i<(eS a b i).1
  ·refine absurd rfl (h1 ((i:Int),eS a b i) ?_)
   exact List.mem_flatMap.2 ⟨i,List.mem_range.2 hi,by rw[gG rfl h2];exact List.mem_singleton.2 rfl⟩
  ·rw[if_neg h2]
-- the order of points
def LeP(e:bJ)(f:Int)(e':bJ)(f':Int):Prop:=f<=f'/\(e.1<=f'\/leE e e')
theorem LeP.refl(e:bJ)(f:Int):LeP e f e f:=⟨Int.le_refl f,.inr (nB e)⟩
theorem LeP.trans{e f e' f' e'' f''}(h:LeP e f e' f')(h':LeP e' f' e'' f''):LeP e f e'' f'':=by
 refine⟨Int.le_trans h.1 h'.1,?_⟩
 rcases h.2 with h2 | h2
 ·exact .inl (Int.le_trans h2 h'.1)
 ·rcases h'.2 with h3 | h3
  ·exact .inl (Int.le_trans (mC h2) h3)
  ·exact .inr (JJ h2 h3)
theorem P9{m:bJ}{f:Int}(h:Pt m f):nrm m f=m:=by
 unfold nrm
 rcases h.up with e | e
 ·have:=h.nn;rw[e,if_neg (by rw[gD];omega)]
 ·rw[if_pos e]
theorem HZ{e f e' f'}(h:Pt e f)(h':Pt e' f'):(nrm (mxE e e') (max f f')=e'/\max f f'=f')↔LeP e f e' f':=by
 constructor
 ·rintro ⟨h1,h2⟩
  refine⟨by omega,?_⟩
  rw[h2] at h1
  by_cases h3:e.1<=f'
  ·exact .inl h3
  ·have h4:=mC (EC e e')
   unfold nrm at h1
   rw[if_pos (by omega)] at h1
   exact .inr (by have:=EC e e';rw[h1] at this;exact this)
 ·rintro ⟨h1,h2⟩
  have hm:max f f'=f':=by omega
  rw[hm]
  refine⟨?_,rfl⟩
  by_cases hl:leE e e'
  ·rw[LV hl];exact P9 h'
  ·have h3:e.1<=f':=by rcases h2 with h2 | h2;exact h2;exact absurd h2 hl
   have h4:leE e' e:=by rcases JK e e' with h4 | h4;exact absurd h4 hl;exact h4
   rw[HU h4]
   unfold nrm
   rw[if_neg (by omega)]
   rcases h'.up with h5 | h5
   ·exact h5.symm
   ·have:=mC h4;omega
theorem GG{e f e' f'}:LeP e f (nrm (mxE e e') (max f f')) (max f f'):=by
 refine⟨by omega,?_⟩
 by_cases h:e.1<=max f f'
 ·exact .inl h
 ·have h4:=mC (EC e e')
  unfold nrm;rw[if_pos (by omega)];exact .inr (EC e e')
theorem GF{e f e' f'}:LeP e' f' (nrm (mxE e e') (max f f')) (max f f'):=by
 refine⟨by omega,?_⟩
 by_cases h:e'.1<=max f f'
 ·exact .inl h
 ·have h4:=mC (LU e e')
  unfold nrm;rw[if_pos (by omega)];exact .inr (LU e e')
theorem OX{e f e' f' e'' f''}(h0:0<=f'')(h:LeP e f e'' f'')(h':LeP e' f' e'' f''):LeP (nrm (mxE e e') (max f f')) (max f f') e'' f'':=by
 refine⟨by have:=h.1;have:=h'.1;omega,?_⟩
 unfold nrm
 split
 ·rcases F3 e e' with e1 | e1<;>rw[e1]
  ·exact h.2
  ·exact h'.2
 ·exact .inl h0
theorem CX{e f e' f'}(h:Pt e f)(h':Pt e' f')(h1:LeP e f e' f')(h2:LeP e' f' e f):e=e'/\f=f':=by
 have hf:f=f':=Int.le_antisymm h1.1 h2.1
 subst hf
 refine⟨?_,rfl⟩
 have hz:=h.nn
 rcases h.up with e0 | e0
 ·rcases h'.up with e1 | e1
  ·rw[e0,e1]
  ·rcases h2.2 with h3 | h3
   ·omega
   ·have:=mC h3;rw[e0,gD] at this;omega
 ·rcases h1.2 with h3 | h3
  ·omega
  ·rcases h2.2 with h4 | h4
   ·have:=mC h3;omega
   ·exact oH h3 h4
-- the order of states
structure Leq (a b:aE):Prop where
 oka:StateOk a
 okb:StateOk b
 le:∀ i:Nat,i<5->LeP (ent a i) (flo a i) (ent b i) (flo b i)
theorem L6{a b:aE}:OV a b=true↔Leq a b:=by
 unfold OV
 rw[Bool.and_eq_true,Bool.and_eq_true,qZ,aM,aM]
 constructor
 ·rintro ⟨ha,hb,e⟩
  refine⟨ha,hb,fun i hi=>(HZ (oZ ha _) (oZ hb _)).1 ?_⟩
  rw[<- nG a b hi,<- nD ha hi,e];exact⟨rfl,rfl⟩
 ·rintro ⟨ha,hb,h⟩
  refine⟨ha,hb,KS (ha.join hb) hb fun i hi=>?_⟩
  rw[nG a b hi,nD ha hi]
  exact(HZ (oZ ha _) (oZ hb _)).2 (h i hi)
theorem Leq.join{a b:aE}(h:Leq a b):cU a b=b:=by
 have:=L6.2 h
 unfold OV at this
 rw[Bool.and_eq_true,Bool.and_eq_true,qZ] at this
 exact this.2.2
theorem Leq.refl{a:aE}(h:StateOk a):Leq a a:=⟨h,h,fun i _=>LeP.refl _ _⟩
theorem Leq.trans{a b c:aE}(h:Leq a b)(h':Leq b c):Leq a c:=⟨h.oka,h'.okb,fun i hi=>(h.le i hi).trans (h'.le i hi)⟩
theorem Leq.antisymm{a b:aE}(h:Leq a b)(h':Leq b a):a=b:=KS h.oka h.okb fun i hi=>CX (oZ h.oka _) (oZ h.okb _) (h.le i hi) (h'.le i hi)
theorem Leq.left{a b:aE}(ha:StateOk a)(hb:StateOk b):Leq a (cU a b):=⟨ha,ha.join hb,fun i hi=>by rw[nG a b hi,nD ha hi];exact GG⟩
theorem Leq.right{a b:aE}(ha:StateOk a)(hb:StateOk b):Leq b (cU a b):=⟨hb,ha.join hb,fun i hi=>by rw[nG a b hi,nD ha hi];exact GF⟩
theorem Leq.lub{a b c:aE}(h:Leq a c)(h':Leq b c):Leq (cU a b) c:=⟨h.oka.join h'.oka,h.okb,fun i hi=>by rw[nG a b hi,nD h.oka hi];exact OX (oZ h.okb _).nn (h.le i hi) (h'.le i hi)⟩
theorem GI{a b:aE}(ha:StateOk a)(hb:StateOk b):cU a b=cU b a:=
 Leq.antisymm (Leq.lub (Leq.right hb ha) (Leq.left hb ha)) (Leq.lub (Leq.right ha hb) (Leq.left ha hb))
theorem Leq.joinR{a b:aE}(h:Leq a b):cU b a=b:=by rw[GI h.okb h.oka];exact h.join
theorem Leq.mono{a a' b b':aE}(h:Leq a a')(h':Leq b b'):Leq (cU a b) (cU a' b'):=Leq.lub (h.trans (Leq.left h.okb h'.okb)) (h'.trans (Leq.right h.okb h'.okb))
theorem EA:StateOk pC:=(aM _).1 tX
theorem Leq.nil{a:aE}(h:StateOk a):Leq pC a:=⟨EA,h,fun i _=>⟨(oZ h _).nn,.inl (oZ h _).nn⟩⟩
-- what is over at a point
def iK(e:bJ)(f:Int):Int:=if 1<=e.1 then(if e.2.1=0 then e.1 - 1 else e.1)else f
theorem sH{e:bJ}(h:d6 e=true):1<=e.1/\e.1<=1000/\(e.2.1=0\/e.2.1=1):=by
 unfold d6 at h;simp only[Bool.and_eq_true,bA] at h;omega
theorem t9{s:aE}(h:StateOk s)(i:Int):gone s i=iK (ent s i) (flo s i):=by
 unfold gone iK
 rw[(aM s).2 h]
 rcases nH h i with ⟨h1,_,h3,h4⟩ | ⟨h2,h3⟩
 ·have h5:=sH h4
  rw[h3,if_pos h1]
  show(bif(ent s i).2.1==0 then i64.wrap ((ent s i).1 - 1)else(ent s i).1)=_
  rcases h5.2.2 with e | e
  ·rw[e,if_pos rfl];show i64.wrap ((ent s i).1 - 1)=_;rw[IntKind.wrap_i64];omega
  ·rw[e,if_neg (by omega)];rfl
 ·rw[h3,h2,if_neg (by rw[gD];omega)];rfl
theorem ES{e:bJ}{f:Int}(h:¬ 1<=e.1):iK e f=f:=by unfold iK;rw[if_neg h]
theorem ER{e:bJ}{f:Int}(h:1<=e.1)(h':e.2.1=0):iK e f=e.1 - 1:=by unfold iK;rw[if_pos h,if_pos h']
theorem ET{e:bJ}{f:Int}(h:1<=e.1)(h':e.2.1≠0):iK e f=e.1:=by unfold iK;rw[if_pos h,if_neg h']
theorem y8{e:bJ}{f:Int}(h:1<=e.1):e.1 - 1<=iK e f/\iK e f<=e.1:=by
 by_cases h':e.2.1=0
 ·rw[ER h h'];omega
 ·rw[ET h h'];omega
theorem MO{e:bJ}{f:Int}(h:Pt e f):f<=iK e f:=by
 by_cases h1:1<=e.1
 ·have h2:=y8 (f:=f) h1
  rcases h.up with h3 | h3
  ·rw[h3,gD] at h1;omega
  ·omega
 ·rw[ES h1];omega
theorem GO{e f e' f'}(h:Pt e f)(h':Pt e' f')(hr:e.1=e'.1->e.2.1≠0->e.2.1<=e'.2.1->e'.2.1≠0)(hl:LeP e f e' f'):iK e f<=iK e' f':=by
 have g:=MO h'
 by_cases h1:1<=e.1
 ·have g1:=y8 (f:=f) h1
  rcases hl.2 with h2 | h2
  ·omega
  ·have h3:=mC h2
   have h1':1<=e'.1:=by omega
   have g2:=y8 (f:=f') h1'
   by_cases h4:e.1=e'.1
   ·by_cases h6:e.2.1=0
    ·rw[ER h1 h6];omega
    ·rw[ET h1' (hr h4 h6 (L9 h2 h4))];omega
   ·omega
 ·rw[ES h1];have:=hl.1;omega
theorem Leq.gone{a b:aE}(h:Leq a b){i:Nat}(hi:i<5):gone a i<=Go.Abs.gone b i:=by
 rw[t9 h.oka,t9 h.okb]
 refine GO (oZ h.oka _) (oZ h.okb _) (fun h1 h2 h3=>?_) (h.le i hi)
 rcases nH h.oka i with ⟨_,_,_,h4⟩ | ⟨h4,_⟩
 ·have:=sH h4;omega
 ·rw[h4] at h2;exact absurd rfl h2
end Go.Abs
-- pruning, tables and taking done twice: plain laws
namespace Go.Abs
theorem LO(f:Int)(h:0<=f):nrm dW f=dW:=by unfold nrm;rw[if_neg (by rw[gD];omega)]
theorem GT(s:aE)(t:List bK){i:Nat}(hi:i<5):flo (eN s t) i=max 0 (min (eH t i) (gone s i)):=by
 have hm:mxI false (eH t i) (gone s i)=min (eH t i) (gone s i):=EB _ _
 unfold flo
 rcases eI (eN s t) i with ⟨x,hx,h1,e⟩ | ⟨h1,e⟩
 ·rw[e]
  obtain⟨j,_,hx⟩:=kG hx
  unfold fE at hx
  cases hd:decide (mxI false (eH t j) (gone s j)>0)with
  | false=>rw[hd] at hx;cases hx
  | true=>
   rw[hd] at hx
   have e1:=List.mem_singleton.1 hx
   have h0:=of_decide_eq_true hd
   rw[e1] at h1 ⊢
   have h1:(j:Int)=(i:Int):=h1
   have h1:j=i:=by omega
   subst h1
   show mxI false (eH t j) (gone s j)=_
   omega
 ·rw[e]
  by_cases h2:mxI false (eH t i) (gone s i)>0
  ·refine absurd rfl (h1 ((i:Int),mxI false (eH t i) (gone s i),()) ?_)
   exact List.mem_flatMap.2 ⟨i,List.mem_range.2 hi,by unfold fE;rw[decide_eq_true h2];exact List.mem_singleton.2 rfl⟩
  ·omega
theorem GV(s:aE)(t:List bK)(i:Int):ent (eN s t) i=dW:=by
 unfold ent
 rcases eJ (eN s t) i with ⟨x,hx,h1,e⟩ | ⟨h1,e⟩
 ·cases hx
 ·rw[e]
theorem zA(s:aE)(t:List bK):StateOk (eN s t):=(aM _).1 (pY s t)
theorem tT{s:aE}(h:StateOk s)(t:List bK):prune s t=cU s (eN s t):=by unfold prune;rw[(aM s).2 h];rfl
theorem u4{s:aE}(h:StateOk s)(t:List bK):StateOk (prune s t):=(aM _).1 (yJ ((aM s).2 h) t)
theorem JV{e:bJ}{f g:Int}(h:Pt e f)(hr:1<=e.1->e.2.1=0\/e.2.1=1)(hg:g<=iK e f):iK (nrm (mxE e dW) (max f g)) (max f g)=iK e f:=by
 have h0:=h.nn
 rcases h.up with e0 | e1
 ·rw[e0,LV (nB dW)]
  rw[LO _ (by omega)]
  rw[e0] at hg
  unfold iK at hg ⊢
  rw[if_neg (by rw[gD];omega)] at hg
  rw[if_neg (by rw[gD];omega),if_neg (by rw[gD];omega)];omega
 ·rw[HU (KB (by omega))]
  unfold nrm
  have h1:1<=e.1:=by omega
  have hgo:iK e f=if e.2.1=0 then e.1 - 1 else e.1:=by unfold iK;rw[if_pos h1]
  by_cases hc:max f g<e.1
  ·rw[if_pos hc,hgo];unfold iK;rw[if_pos h1]
  ·rw[if_neg hc]
   rw[hgo] at hg ⊢
   unfold iK;rw[if_neg (by rw[gD];omega)]
   rcases hr h1 with h2 | h2
   ·rw[if_pos h2] at hg;omega
   ·rw[if_neg (by omega)] at hg ⊢;omega
theorem MZ{s:aE}(h:StateOk s)(i:Int):1<=(ent s i).1->(ent s i).2.1=0\/(ent s i).2.1=1:=by
 intro h1
 rcases nH h i with ⟨_,_,_,h4⟩ | ⟨h4,_⟩
 ·exact(sH h4).2.2
 ·rw[h4,gD] at h1;omega
theorem y7{s:aE}(h:StateOk s)(t:List bK){i:Nat}(hi:i<5):gone (prune s t) i=gone s i:=by
 have hg:=O1 ((aM s).2 h) (i:Int)
 rw[t9 (u4 h t),tT h,nG _ _ hi,nD h hi,GV,GT s t hi,t9 h]
 rw[t9 h] at hg
 exact JV (oZ h _) (MZ h _) (by omega)
theorem sQ{α:Type}{g g':Nat->List α}:∀ {n:Nat},(∀ i,i<n->g i=g' i)->bQ n g=bQ n g'
 | 0,_=>rfl
 | n+1,h=>by rw[dE,dE,sQ (n:=n) fun i hi=>h i (by omega),h n (by omega)]
theorem zB{s s':aE}(t:List bK)(h:∀ i:Nat,i<5->gone s i=gone s' i):eN s t=eN s' t:=by
 have:bQ 5 (fE s t)=bQ 5 (fE s' t):=sQ fun i hi=>by unfold fE;rw[h i hi]
 unfold eN;rw[this]
theorem AE{s s':aE}(h:∀ i:Nat,i<5->gone s i=gone s' i):dV s=dV s':=by
 unfold dV;exact sQ fun i hi=>by unfold gS;rw[h i hi]
theorem D5{s:aE}(h:StateOk s)(t:List bK):prune (prune s t) t=prune s t:=by
 have hp:=u4 h t
 rw[tT hp,zB (s:=prune s t) (s':=s) t fun i hi=>y7 h t hi]
 refine Leq.joinR ?_
 rw[tT h];exact Leq.right h (zA s t)
theorem I8{s:aE}(h:StateOk s)(t:List bK):Leq s (prune s t):=by rw[tT h];exact Leq.left h (zA s t)
theorem EF{s:aE}(h:StateOk s)(t:List bK):dV (prune s t)=dV s:=AE fun i hi=>y7 h t hi
-- rows that hold marks already
def NJ(t:List bK)(k j:Nat):Int:=(gt (gt t k).1 j).1
def Cov(t:List bK)(k:Int)(ms:List aL):Prop:=∀ i,i<ms.length->(gt ms i).2.1<=NJ t k.toNat (gt ms i).1.toNat
def DoneT(t:List bK)(k:Int)(ms:List aL):Prop:=lT t k ms=true->Cov t k ms
theorem HD{t t':List bK}(hl:t.length=t'.length)(hr:∀ j,(gt t j).1.length=(gt t' j).1.length)(k:Int)(ms:List aL):lT t k ms=lT t' k ms:=by
 unfold lT;rw[hl,hr]
theorem FE(t:List bK)(k k':Int)(ms ms':List aL):lT (bH t k' ms') k ms=lT t k ms:=
 HD (eE t k' ms') (fun j=>gX t k' ms' j) k ms
theorem FC(r:bK)(ms:List aL):∀ i j,(gt r.1 j).1<=(gt (jM r ms i).1 j).1
 | 0,_=>Int.le_refl _
 | i+1,j=>by
  have ih:=FC r ms i j
  show _<=(gt (List.set (jM r ms i).1 (gt ms i).1.toNat (mxI true (gt (jM r ms i).1 (gt ms i).1.toNat).1 (gt ms i).2.1,())) j).1
  rcases Nat.lt_or_ge (gt ms i).1.toNat (jM r ms i).1.length with h | h
  ·by_cases e:(gt ms i).1.toNat=j
   ·rw[e] at h ⊢
    rw[dC h]
    show _<=mxI true _ _
    rw[q9];omega
   ·rw[gE e];exact ih
  ·rw[List.set_eq_of_length_le h];exact ih
theorem v3(r:bK){ms:List aL}(h:∀ i,i<ms.length->(gt ms i).1.toNat<r.1.length):∀ n,n<=ms.length->∀ i,i<n->(gt ms i).2.1<=(gt (jM r ms n).1 (gt ms i).1.toNat).1
 | 0,_,_,hi=>by omega
 | n+1,hn,i,hi=>by
  show _<=(gt (List.set (jM r ms n).1 (gt ms n).1.toNat (mxI true (gt (jM r ms n).1 (gt ms n).1.toNat).1 (gt ms n).2.1,())) (gt ms i).1.toNat).1
  have hl:(gt ms n).1.toNat<(jM r ms n).1.length:=by rw[k8];exact h n (by omega)
  by_cases e:(gt ms n).1.toNat=(gt ms i).1.toNat
  ·rw[e] at hl ⊢
   rw[dC hl]
   show _<=mxI true _ _
   rw[q9]
   by_cases c:i=n
   ·subst c;omega
   ·have:=v3 r h n (by omega) i (by omega);omega
  ·rw[gE e]
   exact v3 r h n (by omega) i (by
    rcases Nat.lt_or_ge i n with c | c
    ·exact c
    ·exact absurd (by rw[show i=n by omega]) e)
theorem FB{r:bK}{ms:List aL}(h:∀ i,i<ms.length->(gt ms i).2.1<=(gt r.1 (gt ms i).1.toNat).1):∀ n,n<=ms.length->jM r ms n=r
 | 0,_=>rfl
 | n+1,hn=>by
  show yA (jM r ms n) (gt ms n)=r
  rw[FB h n (by omega)]
  have:=h n (by omega)
  unfold yA
  rw[q9,show max (gt r.1 (gt ms n).1.toNat).1 (gt ms n).2.1=(gt r.1 (gt ms n).1.toNat).1 by omega]
  show(r.1.set (gt ms n).1.toNat (gt r.1 (gt ms n).1.toNat),())=r
  rw[rU]
structure AddOk (t:List bK) (k:Int) (ms:List aL):Prop where
 kn:k.toNat<t.length
 mok:d5 ms=true
 row:5<=(gt t k.toNat).1.length
theorem NO{t:List bK}{k:Int}{ms:List aL}(hl:t.length<=aQ)(h:lT t k ms=true):AddOk t k ms:=by
 unfold lT at h
 simp only[Bool.and_eq_true,Bool.not_eq_true',decide_eq_false_iff_not] at h
 exact⟨(oK hl h.1).1,h.2.1,by omega⟩
theorem AddOk.ids{t:List bK}{k:Int}{ms:List aL}(h:AddOk t k ms):∀ i,i<ms.length->(gt ms i).1.toNat<(gt t k.toNat).1.length:=fun i hi=>by
 have h1:=pU h.mok hi;have h2:=h.row;omega
theorem NN{t:List bK}(hl:t.length<=aQ)(k:Int)(ms:List aL):DoneT (bH t k ms) k ms:=by
 intro hb
 rw[FE] at hb
 have ho:=NO hl hb
 intro i hi
 unfold NJ bH
 rw[hb]
 show _<=(gt (gt (bU t k.toNat ms ms.length) k.toNat).1 _).1
 unfold bU
 rw[dC ho.kn]
 exact v3 _ ho.ids _ (Nat.le_refl _) i hi
theorem QQ(t:List bK)(k:Int)(ms:List aL)(q j:Nat):NJ t q j<=NJ (bH t k ms) q j:=by
 unfold NJ bH
 cases lT t k ms with
 | false=>exact Int.le_refl _
 | true=>
  show _<=(gt (gt (bU t k.toNat ms ms.length) q).1 j).1
  unfold bU
  rcases Nat.lt_or_ge k.toNat t.length with h | h
  ·by_cases e:k.toNat=q
   ·subst e;rw[dC h];exact FC _ _ _ _
   ·rw[gE e];exact Int.le_refl _
  ·rw[List.set_eq_of_length_le h];exact Int.le_refl _
theorem DoneT.add{t:List bK}{k:Int}{ms:List aL}(h:DoneT t k ms)(k':Int)(ms':List aL):DoneT (bH t k' ms') k ms:=fun hb i hi=>by
 rw[FE] at hb
 exact Int.le_trans (h hb i hi) (QQ t k' ms' _ _)
theorem DoneT.eq{t:List bK}{k:Int}{ms:List aL}(h:DoneT t k ms):bH t k ms=t:=by
 unfold bH
 cases hb:lT t k ms with
 | false=>rfl
 | true=>
  show bU t k.toNat ms ms.length=t
  unfold bU
  rw[FB (h hb) _ (Nat.le_refl _)]
  exact rU
-- vectors that are raised already
theorem DE(v:List aH)(k n:Int)(j:Nat):(gt v j).1<=(gt (cQ v k n) j).1:=by
 rcases pE v k n j with e | e<;>rw[e]<;>omega
-- rises that are up to date
def RisesUp(rs:List jN)(xs:List bL):Prop:=∀ i,i<xs.length->oY (gt rs (gt xs i).1.toNat) (gt xs i).2=false
theorem IX(clock:Int)(r:jN)(e:bJ):oY (mK clock r e) e=false:=by
 unfold mK
 cases h:oY r e with
 | false=>exact h
 | true=>unfold oY;simp
theorem RisesUp.eq{clock:Int}{rs:List jN}{xs:List bL}(h:RisesUp rs xs):∀ n,n<=xs.length->cN clock rs xs n=rs
 | 0,_=>rfl
 | n+1,hn=>by
  show(cN clock rs xs n).set (gt xs n).1.toNat (mK clock (gt (cN clock rs xs n) (gt xs n).1.toNat) (gt xs n).2)=rs
  rw[h.eq n (by omega)]
  unfold mK
  rw[h n (by omega)]
  exact rU
theorem AR{clock:Int}{rs:List jN}{xs:List bL}(hl:∀ i,i<xs.length->(gt xs i).1.toNat<rs.length)(hd:∀ i j,i<j->j<xs.length->(gt xs i).1.toNat≠(gt xs j).1.toNat):
  ∀ n,n<=xs.length->∀ i,i<n->oY (gt (cN clock rs xs n) (gt xs i).1.toNat) (gt xs i).2=false
 | 0,_,_,hi=>by omega
 | n+1,hn,i,hi=>by
  show oY (gt ((cN clock rs xs n).set (gt xs n).1.toNat (mK clock (gt (cN clock rs xs n) (gt xs n).1.toNat) (gt xs n).2)) (gt xs i).1.toNat) (gt xs i).2=false
  by_cases c:i=n
  ·subst c
   rw[dC (by rw[gP];exact hl i (by omega))]
   exact IX _ _ _
  ·rw[gE (fun e=>hd i n (by omega) (by omega) e.symm)]
   exact AR hl hd n (by omega) i (by omega)
theorem JN{s:aE}(h:StateOk s):(∀ i,i<s.1.length->(gt s.1 i).1.toNat<5)/\∀ i j,i<j->j<s.1.length->(gt s.1 i).1.toNat≠(gt s.1 j).1.toNat:=by
 refine⟨fun i hi=>?_,fun i j hij hj e=>?_⟩
 ·obtain⟨k,hk,e⟩:=m8 (h.item _ (c8 hi)).1;omega
 ·obtain⟨k,hk,e1⟩:=m8 (h.item _ (c8 (i:=i) (by omega))).1
  obtain⟨k',hk',e2⟩:=m8 (h.item _ (c8 hj)).1
  have hp:=h.items
  rw[List.pairwise_iff_getElem] at hp
  have:=hp i j (by omega) hj hij
  rw[<- d8 (by omega),<- d8 hj] at this
  omega
-- a node at rest
structure Rest (x:NodeT):Prop where
 ok:StateOk x.state
 seen:DoneT x.seen x.1 (dV x.state)
 prune:prune x.state x.seen=x.state
 tree:cT x.state=x.tree
 rises:RisesUp x.rises x.state.1
theorem Rest.take{x:NodeT}(h:Rest x){s:aE}(hs:Leq s x.state):iW x s=x:=by
 have e1:cU x.state s=x.state:=hs.joinR
 have e2:tkS x s=x.seen:=by unfold tkS;rw[e1];exact h.seen.eq
 have e3:tkP x s=x.state:=by unfold tkP;rw[e2,e1];exact h.prune
 have e4:tkR x s=x.rises:=by unfold tkR;rw[e3];exact h.rises.eq _ (Nat.le_refl _)
 unfold iW
 rw[e2,e4,e3,h.tree]
theorem FO{x:NodeT}(h:NodeOk x)(hl:x.seen.length<=aQ){s:aE}(hs:StateOk s):Rest (iW x s):=by
 have hx:=(aM _).1 h.state
 have hj:=hx.join hs
 have e:(iW x s).state=tkP x s:=rfl
 have hm:dV (tkP x s)=dV (cU x.state s):=EF hj _
 have hp:StateOk (tkP x s):=u4 hj _
 refine⟨hp,?_,?_,rfl,?_⟩
 ·show DoneT (tkS x s) x.1 (dV (tkP x s))
  rw[hm];exact NN hl _ _
 ·show prune (tkP x s) (tkS x s)=tkP x s
  exact D5 hj _
 ·show RisesUp (tkR x s) (tkP x s).1
  have hi:=JN hp
  have hr:=h.rises
  rw[beq_iff_eq] at hr
  exact fun i hi'=>AR (fun i hi''=>by have:=hi.1 i hi'';omega) hi.2 _ (Nat.le_refl _) i hi'
theorem IL{x:NodeT}(h:NodeOk x){s:aE}(hs:StateOk s):Leq x.state (iW x s).state/\Leq s (iW x s).state:=by
 have hx:=(aM _).1 h.state
 have hj:=hx.join hs
 have hp:Leq (cU x.state s) (iW x s).state:=I8 hj _
 exact⟨(Leq.left hx hs).trans hp,(Leq.right hx hs).trans hp⟩
-- hearing twice
structure Heard (x:NodeT) (m:MsgT):Prop where
 rest:Rest x
 acked:cQ x.acked m.2.1 (mxI false (gt m.vec x.1.toNat).1 (dZ x.log))=x.acked
 seen:DoneT x.seen m.2.1 m.marks
theorem Heard.eq{x:NodeT}{m:MsgT}(h:Heard x m):cG x m=x:=by
 have e:heard0 x m=x:=by
  unfold heard0
  rw[h.acked,h.seen.eq]
 unfold cG
 rw[e];exact h.rest.take (Leq.nil h.rest.ok)
theorem Heard.take{x:NodeT}{m:MsgT}(h:Heard x m)(ho:NodeOk x)(hl:x.seen.length<=aQ){s:aE}(hs:StateOk s):Heard (iW x s) m:=
 ⟨FO ho hl hs,h.acked,h.seen.add _ _⟩
theorem Heard.gotUp{x:NodeT}{m:MsgT}(h:Heard x m):Heard (gotUp x m) m:=⟨⟨h.rest.ok,h.rest.seen,h.rest.prune,h.rest.tree,h.rest.rises⟩,h.acked,h.seen⟩
end Go.Abs
-- receiving twice, and what receiving keeps: plain laws
namespace Go.Abs
-- what receiving keeps
def VLe(a b:List aH):Prop:=a.length=b.length/\∀ i,(gt a i).1<=(gt b i).1
theorem VLe.refl(a:List aH):VLe a a:=⟨rfl,fun _=>Int.le_refl _⟩
theorem VLe.trans{a b c:List aH}(h:VLe a b)(h':VLe b c):VLe a c:=⟨h.1.trans h'.1,fun i=>Int.le_trans (h.2 i) (h'.2 i)⟩
theorem VLe.raise(v:List aH)(k n:Int):VLe v (cQ v k n):=⟨(fP v k n).symm,DE v k n⟩
structure Kept (x y:NodeT):Prop where
 state:Leq x.state y.state
 got:VLe x.got y.got
 acked:VLe x.acked y.acked
theorem NodeOk.st{x:NodeT}(h:NodeOk x):StateOk x.state:=(aM _).1 h.state
theorem Kept.refl{x:NodeT}(h:NodeOk x):Kept x x:=⟨Leq.refl h.st,VLe.refl _,VLe.refl _⟩
theorem Kept.trans{x y z:NodeT}(h:Kept x y)(h':Kept y z):Kept x z:=⟨h.state.trans h'.state,h.got.trans h'.got,h.acked.trans h'.acked⟩
theorem Kept.take{x:NodeT}(h:NodeOk x){s:aE}(hs:StateOk s):Kept x (iW x s):=⟨(IL h hs).1,VLe.refl _,VLe.refl _⟩
theorem Kept.heard{x:NodeT}(h:NodeOk x)(m:MsgT):Kept x (cG x m):=
 Kept.trans (y:=heard0 x m) ⟨Leq.refl h.st,VLe.refl _,VLe.raise _ _ _⟩ (Kept.take (h.heard0 m) EA)
theorem Kept.brought{x:NodeT}(h:NodeOk x){m:MsgT}(hp:aN m.part=true):Kept x (c6 x m):=by
 have h1:=(Kept.heard h m).trans (Kept.take (h.heard m) ((aM _).1 hp))
 exact⟨h1.state,h1.got.trans (VLe.raise _ _ _),h1.acked⟩
theorem Kept.with{x:NodeT}(h:NodeOk x)(ss:List gC):Kept x (withS x ss):=⟨Leq.refl h.st,VLe.refl _,VLe.refl _⟩
-- what is answered
theorem KY{a b:List aH}(h:jI a b=true):a=b:=by
 unfold jI at h
 simp only[Bool.and_eq_true,beq_iff_eq,bZ] at h
 exact GU (by omega) fun i hi=>Prod.ext (by have:=h.2 i hi;simpa using this) rfl
theorem NodeOk.treeB{x:NodeT}(h:NodeOk x):treeB x.tree=true:=by
 have h1:=h.tree
 unfold sZ at h1
 rw[Bool.and_eq_true] at h1
 have e1:x.tree.1=(cT x.state).1:=KY h1.1
 have e2:x.tree.2.1=(cT x.state).2.1:=eq_of_beq h1.2
 have e:x.tree=cT x.state:=Prod.ext e1 (Prod.ext e2 rfl)
 rw[e];exact KI h.state
theorem FG{v:List aH}{n:Int}(h:fX v n=true):j7 v 100000=true/\(v.length:Int)=n/\1<=n/\n<=5:=by
 unfold fX at h
 simp only[Bool.and_eq_true,beq_iff_eq,bA] at h
 exact⟨h.2.2,h.2.1,h.1⟩
def OW(v:List aH):Bool:=cE v.length (wO v)
/-- A message that a right node writes is right. -/
theorem NodeOk.says {x:NodeT} (h:NodeOk x) {k to num:Int} {tree:kH} {leaves:List aH} {part:aE} (hk:0<=k/\k<=5) (ht:0<=to/\to<=4/\to≠x.1) (hn:inB num 0 100000=true)
  (hT:Go.Abs.treeB tree=true) (hl:OW leaves=true) (hp:aN part=true):
  dQ (k,x.1,to,num,dZ x.log,tree.1,tree.2.1,x.got,leaves,part.1,part.2.1,dV x.state,())=true:=by
 have hv:=FG h.got
 have hid:=h.id
 have hl2:=A9 h.log
 rw[bA,IntKind.wrap_i64] at hid
 rw[bA] at hn
 unfold dQ oD fO
 simp only[Bool.and_eq_true,bA,Bool.not_eq_true',beq_eq_false_iff_ne,decide_eq_true_eq]
 exact⟨⟨hk,by show 0<=x.1/\x.1<=4;omega,by show 0<=to/\to<=4;omega,fun e=>ht.2.2 e.symm⟩,hl,hv.1,hn,hl2,hT,by show(x.got.length:Int)<=5;omega,hp,F6 _⟩
structure Ans (x:NodeT) (m q:MsgT):Prop where
 ok:dQ q=true
 frm:q.2.1=x.1
 to:q.2.2.1=m.2.1
 num:q.2.2.2.1=m.2.2.2.1
theorem RecOk.peer{x:NodeT}{m:MsgT}(h:RecOk x m):0<=m.2.1/\m.2.1<=4/\m.2.1≠x.1:=by
 have h1:=h.frm;have h2:=h.idn;exact⟨by omega,by omega,h.ne⟩
-- vectors compared
def atV(v:List aH)(i:Int):Int:=bif inB i 0 (i64.wrap ((v.length:Int) - 1))then(gt v i.toNat).1 else 0
def KG(a b:List aH):Bool:=cE a.length fun i=> !decide ((gt a i).1>atV b (i:Int))
theorem VLe.leq{a b:List aH}(h:VLe a b)(hl:b.length<=aQ):KG a b=true:=by
 unfold KG;rw[bZ]
 intro i hi
 have h1:=h.1;have h2:=h.2 i
 unfold atV
 rw[bA.2 (by rw[IntKind.wrap_i64];unfold aQ at hl;omega)]
 show(!decide ((gt a i).1>(gt b ((i:Int)).toNat).1))=true
 rw[Int.toNat_natCast,decide_eq_false (by omega)];rfl
end Go.Abs
namespace Go.Abs
open Go
-- a number read back: what lies at place i of b, five bytes at most
def sE(b:List aH)(i:Nat):Nat->Nat->Nat->Option (Nat×Nat)
 | 0,_,_=>none
 | n+1,k,acc=>
  if i+k<b.length then
   if 128<=(gt b (i+k)).1.toNat then sE b i n (k+1) (acc+(gt b (i+k)).1.toNat % 128*128 ^ k)
   else if 0<k/\(gt b (i+k)).1.toNat=0 then none
   else if acc+(gt b (i+k)).1.toNat*128 ^ k>2147483647 then none
   else some (acc+(gt b (i+k)).1.toNat*128 ^ k,i+k+1)
  else none
def pW(b:List aH)(i:Nat):Option (Nat×Nat):=sE b i 5 0 0
theorem GN(u v:List aH)(x:aH):gt (u++x::v) u.length=x:=by
 rw[d8 (by simp)];simp
theorem MR(v:List aH):∀ (m n k acc i:Nat) (u:List aH),n<128 ^ (m+1)->(0<k->0<n)->acc+n*128 ^ k<=2147483647->i+k=u.length->
  sE (u++g9 n++v) i (m+1) k acc=some (acc+n*128 ^ k,i+k+(g9 n).length):=by
 intro m
 induction m with
 | zero=>
  intro n k acc i u h h0 hb hi
  have hn:n<128:=by simpa using h
  have e:g9 n=[((n:Int),())]:=by unfold g9;rw[dif_pos hn]
  rw[e]
  have eg:gt (u++[((n:Int),())]++v) (i+k)=((n:Int),()):=by rw[hi,List.append_assoc];exact GN u v _
  unfold sE
  rw[eg,if_pos (by rw[hi];simp)]
  show(if 128<=((n:Int)).toNat then _ else _)=_
  rw[Int.toNat_natCast,if_neg (by omega),if_neg (by omega),if_neg (by omega)];rfl
 | succ m ih=>
  intro n k acc i u h h0 hb hi
  by_cases hn:n<128
  ·have e:g9 n=[((n:Int),())]:=by unfold g9;rw[dif_pos hn]
   rw[e]
   have eg:gt (u++[((n:Int),())]++v) (i+k)=((n:Int),()):=by rw[hi,List.append_assoc];exact GN u v _
   unfold sE
   rw[eg,if_pos (by rw[hi];simp)]
   show(if 128<=((n:Int)).toNat then _ else _)=_
   rw[Int.toNat_natCast,if_neg (by omega),if_neg (by omega),if_neg (by omega)];rfl
  ·have e:g9 n=(((n % 128+128:Nat):Int),())::g9 (n / 128):=by conv=>lhs;unfold g9;rw[dif_neg hn]
   have hm:n % 128*128 ^ k+n / 128*128 ^ (k+1)=n*128 ^ k:=by
    have:=Nat.mod_add_div n 128
    rw[Nat.pow_succ,show n / 128*(128 ^ k*128)=128*(n / 128)*128 ^ k by ac_rfl,<- Nat.add_mul,this]
   have eb:u++g9 n++v=(u++[(((n % 128+128:Nat):Int),())])++g9 (n / 128)++v:=by rw[e];simp
   have eg:gt (u++g9 n++v) (i+k)=(((n % 128+128:Nat):Int),()):=by rw[hi,e,List.append_assoc];exact GN u _ _
   have hl:i+k<(u++g9 n++v).length:=by rw[e,hi];simp
   have ih':=ih (n / 128) (k+1) (acc+n % 128*128 ^ k) i (u++[(((n % 128+128:Nat):Int),())]) (by rw[Nat.pow_succ] at h;exact Nat.div_lt_of_lt_mul (by omega)) (fun _=>by omega) (by omega) (by rw[List.length_append,List.length_singleton];omega)
   rw[<- eb] at ih'
   unfold sE
   rw[if_pos hl,eg]
   show(if 128<=(((n % 128+128:Nat):Int)).toNat then _ else _)=_
   rw[Int.toNat_natCast,if_pos (by omega),show(n % 128+128) % 128=n % 128 by omega,ih',e]
   rw[List.length_cons]
   congr 2
   ·omega
   ·omega
theorem GP(u v:List aH){n:Nat}(h:n<=2147483647):pW (u++g9 n++v) u.length=some (n,u.length+(g9 n).length):=by
 have:=MR v 4 n 0 0 u.length u (by omega) (fun h=>absurd h (by omega)) (by omega) rfl
 unfold pW;rw[this];simp
end Go.Abs
namespace Go.Abs
open Go
theorem O2{b:List aH}{i:Nat}:∀ (n k acc:Nat) {x j:Nat},sE b i n k acc=some (x,j)->x<=2147483647/\j<=b.length/\i+k<j:=by
 intro n
 induction n with
 | zero=>intro k acc x j h;unfold sE at h;exact absurd h (by simp)
 | succ n ih=>
  intro k acc x j h
  unfold sE at h
  split at h
  ·split at h
   ·have:=ih _ _ h;omega
   ·split at h
    ·cases h
    ·split at h
     ·cases h
     ·cases h;omega
  ·cases h
theorem xC{n:Nat}(h:n<9223372036854775808):i64.wrap (n:Int)=(n:Int):=by
 rw[IntKind.wrap_i64];omega
theorem KE{k:Nat}(hk:k<5):i64.wrap ((7:Int)*(k:Int))=((7*k:Nat):Int):=by
 rw[IntKind.wrap_i64];omega
theorem HK{x k:Nat}(hx:x<128)(hk:k<5):tF i64 (x:Int) (i64.wrap ((7:Int)*(k:Int)))=((x*128 ^ k:Nat):Int):=by
 rw[KE hk]
 unfold tF
 rw[Int.toNat_natCast]
 have h:k=0\/k=1\/k=2\/k=3\/k=4:=by omega
 rcases h with rfl | rfl | rfl | rfl | rfl
 ·rw[show(2:Int) ^ (min (7*0) i64.bits)=1 by decide,IntKind.wrap_i64];omega
 ·rw[show(2:Int) ^ (min (7*1) i64.bits)=128 by decide,IntKind.wrap_i64];omega
 ·rw[show(2:Int) ^ (min (7*2) i64.bits)=16384 by decide,IntKind.wrap_i64];omega
 ·rw[show(2:Int) ^ (min (7*3) i64.bits)=2097152 by decide,IntKind.wrap_i64];omega
 ·rw[show(2:Int) ^ (min (7*4) i64.bits)=268435456 by decide,IntKind.wrap_i64];omega
theorem tA(x:Nat):((x:Int)).tmod 128=((x % 128:Nat):Int):=by
 rw[Int.tmod_eq_emod_of_nonneg (by omega)];omega
theorem P6{k:Nat}(hk:k<5):128 ^ k<=268435456:=by
 have h:k=0\/k=1\/k=2\/k=3\/k=4:=by omega
 rcases h with rfl | rfl | rfl | rfl | rfl<;>decide
theorem P7{a x k:Nat}(ha:a<128 ^ k)(hx:x<128)(hk:k<5):orI i64 (a:Int) ((x*128 ^ k:Nat):Int)=((a+x*128 ^ k:Nat):Int):=by
 have hp:=P6 hk
 have hm:x*128 ^ k<=127*268435456:=Nat.mul_le_mul (by omega) hp
 unfold orI
 have e:(BitVec.ofInt i64.bits (a:Int)||| BitVec.ofInt i64.bits ((x*128 ^ k:Nat):Int)).toNat=a+x*128 ^ k:=by
  rw[BitVec.toNat_or,BitVec.ofInt_natCast,BitVec.ofInt_natCast,BitVec.toNat_ofNat,BitVec.toNat_ofNat]
  rw[Nat.mod_eq_of_lt (show a<2 ^ i64.bits by show a<2 ^ 64;omega),Nat.mod_eq_of_lt (show x*128 ^ k<2 ^ i64.bits by show x*128 ^ k<2 ^ 64;omega)]
  have h2:128 ^ k=2 ^ (7*k):=by rw[Nat.pow_mul]
  rw[h2] at ha ⊢
  rw[Nat.or_comm,Nat.mul_comm x,<- Nat.two_pow_add_eq_or_of_lt ha];omega
 rw[e];exact xC (by omega)
theorem NP{a x k:Nat}(ha:a<128 ^ k):a+x % 128*128 ^ k<128 ^ (k+1):=by
 have h:x % 128<128:=Nat.mod_lt _ (by omega)
 have h2:x % 128*128 ^ k<=127*128 ^ k:=Nat.mul_le_mul (by omega) (Nat.le_refl _)
 rw[Nat.pow_succ];omega
end Go.Abs
/- Plain laws: worlds compared. -/
namespace Go.Abs
def bV(a b:List aH):Bool:=ByteArray.toList (cA a)==ByteArray.toList (cA b)
end Go.Abs
-- bytes read back: plain laws of readers
namespace Go.Abs
open Go
def B8(b:List aH):Prop:=∀ k,k<b.length->∃ y:Nat,(gt b k).1=(y:Int)/\y<=255
def ByL(b:List aH):Prop:=∀ x∈b,∃ y:Nat,x.1=(y:Int)/\y<=255
theorem ByL.b8{b:List aH}(h:ByL b):B8 b:=fun k hk=>h _ (c8 hk)
theorem B8.byL{b:List aH}(h:B8 b):ByL b:=fun x hx=>by
 obtain⟨i,hi,e⟩:=iH hx
 rw[<- e];exact h i hi
theorem ByL.app{a b:List aH}(ha:ByL a)(hb:ByL b):ByL (a++b):=fun x hx=>by
 rcases List.mem_append.1 hx with h | h
 ·exact ha x h
 ·exact hb x h
theorem ByL.flat{α:Type}{f:α->List aH}(h:∀ x,ByL (f x))(xs:List α):ByL (xs.flatMap f):=fun x hx=>by
 obtain⟨a,_,ha⟩:=List.mem_flatMap.1 hx
 exact h a x ha
theorem ByL.sub{a b:List aH}(h:ByL b)(hs:∀ x∈a,x∈b):ByL a:=fun x hx=>h x (hs x hx)
theorem OH(n:Nat):ByL (g9 n):=by
 induction n using Nat.strongRecOn with
 | _ n ih=>
  unfold g9
  split
  ·rename_i h
   intro b hb
   rw[List.mem_singleton.1 hb];exact⟨n,rfl,by omega⟩
  ·rename_i h
   intro b hb
   rcases List.mem_cons.1 hb with e | e
   ·rw[e];exact⟨n % 128+128,rfl,by omega⟩
   ·exact ih (n / 128) (Nat.div_lt_self (by omega) (by omega)) b e
theorem dY(x:Int):ByL (aF x):=by
 unfold aF
 cases inB x 0 2147483647 with
 | false=>intro b hb;cases hb
 | true=>exact OH _
theorem J8(t:ByteArray):ByL (fK t):=fun b hb=>by
 unfold fK eK at hb
 obtain⟨u,_,rfl⟩:=List.mem_map.1 hb
 have:=u.toNat_lt
 exact⟨u.toNat,rfl,by omega⟩
theorem FY(t:ByteArray):ByL (dU t):=(dY _).app (J8 t)
theorem CY(x:bL):ByL (a9 x):=by
 unfold a9;exact(((((dY _).app (dY _)).app (dY _)).app (dY _)).app (dY _)).app (FY _)
theorem rH(f:aL):ByL (aX f):=(dY _).app (dY _)
theorem vQ(s:aE):ByL (bI s):=(((dY _).app (ByL.flat CY _)).app (dY _)).app (ByL.flat rH _)
theorem BP{l:List aH}(h:ByL l):fK (cA l)=l:=by
 show List.map (fun b:UInt8=>(((b.toNat:Nat):Int),())) (List.map (fun r:aH=>UInt8.ofNat (Int.toNat r.1)) l)=l
 rw[List.map_map]
 conv=>rhs;rw[<- List.map_id l]
 refine List.map_congr_left fun x hx=>?_
 obtain⟨y,hy,hy2⟩:=h x hx
 obtain⟨z,u⟩:=x
 have hy:z=(y:Int):=hy
 subst hy
 show((((UInt8.ofNat ((y:Int)).toNat).toNat:Nat):Int),())=((y:Int),u)
 rw[Int.toNat_natCast,UInt8.toNat_ofNat',Nat.mod_eq_of_lt (by omega)]
theorem J7(s:ByteArray):cA (fK s)=s:=by
 have e:List.map (fun r:aH=>UInt8.ofNat (Int.toNat r.1)) (fK s)=s.data.toList:=by
  show List.map _ (List.map (fun b:UInt8=>(((b.toNat:Nat):Int),())) s.data.toList)=_
  rw[List.map_map]
  conv=>rhs;rw[<- List.map_id s.data.toList]
  refine List.map_congr_left fun x hx=>?_
  show UInt8.ofNat (((x.toNat:Nat):Int)).toNat=x
  rw[Int.toNat_natCast];simp
 exact congrArg (fun l:List UInt8=>(⟨l.toArray⟩:ByteArray)) e
theorem mF{a b:List aH}(ha:ByL a)(hb:ByL b):bV a b=true↔a=b:=by
 unfold bV
 rw[beq_iff_eq,ByteArray.toList_eq,ByteArray.toList_eq]
 constructor
 ·intro h
  have:fK (cA a)=fK (cA b):=by unfold fK eK;rw[h]
  rwa [BP ha,BP hb] at this
 ·rintro rfl;rfl
-- readers
abbrev RdT:Type:=List aH×Int×Bool×Unit
def pD(b:List aH)(i:Int):Option (Nat×Nat):=bif decide (i<0)then none else pW b i.toNat
theorem xR{b:List aH}{i:Int}{x j:Nat}(h:pD b i=some (x,j)):x<=2147483647/\j<=b.length:=by
 unfold pD at h
 cases e:decide (i<0)with
 | true=>rw[e] at h;cases h
 | false=>
  rw[e] at h
  have h:sE b i.toNat 5 0 0=some (x,j):=h
  have:=O2 5 0 0 h
  omega
-- a number read off a reader: (the number, the reader behind it)
def aK(r:RdT):Int×RdT:=bif r.2.2.1 then(0,(r.1,r.2.1,true,()))else
 match pD r.1 r.2.1 with
 | none=>(0,(r.1,r.2.1,true,()))
 | some (x,j)=>((x:Int),(r.1,(j:Int),r.2.2.1,()))
def eD(r:RdT)(m:Int):Int×RdT:=bif decide ((aK r).1>m)then(0,((aK r).2.1,(aK r).2.2.1,true,()))else aK r
def sY(b:List aH)(i:Int):Option (ByteArray×Nat):=match pD b i with
 | none=>none
 | some (x,j)=>if x>b.length - j then none else some (cA ((b.take (j+x)).drop j),j+x)
def lD(r:RdT):ByteArray×RdT:=bif r.2.2.1 then(⟨#[]⟩,(r.1,r.2.1,true,()))else
 match sY r.1 r.2.1 with
 | none=>(⟨#[]⟩,(r.1,r.2.1,true,()))
 | some (s,j)=>(s,(r.1,(j:Int),r.2.2.1,()))
structure RdOk (r:RdT):Prop where
 b8:B8 r.1
 len:r.1.length<=aQ
 lo:0<=r.2.1
 hi:r.2.1<=(r.1.length:Int)
theorem qL(r:RdT):(aK r).2.1=r.1/\(0<=r.2.1->r.2.1<=(r.1.length:Int)->0<=(aK r).2.2.1/\(aK r).2.2.1<=(r.1.length:Int))/\0<=(aK r).1/\(aK r).1<=2147483647/\(r.2.2.1=true->(aK r).2.2.2.1=true):=by
 obtain⟨b,i,bad,u⟩:=r
 cases bad with
 | true=>exact⟨rfl,fun h1 h2=>⟨h1,h2⟩,Int.le_refl _,by show(0:Int)<=2147483647;omega,fun _=>rfl⟩
 | false=>
  have e:aK (b,i,false,u)=(match pD b i with | none=>((0:Int),((b,i,true,()):RdT)) | some (x,j)=>((x:Int),(b,(j:Int),false,()))):=rfl
  rw[e]
  cases h:pD b i with
  | none=>exact⟨rfl,fun h1 h2=>⟨h1,h2⟩,Int.le_refl _,by show(0:Int)<=2147483647;omega,fun _=>rfl⟩
  | some q=>
   obtain⟨x,j⟩:=q
   have hb:=xR h
   exact⟨rfl,fun h1 h2=>⟨Int.natCast_nonneg _,by show(j:Int)<=(b.length:Int);omega⟩,Int.natCast_nonneg _,by show(x:Int)<=2147483647;omega,fun h=>absurd (show false=true from h) (by decide)⟩
theorem fT(r:RdT):(aK r).2.1=r.1:=(qL r).1
theorem yH(r:RdT):0<=(aK r).1:=(qL r).2.2.1
theorem RdOk.num{r:RdT}(h:RdOk r):RdOk (aK r).2:=by
 have e:=qL r
 have p:=e.2.1 h.lo h.hi
 exact⟨by rw[e.1];exact h.b8,by rw[e.1];exact h.len,p.1,by rw[e.1];exact p.2⟩
theorem RdOk.cnt{r:RdT}(h:RdOk r)(m:Int):RdOk (eD r m).2:=by
 have hn:=h.num
 unfold eD
 cases decide ((aK r).1>m)with
 | true=>exact⟨hn.b8,hn.len,hn.lo,hn.hi⟩
 | false=>exact hn
theorem FW(r:RdT)(m:Int):(eD r m).2.1=r.1:=by
 unfold eD
 cases decide ((aK r).1>m)with
 | true=>exact fT r
 | false=>exact fT r
theorem yG(r:RdT):(lD r).2.1=r.1/\(0<=r.2.1->r.2.1<=(r.1.length:Int)->0<=(lD r).2.2.1/\(lD r).2.2.1<=(r.1.length:Int)):=by
 obtain⟨b,i,bad,u⟩:=r
 cases bad with
 | true=>exact⟨rfl,fun h1 h2=>⟨h1,h2⟩⟩
 | false=>
  have e:lD (b,i,false,u)=(match sY b i with | none=>((⟨#[]⟩:ByteArray),((b,i,true,()):RdT)) | some (s,j)=>(s,(b,(j:Int),false,()))):=rfl
  rw[e]
  cases h:sY b i with
  | none=>exact⟨rfl,fun h1 h2=>⟨h1,h2⟩⟩
  | some q=>
   obtain⟨s,j⟩:=q
   refine⟨rfl,fun h1 h2=>⟨Int.natCast_nonneg _,?_⟩⟩
   show(j:Int)<=(b.length:Int)
   unfold sY at h
   cases hg:pD b i with
   | none=>rw[hg] at h;cases h
   | some q=>
    obtain⟨x,k⟩:=q
    have hb:=xR hg
    rw[hg] at h
    have h:(if x>b.length - k then none else some (cA ((b.take (k+x)).drop k),k+x))=some (s,j):=h
    split at h
    ·cases h
    ·cases h;omega
theorem RdOk.txt{r:RdT}(h:RdOk r):RdOk (lD r).2:=by
 have e:=yG r
 have p:=e.2 h.lo h.hi
 exact⟨by rw[e.1];exact h.b8,by rw[e.1];exact h.len,p.1,by rw[e.1];exact p.2⟩
theorem pN(r:RdT){m:Int}(hm:0<=m):0<=(eD r m).1/\(eD r m).1<=m:=by
 have:=yH r
 unfold eD
 by_cases h:(aK r).1>m
 ·rw[decide_eq_true h];exact⟨Int.le_refl _,hm⟩
 ·rw[decide_eq_false h];show 0<=(aK r).1/\(aK r).1<=m;omega
-- several numbers
def rdK(r:RdT):Nat->RdT
 | 0=>r
 | k+1=>(aK (rdK r k)).2
def rdV(r:RdT)(k:Nat):Int:=(aK (rdK r k)).1
theorem RdOk.k{r:RdT}(h:RdOk r):∀ k,RdOk (rdK r k)
 | 0=>h
 | k+1=>(RdOk.k h k).num
theorem tP(r:RdT):∀ k,(rdK r k).1=r.1
 | 0=>rfl
 | k+1=>(fT _).trans (tP r k)
-- the same reading done several times
def cF{α:Type}(f:RdT->α×RdT)(r:RdT):Nat->List α×RdT
 | 0=>([],r)
 | k+1=>((cF f r k).1++[(f (cF f r k).2).1],(f (cF f r k).2).2)
theorem hO{α:Type}(f:RdT->α×RdT)(r:RdT):∀ k,(cF f r k).1.length=k
 | 0=>rfl
 | k+1=>by show((cF f r k).1++[_]).length=k+1;rw[List.length_append,hO f r k];rfl
theorem m9{α:Type}{f:RdT->α×RdT}(hf:∀ r,RdOk r->RdOk (f r).2){r:RdT}(h:RdOk r):∀ k,RdOk (cF f r k).2
 | 0=>h
 | k+1=>hf _ (m9 hf h k)
theorem yU{α:Type}{f:RdT->α×RdT}(hf:∀ r,(f r).2.1=r.1)(r:RdT):∀ k,(cF f r k).2.1=r.1
 | 0=>rfl
 | k+1=>(hf _).trans (yU hf r k)
def u5(r:RdT):aH×RdT:=(((aK r).1,()),(aK r).2)
def dL(r:RdT):aL×RdT:=((rdV r 0,rdV r 1,()),rdK r 2)
def cR(r:RdT):bL×RdT:=((rdV r 0,rdV r 1,rdV r 2,rdV r 3,rdV r 4,(lD (rdK r 5)).1,()),(lD (rdK r 5)).2)
theorem RdOk.floor{r:RdT}(h:RdOk r):RdOk (dL r).2:=h.k 2
theorem RdOk.item{r:RdT}(h:RdOk r):RdOk (cR r).2:=(h.k 5).txt
theorem GK(r:RdT):(cR r).2.1=r.1:=(yG _).1.trans (tP r 5)
def kK(r:RdT)(m:Int):List aH×RdT:=cF u5 (eD r m).2 (eD r m).1.toNat
theorem RdOk.nums{r:RdT}(h:RdOk r)(m:Int):RdOk (kK r m).2:=m9 (f:=u5) (fun r h=>RdOk.num h) (h.cnt m) _
theorem FV(r:RdT){m:Int}(hm:0<=m):((kK r m).1.length:Int)<=m:=by
 have:=pN r hm
 unfold kK;rw[hO];omega
theorem DY(r:RdT)(m:Int):(kK r m).2.1=r.1:=(yU (f:=u5) (fun r=>fT r) _ _).trans (FW r m)
-- what is read back
def kO{α:Type}(f:RdT->α×RdT)(e:List aH)(x:α):Prop:=
 ∀ b u v:List aH,b=u++(e++v)->f (b,(u.length:Int),false,())=(x,(b,(((u++e).length:Nat):Int),false,()))
theorem EU{x:Int}(h:inB x 0 2147483647=true){b u v:List aH}(hb:b=u++(aF x++v)):pD b (u.length:Int)=some (x.toNat,(u++aF x).length):=by
 rw[bA] at h
 have e:aF x=g9 x.toNat:=by unfold aF;rw[bA.2 h];rfl
 rw[e] at hb ⊢
 unfold pD
 rw[decide_eq_false (by omega)]
 show pW b (u.length:Int).toNat=_
 rw[Int.toNat_natCast,hb,<- List.append_assoc,GP u v (by omega),List.length_append]
theorem gZ{x:Int}(h:inB x 0 2147483647=true):kO aK (aF x) x:=by
 intro b u v hb
 have g:=EU h hb
 show(match pD b (u.length:Int)with | none=>((0:Int),((b,(u.length:Int),true,()):RdT)) | some (x,j)=>((x:Int),(b,(j:Int),false,())))=_
 rw[g]
 show(((x.toNat:Nat):Int),_)=(x,_)
 rw[bA] at h
 rw[show((x.toNat:Nat):Int)=x by omega]
theorem qK{x m:Int}(h:inB x 0 2147483647=true)(hm:x<=m):kO (fun r=>eD r m) (aF x) x:=by
 intro b u v hb
 have:=gZ h b u v hb
 show eD _ m=_
 unfold eD
 rw[this,decide_eq_false (show ¬ x>m by omega)];rfl
theorem N3{s:ByteArray}(h:ByteArray.size s<=2147483647):inB ((ByteArray.size s:Nat):Int) 0 2147483647=true:=by rw[bA];omega
theorem rK{α:Type}(a b c:List α):((a++(b++c)).take (a.length+b.length)).drop a.length=b:=by
 rw[<- List.append_assoc,List.take_left' (by rw[List.length_append]),List.drop_left' rfl]
theorem KH{s:ByteArray}(h:ByteArray.size s<=2147483647){b u v:List aH}(hb:b=u++(dU s++v)):sY b (u.length:Int)=some (s,(u++dU s).length):=by
 unfold dU at hb ⊢
 have g:=EU (N3 h) (b:=b) (u:=u) (v:=fK s++v) (by rw[hb];simp)
 unfold sY;rw[g]
 show(if((ByteArray.size s:Nat):Int).toNat>b.length - (u++aF ((ByteArray.size s:Nat):Int)).length then none else some (cA ((b.take ((u++aF ((ByteArray.size s:Nat):Int)).length+((ByteArray.size s:Nat):Int).toNat)).drop (u++aF ((ByteArray.size s:Nat):Int)).length),(u++aF ((ByteArray.size s:Nat):Int)).length+((ByteArray.size s:Nat):Int).toNat))=_
 have e2:b=(u++aF ((ByteArray.size s:Nat):Int))++(fK s++v):=by rw[hb];simp
 have e3:b.length=(u++aF ((ByteArray.size s:Nat):Int)).length+(ByteArray.size s+v.length):=by rw[e2,List.length_append,List.length_append (as:=fK s),jT]
 rw[Int.toNat_natCast,if_neg (by omega)]
 have e4:=rK (α:=aH) (u++aF ((ByteArray.size s:Nat):Int)) (fK s) v
 rw[<- e2,jT] at e4
 refine(congrArg (fun l:List aH=>some (cA l,(u++aF ((ByteArray.size s:Nat):Int)).length+ByteArray.size s)) e4).trans ?_
 rw[J7,<- List.append_assoc,List.length_append (bs:=fK s),jT]
theorem I1{s:ByteArray}(h:ByteArray.size s<=2147483647):kO lD (dU s) s:=by
 intro b u v hb
 have g:=KH h hb
 show(match sY b (u.length:Int)with | none=>((⟨#[]⟩:ByteArray),((b,(u.length:Int),true,()):RdT)) | some (s,j)=>(s,(b,(j:Int),false,())))=_
 rw[g]
def cS(ns:List aH):List aH:=ns.flatMap fun x=>aF x.1
theorem nE(a b:List aH):cS (a++b)=cS a++cS b:=List.flatMap_append
theorem vG(x:aH):cS [x]=aF x.1:=by unfold cS;simp
theorem kP{α:Type}[Inhabited α]{xs:List α}{k:Nat}(h:k<xs.length):xs.take (k+1)=xs.take k++[gt xs k]:=by
 rw[<- List.take_append_getElem h,d8 h]
theorem x7{α:Type}[Inhabited α]{xs:List α}{k:Nat}(h:k<xs.length):xs=xs.take k++(gt xs k::xs.drop (k+1)):=by
 rw[d8 h,<- List.drop_eq_getElem_cons h,List.take_append_drop]
theorem mZ{ns:List aH}(h:∀ x∈ns,inB x.1 0 2147483647=true){b u v:List aH}(hb:b=u++(cS ns++v)):
  ∀ k,k<=ns.length->rdK (b,(u.length:Int),false,()) k=(b,(((u++cS (ns.take k)).length:Nat):Int),false,())
 | 0,_=>by
  show(b,(u.length:Int),false,())=_
  rw[List.take_zero];unfold cS;rw[List.flatMap_nil,List.append_nil]
 | k+1,hk=>by
  have ih:=mZ h hb k (by omega)
  have hg:b=(u++cS (ns.take k))++(aF (gt ns k).1++(cS (ns.drop (k+1))++v)):=by
   rw[hb];conv=>lhs;rw[x7 (show k<ns.length by omega)]
   rw[nE,show gt ns k::ns.drop (k+1)=[gt ns k]++ns.drop (k+1)from rfl,nE,vG];simp only[List.append_assoc]
  have:=gZ (h _ (c8 (show k<ns.length by omega))) b _ _ hg
  show(aK (rdK _ k)).2=_
  rw[ih,this,kP (by omega),nE,vG,List.append_assoc]
theorem uZ{ns:List aH}(h:∀ x∈ns,inB x.1 0 2147483647=true){b u v:List aH}(hb:b=u++(cS ns++v))(k:Nat)(hk:k<ns.length):
  rdV (b,(u.length:Int),false,()) k=(gt ns k).1:=by
 have ih:=mZ h hb k (by omega)
 have hg:b=(u++cS (ns.take k))++(aF (gt ns k).1++(cS (ns.drop (k+1))++v)):=by
  rw[hb];conv=>lhs;rw[x7 hk]
  rw[nE,show gt ns k::ns.drop (k+1)=[gt ns k]++ns.drop (k+1)from rfl,nE,vG];simp only[List.append_assoc]
 have:=gZ (h _ (c8 hk)) b _ _ hg
 unfold rdV;rw[ih,this]
theorem yT{α:Type}[Inhabited α]{f:RdT->α×RdT}{e:α->List aH}{xs:List α}(h:∀ x∈xs,kO f (e x) x){b u v:List aH}(hb:b=u++(xs.flatMap e++v)):
  ∀ k,k<=xs.length->cF f (b,(u.length:Int),false,()) k=(xs.take k,(b,(((u++(xs.take k).flatMap e).length:Nat):Int),false,()))
 | 0,_=>by
  show(([]:List α),((b,(u.length:Int),false,()):RdT))=_
  rw[List.take_zero,List.flatMap_nil,List.append_nil]
 | k+1,hk=>by
  have ih:=yT h hb k (by omega)
  have hg:b=(u++(xs.take k).flatMap e)++(e (gt xs k)++((xs.drop (k+1)).flatMap e++v)):=by
   rw[hb];conv=>lhs;rw[x7 (show k<xs.length by omega)]
   rw[List.flatMap_append,List.flatMap_cons];simp only[List.append_assoc]
  have:=h _ (c8 (show k<xs.length by omega)) b _ _ hg
  show((cF f _ k).1++[(f (cF f _ k).2).1],(f (cF f _ k).2).2)=_
  rw[ih,this,kP (by omega),List.flatMap_append,List.append_assoc]
  simp
theorem nT{α:Type}[Inhabited α]{f:RdT->α×RdT}{e:α->List aH}{xs:List α}(h:∀ x∈xs,kO f (e x) x):kO (fun r=>cF f r xs.length) (xs.flatMap e) xs:=by
 intro b u v hb
 have:=yT h hb xs.length (Nat.le_refl _)
 rw[List.take_length] at this
 exact this
theorem F2{x:aH}(h:inB x.1 0 2147483647=true):kO u5 (aF x.1) x:=by
 intro b u v hb
 unfold u5;rw[gZ h b u v hb]
theorem C1{f:aL}(h1:inB f.1 0 2147483647=true)(h2:inB f.2.1 0 2147483647=true):kO dL (aX f) f:=by
 intro b u v hb
 have e:aX f=cS [(f.1,()),(f.2.1,())]:=by unfold cS aX;simp
 rw[e] at hb ⊢
 have hn:∀ x∈[((f.1,()):aH),(f.2.1,())],inB x.1 0 2147483647=true:=by
  intro x hx;rcases List.mem_cons.1 hx with rfl | hx
  ·exact h1
  ·rw[List.mem_singleton.1 hx];exact h2
 have a:=uZ hn hb
 have c:=mZ hn hb 2 (Nat.le_refl _)
 unfold dL
 rw[a 0 (show 0<2 by omega),a 1 (show 1<2 by omega),c];rfl
theorem EN{x:bL}(h:∀ y∈five x,inB y.1 0 2147483647=true)(hs:ByteArray.size x.2.2.2.2.2.1<=2147483647):kO cR (a9 x) x:=by
 intro b u v hb
 have e:a9 x=cS (five x)++dU x.2.2.2.2.2.1:=by unfold cS a9 five;simp
 rw[e] at hb ⊢
 have hb1:b=u++(cS (five x)++(dU x.2.2.2.2.2.1++v)):=by rw[hb];simp
 have hb2:b=(u++cS (five x))++(dU x.2.2.2.2.2.1++v):=by rw[hb];simp
 have a:=uZ h hb1
 have c:=mZ h hb1 5 (Nat.le_refl _)
 rw[show(five x).take 5=five x from rfl] at c
 have d:=I1 hs b _ _ hb2
 unfold cR
 rw[c,d,a 0 (show 0<5 by omega),a 1 (show 1<5 by omega),a 2 (show 2<5 by omega),a 3 (show 3<5 by omega),a 4 (show 4<5 by omega),List.append_assoc];rfl
end Go.Abs
-- states and messages read back: plain laws
namespace Go.Abs
open Go
def InN(x:Int):Prop:=inB x 0 2147483647=true
theorem InN.of{x hi:Int}(h:inB x 0 hi=true)(hh:hi<=2147483647):InN x:=by
 unfold InN;rw[bA] at h ⊢;omega
theorem InN.of1{x hi:Int}(h:inB x 1 hi=true)(hh:hi<=2147483647):InN x:=by
 unfold InN;rw[bA] at h ⊢;omega
theorem InN.nat{n:Nat}(h:n<=2147483647):InN (n:Int):=by unfold InN;rw[bA];omega
theorem StateOk.five{s:aE}(h:StateOk s){x:bL}(hx:x∈s.1):(∀ y∈five x,inB y.1 0 2147483647=true)/\ByteArray.size x.2.2.2.2.2.1<=2147483647:=by
 obtain⟨h1,h2,_⟩:=h.item x hx
 unfold d6 at h2
 simp only[Bool.and_eq_true,decide_eq_true_eq] at h2
 obtain⟨a,b,c,d,e⟩:=h2
 refine⟨fun y hy=>?_,by omega⟩
 unfold Go.Abs.five at hy
 simp only[List.mem_cons,List.not_mem_nil,or_false] at hy
 rcases hy with rfl | rfl | rfl | rfl | rfl
 ·exact InN.of (h1:inB x.1 0 4=true) (by decide)
 ·exact InN.of1 a (by decide)
 ·exact InN.of b (by decide)
 ·exact InN.of c (by decide)
 ·exact InN.of d (by decide)
theorem StateOk.flo{s:aE}(h:StateOk s){f:aL}(hf:f∈s.2.1):InN f.1/\InN f.2.1:=
 ⟨InN.of ((h.floor f hf).1:inB f.1 0 4=true) (by decide),InN.of1 (h.floor f hf).2 (by decide)⟩
theorem y5{s:aE}(h:StateOk s):∀ x∈s.1,kO cR (a9 x) x:=fun x hx=>EN (h.five hx).1 (h.five hx).2
theorem wT{fs:List aL}(h:∀ f∈fs,InN f.1/\InN f.2.1):∀ x∈fs,kO dL (aX x) x:=fun x hx=>C1 (h x hx).1 (h x hx).2
-- the program's reader of states
def rs0(b:List aH):RdT:=(b,0,false,())
def siC(b:List aH):Int×RdT:=eD (rs0 b) 5
def siI(b:List aH):List bL×RdT:=cF cR (siC b).2 (siC b).1.toNat
def siF(b:List aH):Int×RdT:=eD (siI b).2 5
def siG(b:List aH):List aL×RdT:=cF dL (siF b).2 (siF b).1.toNat
def stI(b:List aH):aE:=((siI b).1,(siG b).1,())
def bX(b:List aH):Option aE:=bif(siG b).2.2.2.1||(!aN (stI b)|| !bV (bI (stI b)) b)then none else some (stI b)
theorem uI{α:Type}{c:Bool}{x y:α}(h:(bif c then none else some x)=some y):c=false/\x=y:=by
 cases c with
 | true=>cases h
 | false=>exact⟨rfl,by injection h⟩
theorem v9{b:List aH}{s:aE}(h:bX b=some s):aN s=true/\bV (bI s) b=true:=by
 obtain⟨h1,h2⟩:=uI h
 subst h2
 simp only[Bool.or_eq_false_iff,Bool.not_eq_false'] at h1
 exact h1.2
theorem uG(s:aE):bI s=([]:List aH)++(aF (s.1.length:Int)++(s.1.flatMap a9++(aF (s.2.1.length:Int)++(s.2.1.flatMap aX++[])))):=by
 unfold bI;simp
theorem hZ(b:List aH):bV b b=true:=by unfold bV;exact beq_self_eq_true _
theorem kQ{s:aE}(hs:aN s=true):bX (bI s)=some s:=by
 have h:=(aM s).1 hs
 have h5:=h.len
 have hb:=uG s
 generalize e:bI s=b at hb
 have c1:siC b=((s.1.length:Int),(b,(((([]:List aH)++aF (s.1.length:Int)).length:Nat):Int),false,())):=
  qK (m:=5) (InN.nat (by omega)) (by omega) b [] _ hb
 have c2:siI b=(s.1,(b,(((([]:List aH)++aF (s.1.length:Int)++s.1.flatMap a9).length:Nat):Int),false,())):=by
  unfold siI;rw[c1]
  show cF cR _ ((s.1.length:Int)).toNat=_
  rw[Int.toNat_natCast]
  exact nT (y5 h) b _ _ (by rw[hb,List.append_assoc])
 have c3:siF b=((s.2.1.length:Int),(b,(((([]:List aH)++aF (s.1.length:Int)++s.1.flatMap a9++aF (s.2.1.length:Int)).length:Nat):Int),false,())):=by
  unfold siF;rw[c2]
  exact qK (m:=5) (InN.nat (by omega)) (by omega) b _ (s.2.1.flatMap aX++[]) (by rw[hb];simp only[List.append_assoc])
 have c4:siG b=(s.2.1,(b,(((([]:List aH)++aF (s.1.length:Int)++s.1.flatMap a9++aF (s.2.1.length:Int)++s.2.1.flatMap aX).length:Nat):Int),false,())):=by
  unfold siG;rw[c3]
  show cF dL _ ((s.2.1.length:Int)).toNat=_
  rw[Int.toNat_natCast]
  exact nT (wT fun f hf=>h.flo hf) b _ [] (by rw[hb];simp only[List.append_assoc])
 have c5:stI b=s:=by unfold stI;rw[c2,c4]
 unfold bX;rw[c4,c5,hs,e,hZ];rfl
-- the reference's reader of states
def lV:RdT->Nat->List aH×RdT
 | r,0=>([],r)
 | r,k+1=>bif r.2.2.1 then([],r)else(((aK r).1,())::(lV (aK r).2 k).1,(lV (aK r).2 k).2)
def cM(r:RdT)(t:Nat):List aH×RdT:=bif decide ((aK r).1>100)then([],((aK r).2.1,(aK r).2.2.1,true,()))else lV (aK r).2 ((aK r).1.toNat*t)
theorem DS:∀ (k:Nat) (r:RdT),(lV r k).1.length<=k
 | 0,r=>Nat.le_refl _
 | k+1,r=>by
  unfold lV
  cases r.2.2.1 with
  | true=>exact Nat.zero_le _
  | false=>show(((aK r).1,())::(lV (aK r).2 k).1).length<=k+1;rw[List.length_cons];have:=DS k (aK r).2;omega
theorem HL:∀ (k:Nat) {r:RdT},RdOk r->RdOk (lV r k).2
 | 0,r,h=>h
 | k+1,r,h=>by
  unfold lV
  cases r.2.2.1 with
  | true=>exact h
  | false=>exact HL k h.num
theorem AQ:∀ (k:Nat) (r:RdT),(lV r k).2.1=r.1
 | 0,r=>rfl
 | k+1,r=>by
  unfold lV
  cases r.2.2.1 with
  | true=>rfl
  | false=>exact(AQ k _).trans (fT r)
theorem F8(r:RdT)(t:Nat):(cM r t).2.1=r.1:=by
 unfold cM
 cases decide ((aK r).1>100)with
 | true=>exact fT r
 | false=>exact(AQ _ _).trans (fT r)
theorem qO(r:RdT)(t:Nat):(cM r t).1.length<=100*t:=by
 unfold cM
 by_cases h:(aK r).1>100
 ·rw[decide_eq_true h];exact Nat.zero_le _
 ·rw[decide_eq_false h]
  have h1:=DS ((aK r).1.toNat*t) (aK r).2
  have h2:(aK r).1.toNat*t<=100*t:=Nat.mul_le_mul (by omega) (Nat.le_refl _)
  show(lV (aK r).2 ((aK r).1.toNat*t)).1.length<=100*t;omega
theorem RdOk.many{r:RdT}(h:RdOk r)(t:Nat):RdOk (cM r t).2:=by
 unfold cM
 cases decide ((aK r).1>100)with
 | true=>exact⟨h.num.b8,h.num.len,h.num.lo,h.num.hi⟩
 | false=>exact HL _ h.num
theorem AV:∀ (ns:List aH),(∀ x∈ns,InN x.1)->kO (fun r=>lV r ns.length) (cS ns) ns
 | [],_=>fun b u v hb=>by show(([]:List aH),((b,(u.length:Int),false,()):RdT))=_;unfold cS;rw[List.flatMap_nil,List.append_nil]
 | x::ns,h=>fun b u v hb=>by
  have e:cS (x::ns)=aF x.1++cS ns:=by unfold cS;rw[List.flatMap_cons]
  rw[e] at hb ⊢
  have h1:=gZ (h x (List.mem_cons_self ..)) b u (cS ns++v) (by rw[hb];simp only[List.append_assoc])
  have h2:=AV ns (fun y hy=>h y (List.mem_cons_of_mem _ hy)) b (u++aF x.1) v (by rw[hb];simp only[List.append_assoc])
  show(((aK _).1,())::(lV (aK _).2 ns.length).1,(lV (aK _).2 ns.length).2)=_
  rw[h1]
  have h2:lV (b,(((u++aF x.1).length:Nat):Int),false,()) ns.length=_:=h2
  rw[h2,List.append_assoc]
theorem wF{ns:List aH}{n t:Nat}(hl:ns.length=n*t)(hn:n<=100)(h:∀ x∈ns,InN x.1):kO (fun r=>cM r t) (aF ((n:Nat):Int)++cS ns) ns:=by
 intro b u v hb
 have h1:=gZ (InN.nat (show n<=2147483647 by omega)) b u (cS ns++v) (by rw[hb];simp only[List.append_assoc])
 have h2:=AV ns h b (u++aF ((n:Nat):Int)) v (by rw[hb];simp only[List.append_assoc])
 show cM _ t=_
 unfold cM
 rw[h1,decide_eq_false (show ¬ (((n:Nat):Int)>100) by omega)]
 show lV _ (((n:Nat):Int).toNat*t)=_
 rw[Int.toNat_natCast,<- hl]
 exact h2.trans (by rw[List.append_assoc])
def iU(fl:List aH)(k:Nat):List aL:=(List.range k).map fun i=>((gt fl (2*i)).1,(gt fl (2*i+1)).1,())
theorem sA(fl:List aH)(k:Nat):(iU fl k).length=k:=by unfold iU;rw[List.length_map,List.length_range]
theorem wJ(fl:List aH)(k:Nat):iU fl (k+1)=iU fl k++[((gt fl (2*k)).1,(gt fl (2*k+1)).1,())]:=by
 unfold iU;rw[List.range_succ,List.map_append];rfl
theorem D7(x y:aH)(l:List aH)(k:Nat):iU (x::y::l) (k+1)=(x.1,y.1,())::iU l k:=by
 unfold iU
 rw[List.range_succ_eq_map,List.map_cons,List.map_map]
 congr 1
def B4(fs:List aL):List aH:=fs.flatMap fun f=>[(f.1,()),(f.2.1,())]
theorem uO(f:aL)(fs:List aL):B4 (f::fs)=(f.1,())::(f.2.1,())::B4 fs:=by unfold B4;rw[List.flatMap_cons];rfl
theorem xY:∀ fs:List aL,(B4 fs).length=fs.length*2
 | []=>rfl
 | f::fs=>by rw[uO,List.length_cons,List.length_cons,xY fs,List.length_cons];omega
theorem AL:∀ fs:List aL,cS (B4 fs)=fs.flatMap aX
 | []=>rfl
 | f::fs=>by
  rw[uO,List.flatMap_cons,<- AL fs]
  unfold cS aX;rw[List.flatMap_cons,List.flatMap_cons,List.append_assoc]
theorem NX{fs:List aL}(h:∀ f∈fs,InN f.1/\InN f.2.1):∀ x∈B4 fs,InN x.1:=fun x hx=>by
 obtain⟨f,hf,hx⟩:=List.mem_flatMap.1 hx
 rcases List.mem_cons.1 hx with rfl | hx
 ·exact(h f hf).1
 ·rw[List.mem_singleton.1 hx];exact(h f hf).2
theorem yM:∀ fs:List aL,iU (B4 fs) fs.length=fs
 | []=>rfl
 | f::fs=>by rw[uO,List.length_cons,D7,yM fs]
def flR(r:RdT):List aL×RdT:=(iU (cM r 2).1 ((cM r 2).1.length / 2),(cM r 2).2)
theorem BJ{fs:List aL}(hl:fs.length<=100)(h:∀ f∈fs,InN f.1/\InN f.2.1):kO flR (aF (fs.length:Int)++fs.flatMap aX) fs:=by
 intro b u v hb
 rw[<- AL] at hb ⊢
 have:=wF (t:=2) (xY fs) hl (NX h) b u v hb
 have this:cM (b,(u.length:Int),false,()) 2=_:=this
 unfold flR;rw[this]
 show(iU (B4 fs) ((B4 fs).length / 2),_)=_
 rw[xY,Nat.mul_div_cancel _ (by decide),yM]
theorem H5(r:RdT):(flR r).1.length<=100:=by
 unfold flR;rw[sA];have:=qO r 2;omega
def iI:RdT->Nat->Option (List bL×RdT)
 | r,0=>some ([],r)
 | r,k+1=>bif r.2.2.1 then some ([],r)else bif(cR r).2.2.2.1 then none else(iI (cR r).2 k).map fun q=>((cR r).1::q.1,q.2)
theorem tZ:∀ (xs:List bL),(∀ x∈xs,kO cR (a9 x) x)->∀ b u v,b=u++(xs.flatMap a9++v)->
  iI (b,(u.length:Int),false,()) xs.length=some (xs,(b,(((u++xs.flatMap a9).length:Nat):Int),false,()))
 | [],_,b,u,v,hb=>by show some (([]:List bL),((b,(u.length:Int),false,()):RdT))=_;rw[List.flatMap_nil,List.append_nil]
 | x::xs,h,b,u,v,hb=>by
  rw[List.flatMap_cons] at hb ⊢
  have h1:=h x (List.mem_cons_self ..) b u (xs.flatMap a9++v) (by rw[hb];simp only[List.append_assoc])
  have h2:=tZ xs (fun y hy=>h y (List.mem_cons_of_mem _ hy)) b (u++a9 x) v (by rw[hb];simp only[List.append_assoc])
  show(bif(cR _).2.2.2.1 then none else(iI (cR _).2 xs.length).map fun q=>((cR _).1::q.1,q.2))=_
  rw[h1]
  show(iI _ xs.length).map _=_
  rw[h2,List.append_assoc];rfl
def ssI(b:List aH):Option (List bL×RdT):=bif decide ((aK (rs0 b)).1>100)then some ([],(aK (rs0 b)).2)else iI (aK (rs0 b)).2 (aK (rs0 b)).1.toNat
def stS(q:List bL×RdT):aE:=(q.1,(flR q.2).1,())
def fY(b:List aH):Option aE:=match ssI b with
 | none=>none
 | some q=>bif(flR q.2).2.2.2.1||(decide ((aK (rs0 b)).1>100)||(!aN (stS q)|| !bV (bI (stS q)) b))then none else some (stS q)
theorem DK{b:List aH}{s:aE}(h:fY b=some s):aN s=true/\bV (bI s) b=true:=by
 unfold fY at h
 cases e:ssI b with
 | none=>rw[e] at h;cases h
 | some q=>
  rw[e] at h
  obtain⟨h1,h2⟩:=uI h
  subst h2
  simp only[Bool.or_eq_false_iff,Bool.not_eq_false'] at h1
  exact h1.2.2
theorem CA{s:aE}(hs:aN s=true):fY (bI s)=some s:=by
 have h:=(aM s).1 hs
 have h5:=h.len
 have hb:=uG s
 generalize e:bI s=b at hb
 have c1:aK (rs0 b)=((s.1.length:Int),(b,(((([]:List aH)++aF (s.1.length:Int)).length:Nat):Int),false,())):=
  gZ (InN.nat (by omega)) b [] _ hb
 have hd:decide ((s.1.length:Int)>100)=false:=decide_eq_false (by omega)
 have c2:ssI b=some (s.1,(b,(((([]:List aH)++aF (s.1.length:Int)++s.1.flatMap a9).length:Nat):Int),false,())):=by
  unfold ssI;rw[c1,hd]
  show iI _ ((s.1.length:Int)).toNat=_
  rw[Int.toNat_natCast]
  exact tZ s.1 (y5 h) b _ _ (by rw[hb,List.append_assoc])
 have c3:=BJ (show s.2.1.length<=100 by omega) (fun f hf=>h.flo hf) b (([]:List aH)++aF (s.1.length:Int)++s.1.flatMap a9) [] (by rw[hb];simp only[List.append_assoc])
 unfold fY;rw[c1,c2,hd]
 show(bif(flR _).2.2.2.1||(false||(!aN (s.1,(flR _).1,())|| !bV (bI (s.1,(flR _).1,())) b))then none else some (s.1,(flR _).1,()))=_
 rw[c3]
 show(bif false||(false||(!aN s|| !bV (bI s) b))then none else some s)=_
 rw[hs,e,hZ];rfl
theorem IR{b:List aH}(hb:ByL b):fY b=bX b:=by
 cases h:bX b with
 | some s=>
  obtain⟨h1,h2⟩:=v9 h
  have e:=(mF (vQ s) hb).1 h2
  rw[<- e];exact CA h1
 | none=>
  cases h2:fY b with
  | none=>rfl
  | some s=>
   obtain⟨h3,h4⟩:=DK h2
   have e:=(mF (vQ s) hb).1 h4
   rw[<- e,kQ h3] at h;cases h
end Go.Abs
-- messages as bytes, and read back: plain laws
namespace Go.Abs
open Go
def fB(m:MsgT):List aH:=[(m.1,()),(m.2.1,()),(m.2.2.1,()),(m.2.2.2.1,()),(m.hi,())]
def cX(ns:List aH):List aH:=aF (ns.length:Int)++cS ns
def rD(fs:List aL):List aH:=aF (fs.length:Int)++fs.flatMap aX
def rk2:List aH:=[(82,()),(75,())]
def dX(m:MsgT):List aH:=rk2++(cS (fB m)++(cX m.tree.1++(aF m.tree.2.1++(cX m.vec++(cX m.leaves++(aF (((bI m.part).length:Nat):Int)++(bI m.part++rD m.marks)))))))
def FQ(x:Nat):List aH:=[(((x / 16777216:Nat):Int),()),(((x / 65536 % 256:Nat):Int),()),(((x / 256 % 256:Nat):Int),()),(((x % 256:Nat):Int),())]
def rP(b:List aH):List aH:=FQ (crc b).toNat
def cL(m:MsgT):List aH:=dX m++rP (dX m)
theorem EY(ns:List aH):ByL (cS ns):=ByL.flat (fun x=>dY _) ns
theorem y2(ns:List aH):ByL (cX ns):=(dY _).app (EY ns)
theorem L2(fs:List aL):ByL (rD fs):=(dY _).app (ByL.flat rH fs)
theorem rk2_by:ByL rk2:=fun x hx=>by
 unfold rk2 at hx
 simp only[List.mem_cons,List.not_mem_nil,or_false] at hx
 rcases hx with rfl | rfl
 ·exact⟨82,rfl,by decide⟩
 ·exact⟨75,rfl,by decide⟩
theorem uH(m:MsgT):ByL (dX m):=rk2_by.app ((EY _).app ((y2 _).app ((dY _).app ((y2 _).app ((y2 _).app ((dY _).app ((vQ _).app (L2 _))))))))
theorem ByL.b32{b:List aH}(h:ByL b):B32 b:=fun x hx=>by
 obtain⟨y,hy,hy2⟩:=h x hx
 exact⟨by omega,by omega⟩
theorem N1{x:Nat}(h:x<4294967296):ByL (FQ x):=fun y hy=>by
 unfold FQ at hy
 simp only[List.mem_cons,List.not_mem_nil,or_false] at hy
 rcases hy with rfl | rfl | rfl | rfl
 ·exact⟨_,rfl,by omega⟩
 ·exact⟨_,rfl,by omega⟩
 ·exact⟨_,rfl,by omega⟩
 ·exact⟨_,rfl,by omega⟩
theorem GY{b:List aH}(h:ByL b):(crc b).toNat<4294967296/\0<=crc b:=by
 have:=M4 (bs:=b) h.b32
 have h1:=this.1;have h2:=this.2
 exact⟨by omega,h1⟩
theorem N2{b:List aH}(h:ByL b):ByL (rP b):=N1 (GY h).1
theorem J9(m:MsgT):ByL (cL m):=(uH m).app (N2 (uH m))
theorem tC(b:List aH):(rP b).length=4:=rfl
-- numbers of a right message
structure MsgR (m:MsgT):Prop where
 head:∀ x∈fB m,InN x.1
 tree:m.tree.1.length<=4/\∀ x∈m.tree.1,InN x.1
 root:InN m.tree.2.1
 vec:m.vec.length<=5/\∀ x∈m.vec,InN x.1
 leaves:m.leaves.length<=4/\∀ x∈m.leaves,InN x.1
 part:aN m.part=true
 marks:m.marks.length<=5/\∀ f∈m.marks,InN f.1/\InN f.2.1
theorem NL{v:List aH}{top:Int}(h:j7 v top=true)(ht:top<=2147483647):∀ x∈v,InN x.1:=fun x hx=>by
 obtain⟨i,hi,rfl⟩:=iH hx
 exact InN.of (bZ.1 h i hi) ht
theorem oC{m:MsgT}(h:dQ m=true):MsgR m:=by
 have hl:=y3 h
 unfold dQ oD at h
 simp only[Bool.and_eq_true] at h
 obtain⟨⟨h1,h2,h3,_⟩,h4,h5,h6,h7,h8,h9,h10,h11⟩:=h
 rw[decide_eq_true_eq] at h9
 refine⟨fun x hx=>?_,?_,?_,⟨by omega,NL h5 (by decide)⟩,⟨hl,fun x hx=>?_⟩,h10,⟨JH h11,fun f hf=>?_⟩⟩
 ·unfold fB at hx
  simp only[List.mem_cons,List.not_mem_nil,or_false] at hx
  rcases hx with rfl | rfl | rfl | rfl | rfl
  ·exact InN.of h1 (by decide)
  ·exact InN.of (h2:inB _ 0 4=true) (by decide)
  ·exact InN.of (h3:inB _ 0 4=true) (by decide)
  ·exact InN.of h6 (by decide)
  ·exact InN.of h7 (by decide)
 ·unfold treeB at h8
  cases he:(m.tree.1.length:Int)==0 with
  | true=>
   have:m.tree.1.length=0:=by have:=eq_of_beq he;omega
   exact⟨by omega,fun x hx=>by rw[List.length_eq_zero_iff.1 this] at hx;cases hx⟩
  | false=>
   rw[he] at h8
   have h8:((m.tree.1.length:Int)==4&&(j7 m.tree.1 1023&&inB m.tree.2.1 0 1023))=true:=h8
   rw[Bool.and_eq_true] at h8
   have h8a:=eq_of_beq h8.1
   have h8b:=h8.2
   rw[Bool.and_eq_true] at h8b
   exact⟨by omega,NL h8b.1 (by decide)⟩
 ·unfold treeB at h8
  cases he:(m.tree.1.length:Int)==0 with
  | true=>
   rw[he] at h8
   have h8:(m.tree.2.1==0)=true:=h8
   rw[beq_iff_eq] at h8
   show InN m.tree.2.1
   rw[h8];exact InN.nat (n:=0) (by decide)
  | false=>
   rw[he] at h8
   have h8:((m.tree.1.length:Int)==4&&(j7 m.tree.1 1023&&inB m.tree.2.1 0 1023))=true:=h8
   simp only[Bool.and_eq_true] at h8
   exact InN.of h8.2.2 (by decide)
 ·obtain⟨i,hi,rfl⟩:=iH hx
  have:=bZ.1 h4 i hi
  unfold wO at this
  simp only[Bool.and_eq_true] at this
  exact InN.of this.1 (by decide)
 ·obtain⟨i,hi,rfl⟩:=iH hf
  have:=pU h11 hi
  unfold InN;rw[bA,bA];omega
theorem kZ(ns:List aH):(cS ns).length<=ns.length*5:=by
 unfold cS;rw[<- cI];exact c7 fun i hi=>aZ _
theorem zP{m:MsgT}(h:MsgR m):(dX m).length<=500:=by
 have h1:=kZ (fB m);have h2:=kZ m.tree.1;have h3:=kZ m.vec;have h4:=kZ m.leaves
 have h5:=nJ ((aM _).1 h.part)
 have h6:(m.marks.flatMap aX).length<=m.marks.length*10:=by rw[<- cI];exact c7 fun i hi=>fH _
 have n1:=aZ (m.tree.1.length:Int);have n2:=aZ m.tree.2.1;have n3:=aZ (m.vec.length:Int);have n4:=aZ (m.leaves.length:Int)
 have n5:=aZ (((bI m.part).length:Nat):Int);have n6:=aZ (m.marks.length:Int)
 have l1:=h.tree.1;have l2:=h.vec.1;have l3:=h.leaves.1;have l4:=h.marks.1
 have l5:(fB m).length=5:=rfl
 have l6:rk2.length=2:=rfl
 unfold dX cX rD
 simp only[List.length_append]
 dsimp only[MsgT.tree] at*
 omega
theorem zN{m:MsgT}(h:dQ m=true):(cL m).length<=504:=by
 have:=zP (oC h)
 unfold cL;rw[List.length_append,tC];omega
def bE(m:MsgT):List aH:=bif dQ m then cL m else[]
theorem wN(m:MsgT):ByL (bE m):=by
 unfold bE;cases dQ m with
 | true=>exact J9 m
 | false=>exact fun x hx=>by cases hx
theorem CS(m:MsgT):(bE m).length<=504:=by
 unfold bE;cases h:dQ m with
 | true=>exact zN h
 | false=>exact Nat.zero_le _
-- the reader of messages, by the ways of reading lists
def mR(b:List aH):RdT:=(b.take (b.length - 4),2,false,())
section
variable (N:Int->RdT->List aH×RdT) (r:RdT)
def mgA:List aH×RdT:=N 4 (rdK r 5)
def mgB:Int×RdT:=aK (mgA N r).2
def mgC:List aH×RdT:=N 5 (mgB N r).2
def mgD:List aH×RdT:=N 4 (mgC N r).2
def mgE:Int×RdT:=aK (mgD N r).2
def lJ:Bool:=(mgE N r).2.2.2.1||decide ((mgE N r).1>(((mgE N r).2.1.length:Nat):Int) - (mgE N r).2.2.1)
def eM:List aH:=((mgE N r).2.1.take ((mgE N r).2.2.1+(mgE N r).1).toNat).drop (mgE N r).2.2.1.toNat
def mgR:RdT:=((mgE N r).2.1,(mgE N r).2.2.1+(mgE N r).1,(mgE N r).2.2.2.1,())
def mgM(s:aE)(fs:List aL):MsgT:=(rdV r 0,rdV r 1,rdV r 2,rdV r 3,rdV r 4,(mgA N r).1,(mgB N r).1,(mgC N r).1,(mgD N r).1,s.1,s.2.1,fs,())
end
def HF(N:Int->RdT->List aH×RdT):Prop:=∀ (k:Int) (ns:List aH),(ns.length:Int)<=k->k<=5->(∀ x∈ns,InN x.1)->kO (N k) (cX ns) ns
def NI(k:Int)(r:RdT):List aH×RdT:=kK r k
def NS(k:Int)(r:RdT):List aH×RdT:=cM r 1
theorem LE:HF NI:=fun k ns hl hk h b u v hb=>by
 unfold cX at hb ⊢
 have h1:=qK (InN.nat (show ns.length<=2147483647 by omega)) hl b u (cS ns++v) (by rw[hb];simp only[List.append_assoc])
 have h2:=nT (f:=u5) (xs:=ns) (e:=fun x=>aF x.1) (fun x hx=>F2 (h x hx)) b (u++aF (ns.length:Int)) v (by rw[hb];simp only[List.append_assoc];rfl)
 show kK _ k=_
 unfold kK
 have h1:eD (b,(u.length:Int),false,()) k=_:=h1
 rw[h1]
 show cF u5 _ ((ns.length:Int)).toNat=_
 rw[Int.toNat_natCast]
 exact h2.trans (by rw[List.append_assoc];rfl)
theorem LD:HF NS:=fun k ns hl hk h=>wF (t:=1) (by omega) (by omega) h
theorem LY{N:Int->RdT->List aH×RdT}(hN:HF N){m:MsgT}(h:MsgR m){b:List aH}(hb:b=dX m):
  lJ N (b,2,false,())=false/\eM N (b,2,false,())=bI m.part/\mgM N (b,2,false,()) m.part m.marks=m/\
  ∃ u:List aH,b=u++(rD m.marks++[])/\mgR N (b,2,false,())=(b,(u.length:Int),false,()):=by
 have h0:((b,2,false,()):RdT)=(b,(rk2.length:Int),false,()):=rfl
 rw[h0]
 have hb:=hb
 unfold dX at hb
 have c0:=mZ (ns:=fB m) h.head hb 5 (Nat.le_refl _)
 rw[show(fB m).take 5=fB m from rfl] at c0
 have v0:=uZ (ns:=fB m) h.head hb
 have c1:mgA N (b,(rk2.length:Int),false,())=_:=(congrArg (N 4) c0).trans (hN 4 m.tree.1 (by have:=h.tree.1;omega) (by decide) h.tree.2 b _ _ (by rw[hb];simp only[List.append_assoc];rfl))
 have c2:mgB N (b,(rk2.length:Int),false,())=_:=(congrArg (fun q:List aH×RdT=>aK q.2) c1).trans (gZ h.root b _ _ (by rw[hb];simp only[List.append_assoc];rfl))
 have c3:mgC N (b,(rk2.length:Int),false,())=_:=(congrArg (fun q:Int×RdT=>N 5 q.2) c2).trans (hN 5 m.vec (by have:=h.vec.1;omega) (by decide) h.vec.2 b _ _ (by rw[hb];simp only[List.append_assoc];rfl))
 have c4:mgD N (b,(rk2.length:Int),false,())=_:=(congrArg (fun q:List aH×RdT=>N 4 q.2) c3).trans (hN 4 m.leaves (by have:=h.leaves.1;omega) (by decide) h.leaves.2 b _ _ (by rw[hb];simp only[List.append_assoc];rfl))
 have hl:=nJ ((aM _).1 h.part)
 have c5:mgE N (b,(rk2.length:Int),false,())=_:=(congrArg (fun q:List aH×RdT=>aK q.2) c4).trans (gZ (x:=(((bI m.part).length:Nat):Int)) (InN.nat (by omega)) b _ _ (by rw[hb];simp only[List.append_assoc];rfl))
 generalize hu:rk2++cS (fB m)++cX m.tree.1++aF m.tree.2.1++cX m.vec++cX m.leaves++aF (((bI m.part).length:Nat):Int)=U at c5
 have hb2:b=U++(bI m.part++rD m.marks):=by rw[hb,<- hu];simp only[List.append_assoc]
 have hbl:b.length=U.length+((bI m.part).length+(rD m.marks).length):=by rw[hb2,List.length_append,List.length_append]
 refine⟨?_,?_,?_,U++bI m.part,?_,?_⟩
 ·unfold lJ;rw[c5]
  show(false||decide ((((bI m.part).length:Nat):Int)>(b.length:Int) - (U.length:Int)))=false
  rw[decide_eq_false (by omega)];rfl
 ·unfold eM;rw[c5]
  show(b.take ((U.length:Int)+(((bI m.part).length:Nat):Int)).toNat).drop ((U.length:Int)).toNat=_
  rw[show((U.length:Int)+(((bI m.part).length:Nat):Int)).toNat=U.length+(bI m.part).length by omega,Int.toNat_natCast,hb2]
  exact rK _ _ _
 ·unfold mgM;rw[c1,c2,c3,c4,v0 0 (show 0<5 by omega),v0 1 (show 1<5 by omega),v0 2 (show 2<5 by omega),v0 3 (show 3<5 by omega),v0 4 (show 4<5 by omega)];rfl
 ·rw[hb2];simp only[List.append_assoc,List.append_nil]
 ·unfold mgR;rw[c5]
  show(b,(U.length:Int)+(((bI m.part).length:Nat):Int),false,())=_
  rw[List.length_append,Int.natCast_add]
-- the program's reader of messages
def miC(b:List aH):Int×RdT:=eD (mgR NI (mR b)) 5
def miF(b:List aH):List aL×RdT:=cF dL (miC b).2 (miC b).1.toNat
def miM(b:List aH)(s:aE):MsgT:=mgM NI (mR b) s (miF b).1
def dG(b:List aH):Option MsgT:=bif decide (i64.wrap ((b.length:Int) - 4)<2)then none else bif !bV (b.take 2) rk2 then none else bif lJ NI (mR b)then none else
 match bX (eM NI (mR b))with
 | none=>none
 | some s=>bif(miF b).2.2.2.1||(!dQ (miM b s)|| !bV (bE (miM b s)) b)then none else some (miM b s)
-- the reference's
def msF(b:List aH):List aL×RdT:=flR (mgR NS (mR b))
def msM(b:List aH):MsgT:=mgM NS (mR b) ((bX (eM NS (mR b))).getD pC) (msF b).1
def fF(b:List aH):Option MsgT:=bif decide ((b.length:Int)<6)then none else bif !bV (rP (b.take (b.length - 4))) (b.drop (b.length - 4))then none else bif lJ NS (mR b)then none else
 bif(bX (eM NS (mR b))).isNone||((msF b).2.2.2.1||(!dQ (msM b)|| !bV (bE (msM b)) b))then none else some (msM b)
theorem A3{b:List aH}{m:MsgT}(h:dG b=some m):dQ m=true/\bV (bE m) b=true:=by
 unfold dG at h
 cases h1:decide (i64.wrap ((b.length:Int) - 4)<2)with
 | true=>rw[h1] at h;cases h
 | false=>
  rw[h1] at h
  cases h2: !bV (b.take 2) rk2 with
  | true=>rw[h2] at h;cases h
  | false=>
   rw[h2] at h
   cases h3:lJ NI (mR b)with
   | true=>rw[h3] at h;cases h
   | false=>
    rw[h3] at h
    cases h4:bX (eM NI (mR b))with
    | none=>rw[h4] at h;cases h
    | some s=>
     rw[h4] at h
     obtain⟨h5,h6⟩:=uI h
     subst h6
     simp only[Bool.or_eq_false_iff,Bool.not_eq_false'] at h5
     exact h5.2
theorem JF{b:List aH}{m:MsgT}(h:fF b=some m):dQ m=true/\bV (bE m) b=true:=by
 unfold fF at h
 cases h1:decide ((b.length:Int)<6)with
 | true=>rw[h1] at h;cases h
 | false=>
  rw[h1] at h
  cases h2: !bV (rP (b.take (b.length - 4))) (b.drop (b.length - 4))with
  | true=>rw[h2] at h;cases h
  | false=>
   rw[h2] at h
   cases h3:lJ NS (mR b)with
   | true=>rw[h3] at h;cases h
   | false=>
    rw[h3] at h
    obtain⟨h5,h6⟩:=uI h
    subst h6
    simp only[Bool.or_eq_false_iff,Bool.not_eq_false'] at h5
    exact h5.2.2
theorem zO(m:MsgT):(cL m).length - 4=(dX m).length/\(cL m).take ((cL m).length - 4)=dX m/\(cL m).drop ((cL m).length - 4)=rP (dX m):=by
 have e:(cL m).length - 4=(dX m).length:=by unfold cL;rw[List.length_append,tC];omega
 rw[e]
 exact⟨rfl,List.take_left' rfl,List.drop_left' rfl⟩
theorem BQ(m:MsgT):2<=(dX m).length:=by unfold dX;rw[List.length_append];exact Nat.le_add_right 2 _
theorem F5{m:MsgT}(h:dQ m=true):dG (cL m)=some m:=by
 have hr:=oC h
 obtain⟨p1,p2,p3⟩:=zO m
 have h2:=BQ m
 have hl:=zN h
 obtain⟨q1,q2,q3,u,q4,q5⟩:=LY LE hr rfl
 have e:mR (cL m)=(dX m,2,false,()):=by unfold mR;rw[p2]
 have ht:(cL m).take 2=rk2:=by unfold cL dX;rw[List.append_assoc];exact List.take_left' rfl
 have c1:miC (cL m)=_:=(congrArg (fun r:RdT=>eD (mgR NI r) 5) e).trans ((congrArg (fun r:RdT=>eD r 5) q5).trans
  (qK (m:=5) (InN.nat (show m.marks.length<=2147483647 by have:=hr.marks.1;omega)) (by have:=hr.marks.1;omega) (dX m) u (m.marks.flatMap aX++[]) (q4.trans (by unfold rD;simp only[List.append_assoc]))))
 have c2:miF (cL m)=(m.marks,(dX m,(((u++aF (m.marks.length:Int)++m.marks.flatMap aX).length:Nat):Int),false,())):=by
  unfold miF;rw[c1]
  show cF dL _ ((m.marks.length:Int)).toNat=_
  rw[Int.toNat_natCast]
  exact nT (wT hr.marks.2) (dX m) _ [] (q4.trans (by unfold rD;simp only[List.append_assoc]))
 have c3:miM (cL m) m.part=m:=by unfold miM;rw[c2,e];exact q3
 have hw:i64.wrap ((((cL m).length:Nat):Int) - 4)=(((cL m).length:Nat):Int) - 4:=by rw[IntKind.wrap_i64];omega
 unfold dG
 rw[hw,decide_eq_false (show ¬ ((((cL m).length:Nat):Int) - 4<2) by omega),ht,hZ,e,q1,q2,kQ hr.part]
 show(bif(miF (cL m)).2.2.2.1||(!dQ (miM (cL m) m.part)|| !bV (bE (miM (cL m) m.part)) (cL m))then none else some (miM (cL m) m.part))=some m
 rw[c3,c2,h,show bE m=cL m by unfold bE;rw[h];rfl,hZ];rfl
theorem F4{m:MsgT}(h:dQ m=true):fF (cL m)=some m:=by
 have hr:=oC h
 obtain⟨p1,p2,p3⟩:=zO m
 have h2:=BQ m
 obtain⟨q1,q2,q3,u,q4,q5⟩:=LY LD hr rfl
 have e:mR (cL m)=(dX m,2,false,()):=by unfold mR;rw[p2]
 have c2:msF (cL m)=(m.marks,(dX m,(((u++rD m.marks).length:Nat):Int),false,())):=by
  unfold msF;rw[e,q5]
  exact BJ (show m.marks.length<=100 by have:=hr.marks.1;omega) hr.marks.2 (dX m) u [] q4
 have c3:msM (cL m)=m:=by unfold msM;rw[c2,e,q2,kQ hr.part];exact q3
 unfold fF
 rw[decide_eq_false (show ¬ ((((cL m).length:Nat):Int)<6) by omega),p2,p3,hZ,c3,c2,e,q1,q2,kQ hr.part,h,show bE m=cL m by unfold bE;rw[h];rfl,hZ];rfl
theorem mB{m:MsgT}(h:dQ m=true):bE m=cL m:=by unfold bE;rw[h];rfl
theorem OS{b:List aH}(hb:ByL b):fF b=dG b:=by
 cases h:dG b with
 | some m=>
  obtain⟨h1,h2⟩:=A3 h
  have e:=(mF (wN m) hb).1 h2
  rw[<- e,mB h1];exact F4 h1
 | none=>
  cases h2:fF b with
  | none=>rfl
  | some m=>
   obtain⟨h3,h4⟩:=JF h2
   have e:=(mF (wN m) hb).1 h4
   rw[<- e,mB h3,F5 h3] at h;cases h
end Go.Abs
-- bytes of sums; sizes of what readers yield: plain laws
namespace Go.Abs
open Go
theorem v5(x:Nat):IntKind.u8.wrap (x:Int)=((x % 256:Nat):Int):=by
 have:IntKind.u8.wrap (x:Int)=(x:Int) % 256:=by unfold IntKind.wrap;simp[IntKind.bits,IntKind.signed]
 rw[this];omega
theorem DB{x:Nat}(h:x<4294967296):AG .i64 (x:Int) 255=((x % 256:Nat):Int):=by
 unfold AG
 have e:(BitVec.ofInt i64.bits (x:Int)&&& BitVec.ofInt i64.bits 255).toNat=x % 256:=by
  rw[BitVec.toNat_and]
  have e1:(BitVec.ofInt i64.bits (x:Int)).toNat=x:=by
   rw[BitVec.toNat_ofInt];show((x:Int) % ((2 ^ 64:Nat):Int)).toNat=x;omega
  have e2:(BitVec.ofInt i64.bits 255).toNat=2 ^ 8 - 1:=by decide
  rw[e1,e2,Nat.and_two_pow_sub_one_eq_mod]
 rw[e,IntKind.wrap_i64];omega
theorem CB(x:Nat)(s:Nat)(hs:s<=64)(d:Nat)(hd:2 ^ s=d):x9 .i64 (x:Int) (s:Int)=((x / d:Nat):Int):=by
 unfold x9
 rw[Int.toNat_natCast,show min s i64.bits=s from Nat.min_eq_left hs,Int.fdiv_eq_ediv_of_nonneg _ (Int.le_of_lt (Int.pow_pos (by decide)))]
 rw[show((2:Int) ^ s)=((d:Nat):Int) by rw[<- hd];exact(Int.natCast_pow 2 s).symm]
 exact(Int.natCast_ediv x d).symm
theorem KP{x:Int}(h0:0<=x)(h:x.toNat<4294967296):
  ([((IntKind.u8.wrap (AG i64 (x9 i64 x (24:Int)) (255:Int))),()),((IntKind.u8.wrap (AG i64 (x9 i64 x (16:Int)) (255:Int))),()),((IntKind.u8.wrap (AG i64 (x9 i64 x (8:Int)) (255:Int))),()),((IntKind.u8.wrap (AG i64 x (255:Int))),())]:List aH)=FQ x.toNat:=by
 obtain⟨n,rfl⟩:∃ n:Nat,x=(n:Int):=⟨x.toNat,by omega⟩
 rw[Int.toNat_natCast] at h ⊢
 have e1:x9 .i64 (n:Int) (24:Int)=((n / 16777216:Nat):Int):=CB n 24 (by decide) _ rfl
 have e2:x9 .i64 (n:Int) (16:Int)=((n / 65536:Nat):Int):=CB n 16 (by decide) _ rfl
 have e3:x9 .i64 (n:Int) (8:Int)=((n / 256:Nat):Int):=CB n 8 (by decide) _ rfl
 rw[e1,e2,e3,DB (show n / 16777216<4294967296 by omega),DB (show n / 65536<4294967296 by omega),DB (show n / 256<4294967296 by omega),DB h,v5,v5,v5,v5]
 unfold FQ
 rw[show n / 16777216 % 256 % 256=n / 16777216 by omega,show n / 65536 % 256 % 256=n / 65536 % 256 by omega,show n / 256 % 256 % 256=n / 256 % 256 by omega,show n % 256 % 256=n % 256 by omega]
theorem x3(n d:Nat):((n:Int)).tdiv (d:Int)=((n / d:Nat):Int):=by
 rw[Int.tdiv_eq_ediv_of_nonneg (by omega)];exact(Int.natCast_ediv n d).symm
theorem xZ(n d:Nat):((n:Int)).tmod (d:Int)=((n % d:Nat):Int):=by
 rw[Int.tmod_eq_emod_of_nonneg (by omega)];exact(Int.natCast_emod n d).symm
theorem KO{x:Int}(h0:0<=x)(h:x.toNat<4294967296):
  ([((IntKind.u8.wrap (i64.wrap (x.tdiv (16777216:Int)))),()),((IntKind.u8.wrap ((i64.wrap (x.tdiv (65536:Int))).tmod (256:Int))),()),((IntKind.u8.wrap ((i64.wrap (x.tdiv (256:Int))).tmod (256:Int))),()),((IntKind.u8.wrap (x.tmod (256:Int))),())]:List aH)=FQ x.toNat:=by
 obtain⟨n,rfl⟩:∃ n:Nat,x=(n:Int):=⟨x.toNat,by omega⟩
 rw[Int.toNat_natCast] at h ⊢
 have e1:((n:Int)).tdiv (16777216:Int)=((n / 16777216:Nat):Int):=x3 n 16777216
 have e2:((n:Int)).tdiv (65536:Int)=((n / 65536:Nat):Int):=x3 n 65536
 have e3:((n:Int)).tdiv (256:Int)=((n / 256:Nat):Int):=x3 n 256
 rw[e1,e2,e3,xC (show n / 16777216<9223372036854775808 by omega),xC (show n / 65536<9223372036854775808 by omega),xC (show n / 256<9223372036854775808 by omega)]
 have m2:(((n / 65536:Nat):Int)).tmod (256:Int)=((n / 65536 % 256:Nat):Int):=xZ _ 256
 have m3:(((n / 256:Nat):Int)).tmod (256:Int)=((n / 256 % 256:Nat):Int):=xZ _ 256
 have m4:((n:Int)).tmod (256:Int)=((n % 256:Nat):Int):=xZ _ 256
 rw[m2,m3,m4,v5,v5,v5,v5]
 unfold FQ
 rw[show n / 16777216 % 256=n / 16777216 by omega,show n / 65536 % 256 % 256=n / 65536 % 256 by omega,show n / 256 % 256 % 256=n / 256 % 256 by omega,show n % 256 % 256=n % 256 by omega]
-- ways of reading lists
def QR(N:Int->RdT->List aH×RdT):Prop:=∀ k r,0<=k->k<=5->RdOk r->RdOk (N k r).2/\(N k r).2.1=r.1/\(N k r).1.length<=100
theorem RP:QR NI:=fun k r h0 h5 h=>⟨h.nums k,DY r k,by have:=FV r h0;show(kK r k).1.length<=100;omega⟩
theorem RO:QR NS:=fun k r h0 h5 h=>⟨h.many 1,F8 r 1,by have:=qO r 1;show(cM r 1).1.length<=100;omega⟩
structure MgOk (N:Int->RdT->List aH×RdT) (r:RdT):Prop where
 a:RdOk (mgA N r).2
 b:RdOk (mgB N r).2
 c:RdOk (mgC N r).2
 d:RdOk (mgD N r).2
 e:RdOk (mgE N r).2
 list:(mgE N r).2.1=r.1
 len:(mgA N r).1.length<=100/\(mgC N r).1.length<=100/\(mgD N r).1.length<=100
 nn:0<=(mgE N r).1/\(mgE N r).1<=2147483647
theorem PJ{N:Int->RdT->List aH×RdT}(hN:QR N){r:RdT}(h:RdOk r):MgOk N r:=by
 have h5:=h.k 5
 have hA:=hN 4 _ (by decide) (by decide) h5
 have hB:RdOk (mgB N r).2:=hA.1.num
 have hC:=hN 5 _ (by decide) (by decide) hB
 have hD:=hN 4 _ (by decide) (by decide) hC.1
 have hE:RdOk (mgE N r).2:=hD.1.num
 have q:=qL (mgD N r).2
 refine⟨hA.1,hB,hC.1,hD.1,hE,?_,⟨hA.2.2,hC.2.2,hD.2.2⟩,⟨q.2.2.1,q.2.2.2.1⟩⟩
 have e1:(mgE N r).2.1=(mgD N r).2.1:=q.1
 have e2:(mgD N r).2.1=(mgC N r).2.1:=hD.2.1
 have e3:(mgC N r).2.1=(mgB N r).2.1:=hC.2.1
 have e4:(mgB N r).2.1=(mgA N r).2.1:=fT _
 have e5:(mgA N r).2.1=(rdK r 5).1:=hA.2.1
 rw[e1,e2,e3,e4,e5];exact tP r 5
theorem L0{N:Int->RdT->List aH×RdT}{r:RdT}(h:MgOk N r){s:aE}(hs:SzS s){fs:List aL}(hf:fs.length<=100):SzM (mgM N r s fs):=
 ⟨Nat.le_trans h.len.1 (by decide),Nat.le_trans h.len.2.1 (by decide),Nat.le_trans h.len.2.2 (by decide),hs,Nat.le_trans hf (by decide)⟩
theorem tD{b:List aH}{s:aE}(h:bX b=some s):StateOk s:=(aM s).1 (v9 h).1
theorem F1{s:aE}(h:StateOk s):SzS s:=⟨Nat.le_trans h.len.1 (by decide),Nat.le_trans h.len.2 (by decide)⟩
theorem PK{b:List aH}(hb:B8 b)(hl:b.length<=aQ)(h6:6<=b.length):RdOk (mR b) where
 b8:=(hb.byL.sub fun x hx=>List.mem_of_mem_take hx).b8
 len:=by show(b.take (b.length - 4)).length<=aQ;rw[List.length_take];omega
 lo:=by show(0:Int)<=2;omega
 hi:=by show(2:Int)<=(((b.take (b.length - 4)).length:Nat):Int);rw[List.length_take];omega
theorem LZ{N:Int->RdT->List aH×RdT}{r:RdT}(h:MgOk N r)(hb:lJ N r=false):RdOk (mgR N r):=by
 unfold lJ at hb
 simp only[Bool.or_eq_false_iff,decide_eq_false_iff_not] at hb
 have hn:=h.nn
 have lo:=h.e.lo;have hi:=h.e.hi
 exact⟨h.e.b8,h.e.len,by show 0<=(mgE N r).2.2.1+(mgE N r).1;omega,by show(mgE N r).2.2.1+(mgE N r).1<=(((mgE N r).2.1.length:Nat):Int);omega⟩
theorem yQ{b:List aH}{m:MsgT}(h:dG b=some m):SzM m:=by
 have hr:=oC (A3 h).1
 exact⟨Nat.le_trans hr.tree.1 (by decide),Nat.le_trans hr.vec.1 (by decide),Nat.le_trans hr.leaves.1 (by decide),F1 ((aM _).1 hr.part),Nat.le_trans hr.marks.1 (by decide)⟩
end Go.Abs
