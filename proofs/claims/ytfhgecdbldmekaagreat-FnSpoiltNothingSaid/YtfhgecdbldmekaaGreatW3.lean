/- A by-value reading of the model, and its soundness, part 3. -/
import Derived.Test.YtfhgecdbldmekaaGreatW2
import Derived.Lib.Bytealg
set_option linter.unusedVariables false
set_option maxHeartbeats 2000000
/- Plain laws: draws. -/
open Go.IntKind (i64)
namespace Go.Abs
abbrev eQ:=List aH×Int×Int×Unit
structure CurOk (c:eQ):Prop where
 len:c.1.length<=1048576
 lo:0<=c.2.1
 hi:c.2.1<=c.1.length
theorem y9(a:Int):0<=rR .i64 a 255/\rR .i64 a 255<=255:=by
 unfold rR
 have h:(BitVec.ofInt i64.bits a&&& BitVec.ofInt i64.bits 255).toNat<=255:=by
  rw[BitVec.toNat_and];exact Nat.le_trans Nat.and_le_right (by decide)
 generalize (BitVec.ofInt i64.bits a&&& BitVec.ofInt i64.bits 255).toNat=m at h
 have e:i64.wrap (m:Int)=m:=by rw[IntKind.wrap_i64];omega
 rw[e];omega
theorem uJ{x n:Int}(hx:0<=x)(hn:0<n):0<=x.tmod n/\x.tmod n<n:=by
 rw[Int.tmod_eq_emod_of_nonneg hx]
 exact⟨Int.emod_nonneg _ (by omega),Int.emod_lt_of_pos _ hn⟩
theorem Q5{β:Type}{o:Option Out}{A B:List Kd}{r:Row A}{s:Row B}{f:Rows [A]×Rows [B]->Option β}(h:o=some ⟨[⟨A,r⟩],[⟨B,s⟩]⟩):(o.bind (cN [A] [B])).bind f=f ((r,()),(s,())):=by
 rw[h];simp[cN,fA,jS];rfl
theorem BF{β:Type}{o:Option Out}{A B:List Kd}{r:Row A}{s:Row B}{f:Rows [A,B]×Rows []->Option β}(h:o=some ⟨[⟨A,r⟩,⟨B,s⟩],[]⟩):(o.bind (cN [A,B] [])).bind f=f ((r,s,()),()):=by
 rw[h];simp[cN,fA,jS];rfl
/-- A loop whose rounds are told by what they keep. -/
theorem It.ex {ι σ:Type} {lvl:Nat} {c:Nat->Nat->ι->(σ->Option Out)->σ->Option Out} (Inv:Nat->σ->Prop) (Good:Out->Prop) (N:Nat)
  (hs:∀ i x,i<N->Inv i x->∃ y,Inv (i+1) y/\∀ n,lvl<=n->∀ aA a rec,c n aA a rec x=rec y)
  (he:∀ x,Inv N x->∃ o,Good o/\∀ n,lvl<=n->It (c n) x (λ_=>some o)):∀ (m j:Nat) x,j+m=N->Inv j x->∃ o,Good o/\∀ n,lvl<=n->It (c n) x (λ_=>some o)
 | 0,j,x,hj,hx=>he x ((show j=N by omega)▸hx)
 | m+1,j,x,hj,hx=>by
  obtain⟨y,hy,h⟩:=hs j x (by omega) hx
  obtain⟨o,ho,h'⟩:=It.ex Inv Good N hs he m (j+1) y (by omega) hy
  exact⟨o,ho,λn hn=>It.next (λaA a rec=>h n hn aA a rec) (h' n hn)⟩
def datas:List ByteArray:=[⟨#[]⟩,⟨#[97]⟩,⟨#[98]⟩,⟨#[97,98]⟩,⟨#[49,50,51,52,53,54,55,56]⟩,⟨#[49,50,51,52,53,54,55,56,57]⟩]
def RP(e:bA):Prop:=e.2.2.2.2.1∈datas
structure StD (k:Nat) (s:aE):Prop where
 a:s.1.length<=k
 b:s.2.1.length<=k
 data:∀ x∈s.1,RP x.2
theorem StD.sz{k:Nat}{s:aE}(h:StD k s)(hk:k<=1048576):SzS s:=⟨Nat.le_trans h.a hk,Nat.le_trans h.b hk⟩
theorem RQ:RP dN:=List.mem_cons_self ..
theorem yA{P:bA->Prop}(hz:P dN){s:aE}(hs:∀ x∈s.1,P x.2)(i:Int):P (bE s i).1:=by
 unfold bE
 cases h:(List.range s.1.length).find? (λj=>(gt s.1 j).1==i)with
 | none=>omega
 | some j=>
  have hj:=List.mem_range.1 (List.mem_of_find?_eq_some h)
  show P (gt s.1 j).2
  rw[cJ hj];grind
theorem jT{α:Type}{n:Nat}{g:Nat->List α}{x:α}(h:x∈bX n g):∃ i,i<n/\x∈g i:=by
 induction n with
 | zero=>exact(List.not_mem_nil h).elim
 | succ n ih=>
  rw[eB] at h
  grind
theorem MT{P:bA->Prop}(hz:P dN){a b:aE}(ha:∀ x∈a.1,P x.2)(hb:∀ x∈b.1,P x.2):∀ x∈(c8 a b).1,P x.2:=by
 intro x hx
 obtain⟨i,_,hi⟩:=jT hx
 unfold eH at hi
 cases hc:decide ((eU a b (i:Int)).1>flr a b (i:Int))with
 | false=>rw[hc] at hi;simp_all
 | true=>
  rw[hc] at hi
  have e:x=((i:Int),eU a b (i:Int)):=List.mem_singleton.1 hi
  subst e
  show P (eU a b (i:Int))
  unfold eU mxE
  cases decide (jM (bE a (i:Int)).1 (bE b (i:Int)).1<0)
  ·exact yA hz ha _
  ·exact yA hz hb _
theorem KN{j k:Nat}{a b:aE}(ha:StD j a)(hb:StD k b):StD 5 (c8 a b):=⟨(lO a b).1,(lO a b).2,MT RQ ha.data hb.data⟩
theorem AX{β:Type}{A B:Prop}[Decidable A][Decidable B]{X R:β}(h:¬ A\/¬ B):(bif decide A then(bif decide B then X else R)else R)=R:=by
 grind
/-- The loop of a new cursor, and what comes behind it. -/
theorem It.new {lvl:Nat} {c:Nat->Nat->Unit->(Int×Int->Option Out)->Int×Int->Option Out} (Good:Out->Prop) (b:List aH) (hb:b.length<=1048576)
  (hs:∀ (i:Nat) (h:Int),i<b.length->i<4000->∃ h',∀ n,lvl<=n->∀ aA a rec,c n aA a rec (h,(i:Int))=rec (h',((i+1:Nat):Int)))
  (he:∀ (h i:Int),CurOk (b,0,h,())->(¬ i<(b.length:Int)\/¬ i<4000)->∃ o,Good o/\∀ n,lvl<=n->∃ M,∀ aA,M<=aA->∀ a rec,c n aA a rec (h,i)=some o) (h0:Int):
  ∃ o,Good o/\∀ n,lvl<=n->It (c n) (h0,(0:Int)) (λ_=>some o):=by
 refine It.ex (λi y=>∃ h,y=(h,(i:Int))) Good (min b.length 4000) ?_ ?_ (min b.length 4000) 0 (h0,(0:Int)) (by omega) ⟨h0,rfl⟩
 ·rintro i y hi ⟨h,rfl⟩
  obtain⟨h',hh⟩:=hs i h (by omega) (by omega)
  exact⟨_,⟨h',rfl⟩,hh⟩
 ·rintro y ⟨h,rfl⟩
  obtain⟨o,ho,hh⟩:=he h ((min b.length 4000:Nat):Int) ⟨hb,by simp,by simp⟩ (by omega)
  refine⟨o,ho,λn hn=>?_⟩
  obtain⟨M,hM⟩:=hh n hn
  refine⟨M+1,λaA k hf hk a=>?_⟩
  obtain⟨k,rfl⟩:∃ k',k=k'+1:=⟨k - 1,by omega⟩
  exact hM aA (by omega) a _
end Go.Abs
-- marks, tables, taking and receiving: plain laws
namespace Go.Abs
abbrev MsgT:=Int×Int×Int×Int×Int×List aH×Int×List aH×List aH×List bL×List aO×List aO×Unit
abbrev MsgT.hi(m:MsgT):Int:=m.2.2.2.2.1
abbrev MsgT.tree(m:MsgT):kQ:=(m.2.2.2.2.2.1,m.2.2.2.2.2.2.1,())
abbrev MsgT.vec(m:MsgT):List aH:=m.2.2.2.2.2.2.2.1
abbrev MsgT.leaves(m:MsgT):List aH:=m.2.2.2.2.2.2.2.2.1
abbrev MsgT.part(m:MsgT):aE:=(m.2.2.2.2.2.2.2.2.2.1,m.2.2.2.2.2.2.2.2.2.2.1,())
abbrev MsgT.marks(m:MsgT):List aO:=m.2.2.2.2.2.2.2.2.2.2.2.1
structure SzM (m:MsgT):Prop where
 leaves:m.tree.1.length<=aP
 vec:m.vec.length<=aP
 list:m.leaves.length<=aP
 part:SzS m.part
 marks:m.marks.length<=aP
theorem sS(a b:Int):mxI true a b=max a b:=by unfold mxI;grind
theorem F7(a b:Int):mxI false a b=min a b:=by unfold mxI;grind
-- lists in order
theorem sM{α:Type}{k:α->Int}{g:Nat->List α}(h1:∀ i,(g i).length<=1)(h:∀ i,∀ x∈g i,k x=(i:Int)):∀ n,(bX n g).Pairwise (λx y=>k x<k y)
 | 0=>by rw[w3];simp
 | n+1=>by
  rw[eB,List.pairwise_append]
  refine⟨sM h1 h n,?_,λx hx y hy=>?_⟩
  ·match hg:g n with
   | []=>simp
   | [x]=>simp
   | x::y::t=>grind
  ·obtain⟨i,hi,hx⟩:=jT hx
   rw[h i x hx,h n y hy];omega
theorem pI{s:aE}(h:StateOk s)(i:Int):0<=cL s.2.1 i/\cL s.2.1 i<=1000:=by
 rcases eO s i with ⟨x,hx,_,e⟩ | ⟨_,e⟩
 ·have:=(h.floor x hx).2;rw[aL] at this;rw[e];omega
 omega
theorem tV{s:aE}(h:StateOk s)(i:Int):(bE s i).1=dN\/eA (bE s i).1=true:=by
 rcases gD s i with ⟨x,hx,_,e⟩ | ⟨_,e⟩
 ·rw[e];exact .inr (h.item x hx).2.1
 simp_all
theorem O8{a b:aE}(ha:StateOk a)(hb:StateOk b)(i:Int):eU a b i=dN\/eA (eU a b i)=true:=by
 unfold eU mxE
 cases decide (jM (bE a i).1 (bE b i).1<0)with
 | true=>exact tV hb i
 | false=>exact tV ha i
theorem QP{a b:aE}(ha:StateOk a)(hb:StateOk b)(i:Int):0<=flr a b i/\flr a b i<=1000:=by
 have h1:=pI ha i
 have h2:=pI hb i
 unfold flr;rw[sS];omega
theorem wC{a b:aE}{i:Nat}{x:bL}(h:x∈eH a b i):x=((i:Int),eU a b i)/\(eU a b i).1>flr a b i:=by
 unfold eH at h
 grind
theorem pG{a b:aE}{i:Nat}{x:aO}(h:x∈eM a b i):x=((i:Int),flr a b i,())/\flr a b i>0:=by
 unfold eM at h
 grind
theorem EG{i:Nat}(h:i<5):eN (i:Int)=true:=by unfold eN;rw[aL];omega
theorem StateOk.join{a b:aE}(ha:StateOk a)(hb:StateOk b):StateOk (c8 a b) where
 item x hx:=by
  obtain⟨i,hi,hx⟩:=jT hx
  obtain⟨rfl,hg⟩:=wC hx
  have hf:=QP ha hb (i:Int)
  refine⟨EG hi,?_,?_⟩
  ·rcases O8 ha hb (i:Int)with e | e
   ·rw[e] at hg;have h0:(0:Int)>flr a b i:=hg;omega
   omega
  ·show cL (c8 a b).2.1 (i:Int)<(eU a b i).1
   rcases eO (c8 a b) (i:Int)with ⟨f,hf',e1,e⟩ | ⟨_,e⟩
   ·obtain⟨j,_,hf'⟩:=jT hf'
    obtain⟨rfl,_⟩:=pG hf'
    simp_all
   omega
 items:=sM (k:=λx:bL=>x.1) (wD a b) (λi x hx=>by rw[(wC hx).1]) 5
 floor f hf:=by
  obtain⟨i,hi,hf⟩:=jT hf
  obtain⟨rfl,hg⟩:=pG hf
  have:=QP ha hb (i:Int)
  refine⟨EG hi,?_⟩
  rw[aL];grind
 floors:=sM (k:=λx:aO=>x.1) (tQ a b) (λi x hx=>by rw[(pG hx).1]) 5
theorem nS{a b:aE}(ha:aM a=true)(hb:aM b=true):aM (c8 a b)=true:=
 (aN _).2 (((aN _).1 ha).join ((aN _).1 hb))
theorem yZ:aM iX=true:=rfl
-- marks
def eL(ms:List aO):Bool:=bI ms.length (fK ms)
def GD(ms:List aO):Bool:=bI ms.length (iQ ms)
theorem MN(ms:List aO):GD ms=eL ms:=mG λi hi=>by unfold iQ fK;ac_rfl
theorem AF(ms:List aO):aM ([],ms,())=eL ms:=by
 rfl
def kV(s:aE)(i:Nat):List aO:=bif decide (gone s i>0)then[((i:Int),gone s i,())] else[]
def c7(s:aE):List aO:=bX 5 (kV s)
theorem tM(s:aE)(i:Nat):(kV s i).length<=1:=by unfold kV;cases decide (gone s i>0)<;>simp
theorem fS(s:aE):(c7 s).length<=5:=dK (n:=5) (L:=1) λi _=>tM s i
theorem KQ(s:aE)(i:Int):gone s i<=1000:=by
 cases hs:aM s with
 | false=>rw[QG hs];omega
 | true=>
  have h:=(aN s).1 hs
  have hf:=pI h i
  unfold gone;rw[hs]
  show(bif(bE s i).2 then _ else _)<=(1000:Int)
  cases h2:(bE s i).2 with
  | false=>simp_all
  | true=>
   have he:(bE s i).1.1<=1000/\0<=(bE s i).1.1:=by
    rcases tV h i with e | e
    ·rw[e];show(0:Int)<=1000/\(0:Int)<=0;omega
    ·unfold eA at e;simp only[Bool.and_eq_true,aL] at e;omega
   show(bif(bE s i).1.2.1==0 then i64.wrap ((bE s i).1.1 - 1)else(bE s i).1.1)<=1000
   cases (bE s i).1.2.1==0 with
   | false=>simp_all
   | true=>show i64.wrap ((bE s i).1.1 - 1)<=1000;rw[IntKind.wrap_i64];omega
theorem IB{s:aE}{i:Nat}{x:aO}(h:x∈kV s i):x=((i:Int),gone s i,())/\gone s i>0:=by
 unfold kV at h
 grind
theorem C5{fs:List aO}(g:Nat->List aO)(he:fs=bX 5 g)(h1:∀ i,(g i).length<=1)(h:∀ i,∀ x∈g i,x.1=(i:Int)/\1<=x.2.1/\x.2.1<=1000):StateOk ([],fs,()) where
 item x hx:=by grind
 items:=List.Pairwise.nil
 floor f hf:=by
  have hf:f∈fs:=hf
  rw[he] at hf
  obtain⟨i,hi,hf⟩:=jT hf
  obtain⟨e,h2,h3⟩:=h i f hf
  exact⟨by rw[e];exact EG hi,aL.2 ⟨h2,h3⟩⟩
 floors:=by
  show fs.Pairwise _
  rw[he];exact sM (k:=λx:aO=>x.1) h1 (λi x hx=>(h i x hx).1) 5
theorem IA(s:aE):eL (c7 s)=true:=by
 rw[<- AF]
 exact(aN _).2 (C5 (kV s) rfl (tM s) λi x hx=>by
  obtain⟨rfl,h⟩:=IB hx
  exact⟨rfl,h,KQ s i⟩)
theorem u7{ms:List aO}(h:eL ms=true){i:Nat}(hi:i<ms.length):0<=(gt ms i).1/\(gt ms i).1<=4/\1<=(gt ms i).2.1/\(gt ms i).2.1<=1000:=by
 unfold eL at h
 have:=bD.1 h i hi
 unfold fK eN at this
 simp only[Bool.and_eq_true,aL] at this
 omega
theorem MM{ms:List aO}(h:eL ms=true):ms.length<=5:=by
 rw[<- AF] at h
 exact((aN _).1 h).len.2
-- tables
def D3(r:bM)(f:aO):bM:=(r.1.set f.1.toNat (mxI true (gt r.1 f.1.toNat).1 f.2.1,()),())
def kP(r:bM)(ms:List aO):Nat->bM
 | 0=>r
 | i+1=>D3 (kP r ms i) (gt ms i)
def pO(t:List bM)(k:Int)(ms:List aO):Bool:=inB k 0 (i64.wrap ((t.length:Int) - 1))&&(eL ms&& !decide ((((gt t k.toNat).1.length:Nat):Int)<5))
def cU(t:List bM)(k:Nat)(ms:List aO)(i:Nat):List bM:=t.set k (kP (gt t k) ms i)
def bK(t:List bM)(k:Int)(ms:List aO):List bM:=bif pO t k ms then cU t k.toNat ms ms.length else t
theorem oC(r:bM)(ms:List aO):∀ i,(kP r ms i).1.length=r.1.length
 | 0=>rfl
 | i+1=>by show(List.set _ _ _).length=_;rw[List.length_set];exact oC r ms i
theorem bO{α:Type}[Inhabited α]{xs:List α}{i:Nat}(h:i<xs.length)(x:α):gt (xs.set i x) i=x:=by
 rw[cJ (by rw[List.length_set];omega)];simp
theorem dZ{α:Type}[Inhabited α]{xs:List α}{i j:Nat}(h:i≠j)(x:α):gt (xs.set i x) j=gt xs j:=by
 unfold gt;grind
theorem tD{α:Type}[Inhabited α]{xs:List α}{i:Nat}:xs.set i (gt xs i)=xs:=by
 rcases Nat.lt_or_ge i xs.length with h | h
 ·rw[cJ h];simp
 ·exact List.set_eq_of_length_le h
theorem DT(t:List bM)(k:Nat)(ms:List aO):cU t k ms 0=t:=tD
theorem c6(t:List bM)(k:Int)(ms:List aO):(bK t k ms).length=t.length:=by
 unfold bK
 cases pO t k ms with
 | false=>rfl
 | true=>show(cU _ _ _ _).length=_;unfold cU;rw[List.length_set]
theorem y5{k:Int}{n:Nat}(hn:n<=aP)(h:inB k 0 (i64.wrap ((n:Int) - 1))=true):k.toNat<n/\((k.toNat:Nat):Int)=k:=by
 rw[aL,IntKind.wrap_i64] at h;omega
theorem eX(t:List bM)(k:Int)(ms:List aO)(j:Nat):((gt (bK t k ms) j).1.length)=(gt t j).1.length:=by
 unfold bK
 cases hb:pO t k ms with
 | false=>rfl
 | true=>
  show(gt (cU t k.toNat ms ms.length) j).1.length=_
  unfold cU
  rcases Nat.lt_or_ge k.toNat t.length with h | h
  ·by_cases e:k.toNat=j
   ·subst e;rw[bO h,oC]
   ·rw[dZ e]
  ·rw[List.set_eq_of_length_le h]
theorem G9{r:bM}{ms:List aO}(hm:eL ms=true)(hr:∀ j,j<r.1.length->inB (gt r.1 j).1 0 1000=true):∀ i,i<=ms.length->∀ j,j<r.1.length->inB (gt (kP r ms i).1 j).1 0 1000=true
 | 0,_,j,hj=>hr j hj
 | i+1,hi,j,hj=>by
  have ih:=G9 hm hr i (by omega)
  have hid:=u7 hm (i:=i) (by omega)
  have hl:=oC r ms i
  show inB (gt (List.set (kP r ms i).1 (gt ms i).1.toNat (mxI true (gt (kP r ms i).1 (gt ms i).1.toNat).1 (gt ms i).2.1,())) j).1 0 1000=true
  by_cases e:(gt ms i).1.toNat=j
  ·subst e
   rw[bO (by omega)]
   have:=ih _ hj
   rw[aL] at this ⊢
   show 0<=mxI true _ _/\mxI true _ _<=1000
   rw[sS];omega
  ·rw[dZ e];simp_all
theorem p0{t:List bM}{n k:Int}{ms:List aO}(ht:gI t n=true):gI (bK t k ms) n=true:=by
 unfold gI at ht ⊢
 simp only[Bool.and_eq_true] at ht ⊢
 obtain⟨h1,h2,h3⟩:=ht
 refine⟨h1,by rw[c6];omega,?_⟩
 rw[c6]
 rw[bD] at h3 ⊢
 intro j hj
 have h4:=h3 j hj
 unfold tO at h4 ⊢
 simp only[Bool.and_eq_true] at h4 ⊢
 rw[eX]
 refine⟨h4.1,?_⟩
 have h5:=bD.1 h4.2
 rw[bD]
 intro i hi
 unfold bK
 cases hb:pO t k ms with
 | false=>simp_all
 | true=>
  show inB (gt (gt (cU t k.toNat ms ms.length) j).1 i).1 0 1000=true
  unfold cU
  by_cases e:k.toNat=j
  ·subst e
   rw[bO hj]
   have hm:eL ms=true:=by unfold pO at hb;simp_all
   exact G9 hm h5 _ (Nat.le_refl _) i hi
  ·rw[dZ e];simp_all
def vK(t:List bM)(id:Int)(k:Nat):Bool:=inB id 0 (i64.wrap ((((gt t k).1.length:Nat):Int) - 1))
def pB(t:List bM)(id:Int):Nat->Int
 | 0=>0
 | k+1=>bif(k:Int)==0 then(gt (gt t k).1 id.toNat).1 else bif decide ((gt (gt t k).1 id.toNat).1<pB t id k)then(gt (gt t k).1 id.toNat).1 else pB t id k
def gY(t:List bM)(id:Int):Int:=bif bI t.length (vK t id)then pB t id t.length else 0
-- pruning
def iV(s:aE)(t:List bM)(i:Nat):List aO:=bif decide (mxI false (gY t i) (gone s i)>0)then[((i:Int),mxI false (gY t i) (gone s i),())] else[]
def fJ(s:aE)(t:List bM):aE:=([],bX 5 (iV s t),())
def prune(s:aE)(t:List bM):aE:=bif aM s then c8 s (fJ s t)else s
theorem tH(s:aE)(t:List bM)(i:Nat):(iV s t i).length<=1:=by unfold iV;cases decide (mxI false (gY t i) (gone s i)>0)<;>simp
theorem qY(s:aE)(t:List bM):aM (fJ s t)=true:=
 (aN _).2 (C5 (iV s t) rfl (tH s t) λi x hx=>by
  unfold iV at hx
  cases hd:decide (mxI false (gY t i) (gone s i)>0)with
  | false=>rw[hd] at hx;grind
  | true=>
   rw[hd] at hx
   have e:=List.mem_singleton.1 hx
   have h0:=of_decide_eq_true hd
   have hg:=KQ s i
   rw[e];refine⟨rfl,h0,?_⟩
   show mxI false (gY t i) (gone s i)<=1000
   rw[F7];omega)
theorem GS(s:aE)(t:List bM):SzS (fJ s t):=⟨Nat.zero_le _,Nat.le_trans (dK (n:=5) (L:=1) λi _=>tH s t i) (by decide)⟩
theorem z2{s:aE}(h:aM s=true)(t:List bM):aM (prune s t)=true:=by
 unfold prune;rw[h];exact nS h (qY s t)
theorem O6{s:aE}(h:SzS s)(t:List bM):SzS (prune s t):=by
 unfold prune;cases aM s with
 | false=>grind
 | true=>exact nR _ _
-- vectors
def cV(v:List aH)(k n:Int):List aH:=bif inB k 0 (i64.wrap ((v.length:Int) - 1))then v.set k.toNat (mxI true (gt v k.toNat).1 n,())else v
theorem fU(v:List aH)(k n:Int):(cV v k n).length=v.length:=by
 unfold cV;grind
theorem pX(v:List aH)(k n:Int)(j:Nat):(gt (cV v k n) j).1=(gt v j).1\/(gt (cV v k n) j).1=max (gt v j).1 n:=by
 unfold cV;cases inB k 0 (i64.wrap ((v.length:Int) - 1))with
 | false=>simp
 | true=>
  show(gt (v.set _ _) j).1=_\/(gt (v.set _ _) j).1=_
  rcases Nat.lt_or_ge k.toNat v.length with h | h
  ·by_cases e:k.toNat=j
   ·subst e;rw[bO h];exact .inr (sS _ _)
   ·rw[dZ e];omega
  ·rw[List.set_eq_of_length_le h];omega
theorem E5(v:List aH){k n:Int}{j:Nat}(h:k.toNat≠j):gt (cV v k n) j=gt v j:=by
 unfold cV;cases inB k 0 (i64.wrap ((v.length:Int) - 1))with
 | false=>rfl
 | true=>exact dZ h _
theorem w8{v:List aH}{m k n:Int}(h:eD v m=true)(hn:n<=100000):eD (cV v k n) m=true:=by
 unfold eD at h ⊢
 simp only[Bool.and_eq_true] at h ⊢
 rw[fU]
 refine⟨h.1,h.2.1,?_⟩
 have h3:=bD.1 h.2.2
 rw[bD]
 intro i hi
 have:=h3 i hi
 rw[aL] at this ⊢
 rcases pX v k n i with e | e<;>rw[e]<;>omega
end Go.Abs
-- taking and receiving: plain laws
namespace Go.Abs
-- rises
def qB(r:jX)(e:bA):Bool:=decide (e.1>r.1)||(e.1==r.1&&decide (e.2.2.1>r.2.1))
def mX(clock:Int)(r:jX)(e:bA):jX:=bif qB r e then(e.1,e.2.2.1,clock,())else r
def dH(clock:Int)(rs:List jX)(xs:List bL):Nat->List jX
 | 0=>rs
 | i+1=>(dH clock rs xs i).set (gt xs i).1.toNat (mX clock (gt (dH clock rs xs i) (gt xs i).1.toNat) (gt xs i).2)
theorem gR(clock:Int)(rs:List jX)(xs:List bL):∀ i,(dH clock rs xs i).length=rs.length
 | 0=>rfl
 | i+1=>by show(List.set _ _ _).length=_;rw[List.length_set];exact gR clock rs xs i
def zU(clock:Int)(r:jX):Bool:=inB r.1 0 1000&&(inB r.2.1 0 100000&&inB r.2.2.1 0 clock)
theorem CJ{clock:Int}(hc:0<=clock){rs:List jX}{s:aE}(hs:StateOk s)(h:∀ j,j<rs.length->zU clock (gt rs j)=true):
  ∀ i,i<=s.1.length->∀ j,j<rs.length->zU clock (gt (dH clock rs s.1 i) j)=true
 | 0,_,j,hj=>h j hj
 | i+1,hi,j,hj=>by
  have ih:=CJ hc hs h i (by omega)
  have he:=(hs.item _ (bR (xs:=s.1) (i:=i) (by omega))).2.1
  show zU clock (gt ((dH clock rs s.1 i).set (gt s.1 i).1.toNat (mX clock (gt (dH clock rs s.1 i) (gt s.1 i).1.toNat) (gt s.1 i).2)) j)=true
  by_cases e:(gt s.1 i).1.toNat=j
  ·rw[e,bO (by rw[gR];omega)]
   unfold mX
   cases qB (gt (dH clock rs s.1 i) j) (gt s.1 i).2 with
   | false=>simp_all
   | true=>
    unfold eA at he
    simp only[Bool.and_eq_true,aL] at he
    show zU clock ((gt s.1 i).2.1,(gt s.1 i).2.2.2.1,clock,())=true
    unfold zU
    simp only[Bool.and_eq_true,aL]
    omega
  ·rw[dZ e];simp_all
-- a node with another state, other rows and rises
def tkS(x:NodeT)(s:aE):List bM:=bK x.seen x.1 (c7 (c8 x.state s))
def tkP(x:NodeT)(s:aE):aE:=prune (c8 x.state s) (tkS x s)
def tkR(x:NodeT)(s:aE):List jX:=dH x.clock x.rises (tkP x s).1 (tkP x s).1.length
def jN(x:NodeT)(s:aE):NodeT:=
 (x.1,x.2.1,(tkP x s).1,(tkP x s).2.1,(cH (tkP x s)).1,(cH (tkP x s)).2.1,x.2.2.2.2.2.2.1,x.2.2.2.2.2.2.2.1,x.2.2.2.2.2.2.2.2.1,x.got,x.acked,tkS x s,x.num,x.slots,x.sess,x.wait,x.limit,x.clock,tkR x s,())
theorem j6(a:List aH):f6 a a=true:=by
 unfold f6;simp[bI]
structure NodeOk (x:NodeT):Prop where
 n:inB x.2.1 1 5=true
 id:inB x.1 0 (i64.wrap (x.2.1 - 1))=true
 state:aM x.state=true
 tree:uH x=true
 log:gK x.log=true
 got:eD x.got x.2.1=true
 acked:eD x.acked x.2.1=true
 own:((gt x.got x.1.toNat).1==cA x.log)=true
 seen:gI x.seen x.2.1=true
 ack:BO x=true
 num:inB x.num 0 100000=true
 clock:inB x.clock 0 100000=true
 slots:inB x.slots 1 4=true
 wait:inB x.wait 1 20=true
 limit:inB x.limit 1 50=true
 rises:(x.rises.length:Int)==5
 rise:bI x.rises.length (kF x)=true
 sess:lV x=true
theorem fD(x:NodeT):dU x=true↔NodeOk x:=by
 unfold dU nI
 simp only[Bool.and_eq_true]
 constructor
 ·rintro ⟨h1,h2,h3,h4,h5,h6,h7,h8,h9,h10,h11,h12,h13,h14,h15,h16,h17,h18⟩
  exact⟨h1,h2,h3,h4,h5,h6,h7,h8,h9,h10,h11,h12,h13,h14,h15,h16,h17,h18⟩
 ·rintro ⟨h1,h2,h3,h4,h5,h6,h7,h8,h9,h10,h11,h12,h13,h14,h15,h16,h17,h18⟩
  simp_all
theorem NZ{x:NodeT}{s:aE}(h:NodeOk x)(hs:aM s=true):aM (tkP x s)=true:=z2 (nS h.state hs) _
theorem NodeOk.take{x:NodeT}{s:aE}(h:NodeOk x)(hs:aM s=true):NodeOk (jN x s) where
 n:=h.n
 id:=h.id
 state:=NZ h hs
 tree:=by
  show(f6 (cH (tkP x s)).1 (cH (tkP x s)).1&&(cH (tkP x s)).2.1==(cH (tkP x s)).2.1)=true
  rw[j6];simp
 log:=h.log
 got:=h.got
 acked:=h.acked
 own:=h.own
 seen:=p0 h.seen
 ack:=h.ack
 num:=h.num
 clock:=h.clock
 slots:=h.slots
 wait:=h.wait
 limit:=h.limit
 rises:=by
  show(((dH x.clock x.rises (tkP x s).1 (tkP x s).1.length).length:Nat):Int)==5
  rw[gR];exact h.rises
 rise:=by
  show bI (dH x.clock x.rises (tkP x s).1 (tkP x s).1.length).length _=true
  rw[gR,bD]
  intro i hi
  have hc:=h.clock;rw[aL] at hc
  exact CJ hc.1 ((aN _).1 (NZ h hs)) (λj hj=>bD.1 h.rise j hj) _ (Nat.le_refl _) i hi
 sess:=h.sess
theorem NY(x:NodeT)(s:aE):SzS (tkP x s):=O6 (nR _ _) _
theorem LH(s:aE):(cH s).1.length<=aP:=by
 unfold cH;cases aM s with
 | false=>simp
 | true=>show 4<=aP;decide
theorem lT{x:NodeT}(h:SzN x)(s:aE):SzN (jN x s) where
 state:=NY x s
 leaves:=LH _
 list:=h.list
 logs:=h.logs
 got:=h.got
 acked:=h.acked
 seen:=by show(tkS x s).length<=aP;unfold tkS;rw[c6];exact h.seen
 lines:=by
  intro i hi
  show(gt (tkS x s) i).1.length<=aP
  unfold tkS;rw[eX]
  exact h.lines i (by have:i<(tkS x s).length:=hi;unfold tkS at this;rw[c6] at this;omega)
 sess:=h.sess
 rises:=by show(dH x.clock x.rises (tkP x s).1 (tkP x s).1.length).length<=aP;rw[gR];exact h.rises
-- hearing
def heard0(x:NodeT)(m:MsgT):NodeT:=
 (x.1,x.2.1,x.2.2.1,x.2.2.2.1,x.2.2.2.2.1,x.2.2.2.2.2.1,x.2.2.2.2.2.2.1,x.2.2.2.2.2.2.2.1,x.2.2.2.2.2.2.2.2.1,x.got,cV x.acked m.2.1 (mxI false (gt m.vec x.1.toNat).1 (cA x.log)),bK x.seen m.2.1 m.marks,x.num,x.slots,x.sess,x.wait,x.limit,x.clock,x.rises,())
def eC(x:NodeT)(m:MsgT):NodeT:=jN (heard0 x m) iX
def gotUp(x:NodeT)(m:MsgT):NodeT:=
 (x.1,x.2.1,x.2.2.1,x.2.2.2.1,x.2.2.2.2.1,x.2.2.2.2.2.1,x.2.2.2.2.2.2.1,x.2.2.2.2.2.2.2.1,x.2.2.2.2.2.2.2.2.1,cV x.got m.2.1 m.hi,x.acked,x.seen,x.num,x.slots,x.sess,x.wait,x.limit,x.clock,x.rises,())
def dY(x:NodeT)(m:MsgT):NodeT:=gotUp (jN (eC x m) m.part) m
theorem CX{l:f0}(h:gK l=true):0<=cA l/\cA l<=100000:=by
 unfold cA;rw[h]
 unfold gK at h
 simp only[Bool.and_eq_true,aL,Bool.not_eq_true',decide_eq_false_iff_not] at h
 show 0<=i64.wrap _/\i64.wrap _<=100000
 rw[IntKind.wrap_i64] at h ⊢
 omega
theorem NodeOk.heard0{x:NodeT}(h:NodeOk x)(m:MsgT):NodeOk (heard0 x m) where
 n:=h.n
 id:=h.id
 state:=h.state
 tree:=h.tree
 log:=h.log
 got:=h.got
 acked:=w8 h.acked (by rw[F7];have:=CX h.log;omega)
 own:=h.own
 seen:=p0 h.seen
 ack:=by
  have:=h.ack
  unfold BO at this ⊢
  rw[show(Go.Abs.heard0 x m).acked=cV x.acked m.2.1 (mxI false (gt m.vec x.1.toNat).1 (cA x.log))from rfl,fU]
  rw[bD] at this ⊢
  intro i hi
  have h1:=this i hi
  rw[show(Go.Abs.heard0 x m).log=x.log from rfl]
  simp only[Bool.not_eq_true',decide_eq_false_iff_not] at h1 ⊢
  rcases pX x.acked m.2.1 (mxI false (gt m.vec x.1.toNat).1 (cA x.log)) i with e | e
  ·rw[e];omega
  ·rw[e,F7];omega
 num:=h.num
 clock:=h.clock
 slots:=h.slots
 wait:=h.wait
 limit:=h.limit
 rises:=h.rises
 rise:=h.rise
 sess:=h.sess
theorem NodeOk.heard{x:NodeT}(h:NodeOk x)(m:MsgT):NodeOk (eC x m):=(h.heard0 m).take yZ
theorem C1{x:NodeT}(h:SzN x)(m:MsgT):SzN (heard0 x m) where
 state:=h.state
 leaves:=h.leaves
 list:=h.list
 logs:=h.logs
 got:=h.got
 acked:=by show(cV _ _ _).length<=aP;rw[fU];exact h.acked
 seen:=by show(bK _ _ _).length<=aP;rw[c6];exact h.seen
 lines:=by
  intro i hi
  show(gt (bK x.seen m.2.1 m.marks) i).1.length<=aP
  rw[eX]
  exact h.lines i (by have:i<(bK x.seen m.2.1 m.marks).length:=hi;rw[c6] at this;omega)
 sess:=h.sess
 rises:=h.rises
theorem lP{x:NodeT}(h:SzN x)(m:MsgT):SzN (eC x m):=lT (C1 h m) _
theorem NodeOk.gotUp{x:NodeT}(h:NodeOk x){m:MsgT}(hi:m.hi<=100000)(hm:m.2.1.toNat≠x.1.toNat):NodeOk (gotUp x m) where
 n:=h.n
 id:=h.id
 state:=h.state
 tree:=h.tree
 log:=h.log
 got:=w8 h.got hi
 acked:=h.acked
 own:=by
  show((gt (cV x.got m.2.1 m.hi) x.1.toNat).1==cA x.log)=true
  rw[E5 _ hm];exact h.own
 seen:=h.seen
 ack:=h.ack
 num:=h.num
 clock:=h.clock
 slots:=h.slots
 wait:=h.wait
 limit:=h.limit
 rises:=h.rises
 rise:=h.rise
 sess:=h.sess
theorem QF{x:NodeT}(h:SzN x)(m:MsgT):SzN (gotUp x m) where
 state:=h.state
 leaves:=h.leaves
 list:=h.list
 logs:=h.logs
 got:=by show(cV _ _ _).length<=aP;rw[fU];exact h.got
 acked:=h.acked
 seen:=h.seen
 lines:=h.lines
 sess:=h.sess
 rises:=h.rises
theorem mP{x:NodeT}(h:SzN x)(m:MsgT):SzN (dY x m):=QF (lT (lP h m) _) _
-- messages
def kI(v:List aH)(top:Int):Bool:=bI v.length λi=>inB (gt v i).1 0 top
def treeB(t:kQ):Bool:=bif(t.1.length:Int)==0 then t.2.1==0 else((t.1.length:Int)==4&&(kI t.1 1023&&inB t.2.1 0 1023))
def xR(v:List aH)(i:Nat):Bool:=inB (gt v i).1 0 3&&xJ (λj=> !decide ((gt v (j+1)).1<=(gt v j).1)) i
def sE(m:MsgT):Bool:=inB m.1 0 5&&(eN m.2.1&&(eN m.2.2.1&& !(m.2.1==m.2.2.1)))
def dR(m:MsgT):Bool:=sE m&&((bI m.leaves.length (xR m.leaves))&&(kI m.vec 100000&&(inB m.2.2.2.1 0 100000&&(inB m.hi 0 100000&&(treeB m.tree&&(decide ((m.vec.length:Int)<=5)&&(aM m.part&&eL m.marks)))))))
def pQ(v:List aH)(most top:Int):Bool:= !decide ((v.length:Int)>most)&&kI v top
def GG(v:List aH)(i:Nat):Bool:= !decide ((gt v (i+1)).1<=(gt v i).1)
def AB(m:MsgT):Bool:=inB m.1 0 5&&(eN m.2.1&&(eN m.2.2.1&&(!(m.2.1==m.2.2.1)&&(inB m.2.2.2.1 0 100000&&(inB m.hi 0 100000&&(treeB m.tree&&(pQ m.vec 5 100000&&(pQ m.leaves 4 3&&(aM m.part&&(eL m.marks&&bI (m.leaves.length - 1) (GG m.leaves)))))))))))
theorem P1(v:List aH):(pQ v 4 3&&bI (v.length - 1) (GG v))=bI v.length (xR v):=by
 rw[Bool.eq_iff_iff]
 unfold pQ kI xR GG
 simp only[Bool.and_eq_true,bD,Bool.not_eq_true',decide_eq_false_iff_not]
 constructor
 ·rintro ⟨⟨_,h2⟩,h3⟩ i hi
  refine⟨h2 i hi,?_⟩
  cases i with
  | zero=>rfl
  | succ j=>show(!decide ((gt v (j+1)).1<=(gt v j).1))=true;rw[decide_eq_false (h3 j (by omega))];rfl
 ·intro h
  have hp:∀ j,j+1<v.length->(gt v j).1<(gt v (j+1)).1:=λj hj=>by
   have:=(h (j+1) hj).2
   unfold xJ at this
   simp_all
  have hge:∀ i,i<v.length->(i:Int)<=(gt v i).1:=by
   intro i
   induction i with
   | zero=>intro hi;have:=(h 0 hi).1;rw[aL] at this;omega
   | succ j ih=>grind
  refine⟨⟨?_,λi hi=>(h i hi).1⟩,λi hi=>by grind⟩
  rcases Nat.lt_or_ge 4 v.length with h5 | h5
  ·have h6:=hge 4 h5
   have:=(h 4 h5).1;rw[aL] at this;omega
  omega
theorem KE(m:MsgT):AB m=dR m:=by
 unfold AB dR sE
 rw[<- P1]
 unfold pQ
 grind
theorem AR{m:MsgT}(h:dR m=true):m.leaves.length<=4:=by
 rw[<- KE] at h
 unfold AB pQ at h
 grind
end Go.Abs
-- messages and receiving: plain laws
namespace Go.Abs
theorem JL{β:Type}{o:Option Out}{A B C:List Kd}{r:Row A}{s:Row B}{t:Row C}{f:Rows [A,B,C]×Rows []->Option β}(h:o=some ⟨[⟨A,r⟩,⟨B,s⟩,⟨C,t⟩],[]⟩):(o.bind (cN [A,B,C] [])).bind f=f ((r,s,t,()),()):=by
 rw[h];simp[cN,fA,jS];rfl
def oH(l:List aE)(k:Nat):Nat->aE
 | 0=>iX
 | i+1=>c8 (oH l k i) (gt l (k+i))
theorem zQ(l:List aE)(k:Nat):∀ i,SzS (oH l k i)
 | 0=>kA
 | i+1=>nR _ _
theorem tB{l:f0}(h:gK l=true)(k:Nat):∀ i,k+i<=l.2.2.1.length->aM (oH l.2.2.1 k i)=true
 | 0,_=>yZ
 | i+1,hi=>nS (tB h k i (by omega)) (by
   unfold gK at h
   simp only[Bool.and_eq_true] at h
   exact bD.1 h.2.2.2.2 (k+i) (by omega))
def j0(l:f0)(seq:Int):Bool:=gK l&&inB seq l.2.1 (i64.wrap (l.2.1+(l.2.2.1.length:Int)))
def gE(l:f0)(seq:Int):Nat:=(seq - l.2.1).toNat
def mB(l:f0)(seq:Int):aE:=bif j0 l seq then oH l.2.2.1 (gE l seq) (l.2.2.1.length - gE l seq)else iX
theorem zP{l:f0}{seq:Int}(h:j0 l seq=true):l.2.1+((gE l seq:Nat):Int)=seq/\gE l seq<=l.2.2.1.length/\0<=l.2.1/\l.2.1<=100000/\l.2.2.1.length<=8:=by
 unfold j0 gK at h
 simp only[Bool.and_eq_true,aL,Bool.not_eq_true',decide_eq_false_iff_not] at h
 unfold gE
 rw[IntKind.wrap_i64] at h
 omega
def sQ(x:NodeT)(seq:Int):aE:=bif j0 x.log seq then mB x.log seq else x.state
theorem FK{x:NodeT}(h:SzN x)(seq:Int):SzS (sQ x seq):=by
 unfold sQ mB
 cases j0 x.log seq with
 | false=>exact h.state
 | true=>exact zQ _ _ _
theorem OI{x:NodeT}(h:NodeOk x)(seq:Int):aM (sQ x seq)=true:=by
 unfold sQ mB
 cases hs:j0 x.log seq with
 | false=>exact h.state
 | true=>have:=zP hs;exact tB h.log _ _ (by omega)
theorem OD{s:aE}(h:SzS s)(ls:List aH):SzS (jO s ls):=
 ⟨Nat.le_trans (List.length_filter_le ..) h.1,Nat.le_trans (List.length_filter_le ..) h.2⟩
theorem OE{s:aE}(h:aM s=true)(ls:List aH):aM (jO s ls)=true:=(aN _).2 (((aN _).1 h).slice ls)
def F2(x:NodeT)(ls:List aH)(seq:Int):aE:=c8 (jO x.state ls) (sQ x seq)
def lJ(a b:kQ)(i:Nat):List aH:=bif(a.1.length:Int) != 4 then[((i:Int),())] else bif(b.1.length:Int) != 4 then[((i:Int),())] else bif(gt a.1 i).1 != (gt b.1 i).1 then[((i:Int),())] else[]
def mD(a b:kQ):List aH:=bif a.2.1==b.2.1 then[] else bX 4 (lJ a b)
theorem yC(a b:kQ)(i:Nat):(lJ a b i).length<=1:=by
 unfold lJ
 cases (a.1.length:Int) != 4<;>cases (b.1.length:Int) != 4<;>cases (gt a.1 i).1 != (gt b.1 i).1<;>simp
theorem tW(a b:kQ):(mD a b).length<=4:=by
 unfold mD
 cases a.2.1==b.2.1 with
 | true=>simp
 | false=>exact dK (n:=4) (L:=1) λi _=>yC a b i
def S5(x:NodeT)(kind to num:Int):MsgT:=(kind,x.1,to,num,cA x.log,[],0,x.got,[],[],[],c7 x.state,())
-- exchanges
def withS(x:NodeT)(ss:List eI):NodeT:=
 (x.1,x.2.1,x.2.2.1,x.2.2.2.1,x.2.2.2.2.1,x.2.2.2.2.2.1,x.2.2.2.2.2.2.1,x.2.2.2.2.2.2.2.1,x.2.2.2.2.2.2.2.2.1,x.got,x.acked,x.seen,x.num,x.slots,ss,x.wait,x.limit,x.clock,x.rises,())
def pV(s:eI):Int×Bool:=(s.1,s.2.2.1)
def UA(x:NodeT)(s:eI):Prop:=inB s.1 0 (i64.wrap (x.2.1 - 1))=true/\s.1≠x.1/\inB s.2.1 0 100000=true/\inB s.2.2.2.1 0 x.wait=true
theorem lH{v:List eI}{k:Nat}{p:Int}{b:Bool}:dI v k p b=true↔pV (gt v k)=(p,b):=by
 unfold dI pV
 rw[Bool.and_eq_true,beq_iff_eq,RA,Prod.mk.injEq]
theorem PD(v:List eI):(∀ i,i<v.length->CP v i=true)↔(v.map pV).Nodup:=by
 unfold List.Nodup
 rw[List.pairwise_iff_getElem]
 unfold CP
 simp only[bD,Bool.not_eq_true',List.length_map,List.getElem_map]
 constructor
 ·intro h i j hi hj hij e
  have:=h j hj i hij
  rw[<- Bool.not_eq_true,lH] at this
  apply this
  rw[cJ hi,cJ hj];exact e
 ·intro h j hj i hij
  rw[<- Bool.not_eq_true,lH]
  intro e
  refine h i j (by omega) hj hij ?_
  rw[cJ (by omega),cJ hj] at e;exact e
theorem dS(x:NodeT):lV x=true↔(x.sess.length:Int)<=x.slots/\(∀ s∈x.sess,UA x s)/\(x.sess.map pV).Nodup:=by
 rw[<- PD]
 unfold lV nE
 simp only[Bool.and_eq_true,bD,Bool.not_eq_true',decide_eq_false_iff_not]
 constructor
 ·rintro ⟨h1,h2⟩
  refine⟨by omega,λs hs=>?_,λi hi=>(h2 i hi).2.2.2.2⟩
  obtain⟨i,hi,rfl⟩:=fX hs
  obtain⟨a,b,c,d,_⟩:=h2 i hi
  refine⟨a,?_,c,d⟩
  simp_all
 ·rintro ⟨h1,h2,h3⟩
  refine⟨by omega,λi hi=>?_⟩
  obtain⟨a,b,c,d⟩:=h2 _ (bR hi)
  simp_all
theorem NodeOk.withS{x:NodeT}(h:NodeOk x){ss:List eI}(h1:(ss.length:Int)<=x.slots)(h2:∀ s∈ss,UA x s)(h3:(ss.map pV).Nodup):NodeOk (withS x ss) where
 n:=h.n
 id:=h.id
 state:=h.state
 tree:=h.tree
 log:=h.log
 got:=h.got
 acked:=h.acked
 own:=h.own
 seen:=h.seen
 ack:=h.ack
 num:=h.num
 clock:=h.clock
 slots:=h.slots
 wait:=h.wait
 limit:=h.limit
 rises:=h.rises
 rise:=h.rise
 sess:=(dS _).2 ⟨h1,h2,h3⟩
theorem uE{x:NodeT}(h:SzN x){ss:List eI}(h1:ss.length<=aP):SzN (withS x ss):=
 ⟨h.state,h.leaves,h.list,h.logs,h.got,h.acked,h.seen,h.lines,h1,h.rises⟩
theorem hI(v:List eI)(p:Int)(b:Bool):(∃ k:Nat,k<v.length/\dE v p b=(k:Int)/\pV (gt v k)=(p,b))\/(dE v p b= -1/\∀ s∈v,pV s≠(p,b)):=by
 unfold dE
 cases hf:(List.range v.length).find? (λk=>dI v k p b)with
 | none=>
  refine .inr ⟨rfl,λs hs e=>?_⟩
  obtain⟨i,hi,rfl⟩:=fX hs
  have:=List.find?_eq_none.1 hf i (List.mem_range.2 hi)
  exact this (lH.2 e)
 | some k=>
  refine .inl ⟨k,List.mem_range.1 (List.mem_of_find?_eq_some hf),rfl,?_⟩
  exact lH.1 (show dI v k p b=true from List.find?_some (p:=λk=>dI v k p b) hf)
def sX(x:NodeT)(m:MsgT)(b:Bool):Int:=bif decide (dE x.sess m.2.1 b>=0)then(bif(gt x.sess (dE x.sess m.2.1 b).toNat).2.1 != m.2.2.2.1 then -1 else dE x.sess m.2.1 b)else dE x.sess m.2.1 b
def kM(x:NodeT)(k:Nat):NodeT:=withS x (x.sess.take k++x.sess.drop (k+1))
theorem QI{x:NodeT}(h:NodeOk x)(k:Nat):NodeOk (kM x k):=by
 have hs:=(dS x).1 h.sess
 have sub:List.Sublist (x.sess.take k++x.sess.drop (k+1)) x.sess:=by rw[<- List.eraseIdx_eq_take_drop_succ];grind
 refine h.withS ?_ (λs hm=>hs.2.1 s (sub.subset hm)) ((sub.map pV).nodup hs.2.2)
 grind
theorem GO{x:NodeT}(h:SzN x)(k:Nat):SzN (kM x k):=uE h (by
 have:=h.sess;rw[List.length_append,List.length_take,List.length_drop];omega)
def oW(x:NodeT)(k:Nat)(num:Int):List eI:=x.sess.set k ((gt x.sess k).1,num,(gt x.sess k).2.2.1,(0:Int),())
def lK(x:NodeT)(m:MsgT):List eI:=x.sess++[(m.2.1,m.2.2.2.1,true,(0:Int),())]
theorem L8{x:NodeT}(h:NodeOk x){k:Nat}(hk:k<x.sess.length){num:Int}(hn:inB num 0 100000=true):NodeOk (withS x (oW x k num)):=by
 have hs:=(dS x).1 h.sess
 refine h.withS (by unfold oW;rw[List.length_set];omega) (λs hm=>?_) ?_
 ·rcases List.mem_or_eq_of_mem_set hm with h1 | h1
  ·grind
  ·have h2:=hs.2.1 _ (bR hk)
   rw[h1]
   refine⟨h2.1,h2.2.1,hn,?_⟩
   have:=h.wait;rw[aL] at this ⊢;grind
 ·unfold oW
  rw[List.map_set,show pV ((gt x.sess k).1,num,(gt x.sess k).2.2.1,(0:Int),())=pV (gt x.sess k)from rfl]
  have:(x.sess.map pV).set k (pV (gt x.sess k))=x.sess.map pV:=by
   rw[<- List.map_set,tD]
  rw[this];simp_all
theorem JW{x:NodeT}(h:NodeOk x){m:MsgT}(hp:inB m.2.1 0 (i64.wrap (x.2.1 - 1))=true)(hi:m.2.1≠x.1)(hn:inB m.2.2.2.1 0 100000=true)(hf:dE x.sess m.2.1 true<0)(hl:(x.sess.length:Int)≠x.slots):NodeOk (withS x (lK x m)):=by
 have hs:=(dS x).1 h.sess
 refine h.withS (by unfold lK;rw[List.length_append,List.length_singleton];omega) (λs hm=>?_) ?_
 ·rcases List.mem_append.1 hm with h1 | h1
  ·grind
  ·rw[List.mem_singleton.1 h1]
   refine⟨hp,hi,hn,?_⟩
   have:=h.wait;rw[aL] at this ⊢;grind
 ·unfold lK
  rw[List.map_append,List.nodup_append]
  refine⟨hs.2.2,by simp,λa ha b hb=>?_⟩
  obtain⟨s,hs1,rfl⟩:=List.mem_map.1 ha
  have hb:b=(m.2.1,true):=by simpa [pV] using hb
  rw[hb]
  rcases hI x.sess m.2.1 true with ⟨k,_,e,_⟩ | ⟨_,e⟩
  ·rw[e] at hf;omega
  grind
-- receiving
def HV(o:NodeT)(x:NodeT)(m:MsgT):MsgT:=
 (3,o.1,m.2.1,m.2.2.2.1,cA o.log,o.tree.1,o.tree.2.1,o.got,mD o.tree m.tree,(F2 o (mD o.tree m.tree) (gt m.vec x.1.toNat).1).1,(F2 o (mD o.tree m.tree) (gt m.vec x.1.toNat).1).2.1,c7 o.state,())
def T7(o:NodeT)(x:NodeT)(m:MsgT):MsgT:=
 (4,o.1,m.2.1,m.2.2.2.1,cA o.log,[],0,o.got,m.leaves,(F2 o m.leaves (gt m.vec x.1.toNat).1).1,(F2 o m.leaves (gt m.vec x.1.toNat).1).2.1,c7 o.state,())
abbrev JY:=NodeT×List MsgT×Int
def g9(x:NodeT)(m:MsgT):List eI:=bif decide (dE x.sess m.2.1 true>=0)then oW x (dE x.sess m.2.1 true).toNat m.2.2.2.1 else lK x m
def LM(x:NodeT)(m:MsgT):NodeT:=eC (withS x (g9 x m)) m
def lD(x:NodeT)(m:MsgT):Bool:= !decide (dE x.sess m.2.1 true>=0)&&(x.sess.length:Int)==x.slots
def oU(x:NodeT)(m:MsgT):JY:=bif lD x m then(x,[S5 x 5 m.2.1 m.2.2.2.1],3)else(LM x m,[HV (LM x m) x m],0)
def tG(x:NodeT)(m:MsgT)(k:Nat):JY:=
 bif m.1==5 then(kM x k,[],0)else bif m.1==4 then(dY (kM x k) m,[],0)else(dY (kM x k) m,[T7 (dY (kM x k) m) x m],0)
def zW(x:NodeT)(m:MsgT):JY:=
 bif m.1==0 then(dY x m,[S5 (dY x m) 1 m.2.1 m.2.2.2.1],0)else
 bif m.1==1 then(eC x m,[],0)else bif m.1==2 then oU x m else
 bif decide (sX x m (m.1==4)<0)then(x,[],2)else tG x m (sX x m (m.1==4)).toNat
def mL(x:NodeT)(m:MsgT):Bool:=dU x&&(dR m&&(m.2.2.1==x.1&&(!decide (m.2.1>=x.2.1)&&(m.vec.length:Int)==x.2.1)))
def gS(x:NodeT)(m:MsgT):JY:=bif mL x m then zW x m else(x,[],1)
structure RecOk (x:NodeT) (m:MsgT):Prop where
 node:NodeOk x
 msg:dR m=true
 idn:0<=x.1/\x.1<x.2.1/\1<=x.2.1/\x.2.1<=5
 frm:0<=m.2.1/\m.2.1<x.2.1
 ne:m.2.1≠x.1
 vec:(m.vec.length:Int)=x.2.1
 to:m.2.2.1=x.1
 num:inB m.2.2.2.1 0 100000=true
 hi:0<=m.hi/\m.hi<=100000
 part:aM m.part=true
 marks:eL m.marks=true
 leaves:m.leaves.length<=4
theorem FS{x:NodeT}{m:MsgT}(h:mL x m=true):RecOk x m:=by
 unfold mL at h
 simp only[Bool.and_eq_true,beq_iff_eq,Bool.not_eq_true',decide_eq_false_iff_not] at h
 obtain⟨h1,h2,h3,h4,h5⟩:=h
 have hn:=(fD x).1 h1
 have a1:=hn.n
 have a2:=hn.id
 rw[aL] at a1 a2
 rw[IntKind.wrap_i64] at a2
 have hm:=h2
 unfold dR sE eN at hm
 simp only[Bool.and_eq_true,aL,Bool.not_eq_true',beq_eq_false_iff_ne] at hm
 obtain⟨⟨b1,b2,b3,b4⟩,b5,b6,b7,b8,b9,b10,b11,b12⟩:=hm
 exact⟨hn,h2,by omega,by omega,by rw[<- h3];omega,h5,h3,aL.2 b7,b8,b11,b12,AR h2⟩
theorem RecOk.gone{x:NodeT}{m:MsgT}(h:RecOk x m)(k:Nat):RecOk (kM x k) m:=
 ⟨QI h.node k,h.msg,h.idn,h.frm,h.ne,h.vec,h.to,h.num,h.hi,h.part,h.marks,h.leaves⟩
theorem RecOk.brought{x:NodeT}{m:MsgT}(h:RecOk x m):NodeOk (dY x m):=
 NodeOk.gotUp ((h.node.heard m).take h.part) h.hi.2 (by
  have h1:=h.ne;have h2:=h.idn;have h3:=h.frm
  show m.2.1.toNat≠x.1.toNat
  omega)
theorem RecOk.syn{x:NodeT}{m:MsgT}(h:RecOk x m)(hf:lD x m=false):RecOk (withS x (g9 x m)) m:=by
 refine⟨?_,h.msg,h.idn,h.frm,h.ne,h.vec,h.to,h.num,h.hi,h.part,h.marks,h.leaves⟩
 unfold g9
 unfold lD at hf
 by_cases hc:dE x.sess m.2.1 true>=0
 ·rw[decide_eq_true hc]
  rcases hI x.sess m.2.1 true with ⟨k,hk,e,_⟩ | ⟨e,_⟩
  ·show NodeOk (withS x (oW x (dE x.sess m.2.1 true).toNat m.2.2.2.1))
   rw[e];exact L8 h.node hk h.num
  omega
 ·rw[decide_eq_false hc] at hf ⊢
  refine JW h.node ?_ h.ne h.num (by omega) (by simp_all)
  have h2:=h.idn;have h3:=h.frm
  rw[aL,IntKind.wrap_i64];omega
theorem w9{x:NodeT}(h:NodeOk x)(m:MsgT):(g9 x m).length<=aP:=by
 have h1:=((dS x).1 h.sess).1
 have h2:=h.slots;rw[aL] at h2
 unfold g9 oW lK aP
 grind
theorem R7{x:NodeT}(hz:SzN x)(h:NodeOk x)(m:MsgT):SzN (LM x m):=lP (uE hz (w9 h m)) m
theorem SJ{x:NodeT}{m:MsgT}(h:mL x m=false):gS x m=(x,[],1):=by unfold gS;rw[h];rfl
theorem OV{x:NodeT}{m:MsgT}(h:mL x m=true):gS x m=zW x m:=by unfold gS;rw[h];rfl
-- an exchange taken out, as the code does it
def UT(x:NodeT)(k:Int):List eI:=([]++((x.sess.take (k.toNat)).drop 0))++((x.sess.take x.sess.length).drop ((i64.wrap (k+1))).toNat)
theorem SL{x:NodeT}{k:Nat}(hk:k<x.sess.length)(hl:x.sess.length<=aP):UT x (k:Int)=x.sess.take k++x.sess.drop (k+1):=by
 unfold UT
 rw[aF (Nat.lt_of_lt_of_le hk (Nat.le_trans hl (by decide))),List.take_length,Int.toNat_natCast,Int.toNat_natCast];rfl
theorem O0{x:NodeT}{k:Nat}(hk:k<x.sess.length)(hl:x.sess.length<=aP):withS x (UT x (k:Int))=kM x k:=by rw[SL hk hl];rfl
theorem QV{α β:Type}{ss:List α}{k:Nat}{F Z:β}(hk:k<ss.length)(hl:ss.length<=aP):
  (bif decide (0<=(k:Int))&&decide ((k:Int)<=(ss.length:Int))then(bif decide (List.length ([]:List α)+List.length ((ss.take ((k:Int).toNat)).drop 0)<=bound)then
   (bif decide (0<=i64.wrap ((k:Int)+1))&&decide (i64.wrap ((k:Int)+1)<=(ss.length:Int))then
    (bif decide (List.length ([]++((ss.take ((k:Int).toNat)).drop 0))+List.length ((ss.take ss.length).drop ((i64.wrap ((k:Int)+1))).toNat)<=bound)then F else Z)else Z)else Z)else Z)=F:=by
 have hb:aP<=bound:=by decide
 rw[aF (Nat.lt_of_lt_of_le hk (Nat.le_trans hl (by decide)))]
 grind
end Go.Abs
-- short steps
namespace Go.Abs
open Go
theorem qP{β:Type}{q:Prop}[Decidable q]{x y z:β}(h:q)(k:x=z):(bif decide q then x else y)=z:=(mT h).trans k
theorem qN{β:Type}{q:Prop}[Decidable q]{x y z:β}(h:¬ q)(k:y=z):(bif decide q then x else y)=z:=(kC h).trans k
theorem qT{β:Type}{b:Bool}{x y z:β}(h:b=true)(k:x=z):(bif b then x else y)=z:=(mF h).trans k
theorem qF{β:Type}{b:Bool}{x y z:β}(h:b=false)(k:y=z):(bif b then x else y)=z:=(iZ h).trans k
theorem qt{β:Type}{x y z:β}(k:x=z):(bif true then x else y)=z:=k
theorem qf{β:Type}{x y z:β}(k:y=z):(bif false then x else y)=z:=k
theorem qz{β:Type}{m:Nat}{x y z:β}(k:x=z):(bif decide ((0:Int)<=(m:Int))then x else y)=z:=(mT (Int.natCast_nonneg m)).trans k
theorem ql{β:Type}{i m:Nat}{x y z:β}(h:i<m)(k:x=z):(bif decide ((i:Int)<(m:Int))then x else y)=z:=(mT (Int.ofNat_lt.2 h)).trans k
theorem qe{β:Type}{a:Int}{x y z:β}(k:y=z):(bif decide (a<a)then x else y)=z:=(kC (Int.lt_irrefl a)).trans k
theorem qC{β:Type}{p:Prg}{v n g:Nat}{as:List Arg}{A:List Kd}{r:Row A}{f:Rows [A]×Rows []->Option β}{z:Option β}(h:Ran p v g as ⟨[⟨A,r⟩],[]⟩)(k:f ((r,()),())=z)(hn:v<=n:=by omega):
  ((aI p n g as).bind (cN [A] [])).bind f=z:=(NC (h n hn)).trans k
theorem qD{β:Type}{p:Prg}{v n g:Nat}{as:List Arg}{A B:List Kd}{r:Row A}{s:Row B}{f:Rows [A,B]×Rows []->Option β}{z:Option β}(h:Ran p v g as ⟨[⟨A,r⟩,⟨B,s⟩],[]⟩)(k:f ((r,s,()),())=z)(hn:v<=n:=by omega):
  ((aI p n g as).bind (cN [A,B] [])).bind f=z:=(JM (h n hn)).trans k
theorem qE{β:Type}{p:Prg}{v n g:Nat}{as:List Arg}{A B C:List Kd}{r:Row A}{s:Row B}{t:Row C}{f:Rows [A,B,C]×Rows []->Option β}{z:Option β}(h:Ran p v g as ⟨[⟨A,r⟩,⟨B,s⟩,⟨C,t⟩],[]⟩)(k:f ((r,s,t,()),())=z)(hn:v<=n:=by omega):
  ((aI p n g as).bind (cN [A,B,C] [])).bind f=z:=(JL (h n hn)).trans k
theorem qR{β:Type}{p:Prg}{v n g:Nat}{as:List Arg}{A B:List Kd}{r:Row A}{s:Row B}{f:Rows [A]×Rows [B]->Option β}{z:Option β}(h:Ran p v g as ⟨[⟨A,r⟩],[⟨B,s⟩]⟩)(k:f ((r,()),(s,()))=z)(hn:v<=n:=by omega):
  ((aI p n g as).bind (cN [A] [B])).bind f=z:=(Q5 (h n hn)).trans k
end Go.Abs
/- A function of two texts with a contract of the library's. -/
namespace Go.Abs
open Go
def VJ:List Arg->Option Out
 | [.val false ⟨[.str],x⟩,.val false ⟨[.str],y⟩]=>some ⟨[⟨[.int .i64],(Lib.compareBytes (ByteArray.data x.1).toList (ByteArray.data y.1).toList,())⟩],[]⟩
 | _=>none
theorem MS(rb:Nat->Prop)(w:World):Keep rb w w:=⟨rfl,rfl,rfl,Nat.le_refl _,λ_ _ _=>rfl⟩
theorem NB {P:Program} {ti:Ti} {rts:Nat->Option (List Nat)} {fr:Nat->Bool} {g:Nat} (hf:∃ fn,P.funcs[g]? =some fn/\fn.name≠ "runtime.NumGoroutine" /\fn.body.isNone=false)
  (hrt:(rts g).bind (cS { ti:=ti,n:=0,call:=λ_ _=>none,fresh:=fr,owns:=λ_=>false,h:=⟨false,[],[],false,false,[],[],[],[]⟩ })=some [(false,[.int .i64])])
  (hc:∀ (a b:ByteArray) (w:World),Calls P g #[.string a,.string b] w λe w'=>e= .returned (.int .i64 (Lib.compareBytes a.data.toList b.data.toList))/\w'=w) (as:List Arg) (out:Out) (h:VJ as=some out):kY P ti rts fr g as out:=by
 unfold VJ at h
 split at h
 ·rename_i x y
  cases h
  show VT P ti rts fr g _ _
  refine⟨hf,λrt h1 vs bs rbs w hA _ _ _=>?_⟩
  rw[hrt] at h1
  cases h1
  obtain⟨v,vs',b,b',r,r',rfl,rfl,rfl,⟨rfl,us,hs,u,us',bb,bb',e1,e2,⟨e3,e4⟩,e5,e6⟩,v2,vs2,c,c',q,q',rfl,rfl,rfl,⟨rfl,us2,hs2,u2,us2',dd,dd',g1,g2,⟨g3,g4⟩,g5,g6⟩,rfl,rfl,rfl⟩:=hA
  have hv:v= .string x.1:=by
   rcases hs with ⟨hh,_⟩ | ⟨_,hh⟩
   ·grind
   simp_all
  have hv2:v2= .string y.1:=by
   rcases hs2 with ⟨hh,_⟩ | ⟨_,hh⟩
   ·grind
   simp_all
  subst hv;subst hv2
  refine Calls.mono (hc x.1 y.1 w) ?_
  rintro e w' ⟨rfl,rfl⟩
  refine⟨_,rfl,⟨MS _ _,(λb _=>SizeLe.same rfl),(λb h1 h2=>by omega),[_],[],[],[],rfl,?_,?_,(λb hb=>by grind),(λb hb=>by grind),(λb hb=>by grind),λ_=>⟨List.nodup_nil,List.nodup_nil⟩⟩,λ_=>⟨[_],[],[],rfl,⟨_,[],_,[],[_],[],[],[],[],rfl,rfl,rfl,rfl,.inr ⟨rfl,rfl⟩,⟨_,[],rfl,⟨rfl,rfl⟩,rfl,rfl,rfl⟩,rfl,rfl,rfl,rfl⟩,List.nodup_nil,(λb hb=>by grind),λb hb=>by grind⟩⟩
  ·refine⟨_,[],_,[],[_],[],[],[],[],rfl,rfl,rfl,rfl,.inr ⟨rfl,rfl⟩,?_,rfl,rfl,rfl,rfl⟩
   unfold TQ
   cases fr g with
   | false=>exact⟨rfl,_,[],[],[],rfl,rfl,⟨rfl,rfl⟩,rfl,rfl⟩
   | true=>exact⟨_,[],rfl,⟨rfl,rfl⟩,rfl,rfl,rfl⟩
  ·exact⟨rfl,rfl⟩
 simp_all
end Go.Abs
/- Plain laws: rows marked cell by cell; how many cells there are. -/
namespace Go.Abs
def gM{α:Type}(c:α->Int):List α->Int
 | []=>0
 | x::xs=>c x+gM c xs
def QL{α:Type}(f:α->Int->α)(c:α->Int):List α->Int->List α
 | [],_=>[]
 | x::xs,n=>f x n::QL f c xs (n+c x)
mutual
/-- How many cells lie in a value. -/
def cnT:(k:Kd)->k.T->Int
 | .int _,_=>1
 | .bool,_=>1
 | .str,_=>1
 | .fn,_=>1
 | .sl ks,xs=>gM (cnR ks) xs
def cnR:(ks:List Kd)->Row ks->Int
 | [],_=>0
 | k::ks,r=>cnT k r.1+cnR ks r.2
end
/-- How many cells lie in a struct's slices. -/
def cnS:(ks:List Kd)->Row ks->Int
 | [],_=>0
 | .sl k::ks,r=>cnT (.sl k) r.1+cnS ks r.2
 | .int _::ks,r=>cnS ks r.2
 | .bool::ks,r=>cnS ks r.2
 | .str::ks,r=>cnS ks r.2
 | .fn::ks,r=>cnS ks r.2
mutual
/-- How much lies in a value: elements and texts' bytes. -/
def szT:(k:Kd)->k.T->Int
 | .int _,_=>0
 | .bool,_=>0
 | .str,s=>((ByteArray.size s:Nat):Int)
 | .fn,_=>0
 | .sl ks,xs=>((List.length xs:Nat):Int)+gM (szR ks) xs
def szR:(ks:List Kd)->Row ks->Int
 | [],_=>0
 | k::ks,r=>szT k r.1+szR ks r.2
end
mutual
def H6:Kd->Bool
 | .sl ks=>Nat.ble ks.length 64&&u5 ks
 | .int _=>true
 | .bool=>true
 | .str=>true
 | .fn=>true
def u5:List Kd->Bool
 | []=>true
 | k::ks=>H6 k&&u5 ks
end
theorem rU{α:Type}{c:α->Int}:∀ (xs:List α),(∀ x∈xs,0<=c x)->0<=gM c xs
 | [],_=>Int.le_refl _
 | x::xs,h=>by
  have h1:=h x (List.mem_cons_self ..)
  have h2:=rU xs λy hy=>h y (List.mem_cons_of_mem _ hy)
  show 0<=c x+gM c xs
  omega
theorem J3{α:Type}{c d:α->Int}{A B:Int}:∀ (xs:List α),(∀ x∈xs,c x<=A+B*d x)->gM c xs<=A*(xs.length:Int)+B*gM d xs
 | [],_=>by show(0:Int)<=A*((0:Nat):Int)+B*0;omega
 | x::xs,h=>by
  have h1:=h x (List.mem_cons_self ..)
  have h2:=J3 (A:=A) (B:=B) (c:=c) (d:=d) xs λy hy=>h y (List.mem_cons_of_mem _ hy)
  show c x+gM c xs<=A*(((xs.length+1:Nat):Nat):Int)+B*(d x+gM d xs)
  rw[Int.mul_add,show(((xs.length+1:Nat):Nat):Int)=(xs.length:Int)+1 from by omega,Int.mul_add]
  omega
theorem p5{α:Type}{c:α->Int}:∀ (xs ys:List α),gM c (xs++ys)=gM c xs+gM c ys
 | [],ys=>by show gM c ys=0+gM c ys;omega
 | x::xs,ys=>by
  show c x+gM c (xs++ys)=c x+gM c xs+gM c ys
  rw[p5 xs ys];omega
theorem zL{α:Type}{c:α->Int}{xs:List α}{i:Nat}(h:i<xs.length):gM c (xs.take (i+1))=gM c (xs.take i)+c xs[i]:=by
 rw[<- List.take_append_getElem h,p5]
 show gM c (xs.take i)+(c xs[i]+0)=_
 omega
mutual
theorem VH:∀ (k:Kd) (x:k.T),0<=cnT k x
 | .int _,_=>by show(0:Int)<=1;omega
 | .bool,_=>by show(0:Int)<=1;omega
 | .str,_=>by show(0:Int)<=1;omega
 | .fn,_=>by show(0:Int)<=1;omega
 | .sl ks,xs=>rU (c:=cnR ks) xs λx _=>Q0 ks x
theorem Q0:∀ (ks:List Kd) (r:Row ks),0<=cnR ks r
 | [],_=>Int.le_refl _
 | k::ks,r=>by
  have h1:=VH k r.1
  have h2:=Q0 ks r.2
  show 0<=cnT k r.1+cnR ks r.2
  omega
end
mutual
theorem HK:∀ (k:Kd) (x:k.T),0<=szT k x
 | .int _,_=>Int.le_refl _
 | .bool,_=>Int.le_refl _
 | .str,s=>by show(0:Int)<=((ByteArray.size s:Nat):Int);omega
 | .fn,_=>Int.le_refl _
 | .sl ks,xs=>by
  have h:=rU (c:=szR ks) xs λx _=>zK ks x
  show(0:Int)<=((List.length xs:Nat):Int)+gM (szR ks) xs
  omega
theorem zK:∀ (ks:List Kd) (r:Row ks),0<=szR ks r
 | [],_=>Int.le_refl _
 | k::ks,r=>by
  have h1:=HK k r.1
  have h2:=zK ks r.2
  show 0<=szT k r.1+szR ks r.2
  omega
end
mutual
theorem VI:∀ (k:Kd) (x:k.T),H6 k=true->cnT k x<=(bif jD k then 1 else 0)+64*szT k x
 | .int _,_,_=>by show(1:Int)<=1+64*0;omega
 | .bool,_,_=>by show(1:Int)<=1+64*0;omega
 | .str,s,_=>by show(1:Int)<=1+64*((ByteArray.size s:Nat):Int);omega
 | .fn,_,_=>by show(1:Int)<=1+64*0;omega
 | .sl ks,xs,h=>by
  have h':(Nat.ble ks.length 64&&u5 ks)=true:=h
  rw[Bool.and_eq_true] at h'
  have hl:=Nat.le_of_ble_eq_true h'.1
  have:=J3 (c:=cnR ks) (d:=szR ks) (A:=64) (B:=64) xs λx _=>by
   have:=Q1 ks x h'.2
   omega
  show gM (cnR ks) xs<=0+64*(((List.length xs:Nat):Int)+gM (szR ks) xs)
  rw[Int.mul_add];omega
theorem Q1:∀ (ks:List Kd) (r:Row ks),u5 ks=true->cnR ks r<=(ks.length:Int)+64*szR ks r
 | [],_,_=>by show(0:Int)<=((0:Nat):Int)+64*0;omega
 | k::ks,r,h=>by
  have h':(H6 k&&u5 ks)=true:=h
  rw[Bool.and_eq_true] at h'
  have h1:=VI k r.1 h'.1
  have h2:=Q1 ks r.2 h'.2
  have h3:=HK k r.1
  show cnT k r.1+cnR ks r.2<=(((ks.length+1:Nat):Nat):Int)+64*(szT k r.1+szR ks r.2)
  grind
end
/-- A number as a cell of a kind holds it. -/
def wr(j:IntKind)(n:Int):Int:=match j with
 | .i64=>n
 | j=>j.wrap n
section
variable (txt:Int->ByteArray)
mutual
/-- A value whose cells are numbered. -/
def mkT:(k:Kd)->k.T->Int->k.T
 | .int j,_,n=>wr j n
 | .bool,_,n=>n.tmod 3==0
 | .str,_,n=>txt n
 | .fn,x,_=>x
 | .sl ks,xs,n=>QL (mkR ks) (cnR ks) xs n
def mkR:(ks:List Kd)->Row ks->Int->Row ks
 | [],_,_=>()
 | k::ks,r,n=>(mkT k r.1 n,mkR ks r.2 (n+cnT k r.1))
end
end
section
variable {ι σ α:Type} {c:Nat->ι->(σ->Option Out)->σ->Option Out} {r:ι->Option Out}
theorem DY{d:α->Int}(hd:∀ x,0<=d x){xs:List α}{i:Nat}(h:i<xs.length):0<=gM d (xs.take i)/\gM d (xs.take i)+d xs[i]<=gM d xs:=by
 have e:gM d xs=gM d (xs.take (i+1))+gM d (xs.drop (i+1)):=by rw[<- p5,List.take_append_drop]
 rw[e,zL h]
 have h1:=rU (c:=d) (xs.take i) λx _=>hd x
 have h2:=rU (c:=d) (xs.drop (i+1)) λx _=>hd x
 omega
end
mutual
/-- No row in a value is too long. -/
def LmT:(k:Kd)->k.T->Prop
 | .int _,_=>True
 | .bool,_=>True
 | .str,_=>True
 | .fn,_=>True
 | .sl ks,xs=>List.length xs<=4611686018427387904/\∀ (i:Nat) (r:Row ks),at? xs i=some r->LmR ks r
def LmR:(ks:List Kd)->Row ks->Prop
 | [],_=>True
 | k::ks,r=>LmT k r.1/\LmR ks r.2
end
mutual
theorem TSm.lm:∀ (k:Kd) (x:k.T),TSm k x->LmT k x
 | .int _,_,_=>trivial
 | .bool,_,_=>trivial
 | .str,_,_=>trivial
 | .fn,_,_=>trivial
 | .sl ks,xs,h=>⟨Nat.le_trans h.1 (by decide),λi r hr=>Small.lm ks r (h.2 i r hr)⟩
theorem Small.lm:∀ (ks:List Kd) (r:Row ks),Small ks r->LmR ks r
 | [],_,_=>trivial
 | k::ks,r,h=>⟨TSm.lm k r.1 h.1,Small.lm ks r.2 h.2⟩
end
mutual
theorem UL:∀ (k:Kd) (x:k.T),szT k x<=4611686018427387904->LmT k x
 | .int _,_,_=>trivial
 | .bool,_,_=>trivial
 | .str,_,_=>trivial
 | .fn,_,_=>trivial
 | .sl ks,xs,h=>by
  have h':((List.length xs:Nat):Int)+gM (szR ks) xs<=4611686018427387904:=h
  have h2:=rU (c:=szR ks) xs λx _=>zK ks x
  refine⟨by omega,λi r hr=>N2 ks r ?_⟩
  obtain⟨hi,rfl⟩:=TN hr
  have:=(DY (d:=szR ks) (λx=>zK ks x) hi)
  omega
theorem N2:∀ (ks:List Kd) (r:Row ks),szR ks r<=4611686018427387904->LmR ks r
 | [],_,_=>trivial
 | k::ks,r,h=>by
  have h':szT k r.1+szR ks r.2<=4611686018427387904:=h
  have h1:=HK k r.1
  have h2:=zK ks r.2
  exact⟨UL k r.1 (by omega),N2 ks r.2 (by omega)⟩
end
theorem jZ{α:Type}{c:α->Int}{n:Int}(h:∀ x,c x=n):∀ xs:List α,gM c xs=n*(xs.length:Int)
 | []=>by show(0:Int)=n*((0:Nat):Int);simp
 | x::xs=>by
  show c x+gM c xs=n*(((xs.length+1:Nat):Nat):Int)
  rw[h,jZ h xs,show(((xs.length+1:Nat):Nat):Int)=(xs.length:Int)+1 from by omega,Int.mul_add];omega
theorem yP{α ρ:Type}(x:α)(f:α->Option ρ):HQ x f=f x:=rfl
theorem set_set{α:Type}(ys:List α)(i:Nat)(x y:α):(ys.set i x).set i y=ys.set i y:=by simp
end Go.Abs
-- exchanges begun and gone through: plain laws
namespace Go.Abs
def p4(x:NodeT)(to:Int):Bool:=dU x&&(mM x to&&(!decide (dE x.sess to false>=0)&&(!((x.sess.length:Int)==x.slots)&& !(x.num==100000))))
def FF(x:NodeT)(to:Int):NodeT:=
 (x.1,x.2.1,x.2.2.1,x.2.2.2.1,x.2.2.2.2.1,x.2.2.2.2.2.1,x.2.2.2.2.2.2.1,x.2.2.2.2.2.2.2.1,x.2.2.2.2.2.2.2.2.1,x.got,x.acked,x.seen,i64.wrap (x.num+1),x.slots,x.sess++[(to,i64.wrap (x.num+1),false,(0:Int),())],x.wait,x.limit,x.clock,x.rises,())
def UN(x:NodeT)(to:Int):MsgT:=(2,x.1,to,i64.wrap (x.num+1),cA x.log,x.tree.1,x.tree.2.1,x.got,[],[],[],c7 x.state,())
def AC:MsgT:=((0:Int),(0:Int),(0:Int),(0:Int),(0:Int),[],(0:Int),[],[],[],[],[],())
abbrev WF:=NodeT×MsgT×Bool
def iH(x:NodeT)(to:Int):WF:=bif p4 x to then(FF x to,UN x to,true)else(x,AC,false)
structure SynOk (x:NodeT) (to:Int):Prop where
 node:NodeOk x
 peer:0<=to/\to<x.2.1/\to≠x.1
 slot:dE x.sess to false<0
 room:(x.sess.length:Int)<x.slots
 num:0<=x.num/\x.num<100000
 nn:1<=x.2.1/\x.2.1<=5
theorem uL{x:NodeT}{to:Int}(h:p4 x to=true):SynOk x to:=by
 unfold p4 mM at h
 simp only[Bool.and_eq_true,Bool.not_eq_true',decide_eq_false_iff_not,beq_eq_false_iff_ne,bne_iff_ne,aL] at h
 obtain⟨h1,⟨h2,h3⟩,h4,h5,h6⟩:=h
 have hn:=(fD x).1 h1
 have h7:=hn.n;have h8:=hn.num
 have h9:=((dS x).1 hn.sess).1
 rw[aL] at h7 h8
 rw[IntKind.wrap_i64] at h2
 exact⟨hn,by omega,by omega,by omega,by omega,by omega⟩
theorem H3{n:Int}(h:0<=n/\n<100000):i64.wrap (n+1)=n+1:=by rw[IntKind.wrap_i64];omega
theorem SynOk.up{x:NodeT}{to:Int}(h:SynOk x to):NodeOk (FF x to) where
 n:=h.node.n
 id:=h.node.id
 state:=h.node.state
 tree:=h.node.tree
 log:=h.node.log
 got:=h.node.got
 acked:=h.node.acked
 own:=h.node.own
 seen:=h.node.seen
 ack:=h.node.ack
 num:=by show inB (i64.wrap (x.num+1)) 0 100000=true;rw[H3 h.num,aL];have:=h.num;omega
 clock:=h.node.clock
 slots:=h.node.slots
 wait:=h.node.wait
 limit:=h.node.limit
 rises:=h.node.rises
 rise:=h.node.rise
 sess:=by
  have hs:=(dS x).1 h.node.sess
  refine(dS _).2 ⟨?_,λs hm=>?_,?_⟩
  ·show(((x.sess++[_]).length:Nat):Int)<=x.slots
   rw[List.length_append,List.length_singleton];have:=h.room;omega
  ·have hm:s∈x.sess++[(to,i64.wrap (x.num+1),false,(0:Int),())]:=hm
   rcases List.mem_append.1 hm with h1 | h1
   ·exact hs.2.1 s h1
   ·rw[List.mem_singleton.1 h1]
    have h2:=h.peer;have h3:=h.num;have h4:=h.node.wait;have h5:=h.nn
    rw[aL] at h4
    refine⟨?_,h2.2.2,?_,?_⟩
    ·show inB to 0 (i64.wrap (x.2.1 - 1))=true
     rw[aL,IntKind.wrap_i64];omega
    ·show inB (i64.wrap (x.num+1)) 0 100000=true
     rw[H3 h.num,aL];omega
    ·show inB 0 0 x.wait=true
     rw[aL];omega
  ·show(List.map pV (x.sess++[(to,i64.wrap (x.num+1),false,(0:Int),())])).Nodup
   rw[List.map_append,List.nodup_append]
   refine⟨hs.2.2,by simp,λa ha b hb=>?_⟩
   obtain⟨s,hs1,rfl⟩:=List.mem_map.1 ha
   have hb:b=(to,false):=by simpa [pV] using hb
   rw[hb]
   rcases hI x.sess to false with ⟨k,_,e,_⟩ | ⟨_,e⟩
   ·have:=h.slot;rw[e] at this;omega
   grind
theorem FE{x:NodeT}{to:Int}(hz:SzN x)(h:SynOk x to):SzN (FF x to):=
 ⟨hz.state,hz.leaves,hz.list,hz.logs,hz.got,hz.acked,hz.seen,hz.lines,by
  have h1:=h.room;have h2:=h.node.slots;rw[aL] at h2
  show(x.sess++[_]).length<=aP
  rw[List.length_append,List.length_singleton];unfold aP;omega,hz.rises⟩
theorem R8{x:NodeT}(hz:SzN x)(to:Int):SzM (UN x to):=⟨hz.leaves,hz.got,Nat.zero_le _,kA,Nat.le_trans (fS _) (by decide)⟩
theorem KG:SzM AC:=⟨Nat.zero_le _,Nat.zero_le _,Nat.zero_le _,kA,Nat.zero_le _⟩
theorem DX{x:NodeT}(hz:SzN x)(to:Int):SzN (iH x to).1/\SzM (iH x to).2.1:=by
 unfold iH
 cases h:p4 x to with
 | false=>exact⟨hz,KG⟩
 | true=>exact⟨FE hz (uL h),R8 hz to⟩
theorem N3{x:NodeT}{to:Int}(h:p4 x to=true):iH x to=(FF x to,UN x to,true):=by unfold iH;rw[h];rfl
theorem R6{x:NodeT}{to:Int}(h:p4 x to=false):iH x to=(x,AC,false):=by unfold iH;rw[h];rfl
-- who answers whom
structure RecTo (x:NodeT) (m:MsgT) (r:JY):Prop where
 id:r.1.1=x.1
 to:∀ q∈r.2.1,q.2.2.1=m.2.1/\q.2.1=x.1
-- an exchange gone through
end Go.Abs
-- saying: plain laws
namespace Go.Abs
abbrev RM:=aE×Int
def z6(id:Int)(e:bA):aE:=bif aM ([(id,e)],[],())then([(id,e)],[],())else iX
theorem u4(id:Int)(e:bA):aM (z6 id e)=true:=by
 unfold z6
 cases h:aM ([(id,e)],[],())with
 | true=>grind
 | false=>rfl
def upE(s:aE)(id:Int):bA×Int:=bif aM s then(bif eN id then(bif(pA s id).2 then((pA s id).1,0)else(dN,3))else(dN,1))else(dN,1)
def u9(s:aE)(id:Int):Int:=mxI true (bE s id).1.1 (cL s.2.1 id)
def rY(s:aE)(id:Int):RM:=bif aM s then(bif eN id then(bif(pA s id).2 then(iX,2)else bif u9 s id==1000 then(iX,4)else(z6 id (i64.wrap (u9 s id+1),0,0,0,⟨#[]⟩,()),0))else(iX,1))else(iX,1)
def sA(s:aE)(id:Int):RM:=bif(upE s id).2 != 0 then(iX,(upE s id).2)else bif(upE s id).1.2.2.1==100000 then(iX,4)else
 (z6 id ((upE s id).1.1,(upE s id).1.2.1,i64.wrap ((upE s id).1.2.2.1+1),(upE s id).1.2.2.2.1,(upE s id).1.2.2.2.2.1,()),0)
def vX(s:aE)(id:Int)(t:ByteArray):RM:=bif(upE s id).2 != 0 then(iX,(upE s id).2)else bif(upE s id).1.2.2.2.1==1000 then(iX,4)else bif decide (((ByteArray.size t:Nat):Int)>8)then(iX,4)else
 (z6 id ((upE s id).1.1,(upE s id).1.2.1,(upE s id).1.2.2.1,i64.wrap ((upE s id).1.2.2.2.1+1),t,()),0)
def rZ(s:aE)(id:Int):RM:=bif(upE s id).2 != 0 then(iX,(upE s id).2)else(z6 id ((upE s id).1.1,1,(upE s id).1.2.2.1,(upE s id).1.2.2.2.1,(upE s id).1.2.2.2.2.1,()),0)
def fR(s:aE)(k id:Int)(t:ByteArray):RM:=bif k==0 then rY s id else bif k==1 then sA s id else bif k==2 then vX s id t else rZ s id
theorem HS(s:aE)(id:Int):aM (rY s id).1=true:=by
 unfold rY
 cases aM s<;>cases eN id<;>cases (pA s id).2<;>cases u9 s id==1000<;>first | rfl | exact u4 _ _
theorem HU(s:aE)(id:Int):aM (sA s id).1=true:=by
 unfold sA
 cases (upE s id).2 != 0<;>cases (upE s id).1.2.2.1==100000<;>first | rfl | exact u4 _ _
theorem LW(s:aE)(id:Int)(t:ByteArray):aM (vX s id t).1=true:=by
 unfold vX
 cases (upE s id).2 != 0<;>cases (upE s id).1.2.2.2.1==1000<;>cases decide (((ByteArray.size t:Nat):Int)>8)<;>first | rfl | exact u4 _ _
theorem HT(s:aE)(id:Int):aM (rZ s id).1=true:=by
 unfold rZ
 cases (upE s id).2 != 0<;>first | rfl | exact u4 _ _
theorem FO(s:aE)(k id:Int)(t:ByteArray):aM (fR s k id t).1=true:=by
 unfold fR
 cases k==0
 ·cases k==1
  ·cases k==2
   ·exact HT s id
   ·exact LW s id t
  ·exact HU s id
 ·exact HS s id
-- logs
def mW(l:f0)(d:aE):Bool:=gK l&&(aM d&& !(i64.wrap (l.2.1+(l.2.2.1.length:Int))==100000))
def gH(l:f0)(d:aE):f0:=bif decide ((((l.2.2.1++[d]).length:Nat):Int)>l.1)then(l.1,i64.wrap (l.2.1+1),(l.2.2.1++[d]).drop 1,())else(l.1,l.2.1,l.2.2.1++[d],())
def tN(l:f0)(d:aE):f0×Bool:=bif mW l d then(gH l d,true)else(l,false)
structure LogOk (l:f0):Prop where
 cap:1<=l.1/\l.1<=8
 len:(l.2.2.1.length:Int)<=l.1
 frm:0<=l.2.1/\l.2.1<=100000
 top:l.2.1+(l.2.2.1.length:Int)<=100000
 all:∀ s∈l.2.2.1,aM s=true
theorem nN(l:f0):gK l=true↔LogOk l:=by
 unfold gK
 simp only[Bool.and_eq_true,aL,Bool.not_eq_true',decide_eq_false_iff_not,bD]
 constructor
 ·rintro ⟨h1,h2,h3,h4,h5⟩
  rw[IntKind.wrap_i64] at h4
  refine⟨h1,by omega,h3,by omega,λs hs=>?_⟩
  obtain⟨i,hi,rfl⟩:=fX hs
  simp_all
 ·rintro ⟨h1,h2,h3,h4,h5⟩
  rw[IntKind.wrap_i64]
  exact⟨h1,by omega,h3,by omega,λi hi=>h5 _ (bR hi)⟩
theorem sH{l:f0}(h:LogOk l):cA l=l.2.1+(l.2.2.1.length:Int):=by
 have h1:=h.frm;have h2:=h.top
 unfold cA;rw[(nN l).2 h];show i64.wrap _=_;rw[IntKind.wrap_i64];omega
theorem MO{l:f0}{d:aE}(h:LogOk l)(hd:aM d=true)(hn:l.2.1+(l.2.2.1.length:Int)<100000):LogOk (gH l d)/\cA (gH l d)=cA l+1:=by
 have h1:=h.cap;have h2:=h.len;have h3:=h.frm
 have hl:(l.2.2.1++[d]).length=l.2.2.1.length+1:=by rw[List.length_append,List.length_singleton]
 have ha:∀ s∈l.2.2.1++[d],aM s=true:=λs hs=>by
  rcases List.mem_append.1 hs with hs | hs
  ·exact h.all s hs
  simp_all
 have key:LogOk (gH l d)/\(gH l d).2.1+(((gH l d).2.2.1.length:Nat):Int)=l.2.1+(l.2.2.1.length:Int)+1:=by
  unfold gH
  by_cases hc:(((l.2.2.1++[d]).length:Nat):Int)>l.1
  ·rw[decide_eq_true hc]
   have hw:i64.wrap (l.2.1+1)=l.2.1+1:=by rw[IntKind.wrap_i64];omega
   have hdl:((l.2.2.1++[d]).drop 1).length=l.2.2.1.length:=by rw[List.length_drop,hl];omega
   refine⟨⟨h1,?_,?_,?_,λs hs=>ha s (List.mem_of_mem_drop hs)⟩,?_⟩
   ·simp_all
   ·grind
   ·grind
   grind
  ·rw[decide_eq_false hc]
   rw[hl] at hc
   refine⟨⟨h1,?_,h3,?_,ha⟩,?_⟩
   ·simp_all
   ·grind
   grind
 exact⟨key.1,by rw[sH key.1,sH h];omega⟩
-- a node says
def uQ(x:NodeT)(k id:Int):Bool:=dU x&&(inB k 0 4&&(inB id 0 (i64.wrap (x.2.1 - 1))&& !(rM (k==4) (id==x.1))))
def J7(x:NodeT)(d:aE):NodeT:=
 (x.1,x.2.1,x.2.2.1,x.2.2.2.1,x.2.2.2.2.1,x.2.2.2.2.2.1,(gH x.log d).1,(gH x.log d).2.1,(gH x.log d).2.2.1,x.got.set x.1.toNat (i64.wrap ((gt x.got x.1.toNat).1+1),()),x.acked,x.seen,x.num,x.slots,x.sess,x.wait,x.limit,x.clock,x.rises,())
abbrev K0:=NodeT×aE×Int
def iU(x:NodeT)(k id:Int)(t:ByteArray):K0:=
 bif uQ x k id then(bif(fR x.state k id t).2 != 0 then(x,iX,(fR x.state k id t).2)else bif mW x.log (fR x.state k id t).1 then(jN (J7 x (fR x.state k id t).1) (fR x.state k id t).1,(fR x.state k id t).1,0)else(x,iX,4))else(x,iX,1)
theorem zR{x:NodeT}{d:aE}(h:NodeOk x)(hd:mW x.log d=true):NodeOk (J7 x d):=by
 unfold mW at hd
 simp only[Bool.and_eq_true,Bool.not_eq_true',beq_eq_false_iff_ne] at hd
 have hL:=(nN x.log).1 h.log
 have h1:=hL.frm;have h2:=hL.top;have h3:=hL.len;have h4:=hL.cap
 have hw:i64.wrap (x.log.2.1+(x.log.2.2.1.length:Int))=x.log.2.1+(x.log.2.2.1.length:Int):=by rw[IntKind.wrap_i64];omega
 rw[hw] at hd
 obtain⟨p1,p2⟩:=MO hL hd.2.1 (by omega)
 have hs:cA x.log<100000/\0<=cA x.log:=by rw[sH hL];omega
 have hg:(gt x.got x.1.toNat).1=cA x.log:=eq_of_beq h.own
 have hwg:i64.wrap ((gt x.got x.1.toNat).1+1)=cA x.log+1:=by rw[hg,IntKind.wrap_i64];omega
 have hid:=h.id;have hn:=h.n;have hv:=h.got
 rw[aL] at hid hn
 rw[IntKind.wrap_i64] at hid
 unfold eD at hv
 simp only[Bool.and_eq_true,beq_iff_eq] at hv
 have hk:x.1.toNat<x.got.length:=by omega
 exact {
  n:=h.n,id:=h.id,state:=h.state,tree:=h.tree
  log:=(nN _).2 p1
  got:=by
   show eD (x.got.set x.1.toNat _) x.2.1=true
   unfold eD
   simp only[Bool.and_eq_true,beq_iff_eq]
   rw[List.length_set]
   refine⟨hv.1,hv.2.1,?_⟩
   have h5:=bD.1 hv.2.2
   rw[bD]
   intro i hi
   by_cases e:x.1.toNat=i
   ·rw[<- e,bO hk];show inB (i64.wrap _) 0 100000=true;rw[hwg,aL];omega
   ·rw[dZ e];simp_all
  acked:=h.acked
  own:=by
   show((gt (x.got.set x.1.toNat (i64.wrap ((gt x.got x.1.toNat).1+1),())) x.1.toNat).1==cA (gH x.log d))=true
   rw[bO hk,p2,beq_iff_eq];omega
  seen:=h.seen
  ack:=by
   have h6:=h.ack
   unfold BO at h6 ⊢
   rw[bD] at h6 ⊢
   intro i hi
   have h7:=h6 i hi
   show(!decide ((gt x.acked i).1>cA (gH x.log d)))=true
   rw[p2]
   grind
  num:=h.num,clock:=h.clock,slots:=h.slots,wait:=h.wait,limit:=h.limit,rises:=h.rises,rise:=h.rise,sess:=h.sess }
theorem II(l:f0)(d:aE):(gH l d).2.2.1.length<=l.2.2.1.length+1:=by
 unfold gH
 grind
theorem FP{x:NodeT}{d:aE}(hz:SzN x)(h:NodeOk x)(hd:mW x.log d=true):SzN (J7 x d):=by
 have ho:=(nN _).1 (zR h hd).log
 have h1:=ho.cap;have h2:=ho.len
 refine⟨hz.state,hz.leaves,?_,λi hi=>?_,?_,hz.acked,hz.seen,hz.lines,hz.sess,hz.rises⟩
 ·unfold aP;omega
 ·have:=((aN _).1 (ho.all _ (bR hi))).len
  exact⟨by unfold aP;omega,by unfold aP;omega⟩
 ·show(x.got.set _ _).length<=aP;rw[List.length_set];exact hz.got
theorem SG{x:NodeT}(h:NodeOk x)(k id:Int)(t:ByteArray):NodeOk (iU x k id t).1:=by
 unfold iU
 cases uQ x k id with
 | false=>grind
 | true=>
  cases (fR x.state k id t).2 != 0 with
  | true=>grind
  | false=>
   cases hb:mW x.log (fR x.state k id t).1 with
   | false=>grind
   | true=>exact(zR h hb).take (FO _ _ _ _)
theorem J6{x:NodeT}(hz:SzN x)(k id:Int)(t:ByteArray):SzN (iU x k id t).1:=by
 unfold iU
 cases hs:uQ x k id with
 | false=>grind
 | true=>
  have h:NodeOk x:=(fD x).1 (by unfold uQ at hs;simp_all)
  cases (fR x.state k id t).2 != 0 with
  | true=>grind
  | false=>
   cases hb:mW x.log (fR x.state k id t).1 with
   | false=>grind
   | true=>exact lT (FP hz h hb) _
end Go.Abs
-- check sums lie in 0 .. 2^32 - 1: plain laws
namespace Go.Abs
def kR(x:Int):Prop:=0<=x/\x<4294967296
theorem E3{a b:Int}(ha:kR a)(hb:kR b):kR (eJ .i64 a b):=by
 obtain⟨n,rfl⟩:∃ n:Nat,a=n:=⟨a.toNat,by have:=ha.1;omega⟩
 obtain⟨m,rfl⟩:∃ m:Nat,b=m:=⟨b.toNat,by have:=hb.1;omega⟩
 have hn:n<2 ^ 32:=by have:=ha.2;omega
 have hm:m<2 ^ 32:=by have:=hb.2;omega
 unfold eJ
 have h:(BitVec.ofInt i64.bits (n:Int) ^^^ BitVec.ofInt i64.bits (m:Int)).toNat<2 ^ 32:=by
  rw[BitVec.toNat_xor]
  have e1:(BitVec.ofInt i64.bits (n:Int)).toNat=n:=by
   rw[BitVec.toNat_ofInt];show((n:Int) % ((2 ^ 64:Nat):Int)).toNat=n;omega
  have e2:(BitVec.ofInt i64.bits (m:Int)).toNat=m:=by
   rw[BitVec.toNat_ofInt];show((m:Int) % ((2 ^ 64:Nat):Int)).toNat=m;omega
  rw[e1,e2];exact Nat.xor_lt_two_pow hn hm
 generalize (BitVec.ofInt i64.bits (n:Int) ^^^ BitVec.ofInt i64.bits (m:Int)).toNat=k at h
 have e:i64.wrap (k:Int)=k:=by rw[IntKind.wrap_i64];omega
 rw[e];exact⟨by omega,by omega⟩
theorem QY{x:Int}(h:kR x):kR (nC x):=by
 have hd:0<=x.tdiv 2/\x.tdiv 2<4294967296:=by
  have h1:=h.1;have h2:=h.2
  rw[Int.tdiv_eq_ediv_of_nonneg h1];omega
 have hw:i64.wrap (x.tdiv 2)=x.tdiv 2:=by rw[IntKind.wrap_i64];omega
 unfold nC
 rw[hw]
 cases (x.tmod 2)==1 with
 | true=>exact E3 hd ⟨by omega,by omega⟩
 | false=>exact hd
theorem sK{x:Int}(h:kR x):∀ k,kR (fG k x)
 | 0=>h
 | k+1=>QY (sK h k)
theorem sJ{bs:List aH}(h:∀ b∈bs,kR b.1):∀ i,i<=bs.length->kR (jV bs i)
 | 0,_=>⟨by show(0:Int)<=4294967295;omega,by show(4294967295:Int)<4294967296;omega⟩
 | i+1,hi=>by
  have hb:=h _ (bR (xs:=bs) (i:=i) (by omega))
  have hw:i64.wrap (gt bs i).1=(gt bs i).1:=by have h1:=hb.1;have h2:=hb.2;rw[IntKind.wrap_i64];omega
  show kR (fG 8 (eJ .i64 (jV bs i) (i64.wrap (gt bs i).1)))
  rw[hw]
  exact sK (E3 (sJ h i (by omega)) hb) 8
theorem QZ{bs:List aH}(h:∀ b∈bs,kR b.1):kR (crc bs):=by
 unfold crc
 exact E3 (sJ h _ (Nat.le_refl _)) ⟨by omega,by omega⟩
def B32(bs:List aH):Prop:=∀ b∈bs,kR b.1
theorem B32.app{a b:List aH}(ha:B32 a)(hb:B32 b):B32 (a++b):=λx hx=>by
 rcases List.mem_append.1 hx with h | h
 ·exact ha x h
 ·exact hb x h
theorem B32.flat{α:Type}{f:α->List aH}(h:∀ x,B32 (f x))(xs:List α):B32 (xs.flatMap f):=λx hx=>by
 obtain⟨a,_,ha⟩:=List.mem_flatMap.1 hx
 exact h a x ha
theorem UU(n:Nat):B32 (hS n):=by
 induction n using Nat.strongRecOn with
 | _ n ih=>
  unfold hS
  split
  ·rename_i h
   intro b hb
   rw[List.mem_singleton.1 hb];exact⟨by omega,by omega⟩
  ·rename_i h
   intro b hb
   rcases List.mem_cons.1 hb with e | e
   ·rw[e];exact⟨by omega,by omega⟩
   ·exact ih (n / 128) (Nat.div_lt_self (by omega) (by omega)) b e
theorem gT(x:Int):B32 (aG x):=by
 unfold aG
 cases inB x 0 2147483647 with
 | false=>intro b hb;grind
 | true=>exact UU _
theorem MC(t:ByteArray):B32 (dM t):=by
 unfold dM
 refine(gT _).app λb hb=>?_
 unfold fM eP at hb
 obtain⟨u,_,rfl⟩:=List.mem_map.1 hb
 have:=u.toNat_lt
 exact⟨by omega,by omega⟩
theorem Q7(s:aE):B32 (bG s):=by
 unfold bG
 refine(((gT _).app (B32.flat (λx=>?_) _)).app (gT _)).app (B32.flat (λf=>?_) _)
 ·unfold aY;exact(((((gT _).app (gT _)).app (gT _)).app (gT _)).app (gT _)).app (MC _)
 ·unfold aU;exact(gT _).app (gT _)
theorem FA{x:Int}(h:kR x):inB (x.tmod 1024) 0 1023=true:=by
 rw[aL];have:=uJ (x:=x) (n:=1024) h.1 (by omega);omega
theorem pC(s:aE)(k:Int):inB (iT s k) 0 1023=true:=by
 unfold iT
 cases aM s&&inB k 0 3 with
 | true=>exact FA (QZ (Q7 _))
 | false=>rfl
theorem NX{s:aE}(h:aM s=true):treeB (cH s)=true:=by
 unfold cH;rw[h]
 show treeB (dL s,lW (dL s),())=true
 have hr:inB (lW (dL s)) 0 1023=true:=FA (QZ (B32.flat (λx=>gT _) _))
 have hl:kI (dL s) 1023=true:=bD.2 λi hi=>by
  match i,hi with
  | 0,_=>exact pC s 0
  | 1,_=>exact pC s 1
  | 2,_=>exact pC s 2
  | 3,_=>exact pC s 3
 unfold treeB
 rw[hl,hr];rfl
end Go.Abs
-- states as points of a lattice: plain laws
namespace Go.Abs
-- comparing one after another
structure Cmp {α:Type} (c:α->α->Int):Prop where
 neg:∀ a b,c b a= - c a b
 eq:∀ a b,c a b=0->a=b
 tr:∀ a b d,c a b<=0->c b d<=0->c a d<=0
theorem Cmp.self{α:Type}{c:α->α->Int}(h:Cmp c)(a:α):c a a=0:=by have:=h.neg a a;omega
theorem Cmp.lex{α β:Type}{c:α->α->Int}{d:β->β->Int}(hc:Cmp c)(hd:Cmp d):Cmp (fun(a b:α×β)=>if c a.1 b.1≠0 then c a.1 b.1 else d a.2 b.2) where
 neg a b:=by
  show(if c b.1 a.1≠0 then c b.1 a.1 else d b.2 a.2)= -(if c a.1 b.1≠0 then c a.1 b.1 else d a.2 b.2)
  rw[hc.neg a.1 b.1,hd.neg a.2 b.2];omega
 eq a b h:=by
  have h:(if c a.1 b.1≠0 then c a.1 b.1 else d a.2 b.2)=0:=h
  by_cases h0:c a.1 b.1=0
  ·rw[if_neg (λg=>g h0)] at h
   exact Prod.ext (hc.eq _ _ h0) (hd.eq _ _ h)
  omega
 tr a b e h1 h2:=by
  have h1:(if c a.1 b.1≠0 then c a.1 b.1 else d a.2 b.2)<=0:=h1
  have h2:(if c b.1 e.1≠0 then c b.1 e.1 else d b.2 e.2)<=0:=h2
  show(if c a.1 e.1≠0 then c a.1 e.1 else d a.2 e.2)<=0
  have k2:c b.1 e.1<=0:=by
   omega
  by_cases h0:c a.1 b.1=0
  ·rw[if_neg (λg=>g h0)] at h1
   rw[hc.eq _ _ h0]
   by_cases g0:c b.1 e.1=0
   ·rw[if_neg (λg=>g g0)] at h2 ⊢;exact hd.tr _ _ _ h1 h2
   omega
  ·rw[if_pos h0] at h1
   have k3:=hc.tr _ _ _ h1 k2
   by_cases g0:c a.1 e.1=0
   ·have e1:=hc.eq _ _ g0
    rw[<- e1,hc.neg a.1 b.1] at k2;omega
   omega
theorem l2_cmp:Cmp l2 where
 neg:=AS
 eq a b h:=by
  unfold l2 at h
  grind
 tr a b d h1 h2:=by
  have key:∀ x y:Int,l2 x y<=0↔x<=y:=λx y=>by
   unfold l2
   grind
  rw[key] at h1 h2 ⊢;omega
theorem KK{x y:Int}(h:l2 x y<=0):x<=y:=by
 unfold l2 at h
 grind
theorem TB(x:Int):l2 x x=0:=l2_cmp.self x
theorem G1:∀ x y:List UInt8,Lib.compareBytes x y=0->x=y
 | [],[],_=>rfl
 | [],_::_,h=>by unfold Lib.compareBytes at h;omega
 | _::_,[],h=>by unfold Lib.compareBytes at h;omega
 | a::x,b::y,h=>by
  unfold Lib.compareBytes at h
  by_cases h1:a<b
  ·rw[if_pos h1] at h;omega
  ·rw[if_neg h1] at h
   by_cases h2:b<a
   ·rw[if_pos h2] at h;omega
   ·rw[if_neg h2] at h
    have e:a=b:=UInt8.toNat_inj.1 (by rw[UInt8.lt_iff_toNat_lt] at h1 h2;omega)
    rw[e,G1 x y h]
theorem G0:∀ x y z:List UInt8,Lib.compareBytes x y<=0->Lib.compareBytes y z<=0->Lib.compareBytes x z<=0
 | [],_,[],_,_=>by unfold Lib.compareBytes;omega
 | [],_,_::_,_,_=>by unfold Lib.compareBytes;omega
 | _::_,[],_,h,_=>by unfold Lib.compareBytes at h;omega
 | _::_,_::_,[],_,h=>by unfold Lib.compareBytes at h;omega
 | a ::x,b::y,c::z,h1,h2=>by
  unfold Lib.compareBytes at h1 h2 ⊢
  simp only[UInt8.lt_iff_toNat_lt] at h1 h2 ⊢
  by_cases c1:a.toNat<b.toNat
  ·omega
  ·rw [if_neg c1] at h1
   by_cases c2:b.toNat<a.toNat
   ·rw[if_pos c2] at h1;omega
   ·rw[if_neg c2] at h1
    by_cases c3:b.toNat<c.toNat
    ·rw[if_pos (by omega)];omega
    ·rw[if_neg c3] at h2
     by_cases c4:c.toNat<b.toNat
     ·rw[if_pos c4] at h2;omega
     ·rw[if_neg c4] at h2
      rw[if_neg (by omega),if_neg (by omega)];exact G0 x y z h1 h2
theorem Q2:Cmp (fun(a b:ByteArray×Unit)=>JI a.1 b.1) where
 neg a b:=wN _ _
 eq a b h:=by
  have h1:=G1 _ _ h
  obtain⟨⟨⟨x⟩⟩,u⟩:=a
  simp_all
 tr a b d h1 h2:=G0 _ _ _ h1 h2
theorem cmpE_cmp:Cmp jM:=l2_cmp.lex (l2_cmp.lex (l2_cmp.lex (l2_cmp.lex Q2)))
def leE(a b:bA):Prop:=jM a b<=0
theorem nP(a:bA):leE a a:=Int.le_of_eq (cmpE_cmp.self a)
theorem MP{a b c:bA}(h1:leE a b)(h2:leE b c):leE a c:=cmpE_cmp.tr _ _ _ h1 h2
theorem MQ(a b:bA):leE a b\/leE b a:=by unfold leE;have:=rJ a b;omega
theorem pD{a b:bA}(h1:leE a b)(h2:leE b a):a=b:=cmpE_cmp.eq _ _ (by unfold leE at h1 h2;have:=rJ a b;omega)
theorem mN{a b:bA}(h:leE a b):a.1<=b.1:=by
 unfold leE jM at h
 by_cases h0:l2 a.1 b.1=0
 ·exact KK (by omega)
 ·rw[if_pos h0] at h;exact KK h
theorem P4{a b:bA}(h:leE a b)(e:a.1=b.1):a.2.1<=b.2.1:=by
 unfold leE jM at h
 rw[e,if_neg (λg=>g (TB _))] at h
 by_cases h0:l2 a.2.1 b.2.1=0
 ·exact KK (by omega)
 ·rw[if_pos h0] at h;exact KK h
theorem NM{e:bA}(h:1<=e.1):leE dN e:=by unfold leE;rw[wK h];omega
theorem F8(a b:bA):leE a (mxE a b):=by
 unfold mxE
 by_cases h:jM a b<0
 ·rw[decide_eq_true h];show jM a b<=0;omega
 ·rw[decide_eq_false h];exact nP a
theorem PN(a b:bA):leE b (mxE a b):=by
 unfold mxE
 by_cases h:jM a b<0
 ·rw[decide_eq_true h];exact nP b
 ·rw[decide_eq_false h];show jM b a<=0;rw[rJ a b];omega
theorem H7(a b:bA):mxE a b=a\/mxE a b=b:=by
 unfold mxE;grind
theorem PO{a b:bA}(h:leE a b):mxE a b=b:=pD (by rcases H7 a b with e | e<;>rw[e];exact h;exact nP b) (PN a b)
theorem KD{a b:bA}(h:leE b a):mxE a b=a:=pD (by rcases H7 a b with e | e<;>rw[e];exact nP a;omega) (F8 a b)
-- points
def ent(s:aE)(i:Int):bA:=(bE s i).1
def flo(s:aE)(i:Int):Int:=cL s.2.1 i
structure Pt (e:bA) (f:Int):Prop where
 nn:0<=f
 up:e=dN\/f<e.1
def nrm(m:bA)(f:Int):bA:=if f<m.1 then m else dN
theorem gZ:dN.1=0:=rfl
theorem MV{s:aE}(h:StateOk s){x:bL}(hx:x∈s.1):bE s x.1=(x.2,true):=by
 rcases gD s x.1 with ⟨y,hy,h1,e⟩ | ⟨h1,_⟩
 ·have:y=x:=by
   obtain⟨i,hi,rfl⟩:=fX hx
   obtain⟨j,hj,rfl⟩:=fX hy
   have hp:=h.items
   rw[List.pairwise_iff_getElem] at hp
   rcases Nat.lt_trichotomy i j with h2 | h2 | h2
   ·have:=hp i j hi hj h2;rw[<- cJ hi,<- cJ hj] at this;omega
   ·rw[h2]
   ·have:=hp j i hj hi h2;rw[<- cJ hi,<- cJ hj] at this;omega
  rw[e,this]
 grind
theorem QU{s:aE}(h:StateOk s){x:bL}(hx:x∈s.1):ent s x.1=x.2:=by unfold ent;rw[MV h hx]
theorem GH{s:aE}(h:StateOk s){x:bL}(hx:x∈s.1):1<=x.2.1:=h.pos.item x hx
theorem nX{s:aE}(h:StateOk s)(i:Int):(1<=(ent s i).1/\(i,ent s i)∈s.1/\(bE s i).2=true/\eA (ent s i)=true)\/(ent s i=dN/\(bE s i).2=false):=by
 unfold ent
 rcases gD s i with ⟨x,hx,h1,e⟩ | ⟨h1,e⟩
 ·rw[e];subst h1;exact .inl ⟨GH h hx,hx,rfl,(h.item x hx).2.1⟩
 simp_all
theorem pP{s:aE}(h:StateOk s)(i:Int):Pt (ent s i) (flo s i):=by
 refine⟨(pI h i).1,?_⟩
 rcases nX h i with ⟨_,h2,_⟩ | ⟨h2,_⟩
 ·exact .inr (h.item _ h2).2.2
 simp_all
theorem EY{α:Type}{k:α->Int}:∀ {a b:List α},a.Pairwise (λx y=>k x<k y)->b.Pairwise (λx y=>k x<k y)->(∀ x,x∈a↔x∈b)->a=b
 | [],[],_,_,_=>rfl
 | [],y::_,_,_,h=>by have:=(h y).2 (List.mem_cons_self ..);simp_all
 | x::_,[],_,_,h=>by have:=(h x).1 (List.mem_cons_self ..);simp_all
 | x::a,y::b,ha,hb,h=>by
  rw[List.pairwise_cons] at ha hb
  have e:x=y:=by
   grind
  subst e
  rw[EY ha.2 hb.2 λz=>⟨λhz=>?_,λhz=>?_⟩]
  ·grind
  grind
theorem nJ{i:Int}(h:eN i=true):∃ k:Nat,k<5/\i=k:=by
 unfold eN at h;rw[aL] at h
 exact⟨i.toNat,by omega,by omega⟩
theorem OA{a b:aE}(ha:StateOk a)(hb:StateOk b)(h:∀ i:Nat,i<5->ent a i=ent b i/\flo a i=flo b i):a=b:=by
 have key:∀ {a b:aE},StateOk a->StateOk b->(∀ i:Nat,i<5->ent a i=ent b i/\flo a i=flo b i)->∀ x,x∈a.1->x∈b.1:=by
  intro a b ha hb h x hx
  obtain⟨k,hk,e⟩:=nJ (ha.item x hx).1
  have h1:=(h k hk).1
  rw[<- e,QU ha hx] at h1
  rcases nX hb x.1 with ⟨_,h2,_⟩ | ⟨h2,_⟩
  ·rw[<- h1] at h2;omega
  ·have:=GH ha hx;rw[h1,h2] at this;have:(1:Int)<=0:=this;omega
 have keyF:∀ {a b:aE},StateOk a->StateOk b->(∀ i:Nat,i<5->ent a i=ent b i/\flo a i=flo b i)->∀ x,x∈a.2.1->x∈b.2.1:=by
  intro a b ha hb h x hx
  obtain⟨k,hk,e⟩:=nJ (ha.floor x hx).1
  have h1:=(h k hk).2
  have h3:flo a x.1=x.2.1:=EP ha hx
  have h4:=(ha.floor x hx).2
  rw[aL] at h4
  rw[<- e,h3] at h1
  rcases eO b x.1 with ⟨y,hy,h5,h6⟩ | ⟨_,h6⟩
  ·have h6:flo b x.1=y.2.1:=h6
   grind
  ·have h6:flo b x.1=0:=h6
   omega
 have h':∀ i:Nat,i<5->ent b i=ent a i/\flo b i=flo a i:=λi hi=>⟨(h i hi).1.symm,(h i hi).2.symm⟩
 refine Prod.ext (EY (k:=λx:bL=>x.1) ha.items hb.items λx=>⟨key ha hb h x,key hb ha h' x⟩) (Prod.ext (EY (k:=λx:aO=>x.1) ha.floors hb.floors λx=>⟨keyF ha hb h x,keyF hb ha h' x⟩) rfl)
theorem nU{a b:aE}(ha:StateOk a){i:Nat}(hi:i<5):flo (c8 a b) i=max (flo a i) (flo b i):=by
 have hf:flr a b i=max (flo a i) (flo b i):=by unfold flr;rw[sS];rfl
 have h0:=QO (b:=b) ha.pos (i:Int)
 unfold flo
 rcases eO (c8 a b) i with ⟨x,hx,h1,e⟩ | ⟨h1,e⟩
 ·rw[e]
  obtain⟨j,_,hx⟩:=jT hx
  obtain⟨rfl,_⟩:=pG hx
  have:(j:Int)=(i:Int):=h1
  show flr a b (j:Int)=_
  rw[this];exact hf
 ·rw[e]
  by_cases h2:flr a b i>0
  ·refine absurd rfl (h1 ((i:Int),flr a b i,()) ?_)
   exact List.mem_flatMap.2 ⟨i,List.mem_range.2 hi,by rw[A0 h2];simp⟩
  ·show 0=max (flo a i) (flo b i)
   omega
theorem nW(a b:aE){i:Nat}(hi:i<5):ent (c8 a b) i=nrm (mxE (ent a i) (ent b i)) (max (flo a i) (flo b i)):=by
 have hf:flr a b i=max (flo a i) (flo b i):=by unfold flr;rw[sS];rfl
 have hp:eU a b i=mxE (ent a i) (ent b i):=rfl
 rw[<- hf,<- hp]
 unfold ent nrm
 rcases gD (c8 a b) i with ⟨x,hx,h1,e⟩ | ⟨h1,e⟩
 ·rw[e]
  obtain⟨j,_,hx⟩:=jT hx
  obtain⟨rfl,h2⟩:=wC hx
  grind
 ·rw[e]
  by_cases h2:flr a b i<(eU a b i).1
  ·refine absurd rfl (h1 ((i:Int),eU a b i) ?_)
   exact List.mem_flatMap.2 ⟨i,List.mem_range.2 hi,by rw[hY rfl h2];simp⟩
  grind
-- the order of points
def LeP(e:bA)(f:Int)(e':bA)(f':Int):Prop:=f<=f'/\(e.1<=f'\/leE e e')
theorem LeP.refl(e:bA)(f:Int):LeP e f e f:=⟨Int.le_refl f,.inr (nP e)⟩
theorem LeP.trans{e f e' f' e'' f''}(h:LeP e f e' f')(h':LeP e' f' e'' f''):LeP e f e'' f'':=by
 refine⟨Int.le_trans h.1 h'.1,?_⟩
 rcases h.2 with h2 | h2
 ·exact .inl (Int.le_trans h2 h'.1)
 ·rcases h'.2 with h3 | h3
  ·exact .inl (Int.le_trans (mN h2) h3)
  ·exact .inr (MP h2 h3)
theorem U0{m:bA}{f:Int}(h:Pt m f):nrm m f=m:=by
 unfold nrm
 rcases h.up with e | e
 ·simp_all
 simp_all
theorem KJ{e f e' f'}(h:Pt e f)(h':Pt e' f'):(nrm (mxE e e') (max f f')=e'/\max f f'=f')↔LeP e f e' f':=by
 constructor
 ·rintro ⟨h1,h2⟩
  refine⟨by omega,?_⟩
  rw[h2] at h1
  by_cases h3:e.1<=f'
  ·omega
  ·have h4:=mN (F8 e e')
   unfold nrm at h1
   rw[if_pos (by omega)] at h1
   exact .inr (by have:=F8 e e';rw[h1] at this;omega)
 ·rintro ⟨h1,h2⟩
  have hm:max f f'=f':=by omega
  rw[hm]
  refine⟨?_,rfl⟩
  by_cases hl:leE e e'
  ·rw[PO hl];exact U0 h'
  ·have h3:e.1<=f':=by simp_all
   have h4:leE e' e:=by rcases MQ e e' with h4 | h4;exact absurd h4 hl;omega
   rw[KD h4]
   unfold nrm
   rw[if_neg (by omega)]
   rcases h'.up with h5 | h5
   ·simp_all
   ·have:=mN h4;omega
theorem IP{e f e' f'}:LeP e f (nrm (mxE e e') (max f f')) (max f f'):=by
 refine⟨by omega,?_⟩
 by_cases h:e.1<=max f f'
 ·omega
 ·have h4:=mN (F8 e e')
  unfold nrm;rw[if_pos (by omega)];exact .inr (F8 e e')
theorem IO{e f e' f'}:LeP e' f' (nrm (mxE e e') (max f f')) (max f f'):=by
 refine⟨by omega,?_⟩
 by_cases h:e'.1<=max f f'
 ·omega
 ·have h4:=mN (PN e e')
  unfold nrm;rw[if_pos (by omega)];exact .inr (PN e e')
theorem TA{e f e' f' e'' f''}(h0:0<=f'')(h:LeP e f e'' f'')(h':LeP e' f' e'' f''):LeP (nrm (mxE e e') (max f f')) (max f f') e'' f'':=by
 refine⟨by have:=h.1;have:=h'.1;omega,?_⟩
 unfold nrm
 split
 ·rcases H7 e e' with e1 | e1<;>rw[e1]
  ·exact h.2
  ·exact h'.2
 ·exact .inl h0
theorem EL{e f e' f'}(h:Pt e f)(h':Pt e' f')(h1:LeP e f e' f')(h2:LeP e' f' e f):e=e'/\f=f':=by
 have hf:f=f':=Int.le_antisymm h1.1 h2.1
 subst hf
 refine⟨?_,rfl⟩
 have hz:=h.nn
 rcases h.up with e0 | e0
 ·rcases h'.up with e1 | e1
  ·rw[e0,e1]
  ·rcases h2.2 with h3 | h3
   ·omega
   ·have:=mN h3;rw[e0,gZ] at this;omega
 ·rcases h1.2 with h3 | h3
  ·omega
  ·rcases h2.2 with h4 | h4
   ·have:=mN h3;omega
   ·exact pD h3 h4
-- the order of states
structure Leq (a b:aE):Prop where
 oka:StateOk a
 okb:StateOk b
 le:∀ i:Nat,i<5->LeP (ent a i) (flo a i) (ent b i) (flo b i)
theorem P0{a b:aE}:S8 a b=true↔Leq a b:=by
 unfold S8
 rw[Bool.and_eq_true,Bool.and_eq_true,iI,aN,aN]
 constructor
 ·rintro ⟨ha,hb,e⟩
  refine⟨ha,hb,λi hi=>(KJ (pP ha _) (pP hb _)).1 ?_⟩
  rw[<- nW a b hi,<- nU ha hi,e];simp
 ·rintro ⟨ha,hb,h⟩
  refine⟨ha,hb,OA (ha.join hb) hb λi hi=>?_⟩
  rw[nW a b hi,nU ha hi]
  exact(KJ (pP ha _) (pP hb _)).2 (h i hi)
theorem Leq.join{a b:aE}(h:Leq a b):c8 a b=b:=by
 have:=P0.2 h
 unfold S8 at this
 rw[Bool.and_eq_true,Bool.and_eq_true,iI] at this
 simp_all
theorem Leq.refl{a:aE}(h:StateOk a):Leq a a:=⟨h,h,λi _=>LeP.refl _ _⟩
theorem Leq.trans{a b c:aE}(h:Leq a b)(h':Leq b c):Leq a c:=⟨h.oka,h'.okb,λi hi=>(h.le i hi).trans (h'.le i hi)⟩
theorem Leq.antisymm{a b:aE}(h:Leq a b)(h':Leq b a):a=b:=OA h.oka h.okb λi hi=>EL (pP h.oka _) (pP h.okb _) (h.le i hi) (h'.le i hi)
theorem Leq.left{a b:aE}(ha:StateOk a)(hb:StateOk b):Leq a (c8 a b):=⟨ha,ha.join hb,λi hi=>by rw[nW a b hi,nU ha hi];exact IP⟩
theorem Leq.right{a b:aE}(ha:StateOk a)(hb:StateOk b):Leq b (c8 a b):=⟨hb,ha.join hb,λi hi=>by rw[nW a b hi,nU ha hi];exact IO⟩
theorem Leq.lub{a b c:aE}(h:Leq a c)(h':Leq b c):Leq (c8 a b) c:=⟨h.oka.join h'.oka,h.okb,λi hi=>by rw[nW a b hi,nU h.oka hi];exact TA (pP h.okb _).nn (h.le i hi) (h'.le i hi)⟩
theorem IU{a b:aE}(ha:StateOk a)(hb:StateOk b):c8 a b=c8 b a:=
 Leq.antisymm (Leq.lub (Leq.right hb ha) (Leq.left hb ha)) (Leq.lub (Leq.right ha hb) (Leq.left ha hb))
theorem Leq.joinR{a b:aE}(h:Leq a b):c8 b a=b:=by rw[IU h.okb h.oka];exact h.join
theorem Leq.mono{a a' b b':aE}(h:Leq a a')(h':Leq b b'):Leq (c8 a b) (c8 a' b'):=Leq.lub (h.trans (Leq.left h.okb h'.okb)) (h'.trans (Leq.right h.okb h'.okb))
theorem F6:StateOk iX:=(aN _).1 yZ
theorem Leq.nil{a:aE}(h:StateOk a):Leq iX a:=⟨F6,h,λi _=>⟨(pP h _).nn,.inl (pP h _).nn⟩⟩
-- what is over at a point
def iO(e:bA)(f:Int):Int:=if 1<=e.1 then(if e.2.1=0 then e.1 - 1 else e.1)else f
theorem tU{e:bA}(h:eA e=true):1<=e.1/\e.1<=1000/\(e.2.1=0\/e.2.1=1):=by
 unfold eA at h;simp only[Bool.and_eq_true,aL] at h;omega
theorem vD{s:aE}(h:StateOk s)(i:Int):gone s i=iO (ent s i) (flo s i):=by
 unfold gone iO
 rw[(aN s).2 h]
 rcases nX h i with ⟨h1,_,h3,h4⟩ | ⟨h2,h3⟩
 ·have h5:=tU h4
  rw[h3,if_pos h1]
  show(bif(ent s i).2.1==0 then i64.wrap ((ent s i).1 - 1)else(ent s i).1)=_
  rcases h5.2.2 with e | e
  ·rw[e,if_pos rfl];show i64.wrap ((ent s i).1 - 1)=_;rw[IntKind.wrap_i64];omega
  simp_all
 ·rw[h3,h2,if_neg (by rw[gZ];omega)];rfl
theorem GM{e:bA}{f:Int}(h:¬ 1<=e.1):iO e f=f:=by unfold iO;rw[if_neg h]
theorem GL{e:bA}{f:Int}(h:1<=e.1)(h':e.2.1=0):iO e f=e.1 - 1:=by unfold iO;rw[if_pos h,if_pos h']
theorem GN{e:bA}{f:Int}(h:1<=e.1)(h':e.2.1≠0):iO e f=e.1:=by unfold iO;rw[if_pos h,if_neg h']
theorem AZ{e:bA}{f:Int}(h:1<=e.1):e.1 - 1<=iO e f/\iO e f<=e.1:=by
 by_cases h':e.2.1=0
 ·rw[GL h h'];omega
 ·rw[GN h h'];omega
theorem QH{e:bA}{f:Int}(h:Pt e f):f<=iO e f:=by
 by_cases h1:1<=e.1
 ·have h2:=AZ (f:=f) h1
  rcases h.up with h3 | h3
  ·rw[h3,gZ] at h1;omega
  omega
 ·rw[GM h1];omega
theorem I2{e f e' f'}(h:Pt e f)(h':Pt e' f')(hr:e.1=e'.1->e.2.1≠0->e.2.1<=e'.2.1->e'.2.1≠0)(hl:LeP e f e' f'):iO e f<=iO e' f':=by
 have g:=QH h'
 by_cases h1:1<=e.1
 ·have g1:=AZ (f:=f) h1
  rcases hl.2 with h2 | h2
  ·omega
  ·have h3:=mN h2
   have h1':1<=e'.1:=by omega
   have g2:=AZ (f:=f') h1'
   by_cases h4:e.1=e'.1
   ·by_cases h6:e.2.1=0
    ·rw[GL h1 h6];omega
    ·rw[GN h1' (hr h4 h6 (P4 h2 h4))];omega
   omega
 ·rw[GM h1];have:=hl.1;omega
theorem Leq.gone{a b:aE}(h:Leq a b){i:Nat}(hi:i<5):gone a i<=Go.Abs.gone b i:=by
 rw[vD h.oka,vD h.okb]
 refine I2 (pP h.oka _) (pP h.okb _) (λh1 h2 h3=>?_) (h.le i hi)
 rcases nX h.oka i with ⟨_,_,_,h4⟩ | ⟨h4,_⟩
 ·have:=tU h4;omega
 ·rw[h4] at h2;exact absurd rfl h2
end Go.Abs
-- pruning, tables and taking done twice: plain laws
namespace Go.Abs
theorem PE(f:Int)(h:0<=f):nrm dN f=dN:=by unfold nrm;rw[if_neg (by rw[gZ];omega)]
theorem I8(s:aE)(t:List bM){i:Nat}(hi:i<5):flo (fJ s t) i=max 0 (min (gY t i) (gone s i)):=by
 have hm:mxI false (gY t i) (gone s i)=min (gY t i) (gone s i):=F7 _ _
 unfold flo
 rcases eO (fJ s t) i with ⟨x,hx,h1,e⟩ | ⟨h1,e⟩
 ·rw[e]
  obtain⟨j,_,hx⟩:=jT hx
  unfold iV at hx
  grind
 ·rw[e]
  by_cases h2:mxI false (gY t i) (gone s i)>0
  ·refine absurd rfl (h1 ((i:Int),mxI false (gY t i) (gone s i),()) ?_)
   exact List.mem_flatMap.2 ⟨i,List.mem_range.2 hi,by unfold iV;rw[decide_eq_true h2];simp⟩
  omega
theorem JB(s:aE)(t:List bM)(i:Int):ent (fJ s t) i=dN:=by
 rfl
theorem A1(s:aE)(t:List bM):StateOk (fJ s t):=(aN _).1 (qY s t)
theorem uY{s:aE}(h:StateOk s)(t:List bM):prune s t=c8 s (fJ s t):=by unfold prune;rw[(aN s).2 h];rfl
theorem v5{s:aE}(h:StateOk s)(t:List bM):StateOk (prune s t):=(aN _).1 (z2 ((aN s).2 h) t)
theorem M2{e:bA}{f g:Int}(h:Pt e f)(hr:1<=e.1->e.2.1=0\/e.2.1=1)(hg:g<=iO e f):iO (nrm (mxE e dN) (max f g)) (max f g)=iO e f:=by
 have h0:=h.nn
 rcases h.up with e0 | e1
 ·rw[e0,PO (nP dN)]
  rw[PE _ (by omega)]
  rw[e0] at hg
  unfold iO at hg ⊢
  rw[if_neg (by rw[gZ];omega)] at hg
  rw[if_neg (by rw[gZ];omega),if_neg (by rw[gZ];omega)];omega
 ·rw[KD (NM (by omega))]
  unfold nrm
  have h1:1<=e.1:=by omega
  have hgo:iO e f=if e.2.1=0 then e.1 - 1 else e.1:=by unfold iO;rw[if_pos h1]
  by_cases hc:max f g<e.1
  ·rw[if_pos hc,hgo];unfold iO;rw[if_pos h1]
  ·rw[if_neg hc]
   rw[hgo] at hg ⊢
   unfold iO;rw[if_neg (by rw[gZ];omega)]
   omega
theorem QT{s:aE}(h:StateOk s)(i:Int):1<=(ent s i).1->(ent s i).2.1=0\/(ent s i).2.1=1:=by
 intro h1
 rcases nX h i with ⟨_,_,_,h4⟩ | ⟨h4,_⟩
 ·exact(tU h4).2.2
 ·rw[h4,gZ] at h1;omega
theorem AY{s:aE}(h:StateOk s)(t:List bM){i:Nat}(hi:i<5):gone (prune s t) i=gone s i:=by
 have hg:=TG ((aN s).2 h) (i:Int)
 rw[vD (v5 h t),uY h,nW _ _ hi,nU h hi,JB,I8 s t hi,vD h]
 rw[vD h] at hg
 exact M2 (pP h _) (QT h _) (by omega)
theorem uA{α:Type}{g g':Nat->List α}:∀ {n:Nat},(∀ i,i<n->g i=g' i)->bX n g=bX n g'
 | 0,_=>rfl
 | n+1,h=>by rw[eB,eB,uA (n:=n) λi hi=>h i (by omega),h n (by omega)]
theorem A3{s s':aE}(t:List bM)(h:∀ i:Nat,i<5->gone s i=gone s' i):fJ s t=fJ s' t:=by
 have:bX 5 (iV s t)=bX 5 (iV s' t):=uA λi hi=>by unfold iV;rw[h i hi]
 unfold fJ;rw[this]
theorem BZ{s s':aE}(h:∀ i:Nat,i<5->gone s i=gone s' i):c7 s=c7 s':=by
 unfold c7;exact uA λi hi=>by unfold kV;rw[h i hi]
theorem F0{s:aE}(h:StateOk s)(t:List bM):prune (prune s t) t=prune s t:=by
 have hp:=v5 h t
 rw[uY hp,A3 (s:=prune s t) (s':=s) t λi hi=>AY h t hi]
 refine Leq.joinR ?_
 rw[uY h];exact Leq.right h (A1 s t)
theorem ME{s:aE}(h:StateOk s)(t:List bM):Leq s (prune s t):=by rw[uY h];exact Leq.left h (A1 s t)
theorem GC{s:aE}(h:StateOk s)(t:List bM):c7 (prune s t)=c7 s:=BZ λi hi=>AY h t hi
-- rows that hold marks already
def RE(t:List bM)(k j:Nat):Int:=(gt (gt t k).1 j).1
def Cov(t:List bM)(k:Int)(ms:List aO):Prop:=∀ i,i<ms.length->(gt ms i).2.1<=RE t k.toNat (gt ms i).1.toNat
def DoneT(t:List bM)(k:Int)(ms:List aO):Prop:=pO t k ms=true->Cov t k ms
theorem JX{t t':List bM}(hl:t.length=t'.length)(hr:∀ j,(gt t j).1.length=(gt t' j).1.length)(k:Int)(ms:List aO):pO t k ms=pO t' k ms:=by
 unfold pO;rw[hl,hr]
theorem HB(t:List bM)(k k':Int)(ms ms':List aO):pO (bK t k' ms') k ms=pO t k ms:=
 JX (c6 t k' ms') (λj=>eX t k' ms' j) k ms
theorem G8(r:bM)(ms:List aO):∀ i j,(gt r.1 j).1<=(gt (kP r ms i).1 j).1
 | 0,_=>Int.le_refl _
 | i+1,j=>by
  have ih:=G8 r ms i j
  show _<=(gt (List.set (kP r ms i).1 (gt ms i).1.toNat (mxI true (gt (kP r ms i).1 (gt ms i).1.toNat).1 (gt ms i).2.1,())) j).1
  rcases Nat.lt_or_ge (gt ms i).1.toNat (kP r ms i).1.length with h | h
  ·by_cases e:(gt ms i).1.toNat=j
   ·rw[e] at h ⊢
    rw[bO h]
    show _<=mxI true _ _
    rw[sS];omega
   ·rw[dZ e];omega
  ·rw[List.set_eq_of_length_le h];omega
theorem wZ(r:bM){ms:List aO}(h:∀ i,i<ms.length->(gt ms i).1.toNat<r.1.length):∀ n,n<=ms.length->∀ i,i<n->(gt ms i).2.1<=(gt (kP r ms n).1 (gt ms i).1.toNat).1
 | 0,_,_,hi=>by omega
 | n+1,hn,i,hi=>by
  show _<=(gt (List.set (kP r ms n).1 (gt ms n).1.toNat (mxI true (gt (kP r ms n).1 (gt ms n).1.toNat).1 (gt ms n).2.1,())) (gt ms i).1.toNat).1
  have hl:(gt ms n).1.toNat<(kP r ms n).1.length:=by rw[oC];grind
  by_cases e:(gt ms n).1.toNat=(gt ms i).1.toNat
  ·rw[e] at hl ⊢
   rw[bO hl]
   show _<=mxI true _ _
   rw[sS]
   by_cases c:i=n
   ·grind
   ·have:=wZ r h n (by omega) i (by omega);omega
  ·rw[dZ e]
   exact wZ r h n (by omega) i (by
    grind)
theorem G7{r:bM}{ms:List aO}(h:∀ i,i<ms.length->(gt ms i).2.1<=(gt r.1 (gt ms i).1.toNat).1):∀ n,n<=ms.length->kP r ms n=r
 | 0,_=>rfl
 | n+1,hn=>by
  show D3 (kP r ms n) (gt ms n)=r
  rw[G7 h n (by omega)]
  have:=h n (by omega)
  unfold D3
  rw[sS,show max (gt r.1 (gt ms n).1.toNat).1 (gt ms n).2.1=(gt r.1 (gt ms n).1.toNat).1 by omega]
  show(r.1.set (gt ms n).1.toNat (gt r.1 (gt ms n).1.toNat),())=r
  rw[tD]
structure AddOk (t:List bM) (k:Int) (ms:List aO):Prop where
 kn:k.toNat<t.length
 mok:eL ms=true
 row:5<=(gt t k.toNat).1.length
theorem RK{t:List bM}{k:Int}{ms:List aO}(hl:t.length<=aP)(h:pO t k ms=true):AddOk t k ms:=by
 unfold pO at h
 simp only[Bool.and_eq_true,Bool.not_eq_true',decide_eq_false_iff_not] at h
 exact⟨(y5 hl h.1).1,h.2.1,by omega⟩
theorem AddOk.ids{t:List bM}{k:Int}{ms:List aO}(h:AddOk t k ms):∀ i,i<ms.length->(gt ms i).1.toNat<(gt t k.toNat).1.length:=λi hi=>by
 have h1:=u7 h.mok hi;have h2:=h.row;omega
theorem RJ{t:List bM}(hl:t.length<=aP)(k:Int)(ms:List aO):DoneT (bK t k ms) k ms:=by
 intro hb
 rw[HB] at hb
 have ho:=RK hl hb
 intro i hi
 unfold RE bK
 rw[hb]
 show _<=(gt (gt (cU t k.toNat ms ms.length) k.toNat).1 _).1
 unfold cU
 rw[bO ho.kn]
 exact wZ _ ho.ids _ (Nat.le_refl _) i hi
theorem VO(t:List bM)(k:Int)(ms:List aO)(q j:Nat):RE t q j<=RE (bK t k ms) q j:=by
 unfold RE bK
 cases pO t k ms with
 | false=>simp
 | true=>
  show _<=(gt (gt (cU t k.toNat ms ms.length) q).1 j).1
  unfold cU
  rcases Nat.lt_or_ge k.toNat t.length with h | h
  ·by_cases e:k.toNat=q
   ·subst e;rw[bO h];exact G8 _ _ _ _
   ·rw[dZ e];omega
  ·rw[List.set_eq_of_length_le h];omega
theorem DoneT.add{t:List bM}{k:Int}{ms:List aO}(h:DoneT t k ms)(k':Int)(ms':List aO):DoneT (bK t k' ms') k ms:=λhb i hi=>by
 rw[HB] at hb
 exact Int.le_trans (h hb i hi) (VO t k' ms' _ _)
theorem DoneT.eq{t:List bM}{k:Int}{ms:List aO}(h:DoneT t k ms):bK t k ms=t:=by
 unfold bK
 cases hb:pO t k ms with
 | false=>rfl
 | true=>
  show cU t k.toNat ms ms.length=t
  unfold cU
  rw[G7 (h hb) _ (Nat.le_refl _)]
  exact tD
-- vectors that are raised already
theorem E6(v:List aH)(k n:Int)(j:Nat):(gt v j).1<=(gt (cV v k n) j).1:=by
 rcases pX v k n j with e | e<;>rw[e]<;>omega
-- rises that are up to date
def RisesUp(rs:List jX)(xs:List bL):Prop:=∀ i,i<xs.length->qB (gt rs (gt xs i).1.toNat) (gt xs i).2=false
theorem L2(clock:Int)(r:jX)(e:bA):qB (mX clock r e) e=false:=by
 unfold mX
 cases h:qB r e with
 | false=>grind
 | true=>unfold qB;simp
theorem RisesUp.eq{clock:Int}{rs:List jX}{xs:List bL}(h:RisesUp rs xs):∀ n,n<=xs.length->dH clock rs xs n=rs
 | 0,_=>rfl
 | n+1,hn=>by
  show(dH clock rs xs n).set (gt xs n).1.toNat (mX clock (gt (dH clock rs xs n) (gt xs n).1.toNat) (gt xs n).2)=rs
  rw[h.eq n (by omega)]
  unfold mX
  rw[h n (by omega)]
  exact tD
theorem CI{clock:Int}{rs:List jX}{xs:List bL}(hl:∀ i,i<xs.length->(gt xs i).1.toNat<rs.length)(hd:∀ i j,i<j->j<xs.length->(gt xs i).1.toNat≠(gt xs j).1.toNat):
  ∀ n,n<=xs.length->∀ i,i<n->qB (gt (dH clock rs xs n) (gt xs i).1.toNat) (gt xs i).2=false
 | 0,_,_,hi=>by omega
 | n+1,hn,i,hi=>by
  show qB (gt ((dH clock rs xs n).set (gt xs n).1.toNat (mX clock (gt (dH clock rs xs n) (gt xs n).1.toNat) (gt xs n).2)) (gt xs i).1.toNat) (gt xs i).2=false
  by_cases c:i=n
  ·subst c
   rw[bO (by rw[gR];grind)]
   exact L2 _ _ _
  ·rw[dZ (λe=>hd i n (by omega) (by omega) e.symm)]
   exact CI hl hd n (by omega) i (by omega)
theorem MU{s:aE}(h:StateOk s):(∀ i,i<s.1.length->(gt s.1 i).1.toNat<5)/\∀ i j,i<j->j<s.1.length->(gt s.1 i).1.toNat≠(gt s.1 j).1.toNat:=by
 refine⟨λi hi=>?_,λi j hij hj e=>?_⟩
 ·obtain⟨k,hk,e⟩:=nJ (h.item _ (bR hi)).1;omega
 ·obtain⟨k,hk,e1⟩:=nJ (h.item _ (bR (i:=i) (by omega))).1
  obtain⟨k',hk',e2⟩:=nJ (h.item _ (bR hj)).1
  have hp:=h.items
  rw[List.pairwise_iff_getElem] at hp
  have:=hp i j (by omega) hj hij
  rw[<- cJ (by omega),<- cJ hj] at this
  omega
-- a node at rest
structure Rest (x:NodeT):Prop where
 ok:StateOk x.state
 seen:DoneT x.seen x.1 (c7 x.state)
 prune:prune x.state x.seen=x.state
 tree:cH x.state=x.tree
 rises:RisesUp x.rises x.state.1
theorem Rest.take{x:NodeT}(h:Rest x){s:aE}(hs:Leq s x.state):jN x s=x:=by
 have e1:c8 x.state s=x.state:=hs.joinR
 have e2:tkS x s=x.seen:=by unfold tkS;rw[e1];exact h.seen.eq
 have e3:tkP x s=x.state:=by unfold tkP;rw[e2,e1];exact h.prune
 have e4:tkR x s=x.rises:=by unfold tkR;rw[e3];exact h.rises.eq _ (Nat.le_refl _)
 unfold jN
 rw[e2,e4,e3,h.tree]
theorem HJ{x:NodeT}(h:NodeOk x)(hl:x.seen.length<=aP){s:aE}(hs:StateOk s):Rest (jN x s):=by
 have hx:=(aN _).1 h.state
 have hj:=hx.join hs
 have e:(jN x s).state=tkP x s:=rfl
 have hm:c7 (tkP x s)=c7 (c8 x.state s):=GC hj _
 have hp:StateOk (tkP x s):=v5 hj _
 refine⟨hp,?_,?_,rfl,?_⟩
 ·show DoneT (tkS x s) x.1 (c7 (tkP x s))
  rw[hm];exact RJ hl _ _
 ·show prune (tkP x s) (tkS x s)=tkP x s
  exact F0 hj _
 ·show RisesUp (tkR x s) (tkP x s).1
  have hi:=MU hp
  have hr:=h.rises
  rw[beq_iff_eq] at hr
  exact λi hi'=>CI (λi hi''=>by grind) hi.2 _ (Nat.le_refl _) i hi'
theorem LJ{x:NodeT}(h:NodeOk x){s:aE}(hs:StateOk s):Leq x.state (jN x s).state/\Leq s (jN x s).state:=by
 have hx:=(aN _).1 h.state
 have hj:=hx.join hs
 have hp:Leq (c8 x.state s) (jN x s).state:=ME hj _
 exact⟨(Leq.left hx hs).trans hp,(Leq.right hx hs).trans hp⟩
-- hearing twice
structure Heard (x:NodeT) (m:MsgT):Prop where
 rest:Rest x
 acked:cV x.acked m.2.1 (mxI false (gt m.vec x.1.toNat).1 (cA x.log))=x.acked
 seen:DoneT x.seen m.2.1 m.marks
theorem Heard.eq{x:NodeT}{m:MsgT}(h:Heard x m):eC x m=x:=by
 have e:heard0 x m=x:=by
  unfold heard0
  rw[h.acked,h.seen.eq]
 unfold eC
 rw[e];exact h.rest.take (Leq.nil h.rest.ok)
theorem Heard.take{x:NodeT}{m:MsgT}(h:Heard x m)(ho:NodeOk x)(hl:x.seen.length<=aP){s:aE}(hs:StateOk s):Heard (jN x s) m:=
 ⟨HJ ho hl hs,h.acked,h.seen.add _ _⟩
theorem Heard.gotUp{x:NodeT}{m:MsgT}(h:Heard x m):Heard (gotUp x m) m:=⟨⟨h.rest.ok,h.rest.seen,h.rest.prune,h.rest.tree,h.rest.rises⟩,h.acked,h.seen⟩
end Go.Abs
-- receiving twice, and what receiving keeps: plain laws
namespace Go.Abs
-- what receiving keeps
def VLe(a b:List aH):Prop:=a.length=b.length/\∀ i,(gt a i).1<=(gt b i).1
theorem VLe.refl(a:List aH):VLe a a:=⟨rfl,λ_=>Int.le_refl _⟩
theorem VLe.trans{a b c:List aH}(h:VLe a b)(h':VLe b c):VLe a c:=⟨h.1.trans h'.1,λi=>Int.le_trans (h.2 i) (h'.2 i)⟩
theorem VLe.raise(v:List aH)(k n:Int):VLe v (cV v k n):=⟨(fU v k n).symm,E6 v k n⟩
structure Kept (x y:NodeT):Prop where
 state:Leq x.state y.state
 got:VLe x.got y.got
 acked:VLe x.acked y.acked
theorem NodeOk.st{x:NodeT}(h:NodeOk x):StateOk x.state:=(aN _).1 h.state
theorem Kept.refl{x:NodeT}(h:NodeOk x):Kept x x:=⟨Leq.refl h.st,VLe.refl _,VLe.refl _⟩
theorem Kept.trans{x y z:NodeT}(h:Kept x y)(h':Kept y z):Kept x z:=⟨h.state.trans h'.state,h.got.trans h'.got,h.acked.trans h'.acked⟩
theorem Kept.take{x:NodeT}(h:NodeOk x){s:aE}(hs:StateOk s):Kept x (jN x s):=⟨(LJ h hs).1,VLe.refl _,VLe.refl _⟩
theorem Kept.heard{x:NodeT}(h:NodeOk x)(m:MsgT):Kept x (eC x m):=
 Kept.trans (y:=heard0 x m) ⟨Leq.refl h.st,VLe.refl _,VLe.raise _ _ _⟩ (Kept.take (h.heard0 m) F6)
theorem Kept.brought{x:NodeT}(h:NodeOk x){m:MsgT}(hp:aM m.part=true):Kept x (dY x m):=by
 have h1:=(Kept.heard h m).trans (Kept.take (h.heard m) ((aN _).1 hp))
 exact⟨h1.state,h1.got.trans (VLe.raise _ _ _),h1.acked⟩
theorem Kept.with{x:NodeT}(h:NodeOk x)(ss:List eI):Kept x (withS x ss):=⟨Leq.refl h.st,VLe.refl _,VLe.refl _⟩
-- what is answered
theorem OM{a b:List aH}(h:f6 a b=true):a=b:=by
 unfold f6 at h
 simp only[Bool.and_eq_true,beq_iff_eq,bD] at h
 exact JA (by omega) λi hi=>Prod.ext (by simp_all) rfl
theorem NodeOk.treeB{x:NodeT}(h:NodeOk x):treeB x.tree=true:=by
 have h1:=h.tree
 unfold uH at h1
 rw[Bool.and_eq_true] at h1
 have e1:x.tree.1=(cH x.state).1:=OM h1.1
 have e2:x.tree.2.1=(cH x.state).2.1:=eq_of_beq h1.2
 have e:x.tree=cH x.state:=Prod.ext e1 (Prod.ext e2 rfl)
 rw[e];exact NX h.state
theorem HE{v:List aH}{n:Int}(h:eD v n=true):kI v 100000=true/\(v.length:Int)=n/\1<=n/\n<=5:=by
 unfold eD at h
 simp only[Bool.and_eq_true,beq_iff_eq,aL] at h
 exact⟨h.2.2,h.2.1,h.1⟩
def S9(v:List aH):Bool:=bI v.length (xR v)
/-- A message that a right node writes is right. -/
theorem NodeOk.says {x:NodeT} (h:NodeOk x) {k to num:Int} {tree:kQ} {leaves:List aH} {part:aE} (hk:0<=k/\k<=5) (ht:0<=to/\to<=4/\to≠x.1) (hn:inB num 0 100000=true)
  (hT:Go.Abs.treeB tree=true) (hl:S9 leaves=true) (hp:aM part=true):
  dR (k,x.1,to,num,cA x.log,tree.1,tree.2.1,x.got,leaves,part.1,part.2.1,c7 x.state,())=true:=by
 have hv:=HE h.got
 have hid:=h.id
 have hl2:=CX h.log
 rw[aL,IntKind.wrap_i64] at hid
 rw[aL] at hn
 unfold dR sE eN
 simp only[Bool.and_eq_true,aL,Bool.not_eq_true',beq_eq_false_iff_ne,decide_eq_true_eq]
 exact⟨⟨hk,by omega,by omega,λe=>ht.2.2 e.symm⟩,hl,hv.1,hn,hl2,hT,by simp_all,hp,IA _⟩
structure Ans (x:NodeT) (m q:MsgT):Prop where
 ok:dR q=true
 frm:q.2.1=x.1
 to:q.2.2.1=m.2.1
 num:q.2.2.2.1=m.2.2.2.1
theorem RecOk.peer{x:NodeT}{m:MsgT}(h:RecOk x m):0<=m.2.1/\m.2.1<=4/\m.2.1≠x.1:=by
 have h1:=h.frm;have h2:=h.idn;exact⟨by omega,by omega,h.ne⟩
-- vectors compared
def atV(v:List aH)(i:Int):Int:=bif inB i 0 (i64.wrap ((v.length:Int) - 1))then(gt v i.toNat).1 else 0
def NV(a b:List aH):Bool:=bI a.length λi=> !decide ((gt a i).1>atV b (i:Int))
theorem VLe.leq{a b:List aH}(h:VLe a b)(hl:b.length<=aP):NV a b=true:=by
 unfold NV;rw[bD]
 intro i hi
 have h1:=h.1;have h2:=h.2 i
 unfold atV
 rw[aL.2 (by rw[IntKind.wrap_i64];unfold aP at hl;omega)]
 simp_all
end Go.Abs
namespace Go.Abs
open Go
-- a number read back: what lies at place i of b, five bytes at most
def tP(b:List aH)(i:Nat):Nat->Nat->Nat->Option (Nat×Nat)
 | 0,_,_=>none
 | n+1,k,acc=>
  if i+k<b.length then
   if 128<=(gt b (i+k)).1.toNat then tP b i n (k+1) (acc+(gt b (i+k)).1.toNat % 128*128 ^ k)
   else if 0<k/\(gt b (i+k)).1.toNat=0 then none
   else if acc+(gt b (i+k)).1.toNat*128 ^ k>2147483647 then none
   else some (acc+(gt b (i+k)).1.toNat*128 ^ k,i+k+1)
  else none
def qX(b:List aH)(i:Nat):Option (Nat×Nat):=tP b i 5 0 0
theorem I1(u v:List aH)(x:aH):gt (u++x::v) u.length=x:=by
 rw[cJ (by simp)];simp
theorem QK(v:List aH):∀ (m n k acc i:Nat) (u:List aH),n<128 ^ (m+1)->(0<k->0<n)->acc+n*128 ^ k<=2147483647->i+k=u.length->
  tP (u++hS n++v) i (m+1) k acc=some (acc+n*128 ^ k,i+k+(hS n).length):=by
 intro m
 induction m with
 | zero=>
  intro n k acc i u h h0 hb hi
  have hn:n<128:=by omega
  have e:hS n=[((n:Int),())]:=by unfold hS;rw[dif_pos hn]
  rw[e]
  have eg:gt (u++[((n:Int),())]++v) (i+k)=((n:Int),()):=by rw[hi,List.append_assoc];exact I1 u v _
  unfold tP
  rw[eg,if_pos (by rw[hi];simp)]
  grind
 | succ m ih=>
  intro n k acc i u h h0 hb hi
  by_cases hn:n<128
  ·have e:hS n=[((n:Int),())]:=by unfold hS;rw[dif_pos hn]
   rw[e]
   have eg:gt (u++[((n:Int),())]++v) (i+k)=((n:Int),()):=by rw[hi,List.append_assoc];exact I1 u v _
   unfold tP
   rw[eg,if_pos (by rw[hi];simp)]
   grind
  ·have e:hS n=(((n % 128+128:Nat):Int),())::hS (n / 128):=by conv=>lhs;unfold hS;rw[dif_neg hn]
   have hm:n % 128*128 ^ k+n / 128*128 ^ (k+1)=n*128 ^ k:=by
    have:=Nat.mod_add_div n 128
    rw[Nat.pow_succ,show n / 128*(128 ^ k*128)=128*(n / 128)*128 ^ k by ac_rfl,<- Nat.add_mul,this]
   have eb:u++hS n++v=(u++[(((n % 128+128:Nat):Int),())])++hS (n / 128)++v:=by rw[e];simp
   have eg:gt (u++hS n++v) (i+k)=(((n % 128+128:Nat):Int),()):=by rw[hi,e,List.append_assoc];exact I1 u _ _
   have hl:i+k<(u++hS n++v).length:=by rw[e,hi];simp
   have ih':=ih (n / 128) (k+1) (acc+n % 128*128 ^ k) i (u++[(((n % 128+128:Nat):Int),())]) (by rw[Nat.pow_succ] at h;omega) (λ_=>by omega) (by omega) (by rw[List.length_append,List.length_singleton];omega)
   rw[<- eb] at ih'
   unfold tP
   rw[if_pos hl,eg]
   grind
theorem I3(u v:List aH){n:Nat}(h:n<=2147483647):qX (u++hS n++v) u.length=some (n,u.length+(hS n).length):=by
 have:=QK v 4 n 0 0 u.length u (by omega) (λh=>absurd h (by omega)) (by omega) rfl
 unfold qX;rw[this];simp
end Go.Abs
namespace Go.Abs
open Go
theorem TH{b:List aH}{i:Nat}:∀ (n k acc:Nat) {x j:Nat},tP b i n k acc=some (x,j)->x<=2147483647/\j<=b.length/\i+k<j:=by
 intro n
 induction n with
 | zero=>intro k acc x j h;unfold tP at h;simp_all
 | succ n ih=>
  intro k acc x j h
  unfold tP at h
  grind
theorem yM{n:Nat}(h:n<9223372036854775808):i64.wrap (n:Int)=(n:Int):=by
 rw[IntKind.wrap_i64];omega
theorem NP{k:Nat}(hk:k<5):i64.wrap ((7:Int)*(k:Int))=((7*k:Nat):Int):=by
 rw[IntKind.wrap_i64];omega
theorem J4{x k:Nat}(hx:x<128)(hk:k<5):uN i64 (x:Int) (i64.wrap ((7:Int)*(k:Int)))=((x*128 ^ k:Nat):Int):=by
 rw[NP hk]
 unfold uN
 rw[Int.toNat_natCast]
 have h:k=0\/k=1\/k=2\/k=3\/k=4:=by omega
 rcases h with rfl | rfl | rfl | rfl | rfl
 ·rw[show(2:Int) ^ (min (7*0) i64.bits)=1 by decide,IntKind.wrap_i64];omega
 ·rw[show(2:Int) ^ (min (7*1) i64.bits)=128 by decide,IntKind.wrap_i64];omega
 ·rw[show(2:Int) ^ (min (7*2) i64.bits)=16384 by decide,IntKind.wrap_i64];omega
 ·rw[show(2:Int) ^ (min (7*3) i64.bits)=2097152 by decide,IntKind.wrap_i64];omega
 ·rw[show(2:Int) ^ (min (7*4) i64.bits)=268435456 by decide,IntKind.wrap_i64];omega
theorem uI(x:Nat):((x:Int)).tmod 128=((x % 128:Nat):Int):=by
 rw[Int.tmod_eq_emod_of_nonneg (by omega)];omega
theorem UV{k:Nat}(hk:k<5):128 ^ k<=268435456:=by
 have h:k=0\/k=1\/k=2\/k=3\/k=4:=by omega
 rcases h with rfl | rfl | rfl | rfl | rfl<;>decide
theorem UX{a x k:Nat}(ha:a<128 ^ k)(hx:x<128)(hk:k<5):orI i64 (a:Int) ((x*128 ^ k:Nat):Int)=((a+x*128 ^ k:Nat):Int):=by
 have hp:=UV hk
 have hm:x*128 ^ k<=127*268435456:=Nat.mul_le_mul (by omega) hp
 unfold orI
 have e:(BitVec.ofInt i64.bits (a:Int)||| BitVec.ofInt i64.bits ((x*128 ^ k:Nat):Int)).toNat=a+x*128 ^ k:=by
  rw[BitVec.toNat_or,BitVec.ofInt_natCast,BitVec.ofInt_natCast,BitVec.toNat_ofNat,BitVec.toNat_ofNat]
  rw[Nat.mod_eq_of_lt (show a<2 ^ i64.bits by show a<2 ^ 64;omega),Nat.mod_eq_of_lt (show x*128 ^ k<2 ^ i64.bits by show x*128 ^ k<2 ^ 64;omega)]
  have h2:128 ^ k=2 ^ (7*k):=by rw[Nat.pow_mul]
  rw[h2] at ha ⊢
  rw[Nat.or_comm,Nat.mul_comm x,<- Nat.two_pow_add_eq_or_of_lt ha];omega
 rw[e];exact yM (by omega)
theorem RL{a x k:Nat}(ha:a<128 ^ k):a+x % 128*128 ^ k<128 ^ (k+1):=by
 have h:x % 128<128:=Nat.mod_lt _ (by omega)
 have h2:x % 128*128 ^ k<=127*128 ^ k:=Nat.mul_le_mul (by omega) (Nat.le_refl _)
 rw[Nat.pow_succ];omega
end Go.Abs
/- Plain laws: worlds compared. -/
namespace Go.Abs
def iL{α:Type}(a b:List α):Bool:=(a.length:Int)==(b.length:Int)
theorem sI{α:Type}{a b:List α}:iL a b=true↔a.length=b.length:=by unfold iL;rw[beq_iff_eq];omega
def p8{α:Type}[Inhabited α](f:α->α->Bool)(a b:List α):Bool:=iL a b&&bI a.length λi=>f (gt a i) (gt b i)
def bV(a b:List aH):Bool:=ByteArray.toList (cG a)==ByteArray.toList (cG b)
def wA(a b:bM):Bool:=f6 a.1 b.1
def rD(x y:eI):Bool:=gA x.1 y.1&&(gA x.2.1 y.2.1&&(rM x.2.2.1 y.2.2.1&&(gA x.2.2.2.1 y.2.2.2.1&&true)))
def nA(x y:jX):Bool:=gA x.1 y.1&&(gA x.2.1 y.2.1&&(gA x.2.2.1 y.2.2.1&&true))
def DQ(a b:kQ):Bool:=f6 a.1 b.1&&a.2.1==b.2.1
def AP(a b:f0):Bool:=a.1==b.1&&(a.2.1==b.2.1&&p8 eW a.2.2.1 b.2.2.1)
def z9(a b:NodeT):Bool:=a.1==b.1&&(a.2.1==b.2.1&&(a.num==b.num&&(a.slots==b.slots&&(a.wait==b.wait&&(a.limit==b.limit&&(a.clock==b.clock&&(p8 wA a.seen b.seen&&(eW a.state b.state&&(DQ a.tree b.tree&&(AP a.log b.log&&(f6 a.got b.got&&(f6 a.acked b.acked&&(p8 rD a.sess b.sess&&p8 nA a.rises b.rises)))))))))))))
def yY(a b:NodeT):Bool:=a.1==b.1&&(a.2.1==b.2.1&&(eW a.state b.state&&(DQ a.tree b.tree&&(AP a.log b.log&&(f6 a.got b.got&&(f6 a.acked b.acked&&(iL a.seen b.seen&&(a.num==b.num&&(a.slots==b.slots&&(a.wait==b.wait&&(a.limit==b.limit&&(a.clock==b.clock&&(iL a.sess b.sess&&(iL a.rises b.rises&&
 (bI a.seen.length (λi=>wA (gt a.seen i) (gt b.seen i))&&(bI a.sess.length (λi=>rD (gt a.sess i) (gt b.sess i))&&bI a.rises.length λi=>nA (gt a.rises i) (gt b.rises i)))))))))))))))))
theorem PH(a b:NodeT):yY a b=z9 a b:=by
 unfold yY z9 p8;ac_rfl
end Go.Abs
-- bytes read back: plain laws of readers
namespace Go.Abs
open Go
def B8(b:List aH):Prop:=∀ k,k<b.length->∃ y:Nat,(gt b k).1=(y:Int)/\y<=255
def ByL(b:List aH):Prop:=∀ x∈b,∃ y:Nat,x.1=(y:Int)/\y<=255
theorem ByL.b8{b:List aH}(h:ByL b):B8 b:=λk hk=>h _ (bR hk)
theorem B8.byL{b:List aH}(h:B8 b):ByL b:=λx hx=>by
 obtain⟨i,hi,e⟩:=fX hx
 rw[<- e];exact h i hi
theorem ByL.app{a b:List aH}(ha:ByL a)(hb:ByL b):ByL (a++b):=λx hx=>by
 rcases List.mem_append.1 hx with h | h
 ·exact ha x h
 ·exact hb x h
theorem ByL.flat{α:Type}{f:α->List aH}(h:∀ x,ByL (f x))(xs:List α):ByL (xs.flatMap f):=λx hx=>by
 obtain⟨a,_,ha⟩:=List.mem_flatMap.1 hx
 exact h a x ha
theorem ByL.sub{a b:List aH}(h:ByL b)(hs:∀ x∈a,x∈b):ByL a:=λx hx=>h x (hs x hx)
theorem SS(n:Nat):ByL (hS n):=by
 induction n using Nat.strongRecOn with
 | _ n ih=>
  unfold hS
  split
  ·rename_i h
   intro b hb
   rw[List.mem_singleton.1 hb];grind
  ·rename_i h
   intro b hb
   rcases List.mem_cons.1 hb with e | e
   ·rw[e];exact⟨n % 128+128,rfl,by omega⟩
   ·exact ih (n / 128) (Nat.div_lt_self (by omega) (by omega)) b e
theorem dT(x:Int):ByL (aG x):=by
 unfold aG
 cases inB x 0 2147483647 with
 | false=>intro b hb;grind
 | true=>exact SS _
theorem NG(t:ByteArray):ByL (fM t):=λb hb=>by
 unfold fM eP at hb
 obtain⟨u,_,rfl⟩:=List.mem_map.1 hb
 have:=u.toNat_lt
 grind
theorem HZ(t:ByteArray):ByL (dM t):=(dT _).app (NG t)
theorem EM(x:bL):ByL (aY x):=by
 unfold aY;exact(((((dT _).app (dT _)).app (dT _)).app (dT _)).app (dT _)).app (HZ _)
theorem sW(f:aO):ByL (aU f):=(dT _).app (dT _)
theorem wO(s:aE):ByL (bG s):=(((dT _).app (ByL.flat EM _)).app (dT _)).app (ByL.flat sW _)
theorem DD{l:List aH}(h:ByL l):fM (cG l)=l:=by
 show List.map (λb:UInt8=>(((b.toNat:Nat):Int),())) (List.map (λr:aH=>UInt8.ofNat (Int.toNat r.1)) l)=l
 rw[List.map_map]
 conv=>rhs;rw[<- List.map_id l]
 refine List.map_congr_left λx hx=>?_
 obtain⟨y,hy,hy2⟩:=h x hx
 obtain⟨z,u⟩:=x
 have hy:z=(y:Int):=hy
 subst hy
 show((((UInt8.ofNat ((y:Int)).toNat).toNat:Nat):Int),())=((y:Int),u)
 rw[Int.toNat_natCast,UInt8.toNat_ofNat',Nat.mod_eq_of_lt (by omega)]
theorem NF(s:ByteArray):cG (fM s)=s:=by
 have e:List.map (λr:aH=>UInt8.ofNat (Int.toNat r.1)) (fM s)=s.data.toList:=by
  show List.map _ (List.map (λb:UInt8=>(((b.toNat:Nat):Int),())) s.data.toList)=_
  rw[List.map_map]
  conv=>rhs;rw[<- List.map_id s.data.toList]
  refine List.map_congr_left λx hx=>?_
  simp
 exact congrArg (λl:List UInt8=>(⟨l.toArray⟩:ByteArray)) e
theorem kO{a b:List aH}(ha:ByL a)(hb:ByL b):bV a b=true↔a=b:=by
 unfold bV
 rw[beq_iff_eq,ByteArray.toList_eq,ByteArray.toList_eq]
 constructor
 ·intro h
  have:fM (cG a)=fM (cG b):=by unfold fM eP;rw[h]
  rwa [DD ha,DD hb] at this
 simp_all
-- readers
abbrev RdT:Type:=List aH×Int×Bool×Unit
def pW(b:List aH)(i:Int):Option (Nat×Nat):=bif decide (i<0)then none else qX b i.toNat
theorem y6{b:List aH}{i:Int}{x j:Nat}(h:pW b i=some (x,j)):x<=2147483647/\j<=b.length:=by
 unfold pW at h
 cases e:decide (i<0)with
 | true=>rw[e] at h;grind
 | false=>
  rw[e] at h
  have h:tP b i.toNat 5 0 0=some (x,j):=h
  have:=TH 5 0 0 h
  omega
-- a number read off a reader: (the number, the reader behind it)
def aJ(r:RdT):Int×RdT:=bif r.2.2.1 then(0,(r.1,r.2.1,true,()))else
 match pW r.1 r.2.1 with
 | none=>(0,(r.1,r.2.1,true,()))
 | some (x,j)=>((x:Int),(r.1,(j:Int),r.2.2.1,()))
def eF(r:RdT)(m:Int):Int×RdT:=bif decide ((aJ r).1>m)then(0,((aJ r).2.1,(aJ r).2.2.1,true,()))else aJ r
def uG(b:List aH)(i:Int):Option (ByteArray×Nat):=match pW b i with
 | none=>none
 | some (x,j)=>if x>b.length - j then none else some (cG ((b.take (j+x)).drop j),j+x)
def lX(r:RdT):ByteArray×RdT:=bif r.2.2.1 then(⟨#[]⟩,(r.1,r.2.1,true,()))else
 match uG r.1 r.2.1 with
 | none=>(⟨#[]⟩,(r.1,r.2.1,true,()))
 | some (s,j)=>(s,(r.1,(j:Int),r.2.2.1,()))
structure RdOk (r:RdT):Prop where
 b8:B8 r.1
 len:r.1.length<=aP
 lo:0<=r.2.1
 hi:r.2.1<=(r.1.length:Int)
theorem sC(r:RdT):(aJ r).2.1=r.1/\(0<=r.2.1->r.2.1<=(r.1.length:Int)->0<=(aJ r).2.2.1/\(aJ r).2.2.1<=(r.1.length:Int))/\0<=(aJ r).1/\(aJ r).1<=2147483647/\(r.2.2.1=true->(aJ r).2.2.2.1=true):=by
 obtain⟨b,i,bad,u⟩:=r
 cases bad with
 | true=>exact⟨rfl,λh1 h2=>⟨h1,h2⟩,Int.le_refl _,by show(0:Int)<=2147483647;omega,λ_=>rfl⟩
 | false=>
  have e:aJ (b,i,false,u)=(match pW b i with | none=>((0:Int),((b,i,true,()):RdT)) | some (x,j)=>((x:Int),(b,(j:Int),false,()))):=rfl
  rw[e]
  cases h:pW b i with
  | none=>simp_all
  | some q=>
   obtain⟨x,j⟩:=q
   have hb:=y6 h
   grind
theorem fW(r:RdT):(aJ r).2.1=r.1:=(sC r).1
theorem zZ(r:RdT):0<=(aJ r).1:=(sC r).2.2.1
theorem RdOk.num{r:RdT}(h:RdOk r):RdOk (aJ r).2:=by
 have e:=sC r
 have p:=e.2.1 h.lo h.hi
 exact⟨by rw[e.1];exact h.b8,by rw[e.1];exact h.len,p.1,by rw[e.1];omega⟩
theorem RdOk.cnt{r:RdT}(h:RdOk r)(m:Int):RdOk (eF r m).2:=by
 have hn:=h.num
 unfold eF
 cases decide ((aJ r).1>m)with
 | true=>exact⟨hn.b8,hn.len,hn.lo,hn.hi⟩
 | false=>grind
theorem HX(r:RdT)(m:Int):(eF r m).2.1=r.1:=by
 unfold eF
 cases decide ((aJ r).1>m)with
 | true=>exact fW r
 | false=>exact fW r
theorem zY(r:RdT):(lX r).2.1=r.1/\(0<=r.2.1->r.2.1<=(r.1.length:Int)->0<=(lX r).2.2.1/\(lX r).2.2.1<=(r.1.length:Int)):=by
 obtain⟨b,i,bad,u⟩:=r
 cases bad with
 | true=>exact⟨rfl,λh1 h2=>⟨h1,h2⟩⟩
 | false=>
  have e:lX (b,i,false,u)=(match uG b i with | none=>((⟨#[]⟩:ByteArray),((b,i,true,()):RdT)) | some (s,j)=>(s,(b,(j:Int),false,()))):=rfl
  rw[e]
  cases h:uG b i with
  | none=>simp_all
  | some q=>
   obtain⟨s,j⟩:=q
   refine⟨rfl,λh1 h2=>⟨Int.natCast_nonneg _,?_⟩⟩
   show(j:Int)<=(b.length:Int)
   unfold uG at h
   cases hg:pW b i with
   | none=>rw[hg] at h;grind
   | some q=>
    obtain⟨x,k⟩:=q
    have hb:=y6 hg
    rw[hg] at h
    grind
theorem RdOk.txt{r:RdT}(h:RdOk r):RdOk (lX r).2:=by
 have e:=zY r
 have p:=e.2 h.lo h.hi
 exact⟨by rw[e.1];exact h.b8,by rw[e.1];exact h.len,p.1,by rw[e.1];omega⟩
theorem qI(r:RdT){m:Int}(hm:0<=m):0<=(eF r m).1/\(eF r m).1<=m:=by
 have:=zZ r
 unfold eF
 grind
-- several numbers
def rdK(r:RdT):Nat->RdT
 | 0=>r
 | k+1=>(aJ (rdK r k)).2
def rdV(r:RdT)(k:Nat):Int:=(aJ (rdK r k)).1
theorem RdOk.k{r:RdT}(h:RdOk r):∀ k,RdOk (rdK r k)
 | 0=>h
 | k+1=>(RdOk.k h k).num
theorem uV(r:RdT):∀ k,(rdK r k).1=r.1
 | 0=>rfl
 | k+1=>(fW _).trans (uV r k)
-- the same reading done several times
def cC{α:Type}(f:RdT->α×RdT)(r:RdT):Nat->List α×RdT
 | 0=>([],r)
 | k+1=>((cC f r k).1++[(f (cC f r k).2).1],(f (cC f r k).2).2)
theorem hU{α:Type}(f:RdT->α×RdT)(r:RdT):∀ k,(cC f r k).1.length=k
 | 0=>rfl
 | k+1=>by show((cC f r k).1++[_]).length=k+1;rw[List.length_append,hU f r k];rfl
theorem nM{α:Type}{f:RdT->α×RdT}(hf:∀ r,RdOk r->RdOk (f r).2){r:RdT}(h:RdOk r):∀ k,RdOk (cC f r k).2
 | 0=>h
 | k+1=>hf _ (nM hf h k)
theorem AJ{α:Type}{f:RdT->α×RdT}(hf:∀ r,(f r).2.1=r.1)(r:RdT):∀ k,(cC f r k).2.1=r.1
 | 0=>rfl
 | k+1=>(hf _).trans (AJ hf r k)
def v6(r:RdT):aH×RdT:=(((aJ r).1,()),(aJ r).2)
def dJ(r:RdT):aO×RdT:=((rdV r 0,rdV r 1,()),rdK r 2)
def cP(r:RdT):bL×RdT:=((rdV r 0,rdV r 1,rdV r 2,rdV r 3,rdV r 4,(lX (rdK r 5)).1,()),(lX (rdK r 5)).2)
theorem RdOk.floor{r:RdT}(h:RdOk r):RdOk (dJ r).2:=h.k 2
theorem RdOk.item{r:RdT}(h:RdOk r):RdOk (cP r).2:=(h.k 5).txt
theorem IW(r:RdT):(cP r).2.1=r.1:=(zY _).1.trans (uV r 5)
def kU(r:RdT)(m:Int):List aH×RdT:=cC v6 (eF r m).2 (eF r m).1.toNat
theorem RdOk.nums{r:RdT}(h:RdOk r)(m:Int):RdOk (kU r m).2:=nM (f:=v6) (λr h=>RdOk.num h) (h.cnt m) _
theorem HW(r:RdT){m:Int}(hm:0<=m):((kU r m).1.length:Int)<=m:=by
 have:=qI r hm
 unfold kU;rw[hU];omega
theorem FU(r:RdT)(m:Int):(kU r m).2.1=r.1:=(AJ (f:=v6) (λr=>fW r) _ _).trans (HX r m)
-- what is read back
def lA{α:Type}(f:RdT->α×RdT)(e:List aH)(x:α):Prop:=
 ∀ b u v:List aH,b=u++(e++v)->f (b,(u.length:Int),false,())=(x,(b,(((u++e).length:Nat):Int),false,()))
theorem GP{x:Int}(h:inB x 0 2147483647=true){b u v:List aH}(hb:b=u++(aG x++v)):pW b (u.length:Int)=some (x.toNat,(u++aG x).length):=by
 rw[aL] at h
 have e:aG x=hS x.toNat:=by unfold aG;rw[aL.2 h];rfl
 rw[e] at hb ⊢
 unfold pW
 rw[decide_eq_false (by omega)]
 show qX b (u.length:Int).toNat=_
 rw[Int.toNat_natCast,hb,<- List.append_assoc,I3 u v (by omega),List.length_append]
theorem hO{x:Int}(h:inB x 0 2147483647=true):lA aJ (aG x) x:=by
 intro b u v hb
 have g:=GP h hb
 show(match pW b (u.length:Int)with | none=>((0:Int),((b,(u.length:Int),true,()):RdT)) | some (x,j)=>((x:Int),(b,(j:Int),false,())))=_
 rw[g]
 show(((x.toNat:Nat):Int),_)=(x,_)
 rw[aL] at h
 rw[show((x.toNat:Nat):Int)=x by omega]
theorem sB{x m:Int}(h:inB x 0 2147483647=true)(hm:x<=m):lA (λr=>eF r m) (aG x) x:=by
 intro b u v hb
 have:=hO h b u v hb
 show eF _ m=_
 unfold eF
 rw[this,decide_eq_false (show ¬ x>m by omega)];rfl
theorem SB{s:ByteArray}(h:ByteArray.size s<=2147483647):inB ((ByteArray.size s:Nat):Int) 0 2147483647=true:=by rw[aL];omega
theorem sY{α:Type}(a b c:List α):((a++(b++c)).take (a.length+b.length)).drop a.length=b:=by
 rw[<- List.append_assoc,List.take_left' (by rw[List.length_append]),List.drop_left' rfl]
theorem NW{s:ByteArray}(h:ByteArray.size s<=2147483647){b u v:List aH}(hb:b=u++(dM s++v)):uG b (u.length:Int)=some (s,(u++dM s).length):=by
 unfold dM at hb ⊢
 have g:=GP (SB h) (b:=b) (u:=u) (v:=fM s++v) (by rw[hb];simp)
 unfold uG;rw[g]
 show(if((ByteArray.size s:Nat):Int).toNat>b.length - (u++aG ((ByteArray.size s:Nat):Int)).length then none else some (cG ((b.take ((u++aG ((ByteArray.size s:Nat):Int)).length+((ByteArray.size s:Nat):Int).toNat)).drop (u++aG ((ByteArray.size s:Nat):Int)).length),(u++aG ((ByteArray.size s:Nat):Int)).length+((ByteArray.size s:Nat):Int).toNat))=_
 have e2:b=(u++aG ((ByteArray.size s:Nat):Int))++(fM s++v):=by rw[hb];simp
 have e3:b.length=(u++aG ((ByteArray.size s:Nat):Int)).length+(ByteArray.size s+v.length):=by rw[e2,List.length_append,List.length_append (as:=fM s),j7]
 rw[Int.toNat_natCast,if_neg (by omega)]
 have e4:=sY (α:=aH) (u++aG ((ByteArray.size s:Nat):Int)) (fM s) v
 rw[<- e2,j7] at e4
 refine(congrArg (λl:List aH=>some (cG l,(u++aG ((ByteArray.size s:Nat):Int)).length+ByteArray.size s)) e4).trans ?_
 rw[NF,<- List.append_assoc,List.length_append (bs:=fM s),j7]
theorem L7{s:ByteArray}(h:ByteArray.size s<=2147483647):lA lX (dM s) s:=by
 intro b u v hb
 have g:=NW h hb
 show(match uG b (u.length:Int)with | none=>((⟨#[]⟩:ByteArray),((b,(u.length:Int),true,()):RdT)) | some (s,j)=>(s,(b,(j:Int),false,())))=_
 rw[g]
def cR(ns:List aH):List aH:=ns.flatMap λx=>aG x.1
theorem nV(a b:List aH):cR (a++b)=cR a++cR b:=List.flatMap_append
theorem wF(x:aH):cR [x]=aG x.1:=by unfold cR;simp
theorem oE{α:Type}[Inhabited α]{xs:List α}{k:Nat}(h:k<xs.length):xs.take (k+1)=xs.take k++[gt xs k]:=by
 rw[<- List.take_append_getElem h,cJ h]
theorem zN{α:Type}[Inhabited α]{xs:List α}{k:Nat}(h:k<xs.length):xs=xs.take k++(gt xs k::xs.drop (k+1)):=by
 rw[cJ h,<- List.drop_eq_getElem_cons h,List.take_append_drop]
theorem nF{ns:List aH}(h:∀ x∈ns,inB x.1 0 2147483647=true){b u v:List aH}(hb:b=u++(cR ns++v)):
  ∀ k,k<=ns.length->rdK (b,(u.length:Int),false,()) k=(b,(((u++cR (ns.take k)).length:Nat):Int),false,())
 | 0,_=>by
  show(b,(u.length:Int),false,())=_
  rw[List.take_zero];unfold cR;rw[List.flatMap_nil,List.append_nil]
 | k+1,hk=>by
  have ih:=nF h hb k (by omega)
  have hg:b=(u++cR (ns.take k))++(aG (gt ns k).1++(cR (ns.drop (k+1))++v)):=by
   rw[hb];conv=>lhs;rw[zN (show k<ns.length by omega)]
   rw[nV,show gt ns k::ns.drop (k+1)=[gt ns k]++ns.drop (k+1)from rfl,nV,wF];simp
  have:=hO (h _ (bR (show k<ns.length by omega))) b _ _ hg
  show(aJ (rdK _ k)).2=_
  rw[ih,this,oE (by omega),nV,wF,List.append_assoc]
theorem v3{ns:List aH}(h:∀ x∈ns,inB x.1 0 2147483647=true){b u v:List aH}(hb:b=u++(cR ns++v))(k:Nat)(hk:k<ns.length):
  rdV (b,(u.length:Int),false,()) k=(gt ns k).1:=by
 have ih:=nF h hb k (by omega)
 have hg:b=(u++cR (ns.take k))++(aG (gt ns k).1++(cR (ns.drop (k+1))++v)):=by
  rw[hb];conv=>lhs;rw[zN hk]
  rw[nV,show gt ns k::ns.drop (k+1)=[gt ns k]++ns.drop (k+1)from rfl,nV,wF];simp
 have:=hO (h _ (bR hk)) b _ _ hg
 unfold rdV;rw[ih,this]
theorem AH{α:Type}[Inhabited α]{f:RdT->α×RdT}{e:α->List aH}{xs:List α}(h:∀ x∈xs,lA f (e x) x){b u v:List aH}(hb:b=u++(xs.flatMap e++v)):
  ∀ k,k<=xs.length->cC f (b,(u.length:Int),false,()) k=(xs.take k,(b,(((u++(xs.take k).flatMap e).length:Nat):Int),false,()))
 | 0,_=>by
  show(([]:List α),((b,(u.length:Int),false,()):RdT))=_
  rw[List.take_zero,List.flatMap_nil,List.append_nil]
 | k+1,hk=>by
  have ih:=AH h hb k (by omega)
  have hg:b=(u++(xs.take k).flatMap e)++(e (gt xs k)++((xs.drop (k+1)).flatMap e++v)):=by
   rw[hb];conv=>lhs;rw[zN (show k<xs.length by omega)]
   rw[List.flatMap_append,List.flatMap_cons];simp
  have:=h _ (bR (show k<xs.length by omega)) b _ _ hg
  show((cC f _ k).1++[(f (cC f _ k).2).1],(f (cC f _ k).2).2)=_
  rw[ih,this,oE (by omega),List.flatMap_append,List.append_assoc]
  simp
theorem oV{α:Type}[Inhabited α]{f:RdT->α×RdT}{e:α->List aH}{xs:List α}(h:∀ x∈xs,lA f (e x) x):lA (λr=>cC f r xs.length) (xs.flatMap e) xs:=by
 intro b u v hb
 have:=AH h hb xs.length (Nat.le_refl _)
 rw[List.take_length] at this
 omega
theorem H4{x:aH}(h:inB x.1 0 2147483647=true):lA v6 (aG x.1) x:=by
 intro b u v hb
 unfold v6;rw[hO h b u v hb]
theorem EO{f:aO}(h1:inB f.1 0 2147483647=true)(h2:inB f.2.1 0 2147483647=true):lA dJ (aU f) f:=by
 intro b u v hb
 have e:aU f=cR [(f.1,()),(f.2.1,())]:=by unfold cR aU;simp
 rw[e] at hb ⊢
 have hn:∀ x∈[((f.1,()):aH),(f.2.1,())],inB x.1 0 2147483647=true:=by
  simp_all
 have a:=v3 hn hb
 have c:=nF hn hb 2 (Nat.le_refl _)
 unfold dJ
 rw[a 0 (show 0<2 by omega),a 1 (show 1<2 by omega),c];rfl
theorem GI{x:bL}(h:∀ y∈five x,inB y.1 0 2147483647=true)(hs:ByteArray.size x.2.2.2.2.2.1<=2147483647):lA cP (aY x) x:=by
 intro b u v hb
 have e:aY x=cR (five x)++dM x.2.2.2.2.2.1:=by unfold cR aY five;simp
 rw[e] at hb ⊢
 have hb1:b=u++(cR (five x)++(dM x.2.2.2.2.2.1++v)):=by rw[hb];simp
 have hb2:b=(u++cR (five x))++(dM x.2.2.2.2.2.1++v):=by rw[hb];simp
 have a:=v3 h hb1
 have c:=nF h hb1 5 (Nat.le_refl _)
 rw[show(five x).take 5=five x from rfl] at c
 have d:=L7 hs b _ _ hb2
 unfold cP
 rw[c,d,a 0 (show 0<5 by omega),a 1 (show 1<5 by omega),a 2 (show 2<5 by omega),a 3 (show 3<5 by omega),a 4 (show 4<5 by omega),List.append_assoc];rfl
end Go.Abs
-- states and messages read back: plain laws
namespace Go.Abs
open Go
def InN(x:Int):Prop:=inB x 0 2147483647=true
theorem InN.of{x hi:Int}(h:inB x 0 hi=true)(hh:hi<=2147483647):InN x:=by
 unfold InN;rw[aL] at h ⊢;omega
theorem InN.of1{x hi:Int}(h:inB x 1 hi=true)(hh:hi<=2147483647):InN x:=by
 unfold InN;rw[aL] at h ⊢;omega
theorem InN.nat{n:Nat}(h:n<=2147483647):InN (n:Int):=by unfold InN;rw[aL];omega
theorem StateOk.five{s:aE}(h:StateOk s){x:bL}(hx:x∈s.1):(∀ y∈five x,inB y.1 0 2147483647=true)/\ByteArray.size x.2.2.2.2.2.1<=2147483647:=by
 obtain⟨h1,h2,_⟩:=h.item x hx
 unfold eA at h2
 simp only[Bool.and_eq_true,decide_eq_true_eq] at h2
 obtain⟨a,b,c,d,e⟩:=h2
 refine⟨λy hy=>?_,by omega⟩
 unfold Go.Abs.five at hy
 simp only[List.mem_cons,List.not_mem_nil,or_false] at hy
 rcases hy with rfl | rfl | rfl | rfl | rfl
 ·exact InN.of (h1:inB x.1 0 4=true) (by decide)
 ·exact InN.of1 a (by decide)
 ·exact InN.of b (by decide)
 ·exact InN.of c (by decide)
 ·exact InN.of d (by decide)
theorem StateOk.flo{s:aE}(h:StateOk s){f:aO}(hf:f∈s.2.1):InN f.1/\InN f.2.1:=
 ⟨InN.of ((h.floor f hf).1:inB f.1 0 4=true) (by decide),InN.of1 (h.floor f hf).2 (by decide)⟩
theorem AU{s:aE}(h:StateOk s):∀ x∈s.1,lA cP (aY x) x:=λx hx=>GI (h.five hx).1 (h.five hx).2
theorem xW{fs:List aO}(h:∀ f∈fs,InN f.1/\InN f.2.1):∀ x∈fs,lA dJ (aU x) x:=λx hx=>EO (h x hx).1 (h x hx).2
-- the program's reader of states
def rs0(b:List aH):RdT:=(b,0,false,())
def siC(b:List aH):Int×RdT:=eF (rs0 b) 5
def siI(b:List aH):List bL×RdT:=cC cP (siC b).2 (siC b).1.toNat
def siF(b:List aH):Int×RdT:=eF (siI b).2 5
def siG(b:List aH):List aO×RdT:=cC dJ (siF b).2 (siF b).1.toNat
def stI(b:List aH):aE:=((siI b).1,(siG b).1,())
def bU(b:List aH):Option aE:=bif(siG b).2.2.2.1||(!aM (stI b)|| !bV (bG (stI b)) b)then none else some (stI b)
theorem Q8{α:Type}{c:Bool}{x y:α}(h:(bif c then none else some x)=some y):c=false/\x=y:=by
 grind
theorem xB{b:List aH}{s:aE}(h:bU b=some s):aM s=true/\bV (bG s) b=true:=by
 obtain⟨h1,h2⟩:=Q8 h
 simp_all
theorem vM(s:aE):bG s=([]:List aH)++(aG (s.1.length:Int)++(s.1.flatMap aY++(aG (s.2.1.length:Int)++(s.2.1.flatMap aU++[])))):=by
 unfold bG;simp
theorem iC(b:List aH):bV b b=true:=by unfold bV;simp
theorem lE{s:aE}(hs:aM s=true):bU (bG s)=some s:=by
 have h:=(aN s).1 hs
 have h5:=h.len
 have hb:=vM s
 generalize e:bG s=b at hb
 have c1:siC b=((s.1.length:Int),(b,(((([]:List aH)++aG (s.1.length:Int)).length:Nat):Int),false,())):=
  sB (m:=5) (InN.nat (by omega)) (by omega) b [] _ hb
 have c2:siI b=(s.1,(b,(((([]:List aH)++aG (s.1.length:Int)++s.1.flatMap aY).length:Nat):Int),false,())):=by
  unfold siI;rw[c1]
  show cC cP _ ((s.1.length:Int)).toNat=_
  rw[Int.toNat_natCast]
  exact oV (AU h) b _ _ (by rw[hb,List.append_assoc])
 have c3:siF b=((s.2.1.length:Int),(b,(((([]:List aH)++aG (s.1.length:Int)++s.1.flatMap aY++aG (s.2.1.length:Int)).length:Nat):Int),false,())):=by
  unfold siF;rw[c2]
  exact sB (m:=5) (InN.nat (by omega)) (by omega) b _ (s.2.1.flatMap aU++[]) (by rw[hb];simp)
 have c4:siG b=(s.2.1,(b,(((([]:List aH)++aG (s.1.length:Int)++s.1.flatMap aY++aG (s.2.1.length:Int)++s.2.1.flatMap aU).length:Nat):Int),false,())):=by
  unfold siG;rw[c3]
  show cC dJ _ ((s.2.1.length:Int)).toNat=_
  rw[Int.toNat_natCast]
  exact oV (xW λf hf=>h.flo hf) b _ [] (by rw[hb];simp)
 have c5:stI b=s:=by unfold stI;rw[c2,c4]
 unfold bU;rw[c4,c5,hs,e,iC];rfl
-- the reference's reader of states
def oJ:RdT->Nat->List aH×RdT
 | r,0=>([],r)
 | r,k+1=>bif r.2.2.1 then([],r)else(((aJ r).1,())::(oJ (aJ r).2 k).1,(oJ (aJ r).2 k).2)
def cK(r:RdT)(t:Nat):List aH×RdT:=bif decide ((aJ r).1>100)then([],((aJ r).2.1,(aJ r).2.2.1,true,()))else oJ (aJ r).2 ((aJ r).1.toNat*t)
theorem FN:∀ (k:Nat) (r:RdT),(oJ r k).1.length<=k
 | 0,r=>Nat.le_refl _
 | k+1,r=>by
  unfold oJ
  cases r.2.2.1 with
  | true=>simp
  | false=>show(((aJ r).1,())::(oJ (aJ r).2 k).1).length<=k+1;rw[List.length_cons];have:=FN k (aJ r).2;omega
theorem J5:∀ (k:Nat) {r:RdT},RdOk r->RdOk (oJ r k).2
 | 0,r,h=>h
 | k+1,r,h=>by
  unfold oJ
  cases r.2.2.1 with
  | true=>grind
  | false=>exact J5 k h.num
theorem CG:∀ (k:Nat) (r:RdT),(oJ r k).2.1=r.1
 | 0,r=>rfl
 | k+1,r=>by
  unfold oJ
  cases r.2.2.1 with
  | true=>rfl
  | false=>exact(CG k _).trans (fW r)
theorem IC(r:RdT)(t:Nat):(cK r t).2.1=r.1:=by
 unfold cK
 cases decide ((aJ r).1>100)with
 | true=>exact fW r
 | false=>exact(CG _ _).trans (fW r)
theorem sF(r:RdT)(t:Nat):(cK r t).1.length<=100*t:=by
 unfold cK
 by_cases h:(aJ r).1>100
 ·rw[decide_eq_true h];simp
 ·rw[decide_eq_false h]
  have h1:=FN ((aJ r).1.toNat*t) (aJ r).2
  have h2:(aJ r).1.toNat*t<=100*t:=Nat.mul_le_mul (by omega) (Nat.le_refl _)
  grind
theorem RdOk.many{r:RdT}(h:RdOk r)(t:Nat):RdOk (cK r t).2:=by
 unfold cK
 cases decide ((aJ r).1>100)with
 | true=>exact⟨h.num.b8,h.num.len,h.num.lo,h.num.hi⟩
 | false=>exact J5 _ h.num
theorem CL:∀ (ns:List aH),(∀ x∈ns,InN x.1)->lA (λr=>oJ r ns.length) (cR ns) ns
 | [],_=>λb u v hb=>by show(([]:List aH),((b,(u.length:Int),false,()):RdT))=_;unfold cR;rw[List.flatMap_nil,List.append_nil]
 | x::ns,h=>λb u v hb=>by
  have e:cR (x::ns)=aG x.1++cR ns:=by rfl
  rw[e] at hb ⊢
  have h1:=hO (h x (List.mem_cons_self ..)) b u (cR ns++v) (by rw[hb];simp)
  have h2:=CL ns (λy hy=>h y (List.mem_cons_of_mem _ hy)) b (u++aG x.1) v (by rw[hb];simp)
  show(((aJ _).1,())::(oJ (aJ _).2 ns.length).1,(oJ (aJ _).2 ns.length).2)=_
  rw[h1]
  simp_all
theorem xI{ns:List aH}{n t:Nat}(hl:ns.length=n*t)(hn:n<=100)(h:∀ x∈ns,InN x.1):lA (λr=>cK r t) (aG ((n:Nat):Int)++cR ns) ns:=by
 intro b u v hb
 have h1:=hO (InN.nat (show n<=2147483647 by omega)) b u (cR ns++v) (by rw[hb];simp)
 have h2:=CL ns h b (u++aG ((n:Nat):Int)) v (by rw[hb];simp)
 show cK _ t=_
 unfold cK
 rw[h1,decide_eq_false (show ¬ (((n:Nat):Int)>100) by omega)]
 simp_all
def iW(fl:List aH)(k:Nat):List aO:=(List.range k).map λi=>((gt fl (2*i)).1,(gt fl (2*i+1)).1,())
theorem tI(fl:List aH)(k:Nat):(iW fl k).length=k:=by unfold iW;rw[List.length_map,List.length_range]
theorem xM(fl:List aH)(k:Nat):iW fl (k+1)=iW fl k++[((gt fl (2*k)).1,(gt fl (2*k+1)).1,())]:=by
 unfold iW;rw[List.range_succ,List.map_append];rfl
theorem F3(x y:aH)(l:List aH)(k:Nat):iW (x::y::l) (k+1)=(x.1,y.1,())::iW l k:=by
 unfold iW
 rw[List.range_succ_eq_map,List.map_cons,List.map_map]
 rfl
def E9(fs:List aO):List aH:=fs.flatMap λf=>[(f.1,()),(f.2.1,())]
theorem vP(f:aO)(fs:List aO):E9 (f::fs)=(f.1,())::(f.2.1,())::E9 fs:=by rfl
theorem zD:∀ fs:List aO,(E9 fs).length=fs.length*2
 | []=>rfl
 | f::fs=>by rw[vP,List.length_cons,List.length_cons,zD fs,List.length_cons];omega
theorem B6:∀ fs:List aO,cR (E9 fs)=fs.flatMap aU
 | []=>rfl
 | f::fs=>by
  rw[vP,List.flatMap_cons,<- B6 fs]
  unfold cR aU;rw[List.flatMap_cons,List.flatMap_cons,List.append_assoc]
theorem RY{fs:List aO}(h:∀ f∈fs,InN f.1/\InN f.2.1):∀ x∈E9 fs,InN x.1:=λx hx=>by
 obtain⟨f,hf,hx⟩:=List.mem_flatMap.1 hx
 grind
theorem z5:∀ fs:List aO,iW (E9 fs) fs.length=fs
 | []=>rfl
 | f::fs=>by rw[vP,List.length_cons,F3,z5 fs]
def flR(r:RdT):List aO×RdT:=(iW (cK r 2).1 ((cK r 2).1.length / 2),(cK r 2).2)
theorem C7{fs:List aO}(hl:fs.length<=100)(h:∀ f∈fs,InN f.1/\InN f.2.1):lA flR (aG (fs.length:Int)++fs.flatMap aU) fs:=by
 intro b u v hb
 rw[<- B6] at hb ⊢
 have:=xI (t:=2) (zD fs) hl (RY h) b u v hb
 have this:cK (b,(u.length:Int),false,()) 2=_:=this
 unfold flR;rw[this]
 show(iW (E9 fs) ((E9 fs).length / 2),_)=_
 rw[zD,Nat.mul_div_cancel _ (by decide),z5]
theorem KT(r:RdT):(flR r).1.length<=100:=by
 unfold flR;rw[tI];have:=sF r 2;omega
def iY:RdT->Nat->Option (List bL×RdT)
 | r,0=>some ([],r)
 | r,k+1=>bif r.2.2.1 then some ([],r)else bif(cP r).2.2.2.1 then none else(iY (cP r).2 k).map λq=>((cP r).1::q.1,q.2)
theorem vA:∀ (xs:List bL),(∀ x∈xs,lA cP (aY x) x)->∀ b u v,b=u++(xs.flatMap aY++v)->
  iY (b,(u.length:Int),false,()) xs.length=some (xs,(b,(((u++xs.flatMap aY).length:Nat):Int),false,()))
 | [],_,b,u,v,hb=>by show some (([]:List bL),((b,(u.length:Int),false,()):RdT))=_;rw[List.flatMap_nil,List.append_nil]
 | x::xs,h,b,u,v,hb=>by
  rw[List.flatMap_cons] at hb ⊢
  have h1:=h x (List.mem_cons_self ..) b u (xs.flatMap aY++v) (by rw[hb];simp)
  have h2:=vA xs (λy hy=>h y (List.mem_cons_of_mem _ hy)) b (u++aY x) v (by rw[hb];simp)
  show(bif(cP _).2.2.2.1 then none else(iY (cP _).2 xs.length).map λq=>((cP _).1::q.1,q.2))=_
  rw[h1]
  simp_all
def ssI(b:List aH):Option (List bL×RdT):=bif decide ((aJ (rs0 b)).1>100)then some ([],(aJ (rs0 b)).2)else iY (aJ (rs0 b)).2 (aJ (rs0 b)).1.toNat
def stS(q:List bL×RdT):aE:=(q.1,(flR q.2).1,())
def f4(b:List aH):Option aE:=match ssI b with
 | none=>none
 | some q=>bif(flR q.2).2.2.2.1||(decide ((aJ (rs0 b)).1>100)||(!aM (stS q)|| !bV (bG (stS q)) b))then none else some (stS q)
theorem FG{b:List aH}{s:aE}(h:f4 b=some s):aM s=true/\bV (bG s) b=true:=by
 unfold f4 at h
 grind
theorem DZ{s:aE}(hs:aM s=true):f4 (bG s)=some s:=by
 have h:=(aN s).1 hs
 have h5:=h.len
 have hb:=vM s
 generalize e:bG s=b at hb
 have c1:aJ (rs0 b)=((s.1.length:Int),(b,(((([]:List aH)++aG (s.1.length:Int)).length:Nat):Int),false,())):=
  hO (InN.nat (by omega)) b [] _ hb
 have hd:decide ((s.1.length:Int)>100)=false:=decide_eq_false (by omega)
 have c2:ssI b=some (s.1,(b,(((([]:List aH)++aG (s.1.length:Int)++s.1.flatMap aY).length:Nat):Int),false,())):=by
  unfold ssI;rw[c1,hd]
  show iY _ ((s.1.length:Int)).toNat=_
  rw[Int.toNat_natCast]
  exact vA s.1 (AU h) b _ _ (by rw[hb,List.append_assoc])
 have c3:=C7 (show s.2.1.length<=100 by omega) (λf hf=>h.flo hf) b (([]:List aH)++aG (s.1.length:Int)++s.1.flatMap aY) [] (by rw[hb];simp)
 unfold f4;rw[c1,c2,hd]
 show(bif(flR _).2.2.2.1||(false||(!aM (s.1,(flR _).1,())|| !bV (bG (s.1,(flR _).1,())) b))then none else some (s.1,(flR _).1,()))=_
 rw[c3]
 show(bif false||(false||(!aM s|| !bV (bG s) b))then none else some s)=_
 rw[hs,e,iC];rfl
theorem LP{b:List aH}(hb:ByL b):f4 b=bU b:=by
 cases h:bU b with
 | some s=>
  obtain⟨h1,h2⟩:=xB h
  have e:=(kO (wO s) hb).1 h2
  rw[<- e];exact DZ h1
 | none=>
  cases h2:f4 b with
  | none=>rfl
  | some s=>
   obtain⟨h3,h4⟩:=FG h2
   have e:=(kO (wO s) hb).1 h4
   rw[<- e,lE h3] at h;omega
end Go.Abs
-- messages as bytes, and read back: plain laws
namespace Go.Abs
open Go
def fE(m:MsgT):List aH:=[(m.1,()),(m.2.1,()),(m.2.2.1,()),(m.2.2.2.1,()),(m.hi,())]
def cW(ns:List aH):List aH:=aG (ns.length:Int)++cR ns
def sU(fs:List aO):List aH:=aG (fs.length:Int)++fs.flatMap aU
def rk2:List aH:=[(82,()),(75,())]
def dV(m:MsgT):List aH:=rk2++(cR (fE m)++(cW m.tree.1++(aG m.tree.2.1++(cW m.vec++(cW m.leaves++(aG (((bG m.part).length:Nat):Int)++(bG m.part++sU m.marks)))))))
def BU(x:Nat):List aH:=[(((x / 16777216:Nat):Int),()),(((x / 65536 % 256:Nat):Int),()),(((x / 256 % 256:Nat):Int),()),(((x % 256:Nat):Int),())]
def pT(b:List aH):List aH:=BU (crc b).toNat
def cO(m:MsgT):List aH:=dV m++pT (dV m)
theorem GT(ns:List aH):ByL (cR ns):=ByL.flat (λx=>dT _) ns
theorem AQ(ns:List aH):ByL (cW ns):=(dT _).app (GT ns)
theorem PW(fs:List aO):ByL (sU fs):=(dT _).app (ByL.flat sW fs)
theorem rk2_by:ByL rk2:=λx hx=>by
 unfold rk2 at hx
 simp only[List.mem_cons,List.not_mem_nil,or_false] at hx
 rcases hx with rfl | rfl
 ·exact⟨82,rfl,by decide⟩
 ·exact⟨75,rfl,by decide⟩
theorem n7(m:MsgT):ByL (dV m):=rk2_by.app ((GT _).app ((AQ _).app ((dT _).app ((AQ _).app ((AQ _).app ((dT _).app ((wO _).app (PW _))))))))
theorem ByL.b32{b:List aH}(h:ByL b):B32 b:=λx hx=>by
 obtain⟨y,hy,hy2⟩:=h x hx
 exact⟨by omega,by omega⟩
theorem R9{x:Nat}(h:x<4294967296):ByL (BU x):=λy hy=>by
 unfold BU at hy
 simp only[List.mem_cons,List.not_mem_nil,or_false] at hy
 rcases hy with rfl | rfl | rfl | rfl
 ·exact⟨_,rfl,by omega⟩
 ·exact⟨_,rfl,by omega⟩
 ·exact⟨_,rfl,by omega⟩
 ·exact⟨_,rfl,by omega⟩
theorem tX{b:List aH}(h:ByL b):(crc b).toNat<4294967296/\0<=crc b:=by
 have:=QZ (bs:=b) h.b32
 have h1:=this.1;have h2:=this.2
 omega
theorem SA{b:List aH}(h:ByL b):ByL (pT b):=R9 (tX h).1
theorem NH(m:MsgT):ByL (cO m):=(n7 m).app (SA (n7 m))
theorem lU(b:List aH):(pT b).length=4:=rfl
-- numbers of a right message
structure MsgR (m:MsgT):Prop where
 head:∀ x∈fE m,InN x.1
 tree:m.tree.1.length<=4/\∀ x∈m.tree.1,InN x.1
 root:InN m.tree.2.1
 vec:m.vec.length<=5/\∀ x∈m.vec,InN x.1
 leaves:m.leaves.length<=4/\∀ x∈m.leaves,InN x.1
 part:aM m.part=true
 marks:m.marks.length<=5/\∀ f∈m.marks,InN f.1/\InN f.2.1
theorem RH{v:List aH}{top:Int}(h:kI v top=true)(ht:top<=2147483647):∀ x∈v,InN x.1:=λx hx=>by
 obtain⟨i,hi,rfl⟩:=fX hx
 exact InN.of (bD.1 h i hi) ht
theorem oZ{m:MsgT}(h:dR m=true):MsgR m:=by
 have hl:=AR h
 unfold dR sE at h
 simp only[Bool.and_eq_true] at h
 obtain⟨⟨h1,h2,h3,_⟩,h4,h5,h6,h7,h8,h9,h10,h11⟩:=h
 rw[decide_eq_true_eq] at h9
 refine⟨λx hx=>?_,?_,?_,⟨by omega,RH h5 (by decide)⟩,⟨hl,λx hx=>?_⟩,h10,⟨MM h11,λf hf=>?_⟩⟩
 ·unfold fE at hx
  simp only[List.mem_cons,List.not_mem_nil,or_false] at hx
  rcases hx with rfl | rfl | rfl | rfl | rfl
  ·exact InN.of h1 (by decide)
  ·exact InN.of (h2:inB _ 0 4=true) (by decide)
  ·exact InN.of (h3:inB _ 0 4=true) (by decide)
  ·exact InN.of h6 (by decide)
  ·exact InN.of h7 (by decide)
 ·unfold treeB at h8
  cases he:(m.tree.1.length:Int)==0 with
  | true=>
   simp_all
  | false=>
   rw[he] at h8
   have h8:((m.tree.1.length:Int)==4&&(kI m.tree.1 1023&&inB m.tree.2.1 0 1023))=true:=h8
   rw[Bool.and_eq_true] at h8
   have h8a:=eq_of_beq h8.1
   have h8b:=h8.2
   rw[Bool.and_eq_true] at h8b
   exact⟨by omega,RH h8b.1 (by decide)⟩
 ·unfold treeB at h8
  cases he:(m.tree.1.length:Int)==0 with
  | true=>
   rw[he] at h8
   have h8:(m.tree.2.1==0)=true:=h8
   rw[beq_iff_eq] at h8
   show InN m.tree.2.1
   rw[h8];rfl
  | false=>
   rw[he] at h8
   have h8:((m.tree.1.length:Int)==4&&(kI m.tree.1 1023&&inB m.tree.2.1 0 1023))=true:=h8
   simp only[Bool.and_eq_true] at h8
   exact InN.of h8.2.2 (by decide)
 ·obtain⟨i,hi,rfl⟩:=fX hx
  have:=bD.1 h4 i hi
  unfold xR at this
  simp only[Bool.and_eq_true] at this
  exact InN.of this.1 (by decide)
 ·obtain⟨i,hi,rfl⟩:=fX hf
  have:=u7 h11 hi
  unfold InN;rw[aL,aL];omega
theorem lQ(ns:List aH):(cR ns).length<=ns.length*5:=by
 unfold cR;rw[<- cB];exact dK λi hi=>aX _
theorem BJ{m:MsgT}(h:MsgR m):(dV m).length<=500:=by
 have h1:=lQ (fE m);have h2:=lQ m.tree.1;have h3:=lQ m.vec;have h4:=lQ m.leaves
 have h5:=nZ ((aN _).1 h.part)
 have h6:(m.marks.flatMap aU).length<=m.marks.length*10:=by rw[<- cB];exact dK λi hi=>fL _
 have n1:=aX (m.tree.1.length:Int);have n2:=aX m.tree.2.1;have n3:=aX (m.vec.length:Int);have n4:=aX (m.leaves.length:Int)
 have n5:=aX (((bG m.part).length:Nat):Int);have n6:=aX (m.marks.length:Int)
 have l1:=h.tree.1;have l2:=h.vec.1;have l3:=h.leaves.1;have l4:=h.marks.1
 have l5:(fE m).length=5:=rfl
 have l6:rk2.length=2:=rfl
 unfold dV cW sU
 simp only[List.length_append]
 grind
theorem BH{m:MsgT}(h:dR m=true):(cO m).length<=504:=by
 have:=BJ (oZ h)
 unfold cO;rw[List.length_append,lU];omega
def aZ(m:MsgT):List aH:=bif dR m then cO m else[]
theorem jB(m:MsgT):ByL (aZ m):=by
 unfold aZ;cases dR m with
 | true=>exact NH m
 | false=>exact λx hx=>by grind
theorem u6(m:MsgT):(aZ m).length<=504:=by
 unfold aZ;cases h:dR m with
 | true=>exact BH h
 | false=>simp
-- the reader of messages, by the ways of reading lists
def mR(b:List aH):RdT:=(b.take (b.length - 4),2,false,())
section
variable (N:Int->RdT->List aH×RdT) (r:RdT)
def mgA:List aH×RdT:=N 4 (rdK r 5)
def mgB:Int×RdT:=aJ (mgA N r).2
def mgC:List aH×RdT:=N 5 (mgB N r).2
def mgD:List aH×RdT:=N 4 (mgC N r).2
def mgE:Int×RdT:=aJ (mgD N r).2
def nK:Bool:=(mgE N r).2.2.2.1||decide ((mgE N r).1>(((mgE N r).2.1.length:Nat):Int) - (mgE N r).2.2.1)
def eV:List aH:=((mgE N r).2.1.take ((mgE N r).2.2.1+(mgE N r).1).toNat).drop (mgE N r).2.2.1.toNat
def mgR:RdT:=((mgE N r).2.1,(mgE N r).2.2.1+(mgE N r).1,(mgE N r).2.2.2.1,())
def mgM(s:aE)(fs:List aO):MsgT:=(rdV r 0,rdV r 1,rdV r 2,rdV r 3,rdV r 4,(mgA N r).1,(mgB N r).1,(mgC N r).1,(mgD N r).1,s.1,s.2.1,fs,())
end
def JZ(N:Int->RdT->List aH×RdT):Prop:=∀ (k:Int) (ns:List aH),(ns.length:Int)<=k->k<=5->(∀ x∈ns,InN x.1)->lA (N k) (cW ns) ns
def NI(k:Int)(r:RdT):List aH×RdT:=kU r k
def NS(k:Int)(r:RdT):List aH×RdT:=cK r 1
theorem OZ:JZ NI:=λk ns hl hk h b u v hb=>by
 unfold cW at hb ⊢
 have h1:=sB (InN.nat (show ns.length<=2147483647 by omega)) hl b u (cR ns++v) (by rw[hb];simp)
 have h2:=oV (f:=v6) (xs:=ns) (e:=λx=>aG x.1) (λx hx=>H4 (h x hx)) b (u++aG (ns.length:Int)) v (by rw[hb];simp only[List.append_assoc];rfl)
 show kU _ k=_
 unfold kU
 have h1:eF (b,(u.length:Int),false,()) k=_:=h1
 rw[h1]
 show cC v6 _ ((ns.length:Int)).toNat=_
 rw[Int.toNat_natCast]
 exact h2.trans (by rw[List.append_assoc];rfl)
theorem OY:JZ NS:=λk ns hl hk h=>xI (t:=1) (by omega) (by omega) h
theorem PR{N:Int->RdT->List aH×RdT}(hN:JZ N){m:MsgT}(h:MsgR m){b:List aH}(hb:b=dV m):
  nK N (b,2,false,())=false/\eV N (b,2,false,())=bG m.part/\mgM N (b,2,false,()) m.part m.marks=m/\
  ∃ u:List aH,b=u++(sU m.marks++[])/\mgR N (b,2,false,())=(b,(u.length:Int),false,()):=by
 have h0:((b,2,false,()):RdT)=(b,(rk2.length:Int),false,()):=rfl
 rw[h0]
 have hb:=hb
 unfold dV at hb
 have c0:=nF (ns:=fE m) h.head hb 5 (Nat.le_refl _)
 rw[show(fE m).take 5=fE m from rfl] at c0
 have v0:=v3 (ns:=fE m) h.head hb
 have c1:mgA N (b,(rk2.length:Int),false,())=_:=(congrArg (N 4) c0).trans (hN 4 m.tree.1 (by have:=h.tree.1;omega) (by decide) h.tree.2 b _ _ (by rw[hb];rfl))
 have c2:mgB N (b,(rk2.length:Int),false,())=_:=(congrArg (λq:List aH×RdT=>aJ q.2) c1).trans (hO h.root b _ _ (by rw[hb];simp only[List.append_assoc];rfl))
 have c3:mgC N (b,(rk2.length:Int),false,())=_:=(congrArg (λq:Int×RdT=>N 5 q.2) c2).trans (hN 5 m.vec (by have:=h.vec.1;omega) (by decide) h.vec.2 b _ _ (by rw[hb];simp only[List.append_assoc];rfl))
 have c4:mgD N (b,(rk2.length:Int),false,())=_:=(congrArg (λq:List aH×RdT=>N 4 q.2) c3).trans (hN 4 m.leaves (by have:=h.leaves.1;omega) (by decide) h.leaves.2 b _ _ (by rw[hb];simp only[List.append_assoc];rfl))
 have hl:=nZ ((aN _).1 h.part)
 have c5:mgE N (b,(rk2.length:Int),false,())=_:=(congrArg (λq:List aH×RdT=>aJ q.2) c4).trans (hO (x:=(((bG m.part).length:Nat):Int)) (InN.nat (by omega)) b _ _ (by rw[hb];simp only[List.append_assoc];rfl))
 generalize hu:rk2++cR (fE m)++cW m.tree.1++aG m.tree.2.1++cW m.vec++cW m.leaves++aG (((bG m.part).length:Nat):Int)=U at c5
 have hb2:b=U++(bG m.part++sU m.marks):=by rw[hb,<- hu];simp
 have hbl:b.length=U.length+((bG m.part).length+(sU m.marks).length):=by rw[hb2,List.length_append,List.length_append]
 refine⟨?_,?_,?_,U++bG m.part,?_,?_⟩
 ·unfold nK;rw[c5]
  grind
 ·unfold eV;rw[c5]
  show(b.take ((U.length:Int)+(((bG m.part).length:Nat):Int)).toNat).drop ((U.length:Int)).toNat=_
  rw[show((U.length:Int)+(((bG m.part).length:Nat):Int)).toNat=U.length+(bG m.part).length by omega,Int.toNat_natCast,hb2]
  exact sY _ _ _
 ·unfold mgM;rw[c1,c2,c3,c4,v0 0 (show 0<5 by omega),v0 1 (show 1<5 by omega),v0 2 (show 2<5 by omega),v0 3 (show 3<5 by omega),v0 4 (show 4<5 by omega)];rfl
 ·rw[hb2];simp
 ·unfold mgR;rw[c5]
  simp
-- the program's reader of messages
def miC(b:List aH):Int×RdT:=eF (mgR NI (mR b)) 5
def miF(b:List aH):List aO×RdT:=cC dJ (miC b).2 (miC b).1.toNat
def miM(b:List aH)(s:aE):MsgT:=mgM NI (mR b) s (miF b).1
def bW(b:List aH):Option MsgT:=bif decide (i64.wrap ((b.length:Int) - 4)<2)then none else bif !bV (b.take 2) rk2 then none else bif nK NI (mR b)then none else
 match bU (eV NI (mR b))with
 | none=>none
 | some s=>bif(miF b).2.2.2.1||(!dR (miM b s)|| !bV (aZ (miM b s)) b)then none else some (miM b s)
-- the reference's
def msF(b:List aH):List aO×RdT:=flR (mgR NS (mR b))
def msM(b:List aH):MsgT:=mgM NS (mR b) ((bU (eV NS (mR b))).getD iX) (msF b).1
def fI(b:List aH):Option MsgT:=bif decide ((b.length:Int)<6)then none else bif !bV (pT (b.take (b.length - 4))) (b.drop (b.length - 4))then none else bif nK NS (mR b)then none else
 bif(bU (eV NS (mR b))).isNone||((msF b).2.2.2.1||(!dR (msM b)|| !bV (aZ (msM b)) b))then none else some (msM b)
theorem v7{b:List aH}{m:MsgT}(h:bW b=some m):dR m=true/\bV (aZ m) b=true:=by
 unfold bW at h
 grind
theorem MK{b:List aH}{m:MsgT}(h:fI b=some m):dR m=true/\bV (aZ m) b=true:=by
 unfold fI at h
 grind
theorem BI(m:MsgT):(cO m).length - 4=(dV m).length/\(cO m).take ((cO m).length - 4)=dV m/\(cO m).drop ((cO m).length - 4)=pT (dV m):=by
 have e:(cO m).length - 4=(dV m).length:=by unfold cO;rw[List.length_append,lU];omega
 rw[e]
 exact⟨rfl,List.take_left' rfl,List.drop_left' rfl⟩
theorem DE(m:MsgT):2<=(dV m).length:=by unfold dV;rw[List.length_append];exact Nat.le_add_right 2 _
theorem H9{m:MsgT}(h:dR m=true):bW (cO m)=some m:=by
 have hr:=oZ h
 obtain⟨p1,p2,p3⟩:=BI m
 have h2:=DE m
 have hl:=BH h
 obtain⟨q1,q2,q3,u,q4,q5⟩:=PR OZ hr rfl
 have e:mR (cO m)=(dV m,2,false,()):=by unfold mR;rw[p2]
 have ht:(cO m).take 2=rk2:=by rfl
 have c1:miC (cO m)=_:=(congrArg (λr:RdT=>eF (mgR NI r) 5) e).trans ((congrArg (λr:RdT=>eF r 5) q5).trans
  (sB (m:=5) (InN.nat (show m.marks.length<=2147483647 by have:=hr.marks.1;omega)) (by have:=hr.marks.1;omega) (dV m) u (m.marks.flatMap aU++[]) (q4.trans (by unfold sU;simp))))
 have c2:miF (cO m)=(m.marks,(dV m,(((u++aG (m.marks.length:Int)++m.marks.flatMap aU).length:Nat):Int),false,())):=by
  unfold miF;rw[c1]
  show cC dJ _ ((m.marks.length:Int)).toNat=_
  rw[Int.toNat_natCast]
  exact oV (xW hr.marks.2) (dV m) _ [] (q4.trans (by unfold sU;simp))
 have c3:miM (cO m) m.part=m:=by unfold miM;rw[c2,e];omega
 have hw:i64.wrap ((((cO m).length:Nat):Int) - 4)=(((cO m).length:Nat):Int) - 4:=by rw[IntKind.wrap_i64];omega
 unfold bW
 rw[hw,decide_eq_false (show ¬ ((((cO m).length:Nat):Int) - 4<2) by omega),ht,iC,e,q1,q2,lE hr.part]
 show(bif(miF (cO m)).2.2.2.1||(!dR (miM (cO m) m.part)|| !bV (aZ (miM (cO m) m.part)) (cO m))then none else some (miM (cO m) m.part))=some m
 rw[c3,c2,h,show aZ m=cO m by unfold aZ;rw[h];rfl,iC];rfl
theorem H8{m:MsgT}(h:dR m=true):fI (cO m)=some m:=by
 have hr:=oZ h
 obtain⟨p1,p2,p3⟩:=BI m
 have h2:=DE m
 obtain⟨q1,q2,q3,u,q4,q5⟩:=PR OY hr rfl
 have e:mR (cO m)=(dV m,2,false,()):=by unfold mR;rw[p2]
 have c2:msF (cO m)=(m.marks,(dV m,(((u++sU m.marks).length:Nat):Int),false,())):=by
  unfold msF;rw[e,q5]
  exact C7 (show m.marks.length<=100 by have:=hr.marks.1;omega) hr.marks.2 (dV m) u [] q4
 have c3:msM (cO m)=m:=by unfold msM;rw[c2,e,q2,lE hr.part];grind
 unfold fI
 rw[decide_eq_false (show ¬ ((((cO m).length:Nat):Int)<6) by omega),p2,p3,iC,c3,c2,e,q1,q2,lE hr.part,h,show aZ m=cO m by unfold aZ;rw[h];rfl,iC];rfl
theorem jA{m:MsgT}(h:dR m=true):aZ m=cO m:=by unfold aZ;rw[h];rfl
theorem S4{b:List aH}(hb:ByL b):fI b=bW b:=by
 cases h:bW b with
 | some m=>
  obtain⟨h1,h2⟩:=v7 h
  have e:=(kO (jB m) hb).1 h2
  rw[<- e,jA h1];exact H8 h1
 | none=>
  cases h2:fI b with
  | none=>rfl
  | some m=>
   obtain⟨h3,h4⟩:=MK h2
   have e:=(kO (jB m) hb).1 h4
   rw[<- e,jA h3,H9 h3] at h;omega
end Go.Abs
-- bytes of sums; sizes of what readers yield: plain laws
namespace Go.Abs
open Go
theorem uD(x:Nat):IntKind.u8.wrap (x:Int)=((x % 256:Nat):Int):=by
 rfl
theorem E0{x:Nat}(h:x<4294967296):rR .i64 (x:Int) 255=((x % 256:Nat):Int):=by
 unfold rR
 have e:(BitVec.ofInt i64.bits (x:Int)&&& BitVec.ofInt i64.bits 255).toNat=x % 256:=by
  rw[BitVec.toNat_and]
  have e1:(BitVec.ofInt i64.bits (x:Int)).toNat=x:=by
   rw[BitVec.toNat_ofInt];show((x:Int) % ((2 ^ 64:Nat):Int)).toNat=x;omega
  have e2:(BitVec.ofInt i64.bits 255).toNat=2 ^ 8 - 1:=by decide
  rw[e1,e2,Nat.and_two_pow_sub_one_eq_mod]
 rw[e,IntKind.wrap_i64];omega
theorem D0(x:Nat)(s:Nat)(hs:s<=64)(d:Nat)(hd:2 ^ s=d):tC .i64 (x:Int) (s:Int)=((x / d:Nat):Int):=by
 unfold tC
 rw[Int.toNat_natCast,show min s i64.bits=s from Nat.min_eq_left hs,Int.fdiv_eq_ediv_of_nonneg _ (Int.le_of_lt (Int.pow_pos (by decide)))]
 rw[show((2:Int) ^ s)=((d:Nat):Int) by rw[<- hd];rfl]
 rfl
theorem N7{x:Int}(h0:0<=x)(h:x.toNat<4294967296):
  ([((IntKind.u8.wrap (rR i64 (tC i64 x (24:Int)) (255:Int))),()),((IntKind.u8.wrap (rR i64 (tC i64 x (16:Int)) (255:Int))),()),((IntKind.u8.wrap (rR i64 (tC i64 x (8:Int)) (255:Int))),()),((IntKind.u8.wrap (rR i64 x (255:Int))),())]:List aH)=BU x.toNat:=by
 obtain⟨n,rfl⟩:∃ n:Nat,x=(n:Int):=⟨x.toNat,by omega⟩
 rw[Int.toNat_natCast] at h ⊢
 have e1:tC .i64 (n:Int) (24:Int)=((n / 16777216:Nat):Int):=D0 n 24 (by decide) _ rfl
 have e2:tC .i64 (n:Int) (16:Int)=((n / 65536:Nat):Int):=D0 n 16 (by decide) _ rfl
 have e3:tC .i64 (n:Int) (8:Int)=((n / 256:Nat):Int):=D0 n 8 (by decide) _ rfl
 rw[e1,e2,e3,E0 (show n / 16777216<4294967296 by omega),E0 (show n / 65536<4294967296 by omega),E0 (show n / 256<4294967296 by omega),E0 h,uD,uD,uD,uD]
 unfold BU
 rw[show n / 16777216 % 256 % 256=n / 16777216 by omega,show n / 65536 % 256 % 256=n / 65536 % 256 by omega,show n / 256 % 256 % 256=n / 256 % 256 by omega,show n % 256 % 256=n % 256 by omega]
theorem zH(n d:Nat):((n:Int)).tdiv (d:Int)=((n / d:Nat):Int):=by
 rw[Int.tdiv_eq_ediv_of_nonneg (by omega)];rfl
theorem zF(n d:Nat):((n:Int)).tmod (d:Int)=((n % d:Nat):Int):=by
 rw[Int.tmod_eq_emod_of_nonneg (by omega)];rfl
theorem N6{x:Int}(h0:0<=x)(h:x.toNat<4294967296):
  ([((IntKind.u8.wrap (i64.wrap (x.tdiv (16777216:Int)))),()),((IntKind.u8.wrap ((i64.wrap (x.tdiv (65536:Int))).tmod (256:Int))),()),((IntKind.u8.wrap ((i64.wrap (x.tdiv (256:Int))).tmod (256:Int))),()),((IntKind.u8.wrap (x.tmod (256:Int))),())]:List aH)=BU x.toNat:=by
 obtain⟨n,rfl⟩:∃ n:Nat,x=(n:Int):=⟨x.toNat,by omega⟩
 rw[Int.toNat_natCast] at h ⊢
 have e1:((n:Int)).tdiv (16777216:Int)=((n / 16777216:Nat):Int):=zH n 16777216
 have e2:((n:Int)).tdiv (65536:Int)=((n / 65536:Nat):Int):=zH n 65536
 have e3:((n:Int)).tdiv (256:Int)=((n / 256:Nat):Int):=zH n 256
 rw[e1,e2,e3,yM (show n / 16777216<9223372036854775808 by omega),yM (show n / 65536<9223372036854775808 by omega),yM (show n / 256<9223372036854775808 by omega)]
 have m2:(((n / 65536:Nat):Int)).tmod (256:Int)=((n / 65536 % 256:Nat):Int):=zF _ 256
 have m3:(((n / 256:Nat):Int)).tmod (256:Int)=((n / 256 % 256:Nat):Int):=zF _ 256
 have m4:((n:Int)).tmod (256:Int)=((n % 256:Nat):Int):=zF _ 256
 rw[m2,m3,m4,uD,uD,uD,uD]
 unfold BU
 rw[show n / 16777216 % 256=n / 16777216 by omega,show n / 65536 % 256 % 256=n / 65536 % 256 by omega,show n / 256 % 256 % 256=n / 256 % 256 by omega,show n % 256 % 256=n % 256 by omega]
-- ways of reading lists
def VQ(N:Int->RdT->List aH×RdT):Prop:=∀ k r,0<=k->k<=5->RdOk r->RdOk (N k r).2/\(N k r).2.1=r.1/\(N k r).1.length<=100
theorem WI:VQ NI:=λk r h0 h5 h=>⟨h.nums k,FU r k,by have:=HW r h0;show(kU r k).1.length<=100;omega⟩
theorem WH:VQ NS:=λk r h0 h5 h=>⟨h.many 1,IC r 1,by have:=sF r 1;show(cK r 1).1.length<=100;omega⟩
structure MgOk (N:Int->RdT->List aH×RdT) (r:RdT):Prop where
 a:RdOk (mgA N r).2
 b:RdOk (mgB N r).2
 c:RdOk (mgC N r).2
 d:RdOk (mgD N r).2
 e:RdOk (mgE N r).2
 list:(mgE N r).2.1=r.1
 len:(mgA N r).1.length<=100/\(mgC N r).1.length<=100/\(mgD N r).1.length<=100
 nn:0<=(mgE N r).1/\(mgE N r).1<=2147483647
theorem T4{N:Int->RdT->List aH×RdT}(hN:VQ N){r:RdT}(h:RdOk r):MgOk N r:=by
 have h5:=h.k 5
 have hA:=hN 4 _ (by decide) (by decide) h5
 have hB:RdOk (mgB N r).2:=hA.1.num
 have hC:=hN 5 _ (by decide) (by decide) hB
 have hD:=hN 4 _ (by decide) (by decide) hC.1
 have hE:RdOk (mgE N r).2:=hD.1.num
 have q:=sC (mgD N r).2
 refine⟨hA.1,hB,hC.1,hD.1,hE,?_,⟨hA.2.2,hC.2.2,hD.2.2⟩,⟨q.2.2.1,q.2.2.2.1⟩⟩
 have e1:(mgE N r).2.1=(mgD N r).2.1:=q.1
 have e2:(mgD N r).2.1=(mgC N r).2.1:=hD.2.1
 have e3:(mgC N r).2.1=(mgB N r).2.1:=hC.2.1
 have e4:(mgB N r).2.1=(mgA N r).2.1:=fW _
 have e5:(mgA N r).2.1=(rdK r 5).1:=hA.2.1
 rw[e1,e2,e3,e4,e5];exact uV r 5
theorem PT{N:Int->RdT->List aH×RdT}{r:RdT}(h:MgOk N r){s:aE}(hs:SzS s){fs:List aO}(hf:fs.length<=100):SzM (mgM N r s fs):=
 ⟨Nat.le_trans h.len.1 (by decide),Nat.le_trans h.len.2.1 (by decide),Nat.le_trans h.len.2.2 (by decide),hs,Nat.le_trans hf (by decide)⟩
theorem uM{b:List aH}{s:aE}(h:bU b=some s):StateOk s:=(aN s).1 (xB h).1
theorem EB{s:aE}(h:StateOk s):SzS s:=⟨Nat.le_trans h.len.1 (by decide),Nat.le_trans h.len.2 (by decide)⟩
theorem T6{b:List aH}(hb:B8 b)(hl:b.length<=aP)(h6:6<=b.length):RdOk (mR b) where
 b8:=(hb.byL.sub λx hx=>List.mem_of_mem_take hx).b8
 len:=by show(b.take (b.length - 4)).length<=aP;rw[List.length_take];omega
 lo:=by show(0:Int)<=2;omega
 hi:=by show(2:Int)<=(((b.take (b.length - 4)).length:Nat):Int);rw[List.length_take];omega
theorem PS{N:Int->RdT->List aH×RdT}{r:RdT}(h:MgOk N r)(hb:nK N r=false):RdOk (mgR N r):=by
 unfold nK at hb
 simp only[Bool.or_eq_false_iff,decide_eq_false_iff_not] at hb
 have hn:=h.nn
 have lo:=h.e.lo;have hi:=h.e.hi
 exact⟨h.e.b8,h.e.len,by show 0<=(mgE N r).2.2.1+(mgE N r).1;omega,by show(mgE N r).2.2.1+(mgE N r).1<=(((mgE N r).2.1.length:Nat):Int);omega⟩
theorem F9{b:List aH}{m:MsgT}(h:bW b=some m):SzM m:=by
 have hr:=oZ (v7 h).1
 exact⟨Nat.le_trans hr.tree.1 (by decide),Nat.le_trans hr.vec.1 (by decide),Nat.le_trans hr.leaves.1 (by decide),EB ((aN _).1 hr.part),Nat.le_trans hr.marks.1 (by decide)⟩
theorem WK(a b:Int):∃ y:Nat,eJ .u8 a b=(y:Int)/\y<=255:=by
 unfold eJ
 rw[uD]
 exact⟨_,rfl,by omega⟩
theorem VK{b:List aH}(h:ByL b)(i:Nat)(x y:Int)(u:Unit):ByL (b.set i (eJ .u8 x y,u)):=λz hz=>by
 rcases List.mem_or_eq_of_mem_set hz with h1 | h1
 ·exact h z h1
 ·rw[h1];exact WK x y
end Go.Abs
-- what was said, in order and EW: plain laws
namespace Go.Abs
open Go
theorem lR{w:aV}(h:cE w=true):1<=w.1.length/\w.1.length<=5/\w.2.1.length<=12/\w.2.2.1.length<=40:=by
 unfold cE at h
 simp only[Bool.and_eq_true,aL,Bool.not_eq_true',decide_eq_false_iff_not] at h
 omega
-- EW
end Go.Abs
-- one changed byte spoils a message: plain laws
namespace Go.Abs
open Go
theorem NO{a b:Nat}(ha:a<4294967296)(hb:b<4294967296):eJ .i64 (a:Int) (b:Int)=((a ^^^ b:Nat):Int):=by
 have h:a ^^^ b<2 ^ 32:=Nat.xor_lt_two_pow (by omega) (by omega)
 unfold eJ
 have e1:(BitVec.ofInt i64.bits (a:Int)).toNat=a:=by
  rw[BitVec.toNat_ofInt];show((a:Int) % ((2 ^ 64:Nat):Int)).toNat=a;omega
 have e2:(BitVec.ofInt i64.bits (b:Int)).toNat=b:=by
  rw[BitVec.toNat_ofInt];show((b:Int) % ((2 ^ 64:Nat):Int)).toNat=b;omega
 show i64.wrap (((BitVec.ofInt i64.bits (a:Int) ^^^ BitVec.ofInt i64.bits (b:Int)).toNat:Nat):Int)=_
 rw[BitVec.toNat_xor,e1,e2,IntKind.wrap_i64]
 omega
theorem uC{a b c:Int}(ha:kR a)(hb:kR b)(hc:kR c)(h:eJ .i64 a c=eJ .i64 b c):a=b:=by
 obtain⟨a,rfl⟩:∃ n:Nat,a=n:=⟨a.toNat,by have:=ha.1;omega⟩
 obtain⟨b,rfl⟩:∃ n:Nat,b=n:=⟨b.toNat,by have:=hb.1;omega⟩
 obtain⟨c,rfl⟩:∃ n:Nat,c=n:=⟨c.toNat,by have:=hc.1;omega⟩
 have h1:=ha.2;have h2:=hb.2;have h3:=hc.2
 rw[NO (by omega) (by omega),NO (by omega) (by omega)] at h
 have h4:a ^^^ c=b ^^^ c:=by omega
 have h5:=congrArg (λx=>x ^^^ c) h4
 grind
theorem LC{a b c:Int}(ha:kR a)(hb:kR b)(hc:kR c)(h:eJ .i64 c a=eJ .i64 c b):a=b:=by
 obtain⟨a,rfl⟩:∃ n:Nat,a=n:=⟨a.toNat,by have:=ha.1;omega⟩
 obtain⟨b,rfl⟩:∃ n:Nat,b=n:=⟨b.toNat,by have:=hb.1;omega⟩
 obtain⟨c,rfl⟩:∃ n:Nat,c=n:=⟨c.toNat,by have:=hc.1;omega⟩
 have h1:=ha.2;have h2:=hb.2;have h3:=hc.2
 refine uC ha hb hc ?_
 rw[NO (by omega) (by omega),NO (by omega) (by omega)] at h ⊢
 rw[Nat.xor_comm a c,Nat.xor_comm b c];omega
theorem WA{x:Int}(h:kR x):i64.wrap (x.tdiv 2)=x / 2/\x.tmod 2=x % 2:=by
 have h1:=h.1;have h2:=h.2
 rw[Int.tdiv_eq_ediv_of_nonneg h1,Int.tmod_eq_emod_of_nonneg h1,IntKind.wrap_i64];omega
theorem J2{z:Int}(h:0<=z/\z<2147483648):2147483648<=eJ .i64 z 3988292384:=by
 obtain⟨z,rfl⟩:∃ n:Nat,z=n:=⟨z.toNat,by omega⟩
 have e:=NO (a:=z) (b:=3988292384) (by omega) (by decide)
 rw[show((3988292384:Nat):Int)=3988292384 from rfl] at e
 rw[e]
 have h1:Nat.testBit (z ^^^ 3988292384) 31=true:=by
  rw[Nat.testBit_xor,Nat.testBit_lt_two_pow (show z<2 ^ 31 by omega)];decide
 grind
theorem JH{x y:Int}(hx:kR x)(hy:kR y)(h:nC x=nC y):x=y:=by
 have h1:=WA hx;have h2:=WA hy
 have a1:=hx.1;have a2:=hx.2;have b1:=hy.1;have b2:=hy.2
 unfold nC at h
 rw[h1.1,h1.2,h2.1,h2.2] at h
 have qx:0<=x / 2/\x / 2<2147483648:=by omega
 have qy:0<=y / 2/\y / 2<2147483648:=by omega
 cases c1:(x % 2==1)<;>cases c2:(y % 2==1)<;>rw[c1,c2] at h<;>simp only[cond_true,cond_false] at h
 ·rw[beq_eq_false_iff_ne] at c1 c2;omega
 ·have:=J2 qy;omega
 ·have:=J2 qx;omega
 ·have:=uC (a:=x / 2) (b:=y / 2) (c:=3988292384) ⟨by omega,by omega⟩ ⟨by omega,by omega⟩ ⟨by omega,by omega⟩ h
  rw[beq_iff_eq] at c1 c2;omega
theorem yD{x y:Int}(hx:kR x)(hy:kR y):∀ k,fG k x=fG k y->x=y
 | 0,h=>h
 | k+1,h=>yD hx hy k (JH (sK hx k) (sK hy k) h)
theorem BD{a b:List aH}{j:Nat}(h:∀ k,k<j->gt a k=gt b k):∀ i,i<=j->jV a i=jV b i
 | 0,_=>rfl
 | i+1,hi=>by
  show fG 8 (eJ .i64 (jV a i) (i64.wrap (gt a i).1))=fG 8 (eJ .i64 (jV b i) (i64.wrap (gt b i).1))
  rw[BD h i (by omega),h i (by omega)]
theorem DL{x:Int}(h:kR x):i64.wrap x=x:=by have h1:=h.1;have h2:=h.2;rw[IntKind.wrap_i64];omega
theorem GX{a b:List aH}(ha:B32 a)(hb:B32 b)(hl:a.length=b.length){j:Nat}(h:∀ k,k≠j->gt a k=gt b k)(hj:(gt a j).1≠(gt b j).1):∀ i,j<i->i<=a.length->jV a i≠jV b i
 | 0,h0,_=>absurd h0 (Nat.not_lt_zero _)
 | i+1,h0,hi=>λe=>by
  have A:=ha _ (bR (xs:=a) (i:=i) (by omega))
  have B:=hb _ (bR (xs:=b) (i:=i) (by omega))
  have CA:=sJ ha i (by omega)
  have CB:=sJ hb i (by omega)
  have e2:eJ .i64 (jV a i) (gt a i).1=eJ .i64 (jV b i) (gt b i).1:=by
   have:=yD (x:=eJ .i64 (jV a i) (i64.wrap (gt a i).1)) (y:=eJ .i64 (jV b i) (i64.wrap (gt b i).1)) (by rw[DL A];exact E3 CA A) (by rw[DL B];exact E3 CB B) 8 e
   rw[DL A,DL B] at this
   omega
  by_cases hij:i=j
  ·subst hij
   rw[BD (j:=i) (λk hk=>h k (by omega)) i (Nat.le_refl _)] at e2
   exact hj (LC A B CB e2)
  ·rw[h i hij] at e2
   exact GX ha hb hl h hj i (by omega) (by omega) (uC CA CB B e2)
theorem VG{a b:List aH}(ha:B32 a)(hb:B32 b)(hl:a.length=b.length){j:Nat}(hjl:j<a.length)(h:∀ k,k≠j->gt a k=gt b k)(hj:(gt a j).1≠(gt b j).1):crc a≠crc b:=λe=>by
 unfold crc at e
 have:=uC (sJ ha _ (Nat.le_refl _)) (sJ hb _ (Nat.le_refl _)) ⟨by omega,by omega⟩ e
 rw[<- hl] at this
 exact GX ha hb hl h hj _ hjl (Nat.le_refl _) this
theorem N8{x y:Nat}(hx:x<4294967296)(hy:y<4294967296)(h:BU x=BU y):x=y:=by
 unfold BU at h
 grind
theorem HP{u v:List aH}(hu:ByL u)(hv:ByL v){j:Nat}{c:aH}(hj:j<(u++pT u).length)(hne:c.1≠(gt (u++pT u) j).1):v++pT v≠(u++pT u).set j c:=λe=>by
 have hl:v.length=u.length:=by
  have:=congrArg List.length e
  rw[List.length_set,List.length_append,List.length_append,lU,lU] at this;omega
 rw[cJ hj] at hne
 rw[List.length_append,lU] at hj
 by_cases h:j<u.length
 ·rw[List.getElem_append_left h] at hne
  rw[List.set_append_left _ _ h] at e
  obtain⟨e1,e2⟩:=List.append_inj e (by rw[List.length_set];omega)
  have h3:=N8 (tX hv).1 (tX hu).1 e2
  have h4:=(tX hv).2;have h5:=(tX hu).2
  refine VG hv.b32 hu.b32 hl (j:=j) (by omega) (λk hk=>?_) ?_ (show crc v=crc u by omega)
  ·rw[e1]
   by_cases hk2:k<u.length
   ·rw[cJ (by rw[List.length_set];omega),cJ hk2,List.getElem_set_ne (Ne.symm hk)]
   ·unfold gt;rw[List.getD_eq_getElem?_getD,List.getD_eq_getElem?_getD,List.getElem?_eq_none (by rw[List.length_set];omega),List.getElem?_eq_none (by omega)]
  ·rw[e1,cJ (by rw[List.length_set];omega),cJ h,List.getElem_set_self];omega
 ·rw[List.set_append_right _ _ (by omega)] at e
  obtain⟨e1,e2⟩:=List.append_inj e hl
  grind
theorem HM{m:MsgT}{j:Nat}{c:aH}(hc:∃ y:Nat,c.1=(y:Int)/\y<=255)(hj:j<(aZ m).length)(hne:c.1≠(gt (aZ m) j).1):bW ((aZ m).set j c)=none:=by
 cases hm:bW ((aZ m).set j c)with
 | none=>rfl
 | some m'=>
  exfalso
  obtain⟨h1,h2⟩:=v7 hm
  rw[kO (jB _) (λx hx=>?_),jA h1] at h2
  rotate_left
  ·rcases List.mem_or_eq_of_mem_set hx with h | h
   ·exact jB m x h
   simp_all
  cases ho:dR m with
  | false=>rw[show aZ m=[] by unfold aZ;rw[ho];rfl] at hj;simp_all
  | true=>
   rw[jA ho] at hj hne h2
   exact HP (n7 m) (n7 m') hj hne h2
end Go.Abs
-- a world in order, told by its parts: plain laws
namespace Go.Abs
open Go
structure WOk (w:aV):Prop where
 n:1<=w.1.length/\w.1.length<=5
 net:w.2.1.length<=12
 said:w.2.2.1.length<=40
 node:∀ i,i<w.1.length->NodeOk (gt w.1 i)/\(gt w.1 i).2.1=(w.1.length:Int)/\(gt w.1 i).1=(i:Int)
 to:∀ p∈w.2.1,0<=p.1/\p.1<(w.1.length:Int)
 part:∀ p∈w.2.2.1,(0<=p.1/\p.1<(w.1.length:Int))/\StateOk p.2
theorem TC{x:Int}{n:Nat}(h:n<=5):inB x 0 (i64.wrap ((n:Int) - 1))=true↔0<=x/\x<(n:Int):=by
 rw[aL,IntKind.wrap_i64];omega
theorem yN(w:aV):cE w=true↔WOk w:=by
 unfold cE kK iJ
 simp only[Bool.and_eq_true,bD,aL,Bool.not_eq_true',decide_eq_false_iff_not,beq_iff_eq]
 constructor
 ·rintro ⟨h1,h2,h3,h4,h5,h6⟩
  have h7:w.1.length<=5:=by omega
  refine⟨by omega,by omega,by omega,λi hi=>⟨(fD _).1 (h4 i hi).1,(h4 i hi).2.1,(h4 i hi).2.2⟩,λp hp=>?_,λp hp=>?_⟩
  ·obtain⟨i,hi,rfl⟩:=fX hp
   exact(TC h7).1 (aL.2 (h5 i hi))
  ·obtain⟨i,hi,rfl⟩:=fX hp
   exact⟨(TC h7).1 (aL.2 (h6 i hi).1),(aN _).1 (h6 i hi).2⟩
 ·intro h
  have h7:=h.n.2
  refine⟨⟨by have:=h.n;omega,by omega⟩,by have:=h.net;omega,by have:=h.said;omega,λi hi=>⟨(fD _).2 (h.node i hi).1,(h.node i hi).2⟩,λi hi=>aL.1 ((TC h7).2 (h.to _ (bR hi))),λi hi=>⟨aL.1 ((TC h7).2 (h.part _ (bR hi)).1),(aN _).2 (h.part _ (bR hi)).2⟩⟩
end Go.Abs
