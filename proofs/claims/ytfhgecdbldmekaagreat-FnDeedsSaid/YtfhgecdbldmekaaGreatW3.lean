/- A by-value reading of the model, and its soundness, part 3. -/
import Derived.Test.YtfhgecdbldmekaaGreatW2
import Derived.Lib.Bytealg
set_option linter.unusedVariables false
set_option maxHeartbeats 2000000
/- Plain laws: draws. -/
open Go.IntKind (i64)
namespace Go.Abs
abbrev xY:=List aH×Int×Int×Unit
structure CurOk (c:xY):Prop where
 len:c.1.length<=1048576
 lo:0<=c.2.1
 hi:c.2.1<=c.1.length
theorem zU(a:Int):0<=s9 .i64 a 255/\s9 .i64 a 255<=255:=by
 unfold s9
 have h:(BitVec.ofInt i64.bits a&&& BitVec.ofInt i64.bits 255).toNat<=255:=by
  rw[BitVec.toNat_and];exact Nat.le_trans Nat.and_le_right (by decide)
 generalize (BitVec.ofInt i64.bits a&&& BitVec.ofInt i64.bits 255).toNat=m at h
 have e:i64.wrap (m:Int)=m:=by rw[IntKind.wrap_i64];omega
 rw[e];omega
theorem tC{x n:Int}(hx:0<=x)(hn:0<n):0<=x.tmod n/\x.tmod n<n:=by
 rw[Int.tmod_eq_emod_of_nonneg hx]
 exact⟨Int.emod_nonneg _ (by omega),Int.emod_lt_of_pos _ hn⟩
theorem RU{β:Type}{o:Option Out}{A B:List Kd}{r:Row A}{s:Row B}{f:Rows [A]×Rows [B]->Option β}(h:o=some ⟨[⟨A,r⟩],[⟨B,s⟩]⟩):(o.bind (dE [A] [B])).bind f=f ((r,()),(s,())):=by
 rw[h];simp[dE,f7,mM];rfl
/-- A loop whose rounds are told by what they keep. -/
theorem It.ex {ι σ:Type} {lvl:Nat} {c:Nat->Nat->ι->(σ->Option Out)->σ->Option Out} (Inv:Nat->σ->Prop) (Good:Out->Prop) (N:Nat)
  (hs:∀ i x,i<N->Inv i x->∃ y,Inv (i+1) y/\∀ n,lvl<=n->∀ aA a rec,c n aA a rec x=rec y)
  (he:∀ x,Inv N x->∃ o,Good o/\∀ n,lvl<=n->It (c n) x (λ_=>some o)):∀ (m j:Nat) x,j+m=N->Inv j x->∃ o,Good o/\∀ n,lvl<=n->It (c n) x (λ_=>some o)
 | 0,j,x,hj,hx=>he x ((show j=N by omega)▸hx)
 | m+1,j,x,hj,hx=>by
  obtain⟨y,hy,h⟩:=hs j x (by omega) hx
  obtain⟨o,ho,h'⟩:=It.ex Inv Good N hs he m (j+1) y (by omega) hy
  exact⟨o,ho,λn hn=>It.next (λaA a rec=>h n hn aA a rec) (h' n hn)⟩
def WB:List ByteArray:=[⟨#[]⟩,⟨#[97]⟩,⟨#[98]⟩,⟨#[97,98]⟩,⟨#[49,50,51,52,53,54,55,56]⟩,⟨#[49,50,51,52,53,54,55,56,57]⟩]
def WS(e:bI):Prop:=e.2.2.2.2.1∈WB
structure StD (k:Nat) (s:aE):Prop where
 a:s.1.length<=k
 b:s.2.1.length<=k
 data:∀ x∈s.1,WS x.2
theorem StD.sz{k:Nat}{s:aE}(h:StD k s)(hk:k<=1048576):SzS s:=⟨Nat.le_trans h.a hk,Nat.le_trans h.b hk⟩
theorem kM{α:Type}{n:Nat}{g:Nat->List α}{x:α}(h:x∈bX n g):∃ i,i<n/\x∈g i:=by
 induction n with
 | zero=>exact(List.not_mem_nil h).elim
 | succ n ih=>
  rw[d7] at h
  grind
theorem Q0{β:Type}{A B:Prop}[Decidable A][Decidable B]{X R:β}(h:¬ A\/¬ B):(bif decide A then(bif decide B then X else R)else R)=R:=by
 grind
/-- The loop of a new cursor, and what comes behind it. -/
theorem It.new {lvl:Nat} {c:Nat->Nat->Unit->(Int×Int->Option Out)->Int×Int->Option Out} (Good:Out->Prop) (b:List aH) (hb:b.length<=1048576)
  (hs:∀ (i:Nat) (h:Int),i<b.length->i<4000->∃ h',∀ n,lvl<=n->∀ aA a rec,c n aA a rec (h,(i:Int))=rec (h',((i+1:Nat):Int)))
  (he:∀ (h i:Int),CurOk (b,0,h,())->(¬ i<(b.length:Int)\/¬ i<4000)->∃ o,Good o/\∀ n,lvl<=n->∃ M,∀ aA,M<=aA->∀ a rec,c n aA a rec (h,i)=some o) (h0:Int):
  ∃ o,Good o/\∀ n,lvl<=n->It (c n) (h0,(0:Int)) (λ_=>some o):=by
 refine It.ex (λi y=>∃ h,y=(h,(i:Int))) Good (min b.length 4000) ?_ ?_ (min b.length 4000) 0 (h0,(0:Int)) (by omega) ⟨h0,rfl⟩
 ·rintro i y hi ⟨h,rfl⟩
  obtain⟨h',hh⟩:=hs i h (by omega) (by omega)
  exact⟨_,⟨h',rfl⟩,hh⟩
 ·rintro y ⟨h,rfl⟩
  obtain⟨o,ho,hh⟩:=he h ((min b.length 4000:Nat):Int) ⟨hb,by simp,by simp⟩ (by omega)
  refine⟨o,ho,λn hn=>?_⟩
  obtain⟨M,hM⟩:=hh n hn
  refine⟨M+1,λaA k hf hk a=>?_⟩
  obtain⟨k,rfl⟩:∃ k',k=k'+1:=⟨k - 1,by omega⟩
  exact hM aA (by omega) a _
end Go.Abs
-- marks, tables, taking and receiving: plain laws
namespace Go.Abs
abbrev MsgT:=Int×Int×Int×Int×Int×List aH×Int×List aH×List aH×List bN×List aR×List aR×Unit
abbrev MsgT.hi(m:MsgT):Int:=m.2.2.2.2.1
abbrev MsgT.tree(m:MsgT):kN:=(m.2.2.2.2.2.1,m.2.2.2.2.2.2.1,())
abbrev MsgT.vec(m:MsgT):List aH:=m.2.2.2.2.2.2.2.1
abbrev MsgT.leaves(m:MsgT):List aH:=m.2.2.2.2.2.2.2.2.1
abbrev MsgT.part(m:MsgT):aE:=(m.2.2.2.2.2.2.2.2.2.1,m.2.2.2.2.2.2.2.2.2.2.1,())
abbrev MsgT.marks(m:MsgT):List aR:=m.2.2.2.2.2.2.2.2.2.2.2.1
structure SzM (m:MsgT):Prop where
 leaves:m.tree.1.length<=aV
 vec:m.vec.length<=aV
 list:m.leaves.length<=aV
 part:SzS m.part
 marks:m.marks.length<=aV
theorem sL(a b:Int):mxI true a b=max a b:=by unfold mxI;grind
theorem G5(a b:Int):mxI false a b=min a b:=by unfold mxI;grind
-- lists in order
theorem pM{α:Type}{k:α->Int}{g:Nat->List α}(h1:∀ i,(g i).length<=1)(h:∀ i,∀ x∈g i,k x=(i:Int)):∀ n,(bX n g).Pairwise (λx y=>k x<k y)
 | 0=>by rw[xX];simp
 | n+1=>by
  rw[d7,List.pairwise_append]
  refine⟨pM h1 h n,?_,λx hx y hy=>?_⟩
  ·match hg:g n with
   | []=>simp
   | [x]=>simp
   | x::y::t=>grind
  ·obtain⟨i,hi,hx⟩:=kM hx
   rw[h i x hx,h n y hy];omega
theorem m8{s:aE}(h:StateOk s)(i:Int):0<=bV s.2.1 i/\bV s.2.1 i<=1000:=by
 rcases fC s i with ⟨x,hx,_,e⟩ | ⟨_,e⟩
 ·have:=(h.floor x hx).2;rw[aQ] at this;rw[e];omega
 omega
theorem uM{s:aE}(h:StateOk s)(i:Int):(bH s i).1=eM\/cL (bH s i).1=true:=by
 rcases eK s i with ⟨x,hx,_,e⟩ | ⟨_,e⟩
 ·rw[e];exact .inr (h.item x hx).2.1
 simp_all
theorem PR{a b:aE}(ha:StateOk a)(hb:StateOk b)(i:Int):fZ a b i=eM\/cL (fZ a b i)=true:=by
 unfold fZ mxE
 cases decide (jC (bH a i).1 (bH b i).1<0)with
 | true=>exact uM hb i
 | false=>exact uM ha i
theorem Q9{a b:aE}(ha:StateOk a)(hb:StateOk b)(i:Int):0<=flr a b i/\flr a b i<=1000:=by
 have h1:=m8 ha i
 have h2:=m8 hb i
 unfold flr;rw[sL];omega
theorem w8{a b:aE}{i:Nat}{x:bN}(h:x∈eO a b i):x=((i:Int),fZ a b i)/\(fZ a b i).1>flr a b i:=by
 unfold eO at h
 grind
theorem qO{a b:aE}{i:Nat}{x:aR}(h:x∈eD a b i):x=((i:Int),flr a b i,())/\flr a b i>0:=by
 unfold eD at h
 grind
theorem E9{i:Nat}(h:i<5):eF (i:Int)=true:=by unfold eF;rw[aQ];omega
theorem StateOk.join{a b:aE}(ha:StateOk a)(hb:StateOk b):StateOk (dK a b) where
 item x hx:=by
  obtain⟨i,hi,hx⟩:=kM hx
  obtain⟨rfl,hg⟩:=w8 hx
  have hf:=Q9 ha hb (i:Int)
  refine⟨E9 hi,?_,?_⟩
  ·rcases PR ha hb (i:Int)with e | e
   ·rw[e] at hg;have h0:(0:Int)>flr a b i:=hg;omega
   omega
  ·show bV (dK a b).2.1 (i:Int)<(fZ a b i).1
   rcases fC (dK a b) (i:Int)with ⟨f,hf',e1,e⟩ | ⟨_,e⟩
   ·obtain⟨j,_,hf'⟩:=kM hf'
    obtain⟨rfl,_⟩:=qO hf'
    simp_all
   omega
 items:=pM (k:=λx:bN=>x.1) (tO a b) (λi x hx=>by rw[(w8 hx).1]) 5
 floor f hf:=by
  obtain⟨i,hi,hf⟩:=kM hf
  obtain⟨rfl,hg⟩:=qO hf
  have:=Q9 ha hb (i:Int)
  refine⟨E9 hi,?_⟩
  rw[aQ];grind
 floors:=pM (k:=λx:aR=>x.1) (qQ a b) (λi x hx=>by rw[(qO hx).1]) 5
theorem sQ{a b:aE}(ha:aM a=true)(hb:aM b=true):aM (dK a b)=true:=
 (aP _).2 (((aP _).1 ha).join ((aP _).1 hb))
theorem tI:aM iK=true:=rfl
-- marks
def eS(ms:List aR):Bool:=bP ms.length (f5 ms)
def HB(ms:List aR):Bool:=bP ms.length (jK ms)
theorem NK(ms:List aR):HB ms=eS ms:=nE λi hi=>by unfold jK f5;ac_rfl
theorem A8(ms:List aR):aM ([],ms,())=eS ms:=by
 rfl
def iM(s:aE)(i:Nat):List aR:=bif decide (gone s i>0)then[((i:Int),gone s i,())] else[]
def d8(s:aE):List aR:=bX 5 (iM s)
theorem qG(s:aE)(i:Nat):(iM s i).length<=1:=by unfold iM;cases decide (gone s i>0)<;>simp
theorem iL(s:aE):(d8 s).length<=5:=dH (n:=5) (L:=1) λi _=>qG s i
theorem LV(s:aE)(i:Int):gone s i<=1000:=by
 cases hs:aM s with
 | false=>rw[HL hs];omega
 | true=>
  have h:=(aP s).1 hs
  have hf:=m8 h i
  unfold gone;rw[hs]
  show(bif(bH s i).2 then _ else _)<=(1000:Int)
  cases h2:(bH s i).2 with
  | false=>simp_all
  | true=>
   have he:(bH s i).1.1<=1000/\0<=(bH s i).1.1:=by
    rcases uM h i with e | e
    ·rw[e];show(0:Int)<=1000/\(0:Int)<=0;omega
    ·unfold cL at e;simp only[Bool.and_eq_true,aQ] at e;omega
   show(bif(bH s i).1.2.1==0 then i64.wrap ((bH s i).1.1 - 1)else(bH s i).1.1)<=1000
   cases (bH s i).1.2.1==0 with
   | false=>simp_all
   | true=>show i64.wrap ((bH s i).1.1 - 1)<=1000;rw[IntKind.wrap_i64];omega
theorem JA{s:aE}{i:Nat}{x:aR}(h:x∈iM s i):x=((i:Int),gone s i,())/\gone s i>0:=by
 unfold iM at h
 grind
theorem DS{fs:List aR}(g:Nat->List aR)(he:fs=bX 5 g)(h1:∀ i,(g i).length<=1)(h:∀ i,∀ x∈g i,x.1=(i:Int)/\1<=x.2.1/\x.2.1<=1000):StateOk ([],fs,()) where
 item x hx:=by grind
 items:=List.Pairwise.nil
 floor f hf:=by
  have hf:f∈fs:=hf
  rw[he] at hf
  obtain⟨i,hi,hf⟩:=kM hf
  obtain⟨e,h2,h3⟩:=h i f hf
  exact⟨by rw[e];exact E9 hi,aQ.2 ⟨h2,h3⟩⟩
 floors:=by
  show fs.Pairwise _
  rw[he];exact pM (k:=λx:aR=>x.1) h1 (λi x hx=>(h i x hx).1) 5
theorem I9(s:aE):eS (d8 s)=true:=by
 rw[<- A8]
 exact(aP _).2 (DS (iM s) rfl (qG s) λi x hx=>by
  obtain⟨rfl,h⟩:=JA hx
  exact⟨rfl,h,LV s i⟩)
theorem sN{ms:List aR}(h:eS ms=true){i:Nat}(hi:i<ms.length):0<=(gt ms i).1/\(gt ms i).1<=4/\1<=(gt ms i).2.1/\(gt ms i).2.1<=1000:=by
 unfold eS at h
 have:=bJ.1 h i hi
 unfold f5 eF at this
 simp only[Bool.and_eq_true,aQ] at this
 omega
theorem NJ{ms:List aR}(h:eS ms=true):ms.length<=5:=by
 rw[<- A8] at h
 exact((aP _).1 h).len.2
-- tables
def AJ(r:bT)(f:aR):bT:=(r.1.set f.1.toNat (mxI true (gt r.1 f.1.toNat).1 f.2.1,()),())
def kS(r:bT)(ms:List aR):Nat->bT
 | 0=>r
 | i+1=>AJ (kS r ms i) (gt ms i)
def nG(t:List bT)(k:Int)(ms:List aR):Bool:=inB k 0 (i64.wrap ((t.length:Int) - 1))&&(eS ms&& !decide ((((gt t k.toNat).1.length:Nat):Int)<5))
def cC(t:List bT)(k:Nat)(ms:List aR)(i:Nat):List bT:=t.set k (kS (gt t k) ms i)
def bM(t:List bT)(k:Int)(ms:List aR):List bT:=bif nG t k ms then cC t k.toNat ms ms.length else t
theorem mQ(r:bT)(ms:List aR):∀ i,(kS r ms i).1.length=r.1.length
 | 0=>rfl
 | i+1=>by show(List.set _ _ _).length=_;rw[List.length_set];exact mQ r ms i
theorem cG{α:Type}[Inhabited α]{xs:List α}{i:Nat}(h:i<xs.length)(x:α):gt (xs.set i x) i=x:=by
 rw[cS (by rw[List.length_set];omega)];simp
theorem fD{α:Type}[Inhabited α]{xs:List α}{i j:Nat}(h:i≠j)(x:α):gt (xs.set i x) j=gt xs j:=by
 unfold gt;grind
theorem uB{α:Type}[Inhabited α]{xs:List α}{i:Nat}:xs.set i (gt xs i)=xs:=by
 rcases Nat.lt_or_ge i xs.length with h | h
 ·rw[cS h];simp
 ·exact List.set_eq_of_length_le h
theorem u6(t:List bT)(k:Nat)(ms:List aR):cC t k ms 0=t:=uB
theorem eZ(t:List bT)(k:Int)(ms:List aR):(bM t k ms).length=t.length:=by
 unfold bM
 cases nG t k ms with
 | false=>rfl
 | true=>show(cC _ _ _ _).length=_;unfold cC;rw[List.length_set]
theorem qL{k:Int}{n:Nat}(hn:n<=aV)(h:inB k 0 (i64.wrap ((n:Int) - 1))=true):k.toNat<n/\((k.toNat:Nat):Int)=k:=by
 rw[aQ,IntKind.wrap_i64] at h;omega
theorem iS(t:List bT)(k:Int)(ms:List aR)(j:Nat):((gt (bM t k ms) j).1.length)=(gt t j).1.length:=by
 unfold bM
 cases hb:nG t k ms with
 | false=>rfl
 | true=>
  show(gt (cC t k.toNat ms ms.length) j).1.length=_
  unfold cC
  rcases Nat.lt_or_ge k.toNat t.length with h | h
  ·by_cases e:k.toNat=j
   ·subst e;rw[cG h,mQ]
   ·rw[fD e]
  ·rw[List.set_eq_of_length_le h]
theorem H6{r:bT}{ms:List aR}(hm:eS ms=true)(hr:∀ j,j<r.1.length->inB (gt r.1 j).1 0 1000=true):∀ i,i<=ms.length->∀ j,j<r.1.length->inB (gt (kS r ms i).1 j).1 0 1000=true
 | 0,_,j,hj=>hr j hj
 | i+1,hi,j,hj=>by
  have ih:=H6 hm hr i (by omega)
  have hid:=sN hm (i:=i) (by omega)
  have hl:=mQ r ms i
  show inB (gt (List.set (kS r ms i).1 (gt ms i).1.toNat (mxI true (gt (kS r ms i).1 (gt ms i).1.toNat).1 (gt ms i).2.1,())) j).1 0 1000=true
  by_cases e:(gt ms i).1.toNat=j
  ·subst e
   rw[cG (by omega)]
   have:=ih _ hj
   rw[aQ] at this ⊢
   show 0<=mxI true _ _/\mxI true _ _<=1000
   rw[sL];omega
  ·rw[fD e];simp_all
theorem yA{t:List bT}{n k:Int}{ms:List aR}(ht:hX t n=true):hX (bM t k ms) n=true:=by
 unfold hX at ht ⊢
 simp only[Bool.and_eq_true] at ht ⊢
 obtain⟨h1,h2,h3⟩:=ht
 refine⟨h1,by rw[eZ];omega,?_⟩
 rw[eZ]
 rw[bJ] at h3 ⊢
 intro j hj
 have h4:=h3 j hj
 unfold uH at h4 ⊢
 simp only[Bool.and_eq_true] at h4 ⊢
 rw[iS]
 refine⟨h4.1,?_⟩
 have h5:=bJ.1 h4.2
 rw[bJ]
 intro i hi
 unfold bM
 cases hb:nG t k ms with
 | false=>simp_all
 | true=>
  show inB (gt (gt (cC t k.toNat ms ms.length) j).1 i).1 0 1000=true
  unfold cC
  by_cases e:k.toNat=j
  ·subst e
   rw[cG hj]
   have hm:eS ms=true:=by unfold nG at hb;simp_all
   exact H6 hm h5 _ (Nat.le_refl _) i hi
  ·rw[fD e];simp_all
def nB(t:List bT)(id:Int)(k:Nat):Bool:=inB id 0 (i64.wrap ((((gt t k).1.length:Nat):Int) - 1))
def kK(t:List bT)(id:Int):Nat->Int
 | 0=>0
 | k+1=>bif(k:Int)==0 then(gt (gt t k).1 id.toNat).1 else bif decide ((gt (gt t k).1 id.toNat).1<kK t id k)then(gt (gt t k).1 id.toNat).1 else kK t id k
def fK(t:List bT)(id:Int):Int:=bif bP t.length (nB t id)then kK t id t.length else 0
-- pruning
def fY(s:aE)(t:List bT)(i:Nat):List aR:=bif decide (mxI false (fK t i) (gone s i)>0)then[((i:Int),mxI false (fK t i) (gone s i),())] else[]
def fO(s:aE)(t:List bT):aE:=([],bX 5 (fY s t),())
def prune(s:aE)(t:List bT):aE:=bif aM s then dK s (fO s t)else s
theorem p6(s:aE)(t:List bT)(i:Nat):(fY s t i).length<=1:=by unfold fY;cases decide (mxI false (fK t i) (gone s i)>0)<;>simp
theorem sS(s:aE)(t:List bT):aM (fO s t)=true:=
 (aP _).2 (DS (fY s t) rfl (p6 s t) λi x hx=>by
  unfold fY at hx
  cases hd:decide (mxI false (fK t i) (gone s i)>0)with
  | false=>rw[hd] at hx;grind
  | true=>
   rw[hd] at hx
   have e:=List.mem_singleton.1 hx
   have h0:=of_decide_eq_true hd
   have hg:=LV s i
   rw[e];refine⟨rfl,h0,?_⟩
   show mxI false (fK t i) (gone s i)<=1000
   rw[G5];omega)
theorem yW(s:aE)(t:List bT):SzS (fO s t):=⟨Nat.zero_le _,Nat.le_trans (dH (n:=5) (L:=1) λi _=>p6 s t i) (by decide)⟩
theorem AV{s:aE}(h:aM s=true)(t:List bT):aM (prune s t)=true:=by
 unfold prune;rw[h];exact sQ h (sS s t)
theorem PP{s:aE}(h:SzS s)(t:List bT):SzS (prune s t):=by
 unfold prune;cases aM s with
 | false=>grind
 | true=>exact m6 _ _
-- vectors
def c7(v:List aH)(k n:Int):List aH:=bif inB k 0 (i64.wrap ((v.length:Int) - 1))then v.set k.toNat (mxI true (gt v k.toNat).1 n,())else v
theorem gG(v:List aH)(k n:Int):(c7 v k n).length=v.length:=by
 unfold c7;grind
theorem rP(v:List aH)(k n:Int)(j:Nat):(gt (c7 v k n) j).1=(gt v j).1\/(gt (c7 v k n) j).1=max (gt v j).1 n:=by
 unfold c7;cases inB k 0 (i64.wrap ((v.length:Int) - 1))with
 | false=>simp
 | true=>
  show(gt (v.set _ _) j).1=_\/(gt (v.set _ _) j).1=_
  rcases Nat.lt_or_ge k.toNat v.length with h | h
  ·by_cases e:k.toNat=j
   ·subst e;rw[cG h];exact .inr (sL _ _)
   ·rw[fD e];omega
  ·rw[List.set_eq_of_length_le h];omega
theorem F0(v:List aH){k n:Int}{j:Nat}(h:k.toNat≠j):gt (c7 v k n) j=gt v j:=by
 unfold c7;cases inB k 0 (i64.wrap ((v.length:Int) - 1))with
 | false=>rfl
 | true=>exact fD h _
theorem x8{v:List aH}{m k n:Int}(h:eQ v m=true)(hn:n<=100000):eQ (c7 v k n) m=true:=by
 unfold eQ at h ⊢
 simp only[Bool.and_eq_true] at h ⊢
 rw[gG]
 refine⟨h.1,h.2.1,?_⟩
 have h3:=bJ.1 h.2.2
 rw[bJ]
 intro i hi
 have:=h3 i hi
 rw[aQ] at this ⊢
 rcases rP v k n i with e | e<;>rw[e]<;>omega
end Go.Abs
-- taking and receiving: plain laws
namespace Go.Abs
-- rises
def q9(r:kT)(e:bI):Bool:=decide (e.1>r.1)||(e.1==r.1&&decide (e.2.2.1>r.2.1))
def nZ(clock:Int)(r:kT)(e:bI):kT:=bif q9 r e then(e.1,e.2.2.1,clock,())else r
def cZ(clock:Int)(rs:List kT)(xs:List bN):Nat->List kT
 | 0=>rs
 | i+1=>(cZ clock rs xs i).set (gt xs i).1.toNat (nZ clock (gt (cZ clock rs xs i) (gt xs i).1.toNat) (gt xs i).2)
theorem iG(clock:Int)(rs:List kT)(xs:List bN):∀ i,(cZ clock rs xs i).length=rs.length
 | 0=>rfl
 | i+1=>by show(List.set _ _ _).length=_;rw[List.length_set];exact iG clock rs xs i
def AN(clock:Int)(r:kT):Bool:=inB r.1 0 1000&&(inB r.2.1 0 100000&&inB r.2.2.1 0 clock)
theorem C5{clock:Int}(hc:0<=clock){rs:List kT}{s:aE}(hs:StateOk s)(h:∀ j,j<rs.length->AN clock (gt rs j)=true):
  ∀ i,i<=s.1.length->∀ j,j<rs.length->AN clock (gt (cZ clock rs s.1 i) j)=true
 | 0,_,j,hj=>h j hj
 | i+1,hi,j,hj=>by
  have ih:=C5 hc hs h i (by omega)
  have he:=(hs.item _ (bZ (xs:=s.1) (i:=i) (by omega))).2.1
  show AN clock (gt ((cZ clock rs s.1 i).set (gt s.1 i).1.toNat (nZ clock (gt (cZ clock rs s.1 i) (gt s.1 i).1.toNat) (gt s.1 i).2)) j)=true
  by_cases e:(gt s.1 i).1.toNat=j
  ·rw[e,cG (by rw[iG];omega)]
   unfold nZ
   cases q9 (gt (cZ clock rs s.1 i) j) (gt s.1 i).2 with
   | false=>simp_all
   | true=>
    unfold cL at he
    simp only[Bool.and_eq_true,aQ] at he
    show AN clock ((gt s.1 i).2.1,(gt s.1 i).2.2.2.1,clock,())=true
    unfold AN
    simp only[Bool.and_eq_true,aQ]
    omega
  ·rw[fD e];simp_all
-- a node with another state, other rows and rises
def tkS(x:NodeT)(s:aE):List bT:=bM x.seen x.1 (d8 (dK x.state s))
def tkP(x:NodeT)(s:aE):aE:=prune (dK x.state s) (tkS x s)
def tkR(x:NodeT)(s:aE):List kT:=cZ x.clock x.rises (tkP x s).1 (tkP x s).1.length
def jD(x:NodeT)(s:aE):NodeT:=
 (x.1,x.2.1,(tkP x s).1,(tkP x s).2.1,(cM (tkP x s)).1,(cM (tkP x s)).2.1,x.2.2.2.2.2.2.1,x.2.2.2.2.2.2.2.1,x.2.2.2.2.2.2.2.2.1,x.got,x.acked,tkS x s,x.num,x.slots,x.sess,x.wait,x.limit,x.clock,tkR x s,())
theorem kV(a:List aH):gT a a=true:=by
 unfold gT;simp[bP]
structure NodeOk (x:NodeT):Prop where
 n:inB x.2.1 1 5=true
 id:inB x.1 0 (i64.wrap (x.2.1 - 1))=true
 state:aM x.state=true
 tree:u3 x=true
 log:fB x.log=true
 got:eQ x.got x.2.1=true
 acked:eQ x.acked x.2.1=true
 own:((gt x.got x.1.toNat).1==cJ x.log)=true
 seen:hX x.seen x.2.1=true
 ack:CH x=true
 num:inB x.num 0 100000=true
 clock:inB x.clock 0 100000=true
 slots:inB x.slots 1 4=true
 wait:inB x.wait 1 20=true
 limit:inB x.limit 1 50=true
 rises:(x.rises.length:Int)==5
 rise:bP x.rises.length (lJ x)=true
 sess:mW x=true
theorem dW(x:NodeT):dD x=true↔NodeOk x:=by
 unfold dD oT
 simp only[Bool.and_eq_true]
 constructor
 ·rintro ⟨h1,h2,h3,h4,h5,h6,h7,h8,h9,h10,h11,h12,h13,h14,h15,h16,h17,h18⟩
  exact⟨h1,h2,h3,h4,h5,h6,h7,h8,h9,h10,h11,h12,h13,h14,h15,h16,h17,h18⟩
 ·rintro ⟨h1,h2,h3,h4,h5,h6,h7,h8,h9,h10,h11,h12,h13,h14,h15,h16,h17,h18⟩
  simp_all
theorem O0{x:NodeT}{s:aE}(h:NodeOk x)(hs:aM s=true):aM (tkP x s)=true:=AV (sQ h.state hs) _
theorem NodeOk.take{x:NodeT}{s:aE}(h:NodeOk x)(hs:aM s=true):NodeOk (jD x s) where
 n:=h.n
 id:=h.id
 state:=O0 h hs
 tree:=by
  show(gT (cM (tkP x s)).1 (cM (tkP x s)).1&&(cM (tkP x s)).2.1==(cM (tkP x s)).2.1)=true
  rw[kV];simp
 log:=h.log
 got:=h.got
 acked:=h.acked
 own:=h.own
 seen:=yA h.seen
 ack:=h.ack
 num:=h.num
 clock:=h.clock
 slots:=h.slots
 wait:=h.wait
 limit:=h.limit
 rises:=by
  show(((cZ x.clock x.rises (tkP x s).1 (tkP x s).1.length).length:Nat):Int)==5
  rw[iG];exact h.rises
 rise:=by
  show bP (cZ x.clock x.rises (tkP x s).1 (tkP x s).1.length).length _=true
  rw[iG,bJ]
  intro i hi
  have hc:=h.clock;rw[aQ] at hc
  exact C5 hc.1 ((aP _).1 (O0 h hs)) (λj hj=>bJ.1 h.rise j hj) _ (Nat.le_refl _) i hi
 sess:=h.sess
theorem IG(x:NodeT)(s:aE):SzS (tkP x s):=PP (m6 _ _) _
theorem MD(s:aE):(cM s).1.length<=aV:=by
 unfold cM;cases aM s with
 | false=>simp
 | true=>show 4<=aV;decide
theorem mV{x:NodeT}(h:SzN x)(s:aE):SzN (jD x s) where
 state:=IG x s
 leaves:=MD _
 list:=h.list
 logs:=h.logs
 got:=h.got
 acked:=h.acked
 seen:=by show(tkS x s).length<=aV;unfold tkS;rw[eZ];exact h.seen
 lines:=by
  intro i hi
  show(gt (tkS x s) i).1.length<=aV
  unfold tkS;rw[iS]
  exact h.lines i (by have:i<(tkS x s).length:=hi;unfold tkS at this;rw[eZ] at this;omega)
 sess:=h.sess
 rises:=by show(cZ x.clock x.rises (tkP x s).1 (tkP x s).1.length).length<=aV;rw[iG];exact h.rises
-- hearing
def heard0(x:NodeT)(m:MsgT):NodeT:=
 (x.1,x.2.1,x.2.2.1,x.2.2.2.1,x.2.2.2.2.1,x.2.2.2.2.2.1,x.2.2.2.2.2.2.1,x.2.2.2.2.2.2.2.1,x.2.2.2.2.2.2.2.2.1,x.got,c7 x.acked m.2.1 (mxI false (gt m.vec x.1.toNat).1 (cJ x.log)),bM x.seen m.2.1 m.marks,x.num,x.slots,x.sess,x.wait,x.limit,x.clock,x.rises,())
def cR(x:NodeT)(m:MsgT):NodeT:=jD (heard0 x m) iK
def gotUp(x:NodeT)(m:MsgT):NodeT:=
 (x.1,x.2.1,x.2.2.1,x.2.2.2.1,x.2.2.2.2.1,x.2.2.2.2.2.1,x.2.2.2.2.2.2.1,x.2.2.2.2.2.2.2.1,x.2.2.2.2.2.2.2.2.1,c7 x.got m.2.1 m.hi,x.acked,x.seen,x.num,x.slots,x.sess,x.wait,x.limit,x.clock,x.rises,())
def cY(x:NodeT)(m:MsgT):NodeT:=gotUp (jD (cR x m) m.part) m
theorem DJ{l:iE}(h:fB l=true):0<=cJ l/\cJ l<=100000:=by
 unfold cJ;rw[h]
 unfold fB at h
 simp only[Bool.and_eq_true,aQ,Bool.not_eq_true',decide_eq_false_iff_not] at h
 show 0<=i64.wrap _/\i64.wrap _<=100000
 rw[IntKind.wrap_i64] at h ⊢
 omega
theorem NodeOk.heard0{x:NodeT}(h:NodeOk x)(m:MsgT):NodeOk (heard0 x m) where
 n:=h.n
 id:=h.id
 state:=h.state
 tree:=h.tree
 log:=h.log
 got:=h.got
 acked:=x8 h.acked (by rw[G5];have:=DJ h.log;omega)
 own:=h.own
 seen:=yA h.seen
 ack:=by
  have:=h.ack
  unfold CH at this ⊢
  rw[show(Go.Abs.heard0 x m).acked=c7 x.acked m.2.1 (mxI false (gt m.vec x.1.toNat).1 (cJ x.log))from rfl,gG]
  rw[bJ] at this ⊢
  intro i hi
  have h1:=this i hi
  rw[show(Go.Abs.heard0 x m).log=x.log from rfl]
  simp only[Bool.not_eq_true',decide_eq_false_iff_not] at h1 ⊢
  rcases rP x.acked m.2.1 (mxI false (gt m.vec x.1.toNat).1 (cJ x.log)) i with e | e
  ·rw[e];omega
  ·rw[e,G5];omega
 num:=h.num
 clock:=h.clock
 slots:=h.slots
 wait:=h.wait
 limit:=h.limit
 rises:=h.rises
 rise:=h.rise
 sess:=h.sess
theorem NodeOk.heard{x:NodeT}(h:NodeOk x)(m:MsgT):NodeOk (cR x m):=(h.heard0 m).take tI
theorem w7{x:NodeT}(h:SzN x)(m:MsgT):SzN (heard0 x m) where
 state:=h.state
 leaves:=h.leaves
 list:=h.list
 logs:=h.logs
 got:=h.got
 acked:=by show(c7 _ _ _).length<=aV;rw[gG];exact h.acked
 seen:=by show(bM _ _ _).length<=aV;rw[eZ];exact h.seen
 lines:=by
  intro i hi
  show(gt (bM x.seen m.2.1 m.marks) i).1.length<=aV
  rw[iS]
  exact h.lines i (by have:i<(bM x.seen m.2.1 m.marks).length:=hi;rw[eZ] at this;omega)
 sess:=h.sess
 rises:=h.rises
theorem iW{x:NodeT}(h:SzN x)(m:MsgT):SzN (cR x m):=mV (w7 h m) _
theorem NodeOk.gotUp{x:NodeT}(h:NodeOk x){m:MsgT}(hi:m.hi<=100000)(hm:m.2.1.toNat≠x.1.toNat):NodeOk (gotUp x m) where
 n:=h.n
 id:=h.id
 state:=h.state
 tree:=h.tree
 log:=h.log
 got:=x8 h.got hi
 acked:=h.acked
 own:=by
  show((gt (c7 x.got m.2.1 m.hi) x.1.toNat).1==cJ x.log)=true
  rw[F0 _ hm];exact h.own
 seen:=h.seen
 ack:=h.ack
 num:=h.num
 clock:=h.clock
 slots:=h.slots
 wait:=h.wait
 limit:=h.limit
 rises:=h.rises
 rise:=h.rise
 sess:=h.sess
theorem Q1{x:NodeT}(h:SzN x)(m:MsgT):SzN (gotUp x m) where
 state:=h.state
 leaves:=h.leaves
 list:=h.list
 logs:=h.logs
 got:=by show(c7 _ _ _).length<=aV;rw[gG];exact h.got
 acked:=h.acked
 seen:=h.seen
 lines:=h.lines
 sess:=h.sess
 rises:=h.rises
theorem j9{x:NodeT}(h:SzN x)(m:MsgT):SzN (cY x m):=Q1 (mV (iW h m) _) _
-- messages
def lM(v:List aH)(top:Int):Bool:=bP v.length λi=>inB (gt v i).1 0 top
def treeB(t:kN):Bool:=bif(t.1.length:Int)==0 then t.2.1==0 else((t.1.length:Int)==4&&(lM t.1 1023&&inB t.2.1 0 1023))
def v6(v:List aH)(i:Nat):Bool:=inB (gt v i).1 0 3&&yK (λj=> !decide ((gt v (j+1)).1<=(gt v j).1)) i
def qB(m:MsgT):Bool:=inB m.1 0 5&&(eF m.2.1&&(eF m.2.2.1&& !(m.2.1==m.2.2.1)))
def dZ(m:MsgT):Bool:=qB m&&((bP m.leaves.length (v6 m.leaves))&&(lM m.vec 100000&&(inB m.2.2.2.1 0 100000&&(inB m.hi 0 100000&&(treeB m.tree&&(decide ((m.vec.length:Int)<=5)&&(aM m.part&&eS m.marks)))))))
def rE(v:List aH)(most top:Int):Bool:= !decide ((v.length:Int)>most)&&lM v top
def HE(v:List aH)(i:Nat):Bool:= !decide ((gt v (i+1)).1<=(gt v i).1)
def A4(m:MsgT):Bool:=inB m.1 0 5&&(eF m.2.1&&(eF m.2.2.1&&(!(m.2.1==m.2.2.1)&&(inB m.2.2.2.1 0 100000&&(inB m.hi 0 100000&&(treeB m.tree&&(rE m.vec 5 100000&&(rE m.leaves 4 3&&(aM m.part&&(eS m.marks&&bP (m.leaves.length - 1) (HE m.leaves)))))))))))
theorem QK(v:List aH):(rE v 4 3&&bP (v.length - 1) (HE v))=bP v.length (v6 v):=by
 rw[Bool.eq_iff_iff]
 unfold rE lM v6 HE
 simp only[Bool.and_eq_true,bJ,Bool.not_eq_true',decide_eq_false_iff_not]
 constructor
 ·rintro ⟨⟨_,h2⟩,h3⟩ i hi
  refine⟨h2 i hi,?_⟩
  cases i with
  | zero=>rfl
  | succ j=>show(!decide ((gt v (j+1)).1<=(gt v j).1))=true;rw[decide_eq_false (h3 j (by omega))];rfl
 ·intro h
  have hp:∀ j,j+1<v.length->(gt v j).1<(gt v (j+1)).1:=λj hj=>by
   have:=(h (j+1) hj).2
   unfold yK at this
   simp_all
  have hge:∀ i,i<v.length->(i:Int)<=(gt v i).1:=by
   intro i
   induction i with
   | zero=>intro hi;have:=(h 0 hi).1;rw[aQ] at this;omega
   | succ j ih=>grind
  refine⟨⟨?_,λi hi=>(h i hi).1⟩,λi hi=>by grind⟩
  rcases Nat.lt_or_ge 4 v.length with h5 | h5
  ·have h6:=hge 4 h5
   have:=(h 4 h5).1;rw[aQ] at this;omega
  omega
theorem LI(m:MsgT):A4 m=dZ m:=by
 unfold A4 dZ qB
 rw[<- QK]
 unfold rE
 grind
theorem BJ{m:MsgT}(h:dZ m=true):m.leaves.length<=4:=by
 rw[<- LI] at h
 unfold A4 rE at h
 grind
end Go.Abs
-- messages and receiving: plain laws
namespace Go.Abs
theorem KB{β:Type}{o:Option Out}{A B C:List Kd}{r:Row A}{s:Row B}{t:Row C}{f:Rows [A,B,C]×Rows []->Option β}(h:o=some ⟨[⟨A,r⟩,⟨B,s⟩,⟨C,t⟩],[]⟩):(o.bind (dE [A,B,C] [])).bind f=f ((r,s,t,()),()):=by
 rw[h];simp[dE,f7,mM];rfl
def fV(l:List aE)(k:Nat):Nat->aE
 | 0=>iK
 | i+1=>dK (fV l k i) (gt l (k+i))
theorem t8(l:List aE)(k:Nat):∀ i,SzS (fV l k i)
 | 0=>lD
 | i+1=>m6 _ _
theorem t9{l:iE}(h:fB l=true)(k:Nat):∀ i,k+i<=l.2.2.1.length->aM (fV l.2.2.1 k i)=true
 | 0,_=>tI
 | i+1,hi=>sQ (t9 h k i (by omega)) (by
   unfold fB at h
   simp only[Bool.and_eq_true] at h
   exact bJ.1 h.2.2.2.2 (k+i) (by omega))
def gJ(l:iE)(seq:Int):Bool:=fB l&&inB seq l.2.1 (i64.wrap (l.2.1+(l.2.2.1.length:Int)))
def dM(l:iE)(seq:Int):Nat:=(seq - l.2.1).toNat
def iO(l:iE)(seq:Int):aE:=bif gJ l seq then fV l.2.2.1 (dM l seq) (l.2.2.1.length - dM l seq)else iK
theorem vD{l:iE}{seq:Int}(h:gJ l seq=true):l.2.1+((dM l seq:Nat):Int)=seq/\dM l seq<=l.2.2.1.length/\0<=l.2.1/\l.2.1<=100000/\l.2.2.1.length<=8:=by
 unfold gJ fB at h
 simp only[Bool.and_eq_true,aQ,Bool.not_eq_true',decide_eq_false_iff_not] at h
 unfold dM
 rw[IntKind.wrap_i64] at h
 omega
def oK(x:NodeT)(seq:Int):aE:=bif gJ x.log seq then iO x.log seq else x.state
theorem AG{x:NodeT}(h:SzN x)(seq:Int):SzS (oK x seq):=by
 unfold oK iO
 cases gJ x.log seq with
 | false=>exact h.state
 | true=>exact t8 _ _ _
theorem GE{x:NodeT}(h:NodeOk x)(seq:Int):aM (oK x seq)=true:=by
 unfold oK iO
 cases hs:gJ x.log seq with
 | false=>exact h.state
 | true=>have:=vD hs;exact t9 h.log _ _ (by omega)
theorem GC{s:aE}(h:SzS s)(ls:List aH):SzS (jS s ls):=
 ⟨Nat.le_trans (List.length_filter_le ..) h.1,Nat.le_trans (List.length_filter_le ..) h.2⟩
theorem GD{s:aE}(h:aM s=true)(ls:List aH):aM (jS s ls)=true:=(aP _).2 (((aP _).1 h).slice ls)
def vX(x:NodeT)(ls:List aH)(seq:Int):aE:=dK (jS x.state ls) (oK x seq)
def eL(a b:kN)(i:Nat):List aH:=bif(a.1.length:Int) != 4 then[((i:Int),())] else bif(b.1.length:Int) != 4 then[((i:Int),())] else bif(gt a.1 i).1 != (gt b.1 i).1 then[((i:Int),())] else[]
def fS(a b:kN):List aH:=bif a.2.1==b.2.1 then[] else bX 4 (eL a b)
theorem nQ(a b:kN)(i:Nat):(eL a b i).length<=1:=by
 unfold eL
 cases (a.1.length:Int) != 4<;>cases (b.1.length:Int) != 4<;>cases (gt a.1 i).1 != (gt b.1 i).1<;>simp
theorem nA(a b:kN):(fS a b).length<=4:=by
 unfold fS
 cases a.2.1==b.2.1 with
 | true=>simp
 | false=>exact dH (n:=4) (L:=1) λi _=>nQ a b i
def NF(x:NodeT)(kind to num:Int):MsgT:=(kind,x.1,to,num,cJ x.log,[],0,x.got,[],[],[],d8 x.state,())
-- exchanges
def withS(x:NodeT)(ss:List eI):NodeT:=
 (x.1,x.2.1,x.2.2.1,x.2.2.2.1,x.2.2.2.2.1,x.2.2.2.2.2.1,x.2.2.2.2.2.2.1,x.2.2.2.2.2.2.2.1,x.2.2.2.2.2.2.2.2.1,x.got,x.acked,x.seen,x.num,x.slots,ss,x.wait,x.limit,x.clock,x.rises,())
def rL(s:eI):Int×Bool:=(s.1,s.2.2.1)
def UI(x:NodeT)(s:eI):Prop:=inB s.1 0 (i64.wrap (x.2.1 - 1))=true/\s.1≠x.1/\inB s.2.1 0 100000=true/\inB s.2.2.2.1 0 x.wait=true
theorem mJ{v:List eI}{k:Nat}{p:Int}{b:Bool}:d9 v k p b=true↔rL (gt v k)=(p,b):=by
 unfold d9 rL
 rw[Bool.and_eq_true,beq_iff_eq,R3,Prod.mk.injEq]
theorem PX(v:List eI):(∀ i,i<v.length->DB v i=true)↔(v.map rL).Nodup:=by
 unfold List.Nodup
 rw[List.pairwise_iff_getElem]
 unfold DB
 simp only[bJ,Bool.not_eq_true',List.length_map,List.getElem_map]
 constructor
 ·intro h i j hi hj hij e
  have:=h j hj i hij
  rw[<- Bool.not_eq_true,mJ] at this
  apply this
  rw[cS hi,cS hj];exact e
 ·intro h j hj i hij
  rw[<- Bool.not_eq_true,mJ]
  intro e
  refine h i j (by omega) hj hij ?_
  rw[cS (by omega),cS hj] at e;exact e
theorem dV(x:NodeT):mW x=true↔(x.sess.length:Int)<=x.slots/\(∀ s∈x.sess,UI x s)/\(x.sess.map rL).Nodup:=by
 rw[<- PX]
 unfold mW oM
 simp only[Bool.and_eq_true,bJ,Bool.not_eq_true',decide_eq_false_iff_not]
 constructor
 ·rintro ⟨h1,h2⟩
  refine⟨by omega,λs hs=>?_,λi hi=>(h2 i hi).2.2.2.2⟩
  obtain⟨i,hi,rfl⟩:=fR hs
  obtain⟨a,b,c,d,_⟩:=h2 i hi
  refine⟨a,?_,c,d⟩
  simp_all
 ·rintro ⟨h1,h2,h3⟩
  refine⟨by omega,λi hi=>?_⟩
  obtain⟨a,b,c,d⟩:=h2 _ (bZ hi)
  simp_all
theorem NodeOk.withS{x:NodeT}(h:NodeOk x){ss:List eI}(h1:(ss.length:Int)<=x.slots)(h2:∀ s∈ss,UI x s)(h3:(ss.map rL).Nodup):NodeOk (withS x ss) where
 n:=h.n
 id:=h.id
 state:=h.state
 tree:=h.tree
 log:=h.log
 got:=h.got
 acked:=h.acked
 own:=h.own
 seen:=h.seen
 ack:=h.ack
 num:=h.num
 clock:=h.clock
 slots:=h.slots
 wait:=h.wait
 limit:=h.limit
 rises:=h.rises
 rise:=h.rise
 sess:=(dV _).2 ⟨h1,h2,h3⟩
theorem uX{x:NodeT}(h:SzN x){ss:List eI}(h1:ss.length<=aV):SzN (withS x ss):=
 ⟨h.state,h.leaves,h.list,h.logs,h.got,h.acked,h.seen,h.lines,h1,h.rises⟩
theorem gI(v:List eI)(p:Int)(b:Bool):(∃ k:Nat,k<v.length/\dL v p b=(k:Int)/\rL (gt v k)=(p,b))\/(dL v p b= -1/\∀ s∈v,rL s≠(p,b)):=by
 unfold dL
 cases hf:(List.range v.length).find? (λk=>d9 v k p b)with
 | none=>
  refine .inr ⟨rfl,λs hs e=>?_⟩
  obtain⟨i,hi,rfl⟩:=fR hs
  have:=List.find?_eq_none.1 hf i (List.mem_range.2 hi)
  exact this (mJ.2 e)
 | some k=>
  refine .inl ⟨k,List.mem_range.1 (List.mem_of_find?_eq_some hf),rfl,?_⟩
  exact mJ.1 (show d9 v k p b=true from List.find?_some (p:=λk=>d9 v k p b) hf)
def mB(x:NodeT)(m:MsgT)(b:Bool):Int:=bif decide (dL x.sess m.2.1 b>=0)then(bif(gt x.sess (dL x.sess m.2.1 b).toNat).2.1 != m.2.2.2.1 then -1 else dL x.sess m.2.1 b)else dL x.sess m.2.1 b
def j6(x:NodeT)(k:Nat):NodeT:=withS x (x.sess.take k++x.sess.drop (k+1))
theorem HP{x:NodeT}(h:NodeOk x)(k:Nat):NodeOk (j6 x k):=by
 have hs:=(dV x).1 h.sess
 have sub:List.Sublist (x.sess.take k++x.sess.drop (k+1)) x.sess:=by rw[<- List.eraseIdx_eq_take_drop_succ];grind
 refine h.withS ?_ (λs hm=>hs.2.1 s (sub.subset hm)) ((sub.map rL).nodup hs.2.2)
 grind
theorem BQ{x:NodeT}(h:SzN x)(k:Nat):SzN (j6 x k):=uX h (by
 have:=h.sess;rw[List.length_append,List.length_take,List.length_drop];omega)
def p5(x:NodeT)(k:Nat)(num:Int):List eI:=x.sess.set k ((gt x.sess k).1,num,(gt x.sess k).2.2.1,(0:Int),())
def kL(x:NodeT)(m:MsgT):List eI:=x.sess++[(m.2.1,m.2.2.2.1,true,(0:Int),())]
theorem M1{x:NodeT}(h:NodeOk x){k:Nat}(hk:k<x.sess.length){num:Int}(hn:inB num 0 100000=true):NodeOk (withS x (p5 x k num)):=by
 have hs:=(dV x).1 h.sess
 refine h.withS (by unfold p5;rw[List.length_set];omega) (λs hm=>?_) ?_
 ·rcases List.mem_or_eq_of_mem_set hm with h1 | h1
  ·grind
  ·have h2:=hs.2.1 _ (bZ hk)
   rw[h1]
   refine⟨h2.1,h2.2.1,hn,?_⟩
   have:=h.wait;rw[aQ] at this ⊢;grind
 ·unfold p5
  rw[List.map_set,show rL ((gt x.sess k).1,num,(gt x.sess k).2.2.1,(0:Int),())=rL (gt x.sess k)from rfl]
  have:(x.sess.map rL).set k (rL (gt x.sess k))=x.sess.map rL:=by
   rw[<- List.map_set,uB]
  rw[this];simp_all
theorem KN{x:NodeT}(h:NodeOk x){m:MsgT}(hp:inB m.2.1 0 (i64.wrap (x.2.1 - 1))=true)(hi:m.2.1≠x.1)(hn:inB m.2.2.2.1 0 100000=true)(hf:dL x.sess m.2.1 true<0)(hl:(x.sess.length:Int)≠x.slots):NodeOk (withS x (kL x m)):=by
 have hs:=(dV x).1 h.sess
 refine h.withS (by unfold kL;rw[List.length_append,List.length_singleton];omega) (λs hm=>?_) ?_
 ·rcases List.mem_append.1 hm with h1 | h1
  ·grind
  ·rw[List.mem_singleton.1 h1]
   refine⟨hp,hi,hn,?_⟩
   have:=h.wait;rw[aQ] at this ⊢;grind
 ·unfold kL
  rw[List.map_append,List.nodup_append]
  refine⟨hs.2.2,by simp,λa ha b hb=>?_⟩
  obtain⟨s,hs1,rfl⟩:=List.mem_map.1 ha
  have hb:b=(m.2.1,true):=by simpa [rL] using hb
  rw[hb]
  rcases gI x.sess m.2.1 true with ⟨k,_,e,_⟩ | ⟨_,e⟩
  ·rw[e] at hf;omega
  grind
-- receiving
def AP(o:NodeT)(x:NodeT)(m:MsgT):MsgT:=
 (3,o.1,m.2.1,m.2.2.2.1,cJ o.log,o.tree.1,o.tree.2.1,o.got,fS o.tree m.tree,(vX o (fS o.tree m.tree) (gt m.vec x.1.toNat).1).1,(vX o (fS o.tree m.tree) (gt m.vec x.1.toNat).1).2.1,d8 o.state,())
def QP(o:NodeT)(x:NodeT)(m:MsgT):MsgT:=
 (4,o.1,m.2.1,m.2.2.2.1,cJ o.log,[],0,o.got,m.leaves,(vX o m.leaves (gt m.vec x.1.toNat).1).1,(vX o m.leaves (gt m.vec x.1.toNat).1).2.1,d8 o.state,())
abbrev KP:=NodeT×List MsgT×Int
def hY(x:NodeT)(m:MsgT):List eI:=bif decide (dL x.sess m.2.1 true>=0)then p5 x (dL x.sess m.2.1 true).toNat m.2.2.2.1 else kL x m
def EL(x:NodeT)(m:MsgT):NodeT:=cR (withS x (hY x m)) m
def hZ(x:NodeT)(m:MsgT):Bool:= !decide (dL x.sess m.2.1 true>=0)&&(x.sess.length:Int)==x.slots
def fI(x:NodeT)(m:MsgT):KP:=bif hZ x m then(x,[NF x 5 m.2.1 m.2.2.2.1],3)else(EL x m,[AP (EL x m) x m],0)
def gL(x:NodeT)(m:MsgT)(k:Nat):KP:=
 bif m.1==5 then(j6 x k,[],0)else bif m.1==4 then(cY (j6 x k) m,[],0)else(cY (j6 x k) m,[QP (cY (j6 x k) m) x m],0)
def mK(x:NodeT)(m:MsgT):KP:=
 bif m.1==0 then(cY x m,[NF (cY x m) 1 m.2.1 m.2.2.2.1],0)else
 bif m.1==1 then(cR x m,[],0)else bif m.1==2 then fI x m else
 bif decide (mB x m (m.1==4)<0)then(x,[],2)else gL x m (mB x m (m.1==4)).toNat
def fX(x:NodeT)(m:MsgT):Bool:=dD x&&(dZ m&&(m.2.2.1==x.1&&(!decide (m.2.1>=x.2.1)&&(m.vec.length:Int)==x.2.1)))
def eJ(x:NodeT)(m:MsgT):KP:=bif fX x m then mK x m else(x,[],1)
structure RecOk (x:NodeT) (m:MsgT):Prop where
 node:NodeOk x
 msg:dZ m=true
 idn:0<=x.1/\x.1<x.2.1/\1<=x.2.1/\x.2.1<=5
 frm:0<=m.2.1/\m.2.1<x.2.1
 ne:m.2.1≠x.1
 vec:(m.vec.length:Int)=x.2.1
 to:m.2.2.1=x.1
 num:inB m.2.2.2.1 0 100000=true
 hi:0<=m.hi/\m.hi<=100000
 part:aM m.part=true
 marks:eS m.marks=true
 leaves:m.leaves.length<=4
theorem oO{x:NodeT}{m:MsgT}(h:fX x m=true):RecOk x m:=by
 unfold fX at h
 simp only[Bool.and_eq_true,beq_iff_eq,Bool.not_eq_true',decide_eq_false_iff_not] at h
 obtain⟨h1,h2,h3,h4,h5⟩:=h
 have hn:=(dW x).1 h1
 have a1:=hn.n
 have a2:=hn.id
 rw[aQ] at a1 a2
 rw[IntKind.wrap_i64] at a2
 have hm:=h2
 unfold dZ qB eF at hm
 simp only[Bool.and_eq_true,aQ,Bool.not_eq_true',beq_eq_false_iff_ne] at hm
 obtain⟨⟨b1,b2,b3,b4⟩,b5,b6,b7,b8,b9,b10,b11,b12⟩:=hm
 exact⟨hn,h2,by omega,by omega,by rw[<- h3];omega,h5,h3,aQ.2 b7,b8,b11,b12,BJ h2⟩
theorem RecOk.gone{x:NodeT}{m:MsgT}(h:RecOk x m)(k:Nat):RecOk (j6 x k) m:=
 ⟨HP h.node k,h.msg,h.idn,h.frm,h.ne,h.vec,h.to,h.num,h.hi,h.part,h.marks,h.leaves⟩
theorem RecOk.brought{x:NodeT}{m:MsgT}(h:RecOk x m):NodeOk (cY x m):=
 NodeOk.gotUp ((h.node.heard m).take h.part) h.hi.2 (by
  have h1:=h.ne;have h2:=h.idn;have h3:=h.frm
  show m.2.1.toNat≠x.1.toNat
  omega)
theorem RecOk.syn{x:NodeT}{m:MsgT}(h:RecOk x m)(hf:hZ x m=false):RecOk (withS x (hY x m)) m:=by
 refine⟨?_,h.msg,h.idn,h.frm,h.ne,h.vec,h.to,h.num,h.hi,h.part,h.marks,h.leaves⟩
 unfold hY
 unfold hZ at hf
 by_cases hc:dL x.sess m.2.1 true>=0
 ·rw[decide_eq_true hc]
  rcases gI x.sess m.2.1 true with ⟨k,hk,e,_⟩ | ⟨e,_⟩
  ·show NodeOk (withS x (p5 x (dL x.sess m.2.1 true).toNat m.2.2.2.1))
   rw[e];exact M1 h.node hk h.num
  omega
 ·rw[decide_eq_false hc] at hf ⊢
  refine KN h.node ?_ h.ne h.num (by omega) (by simp_all)
  have h2:=h.idn;have h3:=h.frm
  rw[aQ,IntKind.wrap_i64];omega
theorem rT{x:NodeT}(h:NodeOk x)(m:MsgT):(hY x m).length<=aV:=by
 have h1:=((dV x).1 h.sess).1
 have h2:=h.slots;rw[aQ] at h2
 unfold hY p5 kL aV
 grind
theorem SK{x:NodeT}(hz:SzN x)(h:NodeOk x)(m:MsgT):SzN (EL x m):=iW (uX hz (rT h m)) m
theorem K0{x:NodeT}{m:MsgT}(h:fX x m=false):eJ x m=(x,[],1):=by unfold eJ;rw[h];rfl
theorem GM{x:NodeT}{m:MsgT}(h:fX x m=true):eJ x m=mK x m:=by unfold eJ;rw[h];rfl
-- an exchange taken out, as the code does it
def CR(x:NodeT)(k:Int):List eI:=([]++((x.sess.take (k.toNat)).drop 0))++((x.sess.take x.sess.length).drop ((i64.wrap (k+1))).toNat)
theorem S0{x:NodeT}{k:Nat}(hk:k<x.sess.length)(hl:x.sess.length<=aV):CR x (k:Int)=x.sess.take k++x.sess.drop (k+1):=by
 unfold CR
 rw[aF (Nat.lt_of_lt_of_le hk (Nat.le_trans hl (by decide))),List.take_length,Int.toNat_natCast,Int.toNat_natCast];rfl
theorem GQ{x:NodeT}{k:Nat}(hk:k<x.sess.length)(hl:x.sess.length<=aV):withS x (CR x (k:Int))=j6 x k:=by rw[S0 hk hl];rfl
theorem wC{α β:Type}{ss:List α}{k:Nat}{F Z:β}(hk:k<ss.length)(hl:ss.length<=aV):
  (bif decide (0<=(k:Int))&&decide ((k:Int)<=(ss.length:Int))then(bif decide (List.length ([]:List α)+List.length ((ss.take ((k:Int).toNat)).drop 0)<=bound)then
   (bif decide (0<=i64.wrap ((k:Int)+1))&&decide (i64.wrap ((k:Int)+1)<=(ss.length:Int))then
    (bif decide (List.length ([]++((ss.take ((k:Int).toNat)).drop 0))+List.length ((ss.take ss.length).drop ((i64.wrap ((k:Int)+1))).toNat)<=bound)then F else Z)else Z)else Z)else Z)=F:=by
 have hb:aV<=bound:=by decide
 rw[aF (Nat.lt_of_lt_of_le hk (Nat.le_trans hl (by decide)))]
 grind
end Go.Abs
-- short steps
namespace Go.Abs
open Go
theorem qP{β:Type}{q:Prop}[Decidable q]{x y z:β}(h:q)(k:x=z):(bif decide q then x else y)=z:=(nU h).trans k
theorem qN{β:Type}{q:Prop}[Decidable q]{x y z:β}(h:¬ q)(k:y=z):(bif decide q then x else y)=z:=(jP h).trans k
theorem qT{β:Type}{b:Bool}{x y z:β}(h:b=true)(k:x=z):(bif b then x else y)=z:=(jW h).trans k
theorem qF{β:Type}{b:Bool}{x y z:β}(h:b=false)(k:y=z):(bif b then x else y)=z:=(gR h).trans k
theorem qt{β:Type}{x y z:β}(k:x=z):(bif true then x else y)=z:=k
theorem qf{β:Type}{x y z:β}(k:y=z):(bif false then x else y)=z:=k
theorem qz{β:Type}{m:Nat}{x y z:β}(k:x=z):(bif decide ((0:Int)<=(m:Int))then x else y)=z:=(nU (Int.natCast_nonneg m)).trans k
theorem ql{β:Type}{i m:Nat}{x y z:β}(h:i<m)(k:x=z):(bif decide ((i:Int)<(m:Int))then x else y)=z:=(nU (Int.ofNat_lt.2 h)).trans k
theorem qe{β:Type}{a:Int}{x y z:β}(k:y=z):(bif decide (a<a)then x else y)=z:=(jP (Int.lt_irrefl a)).trans k
theorem qC{β:Type}{p:Prg}{v n g:Nat}{as:List Arg}{A:List Kd}{r:Row A}{f:Rows [A]×Rows []->Option β}{z:Option β}(h:Ran p v g as ⟨[⟨A,r⟩],[]⟩)(k:f ((r,()),())=z)(hn:v<=n:=by omega):
  ((aJ p n g as).bind (dE [A] [])).bind f=z:=(OA (h n hn)).trans k
theorem qD{β:Type}{p:Prg}{v n g:Nat}{as:List Arg}{A B:List Kd}{r:Row A}{s:Row B}{f:Rows [A,B]×Rows []->Option β}{z:Option β}(h:Ran p v g as ⟨[⟨A,r⟩,⟨B,s⟩],[]⟩)(k:f ((r,s,()),())=z)(hn:v<=n:=by omega):
  ((aJ p n g as).bind (dE [A,B] [])).bind f=z:=(KC (h n hn)).trans k
theorem qE{β:Type}{p:Prg}{v n g:Nat}{as:List Arg}{A B C:List Kd}{r:Row A}{s:Row B}{t:Row C}{f:Rows [A,B,C]×Rows []->Option β}{z:Option β}(h:Ran p v g as ⟨[⟨A,r⟩,⟨B,s⟩,⟨C,t⟩],[]⟩)(k:f ((r,s,t,()),())=z)(hn:v<=n:=by omega):
  ((aJ p n g as).bind (dE [A,B,C] [])).bind f=z:=(KB (h n hn)).trans k
theorem qR{β:Type}{p:Prg}{v n g:Nat}{as:List Arg}{A B:List Kd}{r:Row A}{s:Row B}{f:Rows [A]×Rows [B]->Option β}{z:Option β}(h:Ran p v g as ⟨[⟨A,r⟩],[⟨B,s⟩]⟩)(k:f ((r,()),(s,()))=z)(hn:v<=n:=by omega):
  ((aJ p n g as).bind (dE [A] [B])).bind f=z:=(RU (h n hn)).trans k
end Go.Abs
/- A function of two texts with a contract of the library's. -/
namespace Go.Abs
open Go
def VK:List Arg->Option Out
 | [.val false ⟨[.str],x⟩,.val false ⟨[.str],y⟩]=>some ⟨[⟨[.int .i64],(Lib.compareBytes (ByteArray.data x.1).toList (ByteArray.data y.1).toList,())⟩],[]⟩
 | _=>none
theorem NP(rb:Nat->Prop)(w:World):Keep rb w w:=⟨rfl,rfl,rfl,Nat.le_refl _,λ_ _ _=>rfl⟩
theorem N9 {P:Program} {ti:Ti} {rts:Nat->Option (List Nat)} {fr:Nat->Bool} {g:Nat} (hf:∃ fn,P.funcs[g]? =some fn/\fn.name≠ "runtime.NumGoroutine" /\fn.body.isNone=false)
  (hrt:(rts g).bind (dI { ti:=ti,n:=0,call:=λ_ _=>none,fresh:=fr,owns:=λ_=>false,h:=⟨false,[],[],false,false,[],[],[],[]⟩ })=some [(false,[.int .i64])])
  (hc:∀ (a b:ByteArray) (w:World),Calls P g #[.string a,.string b] w λe w'=>e= .returned (.int .i64 (Lib.compareBytes a.data.toList b.data.toList))/\w'=w) (as:List Arg) (out:Out) (h:VK as=some out):lZ P ti rts fr g as out:=by
 unfold VK at h
 split at h
 ·rename_i x y
  cases h
  show VU P ti rts fr g _ _
  refine⟨hf,λrt h1 vs bs rbs w hA _ _ _=>?_⟩
  rw[hrt] at h1
  cases h1
  obtain⟨v,vs',b,b',r,r',rfl,rfl,rfl,⟨rfl,us,hs,u,us',bb,bb',e1,e2,⟨e3,e4⟩,e5,e6⟩,v2,vs2,c,c',q,q',rfl,rfl,rfl,⟨rfl,us2,hs2,u2,us2',dd,dd',g1,g2,⟨g3,g4⟩,g5,g6⟩,rfl,rfl,rfl⟩:=hA
  have hv:v= .string x.1:=by
   rcases hs with ⟨hh,_⟩ | ⟨_,hh⟩
   ·grind
   simp_all
  have hv2:v2= .string y.1:=by
   rcases hs2 with ⟨hh,_⟩ | ⟨_,hh⟩
   ·grind
   simp_all
  subst hv;subst hv2
  refine Calls.mono (hc x.1 y.1 w) ?_
  rintro e w' ⟨rfl,rfl⟩
  refine⟨_,rfl,⟨NP _ _,(λb _=>SizeLe.same rfl),(λb h1 h2=>by omega),[_],[],[],[],rfl,?_,?_,(λb hb=>by grind),(λb hb=>by grind),(λb hb=>by grind),λ_=>⟨List.nodup_nil,List.nodup_nil⟩⟩,λ_=>⟨[_],[],[],rfl,⟨_,[],_,[],[_],[],[],[],[],rfl,rfl,rfl,rfl,.inr ⟨rfl,rfl⟩,⟨_,[],rfl,⟨rfl,rfl⟩,rfl,rfl,rfl⟩,rfl,rfl,rfl,rfl⟩,List.nodup_nil,(λb hb=>by grind),λb hb=>by grind⟩⟩
  ·refine⟨_,[],_,[],[_],[],[],[],[],rfl,rfl,rfl,rfl,.inr ⟨rfl,rfl⟩,?_,rfl,rfl,rfl,rfl⟩
   unfold T0
   cases fr g with
   | false=>exact⟨rfl,_,[],[],[],rfl,rfl,⟨rfl,rfl⟩,rfl,rfl⟩
   | true=>exact⟨_,[],rfl,⟨rfl,rfl⟩,rfl,rfl,rfl⟩
  ·exact⟨rfl,rfl⟩
 simp_all
end Go.Abs
/- Plain laws: rows marked cell by cell; how many cells there are. -/
namespace Go.Abs
def iB{α:Type}(c:α->Int):List α->Int
 | []=>0
 | x::xs=>c x+iB c xs
def Q5{α:Type}(f:α->Int->α)(c:α->Int):List α->Int->List α
 | [],_=>[]
 | x::xs,n=>f x n::Q5 f c xs (n+c x)
mutual
/-- How many cells lie in a value. -/
def cnT:(k:Kd)->k.T->Int
 | .int _,_=>1
 | .bool,_=>1
 | .str,_=>1
 | .fn,_=>1
 | .sl ks,xs=>iB (cnR ks) xs
def cnR:(ks:List Kd)->Row ks->Int
 | [],_=>0
 | k::ks,r=>cnT k r.1+cnR ks r.2
end
/-- How many cells lie in a struct's slices. -/
def cnS:(ks:List Kd)->Row ks->Int
 | [],_=>0
 | .sl k::ks,r=>cnT (.sl k) r.1+cnS ks r.2
 | .int _::ks,r=>cnS ks r.2
 | .bool::ks,r=>cnS ks r.2
 | .str::ks,r=>cnS ks r.2
 | .fn::ks,r=>cnS ks r.2
mutual
/-- How much lies in a value: elements and texts' bytes. -/
def szT:(k:Kd)->k.T->Int
 | .int _,_=>0
 | .bool,_=>0
 | .str,s=>((ByteArray.size s:Nat):Int)
 | .fn,_=>0
 | .sl ks,xs=>((List.length xs:Nat):Int)+iB (szR ks) xs
def szR:(ks:List Kd)->Row ks->Int
 | [],_=>0
 | k::ks,r=>szT k r.1+szR ks r.2
end
mutual
def I6:Kd->Bool
 | .sl ks=>Nat.ble ks.length 64&&v3 ks
 | .int _=>true
 | .bool=>true
 | .str=>true
 | .fn=>true
def v3:List Kd->Bool
 | []=>true
 | k::ks=>I6 k&&v3 ks
end
theorem tD{α:Type}{c:α->Int}:∀ (xs:List α),(∀ x∈xs,0<=c x)->0<=iB c xs
 | [],_=>Int.le_refl _
 | x::xs,h=>by
  have h1:=h x (List.mem_cons_self ..)
  have h2:=tD xs λy hy=>h y (List.mem_cons_of_mem _ hy)
  show 0<=c x+iB c xs
  omega
theorem KU{α:Type}{c d:α->Int}{A B:Int}:∀ (xs:List α),(∀ x∈xs,c x<=A+B*d x)->iB c xs<=A*(xs.length:Int)+B*iB d xs
 | [],_=>by show(0:Int)<=A*((0:Nat):Int)+B*0;omega
 | x::xs,h=>by
  have h1:=h x (List.mem_cons_self ..)
  have h2:=KU (A:=A) (B:=B) (c:=c) (d:=d) xs λy hy=>h y (List.mem_cons_of_mem _ hy)
  show c x+iB c xs<=A*(((xs.length+1:Nat):Nat):Int)+B*(d x+iB d xs)
  rw[Int.mul_add,show(((xs.length+1:Nat):Nat):Int)=(xs.length:Int)+1 from by omega,Int.mul_add]
  omega
theorem rU{α:Type}{c:α->Int}:∀ (xs ys:List α),iB c (xs++ys)=iB c xs+iB c ys
 | [],ys=>by show iB c ys=0+iB c ys;omega
 | x::xs,ys=>by
  show c x+iB c (xs++ys)=c x+iB c xs+iB c ys
  rw[rU xs ys];omega
theorem AA{α:Type}{c:α->Int}{xs:List α}{i:Nat}(h:i<xs.length):iB c (xs.take (i+1))=iB c (xs.take i)+c xs[i]:=by
 rw[<- List.take_append_getElem h,rU]
 show iB c (xs.take i)+(c xs[i]+0)=_
 omega
mutual
theorem VI:∀ (k:Kd) (x:k.T),0<=cnT k x
 | .int _,_=>by show(0:Int)<=1;omega
 | .bool,_=>by show(0:Int)<=1;omega
 | .str,_=>by show(0:Int)<=1;omega
 | .fn,_=>by show(0:Int)<=1;omega
 | .sl ks,xs=>tD (c:=cnR ks) xs λx _=>RN ks x
theorem RN:∀ (ks:List Kd) (r:Row ks),0<=cnR ks r
 | [],_=>Int.le_refl _
 | k::ks,r=>by
  have h1:=VI k r.1
  have h2:=RN ks r.2
  show 0<=cnT k r.1+cnR ks r.2
  omega
end
mutual
theorem IK:∀ (k:Kd) (x:k.T),0<=szT k x
 | .int _,_=>Int.le_refl _
 | .bool,_=>Int.le_refl _
 | .str,s=>by show(0:Int)<=((ByteArray.size s:Nat):Int);omega
 | .fn,_=>Int.le_refl _
 | .sl ks,xs=>by
  have h:=tD (c:=szR ks) xs λx _=>z7 ks x
  show(0:Int)<=((List.length xs:Nat):Int)+iB (szR ks) xs
  omega
theorem z7:∀ (ks:List Kd) (r:Row ks),0<=szR ks r
 | [],_=>Int.le_refl _
 | k::ks,r=>by
  have h1:=IK k r.1
  have h2:=z7 ks r.2
  show 0<=szT k r.1+szR ks r.2
  omega
end
mutual
theorem VJ:∀ (k:Kd) (x:k.T),I6 k=true->cnT k x<=(bif j7 k then 1 else 0)+64*szT k x
 | .int _,_,_=>by show(1:Int)<=1+64*0;omega
 | .bool,_,_=>by show(1:Int)<=1+64*0;omega
 | .str,s,_=>by show(1:Int)<=1+64*((ByteArray.size s:Nat):Int);omega
 | .fn,_,_=>by show(1:Int)<=1+64*0;omega
 | .sl ks,xs,h=>by
  have h':(Nat.ble ks.length 64&&v3 ks)=true:=h
  rw[Bool.and_eq_true] at h'
  have hl:=Nat.le_of_ble_eq_true h'.1
  have:=KU (c:=cnR ks) (d:=szR ks) (A:=64) (B:=64) xs λx _=>by
   have:=RO ks x h'.2
   omega
  show iB (cnR ks) xs<=0+64*(((List.length xs:Nat):Int)+iB (szR ks) xs)
  rw[Int.mul_add];omega
theorem RO:∀ (ks:List Kd) (r:Row ks),v3 ks=true->cnR ks r<=(ks.length:Int)+64*szR ks r
 | [],_,_=>by show(0:Int)<=((0:Nat):Int)+64*0;omega
 | k::ks,r,h=>by
  have h':(I6 k&&v3 ks)=true:=h
  rw[Bool.and_eq_true] at h'
  have h1:=VJ k r.1 h'.1
  have h2:=RO ks r.2 h'.2
  have h3:=IK k r.1
  show cnT k r.1+cnR ks r.2<=(((ks.length+1:Nat):Nat):Int)+64*(szT k r.1+szR ks r.2)
  grind
end
/-- A number as a cell of a kind holds it. -/
def wr(j:IntKind)(n:Int):Int:=match j with
 | .i64=>n
 | j=>j.wrap n
section
variable (txt:Int->ByteArray)
mutual
/-- A value whose cells are numbered. -/
def mkT:(k:Kd)->k.T->Int->k.T
 | .int j,_,n=>wr j n
 | .bool,_,n=>n.tmod 3==0
 | .str,_,n=>txt n
 | .fn,x,_=>x
 | .sl ks,xs,n=>Q5 (mkR ks) (cnR ks) xs n
def mkR:(ks:List Kd)->Row ks->Int->Row ks
 | [],_,_=>()
 | k::ks,r,n=>(mkT k r.1 n,mkR ks r.2 (n+cnT k r.1))
end
end
section
variable {ι σ α:Type} {c:Nat->ι->(σ->Option Out)->σ->Option Out} {r:ι->Option Out}
theorem EM{d:α->Int}(hd:∀ x,0<=d x){xs:List α}{i:Nat}(h:i<xs.length):0<=iB d (xs.take i)/\iB d (xs.take i)+d xs[i]<=iB d xs:=by
 have e:iB d xs=iB d (xs.take (i+1))+iB d (xs.drop (i+1)):=by rw[<- rU,List.take_append_drop]
 rw[e,AA h]
 have h1:=tD (c:=d) (xs.take i) λx _=>hd x
 have h2:=tD (c:=d) (xs.drop (i+1)) λx _=>hd x
 omega
end
mutual
/-- No row in a value is too long. -/
def LmT:(k:Kd)->k.T->Prop
 | .int _,_=>True
 | .bool,_=>True
 | .str,_=>True
 | .fn,_=>True
 | .sl ks,xs=>List.length xs<=4611686018427387904/\∀ (i:Nat) (r:Row ks),at? xs i=some r->LmR ks r
def LmR:(ks:List Kd)->Row ks->Prop
 | [],_=>True
 | k::ks,r=>LmT k r.1/\LmR ks r.2
end
mutual
theorem TSm.lm:∀ (k:Kd) (x:k.T),TSm k x->LmT k x
 | .int _,_,_=>trivial
 | .bool,_,_=>trivial
 | .str,_,_=>trivial
 | .fn,_,_=>trivial
 | .sl ks,xs,h=>⟨Nat.le_trans h.1 (by decide),λi r hr=>Small.lm ks r (h.2 i r hr)⟩
theorem Small.lm:∀ (ks:List Kd) (r:Row ks),Small ks r->LmR ks r
 | [],_,_=>trivial
 | k::ks,r,h=>⟨TSm.lm k r.1 h.1,Small.lm ks r.2 h.2⟩
end
mutual
theorem US:∀ (k:Kd) (x:k.T),szT k x<=4611686018427387904->LmT k x
 | .int _,_,_=>trivial
 | .bool,_,_=>trivial
 | .str,_,_=>trivial
 | .fn,_,_=>trivial
 | .sl ks,xs,h=>by
  have h':((List.length xs:Nat):Int)+iB (szR ks) xs<=4611686018427387904:=h
  have h2:=tD (c:=szR ks) xs λx _=>z7 ks x
  refine⟨by omega,λi r hr=>O5 ks r ?_⟩
  obtain⟨hi,rfl⟩:=TX hr
  have:=(EM (d:=szR ks) (λx=>z7 ks x) hi)
  omega
theorem O5:∀ (ks:List Kd) (r:Row ks),szR ks r<=4611686018427387904->LmR ks r
 | [],_,_=>trivial
 | k::ks,r,h=>by
  have h':szT k r.1+szR ks r.2<=4611686018427387904:=h
  have h1:=IK k r.1
  have h2:=z7 ks r.2
  exact⟨US k r.1 (by omega),O5 ks r.2 (by omega)⟩
end
theorem kU{α:Type}{c:α->Int}{n:Int}(h:∀ x,c x=n):∀ xs:List α,iB c xs=n*(xs.length:Int)
 | []=>by show(0:Int)=n*((0:Nat):Int);simp
 | x::xs=>by
  show c x+iB c xs=n*(((xs.length+1:Nat):Nat):Int)
  rw[h,kU h xs,show(((xs.length+1:Nat):Nat):Int)=(xs.length:Int)+1 from by omega,Int.mul_add];omega
theorem zE{α ρ:Type}(x:α)(f:α->Option ρ):IQ x f=f x:=rfl
theorem set_set{α:Type}(ys:List α)(i:Nat)(x y:α):(ys.set i x).set i y=ys.set i y:=by simp
end Go.Abs
-- exchanges begun and gone through: plain laws
namespace Go.Abs
def kP(x:NodeT)(to:Int):Bool:=dD x&&(i9 x to&&(!decide (dL x.sess to false>=0)&&(!((x.sess.length:Int)==x.slots)&& !(x.num==100000))))
def C1(x:NodeT)(to:Int):NodeT:=
 (x.1,x.2.1,x.2.2.1,x.2.2.2.1,x.2.2.2.2.1,x.2.2.2.2.2.1,x.2.2.2.2.2.2.1,x.2.2.2.2.2.2.2.1,x.2.2.2.2.2.2.2.2.1,x.got,x.acked,x.seen,i64.wrap (x.num+1),x.slots,x.sess++[(to,i64.wrap (x.num+1),false,(0:Int),())],x.wait,x.limit,x.clock,x.rises,())
def UT(x:NodeT)(to:Int):MsgT:=(2,x.1,to,i64.wrap (x.num+1),cJ x.log,x.tree.1,x.tree.2.1,x.got,[],[],[],d8 x.state,())
def wZ:MsgT:=((0:Int),(0:Int),(0:Int),(0:Int),(0:Int),[],(0:Int),[],[],[],[],[],())
abbrev WG:=NodeT×MsgT×Bool
def gH(x:NodeT)(to:Int):WG:=bif kP x to then(C1 x to,UT x to,true)else(x,wZ,false)
structure SynOk (x:NodeT) (to:Int):Prop where
 node:NodeOk x
 peer:0<=to/\to<x.2.1/\to≠x.1
 slot:dL x.sess to false<0
 room:(x.sess.length:Int)<x.slots
 num:0<=x.num/\x.num<100000
 nn:1<=x.2.1/\x.2.1<=5
theorem u7{x:NodeT}{to:Int}(h:kP x to=true):SynOk x to:=by
 unfold kP i9 at h
 simp only[Bool.and_eq_true,Bool.not_eq_true',decide_eq_false_iff_not,beq_eq_false_iff_ne,bne_iff_ne,aQ] at h
 obtain⟨h1,⟨h2,h3⟩,h4,h5,h6⟩:=h
 have hn:=(dW x).1 h1
 have h7:=hn.n;have h8:=hn.num
 have h9:=((dV x).1 hn.sess).1
 rw[aQ] at h7 h8
 rw[IntKind.wrap_i64] at h2
 exact⟨hn,by omega,by omega,by omega,by omega,by omega⟩
theorem PY{n:Int}(h:0<=n/\n<100000):i64.wrap (n+1)=n+1:=by rw[IntKind.wrap_i64];omega
theorem SynOk.up{x:NodeT}{to:Int}(h:SynOk x to):NodeOk (C1 x to) where
 n:=h.node.n
 id:=h.node.id
 state:=h.node.state
 tree:=h.node.tree
 log:=h.node.log
 got:=h.node.got
 acked:=h.node.acked
 own:=h.node.own
 seen:=h.node.seen
 ack:=h.node.ack
 num:=by show inB (i64.wrap (x.num+1)) 0 100000=true;rw[PY h.num,aQ];have:=h.num;omega
 clock:=h.node.clock
 slots:=h.node.slots
 wait:=h.node.wait
 limit:=h.node.limit
 rises:=h.node.rises
 rise:=h.node.rise
 sess:=by
  have hs:=(dV x).1 h.node.sess
  refine(dV _).2 ⟨?_,λs hm=>?_,?_⟩
  ·show(((x.sess++[_]).length:Nat):Int)<=x.slots
   rw[List.length_append,List.length_singleton];have:=h.room;omega
  ·have hm:s∈x.sess++[(to,i64.wrap (x.num+1),false,(0:Int),())]:=hm
   rcases List.mem_append.1 hm with h1 | h1
   ·exact hs.2.1 s h1
   ·rw[List.mem_singleton.1 h1]
    have h2:=h.peer;have h3:=h.num;have h4:=h.node.wait;have h5:=h.nn
    rw[aQ] at h4
    refine⟨?_,h2.2.2,?_,?_⟩
    ·show inB to 0 (i64.wrap (x.2.1 - 1))=true
     rw[aQ,IntKind.wrap_i64];omega
    ·show inB (i64.wrap (x.num+1)) 0 100000=true
     rw[PY h.num,aQ];omega
    ·show inB 0 0 x.wait=true
     rw[aQ];omega
  ·show(List.map rL (x.sess++[(to,i64.wrap (x.num+1),false,(0:Int),())])).Nodup
   rw[List.map_append,List.nodup_append]
   refine⟨hs.2.2,by simp,λa ha b hb=>?_⟩
   obtain⟨s,hs1,rfl⟩:=List.mem_map.1 ha
   have hb:b=(to,false):=by simpa [rL] using hb
   rw[hb]
   rcases gI x.sess to false with ⟨k,_,e,_⟩ | ⟨_,e⟩
   ·have:=h.slot;rw[e] at this;omega
   grind
theorem z8{x:NodeT}{to:Int}(hz:SzN x)(h:SynOk x to):SzN (C1 x to):=
 ⟨hz.state,hz.leaves,hz.list,hz.logs,hz.got,hz.acked,hz.seen,hz.lines,by
  have h1:=h.room;have h2:=h.node.slots;rw[aQ] at h2
  show(x.sess++[_]).length<=aV
  rw[List.length_append,List.length_singleton];unfold aV;omega,hz.rises⟩
theorem SM{x:NodeT}(hz:SzN x)(to:Int):SzM (UT x to):=⟨hz.leaves,hz.got,Nat.zero_le _,lD,Nat.le_trans (iL _) (by decide)⟩
theorem LK:SzM wZ:=⟨Nat.zero_le _,Nat.zero_le _,Nat.zero_le _,lD,Nat.zero_le _⟩
theorem EJ{x:NodeT}(hz:SzN x)(to:Int):SzN (gH x to).1/\SzM (gH x to).2.1:=by
 unfold gH
 cases h:kP x to with
 | false=>exact⟨hz,LK⟩
 | true=>exact⟨z8 hz (u7 h),SM hz to⟩
theorem z9{x:NodeT}{to:Int}(h:kP x to=true):gH x to=(C1 x to,UT x to,true):=by unfold gH;rw[h];rfl
theorem zD{x:NodeT}{to:Int}(h:kP x to=false):gH x to=(x,wZ,false):=by unfold gH;rw[h];rfl
-- who answers whom
structure RecTo (x:NodeT) (m:MsgT) (r:KP):Prop where
 id:r.1.1=x.1
 to:∀ q∈r.2.1,q.2.2.1=m.2.1/\q.2.1=x.1
theorem u4{x:NodeT}{m:MsgT}:∀ q∈([]:List MsgT),q.2.2.1=m.2.1/\q.2.1=x.1:=λq h=>by grind
theorem EC{x:NodeT}{m a:MsgT}(h:a.2.2.1=m.2.1/\a.2.1=x.1):∀ q∈[a],q.2.2.1=m.2.1/\q.2.1=x.1:=λq hq=>by rw[List.mem_singleton.1 hq];omega
theorem MW(x:NodeT)(m:MsgT):RecTo x m (fI x m):=by
 unfold fI
 cases hZ x m with
 | true=>exact⟨rfl,EC ⟨rfl,rfl⟩⟩
 | false=>exact⟨rfl,EC ⟨rfl,rfl⟩⟩
theorem MY(x:NodeT)(m:MsgT)(k:Nat):RecTo x m (gL x m k):=by
 unfold gL
 cases m.1==5 with
 | true=>exact⟨rfl,u4⟩
 | false=>
  cases m.1==4 with
  | true=>exact⟨rfl,u4⟩
  | false=>exact⟨rfl,EC ⟨rfl,rfl⟩⟩
theorem GN(x:NodeT)(m:MsgT):RecTo x m (eJ x m):=by
 unfold eJ
 cases fX x m with
 | false=>exact⟨rfl,u4⟩
 | true=>
  show RecTo x m (mK x m)
  unfold mK
  cases m.1==0 with
  | true=>exact⟨rfl,EC ⟨rfl,rfl⟩⟩
  | false=>
   cases m.1==1 with
   | true=>exact⟨rfl,u4⟩
   | false=>
    cases m.1==2 with
    | true=>exact MW x m
    | false=>
     cases decide (mB x m (m.1==4)<0)with
     | true=>exact⟨rfl,u4⟩
     | false=>exact MY x m _
theorem SY(x:NodeT)(m:MsgT):(eJ x m).1.1=x.1:=(GN x m).id
theorem SW{x:NodeT}{m q:MsgT}(h:q∈(eJ x m).2.1):q.2.2.1=m.2.1/\q.2.1=x.1:=(GN x m).to q h
-- an exchange gone through
end Go.Abs
-- saying: plain laws
namespace Go.Abs
abbrev SC:=aE×Int
def sH(id:Int)(e:bI):aE:=bif aM ([(id,e)],[],())then([(id,e)],[],())else iK
theorem zK(id:Int)(e:bI):aM (sH id e)=true:=by
 unfold sH
 cases h:aM ([(id,e)],[],())with
 | true=>grind
 | false=>rfl
def upE(s:aE)(id:Int):bI×Int:=bif aM s then(bif eF id then(bif(jB s id).2 then((jB s id).1,0)else(eM,3))else(eM,1))else(eM,1)
def dT(s:aE)(id:Int):Int:=mxI true (bH s id).1.1 (bV s.2.1 id)
def mG(s:aE)(id:Int):SC:=bif aM s then(bif eF id then(bif(jB s id).2 then(iK,2)else bif dT s id==1000 then(iK,4)else(sH id (i64.wrap (dT s id+1),0,0,0,⟨#[]⟩,()),0))else(iK,1))else(iK,1)
def mI(s:aE)(id:Int):SC:=bif(upE s id).2 != 0 then(iK,(upE s id).2)else bif(upE s id).1.2.2.1==100000 then(iK,4)else
 (sH id ((upE s id).1.1,(upE s id).1.2.1,i64.wrap ((upE s id).1.2.2.1+1),(upE s id).1.2.2.2.1,(upE s id).1.2.2.2.2.1,()),0)
def pT(s:aE)(id:Int)(t:ByteArray):SC:=bif(upE s id).2 != 0 then(iK,(upE s id).2)else bif(upE s id).1.2.2.2.1==1000 then(iK,4)else bif decide (((ByteArray.size t:Nat):Int)>8)then(iK,4)else
 (sH id ((upE s id).1.1,(upE s id).1.2.1,(upE s id).1.2.2.1,i64.wrap ((upE s id).1.2.2.2.1+1),t,()),0)
def mH(s:aE)(id:Int):SC:=bif(upE s id).2 != 0 then(iK,(upE s id).2)else(sH id ((upE s id).1.1,1,(upE s id).1.2.2.1,(upE s id).1.2.2.2.1,(upE s id).1.2.2.2.2.1,()),0)
def eR(s:aE)(k id:Int)(t:ByteArray):SC:=bif k==0 then mG s id else bif k==1 then mI s id else bif k==2 then pT s id t else mH s id
theorem IR(s:aE)(id:Int):aM (mG s id).1=true:=by
 unfold mG
 cases aM s<;>cases eF id<;>cases (jB s id).2<;>cases dT s id==1000<;>first | rfl | exact zK _ _
theorem IV(s:aE)(id:Int):aM (mI s id).1=true:=by
 unfold mI
 cases (upE s id).2 != 0<;>cases (upE s id).1.2.2.1==100000<;>first | rfl | exact zK _ _
theorem MN(s:aE)(id:Int)(t:ByteArray):aM (pT s id t).1=true:=by
 unfold pT
 cases (upE s id).2 != 0<;>cases (upE s id).1.2.2.2.1==1000<;>cases decide (((ByteArray.size t:Nat):Int)>8)<;>first | rfl | exact zK _ _
theorem IU(s:aE)(id:Int):aM (mH s id).1=true:=by
 unfold mH
 cases (upE s id).2 != 0<;>first | rfl | exact zK _ _
theorem vH(s:aE)(k id:Int)(t:ByteArray):aM (eR s k id t).1=true:=by
 unfold eR
 cases k==0
 ·cases k==1
  ·cases k==2
   ·exact IU s id
   ·exact MN s id t
  ·exact IV s id
 ·exact IR s id
-- logs
def nF(l:iE)(d:aE):Bool:=fB l&&(aM d&& !(i64.wrap (l.2.1+(l.2.2.1.length:Int))==100000))
def eA(l:iE)(d:aE):iE:=bif decide ((((l.2.2.1++[d]).length:Nat):Int)>l.1)then(l.1,i64.wrap (l.2.1+1),(l.2.2.1++[d]).drop 1,())else(l.1,l.2.1,l.2.2.1++[d],())
def sP(l:iE)(d:aE):iE×Bool:=bif nF l d then(eA l d,true)else(l,false)
structure LogOk (l:iE):Prop where
 cap:1<=l.1/\l.1<=8
 len:(l.2.2.1.length:Int)<=l.1
 frm:0<=l.2.1/\l.2.1<=100000
 top:l.2.1+(l.2.2.1.length:Int)<=100000
 all:∀ s∈l.2.2.1,aM s=true
theorem jZ(l:iE):fB l=true↔LogOk l:=by
 unfold fB
 simp only[Bool.and_eq_true,aQ,Bool.not_eq_true',decide_eq_false_iff_not,bJ]
 constructor
 ·rintro ⟨h1,h2,h3,h4,h5⟩
  rw[IntKind.wrap_i64] at h4
  refine⟨h1,by omega,h3,by omega,λs hs=>?_⟩
  obtain⟨i,hi,rfl⟩:=fR hs
  simp_all
 ·rintro ⟨h1,h2,h3,h4,h5⟩
  rw[IntKind.wrap_i64]
  exact⟨h1,by omega,h3,by omega,λi hi=>h5 _ (bZ hi)⟩
theorem tL{l:iE}(h:LogOk l):cJ l=l.2.1+(l.2.2.1.length:Int):=by
 have h1:=h.frm;have h2:=h.top
 unfold cJ;rw[(jZ l).2 h];show i64.wrap _=_;rw[IntKind.wrap_i64];omega
theorem DK{l:iE}{d:aE}(h:LogOk l)(hd:aM d=true)(hn:l.2.1+(l.2.2.1.length:Int)<100000):LogOk (eA l d)/\cJ (eA l d)=cJ l+1:=by
 have h1:=h.cap;have h2:=h.len;have h3:=h.frm
 have hl:(l.2.2.1++[d]).length=l.2.2.1.length+1:=by rw[List.length_append,List.length_singleton]
 have ha:∀ s∈l.2.2.1++[d],aM s=true:=λs hs=>by
  rcases List.mem_append.1 hs with hs | hs
  ·exact h.all s hs
  simp_all
 have key:LogOk (eA l d)/\(eA l d).2.1+(((eA l d).2.2.1.length:Nat):Int)=l.2.1+(l.2.2.1.length:Int)+1:=by
  unfold eA
  by_cases hc:(((l.2.2.1++[d]).length:Nat):Int)>l.1
  ·rw[decide_eq_true hc]
   have hw:i64.wrap (l.2.1+1)=l.2.1+1:=by rw[IntKind.wrap_i64];omega
   have hdl:((l.2.2.1++[d]).drop 1).length=l.2.2.1.length:=by rw[List.length_drop,hl];omega
   refine⟨⟨h1,?_,?_,?_,λs hs=>ha s (List.mem_of_mem_drop hs)⟩,?_⟩
   ·simp_all
   ·grind
   ·grind
   grind
  ·rw[decide_eq_false hc]
   rw[hl] at hc
   refine⟨⟨h1,?_,h3,?_,ha⟩,?_⟩
   ·simp_all
   ·grind
   grind
 exact⟨key.1,by rw[tL key.1,tL h];omega⟩
-- a node says
def nY(x:NodeT)(k id:Int):Bool:=dD x&&(inB k 0 4&&(inB id 0 (i64.wrap (x.2.1 - 1))&& !(nD (k==4) (id==x.1))))
def GI(x:NodeT)(d:aE):NodeT:=
 (x.1,x.2.1,x.2.2.1,x.2.2.2.1,x.2.2.2.2.1,x.2.2.2.2.2.1,(eA x.log d).1,(eA x.log d).2.1,(eA x.log d).2.2.1,x.got.set x.1.toNat (i64.wrap ((gt x.got x.1.toNat).1+1),()),x.acked,x.seen,x.num,x.slots,x.sess,x.wait,x.limit,x.clock,x.rises,())
abbrev L6:=NodeT×aE×Int
def hI(x:NodeT)(k id:Int)(t:ByteArray):L6:=
 bif nY x k id then(bif(eR x.state k id t).2 != 0 then(x,iK,(eR x.state k id t).2)else bif nF x.log (eR x.state k id t).1 then(jD (GI x (eR x.state k id t).1) (eR x.state k id t).1,(eR x.state k id t).1,0)else(x,iK,4))else(x,iK,1)
theorem vJ{x:NodeT}{d:aE}(h:NodeOk x)(hd:nF x.log d=true):NodeOk (GI x d):=by
 unfold nF at hd
 simp only[Bool.and_eq_true,Bool.not_eq_true',beq_eq_false_iff_ne] at hd
 have hL:=(jZ x.log).1 h.log
 have h1:=hL.frm;have h2:=hL.top;have h3:=hL.len;have h4:=hL.cap
 have hw:i64.wrap (x.log.2.1+(x.log.2.2.1.length:Int))=x.log.2.1+(x.log.2.2.1.length:Int):=by rw[IntKind.wrap_i64];omega
 rw[hw] at hd
 obtain⟨p1,p2⟩:=DK hL hd.2.1 (by omega)
 have hs:cJ x.log<100000/\0<=cJ x.log:=by rw[tL hL];omega
 have hg:(gt x.got x.1.toNat).1=cJ x.log:=eq_of_beq h.own
 have hwg:i64.wrap ((gt x.got x.1.toNat).1+1)=cJ x.log+1:=by rw[hg,IntKind.wrap_i64];omega
 have hid:=h.id;have hn:=h.n;have hv:=h.got
 rw[aQ] at hid hn
 rw[IntKind.wrap_i64] at hid
 unfold eQ at hv
 simp only[Bool.and_eq_true,beq_iff_eq] at hv
 have hk:x.1.toNat<x.got.length:=by omega
 exact {
  n:=h.n,id:=h.id,state:=h.state,tree:=h.tree
  log:=(jZ _).2 p1
  got:=by
   show eQ (x.got.set x.1.toNat _) x.2.1=true
   unfold eQ
   simp only[Bool.and_eq_true,beq_iff_eq]
   rw[List.length_set]
   refine⟨hv.1,hv.2.1,?_⟩
   have h5:=bJ.1 hv.2.2
   rw[bJ]
   intro i hi
   by_cases e:x.1.toNat=i
   ·rw[<- e,cG hk];show inB (i64.wrap _) 0 100000=true;rw[hwg,aQ];omega
   ·rw[fD e];simp_all
  acked:=h.acked
  own:=by
   show((gt (x.got.set x.1.toNat (i64.wrap ((gt x.got x.1.toNat).1+1),())) x.1.toNat).1==cJ (eA x.log d))=true
   rw[cG hk,p2,beq_iff_eq];omega
  seen:=h.seen
  ack:=by
   have h6:=h.ack
   unfold CH at h6 ⊢
   rw[bJ] at h6 ⊢
   intro i hi
   have h7:=h6 i hi
   show(!decide ((gt x.acked i).1>cJ (eA x.log d)))=true
   rw[p2]
   grind
  num:=h.num,clock:=h.clock,slots:=h.slots,wait:=h.wait,limit:=h.limit,rises:=h.rises,rise:=h.rise,sess:=h.sess }
theorem AK{x:NodeT}{d:aE}(hz:SzN x)(h:NodeOk x)(hd:nF x.log d=true):SzN (GI x d):=by
 have ho:=(jZ _).1 (vJ h hd).log
 have h1:=ho.cap;have h2:=ho.len
 refine⟨hz.state,hz.leaves,?_,λi hi=>?_,?_,hz.acked,hz.seen,hz.lines,hz.sess,hz.rises⟩
 ·unfold aV;omega
 ·have:=((aP _).1 (ho.all _ (bZ hi))).len
  exact⟨by unfold aV;omega,by unfold aV;omega⟩
 ·show(x.got.set _ _).length<=aV;rw[List.length_set];exact hz.got
theorem SV{x:NodeT}(h:NodeOk x)(k id:Int)(t:ByteArray):NodeOk (hI x k id t).1:=by
 unfold hI
 cases nY x k id with
 | false=>grind
 | true=>
  cases (eR x.state k id t).2 != 0 with
  | true=>grind
  | false=>
   cases hb:nF x.log (eR x.state k id t).1 with
   | false=>grind
   | true=>exact(vJ h hb).take (vH _ _ _ _)
theorem SU{x:NodeT}(hz:SzN x)(k id:Int)(t:ByteArray):SzN (hI x k id t).1:=by
 unfold hI
 cases hs:nY x k id with
 | false=>grind
 | true=>
  have h:NodeOk x:=(dW x).1 (by unfold nY at hs;simp_all)
  cases (eR x.state k id t).2 != 0 with
  | true=>grind
  | false=>
   cases hb:nF x.log (eR x.state k id t).1 with
   | false=>grind
   | true=>exact mV (AK hz h hb) _
end Go.Abs
-- check sums lie in 0 .. 2^32 - 1: plain laws
namespace Go.Abs
def wJ(x:Int):Prop:=0<=x/\x<4294967296
theorem OM{a b:Int}(ha:wJ a)(hb:wJ b):wJ (jQ .i64 a b):=by
 obtain⟨n,rfl⟩:∃ n:Nat,a=n:=⟨a.toNat,by have:=ha.1;omega⟩
 obtain⟨m,rfl⟩:∃ m:Nat,b=m:=⟨b.toNat,by have:=hb.1;omega⟩
 have hn:n<2 ^ 32:=by have:=ha.2;omega
 have hm:m<2 ^ 32:=by have:=hb.2;omega
 unfold jQ
 have h:(BitVec.ofInt i64.bits (n:Int) ^^^ BitVec.ofInt i64.bits (m:Int)).toNat<2 ^ 32:=by
  rw[BitVec.toNat_xor]
  have e1:(BitVec.ofInt i64.bits (n:Int)).toNat=n:=by
   rw[BitVec.toNat_ofInt];show((n:Int) % ((2 ^ 64:Nat):Int)).toNat=n;omega
  have e2:(BitVec.ofInt i64.bits (m:Int)).toNat=m:=by
   rw[BitVec.toNat_ofInt];show((m:Int) % ((2 ^ 64:Nat):Int)).toNat=m;omega
  rw[e1,e2];exact Nat.xor_lt_two_pow hn hm
 generalize (BitVec.ofInt i64.bits (n:Int) ^^^ BitVec.ofInt i64.bits (m:Int)).toNat=k at h
 have e:i64.wrap (k:Int)=k:=by rw[IntKind.wrap_i64];omega
 rw[e];exact⟨by omega,by omega⟩
theorem RL{x:Int}(h:wJ x):wJ (uN x):=by
 have hd:0<=x.tdiv 2/\x.tdiv 2<4294967296:=by
  have h1:=h.1;have h2:=h.2
  rw[Int.tdiv_eq_ediv_of_nonneg h1];omega
 have hw:i64.wrap (x.tdiv 2)=x.tdiv 2:=by rw[IntKind.wrap_i64];omega
 unfold uN
 rw[hw]
 cases (x.tmod 2)==1 with
 | true=>exact OM hd ⟨by omega,by omega⟩
 | false=>exact hd
theorem DX{x:Int}(h:wJ x):∀ k,wJ (jO k x)
 | 0=>h
 | k+1=>RL (DX h k)
theorem L0{bs:List aH}(h:∀ b∈bs,wJ b.1):∀ i,i<=bs.length->wJ (y3 bs i)
 | 0,_=>⟨by show(0:Int)<=4294967295;omega,by show(4294967295:Int)<4294967296;omega⟩
 | i+1,hi=>by
  have hb:=h _ (bZ (xs:=bs) (i:=i) (by omega))
  have hw:i64.wrap (gt bs i).1=(gt bs i).1:=by have h1:=hb.1;have h2:=hb.2;rw[IntKind.wrap_i64];omega
  show wJ (jO 8 (jQ .i64 (y3 bs i) (i64.wrap (gt bs i).1)))
  rw[hw]
  exact DX (OM (L0 h i (by omega)) hb) 8
theorem RM{bs:List aH}(h:∀ b∈bs,wJ b.1):wJ (crc bs):=by
 unfold crc
 exact OM (L0 h _ (Nat.le_refl _)) ⟨by omega,by omega⟩
def B32(bs:List aH):Prop:=∀ b∈bs,wJ b.1
theorem B32.app{a b:List aH}(ha:B32 a)(hb:B32 b):B32 (a++b):=λx hx=>by
 rcases List.mem_append.1 hx with h | h
 ·exact ha x h
 ·exact hb x h
theorem B32.flat{α:Type}{f:α->List aH}(h:∀ x,B32 (f x))(xs:List α):B32 (xs.flatMap f):=λx hx=>by
 obtain⟨a,_,ha⟩:=List.mem_flatMap.1 hx
 exact h a x ha
theorem UY(n:Nat):B32 (iU n):=by
 induction n using Nat.strongRecOn with
 | _ n ih=>
  unfold iU
  split
  ·rename_i h
   intro b hb
   rw[List.mem_singleton.1 hb];exact⟨by omega,by omega⟩
  ·rename_i h
   intro b hb
   rcases List.mem_cons.1 hb with e | e
   ·rw[e];exact⟨by omega,by omega⟩
   ·exact ih (n / 128) (Nat.div_lt_self (by omega) (by omega)) b e
theorem iH(x:Int):B32 (aG x):=by
 unfold aG
 cases inB x 0 2147483647 with
 | false=>intro b hb;grind
 | true=>exact UY _
theorem M5(t:ByteArray):B32 (eE t):=by
 unfold eE
 refine(iH _).app λb hb=>?_
 unfold gA fE at hb
 obtain⟨u,_,rfl⟩:=List.mem_map.1 hb
 have:=u.toNat_lt
 exact⟨by omega,by omega⟩
theorem RX(s:aE):B32 (bO s):=by
 unfold bO
 refine(((iH _).app (B32.flat (λx=>?_) _)).app (iH _)).app (B32.flat (λf=>?_) _)
 ·unfold bG;exact(((((iH _).app (iH _)).app (iH _)).app (iH _)).app (iH _)).app (M5 _)
 ·unfold aY;exact(iH _).app (iH _)
theorem F6{x:Int}(h:wJ x):inB (x.tmod 1024) 0 1023=true:=by
 rw[aQ];have:=tC (x:=x) (n:=1024) h.1 (by omega);omega
theorem qH(s:aE)(k:Int):inB (jN s k) 0 1023=true:=by
 unfold jN
 cases aM s&&inB k 0 3 with
 | true=>exact F6 (RM (RX _))
 | false=>rfl
theorem OY{s:aE}(h:aM s=true):treeB (cM s)=true:=by
 unfold cM;rw[h]
 show treeB (eC s,mX (eC s),())=true
 have hr:inB (mX (eC s)) 0 1023=true:=F6 (RM (B32.flat (λx=>iH _) _))
 have hl:lM (eC s) 1023=true:=bJ.2 λi hi=>by
  match i,hi with
  | 0,_=>exact qH s 0
  | 1,_=>exact qH s 1
  | 2,_=>exact qH s 2
  | 3,_=>exact qH s 3
 unfold treeB
 rw[hl,hr];rfl
end Go.Abs
-- states as points of a lattice: plain laws
namespace Go.Abs
-- comparing one after another
structure Cmp {α:Type} (c:α->α->Int):Prop where
 neg:∀ a b,c b a= - c a b
 eq:∀ a b,c a b=0->a=b
 tr:∀ a b d,c a b<=0->c b d<=0->c a d<=0
theorem Cmp.self{α:Type}{c:α->α->Int}(h:Cmp c)(a:α):c a a=0:=by have:=h.neg a a;omega
theorem Cmp.lex{α β:Type}{c:α->α->Int}{d:β->β->Int}(hc:Cmp c)(hd:Cmp d):Cmp (fun(a b:α×β)=>if c a.1 b.1≠0 then c a.1 b.1 else d a.2 b.2) where
 neg a b:=by
  show(if c b.1 a.1≠0 then c b.1 a.1 else d b.2 a.2)= -(if c a.1 b.1≠0 then c a.1 b.1 else d a.2 b.2)
  rw[hc.neg a.1 b.1,hd.neg a.2 b.2];omega
 eq a b h:=by
  have h:(if c a.1 b.1≠0 then c a.1 b.1 else d a.2 b.2)=0:=h
  by_cases h0:c a.1 b.1=0
  ·rw[if_neg (λg=>g h0)] at h
   exact Prod.ext (hc.eq _ _ h0) (hd.eq _ _ h)
  omega
 tr a b e h1 h2:=by
  have h1:(if c a.1 b.1≠0 then c a.1 b.1 else d a.2 b.2)<=0:=h1
  have h2:(if c b.1 e.1≠0 then c b.1 e.1 else d b.2 e.2)<=0:=h2
  show(if c a.1 e.1≠0 then c a.1 e.1 else d a.2 e.2)<=0
  have k2:c b.1 e.1<=0:=by
   omega
  by_cases h0:c a.1 b.1=0
  ·rw[if_neg (λg=>g h0)] at h1
   rw[hc.eq _ _ h0]
   by_cases g0:c b.1 e.1=0
   ·rw[if_neg (λg=>g g0)] at h2 ⊢;exact hd.tr _ _ _ h1 h2
   omega
  ·rw[if_pos h0] at h1
   have k3:=hc.tr _ _ _ h1 k2
   by_cases g0:c a.1 e.1=0
   ·have e1:=hc.eq _ _ g0
    rw[<- e1,hc.neg a.1 b.1] at k2;omega
   omega
theorem l2_cmp:Cmp l2 where
 neg:=BK
 eq a b h:=by
  unfold l2 at h
  grind
 tr a b d h1 h2:=by
  have key:∀ x y:Int,l2 x y<=0↔x<=y:=λx y=>by
   unfold l2
   grind
  rw[key] at h1 h2 ⊢;omega
theorem LO{x y:Int}(h:l2 x y<=0):x<=y:=by
 unfold l2 at h
 grind
theorem TK(x:Int):l2 x x=0:=l2_cmp.self x
theorem HZ:∀ x y:List UInt8,Lib.compareBytes x y=0->x=y
 | [],[],_=>rfl
 | [],_::_,h=>by unfold Lib.compareBytes at h;omega
 | _::_,[],h=>by unfold Lib.compareBytes at h;omega
 | a::x,b::y,h=>by
  unfold Lib.compareBytes at h
  by_cases h1:a<b
  ·rw[if_pos h1] at h;omega
  ·rw[if_neg h1] at h
   by_cases h2:b<a
   ·rw[if_pos h2] at h;omega
   ·rw[if_neg h2] at h
    have e:a=b:=UInt8.toNat_inj.1 (by rw[UInt8.lt_iff_toNat_lt] at h1 h2;omega)
    rw[e,HZ x y h]
theorem HY:∀ x y z:List UInt8,Lib.compareBytes x y<=0->Lib.compareBytes y z<=0->Lib.compareBytes x z<=0
 | [],_,[],_,_=>by unfold Lib.compareBytes;omega
 | [],_,_::_,_,_=>by unfold Lib.compareBytes;omega
 | _::_,[],_,h,_=>by unfold Lib.compareBytes at h;omega
 | _::_,_::_,[],_,h=>by unfold Lib.compareBytes at h;omega
 | a ::x,b::y,c::z,h1,h2=>by
  unfold Lib.compareBytes at h1 h2 ⊢
  simp only[UInt8.lt_iff_toNat_lt] at h1 h2 ⊢
  by_cases c1:a.toNat<b.toNat
  ·omega
  ·rw [if_neg c1] at h1
   by_cases c2:b.toNat<a.toNat
   ·rw[if_pos c2] at h1;omega
   ·rw[if_neg c2] at h1
    by_cases c3:b.toNat<c.toNat
    ·rw[if_pos (by omega)];omega
    ·rw[if_neg c3] at h2
     by_cases c4:c.toNat<b.toNat
     ·rw[if_pos c4] at h2;omega
     ·rw[if_neg c4] at h2
      rw[if_neg (by omega),if_neg (by omega)];exact HY x y z h1 h2
theorem RP:Cmp (fun(a b:ByteArray×Unit)=>wF a.1 b.1) where
 neg a b:=xK _ _
 eq a b h:=by
  have h1:=HZ _ _ h
  obtain⟨⟨⟨x⟩⟩,u⟩:=a
  simp_all
 tr a b d h1 h2:=HY _ _ _ h1 h2
theorem cmpE_cmp:Cmp jC:=l2_cmp.lex (l2_cmp.lex (l2_cmp.lex (l2_cmp.lex RP)))
def leE(a b:bI):Prop:=jC a b<=0
theorem oZ(a:bI):leE a a:=Int.le_of_eq (cmpE_cmp.self a)
theorem NL{a b c:bI}(h1:leE a b)(h2:leE b c):leE a c:=cmpE_cmp.tr _ _ _ h1 h2
theorem NM(a b:bI):leE a b\/leE b a:=by unfold leE;have:=sY a b;omega
theorem qI{a b:bI}(h1:leE a b)(h2:leE b a):a=b:=cmpE_cmp.eq _ _ (by unfold leE at h1 h2;have:=sY a b;omega)
theorem nO{a b:bI}(h:leE a b):a.1<=b.1:=by
 unfold leE jC at h
 by_cases h0:l2 a.1 b.1=0
 ·exact LO (by omega)
 ·rw[if_pos h0] at h;exact LO h
theorem QN{a b:bI}(h:leE a b)(e:a.1=b.1):a.2.1<=b.2.1:=by
 unfold leE jC at h
 rw[e,if_neg (λg=>g (TK _))] at h
 by_cases h0:l2 a.2.1 b.2.1=0
 ·exact LO (by omega)
 ·rw[if_pos h0] at h;exact LO h
theorem OK{e:bI}(h:1<=e.1):leE eM e:=by unfold leE;rw[xH h];omega
theorem G6(a b:bI):leE a (mxE a b):=by
 unfold mxE
 by_cases h:jC a b<0
 ·rw[decide_eq_true h];show jC a b<=0;omega
 ·rw[decide_eq_false h];exact oZ a
theorem P7(a b:bI):leE b (mxE a b):=by
 unfold mxE
 by_cases h:jC a b<0
 ·rw[decide_eq_true h];exact oZ b
 ·rw[decide_eq_false h];show jC b a<=0;rw[sY a b];omega
theorem I7(a b:bI):mxE a b=a\/mxE a b=b:=by
 unfold mxE;grind
theorem P8{a b:bI}(h:leE a b):mxE a b=b:=qI (by rcases I7 a b with e | e<;>rw[e];exact h;exact oZ b) (P7 a b)
theorem LH{a b:bI}(h:leE b a):mxE a b=a:=qI (by rcases I7 a b with e | e<;>rw[e];exact oZ a;omega) (G6 a b)
-- points
def ent(s:aE)(i:Int):bI:=(bH s i).1
def flo(s:aE)(i:Int):Int:=bV s.2.1 i
structure Pt (e:bI) (f:Int):Prop where
 nn:0<=f
 up:e=eM\/f<e.1
def nrm(m:bI)(f:Int):bI:=if f<m.1 then m else eM
theorem iR:eM.1=0:=rfl
theorem NR{s:aE}(h:StateOk s){x:bN}(hx:x∈s.1):bH s x.1=(x.2,true):=by
 rcases eK s x.1 with ⟨y,hy,h1,e⟩ | ⟨h1,_⟩
 ·have:y=x:=by
   obtain⟨i,hi,rfl⟩:=fR hx
   obtain⟨j,hj,rfl⟩:=fR hy
   have hp:=h.items
   rw[List.pairwise_iff_getElem] at hp
   rcases Nat.lt_trichotomy i j with h2 | h2 | h2
   ·have:=hp i j hi hj h2;rw[<- cS hi,<- cS hj] at this;omega
   ·rw[h2]
   ·have:=hp j i hj hi h2;rw[<- cS hi,<- cS hj] at this;omega
  rw[e,this]
 grind
theorem RH{s:aE}(h:StateOk s){x:bN}(hx:x∈s.1):ent s x.1=x.2:=by unfold ent;rw[NR h hx]
theorem HF{s:aE}(h:StateOk s){x:bN}(hx:x∈s.1):1<=x.2.1:=h.pos.item x hx
theorem pG{s:aE}(h:StateOk s)(i:Int):(1<=(ent s i).1/\(i,ent s i)∈s.1/\(bH s i).2=true/\cL (ent s i)=true)\/(ent s i=eM/\(bH s i).2=false):=by
 unfold ent
 rcases eK s i with ⟨x,hx,h1,e⟩ | ⟨h1,e⟩
 ·rw[e];subst h1;exact .inl ⟨HF h hx,hx,rfl,(h.item x hx).2.1⟩
 simp_all
theorem rD{s:aE}(h:StateOk s)(i:Int):Pt (ent s i) (flo s i):=by
 refine⟨(m8 h i).1,?_⟩
 rcases pG h i with ⟨_,h2,_⟩ | ⟨h2,_⟩
 ·exact .inr (h.item _ h2).2.2
 simp_all
theorem FU{α:Type}{k:α->Int}:∀ {a b:List α},a.Pairwise (λx y=>k x<k y)->b.Pairwise (λx y=>k x<k y)->(∀ x,x∈a↔x∈b)->a=b
 | [],[],_,_,_=>rfl
 | [],y::_,_,_,h=>by have:=(h y).2 (List.mem_cons_self ..);simp_all
 | x::_,[],_,_,h=>by have:=(h x).1 (List.mem_cons_self ..);simp_all
 | x::a,y::b,ha,hb,h=>by
  rw[List.pairwise_cons] at ha hb
  have e:x=y:=by
   grind
  subst e
  rw[FU ha.2 hb.2 λz=>⟨λhz=>?_,λhz=>?_⟩]
  ·grind
  grind
theorem oU{i:Int}(h:eF i=true):∃ k:Nat,k<5/\i=k:=by
 unfold eF at h;rw[aQ] at h
 exact⟨i.toNat,by omega,by omega⟩
theorem PA{a b:aE}(ha:StateOk a)(hb:StateOk b)(h:∀ i:Nat,i<5->ent a i=ent b i/\flo a i=flo b i):a=b:=by
 have key:∀ {a b:aE},StateOk a->StateOk b->(∀ i:Nat,i<5->ent a i=ent b i/\flo a i=flo b i)->∀ x,x∈a.1->x∈b.1:=by
  intro a b ha hb h x hx
  obtain⟨k,hk,e⟩:=oU (ha.item x hx).1
  have h1:=(h k hk).1
  rw[<- e,RH ha hx] at h1
  rcases pG hb x.1 with ⟨_,h2,_⟩ | ⟨h2,_⟩
  ·rw[<- h1] at h2;omega
  ·have:=HF ha hx;rw[h1,h2] at this;have:(1:Int)<=0:=this;omega
 have keyF:∀ {a b:aE},StateOk a->StateOk b->(∀ i:Nat,i<5->ent a i=ent b i/\flo a i=flo b i)->∀ x,x∈a.2.1->x∈b.2.1:=by
  intro a b ha hb h x hx
  obtain⟨k,hk,e⟩:=oU (ha.floor x hx).1
  have h1:=(h k hk).2
  have h3:flo a x.1=x.2.1:=FK ha hx
  have h4:=(ha.floor x hx).2
  rw[aQ] at h4
  rw[<- e,h3] at h1
  rcases fC b x.1 with ⟨y,hy,h5,h6⟩ | ⟨_,h6⟩
  ·have h6:flo b x.1=y.2.1:=h6
   grind
  ·have h6:flo b x.1=0:=h6
   omega
 have h':∀ i:Nat,i<5->ent b i=ent a i/\flo b i=flo a i:=λi hi=>⟨(h i hi).1.symm,(h i hi).2.symm⟩
 refine Prod.ext (FU (k:=λx:bN=>x.1) ha.items hb.items λx=>⟨key ha hb h x,key hb ha h' x⟩) (Prod.ext (FU (k:=λx:aR=>x.1) ha.floors hb.floors λx=>⟨keyF ha hb h x,keyF hb ha h' x⟩) rfl)
theorem pC{a b:aE}(ha:StateOk a){i:Nat}(hi:i<5):flo (dK a b) i=max (flo a i) (flo b i):=by
 have hf:flr a b i=max (flo a i) (flo b i):=by unfold flr;rw[sL];rfl
 have h0:=Q8 (b:=b) ha.pos (i:Int)
 unfold flo
 rcases fC (dK a b) i with ⟨x,hx,h1,e⟩ | ⟨h1,e⟩
 ·rw[e]
  obtain⟨j,_,hx⟩:=kM hx
  obtain⟨rfl,_⟩:=qO hx
  have:(j:Int)=(i:Int):=h1
  show flr a b (j:Int)=_
  rw[this];exact hf
 ·rw[e]
  by_cases h2:flr a b i>0
  ·refine absurd rfl (h1 ((i:Int),flr a b i,()) ?_)
   exact List.mem_flatMap.2 ⟨i,List.mem_range.2 hi,by rw[qM h2];simp⟩
  ·show 0=max (flo a i) (flo b i)
   omega
theorem pF(a b:aE){i:Nat}(hi:i<5):ent (dK a b) i=nrm (mxE (ent a i) (ent b i)) (max (flo a i) (flo b i)):=by
 have hf:flr a b i=max (flo a i) (flo b i):=by unfold flr;rw[sL];rfl
 have hp:fZ a b i=mxE (ent a i) (ent b i):=rfl
 rw[<- hf,<- hp]
 unfold ent nrm
 rcases eK (dK a b) i with ⟨x,hx,h1,e⟩ | ⟨h1,e⟩
 ·rw[e]
  obtain⟨j,_,hx⟩:=kM hx
  obtain⟨rfl,h2⟩:=w8 hx
  grind
 ·rw[e]
  by_cases h2:flr a b i<(fZ a b i).1
  ·refine absurd rfl (h1 ((i:Int),fZ a b i) ?_)
   exact List.mem_flatMap.2 ⟨i,List.mem_range.2 hi,by rw[gZ rfl h2];simp⟩
  grind
-- the order of points
def LeP(e:bI)(f:Int)(e':bI)(f':Int):Prop:=f<=f'/\(e.1<=f'\/leE e e')
theorem LeP.refl(e:bI)(f:Int):LeP e f e f:=⟨Int.le_refl f,.inr (oZ e)⟩
theorem LeP.trans{e f e' f' e'' f''}(h:LeP e f e' f')(h':LeP e' f' e'' f''):LeP e f e'' f'':=by
 refine⟨Int.le_trans h.1 h'.1,?_⟩
 rcases h.2 with h2 | h2
 ·exact .inl (Int.le_trans h2 h'.1)
 ·rcases h'.2 with h3 | h3
  ·exact .inl (Int.le_trans (nO h2) h3)
  ·exact .inr (NL h2 h3)
theorem U3{m:bI}{f:Int}(h:Pt m f):nrm m f=m:=by
 unfold nrm
 rcases h.up with e | e
 ·simp_all
 simp_all
theorem LN{e f e' f'}(h:Pt e f)(h':Pt e' f'):(nrm (mxE e e') (max f f')=e'/\max f f'=f')↔LeP e f e' f':=by
 constructor
 ·rintro ⟨h1,h2⟩
  refine⟨by omega,?_⟩
  rw[h2] at h1
  by_cases h3:e.1<=f'
  ·omega
  ·have h4:=nO (G6 e e')
   unfold nrm at h1
   rw[if_pos (by omega)] at h1
   exact .inr (by have:=G6 e e';rw[h1] at this;omega)
 ·rintro ⟨h1,h2⟩
  have hm:max f f'=f':=by omega
  rw[hm]
  refine⟨?_,rfl⟩
  by_cases hl:leE e e'
  ·rw[P8 hl];exact U3 h'
  ·have h3:e.1<=f':=by simp_all
   have h4:leE e' e:=by rcases NM e e' with h4 | h4;exact absurd h4 hl;omega
   rw[LH h4]
   unfold nrm
   rw[if_neg (by omega)]
   rcases h'.up with h5 | h5
   ·simp_all
   ·have:=nO h4;omega
theorem JL{e f e' f'}:LeP e f (nrm (mxE e e') (max f f')) (max f f'):=by
 refine⟨by omega,?_⟩
 by_cases h:e.1<=max f f'
 ·omega
 ·have h4:=nO (G6 e e')
  unfold nrm;rw[if_pos (by omega)];exact .inr (G6 e e')
theorem JK{e f e' f'}:LeP e' f' (nrm (mxE e e') (max f f')) (max f f'):=by
 refine⟨by omega,?_⟩
 by_cases h:e'.1<=max f f'
 ·omega
 ·have h4:=nO (P7 e e')
  unfold nrm;rw[if_pos (by omega)];exact .inr (P7 e e')
theorem TJ{e f e' f' e'' f''}(h0:0<=f'')(h:LeP e f e'' f'')(h':LeP e' f' e'' f''):LeP (nrm (mxE e e') (max f f')) (max f f') e'' f'':=by
 refine⟨by have:=h.1;have:=h'.1;omega,?_⟩
 unfold nrm
 split
 ·rcases I7 e e' with e1 | e1<;>rw[e1]
  ·exact h.2
  ·exact h'.2
 ·exact .inl h0
theorem FG{e f e' f'}(h:Pt e f)(h':Pt e' f')(h1:LeP e f e' f')(h2:LeP e' f' e f):e=e'/\f=f':=by
 have hf:f=f':=Int.le_antisymm h1.1 h2.1
 subst hf
 refine⟨?_,rfl⟩
 have hz:=h.nn
 rcases h.up with e0 | e0
 ·rcases h'.up with e1 | e1
  ·rw[e0,e1]
  ·rcases h2.2 with h3 | h3
   ·omega
   ·have:=nO h3;rw[e0,iR] at this;omega
 ·rcases h1.2 with h3 | h3
  ·omega
  ·rcases h2.2 with h4 | h4
   ·have:=nO h3;omega
   ·exact qI h3 h4
-- the order of states
structure Leq (a b:aE):Prop where
 oka:StateOk a
 okb:StateOk b
 le:∀ i:Nat,i<5->LeP (ent a i) (flo a i) (ent b i) (flo b i)
theorem QJ{a b:aE}:TI a b=true↔Leq a b:=by
 unfold TI
 rw[Bool.and_eq_true,Bool.and_eq_true,jE,aP,aP]
 constructor
 ·rintro ⟨ha,hb,e⟩
  refine⟨ha,hb,λi hi=>(LN (rD ha _) (rD hb _)).1 ?_⟩
  rw[<- pF a b hi,<- pC ha hi,e];simp
 ·rintro ⟨ha,hb,h⟩
  refine⟨ha,hb,PA (ha.join hb) hb λi hi=>?_⟩
  rw[pF a b hi,pC ha hi]
  exact(LN (rD ha _) (rD hb _)).2 (h i hi)
theorem Leq.join{a b:aE}(h:Leq a b):dK a b=b:=by
 have:=QJ.2 h
 unfold TI at this
 rw[Bool.and_eq_true,Bool.and_eq_true,jE] at this
 simp_all
theorem Leq.refl{a:aE}(h:StateOk a):Leq a a:=⟨h,h,λi _=>LeP.refl _ _⟩
theorem Leq.trans{a b c:aE}(h:Leq a b)(h':Leq b c):Leq a c:=⟨h.oka,h'.okb,λi hi=>(h.le i hi).trans (h'.le i hi)⟩
theorem Leq.antisymm{a b:aE}(h:Leq a b)(h':Leq b a):a=b:=PA h.oka h.okb λi hi=>FG (rD h.oka _) (rD h.okb _) (h.le i hi) (h'.le i hi)
theorem Leq.left{a b:aE}(ha:StateOk a)(hb:StateOk b):Leq a (dK a b):=⟨ha,ha.join hb,λi hi=>by rw[pF a b hi,pC ha hi];exact JL⟩
theorem Leq.right{a b:aE}(ha:StateOk a)(hb:StateOk b):Leq b (dK a b):=⟨hb,ha.join hb,λi hi=>by rw[pF a b hi,pC ha hi];exact JK⟩
theorem Leq.lub{a b c:aE}(h:Leq a c)(h':Leq b c):Leq (dK a b) c:=⟨h.oka.join h'.oka,h.okb,λi hi=>by rw[pF a b hi,pC h.oka hi];exact TJ (rD h.okb _).nn (h.le i hi) (h'.le i hi)⟩
theorem JN{a b:aE}(ha:StateOk a)(hb:StateOk b):dK a b=dK b a:=
 Leq.antisymm (Leq.lub (Leq.right hb ha) (Leq.left hb ha)) (Leq.lub (Leq.right ha hb) (Leq.left ha hb))
theorem Leq.joinR{a b:aE}(h:Leq a b):dK b a=b:=by rw[JN h.okb h.oka];exact h.join
theorem Leq.mono{a a' b b':aE}(h:Leq a a')(h':Leq b b'):Leq (dK a b) (dK a' b'):=Leq.lub (h.trans (Leq.left h.okb h'.okb)) (h'.trans (Leq.right h.okb h'.okb))
theorem G4:StateOk iK:=(aP _).1 tI
theorem Leq.nil{a:aE}(h:StateOk a):Leq iK a:=⟨G4,h,λi _=>⟨(rD h _).nn,.inl (rD h _).nn⟩⟩
-- what is over at a point
def jI(e:bI)(f:Int):Int:=if 1<=e.1 then(if e.2.1=0 then e.1 - 1 else e.1)else f
theorem uL{e:bI}(h:cL e=true):1<=e.1/\e.1<=1000/\(e.2.1=0\/e.2.1=1):=by
 unfold cL at h;simp only[Bool.and_eq_true,aQ] at h;omega
theorem v9{s:aE}(h:StateOk s)(i:Int):gone s i=jI (ent s i) (flo s i):=by
 unfold gone jI
 rw[(aP s).2 h]
 rcases pG h i with ⟨h1,_,h3,h4⟩ | ⟨h2,h3⟩
 ·have h5:=uL h4
  rw[h3,if_pos h1]
  show(bif(ent s i).2.1==0 then i64.wrap ((ent s i).1 - 1)else(ent s i).1)=_
  rcases h5.2.2 with e | e
  ·rw[e,if_pos rfl];show i64.wrap ((ent s i).1 - 1)=_;rw[IntKind.wrap_i64];omega
  simp_all
 ·rw[h3,h2,if_neg (by rw[iR];omega)];rfl
theorem HN{e:bI}{f:Int}(h:¬ 1<=e.1):jI e f=f:=by unfold jI;rw[if_neg h]
theorem HM{e:bI}{f:Int}(h:1<=e.1)(h':e.2.1=0):jI e f=e.1 - 1:=by unfold jI;rw[if_pos h,if_pos h']
theorem HO{e:bI}{f:Int}(h:1<=e.1)(h':e.2.1≠0):jI e f=e.1:=by unfold jI;rw[if_pos h,if_neg h']
theorem BP{e:bI}{f:Int}(h:1<=e.1):e.1 - 1<=jI e f/\jI e f<=e.1:=by
 by_cases h':e.2.1=0
 ·rw[HM h h'];omega
 ·rw[HO h h'];omega
theorem Q2{e:bI}{f:Int}(h:Pt e f):f<=jI e f:=by
 by_cases h1:1<=e.1
 ·have h2:=BP (f:=f) h1
  rcases h.up with h3 | h3
  ·rw[h3,iR] at h1;omega
  omega
 ·rw[HN h1];omega
theorem JW{e f e' f'}(h:Pt e f)(h':Pt e' f')(hr:e.1=e'.1->e.2.1≠0->e.2.1<=e'.2.1->e'.2.1≠0)(hl:LeP e f e' f'):jI e f<=jI e' f':=by
 have g:=Q2 h'
 by_cases h1:1<=e.1
 ·have g1:=BP (f:=f) h1
  rcases hl.2 with h2 | h2
  ·omega
  ·have h3:=nO h2
   have h1':1<=e'.1:=by omega
   have g2:=BP (f:=f') h1'
   by_cases h4:e.1=e'.1
   ·by_cases h6:e.2.1=0
    ·rw[HM h1 h6];omega
    ·rw[HO h1' (hr h4 h6 (QN h2 h4))];omega
   omega
 ·rw[HN h1];have:=hl.1;omega
theorem Leq.gone{a b:aE}(h:Leq a b){i:Nat}(hi:i<5):gone a i<=Go.Abs.gone b i:=by
 rw[v9 h.oka,v9 h.okb]
 refine JW (rD h.oka _) (rD h.okb _) (λh1 h2 h3=>?_) (h.le i hi)
 rcases pG h.oka i with ⟨_,_,_,h4⟩ | ⟨h4,_⟩
 ·have:=uL h4;omega
 ·rw[h4] at h2;exact absurd rfl h2
end Go.Abs
-- pruning, tables and taking done twice: plain laws
namespace Go.Abs
theorem PZ(f:Int)(h:0<=f):nrm eM f=eM:=by unfold nrm;rw[if_neg (by rw[iR];omega)]
theorem J1(s:aE)(t:List bT){i:Nat}(hi:i<5):flo (fO s t) i=max 0 (min (fK t i) (gone s i)):=by
 have hm:mxI false (fK t i) (gone s i)=min (fK t i) (gone s i):=G5 _ _
 unfold flo
 rcases fC (fO s t) i with ⟨x,hx,h1,e⟩ | ⟨h1,e⟩
 ·rw[e]
  obtain⟨j,_,hx⟩:=kM hx
  unfold fY at hx
  grind
 ·rw[e]
  by_cases h2:mxI false (fK t i) (gone s i)>0
  ·refine absurd rfl (h1 ((i:Int),mxI false (fK t i) (gone s i),()) ?_)
   exact List.mem_flatMap.2 ⟨i,List.mem_range.2 hi,by unfold fY;rw[decide_eq_true h2];simp⟩
  omega
theorem J4(s:aE)(t:List bT)(i:Int):ent (fO s t) i=eM:=by
 rfl
theorem BR(s:aE)(t:List bT):StateOk (fO s t):=(aP _).1 (sS s t)
theorem vV{s:aE}(h:StateOk s)(t:List bT):prune s t=dK s (fO s t):=by unfold prune;rw[(aP s).2 h];rfl
theorem wX{s:aE}(h:StateOk s)(t:List bT):StateOk (prune s t):=(aP _).1 (AV ((aP s).2 h) t)
theorem NZ{e:bI}{f g:Int}(h:Pt e f)(hr:1<=e.1->e.2.1=0\/e.2.1=1)(hg:g<=jI e f):jI (nrm (mxE e eM) (max f g)) (max f g)=jI e f:=by
 have h0:=h.nn
 rcases h.up with e0 | e1
 ·rw[e0,P8 (oZ eM)]
  rw[PZ _ (by omega)]
  rw[e0] at hg
  unfold jI at hg ⊢
  rw[if_neg (by rw[iR];omega)] at hg
  rw[if_neg (by rw[iR];omega),if_neg (by rw[iR];omega)];omega
 ·rw[LH (OK (by omega))]
  unfold nrm
  have h1:1<=e.1:=by omega
  have hgo:jI e f=if e.2.1=0 then e.1 - 1 else e.1:=by unfold jI;rw[if_pos h1]
  by_cases hc:max f g<e.1
  ·rw[if_pos hc,hgo];unfold jI;rw[if_pos h1]
  ·rw[if_neg hc]
   rw[hgo] at hg ⊢
   unfold jI;rw[if_neg (by rw[iR];omega)]
   omega
theorem RG{s:aE}(h:StateOk s)(i:Int):1<=(ent s i).1->(ent s i).2.1=0\/(ent s i).2.1=1:=by
 intro h1
 rcases pG h i with ⟨_,_,_,h4⟩ | ⟨h4,_⟩
 ·exact(uL h4).2.2
 ·rw[h4,iR] at h1;omega
theorem BO{s:aE}(h:StateOk s)(t:List bT){i:Nat}(hi:i<5):gone (prune s t) i=gone s i:=by
 have hg:=TN ((aP s).2 h) (i:Int)
 rw[v9 (wX h t),vV h,pF _ _ hi,pC h hi,J4,J1 s t hi,v9 h]
 rw[v9 h] at hg
 exact NZ (rD h _) (RG h _) (by omega)
theorem uT{α:Type}{g g':Nat->List α}:∀ {n:Nat},(∀ i,i<n->g i=g' i)->bX n g=bX n g'
 | 0,_=>rfl
 | n+1,h=>by rw[d7,d7,uT (n:=n) λi hi=>h i (by omega),h n (by omega)]
theorem BT{s s':aE}(t:List bT)(h:∀ i:Nat,i<5->gone s i=gone s' i):fO s t=fO s' t:=by
 have:bX 5 (fY s t)=bX 5 (fY s' t):=uT λi hi=>by unfold fY;rw[h i hi]
 unfold fO;rw[this]
theorem CS{s s':aE}(h:∀ i:Nat,i<5->gone s i=gone s' i):d8 s=d8 s':=by
 unfold d8;exact uT λi hi=>by unfold iM;rw[h i hi]
theorem GX{s:aE}(h:StateOk s)(t:List bT):prune (prune s t) t=prune s t:=by
 have hp:=wX h t
 rw[vV hp,BT (s:=prune s t) (s':=s) t λi hi=>BO h t hi]
 refine Leq.joinR ?_
 rw[vV h];exact Leq.right h (BR s t)
theorem M7{s:aE}(h:StateOk s)(t:List bT):Leq s (prune s t):=by rw[vV h];exact Leq.left h (BR s t)
theorem HA{s:aE}(h:StateOk s)(t:List bT):d8 (prune s t)=d8 s:=CS λi hi=>BO h t hi
-- rows that hold marks already
def R5(t:List bT)(k j:Nat):Int:=(gt (gt t k).1 j).1
def Cov(t:List bT)(k:Int)(ms:List aR):Prop:=∀ i,i<ms.length->(gt ms i).2.1<=R5 t k.toNat (gt ms i).1.toNat
def DoneT(t:List bT)(k:Int)(ms:List aR):Prop:=nG t k ms=true->Cov t k ms
theorem KO{t t':List bT}(hl:t.length=t'.length)(hr:∀ j,(gt t j).1.length=(gt t' j).1.length)(k:Int)(ms:List aR):nG t k ms=nG t' k ms:=by
 unfold nG;rw[hl,hr]
theorem H8(t:List bT)(k k':Int)(ms ms':List aR):nG (bM t k' ms') k ms=nG t k ms:=
 KO (eZ t k' ms') (λj=>iS t k' ms' j) k ms
theorem H5(r:bT)(ms:List aR):∀ i j,(gt r.1 j).1<=(gt (kS r ms i).1 j).1
 | 0,_=>Int.le_refl _
 | i+1,j=>by
  have ih:=H5 r ms i j
  show _<=(gt (List.set (kS r ms i).1 (gt ms i).1.toNat (mxI true (gt (kS r ms i).1 (gt ms i).1.toNat).1 (gt ms i).2.1,())) j).1
  rcases Nat.lt_or_ge (gt ms i).1.toNat (kS r ms i).1.length with h | h
  ·by_cases e:(gt ms i).1.toNat=j
   ·rw[e] at h ⊢
    rw[cG h]
    show _<=mxI true _ _
    rw[sL];omega
   ·rw[fD e];omega
  ·rw[List.set_eq_of_length_le h];omega
theorem xW(r:bT){ms:List aR}(h:∀ i,i<ms.length->(gt ms i).1.toNat<r.1.length):∀ n,n<=ms.length->∀ i,i<n->(gt ms i).2.1<=(gt (kS r ms n).1 (gt ms i).1.toNat).1
 | 0,_,_,hi=>by omega
 | n+1,hn,i,hi=>by
  show _<=(gt (List.set (kS r ms n).1 (gt ms n).1.toNat (mxI true (gt (kS r ms n).1 (gt ms n).1.toNat).1 (gt ms n).2.1,())) (gt ms i).1.toNat).1
  have hl:(gt ms n).1.toNat<(kS r ms n).1.length:=by rw[mQ];grind
  by_cases e:(gt ms n).1.toNat=(gt ms i).1.toNat
  ·rw[e] at hl ⊢
   rw[cG hl]
   show _<=mxI true _ _
   rw[sL]
   by_cases c:i=n
   ·grind
   ·have:=xW r h n (by omega) i (by omega);omega
  ·rw[fD e]
   exact xW r h n (by omega) i (by
    grind)
theorem H4{r:bT}{ms:List aR}(h:∀ i,i<ms.length->(gt ms i).2.1<=(gt r.1 (gt ms i).1.toNat).1):∀ n,n<=ms.length->kS r ms n=r
 | 0,_=>rfl
 | n+1,hn=>by
  show AJ (kS r ms n) (gt ms n)=r
  rw[H4 h n (by omega)]
  have:=h n (by omega)
  unfold AJ
  rw[sL,show max (gt r.1 (gt ms n).1.toNat).1 (gt ms n).2.1=(gt r.1 (gt ms n).1.toNat).1 by omega]
  show(r.1.set (gt ms n).1.toNat (gt r.1 (gt ms n).1.toNat),())=r
  rw[uB]
structure AddOk (t:List bT) (k:Int) (ms:List aR):Prop where
 kn:k.toNat<t.length
 mok:eS ms=true
 row:5<=(gt t k.toNat).1.length
theorem SA{t:List bT}{k:Int}{ms:List aR}(hl:t.length<=aV)(h:nG t k ms=true):AddOk t k ms:=by
 unfold nG at h
 simp only[Bool.and_eq_true,Bool.not_eq_true',decide_eq_false_iff_not] at h
 exact⟨(qL hl h.1).1,h.2.1,by omega⟩
theorem AddOk.ids{t:List bT}{k:Int}{ms:List aR}(h:AddOk t k ms):∀ i,i<ms.length->(gt ms i).1.toNat<(gt t k.toNat).1.length:=λi hi=>by
 have h1:=sN h.mok hi;have h2:=h.row;omega
theorem R9{t:List bT}(hl:t.length<=aV)(k:Int)(ms:List aR):DoneT (bM t k ms) k ms:=by
 intro hb
 rw[H8] at hb
 have ho:=SA hl hb
 intro i hi
 unfold R5 bM
 rw[hb]
 show _<=(gt (gt (cC t k.toNat ms ms.length) k.toNat).1 _).1
 unfold cC
 rw[cG ho.kn]
 exact xW _ ho.ids _ (Nat.le_refl _) i hi
theorem VQ(t:List bT)(k:Int)(ms:List aR)(q j:Nat):R5 t q j<=R5 (bM t k ms) q j:=by
 unfold R5 bM
 cases nG t k ms with
 | false=>simp
 | true=>
  show _<=(gt (gt (cC t k.toNat ms ms.length) q).1 j).1
  unfold cC
  rcases Nat.lt_or_ge k.toNat t.length with h | h
  ·by_cases e:k.toNat=q
   ·subst e;rw[cG h];exact H5 _ _ _ _
   ·rw[fD e];omega
  ·rw[List.set_eq_of_length_le h];omega
theorem DoneT.add{t:List bT}{k:Int}{ms:List aR}(h:DoneT t k ms)(k':Int)(ms':List aR):DoneT (bM t k' ms') k ms:=λhb i hi=>by
 rw[H8] at hb
 exact Int.le_trans (h hb i hi) (VQ t k' ms' _ _)
theorem DoneT.eq{t:List bT}{k:Int}{ms:List aR}(h:DoneT t k ms):bM t k ms=t:=by
 unfold bM
 cases hb:nG t k ms with
 | false=>rfl
 | true=>
  show cC t k.toNat ms ms.length=t
  unfold cC
  rw[H4 (h hb) _ (Nat.le_refl _)]
  exact uB
-- vectors that are raised already
theorem F1(v:List aH)(k n:Int)(j:Nat):(gt v j).1<=(gt (c7 v k n) j).1:=by
 rcases rP v k n j with e | e<;>rw[e]<;>omega
-- rises that are up to date
def RisesUp(rs:List kT)(xs:List bN):Prop:=∀ i,i<xs.length->q9 (gt rs (gt xs i).1.toNat) (gt xs i).2=false
theorem MU(clock:Int)(r:kT)(e:bI):q9 (nZ clock r e) e=false:=by
 unfold nZ
 cases h:q9 r e with
 | false=>grind
 | true=>unfold q9;simp
theorem RisesUp.eq{clock:Int}{rs:List kT}{xs:List bN}(h:RisesUp rs xs):∀ n,n<=xs.length->cZ clock rs xs n=rs
 | 0,_=>rfl
 | n+1,hn=>by
  show(cZ clock rs xs n).set (gt xs n).1.toNat (nZ clock (gt (cZ clock rs xs n) (gt xs n).1.toNat) (gt xs n).2)=rs
  rw[h.eq n (by omega)]
  unfold nZ
  rw[h n (by omega)]
  exact uB
theorem C4{clock:Int}{rs:List kT}{xs:List bN}(hl:∀ i,i<xs.length->(gt xs i).1.toNat<rs.length)(hd:∀ i j,i<j->j<xs.length->(gt xs i).1.toNat≠(gt xs j).1.toNat):
  ∀ n,n<=xs.length->∀ i,i<n->q9 (gt (cZ clock rs xs n) (gt xs i).1.toNat) (gt xs i).2=false
 | 0,_,_,hi=>by omega
 | n+1,hn,i,hi=>by
  show q9 (gt ((cZ clock rs xs n).set (gt xs n).1.toNat (nZ clock (gt (cZ clock rs xs n) (gt xs n).1.toNat) (gt xs n).2)) (gt xs i).1.toNat) (gt xs i).2=false
  by_cases c:i=n
  ·subst c
   rw[cG (by rw[iG];grind)]
   exact MU _ _ _
  ·rw[fD (λe=>hd i n (by omega) (by omega) e.symm)]
   exact C4 hl hd n (by omega) i (by omega)
theorem NQ{s:aE}(h:StateOk s):(∀ i,i<s.1.length->(gt s.1 i).1.toNat<5)/\∀ i j,i<j->j<s.1.length->(gt s.1 i).1.toNat≠(gt s.1 j).1.toNat:=by
 refine⟨λi hi=>?_,λi j hij hj e=>?_⟩
 ·obtain⟨k,hk,e⟩:=oU (h.item _ (bZ hi)).1;omega
 ·obtain⟨k,hk,e1⟩:=oU (h.item _ (bZ (i:=i) (by omega))).1
  obtain⟨k',hk',e2⟩:=oU (h.item _ (bZ hj)).1
  have hp:=h.items
  rw[List.pairwise_iff_getElem] at hp
  have:=hp i j (by omega) hj hij
  rw[<- cS (by omega),<- cS hj] at this
  omega
-- a node at rest
structure Rest (x:NodeT):Prop where
 ok:StateOk x.state
 seen:DoneT x.seen x.1 (d8 x.state)
 prune:prune x.state x.seen=x.state
 tree:cM x.state=x.tree
 rises:RisesUp x.rises x.state.1
theorem Rest.take{x:NodeT}(h:Rest x){s:aE}(hs:Leq s x.state):jD x s=x:=by
 have e1:dK x.state s=x.state:=hs.joinR
 have e2:tkS x s=x.seen:=by unfold tkS;rw[e1];exact h.seen.eq
 have e3:tkP x s=x.state:=by unfold tkP;rw[e2,e1];exact h.prune
 have e4:tkR x s=x.rises:=by unfold tkR;rw[e3];exact h.rises.eq _ (Nat.le_refl _)
 unfold jD
 rw[e2,e4,e3,h.tree]
theorem IJ{x:NodeT}(h:NodeOk x)(hl:x.seen.length<=aV){s:aE}(hs:StateOk s):Rest (jD x s):=by
 have hx:=(aP _).1 h.state
 have hj:=hx.join hs
 have e:(jD x s).state=tkP x s:=rfl
 have hm:d8 (tkP x s)=d8 (dK x.state s):=HA hj _
 have hp:StateOk (tkP x s):=wX hj _
 refine⟨hp,?_,?_,rfl,?_⟩
 ·show DoneT (tkS x s) x.1 (d8 (tkP x s))
  rw[hm];exact R9 hl _ _
 ·show prune (tkP x s) (tkS x s)=tkP x s
  exact GX hj _
 ·show RisesUp (tkR x s) (tkP x s).1
  have hi:=NQ hp
  have hr:=h.rises
  rw[beq_iff_eq] at hr
  exact λi hi'=>C4 (λi hi''=>by grind) hi.2 _ (Nat.le_refl _) i hi'
theorem MG{x:NodeT}(h:NodeOk x){s:aE}(hs:StateOk s):Leq x.state (jD x s).state/\Leq s (jD x s).state:=by
 have hx:=(aP _).1 h.state
 have hj:=hx.join hs
 have hp:Leq (dK x.state s) (jD x s).state:=M7 hj _
 exact⟨(Leq.left hx hs).trans hp,(Leq.right hx hs).trans hp⟩
-- hearing twice
structure Heard (x:NodeT) (m:MsgT):Prop where
 rest:Rest x
 acked:c7 x.acked m.2.1 (mxI false (gt m.vec x.1.toNat).1 (cJ x.log))=x.acked
 seen:DoneT x.seen m.2.1 m.marks
theorem Heard.eq{x:NodeT}{m:MsgT}(h:Heard x m):cR x m=x:=by
 have e:heard0 x m=x:=by
  unfold heard0
  rw[h.acked,h.seen.eq]
 unfold cR
 rw[e];exact h.rest.take (Leq.nil h.rest.ok)
theorem Heard.take{x:NodeT}{m:MsgT}(h:Heard x m)(ho:NodeOk x)(hl:x.seen.length<=aV){s:aE}(hs:StateOk s):Heard (jD x s) m:=
 ⟨IJ ho hl hs,h.acked,h.seen.add _ _⟩
theorem Heard.gotUp{x:NodeT}{m:MsgT}(h:Heard x m):Heard (gotUp x m) m:=⟨⟨h.rest.ok,h.rest.seen,h.rest.prune,h.rest.tree,h.rest.rises⟩,h.acked,h.seen⟩
end Go.Abs
-- receiving twice, and what receiving keeps: plain laws
namespace Go.Abs
theorem SX{x:NodeT}(h:NodeOk x)(m:MsgT):NodeOk (eJ x m).1:=by
 unfold eJ
 cases hr:fX x m with
 | false=>grind
 | true=>
  have R:=oO hr
  show NodeOk (mK x m).1
  unfold mK
  cases m.1==0 with
  | true=>exact R.brought
  | false=>
   cases m.1==1 with
   | true=>exact h.heard m
   | false=>
    cases m.1==2 with
    | true=>
     show NodeOk (fI x m).1
     unfold fI
     cases hf:hZ x m with
     | true=>grind
     | false=>exact(R.syn hf).node.heard m
    | false=>
     cases decide (mB x m (m.1==4)<0)with
     | true=>grind
     | false=>
      show NodeOk (gL x m _).1
      unfold gL
      cases m.1==5 with
      | true=>exact HP h _
      | false=>
       cases m.1==4 with
       | true=>exact(R.gone _).brought
       | false=>exact(R.gone _).brought
theorem UX(x:NodeT)(m:MsgT):(eJ x m).1.2.1=x.2.1:=by
 unfold eJ
 cases fX x m with
 | false=>rfl
 | true=>
  show(mK x m).1.2.1=_
  unfold mK
  cases m.1==0 with
  | true=>rfl
  | false=>
   cases m.1==1 with
   | true=>rfl
   | false=>
    cases m.1==2 with
    | true=>show(fI x m).1.2.1=_;unfold fI;cases hZ x m<;>rfl
    | false=>
     cases decide (mB x m (m.1==4)<0)with
     | true=>rfl
     | false=>
      show(gL x m _).1.2.1=_
      unfold gL
      cases m.1==5 with
      | true=>rfl
      | false=>cases m.1==4<;>rfl
-- what receiving keeps
def VLe(a b:List aH):Prop:=a.length=b.length/\∀ i,(gt a i).1<=(gt b i).1
theorem VLe.refl(a:List aH):VLe a a:=⟨rfl,λ_=>Int.le_refl _⟩
theorem VLe.trans{a b c:List aH}(h:VLe a b)(h':VLe b c):VLe a c:=⟨h.1.trans h'.1,λi=>Int.le_trans (h.2 i) (h'.2 i)⟩
theorem VLe.raise(v:List aH)(k n:Int):VLe v (c7 v k n):=⟨(gG v k n).symm,F1 v k n⟩
structure Kept (x y:NodeT):Prop where
 state:Leq x.state y.state
 got:VLe x.got y.got
 acked:VLe x.acked y.acked
theorem NodeOk.st{x:NodeT}(h:NodeOk x):StateOk x.state:=(aP _).1 h.state
theorem Kept.refl{x:NodeT}(h:NodeOk x):Kept x x:=⟨Leq.refl h.st,VLe.refl _,VLe.refl _⟩
theorem Kept.trans{x y z:NodeT}(h:Kept x y)(h':Kept y z):Kept x z:=⟨h.state.trans h'.state,h.got.trans h'.got,h.acked.trans h'.acked⟩
theorem Kept.take{x:NodeT}(h:NodeOk x){s:aE}(hs:StateOk s):Kept x (jD x s):=⟨(MG h hs).1,VLe.refl _,VLe.refl _⟩
theorem Kept.heard{x:NodeT}(h:NodeOk x)(m:MsgT):Kept x (cR x m):=
 Kept.trans (y:=heard0 x m) ⟨Leq.refl h.st,VLe.refl _,VLe.raise _ _ _⟩ (Kept.take (h.heard0 m) G4)
theorem Kept.brought{x:NodeT}(h:NodeOk x){m:MsgT}(hp:aM m.part=true):Kept x (cY x m):=by
 have h1:=(Kept.heard h m).trans (Kept.take (h.heard m) ((aP _).1 hp))
 exact⟨h1.state,h1.got.trans (VLe.raise _ _ _),h1.acked⟩
theorem Kept.with{x:NodeT}(h:NodeOk x)(ss:List eI):Kept x (withS x ss):=⟨Leq.refl h.st,VLe.refl _,VLe.refl _⟩
-- what is answered
theorem PG{a b:List aH}(h:gT a b=true):a=b:=by
 unfold gT at h
 simp only[Bool.and_eq_true,beq_iff_eq,bJ] at h
 exact J2 (by omega) λi hi=>Prod.ext (by simp_all) rfl
theorem NodeOk.treeB{x:NodeT}(h:NodeOk x):treeB x.tree=true:=by
 have h1:=h.tree
 unfold u3 at h1
 rw[Bool.and_eq_true] at h1
 have e1:x.tree.1=(cM x.state).1:=PG h1.1
 have e2:x.tree.2.1=(cM x.state).2.1:=eq_of_beq h1.2
 have e:x.tree=cM x.state:=Prod.ext e1 (Prod.ext e2 rfl)
 rw[e];exact OY h.state
theorem IA{v:List aH}{n:Int}(h:eQ v n=true):lM v 100000=true/\(v.length:Int)=n/\1<=n/\n<=5:=by
 unfold eQ at h
 simp only[Bool.and_eq_true,beq_iff_eq,aQ] at h
 exact⟨h.2.2,h.2.1,h.1⟩
def v5(v:List aH):Bool:=bP v.length (v6 v)
theorem JH{v:List aH}(h:v.Pairwise (λa b:aH=>a.1<b.1))(hv:∀ a∈v,0<=a.1/\a.1<=3):v5 v=true:=by
 unfold v5;rw[bJ]
 intro i hi
 unfold v6
 rw[Bool.and_eq_true,aQ]
 refine⟨hv _ (bZ hi),?_⟩
 cases i with
 | zero=>rfl
 | succ j=>
  rw[List.pairwise_iff_getElem] at h
  have:=h j (j+1) (by omega) hi (by omega)
  rw[<- cS (by omega),<- cS hi] at this
  show(!decide ((gt v (j+1)).1<=(gt v j).1))=true
  rw[decide_eq_false (by omega)];rfl
theorem CT(a b:kN):v5 (fS a b)=true:=by
 unfold fS
 cases a.2.1==b.2.1 with
 | true=>rfl
 | false=>
  have hm:∀ i,∀ x∈eL a b i,x.1=(i:Int):=λi x hx=>by
   unfold eL at hx
   cases c1:(a.1.length:Int) != 4<;>rw[c1] at hx
   ·cases c2:(b.1.length:Int) != 4<;>rw[c2] at hx
    ·cases c3:(gt a.1 i).1 != (gt b.1 i).1<;>rw[c3] at hx
     ·grind
     simp_all
    simp_all
   simp_all
  refine JH (pM (k:=λx:aH=>x.1) (nQ a b) hm 4) λx hx=>?_
  obtain⟨i,hi,hx⟩:=kM hx
  rw[hm i x hx];omega
/-- A message that a right node writes is right. -/
theorem NodeOk.says {x:NodeT} (h:NodeOk x) {k to num:Int} {tree:kN} {leaves:List aH} {part:aE} (hk:0<=k/\k<=5) (ht:0<=to/\to<=4/\to≠x.1) (hn:inB num 0 100000=true)
  (hT:Go.Abs.treeB tree=true) (hl:v5 leaves=true) (hp:aM part=true):
  dZ (k,x.1,to,num,cJ x.log,tree.1,tree.2.1,x.got,leaves,part.1,part.2.1,d8 x.state,())=true:=by
 have hv:=IA h.got
 have hid:=h.id
 have hl2:=DJ h.log
 rw[aQ,IntKind.wrap_i64] at hid
 rw[aQ] at hn
 unfold dZ qB eF
 simp only[Bool.and_eq_true,aQ,Bool.not_eq_true',beq_eq_false_iff_ne,decide_eq_true_eq]
 exact⟨⟨hk,by omega,by omega,λe=>ht.2.2 e.symm⟩,hl,hv.1,hn,hl2,hT,by simp_all,hp,I9 _⟩
structure Ans (x:NodeT) (m q:MsgT):Prop where
 ok:dZ q=true
 frm:q.2.1=x.1
 to:q.2.2.1=m.2.1
 num:q.2.2.2.1=m.2.2.2.1
theorem GZ{x:NodeT}(h:NodeOk x)(ls:List aH)(seq:Int):aM (vX x ls seq)=true:=sQ (GD h.state ls) (GE h seq)
theorem NG{m:MsgT}(h:dZ m=true):v5 m.leaves=true:=by
 unfold dZ at h;simp only[Bool.and_eq_true] at h;exact h.2.1
theorem RecOk.peer{x:NodeT}{m:MsgT}(h:RecOk x m):0<=m.2.1/\m.2.1<=4/\m.2.1≠x.1:=by
 have h1:=h.frm;have h2:=h.idn;exact⟨by omega,by omega,h.ne⟩
theorem NN{o x:NodeT}{m:MsgT}(h:NodeOk o)(e:o.1=x.1)(R:RecOk x m):Ans x m (QP o x m):=
 ⟨h.says (x:=o) (tree:=([],0,())) (leaves:=m.leaves) (part:=vX o m.leaves (gt m.vec x.1.toNat).1) (k:=4) (by omega) (by have:=R.peer;rw[e];omega) R.num rfl (NG R.msg) (GZ h _ _),e,rfl,rfl⟩
theorem IW{o x:NodeT}{m:MsgT}(h:NodeOk o)(e:o.1=x.1)(R:RecOk x m):Ans x m (AP o x m):=
 ⟨h.says (x:=o) (tree:=o.tree) (leaves:=fS o.tree m.tree) (part:=vX o (fS o.tree m.tree) (gt m.vec x.1.toNat).1) (k:=3) (by omega) (by have:=R.peer;rw[e];omega) R.num h.treeB (CT _ _) (GZ h _ _),e,rfl,rfl⟩
theorem G7{o x:NodeT}{m:MsgT}(h:NodeOk o)(e:o.1=x.1)(R:RecOk x m){k:Int}(hk:0<=k/\k<=5):Ans x m (NF o k m.2.1 m.2.2.2.1):=
 ⟨h.says (x:=o) (tree:=([],0,())) (leaves:=[]) (part:=iK) hk (by have:=R.peer;rw[e];omega) R.num rfl rfl tI,e,rfl,rfl⟩
theorem K1{x:NodeT}{m:MsgT}:(eJ x m).2.1.length<=1/\∀ q∈(eJ x m).2.1,Ans x m q:=by
 have none:([]:List MsgT).length<=1/\∀ q∈([]:List MsgT),Ans x m q:=⟨Nat.zero_le _,λq h=>by grind⟩
 have one:∀ a:MsgT,Ans x m a->[a].length<=1/\∀ q∈[a],Ans x m q:=λa h=>⟨Nat.le_refl _,λq hq=>by rw[List.mem_singleton.1 hq];omega⟩
 unfold eJ
 cases hr:fX x m with
 | false=>simp
 | true =>
  have R:=oO hr
  show(mK x m).2.1.length<=1/\∀ q∈(mK x m).2.1,Ans x m q
  unfold mK
  cases m.1==0 with
  | true=>exact one _ (G7 (o:=cY x m) (x:=x) R.brought rfl R (k:=1) (by omega))
  | false=>
   cases m.1==1 with
   | true=>simp
   | false=>
    cases m.1==2 with
    | true=>
     show(fI x m).2.1.length<=1/\∀ q∈(fI x m).2.1,Ans x m q
     unfold fI
     cases hf:hZ x m with
     | true=>exact one _ (G7 (o:=x) (x:=x) R.node rfl R (k:=5) (by omega))
     | false=>
      have hN:NodeOk (EL x m):=(R.syn hf).node.heard m
      exact one _ (IW (o:=EL x m) (x:=x) hN rfl R)
    | false=>
     cases decide (mB x m (m.1==4)<0)with
     | true=>simp
     | false=>
      show(gL x m _).2.1.length<=1/\∀ q∈(gL x m _).2.1,Ans x m q
      unfold gL
      cases m.1==5 with
      | true=>simp
      | false=>
       cases m.1==4 with
       | true=>simp
       | false=>
        have hN:NodeOk (cY (j6 x (mB x m false).toNat) m):=(R.gone _).brought
        exact one _ (NN (o:=cY (j6 x (mB x m false).toNat) m) (x:=x) hN rfl R)
-- vectors compared
def atV(v:List aH)(i:Int):Int:=bif inB i 0 (i64.wrap ((v.length:Int) - 1))then(gt v i.toNat).1 else 0
def OW(a b:List aH):Bool:=bP a.length λi=> !decide ((gt a i).1>atV b (i:Int))
theorem VLe.leq{a b:List aH}(h:VLe a b)(hl:b.length<=aV):OW a b=true:=by
 unfold OW;rw[bJ]
 intro i hi
 have h1:=h.1;have h2:=h.2 i
 unfold atV
 rw[aQ.2 (by rw[IntKind.wrap_i64];unfold aV at hl;omega)]
 simp_all
end Go.Abs
namespace Go.Abs
open Go
-- a number read back: what lies at place i of b, five bytes at most
def uI(b:List aH)(i:Nat):Nat->Nat->Nat->Option (Nat×Nat)
 | 0,_,_=>none
 | n+1,k,acc=>
  if i+k<b.length then
   if 128<=(gt b (i+k)).1.toNat then uI b i n (k+1) (acc+(gt b (i+k)).1.toNat % 128*128 ^ k)
   else if 0<k/\(gt b (i+k)).1.toNat=0 then none
   else if acc+(gt b (i+k)).1.toNat*128 ^ k>2147483647 then none
   else some (acc+(gt b (i+k)).1.toNat*128 ^ k,i+k+1)
  else none
def sR(b:List aH)(i:Nat):Option (Nat×Nat):=uI b i 5 0 0
theorem JV(u v:List aH)(x:aH):gt (u++x::v) u.length=x:=by
 rw[cS (by simp)];simp
theorem Q4(v:List aH):∀ (m n k acc i:Nat) (u:List aH),n<128 ^ (m+1)->(0<k->0<n)->acc+n*128 ^ k<=2147483647->i+k=u.length->
  uI (u++iU n++v) i (m+1) k acc=some (acc+n*128 ^ k,i+k+(iU n).length):=by
 intro m
 induction m with
 | zero=>
  intro n k acc i u h h0 hb hi
  have hn:n<128:=by omega
  have e:iU n=[((n:Int),())]:=by unfold iU;rw[dif_pos hn]
  rw[e]
  have eg:gt (u++[((n:Int),())]++v) (i+k)=((n:Int),()):=by rw[hi,List.append_assoc];exact JV u v _
  unfold uI
  rw[eg,if_pos (by rw[hi];simp)]
  grind
 | succ m ih=>
  intro n k acc i u h h0 hb hi
  by_cases hn:n<128
  ·have e:iU n=[((n:Int),())]:=by unfold iU;rw[dif_pos hn]
   rw[e]
   have eg:gt (u++[((n:Int),())]++v) (i+k)=((n:Int),()):=by rw[hi,List.append_assoc];exact JV u v _
   unfold uI
   rw[eg,if_pos (by rw[hi];simp)]
   grind
  ·have e:iU n=(((n % 128+128:Nat):Int),())::iU (n / 128):=by conv=>lhs;unfold iU;rw[dif_neg hn]
   have hm:n % 128*128 ^ k+n / 128*128 ^ (k+1)=n*128 ^ k:=by
    have:=Nat.mod_add_div n 128
    rw[Nat.pow_succ,show n / 128*(128 ^ k*128)=128*(n / 128)*128 ^ k by ac_rfl,<- Nat.add_mul,this]
   have eb:u++iU n++v=(u++[(((n % 128+128:Nat):Int),())])++iU (n / 128)++v:=by rw[e];simp
   have eg:gt (u++iU n++v) (i+k)=(((n % 128+128:Nat):Int),()):=by rw[hi,e,List.append_assoc];exact JV u _ _
   have hl:i+k<(u++iU n++v).length:=by rw[e,hi];simp
   have ih':=ih (n / 128) (k+1) (acc+n % 128*128 ^ k) i (u++[(((n % 128+128:Nat):Int),())]) (by rw[Nat.pow_succ] at h;omega) (λ_=>by omega) (by omega) (by rw[List.length_append,List.length_singleton];omega)
   rw[<- eb] at ih'
   unfold uI
   rw[if_pos hl,eg]
   grind
theorem JX(u v:List aH){n:Nat}(h:n<=2147483647):sR (u++iU n++v) u.length=some (n,u.length+(iU n).length):=by
 have:=Q4 v 4 n 0 0 u.length u (by omega) (λh=>absurd h (by omega)) (by omega) rfl
 unfold sR;rw[this];simp
end Go.Abs
namespace Go.Abs
open Go
theorem TP{b:List aH}{i:Nat}:∀ (n k acc:Nat) {x j:Nat},uI b i n k acc=some (x,j)->x<=2147483647/\j<=b.length/\i+k<j:=by
 intro n
 induction n with
 | zero=>intro k acc x j h;unfold uI at h;simp_all
 | succ n ih=>
  intro k acc x j h
  unfold uI at h
  grind
theorem zB{n:Nat}(h:n<9223372036854775808):i64.wrap (n:Int)=(n:Int):=by
 rw[IntKind.wrap_i64];omega
theorem OQ{k:Nat}(hk:k<5):i64.wrap ((7:Int)*(k:Int))=((7*k:Nat):Int):=by
 rw[IntKind.wrap_i64];omega
theorem KV{x k:Nat}(hx:x<128)(hk:k<5):vE i64 (x:Int) (i64.wrap ((7:Int)*(k:Int)))=((x*128 ^ k:Nat):Int):=by
 rw[OQ hk]
 unfold vE
 rw[Int.toNat_natCast]
 have h:k=0\/k=1\/k=2\/k=3\/k=4:=by omega
 rcases h with rfl | rfl | rfl | rfl | rfl
 ·rw[show(2:Int) ^ (min (7*0) i64.bits)=1 by decide,IntKind.wrap_i64];omega
 ·rw[show(2:Int) ^ (min (7*1) i64.bits)=128 by decide,IntKind.wrap_i64];omega
 ·rw[show(2:Int) ^ (min (7*2) i64.bits)=16384 by decide,IntKind.wrap_i64];omega
 ·rw[show(2:Int) ^ (min (7*3) i64.bits)=2097152 by decide,IntKind.wrap_i64];omega
 ·rw[show(2:Int) ^ (min (7*4) i64.bits)=268435456 by decide,IntKind.wrap_i64];omega
theorem u5(x:Nat):((x:Int)).tmod 128=((x % 128:Nat):Int):=by
 rw[Int.tmod_eq_emod_of_nonneg (by omega)];omega
theorem UZ{k:Nat}(hk:k<5):128 ^ k<=268435456:=by
 have h:k=0\/k=1\/k=2\/k=3\/k=4:=by omega
 rcases h with rfl | rfl | rfl | rfl | rfl<;>decide
theorem U1{a x k:Nat}(ha:a<128 ^ k)(hx:x<128)(hk:k<5):orI i64 (a:Int) ((x*128 ^ k:Nat):Int)=((a+x*128 ^ k:Nat):Int):=by
 have hp:=UZ hk
 have hm:x*128 ^ k<=127*268435456:=Nat.mul_le_mul (by omega) hp
 unfold orI
 have e:(BitVec.ofInt i64.bits (a:Int)||| BitVec.ofInt i64.bits ((x*128 ^ k:Nat):Int)).toNat=a+x*128 ^ k:=by
  rw[BitVec.toNat_or,BitVec.ofInt_natCast,BitVec.ofInt_natCast,BitVec.toNat_ofNat,BitVec.toNat_ofNat]
  rw[Nat.mod_eq_of_lt (show a<2 ^ i64.bits by show a<2 ^ 64;omega),Nat.mod_eq_of_lt (show x*128 ^ k<2 ^ i64.bits by show x*128 ^ k<2 ^ 64;omega)]
  have h2:128 ^ k=2 ^ (7*k):=by rw[Nat.pow_mul]
  rw[h2] at ha ⊢
  rw[Nat.or_comm,Nat.mul_comm x,<- Nat.two_pow_add_eq_or_of_lt ha];omega
 rw[e];exact zB (by omega)
theorem SB{a x k:Nat}(ha:a<128 ^ k):a+x % 128*128 ^ k<128 ^ (k+1):=by
 have h:x % 128<128:=Nat.mod_lt _ (by omega)
 have h2:x % 128*128 ^ k<=127*128 ^ k:=Nat.mul_le_mul (by omega) (Nat.le_refl _)
 rw[Nat.pow_succ];omega
end Go.Abs
/- Plain laws: worlds compared. -/
namespace Go.Abs
def jG{α:Type}(a b:List α):Bool:=(a.length:Int)==(b.length:Int)
theorem tM{α:Type}{a b:List α}:jG a b=true↔a.length=b.length:=by unfold jG;rw[beq_iff_eq];omega
def rY{α:Type}[Inhabited α](f:α->α->Bool)(a b:List α):Bool:=jG a b&&bP a.length λi=>f (gt a i) (gt b i)
def cH(a b:List aH):Bool:=ByteArray.toList (cQ a)==ByteArray.toList (cQ b)
def w5(a b:bT):Bool:=gT a.1 b.1
def sW(x y:eI):Bool:=gW x.1 y.1&&(gW x.2.1 y.2.1&&(nD x.2.2.1 y.2.2.1&&(gW x.2.2.2.1 y.2.2.2.1&&true)))
def oD(x y:kT):Bool:=gW x.1 y.1&&(gW x.2.1 y.2.1&&(gW x.2.2.1 y.2.2.1&&true))
def EB(a b:kN):Bool:=gT a.1 b.1&&a.2.1==b.2.1
def BH(a b:iE):Bool:=a.1==b.1&&(a.2.1==b.2.1&&rY fL a.2.2.1 b.2.2.1)
def A1(a b:NodeT):Bool:=a.1==b.1&&(a.2.1==b.2.1&&(a.num==b.num&&(a.slots==b.slots&&(a.wait==b.wait&&(a.limit==b.limit&&(a.clock==b.clock&&(rY w5 a.seen b.seen&&(fL a.state b.state&&(EB a.tree b.tree&&(BH a.log b.log&&(gT a.got b.got&&(gT a.acked b.acked&&(rY sW a.sess b.sess&&rY oD a.rises b.rises)))))))))))))
def zO(a b:NodeT):Bool:=a.1==b.1&&(a.2.1==b.2.1&&(fL a.state b.state&&(EB a.tree b.tree&&(BH a.log b.log&&(gT a.got b.got&&(gT a.acked b.acked&&(jG a.seen b.seen&&(a.num==b.num&&(a.slots==b.slots&&(a.wait==b.wait&&(a.limit==b.limit&&(a.clock==b.clock&&(jG a.sess b.sess&&(jG a.rises b.rises&&
 (bP a.seen.length (λi=>w5 (gt a.seen i) (gt b.seen i))&&(bP a.sess.length (λi=>sW (gt a.sess i) (gt b.sess i))&&bP a.rises.length λi=>oD (gt a.rises i) (gt b.rises i)))))))))))))))))
theorem P2(a b:NodeT):zO a b=A1 a b:=by
 unfold zO A1 rY;ac_rfl
end Go.Abs
-- bytes read back: plain laws of readers
namespace Go.Abs
open Go
def B8(b:List aH):Prop:=∀ k,k<b.length->∃ y:Nat,(gt b k).1=(y:Int)/\y<=255
def ByL(b:List aH):Prop:=∀ x∈b,∃ y:Nat,x.1=(y:Int)/\y<=255
theorem ByL.b8{b:List aH}(h:ByL b):B8 b:=λk hk=>h _ (bZ hk)
theorem B8.byL{b:List aH}(h:B8 b):ByL b:=λx hx=>by
 obtain⟨i,hi,e⟩:=fR hx
 rw[<- e];exact h i hi
theorem ByL.app{a b:List aH}(ha:ByL a)(hb:ByL b):ByL (a++b):=λx hx=>by
 rcases List.mem_append.1 hx with h | h
 ·exact ha x h
 ·exact hb x h
theorem ByL.flat{α:Type}{f:α->List aH}(h:∀ x,ByL (f x))(xs:List α):ByL (xs.flatMap f):=λx hx=>by
 obtain⟨a,_,ha⟩:=List.mem_flatMap.1 hx
 exact h a x ha
theorem ByL.sub{a b:List aH}(h:ByL b)(hs:∀ x∈a,x∈b):ByL a:=λx hx=>h x (hs x hx)
theorem S8(n:Nat):ByL (iU n):=by
 induction n using Nat.strongRecOn with
 | _ n ih=>
  unfold iU
  split
  ·rename_i h
   intro b hb
   rw[List.mem_singleton.1 hb];grind
  ·rename_i h
   intro b hb
   rcases List.mem_cons.1 hb with e | e
   ·rw[e];exact⟨n % 128+128,rfl,by omega⟩
   ·exact ih (n / 128) (Nat.div_lt_self (by omega) (by omega)) b e
theorem eG(x:Int):ByL (aG x):=by
 unfold aG
 cases inB x 0 2147483647 with
 | false=>intro b hb;grind
 | true=>exact S8 _
theorem OE(t:ByteArray):ByL (gA t):=λb hb=>by
 unfold gA fE at hb
 obtain⟨u,_,rfl⟩:=List.mem_map.1 hb
 have:=u.toNat_lt
 grind
theorem I0(t:ByteArray):ByL (eE t):=(eG _).app (OE t)
theorem FH(x:bN):ByL (bG x):=by
 unfold bG;exact(((((eG _).app (eG _)).app (eG _)).app (eG _)).app (eG _)).app (I0 _)
theorem tV(f:aR):ByL (aY f):=(eG _).app (eG _)
theorem xL(s:aE):ByL (bO s):=(((eG _).app (ByL.flat FH _)).app (eG _)).app (ByL.flat tV _)
theorem D0{l:List aH}(h:ByL l):gA (cQ l)=l:=by
 show List.map (λb:UInt8=>(((b.toNat:Nat):Int),())) (List.map (λr:aH=>UInt8.ofNat (Int.toNat r.1)) l)=l
 rw[List.map_map]
 conv=>rhs;rw[<- List.map_id l]
 refine List.map_congr_left λx hx=>?_
 obtain⟨y,hy,hy2⟩:=h x hx
 obtain⟨z,u⟩:=x
 have hy:z=(y:Int):=hy
 subst hy
 show((((UInt8.ofNat ((y:Int)).toNat).toNat:Nat):Int),())=((y:Int),u)
 rw[Int.toNat_natCast,UInt8.toNat_ofNat',Nat.mod_eq_of_lt (by omega)]
theorem OD(s:ByteArray):cQ (gA s)=s:=by
 have e:List.map (λr:aH=>UInt8.ofNat (Int.toNat r.1)) (gA s)=s.data.toList:=by
  show List.map _ (List.map (λb:UInt8=>(((b.toNat:Nat):Int),())) s.data.toList)=_
  rw[List.map_map]
  conv=>rhs;rw[<- List.map_id s.data.toList]
  refine List.map_congr_left λx hx=>?_
  simp
 exact congrArg (λl:List UInt8=>(⟨l.toArray⟩:ByteArray)) e
theorem nS{a b:List aH}(ha:ByL a)(hb:ByL b):cH a b=true↔a=b:=by
 unfold cH
 rw[beq_iff_eq,ByteArray.toList_eq,ByteArray.toList_eq]
 constructor
 ·intro h
  have:gA (cQ a)=gA (cQ b):=by unfold gA fE;rw[h]
  rwa [D0 ha,D0 hb] at this
 simp_all
-- readers
abbrev RdT:Type:=List aH×Int×Bool×Unit
def rM(b:List aH)(i:Int):Option (Nat×Nat):=bif decide (i<0)then none else sR b i.toNat
theorem zR{b:List aH}{i:Int}{x j:Nat}(h:rM b i=some (x,j)):x<=2147483647/\j<=b.length:=by
 unfold rM at h
 cases e:decide (i<0)with
 | true=>rw[e] at h;grind
 | false=>
  rw[e] at h
  have h:uI b i.toNat 5 0 0=some (x,j):=h
  have:=TP 5 0 0 h
  omega
-- a number read off a reader: (the number, the reader behind it)
def aO(r:RdT):Int×RdT:=bif r.2.2.1 then(0,(r.1,r.2.1,true,()))else
 match rM r.1 r.2.1 with
 | none=>(0,(r.1,r.2.1,true,()))
 | some (x,j)=>((x:Int),(r.1,(j:Int),r.2.2.1,()))
def eW(r:RdT)(m:Int):Int×RdT:=bif decide ((aO r).1>m)then(0,((aO r).2.1,(aO r).2.2.1,true,()))else aO r
def uZ(b:List aH)(i:Int):Option (ByteArray×Nat):=match rM b i with
 | none=>none
 | some (x,j)=>if x>b.length - j then none else some (cQ ((b.take (j+x)).drop j),j+x)
def mY(r:RdT):ByteArray×RdT:=bif r.2.2.1 then(⟨#[]⟩,(r.1,r.2.1,true,()))else
 match uZ r.1 r.2.1 with
 | none=>(⟨#[]⟩,(r.1,r.2.1,true,()))
 | some (s,j)=>(s,(r.1,(j:Int),r.2.2.1,()))
structure RdOk (r:RdT):Prop where
 b8:B8 r.1
 len:r.1.length<=aV
 lo:0<=r.2.1
 hi:r.2.1<=(r.1.length:Int)
theorem tG(r:RdT):(aO r).2.1=r.1/\(0<=r.2.1->r.2.1<=(r.1.length:Int)->0<=(aO r).2.2.1/\(aO r).2.2.1<=(r.1.length:Int))/\0<=(aO r).1/\(aO r).1<=2147483647/\(r.2.2.1=true->(aO r).2.2.2.1=true):=by
 obtain⟨b,i,bad,u⟩:=r
 cases bad with
 | true=>exact⟨rfl,λh1 h2=>⟨h1,h2⟩,Int.le_refl _,by show(0:Int)<=2147483647;omega,λ_=>rfl⟩
 | false=>
  have e:aO (b,i,false,u)=(match rM b i with | none=>((0:Int),((b,i,true,()):RdT)) | some (x,j)=>((x:Int),(b,(j:Int),false,()))):=rfl
  rw[e]
  cases h:rM b i with
  | none=>simp_all
  | some q=>
   obtain⟨x,j⟩:=q
   have hb:=zR h
   grind
theorem gM(r:RdT):(aO r).2.1=r.1:=(tG r).1
theorem AS(r:RdT):0<=(aO r).1:=(tG r).2.2.1
theorem RdOk.num{r:RdT}(h:RdOk r):RdOk (aO r).2:=by
 have e:=tG r
 have p:=e.2.1 h.lo h.hi
 exact⟨by rw[e.1];exact h.b8,by rw[e.1];exact h.len,p.1,by rw[e.1];omega⟩
theorem RdOk.cnt{r:RdT}(h:RdOk r)(m:Int):RdOk (eW r m).2:=by
 have hn:=h.num
 unfold eW
 cases decide ((aO r).1>m)with
 | true=>exact⟨hn.b8,hn.len,hn.lo,hn.hi⟩
 | false=>grind
theorem IY(r:RdT)(m:Int):(eW r m).2.1=r.1:=by
 unfold eW
 cases decide ((aO r).1>m)with
 | true=>exact gM r
 | false=>exact gM r
theorem AR(r:RdT):(mY r).2.1=r.1/\(0<=r.2.1->r.2.1<=(r.1.length:Int)->0<=(mY r).2.2.1/\(mY r).2.2.1<=(r.1.length:Int)):=by
 obtain⟨b,i,bad,u⟩:=r
 cases bad with
 | true=>exact⟨rfl,λh1 h2=>⟨h1,h2⟩⟩
 | false=>
  have e:mY (b,i,false,u)=(match uZ b i with | none=>((⟨#[]⟩:ByteArray),((b,i,true,()):RdT)) | some (s,j)=>(s,(b,(j:Int),false,()))):=rfl
  rw[e]
  cases h:uZ b i with
  | none=>simp_all
  | some q=>
   obtain⟨s,j⟩:=q
   refine⟨rfl,λh1 h2=>⟨Int.natCast_nonneg _,?_⟩⟩
   show(j:Int)<=(b.length:Int)
   unfold uZ at h
   cases hg:rM b i with
   | none=>rw[hg] at h;grind
   | some q=>
    obtain⟨x,k⟩:=q
    have hb:=zR hg
    rw[hg] at h
    grind
theorem RdOk.txt{r:RdT}(h:RdOk r):RdOk (mY r).2:=by
 have e:=AR r
 have p:=e.2 h.lo h.hi
 exact⟨by rw[e.1];exact h.b8,by rw[e.1];exact h.len,p.1,by rw[e.1];omega⟩
theorem sD(r:RdT){m:Int}(hm:0<=m):0<=(eW r m).1/\(eW r m).1<=m:=by
 have:=AS r
 unfold eW
 grind
-- several numbers
def rdK(r:RdT):Nat->RdT
 | 0=>r
 | k+1=>(aO (rdK r k)).2
def rdV(r:RdT)(k:Nat):Int:=(aO (rdK r k)).1
theorem RdOk.k{r:RdT}(h:RdOk r):∀ k,RdOk (rdK r k)
 | 0=>h
 | k+1=>(RdOk.k h k).num
theorem vR(r:RdT):∀ k,(rdK r k).1=r.1
 | 0=>rfl
 | k+1=>(gM _).trans (vR r k)
-- the same reading done several times
def cN{α:Type}(f:RdT->α×RdT)(r:RdT):Nat->List α×RdT
 | 0=>([],r)
 | k+1=>((cN f r k).1++[(f (cN f r k).2).1],(f (cN f r k).2).2)
theorem iV{α:Type}(f:RdT->α×RdT)(r:RdT):∀ k,(cN f r k).1.length=k
 | 0=>rfl
 | k+1=>by show((cN f r k).1++[_]).length=k+1;rw[List.length_append,iV f r k];rfl
theorem oX{α:Type}{f:RdT->α×RdT}(hf:∀ r,RdOk r->RdOk (f r).2){r:RdT}(h:RdOk r):∀ k,RdOk (cN f r k).2
 | 0=>h
 | k+1=>hf _ (oX hf h k)
theorem BB{α:Type}{f:RdT->α×RdT}(hf:∀ r,(f r).2.1=r.1)(r:RdT):∀ k,(cN f r k).2.1=r.1
 | 0=>rfl
 | k+1=>(hf _).trans (BB hf r k)
def wY(r:RdT):aH×RdT:=(((aO r).1,()),(aO r).2)
def eB(r:RdT):aR×RdT:=((rdV r 0,rdV r 1,()),rdK r 2)
def c8(r:RdT):bN×RdT:=((rdV r 0,rdV r 1,rdV r 2,rdV r 3,rdV r 4,(mY (rdK r 5)).1,()),(mY (rdK r 5)).2)
theorem RdOk.floor{r:RdT}(h:RdOk r):RdOk (eB r).2:=h.k 2
theorem RdOk.item{r:RdT}(h:RdOk r):RdOk (c8 r).2:=(h.k 5).txt
theorem JQ(r:RdT):(c8 r).2.1=r.1:=(AR _).1.trans (vR r 5)
def lX(r:RdT)(m:Int):List aH×RdT:=cN wY (eW r m).2 (eW r m).1.toNat
theorem RdOk.nums{r:RdT}(h:RdOk r)(m:Int):RdOk (lX r m).2:=oX (f:=wY) (λr h=>RdOk.num h) (h.cnt m) _
theorem IX(r:RdT){m:Int}(hm:0<=m):((lX r m).1.length:Int)<=m:=by
 have:=sD r hm
 unfold lX;rw[iV];omega
theorem GP(r:RdT)(m:Int):(lX r m).2.1=r.1:=(BB (f:=wY) (λr=>gM r) _ _).trans (IY r m)
-- what is read back
def mD{α:Type}(f:RdT->α×RdT)(e:List aH)(x:α):Prop:=
 ∀ b u v:List aH,b=u++(e++v)->f (b,(u.length:Int),false,())=(x,(b,(((u++e).length:Nat):Int),false,()))
theorem HQ{x:Int}(h:inB x 0 2147483647=true){b u v:List aH}(hb:b=u++(aG x++v)):rM b (u.length:Int)=some (x.toNat,(u++aG x).length):=by
 rw[aQ] at h
 have e:aG x=iU x.toNat:=by unfold aG;rw[aQ.2 h];rfl
 rw[e] at hb ⊢
 unfold rM
 rw[decide_eq_false (by omega)]
 show sR b (u.length:Int).toNat=_
 rw[Int.toNat_natCast,hb,<- List.append_assoc,JX u v (by omega),List.length_append]
theorem iT{x:Int}(h:inB x 0 2147483647=true):mD aO (aG x) x:=by
 intro b u v hb
 have g:=HQ h hb
 show(match rM b (u.length:Int)with | none=>((0:Int),((b,(u.length:Int),true,()):RdT)) | some (x,j)=>((x:Int),(b,(j:Int),false,())))=_
 rw[g]
 show(((x.toNat:Nat):Int),_)=(x,_)
 rw[aQ] at h
 rw[show((x.toNat:Nat):Int)=x by omega]
theorem tF{x m:Int}(h:inB x 0 2147483647=true)(hm:x<=m):mD (λr=>eW r m) (aG x) x:=by
 intro b u v hb
 have:=iT h b u v hb
 show eW _ m=_
 unfold eW
 rw[this,decide_eq_false (show ¬ x>m by omega)];rfl
theorem SP{s:ByteArray}(h:ByteArray.size s<=2147483647):inB ((ByteArray.size s:Nat):Int) 0 2147483647=true:=by rw[aQ];omega
theorem tW{α:Type}(a b c:List α):((a++(b++c)).take (a.length+b.length)).drop a.length=b:=by
 rw[<- List.append_assoc,List.take_left' (by rw[List.length_append]),List.drop_left' rfl]
theorem OX{s:ByteArray}(h:ByteArray.size s<=2147483647){b u v:List aH}(hb:b=u++(eE s++v)):uZ b (u.length:Int)=some (s,(u++eE s).length):=by
 unfold eE at hb ⊢
 have g:=HQ (SP h) (b:=b) (u:=u) (v:=gA s++v) (by rw[hb];simp)
 unfold uZ;rw[g]
 show(if((ByteArray.size s:Nat):Int).toNat>b.length - (u++aG ((ByteArray.size s:Nat):Int)).length then none else some (cQ ((b.take ((u++aG ((ByteArray.size s:Nat):Int)).length+((ByteArray.size s:Nat):Int).toNat)).drop (u++aG ((ByteArray.size s:Nat):Int)).length),(u++aG ((ByteArray.size s:Nat):Int)).length+((ByteArray.size s:Nat):Int).toNat))=_
 have e2:b=(u++aG ((ByteArray.size s:Nat):Int))++(gA s++v):=by rw[hb];simp
 have e3:b.length=(u++aG ((ByteArray.size s:Nat):Int)).length+(ByteArray.size s+v.length):=by rw[e2,List.length_append,List.length_append (as:=gA s),kY]
 rw[Int.toNat_natCast,if_neg (by omega)]
 have e4:=tW (α:=aH) (u++aG ((ByteArray.size s:Nat):Int)) (gA s) v
 rw[<- e2,kY] at e4
 refine(congrArg (λl:List aH=>some (cQ l,(u++aG ((ByteArray.size s:Nat):Int)).length+ByteArray.size s)) e4).trans ?_
 rw[OD,<- List.append_assoc,List.length_append (bs:=gA s),kY]
theorem M0{s:ByteArray}(h:ByteArray.size s<=2147483647):mD mY (eE s) s:=by
 intro b u v hb
 have g:=OX h hb
 show(match uZ b (u.length:Int)with | none=>((⟨#[]⟩:ByteArray),((b,(u.length:Int),true,()):RdT)) | some (s,j)=>(s,(b,(j:Int),false,())))=_
 rw[g]
def dG(ns:List aH):List aH:=ns.flatMap λx=>aG x.1
theorem pD(a b:List aH):dG (a++b)=dG a++dG b:=List.flatMap_append
theorem xA(x:aH):dG [x]=aG x.1:=by unfold dG;simp
theorem pO{α:Type}[Inhabited α]{xs:List α}{k:Nat}(h:k<xs.length):xs.take (k+1)=xs.take k++[gt xs k]:=by
 rw[<- List.take_append_getElem h,cS h]
theorem AE{α:Type}[Inhabited α]{xs:List α}{k:Nat}(h:k<xs.length):xs=xs.take k++(gt xs k::xs.drop (k+1)):=by
 rw[cS h,<- List.drop_eq_getElem_cons h,List.take_append_drop]
theorem oP{ns:List aH}(h:∀ x∈ns,inB x.1 0 2147483647=true){b u v:List aH}(hb:b=u++(dG ns++v)):
  ∀ k,k<=ns.length->rdK (b,(u.length:Int),false,()) k=(b,(((u++dG (ns.take k)).length:Nat):Int),false,())
 | 0,_=>by
  show(b,(u.length:Int),false,())=_
  rw[List.take_zero];unfold dG;rw[List.flatMap_nil,List.append_nil]
 | k+1,hk=>by
  have ih:=oP h hb k (by omega)
  have hg:b=(u++dG (ns.take k))++(aG (gt ns k).1++(dG (ns.drop (k+1))++v)):=by
   rw[hb];conv=>lhs;rw[AE (show k<ns.length by omega)]
   rw[pD,show gt ns k::ns.drop (k+1)=[gt ns k]++ns.drop (k+1)from rfl,pD,xA];simp
  have:=iT (h _ (bZ (show k<ns.length by omega))) b _ _ hg
  show(aO (rdK _ k)).2=_
  rw[ih,this,pO (by omega),pD,xA,List.append_assoc]
theorem wV{ns:List aH}(h:∀ x∈ns,inB x.1 0 2147483647=true){b u v:List aH}(hb:b=u++(dG ns++v))(k:Nat)(hk:k<ns.length):
  rdV (b,(u.length:Int),false,()) k=(gt ns k).1:=by
 have ih:=oP h hb k (by omega)
 have hg:b=(u++dG (ns.take k))++(aG (gt ns k).1++(dG (ns.drop (k+1))++v)):=by
  rw[hb];conv=>lhs;rw[AE hk]
  rw[pD,show gt ns k::ns.drop (k+1)=[gt ns k]++ns.drop (k+1)from rfl,pD,xA];simp
 have:=iT (h _ (bZ hk)) b _ _ hg
 unfold rdV;rw[ih,this]
theorem BA{α:Type}[Inhabited α]{f:RdT->α×RdT}{e:α->List aH}{xs:List α}(h:∀ x∈xs,mD f (e x) x){b u v:List aH}(hb:b=u++(xs.flatMap e++v)):
  ∀ k,k<=xs.length->cN f (b,(u.length:Int),false,()) k=(xs.take k,(b,(((u++(xs.take k).flatMap e).length:Nat):Int),false,()))
 | 0,_=>by
  show(([]:List α),((b,(u.length:Int),false,()):RdT))=_
  rw[List.take_zero,List.flatMap_nil,List.append_nil]
 | k+1,hk=>by
  have ih:=BA h hb k (by omega)
  have hg:b=(u++(xs.take k).flatMap e)++(e (gt xs k)++((xs.drop (k+1)).flatMap e++v)):=by
   rw[hb];conv=>lhs;rw[AE (show k<xs.length by omega)]
   rw[List.flatMap_append,List.flatMap_cons];simp
  have:=h _ (bZ (show k<xs.length by omega)) b _ _ hg
  show((cN f _ k).1++[(f (cN f _ k).2).1],(f (cN f _ k).2).2)=_
  rw[ih,this,pO (by omega),List.flatMap_append,List.append_assoc]
  simp
theorem p4{α:Type}[Inhabited α]{f:RdT->α×RdT}{e:α->List aH}{xs:List α}(h:∀ x∈xs,mD f (e x) x):mD (λr=>cN f r xs.length) (xs.flatMap e) xs:=by
 intro b u v hb
 have:=BA h hb xs.length (Nat.le_refl _)
 rw[List.take_length] at this
 omega
theorem I4{x:aH}(h:inB x.1 0 2147483647=true):mD wY (aG x.1) x:=by
 intro b u v hb
 unfold wY;rw[iT h b u v hb]
theorem FJ{f:aR}(h1:inB f.1 0 2147483647=true)(h2:inB f.2.1 0 2147483647=true):mD eB (aY f) f:=by
 intro b u v hb
 have e:aY f=dG [(f.1,()),(f.2.1,())]:=by unfold dG aY;simp
 rw[e] at hb ⊢
 have hn:∀ x∈[((f.1,()):aH),(f.2.1,())],inB x.1 0 2147483647=true:=by
  simp_all
 have a:=wV hn hb
 have c:=oP hn hb 2 (Nat.le_refl _)
 unfold eB
 rw[a 0 (show 0<2 by omega),a 1 (show 1<2 by omega),c];rfl
theorem HG{x:bN}(h:∀ y∈five x,inB y.1 0 2147483647=true)(hs:ByteArray.size x.2.2.2.2.2.1<=2147483647):mD c8 (bG x) x:=by
 intro b u v hb
 have e:bG x=dG (five x)++eE x.2.2.2.2.2.1:=by unfold dG bG five;simp
 rw[e] at hb ⊢
 have hb1:b=u++(dG (five x)++(eE x.2.2.2.2.2.1++v)):=by rw[hb];simp
 have hb2:b=(u++dG (five x))++(eE x.2.2.2.2.2.1++v):=by rw[hb];simp
 have a:=wV h hb1
 have c:=oP h hb1 5 (Nat.le_refl _)
 rw[show(five x).take 5=five x from rfl] at c
 have d:=M0 hs b _ _ hb2
 unfold c8
 rw[c,d,a 0 (show 0<5 by omega),a 1 (show 1<5 by omega),a 2 (show 2<5 by omega),a 3 (show 3<5 by omega),a 4 (show 4<5 by omega),List.append_assoc];rfl
end Go.Abs
-- states and messages read back: plain laws
namespace Go.Abs
open Go
def InN(x:Int):Prop:=inB x 0 2147483647=true
theorem InN.of{x hi:Int}(h:inB x 0 hi=true)(hh:hi<=2147483647):InN x:=by
 unfold InN;rw[aQ] at h ⊢;omega
theorem InN.of1{x hi:Int}(h:inB x 1 hi=true)(hh:hi<=2147483647):InN x:=by
 unfold InN;rw[aQ] at h ⊢;omega
theorem InN.nat{n:Nat}(h:n<=2147483647):InN (n:Int):=by unfold InN;rw[aQ];omega
theorem StateOk.five{s:aE}(h:StateOk s){x:bN}(hx:x∈s.1):(∀ y∈five x,inB y.1 0 2147483647=true)/\ByteArray.size x.2.2.2.2.2.1<=2147483647:=by
 obtain⟨h1,h2,_⟩:=h.item x hx
 unfold cL at h2
 simp only[Bool.and_eq_true,decide_eq_true_eq] at h2
 obtain⟨a,b,c,d,e⟩:=h2
 refine⟨λy hy=>?_,by omega⟩
 unfold Go.Abs.five at hy
 simp only[List.mem_cons,List.not_mem_nil,or_false] at hy
 rcases hy with rfl | rfl | rfl | rfl | rfl
 ·exact InN.of (h1:inB x.1 0 4=true) (by decide)
 ·exact InN.of1 a (by decide)
 ·exact InN.of b (by decide)
 ·exact InN.of c (by decide)
 ·exact InN.of d (by decide)
theorem StateOk.flo{s:aE}(h:StateOk s){f:aR}(hf:f∈s.2.1):InN f.1/\InN f.2.1:=
 ⟨InN.of ((h.floor f hf).1:inB f.1 0 4=true) (by decide),InN.of1 (h.floor f hf).2 (by decide)⟩
theorem BL{s:aE}(h:StateOk s):∀ x∈s.1,mD c8 (bG x) x:=λx hx=>HG (h.five hx).1 (h.five hx).2
theorem yV{fs:List aR}(h:∀ f∈fs,InN f.1/\InN f.2.1):∀ x∈fs,mD eB (aY x) x:=λx hx=>FJ (h x hx).1 (h x hx).2
-- the program's reader of states
def rs0(b:List aH):RdT:=(b,0,false,())
def siC(b:List aH):Int×RdT:=eW (rs0 b) 5
def siI(b:List aH):List bN×RdT:=cN c8 (siC b).2 (siC b).1.toNat
def siF(b:List aH):Int×RdT:=eW (siI b).2 5
def siG(b:List aH):List aR×RdT:=cN eB (siF b).2 (siF b).1.toNat
def stI(b:List aH):aE:=((siI b).1,(siG b).1,())
def cF(b:List aH):Option aE:=bif(siG b).2.2.2.1||(!aM (stI b)|| !cH (bO (stI b)) b)then none else some (stI b)
theorem RY{α:Type}{c:Bool}{x y:α}(h:(bif c then none else some x)=some y):c=false/\x=y:=by
 grind
theorem yC{b:List aH}{s:aE}(h:cF b=some s):aM s=true/\cH (bO s) b=true:=by
 obtain⟨h1,h2⟩:=RY h
 simp_all
theorem wG(s:aE):bO s=([]:List aH)++(aG (s.1.length:Int)++(s.1.flatMap bG++(aG (s.2.1.length:Int)++(s.2.1.flatMap aY++[])))):=by
 unfold bO;simp
theorem i7(b:List aH):cH b b=true:=by unfold cH;simp
theorem mF{s:aE}(hs:aM s=true):cF (bO s)=some s:=by
 have h:=(aP s).1 hs
 have h5:=h.len
 have hb:=wG s
 generalize e:bO s=b at hb
 have c1:siC b=((s.1.length:Int),(b,(((([]:List aH)++aG (s.1.length:Int)).length:Nat):Int),false,())):=
  tF (m:=5) (InN.nat (by omega)) (by omega) b [] _ hb
 have c2:siI b=(s.1,(b,(((([]:List aH)++aG (s.1.length:Int)++s.1.flatMap bG).length:Nat):Int),false,())):=by
  unfold siI;rw[c1]
  show cN c8 _ ((s.1.length:Int)).toNat=_
  rw[Int.toNat_natCast]
  exact p4 (BL h) b _ _ (by rw[hb,List.append_assoc])
 have c3:siF b=((s.2.1.length:Int),(b,(((([]:List aH)++aG (s.1.length:Int)++s.1.flatMap bG++aG (s.2.1.length:Int)).length:Nat):Int),false,())):=by
  unfold siF;rw[c2]
  exact tF (m:=5) (InN.nat (by omega)) (by omega) b _ (s.2.1.flatMap aY++[]) (by rw[hb];simp)
 have c4:siG b=(s.2.1,(b,(((([]:List aH)++aG (s.1.length:Int)++s.1.flatMap bG++aG (s.2.1.length:Int)++s.2.1.flatMap aY).length:Nat):Int),false,())):=by
  unfold siG;rw[c3]
  show cN eB _ ((s.2.1.length:Int)).toNat=_
  rw[Int.toNat_natCast]
  exact p4 (yV λf hf=>h.flo hf) b _ [] (by rw[hb];simp)
 have c5:stI b=s:=by unfold stI;rw[c2,c4]
 unfold cF;rw[c4,c5,hs,e,i7];rfl
-- the reference's reader of states
def pS:RdT->Nat->List aH×RdT
 | r,0=>([],r)
 | r,k+1=>bif r.2.2.1 then([],r)else(((aO r).1,())::(pS (aO r).2 k).1,(pS (aO r).2 k).2)
def cX(r:RdT)(t:Nat):List aH×RdT:=bif decide ((aO r).1>100)then([],((aO r).2.1,(aO r).2.2.1,true,()))else pS (aO r).2 ((aO r).1.toNat*t)
theorem GH:∀ (k:Nat) (r:RdT),(pS r k).1.length<=k
 | 0,r=>Nat.le_refl _
 | k+1,r=>by
  unfold pS
  cases r.2.2.1 with
  | true=>simp
  | false=>show(((aO r).1,())::(pS (aO r).2 k).1).length<=k+1;rw[List.length_cons];have:=GH k (aO r).2;omega
theorem KW:∀ (k:Nat) {r:RdT},RdOk r->RdOk (pS r k).2
 | 0,r,h=>h
 | k+1,r,h=>by
  unfold pS
  cases r.2.2.1 with
  | true=>grind
  | false=>exact KW k h.num
theorem C3:∀ (k:Nat) (r:RdT),(pS r k).2.1=r.1
 | 0,r=>rfl
 | k+1,r=>by
  unfold pS
  cases r.2.2.1 with
  | true=>rfl
  | false=>exact(C3 k _).trans (gM r)
theorem JB(r:RdT)(t:Nat):(cX r t).2.1=r.1:=by
 unfold cX
 cases decide ((aO r).1>100)with
 | true=>exact gM r
 | false=>exact(C3 _ _).trans (gM r)
theorem tJ(r:RdT)(t:Nat):(cX r t).1.length<=100*t:=by
 unfold cX
 by_cases h:(aO r).1>100
 ·rw[decide_eq_true h];simp
 ·rw[decide_eq_false h]
  have h1:=GH ((aO r).1.toNat*t) (aO r).2
  have h2:(aO r).1.toNat*t<=100*t:=Nat.mul_le_mul (by omega) (Nat.le_refl _)
  grind
theorem RdOk.many{r:RdT}(h:RdOk r)(t:Nat):RdOk (cX r t).2:=by
 unfold cX
 cases decide ((aO r).1>100)with
 | true=>exact⟨h.num.b8,h.num.len,h.num.lo,h.num.hi⟩
 | false=>exact KW _ h.num
theorem C7:∀ (ns:List aH),(∀ x∈ns,InN x.1)->mD (λr=>pS r ns.length) (dG ns) ns
 | [],_=>λb u v hb=>by show(([]:List aH),((b,(u.length:Int),false,()):RdT))=_;unfold dG;rw[List.flatMap_nil,List.append_nil]
 | x::ns,h=>λb u v hb=>by
  have e:dG (x::ns)=aG x.1++dG ns:=by rfl
  rw[e] at hb ⊢
  have h1:=iT (h x (List.mem_cons_self ..)) b u (dG ns++v) (by rw[hb];simp)
  have h2:=C7 ns (λy hy=>h y (List.mem_cons_of_mem _ hy)) b (u++aG x.1) v (by rw[hb];simp)
  show(((aO _).1,())::(pS (aO _).2 ns.length).1,(pS (aO _).2 ns.length).2)=_
  rw[h1]
  simp_all
theorem yJ{ns:List aH}{n t:Nat}(hl:ns.length=n*t)(hn:n<=100)(h:∀ x∈ns,InN x.1):mD (λr=>cX r t) (aG ((n:Nat):Int)++dG ns) ns:=by
 intro b u v hb
 have h1:=iT (InN.nat (show n<=2147483647 by omega)) b u (dG ns++v) (by rw[hb];simp)
 have h2:=C7 ns h b (u++aG ((n:Nat):Int)) v (by rw[hb];simp)
 show cX _ t=_
 unfold cX
 rw[h1,decide_eq_false (show ¬ (((n:Nat):Int)>100) by omega)]
 simp_all
def jT(fl:List aH)(k:Nat):List aR:=(List.range k).map λi=>((gt fl (2*i)).1,(gt fl (2*i+1)).1,())
theorem uE(fl:List aH)(k:Nat):(jT fl k).length=k:=by unfold jT;rw[List.length_map,List.length_range]
theorem yN(fl:List aH)(k:Nat):jT fl (k+1)=jT fl k++[((gt fl (2*k)).1,(gt fl (2*k+1)).1,())]:=by
 unfold jT;rw[List.range_succ,List.map_append];rfl
theorem G0(x y:aH)(l:List aH)(k:Nat):jT (x::y::l) (k+1)=(x.1,y.1,())::jT l k:=by
 unfold jT
 rw[List.range_succ_eq_map,List.map_cons,List.map_map]
 rfl
def F4(fs:List aR):List aH:=fs.flatMap λf=>[(f.1,()),(f.2.1,())]
theorem wL(f:aR)(fs:List aR):F4 (f::fs)=(f.1,())::(f.2.1,())::F4 fs:=by rfl
theorem zZ:∀ fs:List aR,(F4 fs).length=fs.length*2
 | []=>rfl
 | f::fs=>by rw[wL,List.length_cons,List.length_cons,zZ fs,List.length_cons];omega
theorem CY:∀ fs:List aR,dG (F4 fs)=fs.flatMap aY
 | []=>rfl
 | f::fs=>by
  rw[wL,List.flatMap_cons,<- CY fs]
  unfold dG aY;rw[List.flatMap_cons,List.flatMap_cons,List.append_assoc]
theorem SI{fs:List aR}(h:∀ f∈fs,InN f.1/\InN f.2.1):∀ x∈F4 fs,InN x.1:=λx hx=>by
 obtain⟨f,hf,hx⟩:=List.mem_flatMap.1 hx
 grind
theorem AY:∀ fs:List aR,jT (F4 fs) fs.length=fs
 | []=>rfl
 | f::fs=>by rw[wL,List.length_cons,G0,AY fs]
def flR(r:RdT):List aR×RdT:=(jT (cX r 2).1 ((cX r 2).1.length / 2),(cX r 2).2)
theorem DU{fs:List aR}(hl:fs.length<=100)(h:∀ f∈fs,InN f.1/\InN f.2.1):mD flR (aG (fs.length:Int)++fs.flatMap aY) fs:=by
 intro b u v hb
 rw[<- CY] at hb ⊢
 have:=yJ (t:=2) (zZ fs) hl (SI h) b u v hb
 have this:cX (b,(u.length:Int),false,()) 2=_:=this
 unfold flR;rw[this]
 show(jT (F4 fs) ((F4 fs).length / 2),_)=_
 rw[zZ,Nat.mul_div_cancel _ (by decide),AY]
theorem LX(r:RdT):(flR r).1.length<=100:=by
 unfold flR;rw[uE];have:=tJ r 2;omega
def jU:RdT->Nat->Option (List bN×RdT)
 | r,0=>some ([],r)
 | r,k+1=>bif r.2.2.1 then some ([],r)else bif(c8 r).2.2.2.1 then none else(jU (c8 r).2 k).map λq=>((c8 r).1::q.1,q.2)
theorem v7:∀ (xs:List bN),(∀ x∈xs,mD c8 (bG x) x)->∀ b u v,b=u++(xs.flatMap bG++v)->
  jU (b,(u.length:Int),false,()) xs.length=some (xs,(b,(((u++xs.flatMap bG).length:Nat):Int),false,()))
 | [],_,b,u,v,hb=>by show some (([]:List bN),((b,(u.length:Int),false,()):RdT))=_;rw[List.flatMap_nil,List.append_nil]
 | x::xs,h,b,u,v,hb=>by
  rw[List.flatMap_cons] at hb ⊢
  have h1:=h x (List.mem_cons_self ..) b u (xs.flatMap bG++v) (by rw[hb];simp)
  have h2:=v7 xs (λy hy=>h y (List.mem_cons_of_mem _ hy)) b (u++bG x) v (by rw[hb];simp)
  show(bif(c8 _).2.2.2.1 then none else(jU (c8 _).2 xs.length).map λq=>((c8 _).1::q.1,q.2))=_
  rw[h1]
  simp_all
def ssI(b:List aH):Option (List bN×RdT):=bif decide ((aO (rs0 b)).1>100)then some ([],(aO (rs0 b)).2)else jU (aO (rs0 b)).2 (aO (rs0 b)).1.toNat
def stS(q:List bN×RdT):aE:=(q.1,(flR q.2).1,())
def gS(b:List aH):Option aE:=match ssI b with
 | none=>none
 | some q=>bif(flR q.2).2.2.2.1||(decide ((aO (rs0 b)).1>100)||(!aM (stS q)|| !cH (bO (stS q)) b))then none else some (stS q)
theorem F8{b:List aH}{s:aE}(h:gS b=some s):aM s=true/\cH (bO s) b=true:=by
 unfold gS at h
 grind
theorem EN{s:aE}(hs:aM s=true):gS (bO s)=some s:=by
 have h:=(aP s).1 hs
 have h5:=h.len
 have hb:=wG s
 generalize e:bO s=b at hb
 have c1:aO (rs0 b)=((s.1.length:Int),(b,(((([]:List aH)++aG (s.1.length:Int)).length:Nat):Int),false,())):=
  iT (InN.nat (by omega)) b [] _ hb
 have hd:decide ((s.1.length:Int)>100)=false:=decide_eq_false (by omega)
 have c2:ssI b=some (s.1,(b,(((([]:List aH)++aG (s.1.length:Int)++s.1.flatMap bG).length:Nat):Int),false,())):=by
  unfold ssI;rw[c1,hd]
  show jU _ ((s.1.length:Int)).toNat=_
  rw[Int.toNat_natCast]
  exact v7 s.1 (BL h) b _ _ (by rw[hb,List.append_assoc])
 have c3:=DU (show s.2.1.length<=100 by omega) (λf hf=>h.flo hf) b (([]:List aH)++aG (s.1.length:Int)++s.1.flatMap bG) [] (by rw[hb];simp)
 unfold gS;rw[c1,c2,hd]
 show(bif(flR _).2.2.2.1||(false||(!aM (s.1,(flR _).1,())|| !cH (bO (s.1,(flR _).1,())) b))then none else some (s.1,(flR _).1,()))=_
 rw[c3]
 show(bif false||(false||(!aM s|| !cH (bO s) b))then none else some s)=_
 rw[hs,e,i7];rfl
theorem ML{b:List aH}(hb:ByL b):gS b=cF b:=by
 cases h:cF b with
 | some s=>
  obtain⟨h1,h2⟩:=yC h
  have e:=(nS (xL s) hb).1 h2
  rw[<- e];exact EN h1
 | none=>
  cases h2:gS b with
  | none=>rfl
  | some s=>
   obtain⟨h3,h4⟩:=F8 h2
   have e:=(nS (xL s) hb).1 h4
   rw[<- e,mF h3] at h;omega
end Go.Abs
-- messages as bytes, and read back: plain laws
namespace Go.Abs
open Go
def fT(m:MsgT):List aH:=[(m.1,()),(m.2.1,()),(m.2.2.1,()),(m.2.2.2.1,()),(m.hi,())]
def dN(ns:List aH):List aH:=aG (ns.length:Int)++dG ns
def tT(fs:List aR):List aH:=aG (fs.length:Int)++fs.flatMap aY
def rk2:List aH:=[(82,()),(75,())]
def eH(m:MsgT):List aH:=rk2++(dG (fT m)++(dN m.tree.1++(aG m.tree.2.1++(dN m.vec++(dN m.leaves++(aG (((bO m.part).length:Nat):Int)++(bO m.part++tT m.marks)))))))
def IL(x:Nat):List aH:=[(((x / 16777216:Nat):Int),()),(((x / 65536 % 256:Nat):Int),()),(((x / 256 % 256:Nat):Int),()),(((x % 256:Nat):Int),())]
def vA(b:List aH):List aH:=IL (crc b).toNat
def c6(m:MsgT):List aH:=eH m++vA (eH m)
theorem HT(ns:List aH):ByL (dG ns):=ByL.flat (λx=>eG _) ns
theorem BI(ns:List aH):ByL (dN ns):=(eG _).app (HT ns)
theorem QF(fs:List aR):ByL (tT fs):=(eG _).app (ByL.flat tV fs)
theorem rk2_by:ByL rk2:=λx hx=>by
 unfold rk2 at hx
 simp only[List.mem_cons,List.not_mem_nil,or_false] at hx
 rcases hx with rfl | rfl
 ·exact⟨82,rfl,by decide⟩
 ·exact⟨75,rfl,by decide⟩
theorem wH(m:MsgT):ByL (eH m):=rk2_by.app ((HT _).app ((BI _).app ((eG _).app ((BI _).app ((BI _).app ((eG _).app ((xL _).app (QF _))))))))
theorem ByL.b32{b:List aH}(h:ByL b):B32 b:=λx hx=>by
 obtain⟨y,hy,hy2⟩:=h x hx
 exact⟨by omega,by omega⟩
theorem SN{x:Nat}(h:x<4294967296):ByL (IL x):=λy hy=>by
 unfold IL at hy
 simp only[List.mem_cons,List.not_mem_nil,or_false] at hy
 rcases hy with rfl | rfl | rfl | rfl
 ·exact⟨_,rfl,by omega⟩
 ·exact⟨_,rfl,by omega⟩
 ·exact⟨_,rfl,by omega⟩
 ·exact⟨_,rfl,by omega⟩
theorem J8{b:List aH}(h:ByL b):(crc b).toNat<4294967296/\0<=crc b:=by
 have:=RM (bs:=b) h.b32
 have h1:=this.1;have h2:=this.2
 omega
theorem SO{b:List aH}(h:ByL b):ByL (vA b):=SN (J8 h).1
theorem OG(m:MsgT):ByL (c6 m):=(wH m).app (SO (wH m))
theorem u9(b:List aH):(vA b).length=4:=rfl
-- numbers of a right message
structure MsgR (m:MsgT):Prop where
 head:∀ x∈fT m,InN x.1
 tree:m.tree.1.length<=4/\∀ x∈m.tree.1,InN x.1
 root:InN m.tree.2.1
 vec:m.vec.length<=5/\∀ x∈m.vec,InN x.1
 leaves:m.leaves.length<=4/\∀ x∈m.leaves,InN x.1
 part:aM m.part=true
 marks:m.marks.length<=5/\∀ f∈m.marks,InN f.1/\InN f.2.1
theorem R7{v:List aH}{top:Int}(h:lM v top=true)(ht:top<=2147483647):∀ x∈v,InN x.1:=λx hx=>by
 obtain⟨i,hi,rfl⟩:=fR hx
 exact InN.of (bJ.1 h i hi) ht
theorem qA{m:MsgT}(h:dZ m=true):MsgR m:=by
 have hl:=BJ h
 unfold dZ qB at h
 simp only[Bool.and_eq_true] at h
 obtain⟨⟨h1,h2,h3,_⟩,h4,h5,h6,h7,h8,h9,h10,h11⟩:=h
 rw[decide_eq_true_eq] at h9
 refine⟨λx hx=>?_,?_,?_,⟨by omega,R7 h5 (by decide)⟩,⟨hl,λx hx=>?_⟩,h10,⟨NJ h11,λf hf=>?_⟩⟩
 ·unfold fT at hx
  simp only[List.mem_cons,List.not_mem_nil,or_false] at hx
  rcases hx with rfl | rfl | rfl | rfl | rfl
  ·exact InN.of h1 (by decide)
  ·exact InN.of (h2:inB _ 0 4=true) (by decide)
  ·exact InN.of (h3:inB _ 0 4=true) (by decide)
  ·exact InN.of h6 (by decide)
  ·exact InN.of h7 (by decide)
 ·unfold treeB at h8
  cases he:(m.tree.1.length:Int)==0 with
  | true=>
   simp_all
  | false=>
   rw[he] at h8
   have h8:((m.tree.1.length:Int)==4&&(lM m.tree.1 1023&&inB m.tree.2.1 0 1023))=true:=h8
   rw[Bool.and_eq_true] at h8
   have h8a:=eq_of_beq h8.1
   have h8b:=h8.2
   rw[Bool.and_eq_true] at h8b
   exact⟨by omega,R7 h8b.1 (by decide)⟩
 ·unfold treeB at h8
  cases he:(m.tree.1.length:Int)==0 with
  | true=>
   rw[he] at h8
   have h8:(m.tree.2.1==0)=true:=h8
   rw[beq_iff_eq] at h8
   show InN m.tree.2.1
   rw[h8];rfl
  | false=>
   rw[he] at h8
   have h8:((m.tree.1.length:Int)==4&&(lM m.tree.1 1023&&inB m.tree.2.1 0 1023))=true:=h8
   simp only[Bool.and_eq_true] at h8
   exact InN.of h8.2.2 (by decide)
 ·obtain⟨i,hi,rfl⟩:=fR hx
  have:=bJ.1 h4 i hi
  unfold v6 at this
  simp only[Bool.and_eq_true] at this
  exact InN.of this.1 (by decide)
 ·obtain⟨i,hi,rfl⟩:=fR hf
  have:=sN h11 hi
  unfold InN;rw[aQ,aQ];omega
theorem mP(ns:List aH):(dG ns).length<=ns.length*5:=by
 unfold dG;rw[<- cI];exact dH λi hi=>bB _
theorem CB{m:MsgT}(h:MsgR m):(eH m).length<=500:=by
 have h1:=mP (fT m);have h2:=mP m.tree.1;have h3:=mP m.vec;have h4:=mP m.leaves
 have h5:=pI ((aP _).1 h.part)
 have h6:(m.marks.flatMap aY).length<=m.marks.length*10:=by rw[<- cI];exact dH λi hi=>f6 _
 have n1:=bB (m.tree.1.length:Int);have n2:=bB m.tree.2.1;have n3:=bB (m.vec.length:Int);have n4:=bB (m.leaves.length:Int)
 have n5:=bB (((bO m.part).length:Nat):Int);have n6:=bB (m.marks.length:Int)
 have l1:=h.tree.1;have l2:=h.vec.1;have l3:=h.leaves.1;have l4:=h.marks.1
 have l5:(fT m).length=5:=rfl
 have l6:rk2.length=2:=rfl
 unfold eH dN tT
 simp only[List.length_append]
 grind
theorem B9{m:MsgT}(h:dZ m=true):(c6 m).length<=504:=by
 have:=CB (qA h)
 unfold c6;rw[List.length_append,u9];omega
def bD(m:MsgT):List aH:=bif dZ m then c6 m else[]
theorem nN(m:MsgT):ByL (bD m):=by
 unfold bD;cases dZ m with
 | true=>exact OG m
 | false=>exact λx hx=>by grind
theorem v4(m:MsgT):(bD m).length<=504:=by
 unfold bD;cases h:dZ m with
 | true=>exact B9 h
 | false=>simp
-- the reader of messages, by the ways of reading lists
def mR(b:List aH):RdT:=(b.take (b.length - 4),2,false,())
section
variable (N:Int->RdT->List aH×RdT) (r:RdT)
def mgA:List aH×RdT:=N 4 (rdK r 5)
def mgB:Int×RdT:=aO (mgA N r).2
def mgC:List aH×RdT:=N 5 (mgB N r).2
def mgD:List aH×RdT:=N 4 (mgC N r).2
def mgE:Int×RdT:=aO (mgD N r).2
def oV:Bool:=(mgE N r).2.2.2.1||decide ((mgE N r).1>(((mgE N r).2.1.length:Nat):Int) - (mgE N r).2.2.1)
def fJ:List aH:=((mgE N r).2.1.take ((mgE N r).2.2.1+(mgE N r).1).toNat).drop (mgE N r).2.2.1.toNat
def mgR:RdT:=((mgE N r).2.1,(mgE N r).2.2.1+(mgE N r).1,(mgE N r).2.2.2.1,())
def mgM(s:aE)(fs:List aR):MsgT:=(rdV r 0,rdV r 1,rdV r 2,rdV r 3,rdV r 4,(mgA N r).1,(mgB N r).1,(mgC N r).1,(mgD N r).1,s.1,s.2.1,fs,())
end
def KQ(N:Int->RdT->List aH×RdT):Prop:=∀ (k:Int) (ns:List aH),(ns.length:Int)<=k->k<=5->(∀ x∈ns,InN x.1)->mD (N k) (dN ns) ns
def NI(k:Int)(r:RdT):List aH×RdT:=lX r k
def NS(k:Int)(r:RdT):List aH×RdT:=cX r 1
theorem PL:KQ NI:=λk ns hl hk h b u v hb=>by
 unfold dN at hb ⊢
 have h1:=tF (InN.nat (show ns.length<=2147483647 by omega)) hl b u (dG ns++v) (by rw[hb];simp)
 have h2:=p4 (f:=wY) (xs:=ns) (e:=λx=>aG x.1) (λx hx=>I4 (h x hx)) b (u++aG (ns.length:Int)) v (by rw[hb];simp only[List.append_assoc];rfl)
 show lX _ k=_
 unfold lX
 have h1:eW (b,(u.length:Int),false,()) k=_:=h1
 rw[h1]
 show cN wY _ ((ns.length:Int)).toNat=_
 rw[Int.toNat_natCast]
 exact h2.trans (by rw[List.append_assoc];rfl)
theorem PK:KQ NS:=λk ns hl hk h=>yJ (t:=1) (by omega) (by omega) h
theorem QB{N:Int->RdT->List aH×RdT}(hN:KQ N){m:MsgT}(h:MsgR m){b:List aH}(hb:b=eH m):
  oV N (b,2,false,())=false/\fJ N (b,2,false,())=bO m.part/\mgM N (b,2,false,()) m.part m.marks=m/\
  ∃ u:List aH,b=u++(tT m.marks++[])/\mgR N (b,2,false,())=(b,(u.length:Int),false,()):=by
 have h0:((b,2,false,()):RdT)=(b,(rk2.length:Int),false,()):=rfl
 rw[h0]
 have hb:=hb
 unfold eH at hb
 have c0:=oP (ns:=fT m) h.head hb 5 (Nat.le_refl _)
 rw[show(fT m).take 5=fT m from rfl] at c0
 have v0:=wV (ns:=fT m) h.head hb
 have c1:mgA N (b,(rk2.length:Int),false,())=_:=(congrArg (N 4) c0).trans (hN 4 m.tree.1 (by have:=h.tree.1;omega) (by decide) h.tree.2 b _ _ (by rw[hb];rfl))
 have c2:mgB N (b,(rk2.length:Int),false,())=_:=(congrArg (λq:List aH×RdT=>aO q.2) c1).trans (iT h.root b _ _ (by rw[hb];simp only[List.append_assoc];rfl))
 have c3:mgC N (b,(rk2.length:Int),false,())=_:=(congrArg (λq:Int×RdT=>N 5 q.2) c2).trans (hN 5 m.vec (by have:=h.vec.1;omega) (by decide) h.vec.2 b _ _ (by rw[hb];simp only[List.append_assoc];rfl))
 have c4:mgD N (b,(rk2.length:Int),false,())=_:=(congrArg (λq:List aH×RdT=>N 4 q.2) c3).trans (hN 4 m.leaves (by have:=h.leaves.1;omega) (by decide) h.leaves.2 b _ _ (by rw[hb];simp only[List.append_assoc];rfl))
 have hl:=pI ((aP _).1 h.part)
 have c5:mgE N (b,(rk2.length:Int),false,())=_:=(congrArg (λq:List aH×RdT=>aO q.2) c4).trans (iT (x:=(((bO m.part).length:Nat):Int)) (InN.nat (by omega)) b _ _ (by rw[hb];simp only[List.append_assoc];rfl))
 generalize hu:rk2++dG (fT m)++dN m.tree.1++aG m.tree.2.1++dN m.vec++dN m.leaves++aG (((bO m.part).length:Nat):Int)=U at c5
 have hb2:b=U++(bO m.part++tT m.marks):=by rw[hb,<- hu];simp
 have hbl:b.length=U.length+((bO m.part).length+(tT m.marks).length):=by rw[hb2,List.length_append,List.length_append]
 refine⟨?_,?_,?_,U++bO m.part,?_,?_⟩
 ·unfold oV;rw[c5]
  grind
 ·unfold fJ;rw[c5]
  show(b.take ((U.length:Int)+(((bO m.part).length:Nat):Int)).toNat).drop ((U.length:Int)).toNat=_
  rw[show((U.length:Int)+(((bO m.part).length:Nat):Int)).toNat=U.length+(bO m.part).length by omega,Int.toNat_natCast,hb2]
  exact tW _ _ _
 ·unfold mgM;rw[c1,c2,c3,c4,v0 0 (show 0<5 by omega),v0 1 (show 1<5 by omega),v0 2 (show 2<5 by omega),v0 3 (show 3<5 by omega),v0 4 (show 4<5 by omega)];rfl
 ·rw[hb2];simp
 ·unfold mgR;rw[c5]
  simp
-- the program's reader of messages
def miC(b:List aH):Int×RdT:=eW (mgR NI (mR b)) 5
def miF(b:List aH):List aR×RdT:=cN eB (miC b).2 (miC b).1.toNat
def miM(b:List aH)(s:aE):MsgT:=mgM NI (mR b) s (miF b).1
def cW(b:List aH):Option MsgT:=bif decide (i64.wrap ((b.length:Int) - 4)<2)then none else bif !cH (b.take 2) rk2 then none else bif oV NI (mR b)then none else
 match cF (fJ NI (mR b))with
 | none=>none
 | some s=>bif(miF b).2.2.2.1||(!dZ (miM b s)|| !cH (bD (miM b s)) b)then none else some (miM b s)
-- the reference's
def msF(b:List aH):List aR×RdT:=flR (mgR NS (mR b))
def msM(b:List aH):MsgT:=mgM NS (mR b) ((cF (fJ NS (mR b))).getD iK) (msF b).1
def f0(b:List aH):Option MsgT:=bif decide ((b.length:Int)<6)then none else bif !cH (vA (b.take (b.length - 4))) (b.drop (b.length - 4))then none else bif oV NS (mR b)then none else
 bif(cF (fJ NS (mR b))).isNone||((msF b).2.2.2.1||(!dZ (msM b)|| !cH (bD (msM b)) b))then none else some (msM b)
theorem DD{b:List aH}{m:MsgT}(h:cW b=some m):dZ m=true/\cH (bD m) b=true:=by
 unfold cW at h
 grind
theorem NE{b:List aH}{m:MsgT}(h:f0 b=some m):dZ m=true/\cH (bD m) b=true:=by
 unfold f0 at h
 grind
theorem CA(m:MsgT):(c6 m).length - 4=(eH m).length/\(c6 m).take ((c6 m).length - 4)=eH m/\(c6 m).drop ((c6 m).length - 4)=vA (eH m):=by
 have e:(c6 m).length - 4=(eH m).length:=by unfold c6;rw[List.length_append,u9];omega
 rw[e]
 exact⟨rfl,List.take_left' rfl,List.drop_left' rfl⟩
theorem D1(m:MsgT):2<=(eH m).length:=by unfold eH;rw[List.length_append];exact Nat.le_add_right 2 _
theorem A6{m:MsgT}(h:dZ m=true):cW (c6 m)=some m:=by
 have hr:=qA h
 obtain⟨p1,p2,p3⟩:=CA m
 have h2:=D1 m
 have hl:=B9 h
 obtain⟨q1,q2,q3,u,q4,q5⟩:=QB PL hr rfl
 have e:mR (c6 m)=(eH m,2,false,()):=by unfold mR;rw[p2]
 have ht:(c6 m).take 2=rk2:=by rfl
 have c1:miC (c6 m)=_:=(congrArg (λr:RdT=>eW (mgR NI r) 5) e).trans ((congrArg (λr:RdT=>eW r 5) q5).trans
  (tF (m:=5) (InN.nat (show m.marks.length<=2147483647 by have:=hr.marks.1;omega)) (by have:=hr.marks.1;omega) (eH m) u (m.marks.flatMap aY++[]) (q4.trans (by unfold tT;simp))))
 have c2:miF (c6 m)=(m.marks,(eH m,(((u++aG (m.marks.length:Int)++m.marks.flatMap aY).length:Nat):Int),false,())):=by
  unfold miF;rw[c1]
  show cN eB _ ((m.marks.length:Int)).toNat=_
  rw[Int.toNat_natCast]
  exact p4 (yV hr.marks.2) (eH m) _ [] (q4.trans (by unfold tT;simp))
 have c3:miM (c6 m) m.part=m:=by unfold miM;rw[c2,e];omega
 have hw:i64.wrap ((((c6 m).length:Nat):Int) - 4)=(((c6 m).length:Nat):Int) - 4:=by rw[IntKind.wrap_i64];omega
 unfold cW
 rw[hw,decide_eq_false (show ¬ ((((c6 m).length:Nat):Int) - 4<2) by omega),ht,i7,e,q1,q2,mF hr.part]
 show(bif(miF (c6 m)).2.2.2.1||(!dZ (miM (c6 m) m.part)|| !cH (bD (miM (c6 m) m.part)) (c6 m))then none else some (miM (c6 m) m.part))=some m
 rw[c3,c2,h,show bD m=c6 m by unfold bD;rw[h];rfl,i7];rfl
theorem I8{m:MsgT}(h:dZ m=true):f0 (c6 m)=some m:=by
 have hr:=qA h
 obtain⟨p1,p2,p3⟩:=CA m
 have h2:=D1 m
 obtain⟨q1,q2,q3,u,q4,q5⟩:=QB PK hr rfl
 have e:mR (c6 m)=(eH m,2,false,()):=by unfold mR;rw[p2]
 have c2:msF (c6 m)=(m.marks,(eH m,(((u++tT m.marks).length:Nat):Int),false,())):=by
  unfold msF;rw[e,q5]
  exact DU (show m.marks.length<=100 by have:=hr.marks.1;omega) hr.marks.2 (eH m) u [] q4
 have c3:msM (c6 m)=m:=by unfold msM;rw[c2,e,q2,mF hr.part];grind
 unfold f0
 rw[decide_eq_false (show ¬ ((((c6 m).length:Nat):Int)<6) by omega),p2,p3,i7,c3,c2,e,q1,q2,mF hr.part,h,show bD m=c6 m by unfold bD;rw[h];rfl,i7];rfl
theorem lQ{m:MsgT}(h:dZ m=true):bD m=c6 m:=by unfold bD;rw[h];rfl
theorem TF{b:List aH}(hb:ByL b):f0 b=cW b:=by
 cases h:cW b with
 | some m=>
  obtain⟨h1,h2⟩:=DD h
  have e:=(nS (nN m) hb).1 h2
  rw[<- e,lQ h1];exact I8 h1
 | none=>
  cases h2:f0 b with
  | none=>rfl
  | some m=>
   obtain⟨h3,h4⟩:=NE h2
   have e:=(nS (nN m) hb).1 h4
   rw[<- e,lQ h3,A6 h3] at h;omega
end Go.Abs
-- bytes of sums; sizes of what readers yield: plain laws
namespace Go.Abs
open Go
theorem uV(x:Nat):IntKind.u8.wrap (x:Int)=((x % 256:Nat):Int):=by
 rfl
theorem FW{x:Nat}(h:x<4294967296):s9 .i64 (x:Int) 255=((x % 256:Nat):Int):=by
 unfold s9
 have e:(BitVec.ofInt i64.bits (x:Int)&&& BitVec.ofInt i64.bits 255).toNat=x % 256:=by
  rw[BitVec.toNat_and]
  have e1:(BitVec.ofInt i64.bits (x:Int)).toNat=x:=by
   rw[BitVec.toNat_ofInt];show((x:Int) % ((2 ^ 64:Nat):Int)).toNat=x;omega
  have e2:(BitVec.ofInt i64.bits 255).toNat=2 ^ 8 - 1:=by decide
  rw[e1,e2,Nat.and_two_pow_sub_one_eq_mod]
 rw[e,IntKind.wrap_i64];omega
theorem EO(x:Nat)(s:Nat)(hs:s<=64)(d:Nat)(hd:2 ^ s=d):uA .i64 (x:Int) (s:Int)=((x / d:Nat):Int):=by
 unfold uA
 rw[Int.toNat_natCast,show min s i64.bits=s from Nat.min_eq_left hs,Int.fdiv_eq_ediv_of_nonneg _ (Int.le_of_lt (Int.pow_pos (by decide)))]
 rw[show((2:Int) ^ s)=((d:Nat):Int) by rw[<- hd];rfl]
 rfl
theorem O8{x:Int}(h0:0<=x)(h:x.toNat<4294967296):
  ([((IntKind.u8.wrap (s9 i64 (uA i64 x (24:Int)) (255:Int))),()),((IntKind.u8.wrap (s9 i64 (uA i64 x (16:Int)) (255:Int))),()),((IntKind.u8.wrap (s9 i64 (uA i64 x (8:Int)) (255:Int))),()),((IntKind.u8.wrap (s9 i64 x (255:Int))),())]:List aH)=IL x.toNat:=by
 obtain⟨n,rfl⟩:∃ n:Nat,x=(n:Int):=⟨x.toNat,by omega⟩
 rw[Int.toNat_natCast] at h ⊢
 have e1:uA .i64 (n:Int) (24:Int)=((n / 16777216:Nat):Int):=EO n 24 (by decide) _ rfl
 have e2:uA .i64 (n:Int) (16:Int)=((n / 65536:Nat):Int):=EO n 16 (by decide) _ rfl
 have e3:uA .i64 (n:Int) (8:Int)=((n / 256:Nat):Int):=EO n 8 (by decide) _ rfl
 rw[e1,e2,e3,FW (show n / 16777216<4294967296 by omega),FW (show n / 65536<4294967296 by omega),FW (show n / 256<4294967296 by omega),FW h,uV,uV,uV,uV]
 unfold IL
 rw[show n / 16777216 % 256 % 256=n / 16777216 by omega,show n / 65536 % 256 % 256=n / 65536 % 256 by omega,show n / 256 % 256 % 256=n / 256 % 256 by omega,show n % 256 % 256=n % 256 by omega]
theorem z4(n d:Nat):((n:Int)).tdiv (d:Int)=((n / d:Nat):Int):=by
 rw[Int.tdiv_eq_ediv_of_nonneg (by omega)];rfl
theorem z2(n d:Nat):((n:Int)).tmod (d:Int)=((n % d:Nat):Int):=by
 rw[Int.tmod_eq_emod_of_nonneg (by omega)];rfl
theorem O7{x:Int}(h0:0<=x)(h:x.toNat<4294967296):
  ([((IntKind.u8.wrap (i64.wrap (x.tdiv (16777216:Int)))),()),((IntKind.u8.wrap ((i64.wrap (x.tdiv (65536:Int))).tmod (256:Int))),()),((IntKind.u8.wrap ((i64.wrap (x.tdiv (256:Int))).tmod (256:Int))),()),((IntKind.u8.wrap (x.tmod (256:Int))),())]:List aH)=IL x.toNat:=by
 obtain⟨n,rfl⟩:∃ n:Nat,x=(n:Int):=⟨x.toNat,by omega⟩
 rw[Int.toNat_natCast] at h ⊢
 have e1:((n:Int)).tdiv (16777216:Int)=((n / 16777216:Nat):Int):=z4 n 16777216
 have e2:((n:Int)).tdiv (65536:Int)=((n / 65536:Nat):Int):=z4 n 65536
 have e3:((n:Int)).tdiv (256:Int)=((n / 256:Nat):Int):=z4 n 256
 rw[e1,e2,e3,zB (show n / 16777216<9223372036854775808 by omega),zB (show n / 65536<9223372036854775808 by omega),zB (show n / 256<9223372036854775808 by omega)]
 have m2:(((n / 65536:Nat):Int)).tmod (256:Int)=((n / 65536 % 256:Nat):Int):=z2 _ 256
 have m3:(((n / 256:Nat):Int)).tmod (256:Int)=((n / 256 % 256:Nat):Int):=z2 _ 256
 have m4:((n:Int)).tmod (256:Int)=((n % 256:Nat):Int):=z2 _ 256
 rw[m2,m3,m4,uV,uV,uV,uV]
 unfold IL
 rw[show n / 16777216 % 256=n / 16777216 by omega,show n / 65536 % 256 % 256=n / 65536 % 256 by omega,show n / 256 % 256 % 256=n / 256 % 256 by omega,show n % 256 % 256=n % 256 by omega]
-- ways of reading lists
def VT(N:Int->RdT->List aH×RdT):Prop:=∀ k r,0<=k->k<=5->RdOk r->RdOk (N k r).2/\(N k r).2.1=r.1/\(N k r).1.length<=100
theorem WJ:VT NI:=λk r h0 h5 h=>⟨h.nums k,GP r k,by have:=IX r h0;show(lX r k).1.length<=100;omega⟩
theorem WI:VT NS:=λk r h0 h5 h=>⟨h.many 1,JB r 1,by have:=tJ r 1;show(cX r 1).1.length<=100;omega⟩
structure MgOk (N:Int->RdT->List aH×RdT) (r:RdT):Prop where
 a:RdOk (mgA N r).2
 b:RdOk (mgB N r).2
 c:RdOk (mgC N r).2
 d:RdOk (mgD N r).2
 e:RdOk (mgE N r).2
 list:(mgE N r).2.1=r.1
 len:(mgA N r).1.length<=100/\(mgC N r).1.length<=100/\(mgD N r).1.length<=100
 nn:0<=(mgE N r).1/\(mgE N r).1<=2147483647
theorem UF{N:Int->RdT->List aH×RdT}(hN:VT N){r:RdT}(h:RdOk r):MgOk N r:=by
 have h5:=h.k 5
 have hA:=hN 4 _ (by decide) (by decide) h5
 have hB:RdOk (mgB N r).2:=hA.1.num
 have hC:=hN 5 _ (by decide) (by decide) hB
 have hD:=hN 4 _ (by decide) (by decide) hC.1
 have hE:RdOk (mgE N r).2:=hD.1.num
 have q:=tG (mgD N r).2
 refine⟨hA.1,hB,hC.1,hD.1,hE,?_,⟨hA.2.2,hC.2.2,hD.2.2⟩,⟨q.2.2.1,q.2.2.2.1⟩⟩
 have e1:(mgE N r).2.1=(mgD N r).2.1:=q.1
 have e2:(mgD N r).2.1=(mgC N r).2.1:=hD.2.1
 have e3:(mgC N r).2.1=(mgB N r).2.1:=hC.2.1
 have e4:(mgB N r).2.1=(mgA N r).2.1:=gM _
 have e5:(mgA N r).2.1=(rdK r 5).1:=hA.2.1
 rw[e1,e2,e3,e4,e5];exact vR r 5
theorem QD{N:Int->RdT->List aH×RdT}{r:RdT}(h:MgOk N r){s:aE}(hs:SzS s){fs:List aR}(hf:fs.length<=100):SzM (mgM N r s fs):=
 ⟨Nat.le_trans h.len.1 (by decide),Nat.le_trans h.len.2.1 (by decide),Nat.le_trans h.len.2.2 (by decide),hs,Nat.le_trans hf (by decide)⟩
theorem vC{b:List aH}{s:aE}(h:cF b=some s):StateOk s:=(aP s).1 (yC h).1
theorem E4{s:aE}(h:StateOk s):SzS s:=⟨Nat.le_trans h.len.1 (by decide),Nat.le_trans h.len.2 (by decide)⟩
theorem UG{b:List aH}(hb:B8 b)(hl:b.length<=aV)(h6:6<=b.length):RdOk (mR b) where
 b8:=(hb.byL.sub λx hx=>List.mem_of_mem_take hx).b8
 len:=by show(b.take (b.length - 4)).length<=aV;rw[List.length_take];omega
 lo:=by show(0:Int)<=2;omega
 hi:=by show(2:Int)<=(((b.take (b.length - 4)).length:Nat):Int);rw[List.length_take];omega
theorem QC{N:Int->RdT->List aH×RdT}{r:RdT}(h:MgOk N r)(hb:oV N r=false):RdOk (mgR N r):=by
 unfold oV at hb
 simp only[Bool.or_eq_false_iff,decide_eq_false_iff_not] at hb
 have hn:=h.nn
 have lo:=h.e.lo;have hi:=h.e.hi
 exact⟨h.e.b8,h.e.len,by show 0<=(mgE N r).2.2.1+(mgE N r).1;omega,by show(mgE N r).2.2.1+(mgE N r).1<=(((mgE N r).2.1.length:Nat):Int);omega⟩
theorem A5{b:List aH}{m:MsgT}(h:cW b=some m):SzM m:=by
 have hr:=qA (DD h).1
 exact⟨Nat.le_trans hr.tree.1 (by decide),Nat.le_trans hr.vec.1 (by decide),Nat.le_trans hr.leaves.1 (by decide),E4 ((aP _).1 hr.part),Nat.le_trans hr.marks.1 (by decide)⟩
theorem WK(a b:Int):∃ y:Nat,jQ .u8 a b=(y:Int)/\y<=255:=by
 unfold jQ
 rw[uV]
 exact⟨_,rfl,by omega⟩
theorem VL{b:List aH}(h:ByL b)(i:Nat)(x y:Int)(u:Unit):ByL (b.set i (jQ .u8 x y,u)):=λz hz=>by
 rcases List.mem_or_eq_of_mem_set hz with h1 | h1
 ·exact h z h1
 ·rw[h1];exact WK x y
end Go.Abs
-- what was said, in order and FS: plain laws
namespace Go.Abs
open Go
theorem oG{w:aZ}(h:bS w=true):1<=w.1.length/\w.1.length<=5/\w.2.1.length<=12/\w.2.2.1.length<=40:=by
 unfold bS at h
 simp only[Bool.and_eq_true,aQ,Bool.not_eq_true',decide_eq_false_iff_not] at h
 omega
-- FS
end Go.Abs
-- one changed byte spoils a message: plain laws
namespace Go.Abs
open Go
end Go.Abs
-- a world in order, told by its parts: plain laws
namespace Go.Abs
open Go
structure WOk (w:aZ):Prop where
 n:1<=w.1.length/\w.1.length<=5
 net:w.2.1.length<=12
 said:w.2.2.1.length<=40
 node:∀ i,i<w.1.length->NodeOk (gt w.1 i)/\(gt w.1 i).2.1=(w.1.length:Int)/\(gt w.1 i).1=(i:Int)
 to:∀ p∈w.2.1,0<=p.1/\p.1<(w.1.length:Int)
 part:∀ p∈w.2.2.1,(0<=p.1/\p.1<(w.1.length:Int))/\StateOk p.2
theorem QX{x:Int}{n:Nat}(h:n<=5):inB x 0 (i64.wrap ((n:Int) - 1))=true↔0<=x/\x<(n:Int):=by
 rw[aQ,IntKind.wrap_i64];omega
theorem k8(w:aZ):bS w=true↔WOk w:=by
 unfold bS lP jF
 simp only[Bool.and_eq_true,bJ,aQ,Bool.not_eq_true',decide_eq_false_iff_not,beq_iff_eq]
 constructor
 ·rintro ⟨h1,h2,h3,h4,h5,h6⟩
  have h7:w.1.length<=5:=by omega
  refine⟨by omega,by omega,by omega,λi hi=>⟨(dW _).1 (h4 i hi).1,(h4 i hi).2.1,(h4 i hi).2.2⟩,λp hp=>?_,λp hp=>?_⟩
  ·obtain⟨i,hi,rfl⟩:=fR hp
   exact(QX h7).1 (aQ.2 (h5 i hi))
  ·obtain⟨i,hi,rfl⟩:=fR hp
   exact⟨(QX h7).1 (aQ.2 (h6 i hi).1),(aP _).1 (h6 i hi).2⟩
 ·intro h
  have h7:=h.n.2
  refine⟨⟨by have:=h.n;omega,by omega⟩,by have:=h.net;omega,by have:=h.said;omega,λi hi=>⟨(dW _).2 (h.node i hi).1,(h.node i hi).2⟩,λi hi=>aQ.1 ((QX h7).2 (h.to _ (bZ hi))),λi hi=>⟨aQ.1 ((QX h7).2 (h.part _ (bZ hi)).1),(aP _).2 (h.part _ (bZ hi)).2⟩⟩
end Go.Abs
