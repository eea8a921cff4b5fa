/- A by-value reading of the model, and its soundness, part 3. -/
import Derived.Test.YtmamlgjbendjhaaGreatW2
import Derived.Lib.Bytealg
set_option linter.unusedVariables false
/- Plain laws: what the judges decide. -/
open Go.IntKind (i64)
namespace Go.Abs
theorem FI{s:aD}(hs:aJ s=false)(id:Int):gone s id=0:=by unfold gone;rw[hs];rfl
theorem qK{β:Type}{q r:Prop}[Decidable q][Decidable r]{x y:β}(h:q)(h':r):(bif decide q&&decide r then x else y)=x:=by
 rw[decide_eq_true h,decide_eq_true h'];rfl
-- own
-- views
-- heard
-- seen
theorem DS{s:aD}(h:StateOk s){f:aK}(hf:f∈s.2.1):cH s.2.1 f.1=f.2.1:=by
 rcases eJ s f.1 with ⟨x,hx,h1,e⟩ | ⟨h1,_⟩
 ·have:x=f:=by
   obtain⟨i,hi,rfl⟩:=gN hx
   obtain⟨j,hj,rfl⟩:=gN hf
   have hp:=h.floors
   rw[List.pairwise_iff_getElem] at hp
   rcases Nat.lt_trichotomy i j with h2 | h2 | h2
   ·have:=hp i j hi hj h2;rw[<- dC hi,<- dC hj] at this;omega
   ·rw[h2]
   ·have:=hp j i hj hi h2;rw[<- dC hi,<- dC hj] at this;omega
  rw[e,this]
 ·exact absurd rfl (h1 f hf)
theorem QQ{s:aD}(hs:aJ s=true)(id:Int):0<=gone s id:=by
 have ok:=(aM s).1 hs
 unfold gone;rw[hs]
 rcases eK s id with ⟨x,hx,_,e⟩ | ⟨_,e⟩
 ·rw[e]
  have:=(ok.item x hx).2.1
  unfold dY at this;simp only[Bool.and_eq_true,aQ] at this
  show 0<=(bif x.2.2.1==0 then i64.wrap (x.2.1 - 1)else x.2.1)
  rw[CT (by omega) (by omega)]
  cases x.2.2.1==0 with
  | false=>show 0<=x.2.1;omega
  | true=>show 0<=x.2.1 - 1;omega
 ·rw[e]
  show 0<=cH s.2.1 id
  rcases eJ s id with ⟨x,hx,_,e⟩ | ⟨_,e⟩
  ·rw[e];exact ok.pos.floor x hx
  ·omega
-- PU, NT, grown
def PU(w:iU):Bool:=tF w&&bL w.1.length λi=>JY (rS (gt w.1 i).state) (rS (TT w))
def n8(s:aD)(id:Int):bD×Bool:=bA (rS s,[],()) id
def I4(w:iU)(id:Int):Nat->Int
 | 0=>0
 | k+1=>I4 w id k+LP (n8 (gt w.1 k).state id).2
def NT(w:iU)(id:Int):Int:=bif tF w then I4 w id w.1.length else 0
end Go.Abs
/- Plain laws: differences of views applied, and what they are. -/
namespace Go.Abs
end Go.Abs
/- Plain laws: draws. -/
namespace Go.Abs
abbrev dZ:=List aH×Int×Int×Unit
structure CurOk (c:dZ):Prop where
 len:c.1.length<=1048576
 lo:0<=c.2.1
 hi:c.2.1<=c.1.length
theorem yI(a:Int):0<=pC .i64 a 255/\pC .i64 a 255<=255:=by
 unfold pC
 have h:(BitVec.ofInt i64.bits a&&& BitVec.ofInt i64.bits 255).toNat<=255:=by
  rw[BitVec.toNat_and];exact Nat.le_trans Nat.and_le_right (by decide)
 generalize (BitVec.ofInt i64.bits a&&& BitVec.ofInt i64.bits 255).toNat=m at h
 have e:i64.wrap (m:Int)=m:=by rw[IntKind.wrap_i64];omega
 rw[e];omega
theorem tL{x n:Int}(hx:0<=x)(hn:0<n):0<=x.tmod n/\x.tmod n<n:=by
 rw[Int.tmod_eq_emod_of_nonneg hx]
 exact⟨Int.emod_nonneg _ (by omega),Int.emod_lt_of_pos _ hn⟩
theorem OW{β:Type}{o:Option Out}{A B:List Kd}{r:Row A}{s:Row B}{f:Rows [A]×Rows [B]->Option β}(h:o=some ⟨[⟨A,r⟩],[⟨B,s⟩]⟩):(o.bind (cS [A] [B])).bind f=f ((r,()),(s,())):=by
 rw[h];simp[cS,eX,jD];rfl
theorem AO{β:Type}{o:Option Out}{A B:List Kd}{r:Row A}{s:Row B}{f:Rows [A,B]×Rows []->Option β}(h:o=some ⟨[⟨A,r⟩,⟨B,s⟩],[]⟩):(o.bind (cS [A,B] [])).bind f=f ((r,s,()),()):=by
 rw[h];simp[cS,eX,jD];rfl
/-- A loop whose rounds are told by what they keep. -/
theorem It.ex {ι σ:Type} {lvl:Nat} {c:Nat->Nat->ι->(σ->Option Out)->σ->Option Out} (Inv:Nat->σ->Prop) (Good:Out->Prop) (N:Nat)
  (hs:∀ i x,i<N->Inv i x->∃ y,Inv (i+1) y/\∀ n,lvl<=n->∀ aA a rec,c n aA a rec x=rec y)
  (he:∀ x,Inv N x->∃ o,Good o/\∀ n,lvl<=n->It (c n) x (λ_=>some o)):∀ (m j:Nat) x,j+m=N->Inv j x->∃ o,Good o/\∀ n,lvl<=n->It (c n) x (λ_=>some o)
 | 0,j,x,hj,hx=>he x ((show j=N by omega)▸hx)
 | m+1,j,x,hj,hx=>by
  obtain⟨y,hy,h⟩:=hs j x (by omega) hx
  obtain⟨o,ho,h'⟩:=It.ex Inv Good N hs he m (j+1) y (by omega) hy
  exact⟨o,ho,λn hn=>It.next (λaA a rec=>h n hn aA a rec) (h' n hn)⟩
def datas:List ByteArray:=[⟨#[]⟩,⟨#[97]⟩,⟨#[98]⟩,⟨#[97,98]⟩,⟨#[49,50,51,52,53,54,55,56]⟩,⟨#[49,50,51,52,53,54,55,56,57]⟩]
def PF(e:bD):Prop:=e.2.2.2.2.1∈datas
structure StD (k:Nat) (s:aD):Prop where
 a:s.1.length<=k
 b:s.2.1.length<=k
 data:∀ x∈s.1,PF x.2
theorem StD.sz{k:Nat}{s:aD}(h:StD k s)(hk:k<=1048576):SzS s:=⟨Nat.le_trans h.a hk,Nat.le_trans h.b hk⟩
theorem PH:PF cV:=List.mem_cons_self ..
theorem xI{P:bD->Prop}(hz:P cV){s:aD}(hs:∀ x∈s.1,P x.2)(i:Int):P (bA s i).1:=by
 unfold bA
 cases h:(List.range s.1.length).find? (λj=>(gt s.1 j).1==i)with
 | none=>exact hz
 | some j=>
  have hj:=List.mem_range.1 (List.mem_of_find?_eq_some h)
  show P (gt s.1 j).2
  rw[dC hj];exact hs _ (List.getElem_mem hj)
theorem jG{α:Type}{n:Nat}{g:Nat->List α}{x:α}(h:x∈bM n g):∃ i,i<n/\x∈g i:=by
 induction n with
 | zero=>exact(List.not_mem_nil h).elim
 | succ n ih=>
  rw[dD] at h
  rcases List.mem_append.1 h with h | h
  ·obtain⟨i,hi,hx⟩:=ih h;exact⟨i,by omega,hx⟩
  ·exact⟨n,by omega,h⟩
theorem KS{P:bD->Prop}(hz:P cV){a b:aD}(ha:∀ x∈a.1,P x.2)(hb:∀ x∈b.1,P x.2):∀ x∈(cM a b).1,P x.2:=by
 intro x hx
 obtain⟨i,_,hi⟩:=jG hx
 unfold dV at hi
 cases hc:decide ((eB a b (i:Int)).1>flr a b (i:Int))with
 | false=>rw[hc] at hi;exact(List.not_mem_nil hi).elim
 | true=>
  rw[hc] at hi
  have e:x=((i:Int),eB a b (i:Int)):=List.mem_singleton.1 hi
  subst e
  show P (eB a b (i:Int))
  unfold eB mxE
  cases decide (gC (bA a (i:Int)).1 (bA b (i:Int)).1<0)
  ·exact xI hz ha _
  ·exact xI hz hb _
theorem I5{j k:Nat}{a b:aD}(ha:StD j a)(hb:StD k b):StD 5 (cM a b):=⟨(kT a b).1,(kT a b).2,KS PH ha.data hb.data⟩
theorem iH{β:Type}{A B:Prop}[Decidable A][Decidable B]{X R:β}(h:¬ A\/¬ B):(bif decide A then(bif decide B then X else R)else R)=R:=by
 by_cases a:A
 ·rcases h with h | h
  ·exact absurd a h
  ·rw[decide_eq_true a,decide_eq_false h];rfl
 ·rw[decide_eq_false a];rfl
/-- The loop of a new cursor, and what comes behind it. -/
theorem It.new {lvl:Nat} {c:Nat->Nat->Unit->(Int×Int->Option Out)->Int×Int->Option Out} (Good:Out->Prop) (b:List aH) (hb:b.length<=1048576)
  (hs:∀ (i:Nat) (h:Int),i<b.length->i<4000->∃ h',∀ n,lvl<=n->∀ aA a rec,c n aA a rec (h,(i:Int))=rec (h',((i+1:Nat):Int)))
  (he:∀ (h i:Int),CurOk (b,0,h,())->(¬ i<(b.length:Int)\/¬ i<4000)->∃ o,Good o/\∀ n,lvl<=n->∃ M,∀ aA,M<=aA->∀ a rec,c n aA a rec (h,i)=some o) (h0:Int):
  ∃ o,Good o/\∀ n,lvl<=n->It (c n) (h0,(0:Int)) (λ_=>some o):=by
 refine It.ex (λi y=>∃ h,y=(h,(i:Int))) Good (min b.length 4000) ?_ ?_ (min b.length 4000) 0 (h0,(0:Int)) (by omega) ⟨h0,rfl⟩
 ·rintro i y hi ⟨h,rfl⟩
  obtain⟨h',hh⟩:=hs i h (by omega) (by omega)
  exact⟨_,⟨h',rfl⟩,hh⟩
 ·rintro y ⟨h,rfl⟩
  obtain⟨o,ho,hh⟩:=he h ((min b.length 4000:Nat):Int) ⟨hb,by show(0:Int)<=0;omega,by show(0:Int)<=(b.length:Int);omega⟩ (by omega)
  refine⟨o,ho,λn hn=>?_⟩
  obtain⟨M,hM⟩:=hh n hn
  refine⟨M+1,λaA k hf hk a=>?_⟩
  obtain⟨k,rfl⟩:∃ k',k=k'+1:=⟨k - 1,by omega⟩
  exact hM aA (by omega) a _
end Go.Abs
-- marks, tables, taking and receiving: plain laws
namespace Go.Abs
abbrev MsgT:=Int×Int×Int×Int×Int×List aH×Int×List aH×List aH×List bI×List aK×List aK×Unit
abbrev MsgT.hi(m:MsgT):Int:=m.2.2.2.2.1
abbrev MsgT.tree(m:MsgT):jL:=(m.2.2.2.2.2.1,m.2.2.2.2.2.2.1,())
abbrev MsgT.vec(m:MsgT):List aH:=m.2.2.2.2.2.2.2.1
abbrev MsgT.leaves(m:MsgT):List aH:=m.2.2.2.2.2.2.2.2.1
abbrev MsgT.part(m:MsgT):aD:=(m.2.2.2.2.2.2.2.2.2.1,m.2.2.2.2.2.2.2.2.2.2.1,())
abbrev MsgT.marks(m:MsgT):List aK:=m.2.2.2.2.2.2.2.2.2.2.2.1
structure SzM (m:MsgT):Prop where
 leaves:m.tree.1.length<=aN
 vec:m.vec.length<=aN
 list:m.leaves.length<=aN
 part:SzS m.part
 marks:m.marks.length<=aN
theorem rU(a b:Int):mxI true a b=max a b:=by unfold mxI;simp only[if_true];split<;>omega
theorem E4(a b:Int):mxI false a b=min a b:=by unfold mxI;simp only[Bool.false_eq_true,if_false];split<;>omega
-- lists in order
theorem rM{α:Type}{k:α->Int}{g:Nat->List α}(h1:∀ i,(g i).length<=1)(h:∀ i,∀ x∈g i,k x=(i:Int)):∀ n,(bM n g).Pairwise (λx y=>k x<k y)
 | 0=>by rw[wJ];exact List.Pairwise.nil
 | n+1=>by
  rw[dD,List.pairwise_append]
  refine⟨rM h1 h n,?_,λx hx y hy=>?_⟩
  ·match hg:g n with
   | []=>exact List.Pairwise.nil
   | [x]=>exact List.pairwise_singleton _ _
   | x::y::t=>have:=h1 n;rw[hg] at this;simp at this
  ·obtain⟨i,hi,hx⟩:=jG hx
   rw[h i x hx,h n y hy];omega
theorem oK{s:aD}(h:StateOk s)(i:Int):0<=cH s.2.1 i/\cH s.2.1 i<=1000:=by
 rcases eJ s i with ⟨x,hx,_,e⟩ | ⟨_,e⟩
 ·have:=(h.floor x hx).2;rw[aQ] at this;rw[e];omega
 ·rw[e];omega
theorem sX{s:aD}(h:StateOk s)(i:Int):(bA s i).1=cV\/dY (bA s i).1=true:=by
 rcases eK s i with ⟨x,hx,_,e⟩ | ⟨_,e⟩
 ·rw[e];exact .inr (h.item x hx).2.1
 ·rw[e];exact .inl rfl
theorem MT{a b:aD}(ha:StateOk a)(hb:StateOk b)(i:Int):eB a b i=cV\/dY (eB a b i)=true:=by
 unfold eB mxE
 cases decide (gC (bA a i).1 (bA b i).1<0)with
 | true=>exact sX hb i
 | false=>exact sX ha i
theorem OC{a b:aD}(ha:StateOk a)(hb:StateOk b)(i:Int):0<=flr a b i/\flr a b i<=1000:=by
 have h1:=oK ha i
 have h2:=oK hb i
 unfold flr;rw[rU];omega
theorem vV{a b:aD}{i:Nat}{x:bI}(h:x∈dV a b i):x=((i:Int),eB a b i)/\(eB a b i).1>flr a b i:=by
 unfold dV at h
 cases hd:decide ((eB a b i).1>flr a b i)with
 | false=>rw[hd] at h;cases h
 | true=>rw[hd] at h;exact⟨List.mem_singleton.1 h,of_decide_eq_true hd⟩
theorem oG{a b:aD}{i:Nat}{x:aK}(h:x∈dP a b i):x=((i:Int),flr a b i,())/\flr a b i>0:=by
 unfold dP at h
 cases hd:decide (flr a b i>0)with
 | false=>rw[hd] at h;cases h
 | true=>rw[hd] at h;exact⟨List.mem_singleton.1 h,of_decide_eq_true hd⟩
theorem DG{i:Nat}(h:i<5):eH (i:Int)=true:=by unfold eH;rw[aQ];omega
theorem StateOk.join{a b:aD}(ha:StateOk a)(hb:StateOk b):StateOk (cM a b) where
 item x hx:=by
  obtain⟨i,hi,hx⟩:=jG hx
  obtain⟨rfl,hg⟩:=vV hx
  have hf:=OC ha hb (i:Int)
  refine⟨DG hi,?_,?_⟩
  ·rcases MT ha hb (i:Int)with e | e
   ·rw[e] at hg;have h0:(0:Int)>flr a b i:=hg;omega
   ·exact e
  ·show cH (cM a b).2.1 (i:Int)<(eB a b i).1
   rcases eJ (cM a b) (i:Int)with ⟨f,hf',e1,e⟩ | ⟨_,e⟩
   ·obtain⟨j,_,hf'⟩:=jG hf'
    obtain⟨rfl,_⟩:=oG hf'
    have:(j:Int)=(i:Int):=e1
    rw[e];show flr a b (j:Int)<_;rw[this];omega
   ·rw[e];omega
 items:=rM (k:=λx:bI=>x.1) (rK a b) (λi x hx=>by rw[(vV hx).1]) 5
 floor f hf:=by
  obtain⟨i,hi,hf⟩:=jG hf
  obtain⟨rfl,hg⟩:=oG hf
  have:=OC ha hb (i:Int)
  refine⟨DG hi,?_⟩
  rw[aQ];show 1<=flr a b i/\flr a b i<=1000;omega
 floors:=rM (k:=λx:aK=>x.1) (oH a b) (λi x hx=>by rw[(oG hx).1]) 5
theorem m8{a b:aD}(ha:aJ a=true)(hb:aJ b=true):aJ (cM a b)=true:=
 (aM _).2 (((aM _).1 ha).join ((aM _).1 hb))
theorem uI:aJ iC=true:=rfl
-- marks
def dX(ms:List aK):Bool:=bL ms.length (fE ms)
def E9(ms:List aK):Bool:=bL ms.length (iJ ms)
theorem KM(ms:List aK):E9 ms=dX ms:=lJ λi hi=>by unfold iJ fE;ac_rfl
theorem zQ(ms:List aK):aJ ([],ms,())=dX ms:=by
 unfold aJ dX;rw[show bL ([]:List bI).length (lX ([],ms,()))=true from rfl,Bool.true_and]
def gP(s:aD)(i:Nat):List aK:=bif decide (gone s i>0)then[((i:Int),gone s i,())] else[]
def cB(s:aD):List aK:=bM 5 (gP s)
theorem n7(s:aD)(i:Nat):(gP s i).length<=1:=by unfold gP;cases decide (gone s i>0)<;>simp
theorem eI(s:aD):(cB s).length<=5:=cT (n:=5) (L:=1) λi _=>n7 s i
theorem I8(s:aD)(i:Int):gone s i<=1000:=by
 cases hs:aJ s with
 | false=>rw[FI hs];omega
 | true=>
  have h:=(aM s).1 hs
  have hf:=oK h i
  unfold gone;rw[hs]
  show(bif(bA s i).2 then _ else _)<=(1000:Int)
  cases h2:(bA s i).2 with
  | false=>exact hf.2
  | true=>
   have he:(bA s i).1.1<=1000/\0<=(bA s i).1.1:=by
    rcases sX h i with e | e
    ·rw[e];show(0:Int)<=1000/\(0:Int)<=0;omega
    ·unfold dY at e;simp only[Bool.and_eq_true,aQ] at e;omega
   show(bif(bA s i).1.2.1==0 then i64.wrap ((bA s i).1.1 - 1)else(bA s i).1.1)<=1000
   cases (bA s i).1.2.1==0 with
   | false=>exact he.1
   | true=>show i64.wrap ((bA s i).1.1 - 1)<=1000;rw[IntKind.wrap_i64];omega
theorem G2{s:aD}{i:Nat}{x:aK}(h:x∈gP s i):x=((i:Int),gone s i,())/\gone s i>0:=by
 unfold gP at h
 cases hd:decide (gone s i>0)with
 | false=>rw[hd] at h;cases h
 | true=>rw[hd] at h;exact⟨List.mem_singleton.1 h,of_decide_eq_true hd⟩
theorem CB{fs:List aK}(g:Nat->List aK)(he:fs=bM 5 g)(h1:∀ i,(g i).length<=1)(h:∀ i,∀ x∈g i,x.1=(i:Int)/\1<=x.2.1/\x.2.1<=1000):StateOk ([],fs,()) where
 item x hx:=by cases hx
 items:=List.Pairwise.nil
 floor f hf:=by
  have hf:f∈fs:=hf
  rw[he] at hf
  obtain⟨i,hi,hf⟩:=jG hf
  obtain⟨e,h2,h3⟩:=h i f hf
  exact⟨by rw[e];exact DG hi,aQ.2 ⟨h2,h3⟩⟩
 floors:=by
  show fs.Pairwise _
  rw[he];exact rM (k:=λx:aK=>x.1) h1 (λi x hx=>(h i x hx).1) 5
theorem G1(s:aD):dX (cB s)=true:=by
 rw[<- zQ]
 exact(aM _).2 (CB (gP s) rfl (n7 s) λi x hx=>by
  obtain⟨rfl,h⟩:=G2 hx
  exact⟨rfl,h,I8 s i⟩)
theorem pZ{ms:List aK}(h:dX ms=true){i:Nat}(hi:i<ms.length):0<=(gt ms i).1/\(gt ms i).1<=4/\1<=(gt ms i).2.1/\(gt ms i).2.1<=1000:=by
 unfold dX at h
 have:=bJ.1 h i hi
 unfold fE eH at this
 simp only[Bool.and_eq_true,aQ] at this
 omega
theorem KL{ms:List aK}(h:dX ms=true):ms.length<=5:=by
 rw[<- zQ] at h
 exact((aM _).1 h).len.2
-- tables
def y2(r:bH)(f:aK):bH:=(r.1.set f.1.toNat (mxI true (gt r.1 f.1.toNat).1 f.2.1,()),())
def jK(r:bH)(ms:List aK):Nat->bH
 | 0=>r
 | i+1=>y2 (jK r ms i) (gt ms i)
def lL(t:List bH)(k:Int)(ms:List aK):Bool:=inB k 0 (i64.wrap ((t.length:Int) - 1))&&(dX ms&& !decide ((((gt t k.toNat).1.length:Nat):Int)<5))
def bQ(t:List bH)(k:Nat)(ms:List aK)(i:Nat):List bH:=t.set k (jK (gt t k) ms i)
def bB(t:List bH)(k:Int)(ms:List aK):List bH:=bif lL t k ms then bQ t k.toNat ms ms.length else t
theorem kV(r:bH)(ms:List aK):∀ i,(jK r ms i).1.length=r.1.length
 | 0=>rfl
 | i+1=>by show(List.set _ _ _).length=_;rw[List.length_set];exact kV r ms i
theorem cE{α:Type}[Inhabited α]{xs:List α}{i:Nat}(h:i<xs.length)(x:α):gt (xs.set i x) i=x:=by
 rw[dC (by rw[List.length_set];exact h)];simp
theorem eL{α:Type}[Inhabited α]{xs:List α}{i j:Nat}(h:i≠j)(x:α):gt (xs.set i x) j=gt xs j:=by
 unfold gt;simp[h]
theorem sK{α:Type}[Inhabited α]{xs:List α}{i:Nat}:xs.set i (gt xs i)=xs:=by
 rcases Nat.lt_or_ge i xs.length with h | h
 ·rw[dC h];exact List.set_getElem_self h
 ·exact List.set_eq_of_length_le h
theorem tN(t:List bH)(k:Nat)(ms:List aK):bQ t k ms 0=t:=sK
theorem dA(t:List bH)(k:Int)(ms:List aK):(bB t k ms).length=t.length:=by
 unfold bB
 cases lL t k ms with
 | false=>rfl
 | true=>show(bQ _ _ _ _).length=_;unfold bQ;rw[List.length_set]
theorem oD{k:Int}{n:Nat}(hn:n<=aN)(h:inB k 0 (i64.wrap ((n:Int) - 1))=true):k.toNat<n/\((k.toNat:Nat):Int)=k:=by
 rw[aQ,IntKind.wrap_i64] at h;unfold aN at hn;omega
theorem eV(t:List bH)(k:Int)(ms:List aK)(j:Nat):((gt (bB t k ms) j).1.length)=(gt t j).1.length:=by
 unfold bB
 cases hb:lL t k ms with
 | false=>rfl
 | true=>
  show(gt (bQ t k.toNat ms ms.length) j).1.length=_
  unfold bQ
  rcases Nat.lt_or_ge k.toNat t.length with h | h
  ·by_cases e:k.toNat=j
   ·subst e;rw[cE h,kV]
   ·rw[eL e]
  ·rw[List.set_eq_of_length_le h]
theorem F3{r:bH}{ms:List aK}(hm:dX ms=true)(hr:∀ j,j<r.1.length->inB (gt r.1 j).1 0 1000=true):∀ i,i<=ms.length->∀ j,j<r.1.length->inB (gt (jK r ms i).1 j).1 0 1000=true
 | 0,_,j,hj=>hr j hj
 | i+1,hi,j,hj=>by
  have ih:=F3 hm hr i (by omega)
  have hid:=pZ hm (i:=i) (by omega)
  have hl:=kV r ms i
  show inB (gt (List.set (jK r ms i).1 (gt ms i).1.toNat (mxI true (gt (jK r ms i).1 (gt ms i).1.toNat).1 (gt ms i).2.1,())) j).1 0 1000=true
  by_cases e:(gt ms i).1.toNat=j
  ·subst e
   rw[cE (by omega)]
   have:=ih _ hj
   rw[aQ] at this ⊢
   show 0<=mxI true _ _/\mxI true _ _<=1000
   rw[rU];omega
  ·rw[eL e];exact ih j hj
theorem pG{t:List bH}{n k:Int}{ms:List aK}(ht:gE t n=true):gE (bB t k ms) n=true:=by
 unfold gE at ht ⊢
 simp only[Bool.and_eq_true] at ht ⊢
 obtain⟨h1,h2,h3⟩:=ht
 refine⟨h1,by rw[dA];exact h2,?_⟩
 rw[dA]
 rw[bJ] at h3 ⊢
 intro j hj
 have h4:=h3 j hj
 unfold sR at h4 ⊢
 simp only[Bool.and_eq_true] at h4 ⊢
 rw[eV]
 refine⟨h4.1,?_⟩
 have h5:=bJ.1 h4.2
 rw[bJ]
 intro i hi
 unfold bB
 cases hb:lL t k ms with
 | false=>exact h5 i hi
 | true=>
  show inB (gt (gt (bQ t k.toNat ms ms.length) j).1 i).1 0 1000=true
  unfold bQ
  by_cases e:k.toNat=j
  ·subst e
   rw[cE hj]
   have hm:dX ms=true:=by unfold lL at hb;simp only[Bool.and_eq_true] at hb;exact hb.2.1
   exact F3 hm h5 _ (Nat.le_refl _) i hi
  ·rw[eL e];exact h5 i hi
def lE(t:List bH)(id:Int)(k:Nat):Bool:=inB id 0 (i64.wrap ((((gt t k).1.length:Nat):Int) - 1))
def jB(t:List bH)(id:Int):Nat->Int
 | 0=>0
 | k+1=>bif(k:Int)==0 then(gt (gt t k).1 id.toNat).1 else bif decide ((gt (gt t k).1 id.toNat).1<jB t id k)then(gt (gt t k).1 id.toNat).1 else jB t id k
def eF(t:List bH)(id:Int):Int:=bif bL t.length (lE t id)then jB t id t.length else 0
-- pruning
def fC(s:aD)(t:List bH)(i:Nat):List aK:=bif decide (mxI false (eF t i) (gone s i)>0)then[((i:Int),mxI false (eF t i) (gone s i),())] else[]
def eQ(s:aD)(t:List bH):aD:=([],bM 5 (fC s t),())
def prune(s:aD)(t:List bH):aD:=bif aJ s then cM s (eQ s t)else s
theorem nT(s:aD)(t:List bH)(i:Nat):(fC s t i).length<=1:=by unfold fC;cases decide (mxI false (eF t i) (gone s i)>0)<;>simp
theorem p7(s:aD)(t:List bH):aJ (eQ s t)=true:=
 (aM _).2 (CB (fC s t) rfl (nT s t) λi x hx=>by
  unfold fC at hx
  cases hd:decide (mxI false (eF t i) (gone s i)>0)with
  | false=>rw[hd] at hx;cases hx
  | true=>
   rw[hd] at hx
   have e:=List.mem_singleton.1 hx
   have h0:=of_decide_eq_true hd
   have hg:=I8 s i
   rw[e];refine⟨rfl,h0,?_⟩
   show mxI false (eF t i) (gone s i)<=1000
   rw[E4];omega)
theorem xD(s:aD)(t:List bH):SzS (eQ s t):=⟨Nat.zero_le _,Nat.le_trans (cT (n:=5) (L:=1) λi _=>nT s t i) (by decide)⟩
theorem zC{s:aD}(h:aJ s=true)(t:List bH):aJ (prune s t)=true:=by
 unfold prune;rw[h];exact m8 h (p7 s t)
theorem MS{s:aD}(h:SzS s)(t:List bH):SzS (prune s t):=by
 unfold prune;cases aJ s with
 | false=>exact h
 | true=>exact lC _ _
-- vectors
def cN(v:List aH)(k n:Int):List aH:=bif inB k 0 (i64.wrap ((v.length:Int) - 1))then v.set k.toNat (mxI true (gt v k.toNat).1 n,())else v
theorem fM(v:List aH)(k n:Int):(cN v k n).length=v.length:=by
 unfold cN;cases inB k 0 (i64.wrap ((v.length:Int) - 1))with
 | false=>rfl
 | true=>exact List.length_set ..
theorem pE(v:List aH)(k n:Int)(j:Nat):(gt (cN v k n) j).1=(gt v j).1\/(gt (cN v k n) j).1=max (gt v j).1 n:=by
 unfold cN;cases inB k 0 (i64.wrap ((v.length:Int) - 1))with
 | false=>exact .inl rfl
 | true=>
  show(gt (v.set _ _) j).1=_\/(gt (v.set _ _) j).1=_
  rcases Nat.lt_or_ge k.toNat v.length with h | h
  ·by_cases e:k.toNat=j
   ·subst e;rw[cE h];exact .inr (rU _ _)
   ·rw[eL e];exact .inl rfl
  ·rw[List.set_eq_of_length_le h];exact .inl rfl
theorem D2(v:List aH){k n:Int}{j:Nat}(h:k.toNat≠j):gt (cN v k n) j=gt v j:=by
 unfold cN;cases inB k 0 (i64.wrap ((v.length:Int) - 1))with
 | false=>rfl
 | true=>exact eL h _
theorem wK{v:List aH}{m k n:Int}(h:eG v m=true)(hn:n<=100000):eG (cN v k n) m=true:=by
 unfold eG at h ⊢
 simp only[Bool.and_eq_true] at h ⊢
 rw[fM]
 refine⟨h.1,h.2.1,?_⟩
 have h3:=bJ.1 h.2.2
 rw[bJ]
 intro i hi
 have:=h3 i hi
 rw[aQ] at this ⊢
 rcases pE v k n i with e | e<;>rw[e]<;>omega
end Go.Abs
-- taking and receiving: plain laws
namespace Go.Abs
-- rises
def oU(r:jM)(e:bD):Bool:=decide (e.1>r.1)||(e.1==r.1&&decide (e.2.2.1>r.2.1))
def mD(clock:Int)(r:jM)(e:bD):jM:=bif oU r e then(e.1,e.2.2.1,clock,())else r
def cL(clock:Int)(rs:List jM)(xs:List bI):Nat->List jM
 | 0=>rs
 | i+1=>(cL clock rs xs i).set (gt xs i).1.toNat (mD clock (gt (cL clock rs xs i) (gt xs i).1.toNat) (gt xs i).2)
theorem gL(clock:Int)(rs:List jM)(xs:List bI):∀ i,(cL clock rs xs i).length=rs.length
 | 0=>rfl
 | i+1=>by show(List.set _ _ _).length=_;rw[List.length_set];exact gL clock rs xs i
def y6(clock:Int)(r:jM):Bool:=inB r.1 0 1000&&(inB r.2.1 0 100000&&inB r.2.2.1 0 clock)
theorem BL{clock:Int}(hc:0<=clock){rs:List jM}{s:aD}(hs:StateOk s)(h:∀ j,j<rs.length->y6 clock (gt rs j)=true):
  ∀ i,i<=s.1.length->∀ j,j<rs.length->y6 clock (gt (cL clock rs s.1 i) j)=true
 | 0,_,j,hj=>h j hj
 | i+1,hi,j,hj=>by
  have ih:=BL hc hs h i (by omega)
  have he:=(hs.item _ (cR (xs:=s.1) (i:=i) (by omega))).2.1
  show y6 clock (gt ((cL clock rs s.1 i).set (gt s.1 i).1.toNat (mD clock (gt (cL clock rs s.1 i) (gt s.1 i).1.toNat) (gt s.1 i).2)) j)=true
  by_cases e:(gt s.1 i).1.toNat=j
  ·rw[e,cE (by rw[gL];exact hj)]
   unfold mD
   cases oU (gt (cL clock rs s.1 i) j) (gt s.1 i).2 with
   | false=>exact ih j hj
   | true=>
    unfold dY at he
    simp only[Bool.and_eq_true,aQ] at he
    show y6 clock ((gt s.1 i).2.1,(gt s.1 i).2.2.2.1,clock,())=true
    unfold y6
    simp only[Bool.and_eq_true,aQ]
    omega
  ·rw[eL e];exact ih j hj
-- a node with another state, other rows and rises
def tkS(x:NodeT)(s:aD):List bH:=bB x.seen x.1 (cB (cM x.state s))
def tkP(x:NodeT)(s:aD):aD:=prune (cM x.state s) (tkS x s)
def tkR(x:NodeT)(s:aD):List jM:=cL x.clock x.rises (tkP x s).1 (tkP x s).1.length
def hU(x:NodeT)(s:aD):NodeT:=
 (x.1,x.2.1,(tkP x s).1,(tkP x s).2.1,(bV (tkP x s)).1,(bV (tkP x s)).2.1,x.2.2.2.2.2.2.1,x.2.2.2.2.2.2.2.1,x.2.2.2.2.2.2.2.2.1,x.got,x.acked,tkS x s,x.num,x.slots,x.sess,x.wait,x.limit,x.clock,tkR x s,())
theorem jO(a:List aH):fW a a=true:=by
 unfold fW;simp[bL]
structure NodeOk (x:NodeT):Prop where
 n:inB x.2.1 1 5=true
 id:inB x.1 0 (i64.wrap (x.2.1 - 1))=true
 state:aJ x.state=true
 tree:tJ x=true
 log:fL x.log=true
 got:eG x.got x.2.1=true
 acked:eG x.acked x.2.1=true
 own:((gt x.got x.1.toNat).1==bU x.log)=true
 seen:gE x.seen x.2.1=true
 ack:AZ x=true
 num:inB x.num 0 100000=true
 clock:inB x.clock 0 100000=true
 slots:inB x.slots 1 4=true
 wait:inB x.wait 1 20=true
 limit:inB x.limit 1 50=true
 rises:(x.rises.length:Int)==5
 rise:bL x.rises.length (j6 x)=true
 sess:kW x=true
theorem fQ(x:NodeT):eO x=true↔NodeOk x:=by
 unfold eO mV
 simp only[Bool.and_eq_true]
 constructor
 ·rintro ⟨h1,h2,h3,h4,h5,h6,h7,h8,h9,h10,h11,h12,h13,h14,h15,h16,h17,h18⟩
  exact⟨h1,h2,h3,h4,h5,h6,h7,h8,h9,h10,h11,h12,h13,h14,h15,h16,h17,h18⟩
 ·rintro ⟨h1,h2,h3,h4,h5,h6,h7,h8,h9,h10,h11,h12,h13,h14,h15,h16,h17,h18⟩
  exact⟨h1,h2,h3,h4,h5,h6,h7,h8,h9,h10,h11,h12,h13,h14,h15,h16,h17,h18⟩
theorem LZ{x:NodeT}{s:aD}(h:NodeOk x)(hs:aJ s=true):aJ (tkP x s)=true:=zC (m8 h.state hs) _
theorem NodeOk.take{x:NodeT}{s:aD}(h:NodeOk x)(hs:aJ s=true):NodeOk (hU x s) where
 n:=h.n
 id:=h.id
 state:=LZ h hs
 tree:=by
  show(fW (bV (tkP x s)).1 (bV (tkP x s)).1&&(bV (tkP x s)).2.1==(bV (tkP x s)).2.1)=true
  rw[jO];simp
 log:=h.log
 got:=h.got
 acked:=h.acked
 own:=h.own
 seen:=pG h.seen
 ack:=h.ack
 num:=h.num
 clock:=h.clock
 slots:=h.slots
 wait:=h.wait
 limit:=h.limit
 rises:=by
  show(((cL x.clock x.rises (tkP x s).1 (tkP x s).1.length).length:Nat):Int)==5
  rw[gL];exact h.rises
 rise:=by
  show bL (cL x.clock x.rises (tkP x s).1 (tkP x s).1.length).length _=true
  rw[gL,bJ]
  intro i hi
  have hc:=h.clock;rw[aQ] at hc
  exact BL hc.1 ((aM _).1 (LZ h hs)) (λj hj=>bJ.1 h.rise j hj) _ (Nat.le_refl _) i hi
 sess:=h.sess
theorem GB(x:NodeT)(s:aD):SzS (tkP x s):=MS (lC _ _) _
theorem JM(s:aD):(bV s).1.length<=aN:=by
 unfold bV;cases aJ s with
 | false=>exact Nat.zero_le _
 | true=>show 4<=aN;decide
theorem j0{x:NodeT}(h:SzN x)(s:aD):SzN (hU x s) where
 state:=GB x s
 leaves:=JM _
 list:=h.list
 logs:=h.logs
 got:=h.got
 acked:=h.acked
 seen:=by show(tkS x s).length<=aN;unfold tkS;rw[dA];exact h.seen
 lines:=by
  intro i hi
  show(gt (tkS x s) i).1.length<=aN
  unfold tkS;rw[eV]
  exact h.lines i (by have:i<(tkS x s).length:=hi;unfold tkS at this;rw[dA] at this;exact this)
 sess:=h.sess
 rises:=by show(cL x.clock x.rises (tkP x s).1 (tkP x s).1.length).length<=aN;rw[gL];exact h.rises
-- hearing
def heard0(x:NodeT)(m:MsgT):NodeT:=
 (x.1,x.2.1,x.2.2.1,x.2.2.2.1,x.2.2.2.2.1,x.2.2.2.2.2.1,x.2.2.2.2.2.2.1,x.2.2.2.2.2.2.2.1,x.2.2.2.2.2.2.2.2.1,x.got,cN x.acked m.2.1 (mxI false (gt m.vec x.1.toNat).1 (bU x.log)),bB x.seen m.2.1 m.marks,x.num,x.slots,x.sess,x.wait,x.limit,x.clock,x.rises,())
def cF(x:NodeT)(m:MsgT):NodeT:=hU (heard0 x m) iC
def gotUp(x:NodeT)(m:MsgT):NodeT:=
 (x.1,x.2.1,x.2.2.1,x.2.2.2.1,x.2.2.2.2.1,x.2.2.2.2.2.1,x.2.2.2.2.2.2.1,x.2.2.2.2.2.2.2.1,x.2.2.2.2.2.2.2.2.1,cN x.got m.2.1 m.hi,x.acked,x.seen,x.num,x.slots,x.sess,x.wait,x.limit,x.clock,x.rises,())
def c7(x:NodeT)(m:MsgT):NodeT:=gotUp (hU (cF x m) m.part) m
theorem B4{l:fJ}(h:fL l=true):0<=bU l/\bU l<=100000:=by
 unfold bU;rw[h]
 unfold fL at h
 simp only[Bool.and_eq_true,aQ,Bool.not_eq_true',decide_eq_false_iff_not] at h
 show 0<=i64.wrap _/\i64.wrap _<=100000
 rw[IntKind.wrap_i64] at h ⊢
 omega
theorem NodeOk.heard0{x:NodeT}(h:NodeOk x)(m:MsgT):NodeOk (heard0 x m) where
 n:=h.n
 id:=h.id
 state:=h.state
 tree:=h.tree
 log:=h.log
 got:=h.got
 acked:=wK h.acked (by rw[E4];have:=B4 h.log;omega)
 own:=h.own
 seen:=pG h.seen
 ack:=by
  have:=h.ack
  unfold AZ at this ⊢
  rw[show(Go.Abs.heard0 x m).acked=cN x.acked m.2.1 (mxI false (gt m.vec x.1.toNat).1 (bU x.log))from rfl,fM]
  rw[bJ] at this ⊢
  intro i hi
  have h1:=this i hi
  rw[show(Go.Abs.heard0 x m).log=x.log from rfl]
  simp only[Bool.not_eq_true',decide_eq_false_iff_not] at h1 ⊢
  rcases pE x.acked m.2.1 (mxI false (gt m.vec x.1.toNat).1 (bU x.log)) i with e | e
  ·rw[e];exact h1
  ·rw[e,E4];omega
 num:=h.num
 clock:=h.clock
 slots:=h.slots
 wait:=h.wait
 limit:=h.limit
 rises:=h.rises
 rise:=h.rise
 sess:=h.sess
theorem NodeOk.heard{x:NodeT}(h:NodeOk x)(m:MsgT):NodeOk (cF x m):=(h.heard0 m).take uI
theorem vT{x:NodeT}(h:SzN x)(m:MsgT):SzN (heard0 x m) where
 state:=h.state
 leaves:=h.leaves
 list:=h.list
 logs:=h.logs
 got:=h.got
 acked:=by show(cN _ _ _).length<=aN;rw[fM];exact h.acked
 seen:=by show(bB _ _ _).length<=aN;rw[dA];exact h.seen
 lines:=by
  intro i hi
  show(gt (bB x.seen m.2.1 m.marks) i).1.length<=aN
  rw[eV]
  exact h.lines i (by have:i<(bB x.seen m.2.1 m.marks).length:=hi;rw[dA] at this;exact this)
 sess:=h.sess
 rises:=h.rises
theorem gZ{x:NodeT}(h:SzN x)(m:MsgT):SzN (cF x m):=j0 (vT h m) _
theorem NodeOk.gotUp{x:NodeT}(h:NodeOk x){m:MsgT}(hi:m.hi<=100000)(hm:m.2.1.toNat≠x.1.toNat):NodeOk (gotUp x m) where
 n:=h.n
 id:=h.id
 state:=h.state
 tree:=h.tree
 log:=h.log
 got:=wK h.got hi
 acked:=h.acked
 own:=by
  show((gt (cN x.got m.2.1 m.hi) x.1.toNat).1==bU x.log)=true
  rw[D2 _ hm];exact h.own
 seen:=h.seen
 ack:=h.ack
 num:=h.num
 clock:=h.clock
 slots:=h.slots
 wait:=h.wait
 limit:=h.limit
 rises:=h.rises
 rise:=h.rise
 sess:=h.sess
theorem N3{x:NodeT}(h:SzN x)(m:MsgT):SzN (gotUp x m) where
 state:=h.state
 leaves:=h.leaves
 list:=h.list
 logs:=h.logs
 got:=by show(cN _ _ _).length<=aN;rw[fM];exact h.got
 acked:=h.acked
 seen:=h.seen
 lines:=h.lines
 sess:=h.sess
 rises:=h.rises
theorem iY{x:NodeT}(h:SzN x)(m:MsgT):SzN (c7 x m):=N3 (j0 (gZ h m) _) _
-- messages
def kA(v:List aH)(top:Int):Bool:=bL v.length λi=>inB (gt v i).1 0 top
def treeB(t:jL):Bool:=bif(t.1.length:Int)==0 then t.2.1==0 else((t.1.length:Int)==4&&(kA t.1 1023&&inB t.2.1 0 1023))
def w7(v:List aH)(i:Nat):Bool:=inB (gt v i).1 0 3&&wT (λj=> !decide ((gt v (j+1)).1<=(gt v j).1)) i
def nZ(m:MsgT):Bool:=inB m.1 0 5&&(eH m.2.1&&(eH m.2.2.1&& !(m.2.1==m.2.2.1)))
def dM(m:MsgT):Bool:=nZ m&&((bL m.leaves.length (w7 m.leaves))&&(kA m.vec 100000&&(inB m.2.2.2.1 0 100000&&(inB m.hi 0 100000&&(treeB m.tree&&(decide ((m.vec.length:Int)<=5)&&(aJ m.part&&dX m.marks)))))))
def oW(v:List aH)(most top:Int):Bool:= !decide ((v.length:Int)>most)&&kA v top
def FD(v:List aH)(i:Nat):Bool:= !decide ((gt v (i+1)).1<=(gt v i).1)
def zN(m:MsgT):Bool:=inB m.1 0 5&&(eH m.2.1&&(eH m.2.2.1&&(!(m.2.1==m.2.2.1)&&(inB m.2.2.2.1 0 100000&&(inB m.hi 0 100000&&(treeB m.tree&&(oW m.vec 5 100000&&(oW m.leaves 4 3&&(aJ m.part&&(dX m.marks&&bL (m.leaves.length - 1) (FD m.leaves)))))))))))
theorem NN(v:List aH):(oW v 4 3&&bL (v.length - 1) (FD v))=bL v.length (w7 v):=by
 rw[Bool.eq_iff_iff]
 unfold oW kA w7 FD
 simp only[Bool.and_eq_true,bJ,Bool.not_eq_true',decide_eq_false_iff_not]
 constructor
 ·rintro ⟨⟨_,h2⟩,h3⟩ i hi
  refine⟨h2 i hi,?_⟩
  cases i with
  | zero=>rfl
  | succ j=>show(!decide ((gt v (j+1)).1<=(gt v j).1))=true;rw[decide_eq_false (h3 j (by omega))];rfl
 ·intro h
  have hp:∀ j,j+1<v.length->(gt v j).1<(gt v (j+1)).1:=λj hj=>by
   have:=(h (j+1) hj).2
   unfold wT at this
   simpa using this
  have hge:∀ i,i<v.length->(i:Int)<=(gt v i).1:=by
   intro i
   induction i with
   | zero=>intro hi;have:=(h 0 hi).1;rw[aQ] at this;exact this.1
   | succ j ih=>intro hi;have:=ih (by omega);have:=hp j hi;omega
  refine⟨⟨?_,λi hi=>(h i hi).1⟩,λi hi=>by have:=hp i (by omega);omega⟩
  rcases Nat.lt_or_ge 4 v.length with h5 | h5
  ·have h6:=hge 4 h5
   have:=(h 4 h5).1;rw[aQ] at this;omega
  ·omega
theorem IY(m:MsgT):zN m=dM m:=by
 unfold zN dM nZ
 rw[<- NN]
 unfold oW
 simp only[vN]
 ac_rfl
theorem z1{m:MsgT}(h:dM m=true):m.leaves.length<=4:=by
 rw[<- IY] at h
 unfold zN oW at h
 simp only[Bool.and_eq_true,Bool.not_eq_true',decide_eq_false_iff_not] at h
 omega
end Go.Abs
-- messages and receiving: plain laws
namespace Go.Abs
theorem HZ{β:Type}{o:Option Out}{A B C:List Kd}{r:Row A}{s:Row B}{t:Row C}{f:Rows [A,B,C]×Rows []->Option β}(h:o=some ⟨[⟨A,r⟩,⟨B,s⟩,⟨C,t⟩],[]⟩):(o.bind (cS [A,B,C] [])).bind f=f ((r,s,t,()),()):=by
 rw[h];simp[cS,eX,jD];rfl
def fA(l:List aD)(k:Nat):Nat->aD
 | 0=>iC
 | i+1=>cM (fA l k i) (gt l (k+i))
theorem sH(l:List aD)(k:Nat):∀ i,SzS (fA l k i)
 | 0=>nW
 | i+1=>lC _ _
theorem sI{l:fJ}(h:fL l=true)(k:Nat):∀ i,k+i<=l.2.2.1.length->aJ (fA l.2.2.1 k i)=true
 | 0,_=>uI
 | i+1,hi=>m8 (sI h k i (by omega)) (by
   unfold fL at h
   simp only[Bool.and_eq_true] at h
   exact bJ.1 h.2.2.2.2 (k+i) (by omega))
def fO(l:fJ)(seq:Int):Bool:=fL l&&inB seq l.2.1 (i64.wrap (l.2.1+(l.2.2.1.length:Int)))
def cX(l:fJ)(seq:Int):Nat:=(seq - l.2.1).toNat
def gR(l:fJ)(seq:Int):aD:=bif fO l seq then fA l.2.2.1 (cX l seq) (l.2.2.1.length - cX l seq)else iC
theorem tQ{l:fJ}{seq:Int}(h:fO l seq=true):l.2.1+((cX l seq:Nat):Int)=seq/\cX l seq<=l.2.2.1.length/\0<=l.2.1/\l.2.1<=100000/\l.2.2.1.length<=8:=by
 unfold fO fL at h
 simp only[Bool.and_eq_true,aQ,Bool.not_eq_true',decide_eq_false_iff_not] at h
 unfold cX
 rw[IntKind.wrap_i64] at h
 omega
def pM(x:NodeT)(seq:Int):aD:=bif fO x.log seq then gR x.log seq else x.state
theorem EE{x:NodeT}(h:SzN x)(seq:Int):SzS (pM x seq):=by
 unfold pM gR
 cases fO x.log seq with
 | false=>exact h.state
 | true=>exact sH _ _ _
theorem MF{x:NodeT}(h:NodeOk x)(seq:Int):aJ (pM x seq)=true:=by
 unfold pM gR
 cases hs:fO x.log seq with
 | false=>exact h.state
 | true=>have:=tQ hs;exact sI h.log _ _ (by omega)
theorem yX{s:aD}(h:SzS s)(ls:List aH):SzS (gK s ls):=
 ⟨Nat.le_trans (List.length_filter_le ..) h.1,Nat.le_trans (List.length_filter_le ..) h.2⟩
theorem MC{s:aD}(h:aJ s=true)(ls:List aH):aJ (gK s ls)=true:=(aM _).2 (((aM _).1 h).slice ls)
def BR(x:NodeT)(ls:List aH)(seq:Int):aD:=cM (gK x.state ls) (pM x seq)
def eE(a b:jL)(i:Nat):List aH:=bif(a.1.length:Int) != 4 then[((i:Int),())] else bif(b.1.length:Int) != 4 then[((i:Int),())] else bif(gt a.1 i).1 != (gt b.1 i).1 then[((i:Int),())] else[]
def gU(a b:jL):List aH:=bif a.2.1==b.2.1 then[] else bM 4 (eE a b)
theorem qG(a b:jL)(i:Nat):(eE a b i).length<=1:=by
 unfold eE
 cases (a.1.length:Int) != 4<;>cases (b.1.length:Int) != 4<;>cases (gt a.1 i).1 != (gt b.1 i).1<;>simp
theorem lD(a b:jL):(gU a b).length<=4:=by
 unfold gU
 cases a.2.1==b.2.1 with
 | true=>exact Nat.zero_le _
 | false=>exact cT (n:=4) (L:=1) λi _=>qG a b i
def NA(x:NodeT)(kind to num:Int):MsgT:=(kind,x.1,to,num,bU x.log,[],0,x.got,[],[],[],cB x.state,())
-- exchanges
def withS(x:NodeT)(ss:List eC):NodeT:=
 (x.1,x.2.1,x.2.2.1,x.2.2.2.1,x.2.2.2.2.1,x.2.2.2.2.2.1,x.2.2.2.2.2.2.1,x.2.2.2.2.2.2.2.1,x.2.2.2.2.2.2.2.2.1,x.got,x.acked,x.seen,x.num,x.slots,ss,x.wait,x.limit,x.clock,x.rises,())
def pA(s:eC):Int×Bool:=(s.1,s.2.2.1)
def RD(x:NodeT)(s:eC):Prop:=inB s.1 0 (i64.wrap (x.2.1 - 1))=true/\s.1≠x.1/\inB s.2.1 0 100000=true/\inB s.2.2.2.1 0 x.wait=true
theorem kP{v:List eC}{k:Nat}{p:Int}{b:Bool}:dH v k p b=true↔pA (gt v k)=(p,b):=by
 unfold dH pA
 rw[Bool.and_eq_true,beq_iff_eq,O1,Prod.mk.injEq]
theorem MY(v:List eC):(∀ i,i<v.length->BT v i=true)↔(v.map pA).Nodup:=by
 unfold List.Nodup
 rw[List.pairwise_iff_getElem]
 unfold BT
 simp only[bJ,Bool.not_eq_true',List.length_map,List.getElem_map]
 constructor
 ·intro h i j hi hj hij e
  have:=h j hj i hij
  rw[<- Bool.not_eq_true,kP] at this
  apply this
  rw[dC hi,dC hj];exact e
 ·intro h j hj i hij
  rw[<- Bool.not_eq_true,kP]
  intro e
  refine h i j (by omega) hj hij ?_
  rw[dC (by omega),dC hj] at e;exact e
theorem dG(x:NodeT):kW x=true↔(x.sess.length:Int)<=x.slots/\(∀ s∈x.sess,RD x s)/\(x.sess.map pA).Nodup:=by
 rw[<- MY]
 unfold kW mP
 simp only[Bool.and_eq_true,bJ,Bool.not_eq_true',decide_eq_false_iff_not]
 constructor
 ·rintro ⟨h1,h2⟩
  refine⟨by omega,λs hs=>?_,λi hi=>(h2 i hi).2.2.2.2⟩
  obtain⟨i,hi,rfl⟩:=gN hs
  obtain⟨a,b,c,d,_⟩:=h2 i hi
  refine⟨a,?_,c,d⟩
  intro e;rw[e] at b;simp at b
 ·rintro ⟨h1,h2,h3⟩
  refine⟨by omega,λi hi=>?_⟩
  obtain⟨a,b,c,d⟩:=h2 _ (cR hi)
  exact⟨a,by simpa using b,c,d,h3 i hi⟩
theorem NodeOk.withS{x:NodeT}(h:NodeOk x){ss:List eC}(h1:(ss.length:Int)<=x.slots)(h2:∀ s∈ss,RD x s)(h3:(ss.map pA).Nodup):NodeOk (withS x ss) where
 n:=h.n
 id:=h.id
 state:=h.state
 tree:=h.tree
 log:=h.log
 got:=h.got
 acked:=h.acked
 own:=h.own
 seen:=h.seen
 ack:=h.ack
 num:=h.num
 clock:=h.clock
 slots:=h.slots
 wait:=h.wait
 limit:=h.limit
 rises:=h.rises
 rise:=h.rise
 sess:=(dG _).2 ⟨h1,h2,h3⟩
theorem pD{x:NodeT}(h:SzN x){ss:List eC}(h1:ss.length<=aN):SzN (withS x ss):=
 ⟨h.state,h.leaves,h.list,h.logs,h.got,h.acked,h.seen,h.lines,h1,h.rises⟩
theorem fN(v:List eC)(p:Int)(b:Bool):(∃ k:Nat,k<v.length/\cW v p b=(k:Int)/\pA (gt v k)=(p,b))\/(cW v p b= -1/\∀ s∈v,pA s≠(p,b)):=by
 unfold cW
 cases hf:(List.range v.length).find? (λk=>dH v k p b)with
 | none=>
  refine .inr ⟨rfl,λs hs e=>?_⟩
  obtain⟨i,hi,rfl⟩:=gN hs
  have:=List.find?_eq_none.1 hf i (List.mem_range.2 hi)
  exact this (kP.2 e)
 | some k=>
  refine .inl ⟨k,List.mem_range.1 (List.mem_of_find?_eq_some hf),rfl,?_⟩
  exact kP.1 (show dH v k p b=true from List.find?_some (p:=λk=>dH v k p b) hf)
def sA(x:NodeT)(m:MsgT)(b:Bool):Int:=bif decide (cW x.sess m.2.1 b>=0)then(bif(gt x.sess (cW x.sess m.2.1 b).toNat).2.1 != m.2.2.2.1 then -1 else cW x.sess m.2.1 b)else cW x.sess m.2.1 b
def jJ(x:NodeT)(k:Nat):NodeT:=withS x (x.sess.take k++x.sess.drop (k+1))
theorem N5{x:NodeT}(h:NodeOk x)(k:Nat):NodeOk (jJ x k):=by
 have hs:=(dG x).1 h.sess
 have sub:List.Sublist (x.sess.take k++x.sess.drop (k+1)) x.sess:=by rw[<- List.eraseIdx_eq_take_drop_succ];exact List.eraseIdx_sublist ..
 refine h.withS ?_ (λs hm=>hs.2.1 s (sub.subset hm)) ((sub.map pA).nodup hs.2.2)
 have:=sub.length_le;omega
theorem z8{x:NodeT}(h:SzN x)(k:Nat):SzN (jJ x k):=pD h (by
 have:=h.sess;rw[List.length_append,List.length_take,List.length_drop];omega)
def nS(x:NodeT)(k:Nat)(num:Int):List eC:=x.sess.set k ((gt x.sess k).1,num,(gt x.sess k).2.2.1,(0:Int),())
def jF(x:NodeT)(m:MsgT):List eC:=x.sess++[(m.2.1,m.2.2.2.1,true,(0:Int),())]
theorem J6{x:NodeT}(h:NodeOk x){k:Nat}(hk:k<x.sess.length){num:Int}(hn:inB num 0 100000=true):NodeOk (withS x (nS x k num)):=by
 have hs:=(dG x).1 h.sess
 refine h.withS (by unfold nS;rw[List.length_set];exact hs.1) (λs hm=>?_) ?_
 ·rcases List.mem_or_eq_of_mem_set hm with h1 | h1
  ·exact hs.2.1 s h1
  ·have h2:=hs.2.1 _ (cR hk)
   rw[h1]
   refine⟨h2.1,h2.2.1,hn,?_⟩
   have:=h.wait;rw[aQ] at this ⊢;show 0<=(0:Int)/\(0:Int)<=x.wait;omega
 ·unfold nS
  rw[List.map_set,show pA ((gt x.sess k).1,num,(gt x.sess k).2.2.1,(0:Int),())=pA (gt x.sess k)from rfl]
  have:(x.sess.map pA).set k (pA (gt x.sess k))=x.sess.map pA:=by
   rw[<- List.map_set,sK]
  rw[this];exact hs.2.2
theorem H9{x:NodeT}(h:NodeOk x){m:MsgT}(hp:inB m.2.1 0 (i64.wrap (x.2.1 - 1))=true)(hi:m.2.1≠x.1)(hn:inB m.2.2.2.1 0 100000=true)(hf:cW x.sess m.2.1 true<0)(hl:(x.sess.length:Int)≠x.slots):NodeOk (withS x (jF x m)):=by
 have hs:=(dG x).1 h.sess
 refine h.withS (by unfold jF;rw[List.length_append,List.length_singleton];omega) (λs hm=>?_) ?_
 ·rcases List.mem_append.1 hm with h1 | h1
  ·exact hs.2.1 s h1
  ·rw[List.mem_singleton.1 h1]
   refine⟨hp,hi,hn,?_⟩
   have:=h.wait;rw[aQ] at this ⊢;show 0<=(0:Int)/\(0:Int)<=x.wait;omega
 ·unfold jF
  rw[List.map_append,List.nodup_append]
  refine⟨hs.2.2,by simp,λa ha b hb=>?_⟩
  obtain⟨s,hs1,rfl⟩:=List.mem_map.1 ha
  have hb:b=(m.2.1,true):=by simpa [pA] using hb
  rw[hb]
  rcases fN x.sess m.2.1 true with ⟨k,_,e,_⟩ | ⟨_,e⟩
  ·rw[e] at hf;omega
  ·exact e s hs1
-- receiving
def DA(o:NodeT)(x:NodeT)(m:MsgT):MsgT:=
 (3,o.1,m.2.1,m.2.2.2.1,bU o.log,o.tree.1,o.tree.2.1,o.got,gU o.tree m.tree,(BR o (gU o.tree m.tree) (gt m.vec x.1.toNat).1).1,(BR o (gU o.tree m.tree) (gt m.vec x.1.toNat).1).2.1,cB o.state,())
def Q9(o:NodeT)(x:NodeT)(m:MsgT):MsgT:=
 (4,o.1,m.2.1,m.2.2.2.1,bU o.log,[],0,o.got,m.leaves,(BR o m.leaves (gt m.vec x.1.toNat).1).1,(BR o m.leaves (gt m.vec x.1.toNat).1).2.1,cB o.state,())
abbrev IB:=NodeT×List MsgT×Int
def gG(x:NodeT)(m:MsgT):List eC:=bif decide (cW x.sess m.2.1 true>=0)then nS x (cW x.sess m.2.1 true).toNat m.2.2.2.1 else jF x m
def GF(x:NodeT)(m:MsgT):NodeT:=cF (withS x (gG x m)) m
def jU(x:NodeT)(m:MsgT):Bool:= !decide (cW x.sess m.2.1 true>=0)&&(x.sess.length:Int)==x.slots
def jP(x:NodeT)(m:MsgT):IB:=bif jU x m then(x,[NA x 5 m.2.1 m.2.2.2.1],3)else(GF x m,[DA (GF x m) x m],0)
def mE(x:NodeT)(m:MsgT)(k:Nat):IB:=
 bif m.1==5 then(jJ x k,[],0)else bif m.1==4 then(c7 (jJ x k) m,[],0)else(c7 (jJ x k) m,[Q9 (c7 (jJ x k) m) x m],0)
def sN(x:NodeT)(m:MsgT):IB:=
 bif m.1==0 then(c7 x m,[NA (c7 x m) 1 m.2.1 m.2.2.2.1],0)else
 bif m.1==1 then(cF x m,[],0)else bif m.1==2 then jP x m else
 bif decide (sA x m (m.1==4)<0)then(x,[],2)else mE x m (sA x m (m.1==4)).toNat
def hX(x:NodeT)(m:MsgT):Bool:=eO x&&(dM m&&(m.2.2.1==x.1&&(!decide (m.2.1>=x.2.1)&&(m.vec.length:Int)==x.2.1)))
def cC(x:NodeT)(m:MsgT):IB:=bif hX x m then sN x m else(x,[],1)
structure RecOk (x:NodeT) (m:MsgT):Prop where
 node:NodeOk x
 msg:dM m=true
 idn:0<=x.1/\x.1<x.2.1/\1<=x.2.1/\x.2.1<=5
 frm:0<=m.2.1/\m.2.1<x.2.1
 ne:m.2.1≠x.1
 vec:(m.vec.length:Int)=x.2.1
 to:m.2.2.1=x.1
 num:inB m.2.2.2.1 0 100000=true
 hi:0<=m.hi/\m.hi<=100000
 part:aJ m.part=true
 marks:dX m.marks=true
 leaves:m.leaves.length<=4
theorem y7{x:NodeT}{m:MsgT}(h:hX x m=true):RecOk x m:=by
 unfold hX at h
 simp only[Bool.and_eq_true,beq_iff_eq,Bool.not_eq_true',decide_eq_false_iff_not] at h
 obtain⟨h1,h2,h3,h4,h5⟩:=h
 have hn:=(fQ x).1 h1
 have a1:=hn.n
 have a2:=hn.id
 rw[aQ] at a1 a2
 rw[IntKind.wrap_i64] at a2
 have hm:=h2
 unfold dM nZ eH at hm
 simp only[Bool.and_eq_true,aQ,Bool.not_eq_true',beq_eq_false_iff_ne] at hm
 obtain⟨⟨b1,b2,b3,b4⟩,b5,b6,b7,b8,b9,b10,b11,b12⟩:=hm
 exact⟨hn,h2,by omega,by omega,by rw[<- h3];exact b4,h5,h3,aQ.2 b7,b8,b11,b12,z1 h2⟩
theorem RecOk.gone{x:NodeT}{m:MsgT}(h:RecOk x m)(k:Nat):RecOk (jJ x k) m:=
 ⟨N5 h.node k,h.msg,h.idn,h.frm,h.ne,h.vec,h.to,h.num,h.hi,h.part,h.marks,h.leaves⟩
theorem RecOk.brought{x:NodeT}{m:MsgT}(h:RecOk x m):NodeOk (c7 x m):=
 NodeOk.gotUp ((h.node.heard m).take h.part) h.hi.2 (by
  have h1:=h.ne;have h2:=h.idn;have h3:=h.frm
  show m.2.1.toNat≠x.1.toNat
  omega)
theorem RecOk.syn{x:NodeT}{m:MsgT}(h:RecOk x m)(hf:jU x m=false):RecOk (withS x (gG x m)) m:=by
 refine⟨?_,h.msg,h.idn,h.frm,h.ne,h.vec,h.to,h.num,h.hi,h.part,h.marks,h.leaves⟩
 unfold gG
 unfold jU at hf
 by_cases hc:cW x.sess m.2.1 true>=0
 ·rw[decide_eq_true hc]
  rcases fN x.sess m.2.1 true with ⟨k,hk,e,_⟩ | ⟨e,_⟩
  ·show NodeOk (withS x (nS x (cW x.sess m.2.1 true).toNat m.2.2.2.1))
   rw[e];exact J6 h.node hk h.num
  ·omega
 ·rw[decide_eq_false hc] at hf ⊢
  refine H9 h.node ?_ h.ne h.num (by omega) (by intro e;rw[e] at hf;simp at hf)
  have h2:=h.idn;have h3:=h.frm
  rw[aQ,IntKind.wrap_i64];omega
theorem pH{x:NodeT}(h:NodeOk x)(m:MsgT):(gG x m).length<=aN:=by
 have h1:=((dG x).1 h.sess).1
 have h2:=h.slots;rw[aQ] at h2
 unfold gG nS jF aN
 cases decide (cW x.sess m.2.1 true>=0)with
 | true=>show(List.set _ _ _).length<=_;rw[List.length_set];omega
 | false=>show(x.sess++[_]).length<=_;rw[List.length_append,List.length_singleton];omega
theorem PQ{x:NodeT}(hz:SzN x)(h:NodeOk x)(m:MsgT):SzN (GF x m):=gZ (pD hz (pH h m)) m
theorem IR{x:NodeT}{m:MsgT}(h:hX x m=false):cC x m=(x,[],1):=by unfold cC;rw[h];rfl
theorem EM{x:NodeT}{m:MsgT}(h:hX x m=true):cC x m=sN x m:=by unfold cC;rw[h];rfl
-- an exchange taken out, as the code does it
def A8(x:NodeT)(k:Int):List eC:=([]++((x.sess.take (k.toNat)).drop 0))++((x.sess.take x.sess.length).drop ((i64.wrap (k+1))).toNat)
theorem P1{x:NodeT}{k:Nat}(hk:k<x.sess.length)(hl:x.sess.length<=aN):A8 x (k:Int)=x.sess.take k++x.sess.drop (k+1):=by
 unfold A8
 rw[aF (Nat.lt_of_lt_of_le hk (Nat.le_trans hl (by decide))),List.take_length,Int.toNat_natCast,Int.toNat_natCast];rfl
theorem EP{x:NodeT}{k:Nat}(hk:k<x.sess.length)(hl:x.sess.length<=aN):withS x (A8 x (k:Int))=jJ x k:=by rw[P1 hk hl];rfl
theorem uR{α β:Type}{ss:List α}{k:Nat}{F Z:β}(hk:k<ss.length)(hl:ss.length<=aN):
  (bif decide (0<=(k:Int))&&decide ((k:Int)<=(ss.length:Int))then(bif decide (List.length ([]:List α)+List.length ((ss.take ((k:Int).toNat)).drop 0)<=bound)then
   (bif decide (0<=i64.wrap ((k:Int)+1))&&decide (i64.wrap ((k:Int)+1)<=(ss.length:Int))then
    (bif decide (List.length ([]++((ss.take ((k:Int).toNat)).drop 0))+List.length ((ss.take ss.length).drop ((i64.wrap ((k:Int)+1))).toNat)<=bound)then F else Z)else Z)else Z)else Z)=F:=by
 have hb:aN<=bound:=by decide
 rw[aF (Nat.lt_of_lt_of_le hk (Nat.le_trans hl (by decide)))]
 refine(qK (Int.natCast_nonneg _) (by omega)).trans ?_
 refine(jY (by rw[List.drop_zero,List.length_take];simp;omega)).trans ?_
 refine(qK (Int.natCast_nonneg _) (by omega)).trans ?_
 exact jY (by rw[List.nil_append,List.drop_zero,List.length_take,List.length_drop,List.length_take,Int.toNat_natCast,Int.toNat_natCast];omega)
end Go.Abs
-- short steps
namespace Go.Abs
open Go
theorem qP{β:Type}{q:Prop}[Decidable q]{x y z:β}(h:q)(k:x=z):(bif decide q then x else y)=z:=(jY h).trans k
theorem qN{β:Type}{q:Prop}[Decidable q]{x y z:β}(h:¬ q)(k:y=z):(bif decide q then x else y)=z:=(iR h).trans k
theorem qT{β:Type}{b:Bool}{x y z:β}(h:b=true)(k:x=z):(bif b then x else y)=z:=(jE h).trans k
theorem qF{β:Type}{b:Bool}{x y z:β}(h:b=false)(k:y=z):(bif b then x else y)=z:=(gD h).trans k
theorem qt{β:Type}{x y z:β}(k:x=z):(bif true then x else y)=z:=k
theorem qf{β:Type}{x y z:β}(k:y=z):(bif false then x else y)=z:=k
theorem qz{β:Type}{m:Nat}{x y z:β}(k:x=z):(bif decide ((0:Int)<=(m:Int))then x else y)=z:=(jY (Int.natCast_nonneg m)).trans k
theorem ql{β:Type}{i m:Nat}{x y z:β}(h:i<m)(k:x=z):(bif decide ((i:Int)<(m:Int))then x else y)=z:=(jY (Int.ofNat_lt.2 h)).trans k
theorem qe{β:Type}{a:Int}{x y z:β}(k:y=z):(bif decide (a<a)then x else y)=z:=(iR (Int.lt_irrefl a)).trans k
theorem qC{β:Type}{p:Prg}{v n g:Nat}{as:List Arg}{A:List Kd}{r:Row A}{f:Rows [A]×Rows []->Option β}{z:Option β}(h:Ran p v g as ⟨[⟨A,r⟩],[]⟩)(k:f ((r,()),())=z)(hn:v<=n:=by omega):
  ((aL p n g as).bind (cS [A] [])).bind f=z:=(LJ (h n hn)).trans k
theorem qD{β:Type}{p:Prg}{v n g:Nat}{as:List Arg}{A B:List Kd}{r:Row A}{s:Row B}{f:Rows [A,B]×Rows []->Option β}{z:Option β}(h:Ran p v g as ⟨[⟨A,r⟩,⟨B,s⟩],[]⟩)(k:f ((r,s,()),())=z)(hn:v<=n:=by omega):
  ((aL p n g as).bind (cS [A,B] [])).bind f=z:=(H0 (h n hn)).trans k
theorem qE{β:Type}{p:Prg}{v n g:Nat}{as:List Arg}{A B C:List Kd}{r:Row A}{s:Row B}{t:Row C}{f:Rows [A,B,C]×Rows []->Option β}{z:Option β}(h:Ran p v g as ⟨[⟨A,r⟩,⟨B,s⟩,⟨C,t⟩],[]⟩)(k:f ((r,s,t,()),())=z)(hn:v<=n:=by omega):
  ((aL p n g as).bind (cS [A,B,C] [])).bind f=z:=(HZ (h n hn)).trans k
theorem qR{β:Type}{p:Prg}{v n g:Nat}{as:List Arg}{A B:List Kd}{r:Row A}{s:Row B}{f:Rows [A]×Rows [B]->Option β}{z:Option β}(h:Ran p v g as ⟨[⟨A,r⟩],[⟨B,s⟩]⟩)(k:f ((r,()),(s,()))=z)(hn:v<=n:=by omega):
  ((aL p n g as).bind (cS [A] [B])).bind f=z:=(OW (h n hn)).trans k
end Go.Abs
/- A function of two texts with a contract of the library's. -/
namespace Go.Abs
open Go
def SM:List Arg->Option Out
 | [.val false ⟨[.str],x⟩,.val false ⟨[.str],y⟩]=>some ⟨[⟨[.int .i64],(Lib.compareBytes (ByteArray.data x.1).toList (ByteArray.data y.1).toList,())⟩],[]⟩
 | _=>none
theorem KR(rb:Nat->Prop)(w:World):Keep rb w w:=⟨rfl,rfl,rfl,Nat.le_refl _,λ_ _ _=>rfl⟩
theorem LI {P:Program} {ti:Ti} {rts:Nat->Option (List Nat)} {fr:Nat->Bool} {g:Nat} (hf:∃ fn,P.funcs[g]? =some fn/\fn.name≠ "runtime.NumGoroutine" /\fn.body.isNone=false)
  (hrt:(rts g).bind (dN { ti:=ti,n:=0,call:=λ_ _=>none,fresh:=fr,owns:=λ_=>false,h:=⟨false,[],[],false,false,[],[],[],[]⟩ })=some [(false,[.int .i64])])
  (hc:∀ (a b:ByteArray) (w:World),Calls P g #[.string a,.string b] w λe w'=>e= .returned (.int .i64 (Lib.compareBytes a.data.toList b.data.toList))/\w'=w) (as:List Arg) (out:Out) (h:SM as=some out):lO P ti rts fr g as out:=by
 unfold SM at h
 split at h
 ·rename_i x y
  cases h
  show SS P ti rts fr g _ _
  refine⟨hf,λrt h1 vs bs rbs w hA _ _ _=>?_⟩
  rw[hrt] at h1
  cases h1
  obtain⟨v,vs',b,b',r,r',rfl,rfl,rfl,⟨rfl,us,hs,u,us',bb,bb',e1,e2,⟨e3,e4⟩,e5,e6⟩,v2,vs2,c,c',q,q',rfl,rfl,rfl,⟨rfl,us2,hs2,u2,us2',dd,dd',g1,g2,⟨g3,g4⟩,g5,g6⟩,rfl,rfl,rfl⟩:=hA
  have hv:v= .string x.1:=by
   rcases hs with ⟨hh,_⟩ | ⟨_,hh⟩
   ·cases hh
   ·rw[e1,e5,e3] at hh;injection hh with hh;exact hh.symm
  have hv2:v2= .string y.1:=by
   rcases hs2 with ⟨hh,_⟩ | ⟨_,hh⟩
   ·cases hh
   ·rw[g1,g5,g3] at hh;injection hh with hh;exact hh.symm
  subst hv;subst hv2
  refine Calls.mono (hc x.1 y.1 w) ?_
  rintro e w' ⟨rfl,rfl⟩
  refine⟨_,rfl,⟨KR _ _,(λb _=>SizeLe.same rfl),(λb h1 h2=>by omega),[_],[],[],[],rfl,?_,?_,(λb hb=>by cases hb),(λb hb=>by cases hb),(λb hb=>by cases hb),λ_=>⟨List.nodup_nil,List.nodup_nil⟩⟩⟩
  ·refine⟨_,[],_,[],[_],[],[],[],[],rfl,rfl,rfl,rfl,.inr ⟨rfl,rfl⟩,?_,rfl,rfl,rfl,rfl⟩
   unfold QZ
   cases fr g with
   | false=>exact⟨rfl,_,[],[],[],rfl,rfl,⟨rfl,rfl⟩,rfl,rfl⟩
   | true=>exact⟨_,[],rfl,⟨rfl,rfl⟩,rfl,rfl,rfl⟩
  ·exact⟨rfl,rfl⟩
 ·cases h
end Go.Abs
/- Plain laws: rows marked cell by cell; how many cells there are. -/
namespace Go.Abs
def gJ{α:Type}(c:α->Int):List α->Int
 | []=>0
 | x::xs=>c x+gJ c xs
def N8{α:Type}(f:α->Int->α)(c:α->Int):List α->Int->List α
 | [],_=>[]
 | x::xs,n=>f x n::N8 f c xs (n+c x)
mutual
/-- How many cells lie in a value. -/
def cnT:(k:Kd)->k.T->Int
 | .int _,_=>1
 | .bool,_=>1
 | .str,_=>1
 | .fn,_=>1
 | .sl ks,xs=>gJ (cnR ks) xs
def cnR:(ks:List Kd)->Row ks->Int
 | [],_=>0
 | k::ks,r=>cnT k r.1+cnR ks r.2
end
/-- How many cells lie in a struct's slices. -/
def cnS:(ks:List Kd)->Row ks->Int
 | [],_=>0
 | .sl k::ks,r=>cnT (.sl k) r.1+cnS ks r.2
 | .int _::ks,r=>cnS ks r.2
 | .bool::ks,r=>cnS ks r.2
 | .str::ks,r=>cnS ks r.2
 | .fn::ks,r=>cnS ks r.2
mutual
/-- How much lies in a value: elements and texts' bytes. -/
def szT:(k:Kd)->k.T->Int
 | .int _,_=>0
 | .bool,_=>0
 | .str,s=>((ByteArray.size s:Nat):Int)
 | .fn,_=>0
 | .sl ks,xs=>((List.length xs:Nat):Int)+gJ (szR ks) xs
def szR:(ks:List Kd)->Row ks->Int
 | [],_=>0
 | k::ks,r=>szT k r.1+szR ks r.2
end
mutual
def GX:Kd->Bool
 | .sl ks=>Nat.ble ks.length 64&&uJ ks
 | .int _=>true
 | .bool=>true
 | .str=>true
 | .fn=>true
def uJ:List Kd->Bool
 | []=>true
 | k::ks=>GX k&&uJ ks
end
theorem qS{α:Type}{c:α->Int}:∀ (xs:List α),(∀ x∈xs,0<=c x)->0<=gJ c xs
 | [],_=>Int.le_refl _
 | x::xs,h=>by
  have h1:=h x (List.mem_cons_self ..)
  have h2:=qS xs λy hy=>h y (List.mem_cons_of_mem _ hy)
  show 0<=c x+gJ c xs
  omega
theorem IJ{α:Type}{c d:α->Int}{A B:Int}:∀ (xs:List α),(∀ x∈xs,c x<=A+B*d x)->gJ c xs<=A*(xs.length:Int)+B*gJ d xs
 | [],_=>by show(0:Int)<=A*((0:Nat):Int)+B*0;omega
 | x::xs,h=>by
  have h1:=h x (List.mem_cons_self ..)
  have h2:=IJ (A:=A) (B:=B) (c:=c) (d:=d) xs λy hy=>h y (List.mem_cons_of_mem _ hy)
  show c x+gJ c xs<=A*(((xs.length+1:Nat):Nat):Int)+B*(d x+gJ d xs)
  rw[Int.mul_add,show(((xs.length+1:Nat):Nat):Int)=(xs.length:Int)+1 from by omega,Int.mul_add]
  omega
theorem pK{α:Type}{c:α->Int}:∀ (xs ys:List α),gJ c (xs++ys)=gJ c xs+gJ c ys
 | [],ys=>by show gJ c ys=0+gJ c ys;omega
 | x::xs,ys=>by
  show c x+gJ c (xs++ys)=c x+gJ c xs+gJ c ys
  rw[pK xs ys];omega
theorem yT{α:Type}{c:α->Int}{xs:List α}{i:Nat}(h:i<xs.length):gJ c (xs.take (i+1))=gJ c (xs.take i)+c xs[i]:=by
 rw[<- List.take_append_getElem h,pK]
 show gJ c (xs.take i)+(c xs[i]+0)=_
 omega
mutual
theorem SK:∀ (k:Kd) (x:k.T),0<=cnT k x
 | .int _,_=>by show(0:Int)<=1;omega
 | .bool,_=>by show(0:Int)<=1;omega
 | .str,_=>by show(0:Int)<=1;omega
 | .fn,_=>by show(0:Int)<=1;omega
 | .sl ks,xs=>qS (c:=cnR ks) xs λx _=>OQ ks x
theorem OQ:∀ (ks:List Kd) (r:Row ks),0<=cnR ks r
 | [],_=>Int.le_refl _
 | k::ks,r=>by
  have h1:=SK k r.1
  have h2:=OQ ks r.2
  show 0<=cnT k r.1+cnR ks r.2
  omega
end
mutual
theorem GE:∀ (k:Kd) (x:k.T),0<=szT k x
 | .int _,_=>Int.le_refl _
 | .bool,_=>Int.le_refl _
 | .str,s=>by show(0:Int)<=((ByteArray.size s:Nat):Int);omega
 | .fn,_=>Int.le_refl _
 | .sl ks,xs=>by
  have h:=qS (c:=szR ks) xs λx _=>yS ks x
  show(0:Int)<=((List.length xs:Nat):Int)+gJ (szR ks) xs
  omega
theorem yS:∀ (ks:List Kd) (r:Row ks),0<=szR ks r
 | [],_=>Int.le_refl _
 | k::ks,r=>by
  have h1:=GE k r.1
  have h2:=yS ks r.2
  show 0<=szT k r.1+szR ks r.2
  omega
end
mutual
theorem SL:∀ (k:Kd) (x:k.T),GX k=true->cnT k x<=(bif iK k then 1 else 0)+64*szT k x
 | .int _,_,_=>by show(1:Int)<=1+64*0;omega
 | .bool,_,_=>by show(1:Int)<=1+64*0;omega
 | .str,s,_=>by show(1:Int)<=1+64*((ByteArray.size s:Nat):Int);omega
 | .fn,_,_=>by show(1:Int)<=1+64*0;omega
 | .sl ks,xs,h=>by
  have h':(Nat.ble ks.length 64&&uJ ks)=true:=h
  rw[Bool.and_eq_true] at h'
  have hl:=Nat.le_of_ble_eq_true h'.1
  have:=IJ (c:=cnR ks) (d:=szR ks) (A:=64) (B:=64) xs λx _=>by
   have:=OS ks x h'.2
   omega
  show gJ (cnR ks) xs<=0+64*(((List.length xs:Nat):Int)+gJ (szR ks) xs)
  rw[Int.mul_add];omega
theorem OS:∀ (ks:List Kd) (r:Row ks),uJ ks=true->cnR ks r<=(ks.length:Int)+64*szR ks r
 | [],_,_=>by show(0:Int)<=((0:Nat):Int)+64*0;omega
 | k::ks,r,h=>by
  have h':(GX k&&uJ ks)=true:=h
  rw[Bool.and_eq_true] at h'
  have h1:=SL k r.1 h'.1
  have h2:=OS ks r.2 h'.2
  have h3:=GE k r.1
  show cnT k r.1+cnR ks r.2<=(((ks.length+1:Nat):Nat):Int)+64*(szT k r.1+szR ks r.2)
  have h4:cnT k r.1<=1+64*szT k r.1:=by
   cases hf:iK k<;>rw[hf] at h1<;>simp only[cond_true,cond_false] at h1<;>omega
  rw[Int.mul_add]
  omega
end
/-- A number as a cell of a kind holds it. -/
def wr(j:IntKind)(n:Int):Int:=match j with
 | .i64=>n
 | j=>j.wrap n
section
variable (txt:Int->ByteArray)
mutual
/-- A value whose cells are numbered. -/
def mkT:(k:Kd)->k.T->Int->k.T
 | .int j,_,n=>wr j n
 | .bool,_,n=>n.tmod 3==0
 | .str,_,n=>txt n
 | .fn,x,_=>x
 | .sl ks,xs,n=>N8 (mkR ks) (cnR ks) xs n
def mkR:(ks:List Kd)->Row ks->Int->Row ks
 | [],_,_=>()
 | k::ks,r,n=>(mkT k r.1 n,mkR ks r.2 (n+cnT k r.1))
end
end
section
variable {ι σ α:Type} {c:Nat->ι->(σ->Option Out)->σ->Option Out} {r:ι->Option Out}
theorem C0{d:α->Int}(hd:∀ x,0<=d x){xs:List α}{i:Nat}(h:i<xs.length):0<=gJ d (xs.take i)/\gJ d (xs.take i)+d xs[i]<=gJ d xs:=by
 have e:gJ d xs=gJ d (xs.take (i+1))+gJ d (xs.drop (i+1)):=by rw[<- pK,List.take_append_drop]
 rw[e,yT h]
 have h1:=qS (c:=d) (xs.take i) λx _=>hd x
 have h2:=qS (c:=d) (xs.drop (i+1)) λx _=>hd x
 omega
end
mutual
/-- No row in a value is too long. -/
def LmT:(k:Kd)->k.T->Prop
 | .int _,_=>True
 | .bool,_=>True
 | .str,_=>True
 | .fn,_=>True
 | .sl ks,xs=>List.length xs<=4611686018427387904/\∀ (i:Nat) (r:Row ks),at? xs i=some r->LmR ks r
def LmR:(ks:List Kd)->Row ks->Prop
 | [],_=>True
 | k::ks,r=>LmT k r.1/\LmR ks r.2
end
mutual
theorem TSm.lm:∀ (k:Kd) (x:k.T),TSm k x->LmT k x
 | .int _,_,_=>trivial
 | .bool,_,_=>trivial
 | .str,_,_=>trivial
 | .fn,_,_=>trivial
 | .sl ks,xs,h=>⟨Nat.le_trans h.1 (by decide),λi r hr=>Small.lm ks r (h.2 i r hr)⟩
theorem Small.lm:∀ (ks:List Kd) (r:Row ks),Small ks r->LmR ks r
 | [],_,_=>trivial
 | k::ks,r,h=>⟨TSm.lm k r.1 h.1,Small.lm ks r.2 h.2⟩
end
mutual
theorem RP:∀ (k:Kd) (x:k.T),szT k x<=4611686018427387904->LmT k x
 | .int _,_,_=>trivial
 | .bool,_,_=>trivial
 | .str,_,_=>trivial
 | .fn,_,_=>trivial
 | .sl ks,xs,h=>by
  have h':((List.length xs:Nat):Int)+gJ (szR ks) xs<=4611686018427387904:=h
  have h2:=qS (c:=szR ks) xs λx _=>yS ks x
  refine⟨by omega,λi r hr=>L3 ks r ?_⟩
  obtain⟨hi,rfl⟩:=QW hr
  have:=(C0 (d:=szR ks) (λx=>yS ks x) hi)
  omega
theorem L3:∀ (ks:List Kd) (r:Row ks),szR ks r<=4611686018427387904->LmR ks r
 | [],_,_=>trivial
 | k::ks,r,h=>by
  have h':szT k r.1+szR ks r.2<=4611686018427387904:=h
  have h1:=GE k r.1
  have h2:=yS ks r.2
  exact⟨RP k r.1 (by omega),L3 ks r.2 (by omega)⟩
end
theorem jN{α:Type}{c:α->Int}{n:Int}(h:∀ x,c x=n):∀ xs:List α,gJ c xs=n*(xs.length:Int)
 | []=>by show(0:Int)=n*((0:Nat):Int);simp
 | x::xs=>by
  show c x+gJ c xs=n*(((xs.length+1:Nat):Nat):Int)
  rw[h,jN h xs,show(((xs.length+1:Nat):Nat):Int)=(xs.length:Int)+1 from by omega,Int.mul_add];omega
theorem set_set{α:Type}(ys:List α)(i:Nat)(x y:α):(ys.set i x).set i y=ys.set i y:=by simp
end Go.Abs
-- exchanges begun and gone through: plain laws
namespace Go.Abs
def pJ(x:NodeT)(to:Int):Bool:=eO x&&(uF x to&&(!decide (cW x.sess to false>=0)&&(!((x.sess.length:Int)==x.slots)&& !(x.num==100000))))
def EA(x:NodeT)(to:Int):NodeT:=
 (x.1,x.2.1,x.2.2.1,x.2.2.2.1,x.2.2.2.2.1,x.2.2.2.2.2.1,x.2.2.2.2.2.2.1,x.2.2.2.2.2.2.2.1,x.2.2.2.2.2.2.2.2.1,x.got,x.acked,x.seen,i64.wrap (x.num+1),x.slots,x.sess++[(to,i64.wrap (x.num+1),false,(0:Int),())],x.wait,x.limit,x.clock,x.rises,())
def RT(x:NodeT)(to:Int):MsgT:=(2,x.1,to,i64.wrap (x.num+1),bU x.log,x.tree.1,x.tree.2.1,x.got,[],[],[],cB x.state,())
def NB:MsgT:=((0:Int),(0:Int),(0:Int),(0:Int),(0:Int),[],(0:Int),[],[],[],[],[],())
abbrev TE:=NodeT×MsgT×Bool
def pI(x:NodeT)(to:Int):TE:=bif pJ x to then(EA x to,RT x to,true)else(x,NB,false)
structure SynOk (x:NodeT) (to:Int):Prop where
 node:NodeOk x
 peer:0<=to/\to<x.2.1/\to≠x.1
 slot:cW x.sess to false<0
 room:(x.sess.length:Int)<x.slots
 num:0<=x.num/\x.num<100000
 nn:1<=x.2.1/\x.2.1<=5
theorem tO{x:NodeT}{to:Int}(h:pJ x to=true):SynOk x to:=by
 unfold pJ uF at h
 simp only[Bool.and_eq_true,Bool.not_eq_true',decide_eq_false_iff_not,beq_eq_false_iff_ne,bne_iff_ne,aQ] at h
 obtain⟨h1,⟨h2,h3⟩,h4,h5,h6⟩:=h
 have hn:=(fQ x).1 h1
 have h7:=hn.n;have h8:=hn.num
 have h9:=((dG x).1 hn.sess).1
 rw[aQ] at h7 h8
 rw[IntKind.wrap_i64] at h2
 exact⟨hn,by omega,by omega,by omega,by omega,by omega⟩
theorem GU{n:Int}(h:0<=n/\n<100000):i64.wrap (n+1)=n+1:=by rw[IntKind.wrap_i64];omega
theorem SynOk.up{x:NodeT}{to:Int}(h:SynOk x to):NodeOk (EA x to) where
 n:=h.node.n
 id:=h.node.id
 state:=h.node.state
 tree:=h.node.tree
 log:=h.node.log
 got:=h.node.got
 acked:=h.node.acked
 own:=h.node.own
 seen:=h.node.seen
 ack:=h.node.ack
 num:=by show inB (i64.wrap (x.num+1)) 0 100000=true;rw[GU h.num,aQ];have:=h.num;omega
 clock:=h.node.clock
 slots:=h.node.slots
 wait:=h.node.wait
 limit:=h.node.limit
 rises:=h.node.rises
 rise:=h.node.rise
 sess:=by
  have hs:=(dG x).1 h.node.sess
  refine(dG _).2 ⟨?_,λs hm=>?_,?_⟩
  ·show(((x.sess++[_]).length:Nat):Int)<=x.slots
   rw[List.length_append,List.length_singleton];have:=h.room;omega
  ·have hm:s∈x.sess++[(to,i64.wrap (x.num+1),false,(0:Int),())]:=hm
   rcases List.mem_append.1 hm with h1 | h1
   ·exact hs.2.1 s h1
   ·rw[List.mem_singleton.1 h1]
    have h2:=h.peer;have h3:=h.num;have h4:=h.node.wait;have h5:=h.nn
    rw[aQ] at h4
    refine⟨?_,h2.2.2,?_,?_⟩
    ·show inB to 0 (i64.wrap (x.2.1 - 1))=true
     rw[aQ,IntKind.wrap_i64];omega
    ·show inB (i64.wrap (x.num+1)) 0 100000=true
     rw[GU h.num,aQ];omega
    ·show inB 0 0 x.wait=true
     rw[aQ];omega
  ·show(List.map pA (x.sess++[(to,i64.wrap (x.num+1),false,(0:Int),())])).Nodup
   rw[List.map_append,List.nodup_append]
   refine⟨hs.2.2,by simp,λa ha b hb=>?_⟩
   obtain⟨s,hs1,rfl⟩:=List.mem_map.1 ha
   have hb:b=(to,false):=by simpa [pA] using hb
   rw[hb]
   rcases fN x.sess to false with ⟨k,_,e,_⟩ | ⟨_,e⟩
   ·have:=h.slot;rw[e] at this;omega
   ·exact e s hs1
theorem D9{x:NodeT}{to:Int}(hz:SzN x)(h:SynOk x to):SzN (EA x to):=
 ⟨hz.state,hz.leaves,hz.list,hz.logs,hz.got,hz.acked,hz.seen,hz.lines,by
  have h1:=h.room;have h2:=h.node.slots;rw[aQ] at h2
  show(x.sess++[_]).length<=aN
  rw[List.length_append,List.length_singleton];unfold aN;omega,hz.rises⟩
theorem PR{x:NodeT}(hz:SzN x)(to:Int):SzM (RT x to):=⟨hz.leaves,hz.got,Nat.zero_le _,nW,Nat.le_trans (eI _) (by decide)⟩
theorem QI:SzM NB:=⟨Nat.zero_le _,Nat.zero_le _,Nat.zero_le _,nW,Nat.zero_le _⟩
theorem PN{x:NodeT}(hz:SzN x)(to:Int):SzN (pI x to).1/\SzM (pI x to).2.1:=by
 unfold pI
 cases h:pJ x to with
 | false=>exact⟨hz,QI⟩
 | true=>exact⟨D9 hz (tO h),PR hz to⟩
theorem L4{x:NodeT}{to:Int}(h:pJ x to=true):pI x to=(EA x to,RT x to,true):=by unfold pI;rw[h];rfl
theorem PP{x:NodeT}{to:Int}(h:pJ x to=false):pI x to=(x,NB,false):=by unfold pI;rw[h];rfl
-- who answers whom
structure RecTo (x:NodeT) (m:MsgT) (r:IB):Prop where
 id:r.1.1=x.1
 to:∀ q∈r.2.1,q.2.2.1=m.2.1/\q.2.1=x.1
-- an exchange gone through
end Go.Abs
-- saying: plain laws
namespace Go.Abs
abbrev PA:=aD×Int
def zG(id:Int)(e:bD):aD:=bif aJ ([(id,e)],[],())then([(id,e)],[],())else iC
theorem uH(id:Int)(e:bD):aJ (zG id e)=true:=by
 unfold zG
 cases h:aJ ([(id,e)],[],())with
 | true=>exact h
 | false=>rfl
def upE(s:aD)(id:Int):bD×Int:=bif aJ s then(bif eH id then(bif(n8 s id).2 then((n8 s id).1,0)else(cV,3))else(cV,1))else(cV,1)
def uK(s:aD)(id:Int):Int:=mxI true (bA s id).1.1 (cH s.2.1 id)
def qV(s:aD)(id:Int):PA:=bif aJ s then(bif eH id then(bif(n8 s id).2 then(iC,2)else bif uK s id==1000 then(iC,4)else(zG id (i64.wrap (uK s id+1),0,0,0,⟨#[]⟩,()),0))else(iC,1))else(iC,1)
def qX(s:aD)(id:Int):PA:=bif(upE s id).2 != 0 then(iC,(upE s id).2)else bif(upE s id).1.2.2.1==100000 then(iC,4)else
 (zG id ((upE s id).1.1,(upE s id).1.2.1,i64.wrap ((upE s id).1.2.2.1+1),(upE s id).1.2.2.2.1,(upE s id).1.2.2.2.2.1,()),0)
def vD(s:aD)(id:Int)(t:ByteArray):PA:=bif(upE s id).2 != 0 then(iC,(upE s id).2)else bif(upE s id).1.2.2.2.1==1000 then(iC,4)else bif decide (((ByteArray.size t:Nat):Int)>8)then(iC,4)else
 (zG id ((upE s id).1.1,(upE s id).1.2.1,(upE s id).1.2.2.1,i64.wrap ((upE s id).1.2.2.2.1+1),t,()),0)
def qW(s:aD)(id:Int):PA:=bif(upE s id).2 != 0 then(iC,(upE s id).2)else(zG id ((upE s id).1.1,1,(upE s id).1.2.2.1,(upE s id).1.2.2.2.1,(upE s id).1.2.2.2.2.1,()),0)
def gH(s:aD)(k id:Int)(t:ByteArray):PA:=bif k==0 then qV s id else bif k==1 then qX s id else bif k==2 then vD s id t else qW s id
theorem GK(s:aD)(id:Int):aJ (qV s id).1=true:=by
 unfold qV
 cases aJ s<;>cases eH id<;>cases (n8 s id).2<;>cases uK s id==1000<;>first | rfl | exact uH _ _
theorem GM(s:aD)(id:Int):aJ (qX s id).1=true:=by
 unfold qX
 cases (upE s id).2 != 0<;>cases (upE s id).1.2.2.1==100000<;>first | rfl | exact uH _ _
theorem JX(s:aD)(id:Int)(t:ByteArray):aJ (vD s id t).1=true:=by
 unfold vD
 cases (upE s id).2 != 0<;>cases (upE s id).1.2.2.2.1==1000<;>cases decide (((ByteArray.size t:Nat):Int)>8)<;>first | rfl | exact uH _ _
theorem GL(s:aD)(id:Int):aJ (qW s id).1=true:=by
 unfold qW
 cases (upE s id).2 != 0<;>first | rfl | exact uH _ _
theorem EH(s:aD)(k id:Int)(t:ByteArray):aJ (gH s k id t).1=true:=by
 unfold gH
 cases k==0
 ·cases k==1
  ·cases k==2
   ·exact GL s id
   ·exact JX s id t
  ·exact GM s id
 ·exact GK s id
-- logs
def oY(l:fJ)(d:aD):Bool:=fL l&&(aJ d&& !(i64.wrap (l.2.1+(l.2.2.1.length:Int))==100000))
def gB(l:fJ)(d:aD):fJ:=bif decide ((((l.2.2.1++[d]).length:Nat):Int)>l.1)then(l.1,i64.wrap (l.2.1+1),(l.2.2.1++[d]).drop 1,())else(l.1,l.2.1,l.2.2.1++[d],())
def sQ(l:fJ)(d:aD):fJ×Bool:=bif oY l d then(gB l d,true)else(l,false)
structure LogOk (l:fJ):Prop where
 cap:1<=l.1/\l.1<=8
 len:(l.2.2.1.length:Int)<=l.1
 frm:0<=l.2.1/\l.2.1<=100000
 top:l.2.1+(l.2.2.1.length:Int)<=100000
 all:∀ s∈l.2.2.1,aJ s=true
theorem mY(l:fJ):fL l=true↔LogOk l:=by
 unfold fL
 simp only[Bool.and_eq_true,aQ,Bool.not_eq_true',decide_eq_false_iff_not,bJ]
 constructor
 ·rintro ⟨h1,h2,h3,h4,h5⟩
  rw[IntKind.wrap_i64] at h4
  refine⟨h1,by omega,h3,by omega,λs hs=>?_⟩
  obtain⟨i,hi,rfl⟩:=gN hs
  exact h5 i hi
 ·rintro ⟨h1,h2,h3,h4,h5⟩
  rw[IntKind.wrap_i64]
  exact⟨h1,by omega,h3,by omega,λi hi=>h5 _ (cR hi)⟩
theorem rH{l:fJ}(h:LogOk l):bU l=l.2.1+(l.2.2.1.length:Int):=by
 have h1:=h.frm;have h2:=h.top
 unfold bU;rw[(mY l).2 h];show i64.wrap _=_;rw[IntKind.wrap_i64];omega
theorem KN{l:fJ}{d:aD}(h:LogOk l)(hd:aJ d=true)(hn:l.2.1+(l.2.2.1.length:Int)<100000):LogOk (gB l d)/\bU (gB l d)=bU l+1:=by
 have h1:=h.cap;have h2:=h.len;have h3:=h.frm
 have hl:(l.2.2.1++[d]).length=l.2.2.1.length+1:=by rw[List.length_append,List.length_singleton]
 have ha:∀ s∈l.2.2.1++[d],aJ s=true:=λs hs=>by
  rcases List.mem_append.1 hs with hs | hs
  ·exact h.all s hs
  ·rw[List.mem_singleton.1 hs];exact hd
 have key:LogOk (gB l d)/\(gB l d).2.1+(((gB l d).2.2.1.length:Nat):Int)=l.2.1+(l.2.2.1.length:Int)+1:=by
  unfold gB
  by_cases hc:(((l.2.2.1++[d]).length:Nat):Int)>l.1
  ·rw[decide_eq_true hc]
   have hw:i64.wrap (l.2.1+1)=l.2.1+1:=by rw[IntKind.wrap_i64];omega
   have hdl:((l.2.2.1++[d]).drop 1).length=l.2.2.1.length:=by rw[List.length_drop,hl];omega
   refine⟨⟨h1,?_,?_,?_,λs hs=>ha s (List.mem_of_mem_drop hs)⟩,?_⟩
   ·show((((l.2.2.1++[d]).drop 1).length:Nat):Int)<=l.1;rw[hdl];exact h2
   ·show 0<=i64.wrap (l.2.1+1)/\i64.wrap (l.2.1+1)<=100000;rw[hw];omega
   ·show i64.wrap (l.2.1+1)+((((l.2.2.1++[d]).drop 1).length:Nat):Int)<=100000;rw[hw,hdl];omega
   ·show i64.wrap (l.2.1+1)+((((l.2.2.1++[d]).drop 1).length:Nat):Int)=_;rw[hw,hdl];omega
  ·rw[decide_eq_false hc]
   rw[hl] at hc
   refine⟨⟨h1,?_,h3,?_,ha⟩,?_⟩
   ·show(((l.2.2.1++[d]).length:Nat):Int)<=l.1;rw[hl];omega
   ·show l.2.1+(((l.2.2.1++[d]).length:Nat):Int)<=100000;rw[hl];omega
   ·show l.2.1+(((l.2.2.1++[d]).length:Nat):Int)=_;rw[hl];omega
 exact⟨key.1,by rw[rH key.1,rH h];exact key.2⟩
-- a node says
def vE(x:NodeT)(k id:Int):Bool:=eO x&&(inB k 0 4&&(inB id 0 (i64.wrap (x.2.1 - 1))&& !(rP (k==4) (id==x.1))))
def IO(x:NodeT)(d:aD):NodeT:=
 (x.1,x.2.1,x.2.2.1,x.2.2.2.1,x.2.2.2.2.1,x.2.2.2.2.2.1,(gB x.log d).1,(gB x.log d).2.1,(gB x.log d).2.2.1,x.got.set x.1.toNat (i64.wrap ((gt x.got x.1.toNat).1+1),()),x.acked,x.seen,x.num,x.slots,x.sess,x.wait,x.limit,x.clock,x.rises,())
abbrev RH:=NodeT×aD×Int
def tW(x:NodeT)(k id:Int)(t:ByteArray):RH:=
 bif vE x k id then(bif(gH x.state k id t).2 != 0 then(x,iC,(gH x.state k id t).2)else bif oY x.log (gH x.state k id t).1 then(hU (IO x (gH x.state k id t).1) (gH x.state k id t).1,(gH x.state k id t).1,0)else(x,iC,4))else(x,iC,1)
theorem y3{x:NodeT}{d:aD}(h:NodeOk x)(hd:oY x.log d=true):NodeOk (IO x d):=by
 unfold oY at hd
 simp only[Bool.and_eq_true,Bool.not_eq_true',beq_eq_false_iff_ne] at hd
 have hL:=(mY x.log).1 h.log
 have h1:=hL.frm;have h2:=hL.top;have h3:=hL.len;have h4:=hL.cap
 have hw:i64.wrap (x.log.2.1+(x.log.2.2.1.length:Int))=x.log.2.1+(x.log.2.2.1.length:Int):=by rw[IntKind.wrap_i64];omega
 rw[hw] at hd
 obtain⟨p1,p2⟩:=KN hL hd.2.1 (by have:=hd.2.2;omega)
 have hs:bU x.log<100000/\0<=bU x.log:=by rw[rH hL];have:=hd.2.2;omega
 have hg:(gt x.got x.1.toNat).1=bU x.log:=eq_of_beq h.own
 have hwg:i64.wrap ((gt x.got x.1.toNat).1+1)=bU x.log+1:=by rw[hg,IntKind.wrap_i64];omega
 have hid:=h.id;have hn:=h.n;have hv:=h.got
 rw[aQ] at hid hn
 rw[IntKind.wrap_i64] at hid
 unfold eG at hv
 simp only[Bool.and_eq_true,beq_iff_eq] at hv
 have hk:x.1.toNat<x.got.length:=by omega
 exact {
  n:=h.n,id:=h.id,state:=h.state,tree:=h.tree
  log:=(mY _).2 p1
  got:=by
   show eG (x.got.set x.1.toNat _) x.2.1=true
   unfold eG
   simp only[Bool.and_eq_true,beq_iff_eq]
   rw[List.length_set]
   refine⟨hv.1,hv.2.1,?_⟩
   have h5:=bJ.1 hv.2.2
   rw[bJ]
   intro i hi
   by_cases e:x.1.toNat=i
   ·rw[<- e,cE hk];show inB (i64.wrap _) 0 100000=true;rw[hwg,aQ];omega
   ·rw[eL e];exact h5 i hi
  acked:=h.acked
  own:=by
   show((gt (x.got.set x.1.toNat (i64.wrap ((gt x.got x.1.toNat).1+1),())) x.1.toNat).1==bU (gB x.log d))=true
   rw[cE hk,p2,beq_iff_eq];exact hwg
  seen:=h.seen
  ack:=by
   have h6:=h.ack
   unfold AZ at h6 ⊢
   rw[bJ] at h6 ⊢
   intro i hi
   have h7:=h6 i hi
   show(!decide ((gt x.acked i).1>bU (gB x.log d)))=true
   rw[p2]
   simp only[Bool.not_eq_true',decide_eq_false_iff_not] at h7 ⊢
   omega
  num:=h.num,clock:=h.clock,slots:=h.slots,wait:=h.wait,limit:=h.limit,rises:=h.rises,rise:=h.rise,sess:=h.sess }
theorem G6(l:fJ)(d:aD):(gB l d).2.2.1.length<=l.2.2.1.length+1:=by
 unfold gB
 cases decide ((((l.2.2.1++[d]).length:Nat):Int)>l.1)with
 | true=>show((l.2.2.1++[d]).drop 1).length<=_;rw[List.length_drop,List.length_append,List.length_singleton];omega
 | false=>show(l.2.2.1++[d]).length<=_;rw[List.length_append,List.length_singleton];exact Nat.le_refl _
theorem EI{x:NodeT}{d:aD}(hz:SzN x)(h:NodeOk x)(hd:oY x.log d=true):SzN (IO x d):=by
 have ho:=(mY _).1 (y3 h hd).log
 have h1:=ho.cap;have h2:=ho.len
 refine⟨hz.state,hz.leaves,?_,λi hi=>?_,?_,hz.acked,hz.seen,hz.lines,hz.sess,hz.rises⟩
 ·unfold aN;omega
 ·have:=((aM _).1 (ho.all _ (cR hi))).len
  exact⟨by unfold aN;omega,by unfold aN;omega⟩
 ·show(x.got.set _ _).length<=aN;rw[List.length_set];exact hz.got
theorem PZ{x:NodeT}(h:NodeOk x)(k id:Int)(t:ByteArray):NodeOk (tW x k id t).1:=by
 unfold tW
 cases vE x k id with
 | false=>exact h
 | true=>
  cases (gH x.state k id t).2 != 0 with
  | true=>exact h
  | false=>
   cases hb:oY x.log (gH x.state k id t).1 with
   | false=>exact h
   | true=>exact(y3 h hb).take (EH _ _ _ _)
theorem PY{x:NodeT}(hz:SzN x)(k id:Int)(t:ByteArray):SzN (tW x k id t).1:=by
 unfold tW
 cases hs:vE x k id with
 | false=>exact hz
 | true=>
  have h:NodeOk x:=(fQ x).1 (by unfold vE at hs;simp only[Bool.and_eq_true] at hs;exact hs.1)
  cases (gH x.state k id t).2 != 0 with
  | true=>exact hz
  | false=>
   cases hb:oY x.log (gH x.state k id t).1 with
   | false=>exact hz
   | true=>exact j0 (EI hz h hb) _
end Go.Abs
-- check sums lie in 0 .. 2^32 - 1: plain laws
namespace Go.Abs
def uZ(x:Int):Prop:=0<=x/\x<4294967296
theorem LT{a b:Int}(ha:uZ a)(hb:uZ b):uZ (dW .i64 a b):=by
 obtain⟨n,rfl⟩:∃ n:Nat,a=n:=⟨a.toNat,by have:=ha.1;omega⟩
 obtain⟨m,rfl⟩:∃ m:Nat,b=m:=⟨b.toNat,by have:=hb.1;omega⟩
 have hn:n<2 ^ 32:=by have:=ha.2;omega
 have hm:m<2 ^ 32:=by have:=hb.2;omega
 unfold dW
 have h:(BitVec.ofInt i64.bits (n:Int) ^^^ BitVec.ofInt i64.bits (m:Int)).toNat<2 ^ 32:=by
  rw[BitVec.toNat_xor]
  have e1:(BitVec.ofInt i64.bits (n:Int)).toNat=n:=by
   rw[BitVec.toNat_ofInt];show((n:Int) % ((2 ^ 64:Nat):Int)).toNat=n;omega
  have e2:(BitVec.ofInt i64.bits (m:Int)).toNat=m:=by
   rw[BitVec.toNat_ofInt];show((m:Int) % ((2 ^ 64:Nat):Int)).toNat=m;omega
  rw[e1,e2];exact Nat.xor_lt_two_pow hn hm
 generalize (BitVec.ofInt i64.bits (n:Int) ^^^ BitVec.ofInt i64.bits (m:Int)).toNat=k at h
 have e:i64.wrap (k:Int)=k:=by rw[IntKind.wrap_i64];omega
 rw[e];exact⟨by omega,by omega⟩
theorem OL{x:Int}(h:uZ x):uZ (sY x):=by
 have hd:0<=x.tdiv 2/\x.tdiv 2<4294967296:=by
  have h1:=h.1;have h2:=h.2
  rw[Int.tdiv_eq_ediv_of_nonneg h1];omega
 have hw:i64.wrap (x.tdiv 2)=x.tdiv 2:=by rw[IntKind.wrap_i64];omega
 unfold sY
 rw[hw]
 cases (x.tmod 2)==1 with
 | true=>exact LT hd ⟨by omega,by omega⟩
 | false=>exact hd
theorem CG{x:Int}(h:uZ x):∀ k,uZ (iQ k x)
 | 0=>h
 | k+1=>OL (CG h k)
theorem JB{bs:List aH}(h:∀ b∈bs,uZ b.1):∀ i,i<=bs.length->uZ (xK bs i)
 | 0,_=>⟨by show(0:Int)<=4294967295;omega,by show(4294967295:Int)<4294967296;omega⟩
 | i+1,hi=>by
  have hb:=h _ (cR (xs:=bs) (i:=i) (by omega))
  have hw:i64.wrap (gt bs i).1=(gt bs i).1:=by have h1:=hb.1;have h2:=hb.2;rw[IntKind.wrap_i64];omega
  show uZ (iQ 8 (dW .i64 (xK bs i) (i64.wrap (gt bs i).1)))
  rw[hw]
  exact CG (LT (JB h i (by omega)) hb) 8
theorem OM{bs:List aH}(h:∀ b∈bs,uZ b.1):uZ (crc bs):=by
 unfold crc
 exact LT (JB h _ (Nat.le_refl _)) ⟨by omega,by omega⟩
def B32(bs:List aH):Prop:=∀ b∈bs,uZ b.1
theorem B32.app{a b:List aH}(ha:B32 a)(hb:B32 b):B32 (a++b):=λx hx=>by
 rcases List.mem_append.1 hx with h | h
 ·exact ha x h
 ·exact hb x h
theorem B32.flat{α:Type}{f:α->List aH}(h:∀ x,B32 (f x))(xs:List α):B32 (xs.flatMap f):=λx hx=>by
 obtain⟨a,_,ha⟩:=List.mem_flatMap.1 hx
 exact h a x ha
theorem R3(n:Nat):B32 (gX n):=by
 induction n using Nat.strongRecOn with
 | _ n ih=>
  unfold gX
  split
  ·rename_i h
   intro b hb
   rw[List.mem_singleton.1 hb];exact⟨by show(0:Int)<=(n:Int);omega,by show(n:Int)<4294967296;omega⟩
  ·rename_i h
   intro b hb
   rcases List.mem_cons.1 hb with e | e
   ·rw[e];exact⟨by show(0:Int)<=((n % 128+128:Nat):Int);omega,by show((n % 128+128:Nat):Int)<4294967296;omega⟩
   ·exact ih (n / 128) (Nat.div_lt_self (by omega) (by omega)) b e
theorem gM(x:Int):B32 (aG x):=by
 unfold aG
 cases inB x 0 2147483647 with
 | false=>intro b hb;cases hb
 | true=>exact R3 _
theorem KA(t:ByteArray):B32 (dR t):=by
 unfold dR
 refine(gM _).app λb hb=>?_
 unfold fG eM at hb
 obtain⟨u,_,rfl⟩:=List.mem_map.1 hb
 have:=u.toNat_lt
 exact⟨by show(0:Int)<=((u.toNat:Nat):Int);omega,by show((u.toNat:Nat):Int)<4294967296;omega⟩
theorem OY(s:aD):B32 (bG s):=by
 unfold bG
 refine(((gM _).app (B32.flat (λx=>?_) _)).app (gM _)).app (B32.flat (λf=>?_) _)
 ·unfold aZ;exact(((((gM _).app (gM _)).app (gM _)).app (gM _)).app (gM _)).app (KA _)
 ·unfold aV;exact(gM _).app (gM _)
theorem D6{x:Int}(h:uZ x):inB (x.tmod 1024) 0 1023=true:=by
 rw[aQ];have:=tL (x:=x) (n:=1024) h.1 (by omega);omega
theorem n9(s:aD)(k:Int):inB (iP s k) 0 1023=true:=by
 unfold iP
 cases aJ s&&inB k 0 3 with
 | true=>exact D6 (OM (OY _))
 | false=>rfl
theorem LX{s:aD}(h:aJ s=true):treeB (bV s)=true:=by
 unfold bV;rw[h]
 show treeB (dK s,kX (dK s),())=true
 have hr:inB (kX (dK s)) 0 1023=true:=D6 (OM (B32.flat (λx=>gM _) _))
 have hl:kA (dK s) 1023=true:=bJ.2 λi hi=>by
  match i,hi with
  | 0,_=>exact n9 s 0
  | 1,_=>exact n9 s 1
  | 2,_=>exact n9 s 2
  | 3,_=>exact n9 s 3
 unfold treeB
 rw[hl,hr];rfl
end Go.Abs
-- states as points of a lattice: plain laws
namespace Go.Abs
-- comparing one after another
structure Cmp {α:Type} (c:α->α->Int):Prop where
 neg:∀ a b,c b a= - c a b
 eq:∀ a b,c a b=0->a=b
 tr:∀ a b d,c a b<=0->c b d<=0->c a d<=0
theorem Cmp.self{α:Type}{c:α->α->Int}(h:Cmp c)(a:α):c a a=0:=by have:=h.neg a a;omega
theorem Cmp.lex{α β:Type}{c:α->α->Int}{d:β->β->Int}(hc:Cmp c)(hd:Cmp d):Cmp (fun(a b:α×β)=>if c a.1 b.1≠0 then c a.1 b.1 else d a.2 b.2) where
 neg a b:=by
  show(if c b.1 a.1≠0 then c b.1 a.1 else d b.2 a.2)= -(if c a.1 b.1≠0 then c a.1 b.1 else d a.2 b.2)
  rw[hc.neg a.1 b.1,hd.neg a.2 b.2];exact uM _ _
 eq a b h:=by
  have h:(if c a.1 b.1≠0 then c a.1 b.1 else d a.2 b.2)=0:=h
  by_cases h0:c a.1 b.1=0
  ·rw[if_neg (λg=>g h0)] at h
   exact Prod.ext (hc.eq _ _ h0) (hd.eq _ _ h)
  ·rw[if_pos h0] at h;exact absurd h h0
 tr a b e h1 h2:=by
  have h1:(if c a.1 b.1≠0 then c a.1 b.1 else d a.2 b.2)<=0:=h1
  have h2:(if c b.1 e.1≠0 then c b.1 e.1 else d b.2 e.2)<=0:=h2
  show(if c a.1 e.1≠0 then c a.1 e.1 else d a.2 e.2)<=0
  have k2:c b.1 e.1<=0:=by
   by_cases h0:c b.1 e.1=0
   ·omega
   ·rw[if_pos h0] at h2;exact h2
  by_cases h0:c a.1 b.1=0
  ·rw[if_neg (λg=>g h0)] at h1
   rw[hc.eq _ _ h0]
   by_cases g0:c b.1 e.1=0
   ·rw[if_neg (λg=>g g0)] at h2 ⊢;exact hd.tr _ _ _ h1 h2
   ·rw[if_pos g0];exact k2
  ·rw[if_pos h0] at h1
   have k3:=hc.tr _ _ _ h1 k2
   by_cases g0:c a.1 e.1=0
   ·have e1:=hc.eq _ _ g0
    rw[<- e1,hc.neg a.1 b.1] at k2;omega
   ·rw[if_pos g0];exact k3
theorem l2_cmp:Cmp l2 where
 neg:=z2
 eq a b h:=by
  unfold l2 at h
  by_cases h1:a<b
  ·rw[decide_eq_true h1] at h;cases h
  ·rw[decide_eq_false h1] at h
   by_cases h2:a>b
   ·rw[decide_eq_true h2] at h;cases h
   ·omega
 tr a b d h1 h2:=by
  have key:∀ x y:Int,l2 x y<=0↔x<=y:=λx y=>by
   unfold l2
   by_cases h1:x<y
   ·rw[decide_eq_true h1];exact⟨λ_=>by omega,λ_=>by show(-1:Int)<=0;omega⟩
   ·rw[decide_eq_false h1]
    by_cases h2:x>y
    ·rw[decide_eq_true h2];exact⟨λh=>by have h:(1:Int)<=0:=h;omega,λ_=>by omega⟩
    ·rw[decide_eq_false h2];exact⟨λ_=>by omega,λ_=>Int.le_refl 0⟩
  rw[key] at h1 h2 ⊢;omega
theorem I3{x y:Int}(h:l2 x y<=0):x<=y:=by
 unfold l2 at h
 by_cases h1:x<y
 ·omega
 ·rw[decide_eq_false h1] at h
  by_cases h2:x>y
  ·rw[decide_eq_true h2] at h;have h:(1:Int)<=0:=h;omega
  ·omega
theorem QO(x:Int):l2 x x=0:=l2_cmp.self x
theorem FW:∀ x y:List UInt8,Lib.compareBytes x y=0->x=y
 | [],[],_=>rfl
 | [],_::_,h=>by unfold Lib.compareBytes at h;omega
 | _::_,[],h=>by unfold Lib.compareBytes at h;omega
 | a::x,b::y,h=>by
  unfold Lib.compareBytes at h
  by_cases h1:a<b
  ·rw[if_pos h1] at h;omega
  ·rw[if_neg h1] at h
   by_cases h2:b<a
   ·rw[if_pos h2] at h;omega
   ·rw[if_neg h2] at h
    have e:a=b:=UInt8.toNat_inj.1 (by rw[UInt8.lt_iff_toNat_lt] at h1 h2;omega)
    rw[e,FW x y h]
theorem FV:∀ x y z:List UInt8,Lib.compareBytes x y<=0->Lib.compareBytes y z<=0->Lib.compareBytes x z<=0
 | [],_,[],_,_=>by unfold Lib.compareBytes;omega
 | [],_,_::_,_,_=>by unfold Lib.compareBytes;omega
 | _::_,[],_,h,_=>by unfold Lib.compareBytes at h;omega
 | _::_,_::_,[],_,h=>by unfold Lib.compareBytes at h;omega
 | a ::x,b::y,c::z,h1,h2=>by
  unfold Lib.compareBytes at h1 h2 ⊢
  simp only[UInt8.lt_iff_toNat_lt] at h1 h2 ⊢
  by_cases c1:a.toNat<b.toNat
  ·by_cases c2:b.toNat<c.toNat
   ·rw[if_pos (by omega)];omega
   ·rw[if_neg c2] at h2
    by_cases c3:c.toNat<b.toNat
    ·rw[if_pos c3] at h2;omega
    ·rw[if_pos (by omega)];omega
  ·rw [if_neg c1] at h1
   by_cases c2:b.toNat<a.toNat
   ·rw[if_pos c2] at h1;omega
   ·rw[if_neg c2] at h1
    by_cases c3:b.toNat<c.toNat
    ·rw[if_pos (by omega)];omega
    ·rw[if_neg c3] at h2
     by_cases c4:c.toNat<b.toNat
     ·rw[if_pos c4] at h2;omega
     ·rw[if_neg c4] at h2
      rw[if_neg (by omega),if_neg (by omega)];exact FV x y z h1 h2
theorem OT:Cmp (fun(a b:ByteArray×Unit)=>uU a.1 b.1) where
 neg a b:=v8 _ _
 eq a b h:=by
  have h1:=FW _ _ h
  obtain⟨⟨⟨x⟩⟩,u⟩:=a
  obtain⟨⟨⟨y⟩⟩,v⟩:=b
  have h1:x=y:=h1
  rw[h1]
 tr a b d h1 h2:=FV _ _ _ h1 h2
theorem cmpE_cmp:Cmp gC:=l2_cmp.lex (l2_cmp.lex (l2_cmp.lex (l2_cmp.lex OT)))
def leE(a b:bD):Prop:=gC a b<=0
theorem m6(a:bD):leE a a:=Int.le_of_eq (cmpE_cmp.self a)
theorem KO{a b c:bD}(h1:leE a b)(h2:leE b c):leE a c:=cmpE_cmp.tr _ _ _ h1 h2
theorem KP(a b:bD):leE a b\/leE b a:=by unfold leE;have:=qH a b;omega
theorem oA{a b:bD}(h1:leE a b)(h2:leE b a):a=b:=cmpE_cmp.eq _ _ (by unfold leE at h1 h2;have:=qH a b;omega)
theorem lW{a b:bD}(h:leE a b):a.1<=b.1:=by
 unfold leE gC at h
 by_cases h0:l2 a.1 b.1=0
 ·exact I3 (by omega)
 ·rw[if_pos h0] at h;exact I3 h
theorem NQ{a b:bD}(h:leE a b)(e:a.1=b.1):a.2.1<=b.2.1:=by
 unfold leE gC at h
 rw[e,if_neg (λg=>g (QO _))] at h
 by_cases h0:l2 a.2.1 b.2.1=0
 ·exact I3 (by omega)
 ·rw[if_pos h0] at h;exact I3 h
theorem LQ{e:bD}(h:1<=e.1):leE cV e:=by unfold leE;rw[v5 h];omega
theorem E5(a b:bD):leE a (mxE a b):=by
 unfold mxE
 by_cases h:gC a b<0
 ·rw[decide_eq_true h];show gC a b<=0;omega
 ·rw[decide_eq_false h];exact m6 a
theorem M8(a b:bD):leE b (mxE a b):=by
 unfold mxE
 by_cases h:gC a b<0
 ·rw[decide_eq_true h];exact m6 b
 ·rw[decide_eq_false h];show gC b a<=0;rw[qH a b];omega
theorem GY(a b:bD):mxE a b=a\/mxE a b=b:=by
 unfold mxE;cases decide (gC a b<0)
 ·exact .inl rfl
 ·exact .inr rfl
theorem M9{a b:bD}(h:leE a b):mxE a b=b:=oA (by rcases GY a b with e | e<;>rw[e];exact h;exact m6 b) (M8 a b)
theorem IX{a b:bD}(h:leE b a):mxE a b=a:=oA (by rcases GY a b with e | e<;>rw[e];exact m6 a;exact h) (E5 a b)
-- points
def ent(s:aD)(i:Int):bD:=(bA s i).1
def flo(s:aD)(i:Int):Int:=cH s.2.1 i
structure Pt (e:bD) (f:Int):Prop where
 nn:0<=f
 up:e=cV\/f<e.1
def nrm(m:bD)(f:Int):bD:=if f<m.1 then m else cV
theorem f6:cV.1=0:=rfl
theorem KU{s:aD}(h:StateOk s){x:bI}(hx:x∈s.1):bA s x.1=(x.2,true):=by
 rcases eK s x.1 with ⟨y,hy,h1,e⟩ | ⟨h1,_⟩
 ·have:y=x:=by
   obtain⟨i,hi,rfl⟩:=gN hx
   obtain⟨j,hj,rfl⟩:=gN hy
   have hp:=h.items
   rw[List.pairwise_iff_getElem] at hp
   rcases Nat.lt_trichotomy i j with h2 | h2 | h2
   ·have:=hp i j hi hj h2;rw[<- dC hi,<- dC hj] at this;omega
   ·rw[h2]
   ·have:=hp j i hj hi h2;rw[<- dC hi,<- dC hj] at this;omega
  rw[e,this]
 ·exact absurd rfl (h1 x hx)
theorem OI{s:aD}(h:StateOk s){x:bI}(hx:x∈s.1):ent s x.1=x.2:=by unfold ent;rw[KU h hx]
theorem FE{s:aD}(h:StateOk s){x:bI}(hx:x∈s.1):1<=x.2.1:=h.pos.item x hx
theorem nD{s:aD}(h:StateOk s)(i:Int):(1<=(ent s i).1/\(i,ent s i)∈s.1/\(bA s i).2=true/\dY (ent s i)=true)\/(ent s i=cV/\(bA s i).2=false):=by
 unfold ent
 rcases eK s i with ⟨x,hx,h1,e⟩ | ⟨h1,e⟩
 ·rw[e];subst h1;exact .inl ⟨FE h hx,hx,rfl,(h.item x hx).2.1⟩
 ·rw[e];exact .inr ⟨rfl,rfl⟩
theorem oV{s:aD}(h:StateOk s)(i:Int):Pt (ent s i) (flo s i):=by
 refine⟨(oK h i).1,?_⟩
 rcases nD h i with ⟨_,h2,_⟩ | ⟨h2,_⟩
 ·exact .inr (h.item _ h2).2.2
 ·exact .inl h2
theorem DY{α:Type}{k:α->Int}:∀ {a b:List α},a.Pairwise (λx y=>k x<k y)->b.Pairwise (λx y=>k x<k y)->(∀ x,x∈a↔x∈b)->a=b
 | [],[],_,_,_=>rfl
 | [],y::_,_,_,h=>by have:=(h y).2 (List.mem_cons_self ..);cases this
 | x::_,[],_,_,h=>by have:=(h x).1 (List.mem_cons_self ..);cases this
 | x::a,y::b,ha,hb,h=>by
  rw[List.pairwise_cons] at ha hb
  have e:x=y:=by
   rcases List.mem_cons.1 ((h x).1 (List.mem_cons_self ..))with e | e
   ·exact e
   ·rcases List.mem_cons.1 ((h y).2 (List.mem_cons_self ..))with e2 | e2
    ·exact e2.symm
    ·have h1:=hb.1 x e;have h2:=ha.1 y e2;omega
  subst e
  rw[DY ha.2 hb.2 λz=>⟨λhz=>?_,λhz=>?_⟩]
  ·rcases List.mem_cons.1 ((h z).1 (List.mem_cons_of_mem _ hz))with e | e
   ·have:=ha.1 z hz;rw[e] at this;omega
   ·exact e
  ·rcases List.mem_cons.1 ((h z).2 (List.mem_cons_of_mem _ hz))with e | e
   ·have:=hb.1 z hz;rw[e] at this;omega
   ·exact e
theorem mW{i:Int}(h:eH i=true):∃ k:Nat,k<5/\i=k:=by
 unfold eH at h;rw[aQ] at h
 exact⟨i.toNat,by omega,by omega⟩
theorem MA{a b:aD}(ha:StateOk a)(hb:StateOk b)(h:∀ i:Nat,i<5->ent a i=ent b i/\flo a i=flo b i):a=b:=by
 have key:∀ {a b:aD},StateOk a->StateOk b->(∀ i:Nat,i<5->ent a i=ent b i/\flo a i=flo b i)->∀ x,x∈a.1->x∈b.1:=by
  intro a b ha hb h x hx
  obtain⟨k,hk,e⟩:=mW (ha.item x hx).1
  have h1:=(h k hk).1
  rw[<- e,OI ha hx] at h1
  rcases nD hb x.1 with ⟨_,h2,_⟩ | ⟨h2,_⟩
  ·rw[<- h1] at h2;exact h2
  ·have:=FE ha hx;rw[h1,h2] at this;have:(1:Int)<=0:=this;omega
 have keyF:∀ {a b:aD},StateOk a->StateOk b->(∀ i:Nat,i<5->ent a i=ent b i/\flo a i=flo b i)->∀ x,x∈a.2.1->x∈b.2.1:=by
  intro a b ha hb h x hx
  obtain⟨k,hk,e⟩:=mW (ha.floor x hx).1
  have h1:=(h k hk).2
  have h3:flo a x.1=x.2.1:=DS ha hx
  have h4:=(ha.floor x hx).2
  rw[aQ] at h4
  rw[<- e,h3] at h1
  rcases eJ b x.1 with ⟨y,hy,h5,h6⟩ | ⟨_,h6⟩
  ·have h6:flo b x.1=y.2.1:=h6
   have:y=x:=Prod.ext h5 (Prod.ext (by rw[<- h6,<- h1]) rfl)
   rw[<- this];exact hy
  ·have h6:flo b x.1=0:=h6
   omega
 have h':∀ i:Nat,i<5->ent b i=ent a i/\flo b i=flo a i:=λi hi=>⟨(h i hi).1.symm,(h i hi).2.symm⟩
 refine Prod.ext (DY (k:=λx:bI=>x.1) ha.items hb.items λx=>⟨key ha hb h x,key hb ha h' x⟩) (Prod.ext (DY (k:=λx:aK=>x.1) ha.floors hb.floors λx=>⟨keyF ha hb h x,keyF hb ha h' x⟩) rfl)
theorem m9{a b:aD}(ha:StateOk a){i:Nat}(hi:i<5):flo (cM a b) i=max (flo a i) (flo b i):=by
 have hf:flr a b i=max (flo a i) (flo b i):=by unfold flr;rw[rU];rfl
 have h0:=OB (b:=b) ha.pos (i:Int)
 unfold flo
 rcases eJ (cM a b) i with ⟨x,hx,h1,e⟩ | ⟨h1,e⟩
 ·rw[e]
  obtain⟨j,_,hx⟩:=jG hx
  obtain⟨rfl,_⟩:=oG hx
  have:(j:Int)=(i:Int):=h1
  show flr a b (j:Int)=_
  rw[this];exact hf
 ·rw[e]
  by_cases h2:flr a b i>0
  ·refine absurd rfl (h1 ((i:Int),flr a b i,()) ?_)
   exact List.mem_flatMap.2 ⟨i,List.mem_range.2 hi,by rw[oE h2];exact List.mem_singleton.2 rfl⟩
  ·show 0=max (flo a i) (flo b i)
   omega
theorem nC(a b:aD){i:Nat}(hi:i<5):ent (cM a b) i=nrm (mxE (ent a i) (ent b i)) (max (flo a i) (flo b i)):=by
 have hf:flr a b i=max (flo a i) (flo b i):=by unfold flr;rw[rU];rfl
 have hp:eB a b i=mxE (ent a i) (ent b i):=rfl
 rw[<- hf,<- hp]
 unfold ent nrm
 rcases eK (cM a b) i with ⟨x,hx,h1,e⟩ | ⟨h1,e⟩
 ·rw[e]
  obtain⟨j,_,hx⟩:=jG hx
  obtain⟨rfl,h2⟩:=vV hx
  have e2:(j:Int)=(i:Int):=h1
  rw[e2] at h2
  rw[if_pos h2];show eB a b (j:Int)=_;rw[e2]
 ·rw[e]
  by_cases h2:flr a b i<(eB a b i).1
  ·refine absurd rfl (h1 ((i:Int),eB a b i) ?_)
   exact List.mem_flatMap.2 ⟨i,List.mem_range.2 hi,by rw[f8 rfl h2];exact List.mem_singleton.2 rfl⟩
  ·rw[if_neg h2]
-- the order of points
def LeP(e:bD)(f:Int)(e':bD)(f':Int):Prop:=f<=f'/\(e.1<=f'\/leE e e')
theorem LeP.refl(e:bD)(f:Int):LeP e f e f:=⟨Int.le_refl f,.inr (m6 e)⟩
theorem LeP.trans{e f e' f' e'' f''}(h:LeP e f e' f')(h':LeP e' f' e'' f''):LeP e f e'' f'':=by
 refine⟨Int.le_trans h.1 h'.1,?_⟩
 rcases h.2 with h2 | h2
 ·exact .inl (Int.le_trans h2 h'.1)
 ·rcases h'.2 with h3 | h3
  ·exact .inl (Int.le_trans (lW h2) h3)
  ·exact .inr (KO h2 h3)
theorem R9{m:bD}{f:Int}(h:Pt m f):nrm m f=m:=by
 unfold nrm
 rcases h.up with e | e
 ·have:=h.nn;rw[e,if_neg (by rw[f6];omega)]
 ·rw[if_pos e]
theorem I2{e f e' f'}(h:Pt e f)(h':Pt e' f'):(nrm (mxE e e') (max f f')=e'/\max f f'=f')↔LeP e f e' f':=by
 constructor
 ·rintro ⟨h1,h2⟩
  refine⟨by omega,?_⟩
  rw[h2] at h1
  by_cases h3:e.1<=f'
  ·exact .inl h3
  ·have h4:=lW (E5 e e')
   unfold nrm at h1
   rw[if_pos (by omega)] at h1
   exact .inr (by have:=E5 e e';rw[h1] at this;exact this)
 ·rintro ⟨h1,h2⟩
  have hm:max f f'=f':=by omega
  rw[hm]
  refine⟨?_,rfl⟩
  by_cases hl:leE e e'
  ·rw[M9 hl];exact R9 h'
  ·have h3:e.1<=f':=by rcases h2 with h2 | h2;exact h2;exact absurd h2 hl
   have h4:leE e' e:=by rcases KP e e' with h4 | h4;exact absurd h4 hl;exact h4
   rw[IX h4]
   unfold nrm
   rw[if_neg (by omega)]
   rcases h'.up with h5 | h5
   ·exact h5.symm
   ·have:=lW h4;omega
theorem HC{e f e' f'}:LeP e f (nrm (mxE e e') (max f f')) (max f f'):=by
 refine⟨by omega,?_⟩
 by_cases h:e.1<=max f f'
 ·exact .inl h
 ·have h4:=lW (E5 e e')
  unfold nrm;rw[if_pos (by omega)];exact .inr (E5 e e')
theorem HB{e f e' f'}:LeP e' f' (nrm (mxE e e') (max f f')) (max f f'):=by
 refine⟨by omega,?_⟩
 by_cases h:e'.1<=max f f'
 ·exact .inl h
 ·have h4:=lW (M8 e e')
  unfold nrm;rw[if_pos (by omega)];exact .inr (M8 e e')
theorem QN{e f e' f' e'' f''}(h0:0<=f'')(h:LeP e f e'' f'')(h':LeP e' f' e'' f''):LeP (nrm (mxE e e') (max f f')) (max f f') e'' f'':=by
 refine⟨by have:=h.1;have:=h'.1;omega,?_⟩
 unfold nrm
 split
 ·rcases GY e e' with e1 | e1<;>rw[e1]
  ·exact h.2
  ·exact h'.2
 ·exact .inl h0
theorem DM{e f e' f'}(h:Pt e f)(h':Pt e' f')(h1:LeP e f e' f')(h2:LeP e' f' e f):e=e'/\f=f':=by
 have hf:f=f':=Int.le_antisymm h1.1 h2.1
 subst hf
 refine⟨?_,rfl⟩
 have hz:=h.nn
 rcases h.up with e0 | e0
 ·rcases h'.up with e1 | e1
  ·rw[e0,e1]
  ·rcases h2.2 with h3 | h3
   ·omega
   ·have:=lW h3;rw[e0,f6] at this;omega
 ·rcases h1.2 with h3 | h3
  ·omega
  ·rcases h2.2 with h4 | h4
   ·have:=lW h3;omega
   ·exact oA h3 h4
-- the order of states
structure Leq (a b:aD):Prop where
 oka:StateOk a
 okb:StateOk b
 le:∀ i:Nat,i<5->LeP (ent a i) (flo a i) (ent b i) (flo b i)
theorem NM{a b:aD}:QL a b=true↔Leq a b:=by
 unfold QL
 rw[Bool.and_eq_true,Bool.and_eq_true,jV,aM,aM]
 constructor
 ·rintro ⟨ha,hb,e⟩
  refine⟨ha,hb,λi hi=>(I2 (oV ha _) (oV hb _)).1 ?_⟩
  rw[<- nC a b hi,<- m9 ha hi,e];exact⟨rfl,rfl⟩
 ·rintro ⟨ha,hb,h⟩
  refine⟨ha,hb,MA (ha.join hb) hb λi hi=>?_⟩
  rw[nC a b hi,m9 ha hi]
  exact(I2 (oV ha _) (oV hb _)).2 (h i hi)
theorem Leq.join{a b:aD}(h:Leq a b):cM a b=b:=by
 have:=NM.2 h
 unfold QL at this
 rw[Bool.and_eq_true,Bool.and_eq_true,jV] at this
 exact this.2.2
theorem Leq.refl{a:aD}(h:StateOk a):Leq a a:=⟨h,h,λi _=>LeP.refl _ _⟩
theorem Leq.trans{a b c:aD}(h:Leq a b)(h':Leq b c):Leq a c:=⟨h.oka,h'.okb,λi hi=>(h.le i hi).trans (h'.le i hi)⟩
theorem Leq.antisymm{a b:aD}(h:Leq a b)(h':Leq b a):a=b:=MA h.oka h.okb λi hi=>DM (oV h.oka _) (oV h.okb _) (h.le i hi) (h'.le i hi)
theorem Leq.left{a b:aD}(ha:StateOk a)(hb:StateOk b):Leq a (cM a b):=⟨ha,ha.join hb,λi hi=>by rw[nC a b hi,m9 ha hi];exact HC⟩
theorem Leq.right{a b:aD}(ha:StateOk a)(hb:StateOk b):Leq b (cM a b):=⟨hb,ha.join hb,λi hi=>by rw[nC a b hi,m9 ha hi];exact HB⟩
theorem Leq.lub{a b c:aD}(h:Leq a c)(h':Leq b c):Leq (cM a b) c:=⟨h.oka.join h'.oka,h.okb,λi hi=>by rw[nC a b hi,m9 h.oka hi];exact QN (oV h.okb _).nn (h.le i hi) (h'.le i hi)⟩
theorem HE{a b:aD}(ha:StateOk a)(hb:StateOk b):cM a b=cM b a:=
 Leq.antisymm (Leq.lub (Leq.right hb ha) (Leq.left hb ha)) (Leq.lub (Leq.right ha hb) (Leq.left ha hb))
theorem Leq.joinR{a b:aD}(h:Leq a b):cM b a=b:=by rw[HE h.okb h.oka];exact h.join
theorem Leq.mono{a a' b b':aD}(h:Leq a a')(h':Leq b b'):Leq (cM a b) (cM a' b'):=Leq.lub (h.trans (Leq.left h.okb h'.okb)) (h'.trans (Leq.right h.okb h'.okb))
theorem E3:StateOk iC:=(aM _).1 uI
theorem Leq.nil{a:aD}(h:StateOk a):Leq iC a:=⟨E3,h,λi _=>⟨(oV h _).nn,.inl (oV h _).nn⟩⟩
-- what is over at a point
def iI(e:bD)(f:Int):Int:=if 1<=e.1 then(if e.2.1=0 then e.1 - 1 else e.1)else f
theorem sW{e:bD}(h:dY e=true):1<=e.1/\e.1<=1000/\(e.2.1=0\/e.2.1=1):=by
 unfold dY at h;simp only[Bool.and_eq_true,aQ] at h;omega
theorem uO{s:aD}(h:StateOk s)(i:Int):gone s i=iI (ent s i) (flo s i):=by
 unfold gone iI
 rw[(aM s).2 h]
 rcases nD h i with ⟨h1,_,h3,h4⟩ | ⟨h2,h3⟩
 ·have h5:=sW h4
  rw[h3,if_pos h1]
  show(bif(ent s i).2.1==0 then i64.wrap ((ent s i).1 - 1)else(ent s i).1)=_
  rcases h5.2.2 with e | e
  ·rw[e,if_pos rfl];show i64.wrap ((ent s i).1 - 1)=_;rw[IntKind.wrap_i64];omega
  ·rw[e,if_neg (by omega)];rfl
 ·rw[h3,h2,if_neg (by rw[f6];omega)];rfl
theorem FK{e:bD}{f:Int}(h:¬ 1<=e.1):iI e f=f:=by unfold iI;rw[if_neg h]
theorem FJ{e:bD}{f:Int}(h:1<=e.1)(h':e.2.1=0):iI e f=e.1 - 1:=by unfold iI;rw[if_pos h,if_pos h']
theorem FL{e:bD}{f:Int}(h:1<=e.1)(h':e.2.1≠0):iI e f=e.1:=by unfold iI;rw[if_pos h,if_neg h']
theorem z7{e:bD}{f:Int}(h:1<=e.1):e.1 - 1<=iI e f/\iI e f<=e.1:=by
 by_cases h':e.2.1=0
 ·rw[FJ h h'];omega
 ·rw[FL h h'];omega
theorem N4{e:bD}{f:Int}(h:Pt e f):f<=iI e f:=by
 by_cases h1:1<=e.1
 ·have h2:=z7 (f:=f) h1
  rcases h.up with h3 | h3
  ·rw[h3,f6] at h1;omega
  ·omega
 ·rw[FK h1];omega
theorem HM{e f e' f'}(h:Pt e f)(h':Pt e' f')(hr:e.1=e'.1->e.2.1≠0->e.2.1<=e'.2.1->e'.2.1≠0)(hl:LeP e f e' f'):iI e f<=iI e' f':=by
 have g:=N4 h'
 by_cases h1:1<=e.1
 ·have g1:=z7 (f:=f) h1
  rcases hl.2 with h2 | h2
  ·omega
  ·have h3:=lW h2
   have h1':1<=e'.1:=by omega
   have g2:=z7 (f:=f') h1'
   by_cases h4:e.1=e'.1
   ·by_cases h6:e.2.1=0
    ·rw[FJ h1 h6];omega
    ·rw[FL h1' (hr h4 h6 (NQ h2 h4))];omega
   ·omega
 ·rw[FK h1];have:=hl.1;omega
theorem Leq.gone{a b:aD}(h:Leq a b){i:Nat}(hi:i<5):gone a i<=Go.Abs.gone b i:=by
 rw[uO h.oka,uO h.okb]
 refine HM (oV h.oka _) (oV h.okb _) (λh1 h2 h3=>?_) (h.le i hi)
 rcases nD h.oka i with ⟨_,_,_,h4⟩ | ⟨h4,_⟩
 ·have:=sW h4;omega
 ·rw[h4] at h2;exact absurd rfl h2
end Go.Abs
-- pruning, tables and taking done twice: plain laws
namespace Go.Abs
theorem MZ(f:Int)(h:0<=f):nrm cV f=cV:=by unfold nrm;rw[if_neg (by rw[f6];omega)]
theorem HR(s:aD)(t:List bH){i:Nat}(hi:i<5):flo (eQ s t) i=max 0 (min (eF t i) (gone s i)):=by
 have hm:mxI false (eF t i) (gone s i)=min (eF t i) (gone s i):=E4 _ _
 unfold flo
 rcases eJ (eQ s t) i with ⟨x,hx,h1,e⟩ | ⟨h1,e⟩
 ·rw[e]
  obtain⟨j,_,hx⟩:=jG hx
  unfold fC at hx
  cases hd:decide (mxI false (eF t j) (gone s j)>0)with
  | false=>rw[hd] at hx;cases hx
  | true=>
   rw[hd] at hx
   have e1:=List.mem_singleton.1 hx
   have h0:=of_decide_eq_true hd
   rw[e1] at h1 ⊢
   have h1:(j:Int)=(i:Int):=h1
   have h1:j=i:=by omega
   subst h1
   show mxI false (eF t j) (gone s j)=_
   omega
 ·rw[e]
  by_cases h2:mxI false (eF t i) (gone s i)>0
  ·refine absurd rfl (h1 ((i:Int),mxI false (eF t i) (gone s i),()) ?_)
   exact List.mem_flatMap.2 ⟨i,List.mem_range.2 hi,by unfold fC;rw[decide_eq_true h2];exact List.mem_singleton.2 rfl⟩
  ·omega
theorem HT(s:aD)(t:List bH)(i:Int):ent (eQ s t) i=cV:=by
 unfold ent
 rcases eK (eQ s t) i with ⟨x,hx,h1,e⟩ | ⟨h1,e⟩
 ·cases hx
 ·rw[e]
theorem z9(s:aD)(t:List bH):StateOk (eQ s t):=(aM _).1 (p7 s t)
theorem uD{s:aD}(h:StateOk s)(t:List bH):prune s t=cM s (eQ s t):=by unfold prune;rw[(aM s).2 h];rfl
theorem vK{s:aD}(h:StateOk s)(t:List bH):StateOk (prune s t):=(aM _).1 (zC ((aM s).2 h) t)
theorem LA{e:bD}{f g:Int}(h:Pt e f)(hr:1<=e.1->e.2.1=0\/e.2.1=1)(hg:g<=iI e f):iI (nrm (mxE e cV) (max f g)) (max f g)=iI e f:=by
 have h0:=h.nn
 rcases h.up with e0 | e1
 ·rw[e0,M9 (m6 cV)]
  rw[MZ _ (by omega)]
  rw[e0] at hg
  unfold iI at hg ⊢
  rw[if_neg (by rw[f6];omega)] at hg
  rw[if_neg (by rw[f6];omega),if_neg (by rw[f6];omega)];omega
 ·rw[IX (LQ (by omega))]
  unfold nrm
  have h1:1<=e.1:=by omega
  have hgo:iI e f=if e.2.1=0 then e.1 - 1 else e.1:=by unfold iI;rw[if_pos h1]
  by_cases hc:max f g<e.1
  ·rw[if_pos hc,hgo];unfold iI;rw[if_pos h1]
  ·rw[if_neg hc]
   rw[hgo] at hg ⊢
   unfold iI;rw[if_neg (by rw[f6];omega)]
   rcases hr h1 with h2 | h2
   ·rw[if_pos h2] at hg;omega
   ·rw[if_neg (by omega)] at hg ⊢;omega
theorem OH{s:aD}(h:StateOk s)(i:Int):1<=(ent s i).1->(ent s i).2.1=0\/(ent s i).2.1=1:=by
 intro h1
 rcases nD h i with ⟨_,_,_,h4⟩ | ⟨h4,_⟩
 ·exact(sW h4).2.2
 ·rw[h4,f6] at h1;omega
theorem z6{s:aD}(h:StateOk s)(t:List bH){i:Nat}(hi:i<5):gone (prune s t) i=gone s i:=by
 have hg:=QQ ((aM s).2 h) (i:Int)
 rw[uO (vK h t),uD h,nC _ _ hi,m9 h hi,HT,HR s t hi,uO h]
 rw[uO h] at hg
 exact LA (oV h _) (OH h _) (by omega)
theorem tC{α:Type}{g g':Nat->List α}:∀ {n:Nat},(∀ i,i<n->g i=g' i)->bM n g=bM n g'
 | 0,_=>rfl
 | n+1,h=>by rw[dD,dD,tC (n:=n) λi hi=>h i (by omega),h n (by omega)]
theorem AA{s s':aD}(t:List bH)(h:∀ i:Nat,i<5->gone s i=gone s' i):eQ s t=eQ s' t:=by
 have:bM 5 (fC s t)=bM 5 (fC s' t):=tC λi hi=>by unfold fC;rw[h i hi]
 unfold eQ;rw[this]
theorem A9{s s':aD}(h:∀ i:Nat,i<5->gone s i=gone s' i):cB s=cB s':=by
 unfold cB;exact tC λi hi=>by unfold gP;rw[h i hi]
theorem EV{s:aD}(h:StateOk s)(t:List bH):prune (prune s t) t=prune s t:=by
 have hp:=vK h t
 rw[uD hp,AA (s:=prune s t) (s':=s) t λi hi=>z6 h t hi]
 refine Leq.joinR ?_
 rw[uD h];exact Leq.right h (z9 s t)
theorem KC{s:aD}(h:StateOk s)(t:List bH):Leq s (prune s t):=by rw[uD h];exact Leq.left h (z9 s t)
theorem E8{s:aD}(h:StateOk s)(t:List bH):cB (prune s t)=cB s:=A9 λi hi=>z6 h t hi
-- rows that hold marks already
def O3(t:List bH)(k j:Nat):Int:=(gt (gt t k).1 j).1
def Cov(t:List bH)(k:Int)(ms:List aK):Prop:=∀ i,i<ms.length->(gt ms i).2.1<=O3 t k.toNat (gt ms i).1.toNat
def DoneT(t:List bH)(k:Int)(ms:List aK):Prop:=lL t k ms=true->Cov t k ms
theorem IA{t t':List bH}(hl:t.length=t'.length)(hr:∀ j,(gt t j).1.length=(gt t' j).1.length)(k:Int)(ms:List aK):lL t k ms=lL t' k ms:=by
 unfold lL;rw[hl,hr]
theorem F4(t:List bH)(k k':Int)(ms ms':List aK):lL (bB t k' ms') k ms=lL t k ms:=
 IA (dA t k' ms') (λj=>eV t k' ms' j) k ms
theorem F2(r:bH)(ms:List aK):∀ i j,(gt r.1 j).1<=(gt (jK r ms i).1 j).1
 | 0,_=>Int.le_refl _
 | i+1,j=>by
  have ih:=F2 r ms i j
  show _<=(gt (List.set (jK r ms i).1 (gt ms i).1.toNat (mxI true (gt (jK r ms i).1 (gt ms i).1.toNat).1 (gt ms i).2.1,())) j).1
  rcases Nat.lt_or_ge (gt ms i).1.toNat (jK r ms i).1.length with h | h
  ·by_cases e:(gt ms i).1.toNat=j
   ·rw[e] at h ⊢
    rw[cE h]
    show _<=mxI true _ _
    rw[rU];omega
   ·rw[eL e];exact ih
  ·rw[List.set_eq_of_length_le h];exact ih
theorem wI(r:bH){ms:List aK}(h:∀ i,i<ms.length->(gt ms i).1.toNat<r.1.length):∀ n,n<=ms.length->∀ i,i<n->(gt ms i).2.1<=(gt (jK r ms n).1 (gt ms i).1.toNat).1
 | 0,_,_,hi=>by omega
 | n+1,hn,i,hi=>by
  show _<=(gt (List.set (jK r ms n).1 (gt ms n).1.toNat (mxI true (gt (jK r ms n).1 (gt ms n).1.toNat).1 (gt ms n).2.1,())) (gt ms i).1.toNat).1
  have hl:(gt ms n).1.toNat<(jK r ms n).1.length:=by rw[kV];exact h n (by omega)
  by_cases e:(gt ms n).1.toNat=(gt ms i).1.toNat
  ·rw[e] at hl ⊢
   rw[cE hl]
   show _<=mxI true _ _
   rw[rU]
   by_cases c:i=n
   ·subst c;omega
   ·have:=wI r h n (by omega) i (by omega);omega
  ·rw[eL e]
   exact wI r h n (by omega) i (by
    rcases Nat.lt_or_ge i n with c | c
    ·exact c
    ·exact absurd (by rw[show i=n by omega]) e)
theorem F1{r:bH}{ms:List aK}(h:∀ i,i<ms.length->(gt ms i).2.1<=(gt r.1 (gt ms i).1.toNat).1):∀ n,n<=ms.length->jK r ms n=r
 | 0,_=>rfl
 | n+1,hn=>by
  show y2 (jK r ms n) (gt ms n)=r
  rw[F1 h n (by omega)]
  have:=h n (by omega)
  unfold y2
  rw[rU,show max (gt r.1 (gt ms n).1.toNat).1 (gt ms n).2.1=(gt r.1 (gt ms n).1.toNat).1 by omega]
  show(r.1.set (gt ms n).1.toNat (gt r.1 (gt ms n).1.toNat),())=r
  rw[sK]
structure AddOk (t:List bH) (k:Int) (ms:List aK):Prop where
 kn:k.toNat<t.length
 mok:dX ms=true
 row:5<=(gt t k.toNat).1.length
theorem O8{t:List bH}{k:Int}{ms:List aK}(hl:t.length<=aN)(h:lL t k ms=true):AddOk t k ms:=by
 unfold lL at h
 simp only[Bool.and_eq_true,Bool.not_eq_true',decide_eq_false_iff_not] at h
 exact⟨(oD hl h.1).1,h.2.1,by omega⟩
theorem AddOk.ids{t:List bH}{k:Int}{ms:List aK}(h:AddOk t k ms):∀ i,i<ms.length->(gt ms i).1.toNat<(gt t k.toNat).1.length:=λi hi=>by
 have h1:=pZ h.mok hi;have h2:=h.row;omega
theorem O7{t:List bH}(hl:t.length<=aN)(k:Int)(ms:List aK):DoneT (bB t k ms) k ms:=by
 intro hb
 rw[F4] at hb
 have ho:=O8 hl hb
 intro i hi
 unfold O3 bB
 rw[hb]
 show _<=(gt (gt (bQ t k.toNat ms ms.length) k.toNat).1 _).1
 unfold bQ
 rw[cE ho.kn]
 exact wI _ ho.ids _ (Nat.le_refl _) i hi
theorem SQ(t:List bH)(k:Int)(ms:List aK)(q j:Nat):O3 t q j<=O3 (bB t k ms) q j:=by
 unfold O3 bB
 cases lL t k ms with
 | false=>exact Int.le_refl _
 | true=>
  show _<=(gt (gt (bQ t k.toNat ms ms.length) q).1 j).1
  unfold bQ
  rcases Nat.lt_or_ge k.toNat t.length with h | h
  ·by_cases e:k.toNat=q
   ·subst e;rw[cE h];exact F2 _ _ _ _
   ·rw[eL e];exact Int.le_refl _
  ·rw[List.set_eq_of_length_le h];exact Int.le_refl _
theorem DoneT.add{t:List bH}{k:Int}{ms:List aK}(h:DoneT t k ms)(k':Int)(ms':List aK):DoneT (bB t k' ms') k ms:=λhb i hi=>by
 rw[F4] at hb
 exact Int.le_trans (h hb i hi) (SQ t k' ms' _ _)
theorem DoneT.eq{t:List bH}{k:Int}{ms:List aK}(h:DoneT t k ms):bB t k ms=t:=by
 unfold bB
 cases hb:lL t k ms with
 | false=>rfl
 | true=>
  show bQ t k.toNat ms ms.length=t
  unfold bQ
  rw[F1 (h hb) _ (Nat.le_refl _)]
  exact sK
-- vectors that are raised already
theorem D3(v:List aH)(k n:Int)(j:Nat):(gt v j).1<=(gt (cN v k n) j).1:=by
 rcases pE v k n j with e | e<;>rw[e]<;>omega
-- rises that are up to date
def RisesUp(rs:List jM)(xs:List bI):Prop:=∀ i,i<xs.length->oU (gt rs (gt xs i).1.toNat) (gt xs i).2=false
theorem J1(clock:Int)(r:jM)(e:bD):oU (mD clock r e) e=false:=by
 unfold mD
 cases h:oU r e with
 | false=>exact h
 | true=>unfold oU;simp
theorem RisesUp.eq{clock:Int}{rs:List jM}{xs:List bI}(h:RisesUp rs xs):∀ n,n<=xs.length->cL clock rs xs n=rs
 | 0,_=>rfl
 | n+1,hn=>by
  show(cL clock rs xs n).set (gt xs n).1.toNat (mD clock (gt (cL clock rs xs n) (gt xs n).1.toNat) (gt xs n).2)=rs
  rw[h.eq n (by omega)]
  unfold mD
  rw[h n (by omega)]
  exact sK
theorem BK{clock:Int}{rs:List jM}{xs:List bI}(hl:∀ i,i<xs.length->(gt xs i).1.toNat<rs.length)(hd:∀ i j,i<j->j<xs.length->(gt xs i).1.toNat≠(gt xs j).1.toNat):
  ∀ n,n<=xs.length->∀ i,i<n->oU (gt (cL clock rs xs n) (gt xs i).1.toNat) (gt xs i).2=false
 | 0,_,_,hi=>by omega
 | n+1,hn,i,hi=>by
  show oU (gt ((cL clock rs xs n).set (gt xs n).1.toNat (mD clock (gt (cL clock rs xs n) (gt xs n).1.toNat) (gt xs n).2)) (gt xs i).1.toNat) (gt xs i).2=false
  by_cases c:i=n
  ·subst c
   rw[cE (by rw[gL];exact hl i (by omega))]
   exact J1 _ _ _
  ·rw[eL (λe=>hd i n (by omega) (by omega) e.symm)]
   exact BK hl hd n (by omega) i (by omega)
theorem KT{s:aD}(h:StateOk s):(∀ i,i<s.1.length->(gt s.1 i).1.toNat<5)/\∀ i j,i<j->j<s.1.length->(gt s.1 i).1.toNat≠(gt s.1 j).1.toNat:=by
 refine⟨λi hi=>?_,λi j hij hj e=>?_⟩
 ·obtain⟨k,hk,e⟩:=mW (h.item _ (cR hi)).1;omega
 ·obtain⟨k,hk,e1⟩:=mW (h.item _ (cR (i:=i) (by omega))).1
  obtain⟨k',hk',e2⟩:=mW (h.item _ (cR hj)).1
  have hp:=h.items
  rw[List.pairwise_iff_getElem] at hp
  have:=hp i j (by omega) hj hij
  rw[<- dC (by omega),<- dC hj] at this
  omega
-- a node at rest
structure Rest (x:NodeT):Prop where
 ok:StateOk x.state
 seen:DoneT x.seen x.1 (cB x.state)
 prune:prune x.state x.seen=x.state
 tree:bV x.state=x.tree
 rises:RisesUp x.rises x.state.1
theorem Rest.take{x:NodeT}(h:Rest x){s:aD}(hs:Leq s x.state):hU x s=x:=by
 have e1:cM x.state s=x.state:=hs.joinR
 have e2:tkS x s=x.seen:=by unfold tkS;rw[e1];exact h.seen.eq
 have e3:tkP x s=x.state:=by unfold tkP;rw[e2,e1];exact h.prune
 have e4:tkR x s=x.rises:=by unfold tkR;rw[e3];exact h.rises.eq _ (Nat.le_refl _)
 unfold hU
 rw[e2,e4,e3,h.tree]
theorem GD{x:NodeT}(h:NodeOk x)(hl:x.seen.length<=aN){s:aD}(hs:StateOk s):Rest (hU x s):=by
 have hx:=(aM _).1 h.state
 have hj:=hx.join hs
 have e:(hU x s).state=tkP x s:=rfl
 have hm:cB (tkP x s)=cB (cM x.state s):=E8 hj _
 have hp:StateOk (tkP x s):=vK hj _
 refine⟨hp,?_,?_,rfl,?_⟩
 ·show DoneT (tkS x s) x.1 (cB (tkP x s))
  rw[hm];exact O7 hl _ _
 ·show prune (tkP x s) (tkS x s)=tkP x s
  exact EV hj _
 ·show RisesUp (tkR x s) (tkP x s).1
  have hi:=KT hp
  have hr:=h.rises
  rw[beq_iff_eq] at hr
  exact λi hi'=>BK (λi hi''=>by have:=hi.1 i hi'';omega) hi.2 _ (Nat.le_refl _) i hi'
theorem JO{x:NodeT}(h:NodeOk x){s:aD}(hs:StateOk s):Leq x.state (hU x s).state/\Leq s (hU x s).state:=by
 have hx:=(aM _).1 h.state
 have hj:=hx.join hs
 have hp:Leq (cM x.state s) (hU x s).state:=KC hj _
 exact⟨(Leq.left hx hs).trans hp,(Leq.right hx hs).trans hp⟩
-- hearing twice
structure Heard (x:NodeT) (m:MsgT):Prop where
 rest:Rest x
 acked:cN x.acked m.2.1 (mxI false (gt m.vec x.1.toNat).1 (bU x.log))=x.acked
 seen:DoneT x.seen m.2.1 m.marks
theorem Heard.eq{x:NodeT}{m:MsgT}(h:Heard x m):cF x m=x:=by
 have e:heard0 x m=x:=by
  unfold heard0
  rw[h.acked,h.seen.eq]
 unfold cF
 rw[e];exact h.rest.take (Leq.nil h.rest.ok)
theorem Heard.take{x:NodeT}{m:MsgT}(h:Heard x m)(ho:NodeOk x)(hl:x.seen.length<=aN){s:aD}(hs:StateOk s):Heard (hU x s) m:=
 ⟨GD ho hl hs,h.acked,h.seen.add _ _⟩
theorem Heard.gotUp{x:NodeT}{m:MsgT}(h:Heard x m):Heard (gotUp x m) m:=⟨⟨h.rest.ok,h.rest.seen,h.rest.prune,h.rest.tree,h.rest.rises⟩,h.acked,h.seen⟩
end Go.Abs
-- receiving twice, and what receiving keeps: plain laws
namespace Go.Abs
-- what receiving keeps
def VLe(a b:List aH):Prop:=a.length=b.length/\∀ i,(gt a i).1<=(gt b i).1
theorem VLe.refl(a:List aH):VLe a a:=⟨rfl,λ_=>Int.le_refl _⟩
theorem VLe.trans{a b c:List aH}(h:VLe a b)(h':VLe b c):VLe a c:=⟨h.1.trans h'.1,λi=>Int.le_trans (h.2 i) (h'.2 i)⟩
theorem VLe.raise(v:List aH)(k n:Int):VLe v (cN v k n):=⟨(fM v k n).symm,D3 v k n⟩
structure Kept (x y:NodeT):Prop where
 state:Leq x.state y.state
 got:VLe x.got y.got
 acked:VLe x.acked y.acked
theorem NodeOk.st{x:NodeT}(h:NodeOk x):StateOk x.state:=(aM _).1 h.state
theorem Kept.refl{x:NodeT}(h:NodeOk x):Kept x x:=⟨Leq.refl h.st,VLe.refl _,VLe.refl _⟩
theorem Kept.trans{x y z:NodeT}(h:Kept x y)(h':Kept y z):Kept x z:=⟨h.state.trans h'.state,h.got.trans h'.got,h.acked.trans h'.acked⟩
theorem Kept.take{x:NodeT}(h:NodeOk x){s:aD}(hs:StateOk s):Kept x (hU x s):=⟨(JO h hs).1,VLe.refl _,VLe.refl _⟩
theorem Kept.heard{x:NodeT}(h:NodeOk x)(m:MsgT):Kept x (cF x m):=
 Kept.trans (y:=heard0 x m) ⟨Leq.refl h.st,VLe.refl _,VLe.raise _ _ _⟩ (Kept.take (h.heard0 m) E3)
theorem Kept.brought{x:NodeT}(h:NodeOk x){m:MsgT}(hp:aJ m.part=true):Kept x (c7 x m):=by
 have h1:=(Kept.heard h m).trans (Kept.take (h.heard m) ((aM _).1 hp))
 exact⟨h1.state,h1.got.trans (VLe.raise _ _ _),h1.acked⟩
theorem Kept.with{x:NodeT}(h:NodeOk x)(ss:List eC):Kept x (withS x ss):=⟨Leq.refl h.st,VLe.refl _,VLe.refl _⟩
-- what is answered
theorem MJ{a b:List aH}(h:fW a b=true):a=b:=by
 unfold fW at h
 simp only[Bool.and_eq_true,beq_iff_eq,bJ] at h
 exact HS (by omega) λi hi=>Prod.ext (by have:=h.2 i hi;simpa using this) rfl
theorem NodeOk.treeB{x:NodeT}(h:NodeOk x):treeB x.tree=true:=by
 have h1:=h.tree
 unfold tJ at h1
 rw[Bool.and_eq_true] at h1
 have e1:x.tree.1=(bV x.state).1:=MJ h1.1
 have e2:x.tree.2.1=(bV x.state).2.1:=eq_of_beq h1.2
 have e:x.tree=bV x.state:=Prod.ext e1 (Prod.ext e2 rfl)
 rw[e];exact LX h.state
theorem F7{v:List aH}{n:Int}(h:eG v n=true):kA v 100000=true/\(v.length:Int)=n/\1<=n/\n<=5:=by
 unfold eG at h
 simp only[Bool.and_eq_true,beq_iff_eq,aQ] at h
 exact⟨h.2.2,h.2.1,h.1⟩
def QM(v:List aH):Bool:=bL v.length (w7 v)
/-- A message that a right node writes is right. -/
theorem NodeOk.says {x:NodeT} (h:NodeOk x) {k to num:Int} {tree:jL} {leaves:List aH} {part:aD} (hk:0<=k/\k<=5) (ht:0<=to/\to<=4/\to≠x.1) (hn:inB num 0 100000=true)
  (hT:Go.Abs.treeB tree=true) (hl:QM leaves=true) (hp:aJ part=true):
  dM (k,x.1,to,num,bU x.log,tree.1,tree.2.1,x.got,leaves,part.1,part.2.1,cB x.state,())=true:=by
 have hv:=F7 h.got
 have hid:=h.id
 have hl2:=B4 h.log
 rw[aQ,IntKind.wrap_i64] at hid
 rw[aQ] at hn
 unfold dM nZ eH
 simp only[Bool.and_eq_true,aQ,Bool.not_eq_true',beq_eq_false_iff_ne,decide_eq_true_eq]
 exact⟨⟨hk,by show 0<=x.1/\x.1<=4;omega,by show 0<=to/\to<=4;omega,λe=>ht.2.2 e.symm⟩,hl,hv.1,hn,hl2,hT,by show(x.got.length:Int)<=5;omega,hp,G1 _⟩
structure Ans (x:NodeT) (m q:MsgT):Prop where
 ok:dM q=true
 frm:q.2.1=x.1
 to:q.2.2.1=m.2.1
 num:q.2.2.2.1=m.2.2.2.1
theorem RecOk.peer{x:NodeT}{m:MsgT}(h:RecOk x m):0<=m.2.1/\m.2.1<=4/\m.2.1≠x.1:=by
 have h1:=h.frm;have h2:=h.idn;exact⟨by omega,by omega,h.ne⟩
-- vectors compared
def atV(v:List aH)(i:Int):Int:=bif inB i 0 (i64.wrap ((v.length:Int) - 1))then(gt v i.toNat).1 else 0
def LV(a b:List aH):Bool:=bL a.length λi=> !decide ((gt a i).1>atV b (i:Int))
theorem VLe.leq{a b:List aH}(h:VLe a b)(hl:b.length<=aN):LV a b=true:=by
 unfold LV;rw[bJ]
 intro i hi
 have h1:=h.1;have h2:=h.2 i
 unfold atV
 rw[aQ.2 (by rw[IntKind.wrap_i64];unfold aN at hl;omega)]
 show(!decide ((gt a i).1>(gt b ((i:Int)).toNat).1))=true
 rw[Int.toNat_natCast,decide_eq_false (by omega)];rfl
end Go.Abs
namespace Go.Abs
open Go
-- a number read back: what lies at place i of b, five bytes at most
def sS(b:List aH)(i:Nat):Nat->Nat->Nat->Option (Nat×Nat)
 | 0,_,_=>none
 | n+1,k,acc=>
  if i+k<b.length then
   if 128<=(gt b (i+k)).1.toNat then sS b i n (k+1) (acc+(gt b (i+k)).1.toNat % 128*128 ^ k)
   else if 0<k/\(gt b (i+k)).1.toNat=0 then none
   else if acc+(gt b (i+k)).1.toNat*128 ^ k>2147483647 then none
   else some (acc+(gt b (i+k)).1.toNat*128 ^ k,i+k+1)
  else none
def p5(b:List aH)(i:Nat):Option (Nat×Nat):=sS b i 5 0 0
theorem HL(u v:List aH)(x:aH):gt (u++x::v) u.length=x:=by
 rw[dC (by simp)];simp
theorem N7(v:List aH):∀ (m n k acc i:Nat) (u:List aH),n<128 ^ (m+1)->(0<k->0<n)->acc+n*128 ^ k<=2147483647->i+k=u.length->
  sS (u++gX n++v) i (m+1) k acc=some (acc+n*128 ^ k,i+k+(gX n).length):=by
 intro m
 induction m with
 | zero=>
  intro n k acc i u h h0 hb hi
  have hn:n<128:=by simpa using h
  have e:gX n=[((n:Int),())]:=by unfold gX;rw[dif_pos hn]
  rw[e]
  have eg:gt (u++[((n:Int),())]++v) (i+k)=((n:Int),()):=by rw[hi,List.append_assoc];exact HL u v _
  unfold sS
  rw[eg,if_pos (by rw[hi];simp)]
  show(if 128<=((n:Int)).toNat then _ else _)=_
  rw[Int.toNat_natCast,if_neg (by omega),if_neg (by omega),if_neg (by omega)];rfl
 | succ m ih=>
  intro n k acc i u h h0 hb hi
  by_cases hn:n<128
  ·have e:gX n=[((n:Int),())]:=by unfold gX;rw[dif_pos hn]
   rw[e]
   have eg:gt (u++[((n:Int),())]++v) (i+k)=((n:Int),()):=by rw[hi,List.append_assoc];exact HL u v _
   unfold sS
   rw[eg,if_pos (by rw[hi];simp)]
   show(if 128<=((n:Int)).toNat then _ else _)=_
   rw[Int.toNat_natCast,if_neg (by omega),if_neg (by omega),if_neg (by omega)];rfl
  ·have e:gX n=(((n % 128+128:Nat):Int),())::gX (n / 128):=by conv=>lhs;unfold gX;rw[dif_neg hn]
   have hm:n % 128*128 ^ k+n / 128*128 ^ (k+1)=n*128 ^ k:=by
    have:=Nat.mod_add_div n 128
    rw[Nat.pow_succ,show n / 128*(128 ^ k*128)=128*(n / 128)*128 ^ k by ac_rfl,<- Nat.add_mul,this]
   have eb:u++gX n++v=(u++[(((n % 128+128:Nat):Int),())])++gX (n / 128)++v:=by rw[e];simp
   have eg:gt (u++gX n++v) (i+k)=(((n % 128+128:Nat):Int),()):=by rw[hi,e,List.append_assoc];exact HL u _ _
   have hl:i+k<(u++gX n++v).length:=by rw[e,hi];simp
   have ih':=ih (n / 128) (k+1) (acc+n % 128*128 ^ k) i (u++[(((n % 128+128:Nat):Int),())]) (by rw[Nat.pow_succ] at h;exact Nat.div_lt_of_lt_mul (by omega)) (λ_=>by omega) (by omega) (by rw[List.length_append,List.length_singleton];omega)
   rw[<- eb] at ih'
   unfold sS
   rw[if_pos hl,eg]
   show(if 128<=(((n % 128+128:Nat):Int)).toNat then _ else _)=_
   rw[Int.toNat_natCast,if_pos (by omega),show(n % 128+128) % 128=n % 128 by omega,ih',e]
   rw[List.length_cons]
   congr 2
   ·omega
   ·omega
theorem HN(u v:List aH){n:Nat}(h:n<=2147483647):p5 (u++gX n++v) u.length=some (n,u.length+(gX n).length):=by
 have:=N7 v 4 n 0 0 u.length u (by omega) (λh=>absurd h (by omega)) (by omega) rfl
 unfold p5;rw[this];simp
end Go.Abs
namespace Go.Abs
open Go
theorem QR{b:List aH}{i:Nat}:∀ (n k acc:Nat) {x j:Nat},sS b i n k acc=some (x,j)->x<=2147483647/\j<=b.length/\i+k<j:=by
 intro n
 induction n with
 | zero=>intro k acc x j h;unfold sS at h;exact absurd h (by simp)
 | succ n ih=>
  intro k acc x j h
  unfold sS at h
  split at h
  ·split at h
   ·have:=ih _ _ h;omega
   ·split at h
    ·cases h
    ·split at h
     ·cases h
     ·cases h;omega
  ·cases h
theorem xQ{n:Nat}(h:n<9223372036854775808):i64.wrap (n:Int)=(n:Int):=by
 rw[IntKind.wrap_i64];omega
theorem LU{k:Nat}(hk:k<5):i64.wrap ((7:Int)*(k:Int))=((7*k:Nat):Int):=by
 rw[IntKind.wrap_i64];omega
theorem IL{x k:Nat}(hx:x<128)(hk:k<5):tR i64 (x:Int) (i64.wrap ((7:Int)*(k:Int)))=((x*128 ^ k:Nat):Int):=by
 rw[LU hk]
 unfold tR
 rw[Int.toNat_natCast]
 have h:k=0\/k=1\/k=2\/k=3\/k=4:=by omega
 rcases h with rfl | rfl | rfl | rfl | rfl
 ·rw[show(2:Int) ^ (min (7*0) i64.bits)=1 by decide,IntKind.wrap_i64];omega
 ·rw[show(2:Int) ^ (min (7*1) i64.bits)=128 by decide,IntKind.wrap_i64];omega
 ·rw[show(2:Int) ^ (min (7*2) i64.bits)=16384 by decide,IntKind.wrap_i64];omega
 ·rw[show(2:Int) ^ (min (7*3) i64.bits)=2097152 by decide,IntKind.wrap_i64];omega
 ·rw[show(2:Int) ^ (min (7*4) i64.bits)=268435456 by decide,IntKind.wrap_i64];omega
theorem tK(x:Nat):((x:Int)).tmod 128=((x % 128:Nat):Int):=by
 rw[Int.tmod_eq_emod_of_nonneg (by omega)];omega
theorem R4{k:Nat}(hk:k<5):128 ^ k<=268435456:=by
 have h:k=0\/k=1\/k=2\/k=3\/k=4:=by omega
 rcases h with rfl | rfl | rfl | rfl | rfl<;>decide
theorem R6{a x k:Nat}(ha:a<128 ^ k)(hx:x<128)(hk:k<5):orI i64 (a:Int) ((x*128 ^ k:Nat):Int)=((a+x*128 ^ k:Nat):Int):=by
 have hp:=R4 hk
 have hm:x*128 ^ k<=127*268435456:=Nat.mul_le_mul (by omega) hp
 unfold orI
 have e:(BitVec.ofInt i64.bits (a:Int)||| BitVec.ofInt i64.bits ((x*128 ^ k:Nat):Int)).toNat=a+x*128 ^ k:=by
  rw[BitVec.toNat_or,BitVec.ofInt_natCast,BitVec.ofInt_natCast,BitVec.toNat_ofNat,BitVec.toNat_ofNat]
  rw[Nat.mod_eq_of_lt (show a<2 ^ i64.bits by show a<2 ^ 64;omega),Nat.mod_eq_of_lt (show x*128 ^ k<2 ^ i64.bits by show x*128 ^ k<2 ^ 64;omega)]
  have h2:128 ^ k=2 ^ (7*k):=by rw[Nat.pow_mul]
  rw[h2] at ha ⊢
  rw[Nat.or_comm,Nat.mul_comm x,<- Nat.two_pow_add_eq_or_of_lt ha];omega
 rw[e];exact xQ (by omega)
theorem O9{a x k:Nat}(ha:a<128 ^ k):a+x % 128*128 ^ k<128 ^ (k+1):=by
 have h:x % 128<128:=Nat.mod_lt _ (by omega)
 have h2:x % 128*128 ^ k<=127*128 ^ k:=Nat.mul_le_mul (by omega) (Nat.le_refl _)
 rw[Nat.pow_succ];omega
end Go.Abs
/- Plain laws: worlds compared. -/
namespace Go.Abs
def iE{α:Type}(a b:List α):Bool:=(a.length:Int)==(b.length:Int)
theorem rJ{α:Type}{a b:List α}:iE a b=true↔a.length=b.length:=by unfold iE;rw[beq_iff_eq];omega
def pN{α:Type}[Inhabited α](f:α->α->Bool)(a b:List α):Bool:=iE a b&&bL a.length λi=>f (gt a i) (gt b i)
def bN(a b:List aH):Bool:=ByteArray.toList (bX a)==ByteArray.toList (bX b)
def vQ(a b:bH):Bool:=fW a.1 b.1
def qA(x y:eC):Bool:=f0 x.1 y.1&&(f0 x.2.1 y.2.1&&(rP x.2.2.1 y.2.2.1&&(f0 x.2.2.2.1 y.2.2.2.1&&true)))
def mL(x y:jM):Bool:=f0 x.1 y.1&&(f0 x.2.1 y.2.1&&(f0 x.2.2.1 y.2.2.1&&true))
def CW(a b:jL):Bool:=fW a.1 b.1&&a.2.1==b.2.1
def zY(a b:fJ):Bool:=a.1==b.1&&(a.2.1==b.2.1&&pN eU a.2.2.1 b.2.2.1)
def zL(a b:NodeT):Bool:=a.1==b.1&&(a.2.1==b.2.1&&(a.num==b.num&&(a.slots==b.slots&&(a.wait==b.wait&&(a.limit==b.limit&&(a.clock==b.clock&&(pN vQ a.seen b.seen&&(eU a.state b.state&&(CW a.tree b.tree&&(zY a.log b.log&&(fW a.got b.got&&(fW a.acked b.acked&&(pN qA a.sess b.sess&&pN mL a.rises b.rises)))))))))))))
def yC(a b:NodeT):Bool:=a.1==b.1&&(a.2.1==b.2.1&&(eU a.state b.state&&(CW a.tree b.tree&&(zY a.log b.log&&(fW a.got b.got&&(fW a.acked b.acked&&(iE a.seen b.seen&&(a.num==b.num&&(a.slots==b.slots&&(a.wait==b.wait&&(a.limit==b.limit&&(a.clock==b.clock&&(iE a.sess b.sess&&(iE a.rises b.rises&&
 (bL a.seen.length (λi=>vQ (gt a.seen i) (gt b.seen i))&&(bL a.sess.length (λi=>qA (gt a.sess i) (gt b.sess i))&&bL a.rises.length λi=>mL (gt a.rises i) (gt b.rises i)))))))))))))))))
theorem M2(a b:NodeT):yC a b=zL a b:=by
 unfold yC zL pN;ac_rfl
end Go.Abs
-- bytes read back: plain laws of readers
namespace Go.Abs
open Go
def B8(b:List aH):Prop:=∀ k,k<b.length->∃ y:Nat,(gt b k).1=(y:Int)/\y<=255
def ByL(b:List aH):Prop:=∀ x∈b,∃ y:Nat,x.1=(y:Int)/\y<=255
theorem ByL.b8{b:List aH}(h:ByL b):B8 b:=λk hk=>h _ (cR hk)
theorem B8.byL{b:List aH}(h:B8 b):ByL b:=λx hx=>by
 obtain⟨i,hi,e⟩:=gN hx
 rw[<- e];exact h i hi
theorem ByL.app{a b:List aH}(ha:ByL a)(hb:ByL b):ByL (a++b):=λx hx=>by
 rcases List.mem_append.1 hx with h | h
 ·exact ha x h
 ·exact hb x h
theorem ByL.flat{α:Type}{f:α->List aH}(h:∀ x,ByL (f x))(xs:List α):ByL (xs.flatMap f):=λx hx=>by
 obtain⟨a,_,ha⟩:=List.mem_flatMap.1 hx
 exact h a x ha
theorem ByL.sub{a b:List aH}(h:ByL b)(hs:∀ x∈a,x∈b):ByL a:=λx hx=>h x (hs x hx)
theorem P9(n:Nat):ByL (gX n):=by
 induction n using Nat.strongRecOn with
 | _ n ih=>
  unfold gX
  split
  ·rename_i h
   intro b hb
   rw[List.mem_singleton.1 hb];exact⟨n,rfl,by omega⟩
  ·rename_i h
   intro b hb
   rcases List.mem_cons.1 hb with e | e
   ·rw[e];exact⟨n % 128+128,rfl,by omega⟩
   ·exact ih (n / 128) (Nat.div_lt_self (by omega) (by omega)) b e
theorem dU(x:Int):ByL (aG x):=by
 unfold aG
 cases inB x 0 2147483647 with
 | false=>intro b hb;cases hb
 | true=>exact P9 _
theorem LN(t:ByteArray):ByL (fG t):=λb hb=>by
 unfold fG eM at hb
 obtain⟨u,_,rfl⟩:=List.mem_map.1 hb
 have:=u.toNat_lt
 exact⟨u.toNat,rfl,by omega⟩
theorem GQ(t:ByteArray):ByL (dR t):=(dU _).app (LN t)
theorem DN(x:bI):ByL (aZ x):=by
 unfold aZ;exact(((((dU _).app (dU _)).app (dU _)).app (dU _)).app (dU _)).app (GQ _)
theorem rZ(f:aK):ByL (aV f):=(dU _).app (dU _)
theorem v9(s:aD):ByL (bG s):=(((dU _).app (ByL.flat DN _)).app (dU _)).app (ByL.flat rZ _)
theorem CJ{l:List aH}(h:ByL l):fG (bX l)=l:=by
 show List.map (λb:UInt8=>(((b.toNat:Nat):Int),())) (List.map (λr:aH=>UInt8.ofNat (Int.toNat r.1)) l)=l
 rw[List.map_map]
 conv=>rhs;rw[<- List.map_id l]
 refine List.map_congr_left λx hx=>?_
 obtain⟨y,hy,hy2⟩:=h x hx
 obtain⟨z,u⟩:=x
 have hy:z=(y:Int):=hy
 subst hy
 show((((UInt8.ofNat ((y:Int)).toNat).toNat:Nat):Int),())=((y:Int),u)
 rw[Int.toNat_natCast,UInt8.toNat_ofNat',Nat.mod_eq_of_lt (by omega)]
theorem LM(s:ByteArray):bX (fG s)=s:=by
 have e:List.map (λr:aH=>UInt8.ofNat (Int.toNat r.1)) (fG s)=s.data.toList:=by
  show List.map _ (List.map (λb:UInt8=>(((b.toNat:Nat):Int),())) s.data.toList)=_
  rw[List.map_map]
  conv=>rhs;rw[<- List.map_id s.data.toList]
  refine List.map_congr_left λx hx=>?_
  show UInt8.ofNat (((x.toNat:Nat):Int)).toNat=x
  rw[Int.toNat_natCast];simp
 exact congrArg (λl:List UInt8=>(⟨l.toArray⟩:ByteArray)) e
theorem lZ{a b:List aH}(ha:ByL a)(hb:ByL b):bN a b=true↔a=b:=by
 unfold bN
 rw[beq_iff_eq,ByteArray.toList_eq,ByteArray.toList_eq]
 constructor
 ·intro h
  have:fG (bX a)=fG (bX b):=by unfold fG eM;rw[h]
  rwa [CJ ha,CJ hb] at this
 ·rintro rfl;rfl
-- readers
abbrev RdT:Type:=List aH×Int×Bool×Unit
def pB(b:List aH)(i:Int):Option (Nat×Nat):=bif decide (i<0)then none else p5 b i.toNat
theorem yE{b:List aH}{i:Int}{x j:Nat}(h:pB b i=some (x,j)):x<=2147483647/\j<=b.length:=by
 unfold pB at h
 cases e:decide (i<0)with
 | true=>rw[e] at h;cases h
 | false=>
  rw[e] at h
  have h:sS b i.toNat 5 0 0=some (x,j):=h
  have:=QR 5 0 0 h
  omega
-- a number read off a reader: (the number, the reader behind it)
def aI(r:RdT):Int×RdT:=bif r.2.2.1 then(0,(r.1,r.2.1,true,()))else
 match pB r.1 r.2.1 with
 | none=>(0,(r.1,r.2.1,true,()))
 | some (x,j)=>((x:Int),(r.1,(j:Int),r.2.2.1,()))
def eA(r:RdT)(m:Int):Int×RdT:=bif decide ((aI r).1>m)then(0,((aI r).2.1,(aI r).2.2.1,true,()))else aI r
def tH(b:List aH)(i:Int):Option (ByteArray×Nat):=match pB b i with
 | none=>none
 | some (x,j)=>if x>b.length - j then none else some (bX ((b.take (j+x)).drop j),j+x)
def kY(r:RdT):ByteArray×RdT:=bif r.2.2.1 then(⟨#[]⟩,(r.1,r.2.1,true,()))else
 match tH r.1 r.2.1 with
 | none=>(⟨#[]⟩,(r.1,r.2.1,true,()))
 | some (s,j)=>(s,(r.1,(j:Int),r.2.2.1,()))
structure RdOk (r:RdT):Prop where
 b8:B8 r.1
 len:r.1.length<=aN
 lo:0<=r.2.1
 hi:r.2.1<=(r.1.length:Int)
theorem qZ(r:RdT):(aI r).2.1=r.1/\(0<=r.2.1->r.2.1<=(r.1.length:Int)->0<=(aI r).2.2.1/\(aI r).2.2.1<=(r.1.length:Int))/\0<=(aI r).1/\(aI r).1<=2147483647/\(r.2.2.1=true->(aI r).2.2.2.1=true):=by
 obtain⟨b,i,bad,u⟩:=r
 cases bad with
 | true=>exact⟨rfl,λh1 h2=>⟨h1,h2⟩,Int.le_refl _,by show(0:Int)<=2147483647;omega,λ_=>rfl⟩
 | false=>
  have e:aI (b,i,false,u)=(match pB b i with | none=>((0:Int),((b,i,true,()):RdT)) | some (x,j)=>((x:Int),(b,(j:Int),false,()))):=rfl
  rw[e]
  cases h:pB b i with
  | none=>exact⟨rfl,λh1 h2=>⟨h1,h2⟩,Int.le_refl _,by show(0:Int)<=2147483647;omega,λ_=>rfl⟩
  | some q=>
   obtain⟨x,j⟩:=q
   have hb:=yE h
   exact⟨rfl,λh1 h2=>⟨Int.natCast_nonneg _,by show(j:Int)<=(b.length:Int);omega⟩,Int.natCast_nonneg _,by show(x:Int)<=2147483647;omega,λh=>absurd (show false=true from h) (by decide)⟩
theorem fP(r:RdT):(aI r).2.1=r.1:=(qZ r).1
theorem zA(r:RdT):0<=(aI r).1:=(qZ r).2.2.1
theorem RdOk.num{r:RdT}(h:RdOk r):RdOk (aI r).2:=by
 have e:=qZ r
 have p:=e.2.1 h.lo h.hi
 exact⟨by rw[e.1];exact h.b8,by rw[e.1];exact h.len,p.1,by rw[e.1];exact p.2⟩
theorem RdOk.cnt{r:RdT}(h:RdOk r)(m:Int):RdOk (eA r m).2:=by
 have hn:=h.num
 unfold eA
 cases decide ((aI r).1>m)with
 | true=>exact⟨hn.b8,hn.len,hn.lo,hn.hi⟩
 | false=>exact hn
theorem GO(r:RdT)(m:Int):(eA r m).2.1=r.1:=by
 unfold eA
 cases decide ((aI r).1>m)with
 | true=>exact fP r
 | false=>exact fP r
theorem y9(r:RdT):(kY r).2.1=r.1/\(0<=r.2.1->r.2.1<=(r.1.length:Int)->0<=(kY r).2.2.1/\(kY r).2.2.1<=(r.1.length:Int)):=by
 obtain⟨b,i,bad,u⟩:=r
 cases bad with
 | true=>exact⟨rfl,λh1 h2=>⟨h1,h2⟩⟩
 | false=>
  have e:kY (b,i,false,u)=(match tH b i with | none=>((⟨#[]⟩:ByteArray),((b,i,true,()):RdT)) | some (s,j)=>(s,(b,(j:Int),false,()))):=rfl
  rw[e]
  cases h:tH b i with
  | none=>exact⟨rfl,λh1 h2=>⟨h1,h2⟩⟩
  | some q=>
   obtain⟨s,j⟩:=q
   refine⟨rfl,λh1 h2=>⟨Int.natCast_nonneg _,?_⟩⟩
   show(j:Int)<=(b.length:Int)
   unfold tH at h
   cases hg:pB b i with
   | none=>rw[hg] at h;cases h
   | some q=>
    obtain⟨x,k⟩:=q
    have hb:=yE hg
    rw[hg] at h
    have h:(if x>b.length - k then none else some (bX ((b.take (k+x)).drop k),k+x))=some (s,j):=h
    split at h
    ·cases h
    ·cases h;omega
theorem RdOk.txt{r:RdT}(h:RdOk r):RdOk (kY r).2:=by
 have e:=y9 r
 have p:=e.2 h.lo h.hi
 exact⟨by rw[e.1];exact h.b8,by rw[e.1];exact h.len,p.1,by rw[e.1];exact p.2⟩
theorem pR(r:RdT){m:Int}(hm:0<=m):0<=(eA r m).1/\(eA r m).1<=m:=by
 have:=zA r
 unfold eA
 by_cases h:(aI r).1>m
 ·rw[decide_eq_true h];exact⟨Int.le_refl _,hm⟩
 ·rw[decide_eq_false h];show 0<=(aI r).1/\(aI r).1<=m;omega
-- several numbers
def rdK(r:RdT):Nat->RdT
 | 0=>r
 | k+1=>(aI (rdK r k)).2
def rdV(r:RdT)(k:Nat):Int:=(aI (rdK r k)).1
theorem RdOk.k{r:RdT}(h:RdOk r):∀ k,RdOk (rdK r k)
 | 0=>h
 | k+1=>(RdOk.k h k).num
theorem uA(r:RdT):∀ k,(rdK r k).1=r.1
 | 0=>rfl
 | k+1=>(fP _).trans (uA r k)
-- the same reading done several times
def cD{α:Type}(f:RdT->α×RdT)(r:RdT):Nat->List α×RdT
 | 0=>([],r)
 | k+1=>((cD f r k).1++[(f (cD f r k).2).1],(f (cD f r k).2).2)
theorem gY{α:Type}(f:RdT->α×RdT)(r:RdT):∀ k,(cD f r k).1.length=k
 | 0=>rfl
 | k+1=>by show((cD f r k).1++[_]).length=k+1;rw[List.length_append,gY f r k];rfl
theorem mX{α:Type}{f:RdT->α×RdT}(hf:∀ r,RdOk r->RdOk (f r).2){r:RdT}(h:RdOk r):∀ k,RdOk (cD f r k).2
 | 0=>h
 | k+1=>hf _ (mX hf h k)
theorem zS{α:Type}{f:RdT->α×RdT}(hf:∀ r,(f r).2.1=r.1)(r:RdT):∀ k,(cD f r k).2.1=r.1
 | 0=>rfl
 | k+1=>(hf _).trans (zS hf r k)
def vM(r:RdT):aH×RdT:=(((aI r).1,()),(aI r).2)
def dJ(r:RdT):aK×RdT:=((rdV r 0,rdV r 1,()),rdK r 2)
def cP(r:RdT):bI×RdT:=((rdV r 0,rdV r 1,rdV r 2,rdV r 3,rdV r 4,(kY (rdK r 5)).1,()),(kY (rdK r 5)).2)
theorem RdOk.floor{r:RdT}(h:RdOk r):RdOk (dJ r).2:=h.k 2
theorem RdOk.item{r:RdT}(h:RdOk r):RdOk (cP r).2:=(h.k 5).txt
theorem HG(r:RdT):(cP r).2.1=r.1:=(y9 _).1.trans (uA r 5)
def kI(r:RdT)(m:Int):List aH×RdT:=cD vM (eA r m).2 (eA r m).1.toNat
theorem RdOk.nums{r:RdT}(h:RdOk r)(m:Int):RdOk (kI r m).2:=mX (f:=vM) (λr h=>RdOk.num h) (h.cnt m) _
theorem GN(r:RdT){m:Int}(hm:0<=m):((kI r m).1.length:Int)<=m:=by
 have:=pR r hm
 unfold kI;rw[gY];omega
theorem EO(r:RdT)(m:Int):(kI r m).2.1=r.1:=(zS (f:=vM) (λr=>fP r) _ _).trans (GO r m)
-- what is read back
def kM{α:Type}(f:RdT->α×RdT)(e:List aH)(x:α):Prop:=
 ∀ b u v:List aH,b=u++(e++v)->f (b,(u.length:Int),false,())=(x,(b,(((u++e).length:Nat):Int),false,()))
theorem FM{x:Int}(h:inB x 0 2147483647=true){b u v:List aH}(hb:b=u++(aG x++v)):pB b (u.length:Int)=some (x.toNat,(u++aG x).length):=by
 rw[aQ] at h
 have e:aG x=gX x.toNat:=by unfold aG;rw[aQ.2 h];rfl
 rw[e] at hb ⊢
 unfold pB
 rw[decide_eq_false (by omega)]
 show p5 b (u.length:Int).toNat=_
 rw[Int.toNat_natCast,hb,<- List.append_assoc,HN u v (by omega),List.length_append]
theorem gW{x:Int}(h:inB x 0 2147483647=true):kM aI (aG x) x:=by
 intro b u v hb
 have g:=FM h hb
 show(match pB b (u.length:Int)with | none=>((0:Int),((b,(u.length:Int),true,()):RdT)) | some (x,j)=>((x:Int),(b,(j:Int),false,())))=_
 rw[g]
 show(((x.toNat:Nat):Int),_)=(x,_)
 rw[aQ] at h
 rw[show((x.toNat:Nat):Int)=x by omega]
theorem qY{x m:Int}(h:inB x 0 2147483647=true)(hm:x<=m):kM (λr=>eA r m) (aG x) x:=by
 intro b u v hb
 have:=gW h b u v hb
 show eA _ m=_
 unfold eA
 rw[this,decide_eq_false (show ¬ x>m by omega)];rfl
theorem PT{s:ByteArray}(h:ByteArray.size s<=2147483647):inB ((ByteArray.size s:Nat):Int) 0 2147483647=true:=by rw[aQ];omega
theorem sB{α:Type}(a b c:List α):((a++(b++c)).take (a.length+b.length)).drop a.length=b:=by
 rw[<- List.append_assoc,List.take_left' (by rw[List.length_append]),List.drop_left' rfl]
theorem LW{s:ByteArray}(h:ByteArray.size s<=2147483647){b u v:List aH}(hb:b=u++(dR s++v)):tH b (u.length:Int)=some (s,(u++dR s).length):=by
 unfold dR at hb ⊢
 have g:=FM (PT h) (b:=b) (u:=u) (v:=fG s++v) (by rw[hb];simp)
 unfold tH;rw[g]
 show(if((ByteArray.size s:Nat):Int).toNat>b.length - (u++aG ((ByteArray.size s:Nat):Int)).length then none else some (bX ((b.take ((u++aG ((ByteArray.size s:Nat):Int)).length+((ByteArray.size s:Nat):Int).toNat)).drop (u++aG ((ByteArray.size s:Nat):Int)).length),(u++aG ((ByteArray.size s:Nat):Int)).length+((ByteArray.size s:Nat):Int).toNat))=_
 have e2:b=(u++aG ((ByteArray.size s:Nat):Int))++(fG s++v):=by rw[hb];simp
 have e3:b.length=(u++aG ((ByteArray.size s:Nat):Int)).length+(ByteArray.size s+v.length):=by rw[e2,List.length_append,List.length_append (as:=fG s),jS]
 rw[Int.toNat_natCast,if_neg (by omega)]
 have e4:=sB (α:=aH) (u++aG ((ByteArray.size s:Nat):Int)) (fG s) v
 rw[<- e2,jS] at e4
 refine(congrArg (λl:List aH=>some (bX l,(u++aG ((ByteArray.size s:Nat):Int)).length+ByteArray.size s)) e4).trans ?_
 rw[LM,<- List.append_assoc,List.length_append (bs:=fG s),jS]
theorem J5{s:ByteArray}(h:ByteArray.size s<=2147483647):kM kY (dR s) s:=by
 intro b u v hb
 have g:=LW h hb
 show(match tH b (u.length:Int)with | none=>((⟨#[]⟩:ByteArray),((b,(u.length:Int),true,()):RdT)) | some (s,j)=>(s,(b,(j:Int),false,())))=_
 rw[g]
def cQ(ns:List aH):List aH:=ns.flatMap λx=>aG x.1
theorem nA(a b:List aH):cQ (a++b)=cQ a++cQ b:=List.flatMap_append
theorem vX(x:aH):cQ [x]=aG x.1:=by unfold cQ;simp
theorem kN{α:Type}[Inhabited α]{xs:List α}{k:Nat}(h:k<xs.length):xs.take (k+1)=xs.take k++[gt xs k]:=by
 rw[<- List.take_append_getElem h,dC h]
theorem yV{α:Type}[Inhabited α]{xs:List α}{k:Nat}(h:k<xs.length):xs=xs.take k++(gt xs k::xs.drop (k+1)):=by
 rw[dC h,<- List.drop_eq_getElem_cons h,List.take_append_drop]
theorem mQ{ns:List aH}(h:∀ x∈ns,inB x.1 0 2147483647=true){b u v:List aH}(hb:b=u++(cQ ns++v)):
  ∀ k,k<=ns.length->rdK (b,(u.length:Int),false,()) k=(b,(((u++cQ (ns.take k)).length:Nat):Int),false,())
 | 0,_=>by
  show(b,(u.length:Int),false,())=_
  rw[List.take_zero];unfold cQ;rw[List.flatMap_nil,List.append_nil]
 | k+1,hk=>by
  have ih:=mQ h hb k (by omega)
  have hg:b=(u++cQ (ns.take k))++(aG (gt ns k).1++(cQ (ns.drop (k+1))++v)):=by
   rw[hb];conv=>lhs;rw[yV (show k<ns.length by omega)]
   rw[nA,show gt ns k::ns.drop (k+1)=[gt ns k]++ns.drop (k+1)from rfl,nA,vX];simp only[List.append_assoc]
  have:=gW (h _ (cR (show k<ns.length by omega))) b _ _ hg
  show(aI (rdK _ k)).2=_
  rw[ih,this,kN (by omega),nA,vX,List.append_assoc]
theorem vH{ns:List aH}(h:∀ x∈ns,inB x.1 0 2147483647=true){b u v:List aH}(hb:b=u++(cQ ns++v))(k:Nat)(hk:k<ns.length):
  rdV (b,(u.length:Int),false,()) k=(gt ns k).1:=by
 have ih:=mQ h hb k (by omega)
 have hg:b=(u++cQ (ns.take k))++(aG (gt ns k).1++(cQ (ns.drop (k+1))++v)):=by
  rw[hb];conv=>lhs;rw[yV hk]
  rw[nA,show gt ns k::ns.drop (k+1)=[gt ns k]++ns.drop (k+1)from rfl,nA,vX];simp only[List.append_assoc]
 have:=gW (h _ (cR hk)) b _ _ hg
 unfold rdV;rw[ih,this]
theorem zR{α:Type}[Inhabited α]{f:RdT->α×RdT}{e:α->List aH}{xs:List α}(h:∀ x∈xs,kM f (e x) x){b u v:List aH}(hb:b=u++(xs.flatMap e++v)):
  ∀ k,k<=xs.length->cD f (b,(u.length:Int),false,()) k=(xs.take k,(b,(((u++(xs.take k).flatMap e).length:Nat):Int),false,()))
 | 0,_=>by
  show(([]:List α),((b,(u.length:Int),false,()):RdT))=_
  rw[List.take_zero,List.flatMap_nil,List.append_nil]
 | k+1,hk=>by
  have ih:=zR h hb k (by omega)
  have hg:b=(u++(xs.take k).flatMap e)++(e (gt xs k)++((xs.drop (k+1)).flatMap e++v)):=by
   rw[hb];conv=>lhs;rw[yV (show k<xs.length by omega)]
   rw[List.flatMap_append,List.flatMap_cons];simp only[List.append_assoc]
  have:=h _ (cR (show k<xs.length by omega)) b _ _ hg
  show((cD f _ k).1++[(f (cD f _ k).2).1],(f (cD f _ k).2).2)=_
  rw[ih,this,kN (by omega),List.flatMap_append,List.append_assoc]
  simp
theorem nR{α:Type}[Inhabited α]{f:RdT->α×RdT}{e:α->List aH}{xs:List α}(h:∀ x∈xs,kM f (e x) x):kM (λr=>cD f r xs.length) (xs.flatMap e) xs:=by
 intro b u v hb
 have:=zR h hb xs.length (Nat.le_refl _)
 rw[List.take_length] at this
 exact this
theorem GV{x:aH}(h:inB x.1 0 2147483647=true):kM vM (aG x.1) x:=by
 intro b u v hb
 unfold vM;rw[gW h b u v hb]
theorem DR{f:aK}(h1:inB f.1 0 2147483647=true)(h2:inB f.2.1 0 2147483647=true):kM dJ (aV f) f:=by
 intro b u v hb
 have e:aV f=cQ [(f.1,()),(f.2.1,())]:=by unfold cQ aV;simp
 rw[e] at hb ⊢
 have hn:∀ x∈[((f.1,()):aH),(f.2.1,())],inB x.1 0 2147483647=true:=by
  intro x hx;rcases List.mem_cons.1 hx with rfl | hx
  ·exact h1
  ·rw[List.mem_singleton.1 hx];exact h2
 have a:=vH hn hb
 have c:=mQ hn hb 2 (Nat.le_refl _)
 unfold dJ
 rw[a 0 (show 0<2 by omega),a 1 (show 1<2 by omega),c];rfl
theorem FF{x:bI}(h:∀ y∈five x,inB y.1 0 2147483647=true)(hs:ByteArray.size x.2.2.2.2.2.1<=2147483647):kM cP (aZ x) x:=by
 intro b u v hb
 have e:aZ x=cQ (five x)++dR x.2.2.2.2.2.1:=by unfold cQ aZ five;simp
 rw[e] at hb ⊢
 have hb1:b=u++(cQ (five x)++(dR x.2.2.2.2.2.1++v)):=by rw[hb];simp
 have hb2:b=(u++cQ (five x))++(dR x.2.2.2.2.2.1++v):=by rw[hb];simp
 have a:=vH h hb1
 have c:=mQ h hb1 5 (Nat.le_refl _)
 rw[show(five x).take 5=five x from rfl] at c
 have d:=J5 hs b _ _ hb2
 unfold cP
 rw[c,d,a 0 (show 0<5 by omega),a 1 (show 1<5 by omega),a 2 (show 2<5 by omega),a 3 (show 3<5 by omega),a 4 (show 4<5 by omega),List.append_assoc];rfl
end Go.Abs
-- states and messages read back: plain laws
namespace Go.Abs
open Go
def InN(x:Int):Prop:=inB x 0 2147483647=true
theorem InN.of{x hi:Int}(h:inB x 0 hi=true)(hh:hi<=2147483647):InN x:=by
 unfold InN;rw[aQ] at h ⊢;omega
theorem InN.of1{x hi:Int}(h:inB x 1 hi=true)(hh:hi<=2147483647):InN x:=by
 unfold InN;rw[aQ] at h ⊢;omega
theorem InN.nat{n:Nat}(h:n<=2147483647):InN (n:Int):=by unfold InN;rw[aQ];omega
theorem StateOk.five{s:aD}(h:StateOk s){x:bI}(hx:x∈s.1):(∀ y∈five x,inB y.1 0 2147483647=true)/\ByteArray.size x.2.2.2.2.2.1<=2147483647:=by
 obtain⟨h1,h2,_⟩:=h.item x hx
 unfold dY at h2
 simp only[Bool.and_eq_true,decide_eq_true_eq] at h2
 obtain⟨a,b,c,d,e⟩:=h2
 refine⟨λy hy=>?_,by omega⟩
 unfold Go.Abs.five at hy
 simp only[List.mem_cons,List.not_mem_nil,or_false] at hy
 rcases hy with rfl | rfl | rfl | rfl | rfl
 ·exact InN.of (h1:inB x.1 0 4=true) (by decide)
 ·exact InN.of1 a (by decide)
 ·exact InN.of b (by decide)
 ·exact InN.of c (by decide)
 ·exact InN.of d (by decide)
theorem StateOk.flo{s:aD}(h:StateOk s){f:aK}(hf:f∈s.2.1):InN f.1/\InN f.2.1:=
 ⟨InN.of ((h.floor f hf).1:inB f.1 0 4=true) (by decide),InN.of1 (h.floor f hf).2 (by decide)⟩
theorem z3{s:aD}(h:StateOk s):∀ x∈s.1,kM cP (aZ x) x:=λx hx=>FF (h.five hx).1 (h.five hx).2
theorem xC{fs:List aK}(h:∀ f∈fs,InN f.1/\InN f.2.1):∀ x∈fs,kM dJ (aV x) x:=λx hx=>DR (h x hx).1 (h x hx).2
-- the program's reader of states
def rs0(b:List aH):RdT:=(b,0,false,())
def siC(b:List aH):Int×RdT:=eA (rs0 b) 5
def siI(b:List aH):List bI×RdT:=cD cP (siC b).2 (siC b).1.toNat
def siF(b:List aH):Int×RdT:=eA (siI b).2 5
def siG(b:List aH):List aK×RdT:=cD dJ (siF b).2 (siF b).1.toNat
def stI(b:List aH):aD:=((siI b).1,(siG b).1,())
def bS(b:List aH):Option aD:=bif(siG b).2.2.2.1||(!aJ (stI b)|| !bN (bG (stI b)) b)then none else some (stI b)
theorem uX{α:Type}{c:Bool}{x y:α}(h:(bif c then none else some x)=some y):c=false/\x=y:=by
 cases c with
 | true=>cases h
 | false=>exact⟨rfl,by injection h⟩
theorem wM{b:List aH}{s:aD}(h:bS b=some s):aJ s=true/\bN (bG s) b=true:=by
 obtain⟨h1,h2⟩:=uX h
 subst h2
 simp only[Bool.or_eq_false_iff,Bool.not_eq_false'] at h1
 exact h1.2
theorem uV(s:aD):bG s=([]:List aH)++(aG (s.1.length:Int)++(s.1.flatMap aZ++(aG (s.2.1.length:Int)++(s.2.1.flatMap aV++[])))):=by
 unfold bG;simp
theorem fU(b:List aH):bN b b=true:=by unfold bN;exact beq_self_eq_true _
theorem kO{s:aD}(hs:aJ s=true):bS (bG s)=some s:=by
 have h:=(aM s).1 hs
 have h5:=h.len
 have hb:=uV s
 generalize e:bG s=b at hb
 have c1:siC b=((s.1.length:Int),(b,(((([]:List aH)++aG (s.1.length:Int)).length:Nat):Int),false,())):=
  qY (m:=5) (InN.nat (by omega)) (by omega) b [] _ hb
 have c2:siI b=(s.1,(b,(((([]:List aH)++aG (s.1.length:Int)++s.1.flatMap aZ).length:Nat):Int),false,())):=by
  unfold siI;rw[c1]
  show cD cP _ ((s.1.length:Int)).toNat=_
  rw[Int.toNat_natCast]
  exact nR (z3 h) b _ _ (by rw[hb,List.append_assoc])
 have c3:siF b=((s.2.1.length:Int),(b,(((([]:List aH)++aG (s.1.length:Int)++s.1.flatMap aZ++aG (s.2.1.length:Int)).length:Nat):Int),false,())):=by
  unfold siF;rw[c2]
  exact qY (m:=5) (InN.nat (by omega)) (by omega) b _ (s.2.1.flatMap aV++[]) (by rw[hb];simp only[List.append_assoc])
 have c4:siG b=(s.2.1,(b,(((([]:List aH)++aG (s.1.length:Int)++s.1.flatMap aZ++aG (s.2.1.length:Int)++s.2.1.flatMap aV).length:Nat):Int),false,())):=by
  unfold siG;rw[c3]
  show cD dJ _ ((s.2.1.length:Int)).toNat=_
  rw[Int.toNat_natCast]
  exact nR (xC λf hf=>h.flo hf) b _ [] (by rw[hb];simp only[List.append_assoc])
 have c5:stI b=s:=by unfold stI;rw[c2,c4]
 unfold bS;rw[c4,c5,hs,e,fU];rfl
-- the reference's reader of states
def lP:RdT->Nat->List aH×RdT
 | r,0=>([],r)
 | r,k+1=>bif r.2.2.1 then([],r)else(((aI r).1,())::(lP (aI r).2 k).1,(lP (aI r).2 k).2)
def cK(r:RdT)(t:Nat):List aH×RdT:=bif decide ((aI r).1>100)then([],((aI r).2.1,(aI r).2.2.1,true,()))else lP (aI r).2 ((aI r).1.toNat*t)
theorem EG:∀ (k:Nat) (r:RdT),(lP r k).1.length<=k
 | 0,r=>Nat.le_refl _
 | k+1,r=>by
  unfold lP
  cases r.2.2.1 with
  | true=>exact Nat.zero_le _
  | false=>show(((aI r).1,())::(lP (aI r).2 k).1).length<=k+1;rw[List.length_cons];have:=EG k (aI r).2;omega
theorem IM:∀ (k:Nat) {r:RdT},RdOk r->RdOk (lP r k).2
 | 0,r,h=>h
 | k+1,r,h=>by
  unfold lP
  cases r.2.2.1 with
  | true=>exact h
  | false=>exact IM k h.num
theorem BJ:∀ (k:Nat) (r:RdT),(lP r k).2.1=r.1
 | 0,r=>rfl
 | k+1,r=>by
  unfold lP
  cases r.2.2.1 with
  | true=>rfl
  | false=>exact(BJ k _).trans (fP r)
theorem G3(r:RdT)(t:Nat):(cK r t).2.1=r.1:=by
 unfold cK
 cases decide ((aI r).1>100)with
 | true=>exact fP r
 | false=>exact(BJ _ _).trans (fP r)
theorem rD(r:RdT)(t:Nat):(cK r t).1.length<=100*t:=by
 unfold cK
 by_cases h:(aI r).1>100
 ·rw[decide_eq_true h];exact Nat.zero_le _
 ·rw[decide_eq_false h]
  have h1:=EG ((aI r).1.toNat*t) (aI r).2
  have h2:(aI r).1.toNat*t<=100*t:=Nat.mul_le_mul (by omega) (Nat.le_refl _)
  show(lP (aI r).2 ((aI r).1.toNat*t)).1.length<=100*t;omega
theorem RdOk.many{r:RdT}(h:RdOk r)(t:Nat):RdOk (cK r t).2:=by
 unfold cK
 cases decide ((aI r).1>100)with
 | true=>exact⟨h.num.b8,h.num.len,h.num.lo,h.num.hi⟩
 | false=>exact IM _ h.num
theorem BN:∀ (ns:List aH),(∀ x∈ns,InN x.1)->kM (λr=>lP r ns.length) (cQ ns) ns
 | [],_=>λb u v hb=>by show(([]:List aH),((b,(u.length:Int),false,()):RdT))=_;unfold cQ;rw[List.flatMap_nil,List.append_nil]
 | x::ns,h=>λb u v hb=>by
  have e:cQ (x::ns)=aG x.1++cQ ns:=by unfold cQ;rw[List.flatMap_cons]
  rw[e] at hb ⊢
  have h1:=gW (h x (List.mem_cons_self ..)) b u (cQ ns++v) (by rw[hb];simp only[List.append_assoc])
  have h2:=BN ns (λy hy=>h y (List.mem_cons_of_mem _ hy)) b (u++aG x.1) v (by rw[hb];simp only[List.append_assoc])
  show(((aI _).1,())::(lP (aI _).2 ns.length).1,(lP (aI _).2 ns.length).2)=_
  rw[h1]
  have h2:lP (b,(((u++aG x.1).length:Nat):Int),false,()) ns.length=_:=h2
  rw[h2,List.append_assoc]
theorem wS{ns:List aH}{n t:Nat}(hl:ns.length=n*t)(hn:n<=100)(h:∀ x∈ns,InN x.1):kM (λr=>cK r t) (aG ((n:Nat):Int)++cQ ns) ns:=by
 intro b u v hb
 have h1:=gW (InN.nat (show n<=2147483647 by omega)) b u (cQ ns++v) (by rw[hb];simp only[List.append_assoc])
 have h2:=BN ns h b (u++aG ((n:Nat):Int)) v (by rw[hb];simp only[List.append_assoc])
 show cK _ t=_
 unfold cK
 rw[h1,decide_eq_false (show ¬ (((n:Nat):Int)>100) by omega)]
 show lP _ (((n:Nat):Int).toNat*t)=_
 rw[Int.toNat_natCast,<- hl]
 exact h2.trans (by rw[List.append_assoc])
def iT(fl:List aH)(k:Nat):List aK:=(List.range k).map λi=>((gt fl (2*i)).1,(gt fl (2*i+1)).1,())
theorem sO(fl:List aH)(k:Nat):(iT fl k).length=k:=by unfold iT;rw[List.length_map,List.length_range]
theorem wW(fl:List aH)(k:Nat):iT fl (k+1)=iT fl k++[((gt fl (2*k)).1,(gt fl (2*k+1)).1,())]:=by
 unfold iT;rw[List.range_succ,List.map_append];rfl
theorem EX(x y:aH)(l:List aH)(k:Nat):iT (x::y::l) (k+1)=(x.1,y.1,())::iT l k:=by
 unfold iT
 rw[List.range_succ_eq_map,List.map_cons,List.map_map]
 congr 1
def CV(fs:List aK):List aH:=fs.flatMap λf=>[(f.1,()),(f.2.1,())]
theorem u4(f:aK)(fs:List aK):CV (f::fs)=(f.1,())::(f.2.1,())::CV fs:=by unfold CV;rw[List.flatMap_cons];rfl
theorem yL:∀ fs:List aK,(CV fs).length=fs.length*2
 | []=>rfl
 | f::fs=>by rw[u4,List.length_cons,List.length_cons,yL fs,List.length_cons];omega
theorem BD:∀ fs:List aK,cQ (CV fs)=fs.flatMap aV
 | []=>rfl
 | f::fs=>by
  rw[u4,List.flatMap_cons,<- BD fs]
  unfold cQ aV;rw[List.flatMap_cons,List.flatMap_cons,List.append_assoc]
theorem PK{fs:List aK}(h:∀ f∈fs,InN f.1/\InN f.2.1):∀ x∈CV fs,InN x.1:=λx hx=>by
 obtain⟨f,hf,hx⟩:=List.mem_flatMap.1 hx
 rcases List.mem_cons.1 hx with rfl | hx
 ·exact(h f hf).1
 ·rw[List.mem_singleton.1 hx];exact(h f hf).2
theorem zF:∀ fs:List aK,iT (CV fs) fs.length=fs
 | []=>rfl
 | f::fs=>by rw[u4,List.length_cons,EX,zF fs]
def flR(r:RdT):List aK×RdT:=(iT (cK r 2).1 ((cK r 2).1.length / 2),(cK r 2).2)
theorem CD{fs:List aK}(hl:fs.length<=100)(h:∀ f∈fs,InN f.1/\InN f.2.1):kM flR (aG (fs.length:Int)++fs.flatMap aV) fs:=by
 intro b u v hb
 rw[<- BD] at hb ⊢
 have:=wS (t:=2) (yL fs) hl (PK h) b u v hb
 have this:cK (b,(u.length:Int),false,()) 2=_:=this
 unfold flR;rw[this]
 show(iT (CV fs) ((CV fs).length / 2),_)=_
 rw[yL,Nat.mul_div_cancel _ (by decide),zF]
theorem I9(r:RdT):(flR r).1.length<=100:=by
 unfold flR;rw[sO];have:=rD r 2;omega
def iA:RdT->Nat->Option (List bI×RdT)
 | r,0=>some ([],r)
 | r,k+1=>bif r.2.2.1 then some ([],r)else bif(cP r).2.2.2.1 then none else(iA (cP r).2 k).map λq=>((cP r).1::q.1,q.2)
theorem uL:∀ (xs:List bI),(∀ x∈xs,kM cP (aZ x) x)->∀ b u v,b=u++(xs.flatMap aZ++v)->
  iA (b,(u.length:Int),false,()) xs.length=some (xs,(b,(((u++xs.flatMap aZ).length:Nat):Int),false,()))
 | [],_,b,u,v,hb=>by show some (([]:List bI),((b,(u.length:Int),false,()):RdT))=_;rw[List.flatMap_nil,List.append_nil]
 | x::xs,h,b,u,v,hb=>by
  rw[List.flatMap_cons] at hb ⊢
  have h1:=h x (List.mem_cons_self ..) b u (xs.flatMap aZ++v) (by rw[hb];simp only[List.append_assoc])
  have h2:=uL xs (λy hy=>h y (List.mem_cons_of_mem _ hy)) b (u++aZ x) v (by rw[hb];simp only[List.append_assoc])
  show(bif(cP _).2.2.2.1 then none else(iA (cP _).2 xs.length).map λq=>((cP _).1::q.1,q.2))=_
  rw[h1]
  show(iA _ xs.length).map _=_
  rw[h2,List.append_assoc];rfl
def ssI(b:List aH):Option (List bI×RdT):=bif decide ((aI (rs0 b)).1>100)then some ([],(aI (rs0 b)).2)else iA (aI (rs0 b)).2 (aI (rs0 b)).1.toNat
def stS(q:List bI×RdT):aD:=(q.1,(flR q.2).1,())
def fV(b:List aH):Option aD:=match ssI b with
 | none=>none
 | some q=>bif(flR q.2).2.2.2.1||(decide ((aI (rs0 b)).1>100)||(!aJ (stS q)|| !bN (bG (stS q)) b))then none else some (stS q)
theorem EB{b:List aH}{s:aD}(h:fV b=some s):aJ s=true/\bN (bG s) b=true:=by
 unfold fV at h
 cases e:ssI b with
 | none=>rw[e] at h;cases h
 | some q=>
  rw[e] at h
  obtain⟨h1,h2⟩:=uX h
  subst h2
  simp only[Bool.or_eq_false_iff,Bool.not_eq_false'] at h1
  exact h1.2.2
theorem C1{s:aD}(hs:aJ s=true):fV (bG s)=some s:=by
 have h:=(aM s).1 hs
 have h5:=h.len
 have hb:=uV s
 generalize e:bG s=b at hb
 have c1:aI (rs0 b)=((s.1.length:Int),(b,(((([]:List aH)++aG (s.1.length:Int)).length:Nat):Int),false,())):=
  gW (InN.nat (by omega)) b [] _ hb
 have hd:decide ((s.1.length:Int)>100)=false:=decide_eq_false (by omega)
 have c2:ssI b=some (s.1,(b,(((([]:List aH)++aG (s.1.length:Int)++s.1.flatMap aZ).length:Nat):Int),false,())):=by
  unfold ssI;rw[c1,hd]
  show iA _ ((s.1.length:Int)).toNat=_
  rw[Int.toNat_natCast]
  exact uL s.1 (z3 h) b _ _ (by rw[hb,List.append_assoc])
 have c3:=CD (show s.2.1.length<=100 by omega) (λf hf=>h.flo hf) b (([]:List aH)++aG (s.1.length:Int)++s.1.flatMap aZ) [] (by rw[hb];simp only[List.append_assoc])
 unfold fV;rw[c1,c2,hd]
 show(bif(flR _).2.2.2.1||(false||(!aJ (s.1,(flR _).1,())|| !bN (bG (s.1,(flR _).1,())) b))then none else some (s.1,(flR _).1,()))=_
 rw[c3]
 show(bif false||(false||(!aJ s|| !bN (bG s) b))then none else some s)=_
 rw[hs,e,fU];rfl
theorem JT{b:List aH}(hb:ByL b):fV b=bS b:=by
 cases h:bS b with
 | some s=>
  obtain⟨h1,h2⟩:=wM h
  have e:=(lZ (v9 s) hb).1 h2
  rw[<- e];exact C1 h1
 | none=>
  cases h2:fV b with
  | none=>rfl
  | some s=>
   obtain⟨h3,h4⟩:=EB h2
   have e:=(lZ (v9 s) hb).1 h4
   rw[<- e,kO h3] at h;cases h
end Go.Abs
-- messages as bytes, and read back: plain laws
namespace Go.Abs
open Go
def eZ(m:MsgT):List aH:=[(m.1,()),(m.2.1,()),(m.2.2.1,()),(m.2.2.2.1,()),(m.hi,())]
def cY(ns:List aH):List aH:=aG (ns.length:Int)++cQ ns
def rX(fs:List aK):List aH:=aG (fs.length:Int)++fs.flatMap aV
def rk2:List aH:=[(82,()),(75,())]
def dT(m:MsgT):List aH:=rk2++(cQ (eZ m)++(cY m.tree.1++(aG m.tree.2.1++(cY m.vec++(cY m.leaves++(aG (((bG m.part).length:Nat):Int)++(bG m.part++rX m.marks)))))))
def GG(x:Nat):List aH:=[(((x / 16777216:Nat):Int),()),(((x / 65536 % 256:Nat):Int),()),(((x / 256 % 256:Nat):Int),()),(((x % 256:Nat):Int),())]
def pL(b:List aH):List aH:=GG (crc b).toNat
def cJ(m:MsgT):List aH:=dT m++pL (dT m)
theorem FP(ns:List aH):ByL (cQ ns):=ByL.flat (λx=>dU _) ns
theorem zZ(ns:List aH):ByL (cY ns):=(dU _).app (FP ns)
theorem NH(fs:List aK):ByL (rX fs):=(dU _).app (ByL.flat rZ fs)
theorem rk2_by:ByL rk2:=λx hx=>by
 unfold rk2 at hx
 simp only[List.mem_cons,List.not_mem_nil,or_false] at hx
 rcases hx with rfl | rfl
 ·exact⟨82,rfl,by decide⟩
 ·exact⟨75,rfl,by decide⟩
theorem uW(m:MsgT):ByL (dT m):=rk2_by.app ((FP _).app ((zZ _).app ((dU _).app ((zZ _).app ((zZ _).app ((dU _).app ((v9 _).app (NH _))))))))
theorem ByL.b32{b:List aH}(h:ByL b):B32 b:=λx hx=>by
 obtain⟨y,hy,hy2⟩:=h x hx
 exact⟨by omega,by omega⟩
theorem PS{x:Nat}(h:x<4294967296):ByL (GG x):=λy hy=>by
 unfold GG at hy
 simp only[List.mem_cons,List.not_mem_nil,or_false] at hy
 rcases hy with rfl | rfl | rfl | rfl
 ·exact⟨_,rfl,by omega⟩
 ·exact⟨_,rfl,by omega⟩
 ·exact⟨_,rfl,by omega⟩
 ·exact⟨_,rfl,by omega⟩
theorem HW{b:List aH}(h:ByL b):(crc b).toNat<4294967296/\0<=crc b:=by
 have:=OM (bs:=b) h.b32
 have h1:=this.1;have h2:=this.2
 exact⟨by omega,h1⟩
theorem IK{b:List aH}(h:ByL b):ByL (pL b):=PS (HW h).1
theorem LO(m:MsgT):ByL (cJ m):=(uW m).app (IK (uW m))
theorem mN(b:List aH):(pL b).length=4:=rfl
-- numbers of a right message
structure MsgR (m:MsgT):Prop where
 head:∀ x∈eZ m,InN x.1
 tree:m.tree.1.length<=4/\∀ x∈m.tree.1,InN x.1
 root:InN m.tree.2.1
 vec:m.vec.length<=5/\∀ x∈m.vec,InN x.1
 leaves:m.leaves.length<=4/\∀ x∈m.leaves,InN x.1
 part:aJ m.part=true
 marks:m.marks.length<=5/\∀ f∈m.marks,InN f.1/\InN f.2.1
theorem O5{v:List aH}{top:Int}(h:kA v top=true)(ht:top<=2147483647):∀ x∈v,InN x.1:=λx hx=>by
 obtain⟨i,hi,rfl⟩:=gN hx
 exact InN.of (bJ.1 h i hi) ht
theorem nY{m:MsgT}(h:dM m=true):MsgR m:=by
 have hl:=z1 h
 unfold dM nZ at h
 simp only[Bool.and_eq_true] at h
 obtain⟨⟨h1,h2,h3,_⟩,h4,h5,h6,h7,h8,h9,h10,h11⟩:=h
 rw[decide_eq_true_eq] at h9
 refine⟨λx hx=>?_,?_,?_,⟨by omega,O5 h5 (by decide)⟩,⟨hl,λx hx=>?_⟩,h10,⟨KL h11,λf hf=>?_⟩⟩
 ·unfold eZ at hx
  simp only[List.mem_cons,List.not_mem_nil,or_false] at hx
  rcases hx with rfl | rfl | rfl | rfl | rfl
  ·exact InN.of h1 (by decide)
  ·exact InN.of (h2:inB _ 0 4=true) (by decide)
  ·exact InN.of (h3:inB _ 0 4=true) (by decide)
  ·exact InN.of h6 (by decide)
  ·exact InN.of h7 (by decide)
 ·unfold treeB at h8
  cases he:(m.tree.1.length:Int)==0 with
  | true=>
   have:m.tree.1.length=0:=by have:=eq_of_beq he;omega
   exact⟨by omega,λx hx=>by rw[List.length_eq_zero_iff.1 this] at hx;cases hx⟩
  | false=>
   rw[he] at h8
   have h8:((m.tree.1.length:Int)==4&&(kA m.tree.1 1023&&inB m.tree.2.1 0 1023))=true:=h8
   rw[Bool.and_eq_true] at h8
   have h8a:=eq_of_beq h8.1
   have h8b:=h8.2
   rw[Bool.and_eq_true] at h8b
   exact⟨by omega,O5 h8b.1 (by decide)⟩
 ·unfold treeB at h8
  cases he:(m.tree.1.length:Int)==0 with
  | true=>
   rw[he] at h8
   have h8:(m.tree.2.1==0)=true:=h8
   rw[beq_iff_eq] at h8
   show InN m.tree.2.1
   rw[h8];exact InN.nat (n:=0) (by decide)
  | false=>
   rw[he] at h8
   have h8:((m.tree.1.length:Int)==4&&(kA m.tree.1 1023&&inB m.tree.2.1 0 1023))=true:=h8
   simp only[Bool.and_eq_true] at h8
   exact InN.of h8.2.2 (by decide)
 ·obtain⟨i,hi,rfl⟩:=gN hx
  have:=bJ.1 h4 i hi
  unfold w7 at this
  simp only[Bool.and_eq_true] at this
  exact InN.of this.1 (by decide)
 ·obtain⟨i,hi,rfl⟩:=gN hf
  have:=pZ h11 hi
  unfold InN;rw[aQ,aQ];omega
theorem kU(ns:List aH):(cQ ns).length<=ns.length*5:=by
 unfold cQ;rw[<- cA];exact cT λi hi=>aX _
theorem AS{m:MsgT}(h:MsgR m):(dT m).length<=500:=by
 have h1:=kU (eZ m);have h2:=kU m.tree.1;have h3:=kU m.vec;have h4:=kU m.leaves
 have h5:=nF ((aM _).1 h.part)
 have h6:(m.marks.flatMap aV).length<=m.marks.length*10:=by rw[<- cA];exact cT λi hi=>fF _
 have n1:=aX (m.tree.1.length:Int);have n2:=aX m.tree.2.1;have n3:=aX (m.vec.length:Int);have n4:=aX (m.leaves.length:Int)
 have n5:=aX (((bG m.part).length:Nat):Int);have n6:=aX (m.marks.length:Int)
 have l1:=h.tree.1;have l2:=h.vec.1;have l3:=h.leaves.1;have l4:=h.marks.1
 have l5:(eZ m).length=5:=rfl
 have l6:rk2.length=2:=rfl
 unfold dT cY rX
 simp only[List.length_append]
 dsimp only[MsgT.tree] at*
 omega
theorem AQ{m:MsgT}(h:dM m=true):(cJ m).length<=504:=by
 have:=AS (nY h)
 unfold cJ;rw[List.length_append,mN];omega
def aY(m:MsgT):List aH:=bif dM m then cJ m else[]
theorem pW(m:MsgT):ByL (aY m):=by
 unfold aY;cases dM m with
 | true=>exact LO m
 | false=>exact λx hx=>by cases hx
theorem DH(m:MsgT):(aY m).length<=504:=by
 unfold aY;cases h:dM m with
 | true=>exact AQ h
 | false=>exact Nat.zero_le _
-- the reader of messages, by the ways of reading lists
def mR(b:List aH):RdT:=(b.take (b.length - 4),2,false,())
section
variable (N:Int->RdT->List aH×RdT) (r:RdT)
def mgA:List aH×RdT:=N 4 (rdK r 5)
def mgB:Int×RdT:=aI (mgA N r).2
def mgC:List aH×RdT:=N 5 (mgB N r).2
def mgD:List aH×RdT:=N 4 (mgC N r).2
def mgE:Int×RdT:=aI (mgD N r).2
def lB:Bool:=(mgE N r).2.2.2.1||decide ((mgE N r).1>(((mgE N r).2.1.length:Nat):Int) - (mgE N r).2.2.1)
def eP:List aH:=((mgE N r).2.1.take ((mgE N r).2.2.1+(mgE N r).1).toNat).drop (mgE N r).2.2.1.toNat
def mgR:RdT:=((mgE N r).2.1,(mgE N r).2.2.1+(mgE N r).1,(mgE N r).2.2.2.1,())
def mgM(s:aD)(fs:List aK):MsgT:=(rdV r 0,rdV r 1,rdV r 2,rdV r 3,rdV r 4,(mgA N r).1,(mgB N r).1,(mgC N r).1,(mgD N r).1,s.1,s.2.1,fs,())
end
def IC(N:Int->RdT->List aH×RdT):Prop:=∀ (k:Int) (ns:List aH),(ns.length:Int)<=k->k<=5->(∀ x∈ns,InN x.1)->kM (N k) (cY ns) ns
def NI(k:Int)(r:RdT):List aH×RdT:=kI r k
def NS(k:Int)(r:RdT):List aH×RdT:=cK r 1
theorem MP:IC NI:=λk ns hl hk h b u v hb=>by
 unfold cY at hb ⊢
 have h1:=qY (InN.nat (show ns.length<=2147483647 by omega)) hl b u (cQ ns++v) (by rw[hb];simp only[List.append_assoc])
 have h2:=nR (f:=vM) (xs:=ns) (e:=λx=>aG x.1) (λx hx=>GV (h x hx)) b (u++aG (ns.length:Int)) v (by rw[hb];simp only[List.append_assoc];rfl)
 show kI _ k=_
 unfold kI
 have h1:eA (b,(u.length:Int),false,()) k=_:=h1
 rw[h1]
 show cD vM _ ((ns.length:Int)).toNat=_
 rw[Int.toNat_natCast]
 exact h2.trans (by rw[List.append_assoc];rfl)
theorem MO:IC NS:=λk ns hl hk h=>wS (t:=1) (by omega) (by omega) h
theorem ND{N:Int->RdT->List aH×RdT}(hN:IC N){m:MsgT}(h:MsgR m){b:List aH}(hb:b=dT m):
  lB N (b,2,false,())=false/\eP N (b,2,false,())=bG m.part/\mgM N (b,2,false,()) m.part m.marks=m/\
  ∃ u:List aH,b=u++(rX m.marks++[])/\mgR N (b,2,false,())=(b,(u.length:Int),false,()):=by
 have h0:((b,2,false,()):RdT)=(b,(rk2.length:Int),false,()):=rfl
 rw[h0]
 have hb:=hb
 unfold dT at hb
 have c0:=mQ (ns:=eZ m) h.head hb 5 (Nat.le_refl _)
 rw[show(eZ m).take 5=eZ m from rfl] at c0
 have v0:=vH (ns:=eZ m) h.head hb
 have c1:mgA N (b,(rk2.length:Int),false,())=_:=(congrArg (N 4) c0).trans (hN 4 m.tree.1 (by have:=h.tree.1;omega) (by decide) h.tree.2 b _ _ (by rw[hb];simp only[List.append_assoc];rfl))
 have c2:mgB N (b,(rk2.length:Int),false,())=_:=(congrArg (λq:List aH×RdT=>aI q.2) c1).trans (gW h.root b _ _ (by rw[hb];simp only[List.append_assoc];rfl))
 have c3:mgC N (b,(rk2.length:Int),false,())=_:=(congrArg (λq:Int×RdT=>N 5 q.2) c2).trans (hN 5 m.vec (by have:=h.vec.1;omega) (by decide) h.vec.2 b _ _ (by rw[hb];simp only[List.append_assoc];rfl))
 have c4:mgD N (b,(rk2.length:Int),false,())=_:=(congrArg (λq:List aH×RdT=>N 4 q.2) c3).trans (hN 4 m.leaves (by have:=h.leaves.1;omega) (by decide) h.leaves.2 b _ _ (by rw[hb];simp only[List.append_assoc];rfl))
 have hl:=nF ((aM _).1 h.part)
 have c5:mgE N (b,(rk2.length:Int),false,())=_:=(congrArg (λq:List aH×RdT=>aI q.2) c4).trans (gW (x:=(((bG m.part).length:Nat):Int)) (InN.nat (by omega)) b _ _ (by rw[hb];simp only[List.append_assoc];rfl))
 generalize hu:rk2++cQ (eZ m)++cY m.tree.1++aG m.tree.2.1++cY m.vec++cY m.leaves++aG (((bG m.part).length:Nat):Int)=U at c5
 have hb2:b=U++(bG m.part++rX m.marks):=by rw[hb,<- hu];simp only[List.append_assoc]
 have hbl:b.length=U.length+((bG m.part).length+(rX m.marks).length):=by rw[hb2,List.length_append,List.length_append]
 refine⟨?_,?_,?_,U++bG m.part,?_,?_⟩
 ·unfold lB;rw[c5]
  show(false||decide ((((bG m.part).length:Nat):Int)>(b.length:Int) - (U.length:Int)))=false
  rw[decide_eq_false (by omega)];rfl
 ·unfold eP;rw[c5]
  show(b.take ((U.length:Int)+(((bG m.part).length:Nat):Int)).toNat).drop ((U.length:Int)).toNat=_
  rw[show((U.length:Int)+(((bG m.part).length:Nat):Int)).toNat=U.length+(bG m.part).length by omega,Int.toNat_natCast,hb2]
  exact sB _ _ _
 ·unfold mgM;rw[c1,c2,c3,c4,v0 0 (show 0<5 by omega),v0 1 (show 1<5 by omega),v0 2 (show 2<5 by omega),v0 3 (show 3<5 by omega),v0 4 (show 4<5 by omega)];rfl
 ·rw[hb2];simp only[List.append_assoc,List.append_nil]
 ·unfold mgR;rw[c5]
  show(b,(U.length:Int)+(((bG m.part).length:Nat):Int),false,())=_
  rw[List.length_append,Int.natCast_add]
-- the program's reader of messages
def miC(b:List aH):Int×RdT:=eA (mgR NI (mR b)) 5
def miF(b:List aH):List aK×RdT:=cD dJ (miC b).2 (miC b).1.toNat
def miM(b:List aH)(s:aD):MsgT:=mgM NI (mR b) s (miF b).1
def dE(b:List aH):Option MsgT:=bif decide (i64.wrap ((b.length:Int) - 4)<2)then none else bif !bN (b.take 2) rk2 then none else bif lB NI (mR b)then none else
 match bS (eP NI (mR b))with
 | none=>none
 | some s=>bif(miF b).2.2.2.1||(!dM (miM b s)|| !bN (aY (miM b s)) b)then none else some (miM b s)
-- the reference's
def msF(b:List aH):List aK×RdT:=flR (mgR NS (mR b))
def msM(b:List aH):MsgT:=mgM NS (mR b) ((bS (eP NS (mR b))).getD iC) (msF b).1
def fD(b:List aH):Option MsgT:=bif decide ((b.length:Int)<6)then none else bif !bN (pL (b.take (b.length - 4))) (b.drop (b.length - 4))then none else bif lB NS (mR b)then none else
 bif(bS (eP NS (mR b))).isNone||((msF b).2.2.2.1||(!dM (msM b)|| !bN (aY (msM b)) b))then none else some (msM b)
theorem BV{b:List aH}{m:MsgT}(h:dE b=some m):dM m=true/\bN (aY m) b=true:=by
 unfold dE at h
 cases h1:decide (i64.wrap ((b.length:Int) - 4)<2)with
 | true=>rw[h1] at h;cases h
 | false=>
  rw[h1] at h
  cases h2: !bN (b.take 2) rk2 with
  | true=>rw[h2] at h;cases h
  | false=>
   rw[h2] at h
   cases h3:lB NI (mR b)with
   | true=>rw[h3] at h;cases h
   | false=>
    rw[h3] at h
    cases h4:bS (eP NI (mR b))with
    | none=>rw[h4] at h;cases h
    | some s=>
     rw[h4] at h
     obtain⟨h5,h6⟩:=uX h
     subst h6
     simp only[Bool.or_eq_false_iff,Bool.not_eq_false'] at h5
     exact h5.2
theorem KJ{b:List aH}{m:MsgT}(h:fD b=some m):dM m=true/\bN (aY m) b=true:=by
 unfold fD at h
 cases h1:decide ((b.length:Int)<6)with
 | true=>rw[h1] at h;cases h
 | false=>
  rw[h1] at h
  cases h2: !bN (pL (b.take (b.length - 4))) (b.drop (b.length - 4))with
  | true=>rw[h2] at h;cases h
  | false=>
   rw[h2] at h
   cases h3:lB NS (mR b)with
   | true=>rw[h3] at h;cases h
   | false=>
    rw[h3] at h
    obtain⟨h5,h6⟩:=uX h
    subst h6
    simp only[Bool.or_eq_false_iff,Bool.not_eq_false'] at h5
    exact h5.2.2
theorem AR(m:MsgT):(cJ m).length - 4=(dT m).length/\(cJ m).take ((cJ m).length - 4)=dT m/\(cJ m).drop ((cJ m).length - 4)=pL (dT m):=by
 have e:(cJ m).length - 4=(dT m).length:=by unfold cJ;rw[List.length_append,mN];omega
 rw[e]
 exact⟨rfl,List.take_left' rfl,List.drop_left' rfl⟩
theorem CK(m:MsgT):2<=(dT m).length:=by unfold dT;rw[List.length_append];exact Nat.le_add_right 2 _
theorem G0{m:MsgT}(h:dM m=true):dE (cJ m)=some m:=by
 have hr:=nY h
 obtain⟨p1,p2,p3⟩:=AR m
 have h2:=CK m
 have hl:=AQ h
 obtain⟨q1,q2,q3,u,q4,q5⟩:=ND MP hr rfl
 have e:mR (cJ m)=(dT m,2,false,()):=by unfold mR;rw[p2]
 have ht:(cJ m).take 2=rk2:=by unfold cJ dT;rw[List.append_assoc];exact List.take_left' rfl
 have c1:miC (cJ m)=_:=(congrArg (λr:RdT=>eA (mgR NI r) 5) e).trans ((congrArg (λr:RdT=>eA r 5) q5).trans
  (qY (m:=5) (InN.nat (show m.marks.length<=2147483647 by have:=hr.marks.1;omega)) (by have:=hr.marks.1;omega) (dT m) u (m.marks.flatMap aV++[]) (q4.trans (by unfold rX;simp only[List.append_assoc]))))
 have c2:miF (cJ m)=(m.marks,(dT m,(((u++aG (m.marks.length:Int)++m.marks.flatMap aV).length:Nat):Int),false,())):=by
  unfold miF;rw[c1]
  show cD dJ _ ((m.marks.length:Int)).toNat=_
  rw[Int.toNat_natCast]
  exact nR (xC hr.marks.2) (dT m) _ [] (q4.trans (by unfold rX;simp only[List.append_assoc]))
 have c3:miM (cJ m) m.part=m:=by unfold miM;rw[c2,e];exact q3
 have hw:i64.wrap ((((cJ m).length:Nat):Int) - 4)=(((cJ m).length:Nat):Int) - 4:=by rw[IntKind.wrap_i64];omega
 unfold dE
 rw[hw,decide_eq_false (show ¬ ((((cJ m).length:Nat):Int) - 4<2) by omega),ht,fU,e,q1,q2,kO hr.part]
 show(bif(miF (cJ m)).2.2.2.1||(!dM (miM (cJ m) m.part)|| !bN (aY (miM (cJ m) m.part)) (cJ m))then none else some (miM (cJ m) m.part))=some m
 rw[c3,c2,h,show aY m=cJ m by unfold aY;rw[h];rfl,fU];rfl
theorem GZ{m:MsgT}(h:dM m=true):fD (cJ m)=some m:=by
 have hr:=nY h
 obtain⟨p1,p2,p3⟩:=AR m
 have h2:=CK m
 obtain⟨q1,q2,q3,u,q4,q5⟩:=ND MO hr rfl
 have e:mR (cJ m)=(dT m,2,false,()):=by unfold mR;rw[p2]
 have c2:msF (cJ m)=(m.marks,(dT m,(((u++rX m.marks).length:Nat):Int),false,())):=by
  unfold msF;rw[e,q5]
  exact CD (show m.marks.length<=100 by have:=hr.marks.1;omega) hr.marks.2 (dT m) u [] q4
 have c3:msM (cJ m)=m:=by unfold msM;rw[c2,e,q2,kO hr.part];exact q3
 unfold fD
 rw[decide_eq_false (show ¬ ((((cJ m).length:Nat):Int)<6) by omega),p2,p3,fU,c3,c2,e,q1,q2,kO hr.part,h,show aY m=cJ m by unfold aY;rw[h];rfl,fU];rfl
theorem lV{m:MsgT}(h:dM m=true):aY m=cJ m:=by unfold aY;rw[h];rfl
theorem QH{b:List aH}(hb:ByL b):fD b=dE b:=by
 cases h:dE b with
 | some m=>
  obtain⟨h1,h2⟩:=BV h
  have e:=(lZ (pW m) hb).1 h2
  rw[<- e,lV h1];exact GZ h1
 | none=>
  cases h2:fD b with
  | none=>rfl
  | some m=>
   obtain⟨h3,h4⟩:=KJ h2
   have e:=(lZ (pW m) hb).1 h4
   rw[<- e,lV h3,G0 h3] at h;cases h
end Go.Abs
