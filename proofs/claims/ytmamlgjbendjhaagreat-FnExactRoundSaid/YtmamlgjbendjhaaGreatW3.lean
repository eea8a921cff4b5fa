/- A by-value reading of the model, and its soundness, part 3. -/
import Derived.Test.YtmamlgjbendjhaaGreatW2
set_option linter.unusedVariables false
/- Plain laws: joins, what was said, what lies beneath, what is over. -/
open Go.IntKind (i64)
namespace Go.Abs
theorem y9(a b:Int):l2 b a= - l2 a b:=by
 unfold l2
 rcases Int.lt_trichotomy a b with h | h | h
 ·rw[decide_eq_true h,decide_eq_false (by omega:¬ b<a)];rfl
 ·subst h;rw[decide_eq_false (by omega:¬ a<a)];rfl
 ·rw[decide_eq_true h,decide_eq_false (by omega:¬ a<b)];rfl
theorem xZ:∀ x y:List UInt8,Lib.compareBytes y x= - Lib.compareBytes x y
 | [],[]=>rfl
 | [],_::_=>rfl
 | _::_,[]=>rfl
 | a::x,b::y=>by
  unfold Lib.compareBytes
  by_cases h1:a<b
  ·have h2:¬ b<a:=fun h=>by rw[UInt8.lt_iff_toNat_lt] at h h1;omega
   simp[h1,h2]
  ·by_cases h2:b<a
   ·simp[h1,h2]
   ·simp[h1,h2,xZ x y]
theorem uL(x y:Int):(if -x≠0 then -x else -y)= -(if x≠0 then x else y):=by
 by_cases h:x=0
 ·subst h;simp
 ·rw[if_pos h,if_pos (by omega)]
theorem BA(a b:dL):jB b a= - jB a b:=by
 unfold jB
 rw[y9 a.1 b.1,y9 a.2.1 b.2.1,y9 a.2.2.1 b.2.2.1,y9 a.2.2.2.1 b.2.2.2.1,show rY b.2.2.2.2.1 a.2.2.2.2.1= - rY a.2.2.2.2.1 b.2.2.2.2.1 from xZ _ _,uL,uL,uL,uL]
theorem xW{y:dL}(h:1≤y.1):jB eN y= -1:=by
 have e:l2 eN.1 y.1= -1:=by
  unfold l2;rw[decide_eq_true (show eN.1<y.1 from by show(0:Int)<y.1;omega)];rfl
 unfold jB;rw[e];rfl
def orZ(z:Int)(ls:List bB):Int:=match (List.range ls.length).find? (fun i=>(gt ls i).1 != 0)with
 | some i=>(gt ls i).1
 | none=>z
theorem AK(z:Int)(ls:List bB):orZ z ls=(match ls.find? (fun x:bB=>x.1 != 0)with | some x=>x.1 | none=>z):=by
 have h:=mP (fun x:bB=>x.1 != 0) (fun x:bB=>x.1) z ls
 unfold orZ
 cases h1:(List.range ls.length).find? (fun i=>(gt ls i).1 != 0)<;>cases h2:ls.find? (fun x:bB=>x.1 != 0)<;>simp only[h1,h2] at h ⊢<;>exact h
theorem qL(z x:Int)(ls:List bB):orZ z ((x,())::ls)=if x≠0 then x else orZ z ls:=by
 rw[AK,AK,List.find?_cons]
 by_cases h:x=0
 ·subst h;rfl
 ·have:((x,()):bB).1 != 0:=by simpa using h
  rw[this,if_pos h]
def A3(a b:dL):List bB:=[(l2 a.1 b.1,()),(l2 a.2.1 b.2.1,()),(l2 a.2.2.1 b.2.2.1,()),(l2 a.2.2.2.1 b.2.2.2.1,())]
theorem F4(a b:dL):orZ (rY a.2.2.2.2.1 b.2.2.2.2.1) (A3 a b)=jB a b:=by
 unfold A3 jB
 rw[qL,qL,qL,qL];rfl
theorem E0(x y:ByteArray):(bif Op.bytesLess (ByteArray.toList x) (ByteArray.toList y)then(-1:Int)else E6 (!(Op.bytesLess (ByteArray.toList x) (ByteArray.toList y)||ByteArray.toList x==ByteArray.toList y)))=rY x y:=by
 rw[ByteArray.toList_eq,ByteArray.toList_eq];exact xV _ _
/-- The cells of a state that a join leans on. -/
structure Pos (s:aM):Prop where
 item:∀ x∈s.1,1≤x.2.1
 floor:∀ f∈s.2.1,0≤f.2.1
theorem StateOk.pos{s:aM}(h:StateOk s):Pos s where
 item x hx:=by
  have:=(h.item x hx).2.1
  unfold eL at this;simp only[Bool.and_eq_true,bH] at this;omega
 floor f hf:=by have:=(h.floor f hf).2;rw[bH] at this;omega
def mxE(a b:dL):dL:=bif decide (jB a b<0)then b else a
def fH(a b:aM)(i:Int):dL:=mxE (bE a i).1 (bE b i).1
def flr(a b:aM)(i:Int):Int:=mxI true (cX a.2.1 i) (cX b.2.1 i)
def c5(a b:aM)(i:Nat):List cE:=bif decide ((fH a b i).1>flr a b i)then[((i:Int),fH a b i)] else[]
def cM(a b:aM)(i:Nat):List aY:=bif decide (flr a b i>0)then[((i:Int),flr a b i,())] else[]
def eQ(a b:aM):aM:=(bI 5 (c5 a b),bI 5 (cM a b),())
theorem oJ(a b:aM)(i:Nat):(c5 a b i).length≤1:=by unfold c5;cases decide ((fH a b i).1>flr a b i)<;>simp
theorem mM(a b:aM)(i:Nat):(cM a b i).length≤1:=by unfold cM;cases decide (flr a b i>0)<;>simp
theorem oE(a b:aM):(eQ a b).1.length≤5∧(eQ a b).2.1.length≤5:=
 ⟨c8 (n:=5) (L:=1) fun i _=>oJ a b i,c8 (n:=5) (L:=1) fun i _=>mM a b i⟩
theorem kK(a b:aM):SzS (eQ a b):=⟨Nat.le_trans (oE a b).1 (by decide),Nat.le_trans (oE a b).2 (by decide)⟩
theorem J4{a b:aM}(ha:Pos a)(i:Int):0≤flr a b i:=by
 have h:0≤cX a.2.1 i:=by
  rcases lD a i with ⟨x,hx,_,e⟩ | ⟨_,e⟩
  ·rw[e];exact ha.floor x hx
  ·omega
 unfold flr mxI;simp only[if_true];split<;>omega
theorem GA:mxE eN eN=eN:=by
 unfold mxE;cases decide (jB eN eN<0)<;>rfl
theorem H7{a b:aM}{i:Int}(ha:bE a i=(eN,false))(hb:bE b i=(eN,false)):fH a b i=eN:=by
 unfold fH;rw[ha,hb];exact GA
theorem uC{a b:aM}{i:Int}{y:dL}(ha:bE a i=(eN,false))(hb:bE b i=(y,true))(hy:1≤y.1):fH a b i=y:=by
 unfold fH mxE;rw[ha,hb];rw[show jB (eN,false).1 (y,true).1= -1 from xW hy];rfl
theorem uB{a b:aM}{i:Int}{x:dL}(ha:bE a i=(x,true))(hb:bE b i=(eN,false))(hx:1≤x.1):fH a b i=x:=by
 unfold fH mxE;rw[ha,hb];rw[show jB (x,true).1 (eN,false).1=1 from by rw[show jB (x,true).1 (eN,false).1= - jB eN x from BA eN x,xW hx];rfl];rfl
theorem C3{a b:aM}{i:Int}{x y:dL}(ha:bE a i=(x,true))(hb:bE b i=(y,true)):fH a b i=bif decide (jB y x>0)then y else x:=by
 unfold fH mxE;rw[ha,hb]
 show(bif decide (jB x y<0)then y else x)=_
 rw[show decide (jB x y<0)=decide (jB y x>0)from ?_]
 rw[BA x y]
 by_cases h:jB x y<0
 ·rw[decide_eq_true h,decide_eq_true (by omega)]
 ·rw[decide_eq_false h,decide_eq_false (by omega)]
theorem gK{a b:aM}{i:Nat}{e:dL}(he:fH a b i=e)(h:e.1>flr a b i):c5 a b i=[((i:Int),e)]:=by
 unfold c5;rw[he,decide_eq_true h];rfl
theorem fL{a b:aM}{i:Nat}{e:dL}(he:fH a b i=e)(h:¬ e.1>flr a b i):c5 a b i=[]:=by
 unfold c5;rw[he,decide_eq_false h];rfl
theorem pK{a b:aM}{i:Nat}(h:flr a b i>0):cM a b i=[((i:Int),flr a b i,())]:=by
 unfold cM;rw[decide_eq_true h];rfl
theorem pL{a b:aM}{i:Nat}(h:¬ flr a b i>0):cM a b i=[]:=by
 unfold cM;rw[decide_eq_false h];rfl
theorem lQ{s:aM}(hs:Pos s)(i:Int):(∃ x:dL,1≤x.1∧bE s i=(x,true))∨bE s i=(eN,false):=by
 rcases lF s i with ⟨x,hx,_,e⟩ | ⟨_,e⟩
 ·exact .inl ⟨x.2,hs.item x hx,e⟩
 ·exact .inr e
-- less
def LG(a b:aM):Bool:=bA a&&(bA b&&DW (eQ a b) b)
-- over
def gone(s:aM)(id:Int):Int:=bif bA s then(bif(bE s id).2 then(bif(bE s id).1.2.1==0 then i64.wrap ((bE s id).1.1 - 1)else(bE s id).1.1)else cX s.2.1 id)else 0
-- what was said
def tW:aM:=([],[],())
def GR(g:Nat→aM):Nat→aM
 | 0=>tW
 | k+1=>eQ (GR g k) (g k)
theorem oD:SzS tW:=⟨Nat.zero_le _,Nat.zero_le _⟩
def BZ(w:aW)(i:Nat):aM:=(gt w.2.2.1 i).2
def LM(w:aW):aM:=bif cW w then GR (BZ w) w.2.2.1.length else tW
def GF(w:aW)(node:Int):Nat→Int
 | 0=>0
 | k+1=>GF w node k+E6 ((gt w.2.2.1 k).1==node)
def EI(w:aW)(node:Int):Int:=GF w node w.2.2.1.length
def CB(w:aW)(ls:List bB):Nat→aM
 | 0=>tW
 | k+1=>bif inB (gt ls k).1 0 (i64.wrap ((w.2.2.1.length:Int) - 1))then eQ (CB w ls k) (BZ w (gt ls k).1.toNat)else CB w ls k
def J1(w:aW)(ls:List bB):aM:=bif cW w then CB w ls ls.length else tW
def IV(w:aW)(s:aM):List bB:=bif cW w&&bA s then bI w.2.2.1.length (fun i=>bif LG (BZ w i) s then[((i:Int),())] else[])else[]
theorem J3{s:aM}(hs:bA s=true)(id:Int):gone s id=(bif(bE s id).2 then(bif(bE s id).1.2.1==1 then(bE s id).1.1 else i64.wrap ((bE s id).1.1 - 1))else cX s.2.1 id):=by
 unfold gone;rw[hs]
 rcases lF s id with ⟨x,hx,_,e⟩ | ⟨_,e⟩
 ·rw[e]
  obtain⟨i,hi,rfl⟩:=nL hx
  show(bif(gt s.1 i).2.2.1==0 then _ else _)=bif(gt s.1 i).2.2.1==1 then _ else _
  rcases H0 hs hi with h | h<;>rw[h]<;>rfl
 ·rw[e];rfl
end Go.Abs
/- Plain laws: what the judges decide. -/
namespace Go.Abs
theorem A0{s:aM}(hs:bA s=false)(id:Int):gone s id=0:=by unfold gone;rw[hs];rfl
theorem wD{β:Type}{q r:Prop}[Decidable q][Decidable r]{x y:β}(h:q)(h':r):(bif decide q&&decide r then x else y)=x:=by
 rw[decide_eq_true h,decide_eq_true h'];rfl
-- own
-- views
-- heard
-- seen
-- HW, GL, grown
def HW(w:aW):Bool:=cW w&&bZ w.1.length fun i=>DX (E8 (gt w.1 i).state) (E8 (LM w))
def JU(s:aM)(id:Int):dL×Bool:=bE (E8 s,[],()) id
def DA(w:aW)(id:Int):Nat→Int
 | 0=>0
 | k+1=>DA w id k+E6 (JU (gt w.1 k).state id).2
def GL(w:aW)(id:Int):Int:=bif cW w then DA w id w.1.length else 0
end Go.Abs
/- Plain laws: differences of views applied, and what they are. -/
namespace Go.Abs
end Go.Abs
/- Plain laws: draws. -/
namespace Go.Abs
abbrev LO:=List bB×Int×Int×Unit
structure CurOk (c:LO):Prop where
 len:c.1.length≤1048576
 lo:0≤c.2.1
 hi:c.2.1≤c.1.length
/-- A loop whose rounds are told by what they keep. -/
theorem It.ex {ι σ:Type} {lvl:Nat} {c:Nat→Nat→ι→(σ→Option Out)→σ→Option Out} (Inv:Nat→σ→Prop) (Good:Out→Prop) (N:Nat)
  (hs:∀ i x,i<N→Inv i x→∃ y,Inv (i+1) y∧∀ n,lvl≤n→∀ aA a rec,c n aA a rec x=rec y)
  (he:∀ x,Inv N x→∃ o,Good o∧∀ n,lvl≤n→It (c n) x (fun _=>some o)):∀ (m j:Nat) x,j+m=N→Inv j x→∃ o,Good o∧∀ n,lvl≤n→It (c n) x (fun _=>some o)
 | 0,j,x,hj,hx=>he x ((show j=N by omega)▸hx)
 | m+1,j,x,hj,hx=>by
  obtain⟨y,hy,h⟩:=hs j x (by omega) hx
  obtain⟨o,ho,h'⟩:=It.ex Inv Good N hs he m (j+1) y (by omega) hy
  exact⟨o,ho,fun n hn=>It.next (fun aA a rec=>h n hn aA a rec) (h' n hn)⟩
def K0:List ByteArray:=[⟨#[]⟩,⟨#[97]⟩,⟨#[98]⟩,⟨#[97,98]⟩,⟨#[49,50,51,52,53,54,55,56]⟩,⟨#[49,50,51,52,53,54,55,56,57]⟩]
def LN(e:dL):Prop:=e.2.2.2.2.1∈K0
structure StD (k:Nat) (s:aM):Prop where
 a:s.1.length≤k
 b:s.2.1.length≤k
 data:∀ x∈s.1,LN x.2
theorem StD.sz{k:Nat}{s:aM}(h:StD k s)(hk:k≤1048576):SzS s:=⟨Nat.le_trans h.a hk,Nat.le_trans h.b hk⟩
theorem nZ{α:Type}{n:Nat}{g:Nat→List α}{x:α}(h:x∈bI n g):∃ i,i<n∧x∈g i:=by
 induction n with
 | zero=>exact(List.not_mem_nil h).elim
 | succ n ih=>
  rw[dQ] at h
  rcases List.mem_append.1 h with h | h
  ·obtain⟨i,hi,hx⟩:=ih h;exact⟨i,by omega,hx⟩
  ·exact⟨n,by omega,h⟩
/-- The loop of a new cursor, and what comes behind it. -/
theorem It.new {lvl:Nat} {c:Nat→Nat→Unit→(Int×Int→Option Out)→Int×Int→Option Out} (Good:Out→Prop) (b:List bB) (hb:b.length≤1048576)
  (hs:∀ (i:Nat) (h:Int),i<b.length→i<4000→∃ h',∀ n,lvl≤n→∀ aA a rec,c n aA a rec (h,(i:Int))=rec (h',((i+1:Nat):Int)))
  (he:∀ (h i:Int),CurOk (b,0,h,())→(¬ i<(b.length:Int)∨¬ i<4000)→∃ o,Good o∧∀ n,lvl≤n→∃ M,∀ aA,M≤aA→∀ a rec,c n aA a rec (h,i)=some o) (h0:Int):
  ∃ o,Good o∧∀ n,lvl≤n→It (c n) (h0,(0:Int)) (fun _=>some o):=by
 refine It.ex (fun i y=>∃ h,y=(h,(i:Int))) Good (min b.length 4000) ?_ ?_ (min b.length 4000) 0 (h0,(0:Int)) (by omega) ⟨h0,rfl⟩
 ·rintro i y hi ⟨h,rfl⟩
  obtain⟨h',hh⟩:=hs i h (by omega) (by omega)
  exact⟨_,⟨h',rfl⟩,hh⟩
 ·rintro y ⟨h,rfl⟩
  obtain⟨o,ho,hh⟩:=he h ((min b.length 4000:Nat):Int) ⟨hb,by show(0:Int)≤0;omega,by show(0:Int)≤(b.length:Int);omega⟩ (by omega)
  refine⟨o,ho,fun n hn=>?_⟩
  obtain⟨M,hM⟩:=hh n hn
  refine⟨M+1,fun aA k hf hk a=>?_⟩
  obtain⟨k,rfl⟩:∃ k',k=k'+1:=⟨k - 1,by omega⟩
  exact hM aA (by omega) a _
end Go.Abs
-- marks, tables, taking and receiving: plain laws
namespace Go.Abs
abbrev MsgT:=Int×Int×Int×Int×Int×List bB×Int×List bB×List bB×List cE×List aY×List aY×Unit
abbrev MsgT.hi(m:MsgT):Int:=m.2.2.2.2.1
abbrev MsgT.tree(m:MsgT):jZ:=(m.2.2.2.2.2.1,m.2.2.2.2.2.2.1,())
abbrev MsgT.vec(m:MsgT):List bB:=m.2.2.2.2.2.2.2.1
abbrev MsgT.leaves(m:MsgT):List bB:=m.2.2.2.2.2.2.2.2.1
abbrev MsgT.part(m:MsgT):aM:=(m.2.2.2.2.2.2.2.2.2.1,m.2.2.2.2.2.2.2.2.2.2.1,())
abbrev MsgT.marks(m:MsgT):List aY:=m.2.2.2.2.2.2.2.2.2.2.2.1
structure SzM (m:MsgT):Prop where
 leaves:m.tree.1.length≤aX
 vec:m.vec.length≤aX
 list:m.leaves.length≤aX
 part:SzS m.part
 marks:m.marks.length≤aX
theorem AN(a b:Int):mxI true a b=max a b:=by unfold mxI;simp only[if_true];split<;>omega
theorem C5(a b:Int):mxI false a b=min a b:=by unfold mxI;simp only[Bool.false_eq_true,if_false];split<;>omega
-- lists in order
theorem oM{α:Type}{k:α→Int}{g:Nat→List α}(h1:∀ i,(g i).length≤1)(h:∀ i,∀ x∈g i,k x=(i:Int)):∀ n,(bI n g).Pairwise (fun x y=>k x<k y)
 | 0=>by rw[sN];exact List.Pairwise.nil
 | n+1=>by
  rw[dQ,List.pairwise_append]
  refine⟨oM h1 h n,?_,fun x hx y hy=>?_⟩
  ·match hg:g n with
   | []=>exact List.Pairwise.nil
   | [x]=>exact List.pairwise_singleton _ _
   | x::y::t=>have:=h1 n;rw[hg] at this;simp at this
  ·obtain⟨i,hi,hx⟩:=nZ hx
   rw[h i x hx,h n y hy];omega
theorem pN{s:aM}(h:StateOk s)(i:Int):0≤cX s.2.1 i∧cX s.2.1 i≤1000:=by
 rcases lD s i with ⟨x,hx,_,e⟩ | ⟨_,e⟩
 ·have:=(h.floor x hx).2;rw[bH] at this;rw[e];omega
 ·rw[e];omega
theorem pP{s:aM}(h:StateOk s)(i:Int):(bE s i).1=eN∨eL (bE s i).1=true:=by
 rcases lF s i with ⟨x,hx,_,e⟩ | ⟨_,e⟩
 ·rw[e];exact .inr (h.item x hx).2.1
 ·rw[e];exact .inl rfl
theorem F2{a b:aM}(ha:StateOk a)(hb:StateOk b)(i:Int):fH a b i=eN∨eL (fH a b i)=true:=by
 unfold fH mxE
 cases decide (jB (bE a i).1 (bE b i).1<0)with
 | true=>exact pP hb i
 | false=>exact pP ha i
theorem G4{a b:aM}(ha:StateOk a)(hb:StateOk b)(i:Int):0≤flr a b i∧flr a b i≤1000:=by
 have h1:=pN ha i
 have h2:=pN hb i
 unfold flr;rw[AN];omega
theorem xO{a b:aM}{i:Nat}{x:cE}(h:x∈c5 a b i):x=((i:Int),fH a b i)∧(fH a b i).1>flr a b i:=by
 unfold c5 at h
 cases hd:decide ((fH a b i).1>flr a b i)with
 | false=>rw[hd] at h;cases h
 | true=>rw[hd] at h;exact⟨List.mem_singleton.1 h,of_decide_eq_true hd⟩
theorem pM{a b:aM}{i:Nat}{x:aY}(h:x∈cM a b i):x=((i:Int),flr a b i,())∧flr a b i>0:=by
 unfold cM at h
 cases hd:decide (flr a b i>0)with
 | false=>rw[hd] at h;cases h
 | true=>rw[hd] at h;exact⟨List.mem_singleton.1 h,of_decide_eq_true hd⟩
theorem y2{i:Nat}(h:i<5):fX (i:Int)=true:=by unfold fX;rw[bH];omega
theorem StateOk.join{a b:aM}(ha:StateOk a)(hb:StateOk b):StateOk (eQ a b) where
 item x hx:=by
  obtain⟨i,hi,hx⟩:=nZ hx
  obtain⟨rfl,hg⟩:=xO hx
  have hf:=G4 ha hb (i:Int)
  refine⟨y2 hi,?_,?_⟩
  ·rcases F2 ha hb (i:Int)with e | e
   ·rw[e] at hg;have h0:(0:Int)>flr a b i:=hg;omega
   ·exact e
  ·show cX (eQ a b).2.1 (i:Int)<(fH a b i).1
   rcases lD (eQ a b) (i:Int)with ⟨f,hf',e1,e⟩ | ⟨_,e⟩
   ·obtain⟨j,_,hf'⟩:=nZ hf'
    obtain⟨rfl,_⟩:=pM hf'
    have:(j:Int)=(i:Int):=e1
    rw[e];show flr a b (j:Int)<_;rw[this];omega
   ·rw[e];omega
 items:=oM (k:=fun x:cE=>x.1) (oJ a b) (fun i x hx=>by rw[(xO hx).1]) 5
 floor f hf:=by
  obtain⟨i,hi,hf⟩:=nZ hf
  obtain⟨rfl,hg⟩:=pM hf
  have:=G4 ha hb (i:Int)
  refine⟨y2 hi,?_⟩
  rw[bH];show 1≤flr a b i∧flr a b i≤1000;omega
 floors:=oM (k:=fun x:aY=>x.1) (mM a b) (fun i x hx=>by rw[(pM hx).1]) 5
theorem qP{a b:aM}(ha:bA a=true)(hb:bA b=true):bA (eQ a b)=true:=
 (bK _).2 (((bK _).1 ha).join ((bK _).1 hb))
theorem uJ:bA tW=true:=rfl
-- marks
def eK(ms:List aY):Bool:=bZ ms.length (eS ms)
def AQ(ms:List aY):Bool:=bZ ms.length (gU ms)
theorem EH(ms:List aY):AQ ms=eK ms:=kN fun i hi=>by unfold gU eS;ac_rfl
def i8(s:aM)(i:Nat):List aY:=bif decide (gone s i>0)then[((i:Int),gone s i,())] else[]
def fQ(s:aM):List aY:=bI 5 (i8 s)
theorem pI(s:aM)(i:Nat):(i8 s i).length≤1:=by unfold i8;cases decide (gone s i>0)<;>simp
theorem hY(s:aM):(fQ s).length≤5:=c8 (n:=5) (L:=1) fun i _=>pI s i
theorem IK(s:aM)(i:Int):gone s i≤1000:=by
 cases hs:bA s with
 | false=>rw[A0 hs];omega
 | true=>
  have h:=(bK s).1 hs
  have hf:=pN h i
  unfold gone;rw[hs]
  show(bif(bE s i).2 then _ else _)≤(1000:Int)
  cases h2:(bE s i).2 with
  | false=>exact hf.2
  | true=>
   have he:(bE s i).1.1≤1000∧0≤(bE s i).1.1:=by
    rcases pP h i with e | e
    ·rw[e];show(0:Int)≤1000∧(0:Int)≤0;omega
    ·unfold eL at e;simp only[Bool.and_eq_true,bH] at e;omega
   show(bif(bE s i).1.2.1==0 then i64.wrap ((bE s i).1.1 - 1)else(bE s i).1.1)≤1000
   cases (bE s i).1.2.1==0 with
   | false=>exact he.1
   | true=>show i64.wrap ((bE s i).1.1 - 1)≤1000;rw[IntKind.wrap_i64];omega
theorem EW{fs:List aY}(g:Nat→List aY)(he:fs=bI 5 g)(h1:∀ i,(g i).length≤1)(h:∀ i,∀ x∈g i,x.1=(i:Int)∧1≤x.2.1∧x.2.1≤1000):StateOk ([],fs,()) where
 item x hx:=by cases hx
 items:=List.Pairwise.nil
 floor f hf:=by
  have hf:f∈fs:=hf
  rw[he] at hf
  obtain⟨i,hi,hf⟩:=nZ hf
  obtain⟨e,h2,h3⟩:=h i f hf
  exact⟨by rw[e];exact y2 hi,bH.2 ⟨h2,h3⟩⟩
 floors:=by
  show fs.Pairwise _
  rw[he];exact oM (k:=fun x:aY=>x.1) h1 (fun i x hx=>(h i x hx).1) 5
theorem vM{ms:List aY}(h:eK ms=true){i:Nat}(hi:i<ms.length):0≤(gt ms i).1∧(gt ms i).1≤4∧1≤(gt ms i).2.1∧(gt ms i).2.1≤1000:=by
 unfold eK at h
 have:=cG.1 h i hi
 unfold eS fX at this
 simp only[Bool.and_eq_true,bH] at this
 omega
-- tables
def BV(r:cV)(f:aY):cV:=(r.1.set f.1.toNat (mxI true (gt r.1 f.1.toNat).1 f.2.1,()),())
def tT(r:cV)(ms:List aY):Nat→cV
 | 0=>r
 | i+1=>BV (tT r ms i) (gt ms i)
def sM(t:List cV)(k:Int)(ms:List aY):Bool:=inB k 0 (i64.wrap ((t.length:Int) - 1))&&(eK ms&& !decide ((((gt t k.toNat).1.length:Nat):Int)<5))
def cC(t:List cV)(k:Nat)(ms:List aY)(i:Nat):List cV:=t.set k (tT (gt t k) ms i)
def bN(t:List cV)(k:Int)(ms:List aY):List cV:=bif sM t k ms then cC t k.toNat ms ms.length else t
theorem lU(r:cV)(ms:List aY):∀ i,(tT r ms i).1.length=r.1.length
 | 0=>rfl
 | i+1=>by show(List.set _ _ _).length=_;rw[List.length_set];exact lU r ms i
theorem dG{α:Type}[Inhabited α]{xs:List α}{i:Nat}(h:i<xs.length)(x:α):gt (xs.set i x) i=x:=by
 rw[eX (by rw[List.length_set];exact h)];simp
theorem eD{α:Type}[Inhabited α]{xs:List α}{i j:Nat}(h:i≠j)(x:α):gt (xs.set i x) j=gt xs j:=by
 unfold gt;simp[h]
theorem yM{α:Type}[Inhabited α]{xs:List α}{i:Nat}:xs.set i (gt xs i)=xs:=by
 rcases Nat.lt_or_ge i xs.length with h | h
 ·rw[eX h];exact List.set_getElem_self h
 ·exact List.set_eq_of_length_le h
theorem p0(t:List cV)(k:Nat)(ms:List aY):cC t k ms 0=t:=yM
theorem eE(t:List cV)(k:Int)(ms:List aY):(bN t k ms).length=t.length:=by
 unfold bN
 cases sM t k ms with
 | false=>rfl
 | true=>show(cC _ _ _ _).length=_;unfold cC;rw[List.length_set]
theorem oG{k:Int}{n:Nat}(hn:n≤aX)(h:inB k 0 (i64.wrap ((n:Int) - 1))=true):k.toNat<n∧((k.toNat:Nat):Int)=k:=by
 rw[bH,IntKind.wrap_i64] at h;unfold aX at hn;omega
theorem iI(t:List cV)(k:Int)(ms:List aY)(j:Nat):((gt (bN t k ms) j).1.length)=(gt t j).1.length:=by
 unfold bN
 cases hb:sM t k ms with
 | false=>rfl
 | true=>
  show(gt (cC t k.toNat ms ms.length) j).1.length=_
  unfold cC
  rcases Nat.lt_or_ge k.toNat t.length with h | h
  ·by_cases e:k.toNat=j
   ·subst e;rw[dG h,lU]
   ·rw[eD e]
  ·rw[List.set_eq_of_length_le h]
theorem BH{r:cV}{ms:List aY}(hm:eK ms=true)(hr:∀ j,j<r.1.length→inB (gt r.1 j).1 0 1000=true):∀ i,i≤ms.length→∀ j,j<r.1.length→inB (gt (tT r ms i).1 j).1 0 1000=true
 | 0,_,j,hj=>hr j hj
 | i+1,hi,j,hj=>by
  have ih:=BH hm hr i (by omega)
  have hid:=vM hm (i:=i) (by omega)
  have hl:=lU r ms i
  show inB (gt (List.set (tT r ms i).1 (gt ms i).1.toNat (mxI true (gt (tT r ms i).1 (gt ms i).1.toNat).1 (gt ms i).2.1,())) j).1 0 1000=true
  by_cases e:(gt ms i).1.toNat=j
  ·subst e
   rw[dG (by omega)]
   have:=ih _ hj
   rw[bH] at this ⊢
   show 0≤mxI true _ _∧mxI true _ _≤1000
   rw[AN];omega
  ·rw[eD e];exact ih j hj
theorem sS{t:List cV}{n k:Int}{ms:List aY}(ht:gY t n=true):gY (bN t k ms) n=true:=by
 unfold gY at ht ⊢
 simp only[Bool.and_eq_true] at ht ⊢
 obtain⟨h1,h2,h3⟩:=ht
 refine⟨h1,by rw[eE];exact h2,?_⟩
 rw[eE]
 rw[cG] at h3 ⊢
 intro j hj
 have h4:=h3 j hj
 unfold pJ at h4 ⊢
 simp only[Bool.and_eq_true] at h4 ⊢
 rw[iI]
 refine⟨h4.1,?_⟩
 have h5:=cG.1 h4.2
 rw[cG]
 intro i hi
 unfold bN
 cases hb:sM t k ms with
 | false=>exact h5 i hi
 | true=>
  show inB (gt (gt (cC t k.toNat ms ms.length) j).1 i).1 0 1000=true
  unfold cC
  by_cases e:k.toNat=j
  ·subst e
   rw[dG hj]
   have hm:eK ms=true:=by unfold sM at hb;simp only[Bool.and_eq_true] at hb;exact hb.2.1
   exact BH hm h5 _ (Nat.le_refl _) i hi
  ·rw[eD e];exact h5 i hi
def iR(t:List cV)(id:Int)(k:Nat):Bool:=inB id 0 (i64.wrap ((((gt t k).1.length:Nat):Int) - 1))
def eG(t:List cV)(id:Int):Nat→Int
 | 0=>0
 | k+1=>bif(k:Int)==0 then(gt (gt t k).1 id.toNat).1 else bif decide ((gt (gt t k).1 id.toNat).1<eG t id k)then(gt (gt t k).1 id.toNat).1 else eG t id k
def gD(t:List cV)(id:Int):Int:=bif bZ t.length (iR t id)then eG t id t.length else 0
-- pruning
def fW(s:aM)(t:List cV)(i:Nat):List aY:=bif decide (mxI false (gD t i) (gone s i)>0)then[((i:Int),mxI false (gD t i) (gone s i),())] else[]
def lP(s:aM)(t:List cV):aM:=([],bI 5 (fW s t),())
def kU(s:aM)(t:List cV):aM:=bif bA s then eQ s (lP s t)else s
theorem mF(s:aM)(t:List cV)(i:Nat):(fW s t i).length≤1:=by unfold fW;cases decide (mxI false (gD t i) (gone s i)>0)<;>simp
theorem tK(s:aM)(t:List cV):bA (lP s t)=true:=
 (bK _).2 (EW (fW s t) rfl (mF s t) fun i x hx=>by
  unfold fW at hx
  cases hd:decide (mxI false (gD t i) (gone s i)>0)with
  | false=>rw[hd] at hx;cases hx
  | true=>
   rw[hd] at hx
   have e:=List.mem_singleton.1 hx
   have h0:=of_decide_eq_true hd
   have hg:=IK s i
   rw[e];refine⟨rfl,h0,?_⟩
   show mxI false (gD t i) (gone s i)≤1000
   rw[C5];omega)
theorem tJ(s:aM)(t:List cV):SzS (lP s t):=⟨Nat.zero_le _,Nat.le_trans (c8 (n:=5) (L:=1) fun i _=>mF s t i) (by decide)⟩
theorem AH{s:aM}(h:bA s=true)(t:List cV):bA (kU s t)=true:=by
 unfold kU;rw[h];exact qP h (tK s t)
theorem F1{s:aM}(h:SzS s)(t:List cV):SzS (kU s t):=by
 unfold kU;cases bA s with
 | false=>exact h
 | true=>exact kK _ _
-- vectors
def cY(v:List bB)(k n:Int):List bB:=bif inB k 0 (i64.wrap ((v.length:Int) - 1))then v.set k.toNat (mxI true (gt v k.toNat).1 n,())else v
theorem gG(v:List bB)(k n:Int):(cY v k n).length=v.length:=by
 unfold cY;cases inB k 0 (i64.wrap ((v.length:Int) - 1))with
 | false=>rfl
 | true=>exact List.length_set ..
theorem sP(v:List bB)(k n:Int)(j:Nat):(gt (cY v k n) j).1=(gt v j).1∨(gt (cY v k n) j).1=max (gt v j).1 n:=by
 unfold cY;cases inB k 0 (i64.wrap ((v.length:Int) - 1))with
 | false=>exact .inl rfl
 | true=>
  show(gt (v.set _ _) j).1=_∨(gt (v.set _ _) j).1=_
  rcases Nat.lt_or_ge k.toNat v.length with h | h
  ·by_cases e:k.toNat=j
   ·subst e;rw[dG h];exact .inr (AN _ _)
   ·rw[eD e];exact .inl rfl
  ·rw[List.set_eq_of_length_le h];exact .inl rfl
theorem zM(v:List bB){k n:Int}{j:Nat}(h:k.toNat≠j):gt (cY v k n) j=gt v j:=by
 unfold cY;cases inB k 0 (i64.wrap ((v.length:Int) - 1))with
 | false=>rfl
 | true=>exact eD h _
theorem sO{v:List bB}{m k n:Int}(h:fT v m=true)(hn:n≤100000):fT (cY v k n) m=true:=by
 unfold fT at h ⊢
 simp only[Bool.and_eq_true] at h ⊢
 rw[gG]
 refine⟨h.1,h.2.1,?_⟩
 have h3:=cG.1 h.2.2
 rw[cG]
 intro i hi
 have:=h3 i hi
 rw[bH] at this ⊢
 rcases sP v k n i with e | e<;>rw[e]<;>omega
end Go.Abs
-- taking and receiving: plain laws
namespace Go.Abs
-- rises
def wY(r:kP)(e:dL):Bool:=decide (e.1>r.1)||(e.1==r.1&&decide (e.2.2.1>r.2.1))
def vA(clock:Int)(r:kP)(e:dL):kP:=bif wY r e then(e.1,e.2.2.1,clock,())else r
def cT(clock:Int)(rs:List kP)(xs:List cE):Nat→List kP
 | 0=>rs
 | i+1=>(cT clock rs xs i).set (gt xs i).1.toNat (vA clock (gt (cT clock rs xs i) (gt xs i).1.toNat) (gt xs i).2)
theorem hO(clock:Int)(rs:List kP)(xs:List cE):∀ i,(cT clock rs xs i).length=rs.length
 | 0=>rfl
 | i+1=>by show(List.set _ _ _).length=_;rw[List.length_set];exact hO clock rs xs i
def u9(clock:Int)(r:kP):Bool:=inB r.1 0 1000&&(inB r.2.1 0 100000&&inB r.2.2.1 0 clock)
theorem wX{clock:Int}(hc:0≤clock){rs:List kP}{s:aM}(hs:StateOk s)(h:∀ j,j<rs.length→u9 clock (gt rs j)=true):
  ∀ i,i≤s.1.length→∀ j,j<rs.length→u9 clock (gt (cT clock rs s.1 i) j)=true
 | 0,_,j,hj=>h j hj
 | i+1,hi,j,hj=>by
  have ih:=wX hc hs h i (by omega)
  have he:=(hs.item _ (d9 (xs:=s.1) (i:=i) (by omega))).2.1
  show u9 clock (gt ((cT clock rs s.1 i).set (gt s.1 i).1.toNat (vA clock (gt (cT clock rs s.1 i) (gt s.1 i).1.toNat) (gt s.1 i).2)) j)=true
  by_cases e:(gt s.1 i).1.toNat=j
  ·rw[e,dG (by rw[hO];exact hj)]
   unfold vA
   cases wY (gt (cT clock rs s.1 i) j) (gt s.1 i).2 with
   | false=>exact ih j hj
   | true=>
    unfold eL at he
    simp only[Bool.and_eq_true,bH] at he
    show u9 clock ((gt s.1 i).2.1,(gt s.1 i).2.2.2.1,clock,())=true
    unfold u9
    simp only[Bool.and_eq_true,bH]
    omega
  ·rw[eD e];exact ih j hj
-- a node with another state, other rows and rises
def tkS(x:NodeT)(s:aM):List cV:=bN x.seen x.1 (fQ (eQ x.state s))
def tkP(x:NodeT)(s:aM):aM:=kU (eQ x.state s) (tkS x s)
def tkR(x:NodeT)(s:aM):List kP:=cT x.clock x.rises (tkP x s).1 (tkP x s).1.length
def m7(x:NodeT)(s:aM):NodeT:=
 (x.1,x.2.1,(tkP x s).1,(tkP x s).2.1,(c9 (tkP x s)).1,(c9 (tkP x s)).2.1,x.2.2.2.2.2.2.1,x.2.2.2.2.2.2.2.1,x.2.2.2.2.2.2.2.2.1,x.got,x.acked,tkS x s,x.num,x.slots,x.sess,x.wait,x.limit,x.clock,tkR x s,())
theorem BW(a:List bB):jX a a=true:=by
 unfold jX;simp[bZ]
structure NodeOk (x:NodeT):Prop where
 n:inB x.2.1 1 5=true
 id:inB x.1 0 (i64.wrap (x.2.1 - 1))=true
 state:bA x.state=true
 tree:uS x=true
 log:gR x.log=true
 got:fT x.got x.2.1=true
 acked:fT x.acked x.2.1=true
 own:((gt x.got x.1.toNat).1==dU x.log)=true
 seen:gY x.seen x.2.1=true
 ack:x7 x=true
 num:inB x.num 0 100000=true
 clock:inB x.clock 0 100000=true
 slots:inB x.slots 1 4=true
 wait:inB x.wait 1 20=true
 limit:inB x.limit 1 50=true
 rises:(x.rises.length:Int)==5
 rise:bZ x.rises.length (kG x)=true
 sess:kF x=true
theorem i7(x:NodeT):eC x=true↔NodeOk x:=by
 unfold eC jL
 simp only[Bool.and_eq_true]
 constructor
 ·rintro ⟨h1,h2,h3,h4,h5,h6,h7,h8,h9,h10,h11,h12,h13,h14,h15,h16,h17,h18⟩
  exact⟨h1,h2,h3,h4,h5,h6,h7,h8,h9,h10,h11,h12,h13,h14,h15,h16,h17,h18⟩
 ·rintro ⟨h1,h2,h3,h4,h5,h6,h7,h8,h9,h10,h11,h12,h13,h14,h15,h16,h17,h18⟩
  exact⟨h1,h2,h3,h4,h5,h6,h7,h8,h9,h10,h11,h12,h13,h14,h15,h16,h17,h18⟩
theorem FA{x:NodeT}{s:aM}(h:NodeOk x)(hs:bA s=true):bA (tkP x s)=true:=AH (qP h.state hs) _
theorem NodeOk.take{x:NodeT}{s:aM}(h:NodeOk x)(hs:bA s=true):NodeOk (m7 x s) where
 n:=h.n
 id:=h.id
 state:=FA h hs
 tree:=by
  show(jX (c9 (tkP x s)).1 (c9 (tkP x s)).1&&(c9 (tkP x s)).2.1==(c9 (tkP x s)).2.1)=true
  rw[BW];simp
 log:=h.log
 got:=h.got
 acked:=h.acked
 own:=h.own
 seen:=sS h.seen
 ack:=h.ack
 num:=h.num
 clock:=h.clock
 slots:=h.slots
 wait:=h.wait
 limit:=h.limit
 rises:=by
  show(((cT x.clock x.rises (tkP x s).1 (tkP x s).1.length).length:Nat):Int)==5
  rw[hO];exact h.rises
 rise:=by
  show bZ (cT x.clock x.rises (tkP x s).1 (tkP x s).1.length).length _=true
  rw[hO,cG]
  intro i hi
  have hc:=h.clock;rw[bH] at hc
  exact wX hc.1 ((bK _).1 (FA h hs)) (fun j hj=>cG.1 h.rise j hj) _ (Nat.le_refl _) i hi
 sess:=h.sess
theorem BO(x:NodeT)(s:aM):SzS (tkP x s):=F1 (kK _ _) _
theorem DQ(s:aM):(c9 s).1.length≤aX:=by
 unfold c9;cases bA s with
 | false=>exact Nat.zero_le _
 | true=>show 4≤aX;decide
theorem lG{x:NodeT}(h:SzN x)(s:aM):SzN (m7 x s) where
 state:=BO x s
 leaves:=DQ _
 list:=h.list
 logs:=h.logs
 got:=h.got
 acked:=h.acked
 seen:=by show(tkS x s).length≤aX;unfold tkS;rw[eE];exact h.seen
 lines:=by
  intro i hi
  show(gt (tkS x s) i).1.length≤aX
  unfold tkS;rw[iI]
  exact h.lines i (by have:i<(tkS x s).length:=hi;unfold tkS at this;rw[eE] at this;exact this)
 sess:=h.sess
 rises:=by show(cT x.clock x.rises (tkP x s).1 (tkP x s).1.length).length≤aX;rw[hO];exact h.rises
-- hearing
def heard0(x:NodeT)(m:MsgT):NodeT:=
 (x.1,x.2.1,x.2.2.1,x.2.2.2.1,x.2.2.2.2.1,x.2.2.2.2.2.1,x.2.2.2.2.2.2.1,x.2.2.2.2.2.2.2.1,x.2.2.2.2.2.2.2.2.1,x.got,cY x.acked m.2.1 (mxI false (gt m.vec x.1.toNat).1 (dU x.log)),bN x.seen m.2.1 m.marks,x.num,x.slots,x.sess,x.wait,x.limit,x.clock,x.rises,())
def cK(x:NodeT)(m:MsgT):NodeT:=m7 (heard0 x m) tW
def gotUp(x:NodeT)(m:MsgT):NodeT:=
 (x.1,x.2.1,x.2.2.1,x.2.2.2.1,x.2.2.2.2.1,x.2.2.2.2.2.1,x.2.2.2.2.2.2.1,x.2.2.2.2.2.2.2.1,x.2.2.2.2.2.2.2.2.1,cY x.got m.2.1 m.hi,x.acked,x.seen,x.num,x.slots,x.sess,x.wait,x.limit,x.clock,x.rises,())
def c7(x:NodeT)(m:MsgT):NodeT:=gotUp (m7 (cK x m) m.part) m
theorem EJ{l:lV}(h:gR l=true):0≤dU l∧dU l≤100000:=by
 unfold dU;rw[h]
 unfold gR at h
 simp only[Bool.and_eq_true,bH,Bool.not_eq_true',decide_eq_false_iff_not] at h
 show 0≤i64.wrap _∧i64.wrap _≤100000
 rw[IntKind.wrap_i64] at h ⊢
 omega
theorem NodeOk.heard0{x:NodeT}(h:NodeOk x)(m:MsgT):NodeOk (heard0 x m) where
 n:=h.n
 id:=h.id
 state:=h.state
 tree:=h.tree
 log:=h.log
 got:=h.got
 acked:=sO h.acked (by rw[C5];have:=EJ h.log;omega)
 own:=h.own
 seen:=sS h.seen
 ack:=by
  have:=h.ack
  unfold x7 at this ⊢
  rw[show(Go.Abs.heard0 x m).acked=cY x.acked m.2.1 (mxI false (gt m.vec x.1.toNat).1 (dU x.log))from rfl,gG]
  rw[cG] at this ⊢
  intro i hi
  have h1:=this i hi
  rw[show(Go.Abs.heard0 x m).log=x.log from rfl]
  simp only[Bool.not_eq_true',decide_eq_false_iff_not] at h1 ⊢
  rcases sP x.acked m.2.1 (mxI false (gt m.vec x.1.toNat).1 (dU x.log)) i with e | e
  ·rw[e];exact h1
  ·rw[e,C5];omega
 num:=h.num
 clock:=h.clock
 slots:=h.slots
 wait:=h.wait
 limit:=h.limit
 rises:=h.rises
 rise:=h.rise
 sess:=h.sess
theorem NodeOk.heard{x:NodeT}(h:NodeOk x)(m:MsgT):NodeOk (cK x m):=(h.heard0 m).take uJ
theorem rQ{x:NodeT}(h:SzN x)(m:MsgT):SzN (heard0 x m) where
 state:=h.state
 leaves:=h.leaves
 list:=h.list
 logs:=h.logs
 got:=h.got
 acked:=by show(cY _ _ _).length≤aX;rw[gG];exact h.acked
 seen:=by show(bN _ _ _).length≤aX;rw[eE];exact h.seen
 lines:=by
  intro i hi
  show(gt (bN x.seen m.2.1 m.marks) i).1.length≤aX
  rw[iI]
  exact h.lines i (by have:i<(bN x.seen m.2.1 m.marks).length:=hi;rw[eE] at this;exact this)
 sess:=h.sess
 rises:=h.rises
theorem gI{x:NodeT}(h:SzN x)(m:MsgT):SzN (cK x m):=lG (rQ h m) _
theorem NodeOk.gotUp{x:NodeT}(h:NodeOk x){m:MsgT}(hi:m.hi≤100000)(hm:m.2.1.toNat≠x.1.toNat):NodeOk (gotUp x m) where
 n:=h.n
 id:=h.id
 state:=h.state
 tree:=h.tree
 log:=h.log
 got:=sO h.got hi
 acked:=h.acked
 own:=by
  show((gt (cY x.got m.2.1 m.hi) x.1.toNat).1==dU x.log)=true
  rw[zM _ hm];exact h.own
 seen:=h.seen
 ack:=h.ack
 num:=h.num
 clock:=h.clock
 slots:=h.slots
 wait:=h.wait
 limit:=h.limit
 rises:=h.rises
 rise:=h.rise
 sess:=h.sess
theorem GZ{x:NodeT}(h:SzN x)(m:MsgT):SzN (gotUp x m) where
 state:=h.state
 leaves:=h.leaves
 list:=h.list
 logs:=h.logs
 got:=by show(cY _ _ _).length≤aX;rw[gG];exact h.got
 acked:=h.acked
 seen:=h.seen
 lines:=h.lines
 sess:=h.sess
 rises:=h.rises
theorem iB{x:NodeT}(h:SzN x)(m:MsgT):SzN (c7 x m):=GZ (lG (gI h m) _) _
-- messages
def mY(v:List bB)(top:Int):Bool:=bZ v.length fun i=>inB (gt v i).1 0 top
def oT(t:jZ):Bool:=bif(t.1.length:Int)==0 then t.2.1==0 else((t.1.length:Int)==4&&(mY t.1 1023&&inB t.2.1 0 1023))
def xL(v:List bB)(i:Nat):Bool:=inB (gt v i).1 0 3&&tA (fun j=> !decide ((gt v (j+1)).1≤(gt v j).1)) i
def qN(m:MsgT):Bool:=inB m.1 0 5&&(fX m.2.1&&(fX m.2.2.1&& !(m.2.1==m.2.2.1)))
def lL(m:MsgT):Bool:=qN m&&((bZ m.leaves.length (xL m.leaves))&&(mY m.vec 100000&&(inB m.2.2.2.1 0 100000&&(inB m.hi 0 100000&&(oT m.tree&&(decide ((m.vec.length:Int)≤5)&&(bA m.part&&eK m.marks)))))))
def mX(v:List bB)(most top:Int):Bool:= !decide ((v.length:Int)>most)&&mY v top
def AV(v:List bB)(i:Nat):Bool:= !decide ((gt v (i+1)).1≤(gt v i).1)
def vK(m:MsgT):Bool:=inB m.1 0 5&&(fX m.2.1&&(fX m.2.2.1&&(!(m.2.1==m.2.2.1)&&(inB m.2.2.2.1 0 100000&&(inB m.hi 0 100000&&(oT m.tree&&(mX m.vec 5 100000&&(mX m.leaves 4 3&&(bA m.part&&(eK m.marks&&bZ (m.leaves.length - 1) (AV m.leaves)))))))))))
theorem GI(v:List bB):(mX v 4 3&&bZ (v.length - 1) (AV v))=bZ v.length (xL v):=by
 rw[Bool.eq_iff_iff]
 unfold mX mY xL AV
 simp only[Bool.and_eq_true,cG,Bool.not_eq_true',decide_eq_false_iff_not]
 constructor
 ·rintro ⟨⟨_,h2⟩,h3⟩ i hi
  refine⟨h2 i hi,?_⟩
  cases i with
  | zero=>rfl
  | succ j=>show(!decide ((gt v (j+1)).1≤(gt v j).1))=true;rw[decide_eq_false (h3 j (by omega))];rfl
 ·intro h
  have hp:∀ j,j+1<v.length→(gt v j).1<(gt v (j+1)).1:=fun j hj=>by
   have:=(h (j+1) hj).2
   unfold tA at this
   simpa using this
  have hge:∀ i,i<v.length→(i:Int)≤(gt v i).1:=by
   intro i
   induction i with
   | zero=>intro hi;have:=(h 0 hi).1;rw[bH] at this;exact this.1
   | succ j ih=>intro hi;have:=ih (by omega);have:=hp j hi;omega
  refine⟨⟨?_,fun i hi=>(h i hi).1⟩,fun i hi=>by have:=hp i (by omega);omega⟩
  rcases Nat.lt_or_ge 4 v.length with h5 | h5
  ·have h6:=hge 4 h5
   have:=(h 4 h5).1;rw[bH] at this;omega
  ·omega
theorem C6(m:MsgT):vK m=lL m:=by
 unfold vK lL qN
 rw[← GI]
 unfold mX
 simp only[rM]
 ac_rfl
theorem B6{m:MsgT}(h:lL m=true):m.leaves.length≤4:=by
 rw[← C6] at h
 unfold vK mX at h
 simp only[Bool.and_eq_true,Bool.not_eq_true',decide_eq_false_iff_not] at h
 omega
end Go.Abs
-- messages and receiving: plain laws
namespace Go.Abs
theorem fE{β:Type}{o:Option Out}{A B C:List Kd}{r:Row A}{s:Row B}{t:Row C}{f:Rows [A,B,C]×Rows []→Option β}(h:o=some ⟨[⟨A,r⟩,⟨B,s⟩,⟨C,t⟩],[]⟩):(o.bind (eM [A,B,C] [])).bind f=f ((r,s,t,()),()):=by
 rw[h];simp[eM,eT,j8];rfl
def dM(l:List aM)(k:Nat):Nat→aM
 | 0=>tW
 | i+1=>eQ (dM l k i) (gt l (k+i))
theorem pC(l:List aM)(k:Nat):∀ i,SzS (dM l k i)
 | 0=>oD
 | i+1=>kK _ _
theorem pD{l:lV}(h:gR l=true)(k:Nat):∀ i,k+i≤l.2.2.1.length→bA (dM l.2.2.1 k i)=true
 | 0,_=>uJ
 | i+1,hi=>qP (pD h k i (by omega)) (by
   unfold gR at h
   simp only[Bool.and_eq_true] at h
   exact cG.1 h.2.2.2.2 (k+i) (by omega))
def fA(l:lV)(seq:Int):Bool:=gR l&&inB seq l.2.1 (i64.wrap (l.2.1+(l.2.2.1.length:Int)))
def bT(l:lV)(seq:Int):Nat:=(seq - l.2.1).toNat
def fZ(l:lV)(seq:Int):aM:=bif fA l seq then dM l.2.2.1 (bT l seq) (l.2.2.1.length - bT l seq)else tW
theorem p6{l:lV}{seq:Int}(h:fA l seq=true):l.2.1+((bT l seq:Nat):Int)=seq∧bT l seq≤l.2.2.1.length∧0≤l.2.1∧l.2.1≤100000∧l.2.2.1.length≤8:=by
 unfold fA gR at h
 simp only[Bool.and_eq_true,bH,Bool.not_eq_true',decide_eq_false_iff_not] at h
 unfold bT
 rw[IntKind.wrap_i64] at h
 omega
def nA(x:NodeT)(seq:Int):aM:=bif fA x.log seq then fZ x.log seq else x.state
theorem zW{x:NodeT}(h:SzN x)(seq:Int):SzS (nA x seq):=by
 unfold nA fZ
 cases fA x.log seq with
 | false=>exact h.state
 | true=>exact pC _ _ _
theorem FN{x:NodeT}(h:NodeOk x)(seq:Int):bA (nA x seq)=true:=by
 unfold nA fZ
 cases hs:fA x.log seq with
 | false=>exact h.state
 | true=>have:=p6 hs;exact pD h.log _ _ (by omega)
theorem zV{s:aM}(h:SzS s)(ls:List bB):SzS (g9 s ls):=
 ⟨Nat.le_trans (List.length_filter_le ..) h.1,Nat.le_trans (List.length_filter_le ..) h.2⟩
theorem FL{s:aM}(h:bA s=true)(ls:List bB):bA (g9 s ls)=true:=(bK _).2 (((bK _).1 h).slice ls)
def xB(x:NodeT)(ls:List bB)(seq:Int):aM:=eQ (g9 x.state ls) (nA x seq)
def dT(a b:jZ)(i:Nat):List bB:=bif(a.1.length:Int) != 4 then[((i:Int),())] else bif(b.1.length:Int) != 4 then[((i:Int),())] else bif(gt a.1 i).1 != (gt b.1 i).1 then[((i:Int),())] else[]
def gC(a b:jZ):List bB:=bif a.2.1==b.2.1 then[] else bI 4 (dT a b)
theorem nT(a b:jZ)(i:Nat):(dT a b i).length≤1:=by
 unfold dT
 cases (a.1.length:Int) != 4<;>cases (b.1.length:Int) != 4<;>cases (gt a.1 i).1 != (gt b.1 i).1<;>simp
theorem kM(a b:jZ):(gC a b).length≤4:=by
 unfold gC
 cases a.2.1==b.2.1 with
 | true=>exact Nat.zero_le _
 | false=>exact c8 (n:=4) (L:=1) fun i _=>nT a b i
def GB(x:NodeT)(kind to num:Int):MsgT:=(kind,x.1,to,num,dU x.log,[],0,x.got,[],[],[],fQ x.state,())
-- exchanges
def withS(x:NodeT)(ss:List dS):NodeT:=
 (x.1,x.2.1,x.2.2.1,x.2.2.2.1,x.2.2.2.2.1,x.2.2.2.2.2.1,x.2.2.2.2.2.2.1,x.2.2.2.2.2.2.2.1,x.2.2.2.2.2.2.2.2.1,x.got,x.acked,x.seen,x.num,x.slots,ss,x.wait,x.limit,x.clock,x.rises,())
def oP(s:dS):Int×Bool:=(s.1,s.2.2.1)
def JC(x:NodeT)(s:dS):Prop:=inB s.1 0 (i64.wrap (x.2.1 - 1))=true∧s.1≠x.1∧inB s.2.1 0 100000=true∧inB s.2.2.2.1 0 x.wait=true
theorem j6{v:List dS}{k:Nat}{p:Int}{b:Bool}:dC v k p b=true↔oP (gt v k)=(p,b):=by
 unfold dC oP
 rw[Bool.and_eq_true,beq_iff_eq,HJ,Prod.mk.injEq]
theorem F6(v:List dS):(∀ i,i<v.length→xC v i=true)↔(v.map oP).Nodup:=by
 unfold List.Nodup
 rw[List.pairwise_iff_getElem]
 unfold xC
 simp only[cG,Bool.not_eq_true',List.length_map,List.getElem_map]
 constructor
 ·intro h i j hi hj hij e
  have:=h j hj i hij
  rw[← Bool.not_eq_true,j6] at this
  apply this
  rw[eX hi,eX hj];exact e
 ·intro h j hj i hij
  rw[← Bool.not_eq_true,j6]
  intro e
  refine h i j (by omega) hj hij ?_
  rw[eX (by omega),eX hj] at e;exact e
theorem d7(x:NodeT):kF x=true↔(x.sess.length:Int)≤x.slots∧(∀ s∈x.sess,JC x s)∧(x.sess.map oP).Nodup:=by
 rw[← F6]
 unfold kF lH
 simp only[Bool.and_eq_true,cG,Bool.not_eq_true',decide_eq_false_iff_not]
 constructor
 ·rintro ⟨h1,h2⟩
  refine⟨by omega,fun s hs=>?_,fun i hi=>(h2 i hi).2.2.2.2⟩
  obtain⟨i,hi,rfl⟩:=nL hs
  obtain⟨a,b,c,d,_⟩:=h2 i hi
  refine⟨a,?_,c,d⟩
  intro e;rw[e] at b;simp at b
 ·rintro ⟨h1,h2,h3⟩
  refine⟨by omega,fun i hi=>?_⟩
  obtain⟨a,b,c,d⟩:=h2 _ (d9 hi)
  exact⟨a,by simpa using b,c,d,h3 i hi⟩
theorem NodeOk.withS{x:NodeT}(h:NodeOk x){ss:List dS}(h1:(ss.length:Int)≤x.slots)(h2:∀ s∈ss,JC x s)(h3:(ss.map oP).Nodup):NodeOk (withS x ss) where
 n:=h.n
 id:=h.id
 state:=h.state
 tree:=h.tree
 log:=h.log
 got:=h.got
 acked:=h.acked
 own:=h.own
 seen:=h.seen
 ack:=h.ack
 num:=h.num
 clock:=h.clock
 slots:=h.slots
 wait:=h.wait
 limit:=h.limit
 rises:=h.rises
 rise:=h.rise
 sess:=(d7 _).2 ⟨h1,h2,h3⟩
theorem pX{x:NodeT}(h:SzN x){ss:List dS}(h1:ss.length≤aX):SzN (withS x ss):=
 ⟨h.state,h.leaves,h.list,h.logs,h.got,h.acked,h.seen,h.lines,h1,h.rises⟩
theorem eZ(v:List dS)(p:Int)(b:Bool):(∃ k:Nat,k<v.length∧cP v p b=(k:Int)∧oP (gt v k)=(p,b))∨(cP v p b= -1∧∀ s∈v,oP s≠(p,b)):=by
 unfold cP
 cases hf:(List.range v.length).find? (fun k=>dC v k p b)with
 | none=>
  refine .inr ⟨rfl,fun s hs e=>?_⟩
  obtain⟨i,hi,rfl⟩:=nL hs
  have:=List.find?_eq_none.1 hf i (List.mem_range.2 hi)
  exact this (j6.2 e)
 | some k=>
  refine .inl ⟨k,List.mem_range.1 (List.mem_of_find?_eq_some hf),rfl,?_⟩
  exact j6.1 (show dC v k p b=true from List.find?_some (p:=fun k=>dC v k p b) hf)
def nR(x:NodeT)(m:MsgT)(b:Bool):Int:=bif decide (cP x.sess m.2.1 b≥0)then(bif(gt x.sess (cP x.sess m.2.1 b).toNat).2.1 != m.2.2.2.1 then -1 else cP x.sess m.2.1 b)else cP x.sess m.2.1 b
def iX(x:NodeT)(k:Nat):NodeT:=withS x (x.sess.take k++x.sess.drop (k+1))
theorem G0{x:NodeT}(h:NodeOk x)(k:Nat):NodeOk (iX x k):=by
 have hs:=(d7 x).1 h.sess
 have sub:List.Sublist (x.sess.take k++x.sess.drop (k+1)) x.sess:=by rw[← List.eraseIdx_eq_take_drop_succ];exact List.eraseIdx_sublist ..
 refine h.withS ?_ (fun s hm=>hs.2.1 s (sub.subset hm)) ((sub.map oP).nodup hs.2.2)
 have:=sub.length_le;omega
theorem vU{x:NodeT}(h:SzN x)(k:Nat):SzN (iX x k):=pX h (by
 have:=h.sess;rw[List.length_append,List.length_take,List.length_drop];omega)
def mE(x:NodeT)(k:Nat)(num:Int):List dS:=x.sess.set k ((gt x.sess k).1,num,(gt x.sess k).2.2.1,(0:Int),())
def iS(x:NodeT)(m:MsgT):List dS:=x.sess++[(m.2.1,m.2.2.2.1,true,(0:Int),())]
theorem D5{x:NodeT}(h:NodeOk x){k:Nat}(hk:k<x.sess.length){num:Int}(hn:inB num 0 100000=true):NodeOk (withS x (mE x k num)):=by
 have hs:=(d7 x).1 h.sess
 refine h.withS (by unfold mE;rw[List.length_set];exact hs.1) (fun s hm=>?_) ?_
 ·rcases List.mem_or_eq_of_mem_set hm with h1 | h1
  ·exact hs.2.1 s h1
  ·have h2:=hs.2.1 _ (d9 hk)
   rw[h1]
   refine⟨h2.1,h2.2.1,hn,?_⟩
   have:=h.wait;rw[bH] at this ⊢;show 0≤(0:Int)∧(0:Int)≤x.wait;omega
 ·unfold mE
  rw[List.map_set,show oP ((gt x.sess k).1,num,(gt x.sess k).2.2.1,(0:Int),())=oP (gt x.sess k)from rfl]
  have:(x.sess.map oP).set k (oP (gt x.sess k))=x.sess.map oP:=by
   rw[← List.map_set,yM]
  rw[this];exact hs.2.2
theorem CT{x:NodeT}(h:NodeOk x){m:MsgT}(hp:inB m.2.1 0 (i64.wrap (x.2.1 - 1))=true)(hi:m.2.1≠x.1)(hn:inB m.2.2.2.1 0 100000=true)(hf:cP x.sess m.2.1 true<0)(hl:(x.sess.length:Int)≠x.slots):NodeOk (withS x (iS x m)):=by
 have hs:=(d7 x).1 h.sess
 refine h.withS (by unfold iS;rw[List.length_append,List.length_singleton];omega) (fun s hm=>?_) ?_
 ·rcases List.mem_append.1 hm with h1 | h1
  ·exact hs.2.1 s h1
  ·rw[List.mem_singleton.1 h1]
   refine⟨hp,hi,hn,?_⟩
   have:=h.wait;rw[bH] at this ⊢;show 0≤(0:Int)∧(0:Int)≤x.wait;omega
 ·unfold iS
  rw[List.map_append,List.nodup_append]
  refine⟨hs.2.2,by simp,fun a ha b hb=>?_⟩
  obtain⟨s,hs1,rfl⟩:=List.mem_map.1 ha
  have hb:b=(m.2.1,true):=by simpa [oP] using hb
  rw[hb]
  rcases eZ x.sess m.2.1 true with ⟨k,_,e,_⟩ | ⟨_,e⟩
  ·rw[e] at hf;omega
  ·exact e s hs1
-- receiving
def yW(o:NodeT)(x:NodeT)(m:MsgT):MsgT:=
 (3,o.1,m.2.1,m.2.2.2.1,dU o.log,o.tree.1,o.tree.2.1,o.got,gC o.tree m.tree,(xB o (gC o.tree m.tree) (gt m.vec x.1.toNat).1).1,(xB o (gC o.tree m.tree) (gt m.vec x.1.toNat).1).2.1,fQ o.state,())
def I8(o:NodeT)(x:NodeT)(m:MsgT):MsgT:=
 (4,o.1,m.2.1,m.2.2.2.1,dU o.log,[],0,o.got,m.leaves,(xB o m.leaves (gt m.vec x.1.toNat).1).1,(xB o m.leaves (gt m.vec x.1.toNat).1).2.1,fQ o.state,())
abbrev tZ:=NodeT×List MsgT×Int
def fO(x:NodeT)(m:MsgT):List dS:=bif decide (cP x.sess m.2.1 true≥0)then mE x (cP x.sess m.2.1 true).toNat m.2.2.2.1 else iS x m
def BR(x:NodeT)(m:MsgT):NodeT:=cK (withS x (fO x m)) m
def iJ(x:NodeT)(m:MsgT):Bool:= !decide (cP x.sess m.2.1 true≥0)&&(x.sess.length:Int)==x.slots
def hS(x:NodeT)(m:MsgT):tZ:=bif iJ x m then(x,[GB x 5 m.2.1 m.2.2.2.1],3)else(BR x m,[yW (BR x m) x m],0)
def jV(x:NodeT)(m:MsgT)(k:Nat):tZ:=
 bif m.1==5 then(iX x k,[],0)else bif m.1==4 then(c7 (iX x k) m,[],0)else(c7 (iX x k) m,[I8 (c7 (iX x k) m) x m],0)
def nF(x:NodeT)(m:MsgT):tZ:=
 bif m.1==0 then(c7 x m,[GB (c7 x m) 1 m.2.1 m.2.2.2.1],0)else
 bif m.1==1 then(cK x m,[],0)else bif m.1==2 then hS x m else
 bif decide (nR x m (m.1==4)<0)then(x,[],2)else jV x m (nR x m (m.1==4)).toNat
def fV(x:NodeT)(m:MsgT):Bool:=eC x&&(lL m&&(m.2.2.1==x.1&&(!decide (m.2.1≥x.2.1)&&(m.vec.length:Int)==x.2.1)))
def oO(x:NodeT)(m:MsgT):tZ:=bif fV x m then nF x m else(x,[],1)
structure RecOk (x:NodeT) (m:MsgT):Prop where
 node:NodeOk x
 msg:lL m=true
 idn:0≤x.1∧x.1<x.2.1∧1≤x.2.1∧x.2.1≤5
 frm:0≤m.2.1∧m.2.1<x.2.1
 ne:m.2.1≠x.1
 vec:(m.vec.length:Int)=x.2.1
 to:m.2.2.1=x.1
 num:inB m.2.2.2.1 0 100000=true
 hi:0≤m.hi∧m.hi≤100000
 part:bA m.part=true
 marks:eK m.marks=true
 leaves:m.leaves.length≤4
theorem vC{x:NodeT}{m:MsgT}(h:fV x m=true):RecOk x m:=by
 unfold fV at h
 simp only[Bool.and_eq_true,beq_iff_eq,Bool.not_eq_true',decide_eq_false_iff_not] at h
 obtain⟨h1,h2,h3,h4,h5⟩:=h
 have hn:=(i7 x).1 h1
 have a1:=hn.n
 have a2:=hn.id
 rw[bH] at a1 a2
 rw[IntKind.wrap_i64] at a2
 have hm:=h2
 unfold lL qN fX at hm
 simp only[Bool.and_eq_true,bH,Bool.not_eq_true',beq_eq_false_iff_ne] at hm
 obtain⟨⟨b1,b2,b3,b4⟩,b5,b6,b7,b8,b9,b10,b11,b12⟩:=hm
 exact⟨hn,h2,by omega,by omega,by rw[← h3];exact b4,h5,h3,bH.2 b7,b8,b11,b12,B6 h2⟩
theorem RecOk.gone{x:NodeT}{m:MsgT}(h:RecOk x m)(k:Nat):RecOk (iX x k) m:=
 ⟨G0 h.node k,h.msg,h.idn,h.frm,h.ne,h.vec,h.to,h.num,h.hi,h.part,h.marks,h.leaves⟩
theorem RecOk.brought{x:NodeT}{m:MsgT}(h:RecOk x m):NodeOk (c7 x m):=
 NodeOk.gotUp ((h.node.heard m).take h.part) h.hi.2 (by
  have h1:=h.ne;have h2:=h.idn;have h3:=h.frm
  show m.2.1.toNat≠x.1.toNat
  omega)
theorem RecOk.syn{x:NodeT}{m:MsgT}(h:RecOk x m)(hf:iJ x m=false):RecOk (withS x (fO x m)) m:=by
 refine⟨?_,h.msg,h.idn,h.frm,h.ne,h.vec,h.to,h.num,h.hi,h.part,h.marks,h.leaves⟩
 unfold fO
 unfold iJ at hf
 by_cases hc:cP x.sess m.2.1 true≥0
 ·rw[decide_eq_true hc]
  rcases eZ x.sess m.2.1 true with ⟨k,hk,e,_⟩ | ⟨e,_⟩
  ·show NodeOk (withS x (mE x (cP x.sess m.2.1 true).toNat m.2.2.2.1))
   rw[e];exact D5 h.node hk h.num
  ·omega
 ·rw[decide_eq_false hc] at hf ⊢
  refine CT h.node ?_ h.ne h.num (by omega) (by intro e;rw[e] at hf;simp at hf)
  have h2:=h.idn;have h3:=h.frm
  rw[bH,IntKind.wrap_i64];omega
theorem m8{x:NodeT}(h:NodeOk x)(m:MsgT):(fO x m).length≤aX:=by
 have h1:=((d7 x).1 h.sess).1
 have h2:=h.slots;rw[bH] at h2
 unfold fO mE iS aX
 cases decide (cP x.sess m.2.1 true≥0)with
 | true=>show(List.set _ _ _).length≤_;rw[List.length_set];omega
 | false=>show(x.sess++[_]).length≤_;rw[List.length_append,List.length_singleton];omega
theorem HU{x:NodeT}(hz:SzN x)(h:NodeOk x)(m:MsgT):SzN (BR x m):=gI (pX hz (m8 h m)) m
theorem C1{x:NodeT}{m:MsgT}(h:fV x m=false):oO x m=(x,[],1):=by unfold oO;rw[h];rfl
theorem z8{x:NodeT}{m:MsgT}(h:fV x m=true):oO x m=nF x m:=by unfold oO;rw[h];rfl
-- an exchange taken out, as the code does it
def wQ(x:NodeT)(k:Int):List dS:=([]++((x.sess.take (k.toNat)).drop 0))++((x.sess.take x.sess.length).drop ((i64.wrap (k+1))).toNat)
theorem HZ{x:NodeT}{k:Nat}(hk:k<x.sess.length)(hl:x.sess.length≤aX):wQ x (k:Int)=x.sess.take k++x.sess.drop (k+1):=by
 unfold wQ
 rw[aI (Nat.lt_of_lt_of_le hk (Nat.le_trans hl (by decide))),List.take_length,Int.toNat_natCast,Int.toNat_natCast];rfl
theorem AA{x:NodeT}{k:Nat}(hk:k<x.sess.length)(hl:x.sess.length≤aX):withS x (wQ x (k:Int))=iX x k:=by rw[HZ hk hl];rfl
theorem qT{α β:Type}{ss:List α}{k:Nat}{F Z:β}(hk:k<ss.length)(hl:ss.length≤aX):
  (bif decide (0≤(k:Int))&&decide ((k:Int)≤(ss.length:Int))then(bif decide (List.length ([]:List α)+List.length ((ss.take ((k:Int).toNat)).drop 0)≤bound)then
   (bif decide (0≤i64.wrap ((k:Int)+1))&&decide (i64.wrap ((k:Int)+1)≤(ss.length:Int))then
    (bif decide (List.length ([]++((ss.take ((k:Int).toNat)).drop 0))+List.length ((ss.take ss.length).drop ((i64.wrap ((k:Int)+1))).toNat)≤bound)then F else Z)else Z)else Z)else Z)=F:=by
 have hb:aX≤bound:=by decide
 rw[aI (Nat.lt_of_lt_of_le hk (Nat.le_trans hl (by decide)))]
 refine(wD (Int.natCast_nonneg _) (by omega)).trans ?_
 refine(aE (by rw[List.drop_zero,List.length_take];simp;omega)).trans ?_
 refine(wD (Int.natCast_nonneg _) (by omega)).trans ?_
 exact aE (by rw[List.nil_append,List.drop_zero,List.length_take,List.length_drop,List.length_take,Int.toNat_natCast,Int.toNat_natCast];omega)
end Go.Abs
-- exchanges begun and gone through: plain laws
namespace Go.Abs
def jS(x:NodeT)(to:Int):Bool:=eC x&&(oV x to&&(!decide (cP x.sess to false≥0)&&(!((x.sess.length:Int)==x.slots)&& !(x.num==100000))))
def uW(x:NodeT)(to:Int):NodeT:=
 (x.1,x.2.1,x.2.2.1,x.2.2.2.1,x.2.2.2.2.1,x.2.2.2.2.2.1,x.2.2.2.2.2.2.1,x.2.2.2.2.2.2.2.1,x.2.2.2.2.2.2.2.2.1,x.got,x.acked,x.seen,i64.wrap (x.num+1),x.slots,x.sess++[(to,i64.wrap (x.num+1),false,(0:Int),())],x.wait,x.limit,x.clock,x.rises,())
def JO(x:NodeT)(to:Int):MsgT:=(2,x.1,to,i64.wrap (x.num+1),dU x.log,x.tree.1,x.tree.2.1,x.got,[],[],[],fQ x.state,())
def GC:MsgT:=((0:Int),(0:Int),(0:Int),(0:Int),(0:Int),[],(0:Int),[],[],[],[],[],())
abbrev KC:=NodeT×MsgT×Bool
def p5(x:NodeT)(to:Int):KC:=bif jS x to then(uW x to,JO x to,true)else(x,GC,false)
structure SynOk (x:NodeT) (to:Int):Prop where
 node:NodeOk x
 peer:0≤to∧to<x.2.1∧to≠x.1
 slot:cP x.sess to false<0
 room:(x.sess.length:Int)<x.slots
 num:0≤x.num∧x.num<100000
 nn:1≤x.2.1∧x.2.1≤5
theorem uY{x:NodeT}{to:Int}(h:jS x to=true):SynOk x to:=by
 unfold jS oV at h
 simp only[Bool.and_eq_true,Bool.not_eq_true',decide_eq_false_iff_not,beq_eq_false_iff_ne,bne_iff_ne,bH] at h
 obtain⟨h1,⟨h2,h3⟩,h4,h5,h6⟩:=h
 have hn:=(i7 x).1 h1
 have h7:=hn.n;have h8:=hn.num
 have h9:=((d7 x).1 hn.sess).1
 rw[bH] at h7 h8
 rw[IntKind.wrap_i64] at h2
 exact⟨hn,by omega,by omega,by omega,by omega,by omega⟩
theorem F7{n:Int}(h:0≤n∧n<100000):i64.wrap (n+1)=n+1:=by rw[IntKind.wrap_i64];omega
theorem SynOk.up{x:NodeT}{to:Int}(h:SynOk x to):NodeOk (uW x to) where
 n:=h.node.n
 id:=h.node.id
 state:=h.node.state
 tree:=h.node.tree
 log:=h.node.log
 got:=h.node.got
 acked:=h.node.acked
 own:=h.node.own
 seen:=h.node.seen
 ack:=h.node.ack
 num:=by show inB (i64.wrap (x.num+1)) 0 100000=true;rw[F7 h.num,bH];have:=h.num;omega
 clock:=h.node.clock
 slots:=h.node.slots
 wait:=h.node.wait
 limit:=h.node.limit
 rises:=h.node.rises
 rise:=h.node.rise
 sess:=by
  have hs:=(d7 x).1 h.node.sess
  refine(d7 _).2 ⟨?_,fun s hm=>?_,?_⟩
  ·show(((x.sess++[_]).length:Nat):Int)≤x.slots
   rw[List.length_append,List.length_singleton];have:=h.room;omega
  ·have hm:s∈x.sess++[(to,i64.wrap (x.num+1),false,(0:Int),())]:=hm
   rcases List.mem_append.1 hm with h1 | h1
   ·exact hs.2.1 s h1
   ·rw[List.mem_singleton.1 h1]
    have h2:=h.peer;have h3:=h.num;have h4:=h.node.wait;have h5:=h.nn
    rw[bH] at h4
    refine⟨?_,h2.2.2,?_,?_⟩
    ·show inB to 0 (i64.wrap (x.2.1 - 1))=true
     rw[bH,IntKind.wrap_i64];omega
    ·show inB (i64.wrap (x.num+1)) 0 100000=true
     rw[F7 h.num,bH];omega
    ·show inB 0 0 x.wait=true
     rw[bH];omega
  ·show(List.map oP (x.sess++[(to,i64.wrap (x.num+1),false,(0:Int),())])).Nodup
   rw[List.map_append,List.nodup_append]
   refine⟨hs.2.2,by simp,fun a ha b hb=>?_⟩
   obtain⟨s,hs1,rfl⟩:=List.mem_map.1 ha
   have hb:b=(to,false):=by simpa [oP] using hb
   rw[hb]
   rcases eZ x.sess to false with ⟨k,_,e,_⟩ | ⟨_,e⟩
   ·have:=h.slot;rw[e] at this;omega
   ·exact e s hs1
theorem uV{x:NodeT}{to:Int}(hz:SzN x)(h:SynOk x to):SzN (uW x to):=
 ⟨hz.state,hz.leaves,hz.list,hz.logs,hz.got,hz.acked,hz.seen,hz.lines,by
  have h1:=h.room;have h2:=h.node.slots;rw[bH] at h2
  show(x.sess++[_]).length≤aX
  rw[List.length_append,List.length_singleton];unfold aX;omega,hz.rises⟩
theorem HV{x:NodeT}(hz:SzN x)(to:Int):SzM (JO x to):=⟨hz.leaves,hz.got,Nat.zero_le _,oD,Nat.le_trans (hY _) (by decide)⟩
theorem IB:SzM GC:=⟨Nat.zero_le _,Nat.zero_le _,Nat.zero_le _,oD,Nat.zero_le _⟩
theorem yI{x:NodeT}(hz:SzN x)(to:Int):SzN (p5 x to).1∧SzM (p5 x to).2.1:=by
 unfold p5
 cases h:jS x to with
 | false=>exact⟨hz,IB⟩
 | true=>exact⟨uV hz (uY h),HV hz to⟩
theorem uX{x:NodeT}{to:Int}(h:jS x to=true):p5 x to=(uW x to,JO x to,true):=by unfold p5;rw[h];rfl
theorem yJ{x:NodeT}{to:Int}(h:jS x to=false):p5 x to=(x,GC,false):=by unfold p5;rw[h];rfl
-- who answers whom
structure RecTo (x:NodeT) (m:MsgT) (r:tZ):Prop where
 id:r.1.1=x.1
 to:∀ q∈r.2.1,q.2.2.1=m.2.1∧q.2.1=x.1
theorem pZ{x:NodeT}{m:MsgT}:∀ q∈([]:List MsgT),q.2.2.1=m.2.1∧q.2.1=x.1:=fun q h=>by cases h
theorem yD{x:NodeT}{m a:MsgT}(h:a.2.2.1=m.2.1∧a.2.1=x.1):∀ q∈[a],q.2.2.1=m.2.1∧q.2.1=x.1:=fun q hq=>by rw[List.mem_singleton.1 hq];exact h
theorem D1(x:NodeT)(m:MsgT):RecTo x m (hS x m):=by
 unfold hS
 cases iJ x m with
 | true=>exact⟨rfl,yD ⟨rfl,rfl⟩⟩
 | false=>exact⟨rfl,yD ⟨rfl,rfl⟩⟩
theorem D3(x:NodeT)(m:MsgT)(k:Nat):RecTo x m (jV x m k):=by
 unfold jV
 cases m.1==5 with
 | true=>exact⟨rfl,pZ⟩
 | false=>
  cases m.1==4 with
  | true=>exact⟨rfl,pZ⟩
  | false=>exact⟨rfl,yD ⟨rfl,rfl⟩⟩
theorem FY(x:NodeT)(m:MsgT):RecTo x m (oO x m):=by
 unfold oO
 cases fV x m with
 | false=>exact⟨rfl,pZ⟩
 | true=>
  show RecTo x m (nF x m)
  unfold nF
  cases m.1==0 with
  | true=>exact⟨rfl,yD ⟨rfl,rfl⟩⟩
  | false=>
   cases m.1==1 with
   | true=>exact⟨rfl,pZ⟩
   | false=>
    cases m.1==2 with
    | true=>exact D1 x m
    | false=>
     cases decide (nR x m (m.1==4)<0)with
     | true=>exact⟨rfl,pZ⟩
     | false=>exact D3 x m _
theorem C2{x:NodeT}{m q:MsgT}(h:q∈(oO x m).2.1):q.2.2.1=m.2.1∧q.2.1=x.1:=(FY x m).to q h
-- an exchange gone through
def fP(r:tZ):Bool:=r.2.2==0&& !((r.2.1.length:Int)==0)
def exB(w:aW)(p q:Int):Bool:=cW w&&(inB p 0 (i64.wrap ((w.1.length:Int) - 1))&&(inB q 0 (i64.wrap ((w.1.length:Int) - 1))&&p != q))
def cO(w:aW)(p q:Int):KC:=p5 (gt w.1 p.toNat) q
def d4(w:aW)(p q:Int):tZ:=oO (gt w.1 q.toNat) (cO w p q).2.1
def dY(w:aW)(p q:Int):tZ:=oO (cO w p q).1 (gt (d4 w p q).2.1 0)
def iU(w:aW)(p q:Int):tZ:=oO (d4 w p q).1 (gt (dY w p q).2.1 0)
def eV(w:aW)(p q:Int):Bool:=exB w p q&&((cO w p q).2.2&&(fP (d4 w p q)&&(fP (dY w p q)&&(iU w p q).2.2==0)))
def exW(w:aW)(p q:Int):aW:=((w.1.set p.toNat (dY w p q).1).set q.toNat (iU w p q).1,w.2.1,w.2.2.1,())
def exN(w:aW)(p q:Int):aW:=bif eV w p q then exW w p q else w
theorem FO{α:Type}{xs:List α}{i j:Nat}(h:i≠j)(a b c d:α):(((xs.set i a).set j b).set i c).set j d=(xs.set i c).set j d:=by
 rw[List.set_comm b c (Ne.symm h),List.set_set,List.set_set]
end Go.Abs
