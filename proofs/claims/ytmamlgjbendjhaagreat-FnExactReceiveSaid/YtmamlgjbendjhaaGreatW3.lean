/- A by-value reading of the model, and its soundness, part 3. -/
import Derived.Test.YtmamlgjbendjhaaGreatW2
set_option linter.unusedVariables false
/- Plain laws: joins, what was said, what lies beneath, what is over. -/
namespace Go.Abs
theorem wX(a b:Int):l2 b a= - l2 a b:=by
 unfold l2
 rcases Int.lt_trichotomy a b with h | h | h
 ·rw[decide_eq_true h,decide_eq_false (by omega:¬ b<a)];rfl
 ·subst h;rw[decide_eq_false (by omega:¬ a<a)];rfl
 ·rw[decide_eq_true h,decide_eq_false (by omega:¬ a<b)];rfl
theorem vX:∀ x y:List UInt8,Lib.compareBytes y x= - Lib.compareBytes x y
 | [],[]=>rfl
 | [],_::_=>rfl
 | _::_,[]=>rfl
 | a::x,b::y=>by
  unfold Lib.compareBytes
  by_cases h1:a<b
  ·have h2:¬ b<a:=fun h=>by rw[UInt8.lt_iff_toNat_lt] at h h1;omega
   simp[h1,h2]
  ·by_cases h2:b<a
   ·simp[h1,h2]
   ·simp[h1,h2,vX x y]
theorem sI(x y:Int):(if -x≠0 then -x else -y)= -(if x≠0 then x else y):=by
 by_cases h:x=0
 ·subst h;simp
 ·rw[if_pos h,if_pos (by omega)]
theorem yN(a b:dC):hY b a= - hY a b:=by
 unfold hY
 rw[wX a.1 b.1,wX a.2.1 b.2.1,wX a.2.2.1 b.2.2.1,wX a.2.2.2.1 b.2.2.2.1,show qE b.2.2.2.2.1 a.2.2.2.2.1= - qE a.2.2.2.2.1 b.2.2.2.2.1 from vX _ _,sI,sI,sI,sI]
theorem vV{y:dC}(h:1≤y.1):hY d4 y= -1:=by
 have e:l2 d4.1 y.1= -1:=by
  unfold l2;rw[decide_eq_true (show d4.1<y.1 from by show(0:Int)<y.1;omega)];rfl
 unfold hY;rw[e];rfl
def orZ(z:Int)(ls:List bC):Int:=match (List.range ls.length).find? (fun i=>(gt ls i).1 != 0)with
 | some i=>(gt ls i).1
 | none=>z
theorem xZ(z:Int)(ls:List bC):orZ z ls=(match ls.find? (fun x:bC=>x.1 != 0)with | some x=>x.1 | none=>z):=by
 have h:=lN (fun x:bC=>x.1 != 0) (fun x:bC=>x.1) z ls
 unfold orZ
 cases h1:(List.range ls.length).find? (fun i=>(gt ls i).1 != 0)<;>cases h2:ls.find? (fun x:bC=>x.1 != 0)<;>simp only[h1,h2] at h ⊢<;>exact h
theorem pE(z x:Int)(ls:List bC):orZ z ((x,())::ls)=if x≠0 then x else orZ z ls:=by
 rw[xZ,xZ,List.find?_cons]
 by_cases h:x=0
 ·subst h;rfl
 ·have:((x,()):bC).1 != 0:=by simpa using h
  rw[this,if_pos h]
def yG(a b:dC):List bC:=[(l2 a.1 b.1,()),(l2 a.2.1 b.2.1,()),(l2 a.2.2.1 b.2.2.1,()),(l2 a.2.2.2.1 b.2.2.2.1,())]
theorem CZ(a b:dC):orZ (qE a.2.2.2.2.1 b.2.2.2.2.1) (yG a b)=hY a b:=by
 unfold yG hY
 rw[pE,pE,pE,pE];rfl
theorem B7(x y:ByteArray):(bif Op.bytesLess (ByteArray.toList x) (ByteArray.toList y)then(-1:Int)else CA (!(Op.bytesLess (ByteArray.toList x) (ByteArray.toList y)||ByteArray.toList x==ByteArray.toList y)))=qE x y:=by
 rw[ByteArray.toList_eq,ByteArray.toList_eq];exact vU _ _
/-- The cells of a state that a join leans on. -/
structure Pos (s:aO):Prop where
 item:∀ x∈s.1,1≤x.2.1
 floor:∀ f∈s.2.1,0≤f.2.1
theorem StateOk.pos{s:aO}(h:StateOk s):Pos s where
 item x hx:=by
  have:=(h.item x hx).2.1
  unfold dZ at this;simp only[Bool.and_eq_true,bV] at this;omega
 floor f hf:=by have:=(h.floor f hf).2;rw[bV] at this;omega
def mxE(a b:dC):dC:=bif decide (hY a b<0)then b else a
def eO(a b:aO)(i:Int):dC:=mxE (bE a i).1 (bE b i).1
def flr(a b:aO)(i:Int):Int:=mxI true (cR a.2.1 i) (cR b.2.1 i)
def cU(a b:aO)(i:Nat):List cE:=bif decide ((eO a b i).1>flr a b i)then[((i:Int),eO a b i)] else[]
def cM(a b:aO)(i:Nat):List aY:=bif decide (flr a b i>0)then[((i:Int),flr a b i,())] else[]
def eA(a b:aO):aO:=(bH 5 (cU a b),bH 5 (cM a b),())
theorem nA(a b:aO)(i:Nat):(cU a b i).length≤1:=by unfold cU;cases decide ((eO a b i).1>flr a b i)<;>simp
theorem lK(a b:aO)(i:Nat):(cM a b i).length≤1:=by unfold cM;cases decide (flr a b i>0)<;>simp
theorem m8(a b:aO):(eA a b).1.length≤5∧(eA a b).2.1.length≤5:=
 ⟨c5 (n:=5) (L:=1) fun i _=>nA a b i,c5 (n:=5) (L:=1) fun i _=>lK a b i⟩
theorem jL(a b:aO):SzS (eA a b):=⟨Nat.le_trans (m8 a b).1 (by decide),Nat.le_trans (m8 a b).2 (by decide)⟩
theorem HJ{a b:aO}(ha:Pos a)(i:Int):0≤flr a b i:=by
 have h:0≤cR a.2.1 i:=by
  rcases kE a i with ⟨x,hx,_,e⟩ | ⟨_,e⟩
  ·rw[e];exact ha.floor x hx
  ·omega
 unfold flr mxI;simp only[if_true];split<;>omega
theorem C5:mxE d4 d4=d4:=by
 unfold mxE;cases decide (hY d4 d4<0)<;>rfl
theorem FK{a b:aO}{i:Int}(ha:bE a i=(d4,false))(hb:bE b i=(d4,false)):eO a b i=d4:=by
 unfold eO;rw[ha,hb];exact C5
theorem sA{a b:aO}{i:Int}{y:dC}(ha:bE a i=(d4,false))(hb:bE b i=(y,true))(hy:1≤y.1):eO a b i=y:=by
 unfold eO mxE;rw[ha,hb];rw[show hY (d4,false).1 (y,true).1= -1 from vV hy];rfl
theorem rZ{a b:aO}{i:Int}{x:dC}(ha:bE a i=(x,true))(hb:bE b i=(d4,false))(hx:1≤x.1):eO a b i=x:=by
 unfold eO mxE;rw[ha,hb];rw[show hY (x,true).1 (d4,false).1=1 from by rw[show hY (x,true).1 (d4,false).1= - hY d4 x from yN d4 x,vV hx];rfl];rfl
theorem AF{a b:aO}{i:Int}{x y:dC}(ha:bE a i=(x,true))(hb:bE b i=(y,true)):eO a b i=bif decide (hY y x>0)then y else x:=by
 unfold eO mxE;rw[ha,hb]
 show(bif decide (hY x y<0)then y else x)=_
 rw[show decide (hY x y<0)=decide (hY y x>0)from ?_]
 rw[yN x y]
 by_cases h:hY x y<0
 ·rw[decide_eq_true h,decide_eq_true (by omega)]
 ·rw[decide_eq_false h,decide_eq_false (by omega)]
theorem fR{a b:aO}{i:Nat}{e:dC}(he:eO a b i=e)(h:e.1>flr a b i):cU a b i=[((i:Int),e)]:=by
 unfold cU;rw[he,decide_eq_true h];rfl
theorem eR{a b:aO}{i:Nat}{e:dC}(he:eO a b i=e)(h:¬ e.1>flr a b i):cU a b i=[]:=by
 unfold cU;rw[he,decide_eq_false h];rfl
theorem nT{a b:aO}{i:Nat}(h:flr a b i>0):cM a b i=[((i:Int),flr a b i,())]:=by
 unfold cM;rw[decide_eq_true h];rfl
theorem nU{a b:aO}{i:Nat}(h:¬ flr a b i>0):cM a b i=[]:=by
 unfold cM;rw[decide_eq_false h];rfl
theorem kQ{s:aO}(hs:Pos s)(i:Int):(∃ x:dC,1≤x.1∧bE s i=(x,true))∨bE s i=(d4,false):=by
 rcases kG s i with ⟨x,hx,_,e⟩ | ⟨_,e⟩
 ·exact .inl ⟨x.2,hs.item x hx,e⟩
 ·exact .inr e
-- less
def IM(a b:aO):Bool:=aZ a&&(aZ b&&A9 (eA a b) b)
-- over
def gone(s:aO)(id:Int):Int:=bif aZ s then(bif(bE s id).2 then(bif(bE s id).1.2.1==0 then IntKind.i64.wrap ((bE s id).1.1 - 1)else(bE s id).1.1)else cR s.2.1 id)else 0
-- what was said
def rS:aO:=([],[],())
def DL(g:Nat→aO):Nat→aO
 | 0=>rS
 | k+1=>eA (DL g k) (g k)
theorem sF:SzS rS:=⟨Nat.zero_le _,Nat.zero_le _⟩
def y8(w:gI)(i:Nat):aO:=(gt w.2.2.1 i).2
def IP(w:gI):aO:=bif oJ w then DL (y8 w) w.2.2.1.length else rS
def C9(w:gI)(node:Int):Nat→Int
 | 0=>0
 | k+1=>C9 w node k+CA ((gt w.2.2.1 k).1==node)
def DA(w:gI)(node:Int):Int:=C9 w node w.2.2.1.length
def zH(w:gI)(ls:List bC):Nat→aO
 | 0=>rS
 | k+1=>bif inB (gt ls k).1 0 (IntKind.i64.wrap (((w.2.2.1.length:Nat):Int) - 1))then eA (zH w ls k) (y8 w (gt ls k).1.toNat)else zH w ls k
def HE(w:gI)(ls:List bC):aO:=bif oJ w then zH w ls ls.length else rS
def F0(w:gI)(s:aO):List bC:=bif oJ w&&aZ s then bH w.2.2.1.length (fun i=>bif IM (y8 w i) s then[((i:Int),())] else[])else[]
theorem HH{s:aO}(hs:aZ s=true)(id:Int):gone s id=(bif(bE s id).2 then(bif(bE s id).1.2.1==1 then(bE s id).1.1 else IntKind.i64.wrap ((bE s id).1.1 - 1))else cR s.2.1 id):=by
 unfold gone;rw[hs]
 rcases kG s id with ⟨x,hx,_,e⟩ | ⟨_,e⟩
 ·rw[e]
  obtain⟨i,hi,rfl⟩:=mI hx
  show(bif(gt s.1 i).2.2.1==0 then _ else _)=bif(gt s.1 i).2.2.1==1 then _ else _
  rcases FC hs hi with h | h<;>rw[h]<;>rfl
 ·rw[e];rfl
end Go.Abs
/- Plain laws: what the judges decide. -/
namespace Go.Abs
theorem yF{s:aO}(hs:aZ s=false)(id:Int):gone s id=0:=by unfold gone;rw[hs];rfl
theorem uD{β:Type}{q r:Prop}[Decidable q][Decidable r]{x y:β}(h:q)(h':r):(bif decide q&&decide r then x else y)=x:=by
 rw[decide_eq_true h,decide_eq_true h'];rfl
-- own
-- views
-- heard
-- seen
-- E7, DG, grown
def E7(w:gI):Bool:=oJ w&&cD w.1.length fun i=>BA (CD (gt w.1 i).state) (CD (IP w))
def G7(s:aO)(id:Int):dC×Bool:=bE (CD s,[],()) id
def AP(w:gI)(id:Int):Nat→Int
 | 0=>0
 | k+1=>AP w id k+CA (G7 (gt w.1 k).state id).2
def DG(w:gI)(id:Int):Int:=bif oJ w then AP w id w.1.length else 0
end Go.Abs
/- Plain laws: differences of views applied, and what they are. -/
namespace Go.Abs
end Go.Abs
/- Plain laws: draws. -/
namespace Go.Abs
abbrev IR:=List bC×Int×Int×Unit
structure CurOk (c:IR):Prop where
 len:c.1.length≤1048576
 lo:0≤c.2.1
 hi:c.2.1≤c.1.length
/-- A loop whose rounds are told by what they keep. -/
theorem It.ex {ι σ:Type} {lvl:Nat} {c:Nat→Nat→ι→(σ→Option Out)→σ→Option Out} (Inv:Nat→σ→Prop) (Good:Out→Prop) (N:Nat)
  (hs:∀ i x,i<N→Inv i x→∃ y,Inv (i+1) y∧∀ n,lvl≤n→∀ aA a rec,c n aA a rec x=rec y)
  (he:∀ x,Inv N x→∃ o,Good o∧∀ n,lvl≤n→It (c n) x (fun _=>some o)):∀ (m j:Nat) x,j+m=N→Inv j x→∃ o,Good o∧∀ n,lvl≤n→It (c n) x (fun _=>some o)
 | 0,j,x,hj,hx=>he x ((show j=N by omega)▸hx)
 | m+1,j,x,hj,hx=>by
  obtain⟨y,hy,h⟩:=hs j x (by omega) hx
  obtain⟨o,ho,h'⟩:=It.ex Inv Good N hs he m (j+1) y (by omega) hy
  exact⟨o,ho,fun n hn=>It.next (fun aA a rec=>h n hn aA a rec) (h' n hn)⟩
def IA:List ByteArray:=[⟨#[]⟩,⟨#[97]⟩,⟨#[98]⟩,⟨#[97,98]⟩,⟨#[49,50,51,52,53,54,55,56]⟩,⟨#[49,50,51,52,53,54,55,56,57]⟩]
def IQ(e:dC):Prop:=e.2.2.2.2.1∈IA
structure StD (k:Nat) (s:aO):Prop where
 a:s.1.length≤k
 b:s.2.1.length≤k
 data:∀ x∈s.1,IQ x.2
theorem StD.sz{k:Nat}{s:aO}(h:StD k s)(hk:k≤1048576):SzS s:=⟨Nat.le_trans h.a hk,Nat.le_trans h.b hk⟩
theorem mX{α:Type}{n:Nat}{g:Nat→List α}{x:α}(h:x∈bH n g):∃ i,i<n∧x∈g i:=by
 induction n with
 | zero=>exact(List.not_mem_nil h).elim
 | succ n ih=>
  rw[dE] at h
  rcases List.mem_append.1 h with h | h
  ·obtain⟨i,hi,hx⟩:=ih h;exact⟨i,by omega,hx⟩
  ·exact⟨n,by omega,h⟩
/-- The loop of a new cursor, and what comes behind it. -/
theorem It.new {lvl:Nat} {c:Nat→Nat→Unit→(Int×Int→Option Out)→Int×Int→Option Out} (Good:Out→Prop) (b:List bC) (hb:b.length≤1048576)
  (hs:∀ (i:Nat) (h:Int),i<b.length→i<4000→∃ h',∀ n,lvl≤n→∀ aA a rec,c n aA a rec (h,(i:Int))=rec (h',((i+1:Nat):Int)))
  (he:∀ (h i:Int),CurOk (b,0,h,())→(¬ i<((b.length:Nat):Int)∨¬ i<4000)→∃ o,Good o∧∀ n,lvl≤n→∃ M,∀ aA,M≤aA→∀ a rec,c n aA a rec (h,i)=some o) (h0:Int):
  ∃ o,Good o∧∀ n,lvl≤n→It (c n) (h0,(0:Int)) (fun _=>some o):=by
 refine It.ex (fun i y=>∃ h,y=(h,(i:Int))) Good (min b.length 4000) ?_ ?_ (min b.length 4000) 0 (h0,(0:Int)) (by omega) ⟨h0,rfl⟩
 ·rintro i y hi ⟨h,rfl⟩
  obtain⟨h',hh⟩:=hs i h (by omega) (by omega)
  exact⟨_,⟨h',rfl⟩,hh⟩
 ·rintro y ⟨h,rfl⟩
  obtain⟨o,ho,hh⟩:=he h ((min b.length 4000:Nat):Int) ⟨hb,by show(0:Int)≤0;omega,by show(0:Int)≤((b.length:Nat):Int);omega⟩ (by omega)
  refine⟨o,ho,fun n hn=>?_⟩
  obtain⟨M,hM⟩:=hh n hn
  refine⟨M+1,fun aA k hf hk a=>?_⟩
  obtain⟨k,rfl⟩:∃ k',k=k'+1:=⟨k - 1,by omega⟩
  exact hM aA (by omega) a _
end Go.Abs
-- marks, tables, taking and receiving: plain laws
namespace Go.Abs
abbrev MsgT:=Int×Int×Int×Int×Int×List bC×Int×List bC×List bC×List cE×List aY×List aY×Unit
abbrev MsgT.hi(m:MsgT):Int:=m.2.2.2.2.1
abbrev MsgT.tree(m:MsgT):iV:=(m.2.2.2.2.2.1,m.2.2.2.2.2.2.1,())
abbrev MsgT.vec(m:MsgT):List bC:=m.2.2.2.2.2.2.2.1
abbrev MsgT.leaves(m:MsgT):List bC:=m.2.2.2.2.2.2.2.2.1
abbrev MsgT.part(m:MsgT):aO:=(m.2.2.2.2.2.2.2.2.2.1,m.2.2.2.2.2.2.2.2.2.2.1,())
abbrev MsgT.marks(m:MsgT):List aY:=m.2.2.2.2.2.2.2.2.2.2.2.1
structure SzM (m:MsgT):Prop where
 leaves:m.tree.1.length≤bA
 vec:m.vec.length≤bA
 list:m.leaves.length≤bA
 part:SzS m.part
 marks:m.marks.length≤bA
theorem x4(a b:Int):mxI true a b=max a b:=by unfold mxI;simp only[if_true];split<;>omega
theorem AK(a b:Int):mxI false a b=min a b:=by unfold mxI;simp only[Bool.false_eq_true,if_false];split<;>omega
-- lists in order
theorem nD{α:Type}{k:α→Int}{g:Nat→List α}(h1:∀ i,(g i).length≤1)(h:∀ i,∀ x∈g i,k x=(i:Int)):∀ n,(bH n g).Pairwise (fun x y=>k x<k y)
 | 0=>by rw[qR];exact List.Pairwise.nil
 | n+1=>by
  rw[dE,List.pairwise_append]
  refine⟨nD h1 h n,?_,fun x hx y hy=>?_⟩
  ·match hg:g n with
   | []=>exact List.Pairwise.nil
   | [x]=>exact List.pairwise_singleton _ _
   | x::y::t=>have:=h1 n;rw[hg] at this;simp at this
  ·obtain⟨i,hi,hx⟩:=mX hx
   rw[h i x hx,h n y hy];omega
theorem nW{s:aO}(h:StateOk s)(i:Int):0≤cR s.2.1 i∧cR s.2.1 i≤1000:=by
 rcases kE s i with ⟨x,hx,_,e⟩ | ⟨_,e⟩
 ·have:=(h.floor x hx).2;rw[bV] at this;rw[e];omega
 ·rw[e];omega
theorem nY{s:aO}(h:StateOk s)(i:Int):(bE s i).1=d4∨dZ (bE s i).1=true:=by
 rcases kG s i with ⟨x,hx,_,e⟩ | ⟨_,e⟩
 ·rw[e];exact .inr (h.item x hx).2.1
 ·rw[e];exact .inl rfl
theorem CW{a b:aO}(ha:StateOk a)(hb:StateOk b)(i:Int):eO a b i=d4∨dZ (eO a b i)=true:=by
 unfold eO mxE
 cases decide (hY (bE a i).1 (bE b i).1<0)with
 | true=>exact nY hb i
 | false=>exact nY ha i
theorem DY{a b:aO}(ha:StateOk a)(hb:StateOk b)(i:Int):0≤flr a b i∧flr a b i≤1000:=by
 have h1:=nW ha i
 have h2:=nW hb i
 unfold flr;rw[x4];omega
theorem vO{a b:aO}{i:Nat}{x:cE}(h:x∈cU a b i):x=((i:Int),eO a b i)∧(eO a b i).1>flr a b i:=by
 unfold cU at h
 cases hd:decide ((eO a b i).1>flr a b i)with
 | false=>rw[hd] at h;cases h
 | true=>rw[hd] at h;exact⟨List.mem_singleton.1 h,of_decide_eq_true hd⟩
theorem nV{a b:aO}{i:Nat}{x:aY}(h:x∈cM a b i):x=((i:Int),flr a b i,())∧flr a b i>0:=by
 unfold cM at h
 cases hd:decide (flr a b i>0)with
 | false=>rw[hd] at h;cases h
 | true=>rw[hd] at h;exact⟨List.mem_singleton.1 h,of_decide_eq_true hd⟩
theorem wR{i:Nat}(h:i<5):fC (i:Int)=true:=by unfold fC;rw[bV];omega
theorem StateOk.join{a b:aO}(ha:StateOk a)(hb:StateOk b):StateOk (eA a b) where
 item x hx:=by
  obtain⟨i,hi,hx⟩:=mX hx
  obtain⟨rfl,hg⟩:=vO hx
  have hf:=DY ha hb (i:Int)
  refine⟨wR hi,?_,?_⟩
  ·rcases CW ha hb (i:Int)with e | e
   ·rw[e] at hg;have h0:(0:Int)>flr a b i:=hg;omega
   ·exact e
  ·show cR (eA a b).2.1 (i:Int)<(eO a b i).1
   rcases kE (eA a b) (i:Int)with ⟨f,hf',e1,e⟩ | ⟨_,e⟩
   ·obtain⟨j,_,hf'⟩:=mX hf'
    obtain⟨rfl,_⟩:=nV hf'
    have:(j:Int)=(i:Int):=e1
    rw[e];show flr a b (j:Int)<_;rw[this];omega
   ·rw[e];omega
 items:=nD (k:=fun x:cE=>x.1) (nA a b) (fun i x hx=>by rw[(vO hx).1]) 5
 floor f hf:=by
  obtain⟨i,hi,hf⟩:=mX hf
  obtain⟨rfl,hg⟩:=nV hf
  have:=DY ha hb (i:Int)
  refine⟨wR hi,?_⟩
  rw[bV];show 1≤flr a b i∧flr a b i≤1000;omega
 floors:=nD (k:=fun x:aY=>x.1) (lK a b) (fun i x hx=>by rw[(nV hx).1]) 5
theorem tP{a b:aO}(ha:aZ a=true)(hb:aZ b=true):aZ (eA a b)=true:=
 (bI _).2 (((bI _).1 ha).join ((bI _).1 hb))
theorem sG:aZ rS=true:=rfl
-- marks
def dY(ms:List aY):Bool:=cD ms.length (eB ms)
def x7(ms:List aY):Bool:=cD ms.length (fZ ms)
theorem BO(ms:List aY):x7 ms=dY ms:=jQ fun i hi=>by unfold fZ eB;ac_rfl
def hS(s:aO)(i:Nat):List aY:=bif decide (gone s i>0)then[((i:Int),gone s i,())] else[]
def fM(s:aO):List aY:=bH 5 (hS s)
theorem nR(s:aO)(i:Nat):(hS s i).length≤1:=by unfold hS;cases decide (gone s i>0)<;>simp
theorem iK(s:aO):(fM s).length≤5:=c5 (n:=5) (L:=1) fun i _=>nR s i
theorem FW(s:aO)(i:Int):gone s i≤1000:=by
 cases hs:aZ s with
 | false=>rw[yF hs];omega
 | true=>
  have h:=(bI s).1 hs
  have hf:=nW h i
  unfold gone;rw[hs]
  show(bif(bE s i).2 then _ else _)≤(1000:Int)
  cases h2:(bE s i).2 with
  | false=>exact hf.2
  | true=>
   have he:(bE s i).1.1≤1000∧0≤(bE s i).1.1:=by
    rcases nY h i with e | e
    ·rw[e];show(0:Int)≤1000∧(0:Int)≤0;omega
    ·unfold dZ at e;simp only[Bool.and_eq_true,bV] at e;omega
   show(bif(bE s i).1.2.1==0 then IntKind.i64.wrap ((bE s i).1.1 - 1)else(bE s i).1.1)≤1000
   cases (bE s i).1.2.1==0 with
   | false=>exact he.1
   | true=>show IntKind.i64.wrap ((bE s i).1.1 - 1)≤1000;rw[IntKind.wrap_i64];omega
theorem B5{fs:List aY}(g:Nat→List aY)(he:fs=bH 5 g)(h1:∀ i,(g i).length≤1)(h:∀ i,∀ x∈g i,x.1=(i:Int)∧1≤x.2.1∧x.2.1≤1000):StateOk ([],fs,()) where
 item x hx:=by cases hx
 items:=List.Pairwise.nil
 floor f hf:=by
  have hf:f∈fs:=hf
  rw[he] at hf
  obtain⟨i,hi,hf⟩:=mX hf
  obtain⟨e,h2,h3⟩:=h i f hf
  exact⟨by rw[e];exact wR hi,bV.2 ⟨h2,h3⟩⟩
 floors:=by
  show fs.Pairwise _
  rw[he];exact nD (k:=fun x:aY=>x.1) h1 (fun i x hx=>(h i x hx).1) 5
theorem tJ{ms:List aY}(h:dY ms=true){i:Nat}(hi:i<ms.length):0≤(gt ms i).1∧(gt ms i).1≤4∧1≤(gt ms i).2.1∧(gt ms i).2.1≤1000:=by
 unfold dY at h
 have:=cL.1 h i hi
 unfold eB fC at this
 simp only[Bool.and_eq_true,bV] at this
 omega
-- tables
def y5(r:cS)(f:aY):cS:=(r.1.set f.1.toNat (mxI true (gt r.1 f.1.toNat).1 f.2.1,()),())
def rP(r:cS)(ms:List aY):Nat→cS
 | 0=>r
 | i+1=>y5 (rP r ms i) (gt ms i)
def qQ(t:List cS)(k:Int)(ms:List aY):Bool:=inB k 0 (IntKind.i64.wrap (((t.length:Nat):Int) - 1))&&(dY ms&& !decide ((((gt t k.toNat).1.length:Nat):Int)<5))
def bZ(t:List cS)(k:Nat)(ms:List aY)(i:Nat):List cS:=t.set k (rP (gt t k) ms i)
def bL(t:List cS)(k:Int)(ms:List aY):List cS:=bif qQ t k ms then bZ t k.toNat ms ms.length else t
theorem kT(r:cS)(ms:List aY):∀ i,(rP r ms i).1.length=r.1.length
 | 0=>rfl
 | i+1=>by show(List.set _ _ _).length=_;rw[List.length_set];exact kT r ms i
theorem eI{α:Type}[Inhabited α]{xs:List α}{i:Nat}(h:i<xs.length)(x:α):gt (xs.set i x) i=x:=by
 rw[gS (by rw[List.length_set];exact h)];simp
theorem jD{α:Type}[Inhabited α]{xs:List α}{i j:Nat}(h:i≠j)(x:α):gt (xs.set i x) j=gt xs j:=by
 unfold gt;simp[h]
theorem wG{α:Type}[Inhabited α]{xs:List α}{i:Nat}:xs.set i (gt xs i)=xs:=by
 rcases Nat.lt_or_ge i xs.length with h | h
 ·rw[gS h];exact List.set_getElem_self h
 ·exact List.set_eq_of_length_le h
theorem oM(t:List cS)(k:Nat)(ms:List aY):bZ t k ms 0=t:=wG
theorem dT(t:List cS)(k:Int)(ms:List aY):(bL t k ms).length=t.length:=by
 unfold bL
 cases qQ t k ms with
 | false=>rfl
 | true=>show(bZ _ _ _ _).length=_;unfold bZ;rw[List.length_set]
theorem m9{k:Int}{n:Nat}(hn:n≤bA)(h:inB k 0 (IntKind.i64.wrap ((n:Int) - 1))=true):k.toNat<n∧((k.toNat:Nat):Int)=k:=by
 rw[bV,IntKind.wrap_i64] at h;unfold bA at hn;omega
theorem gO(t:List cS)(k:Int)(ms:List aY)(j:Nat):((gt (bL t k ms) j).1.length)=(gt t j).1.length:=by
 unfold bL
 cases hb:qQ t k ms with
 | false=>rfl
 | true=>
  show(gt (bZ t k.toNat ms ms.length) j).1.length=_
  unfold bZ
  rcases Nat.lt_or_ge k.toNat t.length with h | h
  ·by_cases e:k.toNat=j
   ·subst e;rw[eI h,kT]
   ·rw[jD e]
  ·rw[List.set_eq_of_length_le h]
theorem yR{r:cS}{ms:List aY}(hm:dY ms=true)(hr:∀ j,j<r.1.length→inB (gt r.1 j).1 0 1000=true):∀ i,i≤ms.length→∀ j,j<r.1.length→inB (gt (rP r ms i).1 j).1 0 1000=true
 | 0,_,j,hj=>hr j hj
 | i+1,hi,j,hj=>by
  have ih:=yR hm hr i (by omega)
  have hid:=tJ hm (i:=i) (by omega)
  have hl:=kT r ms i
  show inB (gt (List.set (rP r ms i).1 (gt ms i).1.toNat (mxI true (gt (rP r ms i).1 (gt ms i).1.toNat).1 (gt ms i).2.1,())) j).1 0 1000=true
  by_cases e:(gt ms i).1.toNat=j
  ·subst e
   rw[eI (by omega)]
   have:=ih _ hj
   rw[bV] at this ⊢
   show 0≤mxI true _ _∧mxI true _ _≤1000
   rw[x4];omega
  ·rw[jD e];exact ih j hj
theorem qU{t:List cS}{n k:Int}{ms:List aY}(ht:gC t n=true):gC (bL t k ms) n=true:=by
 unfold gC at ht ⊢
 simp only[Bool.and_eq_true] at ht ⊢
 obtain⟨h1,h2,h3⟩:=ht
 refine⟨h1,by rw[dT];exact h2,?_⟩
 rw[dT]
 rw[cL] at h3 ⊢
 intro j hj
 have h4:=h3 j hj
 unfold nS at h4 ⊢
 simp only[Bool.and_eq_true] at h4 ⊢
 rw[gO]
 refine⟨h4.1,?_⟩
 have h5:=cL.1 h4.2
 rw[cL]
 intro i hi
 unfold bL
 cases hb:qQ t k ms with
 | false=>exact h5 i hi
 | true=>
  show inB (gt (gt (bZ t k.toNat ms ms.length) j).1 i).1 0 1000=true
  unfold bZ
  by_cases e:k.toNat=j
  ·subst e
   rw[eI hj]
   have hm:dY ms=true:=by unfold qQ at hb;simp only[Bool.and_eq_true] at hb;exact hb.2.1
   exact yR hm h5 _ (Nat.le_refl _) i hi
  ·rw[jD e];exact h5 i hi
def gT(t:List cS)(id:Int)(k:Nat):Bool:=inB id 0 (IntKind.i64.wrap ((((gt t k).1.length:Nat):Int) - 1))
def dV(t:List cS)(id:Int):Nat→Int
 | 0=>0
 | k+1=>bif(k:Int)==0 then(gt (gt t k).1 id.toNat).1 else bif decide ((gt (gt t k).1 id.toNat).1<dV t id k)then(gt (gt t k).1 id.toNat).1 else dV t id k
def fI(t:List cS)(id:Int):Int:=bif cD t.length (gT t id)then dV t id t.length else 0
-- pruning
def fB(s:aO)(t:List cS)(i:Nat):List aY:=bif decide (mxI false (fI t i) (gone s i)>0)then[((i:Int),mxI false (fI t i) (gone s i),())] else[]
def kO(s:aO)(t:List cS):aO:=([],bH 5 (fB s t),())
def jX(s:aO)(t:List cS):aO:=bif aZ s then eA s (kO s t)else s
theorem lB(s:aO)(t:List cS)(i:Nat):(fB s t i).length≤1:=by unfold fB;cases decide (mxI false (fI t i) (gone s i)>0)<;>simp
theorem rJ(s:aO)(t:List cS):aZ (kO s t)=true:=
 (bI _).2 (B5 (fB s t) rfl (lB s t) fun i x hx=>by
  unfold fB at hx
  cases hd:decide (mxI false (fI t i) (gone s i)>0)with
  | false=>rw[hd] at hx;cases hx
  | true=>
   rw[hd] at hx
   have e:=List.mem_singleton.1 hx
   have h0:=of_decide_eq_true hd
   have hg:=FW s i
   rw[e];refine⟨rfl,h0,?_⟩
   show mxI false (fI t i) (gone s i)≤1000
   rw[AK];omega)
theorem rI(s:aO)(t:List cS):SzS (kO s t):=⟨Nat.zero_le _,Nat.le_trans (c5 (n:=5) (L:=1) fun i _=>lB s t i) (by decide)⟩
theorem CV{s:aO}(h:aZ s=true)(t:List cS):aZ (jX s t)=true:=by
 unfold jX;rw[h];exact tP h (rJ s t)
theorem CU{s:aO}(h:SzS s)(t:List cS):SzS (jX s t):=by
 unfold jX;cases aZ s with
 | false=>exact h
 | true=>exact jL _ _
-- vectors
def cT(v:List bC)(k n:Int):List bC:=bif inB k 0 (IntKind.i64.wrap (((v.length:Nat):Int) - 1))then v.set k.toNat (mxI true (gt v k.toNat).1 n,())else v
theorem fJ(v:List bC)(k n:Int):(cT v k n).length=v.length:=by
 unfold cT;cases inB k 0 (IntKind.i64.wrap (((v.length:Nat):Int) - 1))with
 | false=>rfl
 | true=>exact List.length_set ..
theorem qT(v:List bC)(k n:Int)(j:Nat):(gt (cT v k n) j).1=(gt v j).1∨(gt (cT v k n) j).1=max (gt v j).1 n:=by
 unfold cT;cases inB k 0 (IntKind.i64.wrap (((v.length:Nat):Int) - 1))with
 | false=>exact .inl rfl
 | true=>
  show(gt (v.set _ _) j).1=_∨(gt (v.set _ _) j).1=_
  rcases Nat.lt_or_ge k.toNat v.length with h | h
  ·by_cases e:k.toNat=j
   ·subst e;rw[eI h];exact .inr (x4 _ _)
   ·rw[jD e];exact .inl rfl
  ·rw[List.set_eq_of_length_le h];exact .inl rfl
theorem xE(v:List bC){k n:Int}{j:Nat}(h:k.toNat≠j):gt (cT v k n) j=gt v j:=by
 unfold cT;cases inB k 0 (IntKind.i64.wrap (((v.length:Nat):Int) - 1))with
 | false=>rfl
 | true=>exact jD h _
theorem qS{v:List bC}{m k n:Int}(h:eY v m=true)(hn:n≤100000):eY (cT v k n) m=true:=by
 unfold eY at h ⊢
 simp only[Bool.and_eq_true] at h ⊢
 rw[fJ]
 refine⟨h.1,h.2.1,?_⟩
 have h3:=cL.1 h.2.2
 rw[cL]
 intro i hi
 have:=h3 i hi
 rw[bV] at this ⊢
 rcases qT v k n i with e | e<;>rw[e]<;>omega
end Go.Abs
-- taking and receiving: plain laws
namespace Go.Abs
-- rises
def uZ(r:j7)(e:dC):Bool:=decide (e.1>r.1)||(e.1==r.1&&decide (e.2.2.1>r.2.1))
def tA(clock:Int)(r:j7)(e:dC):j7:=bif uZ r e then(e.1,e.2.2.1,clock,())else r
def cP(clock:Int)(rs:List j7)(xs:List cE):Nat→List j7
 | 0=>rs
 | i+1=>(cP clock rs xs i).set (gt xs i).1.toNat (tA clock (gt (cP clock rs xs i) (gt xs i).1.toNat) (gt xs i).2)
theorem gH(clock:Int)(rs:List j7)(xs:List cE):∀ i,(cP clock rs xs i).length=rs.length
 | 0=>rfl
 | i+1=>by show(List.set _ _ _).length=_;rw[List.length_set];exact gH clock rs xs i
def sZ(clock:Int)(r:j7):Bool:=inB r.1 0 1000&&(inB r.2.1 0 100000&&inB r.2.2.1 0 clock)
theorem uY{clock:Int}(hc:0≤clock){rs:List j7}{s:aO}(hs:StateOk s)(h:∀ j,j<rs.length→sZ clock (gt rs j)=true):
  ∀ i,i≤s.1.length→∀ j,j<rs.length→sZ clock (gt (cP clock rs s.1 i) j)=true
 | 0,_,j,hj=>h j hj
 | i+1,hi,j,hj=>by
  have ih:=uY hc hs h i (by omega)
  have he:=(hs.item _ (dX (xs:=s.1) (i:=i) (by omega))).2.1
  show sZ clock (gt ((cP clock rs s.1 i).set (gt s.1 i).1.toNat (tA clock (gt (cP clock rs s.1 i) (gt s.1 i).1.toNat) (gt s.1 i).2)) j)=true
  by_cases e:(gt s.1 i).1.toNat=j
  ·rw[e,eI (by rw[gH];exact hj)]
   unfold tA
   cases uZ (gt (cP clock rs s.1 i) j) (gt s.1 i).2 with
   | false=>exact ih j hj
   | true=>
    unfold dZ at he
    simp only[Bool.and_eq_true,bV] at he
    show sZ clock ((gt s.1 i).2.1,(gt s.1 i).2.2.2.1,clock,())=true
    unfold sZ
    simp only[Bool.and_eq_true,bV]
    omega
  ·rw[jD e];exact ih j hj
-- a node with another state, other rows and rises
def tkS(x:NodeT)(s:aO):List cS:=bL x.seen x.1 (fM (eA x.state s))
def tkP(x:NodeT)(s:aO):aO:=jX (eA x.state s) (tkS x s)
def tkR(x:NodeT)(s:aO):List j7:=cP x.clock x.rises (tkP x s).1 (tkP x s).1.length
def lX(x:NodeT)(s:aO):NodeT:=
 (x.1,x.2.1,(tkP x s).1,(tkP x s).2.1,(cW (tkP x s)).1,(cW (tkP x s)).2.1,x.2.2.2.2.2.2.1,x.2.2.2.2.2.2.2.1,x.2.2.2.2.2.2.2.2.1,x.got,x.acked,tkS x s,x.num,x.slots,x.sess,x.wait,x.limit,x.clock,tkR x s,())
theorem y6(a:List bC):iT a a=true:=by
 unfold iT;simp[cD]
structure NodeOk (x:NodeT):Prop where
 n:inB x.2.1 1 5=true
 id:inB x.1 0 (IntKind.i64.wrap (x.2.1 - 1))=true
 state:aZ x.state=true
 tree:sR x=true
 log:fV x.log=true
 got:eY x.got x.2.1=true
 acked:eY x.acked x.2.1=true
 own:((gt x.got x.1.toNat).1==dL x.log)=true
 seen:gC x.seen x.2.1=true
 ack:v6 x=true
 num:inB x.num 0 100000=true
 clock:inB x.clock 0 100000=true
 slots:inB x.slots 1 4=true
 wait:inB x.wait 1 20=true
 limit:inB x.limit 1 50=true
 rises:((x.rises.length:Nat):Int)==5
 rise:cD x.rises.length (jG x)=true
 sess:jF x=true
theorem nQ(x:NodeT):iR x=true↔NodeOk x:=by
 unfold iR jI
 simp only[Bool.and_eq_true]
 constructor
 ·rintro ⟨h1,h2,h3,h4,h5,h6,h7,h8,h9,h10,h11,h12,h13,h14,h15,h16,h17,h18⟩
  exact⟨h1,h2,h3,h4,h5,h6,h7,h8,h9,h10,h11,h12,h13,h14,h15,h16,h17,h18⟩
 ·rintro ⟨h1,h2,h3,h4,h5,h6,h7,h8,h9,h10,h11,h12,h13,h14,h15,h16,h17,h18⟩
  exact⟨h1,h2,h3,h4,h5,h6,h7,h8,h9,h10,h11,h12,h13,h14,h15,h16,h17,h18⟩
theorem yY{x:NodeT}{s:aO}(h:NodeOk x)(hs:aZ s=true):aZ (tkP x s)=true:=CV (tP h.state hs) _
theorem NodeOk.take{x:NodeT}{s:aO}(h:NodeOk x)(hs:aZ s=true):NodeOk (lX x s) where
 n:=h.n
 id:=h.id
 state:=yY h hs
 tree:=by
  show(iT (cW (tkP x s)).1 (cW (tkP x s)).1&&(cW (tkP x s)).2.1==(cW (tkP x s)).2.1)=true
  rw[y6];simp
 log:=h.log
 got:=h.got
 acked:=h.acked
 own:=h.own
 seen:=qU h.seen
 ack:=h.ack
 num:=h.num
 clock:=h.clock
 slots:=h.slots
 wait:=h.wait
 limit:=h.limit
 rises:=by
  show(((cP x.clock x.rises (tkP x s).1 (tkP x s).1.length).length:Nat):Int)==5
  rw[gH];exact h.rises
 rise:=by
  show cD (cP x.clock x.rises (tkP x s).1 (tkP x s).1.length).length _=true
  rw[gH,cL]
  intro i hi
  have hc:=h.clock;rw[bV] at hc
  exact uY hc.1 ((bI _).1 (yY h hs)) (fun j hj=>cL.1 h.rise j hj) _ (Nat.le_refl _) i hi
 sess:=h.sess
theorem yX(x:NodeT)(s:aO):SzS (tkP x s):=CU (jL _ _) _
theorem A3(s:aO):(cW s).1.length≤bA:=by
 unfold cW;cases aZ s with
 | false=>exact Nat.zero_le _
 | true=>show 4≤bA;decide
theorem kH{x:NodeT}(h:SzN x)(s:aO):SzN (lX x s) where
 state:=yX x s
 leaves:=A3 _
 list:=h.list
 logs:=h.logs
 got:=h.got
 acked:=h.acked
 seen:=by show(tkS x s).length≤bA;unfold tkS;rw[dT];exact h.seen
 lines:=by
  intro i hi
  show(gt (tkS x s) i).1.length≤bA
  unfold tkS;rw[gO]
  exact h.lines i (by have:i<(tkS x s).length:=hi;unfold tkS at this;rw[dT] at this;exact this)
 sess:=h.sess
 rises:=by show(cP x.clock x.rises (tkP x s).1 (tkP x s).1.length).length≤bA;rw[gH];exact h.rises
-- hearing
def heard0(x:NodeT)(m:MsgT):NodeT:=
 (x.1,x.2.1,x.2.2.1,x.2.2.2.1,x.2.2.2.2.1,x.2.2.2.2.2.1,x.2.2.2.2.2.2.1,x.2.2.2.2.2.2.2.1,x.2.2.2.2.2.2.2.2.1,x.got,cT x.acked m.2.1 (mxI false (gt m.vec x.1.toNat).1 (dL x.log)),bL x.seen m.2.1 m.marks,x.num,x.slots,x.sess,x.wait,x.limit,x.clock,x.rises,())
def cK(x:NodeT)(m:MsgT):NodeT:=lX (heard0 x m) rS
def gotUp(x:NodeT)(m:MsgT):NodeT:=
 (x.1,x.2.1,x.2.2.1,x.2.2.2.1,x.2.2.2.2.1,x.2.2.2.2.2.1,x.2.2.2.2.2.2.1,x.2.2.2.2.2.2.2.1,x.2.2.2.2.2.2.2.2.1,cT x.got m.2.1 m.hi,x.acked,x.seen,x.num,x.slots,x.sess,x.wait,x.limit,x.clock,x.rises,())
def cV(x:NodeT)(m:MsgT):NodeT:=gotUp (lX (cK x m) m.part) m
theorem BP{l:kU}(h:fV l=true):0≤dL l∧dL l≤100000:=by
 unfold dL;rw[h]
 unfold fV at h
 simp only[Bool.and_eq_true,bV,Bool.not_eq_true',decide_eq_false_iff_not] at h
 show 0≤IntKind.i64.wrap _∧IntKind.i64.wrap _≤100000
 rw[IntKind.wrap_i64] at h ⊢
 omega
theorem NodeOk.heard0{x:NodeT}(h:NodeOk x)(m:MsgT):NodeOk (heard0 x m) where
 n:=h.n
 id:=h.id
 state:=h.state
 tree:=h.tree
 log:=h.log
 got:=h.got
 acked:=qS h.acked (by rw[AK];have:=BP h.log;omega)
 own:=h.own
 seen:=qU h.seen
 ack:=by
  have:=h.ack
  unfold v6 at this ⊢
  rw[show(Go.Abs.heard0 x m).acked=cT x.acked m.2.1 (mxI false (gt m.vec x.1.toNat).1 (dL x.log))from rfl,fJ]
  rw[cL] at this ⊢
  intro i hi
  have h1:=this i hi
  rw[show(Go.Abs.heard0 x m).log=x.log from rfl]
  simp only[Bool.not_eq_true',decide_eq_false_iff_not] at h1 ⊢
  rcases qT x.acked m.2.1 (mxI false (gt m.vec x.1.toNat).1 (dL x.log)) i with e | e
  ·rw[e];exact h1
  ·rw[e,AK];omega
 num:=h.num
 clock:=h.clock
 slots:=h.slots
 wait:=h.wait
 limit:=h.limit
 rises:=h.rises
 rise:=h.rise
 sess:=h.sess
theorem NodeOk.heard{x:NodeT}(h:NodeOk x)(m:MsgT):NodeOk (cK x m):=(h.heard0 m).take sG
theorem p7{x:NodeT}(h:SzN x)(m:MsgT):SzN (heard0 x m) where
 state:=h.state
 leaves:=h.leaves
 list:=h.list
 logs:=h.logs
 got:=h.got
 acked:=by show(cT _ _ _).length≤bA;rw[fJ];exact h.acked
 seen:=by show(bL _ _ _).length≤bA;rw[dT];exact h.seen
 lines:=by
  intro i hi
  show(gt (bL x.seen m.2.1 m.marks) i).1.length≤bA
  rw[gO]
  exact h.lines i (by have:i<(bL x.seen m.2.1 m.marks).length:=hi;rw[dT] at this;exact this)
 sess:=h.sess
 rises:=h.rises
theorem fP{x:NodeT}(h:SzN x)(m:MsgT):SzN (cK x m):=kH (p7 h m) _
theorem NodeOk.gotUp{x:NodeT}(h:NodeOk x){m:MsgT}(hi:m.hi≤100000)(hm:m.2.1.toNat≠x.1.toNat):NodeOk (gotUp x m) where
 n:=h.n
 id:=h.id
 state:=h.state
 tree:=h.tree
 log:=h.log
 got:=qS h.got hi
 acked:=h.acked
 own:=by
  show((gt (cT x.got m.2.1 m.hi) x.1.toNat).1==dL x.log)=true
  rw[xE _ hm];exact h.own
 seen:=h.seen
 ack:=h.ack
 num:=h.num
 clock:=h.clock
 slots:=h.slots
 wait:=h.wait
 limit:=h.limit
 rises:=h.rises
 rise:=h.rise
 sess:=h.sess
theorem DT{x:NodeT}(h:SzN x)(m:MsgT):SzN (gotUp x m) where
 state:=h.state
 leaves:=h.leaves
 list:=h.list
 logs:=h.logs
 got:=by show(cT _ _ _).length≤bA;rw[fJ];exact h.got
 acked:=h.acked
 seen:=h.seen
 lines:=h.lines
 sess:=h.sess
 rises:=h.rises
theorem gL{x:NodeT}(h:SzN x)(m:MsgT):SzN (cV x m):=DT (kH (fP h m) _) _
-- messages
def lT(v:List bC)(top:Int):Bool:=cD v.length fun i=>inB (gt v i).1 0 top
def nF(t:iV):Bool:=bif((t.1.length:Nat):Int)==0 then t.2.1==0 else(((t.1.length:Nat):Int)==4&&(lT t.1 1023&&inB t.2.1 0 1023))
def vK(v:List bC)(i:Nat):Bool:=inB (gt v i).1 0 3&&q6 (fun j=> !decide ((gt v (j+1)).1≤(gt v j).1)) i
def pF(m:MsgT):Bool:=inB m.1 0 5&&(fC m.2.1&&(fC m.2.2.1&& !(m.2.1==m.2.2.1)))
def kL(m:MsgT):Bool:=pF m&&((cD m.leaves.length (vK m.leaves))&&(lT m.vec 100000&&(inB m.2.2.2.1 0 100000&&(inB m.hi 0 100000&&(nF m.tree&&(decide (((m.vec.length:Nat):Int)≤5)&&(aZ m.part&&dY m.marks)))))))
def lS(v:List bC)(most top:Int):Bool:= !decide (((v.length:Nat):Int)>most)&&lT v top
def yB(v:List bC)(i:Nat):Bool:= !decide ((gt v (i+1)).1≤(gt v i).1)
def tI(m:MsgT):Bool:=inB m.1 0 5&&(fC m.2.1&&(fC m.2.2.1&&(!(m.2.1==m.2.2.1)&&(inB m.2.2.2.1 0 100000&&(inB m.hi 0 100000&&(nF m.tree&&(lS m.vec 5 100000&&(lS m.leaves 4 3&&(aZ m.part&&(dY m.marks&&cD (m.leaves.length - 1) (yB m.leaves)))))))))))
theorem DD(v:List bC):(lS v 4 3&&cD (v.length - 1) (yB v))=cD v.length (vK v):=by
 rw[Bool.eq_iff_iff]
 unfold lS lT vK yB
 simp only[Bool.and_eq_true,cL,Bool.not_eq_true',decide_eq_false_iff_not]
 constructor
 ·rintro ⟨⟨_,h2⟩,h3⟩ i hi
  refine⟨h2 i hi,?_⟩
  cases i with
  | zero=>rfl
  | succ j=>show(!decide ((gt v (j+1)).1≤(gt v j).1))=true;rw[decide_eq_false (h3 j (by omega))];rfl
 ·intro h
  have hp:∀ j,j+1<v.length→(gt v j).1<(gt v (j+1)).1:=fun j hj=>by
   have:=(h (j+1) hj).2
   unfold q6 at this
   simpa using this
  have hge:∀ i,i<v.length→(i:Int)≤(gt v i).1:=by
   intro i
   induction i with
   | zero=>intro hi;have:=(h 0 hi).1;rw[bV] at this;exact this.1
   | succ j ih=>intro hi;have:=ih (by omega);have:=hp j hi;omega
  refine⟨⟨?_,fun i hi=>(h i hi).1⟩,fun i hi=>by have:=hp i (by omega);omega⟩
  rcases Nat.lt_or_ge 4 v.length with h5 | h5
  ·have h6:=hge 4 h5
   have:=(h 4 h5).1;rw[bV] at this;omega
  ·omega
theorem AL(m:MsgT):tI m=kL m:=by
 unfold tI kL pF
 rw[← DD]
 unfold lS
 simp only[p5]
 ac_rfl
theorem zD{m:MsgT}(h:kL m=true):m.leaves.length≤4:=by
 rw[← AL] at h
 unfold tI lS at h
 simp only[Bool.and_eq_true,Bool.not_eq_true',decide_eq_false_iff_not] at h
 omega
end Go.Abs
-- messages and receiving: plain laws
namespace Go.Abs
theorem lQ{β:Type}{o:Option Out}{A B C:List Kd}{r:Row A}{s:Row B}{t:Row C}{f:Rows [A,B,C]×Rows []→Option β}(h:o=some ⟨[⟨A,r⟩,⟨B,s⟩,⟨C,t⟩],[]⟩):(o.bind (aE [A,B,C] [])).bind f=f ((r,s,t,()),()):=by
 rw[h];simp[aE,eF,i8];rfl
def dD(l:List aO)(k:Nat):Nat→aO
 | 0=>rS
 | i+1=>eA (dD l k i) (gt l (k+i))
theorem nM(l:List aO)(k:Nat):∀ i,SzS (dD l k i)
 | 0=>sF
 | i+1=>jL _ _
theorem nN{l:kU}(h:fV l=true)(k:Nat):∀ i,k+i≤l.2.2.1.length→aZ (dD l.2.2.1 k i)=true
 | 0,_=>sG
 | i+1,hi=>tP (nN h k i (by omega)) (by
   unfold fV at h
   simp only[Bool.and_eq_true] at h
   exact cL.1 h.2.2.2.2 (k+i) (by omega))
def eK(l:kU)(seq:Int):Bool:=fV l&&inB seq l.2.1 (IntKind.i64.wrap (l.2.1+((l.2.2.1.length:Nat):Int)))
def bT(l:kU)(seq:Int):Nat:=(seq - l.2.1).toNat
def fD(l:kU)(seq:Int):aO:=bif eK l seq then dD l.2.2.1 (bT l seq) (l.2.2.1.length - bT l seq)else rS
theorem oO{l:kU}{seq:Int}(h:eK l seq=true):l.2.1+((bT l seq:Nat):Int)=seq∧bT l seq≤l.2.2.1.length∧0≤l.2.1∧l.2.1≤100000∧l.2.2.1.length≤8:=by
 unfold eK fV at h
 simp only[Bool.and_eq_true,bV,Bool.not_eq_true',decide_eq_false_iff_not] at h
 unfold bT
 rw[IntKind.wrap_i64] at h
 omega
def l8(x:NodeT)(seq:Int):aO:=bif eK x.log seq then fD x.log seq else x.state
theorem xN{x:NodeT}(h:SzN x)(seq:Int):SzS (l8 x seq):=by
 unfold l8 fD
 cases eK x.log seq with
 | false=>exact h.state
 | true=>exact nM _ _ _
theorem CM{x:NodeT}(h:NodeOk x)(seq:Int):aZ (l8 x seq)=true:=by
 unfold l8 fD
 cases hs:eK x.log seq with
 | false=>exact h.state
 | true=>have:=oO hs;exact nN h.log _ _ (by omega)
theorem xM{s:aO}(h:SzS s)(ls:List bC):SzS (gG s ls):=
 ⟨Nat.le_trans (List.length_filter_le ..) h.1,Nat.le_trans (List.length_filter_le ..) h.2⟩
theorem CK{s:aO}(h:aZ s=true)(ls:List bC):aZ (gG s ls)=true:=(bI _).2 (((bI _).1 h).slice ls)
def u7(x:NodeT)(ls:List bC)(seq:Int):aO:=eA (gG x.state ls) (l8 x seq)
def dG(a b:iV)(i:Nat):List bC:=bif((a.1.length:Nat):Int) != 4 then[((i:Int),())] else bif((b.1.length:Nat):Int) != 4 then[((i:Int),())] else bif(gt a.1 i).1 != (gt b.1 i).1 then[((i:Int),())] else[]
def fH(a b:iV):List bC:=bif a.2.1==b.2.1 then[] else bH 4 (dG a b)
theorem mP(a b:iV)(i:Nat):(dG a b i).length≤1:=by
 unfold dG
 cases ((a.1.length:Nat):Int) != 4<;>cases ((b.1.length:Nat):Int) != 4<;>cases (gt a.1 i).1 != (gt b.1 i).1<;>simp
theorem jN(a b:iV):(fH a b).length≤4:=by
 unfold fH
 cases a.2.1==b.2.1 with
 | true=>exact Nat.zero_le _
 | false=>exact c5 (n:=4) (L:=1) fun i _=>mP a b i
def C6(x:NodeT)(kind to num:Int):MsgT:=(kind,x.1,to,num,dL x.log,[],0,x.got,[],[],[],fM x.state,())
-- exchanges
def withS(x:NodeT)(ss:List eJ):NodeT:=
 (x.1,x.2.1,x.2.2.1,x.2.2.2.1,x.2.2.2.2.1,x.2.2.2.2.2.1,x.2.2.2.2.2.2.1,x.2.2.2.2.2.2.2.1,x.2.2.2.2.2.2.2.2.1,x.got,x.acked,x.seen,x.num,x.slots,ss,x.wait,x.limit,x.clock,x.rises,())
def pH(s:eJ):Int×Bool:=(s.1,s.2.2.1)
def GE(x:NodeT)(s:eJ):Prop:=inB s.1 0 (IntKind.i64.wrap (x.2.1 - 1))=true∧s.1≠x.1∧inB s.2.1 0 100000=true∧inB s.2.2.2.1 0 x.wait=true
theorem iY{v:List eJ}{k:Nat}{p:Int}{b:Bool}:cY v k p b=true↔pH (gt v k)=(p,b):=by
 unfold cY pH
 rw[Bool.and_eq_true,beq_iff_eq,D9,Prod.mk.injEq]
theorem C1(v:List eJ):(∀ i,i<v.length→u9 v i=true)↔(v.map pH).Nodup:=by
 unfold List.Nodup
 rw[List.pairwise_iff_getElem]
 unfold u9
 simp only[cL,Bool.not_eq_true',List.length_map,List.getElem_map]
 constructor
 ·intro h i j hi hj hij e
  have:=h j hj i hij
  rw[← Bool.not_eq_true,iY] at this
  apply this
  rw[gS hi,gS hj];exact e
 ·intro h j hj i hij
  rw[← Bool.not_eq_true,iY]
  intro e
  refine h i j (by omega) hj hij ?_
  rw[gS (by omega),gS hj] at e;exact e
theorem g9(x:NodeT):jF x=true↔((x.sess.length:Nat):Int)≤x.slots∧(∀ s∈x.sess,GE x s)∧(x.sess.map pH).Nodup:=by
 rw[← C1]
 unfold jF kI
 simp only[Bool.and_eq_true,cL,Bool.not_eq_true',decide_eq_false_iff_not]
 constructor
 ·rintro ⟨h1,h2⟩
  refine⟨by omega,fun s hs=>?_,fun i hi=>(h2 i hi).2.2.2.2⟩
  obtain⟨i,hi,rfl⟩:=mI hs
  obtain⟨a,b,c,d,_⟩:=h2 i hi
  refine⟨a,?_,c,d⟩
  intro e;rw[e] at b;simp at b
 ·rintro ⟨h1,h2,h3⟩
  refine⟨by omega,fun i hi=>?_⟩
  obtain⟨a,b,c,d⟩:=h2 _ (dX hi)
  exact⟨a,by simpa using b,c,d,h3 i hi⟩
theorem NodeOk.withS{x:NodeT}(h:NodeOk x){ss:List eJ}(h1:((ss.length:Nat):Int)≤x.slots)(h2:∀ s∈ss,GE x s)(h3:(ss.map pH).Nodup):NodeOk (withS x ss) where
 n:=h.n
 id:=h.id
 state:=h.state
 tree:=h.tree
 log:=h.log
 got:=h.got
 acked:=h.acked
 own:=h.own
 seen:=h.seen
 ack:=h.ack
 num:=h.num
 clock:=h.clock
 slots:=h.slots
 wait:=h.wait
 limit:=h.limit
 rises:=h.rises
 rise:=h.rise
 sess:=(g9 _).2 ⟨h1,h2,h3⟩
theorem oK{x:NodeT}(h:SzN x){ss:List eJ}(h1:ss.length≤bA):SzN (withS x ss):=
 ⟨h.state,h.leaves,h.list,h.logs,h.got,h.acked,h.seen,h.lines,h1,h.rises⟩
theorem fK(v:List eJ)(p:Int)(b:Bool):(∃ k:Nat,k<v.length∧cX v p b=(k:Int)∧pH (gt v k)=(p,b))∨(cX v p b= -1∧∀ s∈v,pH s≠(p,b)):=by
 unfold cX
 cases hf:(List.range v.length).find? (fun k=>cY v k p b)with
 | none=>
  refine .inr ⟨rfl,fun s hs e=>?_⟩
  obtain⟨i,hi,rfl⟩:=mI hs
  have:=List.find?_eq_none.1 hf i (List.mem_range.2 hi)
  exact this (iY.2 e)
 | some k=>
  refine .inl ⟨k,List.mem_range.1 (List.mem_of_find?_eq_some hf),rfl,?_⟩
  exact iY.1 (show cY v k p b=true from List.find?_some (p:=fun k=>cY v k p b) hf)
def nI(x:NodeT)(m:MsgT)(b:Bool):Int:=bif decide (cX x.sess m.2.1 b≥0)then(bif(gt x.sess (cX x.sess m.2.1 b).toNat).2.1 != m.2.2.2.1 then -1 else cX x.sess m.2.1 b)else cX x.sess m.2.1 b
def gX(x:NodeT)(k:Nat):NodeT:=withS x (x.sess.take k++x.sess.drop (k+1))
theorem DU{x:NodeT}(h:NodeOk x)(k:Nat):NodeOk (gX x k):=by
 have hs:=(g9 x).1 h.sess
 have sub:List.Sublist (x.sess.take k++x.sess.drop (k+1)) x.sess:=by rw[← List.eraseIdx_eq_take_drop_succ];exact List.eraseIdx_sublist ..
 refine h.withS ?_ (fun s hm=>hs.2.1 s (sub.subset hm)) ((sub.map pH).nodup hs.2.2)
 have:=sub.length_le;omega
theorem tT{x:NodeT}(h:SzN x)(k:Nat):SzN (gX x k):=oK h (by
 have:=h.sess;rw[List.length_append,List.length_take,List.length_drop];omega)
def lA(x:NodeT)(k:Nat)(num:Int):List eJ:=x.sess.set k ((gt x.sess k).1,num,(gt x.sess k).2.2.1,(0:Int),())
def gV(x:NodeT)(m:MsgT):List eJ:=x.sess++[(m.2.1,m.2.2.2.1,true,(0:Int),())]
theorem BF{x:NodeT}(h:NodeOk x){k:Nat}(hk:k<x.sess.length){num:Int}(hn:inB num 0 100000=true):NodeOk (withS x (lA x k num)):=by
 have hs:=(g9 x).1 h.sess
 refine h.withS (by unfold lA;rw[List.length_set];exact hs.1) (fun s hm=>?_) ?_
 ·rcases List.mem_or_eq_of_mem_set hm with h1 | h1
  ·exact hs.2.1 s h1
  ·have h2:=hs.2.1 _ (dX hk)
   rw[h1]
   refine⟨h2.1,h2.2.1,hn,?_⟩
   have:=h.wait;rw[bV] at this ⊢;show 0≤(0:Int)∧(0:Int)≤x.wait;omega
 ·unfold lA
  rw[List.map_set,show pH ((gt x.sess k).1,num,(gt x.sess k).2.2.1,(0:Int),())=pH (gt x.sess k)from rfl]
  have:(x.sess.map pH).set k (pH (gt x.sess k))=x.sess.map pH:=by
   rw[← List.map_set,wG]
  rw[this];exact hs.2.2
theorem zZ{x:NodeT}(h:NodeOk x){m:MsgT}(hp:inB m.2.1 0 (IntKind.i64.wrap (x.2.1 - 1))=true)(hi:m.2.1≠x.1)(hn:inB m.2.2.2.1 0 100000=true)(hf:cX x.sess m.2.1 true<0)(hl:((x.sess.length:Nat):Int)≠x.slots):NodeOk (withS x (gV x m)):=by
 have hs:=(g9 x).1 h.sess
 refine h.withS (by unfold gV;rw[List.length_append,List.length_singleton];omega) (fun s hm=>?_) ?_
 ·rcases List.mem_append.1 hm with h1 | h1
  ·exact hs.2.1 s h1
  ·rw[List.mem_singleton.1 h1]
   refine⟨hp,hi,hn,?_⟩
   have:=h.wait;rw[bV] at this ⊢;show 0≤(0:Int)∧(0:Int)≤x.wait;omega
 ·unfold gV
  rw[List.map_append,List.nodup_append]
  refine⟨hs.2.2,by simp,fun a ha b hb=>?_⟩
  obtain⟨s,hs1,rfl⟩:=List.mem_map.1 ha
  have hb:b=(m.2.1,true):=by simpa [pH] using hb
  rw[hb]
  rcases fK x.sess m.2.1 true with ⟨k,_,e,_⟩ | ⟨_,e⟩
  ·rw[e] at hf;omega
  ·exact e s hs1
-- receiving
def wM(o:NodeT)(x:NodeT)(m:MsgT):MsgT:=
 (3,o.1,m.2.1,m.2.2.2.1,dL o.log,o.tree.1,o.tree.2.1,o.got,fH o.tree m.tree,(u7 o (fH o.tree m.tree) (gt m.vec x.1.toNat).1).1,(u7 o (fH o.tree m.tree) (gt m.vec x.1.toNat).1).2.1,fM o.state,())
def GA(o:NodeT)(x:NodeT)(m:MsgT):MsgT:=
 (4,o.1,m.2.1,m.2.2.2.1,dL o.log,[],0,o.got,m.leaves,(u7 o m.leaves (gt m.vec x.1.toNat).1).1,(u7 o m.leaves (gt m.vec x.1.toNat).1).2.1,fM o.state,())
abbrev CB:=NodeT×List MsgT×Int
def eU(x:NodeT)(m:MsgT):List eJ:=bif decide (cX x.sess m.2.1 true≥0)then lA x (cX x.sess m.2.1 true).toNat m.2.2.2.1 else gV x m
def y2(x:NodeT)(m:MsgT):NodeT:=cK (withS x (eU x m)) m
def iB(x:NodeT)(m:MsgT):Bool:= !decide (cX x.sess m.2.1 true≥0)&&((x.sess.length:Nat):Int)==x.slots
def hI(x:NodeT)(m:MsgT):CB:=bif iB x m then(x,[C6 x 5 m.2.1 m.2.2.2.1],3)else(y2 x m,[wM (y2 x m) x m],0)
def j9(x:NodeT)(m:MsgT)(k:Nat):CB:=
 bif m.1==5 then(gX x k,[],0)else bif m.1==4 then(cV (gX x k) m,[],0)else(cV (gX x k) m,[GA (cV (gX x k) m) x m],0)
def nP(x:NodeT)(m:MsgT):CB:=
 bif m.1==0 then(cV x m,[C6 (cV x m) 1 m.2.1 m.2.2.2.1],0)else
 bif m.1==1 then(cK x m,[],0)else bif m.1==2 then hI x m else
 bif decide (nI x m (m.1==4)<0)then(x,[],2)else j9 x m (nI x m (m.1==4)).toNat
def fU(x:NodeT)(m:MsgT):Bool:=iR x&&(kL m&&(m.2.2.1==x.1&&(!decide (m.2.1≥x.2.1)&&((m.vec.length:Nat):Int)==x.2.1)))
def eT(x:NodeT)(m:MsgT):CB:=bif fU x m then nP x m else(x,[],1)
structure RecOk (x:NodeT) (m:MsgT):Prop where
 node:NodeOk x
 msg:kL m=true
 idn:0≤x.1∧x.1<x.2.1∧1≤x.2.1∧x.2.1≤5
 frm:0≤m.2.1∧m.2.1<x.2.1
 ne:m.2.1≠x.1
 vec:((m.vec.length:Nat):Int)=x.2.1
 num:inB m.2.2.2.1 0 100000=true
 hi:0≤m.hi∧m.hi≤100000
 part:aZ m.part=true
 marks:dY m.marks=true
 leaves:m.leaves.length≤4
theorem tB{x:NodeT}{m:MsgT}(h:fU x m=true):RecOk x m:=by
 unfold fU at h
 simp only[Bool.and_eq_true,beq_iff_eq,Bool.not_eq_true',decide_eq_false_iff_not] at h
 obtain⟨h1,h2,h3,h4,h5⟩:=h
 have hn:=(nQ x).1 h1
 have a1:=hn.n
 have a2:=hn.id
 rw[bV] at a1 a2
 rw[IntKind.wrap_i64] at a2
 have hm:=h2
 unfold kL pF fC at hm
 simp only[Bool.and_eq_true,bV,Bool.not_eq_true',beq_eq_false_iff_ne] at hm
 obtain⟨⟨b1,b2,b3,b4⟩,b5,b6,b7,b8,b9,b10,b11,b12⟩:=hm
 exact⟨hn,h2,by omega,by omega,by rw[← h3];exact b4,h5,bV.2 b7,b8,b11,b12,zD h2⟩
theorem RecOk.gone{x:NodeT}{m:MsgT}(h:RecOk x m)(k:Nat):RecOk (gX x k) m:=
 ⟨DU h.node k,h.msg,h.idn,h.frm,h.ne,h.vec,h.num,h.hi,h.part,h.marks,h.leaves⟩
theorem RecOk.brought{x:NodeT}{m:MsgT}(h:RecOk x m):NodeOk (cV x m):=
 NodeOk.gotUp ((h.node.heard m).take h.part) h.hi.2 (by
  have h1:=h.ne;have h2:=h.idn;have h3:=h.frm
  show m.2.1.toNat≠x.1.toNat
  omega)
theorem RecOk.syn{x:NodeT}{m:MsgT}(h:RecOk x m)(hf:iB x m=false):RecOk (withS x (eU x m)) m:=by
 refine⟨?_,h.msg,h.idn,h.frm,h.ne,h.vec,h.num,h.hi,h.part,h.marks,h.leaves⟩
 unfold eU
 unfold iB at hf
 by_cases hc:cX x.sess m.2.1 true≥0
 ·rw[decide_eq_true hc]
  rcases fK x.sess m.2.1 true with ⟨k,hk,e,_⟩ | ⟨e,_⟩
  ·show NodeOk (withS x (lA x (cX x.sess m.2.1 true).toNat m.2.2.2.1))
   rw[e];exact BF h.node hk h.num
  ·omega
 ·rw[decide_eq_false hc] at hf ⊢
  refine zZ h.node ?_ h.ne h.num (by omega) (by intro e;rw[e] at hf;simp at hf)
  have h2:=h.idn;have h3:=h.frm
  rw[bV,IntKind.wrap_i64];omega
theorem lY{x:NodeT}(h:NodeOk x)(m:MsgT):(eU x m).length≤bA:=by
 have h1:=((g9 x).1 h.sess).1
 have h2:=h.slots;rw[bV] at h2
 unfold eU lA gV bA
 cases decide (cX x.sess m.2.1 true≥0)with
 | true=>show(List.set _ _ _).length≤_;rw[List.length_set];omega
 | false=>show(x.sess++[_]).length≤_;rw[List.length_append,List.length_singleton];omega
theorem E6{x:NodeT}(hz:SzN x)(h:NodeOk x)(m:MsgT):SzN (y2 x m):=fP (oK hz (lY h m)) m
theorem AE{x:NodeT}{m:MsgT}(h:fU x m=false):eT x m=(x,[],1):=by unfold eT;rw[h];rfl
theorem xR{x:NodeT}{m:MsgT}(h:fU x m=true):eT x m=nP x m:=by unfold eT;rw[h];rfl
-- an exchange taken out, as the code does it
def uP(x:NodeT)(k:Int):List eJ:=([]++((x.sess.take (k.toNat)).drop 0))++((x.sess.take x.sess.length).drop ((IntKind.i64.wrap (k+1))).toNat)
theorem FB{x:NodeT}{k:Nat}(hk:k<x.sess.length)(hl:x.sess.length≤bA):uP x (k:Int)=x.sess.take k++x.sess.drop (k+1):=by
 unfold uP
 rw[aJ (Nat.lt_of_lt_of_le hk (Nat.le_trans hl (by decide))),List.take_length,Int.toNat_natCast,Int.toNat_natCast];rfl
theorem xT{x:NodeT}{k:Nat}(hk:k<x.sess.length)(hl:x.sess.length≤bA):withS x (uP x (k:Int))=gX x k:=by rw[FB hk hl];rfl
theorem pL{α β:Type}{ss:List α}{k:Nat}{F Z:β}(hk:k<ss.length)(hl:ss.length≤bA):
  (bif decide (0≤(k:Int))&&decide ((k:Int)≤((ss.length:Nat):Int))then(bif decide (List.length ([]:List α)+List.length ((ss.take ((k:Int).toNat)).drop 0)≤bound)then
   (bif decide (0≤IntKind.i64.wrap ((k:Int)+1))&&decide (IntKind.i64.wrap ((k:Int)+1)≤((ss.length:Nat):Int))then
    (bif decide (List.length ([]++((ss.take ((k:Int).toNat)).drop 0))+List.length ((ss.take ss.length).drop ((IntKind.i64.wrap ((k:Int)+1))).toNat)≤bound)then F else Z)else Z)else Z)else Z)=F:=by
 have hb:bA≤bound:=by decide
 rw[aJ (Nat.lt_of_lt_of_le hk (Nat.le_trans hl (by decide)))]
 refine(uD (Int.natCast_nonneg _) (by omega)).trans ?_
 refine(aF (by rw[List.drop_zero,List.length_take];simp;omega)).trans ?_
 refine(uD (Int.natCast_nonneg _) (by omega)).trans ?_
 exact aF (by rw[List.nil_append,List.drop_zero,List.length_take,List.length_drop,List.length_take,Int.toNat_natCast,Int.toNat_natCast];omega)
end Go.Abs
