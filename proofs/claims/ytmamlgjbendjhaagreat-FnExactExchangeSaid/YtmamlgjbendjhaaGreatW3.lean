/- A by-value reading of the model, and its soundness, part 3. -/
import Derived.Test.YtmamlgjbendjhaaGreatW2
set_option linter.unusedVariables false
/- Plain laws: joins, what was said, what lies beneath, what is over. -/
open Go.IntKind (i64)
namespace Go.Abs
theorem x6(a b:Int):l2 b a= - l2 a b:=by
 unfold l2
 rcases Int.lt_trichotomy a b with h | h | h
 ·rw[decide_eq_true h,decide_eq_false (by omega:¬ b<a)];rfl
 ·subst h;rw[decide_eq_false (by omega:¬ a<a)];rfl
 ·rw[decide_eq_true h,decide_eq_false (by omega:¬ a<b)];rfl
theorem wS:∀ x y:List UInt8,Lib.compareBytes y x= - Lib.compareBytes x y
 | [],[]=>rfl
 | [],_::_=>rfl
 | _::_,[]=>rfl
 | a::x,b::y=>by
  unfold Lib.compareBytes
  by_cases h1:a<b
  ·have h2:¬ b<a:=fun h=>by rw[UInt8.lt_iff_toNat_lt] at h h1;omega
   simp[h1,h2]
  ·by_cases h2:b<a
   ·simp[h1,h2]
   ·simp[h1,h2,wS x y]
theorem tJ(x y:Int):(if -x≠0 then -x else -y)= -(if x≠0 then x else y):=by
 by_cases h:x=0
 ·subst h;simp
 ·rw[if_pos h,if_pos (by omega)]
theorem zU(a b:dG):iU b a= - iU a b:=by
 unfold iU
 rw[x6 a.1 b.1,x6 a.2.1 b.2.1,x6 a.2.2.1 b.2.2.1,x6 a.2.2.2.1 b.2.2.2.1,show qX b.2.2.2.2.1 a.2.2.2.2.1= - qX a.2.2.2.2.1 b.2.2.2.2.1 from wS _ _,tJ,tJ,tJ,tJ]
theorem wQ{y:dG}(h:1≤y.1):iU eE y= -1:=by
 have e:l2 eE.1 y.1= -1:=by
  unfold l2;rw[decide_eq_true (show eE.1<y.1 from by show(0:Int)<y.1;omega)];rfl
 unfold iU;rw[e];rfl
def orZ(z:Int)(ls:List aZ):Int:=match (List.range ls.length).find? (fun i=>(gt ls i).1 != 0)with
 | some i=>(gt ls i).1
 | none=>z
theorem y6(z:Int)(ls:List aZ):orZ z ls=(match ls.find? (fun x:aZ=>x.1 != 0)with | some x=>x.1 | none=>z):=by
 have h:=mB (fun x:aZ=>x.1 != 0) (fun x:aZ=>x.1) z ls
 unfold orZ
 cases h1:(List.range ls.length).find? (fun i=>(gt ls i).1 != 0)<;>cases h2:ls.find? (fun x:aZ=>x.1 != 0)<;>simp only[h1,h2] at h ⊢<;>exact h
theorem pY(z x:Int)(ls:List aZ):orZ z ((x,())::ls)=if x≠0 then x else orZ z ls:=by
 rw[y6,y6,List.find?_cons]
 by_cases h:x=0
 ·subst h;rfl
 ·have:((x,()):aZ).1 != 0:=by simpa using h
  rw[this,if_pos h]
def zM(a b:dG):List aZ:=[(l2 a.1 b.1,()),(l2 a.2.1 b.2.1,()),(l2 a.2.2.1 b.2.2.1,()),(l2 a.2.2.2.1 b.2.2.2.1,())]
theorem EK(a b:dG):orZ (qX a.2.2.2.2.1 b.2.2.2.2.1) (zM a b)=iU a b:=by
 unfold zM iU
 rw[pY,pY,pY,pY];rfl
theorem DQ(x y:ByteArray):(bif Op.bytesLess (ByteArray.toList x) (ByteArray.toList y)then(-1:Int)else DT (!(Op.bytesLess (ByteArray.toList x) (ByteArray.toList y)||ByteArray.toList x==ByteArray.toList y)))=qX x y:=by
 rw[ByteArray.toList_eq,ByteArray.toList_eq];exact wP _ _
/-- The cells of a state that a join leans on. -/
structure Pos (s:aM):Prop where
 item:∀ x∈s.1,1≤x.2.1
 floor:∀ f∈s.2.1,0≤f.2.1
theorem StateOk.pos{s:aM}(h:StateOk s):Pos s where
 item x hx:=by
  have:=(h.item x hx).2.1
  unfold eC at this;simp only[Bool.and_eq_true,bH] at this;omega
 floor f hf:=by have:=(h.floor f hf).2;rw[bH] at this;omega
def mxE(a b:dG):dG:=bif decide (iU a b<0)then b else a
def eX(a b:aM)(i:Int):dG:=mxE (bC a i).1 (bC b i).1
def flr(a b:aM)(i:Int):Int:=mxI true (cR a.2.1 i) (cR b.2.1 i)
def cV(a b:aM)(i:Nat):List cB:=bif decide ((eX a b i).1>flr a b i)then[((i:Int),eX a b i)] else[]
def cI(a b:aM)(i:Nat):List aV:=bif decide (flr a b i>0)then[((i:Int),flr a b i,())] else[]
def eH(a b:aM):aM:=(bF 5 (cV a b),bF 5 (cI a b),())
theorem nR(a b:aM)(i:Nat):(cV a b i).length≤1:=by unfold cV;cases decide ((eX a b i).1>flr a b i)<;>simp
theorem l8(a b:aM)(i:Nat):(cI a b i).length≤1:=by unfold cI;cases decide (flr a b i>0)<;>simp
theorem nO(a b:aM):(eH a b).1.length≤5∧(eH a b).2.1.length≤5:=
 ⟨c9 (n:=5) (L:=1) fun i _=>nR a b i,c9 (n:=5) (L:=1) fun i _=>l8 a b i⟩
theorem j8(a b:aM):SzS (eH a b):=⟨Nat.le_trans (nO a b).1 (by decide),Nat.le_trans (nO a b).2 (by decide)⟩
theorem II{a b:aM}(ha:Pos a)(i:Int):0≤flr a b i:=by
 have h:0≤cR a.2.1 i:=by
  rcases kT a i with ⟨x,hx,_,e⟩ | ⟨_,e⟩
  ·rw[e];exact ha.floor x hx
  ·omega
 unfold flr mxI;simp only[if_true];split<;>omega
theorem ER:mxE eE eE=eE:=by
 unfold mxE;cases decide (iU eE eE<0)<;>rfl
theorem GQ{a b:aM}{i:Int}(ha:bC a i=(eE,false))(hb:bC b i=(eE,false)):eX a b i=eE:=by
 unfold eX;rw[ha,hb];exact ER
theorem tA{a b:aM}{i:Int}{y:dG}(ha:bC a i=(eE,false))(hb:bC b i=(y,true))(hy:1≤y.1):eX a b i=y:=by
 unfold eX mxE;rw[ha,hb];rw[show iU (eE,false).1 (y,true).1= -1 from wQ hy];rfl
theorem sZ{a b:aM}{i:Int}{x:dG}(ha:bC a i=(x,true))(hb:bC b i=(eE,false))(hx:1≤x.1):eX a b i=x:=by
 unfold eX mxE;rw[ha,hb];rw[show iU (x,true).1 (eE,false).1=1 from by rw[show iU (x,true).1 (eE,false).1= - iU eE x from zU eE x,wQ hx];rfl];rfl
theorem BT{a b:aM}{i:Int}{x y:dG}(ha:bC a i=(x,true))(hb:bC b i=(y,true)):eX a b i=bif decide (iU y x>0)then y else x:=by
 unfold eX mxE;rw[ha,hb]
 show(bif decide (iU x y<0)then y else x)=_
 rw[show decide (iU x y<0)=decide (iU y x>0)from ?_]
 rw[zU x y]
 by_cases h:iU x y<0
 ·rw[decide_eq_true h,decide_eq_true (by omega)]
 ·rw[decide_eq_false h,decide_eq_false (by omega)]
theorem gB{a b:aM}{i:Nat}{e:dG}(he:eX a b i=e)(h:e.1>flr a b i):cV a b i=[((i:Int),e)]:=by
 unfold cV;rw[he,decide_eq_true h];rfl
theorem fB{a b:aM}{i:Nat}{e:dG}(he:eX a b i=e)(h:¬ e.1>flr a b i):cV a b i=[]:=by
 unfold cV;rw[he,decide_eq_false h];rfl
theorem oQ{a b:aM}{i:Nat}(h:flr a b i>0):cI a b i=[((i:Int),flr a b i,())]:=by
 unfold cI;rw[decide_eq_true h];rfl
theorem oS{a b:aM}{i:Nat}(h:¬ flr a b i>0):cI a b i=[]:=by
 unfold cI;rw[decide_eq_false h];rfl
theorem lD{s:aM}(hs:Pos s)(i:Int):(∃ x:dG,1≤x.1∧bC s i=(x,true))∨bC s i=(eE,false):=by
 rcases kV s i with ⟨x,hx,_,e⟩ | ⟨_,e⟩
 ·exact .inl ⟨x.2,hs.item x hx,e⟩
 ·exact .inr e
-- less
def JR(a b:aM):Bool:=aY a&&(aY b&&CN (eH a b) b)
-- over
def gone(s:aM)(id:Int):Int:=bif aY s then(bif(bC s id).2 then(bif(bC s id).1.2.1==0 then i64.wrap ((bC s id).1.1 - 1)else(bC s id).1.1)else cR s.2.1 id)else 0
-- what was said
def sQ:aM:=([],[],())
def FA(g:Nat→aM):Nat→aM
 | 0=>sQ
 | k+1=>eH (FA g k) (g k)
theorem nN:SzS sQ:=⟨Nat.zero_le _,Nat.zero_le _⟩
def AQ(w:bS)(i:Nat):aM:=(gt w.2.2.1 i).2
def JX(w:bS):aM:=bif fF w then FA (AQ w) w.2.2.1.length else sQ
def EW(w:bS)(node:Int):Nat→Int
 | 0=>0
 | k+1=>EW w node k+DT ((gt w.2.2.1 k).1==node)
def EX(w:bS)(node:Int):Int:=EW w node w.2.2.1.length
def A1(w:bS)(ls:List aZ):Nat→aM
 | 0=>sQ
 | k+1=>bif inB (gt ls k).1 0 (i64.wrap (((w.2.2.1.length:Nat):Int) - 1))then eH (A1 w ls k) (AQ w (gt ls k).1.toNat)else A1 w ls k
def IB(w:bS)(ls:List aZ):aM:=bif fF w then A1 w ls ls.length else sQ
def G7(w:bS)(s:aM):List aZ:=bif fF w&&aY s then bF w.2.2.1.length (fun i=>bif JR (AQ w i) s then[((i:Int),())] else[])else[]
theorem IG{s:aM}(hs:aY s=true)(id:Int):gone s id=(bif(bC s id).2 then(bif(bC s id).1.2.1==1 then(bC s id).1.1 else i64.wrap ((bC s id).1.1 - 1))else cR s.2.1 id):=by
 unfold gone;rw[hs]
 rcases kV s id with ⟨x,hx,_,e⟩ | ⟨_,e⟩
 ·rw[e]
  obtain⟨i,hi,rfl⟩:=m4 hx
  show(bif(gt s.1 i).2.2.1==0 then _ else _)=bif(gt s.1 i).2.2.1==1 then _ else _
  rcases GJ hs hi with h | h<;>rw[h]<;>rfl
 ·rw[e];rfl
end Go.Abs
/- Plain laws: what the judges decide. -/
namespace Go.Abs
theorem zK{s:aM}(hs:aY s=false)(id:Int):gone s id=0:=by unfold gone;rw[hs];rfl
theorem u9{β:Type}{q r:Prop}[Decidable q][Decidable r]{x y:β}(h:q)(h':r):(bif decide q&&decide r then x else y)=x:=by
 rw[decide_eq_true h,decide_eq_true h'];rfl
-- own
-- views
-- heard
-- seen
-- GF, E4, grown
def GF(w:bS):Bool:=fF w&&bW w.1.length fun i=>CO (DV (gt w.1 i).state) (DV (JX w))
def H4(s:aM)(id:Int):dG×Bool:=bC (DV s,[],()) id
def B5(w:bS)(id:Int):Nat→Int
 | 0=>0
 | k+1=>B5 w id k+DT (H4 (gt w.1 k).state id).2
def E4(w:bS)(id:Int):Int:=bif fF w then B5 w id w.1.length else 0
end Go.Abs
/- Plain laws: differences of views applied, and what they are. -/
namespace Go.Abs
end Go.Abs
/- Plain laws: draws. -/
namespace Go.Abs
abbrev JZ:=List aZ×Int×Int×Unit
structure CurOk (c:JZ):Prop where
 len:c.1.length≤1048576
 lo:0≤c.2.1
 hi:c.2.1≤c.1.length
/-- A loop whose rounds are told by what they keep. -/
theorem It.ex {ι σ:Type} {lvl:Nat} {c:Nat→Nat→ι→(σ→Option Out)→σ→Option Out} (Inv:Nat→σ→Prop) (Good:Out→Prop) (N:Nat)
  (hs:∀ i x,i<N→Inv i x→∃ y,Inv (i+1) y∧∀ n,lvl≤n→∀ aA a rec,c n aA a rec x=rec y)
  (he:∀ x,Inv N x→∃ o,Good o∧∀ n,lvl≤n→It (c n) x (fun _=>some o)):∀ (m j:Nat) x,j+m=N→Inv j x→∃ o,Good o∧∀ n,lvl≤n→It (c n) x (fun _=>some o)
 | 0,j,x,hj,hx=>he x ((show j=N by omega)▸hx)
 | m+1,j,x,hj,hx=>by
  obtain⟨y,hy,h⟩:=hs j x (by omega) hx
  obtain⟨o,ho,h'⟩:=It.ex Inv Good N hs he m (j+1) y (by omega) hy
  exact⟨o,ho,fun n hn=>It.next (fun aA a rec=>h n hn aA a rec) (h' n hn)⟩
def JK:List ByteArray:=[⟨#[]⟩,⟨#[97]⟩,⟨#[98]⟩,⟨#[97,98]⟩,⟨#[49,50,51,52,53,54,55,56]⟩,⟨#[49,50,51,52,53,54,55,56,57]⟩]
def JY(e:dG):Prop:=e.2.2.2.2.1∈JK
structure StD (k:Nat) (s:aM):Prop where
 a:s.1.length≤k
 b:s.2.1.length≤k
 data:∀ x∈s.1,JY x.2
theorem StD.sz{k:Nat}{s:aM}(h:StD k s)(hk:k≤1048576):SzS s:=⟨Nat.le_trans h.a hk,Nat.le_trans h.b hk⟩
theorem nI{α:Type}{n:Nat}{g:Nat→List α}{x:α}(h:x∈bF n g):∃ i,i<n∧x∈g i:=by
 induction n with
 | zero=>exact(List.not_mem_nil h).elim
 | succ n ih=>
  rw[dJ] at h
  rcases List.mem_append.1 h with h | h
  ·obtain⟨i,hi,hx⟩:=ih h;exact⟨i,by omega,hx⟩
  ·exact⟨n,by omega,h⟩
/-- The loop of a new cursor, and what comes behind it. -/
theorem It.new {lvl:Nat} {c:Nat→Nat→Unit→(Int×Int→Option Out)→Int×Int→Option Out} (Good:Out→Prop) (b:List aZ) (hb:b.length≤1048576)
  (hs:∀ (i:Nat) (h:Int),i<b.length→i<4000→∃ h',∀ n,lvl≤n→∀ aA a rec,c n aA a rec (h,(i:Int))=rec (h',((i+1:Nat):Int)))
  (he:∀ (h i:Int),CurOk (b,0,h,())→(¬ i<((b.length:Nat):Int)∨¬ i<4000)→∃ o,Good o∧∀ n,lvl≤n→∃ M,∀ aA,M≤aA→∀ a rec,c n aA a rec (h,i)=some o) (h0:Int):
  ∃ o,Good o∧∀ n,lvl≤n→It (c n) (h0,(0:Int)) (fun _=>some o):=by
 refine It.ex (fun i y=>∃ h,y=(h,(i:Int))) Good (min b.length 4000) ?_ ?_ (min b.length 4000) 0 (h0,(0:Int)) (by omega) ⟨h0,rfl⟩
 ·rintro i y hi ⟨h,rfl⟩
  obtain⟨h',hh⟩:=hs i h (by omega) (by omega)
  exact⟨_,⟨h',rfl⟩,hh⟩
 ·rintro y ⟨h,rfl⟩
  obtain⟨o,ho,hh⟩:=he h ((min b.length 4000:Nat):Int) ⟨hb,by show(0:Int)≤0;omega,by show(0:Int)≤((b.length:Nat):Int);omega⟩ (by omega)
  refine⟨o,ho,fun n hn=>?_⟩
  obtain⟨M,hM⟩:=hh n hn
  refine⟨M+1,fun aA k hf hk a=>?_⟩
  obtain⟨k,rfl⟩:∃ k',k=k'+1:=⟨k - 1,by omega⟩
  exact hM aA (by omega) a _
end Go.Abs
-- marks, tables, taking and receiving: plain laws
namespace Go.Abs
abbrev MsgT:=Int×Int×Int×Int×Int×List aZ×Int×List aZ×List aZ×List cB×List aV×List aV×Unit
abbrev MsgT.hi(m:MsgT):Int:=m.2.2.2.2.1
abbrev MsgT.tree(m:MsgT):jL:=(m.2.2.2.2.2.1,m.2.2.2.2.2.2.1,())
abbrev MsgT.vec(m:MsgT):List aZ:=m.2.2.2.2.2.2.2.1
abbrev MsgT.leaves(m:MsgT):List aZ:=m.2.2.2.2.2.2.2.2.1
abbrev MsgT.part(m:MsgT):aM:=(m.2.2.2.2.2.2.2.2.2.1,m.2.2.2.2.2.2.2.2.2.2.1,())
abbrev MsgT.marks(m:MsgT):List aV:=m.2.2.2.2.2.2.2.2.2.2.2.1
structure SzM (m:MsgT):Prop where
 leaves:m.tree.1.length≤aW
 vec:m.vec.length≤aW
 list:m.leaves.length≤aW
 part:SzS m.part
 marks:m.marks.length≤aW
theorem y8(a b:Int):mxI true a b=max a b:=by unfold mxI;simp only[if_true];split<;>omega
theorem BX(a b:Int):mxI false a b=min a b:=by unfold mxI;simp only[Bool.false_eq_true,if_false];split<;>omega
-- lists in order
theorem nT{α:Type}{k:α→Int}{g:Nat→List α}(h1:∀ i,(g i).length≤1)(h:∀ i,∀ x∈g i,k x=(i:Int)):∀ n,(bF n g).Pairwise (fun x y=>k x<k y)
 | 0=>by rw[rL];exact List.Pairwise.nil
 | n+1=>by
  rw[dJ,List.pairwise_append]
  refine⟨nT h1 h n,?_,fun x hx y hy=>?_⟩
  ·match hg:g n with
   | []=>exact List.Pairwise.nil
   | [x]=>exact List.pairwise_singleton _ _
   | x::y::t=>have:=h1 n;rw[hg] at this;simp at this
  ·obtain⟨i,hi,hx⟩:=nI hx
   rw[h i x hx,h n y hy];omega
theorem oU{s:aM}(h:StateOk s)(i:Int):0≤cR s.2.1 i∧cR s.2.1 i≤1000:=by
 rcases kT s i with ⟨x,hx,_,e⟩ | ⟨_,e⟩
 ·have:=(h.floor x hx).2;rw[bH] at this;rw[e];omega
 ·rw[e];omega
theorem oW{s:aM}(h:StateOk s)(i:Int):(bC s i).1=eE∨eC (bC s i).1=true:=by
 rcases kV s i with ⟨x,hx,_,e⟩ | ⟨_,e⟩
 ·rw[e];exact .inr (h.item x hx).2.1
 ·rw[e];exact .inl rfl
theorem EI{a b:aM}(ha:StateOk a)(hb:StateOk b)(i:Int):eX a b i=eE∨eC (eX a b i)=true:=by
 unfold eX mxE
 cases decide (iU (bC a i).1 (bC b i).1<0)with
 | true=>exact oW hb i
 | false=>exact oW ha i
theorem FM{a b:aM}(ha:StateOk a)(hb:StateOk b)(i:Int):0≤flr a b i∧flr a b i≤1000:=by
 have h1:=oU ha i
 have h2:=oU hb i
 unfold flr;rw[y8];omega
theorem wI{a b:aM}{i:Nat}{x:cB}(h:x∈cV a b i):x=((i:Int),eX a b i)∧(eX a b i).1>flr a b i:=by
 unfold cV at h
 cases hd:decide ((eX a b i).1>flr a b i)with
 | false=>rw[hd] at h;cases h
 | true=>rw[hd] at h;exact⟨List.mem_singleton.1 h,of_decide_eq_true hd⟩
theorem oT{a b:aM}{i:Nat}{x:aV}(h:x∈cI a b i):x=((i:Int),flr a b i,())∧flr a b i>0:=by
 unfold cI at h
 cases hd:decide (flr a b i>0)with
 | false=>rw[hd] at h;cases h
 | true=>rw[hd] at h;exact⟨List.mem_singleton.1 h,of_decide_eq_true hd⟩
theorem xX{i:Nat}(h:i<5):fP (i:Int)=true:=by unfold fP;rw[bH];omega
theorem StateOk.join{a b:aM}(ha:StateOk a)(hb:StateOk b):StateOk (eH a b) where
 item x hx:=by
  obtain⟨i,hi,hx⟩:=nI hx
  obtain⟨rfl,hg⟩:=wI hx
  have hf:=FM ha hb (i:Int)
  refine⟨xX hi,?_,?_⟩
  ·rcases EI ha hb (i:Int)with e | e
   ·rw[e] at hg;have h0:(0:Int)>flr a b i:=hg;omega
   ·exact e
  ·show cR (eH a b).2.1 (i:Int)<(eX a b i).1
   rcases kT (eH a b) (i:Int)with ⟨f,hf',e1,e⟩ | ⟨_,e⟩
   ·obtain⟨j,_,hf'⟩:=nI hf'
    obtain⟨rfl,_⟩:=oT hf'
    have:(j:Int)=(i:Int):=e1
    rw[e];show flr a b (j:Int)<_;rw[this];omega
   ·rw[e];omega
 items:=nT (k:=fun x:cB=>x.1) (nR a b) (fun i x hx=>by rw[(wI hx).1]) 5
 floor f hf:=by
  obtain⟨i,hi,hf⟩:=nI hf
  obtain⟨rfl,hg⟩:=oT hf
  have:=FM ha hb (i:Int)
  refine⟨xX hi,?_⟩
  rw[bH];show 1≤flr a b i∧flr a b i≤1000;omega
 floors:=nT (k:=fun x:aV=>x.1) (l8 a b) (fun i x hx=>by rw[(oT hx).1]) 5
theorem p5{a b:aM}(ha:aY a=true)(hb:aY b=true):aY (eH a b)=true:=
 (bI _).2 (((bI _).1 ha).join ((bI _).1 hb))
theorem tH:aY sQ=true:=rfl
-- marks
def eB(ms:List aV):Bool:=bW ms.length (eK ms)
def zB(ms:List aV):Bool:=bW ms.length (gL ms)
theorem C7(ms:List aV):zB ms=eB ms:=kD fun i hi=>by unfold gL eK;ac_rfl
def iQ(s:aM)(i:Nat):List aV:=bif decide (gone s i>0)then[((i:Int),gone s i,())] else[]
def fI(s:aM):List aV:=bF 5 (iQ s)
theorem oO(s:aM)(i:Nat):(iQ s i).length≤1:=by unfold iQ;cases decide (gone s i>0)<;>simp
theorem gY(s:aM):(fI s).length≤5:=c9 (n:=5) (L:=1) fun i _=>oO s i
theorem G0(s:aM)(i:Int):gone s i≤1000:=by
 cases hs:aY s with
 | false=>rw[zK hs];omega
 | true=>
  have h:=(bI s).1 hs
  have hf:=oU h i
  unfold gone;rw[hs]
  show(bif(bC s i).2 then _ else _)≤(1000:Int)
  cases h2:(bC s i).2 with
  | false=>exact hf.2
  | true=>
   have he:(bC s i).1.1≤1000∧0≤(bC s i).1.1:=by
    rcases oW h i with e | e
    ·rw[e];show(0:Int)≤1000∧(0:Int)≤0;omega
    ·unfold eC at e;simp only[Bool.and_eq_true,bH] at e;omega
   show(bif(bC s i).1.2.1==0 then i64.wrap ((bC s i).1.1 - 1)else(bC s i).1.1)≤1000
   cases (bC s i).1.2.1==0 with
   | false=>exact he.1
   | true=>show i64.wrap ((bC s i).1.1 - 1)≤1000;rw[IntKind.wrap_i64];omega
theorem DL{fs:List aV}(g:Nat→List aV)(he:fs=bF 5 g)(h1:∀ i,(g i).length≤1)(h:∀ i,∀ x∈g i,x.1=(i:Int)∧1≤x.2.1∧x.2.1≤1000):StateOk ([],fs,()) where
 item x hx:=by cases hx
 items:=List.Pairwise.nil
 floor f hf:=by
  have hf:f∈fs:=hf
  rw[he] at hf
  obtain⟨i,hi,hf⟩:=nI hf
  obtain⟨e,h2,h3⟩:=h i f hf
  exact⟨by rw[e];exact xX hi,bH.2 ⟨h2,h3⟩⟩
 floors:=by
  show fs.Pairwise _
  rw[he];exact nT (k:=fun x:aV=>x.1) h1 (fun i x hx=>(h i x hx).1) 5
theorem uK{ms:List aV}(h:eB ms=true){i:Nat}(hi:i<ms.length):0≤(gt ms i).1∧(gt ms i).1≤4∧1≤(gt ms i).2.1∧(gt ms i).2.1≤1000:=by
 unfold eB at h
 have:=cE.1 h i hi
 unfold eK fP at this
 simp only[Bool.and_eq_true,bH] at this
 omega
-- tables
def AN(r:cS)(f:aV):cS:=(r.1.set f.1.toNat (mxI true (gt r.1 f.1.toNat).1 f.2.1,()),())
def sN(r:cS)(ms:List aV):Nat→cS
 | 0=>r
 | i+1=>AN (sN r ms i) (gt ms i)
def rK(t:List cS)(k:Int)(ms:List aV):Bool:=inB k 0 (i64.wrap (((t.length:Nat):Int) - 1))&&(eB ms&& !decide ((((gt t k.toNat).1.length:Nat):Int)<5))
def bZ(t:List cS)(k:Nat)(ms:List aV)(i:Nat):List cS:=t.set k (sN (gt t k) ms i)
def bK(t:List cS)(k:Int)(ms:List aV):List cS:=bif rK t k ms then bZ t k.toNat ms ms.length else t
theorem lH(r:cS)(ms:List aV):∀ i,(sN r ms i).1.length=r.1.length
 | 0=>rfl
 | i+1=>by show(List.set _ _ _).length=_;rw[List.length_set];exact lH r ms i
theorem dB{α:Type}[Inhabited α]{xs:List α}{i:Nat}(h:i<xs.length)(x:α):gt (xs.set i x) i=x:=by
 rw[iG (by rw[List.length_set];exact h)];simp
theorem eJ{α:Type}[Inhabited α]{xs:List α}{i j:Nat}(h:i≠j)(x:α):gt (xs.set i x) j=gt xs j:=by
 unfold gt;simp[h]
theorem xM{α:Type}[Inhabited α]{xs:List α}{i:Nat}:xs.set i (gt xs i)=xs:=by
 rcases Nat.lt_or_ge i xs.length with h | h
 ·rw[iG h];exact List.set_getElem_self h
 ·exact List.set_eq_of_length_le h
theorem pH(t:List cS)(k:Nat)(ms:List aV):bZ t k ms 0=t:=xM
theorem d6(t:List cS)(k:Int)(ms:List aV):(bK t k ms).length=t.length:=by
 unfold bK
 cases rK t k ms with
 | false=>rfl
 | true=>show(bZ _ _ _ _).length=_;unfold bZ;rw[List.length_set]
theorem nP{k:Int}{n:Nat}(hn:n≤aW)(h:inB k 0 (i64.wrap ((n:Int) - 1))=true):k.toNat<n∧((k.toNat:Nat):Int)=k:=by
 rw[bH,IntKind.wrap_i64] at h;unfold aW at hn;omega
theorem hX(t:List cS)(k:Int)(ms:List aV)(j:Nat):((gt (bK t k ms) j).1.length)=(gt t j).1.length:=by
 unfold bK
 cases hb:rK t k ms with
 | false=>rfl
 | true=>
  show(gt (bZ t k.toNat ms ms.length) j).1.length=_
  unfold bZ
  rcases Nat.lt_or_ge k.toNat t.length with h | h
  ·by_cases e:k.toNat=j
   ·subst e;rw[dB h,lH]
   ·rw[eJ e]
  ·rw[List.set_eq_of_length_le h]
theorem z8{r:cS}{ms:List aV}(hm:eB ms=true)(hr:∀ j,j<r.1.length→inB (gt r.1 j).1 0 1000=true):∀ i,i≤ms.length→∀ j,j<r.1.length→inB (gt (sN r ms i).1 j).1 0 1000=true
 | 0,_,j,hj=>hr j hj
 | i+1,hi,j,hj=>by
  have ih:=z8 hm hr i (by omega)
  have hid:=uK hm (i:=i) (by omega)
  have hl:=lH r ms i
  show inB (gt (List.set (sN r ms i).1 (gt ms i).1.toNat (mxI true (gt (sN r ms i).1 (gt ms i).1.toNat).1 (gt ms i).2.1,())) j).1 0 1000=true
  by_cases e:(gt ms i).1.toNat=j
  ·subst e
   rw[dB (by omega)]
   have:=ih _ hj
   rw[bH] at this ⊢
   show 0≤mxI true _ _∧mxI true _ _≤1000
   rw[y8];omega
  ·rw[eJ e];exact ih j hj
theorem rO{t:List cS}{n k:Int}{ms:List aV}(ht:gQ t n=true):gQ (bK t k ms) n=true:=by
 unfold gQ at ht ⊢
 simp only[Bool.and_eq_true] at ht ⊢
 obtain⟨h1,h2,h3⟩:=ht
 refine⟨h1,by rw[d6];exact h2,?_⟩
 rw[d6]
 rw[cE] at h3 ⊢
 intro j hj
 have h4:=h3 j hj
 unfold oP at h4 ⊢
 simp only[Bool.and_eq_true] at h4 ⊢
 rw[hX]
 refine⟨h4.1,?_⟩
 have h5:=cE.1 h4.2
 rw[cE]
 intro i hi
 unfold bK
 cases hb:rK t k ms with
 | false=>exact h5 i hi
 | true=>
  show inB (gt (gt (bZ t k.toNat ms ms.length) j).1 i).1 0 1000=true
  unfold bZ
  by_cases e:k.toNat=j
  ·subst e
   rw[dB hj]
   have hm:eB ms=true:=by unfold rK at hb;simp only[Bool.and_eq_true] at hb;exact hb.2.1
   exact z8 hm h5 _ (Nat.le_refl _) i hi
  ·rw[eJ e];exact h5 i hi
def iI(t:List cS)(id:Int)(k:Nat):Bool:=inB id 0 (i64.wrap ((((gt t k).1.length:Nat):Int) - 1))
def d8(t:List cS)(id:Int):Nat→Int
 | 0=>0
 | k+1=>bif(k:Int)==0 then(gt (gt t k).1 id.toNat).1 else bif decide ((gt (gt t k).1 id.toNat).1<d8 t id k)then(gt (gt t k).1 id.toNat).1 else d8 t id k
def fV(t:List cS)(id:Int):Int:=bif bW t.length (iI t id)then d8 t id t.length else 0
-- pruning
def fO(s:aM)(t:List cS)(i:Nat):List aV:=bif decide (mxI false (fV t i) (gone s i)>0)then[((i:Int),mxI false (fV t i) (gone s i),())] else[]
def lC(s:aM)(t:List cS):aM:=([],bF 5 (fO s t),())
def kJ(s:aM)(t:List cS):aM:=bif aY s then eH s (lC s t)else s
theorem lT(s:aM)(t:List cS)(i:Nat):(fO s t i).length≤1:=by unfold fO;cases decide (mxI false (fV t i) (gone s i)>0)<;>simp
theorem sG(s:aM)(t:List cS):aY (lC s t)=true:=
 (bI _).2 (DL (fO s t) rfl (lT s t) fun i x hx=>by
  unfold fO at hx
  cases hd:decide (mxI false (fV t i) (gone s i)>0)with
  | false=>rw[hd] at hx;cases hx
  | true=>
   rw[hd] at hx
   have e:=List.mem_singleton.1 hx
   have h0:=of_decide_eq_true hd
   have hg:=G0 s i
   rw[e];refine⟨rfl,h0,?_⟩
   show mxI false (fV t i) (gone s i)≤1000
   rw[BX];omega)
theorem sF(s:aM)(t:List cS):SzS (lC s t):=⟨Nat.zero_le _,Nat.le_trans (c9 (n:=5) (L:=1) fun i _=>lT s t i) (by decide)⟩
theorem y4{s:aM}(h:aY s=true)(t:List cS):aY (kJ s t)=true:=by
 unfold kJ;rw[h];exact p5 h (sG s t)
theorem EH{s:aM}(h:SzS s)(t:List cS):SzS (kJ s t):=by
 unfold kJ;cases aY s with
 | false=>exact h
 | true=>exact j8 _ _
-- vectors
def cT(v:List aZ)(k n:Int):List aZ:=bif inB k 0 (i64.wrap (((v.length:Nat):Int) - 1))then v.set k.toNat (mxI true (gt v k.toNat).1 n,())else v
theorem fX(v:List aZ)(k n:Int):(cT v k n).length=v.length:=by
 unfold cT;cases inB k 0 (i64.wrap (((v.length:Nat):Int) - 1))with
 | false=>rfl
 | true=>exact List.length_set ..
theorem rN(v:List aZ)(k n:Int)(j:Nat):(gt (cT v k n) j).1=(gt v j).1∨(gt (cT v k n) j).1=max (gt v j).1 n:=by
 unfold cT;cases inB k 0 (i64.wrap (((v.length:Nat):Int) - 1))with
 | false=>exact .inl rfl
 | true=>
  show(gt (v.set _ _) j).1=_∨(gt (v.set _ _) j).1=_
  rcases Nat.lt_or_ge k.toNat v.length with h | h
  ·by_cases e:k.toNat=j
   ·subst e;rw[dB h];exact .inr (y8 _ _)
   ·rw[eJ e];exact .inl rfl
  ·rw[List.set_eq_of_length_le h];exact .inl rfl
theorem yH(v:List aZ){k n:Int}{j:Nat}(h:k.toNat≠j):gt (cT v k n) j=gt v j:=by
 unfold cT;cases inB k 0 (i64.wrap (((v.length:Nat):Int) - 1))with
 | false=>rfl
 | true=>exact eJ h _
theorem rM{v:List aZ}{m k n:Int}(h:fM v m=true)(hn:n≤100000):fM (cT v k n) m=true:=by
 unfold fM at h ⊢
 simp only[Bool.and_eq_true] at h ⊢
 rw[fX]
 refine⟨h.1,h.2.1,?_⟩
 have h3:=cE.1 h.2.2
 rw[cE]
 intro i hi
 have:=h3 i hi
 rw[bH] at this ⊢
 rcases rN v k n i with e | e<;>rw[e]<;>omega
end Go.Abs
-- taking and receiving: plain laws
namespace Go.Abs
-- rises
def vY(r:kN)(e:dG):Bool:=decide (e.1>r.1)||(e.1==r.1&&decide (e.2.2.1>r.2.1))
def uB(clock:Int)(r:kN)(e:dG):kN:=bif vY r e then(e.1,e.2.2.1,clock,())else r
def cP(clock:Int)(rs:List kN)(xs:List cB):Nat→List kN
 | 0=>rs
 | i+1=>(cP clock rs xs i).set (gt xs i).1.toNat (uB clock (gt (cP clock rs xs i) (gt xs i).1.toNat) (gt xs i).2)
theorem gU(clock:Int)(rs:List kN)(xs:List cB):∀ i,(cP clock rs xs i).length=rs.length
 | 0=>rfl
 | i+1=>by show(List.set _ _ _).length=_;rw[List.length_set];exact gU clock rs xs i
def uA(clock:Int)(r:kN):Bool:=inB r.1 0 1000&&(inB r.2.1 0 100000&&inB r.2.2.1 0 clock)
theorem vX{clock:Int}(hc:0≤clock){rs:List kN}{s:aM}(hs:StateOk s)(h:∀ j,j<rs.length→uA clock (gt rs j)=true):
  ∀ i,i≤s.1.length→∀ j,j<rs.length→uA clock (gt (cP clock rs s.1 i) j)=true
 | 0,_,j,hj=>h j hj
 | i+1,hi,j,hj=>by
  have ih:=vX hc hs h i (by omega)
  have he:=(hs.item _ (dZ (xs:=s.1) (i:=i) (by omega))).2.1
  show uA clock (gt ((cP clock rs s.1 i).set (gt s.1 i).1.toNat (uB clock (gt (cP clock rs s.1 i) (gt s.1 i).1.toNat) (gt s.1 i).2)) j)=true
  by_cases e:(gt s.1 i).1.toNat=j
  ·rw[e,dB (by rw[gU];exact hj)]
   unfold uB
   cases vY (gt (cP clock rs s.1 i) j) (gt s.1 i).2 with
   | false=>exact ih j hj
   | true=>
    unfold eC at he
    simp only[Bool.and_eq_true,bH] at he
    show uA clock ((gt s.1 i).2.1,(gt s.1 i).2.2.2.1,clock,())=true
    unfold uA
    simp only[Bool.and_eq_true,bH]
    omega
  ·rw[eJ e];exact ih j hj
-- a node with another state, other rows and rises
def tkS(x:NodeT)(s:aM):List cS:=bK x.seen x.1 (fI (eH x.state s))
def tkP(x:NodeT)(s:aM):aM:=kJ (eH x.state s) (tkS x s)
def tkR(x:NodeT)(s:aM):List kN:=cP x.clock x.rises (tkP x s).1 (tkP x s).1.length
def mL(x:NodeT)(s:aM):NodeT:=
 (x.1,x.2.1,(tkP x s).1,(tkP x s).2.1,(cZ (tkP x s)).1,(cZ (tkP x s)).2.1,x.2.2.2.2.2.2.1,x.2.2.2.2.2.2.2.1,x.2.2.2.2.2.2.2.2.1,x.got,x.acked,tkS x s,x.num,x.slots,x.sess,x.wait,x.limit,x.clock,tkR x s,())
theorem AO(a:List aZ):jJ a a=true:=by
 unfold jJ;simp[bW]
structure NodeOk (x:NodeT):Prop where
 n:inB x.2.1 1 5=true
 id:inB x.1 0 (i64.wrap (x.2.1 - 1))=true
 state:aY x.state=true
 tree:tQ x=true
 log:gI x.log=true
 got:fM x.got x.2.1=true
 acked:fM x.acked x.2.1=true
 own:((gt x.got x.1.toNat).1==dM x.log)=true
 seen:gQ x.seen x.2.1=true
 ack:wX x=true
 num:inB x.num 0 100000=true
 clock:inB x.clock 0 100000=true
 slots:inB x.slots 1 4=true
 wait:inB x.wait 1 20=true
 limit:inB x.limit 1 50=true
 rises:((x.rises.length:Nat):Int)==5
 rise:bW x.rises.length (jY x)=true
 sess:jX x=true
theorem iP(x:NodeT):gW x=true↔NodeOk x:=by
 unfold gW j0
 simp only[Bool.and_eq_true]
 constructor
 ·rintro ⟨h1,h2,h3,h4,h5,h6,h7,h8,h9,h10,h11,h12,h13,h14,h15,h16,h17,h18⟩
  exact⟨h1,h2,h3,h4,h5,h6,h7,h8,h9,h10,h11,h12,h13,h14,h15,h16,h17,h18⟩
 ·rintro ⟨h1,h2,h3,h4,h5,h6,h7,h8,h9,h10,h11,h12,h13,h14,h15,h16,h17,h18⟩
  exact⟨h1,h2,h3,h4,h5,h6,h7,h8,h9,h10,h11,h12,h13,h14,h15,h16,h17,h18⟩
theorem DX{x:NodeT}{s:aM}(h:NodeOk x)(hs:aY s=true):aY (tkP x s)=true:=y4 (p5 h.state hs) _
theorem NodeOk.take{x:NodeT}{s:aM}(h:NodeOk x)(hs:aY s=true):NodeOk (mL x s) where
 n:=h.n
 id:=h.id
 state:=DX h hs
 tree:=by
  show(jJ (cZ (tkP x s)).1 (cZ (tkP x s)).1&&(cZ (tkP x s)).2.1==(cZ (tkP x s)).2.1)=true
  rw[AO];simp
 log:=h.log
 got:=h.got
 acked:=h.acked
 own:=h.own
 seen:=rO h.seen
 ack:=h.ack
 num:=h.num
 clock:=h.clock
 slots:=h.slots
 wait:=h.wait
 limit:=h.limit
 rises:=by
  show(((cP x.clock x.rises (tkP x s).1 (tkP x s).1.length).length:Nat):Int)==5
  rw[gU];exact h.rises
 rise:=by
  show bW (cP x.clock x.rises (tkP x s).1 (tkP x s).1.length).length _=true
  rw[gU,cE]
  intro i hi
  have hc:=h.clock;rw[bH] at hc
  exact vX hc.1 ((bI _).1 (DX h hs)) (fun j hj=>cE.1 h.rise j hj) _ (Nat.le_refl _) i hi
 sess:=h.sess
theorem AG(x:NodeT)(s:aM):SzS (tkP x s):=EH (j8 _ _) _
theorem CH(s:aM):(cZ s).1.length≤aW:=by
 unfold cZ;cases aY s with
 | false=>exact Nat.zero_le _
 | true=>show 4≤aW;decide
theorem kW{x:NodeT}(h:SzN x)(s:aM):SzN (mL x s) where
 state:=AG x s
 leaves:=CH _
 list:=h.list
 logs:=h.logs
 got:=h.got
 acked:=h.acked
 seen:=by show(tkS x s).length≤aW;unfold tkS;rw[d6];exact h.seen
 lines:=by
  intro i hi
  show(gt (tkS x s) i).1.length≤aW
  unfold tkS;rw[hX]
  exact h.lines i (by have:i<(tkS x s).length:=hi;unfold tkS at this;rw[d6] at this;exact this)
 sess:=h.sess
 rises:=by show(cP x.clock x.rises (tkP x s).1 (tkP x s).1.length).length≤aW;rw[gU];exact h.rises
-- hearing
def heard0(x:NodeT)(m:MsgT):NodeT:=
 (x.1,x.2.1,x.2.2.1,x.2.2.2.1,x.2.2.2.2.1,x.2.2.2.2.2.1,x.2.2.2.2.2.2.1,x.2.2.2.2.2.2.2.1,x.2.2.2.2.2.2.2.2.1,x.got,cT x.acked m.2.1 (mxI false (gt m.vec x.1.toNat).1 (dM x.log)),bK x.seen m.2.1 m.marks,x.num,x.slots,x.sess,x.wait,x.limit,x.clock,x.rises,())
def cG(x:NodeT)(m:MsgT):NodeT:=mL (heard0 x m) sQ
def gotUp(x:NodeT)(m:MsgT):NodeT:=
 (x.1,x.2.1,x.2.2.1,x.2.2.2.1,x.2.2.2.2.1,x.2.2.2.2.2.1,x.2.2.2.2.2.2.1,x.2.2.2.2.2.2.2.1,x.2.2.2.2.2.2.2.2.1,cT x.got m.2.1 m.hi,x.acked,x.seen,x.num,x.slots,x.sess,x.wait,x.limit,x.clock,x.rises,())
def cX(x:NodeT)(m:MsgT):NodeT:=gotUp (mL (cG x m) m.part) m
theorem C8{l:lI}(h:gI l=true):0≤dM l∧dM l≤100000:=by
 unfold dM;rw[h]
 unfold gI at h
 simp only[Bool.and_eq_true,bH,Bool.not_eq_true',decide_eq_false_iff_not] at h
 show 0≤i64.wrap _∧i64.wrap _≤100000
 rw[IntKind.wrap_i64] at h ⊢
 omega
theorem NodeOk.heard0{x:NodeT}(h:NodeOk x)(m:MsgT):NodeOk (heard0 x m) where
 n:=h.n
 id:=h.id
 state:=h.state
 tree:=h.tree
 log:=h.log
 got:=h.got
 acked:=rM h.acked (by rw[BX];have:=C8 h.log;omega)
 own:=h.own
 seen:=rO h.seen
 ack:=by
  have:=h.ack
  unfold wX at this ⊢
  rw[show(Go.Abs.heard0 x m).acked=cT x.acked m.2.1 (mxI false (gt m.vec x.1.toNat).1 (dM x.log))from rfl,fX]
  rw[cE] at this ⊢
  intro i hi
  have h1:=this i hi
  rw[show(Go.Abs.heard0 x m).log=x.log from rfl]
  simp only[Bool.not_eq_true',decide_eq_false_iff_not] at h1 ⊢
  rcases rN x.acked m.2.1 (mxI false (gt m.vec x.1.toNat).1 (dM x.log)) i with e | e
  ·rw[e];exact h1
  ·rw[e,BX];omega
 num:=h.num
 clock:=h.clock
 slots:=h.slots
 wait:=h.wait
 limit:=h.limit
 rises:=h.rises
 rise:=h.rise
 sess:=h.sess
theorem NodeOk.heard{x:NodeT}(h:NodeOk x)(m:MsgT):NodeOk (cG x m):=(h.heard0 m).take tH
theorem qR{x:NodeT}(h:SzN x)(m:MsgT):SzN (heard0 x m) where
 state:=h.state
 leaves:=h.leaves
 list:=h.list
 logs:=h.logs
 got:=h.got
 acked:=by show(cT _ _ _).length≤aW;rw[fX];exact h.acked
 seen:=by show(bK _ _ _).length≤aW;rw[d6];exact h.seen
 lines:=by
  intro i hi
  show(gt (bK x.seen m.2.1 m.marks) i).1.length≤aW
  rw[hX]
  exact h.lines i (by have:i<(bK x.seen m.2.1 m.marks).length:=hi;rw[d6] at this;exact this)
 sess:=h.sess
 rises:=h.rises
theorem fZ{x:NodeT}(h:SzN x)(m:MsgT):SzN (cG x m):=kW (qR h m) _
theorem NodeOk.gotUp{x:NodeT}(h:NodeOk x){m:MsgT}(hi:m.hi≤100000)(hm:m.2.1.toNat≠x.1.toNat):NodeOk (gotUp x m) where
 n:=h.n
 id:=h.id
 state:=h.state
 tree:=h.tree
 log:=h.log
 got:=rM h.got hi
 acked:=h.acked
 own:=by
  show((gt (cT x.got m.2.1 m.hi) x.1.toNat).1==dM x.log)=true
  rw[yH _ hm];exact h.own
 seen:=h.seen
 ack:=h.ack
 num:=h.num
 clock:=h.clock
 slots:=h.slots
 wait:=h.wait
 limit:=h.limit
 rises:=h.rises
 rise:=h.rise
 sess:=h.sess
theorem FH{x:NodeT}(h:SzN x)(m:MsgT):SzN (gotUp x m) where
 state:=h.state
 leaves:=h.leaves
 list:=h.list
 logs:=h.logs
 got:=by show(cT _ _ _).length≤aW;rw[fX];exact h.got
 acked:=h.acked
 seen:=h.seen
 lines:=h.lines
 sess:=h.sess
 rises:=h.rises
theorem g9{x:NodeT}(h:SzN x)(m:MsgT):SzN (cX x m):=FH (kW (fZ h m) _) _
-- messages
def mI(v:List aZ)(top:Int):Bool:=bW v.length fun i=>inB (gt v i).1 0 top
def nX(t:jL):Bool:=bif((t.1.length:Nat):Int)==0 then t.2.1==0 else(((t.1.length:Nat):Int)==4&&(mI t.1 1023&&inB t.2.1 0 1023))
def wF(v:List aZ)(i:Nat):Bool:=inB (gt v i).1 0 3&&rV (fun j=> !decide ((gt v (j+1)).1≤(gt v j).1)) i
def pZ(m:MsgT):Bool:=inB m.1 0 5&&(fP m.2.1&&(fP m.2.2.1&& !(m.2.1==m.2.2.1)))
def k9(m:MsgT):Bool:=pZ m&&((bW m.leaves.length (wF m.leaves))&&(mI m.vec 100000&&(inB m.2.2.2.1 0 100000&&(inB m.hi 0 100000&&(nX m.tree&&(decide (((m.vec.length:Nat):Int)≤5)&&(aY m.part&&eB m.marks)))))))
def mH(v:List aZ)(most top:Int):Bool:= !decide (((v.length:Nat):Int)>most)&&mI v top
def zF(v:List aZ)(i:Nat):Bool:= !decide ((gt v (i+1)).1≤(gt v i).1)
def uJ(m:MsgT):Bool:=inB m.1 0 5&&(fP m.2.1&&(fP m.2.2.1&&(!(m.2.1==m.2.2.1)&&(inB m.2.2.2.1 0 100000&&(inB m.hi 0 100000&&(nX m.tree&&(mH m.vec 5 100000&&(mH m.leaves 4 3&&(aY m.part&&(eB m.marks&&bW (m.leaves.length - 1) (zF m.leaves)))))))))))
theorem E0(v:List aZ):(mH v 4 3&&bW (v.length - 1) (zF v))=bW v.length (wF v):=by
 rw[Bool.eq_iff_iff]
 unfold mH mI wF zF
 simp only[Bool.and_eq_true,cE,Bool.not_eq_true',decide_eq_false_iff_not]
 constructor
 ·rintro ⟨⟨_,h2⟩,h3⟩ i hi
  refine⟨h2 i hi,?_⟩
  cases i with
  | zero=>rfl
  | succ j=>show(!decide ((gt v (j+1)).1≤(gt v j).1))=true;rw[decide_eq_false (h3 j (by omega))];rfl
 ·intro h
  have hp:∀ j,j+1<v.length→(gt v j).1<(gt v (j+1)).1:=fun j hj=>by
   have:=(h (j+1) hj).2
   unfold rV at this
   simpa using this
  have hge:∀ i,i<v.length→(i:Int)≤(gt v i).1:=by
   intro i
   induction i with
   | zero=>intro hi;have:=(h 0 hi).1;rw[bH] at this;exact this.1
   | succ j ih=>intro hi;have:=ih (by omega);have:=hp j hi;omega
  refine⟨⟨?_,fun i hi=>(h i hi).1⟩,fun i hi=>by have:=hp i (by omega);omega⟩
  rcases Nat.lt_or_ge 4 v.length with h5 | h5
  ·have h6:=hge 4 h5
   have:=(h 4 h5).1;rw[bH] at this;omega
  ·omega
theorem BZ(m:MsgT):uJ m=k9 m:=by
 unfold uJ k9 pZ
 rw[← E0]
 unfold mH
 simp only[qO]
 ac_rfl
theorem AW{m:MsgT}(h:k9 m=true):m.leaves.length≤4:=by
 rw[← BZ] at h
 unfold uJ mH at h
 simp only[Bool.and_eq_true,Bool.not_eq_true',decide_eq_false_iff_not] at h
 omega
end Go.Abs
-- messages and receiving: plain laws
namespace Go.Abs
theorem eU{β:Type}{o:Option Out}{A B C:List Kd}{r:Row A}{s:Row B}{t:Row C}{f:Rows [A,B,C]×Rows []→Option β}(h:o=some ⟨[⟨A,r⟩,⟨B,s⟩,⟨C,t⟩],[]⟩):(o.bind (eD [A,B,C] [])).bind f=f ((r,s,t,()),()):=by
 rw[h];simp[eD,eL,jP];rfl
def dH(l:List aM)(k:Nat):Nat→aM
 | 0=>sQ
 | i+1=>eH (dH l k i) (gt l (k+i))
theorem oG(l:List aM)(k:Nat):∀ i,SzS (dH l k i)
 | 0=>nN
 | i+1=>j8 _ _
theorem oH{l:lI}(h:gI l=true)(k:Nat):∀ i,k+i≤l.2.2.1.length→aY (dH l.2.2.1 k i)=true
 | 0,_=>tH
 | i+1,hi=>p5 (oH h k i (by omega)) (by
   unfold gI at h
   simp only[Bool.and_eq_true] at h
   exact cE.1 h.2.2.2.2 (k+i) (by omega))
def eQ(l:lI)(seq:Int):Bool:=gI l&&inB seq l.2.1 (i64.wrap (l.2.1+((l.2.2.1.length:Nat):Int)))
def bR(l:lI)(seq:Int):Nat:=(seq - l.2.1).toNat
def fR(l:lI)(seq:Int):aM:=bif eQ l seq then dH l.2.2.1 (bR l seq) (l.2.2.1.length - bR l seq)else sQ
theorem pJ{l:lI}{seq:Int}(h:eQ l seq=true):l.2.1+((bR l seq:Nat):Int)=seq∧bR l seq≤l.2.2.1.length∧0≤l.2.1∧l.2.1≤100000∧l.2.2.1.length≤8:=by
 unfold eQ gI at h
 simp only[Bool.and_eq_true,bH,Bool.not_eq_true',decide_eq_false_iff_not] at h
 unfold bR
 rw[IntKind.wrap_i64] at h
 omega
def mO(x:NodeT)(seq:Int):aM:=bif eQ x.log seq then fR x.log seq else x.state
theorem yQ{x:NodeT}(h:SzN x)(seq:Int):SzS (mO x seq):=by
 unfold mO fR
 cases eQ x.log seq with
 | false=>exact h.state
 | true=>exact oG _ _ _
theorem D7{x:NodeT}(h:NodeOk x)(seq:Int):aY (mO x seq)=true:=by
 unfold mO fR
 cases hs:eQ x.log seq with
 | false=>exact h.state
 | true=>have:=pJ hs;exact oH h.log _ _ (by omega)
theorem yP{s:aM}(h:SzS s)(ls:List aZ):SzS (gS s ls):=
 ⟨Nat.le_trans (List.length_filter_le ..) h.1,Nat.le_trans (List.length_filter_le ..) h.2⟩
theorem D5{s:aM}(h:aY s=true)(ls:List aZ):aY (gS s ls)=true:=(bI _).2 (((bI _).1 h).slice ls)
def v6(x:NodeT)(ls:List aZ)(seq:Int):aM:=eH (gS x.state ls) (mO x seq)
def dL(a b:jL)(i:Nat):List aZ:=bif((a.1.length:Nat):Int) != 4 then[((i:Int),())] else bif((b.1.length:Nat):Int) != 4 then[((i:Int),())] else bif(gt a.1 i).1 != (gt b.1 i).1 then[((i:Int),())] else[]
def fU(a b:jL):List aZ:=bif a.2.1==b.2.1 then[] else bF 4 (dL a b)
theorem nC(a b:jL)(i:Nat):(dL a b i).length≤1:=by
 unfold dL
 cases ((a.1.length:Nat):Int) != 4<;>cases ((b.1.length:Nat):Int) != 4<;>cases (gt a.1 i).1 != (gt b.1 i).1<;>simp
theorem kA(a b:jL):(fU a b).length≤4:=by
 unfold fU
 cases a.2.1==b.2.1 with
 | true=>exact Nat.zero_le _
 | false=>exact c9 (n:=4) (L:=1) fun i _=>nC a b i
def ES(x:NodeT)(kind to num:Int):MsgT:=(kind,x.1,to,num,dM x.log,[],0,x.got,[],[],[],fI x.state,())
-- exchanges
def withS(x:NodeT)(ss:List eO):NodeT:=
 (x.1,x.2.1,x.2.2.1,x.2.2.2.1,x.2.2.2.2.1,x.2.2.2.2.2.1,x.2.2.2.2.2.2.1,x.2.2.2.2.2.2.2.1,x.2.2.2.2.2.2.2.2.1,x.got,x.acked,x.seen,x.num,x.slots,ss,x.wait,x.limit,x.clock,x.rises,())
def nV(s:eO):Int×Bool:=(s.1,s.2.2.1)
def HN(x:NodeT)(s:eO):Prop:=inB s.1 0 (i64.wrap (x.2.1 - 1))=true∧s.1≠x.1∧inB s.2.1 0 100000=true∧inB s.2.2.2.1 0 x.wait=true
theorem jN{v:List eO}{k:Nat}{p:Int}{b:Bool}:c7 v k p b=true↔nV (gt v k)=(p,b):=by
 unfold c7 nV
 rw[Bool.and_eq_true,beq_iff_eq,F1,Prod.mk.injEq]
theorem EM(v:List eO):(∀ i,i<v.length→v7 v i=true)↔(v.map nV).Nodup:=by
 unfold List.Nodup
 rw[List.pairwise_iff_getElem]
 unfold v7
 simp only[cE,Bool.not_eq_true',List.length_map,List.getElem_map]
 constructor
 ·intro h i j hi hj hij e
  have:=h j hj i hij
  rw[← Bool.not_eq_true,jN] at this
  apply this
  rw[iG hi,iG hj];exact e
 ·intro h j hj i hij
  rw[← Bool.not_eq_true,jN]
  intro e
  refine h i j (by omega) hj hij ?_
  rw[iG (by omega),iG hj] at e;exact e
theorem dX(x:NodeT):jX x=true↔((x.sess.length:Nat):Int)≤x.slots∧(∀ s∈x.sess,HN x s)∧(x.sess.map nV).Nodup:=by
 rw[← EM]
 unfold jX kX
 simp only[Bool.and_eq_true,cE,Bool.not_eq_true',decide_eq_false_iff_not]
 constructor
 ·rintro ⟨h1,h2⟩
  refine⟨by omega,fun s hs=>?_,fun i hi=>(h2 i hi).2.2.2.2⟩
  obtain⟨i,hi,rfl⟩:=m4 hs
  obtain⟨a,b,c,d,_⟩:=h2 i hi
  refine⟨a,?_,c,d⟩
  intro e;rw[e] at b;simp at b
 ·rintro ⟨h1,h2,h3⟩
  refine⟨by omega,fun i hi=>?_⟩
  obtain⟨a,b,c,d⟩:=h2 _ (dZ hi)
  exact⟨a,by simpa using b,c,d,h3 i hi⟩
theorem NodeOk.withS{x:NodeT}(h:NodeOk x){ss:List eO}(h1:((ss.length:Nat):Int)≤x.slots)(h2:∀ s∈ss,HN x s)(h3:(ss.map nV).Nodup):NodeOk (withS x ss) where
 n:=h.n
 id:=h.id
 state:=h.state
 tree:=h.tree
 log:=h.log
 got:=h.got
 acked:=h.acked
 own:=h.own
 seen:=h.seen
 ack:=h.ack
 num:=h.num
 clock:=h.clock
 slots:=h.slots
 wait:=h.wait
 limit:=h.limit
 rises:=h.rises
 rise:=h.rise
 sess:=(dX _).2 ⟨h1,h2,h3⟩
theorem pE{x:NodeT}(h:SzN x){ss:List eO}(h1:ss.length≤aW):SzN (withS x ss):=
 ⟨h.state,h.leaves,h.list,h.logs,h.got,h.acked,h.seen,h.lines,h1,h.rises⟩
theorem eP(v:List eO)(p:Int)(b:Bool):(∃ k:Nat,k<v.length∧cL v p b=(k:Int)∧nV (gt v k)=(p,b))∨(cL v p b= -1∧∀ s∈v,nV s≠(p,b)):=by
 unfold cL
 cases hf:(List.range v.length).find? (fun k=>c7 v k p b)with
 | none=>
  refine .inr ⟨rfl,fun s hs e=>?_⟩
  obtain⟨i,hi,rfl⟩:=m4 hs
  have:=List.find?_eq_none.1 hf i (List.mem_range.2 hi)
  exact this (jN.2 e)
 | some k=>
  refine .inl ⟨k,List.mem_range.1 (List.mem_of_find?_eq_some hf),rfl,?_⟩
  exact jN.1 (show c7 v k p b=true from List.find?_some (p:=fun k=>c7 v k p b) hf)
def nA(x:NodeT)(m:MsgT)(b:Bool):Int:=bif decide (cL x.sess m.2.1 b≥0)then(bif(gt x.sess (cL x.sess m.2.1 b).toNat).2.1 != m.2.2.2.1 then -1 else cL x.sess m.2.1 b)else cL x.sess m.2.1 b
def iL(x:NodeT)(k:Nat):NodeT:=withS x (x.sess.take k++x.sess.drop (k+1))
theorem FI{x:NodeT}(h:NodeOk x)(k:Nat):NodeOk (iL x k):=by
 have hs:=(dX x).1 h.sess
 have sub:List.Sublist (x.sess.take k++x.sess.drop (k+1)) x.sess:=by rw[← List.eraseIdx_eq_take_drop_succ];exact List.eraseIdx_sublist ..
 refine h.withS ?_ (fun s hm=>hs.2.1 s (sub.subset hm)) ((sub.map nV).nodup hs.2.2)
 have:=sub.length_le;omega
theorem uR{x:NodeT}(h:SzN x)(k:Nat):SzN (iL x k):=pE h (by
 have:=h.sess;rw[List.length_append,List.length_take,List.length_drop];omega)
def lS(x:NodeT)(k:Nat)(num:Int):List eO:=x.sess.set k ((gt x.sess k).1,num,(gt x.sess k).2.2.1,(0:Int),())
def iJ(x:NodeT)(m:MsgT):List eO:=x.sess++[(m.2.1,m.2.2.2.1,true,(0:Int),())]
theorem CV{x:NodeT}(h:NodeOk x){k:Nat}(hk:k<x.sess.length){num:Int}(hn:inB num 0 100000=true):NodeOk (withS x (lS x k num)):=by
 have hs:=(dX x).1 h.sess
 refine h.withS (by unfold lS;rw[List.length_set];exact hs.1) (fun s hm=>?_) ?_
 ·rcases List.mem_or_eq_of_mem_set hm with h1 | h1
  ·exact hs.2.1 s h1
  ·have h2:=hs.2.1 _ (dZ hk)
   rw[h1]
   refine⟨h2.1,h2.2.1,hn,?_⟩
   have:=h.wait;rw[bH] at this ⊢;show 0≤(0:Int)∧(0:Int)≤x.wait;omega
 ·unfold lS
  rw[List.map_set,show nV ((gt x.sess k).1,num,(gt x.sess k).2.2.1,(0:Int),())=nV (gt x.sess k)from rfl]
  have:(x.sess.map nV).set k (nV (gt x.sess k))=x.sess.map nV:=by
   rw[← List.map_set,xM]
  rw[this];exact hs.2.2
theorem BK{x:NodeT}(h:NodeOk x){m:MsgT}(hp:inB m.2.1 0 (i64.wrap (x.2.1 - 1))=true)(hi:m.2.1≠x.1)(hn:inB m.2.2.2.1 0 100000=true)(hf:cL x.sess m.2.1 true<0)(hl:((x.sess.length:Nat):Int)≠x.slots):NodeOk (withS x (iJ x m)):=by
 have hs:=(dX x).1 h.sess
 refine h.withS (by unfold iJ;rw[List.length_append,List.length_singleton];omega) (fun s hm=>?_) ?_
 ·rcases List.mem_append.1 hm with h1 | h1
  ·exact hs.2.1 s h1
  ·rw[List.mem_singleton.1 h1]
   refine⟨hp,hi,hn,?_⟩
   have:=h.wait;rw[bH] at this ⊢;show 0≤(0:Int)∧(0:Int)≤x.wait;omega
 ·unfold iJ
  rw[List.map_append,List.nodup_append]
  refine⟨hs.2.2,by simp,fun a ha b hb=>?_⟩
  obtain⟨s,hs1,rfl⟩:=List.mem_map.1 ha
  have hb:b=(m.2.1,true):=by simpa [nV] using hb
  rw[hb]
  rcases eP x.sess m.2.1 true with ⟨k,_,e,_⟩ | ⟨_,e⟩
  ·rw[e] at hf;omega
  ·exact e s hs1
-- receiving
def xT(o:NodeT)(x:NodeT)(m:MsgT):MsgT:=
 (3,o.1,m.2.1,m.2.2.2.1,dM o.log,o.tree.1,o.tree.2.1,o.got,fU o.tree m.tree,(v6 o (fU o.tree m.tree) (gt m.vec x.1.toNat).1).1,(v6 o (fU o.tree m.tree) (gt m.vec x.1.toNat).1).2.1,fI o.state,())
def HJ(o:NodeT)(x:NodeT)(m:MsgT):MsgT:=
 (4,o.1,m.2.1,m.2.2.2.1,dM o.log,[],0,o.got,m.leaves,(v6 o m.leaves (gt m.vec x.1.toNat).1).1,(v6 o m.leaves (gt m.vec x.1.toNat).1).2.1,fI o.state,())
abbrev sU:=NodeT×List MsgT×Int
def fG(x:NodeT)(m:MsgT):List eO:=bif decide (cL x.sess m.2.1 true≥0)then lS x (cL x.sess m.2.1 true).toNat m.2.2.2.1 else iJ x m
def AK(x:NodeT)(m:MsgT):NodeT:=cG (withS x (fG x m)) m
def hY(x:NodeT)(m:MsgT):Bool:= !decide (cL x.sess m.2.1 true≥0)&&((x.sess.length:Nat):Int)==x.slots
def gV(x:NodeT)(m:MsgT):sU:=bif hY x m then(x,[ES x 5 m.2.1 m.2.2.2.1],3)else(AK x m,[xT (AK x m) x m],0)
def jH(x:NodeT)(m:MsgT)(k:Nat):sU:=
 bif m.1==5 then(iL x k,[],0)else bif m.1==4 then(cX (iL x k) m,[],0)else(cX (iL x k) m,[HJ (cX (iL x k) m) x m],0)
def mU(x:NodeT)(m:MsgT):sU:=
 bif m.1==0 then(cX x m,[ES (cX x m) 1 m.2.1 m.2.2.2.1],0)else
 bif m.1==1 then(cG x m,[],0)else bif m.1==2 then gV x m else
 bif decide (nA x m (m.1==4)<0)then(x,[],2)else jH x m (nA x m (m.1==4)).toNat
def fN(x:NodeT)(m:MsgT):Bool:=gW x&&(k9 m&&(m.2.2.1==x.1&&(!decide (m.2.1≥x.2.1)&&((m.vec.length:Nat):Int)==x.2.1)))
def nU(x:NodeT)(m:MsgT):sU:=bif fN x m then mU x m else(x,[],1)
structure RecOk (x:NodeT) (m:MsgT):Prop where
 node:NodeOk x
 msg:k9 m=true
 idn:0≤x.1∧x.1<x.2.1∧1≤x.2.1∧x.2.1≤5
 frm:0≤m.2.1∧m.2.1<x.2.1
 ne:m.2.1≠x.1
 vec:((m.vec.length:Nat):Int)=x.2.1
 to:m.2.2.1=x.1
 num:inB m.2.2.2.1 0 100000=true
 hi:0≤m.hi∧m.hi≤100000
 part:aY m.part=true
 marks:eB m.marks=true
 leaves:m.leaves.length≤4
theorem uC{x:NodeT}{m:MsgT}(h:fN x m=true):RecOk x m:=by
 unfold fN at h
 simp only[Bool.and_eq_true,beq_iff_eq,Bool.not_eq_true',decide_eq_false_iff_not] at h
 obtain⟨h1,h2,h3,h4,h5⟩:=h
 have hn:=(iP x).1 h1
 have a1:=hn.n
 have a2:=hn.id
 rw[bH] at a1 a2
 rw[IntKind.wrap_i64] at a2
 have hm:=h2
 unfold k9 pZ fP at hm
 simp only[Bool.and_eq_true,bH,Bool.not_eq_true',beq_eq_false_iff_ne] at hm
 obtain⟨⟨b1,b2,b3,b4⟩,b5,b6,b7,b8,b9,b10,b11,b12⟩:=hm
 exact⟨hn,h2,by omega,by omega,by rw[← h3];exact b4,h5,h3,bH.2 b7,b8,b11,b12,AW h2⟩
theorem RecOk.gone{x:NodeT}{m:MsgT}(h:RecOk x m)(k:Nat):RecOk (iL x k) m:=
 ⟨FI h.node k,h.msg,h.idn,h.frm,h.ne,h.vec,h.to,h.num,h.hi,h.part,h.marks,h.leaves⟩
theorem RecOk.brought{x:NodeT}{m:MsgT}(h:RecOk x m):NodeOk (cX x m):=
 NodeOk.gotUp ((h.node.heard m).take h.part) h.hi.2 (by
  have h1:=h.ne;have h2:=h.idn;have h3:=h.frm
  show m.2.1.toNat≠x.1.toNat
  omega)
theorem RecOk.syn{x:NodeT}{m:MsgT}(h:RecOk x m)(hf:hY x m=false):RecOk (withS x (fG x m)) m:=by
 refine⟨?_,h.msg,h.idn,h.frm,h.ne,h.vec,h.to,h.num,h.hi,h.part,h.marks,h.leaves⟩
 unfold fG
 unfold hY at hf
 by_cases hc:cL x.sess m.2.1 true≥0
 ·rw[decide_eq_true hc]
  rcases eP x.sess m.2.1 true with ⟨k,hk,e,_⟩ | ⟨e,_⟩
  ·show NodeOk (withS x (lS x (cL x.sess m.2.1 true).toNat m.2.2.2.1))
   rw[e];exact CV h.node hk h.num
  ·omega
 ·rw[decide_eq_false hc] at hf ⊢
  refine BK h.node ?_ h.ne h.num (by omega) (by intro e;rw[e] at hf;simp at hf)
  have h2:=h.idn;have h3:=h.frm
  rw[bH,IntKind.wrap_i64];omega
theorem mM{x:NodeT}(h:NodeOk x)(m:MsgT):(fG x m).length≤aW:=by
 have h1:=((dX x).1 h.sess).1
 have h2:=h.slots;rw[bH] at h2
 unfold fG lS iJ aW
 cases decide (cL x.sess m.2.1 true≥0)with
 | true=>show(List.set _ _ _).length≤_;rw[List.length_set];omega
 | false=>show(x.sess++[_]).length≤_;rw[List.length_append,List.length_singleton];omega
theorem GD{x:NodeT}(hz:SzN x)(h:NodeOk x)(m:MsgT):SzN (AK x m):=fZ (pE hz (mM h m)) m
theorem BQ{x:NodeT}{m:MsgT}(h:fN x m=false):nU x m=(x,[],1):=by unfold nU;rw[h];rfl
theorem yU{x:NodeT}{m:MsgT}(h:fN x m=true):nU x m=mU x m:=by unfold nU;rw[h];rfl
-- an exchange taken out, as the code does it
def vP(x:NodeT)(k:Int):List eO:=([]++((x.sess.take (k.toNat)).drop 0))++((x.sess.take x.sess.length).drop ((i64.wrap (k+1))).toNat)
theorem GI{x:NodeT}{k:Nat}(hk:k<x.sess.length)(hl:x.sess.length≤aW):vP x (k:Int)=x.sess.take k++x.sess.drop (k+1):=by
 unfold vP
 rw[aJ (Nat.lt_of_lt_of_le hk (Nat.le_trans hl (by decide))),List.take_length,Int.toNat_natCast,Int.toNat_natCast];rfl
theorem yW{x:NodeT}{k:Nat}(hk:k<x.sess.length)(hl:x.sess.length≤aW):withS x (vP x (k:Int))=iL x k:=by rw[GI hk hl];rfl
theorem p9{α β:Type}{ss:List α}{k:Nat}{F Z:β}(hk:k<ss.length)(hl:ss.length≤aW):
  (bif decide (0≤(k:Int))&&decide ((k:Int)≤((ss.length:Nat):Int))then(bif decide (List.length ([]:List α)+List.length ((ss.take ((k:Int).toNat)).drop 0)≤bound)then
   (bif decide (0≤i64.wrap ((k:Int)+1))&&decide (i64.wrap ((k:Int)+1)≤((ss.length:Nat):Int))then
    (bif decide (List.length ([]++((ss.take ((k:Int).toNat)).drop 0))+List.length ((ss.take ss.length).drop ((i64.wrap ((k:Int)+1))).toNat)≤bound)then F else Z)else Z)else Z)else Z)=F:=by
 have hb:aW≤bound:=by decide
 rw[aJ (Nat.lt_of_lt_of_le hk (Nat.le_trans hl (by decide)))]
 refine(u9 (Int.natCast_nonneg _) (by omega)).trans ?_
 refine(aE (by rw[List.drop_zero,List.length_take];simp;omega)).trans ?_
 refine(u9 (Int.natCast_nonneg _) (by omega)).trans ?_
 exact aE (by rw[List.nil_append,List.drop_zero,List.length_take,List.length_drop,List.length_take,Int.toNat_natCast,Int.toNat_natCast];omega)
end Go.Abs
-- exchanges begun and gone through: plain laws
namespace Go.Abs
def jF(x:NodeT)(to:Int):Bool:=gW x&&(nY x to&&(!decide (cL x.sess to false≥0)&&(!(((x.sess.length:Nat):Int)==x.slots)&& !(x.num==100000))))
def tV(x:NodeT)(to:Int):NodeT:=
 (x.1,x.2.1,x.2.2.1,x.2.2.2.1,x.2.2.2.2.1,x.2.2.2.2.2.1,x.2.2.2.2.2.2.1,x.2.2.2.2.2.2.2.1,x.2.2.2.2.2.2.2.2.1,x.got,x.acked,x.seen,i64.wrap (x.num+1),x.slots,x.sess++[(to,i64.wrap (x.num+1),false,(0:Int),())],x.wait,x.limit,x.clock,x.rises,())
def HY(x:NodeT)(to:Int):MsgT:=(2,x.1,to,i64.wrap (x.num+1),dM x.log,x.tree.1,x.tree.2.1,x.got,[],[],[],fI x.state,())
def ET:MsgT:=((0:Int),(0:Int),(0:Int),(0:Int),(0:Int),[],(0:Int),[],[],[],[],[],())
abbrev IU:=NodeT×MsgT×Bool
def pI(x:NodeT)(to:Int):IU:=bif jF x to then(tV x to,HY x to,true)else(x,ET,false)
structure SynOk (x:NodeT) (to:Int):Prop where
 node:NodeOk x
 peer:0≤to∧to<x.2.1∧to≠x.1
 slot:cL x.sess to false<0
 room:((x.sess.length:Nat):Int)<x.slots
 num:0≤x.num∧x.num<100000
 nn:1≤x.2.1∧x.2.1≤5
theorem tX{x:NodeT}{to:Int}(h:jF x to=true):SynOk x to:=by
 unfold jF nY at h
 simp only[Bool.and_eq_true,Bool.not_eq_true',decide_eq_false_iff_not,beq_eq_false_iff_ne,bne_iff_ne,bH] at h
 obtain⟨h1,⟨h2,h3⟩,h4,h5,h6⟩:=h
 have hn:=(iP x).1 h1
 have h7:=hn.n;have h8:=hn.num
 have h9:=((dX x).1 hn.sess).1
 rw[bH] at h7 h8
 rw[IntKind.wrap_i64] at h2
 exact⟨hn,by omega,by omega,by omega,by omega,by omega⟩
theorem EN{n:Int}(h:0≤n∧n<100000):i64.wrap (n+1)=n+1:=by rw[IntKind.wrap_i64];omega
theorem SynOk.up{x:NodeT}{to:Int}(h:SynOk x to):NodeOk (tV x to) where
 n:=h.node.n
 id:=h.node.id
 state:=h.node.state
 tree:=h.node.tree
 log:=h.node.log
 got:=h.node.got
 acked:=h.node.acked
 own:=h.node.own
 seen:=h.node.seen
 ack:=h.node.ack
 num:=by show inB (i64.wrap (x.num+1)) 0 100000=true;rw[EN h.num,bH];have:=h.num;omega
 clock:=h.node.clock
 slots:=h.node.slots
 wait:=h.node.wait
 limit:=h.node.limit
 rises:=h.node.rises
 rise:=h.node.rise
 sess:=by
  have hs:=(dX x).1 h.node.sess
  refine(dX _).2 ⟨?_,fun s hm=>?_,?_⟩
  ·show(((x.sess++[_]).length:Nat):Int)≤x.slots
   rw[List.length_append,List.length_singleton];have:=h.room;omega
  ·have hm:s∈x.sess++[(to,i64.wrap (x.num+1),false,(0:Int),())]:=hm
   rcases List.mem_append.1 hm with h1 | h1
   ·exact hs.2.1 s h1
   ·rw[List.mem_singleton.1 h1]
    have h2:=h.peer;have h3:=h.num;have h4:=h.node.wait;have h5:=h.nn
    rw[bH] at h4
    refine⟨?_,h2.2.2,?_,?_⟩
    ·show inB to 0 (i64.wrap (x.2.1 - 1))=true
     rw[bH,IntKind.wrap_i64];omega
    ·show inB (i64.wrap (x.num+1)) 0 100000=true
     rw[EN h.num,bH];omega
    ·show inB 0 0 x.wait=true
     rw[bH];omega
  ·show(List.map nV (x.sess++[(to,i64.wrap (x.num+1),false,(0:Int),())])).Nodup
   rw[List.map_append,List.nodup_append]
   refine⟨hs.2.2,by simp,fun a ha b hb=>?_⟩
   obtain⟨s,hs1,rfl⟩:=List.mem_map.1 ha
   have hb:b=(to,false):=by simpa [nV] using hb
   rw[hb]
   rcases eP x.sess to false with ⟨k,_,e,_⟩ | ⟨_,e⟩
   ·have:=h.slot;rw[e] at this;omega
   ·exact e s hs1
theorem tU{x:NodeT}{to:Int}(hz:SzN x)(h:SynOk x to):SzN (tV x to):=
 ⟨hz.state,hz.leaves,hz.list,hz.logs,hz.got,hz.acked,hz.seen,hz.lines,by
  have h1:=h.room;have h2:=h.node.slots;rw[bH] at h2
  show(x.sess++[_]).length≤aW
  rw[List.length_append,List.length_singleton];unfold aW;omega,hz.rises⟩
theorem GE{x:NodeT}(hz:SzN x)(to:Int):SzM (HY x to):=⟨hz.leaves,hz.got,Nat.zero_le _,nN,Nat.le_trans (gY _) (by decide)⟩
theorem GV:SzM ET:=⟨Nat.zero_le _,Nat.zero_le _,Nat.zero_le _,nN,Nat.zero_le _⟩
theorem xH{x:NodeT}(hz:SzN x)(to:Int):SzN (pI x to).1∧SzM (pI x to).2.1:=by
 unfold pI
 cases h:jF x to with
 | false=>exact⟨hz,GV⟩
 | true=>exact⟨tU hz (tX h),GE hz to⟩
theorem tW{x:NodeT}{to:Int}(h:jF x to=true):pI x to=(tV x to,HY x to,true):=by unfold pI;rw[h];rfl
theorem xI{x:NodeT}{to:Int}(h:jF x to=false):pI x to=(x,ET,false):=by unfold pI;rw[h];rfl
-- who answers whom
structure RecTo (x:NodeT) (m:MsgT) (r:sU):Prop where
 id:r.1.1=x.1
 to:∀ q∈r.2.1,q.2.2.1=m.2.1∧q.2.1=x.1
theorem pG{x:NodeT}{m:MsgT}:∀ q∈([]:List MsgT),q.2.2.1=m.2.1∧q.2.1=x.1:=fun q h=>by cases h
theorem xC{x:NodeT}{m a:MsgT}(h:a.2.2.1=m.2.1∧a.2.1=x.1):∀ q∈[a],q.2.2.1=m.2.1∧q.2.1=x.1:=fun q hq=>by rw[List.mem_singleton.1 hq];exact h
theorem CR(x:NodeT)(m:MsgT):RecTo x m (gV x m):=by
 unfold gV
 cases hY x m with
 | true=>exact⟨rfl,xC ⟨rfl,rfl⟩⟩
 | false=>exact⟨rfl,xC ⟨rfl,rfl⟩⟩
theorem CT(x:NodeT)(m:MsgT)(k:Nat):RecTo x m (jH x m k):=by
 unfold jH
 cases m.1==5 with
 | true=>exact⟨rfl,pG⟩
 | false=>
  cases m.1==4 with
  | true=>exact⟨rfl,pG⟩
  | false=>exact⟨rfl,xC ⟨rfl,rfl⟩⟩
theorem EE(x:NodeT)(m:MsgT):RecTo x m (nU x m):=by
 unfold nU
 cases fN x m with
 | false=>exact⟨rfl,pG⟩
 | true=>
  show RecTo x m (mU x m)
  unfold mU
  cases m.1==0 with
  | true=>exact⟨rfl,xC ⟨rfl,rfl⟩⟩
  | false=>
   cases m.1==1 with
   | true=>exact⟨rfl,pG⟩
   | false=>
    cases m.1==2 with
    | true=>exact CR x m
    | false=>
     cases decide (nA x m (m.1==4)<0)with
     | true=>exact⟨rfl,pG⟩
     | false=>exact CT x m _
theorem BR{x:NodeT}{m q:MsgT}(h:q∈(nU x m).2.1):q.2.2.1=m.2.1∧q.2.1=x.1:=(EE x m).to q h
-- an exchange gone through
def fH(r:sU):Bool:=r.2.2==0&& !(((r.2.1.length:Nat):Int)==0)
def exB(w:bS)(p q:Int):Bool:=fF w&&(inB p 0 (i64.wrap (((w.1.length:Nat):Int) - 1))&&(inB q 0 (i64.wrap (((w.1.length:Nat):Int) - 1))&&p != q))
def cK(w:bS)(p q:Int):IU:=pI (gt w.1 p.toNat) q
def dU(w:bS)(p q:Int):sU:=nU (gt w.1 q.toNat) (cK w p q).2.1
def dT(w:bS)(p q:Int):sU:=nU (cK w p q).1 (gt (dU w p q).2.1 0)
def iS(w:bS)(p q:Int):sU:=nU (dU w p q).1 (gt (dT w p q).2.1 0)
def fE(w:bS)(p q:Int):Bool:=exB w p q&&((cK w p q).2.2&&(fH (dU w p q)&&(fH (dT w p q)&&(iS w p q).2.2==0)))
def exW(w:bS)(p q:Int):bS:=((w.1.set p.toNat (dT w p q).1).set q.toNat (iS w p q).1,w.2.1,w.2.2.1,())
def exN(w:bS)(p q:Int):bS:=bif fE w p q then exW w p q else w
theorem D8{α:Type}{xs:List α}{i j:Nat}(h:i≠j)(a b c d:α):(((xs.set i a).set j b).set i c).set j d=(xs.set i c).set j d:=by
 rw[List.set_comm b c (Ne.symm h),List.set_set,List.set_set]
end Go.Abs
