/- A by-value reading of the model, and its soundness, part 3. -/
import Derived.Test.YtmamlgjbendjhaaGreatW2
set_option linter.unusedVariables false
/- Plain laws: joins, what was said, what lies beneath, what is over. -/
namespace Go.Abs
theorem xI(a b:Int):l2 b a= - l2 a b:=by
 unfold l2
 rcases Int.lt_trichotomy a b with h | h | h
 ·rw[decide_eq_true h,decide_eq_false (by omega:¬ b<a)];rfl
 ·subst h;rw[decide_eq_false (by omega:¬ a<a)];rfl
 ·rw[decide_eq_true h,decide_eq_false (by omega:¬ a<b)];rfl
theorem wG:∀ x y:List UInt8,Lib.compareBytes y x= - Lib.compareBytes x y
 | [],[]=>rfl
 | [],_::_=>rfl
 | _::_,[]=>rfl
 | a::x,b::y=>by
  unfold Lib.compareBytes
  by_cases h1:a<b
  ·have h2:¬ b<a:=fun h=>by rw[UInt8.lt_iff_toNat_lt] at h h1;omega
   simp[h1,h2]
  ·by_cases h2:b<a
   ·simp[h1,h2]
   ·simp[h1,h2,wG x y]
theorem sK(x y:Int):(if -x≠0 then -x else -y)= -(if x≠0 then x else y):=by
 by_cases h:x=0
 ·subst h;simp
 ·rw[if_pos h,if_pos (by omega)]
theorem y7(a b:bV):gH b a= - gH a b:=by
 unfold gH
 rw[xI a.1 b.1,xI a.2.1 b.2.1,xI a.2.2.1 b.2.2.1,xI a.2.2.2.1 b.2.2.2.1,show qD b.2.2.2.2.1 a.2.2.2.2.1= - qD a.2.2.2.2.1 b.2.2.2.2.1 from wG _ _,sK,sK,sK,sK]
theorem wE{y:bV}(h:1≤y.1):gH c8 y= -1:=by
 have e:l2 c8.1 y.1= -1:=by
  unfold l2;rw[decide_eq_true (show c8.1<y.1 from by show(0:Int)<y.1;omega)];rfl
 unfold gH;rw[e];rfl
def orZ(z:Int)(ls:List aY):Int:=match (List.range ls.length).find? (fun i=>(gt ls i).1 != 0)with
 | some i=>(gt ls i).1
 | none=>z
theorem yM(z:Int)(ls:List aY):orZ z ls=(match ls.find? (fun x:aY=>x.1 != 0)with | some x=>x.1 | none=>z):=by
 have h:=lE (fun x:aY=>x.1 != 0) (fun x:aY=>x.1) z ls
 unfold orZ
 cases h1:(List.range ls.length).find? (fun i=>(gt ls i).1 != 0)<;>cases h2:ls.find? (fun x:aY=>x.1 != 0)<;>simp only[h1,h2] at h ⊢<;>exact h
theorem oY(z x:Int)(ls:List aY):orZ z ((x,())::ls)=if x≠0 then x else orZ z ls:=by
 rw[yM,yM,List.find?_cons]
 by_cases h:x=0
 ·subst h;rfl
 ·have:((x,()):aY).1 != 0:=by simpa using h
  rw[this,if_pos h]
def yY(a b:bV):List aY:=[(l2 a.1 b.1,()),(l2 a.2.1 b.2.1,()),(l2 a.2.2.1 b.2.2.1,()),(l2 a.2.2.2.1 b.2.2.2.1,())]
theorem D7(a b:bV):orZ (qD a.2.2.2.2.1 b.2.2.2.2.1) (yY a b)=gH a b:=by
 unfold yY gH
 rw[oY,oY,oY,oY];rfl
theorem C3(x y:ByteArray):(bif Op.bytesLess (ByteArray.toList x) (ByteArray.toList y)then(-1:Int)else DA (!(Op.bytesLess (ByteArray.toList x) (ByteArray.toList y)||ByteArray.toList x==ByteArray.toList y)))=qD x y:=by
 rw[ByteArray.toList_eq,ByteArray.toList_eq];exact wD _ _
/-- The cells of a state that a join leans on. -/
structure Pos (s:aI):Prop where
 item:∀ x∈s.1,1≤x.2.1
 floor:∀ f∈s.2.1,0≤f.2.1
theorem StateOk.pos{s:aI}(h:StateOk s):Pos s where
 item x hx:=by
  have:=(h.item x hx).2.1
  unfold dV at this;simp only[Bool.and_eq_true,aQ] at this;omega
 floor f hf:=by have:=(h.floor f hf).2;rw[aQ] at this;omega
theorem GP:Pos ([],[],()):=⟨fun x hx=>(List.not_mem_nil hx).elim,fun x hx=>(List.not_mem_nil hx).elim⟩
def mxE(a b:bV):bV:=bif decide (gH a b<0)then b else a
def dM(a b:aI)(i:Int):bV:=mxE (bA a i).1 (bA b i).1
def flr(a b:aI)(i:Int):Int:=mxI true (cD a.2.1 i) (cD b.2.1 i)
def cK(a b:aI)(i:Nat):List bM:=bif decide ((dM a b i).1>flr a b i)then[((i:Int),dM a b i)] else[]
def cC(a b:aI)(i:Nat):List aX:=bif decide (flr a b i>0)then[((i:Int),flr a b i,())] else[]
def dL(a b:aI):aI:=(bE 5 (cK a b),bE 5 (cC a b),())
theorem m6(a b:aI)(i:Nat):(cK a b i).length≤1:=by unfold cK;cases decide ((dM a b i).1>flr a b i)<;>simp
theorem lB(a b:aI)(i:Nat):(cC a b i).length≤1:=by unfold cC;cases decide (flr a b i>0)<;>simp
theorem mZ(a b:aI):(dL a b).1.length≤5∧(dL a b).2.1.length≤5:=
 ⟨cN (n:=5) (L:=1) fun i _=>m6 a b i,cN (n:=5) (L:=1) fun i _=>lB a b i⟩
theorem l7(a b:aI):SzS (dL a b):=⟨Nat.le_trans (mZ a b).1 (by decide),Nat.le_trans (mZ a b).2 (by decide)⟩
theorem H7{a b:aI}(ha:Pos a)(i:Int):0≤flr a b i:=by
 have h:0≤cD a.2.1 i:=by
  rcases jO a i with ⟨x,hx,_,e⟩ | ⟨_,e⟩
  ·rw[e];exact ha.floor x hx
  ·omega
 unfold flr mxI;simp only[if_true];split<;>omega
theorem EG:mxE c8 c8=c8:=by
 unfold mxE;cases decide (gH c8 c8<0)<;>rfl
theorem GQ{a b:aI}{i:Int}(ha:bA a i=(c8,false))(hb:bA b i=(c8,false)):dM a b i=c8:=by
 unfold dM;rw[ha,hb];exact EG
theorem sE{a b:aI}{i:Int}{y:bV}(ha:bA a i=(c8,false))(hb:bA b i=(y,true))(hy:1≤y.1):dM a b i=y:=by
 unfold dM mxE;rw[ha,hb];rw[show gH (c8,false).1 (y,true).1= -1 from wE hy];rfl
theorem sD{a b:aI}{i:Int}{x:bV}(ha:bA a i=(x,true))(hb:bA b i=(c8,false))(hx:1≤x.1):dM a b i=x:=by
 unfold dM mxE;rw[ha,hb];rw[show gH (x,true).1 (c8,false).1=1 from by rw[show gH (x,true).1 (c8,false).1= - gH c8 x from y7 c8 x,wE hx];rfl];rfl
theorem BA{a b:aI}{i:Int}{x y:bV}(ha:bA a i=(x,true))(hb:bA b i=(y,true)):dM a b i=bif decide (gH y x>0)then y else x:=by
 unfold dM mxE;rw[ha,hb]
 show(bif decide (gH x y<0)then y else x)=_
 rw[show decide (gH x y<0)=decide (gH y x>0)from ?_]
 rw[y7 x y]
 by_cases h:gH x y<0
 ·rw[decide_eq_true h,decide_eq_true (by omega)]
 ·rw[decide_eq_false h,decide_eq_false (by omega)]
theorem fH{a b:aI}{i:Nat}{e:bV}(he:dM a b i=e)(h:e.1>flr a b i):cK a b i=[((i:Int),e)]:=by
 unfold cK;rw[he,decide_eq_true h];rfl
theorem eM{a b:aI}{i:Nat}{e:bV}(he:dM a b i=e)(h:¬ e.1>flr a b i):cK a b i=[]:=by
 unfold cK;rw[he,decide_eq_false h];rfl
theorem nP{a b:aI}{i:Nat}(h:flr a b i>0):cC a b i=[((i:Int),flr a b i,())]:=by
 unfold cC;rw[decide_eq_true h];rfl
theorem nQ{a b:aI}{i:Nat}(h:¬ flr a b i>0):cC a b i=[]:=by
 unfold cC;rw[decide_eq_false h];rfl
theorem kB{s:aI}(hs:Pos s)(i:Int):(∃ x:bV,1≤x.1∧bA s i=(x,true))∨bA s i=(c8,false):=by
 rcases jR s i with ⟨x,hx,_,e⟩ | ⟨_,e⟩
 ·exact .inl ⟨x.2,hs.item x hx,e⟩
 ·exact .inr e
-- less
def JF(a b:aI):Bool:=aO a&&(aO b&&dG (dL a b) b)
-- over
def gone(s:aI)(id:Int):Int:=bif aO s then(bif(bA s id).2 then(bif(bA s id).1.2.1==0 then IntKind.i64.wrap ((bA s id).1.1 - 1)else(bA s id).1.1)else cD s.2.1 id)else 0
-- what was said
def iG:aI:=([],[],())
def EW(g:Nat→aI):Nat→aI
 | 0=>iG
 | k+1=>dL (EW g k) (g k)
theorem pA:SzS iG:=⟨Nat.zero_le _,Nat.zero_le _⟩
def z1(w:fT)(i:Nat):aI:=(gt w.2.2.1 i).2
def JJ(w:fT):aI:=bif n9 w then EW (z1 w) w.2.2.1.length else iG
def EM(w:fT)(node:Int):Nat→Int
 | 0=>0
 | k+1=>EM w node k+DA ((gt w.2.2.1 k).1==node)
def HY(w:fT)(node:Int):Int:=EM w node w.2.2.1.length
def AH(w:fT)(ls:List aY):Nat→aI
 | 0=>iG
 | k+1=>bif inB (gt ls k).1 0 (IntKind.i64.wrap (((w.2.2.1.length:Nat):Int) - 1))then dL (AH w ls k) (z1 w (gt ls k).1.toNat)else AH w ls k
def H4(w:fT)(ls:List aY):aI:=bif n9 w then AH w ls ls.length else iG
def G1(w:fT)(s:aI):List aY:=bif n9 w&&aO s then bE w.2.2.1.length (fun i=>bif JF (z1 w i) s then[((i:Int),())] else[])else[]
theorem H6{s:aI}(hs:aO s=true)(id:Int):gone s id=(bif(bA s id).2 then(bif(bA s id).1.2.1==1 then(bA s id).1.1 else IntKind.i64.wrap ((bA s id).1.1 - 1))else cD s.2.1 id):=by
 unfold gone;rw[hs]
 rcases jR s id with ⟨x,hx,_,e⟩ | ⟨_,e⟩
 ·rw[e]
  obtain⟨i,hi,rfl⟩:=kW hx
  show(bif(gt s.1 i).2.2.1==0 then _ else _)=bif(gt s.1 i).2.2.1==1 then _ else _
  rcases GH hs hi with h | h<;>rw[h]<;>rfl
 ·rw[e];rfl
end Go.Abs
/- Plain laws: what the judges decide. -/
namespace Go.Abs
theorem yX{s:aI}(hs:aO s=false)(id:Int):gone s id=0:=by unfold gone;rw[hs];rfl
theorem mH{β:Type}{q r:Prop}[Decidable q][Decidable r]{x y:β}(h:q)(h':r):(bif decide q&&decide r then x else y)=x:=by
 rw[decide_eq_true h,decide_eq_true h'];rfl
-- own
-- views
-- heard
-- seen
-- GB, ET, grown
def GB(w:fT):Bool:=n9 w&&bI w.1.length fun i=>CD (nD (gt w.1 i).state) (nD (JJ w))
def kY(s:aI)(id:Int):bV×Bool:=bA (nD s,[],()) id
def BG(w:fT)(id:Int):Nat→Int
 | 0=>0
 | k+1=>BG w id k+DA (kY (gt w.1 k).state id).2
def ET(w:fT)(id:Int):Int:=bif n9 w then BG w id w.1.length else 0
end Go.Abs
/- Plain laws: differences of views applied, and what they are. -/
namespace Go.Abs
end Go.Abs
/- Plain laws: draws. -/
namespace Go.Abs
abbrev eB:=List aY×Int×Int×Unit
structure CurOk (c:eB):Prop where
 len:c.1.length≤1048576
 lo:0≤c.2.1
 hi:c.2.1≤c.1.length
theorem sO(a:Int):0≤A0 .i64 a 255∧A0 .i64 a 255≤255:=by
 unfold A0
 have h:(BitVec.ofInt IntKind.i64.bits a&&& BitVec.ofInt IntKind.i64.bits 255).toNat≤255:=by
  rw[BitVec.toNat_and];exact Nat.le_trans Nat.and_le_right (by decide)
 generalize (BitVec.ofInt IntKind.i64.bits a&&& BitVec.ofInt IntKind.i64.bits 255).toNat=m at h
 have e:IntKind.i64.wrap (m:Int)=m:=by rw[IntKind.wrap_i64];omega
 rw[e];omega
theorem oC{x n:Int}(hx:0≤x)(hn:0<n):0≤x.tmod n∧x.tmod n<n:=by
 rw[Int.tmod_eq_emod_of_nonneg hx]
 exact⟨Int.emod_nonneg _ (by omega),Int.emod_lt_of_pos _ hn⟩
theorem aH{β:Type}{o:Option Out}{A B:List Kd}{r:Row A}{s:Row B}{f:Rows [A]×Rows [B]→Option β}(h:o=some ⟨[⟨A,r⟩],[⟨B,s⟩]⟩):(o.bind (dS [A] [B])).bind f=f ((r,()),(s,())):=by
 rw[h];simp[dS,dR,gD];rfl
theorem uJ{β:Type}{o:Option Out}{A B:List Kd}{r:Row A}{s:Row B}{f:Rows [A,B]×Rows []→Option β}(h:o=some ⟨[⟨A,r⟩,⟨B,s⟩],[]⟩):(o.bind (dS [A,B] [])).bind f=f ((r,s,()),()):=by
 rw[h];simp[dS,dR,gD];rfl
/-- A loop whose rounds are told by what they keep. -/
theorem It.ex {ι σ:Type} {lvl:Nat} {c:Nat→Nat→ι→(σ→Option Out)→σ→Option Out} (Inv:Nat→σ→Prop) (Good:Out→Prop) (N:Nat)
  (hs:∀ i x,i<N→Inv i x→∃ y,Inv (i+1) y∧∀ n,lvl≤n→∀ aA a rec,c n aA a rec x=rec y)
  (he:∀ x,Inv N x→∃ o,Good o∧∀ n,lvl≤n→It (c n) x (fun _=>some o)):∀ (m j:Nat) x,j+m=N→Inv j x→∃ o,Good o∧∀ n,lvl≤n→It (c n) x (fun _=>some o)
 | 0,j,x,hj,hx=>he x ((show j=N by omega)▸hx)
 | m+1,j,x,hj,hx=>by
  obtain⟨y,hy,h⟩:=hs j x (by omega) hx
  obtain⟨o,ho,h'⟩:=It.ex Inv Good N hs he m (j+1) y (by omega) hy
  exact⟨o,ho,fun n hn=>It.next (fun aA a rec=>h n hn aA a rec) (h' n hn)⟩
def datas:List ByteArray:=[⟨#[]⟩,⟨#[97]⟩,⟨#[98]⟩,⟨#[97,98]⟩,⟨#[49,50,51,52,53,54,55,56]⟩,⟨#[49,50,51,52,53,54,55,56,57]⟩]
def F0(e:bV):Prop:=e.2.2.2.2.1∈datas
structure StD (k:Nat) (s:aI):Prop where
 a:s.1.length≤k
 b:s.2.1.length≤k
 data:∀ x∈s.1,F0 x.2
theorem StD.sz{k:Nat}{s:aI}(h:StD k s)(hk:k≤1048576):SzS s:=⟨Nat.le_trans h.a hk,Nat.le_trans h.b hk⟩
theorem F2:F0 c8:=List.mem_cons_self ..
theorem rQ{P:bV→Prop}(hz:P c8){s:aI}(hs:∀ x∈s.1,P x.2)(i:Int):P (bA s i).1:=by
 unfold bA
 cases h:(List.range s.1.length).find? (fun j=>(gt s.1 j).1==i)with
 | none=>exact hz
 | some j=>
  have hj:=List.mem_range.1 (List.mem_of_find?_eq_some h)
  show P (gt s.1 j).2
  rw[dQ hj];exact hs _ (List.getElem_mem hj)
theorem kH{α:Type}{n:Nat}{g:Nat→List α}{x:α}(h:x∈bE n g):∃ i,i<n∧x∈g i:=by
 induction n with
 | zero=>exact(List.not_mem_nil h).elim
 | succ n ih=>
  rw[cW] at h
  rcases List.mem_append.1 h with h | h
  ·obtain⟨i,hi,hx⟩:=ih h;exact⟨i,by omega,hx⟩
  ·exact⟨n,by omega,h⟩
theorem CT{P:bV→Prop}(hz:P c8){a b:aI}(ha:∀ x∈a.1,P x.2)(hb:∀ x∈b.1,P x.2):∀ x∈(dL a b).1,P x.2:=by
 intro x hx
 obtain⟨i,_,hi⟩:=kH hx
 unfold cK at hi
 cases hc:decide ((dM a b (i:Int)).1>flr a b (i:Int))with
 | false=>rw[hc] at hi;exact(List.not_mem_nil hi).elim
 | true=>
  rw[hc] at hi
  have e:x=((i:Int),dM a b (i:Int)):=List.mem_singleton.1 hi
  subst e
  show P (dM a b (i:Int))
  unfold dM mxE
  cases decide (gH (bA a (i:Int)).1 (bA b (i:Int)).1<0)
  ·exact rQ hz ha _
  ·exact rQ hz hb _
theorem BH{j k:Nat}{a b:aI}(ha:StD j a)(hb:StD k b):StD 5 (dL a b):=⟨(mZ a b).1,(mZ a b).2,CT F2 ha.data hb.data⟩
theorem E6{β:Type}{A B:Prop}[Decidable A][Decidable B]{X R:β}(h:¬ A∨¬ B):(bif decide A then(bif decide B then X else R)else R)=R:=by
 by_cases a:A
 ·rcases h with h | h
  ·exact absurd a h
  ·rw[decide_eq_true a,decide_eq_false h];rfl
 ·rw[decide_eq_false a];rfl
/-- The loop of a new cursor, and what comes behind it. -/
theorem It.new {lvl:Nat} {c:Nat→Nat→Unit→(Int×Int→Option Out)→Int×Int→Option Out} (Good:Out→Prop) (b:List aY) (hb:b.length≤1048576)
  (hs:∀ (i:Nat) (h:Int),i<b.length→i<4000→∃ h',∀ n,lvl≤n→∀ aA a rec,c n aA a rec (h,(i:Int))=rec (h',((i+1:Nat):Int)))
  (he:∀ (h i:Int),CurOk (b,0,h,())→(¬ i<((b.length:Nat):Int)∨¬ i<4000)→∃ o,Good o∧∀ n,lvl≤n→∃ M,∀ aA,M≤aA→∀ a rec,c n aA a rec (h,i)=some o) (h0:Int):
  ∃ o,Good o∧∀ n,lvl≤n→It (c n) (h0,(0:Int)) (fun _=>some o):=by
 refine It.ex (fun i y=>∃ h,y=(h,(i:Int))) Good (min b.length 4000) ?_ ?_ (min b.length 4000) 0 (h0,(0:Int)) (by omega) ⟨h0,rfl⟩
 ·rintro i y hi ⟨h,rfl⟩
  obtain⟨h',hh⟩:=hs i h (by omega) (by omega)
  exact⟨_,⟨h',rfl⟩,hh⟩
 ·rintro y ⟨h,rfl⟩
  obtain⟨o,ho,hh⟩:=he h ((min b.length 4000:Nat):Int) ⟨hb,by show(0:Int)≤0;omega,by show(0:Int)≤((b.length:Nat):Int);omega⟩ (by omega)
  refine⟨o,ho,fun n hn=>?_⟩
  obtain⟨M,hM⟩:=hh n hn
  refine⟨M+1,fun aA k hf hk a=>?_⟩
  obtain⟨k,rfl⟩:∃ k',k=k'+1:=⟨k - 1,by omega⟩
  exact hM aA (by omega) a _
end Go.Abs
-- marks, tables, taking and receiving: plain laws
namespace Go.Abs
abbrev MsgT:=Int×Int×Int×Int×Int×List aY×Int×List aY×List aY×List bM×List aX×List aX×Unit
abbrev MsgT.hi(m:MsgT):Int:=m.2.2.2.2.1
abbrev MsgT.tree(m:MsgT):hZ:=(m.2.2.2.2.2.1,m.2.2.2.2.2.2.1,())
abbrev MsgT.vec(m:MsgT):List aY:=m.2.2.2.2.2.2.2.1
abbrev MsgT.leaves(m:MsgT):List aY:=m.2.2.2.2.2.2.2.2.1
abbrev MsgT.part(m:MsgT):aI:=(m.2.2.2.2.2.2.2.2.2.1,m.2.2.2.2.2.2.2.2.2.2.1,())
abbrev MsgT.marks(m:MsgT):List aX:=m.2.2.2.2.2.2.2.2.2.2.2.1
structure SzM (m:MsgT):Prop where
 leaves:m.tree.1.length≤aW
 vec:m.vec.length≤aW
 list:m.leaves.length≤aW
 part:SzS m.part
 marks:m.marks.length≤aW
theorem EF(a b:Int):mxI true a b=max a b:=by unfold mxI;simp only[if_true];split<;>omega
theorem BD(a b:Int):mxI false a b=min a b:=by unfold mxI;simp only[Bool.false_eq_true,if_false];split<;>omega
-- lists in order
theorem m9{α:Type}{k:α→Int}{g:Nat→List α}(h1:∀ i,(g i).length≤1)(h:∀ i,∀ x∈g i,k x=(i:Int)):∀ n,(bE n g).Pairwise (fun x y=>k x<k y)
 | 0=>by rw[qP];exact List.Pairwise.nil
 | n+1=>by
  rw[cW,List.pairwise_append]
  refine⟨m9 h1 h n,?_,fun x hx y hy=>?_⟩
  ·match hg:g n with
   | []=>exact List.Pairwise.nil
   | [x]=>exact List.pairwise_singleton _ _
   | x::y::t=>have:=h1 n;rw[hg] at this;simp at this
  ·obtain⟨i,hi,hx⟩:=kH hx
   rw[h i x hx,h n y hy];omega
theorem nS{s:aI}(h:StateOk s)(i:Int):0≤cD s.2.1 i∧cD s.2.1 i≤1000:=by
 rcases jO s i with ⟨x,hx,_,e⟩ | ⟨_,e⟩
 ·have:=(h.floor x hx).2;rw[aQ] at this;rw[e];omega
 ·rw[e];omega
theorem nV{s:aI}(h:StateOk s)(i:Int):(bA s i).1=c8∨dV (bA s i).1=true:=by
 rcases jR s i with ⟨x,hx,_,e⟩ | ⟨_,e⟩
 ·rw[e];exact .inr (h.item x hx).2.1
 ·rw[e];exact .inl rfl
theorem D4{a b:aI}(ha:StateOk a)(hb:StateOk b)(i:Int):dM a b i=c8∨dV (dM a b i)=true:=by
 unfold dM mxE
 cases decide (gH (bA a i).1 (bA b i).1<0)with
 | true=>exact nV hb i
 | false=>exact nV ha i
theorem FD{a b:aI}(ha:StateOk a)(hb:StateOk b)(i:Int):0≤flr a b i∧flr a b i≤1000:=by
 have h1:=nS ha i
 have h2:=nS hb i
 unfold flr;rw[EF];omega
theorem v6{a b:aI}{i:Nat}{x:bM}(h:x∈cK a b i):x=((i:Int),dM a b i)∧(dM a b i).1>flr a b i:=by
 unfold cK at h
 cases hd:decide ((dM a b i).1>flr a b i)with
 | false=>rw[hd] at h;cases h
 | true=>rw[hd] at h;exact⟨List.mem_singleton.1 h,of_decide_eq_true hd⟩
theorem nR{a b:aI}{i:Nat}{x:aX}(h:x∈cC a b i):x=((i:Int),flr a b i,())∧flr a b i>0:=by
 unfold cC at h
 cases hd:decide (flr a b i>0)with
 | false=>rw[hd] at h;cases h
 | true=>rw[hd] at h;exact⟨List.mem_singleton.1 h,of_decide_eq_true hd⟩
theorem xD{i:Nat}(h:i<5):dK (i:Int)=true:=by unfold dK;rw[aQ];omega
theorem StateOk.join{a b:aI}(ha:StateOk a)(hb:StateOk b):StateOk (dL a b) where
 item x hx:=by
  obtain⟨i,hi,hx⟩:=kH hx
  obtain⟨rfl,hg⟩:=v6 hx
  have hf:=FD ha hb (i:Int)
  refine⟨xD hi,?_,?_⟩
  ·rcases D4 ha hb (i:Int)with e | e
   ·rw[e] at hg;have h0:(0:Int)>flr a b i:=hg;omega
   ·exact e
  ·show cD (dL a b).2.1 (i:Int)<(dM a b i).1
   rcases jO (dL a b) (i:Int)with ⟨f,hf',e1,e⟩ | ⟨_,e⟩
   ·obtain⟨j,_,hf'⟩:=kH hf'
    obtain⟨rfl,_⟩:=nR hf'
    have:(j:Int)=(i:Int):=e1
    rw[e];show flr a b (j:Int)<_;rw[this];omega
   ·rw[e];omega
 items:=m9 (k:=fun x:bM=>x.1) (m6 a b) (fun i x hx=>by rw[(v6 hx).1]) 5
 floor f hf:=by
  obtain⟨i,hi,hf⟩:=kH hf
  obtain⟨rfl,hg⟩:=nR hf
  have:=FD ha hb (i:Int)
  refine⟨xD hi,?_⟩
  rw[aQ];show 1≤flr a b i∧flr a b i≤1000;omega
 floors:=m9 (k:=fun x:aX=>x.1) (lB a b) (fun i x hx=>by rw[(nR hx).1]) 5
theorem l8{a b:aI}(ha:aO a=true)(hb:aO b=true):aO (dL a b)=true:=
 (bF _).2 (((bF _).1 ha).join ((bF _).1 hb))
theorem BC:aO iG=true:=rfl
-- marks
def dD(ms:List aX):Bool:=bI ms.length (dY ms)
def yR(ms:List aX):Bool:=bI ms.length (fO ms)
theorem CP(ms:List aX):yR ms=dD ms:=iZ fun i hi=>by unfold fO dY;ac_rfl
theorem z4(ms:List aX):aO ([],ms,())=dD ms:=by
 unfold aO dD;rw[show bI ([]:List bM).length (jD ([],ms,()))=true from rfl,Bool.true_and]
def fL(s:aI)(i:Nat):List aX:=bif decide (gone s i>0)then[((i:Int),gone s i,())] else[]
def cZ(s:aI):List aX:=bE 5 (fL s)
theorem kX(s:aI)(i:Nat):(fL s i).length≤1:=by unfold fL;cases decide (gone s i>0)<;>simp
theorem fU(s:aI):(cZ s).length≤5:=cN (n:=5) (L:=1) fun i _=>kX s i
theorem BK(s:aI)(i:Int):gone s i≤1000:=by
 cases hs:aO s with
 | false=>rw[yX hs];omega
 | true=>
  have h:=(bF s).1 hs
  have hf:=nS h i
  unfold gone;rw[hs]
  show(bif(bA s i).2 then _ else _)≤(1000:Int)
  cases h2:(bA s i).2 with
  | false=>exact hf.2
  | true=>
   have he:(bA s i).1.1≤1000∧0≤(bA s i).1.1:=by
    rcases nV h i with e | e
    ·rw[e];show(0:Int)≤1000∧(0:Int)≤0;omega
    ·unfold dV at e;simp only[Bool.and_eq_true,aQ] at e;omega
   show(bif(bA s i).1.2.1==0 then IntKind.i64.wrap ((bA s i).1.1 - 1)else(bA s i).1.1)≤1000
   cases (bA s i).1.2.1==0 with
   | false=>exact he.1
   | true=>show IntKind.i64.wrap ((bA s i).1.1 - 1)≤1000;rw[IntKind.wrap_i64];omega
theorem z6{s:aI}{i:Nat}{x:aX}(h:x∈fL s i):x=((i:Int),gone s i,())∧gone s i>0:=by
 unfold fL at h
 cases hd:decide (gone s i>0)with
 | false=>rw[hd] at h;cases h
 | true=>rw[hd] at h;exact⟨List.mem_singleton.1 h,of_decide_eq_true hd⟩
theorem v9{fs:List aX}(g:Nat→List aX)(he:fs=bE 5 g)(h1:∀ i,(g i).length≤1)(h:∀ i,∀ x∈g i,x.1=(i:Int)∧1≤x.2.1∧x.2.1≤1000):StateOk ([],fs,()) where
 item x hx:=by cases hx
 items:=List.Pairwise.nil
 floor f hf:=by
  have hf:f∈fs:=hf
  rw[he] at hf
  obtain⟨i,hi,hf⟩:=kH hf
  obtain⟨e,h2,h3⟩:=h i f hf
  exact⟨by rw[e];exact xD hi,aQ.2 ⟨h2,h3⟩⟩
 floors:=by
  show fs.Pairwise _
  rw[he];exact m9 (k:=fun x:aX=>x.1) h1 (fun i x hx=>(h i x hx).1) 5
theorem z5(s:aI):dD (cZ s)=true:=by
 rw[← z4]
 exact(bF _).2 (v9 (fL s) rfl (kX s) fun i x hx=>by
  obtain⟨rfl,h⟩:=z6 hx
  exact⟨rfl,h,BK s i⟩)
theorem tQ{ms:List aX}(h:dD ms=true){i:Nat}(hi:i<ms.length):0≤(gt ms i).1∧(gt ms i).1≤4∧1≤(gt ms i).2.1∧(gt ms i).2.1≤1000:=by
 unfold dD at h
 have:=bK.1 h i hi
 unfold dY dK at this
 simp only[Bool.and_eq_true,aQ] at this
 omega
-- tables
def zT(r:cE)(f:aX):cE:=(r.1.set f.1.toNat (mxI true (gt r.1 f.1.toNat).1 f.2.1,()),())
def rV(r:cE)(ms:List aX):Nat→cE
 | 0=>r
 | i+1=>zT (rV r ms i) (gt ms i)
def qO(t:List cE)(k:Int)(ms:List aX):Bool:=inB k 0 (IntKind.i64.wrap (((t.length:Nat):Int) - 1))&&(dD ms&& !decide ((((gt t k.toNat).1.length:Nat):Int)<5))
def bP(t:List cE)(k:Nat)(ms:List aX)(i:Nat):List cE:=t.set k (rV (gt t k) ms i)
def bD(t:List cE)(k:Int)(ms:List aX):List cE:=bif qO t k ms then bP t k.toNat ms ms.length else t
theorem kG(r:cE)(ms:List aX):∀ i,(rV r ms i).1.length=r.1.length
 | 0=>rfl
 | i+1=>by show(List.set _ _ _).length=_;rw[List.length_set];exact kG r ms i
theorem cS{α:Type}[Inhabited α]{xs:List α}{i:Nat}(h:i<xs.length)(x:α):gt (xs.set i x) i=x:=by
 rw[dQ (by rw[List.length_set];exact h)];simp
theorem fG{α:Type}[Inhabited α]{xs:List α}{i j:Nat}(h:i≠j)(x:α):gt (xs.set i x) j=gt xs j:=by
 unfold gt;simp[h]
theorem zS{α:Type}[Inhabited α]{xs:List α}{i:Nat}:xs.set i (gt xs i)=xs:=by
 rcases Nat.lt_or_ge i xs.length with h | h
 ·rw[dQ h];exact List.set_getElem_self h
 ·exact List.set_eq_of_length_le h
theorem oD(t:List cE)(k:Nat)(ms:List aX):bP t k ms 0=t:=zS
theorem dA(t:List cE)(k:Int)(ms:List aX):(bD t k ms).length=t.length:=by
 unfold bD
 cases qO t k ms with
 | false=>rfl
 | true=>show(bP _ _ _ _).length=_;unfold bP;rw[List.length_set]
theorem pF{k:Int}{n:Nat}(hn:n≤aW)(h:inB k 0 (IntKind.i64.wrap ((n:Int) - 1))=true):k.toNat<n∧((k.toNat:Nat):Int)=k:=by
 rw[aQ,IntKind.wrap_i64] at h;unfold aW at hn;omega
theorem f0(t:List cE)(k:Int)(ms:List aX)(j:Nat):((gt (bD t k ms) j).1.length)=(gt t j).1.length:=by
 unfold bD
 cases hb:qO t k ms with
 | false=>rfl
 | true=>
  show(gt (bP t k.toNat ms ms.length) j).1.length=_
  unfold bP
  rcases Nat.lt_or_ge k.toNat t.length with h | h
  ·by_cases e:k.toNat=j
   ·subst e;rw[cS h,kG]
   ·rw[fG e]
  ·rw[List.set_eq_of_length_le h]
theorem zD{r:cE}{ms:List aX}(hm:dD ms=true)(hr:∀ j,j<r.1.length→inB (gt r.1 j).1 0 1000=true):∀ i,i≤ms.length→∀ j,j<r.1.length→inB (gt (rV r ms i).1 j).1 0 1000=true
 | 0,_,j,hj=>hr j hj
 | i+1,hi,j,hj=>by
  have ih:=zD hm hr i (by omega)
  have hid:=tQ hm (i:=i) (by omega)
  have hl:=kG r ms i
  show inB (gt (List.set (rV r ms i).1 (gt ms i).1.toNat (mxI true (gt (rV r ms i).1 (gt ms i).1.toNat).1 (gt ms i).2.1,())) j).1 0 1000=true
  by_cases e:(gt ms i).1.toNat=j
  ·subst e
   rw[cS (by omega)]
   have:=ih _ hj
   rw[aQ] at this ⊢
   show 0≤mxI true _ _∧mxI true _ _≤1000
   rw[EF];omega
  ·rw[fG e];exact ih j hj
theorem lP{t:List cE}{n k:Int}{ms:List aX}(ht:eP t n=true):eP (bD t k ms) n=true:=by
 unfold eP at ht ⊢
 simp only[Bool.and_eq_true] at ht ⊢
 obtain⟨h1,h2,h3⟩:=ht
 refine⟨h1,by rw[dA];exact h2,?_⟩
 rw[dA]
 rw[bK] at h3 ⊢
 intro j hj
 have h4:=h3 j hj
 unfold nO at h4 ⊢
 simp only[Bool.and_eq_true] at h4 ⊢
 rw[f0]
 refine⟨h4.1,?_⟩
 have h5:=bK.1 h4.2
 rw[bK]
 intro i hi
 unfold bD
 cases hb:qO t k ms with
 | false=>exact h5 i hi
 | true=>
  show inB (gt (gt (bP t k.toNat ms ms.length) j).1 i).1 0 1000=true
  unfold bP
  by_cases e:k.toNat=j
  ·subst e
   rw[cS hj]
   have hm:dD ms=true:=by unfold qO at hb;simp only[Bool.and_eq_true] at hb;exact hb.2.1
   exact zD hm h5 _ (Nat.le_refl _) i hi
  ·rw[fG e];exact h5 i hi
def gB(t:List cE)(id:Int)(k:Nat):Bool:=inB id 0 (IntKind.i64.wrap ((((gt t k).1.length:Nat):Int) - 1))
def dP(t:List cE)(id:Int):Nat→Int
 | 0=>0
 | k+1=>bif(k:Int)==0 then(gt (gt t k).1 id.toNat).1 else bif decide ((gt (gt t k).1 id.toNat).1<dP t id k)then(gt (gt t k).1 id.toNat).1 else dP t id k
def fC(t:List cE)(id:Int):Int:=bif bI t.length (gB t id)then dP t id t.length else 0
-- pruning
def eY(s:aI)(t:List cE)(i:Nat):List aX:=bif decide (mxI false (fC t i) (gone s i)>0)then[((i:Int),mxI false (fC t i) (gone s i),())] else[]
def j9(s:aI)(t:List cE):aI:=([],bE 5 (eY s t),())
def jW(s:aI)(t:List cE):aI:=bif aO s then dL s (j9 s t)else s
theorem kR(s:aI)(t:List cE)(i:Nat):(eY s t i).length≤1:=by unfold eY;cases decide (mxI false (fC t i) (gone s i)>0)<;>simp
theorem rM(s:aI)(t:List cE):aO (j9 s t)=true:=
 (bF _).2 (v9 (eY s t) rfl (kR s t) fun i x hx=>by
  unfold eY at hx
  cases hd:decide (mxI false (fC t i) (gone s i)>0)with
  | false=>rw[hd] at hx;cases hx
  | true=>
   rw[hd] at hx
   have e:=List.mem_singleton.1 hx
   have h0:=of_decide_eq_true hd
   have hg:=BK s i
   rw[e];refine⟨rfl,h0,?_⟩
   show mxI false (fC t i) (gone s i)≤1000
   rw[BD];omega)
theorem rL(s:aI)(t:List cE):SzS (j9 s t):=⟨Nat.zero_le _,Nat.le_trans (cN (n:=5) (L:=1) fun i _=>kR s t i) (by decide)⟩
theorem yJ{s:aI}(h:aO s=true)(t:List cE):aO (jW s t)=true:=by
 unfold jW;rw[h];exact l8 h (rM s t)
theorem D3{s:aI}(h:SzS s)(t:List cE):SzS (jW s t):=by
 unfold jW;cases aO s with
 | false=>exact h
 | true=>exact l7 _ _
-- vectors
def c9(v:List aY)(k n:Int):List aY:=bif inB k 0 (IntKind.i64.wrap (((v.length:Nat):Int) - 1))then v.set k.toNat (mxI true (gt v k.toNat).1 n,())else v
theorem iB(v:List aY)(k n:Int):(c9 v k n).length=v.length:=by
 unfold c9;cases inB k 0 (IntKind.i64.wrap (((v.length:Nat):Int) - 1))with
 | false=>rfl
 | true=>exact List.length_set ..
theorem qR(v:List aY)(k n:Int)(j:Nat):(gt (c9 v k n) j).1=(gt v j).1∨(gt (c9 v k n) j).1=max (gt v j).1 n:=by
 unfold c9;cases inB k 0 (IntKind.i64.wrap (((v.length:Nat):Int) - 1))with
 | false=>exact .inl rfl
 | true=>
  show(gt (v.set _ _) j).1=_∨(gt (v.set _ _) j).1=_
  rcases Nat.lt_or_ge k.toNat v.length with h | h
  ·by_cases e:k.toNat=j
   ·subst e;rw[cS h];exact .inr (EF _ _)
   ·rw[fG e];exact .inl rfl
  ·rw[List.set_eq_of_length_le h];exact .inl rfl
theorem xP(v:List aY){k n:Int}{j:Nat}(h:k.toNat≠j):gt (c9 v k n) j=gt v j:=by
 unfold c9;cases inB k 0 (IntKind.i64.wrap (((v.length:Nat):Int) - 1))with
 | false=>rfl
 | true=>exact fG h _
theorem qQ{v:List aY}{m k n:Int}(h:dF v m=true)(hn:n≤100000):dF (c9 v k n) m=true:=by
 unfold dF at h ⊢
 simp only[Bool.and_eq_true] at h ⊢
 rw[iB]
 refine⟨h.1,h.2.1,?_⟩
 have h3:=bK.1 h.2.2
 rw[bK]
 intro i hi
 have:=h3 i hi
 rw[aQ] at this ⊢
 rcases qR v k n i with e | e<;>rw[e]<;>omega
end Go.Abs
-- taking and receiving: plain laws
namespace Go.Abs
-- rises
def vF(r:kI)(e:bV):Bool:=decide (e.1>r.1)||(e.1==r.1&&decide (e.2.2.1>r.2.1))
def tG(clock:Int)(r:kI)(e:bV):kI:=bif vF r e then(e.1,e.2.2.1,clock,())else r
def cI(clock:Int)(rs:List kI)(xs:List bM):Nat→List kI
 | 0=>rs
 | i+1=>(cI clock rs xs i).set (gt xs i).1.toNat (tG clock (gt (cI clock rs xs i) (gt xs i).1.toNat) (gt xs i).2)
theorem gN(clock:Int)(rs:List kI)(xs:List bM):∀ i,(cI clock rs xs i).length=rs.length
 | 0=>rfl
 | i+1=>by show(List.set _ _ _).length=_;rw[List.length_set];exact gN clock rs xs i
def tF(clock:Int)(r:kI):Bool:=inB r.1 0 1000&&(inB r.2.1 0 100000&&inB r.2.2.1 0 clock)
theorem vE{clock:Int}(hc:0≤clock){rs:List kI}{s:aI}(hs:StateOk s)(h:∀ j,j<rs.length→tF clock (gt rs j)=true):
  ∀ i,i≤s.1.length→∀ j,j<rs.length→tF clock (gt (cI clock rs s.1 i) j)=true
 | 0,_,j,hj=>h j hj
 | i+1,hi,j,hj=>by
  have ih:=vE hc hs h i (by omega)
  have he:=(hs.item _ (cX (xs:=s.1) (i:=i) (by omega))).2.1
  show tF clock (gt ((cI clock rs s.1 i).set (gt s.1 i).1.toNat (tG clock (gt (cI clock rs s.1 i) (gt s.1 i).1.toNat) (gt s.1 i).2)) j)=true
  by_cases e:(gt s.1 i).1.toNat=j
  ·rw[e,cS (by rw[gN];exact hj)]
   unfold tG
   cases vF (gt (cI clock rs s.1 i) j) (gt s.1 i).2 with
   | false=>exact ih j hj
   | true=>
    unfold dV at he
    simp only[Bool.and_eq_true,aQ] at he
    show tF clock ((gt s.1 i).2.1,(gt s.1 i).2.2.2.1,clock,())=true
    unfold tF
    simp only[Bool.and_eq_true,aQ]
    omega
  ·rw[fG e];exact ih j hj
-- a node with another state, other rows and rises
def tkS(x:NodeT)(s:aI):List cE:=bD x.seen x.1 (cZ (dL x.state s))
def tkP(x:NodeT)(s:aI):aI:=jW (dL x.state s) (tkS x s)
def tkR(x:NodeT)(s:aI):List kI:=cI x.clock x.rises (tkP x s).1 (tkP x s).1.length
def lO(x:NodeT)(s:aI):NodeT:=
 (x.1,x.2.1,(tkP x s).1,(tkP x s).2.1,(bS (tkP x s)).1,(bS (tkP x s)).2.1,x.2.2.2.2.2.2.1,x.2.2.2.2.2.2.2.1,x.2.2.2.2.2.2.2.2.1,x.got,x.acked,tkS x s,x.num,x.slots,x.sess,x.wait,x.limit,x.clock,tkR x s,())
theorem gM(a:List aY):eG a a=true:=by
 unfold eG;simp[bI]
structure NodeOk (x:NodeT):Prop where
 n:inB x.2.1 1 5=true
 id:inB x.1 0 (IntKind.i64.wrap (x.2.1 - 1))=true
 state:aO x.state=true
 tree:oA x=true
 log:fK x.log=true
 got:dF x.got x.2.1=true
 acked:dF x.acked x.2.1=true
 own:((gt x.got x.1.toNat).1==bU x.log)=true
 seen:eP x.seen x.2.1=true
 ack:uQ x=true
 num:inB x.num 0 100000=true
 clock:inB x.clock 0 100000=true
 slots:inB x.slots 1 4=true
 wait:inB x.wait 1 20=true
 limit:inB x.limit 1 50=true
 rises:((x.rises.length:Nat):Int)==5
 rise:bI x.rises.length (gY x)=true
 sess:iO x=true
theorem c7(x:NodeT):dC x=true↔NodeOk x:=by
 unfold dC iR
 simp only[Bool.and_eq_true]
 constructor
 ·rintro ⟨h1,h2,h3,h4,h5,h6,h7,h8,h9,h10,h11,h12,h13,h14,h15,h16,h17,h18⟩
  exact⟨h1,h2,h3,h4,h5,h6,h7,h8,h9,h10,h11,h12,h13,h14,h15,h16,h17,h18⟩
 ·rintro ⟨h1,h2,h3,h4,h5,h6,h7,h8,h9,h10,h11,h12,h13,h14,h15,h16,h17,h18⟩
  exact⟨h1,h2,h3,h4,h5,h6,h7,h8,h9,h10,h11,h12,h13,h14,h15,h16,h17,h18⟩
theorem DG{x:NodeT}{s:aI}(h:NodeOk x)(hs:aO s=true):aO (tkP x s)=true:=yJ (l8 h.state hs) _
theorem NodeOk.take{x:NodeT}{s:aI}(h:NodeOk x)(hs:aO s=true):NodeOk (lO x s) where
 n:=h.n
 id:=h.id
 state:=DG h hs
 tree:=by
  show(eG (bS (tkP x s)).1 (bS (tkP x s)).1&&(bS (tkP x s)).2.1==(bS (tkP x s)).2.1)=true
  rw[gM];simp
 log:=h.log
 got:=h.got
 acked:=h.acked
 own:=h.own
 seen:=lP h.seen
 ack:=h.ack
 num:=h.num
 clock:=h.clock
 slots:=h.slots
 wait:=h.wait
 limit:=h.limit
 rises:=by
  show(((cI x.clock x.rises (tkP x s).1 (tkP x s).1.length).length:Nat):Int)==5
  rw[gN];exact h.rises
 rise:=by
  show bI (cI x.clock x.rises (tkP x s).1 (tkP x s).1.length).length _=true
  rw[gN,bK]
  intro i hi
  have hc:=h.clock;rw[aQ] at hc
  exact vE hc.1 ((bF _).1 (DG h hs)) (fun j hj=>bK.1 h.rise j hj) _ (Nat.le_refl _) i hi
 sess:=h.sess
theorem zL(x:NodeT)(s:aI):SzS (tkP x s):=D3 (l7 _ _) _
theorem BX(s:aI):(bS s).1.length≤aW:=by
 unfold bS;cases aO s with
 | false=>exact Nat.zero_le _
 | true=>show 4≤aW;decide
theorem iL{x:NodeT}(h:SzN x)(s:aI):SzN (lO x s) where
 state:=zL x s
 leaves:=BX _
 list:=h.list
 logs:=h.logs
 got:=h.got
 acked:=h.acked
 seen:=by show(tkS x s).length≤aW;unfold tkS;rw[dA];exact h.seen
 lines:=by
  intro i hi
  show(gt (tkS x s) i).1.length≤aW
  unfold tkS;rw[f0]
  exact h.lines i (by have:i<(tkS x s).length:=hi;unfold tkS at this;rw[dA] at this;exact this)
 sess:=h.sess
 rises:=by show(cI x.clock x.rises (tkP x s).1 (tkP x s).1.length).length≤aW;rw[gN];exact h.rises
-- hearing
def heard0(x:NodeT)(m:MsgT):NodeT:=
 (x.1,x.2.1,x.2.2.1,x.2.2.2.1,x.2.2.2.2.1,x.2.2.2.2.2.1,x.2.2.2.2.2.2.1,x.2.2.2.2.2.2.2.1,x.2.2.2.2.2.2.2.2.1,x.got,c9 x.acked m.2.1 (mxI false (gt m.vec x.1.toNat).1 (bU x.log)),bD x.seen m.2.1 m.marks,x.num,x.slots,x.sess,x.wait,x.limit,x.clock,x.rises,())
def eO(x:NodeT)(m:MsgT):NodeT:=lO (heard0 x m) iG
def gotUp(x:NodeT)(m:MsgT):NodeT:=
 (x.1,x.2.1,x.2.2.1,x.2.2.2.1,x.2.2.2.2.1,x.2.2.2.2.2.1,x.2.2.2.2.2.2.1,x.2.2.2.2.2.2.2.1,x.2.2.2.2.2.2.2.2.1,c9 x.got m.2.1 m.hi,x.acked,x.seen,x.num,x.slots,x.sess,x.wait,x.limit,x.clock,x.rises,())
def fD(x:NodeT)(m:MsgT):NodeT:=gotUp (lO (eO x m) m.part) m
theorem vX{l:eL}(h:fK l=true):0≤bU l∧bU l≤100000:=by
 unfold bU;rw[h]
 unfold fK at h
 simp only[Bool.and_eq_true,aQ,Bool.not_eq_true',decide_eq_false_iff_not] at h
 show 0≤IntKind.i64.wrap _∧IntKind.i64.wrap _≤100000
 rw[IntKind.wrap_i64] at h ⊢
 omega
theorem NodeOk.heard0{x:NodeT}(h:NodeOk x)(m:MsgT):NodeOk (heard0 x m) where
 n:=h.n
 id:=h.id
 state:=h.state
 tree:=h.tree
 log:=h.log
 got:=h.got
 acked:=qQ h.acked (by rw[BD];have:=vX h.log;omega)
 own:=h.own
 seen:=lP h.seen
 ack:=by
  have:=h.ack
  unfold uQ at this ⊢
  rw[show(Go.Abs.heard0 x m).acked=c9 x.acked m.2.1 (mxI false (gt m.vec x.1.toNat).1 (bU x.log))from rfl,iB]
  rw[bK] at this ⊢
  intro i hi
  have h1:=this i hi
  rw[show(Go.Abs.heard0 x m).log=x.log from rfl]
  simp only[Bool.not_eq_true',decide_eq_false_iff_not] at h1 ⊢
  rcases qR x.acked m.2.1 (mxI false (gt m.vec x.1.toNat).1 (bU x.log)) i with e | e
  ·rw[e];exact h1
  ·rw[e,BD];omega
 num:=h.num
 clock:=h.clock
 slots:=h.slots
 wait:=h.wait
 limit:=h.limit
 rises:=h.rises
 rise:=h.rise
 sess:=h.sess
theorem NodeOk.heard{x:NodeT}(h:NodeOk x)(m:MsgT):NodeOk (eO x m):=(h.heard0 m).take BC
theorem v5{x:NodeT}(h:SzN x)(m:MsgT):SzN (heard0 x m) where
 state:=h.state
 leaves:=h.leaves
 list:=h.list
 logs:=h.logs
 got:=h.got
 acked:=by show(c9 _ _ _).length≤aW;rw[iB];exact h.acked
 seen:=by show(bD _ _ _).length≤aW;rw[dA];exact h.seen
 lines:=by
  intro i hi
  show(gt (bD x.seen m.2.1 m.marks) i).1.length≤aW
  rw[f0]
  exact h.lines i (by have:i<(bD x.seen m.2.1 m.marks).length:=hi;rw[dA] at this;exact this)
 sess:=h.sess
 rises:=h.rises
theorem m4{x:NodeT}(h:SzN x)(m:MsgT):SzN (eO x m):=iL (v5 h m) _
theorem NodeOk.gotUp{x:NodeT}(h:NodeOk x){m:MsgT}(hi:m.hi≤100000)(hm:m.2.1.toNat≠x.1.toNat):NodeOk (gotUp x m) where
 n:=h.n
 id:=h.id
 state:=h.state
 tree:=h.tree
 log:=h.log
 got:=qQ h.got hi
 acked:=h.acked
 own:=by
  show((gt (c9 x.got m.2.1 m.hi) x.1.toNat).1==bU x.log)=true
  rw[xP _ hm];exact h.own
 seen:=h.seen
 ack:=h.ack
 num:=h.num
 clock:=h.clock
 slots:=h.slots
 wait:=h.wait
 limit:=h.limit
 rises:=h.rises
 rise:=h.rise
 sess:=h.sess
theorem E7{x:NodeT}(h:SzN x)(m:MsgT):SzN (gotUp x m) where
 state:=h.state
 leaves:=h.leaves
 list:=h.list
 logs:=h.logs
 got:=by show(c9 _ _ _).length≤aW;rw[iB];exact h.got
 acked:=h.acked
 seen:=h.seen
 lines:=h.lines
 sess:=h.sess
 rises:=h.rises
theorem rU{x:NodeT}(h:SzN x)(m:MsgT):SzN (fD x m):=E7 (iL (m4 h m) _) _
-- messages
def nG(v:List aY)(top:Int):Bool:=bI v.length fun i=>inB (gt v i).1 0 top
def jT(t:hZ):Bool:=bif((t.1.length:Nat):Int)==0 then t.2.1==0 else(((t.1.length:Nat):Int)==4&&(nG t.1 1023&&inB t.2.1 0 1023))
def vZ(v:List aY)(i:Nat):Bool:=inB (gt v i).1 0 3&&qY (fun j=> !decide ((gt v (j+1)).1≤(gt v j).1)) i
def mW(m:MsgT):Bool:=inB m.1 0 5&&(dK m.2.1&&(dK m.2.2.1&& !(m.2.1==m.2.2.1)))
def iS(m:MsgT):Bool:=mW m&&((bI m.leaves.length (vZ m.leaves))&&(nG m.vec 100000&&(inB m.2.2.2.1 0 100000&&(inB m.hi 0 100000&&(jT m.tree&&(decide (((m.vec.length:Nat):Int)≤5)&&(aO m.part&&dD m.marks)))))))
def vN(v:List aY)(most top:Int):Bool:= !decide (((v.length:Nat):Int)>most)&&nG v top
def EQ(v:List aY)(i:Nat):Bool:= !decide ((gt v (i+1)).1≤(gt v i).1)
def z3(m:MsgT):Bool:=inB m.1 0 5&&(dK m.2.1&&(dK m.2.2.1&&(!(m.2.1==m.2.2.1)&&(inB m.2.2.2.1 0 100000&&(inB m.hi 0 100000&&(jT m.tree&&(vN m.vec 5 100000&&(vN m.leaves 4 3&&(aO m.part&&(dD m.marks&&bI (m.leaves.length - 1) (EQ m.leaves)))))))))))
theorem EP(v:List aY):(vN v 4 3&&bI (v.length - 1) (EQ v))=bI v.length (vZ v):=by
 rw[Bool.eq_iff_iff]
 unfold vN nG vZ EQ
 simp only[Bool.and_eq_true,bK,Bool.not_eq_true',decide_eq_false_iff_not]
 constructor
 ·rintro ⟨⟨_,h2⟩,h3⟩ i hi
  refine⟨h2 i hi,?_⟩
  cases i with
  | zero=>rfl
  | succ j=>show(!decide ((gt v (j+1)).1≤(gt v j).1))=true;rw[decide_eq_false (h3 j (by omega))];rfl
 ·intro h
  have hp:∀ j,j+1<v.length→(gt v j).1<(gt v (j+1)).1:=fun j hj=>by
   have:=(h (j+1) hj).2
   unfold qY at this
   simpa using this
  have hge:∀ i,i<v.length→(i:Int)≤(gt v i).1:=by
   intro i
   induction i with
   | zero=>intro hi;have:=(h 0 hi).1;rw[aQ] at this;exact this.1
   | succ j ih=>intro hi;have:=ih (by omega);have:=hp j hi;omega
  refine⟨⟨?_,fun i hi=>(h i hi).1⟩,fun i hi=>by have:=hp i (by omega);omega⟩
  rcases Nat.lt_or_ge 4 v.length with h5 | h5
  ·have h6:=hge 4 h5
   have:=(h 4 h5).1;rw[aQ] at this;omega
  ·omega
theorem GU(m:MsgT):z3 m=iS m:=by
 unfold z3 iS mW
 rw[← EP]
 unfold vN
 simp only[p0]
 ac_rfl
theorem AC{m:MsgT}(h:iS m=true):m.leaves.length≤4:=by
 rw[← GU] at h
 unfold z3 vN at h
 simp only[Bool.and_eq_true,Bool.not_eq_true',decide_eq_false_iff_not] at h
 omega
end Go.Abs
-- messages and receiving: plain laws
namespace Go.Abs
theorem dU{β:Type}{o:Option Out}{A B C:List Kd}{r:Row A}{s:Row B}{t:Row C}{f:Rows [A,B,C]×Rows []→Option β}(h:o=some ⟨[⟨A,r⟩,⟨B,s⟩,⟨C,t⟩],[]⟩):(o.bind (dS [A,B,C] [])).bind f=f ((r,s,t,()),()):=by
 rw[h];simp[dS,dR,gD];rfl
def eQ(l:List aI)(k:Nat):Nat→aI
 | 0=>iG
 | i+1=>dL (eQ l k i) (gt l (k+i))
theorem tA(l:List aI)(k:Nat):∀ i,SzS (eQ l k i)
 | 0=>pA
 | i+1=>l7 _ _
def hS(l:eL)(seq:Int):Bool:=fK l&&inB seq l.2.1 (IntKind.i64.wrap (l.2.1+((l.2.2.1.length:Nat):Int)))
def c6(l:eL)(seq:Int):Nat:=(seq - l.2.1).toNat
def jZ(l:eL)(seq:Int):aI:=bif hS l seq then eQ l.2.2.1 (c6 l seq) (l.2.2.1.length - c6 l seq)else iG
theorem xX{l:eL}{seq:Int}(h:hS l seq=true):l.2.1+((c6 l seq:Nat):Int)=seq∧c6 l seq≤l.2.2.1.length∧0≤l.2.1∧l.2.1≤100000∧l.2.2.1.length≤8:=by
 unfold hS fK at h
 simp only[Bool.and_eq_true,aQ,Bool.not_eq_true',decide_eq_false_iff_not] at h
 unfold c6
 rw[IntKind.wrap_i64] at h
 omega
def vD(x:NodeT)(seq:Int):aI:=bif hS x.log seq then jZ x.log seq else x.state
theorem DS{x:NodeT}(h:SzN x)(seq:Int):SzS (vD x seq):=by
 unfold vD jZ
 cases hS x.log seq with
 | false=>exact h.state
 | true=>exact tA _ _ _
theorem DP{s:aI}(h:SzS s)(ls:List aY):SzS (gL s ls):=
 ⟨Nat.le_trans (List.length_filter_le ..) h.1,Nat.le_trans (List.length_filter_le ..) h.2⟩
def yL(x:NodeT)(ls:List aY)(seq:Int):aI:=dL (gL x.state ls) (vD x seq)
def eT(a b:hZ)(i:Nat):List aY:=bif((a.1.length:Nat):Int) != 4 then[((i:Int),())] else bif((b.1.length:Nat):Int) != 4 then[((i:Int),())] else bif(gt a.1 i).1 != (gt b.1 i).1 then[((i:Int),())] else[]
def iV(a b:hZ):List aY:=bif a.2.1==b.2.1 then[] else bE 4 (eT a b)
theorem rS(a b:hZ)(i:Nat):(eT a b i).length≤1:=by
 unfold eT
 cases ((a.1.length:Nat):Int) != 4<;>cases ((b.1.length:Nat):Int) != 4<;>cases (gt a.1 i).1 != (gt b.1 i).1<;>simp
theorem uH(a b:hZ):(iV a b).length≤4:=by
 unfold iV
 cases a.2.1==b.2.1 with
 | true=>exact Nat.zero_le _
 | false=>exact cN (n:=4) (L:=1) fun i _=>rS a b i
def CN(x:NodeT)(kind to num:Int):MsgT:=(kind,x.1,to,num,bU x.log,[],0,x.got,[],[],[],cZ x.state,())
-- exchanges
def withS(x:NodeT)(ss:List c5):NodeT:=
 (x.1,x.2.1,x.2.2.1,x.2.2.2.1,x.2.2.2.2.1,x.2.2.2.2.2.1,x.2.2.2.2.2.2.1,x.2.2.2.2.2.2.2.1,x.2.2.2.2.2.2.2.2.1,x.got,x.acked,x.seen,x.num,x.slots,ss,x.wait,x.limit,x.clock,x.rises,())
def j7(s:c5):Int×Bool:=(s.1,s.2.2.1)
def HC(x:NodeT)(s:c5):Prop:=inB s.1 0 (IntKind.i64.wrap (x.2.1 - 1))=true∧s.1≠x.1∧inB s.2.1 0 100000=true∧inB s.2.2.2.1 0 x.wait=true
theorem iE{v:List c5}{k:Nat}{p:Int}{b:Bool}:cP v k p b=true↔j7 (gt v k)=(p,b):=by
 unfold cP j7
 rw[Bool.and_eq_true,beq_iff_eq,FT,Prod.mk.injEq]
theorem D9(v:List c5):(∀ i,i<v.length→vM v i=true)↔(v.map j7).Nodup:=by
 unfold List.Nodup
 rw[List.pairwise_iff_getElem]
 unfold vM
 simp only[bK,Bool.not_eq_true',List.length_map,List.getElem_map]
 constructor
 ·intro h i j hi hj hij e
  have:=h j hj i hij
  rw[← Bool.not_eq_true,iE] at this
  apply this
  rw[dQ hi,dQ hj];exact e
 ·intro h j hj i hij
  rw[← Bool.not_eq_true,iE]
  intro e
  refine h i j (by omega) hj hij ?_
  rw[dQ (by omega),dQ hj] at e;exact e
theorem cL(x:NodeT):iO x=true↔((x.sess.length:Nat):Int)≤x.slots∧(∀ s∈x.sess,HC x s)∧(x.sess.map j7).Nodup:=by
 rw[← D9]
 unfold iO jV
 simp only[Bool.and_eq_true,bK,Bool.not_eq_true',decide_eq_false_iff_not]
 constructor
 ·rintro ⟨h1,h2⟩
  refine⟨by omega,fun s hs=>?_,fun i hi=>(h2 i hi).2.2.2.2⟩
  obtain⟨i,hi,rfl⟩:=kW hs
  obtain⟨a,b,c,d,_⟩:=h2 i hi
  refine⟨a,?_,c,d⟩
  intro e;rw[e] at b;simp at b
 ·rintro ⟨h1,h2,h3⟩
  refine⟨by omega,fun i hi=>?_⟩
  obtain⟨a,b,c,d⟩:=h2 _ (cX hi)
  exact⟨a,by simpa using b,c,d,h3 i hi⟩
theorem NodeOk.withS{x:NodeT}(h:NodeOk x){ss:List c5}(h1:((ss.length:Nat):Int)≤x.slots)(h2:∀ s∈ss,HC x s)(h3:(ss.map j7).Nodup):NodeOk (withS x ss) where
 n:=h.n
 id:=h.id
 state:=h.state
 tree:=h.tree
 log:=h.log
 got:=h.got
 acked:=h.acked
 own:=h.own
 seen:=h.seen
 ack:=h.ack
 num:=h.num
 clock:=h.clock
 slots:=h.slots
 wait:=h.wait
 limit:=h.limit
 rises:=h.rises
 rise:=h.rise
 sess:=(cL _).2 ⟨h1,h2,h3⟩
theorem sQ{x:NodeT}(h:SzN x){ss:List c5}(h1:ss.length≤aW):SzN (withS x ss):=
 ⟨h.state,h.leaves,h.list,h.logs,h.got,h.acked,h.seen,h.lines,h1,h.rises⟩
theorem dB(v:List c5)(p:Int)(b:Bool):(∃ k:Nat,k<v.length∧bT v p b=(k:Int)∧j7 (gt v k)=(p,b))∨(bT v p b= -1∧∀ s∈v,j7 s≠(p,b)):=by
 unfold bT
 cases hf:(List.range v.length).find? (fun k=>cP v k p b)with
 | none=>
  refine .inr ⟨rfl,fun s hs e=>?_⟩
  obtain⟨i,hi,rfl⟩:=kW hs
  have:=List.find?_eq_none.1 hf i (List.mem_range.2 hi)
  exact this (iE.2 e)
 | some k=>
  refine .inl ⟨k,List.mem_range.1 (List.mem_of_find?_eq_some hf),rfl,?_⟩
  exact iE.1 (show cP v k p b=true from List.find?_some (p:=fun k=>cP v k p b) hf)
def pI(x:NodeT)(m:MsgT)(b:Bool):Int:=bif decide (bT x.sess m.2.1 b≥0)then(bif(gt x.sess (bT x.sess m.2.1 b).toNat).2.1 != m.2.2.2.1 then -1 else bT x.sess m.2.1 b)else bT x.sess m.2.1 b
def l9(x:NodeT)(k:Nat):NodeT:=withS x (x.sess.take k++x.sess.drop (k+1))
theorem E9{x:NodeT}(h:NodeOk x)(k:Nat):NodeOk (l9 x k):=by
 have hs:=(cL x).1 h.sess
 have sub:List.Sublist (x.sess.take k++x.sess.drop (k+1)) x.sess:=by rw[← List.eraseIdx_eq_take_drop_succ];exact List.eraseIdx_sublist ..
 refine h.withS ?_ (fun s hm=>hs.2.1 s (sub.subset hm)) ((sub.map j7).nodup hs.2.2)
 have:=sub.length_le;omega
theorem E8{x:NodeT}(h:SzN x)(k:Nat):SzN (l9 x k):=sQ h (by
 have:=h.sess;rw[List.length_append,List.length_take,List.length_drop];omega)
def lW(x:NodeT)(k:Nat)(num:Int):List c5:=x.sess.set k ((gt x.sess k).1,num,(gt x.sess k).2.2.1,(0:Int),())
def jH(x:NodeT)(m:MsgT):List c5:=x.sess++[(m.2.1,m.2.2.2.1,true,(0:Int),())]
theorem CF{x:NodeT}(h:NodeOk x){k:Nat}(hk:k<x.sess.length){num:Int}(hn:inB num 0 100000=true):NodeOk (withS x (lW x k num)):=by
 have hs:=(cL x).1 h.sess
 refine h.withS (by unfold lW;rw[List.length_set];exact hs.1) (fun s hm=>?_) ?_
 ·rcases List.mem_or_eq_of_mem_set hm with h1 | h1
  ·exact hs.2.1 s h1
  ·have h2:=hs.2.1 _ (cX hk)
   rw[h1]
   refine⟨h2.1,h2.2.1,hn,?_⟩
   have:=h.wait;rw[aQ] at this ⊢;show 0≤(0:Int)∧(0:Int)≤x.wait;omega
 ·unfold lW
  rw[List.map_set,show j7 ((gt x.sess k).1,num,(gt x.sess k).2.2.1,(0:Int),())=j7 (gt x.sess k)from rfl]
  have:(x.sess.map j7).set k (j7 (gt x.sess k))=x.sess.map j7:=by
   rw[← List.map_set,zS]
  rw[this];exact hs.2.2
theorem A3{x:NodeT}(h:NodeOk x){m:MsgT}(hp:inB m.2.1 0 (IntKind.i64.wrap (x.2.1 - 1))=true)(hi:m.2.1≠x.1)(hn:inB m.2.2.2.1 0 100000=true)(hf:bT x.sess m.2.1 true<0)(hl:((x.sess.length:Nat):Int)≠x.slots):NodeOk (withS x (jH x m)):=by
 have hs:=(cL x).1 h.sess
 refine h.withS (by unfold jH;rw[List.length_append,List.length_singleton];omega) (fun s hm=>?_) ?_
 ·rcases List.mem_append.1 hm with h1 | h1
  ·exact hs.2.1 s h1
  ·rw[List.mem_singleton.1 h1]
   refine⟨hp,hi,hn,?_⟩
   have:=h.wait;rw[aQ] at this ⊢;show 0≤(0:Int)∧(0:Int)≤x.wait;omega
 ·unfold jH
  rw[List.map_append,List.nodup_append]
  refine⟨hs.2.2,by simp,fun a ha b hb=>?_⟩
  obtain⟨s,hs1,rfl⟩:=List.mem_map.1 ha
  have hb:b=(m.2.1,true):=by simpa [j7] using hb
  rw[hb]
  rcases dB x.sess m.2.1 true with ⟨k,_,e,_⟩ | ⟨_,e⟩
  ·rw[e] at hf;omega
  ·exact e s hs1
-- receiving
def w9(o:NodeT)(x:NodeT)(m:MsgT):MsgT:=
 (3,o.1,m.2.1,m.2.2.2.1,bU o.log,o.tree.1,o.tree.2.1,o.got,iV o.tree m.tree,(yL o (iV o.tree m.tree) (gt m.vec x.1.toNat).1).1,(yL o (iV o.tree m.tree) (gt m.vec x.1.toNat).1).2.1,cZ o.state,())
def I2(o:NodeT)(x:NodeT)(m:MsgT):MsgT:=
 (4,o.1,m.2.1,m.2.2.2.1,bU o.log,[],0,o.got,m.leaves,(yL o m.leaves (gt m.vec x.1.toNat).1).1,(yL o m.leaves (gt m.vec x.1.toNat).1).2.1,cZ o.state,())
abbrev DB:=NodeT×List MsgT×Int
def gT(x:NodeT)(m:MsgT):List c5:=bif decide (bT x.sess m.2.1 true≥0)then lW x (bT x.sess m.2.1 true).toNat m.2.2.2.1 else jH x m
def B4(x:NodeT)(m:MsgT):NodeT:=eO (withS x (gT x m)) m
def gU(x:NodeT)(m:MsgT):Bool:= !decide (bT x.sess m.2.1 true≥0)&&((x.sess.length:Nat):Int)==x.slots
def jK(x:NodeT)(m:MsgT):DB:=bif gU x m then(x,[CN x 5 m.2.1 m.2.2.2.1],3)else(B4 x m,[w9 (B4 x m) x m],0)
def pY(x:NodeT)(m:MsgT)(k:Nat):DB:=
 bif m.1==5 then(l9 x k,[],0)else bif m.1==4 then(fD (l9 x k) m,[],0)else(fD (l9 x k) m,[I2 (fD (l9 x k) m) x m],0)
def uX(x:NodeT)(m:MsgT):DB:=
 bif m.1==0 then(fD x m,[CN (fD x m) 1 m.2.1 m.2.2.2.1],0)else
 bif m.1==1 then(eO x m,[],0)else bif m.1==2 then jK x m else
 bif decide (pI x m (m.1==4)<0)then(x,[],2)else pY x m (pI x m (m.1==4)).toNat
def g0(x:NodeT)(m:MsgT):Bool:=dC x&&(iS m&&(m.2.2.1==x.1&&(!decide (m.2.1≥x.2.1)&&((m.vec.length:Nat):Int)==x.2.1)))
def yD(x:NodeT)(m:MsgT):DB:=bif g0 x m then uX x m else(x,[],1)
structure RecOk (x:NodeT) (m:MsgT):Prop where
 node:NodeOk x
 msg:iS m=true
 idn:0≤x.1∧x.1<x.2.1∧1≤x.2.1∧x.2.1≤5
 frm:0≤m.2.1∧m.2.1<x.2.1
 ne:m.2.1≠x.1
 vec:((m.vec.length:Nat):Int)=x.2.1
 to:m.2.2.1=x.1
 num:inB m.2.2.2.1 0 100000=true
 hi:0≤m.hi∧m.hi≤100000
 part:aO m.part=true
 marks:dD m.marks=true
 leaves:m.leaves.length≤4
theorem DZ{x:NodeT}{m:MsgT}(h:g0 x m=true):RecOk x m:=by
 unfold g0 at h
 simp only[Bool.and_eq_true,beq_iff_eq,Bool.not_eq_true',decide_eq_false_iff_not] at h
 obtain⟨h1,h2,h3,h4,h5⟩:=h
 have hn:=(c7 x).1 h1
 have a1:=hn.n
 have a2:=hn.id
 rw[aQ] at a1 a2
 rw[IntKind.wrap_i64] at a2
 have hm:=h2
 unfold iS mW dK at hm
 simp only[Bool.and_eq_true,aQ,Bool.not_eq_true',beq_eq_false_iff_ne] at hm
 obtain⟨⟨b1,b2,b3,b4⟩,b5,b6,b7,b8,b9,b10,b11,b12⟩:=hm
 exact⟨hn,h2,by omega,by omega,by rw[← h3];exact b4,h5,h3,aQ.2 b7,b8,b11,b12,AC h2⟩
theorem RecOk.gone{x:NodeT}{m:MsgT}(h:RecOk x m)(k:Nat):RecOk (l9 x k) m:=
 ⟨E9 h.node k,h.msg,h.idn,h.frm,h.ne,h.vec,h.to,h.num,h.hi,h.part,h.marks,h.leaves⟩
theorem RecOk.brought{x:NodeT}{m:MsgT}(h:RecOk x m):NodeOk (fD x m):=
 NodeOk.gotUp ((h.node.heard m).take h.part) h.hi.2 (by
  have h1:=h.ne;have h2:=h.idn;have h3:=h.frm
  show m.2.1.toNat≠x.1.toNat
  omega)
theorem RecOk.syn{x:NodeT}{m:MsgT}(h:RecOk x m)(hf:gU x m=false):RecOk (withS x (gT x m)) m:=by
 refine⟨?_,h.msg,h.idn,h.frm,h.ne,h.vec,h.to,h.num,h.hi,h.part,h.marks,h.leaves⟩
 unfold gT
 unfold gU at hf
 by_cases hc:bT x.sess m.2.1 true≥0
 ·rw[decide_eq_true hc]
  rcases dB x.sess m.2.1 true with ⟨k,hk,e,_⟩ | ⟨e,_⟩
  ·show NodeOk (withS x (lW x (bT x.sess m.2.1 true).toNat m.2.2.2.1))
   rw[e];exact CF h.node hk h.num
  ·omega
 ·rw[decide_eq_false hc] at hf ⊢
  refine A3 h.node ?_ h.ne h.num (by omega) (by intro e;rw[e] at hf;simp at hf)
  have h2:=h.idn;have h3:=h.frm
  rw[aQ,IntKind.wrap_i64];omega
theorem xU{x:NodeT}(h:NodeOk x)(m:MsgT):(gT x m).length≤aW:=by
 have h1:=((cL x).1 h.sess).1
 have h2:=h.slots;rw[aQ] at h2
 unfold gT lW jH aW
 cases decide (bT x.sess m.2.1 true≥0)with
 | true=>show(List.set _ _ _).length≤_;rw[List.length_set];omega
 | false=>show(x.sess++[_]).length≤_;rw[List.length_append,List.length_singleton];omega
theorem GF{x:NodeT}{m:MsgT}(h:g0 x m=false):yD x m=(x,[],1):=by unfold yD;rw[h];rfl
theorem tH{x:NodeT}{m:MsgT}(h:g0 x m=true):yD x m=uX x m:=by unfold yD;rw[h];rfl
-- an exchange taken out, as the code does it
def uY(x:NodeT)(k:Int):List c5:=([]++((x.sess.take (k.toNat)).drop 0))++((x.sess.take x.sess.length).drop ((IntKind.i64.wrap (k+1))).toNat)
theorem GG{x:NodeT}{k:Nat}(hk:k<x.sess.length)(hl:x.sess.length≤aW):uY x (k:Int)=x.sess.take k++x.sess.drop (k+1):=by
 unfold uY
 rw[aL (Nat.lt_of_lt_of_le hk (Nat.le_trans hl (by decide))),List.take_length,Int.toNat_natCast,Int.toNat_natCast];rfl
theorem D0{x:NodeT}{k:Nat}(hk:k<x.sess.length)(hl:x.sess.length≤aW):withS x (uY x (k:Int))=l9 x k:=by rw[GG hk hl];rfl
theorem uG{α β:Type}{ss:List α}{k:Nat}{F Z:β}(hk:k<ss.length)(hl:ss.length≤aW):
  (bif decide (0≤(k:Int))&&decide ((k:Int)≤((ss.length:Nat):Int))then(bif decide (List.length ([]:List α)+List.length ((ss.take ((k:Int).toNat)).drop 0)≤bound)then
   (bif decide (0≤IntKind.i64.wrap ((k:Int)+1))&&decide (IntKind.i64.wrap ((k:Int)+1)≤((ss.length:Nat):Int))then
    (bif decide (List.length ([]++((ss.take ((k:Int).toNat)).drop 0))+List.length ((ss.take ss.length).drop ((IntKind.i64.wrap ((k:Int)+1))).toNat)≤bound)then F else Z)else Z)else Z)else Z)=F:=by
 have hb:aW≤bound:=by decide
 rw[aL (Nat.lt_of_lt_of_le hk (Nat.le_trans hl (by decide)))]
 refine(mH (Int.natCast_nonneg _) (by omega)).trans ?_
 refine(aE (by rw[List.drop_zero,List.length_take];simp;omega)).trans ?_
 refine(mH (Int.natCast_nonneg _) (by omega)).trans ?_
 exact aE (by rw[List.nil_append,List.drop_zero,List.length_take,List.length_drop,List.length_take,Int.toNat_natCast,Int.toNat_natCast];omega)
end Go.Abs
-- exchanges begun and gone through: plain laws
namespace Go.Abs
def gK(x:NodeT)(to:Int):Bool:=dC x&&(nE x to&&(!decide (bT x.sess to false≥0)&&(!(((x.sess.length:Nat):Int)==x.slots)&& !(x.num==100000))))
def gI(x:NodeT)(to:Int):NodeT:=
 (x.1,x.2.1,x.2.2.1,x.2.2.2.1,x.2.2.2.2.1,x.2.2.2.2.2.1,x.2.2.2.2.2.2.1,x.2.2.2.2.2.2.2.1,x.2.2.2.2.2.2.2.2.1,x.got,x.acked,x.seen,IntKind.i64.wrap (x.num+1),x.slots,x.sess++[(to,IntKind.i64.wrap (x.num+1),false,(0:Int),())],x.wait,x.limit,x.clock,x.rises,())
def jU(x:NodeT)(to:Int):MsgT:=(2,x.1,to,IntKind.i64.wrap (x.num+1),bU x.log,x.tree.1,x.tree.2.1,x.got,[],[],[],cZ x.state,())
def EJ:MsgT:=((0:Int),(0:Int),(0:Int),(0:Int),(0:Int),[],(0:Int),[],[],[],[],[],())
abbrev I7:=NodeT×MsgT×Bool
def iC(x:NodeT)(to:Int):I7:=bif gK x to then(gI x to,jU x to,true)else(x,EJ,false)
structure SynOk (x:NodeT) (to:Int):Prop where
 node:NodeOk x
 peer:0≤to∧to<x.2.1∧to≠x.1
 slot:bT x.sess to false<0
 room:((x.sess.length:Nat):Int)<x.slots
 num:0≤x.num∧x.num<100000
 nn:1≤x.2.1∧x.2.1≤5
theorem iM{x:NodeT}{to:Int}(h:gK x to=true):SynOk x to:=by
 unfold gK nE at h
 simp only[Bool.and_eq_true,Bool.not_eq_true',decide_eq_false_iff_not,beq_eq_false_iff_ne,bne_iff_ne,aQ] at h
 obtain⟨h1,⟨h2,h3⟩,h4,h5,h6⟩:=h
 have hn:=(c7 x).1 h1
 have h7:=hn.n;have h8:=hn.num
 have h9:=((cL x).1 hn.sess).1
 rw[aQ] at h7 h8
 rw[IntKind.wrap_i64] at h2
 exact⟨hn,by omega,by omega,by omega,by omega,by omega⟩
theorem tN{n:Int}(h:0≤n∧n<100000):IntKind.i64.wrap (n+1)=n+1:=by rw[IntKind.wrap_i64];omega
theorem SynOk.up{x:NodeT}{to:Int}(h:SynOk x to):NodeOk (gI x to) where
 n:=h.node.n
 id:=h.node.id
 state:=h.node.state
 tree:=h.node.tree
 log:=h.node.log
 got:=h.node.got
 acked:=h.node.acked
 own:=h.node.own
 seen:=h.node.seen
 ack:=h.node.ack
 num:=by show inB (IntKind.i64.wrap (x.num+1)) 0 100000=true;rw[tN h.num,aQ];have:=h.num;omega
 clock:=h.node.clock
 slots:=h.node.slots
 wait:=h.node.wait
 limit:=h.node.limit
 rises:=h.node.rises
 rise:=h.node.rise
 sess:=by
  have hs:=(cL x).1 h.node.sess
  refine(cL _).2 ⟨?_,fun s hm=>?_,?_⟩
  ·show(((x.sess++[_]).length:Nat):Int)≤x.slots
   rw[List.length_append,List.length_singleton];have:=h.room;omega
  ·have hm:s∈x.sess++[(to,IntKind.i64.wrap (x.num+1),false,(0:Int),())]:=hm
   rcases List.mem_append.1 hm with h1 | h1
   ·exact hs.2.1 s h1
   ·rw[List.mem_singleton.1 h1]
    have h2:=h.peer;have h3:=h.num;have h4:=h.node.wait;have h5:=h.nn
    rw[aQ] at h4
    refine⟨?_,h2.2.2,?_,?_⟩
    ·show inB to 0 (IntKind.i64.wrap (x.2.1 - 1))=true
     rw[aQ,IntKind.wrap_i64];omega
    ·show inB (IntKind.i64.wrap (x.num+1)) 0 100000=true
     rw[tN h.num,aQ];omega
    ·show inB 0 0 x.wait=true
     rw[aQ];omega
  ·show(List.map j7 (x.sess++[(to,IntKind.i64.wrap (x.num+1),false,(0:Int),())])).Nodup
   rw[List.map_append,List.nodup_append]
   refine⟨hs.2.2,by simp,fun a ha b hb=>?_⟩
   obtain⟨s,hs1,rfl⟩:=List.mem_map.1 ha
   have hb:b=(to,false):=by simpa [j7] using hb
   rw[hb]
   rcases dB x.sess to false with ⟨k,_,e,_⟩ | ⟨_,e⟩
   ·have:=h.slot;rw[e] at this;omega
   ·exact e s hs1
theorem lQ{x:NodeT}{to:Int}(hz:SzN x)(h:SynOk x to):SzN (gI x to):=
 ⟨hz.state,hz.leaves,hz.list,hz.logs,hz.got,hz.acked,hz.seen,hz.lines,by
  have h1:=h.room;have h2:=h.node.slots;rw[aQ] at h2
  show(x.sess++[_]).length≤aW
  rw[List.length_append,List.length_singleton];unfold aW;omega,hz.rises⟩
theorem A6{x:NodeT}(hz:SzN x)(to:Int):SzM (jU x to):=⟨hz.leaves,hz.got,Nat.zero_le _,pA,Nat.le_trans (fU _) (by decide)⟩
theorem GV:SzM EJ:=⟨Nat.zero_le _,Nat.zero_le _,Nat.zero_le _,pA,Nat.zero_le _⟩
theorem F8{x:NodeT}(hz:SzN x)(to:Int):SzN (iC x to).1∧SzM (iC x to).2.1:=by
 unfold iC
 cases h:gK x to with
 | false=>exact⟨hz,GV⟩
 | true=>exact⟨lQ hz (iM h),A6 hz to⟩
theorem sZ{x:NodeT}{to:Int}(h:gK x to=true):iC x to=(gI x to,jU x to,true):=by unfold iC;rw[h];rfl
theorem wU{x:NodeT}{to:Int}(h:gK x to=false):iC x to=(x,EJ,false):=by unfold iC;rw[h];rfl
-- who answers whom
structure RecTo (x:NodeT) (m:MsgT) (r:DB):Prop where
 id:r.1.1=x.1
 to:∀ q∈r.2.1,q.2.2.1=m.2.1∧q.2.1=x.1
-- an exchange gone through
end Go.Abs
-- saying: plain laws
namespace Go.Abs
abbrev FX:=aI×Int
def tM(id:Int)(e:bV):aI:=bif aO ([(id,e)],[],())then([(id,e)],[],())else iG
theorem oZ(id:Int)(e:bV):aO (tM id e)=true:=by
 unfold tM
 cases h:aO ([(id,e)],[],())with
 | true=>exact h
 | false=>rfl
def upE(s:aI)(id:Int):bV×Int:=bif aO s then(bif dK id then(bif(kY s id).2 then((kY s id).1,0)else(c8,3))else(c8,1))else(c8,1)
def pD(s:aI)(id:Int):Int:=mxI true (bA s id).1.1 (cD s.2.1 id)
def mQ(s:aI)(id:Int):FX:=bif aO s then(bif dK id then(bif(kY s id).2 then(iG,2)else bif pD s id==1000 then(iG,4)else(tM id (IntKind.i64.wrap (pD s id+1),0,0,0,⟨#[]⟩,()),0))else(iG,1))else(iG,1)
def mT(s:aI)(id:Int):FX:=bif(upE s id).2 != 0 then(iG,(upE s id).2)else bif(upE s id).1.2.2.1==100000 then(iG,4)else
 (tM id ((upE s id).1.1,(upE s id).1.2.1,IntKind.i64.wrap ((upE s id).1.2.2.1+1),(upE s id).1.2.2.2.1,(upE s id).1.2.2.2.2.1,()),0)
def pV(s:aI)(id:Int)(t:ByteArray):FX:=bif(upE s id).2 != 0 then(iG,(upE s id).2)else bif(upE s id).1.2.2.2.1==1000 then(iG,4)else bif decide (((ByteArray.size t:Nat):Int)>8)then(iG,4)else
 (tM id ((upE s id).1.1,(upE s id).1.2.1,(upE s id).1.2.2.1,IntKind.i64.wrap ((upE s id).1.2.2.2.1+1),t,()),0)
def mR(s:aI)(id:Int):FX:=bif(upE s id).2 != 0 then(iG,(upE s id).2)else(tM id ((upE s id).1.1,1,(upE s id).1.2.2.1,(upE s id).1.2.2.2.1,(upE s id).1.2.2.2.2.1,()),0)
def eR(s:aI)(k id:Int)(t:ByteArray):FX:=bif k==0 then mQ s id else bif k==1 then mT s id else bif k==2 then pV s id t else mR s id
theorem zV(s:aI)(id:Int):aO (mQ s id).1=true:=by
 unfold mQ
 cases aO s<;>cases dK id<;>cases (kY s id).2<;>cases pD s id==1000<;>first | rfl | exact oZ _ _
theorem zX(s:aI)(id:Int):aO (mT s id).1=true:=by
 unfold mT
 cases (upE s id).2 != 0<;>cases (upE s id).1.2.2.1==100000<;>first | rfl | exact oZ _ _
theorem CB(s:aI)(id:Int)(t:ByteArray):aO (pV s id t).1=true:=by
 unfold pV
 cases (upE s id).2 != 0<;>cases (upE s id).1.2.2.2.1==1000<;>cases decide (((ByteArray.size t:Nat):Int)>8)<;>first | rfl | exact oZ _ _
theorem zW(s:aI)(id:Int):aO (mR s id).1=true:=by
 unfold mR
 cases (upE s id).2 != 0<;>first | rfl | exact oZ _ _
theorem xZ(s:aI)(k id:Int)(t:ByteArray):aO (eR s k id t).1=true:=by
 unfold eR
 cases k==0
 ·cases k==1
  ·cases k==2
   ·exact zW s id
   ·exact CB s id t
  ·exact zX s id
 ·exact zV s id
-- logs
def lK(l:eL)(d:aI):Bool:=fK l&&(aO d&& !(IntKind.i64.wrap (l.2.1+((l.2.2.1.length:Nat):Int))==100000))
def eN(l:eL)(d:aI):eL:=bif decide ((((l.2.2.1++[d]).length:Nat):Int)>l.1)then(l.1,IntKind.i64.wrap (l.2.1+1),(l.2.2.1++[d]).drop 1,())else(l.1,l.2.1,l.2.2.1++[d],())
def nN(l:eL)(d:aI):eL×Bool:=bif lK l d then(eN l d,true)else(l,false)
structure LogOk (l:eL):Prop where
 cap:1≤l.1∧l.1≤8
 len:((l.2.2.1.length:Nat):Int)≤l.1
 frm:0≤l.2.1∧l.2.1≤100000
 top:l.2.1+((l.2.2.1.length:Nat):Int)≤100000
 all:∀ s∈l.2.2.1,aO s=true
theorem j0(l:eL):fK l=true↔LogOk l:=by
 unfold fK
 simp only[Bool.and_eq_true,aQ,Bool.not_eq_true',decide_eq_false_iff_not,bK]
 constructor
 ·rintro ⟨h1,h2,h3,h4,h5⟩
  rw[IntKind.wrap_i64] at h4
  refine⟨h1,by omega,h3,by omega,fun s hs=>?_⟩
  obtain⟨i,hi,rfl⟩:=kW hs
  exact h5 i hi
 ·rintro ⟨h1,h2,h3,h4,h5⟩
  rw[IntKind.wrap_i64]
  exact⟨h1,by omega,h3,by omega,fun i hi=>h5 _ (cX hi)⟩
theorem mX{l:eL}(h:LogOk l):bU l=l.2.1+((l.2.2.1.length:Nat):Int):=by
 have h1:=h.frm;have h2:=h.top
 unfold bU;rw[(j0 l).2 h];show IntKind.i64.wrap _=_;rw[IntKind.wrap_i64];omega
theorem CQ{l:eL}{d:aI}(h:LogOk l)(hd:aO d=true)(hn:l.2.1+((l.2.2.1.length:Nat):Int)<100000):LogOk (eN l d)∧bU (eN l d)=bU l+1:=by
 have h1:=h.cap;have h2:=h.len;have h3:=h.frm
 have hl:(l.2.2.1++[d]).length=l.2.2.1.length+1:=by rw[List.length_append,List.length_singleton]
 have ha:∀ s∈l.2.2.1++[d],aO s=true:=fun s hs=>by
  rcases List.mem_append.1 hs with hs | hs
  ·exact h.all s hs
  ·rw[List.mem_singleton.1 hs];exact hd
 have key:LogOk (eN l d)∧(eN l d).2.1+(((eN l d).2.2.1.length:Nat):Int)=l.2.1+((l.2.2.1.length:Nat):Int)+1:=by
  unfold eN
  by_cases hc:(((l.2.2.1++[d]).length:Nat):Int)>l.1
  ·rw[decide_eq_true hc]
   have hw:IntKind.i64.wrap (l.2.1+1)=l.2.1+1:=by rw[IntKind.wrap_i64];omega
   have hdl:((l.2.2.1++[d]).drop 1).length=l.2.2.1.length:=by rw[List.length_drop,hl];omega
   refine⟨⟨h1,?_,?_,?_,fun s hs=>ha s (List.mem_of_mem_drop hs)⟩,?_⟩
   ·show((((l.2.2.1++[d]).drop 1).length:Nat):Int)≤l.1;rw[hdl];exact h2
   ·show 0≤IntKind.i64.wrap (l.2.1+1)∧IntKind.i64.wrap (l.2.1+1)≤100000;rw[hw];omega
   ·show IntKind.i64.wrap (l.2.1+1)+((((l.2.2.1++[d]).drop 1).length:Nat):Int)≤100000;rw[hw,hdl];omega
   ·show IntKind.i64.wrap (l.2.1+1)+((((l.2.2.1++[d]).drop 1).length:Nat):Int)=_;rw[hw,hdl];omega
  ·rw[decide_eq_false hc]
   rw[hl] at hc
   refine⟨⟨h1,?_,h3,?_,ha⟩,?_⟩
   ·show(((l.2.2.1++[d]).length:Nat):Int)≤l.1;rw[hl];omega
   ·show l.2.1+(((l.2.2.1++[d]).length:Nat):Int)≤100000;rw[hl];omega
   ·show l.2.1+(((l.2.2.1++[d]).length:Nat):Int)=_;rw[hl];omega
 exact⟨key.1,by rw[mX key.1,mX h];exact key.2⟩
-- a node says
def pW(x:NodeT)(k id:Int):Bool:=dC x&&(inB k 0 4&&(inB id 0 (IntKind.i64.wrap (x.2.1 - 1))&& !(kE (k==4) (id==x.1))))
def A8(x:NodeT)(d:aI):NodeT:=
 (x.1,x.2.1,x.2.2.1,x.2.2.2.1,x.2.2.2.2.1,x.2.2.2.2.2.1,(eN x.log d).1,(eN x.log d).2.1,(eN x.log d).2.2.1,x.got.set x.1.toNat (IntKind.i64.wrap ((gt x.got x.1.toNat).1+1),()),x.acked,x.seen,x.num,x.slots,x.sess,x.wait,x.limit,x.clock,x.rises,())
abbrev HF:=NodeT×aI×Int
def oJ(x:NodeT)(k id:Int)(t:ByteArray):HF:=
 bif pW x k id then(bif(eR x.state k id t).2 != 0 then(x,iG,(eR x.state k id t).2)else bif lK x.log (eR x.state k id t).1 then(lO (A8 x (eR x.state k id t).1) (eR x.state k id t).1,(eR x.state k id t).1,0)else(x,iG,4))else(x,iG,1)
theorem tB{x:NodeT}{d:aI}(h:NodeOk x)(hd:lK x.log d=true):NodeOk (A8 x d):=by
 unfold lK at hd
 simp only[Bool.and_eq_true,Bool.not_eq_true',beq_eq_false_iff_ne] at hd
 have hL:=(j0 x.log).1 h.log
 have h1:=hL.frm;have h2:=hL.top;have h3:=hL.len;have h4:=hL.cap
 have hw:IntKind.i64.wrap (x.log.2.1+((x.log.2.2.1.length:Nat):Int))=x.log.2.1+((x.log.2.2.1.length:Nat):Int):=by rw[IntKind.wrap_i64];omega
 rw[hw] at hd
 obtain⟨p1,p2⟩:=CQ hL hd.2.1 (by have:=hd.2.2;omega)
 have hs:bU x.log<100000∧0≤bU x.log:=by rw[mX hL];have:=hd.2.2;omega
 have hg:(gt x.got x.1.toNat).1=bU x.log:=eq_of_beq h.own
 have hwg:IntKind.i64.wrap ((gt x.got x.1.toNat).1+1)=bU x.log+1:=by rw[hg,IntKind.wrap_i64];omega
 have hid:=h.id;have hn:=h.n;have hv:=h.got
 rw[aQ] at hid hn
 rw[IntKind.wrap_i64] at hid
 unfold dF at hv
 simp only[Bool.and_eq_true,beq_iff_eq] at hv
 have hk:x.1.toNat<x.got.length:=by omega
 exact {
  n:=h.n,id:=h.id,state:=h.state,tree:=h.tree
  log:=(j0 _).2 p1
  got:=by
   show dF (x.got.set x.1.toNat _) x.2.1=true
   unfold dF
   simp only[Bool.and_eq_true,beq_iff_eq]
   rw[List.length_set]
   refine⟨hv.1,hv.2.1,?_⟩
   have h5:=bK.1 hv.2.2
   rw[bK]
   intro i hi
   by_cases e:x.1.toNat=i
   ·rw[← e,cS hk];show inB (IntKind.i64.wrap _) 0 100000=true;rw[hwg,aQ];omega
   ·rw[fG e];exact h5 i hi
  acked:=h.acked
  own:=by
   show((gt (x.got.set x.1.toNat (IntKind.i64.wrap ((gt x.got x.1.toNat).1+1),())) x.1.toNat).1==bU (eN x.log d))=true
   rw[cS hk,p2,beq_iff_eq];exact hwg
  seen:=h.seen
  ack:=by
   have h6:=h.ack
   unfold uQ at h6 ⊢
   rw[bK] at h6 ⊢
   intro i hi
   have h7:=h6 i hi
   show(!decide ((gt x.acked i).1>bU (eN x.log d)))=true
   rw[p2]
   simp only[Bool.not_eq_true',decide_eq_false_iff_not] at h7 ⊢
   omega
  num:=h.num,clock:=h.clock,slots:=h.slots,wait:=h.wait,limit:=h.limit,rises:=h.rises,rise:=h.rise,sess:=h.sess }
theorem z9(l:eL)(d:aI):(eN l d).2.2.1.length≤l.2.2.1.length+1:=by
 unfold eN
 cases decide ((((l.2.2.1++[d]).length:Nat):Int)>l.1)with
 | true=>show((l.2.2.1++[d]).drop 1).length≤_;rw[List.length_drop,List.length_append,List.length_singleton];omega
 | false=>show(l.2.2.1++[d]).length≤_;rw[List.length_append,List.length_singleton];exact Nat.le_refl _
theorem yA{x:NodeT}{d:aI}(hz:SzN x)(h:NodeOk x)(hd:lK x.log d=true):SzN (A8 x d):=by
 have ho:=(j0 _).1 (tB h hd).log
 have h1:=ho.cap;have h2:=ho.len
 refine⟨hz.state,hz.leaves,?_,fun i hi=>?_,?_,hz.acked,hz.seen,hz.lines,hz.sess,hz.rises⟩
 ·unfold aW;omega
 ·have:=((bF _).1 (ho.all _ (cX hi))).len
  exact⟨by unfold aW;omega,by unfold aW;omega⟩
 ·show(x.got.set _ _).length≤aW;rw[List.length_set];exact hz.got
theorem GE{x:NodeT}(h:NodeOk x)(k id:Int)(t:ByteArray):NodeOk (oJ x k id t).1:=by
 unfold oJ
 cases pW x k id with
 | false=>exact h
 | true=>
  cases (eR x.state k id t).2 != 0 with
  | true=>exact h
  | false=>
   cases hb:lK x.log (eR x.state k id t).1 with
   | false=>exact h
   | true=>exact(tB h hb).take (xZ _ _ _ _)
theorem GD{x:NodeT}(hz:SzN x)(k id:Int)(t:ByteArray):SzN (oJ x k id t).1:=by
 unfold oJ
 cases hs:pW x k id with
 | false=>exact hz
 | true=>
  have h:NodeOk x:=(c7 x).1 (by unfold pW at hs;simp only[Bool.and_eq_true] at hs;exact hs.1)
  cases (eR x.state k id t).2 != 0 with
  | true=>exact hz
  | false=>
   cases hb:lK x.log (eR x.state k id t).1 with
   | false=>exact hz
   | true=>exact iL (yA hz h hb) _
end Go.Abs
/- Plain laws: worlds compared. -/
namespace Go.Abs
def fM{α:Type}(a b:List α):Bool:=((a.length:Nat):Int)==((b.length:Nat):Int)
theorem mY{α:Type}{a b:List α}:fM a b=true↔a.length=b.length:=by unfold fM;rw[beq_iff_eq];omega
def lS{α:Type}[Inhabited α](f:α→α→Bool)(a b:List α):Bool:=fM a b&&bI a.length fun i=>f (gt a i) (gt b i)
def p5(a b:cE):Bool:=eG a.1 b.1
def mD(x y:c5):Bool:=eJ x.1 y.1&&(eJ x.2.1 y.2.1&&(kE x.2.2.1 y.2.2.1&&(eJ x.2.2.2.1 y.2.2.2.1&&true)))
def jP(x y:kI):Bool:=eJ x.1 y.1&&(eJ x.2.1 y.2.1&&(eJ x.2.2.1 y.2.2.1&&true))
def wQ(a b:hZ):Bool:=eG a.1 b.1&&a.2.1==b.2.1
def tX(a b:eL):Bool:=a.1==b.1&&(a.2.1==b.2.1&&lS dG a.2.2.1 b.2.2.1)
def tP(a b:NodeT):Bool:=a.1==b.1&&(a.2.1==b.2.1&&(a.num==b.num&&(a.slots==b.slots&&(a.wait==b.wait&&(a.limit==b.limit&&(a.clock==b.clock&&(lS p5 a.seen b.seen&&(dG a.state b.state&&(wQ a.tree b.tree&&(tX a.log b.log&&(eG a.got b.got&&(eG a.acked b.acked&&(lS mD a.sess b.sess&&lS jP a.rises b.rises)))))))))))))
def sI(a b:NodeT):Bool:=a.1==b.1&&(a.2.1==b.2.1&&(dG a.state b.state&&(wQ a.tree b.tree&&(tX a.log b.log&&(eG a.got b.got&&(eG a.acked b.acked&&(fM a.seen b.seen&&(a.num==b.num&&(a.slots==b.slots&&(a.wait==b.wait&&(a.limit==b.limit&&(a.clock==b.clock&&(fM a.sess b.sess&&(fM a.rises b.rises&&
 (bI a.seen.length (fun i=>p5 (gt a.seen i) (gt b.seen i))&&(bI a.sess.length (fun i=>mD (gt a.sess i) (gt b.sess i))&&bI a.rises.length fun i=>jP (gt a.rises i) (gt b.rises i)))))))))))))))))
theorem EC(a b:NodeT):sI a b=tP a b:=by
 unfold sI tP lS;ac_rfl
end Go.Abs
-- check sums lie in 0 .. 2^32 - 1: plain laws
namespace Go.Abs
def pO(x:Int):Prop:=0≤x∧x<4294967296
theorem DD{a b:Int}(ha:pO a)(hb:pO b):pO (nA .i64 a b):=by
 obtain⟨n,rfl⟩:∃ n:Nat,a=n:=⟨a.toNat,by have:=ha.1;omega⟩
 obtain⟨m,rfl⟩:∃ m:Nat,b=m:=⟨b.toNat,by have:=hb.1;omega⟩
 have hn:n<2 ^ 32:=by have:=ha.2;omega
 have hm:m<2 ^ 32:=by have:=hb.2;omega
 unfold nA
 have h:(BitVec.ofInt IntKind.i64.bits (n:Int) ^^^ BitVec.ofInt IntKind.i64.bits (m:Int)).toNat<2 ^ 32:=by
  rw[BitVec.toNat_xor]
  have e1:(BitVec.ofInt IntKind.i64.bits (n:Int)).toNat=n:=by
   rw[BitVec.toNat_ofInt];show((n:Int) % ((2 ^ 64:Nat):Int)).toNat=n;omega
  have e2:(BitVec.ofInt IntKind.i64.bits (m:Int)).toNat=m:=by
   rw[BitVec.toNat_ofInt];show((m:Int) % ((2 ^ 64:Nat):Int)).toNat=m;omega
  rw[e1,e2];exact Nat.xor_lt_two_pow hn hm
 generalize (BitVec.ofInt IntKind.i64.bits (n:Int) ^^^ BitVec.ofInt IntKind.i64.bits (m:Int)).toNat=k at h
 have e:IntKind.i64.wrap (k:Int)=k:=by rw[IntKind.wrap_i64];omega
 rw[e];exact⟨by omega,by omega⟩
theorem FI{x:Int}(h:pO x):pO (nW x):=by
 have hd:0≤x.tdiv 2∧x.tdiv 2<4294967296:=by
  have h1:=h.1;have h2:=h.2
  rw[Int.tdiv_eq_ediv_of_nonneg h1];omega
 have hw:IntKind.i64.wrap (x.tdiv 2)=x.tdiv 2:=by rw[IntKind.wrap_i64];omega
 unfold nW
 rw[hw]
 cases (x.tmod 2)==1 with
 | true=>exact DD hd ⟨by omega,by omega⟩
 | false=>exact hd
theorem wC{x:Int}(h:pO x):∀ k,pO (dW k x)
 | 0=>h
 | k+1=>FI (wC h k)
theorem BM{bs:List aY}(h:∀ b∈bs,pO b.1):∀ i,i≤bs.length→pO (lJ bs i)
 | 0,_=>⟨by show(0:Int)≤4294967295;omega,by show(4294967295:Int)<4294967296;omega⟩
 | i+1,hi=>by
  have hb:=h _ (cX (xs:=bs) (i:=i) (by omega))
  have hw:IntKind.i64.wrap (gt bs i).1=(gt bs i).1:=by have h1:=hb.1;have h2:=hb.2;rw[IntKind.wrap_i64];omega
  show pO (dW 8 (nA .i64 (lJ bs i) (IntKind.i64.wrap (gt bs i).1)))
  rw[hw]
  exact wC (DD (BM h i (by omega)) hb) 8
theorem HD{bs:List aY}(h:∀ b∈bs,pO b.1):pO (crc bs):=by
 unfold crc
 exact DD (BM h _ (Nat.le_refl _)) ⟨by omega,by omega⟩
def B32(bs:List aY):Prop:=∀ b∈bs,pO b.1
theorem B32.app{a b:List aY}(ha:B32 a)(hb:B32 b):B32 (a++b):=fun x hx=>by
 rcases List.mem_append.1 hx with h | h
 ·exact ha x h
 ·exact hb x h
theorem B32.flat{α:Type}{f:α→List aY}(h:∀ x,B32 (f x))(xs:List α):B32 (xs.flatMap f):=fun x hx=>by
 obtain⟨a,_,ha⟩:=List.mem_flatMap.1 hx
 exact h a x ha
theorem HV(n:Nat):B32 (nB n):=by
 induction n using Nat.strongRecOn with
 | _ n ih=>
  unfold nB
  split
  ·rename_i h
   intro b hb
   rw[List.mem_singleton.1 hb];exact⟨by show(0:Int)≤(n:Int);omega,by show(n:Int)<4294967296;omega⟩
  ·rename_i h
   intro b hb
   rcases List.mem_cons.1 hb with e | e
   ·rw[e];exact⟨by show(0:Int)≤((n % 128+128:Nat):Int);omega,by show((n % 128+128:Nat):Int)<4294967296;omega⟩
   ·exact ih (n / 128) (Nat.div_lt_self (by omega) (by omega)) b e
theorem eX(x:Int):B32 (aR x):=by
 unfold aR
 cases inB x 0 2147483647 with
 | false=>intro b hb;cases hb
 | true=>exact HV _
theorem CH(t:ByteArray):B32 (eS t):=by
 unfold eS
 refine(eX _).app fun b hb=>?_
 unfold n5 dZ at hb
 obtain⟨u,_,rfl⟩:=List.mem_map.1 hb
 have:=u.toNat_lt
 exact⟨by show(0:Int)≤((u.toNat:Nat):Int);omega,by show((u.toNat:Nat):Int)<4294967296;omega⟩
theorem FO(s:aI):B32 (iX s):=by
 unfold iX
 refine(((eX _).app (B32.flat (fun x=>?_) _)).app (eX _)).app (B32.flat (fun f=>?_) _)
 ·unfold bH;exact(((((eX _).app (eX _)).app (eX _)).app (eX _)).app (eX _)).app (CH _)
 ·unfold cB;exact(eX _).app (eX _)
theorem xS{x:Int}(h:pO x):inB (x.tmod 1024) 0 1023=true:=by
 rw[aQ];have:=oC (x:=x) (n:=1024) h.1 (by omega);omega
theorem kZ(s:aI)(k:Int):inB (fS s k) 0 1023=true:=by
 unfold fS
 cases aO s&&inB k 0 3 with
 | true=>exact xS (HD (FO _))
 | false=>rfl
theorem DE{s:aI}(h:aO s=true):jT (bS s)=true:=by
 unfold bS;rw[h]
 show jT (cH s,iP (cH s),())=true
 have hr:inB (iP (cH s)) 0 1023=true:=xS (HD (B32.flat (fun x=>eX _) _))
 have hl:nG (cH s) 1023=true:=bK.2 fun i hi=>by
  match i,hi with
  | 0,_=>exact kZ s 0
  | 1,_=>exact kZ s 1
  | 2,_=>exact kZ s 2
  | 3,_=>exact kZ s 3
 unfold jT
 rw[hl,hr];rfl
end Go.Abs
