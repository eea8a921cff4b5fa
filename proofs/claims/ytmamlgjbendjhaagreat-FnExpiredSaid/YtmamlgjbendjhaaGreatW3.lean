/- A by-value reading of the model, and its soundness, part 3. -/
import Derived.Test.YtmamlgjbendjhaaGreatW2
set_option linter.unusedVariables false
/- Plain laws: joins, what was said, what lies beneath, what is over. -/
namespace Go.Abs
theorem wX(a b:Int):l2 b a= - l2 a b:=by
 unfold l2
 rcases Int.lt_trichotomy a b with h | h | h
 ·rw[decide_eq_true h,decide_eq_false (by omega:¬ b<a)];rfl
 ·subst h;rw[decide_eq_false (by omega:¬ a<a)];rfl
 ·rw[decide_eq_true h,decide_eq_false (by omega:¬ a<b)];rfl
theorem vY:∀ x y:List UInt8,Lib.compareBytes y x= - Lib.compareBytes x y
 | [],[]=>rfl
 | [],_::_=>rfl
 | _::_,[]=>rfl
 | a::x,b::y=>by
  unfold Lib.compareBytes
  by_cases h1:a<b
  ·have h2:¬ b<a:=fun h=>by rw[UInt8.lt_iff_toNat_lt] at h h1;omega
   simp[h1,h2]
  ·by_cases h2:b<a
   ·simp[h1,h2]
   ·simp[h1,h2,vY x y]
theorem rX(x y:Int):(if -x≠0 then -x else -y)= -(if x≠0 then x else y):=by
 by_cases h:x=0
 ·subst h;simp
 ·rw[if_pos h,if_pos (by omega)]
theorem yV(a b:bS):gD b a= - gD a b:=by
 unfold gD
 rw[wX a.1 b.1,wX a.2.1 b.2.1,wX a.2.2.1 b.2.2.1,wX a.2.2.2.1 b.2.2.2.1,show pU b.2.2.2.2.1 a.2.2.2.2.1= - pU a.2.2.2.2.1 b.2.2.2.2.1 from vY _ _,rX,rX,rX,rX]
theorem vW{y:bS}(h:1≤y.1):gD c5 y= -1:=by
 have e:l2 c5.1 y.1= -1:=by
  unfold l2;rw[decide_eq_true (show c5.1<y.1 from by show(0:Int)<y.1;omega)];rfl
 unfold gD;rw[e];rfl
def orZ(z:Int)(ls:List aZ):Int:=match (List.range ls.length).find? (fun i=>(gt ls i).1 != 0)with
 | some i=>(gt ls i).1
 | none=>z
theorem yC(z:Int)(ls:List aZ):orZ z ls=(match ls.find? (fun x:aZ=>x.1 != 0)with | some x=>x.1 | none=>z):=by
 have h:=kU (fun x:aZ=>x.1 != 0) (fun x:aZ=>x.1) z ls
 unfold orZ
 cases h1:(List.range ls.length).find? (fun i=>(gt ls i).1 != 0)<;>cases h2:ls.find? (fun x:aZ=>x.1 != 0)<;>simp only[h1,h2] at h ⊢<;>exact h
theorem oH(z x:Int)(ls:List aZ):orZ z ((x,())::ls)=if x≠0 then x else orZ z ls:=by
 rw[yC,yC,List.find?_cons]
 by_cases h:x=0
 ·subst h;rfl
 ·have:((x,()):aZ).1 != 0:=by simpa using h
  rw[this,if_pos h]
def yO(a b:bS):List aZ:=[(l2 a.1 b.1,()),(l2 a.2.1 b.2.1,()),(l2 a.2.2.1 b.2.2.1,()),(l2 a.2.2.2.1 b.2.2.2.1,())]
theorem DJ(a b:bS):orZ (pU a.2.2.2.2.1 b.2.2.2.2.1) (yO a b)=gD a b:=by
 unfold yO gD
 rw[oH,oH,oH,oH];rfl
theorem CM(x y:ByteArray):(bif Op.bytesLess (ByteArray.toList x) (ByteArray.toList y)then(-1:Int)else CQ (!(Op.bytesLess (ByteArray.toList x) (ByteArray.toList y)||ByteArray.toList x==ByteArray.toList y)))=pU x y:=by
 rw[ByteArray.toList_eq,ByteArray.toList_eq];exact vV _ _
/-- The cells of a state that a join leans on. -/
structure Pos (s:aK):Prop where
 item:∀ x∈s.1,1≤x.2.1
 floor:∀ f∈s.2.1,0≤f.2.1
theorem StateOk.pos{s:aK}(h:StateOk s):Pos s where
 item x hx:=by
  have:=(h.item x hx).2.1
  unfold dS at this;simp only[Bool.and_eq_true,aQ] at this;omega
 floor f hf:=by have:=(h.floor f hf).2;rw[aQ] at this;omega
theorem F2:Pos ([],[],()):=⟨fun x hx=>(List.not_mem_nil hx).elim,fun x hx=>(List.not_mem_nil hx).elim⟩
def mxE(a b:bS):bS:=bif decide (gD a b<0)then b else a
def dK(a b:aK)(i:Int):bS:=mxE (a9 a i).1 (a9 b i).1
def flr(a b:aK)(i:Int):Int:=mxI true (cC a.2.1 i) (cC b.2.1 i)
def cJ(a b:aK)(i:Nat):List bM:=bif decide ((dK a b i).1>flr a b i)then[((i:Int),dK a b i)] else[]
def cB(a b:aK)(i:Nat):List aX:=bif decide (flr a b i>0)then[((i:Int),flr a b i,())] else[]
def dI(a b:aK):aK:=(bD 5 (cJ a b),bD 5 (cB a b),())
theorem mP(a b:aK)(i:Nat):(cJ a b i).length≤1:=by unfold cJ;cases decide ((dK a b i).1>flr a b i)<;>simp
theorem kR(a b:aK)(i:Nat):(cB a b i).length≤1:=by unfold cB;cases decide (flr a b i>0)<;>simp
theorem mN(a b:aK):(dI a b).1.length≤5∧(dI a b).2.1.length≤5:=
 ⟨cL (n:=5) (L:=1) fun i _=>mP a b i,cL (n:=5) (L:=1) fun i _=>kR a b i⟩
theorem lU(a b:aK):SzS (dI a b):=⟨Nat.le_trans (mN a b).1 (by decide),Nat.le_trans (mN a b).2 (by decide)⟩
theorem HM{a b:aK}(ha:Pos a)(i:Int):0≤flr a b i:=by
 have h:0≤cC a.2.1 i:=by
  rcases jH a i with ⟨x,hx,_,e⟩ | ⟨_,e⟩
  ·rw[e];exact ha.floor x hx
  ·omega
 unfold flr mxI;simp only[if_true];split<;>omega
theorem DU:mxE c5 c5=c5:=by
 unfold mxE;cases decide (gD c5 c5<0)<;>rfl
theorem F3{a b:aK}{i:Int}(ha:a9 a i=(c5,false))(hb:a9 b i=(c5,false)):dK a b i=c5:=by
 unfold dK;rw[ha,hb];exact DU
theorem rQ{a b:aK}{i:Int}{y:bS}(ha:a9 a i=(c5,false))(hb:a9 b i=(y,true))(hy:1≤y.1):dK a b i=y:=by
 unfold dK mxE;rw[ha,hb];rw[show gD (c5,false).1 (y,true).1= -1 from vW hy];rfl
theorem rP{a b:aK}{i:Int}{x:bS}(ha:a9 a i=(x,true))(hb:a9 b i=(c5,false))(hx:1≤x.1):dK a b i=x:=by
 unfold dK mxE;rw[ha,hb];rw[show gD (x,true).1 (c5,false).1=1 from by rw[show gD (x,true).1 (c5,false).1= - gD c5 x from yV c5 x,vW hx];rfl];rfl
theorem AW{a b:aK}{i:Int}{x y:bS}(ha:a9 a i=(x,true))(hb:a9 b i=(y,true)):dK a b i=bif decide (gD y x>0)then y else x:=by
 unfold dK mxE;rw[ha,hb]
 show(bif decide (gD x y<0)then y else x)=_
 rw[show decide (gD x y<0)=decide (gD y x>0)from ?_]
 rw[yV x y]
 by_cases h:gD x y<0
 ·rw[decide_eq_true h,decide_eq_true (by omega)]
 ·rw[decide_eq_false h,decide_eq_false (by omega)]
theorem fE{a b:aK}{i:Nat}{e:bS}(he:dK a b i=e)(h:e.1>flr a b i):cJ a b i=[((i:Int),e)]:=by
 unfold cJ;rw[he,decide_eq_true h];rfl
theorem eH{a b:aK}{i:Nat}{e:bS}(he:dK a b i=e)(h:¬ e.1>flr a b i):cJ a b i=[]:=by
 unfold cJ;rw[he,decide_eq_false h];rfl
theorem nF{a b:aK}{i:Nat}(h:flr a b i>0):cB a b i=[((i:Int),flr a b i,())]:=by
 unfold cB;rw[decide_eq_true h];rfl
theorem nG{a b:aK}{i:Nat}(h:¬ flr a b i>0):cB a b i=[]:=by
 unfold cB;rw[decide_eq_false h];rfl
theorem jX{s:aK}(hs:Pos s)(i:Int):(∃ x:bS,1≤x.1∧a9 s i=(x,true))∨a9 s i=(c5,false):=by
 rcases jK s i with ⟨x,hx,_,e⟩ | ⟨_,e⟩
 ·exact .inl ⟨x.2,hs.item x hx,e⟩
 ·exact .inr e
-- less
def IR(a b:aK):Bool:=aP a&&(aP b&&dJ (dI a b) b)
-- over
def gone(s:aK)(id:Int):Int:=bif aP s then(bif(a9 s id).2 then(bif(a9 s id).1.2.1==0 then IntKind.i64.wrap ((a9 s id).1.1 - 1)else(a9 s id).1.1)else cC s.2.1 id)else 0
-- what was said
def iA:aK:=([],[],())
def EA(g:Nat→aK):Nat→aK
 | 0=>iA
 | k+1=>dI (EA g k) (g k)
theorem oK:SzS iA:=⟨Nat.zero_le _,Nat.zero_le _⟩
def zS(w:fQ)(i:Nat):aK:=(gt w.2.2.1 i).2
def IW(w:fQ):aK:=bif nT w then EA (zS w) w.2.2.1.length else iA
def DY(w:fQ)(node:Int):Nat→Int
 | 0=>0
 | k+1=>DY w node k+CQ ((gt w.2.2.1 k).1==node)
def HC(w:fQ)(node:Int):Int:=DY w node w.2.2.1.length
def z6(w:fQ)(ls:List aZ):Nat→aK
 | 0=>iA
 | k+1=>bif inB (gt ls k).1 0 (IntKind.i64.wrap (((w.2.2.1.length:Nat):Int) - 1))then dI (z6 w ls k) (zS w (gt ls k).1.toNat)else z6 w ls k
def HJ(w:fQ)(ls:List aZ):aK:=bif nT w then z6 w ls ls.length else iA
def GH(w:fQ)(s:aK):List aZ:=bif nT w&&aP s then bD w.2.2.1.length (fun i=>bif IR (zS w i) s then[((i:Int),())] else[])else[]
theorem HL{s:aK}(hs:aP s=true)(id:Int):gone s id=(bif(a9 s id).2 then(bif(a9 s id).1.2.1==1 then(a9 s id).1.1 else IntKind.i64.wrap ((a9 s id).1.1 - 1))else cC s.2.1 id):=by
 unfold gone;rw[hs]
 rcases jK s id with ⟨x,hx,_,e⟩ | ⟨_,e⟩
 ·rw[e]
  obtain⟨i,hi,rfl⟩:=kN hx
  show(bif(gt s.1 i).2.2.1==0 then _ else _)=bif(gt s.1 i).2.2.1==1 then _ else _
  rcases FU hs hi with h | h<;>rw[h]<;>rfl
 ·rw[e];rfl
end Go.Abs
/- Plain laws: what the judges decide. -/
namespace Go.Abs
theorem yN{s:aK}(hs:aP s=false)(id:Int):gone s id=0:=by unfold gone;rw[hs];rfl
theorem l5{β:Type}{q r:Prop}[Decidable q][Decidable r]{x y:β}(h:q)(h':r):(bif decide q&&decide r then x else y)=x:=by
 rw[decide_eq_true h,decide_eq_true h'];rfl
-- own
-- views
-- heard
-- seen
-- FN, D7, grown
def FN(w:fQ):Bool:=nT w&&bH w.1.length fun i=>BT (mV (gt w.1 i).state) (mV (IW w))
def kO(s:aK)(id:Int):bS×Bool:=a9 (mV s,[],()) id
def A3(w:fQ)(id:Int):Nat→Int
 | 0=>0
 | k+1=>A3 w id k+CQ (kO (gt w.1 k).state id).2
def D7(w:fQ)(id:Int):Int:=bif nT w then A3 w id w.1.length else 0
end Go.Abs
/- Plain laws: differences of views applied, and what they are. -/
namespace Go.Abs
end Go.Abs
/- Plain laws: draws. -/
namespace Go.Abs
abbrev dW:=List aZ×Int×Int×Unit
structure CurOk (c:dW):Prop where
 len:c.1.length≤1048576
 lo:0≤c.2.1
 hi:c.2.1≤c.1.length
theorem sB(a:Int):0≤AN .i64 a 255∧AN .i64 a 255≤255:=by
 unfold AN
 have h:(BitVec.ofInt IntKind.i64.bits a&&& BitVec.ofInt IntKind.i64.bits 255).toNat≤255:=by
  rw[BitVec.toNat_and];exact Nat.le_trans Nat.and_le_right (by decide)
 generalize (BitVec.ofInt IntKind.i64.bits a&&& BitVec.ofInt IntKind.i64.bits 255).toNat=m at h
 have e:IntKind.i64.wrap (m:Int)=m:=by rw[IntKind.wrap_i64];omega
 rw[e];omega
theorem rL{x n:Int}(hx:0≤x)(hn:0<n):0≤x.tmod n∧x.tmod n<n:=by
 rw[Int.tmod_eq_emod_of_nonneg hx]
 exact⟨Int.emod_nonneg _ (by omega),Int.emod_lt_of_pos _ hn⟩
theorem aH{β:Type}{o:Option Out}{A B:List Kd}{r:Row A}{s:Row B}{f:Rows [A]×Rows [B]→Option β}(h:o=some ⟨[⟨A,r⟩],[⟨B,s⟩]⟩):(o.bind (dP [A] [B])).bind f=f ((r,()),(s,())):=by
 rw[h];simp[dP,dN,f9];rfl
theorem uB{β:Type}{o:Option Out}{A B:List Kd}{r:Row A}{s:Row B}{f:Rows [A,B]×Rows []→Option β}(h:o=some ⟨[⟨A,r⟩,⟨B,s⟩],[]⟩):(o.bind (dP [A,B] [])).bind f=f ((r,s,()),()):=by
 rw[h];simp[dP,dN,f9];rfl
/-- A loop whose rounds are told by what they keep. -/
theorem It.ex {ι σ:Type} {lvl:Nat} {c:Nat→Nat→ι→(σ→Option Out)→σ→Option Out} (Inv:Nat→σ→Prop) (Good:Out→Prop) (N:Nat)
  (hs:∀ i x,i<N→Inv i x→∃ y,Inv (i+1) y∧∀ n,lvl≤n→∀ aA a rec,c n aA a rec x=rec y)
  (he:∀ x,Inv N x→∃ o,Good o∧∀ n,lvl≤n→It (c n) x (fun _=>some o)):∀ (m j:Nat) x,j+m=N→Inv j x→∃ o,Good o∧∀ n,lvl≤n→It (c n) x (fun _=>some o)
 | 0,j,x,hj,hx=>he x ((show j=N by omega)▸hx)
 | m+1,j,x,hj,hx=>by
  obtain⟨y,hy,h⟩:=hs j x (by omega) hx
  obtain⟨o,ho,h'⟩:=It.ex Inv Good N hs he m (j+1) y (by omega) hy
  exact⟨o,ho,fun n hn=>It.next (fun aA a rec=>h n hn aA a rec) (h' n hn)⟩
def datas:List ByteArray:=[⟨#[]⟩,⟨#[97]⟩,⟨#[98]⟩,⟨#[97,98]⟩,⟨#[49,50,51,52,53,54,55,56]⟩,⟨#[49,50,51,52,53,54,55,56,57]⟩]
def FB(e:bS):Prop:=e.2.2.2.2.1∈datas
structure StD (k:Nat) (s:aK):Prop where
 a:s.1.length≤k
 b:s.2.1.length≤k
 data:∀ x∈s.1,FB x.2
theorem StD.sz{k:Nat}{s:aK}(h:StD k s)(hk:k≤1048576):SzS s:=⟨Nat.le_trans h.a hk,Nat.le_trans h.b hk⟩
theorem FD:FB c5:=List.mem_cons_self ..
theorem q9{P:bS→Prop}(hz:P c5){s:aK}(hs:∀ x∈s.1,P x.2)(i:Int):P (a9 s i).1:=by
 unfold a9
 cases h:(List.range s.1.length).find? (fun j=>(gt s.1 j).1==i)with
 | none=>exact hz
 | some j=>
  have hj:=List.mem_range.1 (List.mem_of_find?_eq_some h)
  show P (gt s.1 j).2
  rw[dY hj];exact hs _ (List.getElem_mem hj)
theorem j7{α:Type}{n:Nat}{g:Nat→List α}{x:α}(h:x∈bD n g):∃ i,i<n∧x∈g i:=by
 induction n with
 | zero=>exact(List.not_mem_nil h).elim
 | succ n ih=>
  rw[cV] at h
  rcases List.mem_append.1 h with h | h
  ·obtain⟨i,hi,hx⟩:=ih h;exact⟨i,by omega,hx⟩
  ·exact⟨n,by omega,h⟩
theorem CB{P:bS→Prop}(hz:P c5){a b:aK}(ha:∀ x∈a.1,P x.2)(hb:∀ x∈b.1,P x.2):∀ x∈(dI a b).1,P x.2:=by
 intro x hx
 obtain⟨i,_,hi⟩:=j7 hx
 unfold cJ at hi
 cases hc:decide ((dK a b (i:Int)).1>flr a b (i:Int))with
 | false=>rw[hc] at hi;exact(List.not_mem_nil hi).elim
 | true=>
  rw[hc] at hi
  have e:x=((i:Int),dK a b (i:Int)):=List.mem_singleton.1 hi
  subst e
  show P (dK a b (i:Int))
  unfold dK mxE
  cases decide (gD (a9 a (i:Int)).1 (a9 b (i:Int)).1<0)
  ·exact q9 hz ha _
  ·exact q9 hz hb _
theorem A4{j k:Nat}{a b:aK}(ha:StD j a)(hb:StD k b):StD 5 (dI a b):=⟨(mN a b).1,(mN a b).2,CB FD ha.data hb.data⟩
theorem EI{β:Type}{A B:Prop}[Decidable A][Decidable B]{X R:β}(h:¬ A∨¬ B):(bif decide A then(bif decide B then X else R)else R)=R:=by
 by_cases a:A
 ·rcases h with h | h
  ·exact absurd a h
  ·rw[decide_eq_true a,decide_eq_false h];rfl
 ·rw[decide_eq_false a];rfl
/-- The loop of a new cursor, and what comes behind it. -/
theorem It.new {lvl:Nat} {c:Nat→Nat→Unit→(Int×Int→Option Out)→Int×Int→Option Out} (Good:Out→Prop) (b:List aZ) (hb:b.length≤1048576)
  (hs:∀ (i:Nat) (h:Int),i<b.length→i<4000→∃ h',∀ n,lvl≤n→∀ aA a rec,c n aA a rec (h,(i:Int))=rec (h',((i+1:Nat):Int)))
  (he:∀ (h i:Int),CurOk (b,0,h,())→(¬ i<((b.length:Nat):Int)∨¬ i<4000)→∃ o,Good o∧∀ n,lvl≤n→∃ M,∀ aA,M≤aA→∀ a rec,c n aA a rec (h,i)=some o) (h0:Int):
  ∃ o,Good o∧∀ n,lvl≤n→It (c n) (h0,(0:Int)) (fun _=>some o):=by
 refine It.ex (fun i y=>∃ h,y=(h,(i:Int))) Good (min b.length 4000) ?_ ?_ (min b.length 4000) 0 (h0,(0:Int)) (by omega) ⟨h0,rfl⟩
 ·rintro i y hi ⟨h,rfl⟩
  obtain⟨h',hh⟩:=hs i h (by omega) (by omega)
  exact⟨_,⟨h',rfl⟩,hh⟩
 ·rintro y ⟨h,rfl⟩
  obtain⟨o,ho,hh⟩:=he h ((min b.length 4000:Nat):Int) ⟨hb,by show(0:Int)≤0;omega,by show(0:Int)≤((b.length:Nat):Int);omega⟩ (by omega)
  refine⟨o,ho,fun n hn=>?_⟩
  obtain⟨M,hM⟩:=hh n hn
  refine⟨M+1,fun aA k hf hk a=>?_⟩
  obtain⟨k,rfl⟩:∃ k',k=k'+1:=⟨k - 1,by omega⟩
  exact hM aA (by omega) a _
end Go.Abs
-- marks, tables, taking and receiving: plain laws
namespace Go.Abs
abbrev MsgT:=Int×Int×Int×Int×Int×List aZ×Int×List aZ×List aZ×List bM×List aX×List aX×Unit
abbrev MsgT.hi(m:MsgT):Int:=m.2.2.2.2.1
abbrev MsgT.tree(m:MsgT):iV:=(m.2.2.2.2.2.1,m.2.2.2.2.2.2.1,())
abbrev MsgT.vec(m:MsgT):List aZ:=m.2.2.2.2.2.2.2.1
abbrev MsgT.leaves(m:MsgT):List aZ:=m.2.2.2.2.2.2.2.2.1
abbrev MsgT.part(m:MsgT):aK:=(m.2.2.2.2.2.2.2.2.2.1,m.2.2.2.2.2.2.2.2.2.2.1,())
abbrev MsgT.marks(m:MsgT):List aX:=m.2.2.2.2.2.2.2.2.2.2.2.1
structure SzM (m:MsgT):Prop where
 leaves:m.tree.1.length≤aS
 vec:m.vec.length≤aS
 list:m.leaves.length≤aS
 part:SzS m.part
 marks:m.marks.length≤aS
theorem DT(a b:Int):mxI true a b=max a b:=by unfold mxI;simp only[if_true];split<;>omega
theorem AZ(a b:Int):mxI false a b=min a b:=by unfold mxI;simp only[Bool.false_eq_true,if_false];split<;>omega
-- lists in order
theorem mT{α:Type}{k:α→Int}{g:Nat→List α}(h1:∀ i,(g i).length≤1)(h:∀ i,∀ x∈g i,k x=(i:Int)):∀ n,(bD n g).Pairwise (fun x y=>k x<k y)
 | 0=>by rw[qB];exact List.Pairwise.nil
 | n+1=>by
  rw[cV,List.pairwise_append]
  refine⟨mT h1 h n,?_,fun x hx y hy=>?_⟩
  ·match hg:g n with
   | []=>exact List.Pairwise.nil
   | [x]=>exact List.pairwise_singleton _ _
   | x::y::t=>have:=h1 n;rw[hg] at this;simp at this
  ·obtain⟨i,hi,hx⟩:=j7 hx
   rw[h i x hx,h n y hy];omega
theorem nI{s:aK}(h:StateOk s)(i:Int):0≤cC s.2.1 i∧cC s.2.1 i≤1000:=by
 rcases jH s i with ⟨x,hx,_,e⟩ | ⟨_,e⟩
 ·have:=(h.floor x hx).2;rw[aQ] at this;rw[e];omega
 ·rw[e];omega
theorem nL{s:aK}(h:StateOk s)(i:Int):(a9 s i).1=c5∨dS (a9 s i).1=true:=by
 rcases jK s i with ⟨x,hx,_,e⟩ | ⟨_,e⟩
 ·rw[e];exact .inr (h.item x hx).2.1
 ·rw[e];exact .inl rfl
theorem DG{a b:aK}(ha:StateOk a)(hb:StateOk b)(i:Int):dK a b i=c5∨dS (dK a b i)=true:=by
 unfold dK mxE
 cases decide (gD (a9 a i).1 (a9 b i).1<0)with
 | true=>exact nL hb i
 | false=>exact nL ha i
theorem EP{a b:aK}(ha:StateOk a)(hb:StateOk b)(i:Int):0≤flr a b i∧flr a b i≤1000:=by
 have h1:=nI ha i
 have h2:=nI hb i
 unfold flr;rw[DT];omega
theorem vP{a b:aK}{i:Nat}{x:bM}(h:x∈cJ a b i):x=((i:Int),dK a b i)∧(dK a b i).1>flr a b i:=by
 unfold cJ at h
 cases hd:decide ((dK a b i).1>flr a b i)with
 | false=>rw[hd] at h;cases h
 | true=>rw[hd] at h;exact⟨List.mem_singleton.1 h,of_decide_eq_true hd⟩
theorem nH{a b:aK}{i:Nat}{x:aX}(h:x∈cB a b i):x=((i:Int),flr a b i,())∧flr a b i>0:=by
 unfold cB at h
 cases hd:decide (flr a b i>0)with
 | false=>rw[hd] at h;cases h
 | true=>rw[hd] at h;exact⟨List.mem_singleton.1 h,of_decide_eq_true hd⟩
theorem wS{i:Nat}(h:i<5):dH (i:Int)=true:=by unfold dH;rw[aQ];omega
theorem StateOk.join{a b:aK}(ha:StateOk a)(hb:StateOk b):StateOk (dI a b) where
 item x hx:=by
  obtain⟨i,hi,hx⟩:=j7 hx
  obtain⟨rfl,hg⟩:=vP hx
  have hf:=EP ha hb (i:Int)
  refine⟨wS hi,?_,?_⟩
  ·rcases DG ha hb (i:Int)with e | e
   ·rw[e] at hg;have h0:(0:Int)>flr a b i:=hg;omega
   ·exact e
  ·show cC (dI a b).2.1 (i:Int)<(dK a b i).1
   rcases jH (dI a b) (i:Int)with ⟨f,hf',e1,e⟩ | ⟨_,e⟩
   ·obtain⟨j,_,hf'⟩:=j7 hf'
    obtain⟨rfl,_⟩:=nH hf'
    have:(j:Int)=(i:Int):=e1
    rw[e];show flr a b (j:Int)<_;rw[this];omega
   ·rw[e];omega
 items:=mT (k:=fun x:bM=>x.1) (mP a b) (fun i x hx=>by rw[(vP hx).1]) 5
 floor f hf:=by
  obtain⟨i,hi,hf⟩:=j7 hf
  obtain⟨rfl,hg⟩:=nH hf
  have:=EP ha hb (i:Int)
  refine⟨wS hi,?_⟩
  rw[aQ];show 1≤flr a b i∧flr a b i≤1000;omega
 floors:=mT (k:=fun x:aX=>x.1) (kR a b) (fun i x hx=>by rw[(nH hx).1]) 5
theorem lV{a b:aK}(ha:aP a=true)(hb:aP b=true):aP (dI a b)=true:=
 (bF _).2 (((bF _).1 ha).join ((bF _).1 hb))
theorem AY:aP iA=true:=rfl
-- marks
def dR(ms:List aX):Bool:=bH ms.length (dU ms)
def yH(ms:List aX):Bool:=bH ms.length (fK ms)
theorem B6(ms:List aX):yH ms=dR ms:=iT fun i hi=>by unfold fK dU;ac_rfl
def gL(s:aK)(i:Nat):List aX:=bif decide (gone s i>0)then[((i:Int),gone s i,())] else[]
def dE(s:aK):List aX:=bD 5 (gL s)
theorem nC(s:aK)(i:Nat):(gL s i).length≤1:=by unfold gL;cases decide (gone s i>0)<;>simp
theorem gY(s:aK):(dE s).length≤5:=cL (n:=5) (L:=1) fun i _=>nC s i
theorem GD(s:aK)(i:Int):gone s i≤1000:=by
 cases hs:aP s with
 | false=>rw[yN hs];omega
 | true=>
  have h:=(bF s).1 hs
  have hf:=nI h i
  unfold gone;rw[hs]
  show(bif(a9 s i).2 then _ else _)≤(1000:Int)
  cases h2:(a9 s i).2 with
  | false=>exact hf.2
  | true=>
   have he:(a9 s i).1.1≤1000∧0≤(a9 s i).1.1:=by
    rcases nL h i with e | e
    ·rw[e];show(0:Int)≤1000∧(0:Int)≤0;omega
    ·unfold dS at e;simp only[Bool.and_eq_true,aQ] at e;omega
   show(bif(a9 s i).1.2.1==0 then IntKind.i64.wrap ((a9 s i).1.1 - 1)else(a9 s i).1.1)≤1000
   cases (a9 s i).1.2.1==0 with
   | false=>exact he.1
   | true=>show IntKind.i64.wrap ((a9 s i).1.1 - 1)≤1000;rw[IntKind.wrap_i64];omega
theorem CK{fs:List aX}(g:Nat→List aX)(he:fs=bD 5 g)(h1:∀ i,(g i).length≤1)(h:∀ i,∀ x∈g i,x.1=(i:Int)∧1≤x.2.1∧x.2.1≤1000):StateOk ([],fs,()) where
 item x hx:=by cases hx
 items:=List.Pairwise.nil
 floor f hf:=by
  have hf:f∈fs:=hf
  rw[he] at hf
  obtain⟨i,hi,hf⟩:=j7 hf
  obtain⟨e,h2,h3⟩:=h i f hf
  exact⟨by rw[e];exact wS hi,aQ.2 ⟨h2,h3⟩⟩
 floors:=by
  show fs.Pairwise _
  rw[he];exact mT (k:=fun x:aX=>x.1) h1 (fun i x hx=>(h i x hx).1) 5
theorem tG{ms:List aX}(h:dR ms=true){i:Nat}(hi:i<ms.length):0≤(gt ms i).1∧(gt ms i).1≤4∧1≤(gt ms i).2.1∧(gt ms i).2.1≤1000:=by
 unfold dR at h
 have:=bJ.1 h i hi
 unfold dU dH at this
 simp only[Bool.and_eq_true,aQ] at this
 omega
-- tables
def zK(r:cD)(f:aX):cD:=(r.1.set f.1.toNat (mxI true (gt r.1 f.1.toNat).1 f.2.1,()),())
def rH(r:cD)(ms:List aX):Nat→cD
 | 0=>r
 | i+1=>zK (rH r ms i) (gt ms i)
def qA(t:List cD)(k:Int)(ms:List aX):Bool:=inB k 0 (IntKind.i64.wrap (((t.length:Nat):Int) - 1))&&(dR ms&& !decide ((((gt t k.toNat).1.length:Nat):Int)<5))
def bP(t:List cD)(k:Nat)(ms:List aX)(i:Nat):List cD:=t.set k (rH (gt t k) ms i)
def bC(t:List cD)(k:Int)(ms:List aX):List cD:=bif qA t k ms then bP t k.toNat ms ms.length else t
theorem j6(r:cD)(ms:List aX):∀ i,(rH r ms i).1.length=r.1.length
 | 0=>rfl
 | i+1=>by show(List.set _ _ _).length=_;rw[List.length_set];exact j6 r ms i
theorem cQ{α:Type}[Inhabited α]{xs:List α}{i:Nat}(h:i<xs.length)(x:α):gt (xs.set i x) i=x:=by
 rw[dY (by rw[List.length_set];exact h)];simp
theorem fD{α:Type}[Inhabited α]{xs:List α}{i j:Nat}(h:i≠j)(x:α):gt (xs.set i x) j=gt xs j:=by
 unfold gt;simp[h]
theorem zJ{α:Type}[Inhabited α]{xs:List α}{i:Nat}:xs.set i (gt xs i)=xs:=by
 rcases Nat.lt_or_ge i xs.length with h | h
 ·rw[dY h];exact List.set_getElem_self h
 ·exact List.set_eq_of_length_le h
theorem nV(t:List cD)(k:Nat)(ms:List aX):bP t k ms 0=t:=zJ
theorem c9(t:List cD)(k:Int)(ms:List aX):(bC t k ms).length=t.length:=by
 unfold bC
 cases qA t k ms with
 | false=>rfl
 | true=>show(bP _ _ _ _).length=_;unfold bP;rw[List.length_set]
theorem oS{k:Int}{n:Nat}(hn:n≤aS)(h:inB k 0 (IntKind.i64.wrap ((n:Int) - 1))=true):k.toNat<n∧((k.toNat:Nat):Int)=k:=by
 rw[aQ,IntKind.wrap_i64] at h;unfold aS at hn;omega
theorem fW(t:List cD)(k:Int)(ms:List aX)(j:Nat):((gt (bC t k ms) j).1.length)=(gt t j).1.length:=by
 unfold bC
 cases hb:qA t k ms with
 | false=>rfl
 | true=>
  show(gt (bP t k.toNat ms ms.length) j).1.length=_
  unfold bP
  rcases Nat.lt_or_ge k.toNat t.length with h | h
  ·by_cases e:k.toNat=j
   ·subst e;rw[cQ h,j6]
   ·rw[fD e]
  ·rw[List.set_eq_of_length_le h]
theorem y2{r:cD}{ms:List aX}(hm:dR ms=true)(hr:∀ j,j<r.1.length→inB (gt r.1 j).1 0 1000=true):∀ i,i≤ms.length→∀ j,j<r.1.length→inB (gt (rH r ms i).1 j).1 0 1000=true
 | 0,_,j,hj=>hr j hj
 | i+1,hi,j,hj=>by
  have ih:=y2 hm hr i (by omega)
  have hid:=tG hm (i:=i) (by omega)
  have hl:=j6 r ms i
  show inB (gt (List.set (rH r ms i).1 (gt ms i).1.toNat (mxI true (gt (rH r ms i).1 (gt ms i).1.toNat).1 (gt ms i).2.1,())) j).1 0 1000=true
  by_cases e:(gt ms i).1.toNat=j
  ·subst e
   rw[cQ (by omega)]
   have:=ih _ hj
   rw[aQ] at this ⊢
   show 0≤mxI true _ _∧mxI true _ _≤1000
   rw[DT];omega
  ·rw[fD e];exact ih j hj
theorem lE{t:List cD}{n k:Int}{ms:List aX}(ht:eL t n=true):eL (bC t k ms) n=true:=by
 unfold eL at ht ⊢
 simp only[Bool.and_eq_true] at ht ⊢
 obtain⟨h1,h2,h3⟩:=ht
 refine⟨h1,by rw[c9];exact h2,?_⟩
 rw[c9]
 rw[bJ] at h3 ⊢
 intro j hj
 have h4:=h3 j hj
 unfold nE at h4 ⊢
 simp only[Bool.and_eq_true] at h4 ⊢
 rw[fW]
 refine⟨h4.1,?_⟩
 have h5:=bJ.1 h4.2
 rw[bJ]
 intro i hi
 unfold bC
 cases hb:qA t k ms with
 | false=>exact h5 i hi
 | true=>
  show inB (gt (gt (bP t k.toNat ms ms.length) j).1 i).1 0 1000=true
  unfold bP
  by_cases e:k.toNat=j
  ·subst e
   rw[cQ hj]
   have hm:dR ms=true:=by unfold qA at hb;simp only[Bool.and_eq_true] at hb;exact hb.2.1
   exact y2 hm h5 _ (Nat.le_refl _) i hi
  ·rw[fD e];exact h5 i hi
def f7(t:List cD)(id:Int)(k:Nat):Bool:=inB id 0 (IntKind.i64.wrap ((((gt t k).1.length:Nat):Int) - 1))
def dM(t:List cD)(id:Int):Nat→Int
 | 0=>0
 | k+1=>bif(k:Int)==0 then(gt (gt t k).1 id.toNat).1 else bif decide ((gt (gt t k).1 id.toNat).1<dM t id k)then(gt (gt t k).1 id.toNat).1 else dM t id k
def eY(t:List cD)(id:Int):Int:=bif bH t.length (f7 t id)then dM t id t.length else 0
-- pruning
def eU(s:aK)(t:List cD)(i:Nat):List aX:=bif decide (mxI false (eY t i) (gone s i)>0)then[((i:Int),mxI false (eY t i) (gone s i),())] else[]
def jV(s:aK)(t:List cD):aK:=([],bD 5 (eU s t),())
def jN(s:aK)(t:List cD):aK:=bif aP s then dI s (jV s t)else s
theorem kJ(s:aK)(t:List cD)(i:Nat):(eU s t i).length≤1:=by unfold eU;cases decide (mxI false (eY t i) (gone s i)>0)<;>simp
theorem qW(s:aK)(t:List cD):aP (jV s t)=true:=
 (bF _).2 (CK (eU s t) rfl (kJ s t) fun i x hx=>by
  unfold eU at hx
  cases hd:decide (mxI false (eY t i) (gone s i)>0)with
  | false=>rw[hd] at hx;cases hx
  | true=>
   rw[hd] at hx
   have e:=List.mem_singleton.1 hx
   have h0:=of_decide_eq_true hd
   have hg:=GD s i
   rw[e];refine⟨rfl,h0,?_⟩
   show mxI false (eY t i) (gone s i)≤1000
   rw[AZ];omega)
theorem qV(s:aK)(t:List cD):SzS (jV s t):=⟨Nat.zero_le _,Nat.le_trans (cL (n:=5) (L:=1) fun i _=>kJ s t i) (by decide)⟩
theorem xZ{s:aK}(h:aP s=true)(t:List cD):aP (jN s t)=true:=by
 unfold jN;rw[h];exact lV h (qW s t)
theorem DF{s:aK}(h:SzS s)(t:List cD):SzS (jN s t):=by
 unfold jN;cases aP s with
 | false=>exact h
 | true=>exact lU _ _
-- vectors
def c6(v:List aZ)(k n:Int):List aZ:=bif inB k 0 (IntKind.i64.wrap (((v.length:Nat):Int) - 1))then v.set k.toNat (mxI true (gt v k.toNat).1 n,())else v
theorem hX(v:List aZ)(k n:Int):(c6 v k n).length=v.length:=by
 unfold c6;cases inB k 0 (IntKind.i64.wrap (((v.length:Nat):Int) - 1))with
 | false=>rfl
 | true=>exact List.length_set ..
theorem qD(v:List aZ)(k n:Int)(j:Nat):(gt (c6 v k n) j).1=(gt v j).1∨(gt (c6 v k n) j).1=max (gt v j).1 n:=by
 unfold c6;cases inB k 0 (IntKind.i64.wrap (((v.length:Nat):Int) - 1))with
 | false=>exact .inl rfl
 | true=>
  show(gt (v.set _ _) j).1=_∨(gt (v.set _ _) j).1=_
  rcases Nat.lt_or_ge k.toNat v.length with h | h
  ·by_cases e:k.toNat=j
   ·subst e;rw[cQ h];exact .inr (DT _ _)
   ·rw[fD e];exact .inl rfl
  ·rw[List.set_eq_of_length_le h];exact .inl rfl
theorem xB(v:List aZ){k n:Int}{j:Nat}(h:k.toNat≠j):gt (c6 v k n) j=gt v j:=by
 unfold c6;cases inB k 0 (IntKind.i64.wrap (((v.length:Nat):Int) - 1))with
 | false=>rfl
 | true=>exact fD h _
theorem qC{v:List aZ}{m k n:Int}(h:dG v m=true)(hn:n≤100000):dG (c6 v k n) m=true:=by
 unfold dG at h ⊢
 simp only[Bool.and_eq_true] at h ⊢
 rw[hX]
 refine⟨h.1,h.2.1,?_⟩
 have h3:=bJ.1 h.2.2
 rw[bJ]
 intro i hi
 have:=h3 i hi
 rw[aQ] at this ⊢
 rcases qD v k n i with e | e<;>rw[e]<;>omega
end Go.Abs
-- taking and receiving: plain laws
namespace Go.Abs
-- rises
def uY(r:j8)(e:bS):Bool:=decide (e.1>r.1)||(e.1==r.1&&decide (e.2.2.1>r.2.1))
def sU(clock:Int)(r:j8)(e:bS):j8:=bif uY r e then(e.1,e.2.2.1,clock,())else r
def cH(clock:Int)(rs:List j8)(xs:List bM):Nat→List j8
 | 0=>rs
 | i+1=>(cH clock rs xs i).set (gt xs i).1.toNat (sU clock (gt (cH clock rs xs i) (gt xs i).1.toNat) (gt xs i).2)
theorem gJ(clock:Int)(rs:List j8)(xs:List bM):∀ i,(cH clock rs xs i).length=rs.length
 | 0=>rfl
 | i+1=>by show(List.set _ _ _).length=_;rw[List.length_set];exact gJ clock rs xs i
def sS(clock:Int)(r:j8):Bool:=inB r.1 0 1000&&(inB r.2.1 0 100000&&inB r.2.2.1 0 clock)
theorem uX{clock:Int}(hc:0≤clock){rs:List j8}{s:aK}(hs:StateOk s)(h:∀ j,j<rs.length→sS clock (gt rs j)=true):
  ∀ i,i≤s.1.length→∀ j,j<rs.length→sS clock (gt (cH clock rs s.1 i) j)=true
 | 0,_,j,hj=>h j hj
 | i+1,hi,j,hj=>by
  have ih:=uX hc hs h i (by omega)
  have he:=(hs.item _ (dD (xs:=s.1) (i:=i) (by omega))).2.1
  show sS clock (gt ((cH clock rs s.1 i).set (gt s.1 i).1.toNat (sU clock (gt (cH clock rs s.1 i) (gt s.1 i).1.toNat) (gt s.1 i).2)) j)=true
  by_cases e:(gt s.1 i).1.toNat=j
  ·rw[e,cQ (by rw[gJ];exact hj)]
   unfold sU
   cases uY (gt (cH clock rs s.1 i) j) (gt s.1 i).2 with
   | false=>exact ih j hj
   | true=>
    unfold dS at he
    simp only[Bool.and_eq_true,aQ] at he
    show sS clock ((gt s.1 i).2.1,(gt s.1 i).2.2.2.1,clock,())=true
    unfold sS
    simp only[Bool.and_eq_true,aQ]
    omega
  ·rw[fD e];exact ih j hj
-- a node with another state, other rows and rises
def tkS(x:NodeT)(s:aK):List cD:=bC x.seen x.1 (dE (dI x.state s))
def tkP(x:NodeT)(s:aK):aK:=jN (dI x.state s) (tkS x s)
def tkR(x:NodeT)(s:aK):List j8:=cH x.clock x.rises (tkP x s).1 (tkP x s).1.length
def lD(x:NodeT)(s:aK):NodeT:=
 (x.1,x.2.1,(tkP x s).1,(tkP x s).2.1,(cA (tkP x s)).1,(cA (tkP x s)).2.1,x.2.2.2.2.2.2.1,x.2.2.2.2.2.2.2.1,x.2.2.2.2.2.2.2.2.1,x.got,x.acked,tkS x s,x.num,x.slots,x.sess,x.wait,x.limit,x.clock,tkR x s,())
theorem gI(a:List aZ):eS a a=true:=by
 unfold eS;simp[bH]
structure NodeOk (x:NodeT):Prop where
 n:inB x.2.1 1 5=true
 id:inB x.1 0 (IntKind.i64.wrap (x.2.1 - 1))=true
 state:aP x.state=true
 tree:sG x=true
 log:fH x.log=true
 got:dG x.got x.2.1=true
 acked:dG x.acked x.2.1=true
 own:((gt x.got x.1.toNat).1==bT x.log)=true
 seen:eL x.seen x.2.1=true
 ack:uI x=true
 num:inB x.num 0 100000=true
 clock:inB x.clock 0 100000=true
 slots:inB x.slots 1 4=true
 wait:inB x.wait 1 20=true
 limit:inB x.limit 1 50=true
 rises:((x.rises.length:Nat):Int)==5
 rise:bH x.rises.length (gW x)=true
 sess:iJ x=true
theorem cN(x:NodeT):dA x=true↔NodeOk x:=by
 unfold dA iM
 simp only[Bool.and_eq_true]
 constructor
 ·rintro ⟨h1,h2,h3,h4,h5,h6,h7,h8,h9,h10,h11,h12,h13,h14,h15,h16,h17,h18⟩
  exact⟨h1,h2,h3,h4,h5,h6,h7,h8,h9,h10,h11,h12,h13,h14,h15,h16,h17,h18⟩
 ·rintro ⟨h1,h2,h3,h4,h5,h6,h7,h8,h9,h10,h11,h12,h13,h14,h15,h16,h17,h18⟩
  exact⟨h1,h2,h3,h4,h5,h6,h7,h8,h9,h10,h11,h12,h13,h14,h15,h16,h17,h18⟩
theorem CU{x:NodeT}{s:aK}(h:NodeOk x)(hs:aP s=true):aP (tkP x s)=true:=xZ (lV h.state hs) _
theorem NodeOk.take{x:NodeT}{s:aK}(h:NodeOk x)(hs:aP s=true):NodeOk (lD x s) where
 n:=h.n
 id:=h.id
 state:=CU h hs
 tree:=by
  show(eS (cA (tkP x s)).1 (cA (tkP x s)).1&&(cA (tkP x s)).2.1==(cA (tkP x s)).2.1)=true
  rw[gI];simp
 log:=h.log
 got:=h.got
 acked:=h.acked
 own:=h.own
 seen:=lE h.seen
 ack:=h.ack
 num:=h.num
 clock:=h.clock
 slots:=h.slots
 wait:=h.wait
 limit:=h.limit
 rises:=by
  show(((cH x.clock x.rises (tkP x s).1 (tkP x s).1.length).length:Nat):Int)==5
  rw[gJ];exact h.rises
 rise:=by
  show bH (cH x.clock x.rises (tkP x s).1 (tkP x s).1.length).length _=true
  rw[gJ,bJ]
  intro i hi
  have hc:=h.clock;rw[aQ] at hc
  exact uX hc.1 ((bF _).1 (CU h hs)) (fun j hj=>bJ.1 h.rise j hj) _ (Nat.le_refl _) i hi
 sess:=h.sess
theorem zA(x:NodeT)(s:aK):SzS (tkP x s):=DF (lU _ _) _
theorem BH(s:aK):(cA s).1.length≤aS:=by
 unfold cA;cases aP s with
 | false=>exact Nat.zero_le _
 | true=>show 4≤aS;decide
theorem iH{x:NodeT}(h:SzN x)(s:aK):SzN (lD x s) where
 state:=zA x s
 leaves:=BH _
 list:=h.list
 logs:=h.logs
 got:=h.got
 acked:=h.acked
 seen:=by show(tkS x s).length≤aS;unfold tkS;rw[c9];exact h.seen
 lines:=by
  intro i hi
  show(gt (tkS x s) i).1.length≤aS
  unfold tkS;rw[fW]
  exact h.lines i (by have:i<(tkS x s).length:=hi;unfold tkS at this;rw[c9] at this;exact this)
 sess:=h.sess
 rises:=by show(cH x.clock x.rises (tkP x s).1 (tkP x s).1.length).length≤aS;rw[gJ];exact h.rises
-- hearing
def heard0(x:NodeT)(m:MsgT):NodeT:=
 (x.1,x.2.1,x.2.2.1,x.2.2.2.1,x.2.2.2.2.1,x.2.2.2.2.2.1,x.2.2.2.2.2.2.1,x.2.2.2.2.2.2.2.1,x.2.2.2.2.2.2.2.2.1,x.got,c6 x.acked m.2.1 (mxI false (gt m.vec x.1.toNat).1 (bT x.log)),bC x.seen m.2.1 m.marks,x.num,x.slots,x.sess,x.wait,x.limit,x.clock,x.rises,())
def eK(x:NodeT)(m:MsgT):NodeT:=lD (heard0 x m) iA
def gotUp(x:NodeT)(m:MsgT):NodeT:=
 (x.1,x.2.1,x.2.2.1,x.2.2.2.1,x.2.2.2.2.1,x.2.2.2.2.2.1,x.2.2.2.2.2.2.1,x.2.2.2.2.2.2.2.1,x.2.2.2.2.2.2.2.2.1,c6 x.got m.2.1 m.hi,x.acked,x.seen,x.num,x.slots,x.sess,x.wait,x.limit,x.clock,x.rises,())
def fA(x:NodeT)(m:MsgT):NodeT:=gotUp (lD (eK x m) m.part) m
theorem B7{l:eG}(h:fH l=true):0≤bT l∧bT l≤100000:=by
 unfold bT;rw[h]
 unfold fH at h
 simp only[Bool.and_eq_true,aQ,Bool.not_eq_true',decide_eq_false_iff_not] at h
 show 0≤IntKind.i64.wrap _∧IntKind.i64.wrap _≤100000
 rw[IntKind.wrap_i64] at h ⊢
 omega
theorem NodeOk.heard0{x:NodeT}(h:NodeOk x)(m:MsgT):NodeOk (heard0 x m) where
 n:=h.n
 id:=h.id
 state:=h.state
 tree:=h.tree
 log:=h.log
 got:=h.got
 acked:=qC h.acked (by rw[AZ];have:=B7 h.log;omega)
 own:=h.own
 seen:=lE h.seen
 ack:=by
  have:=h.ack
  unfold uI at this ⊢
  rw[show(Go.Abs.heard0 x m).acked=c6 x.acked m.2.1 (mxI false (gt m.vec x.1.toNat).1 (bT x.log))from rfl,hX]
  rw[bJ] at this ⊢
  intro i hi
  have h1:=this i hi
  rw[show(Go.Abs.heard0 x m).log=x.log from rfl]
  simp only[Bool.not_eq_true',decide_eq_false_iff_not] at h1 ⊢
  rcases qD x.acked m.2.1 (mxI false (gt m.vec x.1.toNat).1 (bT x.log)) i with e | e
  ·rw[e];exact h1
  ·rw[e,AZ];omega
 num:=h.num
 clock:=h.clock
 slots:=h.slots
 wait:=h.wait
 limit:=h.limit
 rises:=h.rises
 rise:=h.rise
 sess:=h.sess
theorem NodeOk.heard{x:NodeT}(h:NodeOk x)(m:MsgT):NodeOk (eK x m):=(h.heard0 m).take AY
theorem vO{x:NodeT}(h:SzN x)(m:MsgT):SzN (heard0 x m) where
 state:=h.state
 leaves:=h.leaves
 list:=h.list
 logs:=h.logs
 got:=h.got
 acked:=by show(c6 _ _ _).length≤aS;rw[hX];exact h.acked
 seen:=by show(bC _ _ _).length≤aS;rw[c9];exact h.seen
 lines:=by
  intro i hi
  show(gt (bC x.seen m.2.1 m.marks) i).1.length≤aS
  rw[fW]
  exact h.lines i (by have:i<(bC x.seen m.2.1 m.marks).length:=hi;rw[c9] at this;exact this)
 sess:=h.sess
 rises:=h.rises
theorem mO{x:NodeT}(h:SzN x)(m:MsgT):SzN (eK x m):=iH (vO h m) _
theorem NodeOk.gotUp{x:NodeT}(h:NodeOk x){m:MsgT}(hi:m.hi≤100000)(hm:m.2.1.toNat≠x.1.toNat):NodeOk (gotUp x m) where
 n:=h.n
 id:=h.id
 state:=h.state
 tree:=h.tree
 log:=h.log
 got:=qC h.got hi
 acked:=h.acked
 own:=by
  show((gt (c6 x.got m.2.1 m.hi) x.1.toNat).1==bT x.log)=true
  rw[xB _ hm];exact h.own
 seen:=h.seen
 ack:=h.ack
 num:=h.num
 clock:=h.clock
 slots:=h.slots
 wait:=h.wait
 limit:=h.limit
 rises:=h.rises
 rise:=h.rise
 sess:=h.sess
theorem EJ{x:NodeT}(h:SzN x)(m:MsgT):SzN (gotUp x m) where
 state:=h.state
 leaves:=h.leaves
 list:=h.list
 logs:=h.logs
 got:=by show(c6 _ _ _).length≤aS;rw[hX];exact h.got
 acked:=h.acked
 seen:=h.seen
 lines:=h.lines
 sess:=h.sess
 rises:=h.rises
theorem rG{x:NodeT}(h:SzN x)(m:MsgT):SzN (fA x m):=EJ (iH (mO h m) _) _
-- messages
def mZ(v:List aZ)(top:Int):Bool:=bH v.length fun i=>inB (gt v i).1 0 top
def qE(t:iV):Bool:=bif((t.1.length:Nat):Int)==0 then t.2.1==0 else(((t.1.length:Nat):Int)==4&&(mZ t.1 1023&&inB t.2.1 0 1023))
def vK(v:List aZ)(i:Nat):Bool:=inB (gt v i).1 0 3&&qL (fun j=> !decide ((gt v (j+1)).1≤(gt v j).1)) i
def mK(m:MsgT):Bool:=inB m.1 0 5&&(dH m.2.1&&(dH m.2.2.1&& !(m.2.1==m.2.2.1)))
def jQ(m:MsgT):Bool:=mK m&&((bH m.leaves.length (vK m.leaves))&&(mZ m.vec 100000&&(inB m.2.2.2.1 0 100000&&(inB m.hi 0 100000&&(qE m.tree&&(decide (((m.vec.length:Nat):Int)≤5)&&(aP m.part&&dR m.marks)))))))
def u7(v:List aZ)(most top:Int):Bool:= !decide (((v.length:Nat):Int)>most)&&mZ v top
def D2(v:List aZ)(i:Nat):Bool:= !decide ((gt v (i+1)).1≤(gt v i).1)
def zV(m:MsgT):Bool:=inB m.1 0 5&&(dH m.2.1&&(dH m.2.2.1&&(!(m.2.1==m.2.2.1)&&(inB m.2.2.2.1 0 100000&&(inB m.hi 0 100000&&(qE m.tree&&(u7 m.vec 5 100000&&(u7 m.leaves 4 3&&(aP m.part&&(dR m.marks&&bH (m.leaves.length - 1) (D2 m.leaves)))))))))))
theorem D1(v:List aZ):(u7 v 4 3&&bH (v.length - 1) (D2 v))=bH v.length (vK v):=by
 rw[Bool.eq_iff_iff]
 unfold u7 mZ vK D2
 simp only[Bool.and_eq_true,bJ,Bool.not_eq_true',decide_eq_false_iff_not]
 constructor
 ·rintro ⟨⟨_,h2⟩,h3⟩ i hi
  refine⟨h2 i hi,?_⟩
  cases i with
  | zero=>rfl
  | succ j=>show(!decide ((gt v (j+1)).1≤(gt v j).1))=true;rw[decide_eq_false (h3 j (by omega))];rfl
 ·intro h
  have hp:∀ j,j+1<v.length→(gt v j).1<(gt v (j+1)).1:=fun j hj=>by
   have:=(h (j+1) hj).2
   unfold qL at this
   simpa using this
  have hge:∀ i,i<v.length→(i:Int)≤(gt v i).1:=by
   intro i
   induction i with
   | zero=>intro hi;have:=(h 0 hi).1;rw[aQ] at this;exact this.1
   | succ j ih=>intro hi;have:=ih (by omega);have:=hp j hi;omega
  refine⟨⟨?_,fun i hi=>(h i hi).1⟩,fun i hi=>by have:=hp i (by omega);omega⟩
  rcases Nat.lt_or_ge 4 v.length with h5 | h5
  ·have h6:=hge 4 h5
   have:=(h 4 h5).1;rw[aQ] at this;omega
  ·omega
theorem F7(m:MsgT):zV m=jQ m:=by
 unfold zV jQ mK
 rw[← D1]
 unfold u7
 simp only[pM]
 ac_rfl
theorem z2{m:MsgT}(h:jQ m=true):m.leaves.length≤4:=by
 rw[← F7] at h
 unfold zV u7 at h
 simp only[Bool.and_eq_true,Bool.not_eq_true',decide_eq_false_iff_not] at h
 omega
end Go.Abs
-- messages and receiving: plain laws
namespace Go.Abs
theorem eZ{β:Type}{o:Option Out}{A B C:List Kd}{r:Row A}{s:Row B}{t:Row C}{f:Rows [A,B,C]×Rows []→Option β}(h:o=some ⟨[⟨A,r⟩,⟨B,s⟩,⟨C,t⟩],[]⟩):(o.bind (dP [A,B,C] [])).bind f=f ((r,s,t,()),()):=by
 rw[h];simp[dP,dN,f9];rfl
def eM(l:List aK)(k:Nat):Nat→aK
 | 0=>iA
 | i+1=>dI (eM l k i) (gt l (k+i))
theorem sN(l:List aK)(k:Nat):∀ i,SzS (eM l k i)
 | 0=>oK
 | i+1=>lU _ _
def g9(l:eG)(seq:Int):Bool:=fH l&&inB seq l.2.1 (IntKind.i64.wrap (l.2.1+((l.2.2.1.length:Nat):Int)))
def cZ(l:eG)(seq:Int):Nat:=(seq - l.2.1).toNat
def jR(l:eG)(seq:Int):aK:=bif g9 l seq then eM l.2.2.1 (cZ l seq) (l.2.2.1.length - cZ l seq)else iA
theorem xN{l:eG}{seq:Int}(h:g9 l seq=true):l.2.1+((cZ l seq:Nat):Int)=seq∧cZ l seq≤l.2.2.1.length∧0≤l.2.1∧l.2.1≤100000∧l.2.2.1.length≤8:=by
 unfold g9 fH at h
 simp only[Bool.and_eq_true,aQ,Bool.not_eq_true',decide_eq_false_iff_not] at h
 unfold cZ
 rw[IntKind.wrap_i64] at h
 omega
def uW(x:NodeT)(seq:Int):aK:=bif g9 x.log seq then jR x.log seq else x.state
theorem C3{x:NodeT}(h:SzN x)(seq:Int):SzS (uW x seq):=by
 unfold uW jR
 cases g9 x.log seq with
 | false=>exact h.state
 | true=>exact sN _ _ _
theorem C0{s:aK}(h:SzS s)(ls:List aZ):SzS (gH s ls):=
 ⟨Nat.le_trans (List.length_filter_le ..) h.1,Nat.le_trans (List.length_filter_le ..) h.2⟩
def yB(x:NodeT)(ls:List aZ)(seq:Int):aK:=dI (gH x.state ls) (uW x seq)
def eO(a b:iV)(i:Nat):List aZ:=bif((a.1.length:Nat):Int) != 4 then[((i:Int),())] else bif((b.1.length:Nat):Int) != 4 then[((i:Int),())] else bif(gt a.1 i).1 != (gt b.1 i).1 then[((i:Int),())] else[]
def iQ(a b:iV):List aZ:=bif a.2.1==b.2.1 then[] else bD 4 (eO a b)
theorem rD(a b:iV)(i:Nat):(eO a b i).length≤1:=by
 unfold eO
 cases ((a.1.length:Nat):Int) != 4<;>cases ((b.1.length:Nat):Int) != 4<;>cases (gt a.1 i).1 != (gt b.1 i).1<;>simp
theorem t8(a b:iV):(iQ a b).length≤4:=by
 unfold iQ
 cases a.2.1==b.2.1 with
 | true=>exact Nat.zero_le _
 | false=>exact cL (n:=4) (L:=1) fun i _=>rD a b i
def F8(x:NodeT)(kind to num:Int):MsgT:=(kind,x.1,to,num,bT x.log,[],0,x.got,[],[],[],dE x.state,())
-- exchanges
def withS(x:NodeT)(ss:List cW):NodeT:=
 (x.1,x.2.1,x.2.2.1,x.2.2.2.1,x.2.2.2.2.1,x.2.2.2.2.2.1,x.2.2.2.2.2.2.1,x.2.2.2.2.2.2.2.1,x.2.2.2.2.2.2.2.2.1,x.got,x.acked,x.seen,x.num,x.slots,ss,x.wait,x.limit,x.clock,x.rises,())
def lB(s:cW):Int×Bool:=(s.1,s.2.2.1)
def GS(x:NodeT)(s:cW):Prop:=inB s.1 0 (IntKind.i64.wrap (x.2.1 - 1))=true∧s.1≠x.1∧inB s.2.1 0 100000=true∧inB s.2.2.2.1 0 x.wait=true
theorem hY{v:List cW}{k:Nat}{p:Int}{b:Bool}:cM v k p b=true↔lB (gt v k)=(p,b):=by
 unfold cM lB
 rw[Bool.and_eq_true,beq_iff_eq,E4,Prod.mk.injEq]
theorem DL(v:List cW):(∀ i,i<v.length→u6 v i=true)↔(v.map lB).Nodup:=by
 unfold List.Nodup
 rw[List.pairwise_iff_getElem]
 unfold u6
 simp only[bJ,Bool.not_eq_true',List.length_map,List.getElem_map]
 constructor
 ·intro h i j hi hj hij e
  have:=h j hj i hij
  rw[← Bool.not_eq_true,hY] at this
  apply this
  rw[dY hi,dY hj];exact e
 ·intro h j hj i hij
  rw[← Bool.not_eq_true,hY]
  intro e
  refine h i j (by omega) hj hij ?_
  rw[dY (by omega),dY hj] at e;exact e
theorem bV(x:NodeT):iJ x=true↔((x.sess.length:Nat):Int)≤x.slots∧(∀ s∈x.sess,GS x s)∧(x.sess.map lB).Nodup:=by
 rw[← DL]
 unfold iJ jM
 simp only[Bool.and_eq_true,bJ,Bool.not_eq_true',decide_eq_false_iff_not]
 constructor
 ·rintro ⟨h1,h2⟩
  refine⟨by omega,fun s hs=>?_,fun i hi=>(h2 i hi).2.2.2.2⟩
  obtain⟨i,hi,rfl⟩:=kN hs
  obtain⟨a,b,c,d,_⟩:=h2 i hi
  refine⟨a,?_,c,d⟩
  intro e;rw[e] at b;simp at b
 ·rintro ⟨h1,h2,h3⟩
  refine⟨by omega,fun i hi=>?_⟩
  obtain⟨a,b,c,d⟩:=h2 _ (dD hi)
  exact⟨a,by simpa using b,c,d,h3 i hi⟩
theorem NodeOk.withS{x:NodeT}(h:NodeOk x){ss:List cW}(h1:((ss.length:Nat):Int)≤x.slots)(h2:∀ s∈ss,GS x s)(h3:(ss.map lB).Nodup):NodeOk (withS x ss) where
 n:=h.n
 id:=h.id
 state:=h.state
 tree:=h.tree
 log:=h.log
 got:=h.got
 acked:=h.acked
 own:=h.own
 seen:=h.seen
 ack:=h.ack
 num:=h.num
 clock:=h.clock
 slots:=h.slots
 wait:=h.wait
 limit:=h.limit
 rises:=h.rises
 rise:=h.rise
 sess:=(bV _).2 ⟨h1,h2,h3⟩
theorem sD{x:NodeT}(h:SzN x){ss:List cW}(h1:ss.length≤aS):SzN (withS x ss):=
 ⟨h.state,h.leaves,h.list,h.logs,h.got,h.acked,h.seen,h.lines,h1,h.rises⟩
theorem fY(v:List cW)(p:Int)(b:Bool):(∃ k:Nat,k<v.length∧cE v p b=(k:Int)∧lB (gt v k)=(p,b))∨(cE v p b= -1∧∀ s∈v,lB s≠(p,b)):=by
 unfold cE
 cases hf:(List.range v.length).find? (fun k=>cM v k p b)with
 | none=>
  refine .inr ⟨rfl,fun s hs e=>?_⟩
  obtain⟨i,hi,rfl⟩:=kN hs
  have:=List.find?_eq_none.1 hf i (List.mem_range.2 hi)
  exact this (hY.2 e)
 | some k=>
  refine .inl ⟨k,List.mem_range.1 (List.mem_of_find?_eq_some hf),rfl,?_⟩
  exact hY.1 (show cM v k p b=true from List.find?_some (p:=fun k=>cM v k p b) hf)
def m6(x:NodeT)(m:MsgT)(b:Bool):Int:=bif decide (cE x.sess m.2.1 b≥0)then(bif(gt x.sess (cE x.sess m.2.1 b).toNat).2.1 != m.2.2.2.1 then -1 else cE x.sess m.2.1 b)else cE x.sess m.2.1 b
def oT(x:NodeT)(k:Nat):NodeT:=withS x (x.sess.take k++x.sess.drop (k+1))
theorem EL{x:NodeT}(h:NodeOk x)(k:Nat):NodeOk (oT x k):=by
 have hs:=(bV x).1 h.sess
 have sub:List.Sublist (x.sess.take k++x.sess.drop (k+1)) x.sess:=by rw[← List.eraseIdx_eq_take_drop_succ];exact List.eraseIdx_sublist ..
 refine h.withS ?_ (fun s hm=>hs.2.1 s (sub.subset hm)) ((sub.map lB).nodup hs.2.2)
 have:=sub.length_le;omega
theorem EK{x:NodeT}(h:SzN x)(k:Nat):SzN (oT x k):=sD h (by
 have:=h.sess;rw[List.length_append,List.length_take,List.length_drop];omega)
def lL(x:NodeT)(k:Nat)(num:Int):List cW:=x.sess.set k ((gt x.sess k).1,num,(gt x.sess k).2.2.1,(0:Int),())
def jC(x:NodeT)(m:MsgT):List cW:=x.sess++[(m.2.1,m.2.2.2.1,true,(0:Int),())]
theorem BV{x:NodeT}(h:NodeOk x){k:Nat}(hk:k<x.sess.length){num:Int}(hn:inB num 0 100000=true):NodeOk (withS x (lL x k num)):=by
 have hs:=(bV x).1 h.sess
 refine h.withS (by unfold lL;rw[List.length_set];exact hs.1) (fun s hm=>?_) ?_
 ·rcases List.mem_or_eq_of_mem_set hm with h1 | h1
  ·exact hs.2.1 s h1
  ·have h2:=hs.2.1 _ (dD hk)
   rw[h1]
   refine⟨h2.1,h2.2.1,hn,?_⟩
   have:=h.wait;rw[aQ] at this ⊢;show 0≤(0:Int)∧(0:Int)≤x.wait;omega
 ·unfold lL
  rw[List.map_set,show lB ((gt x.sess k).1,num,(gt x.sess k).2.2.1,(0:Int),())=lB (gt x.sess k)from rfl]
  have:(x.sess.map lB).set k (lB (gt x.sess k))=x.sess.map lB:=by
   rw[← List.map_set,zJ]
  rw[this];exact hs.2.2
theorem AP{x:NodeT}(h:NodeOk x){m:MsgT}(hp:inB m.2.1 0 (IntKind.i64.wrap (x.2.1 - 1))=true)(hi:m.2.1≠x.1)(hn:inB m.2.2.2.1 0 100000=true)(hf:cE x.sess m.2.1 true<0)(hl:((x.sess.length:Nat):Int)≠x.slots):NodeOk (withS x (jC x m)):=by
 have hs:=(bV x).1 h.sess
 refine h.withS (by unfold jC;rw[List.length_append,List.length_singleton];omega) (fun s hm=>?_) ?_
 ·rcases List.mem_append.1 hm with h1 | h1
  ·exact hs.2.1 s h1
  ·rw[List.mem_singleton.1 h1]
   refine⟨hp,hi,hn,?_⟩
   have:=h.wait;rw[aQ] at this ⊢;show 0≤(0:Int)∧(0:Int)≤x.wait;omega
 ·unfold jC
  rw[List.map_append,List.nodup_append]
  refine⟨hs.2.2,by simp,fun a ha b hb=>?_⟩
  obtain⟨s,hs1,rfl⟩:=List.mem_map.1 ha
  have hb:b=(m.2.1,true):=by simpa [lB] using hb
  rw[hb]
  rcases fY x.sess m.2.1 true with ⟨k,_,e,_⟩ | ⟨_,e⟩
  ·rw[e] at hf;omega
  ·exact e s hs1
-- receiving
def C9(o:NodeT)(x:NodeT)(m:MsgT):MsgT:=
 (3,o.1,m.2.1,m.2.2.2.1,bT o.log,o.tree.1,o.tree.2.1,o.got,iQ o.tree m.tree,(yB o (iQ o.tree m.tree) (gt m.vec x.1.toNat).1).1,(yB o (iQ o.tree m.tree) (gt m.vec x.1.toNat).1).2.1,dE o.state,())
def IB(o:NodeT)(x:NodeT)(m:MsgT):MsgT:=
 (4,o.1,m.2.1,m.2.2.2.1,bT o.log,[],0,o.got,m.leaves,(yB o m.leaves (gt m.vec x.1.toNat).1).1,(yB o m.leaves (gt m.vec x.1.toNat).1).2.1,dE o.state,())
abbrev CR:=NodeT×List MsgT×Int
def gQ(x:NodeT)(m:MsgT):List cW:=bif decide (cE x.sess m.2.1 true≥0)then lL x (cE x.sess m.2.1 true).toNat m.2.2.2.1 else jC x m
def G4(x:NodeT)(m:MsgT):NodeT:=eK (withS x (gQ x m)) m
def i7(x:NodeT)(m:MsgT):Bool:= !decide (cE x.sess m.2.1 true≥0)&&((x.sess.length:Nat):Int)==x.slots
def sV(x:NodeT)(m:MsgT):CR:=bif i7 x m then(x,[F8 x 5 m.2.1 m.2.2.2.1],3)else(G4 x m,[C9 (G4 x m) x m],0)
def sY(x:NodeT)(m:MsgT)(k:Nat):CR:=
 bif m.1==5 then(oT x k,[],0)else bif m.1==4 then(fA (oT x k) m,[],0)else(fA (oT x k) m,[IB (fA (oT x k) m) x m],0)
def sX(x:NodeT)(m:MsgT):CR:=
 bif m.1==0 then(fA x m,[F8 (fA x m) 1 m.2.1 m.2.2.2.1],0)else
 bif m.1==1 then(eK x m,[],0)else bif m.1==2 then sV x m else
 bif decide (m6 x m (m.1==4)<0)then(x,[],2)else sY x m (m6 x m (m.1==4)).toNat
def iK(x:NodeT)(m:MsgT):Bool:=dA x&&(jQ m&&(m.2.2.1==x.1&&(!decide (m.2.1≥x.2.1)&&((m.vec.length:Nat):Int)==x.2.1)))
def zQ(x:NodeT)(m:MsgT):CR:=bif iK x m then sX x m else(x,[],1)
structure RecOk (x:NodeT) (m:MsgT):Prop where
 node:NodeOk x
 msg:jQ m=true
 idn:0≤x.1∧x.1<x.2.1∧1≤x.2.1∧x.2.1≤5
 frm:0≤m.2.1∧m.2.1<x.2.1
 ne:m.2.1≠x.1
 vec:((m.vec.length:Nat):Int)=x.2.1
 to:m.2.2.1=x.1
 num:inB m.2.2.2.1 0 100000=true
 hi:0≤m.hi∧m.hi≤100000
 part:aP m.part=true
 marks:dR m.marks=true
 leaves:m.leaves.length≤4
theorem DB{x:NodeT}{m:MsgT}(h:iK x m=true):RecOk x m:=by
 unfold iK at h
 simp only[Bool.and_eq_true,beq_iff_eq,Bool.not_eq_true',decide_eq_false_iff_not] at h
 obtain⟨h1,h2,h3,h4,h5⟩:=h
 have hn:=(cN x).1 h1
 have a1:=hn.n
 have a2:=hn.id
 rw[aQ] at a1 a2
 rw[IntKind.wrap_i64] at a2
 have hm:=h2
 unfold jQ mK dH at hm
 simp only[Bool.and_eq_true,aQ,Bool.not_eq_true',beq_eq_false_iff_ne] at hm
 obtain⟨⟨b1,b2,b3,b4⟩,b5,b6,b7,b8,b9,b10,b11,b12⟩:=hm
 exact⟨hn,h2,by omega,by omega,by rw[← h3];exact b4,h5,h3,aQ.2 b7,b8,b11,b12,z2 h2⟩
theorem RecOk.gone{x:NodeT}{m:MsgT}(h:RecOk x m)(k:Nat):RecOk (oT x k) m:=
 ⟨EL h.node k,h.msg,h.idn,h.frm,h.ne,h.vec,h.to,h.num,h.hi,h.part,h.marks,h.leaves⟩
theorem RecOk.brought{x:NodeT}{m:MsgT}(h:RecOk x m):NodeOk (fA x m):=
 NodeOk.gotUp ((h.node.heard m).take h.part) h.hi.2 (by
  have h1:=h.ne;have h2:=h.idn;have h3:=h.frm
  show m.2.1.toNat≠x.1.toNat
  omega)
theorem RecOk.syn{x:NodeT}{m:MsgT}(h:RecOk x m)(hf:i7 x m=false):RecOk (withS x (gQ x m)) m:=by
 refine⟨?_,h.msg,h.idn,h.frm,h.ne,h.vec,h.to,h.num,h.hi,h.part,h.marks,h.leaves⟩
 unfold gQ
 unfold i7 at hf
 by_cases hc:cE x.sess m.2.1 true≥0
 ·rw[decide_eq_true hc]
  rcases fY x.sess m.2.1 true with ⟨k,hk,e,_⟩ | ⟨e,_⟩
  ·show NodeOk (withS x (lL x (cE x.sess m.2.1 true).toNat m.2.2.2.1))
   rw[e];exact BV h.node hk h.num
  ·omega
 ·rw[decide_eq_false hc] at hf ⊢
  refine AP h.node ?_ h.ne h.num (by omega) (by intro e;rw[e] at hf;simp at hf)
  have h2:=h.idn;have h3:=h.frm
  rw[aQ,IntKind.wrap_i64];omega
theorem xJ{x:NodeT}(h:NodeOk x)(m:MsgT):(gQ x m).length≤aS:=by
 have h1:=((bV x).1 h.sess).1
 have h2:=h.slots;rw[aQ] at h2
 unfold gQ lL jC aS
 cases decide (cE x.sess m.2.1 true≥0)with
 | true=>show(List.set _ _ _).length≤_;rw[List.length_set];omega
 | false=>show(x.sess++[_]).length≤_;rw[List.length_append,List.length_singleton];omega
theorem FS{x:NodeT}{m:MsgT}(h:iK x m=false):zQ x m=(x,[],1):=by unfold zQ;rw[h];rfl
theorem xT{x:NodeT}{m:MsgT}(h:iK x m=true):zQ x m=sX x m:=by unfold zQ;rw[h];rfl
-- an exchange taken out, as the code does it
def uP(x:NodeT)(k:Int):List cW:=([]++((x.sess.take (k.toNat)).drop 0))++((x.sess.take x.sess.length).drop ((IntKind.i64.wrap (k+1))).toNat)
theorem FT{x:NodeT}{k:Nat}(hk:k<x.sess.length)(hl:x.sess.length≤aS):uP x (k:Int)=x.sess.take k++x.sess.drop (k+1):=by
 unfold uP
 rw[aL (Nat.lt_of_lt_of_le hk (Nat.le_trans hl (by decide))),List.take_length,Int.toNat_natCast,Int.toNat_natCast];rfl
theorem DC{x:NodeT}{k:Nat}(hk:k<x.sess.length)(hl:x.sess.length≤aS):withS x (uP x (k:Int))=oT x k:=by rw[FT hk hl];rfl
theorem t7{α β:Type}{ss:List α}{k:Nat}{F Z:β}(hk:k<ss.length)(hl:ss.length≤aS):
  (bif decide (0≤(k:Int))&&decide ((k:Int)≤((ss.length:Nat):Int))then(bif decide (List.length ([]:List α)+List.length ((ss.take ((k:Int).toNat)).drop 0)≤bound)then
   (bif decide (0≤IntKind.i64.wrap ((k:Int)+1))&&decide (IntKind.i64.wrap ((k:Int)+1)≤((ss.length:Nat):Int))then
    (bif decide (List.length ([]++((ss.take ((k:Int).toNat)).drop 0))+List.length ((ss.take ss.length).drop ((IntKind.i64.wrap ((k:Int)+1))).toNat)≤bound)then F else Z)else Z)else Z)else Z)=F:=by
 have hb:aS≤bound:=by decide
 rw[aL (Nat.lt_of_lt_of_le hk (Nat.le_trans hl (by decide)))]
 refine(l5 (Int.natCast_nonneg _) (by omega)).trans ?_
 refine(aE (by rw[List.drop_zero,List.length_take];simp;omega)).trans ?_
 refine(l5 (Int.natCast_nonneg _) (by omega)).trans ?_
 exact aE (by rw[List.nil_append,List.drop_zero,List.length_take,List.length_drop,List.length_take,Int.toNat_natCast,Int.toNat_natCast];omega)
end Go.Abs
-- exchanges begun and gone through: plain laws
namespace Go.Abs
def gB(x:NodeT)(to:Int):Bool:=dA x&&(lO x to&&(!decide (cE x.sess to false≥0)&&(!(((x.sess.length:Nat):Int)==x.slots)&& !(x.num==100000))))
def bK(x:NodeT)(to:Int):NodeT:=
 (x.1,x.2.1,x.2.2.1,x.2.2.2.1,x.2.2.2.2.1,x.2.2.2.2.2.1,x.2.2.2.2.2.2.1,x.2.2.2.2.2.2.2.1,x.2.2.2.2.2.2.2.2.1,x.got,x.acked,x.seen,IntKind.i64.wrap (x.num+1),x.slots,x.sess++[(to,IntKind.i64.wrap (x.num+1),false,(0:Int),())],x.wait,x.limit,x.clock,x.rises,())
def BL(x:NodeT)(to:Int):MsgT:=(2,x.1,to,IntKind.i64.wrap (x.num+1),bT x.log,x.tree.1,x.tree.2.1,x.got,[],[],[],dE x.state,())
def DV:MsgT:=((0:Int),(0:Int),(0:Int),(0:Int),(0:Int),[],(0:Int),[],[],[],[],[],())
abbrev II:=NodeT×MsgT×Bool
def kB(x:NodeT)(to:Int):II:=bif gB x to then(bK x to,BL x to,true)else(x,DV,false)
structure SynOk (x:NodeT) (to:Int):Prop where
 node:NodeOk x
 peer:0≤to∧to<x.2.1∧to≠x.1
 slot:cE x.sess to false<0
 room:((x.sess.length:Nat):Int)<x.slots
 num:0≤x.num∧x.num<100000
 nn:1≤x.2.1∧x.2.1≤5
theorem iI{x:NodeT}{to:Int}(h:gB x to=true):SynOk x to:=by
 unfold gB lO at h
 simp only[Bool.and_eq_true,Bool.not_eq_true',decide_eq_false_iff_not,beq_eq_false_iff_ne,bne_iff_ne,aQ] at h
 obtain⟨h1,⟨h2,h3⟩,h4,h5,h6⟩:=h
 have hn:=(cN x).1 h1
 have h7:=hn.n;have h8:=hn.num
 have h9:=((bV x).1 hn.sess).1
 rw[aQ] at h7 h8
 rw[IntKind.wrap_i64] at h2
 exact⟨hn,by omega,by omega,by omega,by omega,by omega⟩
theorem tB{n:Int}(h:0≤n∧n<100000):IntKind.i64.wrap (n+1)=n+1:=by rw[IntKind.wrap_i64];omega
theorem SynOk.up{x:NodeT}{to:Int}(h:SynOk x to):NodeOk (bK x to) where
 n:=h.node.n
 id:=h.node.id
 state:=h.node.state
 tree:=h.node.tree
 log:=h.node.log
 got:=h.node.got
 acked:=h.node.acked
 own:=h.node.own
 seen:=h.node.seen
 ack:=h.node.ack
 num:=by show inB (IntKind.i64.wrap (x.num+1)) 0 100000=true;rw[tB h.num,aQ];have:=h.num;omega
 clock:=h.node.clock
 slots:=h.node.slots
 wait:=h.node.wait
 limit:=h.node.limit
 rises:=h.node.rises
 rise:=h.node.rise
 sess:=by
  have hs:=(bV x).1 h.node.sess
  refine(bV _).2 ⟨?_,fun s hm=>?_,?_⟩
  ·show(((x.sess++[_]).length:Nat):Int)≤x.slots
   rw[List.length_append,List.length_singleton];have:=h.room;omega
  ·have hm:s∈x.sess++[(to,IntKind.i64.wrap (x.num+1),false,(0:Int),())]:=hm
   rcases List.mem_append.1 hm with h1 | h1
   ·exact hs.2.1 s h1
   ·rw[List.mem_singleton.1 h1]
    have h2:=h.peer;have h3:=h.num;have h4:=h.node.wait;have h5:=h.nn
    rw[aQ] at h4
    refine⟨?_,h2.2.2,?_,?_⟩
    ·show inB to 0 (IntKind.i64.wrap (x.2.1 - 1))=true
     rw[aQ,IntKind.wrap_i64];omega
    ·show inB (IntKind.i64.wrap (x.num+1)) 0 100000=true
     rw[tB h.num,aQ];omega
    ·show inB 0 0 x.wait=true
     rw[aQ];omega
  ·show(List.map lB (x.sess++[(to,IntKind.i64.wrap (x.num+1),false,(0:Int),())])).Nodup
   rw[List.map_append,List.nodup_append]
   refine⟨hs.2.2,by simp,fun a ha b hb=>?_⟩
   obtain⟨s,hs1,rfl⟩:=List.mem_map.1 ha
   have hb:b=(to,false):=by simpa [lB] using hb
   rw[hb]
   rcases fY x.sess to false with ⟨k,_,e,_⟩ | ⟨_,e⟩
   ·have:=h.slot;rw[e] at this;omega
   ·exact e s hs1
theorem lF{x:NodeT}{to:Int}(hz:SzN x)(h:SynOk x to):SzN (bK x to):=
 ⟨hz.state,hz.leaves,hz.list,hz.logs,hz.got,hz.acked,hz.seen,hz.lines,by
  have h1:=h.room;have h2:=h.node.slots;rw[aQ] at h2
  show(x.sess++[_]).length≤aS
  rw[List.length_append,List.length_singleton];unfold aS;omega,hz.rises⟩
theorem FL{x:NodeT}(hz:SzN x)(to:Int):SzM (BL x to):=⟨hz.leaves,hz.got,Nat.zero_le _,oK,Nat.le_trans (gY _) (by decide)⟩
theorem F9:SzM DV:=⟨Nat.zero_le _,Nat.zero_le _,Nat.zero_le _,oK,Nat.zero_le _⟩
theorem FJ{x:NodeT}(hz:SzN x)(to:Int):SzN (kB x to).1∧SzM (kB x to).2.1:=by
 unfold kB
 cases h:gB x to with
 | false=>exact⟨hz,F9⟩
 | true=>exact⟨lF hz (iI h),FL hz to⟩
theorem nW{x:NodeT}{to:Int}(h:gB x to=true):kB x to=(bK x to,BL x to,true):=by unfold kB;rw[h];rfl
theorem wF{x:NodeT}{to:Int}(h:gB x to=false):kB x to=(x,DV,false):=by unfold kB;rw[h];rfl
-- who answers whom
structure RecTo (x:NodeT) (m:MsgT) (r:CR):Prop where
 id:r.1.1=x.1
 to:∀ q∈r.2.1,q.2.2.1=m.2.1∧q.2.1=x.1
-- an exchange gone through
end Go.Abs
-- saying: plain laws
namespace Go.Abs
abbrev E8:=aK×Int
def tA(id:Int)(e:bS):aK:=bif aP ([(id,e)],[],())then([(id,e)],[],())else iA
theorem oJ(id:Int)(e:bS):aP (tA id e)=true:=by
 unfold tA
 cases h:aP ([(id,e)],[],())with
 | true=>exact h
 | false=>rfl
def upE(s:aK)(id:Int):bS×Int:=bif aP s then(bif dH id then(bif(kO s id).2 then((kO s id).1,0)else(c5,3))else(c5,1))else(c5,1)
def oP(s:aK)(id:Int):Int:=mxI true (a9 s id).1.1 (cC s.2.1 id)
def mF(s:aK)(id:Int):E8:=bif aP s then(bif dH id then(bif(kO s id).2 then(iA,2)else bif oP s id==1000 then(iA,4)else(tA id (IntKind.i64.wrap (oP s id+1),0,0,0,⟨#[]⟩,()),0))else(iA,1))else(iA,1)
def mH(s:aK)(id:Int):E8:=bif(upE s id).2 != 0 then(iA,(upE s id).2)else bif(upE s id).1.2.2.1==100000 then(iA,4)else
 (tA id ((upE s id).1.1,(upE s id).1.2.1,IntKind.i64.wrap ((upE s id).1.2.2.1+1),(upE s id).1.2.2.2.1,(upE s id).1.2.2.2.2.1,()),0)
def pI(s:aK)(id:Int)(t:ByteArray):E8:=bif(upE s id).2 != 0 then(iA,(upE s id).2)else bif(upE s id).1.2.2.2.1==1000 then(iA,4)else bif decide (((ByteArray.size t:Nat):Int)>8)then(iA,4)else
 (tA id ((upE s id).1.1,(upE s id).1.2.1,(upE s id).1.2.2.1,IntKind.i64.wrap ((upE s id).1.2.2.2.1+1),t,()),0)
def mG(s:aK)(id:Int):E8:=bif(upE s id).2 != 0 then(iA,(upE s id).2)else(tA id ((upE s id).1.1,1,(upE s id).1.2.2.1,(upE s id).1.2.2.2.1,(upE s id).1.2.2.2.2.1,()),0)
def eN(s:aK)(k id:Int)(t:ByteArray):E8:=bif k==0 then mF s id else bif k==1 then mH s id else bif k==2 then pI s id t else mG s id
theorem zM(s:aK)(id:Int):aP (mF s id).1=true:=by
 unfold mF
 cases aP s<;>cases dH id<;>cases (kO s id).2<;>cases oP s id==1000<;>first | rfl | exact oJ _ _
theorem zO(s:aK)(id:Int):aP (mH s id).1=true:=by
 unfold mH
 cases (upE s id).2 != 0<;>cases (upE s id).1.2.2.1==100000<;>first | rfl | exact oJ _ _
theorem BR(s:aK)(id:Int)(t:ByteArray):aP (pI s id t).1=true:=by
 unfold pI
 cases (upE s id).2 != 0<;>cases (upE s id).1.2.2.2.1==1000<;>cases decide (((ByteArray.size t:Nat):Int)>8)<;>first | rfl | exact oJ _ _
theorem zN(s:aK)(id:Int):aP (mG s id).1=true:=by
 unfold mG
 cases (upE s id).2 != 0<;>first | rfl | exact oJ _ _
theorem xP(s:aK)(k id:Int)(t:ByteArray):aP (eN s k id t).1=true:=by
 unfold eN
 cases k==0
 ·cases k==1
  ·cases k==2
   ·exact zN s id
   ·exact BR s id t
  ·exact zO s id
 ·exact zM s id
-- logs
def kZ(l:eG)(d:aK):Bool:=fH l&&(aP d&& !(IntKind.i64.wrap (l.2.1+((l.2.2.1.length:Nat):Int))==100000))
def eJ(l:eG)(d:aK):eG:=bif decide ((((l.2.2.1++[d]).length:Nat):Int)>l.1)then(l.1,IntKind.i64.wrap (l.2.1+1),(l.2.2.1++[d]).drop 1,())else(l.1,l.2.1,l.2.2.1++[d],())
def nD(l:eG)(d:aK):eG×Bool:=bif kZ l d then(eJ l d,true)else(l,false)
structure LogOk (l:eG):Prop where
 cap:1≤l.1∧l.1≤8
 len:((l.2.2.1.length:Nat):Int)≤l.1
 frm:0≤l.2.1∧l.2.1≤100000
 top:l.2.1+((l.2.2.1.length:Nat):Int)≤100000
 all:∀ s∈l.2.2.1,aP s=true
theorem jS(l:eG):fH l=true↔LogOk l:=by
 unfold fH
 simp only[Bool.and_eq_true,aQ,Bool.not_eq_true',decide_eq_false_iff_not,bJ]
 constructor
 ·rintro ⟨h1,h2,h3,h4,h5⟩
  rw[IntKind.wrap_i64] at h4
  refine⟨h1,by omega,h3,by omega,fun s hs=>?_⟩
  obtain⟨i,hi,rfl⟩:=kN hs
  exact h5 i hi
 ·rintro ⟨h1,h2,h3,h4,h5⟩
  rw[IntKind.wrap_i64]
  exact⟨h1,by omega,h3,by omega,fun i hi=>h5 _ (dD hi)⟩
theorem mL{l:eG}(h:LogOk l):bT l=l.2.1+((l.2.2.1.length:Nat):Int):=by
 have h1:=h.frm;have h2:=h.top
 unfold bT;rw[(jS l).2 h];show IntKind.i64.wrap _=_;rw[IntKind.wrap_i64];omega
theorem B8{l:eG}{d:aK}(h:LogOk l)(hd:aP d=true)(hn:l.2.1+((l.2.2.1.length:Nat):Int)<100000):LogOk (eJ l d)∧bT (eJ l d)=bT l+1:=by
 have h1:=h.cap;have h2:=h.len;have h3:=h.frm
 have hl:(l.2.2.1++[d]).length=l.2.2.1.length+1:=by rw[List.length_append,List.length_singleton]
 have ha:∀ s∈l.2.2.1++[d],aP s=true:=fun s hs=>by
  rcases List.mem_append.1 hs with hs | hs
  ·exact h.all s hs
  ·rw[List.mem_singleton.1 hs];exact hd
 have key:LogOk (eJ l d)∧(eJ l d).2.1+(((eJ l d).2.2.1.length:Nat):Int)=l.2.1+((l.2.2.1.length:Nat):Int)+1:=by
  unfold eJ
  by_cases hc:(((l.2.2.1++[d]).length:Nat):Int)>l.1
  ·rw[decide_eq_true hc]
   have hw:IntKind.i64.wrap (l.2.1+1)=l.2.1+1:=by rw[IntKind.wrap_i64];omega
   have hdl:((l.2.2.1++[d]).drop 1).length=l.2.2.1.length:=by rw[List.length_drop,hl];omega
   refine⟨⟨h1,?_,?_,?_,fun s hs=>ha s (List.mem_of_mem_drop hs)⟩,?_⟩
   ·show((((l.2.2.1++[d]).drop 1).length:Nat):Int)≤l.1;rw[hdl];exact h2
   ·show 0≤IntKind.i64.wrap (l.2.1+1)∧IntKind.i64.wrap (l.2.1+1)≤100000;rw[hw];omega
   ·show IntKind.i64.wrap (l.2.1+1)+((((l.2.2.1++[d]).drop 1).length:Nat):Int)≤100000;rw[hw,hdl];omega
   ·show IntKind.i64.wrap (l.2.1+1)+((((l.2.2.1++[d]).drop 1).length:Nat):Int)=_;rw[hw,hdl];omega
  ·rw[decide_eq_false hc]
   rw[hl] at hc
   refine⟨⟨h1,?_,h3,?_,ha⟩,?_⟩
   ·show(((l.2.2.1++[d]).length:Nat):Int)≤l.1;rw[hl];omega
   ·show l.2.1+(((l.2.2.1++[d]).length:Nat):Int)≤100000;rw[hl];omega
   ·show l.2.1+(((l.2.2.1++[d]).length:Nat):Int)=_;rw[hl];omega
 exact⟨key.1,by rw[mL key.1,mL h];exact key.2⟩
-- a node says
def pJ(x:NodeT)(k id:Int):Bool:=dA x&&(inB k 0 4&&(inB id 0 (IntKind.i64.wrap (x.2.1 - 1))&& !(l7 (k==4) (id==x.1))))
def AU(x:NodeT)(d:aK):NodeT:=
 (x.1,x.2.1,x.2.2.1,x.2.2.2.1,x.2.2.2.2.1,x.2.2.2.2.2.1,(eJ x.log d).1,(eJ x.log d).2.1,(eJ x.log d).2.2.1,x.got.set x.1.toNat (IntKind.i64.wrap ((gt x.got x.1.toNat).1+1),()),x.acked,x.seen,x.num,x.slots,x.sess,x.wait,x.limit,x.clock,x.rises,())
abbrev GU:=NodeT×aK×Int
def n4(x:NodeT)(k id:Int)(t:ByteArray):GU:=
 bif pJ x k id then(bif(eN x.state k id t).2 != 0 then(x,iA,(eN x.state k id t).2)else bif kZ x.log (eN x.state k id t).1 then(lD (AU x (eN x.state k id t).1) (eN x.state k id t).1,(eN x.state k id t).1,0)else(x,iA,4))else(x,iA,1)
theorem sO{x:NodeT}{d:aK}(h:NodeOk x)(hd:kZ x.log d=true):NodeOk (AU x d):=by
 unfold kZ at hd
 simp only[Bool.and_eq_true,Bool.not_eq_true',beq_eq_false_iff_ne] at hd
 have hL:=(jS x.log).1 h.log
 have h1:=hL.frm;have h2:=hL.top;have h3:=hL.len;have h4:=hL.cap
 have hw:IntKind.i64.wrap (x.log.2.1+((x.log.2.2.1.length:Nat):Int))=x.log.2.1+((x.log.2.2.1.length:Nat):Int):=by rw[IntKind.wrap_i64];omega
 rw[hw] at hd
 obtain⟨p1,p2⟩:=B8 hL hd.2.1 (by have:=hd.2.2;omega)
 have hs:bT x.log<100000∧0≤bT x.log:=by rw[mL hL];have:=hd.2.2;omega
 have hg:(gt x.got x.1.toNat).1=bT x.log:=eq_of_beq h.own
 have hwg:IntKind.i64.wrap ((gt x.got x.1.toNat).1+1)=bT x.log+1:=by rw[hg,IntKind.wrap_i64];omega
 have hid:=h.id;have hn:=h.n;have hv:=h.got
 rw[aQ] at hid hn
 rw[IntKind.wrap_i64] at hid
 unfold dG at hv
 simp only[Bool.and_eq_true,beq_iff_eq] at hv
 have hk:x.1.toNat<x.got.length:=by omega
 exact {
  n:=h.n,id:=h.id,state:=h.state,tree:=h.tree
  log:=(jS _).2 p1
  got:=by
   show dG (x.got.set x.1.toNat _) x.2.1=true
   unfold dG
   simp only[Bool.and_eq_true,beq_iff_eq]
   rw[List.length_set]
   refine⟨hv.1,hv.2.1,?_⟩
   have h5:=bJ.1 hv.2.2
   rw[bJ]
   intro i hi
   by_cases e:x.1.toNat=i
   ·rw[← e,cQ hk];show inB (IntKind.i64.wrap _) 0 100000=true;rw[hwg,aQ];omega
   ·rw[fD e];exact h5 i hi
  acked:=h.acked
  own:=by
   show((gt (x.got.set x.1.toNat (IntKind.i64.wrap ((gt x.got x.1.toNat).1+1),())) x.1.toNat).1==bT (eJ x.log d))=true
   rw[cQ hk,p2,beq_iff_eq];exact hwg
  seen:=h.seen
  ack:=by
   have h6:=h.ack
   unfold uI at h6 ⊢
   rw[bJ] at h6 ⊢
   intro i hi
   have h7:=h6 i hi
   show(!decide ((gt x.acked i).1>bT (eJ x.log d)))=true
   rw[p2]
   simp only[Bool.not_eq_true',decide_eq_false_iff_not] at h7 ⊢
   omega
  num:=h.num,clock:=h.clock,slots:=h.slots,wait:=h.wait,limit:=h.limit,rises:=h.rises,rise:=h.rise,sess:=h.sess }
theorem zY(l:eG)(d:aK):(eJ l d).2.2.1.length≤l.2.2.1.length+1:=by
 unfold eJ
 cases decide ((((l.2.2.1++[d]).length:Nat):Int)>l.1)with
 | true=>show((l.2.2.1++[d]).drop 1).length≤_;rw[List.length_drop,List.length_append,List.length_singleton];omega
 | false=>show(l.2.2.1++[d]).length≤_;rw[List.length_append,List.length_singleton];exact Nat.le_refl _
theorem xQ{x:NodeT}{d:aK}(hz:SzN x)(h:NodeOk x)(hd:kZ x.log d=true):SzN (AU x d):=by
 have ho:=(jS _).1 (sO h hd).log
 have h1:=ho.cap;have h2:=ho.len
 refine⟨hz.state,hz.leaves,?_,fun i hi=>?_,?_,hz.acked,hz.seen,hz.lines,hz.sess,hz.rises⟩
 ·unfold aS;omega
 ·have:=((bF _).1 (ho.all _ (dD hi))).len
  exact⟨by unfold aS;omega,by unfold aS;omega⟩
 ·show(x.got.set _ _).length≤aS;rw[List.length_set];exact hz.got
theorem FQ{x:NodeT}(h:NodeOk x)(k id:Int)(t:ByteArray):NodeOk (n4 x k id t).1:=by
 unfold n4
 cases pJ x k id with
 | false=>exact h
 | true=>
  cases (eN x.state k id t).2 != 0 with
  | true=>exact h
  | false=>
   cases hb:kZ x.log (eN x.state k id t).1 with
   | false=>exact h
   | true=>exact(sO h hb).take (xP _ _ _ _)
theorem FP{x:NodeT}(hz:SzN x)(k id:Int)(t:ByteArray):SzN (n4 x k id t).1:=by
 unfold n4
 cases hs:pJ x k id with
 | false=>exact hz
 | true=>
  have h:NodeOk x:=(cN x).1 (by unfold pJ at hs;simp only[Bool.and_eq_true] at hs;exact hs.1)
  cases (eN x.state k id t).2 != 0 with
  | true=>exact hz
  | false=>
   cases hb:kZ x.log (eN x.state k id t).1 with
   | false=>exact hz
   | true=>exact iH (xQ hz h hb) _
end Go.Abs
/- Plain laws: worlds compared. -/
namespace Go.Abs
def fI{α:Type}(a b:List α):Bool:=((a.length:Nat):Int)==((b.length:Nat):Int)
theorem mM{α:Type}{a b:List α}:fI a b=true↔a.length=b.length:=by unfold fI;rw[beq_iff_eq];omega
def lH{α:Type}[Inhabited α](f:α→α→Bool)(a b:List α):Bool:=fI a b&&bH a.length fun i=>f (gt a i) (gt b i)
def pN(a b:cD):Bool:=eS a.1 b.1
def lZ(x y:cW):Bool:=eD x.1 y.1&&(eD x.2.1 y.2.1&&(l7 x.2.2.1 y.2.2.1&&(eD x.2.2.2.1 y.2.2.2.1&&true)))
def jI(x y:j8):Bool:=eD x.1 y.1&&(eD x.2.1 y.2.1&&(eD x.2.2.1 y.2.2.1&&true))
def wB(a b:iV):Bool:=eS a.1 b.1&&a.2.1==b.2.1
def tM(a b:eG):Bool:=a.1==b.1&&(a.2.1==b.2.1&&lH dJ a.2.2.1 b.2.2.1)
def tF(a b:NodeT):Bool:=a.1==b.1&&(a.2.1==b.2.1&&(a.num==b.num&&(a.slots==b.slots&&(a.wait==b.wait&&(a.limit==b.limit&&(a.clock==b.clock&&(lH pN a.seen b.seen&&(dJ a.state b.state&&(wB a.tree b.tree&&(tM a.log b.log&&(eS a.got b.got&&(eS a.acked b.acked&&(lH lZ a.sess b.sess&&lH jI a.rises b.rises)))))))))))))
def rU(a b:NodeT):Bool:=a.1==b.1&&(a.2.1==b.2.1&&(dJ a.state b.state&&(wB a.tree b.tree&&(tM a.log b.log&&(eS a.got b.got&&(eS a.acked b.acked&&(fI a.seen b.seen&&(a.num==b.num&&(a.slots==b.slots&&(a.wait==b.wait&&(a.limit==b.limit&&(a.clock==b.clock&&(fI a.sess b.sess&&(fI a.rises b.rises&&
 (bH a.seen.length (fun i=>pN (gt a.seen i) (gt b.seen i))&&(bH a.sess.length (fun i=>lZ (gt a.sess i) (gt b.sess i))&&bH a.rises.length fun i=>jI (gt a.rises i) (gt b.rises i)))))))))))))))))
theorem DP(a b:NodeT):rU a b=tF a b:=by
 unfold rU tF lH;ac_rfl
end Go.Abs
