/- A by-value reading of the model, and its soundness, part 3. -/
import Derived.Test.YtmamlgjbendjhaaGreatW2
set_option linter.unusedVariables false
/- Plain laws: joins, what was said, what lies beneath, what is over. -/
open Go.IntKind (i64)
namespace Go.Abs
theorem v6(a b:Int):l2 b a= - l2 a b:=by
 unfold l2
 rcases Int.lt_trichotomy a b with h | h | h
 ·rw[decide_eq_true h,decide_eq_false (by omega:¬ b<a)];rfl
 ·subst h;rw[decide_eq_false (by omega:¬ a<a)];rfl
 ·rw[decide_eq_true h,decide_eq_false (by omega:¬ a<b)];rfl
theorem sR:∀ x y:List UInt8,Lib.compareBytes y x= - Lib.compareBytes x y
 | [],[]=>rfl
 | [],_::_=>rfl
 | _::_,[]=>rfl
 | a::x,b::y=>by
  unfold Lib.compareBytes
  by_cases h1:a<b
  ·have h2:¬ b<a:=fun h=>by rw[UInt8.lt_iff_toNat_lt] at h h1;omega
   simp[h1,h2]
  ·by_cases h2:b<a
   ·simp[h1,h2]
   ·simp[h1,h2,sR x y]
theorem rE(x y:Int):(if -x≠0 then -x else -y)= -(if x≠0 then x else y):=by
 by_cases h:x=0
 ·subst h;simp
 ·rw[if_pos h,if_pos (by omega)]
theorem nX(a b:bE):fU b a= - fU a b:=by
 unfold fU
 rw[v6 a.1 b.1,v6 a.2.1 b.2.1,v6 a.2.2.1 b.2.2.1,v6 a.2.2.2.1 b.2.2.2.1,show rN b.2.2.2.2.1 a.2.2.2.2.1= - rN a.2.2.2.2.1 b.2.2.2.2.1 from sR _ _,rE,rE,rE,rE]
theorem sO{y:bE}(h:1≤y.1):fU cS y= -1:=by
 have e:l2 cS.1 y.1= -1:=by
  unfold l2;rw[decide_eq_true (show cS.1<y.1 from by show(0:Int)<y.1;omega)];rfl
 unfold fU;rw[e];rfl
def orZ(z:Int)(ls:List aX):Int:=match (List.range ls.length).find? (fun i=>(gt ls i).1 != 0)with
 | some i=>(gt ls i).1
 | none=>z
theorem A5(z:Int)(ls:List aX):orZ z ls=(match ls.find? (fun x:aX=>x.1 != 0)with | some x=>x.1 | none=>z):=by
 have h:=mL (fun x:aX=>x.1 != 0) (fun x:aX=>x.1) z ls
 unfold orZ
 cases h1:(List.range ls.length).find? (fun i=>(gt ls i).1 != 0)<;>cases h2:ls.find? (fun x:aX=>x.1 != 0)<;>simp only[h1,h2] at h ⊢<;>exact h
theorem qW(z x:Int)(ls:List aX):orZ z ((x,())::ls)=if x≠0 then x else orZ z ls:=by
 rw[A5,A5,List.find?_cons]
 by_cases h:x=0
 ·subst h;rfl
 ·have:((x,()):aX).1 != 0:=by simpa using h
  rw[this,if_pos h]
def BV(a b:bE):List aX:=[(l2 a.1 b.1,()),(l2 a.2.1 b.2.1,()),(l2 a.2.2.1 b.2.2.1,()),(l2 a.2.2.2.1 b.2.2.2.1,())]
theorem H6(a b:bE):orZ (rN a.2.2.2.2.1 b.2.2.2.2.1) (BV a b)=fU a b:=by
 unfold BV fU
 rw[qW,qW,qW,qW];rfl
theorem GZ(x y:ByteArray):(bif Op.bytesLess (ByteArray.toList x) (ByteArray.toList y)then(-1:Int)else G3 (!(Op.bytesLess (ByteArray.toList x) (ByteArray.toList y)||ByteArray.toList x==ByteArray.toList y)))=rN x y:=by
 rw[ByteArray.toList_eq,ByteArray.toList_eq];exact yP _ _
/-- The cells of a state that a join leans on. -/
structure Pos (s:aH):Prop where
 item:∀ x∈s.1,1≤x.2.1
 floor:∀ f∈s.2.1,0≤f.2.1
theorem StateOk.pos{s:aH}(h:StateOk s):Pos s where
 item x hx:=by
  have:=(h.item x hx).2.1
  unfold dR at this;simp only[Bool.and_eq_true,aS] at this;omega
 floor f hf:=by have:=(h.floor f hf).2;rw[aS] at this;omega
theorem LG:Pos ([],[],()):=⟨fun x hx=>(List.not_mem_nil hx).elim,fun x hx=>(List.not_mem_nil hx).elim⟩
def mxE(a b:bE):bE:=bif decide (fU a b<0)then b else a
def dT(a b:aH)(i:Int):bE:=mxE (bC a i).1 (bC b i).1
def flr(a b:aH)(i:Int):Int:=mxI true (cI a.2.1 i) (cI b.2.1 i)
def cW(a b:aH)(i:Nat):List bM:=bif decide ((dT a b i).1>flr a b i)then[((i:Int),dT a b i)] else[]
def cO(a b:aH)(i:Nat):List aR:=bif decide (flr a b i>0)then[((i:Int),flr a b i,())] else[]
def cJ(a b:aH):aH:=(bH 5 (cW a b),bH 5 (cO a b),())
theorem oS(a b:aH)(i:Nat):(cW a b i).length≤1:=by unfold cW;cases decide ((dT a b i).1>flr a b i)<;>simp
theorem mH(a b:aH)(i:Nat):(cO a b i).length≤1:=by unfold cO;cases decide (flr a b i>0)<;>simp
theorem jW(a b:aH):(cJ a b).1.length≤5∧(cJ a b).2.1.length≤5:=
 ⟨cZ (n:=5) (L:=1) fun i _=>oS a b i,cZ (n:=5) (L:=1) fun i _=>mH a b i⟩
theorem jI(a b:aH):SzS (cJ a b):=⟨Nat.le_trans (jW a b).1 (by decide),Nat.le_trans (jW a b).2 (by decide)⟩
theorem JL{a b:aH}(ha:Pos a)(i:Int):0≤flr a b i:=by
 have h:0≤cI a.2.1 i:=by
  rcases eA a i with ⟨x,hx,_,e⟩ | ⟨_,e⟩
  ·rw[e];exact ha.floor x hx
  ·omega
 unfold flr mxI;simp only[if_true];split<;>omega
theorem IK:mxE cS cS=cS:=by
 unfold mxE;cases decide (fU cS cS<0)<;>rfl
theorem LH{a b:aH}{i:Int}(ha:bC a i=(cS,false))(hb:bC b i=(cS,false)):dT a b i=cS:=by
 unfold dT;rw[ha,hb];exact IK
theorem uH{a b:aH}{i:Int}{y:bE}(ha:bC a i=(cS,false))(hb:bC b i=(y,true))(hy:1≤y.1):dT a b i=y:=by
 unfold dT mxE;rw[ha,hb];rw[show fU (cS,false).1 (y,true).1= -1 from sO hy];rfl
theorem uG{a b:aH}{i:Int}{x:bE}(ha:bC a i=(x,true))(hb:bC b i=(cS,false))(hx:1≤x.1):dT a b i=x:=by
 unfold dT mxE;rw[ha,hb];rw[show fU (x,true).1 (cS,false).1=1 from by rw[show fU (x,true).1 (cS,false).1= - fU cS x from nX cS x,sO hx];rfl];rfl
theorem EI{a b:aH}{i:Int}{x y:bE}(ha:bC a i=(x,true))(hb:bC b i=(y,true)):dT a b i=bif decide (fU y x>0)then y else x:=by
 unfold dT mxE;rw[ha,hb]
 show(bif decide (fU x y<0)then y else x)=_
 rw[show decide (fU x y<0)=decide (fU y x>0)from ?_]
 rw[nX x y]
 by_cases h:fU x y<0
 ·rw[decide_eq_true h,decide_eq_true (by omega)]
 ·rw[decide_eq_false h,decide_eq_false (by omega)]
theorem fQ{a b:aH}{i:Nat}{e:bE}(he:dT a b i=e)(h:e.1>flr a b i):cW a b i=[((i:Int),e)]:=by
 unfold cW;rw[he,decide_eq_true h];rfl
theorem fR{a b:aH}{i:Nat}{e:bE}(he:dT a b i=e)(h:¬ e.1>flr a b i):cW a b i=[]:=by
 unfold cW;rw[he,decide_eq_false h];rfl
theorem mF{a b:aH}{i:Nat}(h:flr a b i>0):cO a b i=[((i:Int),flr a b i,())]:=by
 unfold cO;rw[decide_eq_true h];rfl
theorem pO{a b:aH}{i:Nat}(h:¬ flr a b i>0):cO a b i=[]:=by
 unfold cO;rw[decide_eq_false h];rfl
theorem lM{s:aH}(hs:Pos s)(i:Int):(∃ x:bE,1≤x.1∧bC s i=(x,true))∨bC s i=(cS,false):=by
 rcases eB s i with ⟨x,hx,_,e⟩ | ⟨_,e⟩
 ·exact .inl ⟨x.2,hs.item x hx,e⟩
 ·exact .inr e
-- less
def C9(a b:aH):Bool:=aO a&&(aO b&&dJ (cJ a b) b)
-- over
def gone(s:aH)(id:Int):Int:=bif aO s then(bif(bC s id).2 then(bif(bC s id).1.2.1==0 then i64.wrap ((bC s id).1.1 - 1)else(bC s id).1.1)else cI s.2.1 id)else 0
-- what was said
def iA:aH:=([],[],())
def I7(g:Nat→aH):Nat→aH
 | 0=>iA
 | k+1=>cJ (I7 g k) (g k)
theorem oK:SzS iA:=⟨Nat.zero_le _,Nat.zero_le _⟩
def CX(w:gX)(i:Nat):aH:=(gt w.2.2.1 i).2
def N5(w:gX):aH:=bif p6 w then I7 (CX w) w.2.2.1.length else iA
def IR(w:gX)(node:Int):Nat→Int
 | 0=>0
 | k+1=>IR w node k+G3 ((gt w.2.2.1 k).1==node)
def IU(w:gX)(node:Int):Int:=IR w node w.2.2.1.length
def DJ(w:gX)(ls:List aX):Nat→aH
 | 0=>iA
 | k+1=>bif inB (gt ls k).1 0 (i64.wrap (((w.2.2.1.length:Nat):Int) - 1))then cJ (DJ w ls k) (CX w (gt ls k).1.toNat)else DJ w ls k
def M2(w:gX)(ls:List aX):aH:=bif p6 w then DJ w ls ls.length else iA
def LW(w:gX)(s:aH):List aX:=bif p6 w&&aO s then bH w.2.2.1.length (fun i=>bif C9 (CX w i) s then[((i:Int),())] else[])else[]
theorem M4{s:aH}(hs:aO s=true)(id:Int):gone s id=(bif(bC s id).2 then(bif(bC s id).1.2.1==1 then(bC s id).1.1 else i64.wrap ((bC s id).1.1 - 1))else cI s.2.1 id):=by
 unfold gone;rw[hs]
 rcases eB s id with ⟨x,hx,_,e⟩ | ⟨_,e⟩
 ·rw[e]
  obtain⟨i,hi,rfl⟩:=iI hx
  show(bif(gt s.1 i).2.2.1==0 then _ else _)=bif(gt s.1 i).2.2.1==1 then _ else _
  rcases KZ hs hi with h | h<;>rw[h]<;>rfl
 ·rw[e];rfl
end Go.Abs
/- Plain laws: what the judges decide. -/
namespace Go.Abs
def iW(a b:List aR):Bool:=((a.length:Nat):Int)==((b.length:Nat):Int)&&bI a.length fun i=>jA (gt a i) (gt b i)
theorem AP(a b:aH):(iV a.1 b.1&&iW a.2.1 b.2.1)=dJ a b:=by
 unfold dJ iV iW;ac_rfl
theorem BP{s:aH}(hs:aO s=false)(id:Int):gone s id=0:=by unfold gone;rw[hs];rfl
theorem n4{β:Type}{q r:Prop}[Decidable q][Decidable r]{x y:β}(h:q)(h':r):(bif decide q&&decide r then x else y)=x:=by
 rw[decide_eq_true h,decide_eq_true h'];rfl
-- own
-- views
-- heard
-- seen
theorem zW{s:aH}(h:StateOk s){f:aR}(hf:f∈s.2.1):cI s.2.1 f.1=f.2.1:=by
 rcases eA s f.1 with ⟨x,hx,h1,e⟩ | ⟨h1,_⟩
 ·have:x=f:=by
   obtain⟨i,hi,rfl⟩:=iI hx
   obtain⟨j,hj,rfl⟩:=iI hf
   have hp:=h.floors
   rw[List.pairwise_iff_getElem] at hp
   rcases Nat.lt_trichotomy i j with h2 | h2 | h2
   ·have:=hp i j hi hj h2;rw[← cV hi,← cV hj] at this;omega
   ·rw[h2]
   ·have:=hp j i hj hi h2;rw[← cV hi,← cV hj] at this;omega
  rw[e,this]
 ·exact absurd rfl (h1 f hf)
theorem LT{s:aH}(hs:aO s=true)(id:Int):0≤gone s id:=by
 have ok:=(aV s).1 hs
 unfold gone;rw[hs]
 rcases eB s id with ⟨x,hx,_,e⟩ | ⟨_,e⟩
 ·rw[e]
  have:=(ok.item x hx).2.1
  unfold dR at this;simp only[Bool.and_eq_true,aS] at this
  show 0≤(bif x.2.2.1==0 then i64.wrap (x.2.1 - 1)else x.2.1)
  rw[y2 (by omega) (by omega)]
  cases x.2.2.1==0 with
  | false=>show 0≤x.2.1;omega
  | true=>show 0≤x.2.1 - 1;omega
 ·rw[e]
  show 0≤cI s.2.1 id
  rcases eA s id with ⟨x,hx,_,e⟩ | ⟨_,e⟩
  ·rw[e];exact ok.pos.floor x hx
  ·omega
-- KQ, I4, grown
def KQ(w:gX):Bool:=p6 w&&bI w.1.length fun i=>iV (oZ (gt w.1 i).state) (oZ (N5 w))
def mA(s:aH)(id:Int):bE×Bool:=bC (oZ s,[],()) id
def ER(w:gX)(id:Int):Nat→Int
 | 0=>0
 | k+1=>ER w id k+G3 (mA (gt w.1 k).state id).2
def I4(w:gX)(id:Int):Int:=bif p6 w then ER w id w.1.length else 0
end Go.Abs
/- Plain laws: differences of views applied, and what they are. -/
namespace Go.Abs
end Go.Abs
/- Plain laws: draws. -/
namespace Go.Abs
abbrev dL:=List aX×Int×Int×Unit
structure CurOk (c:dL):Prop where
 len:c.1.length≤1048576
 lo:0≤c.2.1
 hi:c.2.1≤c.1.length
theorem uS(a:Int):0≤D5 .i64 a 255∧D5 .i64 a 255≤255:=by
 unfold D5
 have h:(BitVec.ofInt i64.bits a&&& BitVec.ofInt i64.bits 255).toNat≤255:=by
  rw[BitVec.toNat_and];exact Nat.le_trans Nat.and_le_right (by decide)
 generalize (BitVec.ofInt i64.bits a&&& BitVec.ofInt i64.bits 255).toNat=m at h
 have e:i64.wrap (m:Int)=m:=by rw[IntKind.wrap_i64];omega
 rw[e];omega
theorem qA{x n:Int}(hx:0≤x)(hn:0<n):0≤x.tmod n∧x.tmod n<n:=by
 rw[Int.tmod_eq_emod_of_nonneg hx]
 exact⟨Int.emod_nonneg _ (by omega),Int.emod_lt_of_pos _ hn⟩
theorem aG{β:Type}{o:Option Out}{A B:List Kd}{r:Row A}{s:Row B}{f:Rows [A]×Rows [B]→Option β}(h:o=some ⟨[⟨A,r⟩],[⟨B,s⟩]⟩):(o.bind (eR [A] [B])).bind f=f ((r,()),(s,())):=by
 rw[h];simp[eR,eQ,iM];rfl
theorem wQ{β:Type}{o:Option Out}{A B:List Kd}{r:Row A}{s:Row B}{f:Rows [A,B]×Rows []→Option β}(h:o=some ⟨[⟨A,r⟩,⟨B,s⟩],[]⟩):(o.bind (eR [A,B] [])).bind f=f ((r,s,()),()):=by
 rw[h];simp[eR,eQ,iM];rfl
/-- A loop whose rounds are told by what they keep. -/
theorem It.ex {ι σ:Type} {lvl:Nat} {c:Nat→Nat→ι→(σ→Option Out)→σ→Option Out} (Inv:Nat→σ→Prop) (Good:Out→Prop) (N:Nat)
  (hs:∀ i x,i<N→Inv i x→∃ y,Inv (i+1) y∧∀ n,lvl≤n→∀ aA a rec,c n aA a rec x=rec y)
  (he:∀ x,Inv N x→∃ o,Good o∧∀ n,lvl≤n→It (c n) x (fun _=>some o)):∀ (m j:Nat) x,j+m=N→Inv j x→∃ o,Good o∧∀ n,lvl≤n→It (c n) x (fun _=>some o)
 | 0,j,x,hj,hx=>he x ((show j=N by omega)▸hx)
 | m+1,j,x,hj,hx=>by
  obtain⟨y,hy,h⟩:=hs j x (by omega) hx
  obtain⟨o,ho,h'⟩:=It.ex Inv Good N hs he m (j+1) y (by omega) hy
  exact⟨o,ho,fun n hn=>It.next (fun aA a rec=>h n hn aA a rec) (h' n hn)⟩
def datas:List ByteArray:=[⟨#[]⟩,⟨#[97]⟩,⟨#[98]⟩,⟨#[97,98]⟩,⟨#[49,50,51,52,53,54,55,56]⟩,⟨#[49,50,51,52,53,54,55,56,57]⟩]
def KD(e:bE):Prop:=e.2.2.2.2.1∈datas
structure StD (k:Nat) (s:aH):Prop where
 a:s.1.length≤k
 b:s.2.1.length≤k
 data:∀ x∈s.1,KD x.2
theorem StD.sz{k:Nat}{s:aH}(h:StD k s)(hk:k≤1048576):SzS s:=⟨Nat.le_trans h.a hk,Nat.le_trans h.b hk⟩
theorem KF:KD cS:=List.mem_cons_self ..
theorem tY{P:bE→Prop}(hz:P cS){s:aH}(hs:∀ x∈s.1,P x.2)(i:Int):P (bC s i).1:=by
 unfold bC
 cases h:(List.range s.1.length).find? (fun j=>(gt s.1 j).1==i)with
 | none=>exact hz
 | some j=>
  have hj:=List.mem_range.1 (List.mem_of_find?_eq_some h)
  show P (gt s.1 j).2
  rw[cV hj];exact hs _ (List.getElem_mem hj)
theorem gT{α:Type}{n:Nat}{g:Nat→List α}{x:α}(h:x∈bH n g):∃ i,i<n∧x∈g i:=by
 induction n with
 | zero=>exact(List.not_mem_nil h).elim
 | succ n ih=>
  rw[cY] at h
  rcases List.mem_append.1 h with h | h
  ·obtain⟨i,hi,hx⟩:=ih h;exact⟨i,by omega,hx⟩
  ·exact⟨n,by omega,h⟩
theorem GH{P:bE→Prop}(hz:P cS){a b:aH}(ha:∀ x∈a.1,P x.2)(hb:∀ x∈b.1,P x.2):∀ x∈(cJ a b).1,P x.2:=by
 intro x hx
 obtain⟨i,_,hi⟩:=gT hx
 unfold cW at hi
 cases hc:decide ((dT a b (i:Int)).1>flr a b (i:Int))with
 | false=>rw[hc] at hi;exact(List.not_mem_nil hi).elim
 | true=>
  rw[hc] at hi
  have e:x=((i:Int),dT a b (i:Int)):=List.mem_singleton.1 hi
  subst e
  show P (dT a b (i:Int))
  unfold dT mxE
  cases decide (fU (bC a (i:Int)).1 (bC b (i:Int)).1<0)
  ·exact tY hz ha _
  ·exact tY hz hb _
theorem ES{j k:Nat}{a b:aH}(ha:StD j a)(hb:StD k b):StD 5 (cJ a b):=⟨(jW a b).1,(jW a b).2,GH KF ha.data hb.data⟩
theorem v9{β:Type}{A B:Prop}[Decidable A][Decidable B]{X R:β}(h:¬ A∨¬ B):(bif decide A then(bif decide B then X else R)else R)=R:=by
 by_cases a:A
 ·rcases h with h | h
  ·exact absurd a h
  ·rw[decide_eq_true a,decide_eq_false h];rfl
 ·rw[decide_eq_false a];rfl
/-- The loop of a new cursor, and what comes behind it. -/
theorem It.new {lvl:Nat} {c:Nat→Nat→Unit→(Int×Int→Option Out)→Int×Int→Option Out} (Good:Out→Prop) (b:List aX) (hb:b.length≤1048576)
  (hs:∀ (i:Nat) (h:Int),i<b.length→i<4000→∃ h',∀ n,lvl≤n→∀ aA a rec,c n aA a rec (h,(i:Int))=rec (h',((i+1:Nat):Int)))
  (he:∀ (h i:Int),CurOk (b,0,h,())→(¬ i<((b.length:Nat):Int)∨¬ i<4000)→∃ o,Good o∧∀ n,lvl≤n→∃ M,∀ aA,M≤aA→∀ a rec,c n aA a rec (h,i)=some o) (h0:Int):
  ∃ o,Good o∧∀ n,lvl≤n→It (c n) (h0,(0:Int)) (fun _=>some o):=by
 refine It.ex (fun i y=>∃ h,y=(h,(i:Int))) Good (min b.length 4000) ?_ ?_ (min b.length 4000) 0 (h0,(0:Int)) (by omega) ⟨h0,rfl⟩
 ·rintro i y hi ⟨h,rfl⟩
  obtain⟨h',hh⟩:=hs i h (by omega) (by omega)
  exact⟨_,⟨h',rfl⟩,hh⟩
 ·rintro y ⟨h,rfl⟩
  obtain⟨o,ho,hh⟩:=he h ((min b.length 4000:Nat):Int) ⟨hb,by show(0:Int)≤0;omega,by show(0:Int)≤((b.length:Nat):Int);omega⟩ (by omega)
  refine⟨o,ho,fun n hn=>?_⟩
  obtain⟨M,hM⟩:=hh n hn
  refine⟨M+1,fun aA k hf hk a=>?_⟩
  obtain⟨k,rfl⟩:∃ k',k=k'+1:=⟨k - 1,by omega⟩
  exact hM aA (by omega) a _
end Go.Abs
-- marks, tables, taking and receiving: plain laws
namespace Go.Abs
abbrev MsgT:=Int×Int×Int×Int×Int×List aX×Int×List aX×List aX×List bM×List aR×List aR×Unit
abbrev MsgT.hi(m:MsgT):Int:=m.2.2.2.2.1
abbrev MsgT.tree(m:MsgT):iP:=(m.2.2.2.2.2.1,m.2.2.2.2.2.2.1,())
abbrev MsgT.vec(m:MsgT):List aX:=m.2.2.2.2.2.2.2.1
abbrev MsgT.leaves(m:MsgT):List aX:=m.2.2.2.2.2.2.2.2.1
abbrev MsgT.part(m:MsgT):aH:=(m.2.2.2.2.2.2.2.2.2.1,m.2.2.2.2.2.2.2.2.2.2.1,())
abbrev MsgT.marks(m:MsgT):List aR:=m.2.2.2.2.2.2.2.2.2.2.2.1
structure SzM (m:MsgT):Prop where
 leaves:m.tree.1.length≤aU
 vec:m.vec.length≤aU
 list:m.leaves.length≤aU
 part:SzS m.part
 marks:m.marks.length≤aU
theorem mU(a b:Int):mxI true a b=max a b:=by unfold mxI;simp only[if_true];split<;>omega
theorem A9(a b:Int):mxI false a b=min a b:=by unfold mxI;simp only[Bool.false_eq_true,if_false];split<;>omega
-- lists in order
theorem lS{α:Type}{k:α→Int}{g:Nat→List α}(h1:∀ i,(g i).length≤1)(h:∀ i,∀ x∈g i,k x=(i:Int)):∀ n,(bH n g).Pairwise (fun x y=>k x<k y)
 | 0=>by rw[tA];exact List.Pairwise.nil
 | n+1=>by
  rw[cY,List.pairwise_append]
  refine⟨lS h1 h n,?_,fun x hx y hy=>?_⟩
  ·match hg:g n with
   | []=>exact List.Pairwise.nil
   | [x]=>exact List.pairwise_singleton _ _
   | x::y::t=>have:=h1 n;rw[hg] at this;simp at this
  ·obtain⟨i,hi,hx⟩:=gT hx
   rw[h i x hx,h n y hy];omega
theorem mJ{s:aH}(h:StateOk s)(i:Int):0≤cI s.2.1 i∧cI s.2.1 i≤1000:=by
 rcases eA s i with ⟨x,hx,_,e⟩ | ⟨_,e⟩
 ·have:=(h.floor x hx).2;rw[aS] at this;rw[e];omega
 ·rw[e];omega
theorem pR{s:aH}(h:StateOk s)(i:Int):(bC s i).1=cS∨dR (bC s i).1=true:=by
 rcases eB s i with ⟨x,hx,_,e⟩ | ⟨_,e⟩
 ·rw[e];exact .inr (h.item x hx).2.1
 ·rw[e];exact .inl rfl
theorem H3{a b:aH}(ha:StateOk a)(hb:StateOk b)(i:Int):dT a b i=cS∨dR (dT a b i)=true:=by
 unfold dT mxE
 cases decide (fU (bC a i).1 (bC b i).1<0)with
 | true=>exact pR hb i
 | false=>exact pR ha i
theorem JM{a b:aH}(ha:StateOk a)(hb:StateOk b)(i:Int):0≤flr a b i∧flr a b i≤1000:=by
 have h1:=mJ ha i
 have h2:=mJ hb i
 unfold flr;rw[mU];omega
theorem sJ{a b:aH}{i:Nat}{x:bM}(h:x∈cW a b i):x=((i:Int),dT a b i)∧(dT a b i).1>flr a b i:=by
 unfold cW at h
 cases hd:decide ((dT a b i).1>flr a b i)with
 | false=>rw[hd] at h;cases h
 | true=>rw[hd] at h;exact⟨List.mem_singleton.1 h,of_decide_eq_true hd⟩
theorem mG{a b:aH}{i:Nat}{x:aR}(h:x∈cO a b i):x=((i:Int),flr a b i,())∧flr a b i>0:=by
 unfold cO at h
 cases hd:decide (flr a b i>0)with
 | false=>rw[hd] at h;cases h
 | true=>rw[hd] at h;exact⟨List.mem_singleton.1 h,of_decide_eq_true hd⟩
theorem zO{i:Nat}(h:i<5):dY (i:Int)=true:=by unfold dY;rw[aS];omega
theorem StateOk.join{a b:aH}(ha:StateOk a)(hb:StateOk b):StateOk (cJ a b) where
 item x hx:=by
  obtain⟨i,hi,hx⟩:=gT hx
  obtain⟨rfl,hg⟩:=sJ hx
  have hf:=JM ha hb (i:Int)
  refine⟨zO hi,?_,?_⟩
  ·rcases H3 ha hb (i:Int)with e | e
   ·rw[e] at hg;have h0:(0:Int)>flr a b i:=hg;omega
   ·exact e
  ·show cI (cJ a b).2.1 (i:Int)<(dT a b i).1
   rcases eA (cJ a b) (i:Int)with ⟨f,hf',e1,e⟩ | ⟨_,e⟩
   ·obtain⟨j,_,hf'⟩:=gT hf'
    obtain⟨rfl,_⟩:=mG hf'
    have:(j:Int)=(i:Int):=e1
    rw[e];show flr a b (j:Int)<_;rw[this];omega
   ·rw[e];omega
 items:=lS (k:=fun x:bM=>x.1) (oS a b) (fun i x hx=>by rw[(sJ hx).1]) 5
 floor f hf:=by
  obtain⟨i,hi,hf⟩:=gT hf
  obtain⟨rfl,hg⟩:=mG hf
  have:=JM ha hb (i:Int)
  refine⟨zO hi,?_⟩
  rw[aS];show 1≤flr a b i∧flr a b i≤1000;omega
 floors:=lS (k:=fun x:aR=>x.1) (mH a b) (fun i x hx=>by rw[(mG hx).1]) 5
theorem j8{a b:aH}(ha:aO a=true)(hb:aO b=true):aO (cJ a b)=true:=
 (aV _).2 (((aV _).1 ha).join ((aV _).1 hb))
theorem oM:aO iA=true:=rfl
-- marks
def dQ(ms:List aR):Bool:=bI ms.length (eX ms)
def BG(ms:List aR):Bool:=bI ms.length (gP ms)
theorem GA(ms:List aR):BG ms=dQ ms:=kD fun i hi=>by unfold gP eX;ac_rfl
theorem C2(ms:List aR):aO ([],ms,())=dQ ms:=by
 unfold aO dQ;rw[show bI ([]:List bM).length (kN ([],ms,()))=true from rfl,Bool.true_and]
def f7(s:aH)(i:Nat):List aR:=bif decide (gone s i>0)then[((i:Int),gone s i,())] else[]
def cB(s:aH):List aR:=bH 5 (f7 s)
theorem l9(s:aH)(i:Nat):(f7 s i).length≤1:=by unfold f7;cases decide (gone s i>0)<;>simp
theorem dZ(s:aH):(cB s).length≤5:=cZ (n:=5) (L:=1) fun i _=>l9 s i
theorem EV(s:aH)(i:Int):gone s i≤1000:=by
 cases hs:aO s with
 | false=>rw[BP hs];omega
 | true=>
  have h:=(aV s).1 hs
  have hf:=mJ h i
  unfold gone;rw[hs]
  show(bif(bC s i).2 then _ else _)≤(1000:Int)
  cases h2:(bC s i).2 with
  | false=>exact hf.2
  | true=>
   have he:(bC s i).1.1≤1000∧0≤(bC s i).1.1:=by
    rcases pR h i with e | e
    ·rw[e];show(0:Int)≤1000∧(0:Int)≤0;omega
    ·unfold dR at e;simp only[Bool.and_eq_true,aS] at e;omega
   show(bif(bC s i).1.2.1==0 then i64.wrap ((bC s i).1.1 - 1)else(bC s i).1.1)≤1000
   cases (bC s i).1.2.1==0 with
   | false=>exact he.1
   | true=>show i64.wrap ((bC s i).1.1 - 1)≤1000;rw[IntKind.wrap_i64];omega
theorem C4{s:aH}{i:Nat}{x:aR}(h:x∈f7 s i):x=((i:Int),gone s i,())∧gone s i>0:=by
 unfold f7 at h
 cases hd:decide (gone s i>0)with
 | false=>rw[hd] at h;cases h
 | true=>rw[hd] at h;exact⟨List.mem_singleton.1 h,of_decide_eq_true hd⟩
theorem yK{fs:List aR}(g:Nat→List aR)(he:fs=bH 5 g)(h1:∀ i,(g i).length≤1)(h:∀ i,∀ x∈g i,x.1=(i:Int)∧1≤x.2.1∧x.2.1≤1000):StateOk ([],fs,()) where
 item x hx:=by cases hx
 items:=List.Pairwise.nil
 floor f hf:=by
  have hf:f∈fs:=hf
  rw[he] at hf
  obtain⟨i,hi,hf⟩:=gT hf
  obtain⟨e,h2,h3⟩:=h i f hf
  exact⟨by rw[e];exact zO hi,aS.2 ⟨h2,h3⟩⟩
 floors:=by
  show fs.Pairwise _
  rw[he];exact lS (k:=fun x:aR=>x.1) h1 (fun i x hx=>(h i x hx).1) 5
theorem C3(s:aH):dQ (cB s)=true:=by
 rw[← C2]
 exact(aV _).2 (yK (f7 s) rfl (l9 s) fun i x hx=>by
  obtain⟨rfl,h⟩:=C4 hx
  exact⟨rfl,h,EV s i⟩)
theorem q9{ms:List aR}(h:dQ ms=true){i:Nat}(hi:i<ms.length):0≤(gt ms i).1∧(gt ms i).1≤4∧1≤(gt ms i).2.1∧(gt ms i).2.1≤1000:=by
 unfold dQ at h
 have:=bJ.1 h i hi
 unfold eX dY at this
 simp only[Bool.and_eq_true,aS] at this
 omega
-- tables
def vC(r:bQ)(f:aR):bQ:=(r.1.set f.1.toNat (mxI true (gt r.1 f.1.toNat).1 f.2.1,()),())
def iS(r:bQ)(ms:List aR):Nat→bQ
 | 0=>r
 | i+1=>vC (iS r ms i) (gt ms i)
def kF(t:List bQ)(k:Int)(ms:List aR):Bool:=inB k 0 (i64.wrap (((t.length:Nat):Int) - 1))&&(dQ ms&& !decide ((((gt t k.toNat).1.length:Nat):Int)<5))
def bO(t:List bQ)(k:Nat)(ms:List aR)(i:Nat):List bQ:=t.set k (iS (gt t k) ms i)
def bB(t:List bQ)(k:Int)(ms:List aR):List bQ:=bif kF t k ms then bO t k.toNat ms ms.length else t
theorem jX(r:bQ)(ms:List aR):∀ i,(iS r ms i).1.length=r.1.length
 | 0=>rfl
 | i+1=>by show(List.set _ _ _).length=_;rw[List.length_set];exact jX r ms i
theorem cC{α:Type}[Inhabited α]{xs:List α}{i:Nat}(h:i<xs.length)(x:α):gt (xs.set i x) i=x:=by
 rw[cV (by rw[List.length_set];exact h)];simp
theorem eC{α:Type}[Inhabited α]{xs:List α}{i j:Nat}(h:i≠j)(x:α):gt (xs.set i x) j=gt xs j:=by
 unfold gt;simp[h]
theorem nD{α:Type}[Inhabited α]{xs:List α}{i:Nat}:xs.set i (gt xs i)=xs:=by
 rcases Nat.lt_or_ge i xs.length with h | h
 ·rw[cV h];exact List.set_getElem_self h
 ·exact List.set_eq_of_length_le h
theorem qB(t:List bQ)(k:Nat)(ms:List aR):bO t k ms 0=t:=nD
theorem cU(t:List bQ)(k:Int)(ms:List aR):(bB t k ms).length=t.length:=by
 unfold bB
 cases kF t k ms with
 | false=>rfl
 | true=>show(bO _ _ _ _).length=_;unfold bO;rw[List.length_set]
theorem kO{k:Int}{n:Nat}(hn:n≤aU)(h:inB k 0 (i64.wrap ((n:Int) - 1))=true):k.toNat<n∧((k.toNat:Nat):Int)=k:=by
 rw[aS,IntKind.wrap_i64] at h;unfold aU at hn;omega
theorem eN(t:List bQ)(k:Int)(ms:List aR)(j:Nat):((gt (bB t k ms) j).1.length)=(gt t j).1.length:=by
 unfold bB
 cases hb:kF t k ms with
 | false=>rfl
 | true=>
  show(gt (bO t k.toNat ms ms.length) j).1.length=_
  unfold bO
  rcases Nat.lt_or_ge k.toNat t.length with h | h
  ·by_cases e:k.toNat=j
   ·subst e;rw[cC h,jX]
   ·rw[eC e]
  ·rw[List.set_eq_of_length_le h]
theorem CC{r:bQ}{ms:List aR}(hm:dQ ms=true)(hr:∀ j,j<r.1.length→inB (gt r.1 j).1 0 1000=true):∀ i,i≤ms.length→∀ j,j<r.1.length→inB (gt (iS r ms i).1 j).1 0 1000=true
 | 0,_,j,hj=>hr j hj
 | i+1,hi,j,hj=>by
  have ih:=CC hm hr i (by omega)
  have hid:=q9 hm (i:=i) (by omega)
  have hl:=jX r ms i
  show inB (gt (List.set (iS r ms i).1 (gt ms i).1.toNat (mxI true (gt (iS r ms i).1 (gt ms i).1.toNat).1 (gt ms i).2.1,())) j).1 0 1000=true
  by_cases e:(gt ms i).1.toNat=j
  ·subst e
   rw[cC (by omega)]
   have:=ih _ hj
   rw[aS] at this ⊢
   show 0≤mxI true _ _∧mxI true _ _≤1000
   rw[mU];omega
  ·rw[eC e];exact ih j hj
theorem m8{t:List bQ}{n k:Int}{ms:List aR}(ht:fV t n=true):fV (bB t k ms) n=true:=by
 unfold fV at ht ⊢
 simp only[Bool.and_eq_true] at ht ⊢
 obtain⟨h1,h2,h3⟩:=ht
 refine⟨h1,by rw[cU];exact h2,?_⟩
 rw[cU]
 rw[bJ] at h3 ⊢
 intro j hj
 have h4:=h3 j hj
 unfold pN at h4 ⊢
 simp only[Bool.and_eq_true] at h4 ⊢
 rw[eN]
 refine⟨h4.1,?_⟩
 have h5:=bJ.1 h4.2
 rw[bJ]
 intro i hi
 unfold bB
 cases hb:kF t k ms with
 | false=>exact h5 i hi
 | true=>
  show inB (gt (gt (bO t k.toNat ms ms.length) j).1 i).1 0 1000=true
  unfold bO
  by_cases e:k.toNat=j
  ·subst e
   rw[cC hj]
   have hm:dQ ms=true:=by unfold kF at hb;simp only[Bool.and_eq_true] at hb;exact hb.2.1
   exact CC hm h5 _ (Nat.le_refl _) i hi
  ·rw[eC e];exact h5 i hi
def iL(t:List bQ)(id:Int)(k:Nat):Bool:=inB id 0 (i64.wrap ((((gt t k).1.length:Nat):Int) - 1))
def eP(t:List bQ)(id:Int):Nat→Int
 | 0=>0
 | k+1=>bif(k:Int)==0 then(gt (gt t k).1 id.toNat).1 else bif decide ((gt (gt t k).1 id.toNat).1<eP t id k)then(gt (gt t k).1 id.toNat).1 else eP t id k
def dW(t:List bQ)(id:Int):Int:=bif bI t.length (iL t id)then eP t id t.length else 0
-- pruning
def eL(s:aH)(t:List bQ)(i:Nat):List aR:=bif decide (mxI false (dW t i) (gone s i)>0)then[((i:Int),mxI false (dW t i) (gone s i),())] else[]
def eG(s:aH)(t:List bQ):aH:=([],bH 5 (eL s t),())
def prune(s:aH)(t:List bQ):aH:=bif aO s then cJ s (eG s t)else s
theorem l3(s:aH)(t:List bQ)(i:Nat):(eL s t i).length≤1:=by unfold eL;cases decide (mxI false (dW t i) (gone s i)>0)<;>simp
theorem nR(s:aH)(t:List bQ):aO (eG s t)=true:=
 (aV _).2 (yK (eL s t) rfl (l3 s t) fun i x hx=>by
  unfold eL at hx
  cases hd:decide (mxI false (dW t i) (gone s i)>0)with
  | false=>rw[hd] at hx;cases hx
  | true=>
   rw[hd] at hx
   have e:=List.mem_singleton.1 hx
   have h0:=of_decide_eq_true hd
   have hg:=EV s i
   rw[e];refine⟨rfl,h0,?_⟩
   show mxI false (dW t i) (gone s i)≤1000
   rw[A9];omega)
theorem tT(s:aH)(t:List bQ):SzS (eG s t):=⟨Nat.zero_le _,Nat.le_trans (cZ (n:=5) (L:=1) fun i _=>l3 s t i) (by decide)⟩
theorem vK{s:aH}(h:aO s=true)(t:List bQ):aO (prune s t)=true:=by
 unfold prune;rw[h];exact j8 h (nR s t)
theorem H2{s:aH}(h:SzS s)(t:List bQ):SzS (prune s t):=by
 unfold prune;cases aO s with
 | false=>exact h
 | true=>exact jI _ _
-- vectors
def bU(v:List aX)(k n:Int):List aX:=bif inB k 0 (i64.wrap (((v.length:Nat):Int) - 1))then v.set k.toNat (mxI true (gt v k.toNat).1 n,())else v
theorem fD(v:List aX)(k n:Int):(bU v k n).length=v.length:=by
 unfold bU;cases inB k 0 (i64.wrap (((v.length:Nat):Int) - 1))with
 | false=>rfl
 | true=>exact List.length_set ..
theorem m4(v:List aX)(k n:Int)(j:Nat):(gt (bU v k n) j).1=(gt v j).1∨(gt (bU v k n) j).1=max (gt v j).1 n:=by
 unfold bU;cases inB k 0 (i64.wrap (((v.length:Nat):Int) - 1))with
 | false=>exact .inl rfl
 | true=>
  show(gt (v.set _ _) j).1=_∨(gt (v.set _ _) j).1=_
  rcases Nat.lt_or_ge k.toNat v.length with h | h
  ·by_cases e:k.toNat=j
   ·subst e;rw[cC h];exact .inr (mU _ _)
   ·rw[eC e];exact .inl rfl
  ·rw[List.set_eq_of_length_le h];exact .inl rfl
theorem z6(v:List aX){k n:Int}{j:Nat}(h:k.toNat≠j):gt (bU v k n) j=gt v j:=by
 unfold bU;cases inB k 0 (i64.wrap (((v.length:Nat):Int) - 1))with
 | false=>rfl
 | true=>exact eC h _
theorem tB{v:List aX}{m k n:Int}(h:dX v m=true)(hn:n≤100000):dX (bU v k n) m=true:=by
 unfold dX at h ⊢
 simp only[Bool.and_eq_true] at h ⊢
 rw[fD]
 refine⟨h.1,h.2.1,?_⟩
 have h3:=bJ.1 h.2.2
 rw[bJ]
 intro i hi
 have:=h3 i hi
 rw[aS] at this ⊢
 rcases m4 v k n i with e | e<;>rw[e]<;>omega
end Go.Abs
-- taking and receiving: plain laws
namespace Go.Abs
-- rises
def mQ(r:iT)(e:bE):Bool:=decide (e.1>r.1)||(e.1==r.1&&decide (e.2.2.1>r.2.1))
def kU(clock:Int)(r:iT)(e:bE):iT:=bif mQ r e then(e.1,e.2.2.1,clock,())else r
def cG(clock:Int)(rs:List iT)(xs:List bM):Nat→List iT
 | 0=>rs
 | i+1=>(cG clock rs xs i).set (gt xs i).1.toNat (kU clock (gt (cG clock rs xs i) (gt xs i).1.toNat) (gt xs i).2)
theorem f4(clock:Int)(rs:List iT)(xs:List bM):∀ i,(cG clock rs xs i).length=rs.length
 | 0=>rfl
 | i+1=>by show(List.set _ _ _).length=_;rw[List.length_set];exact f4 clock rs xs i
def vG(clock:Int)(r:iT):Bool:=inB r.1 0 1000&&(inB r.2.1 0 100000&&inB r.2.2.1 0 clock)
theorem xR{clock:Int}(hc:0≤clock){rs:List iT}{s:aH}(hs:StateOk s)(h:∀ j,j<rs.length→vG clock (gt rs j)=true):
  ∀ i,i≤s.1.length→∀ j,j<rs.length→vG clock (gt (cG clock rs s.1 i) j)=true
 | 0,_,j,hj=>h j hj
 | i+1,hi,j,hj=>by
  have ih:=xR hc hs h i (by omega)
  have he:=(hs.item _ (c6 (xs:=s.1) (i:=i) (by omega))).2.1
  show vG clock (gt ((cG clock rs s.1 i).set (gt s.1 i).1.toNat (kU clock (gt (cG clock rs s.1 i) (gt s.1 i).1.toNat) (gt s.1 i).2)) j)=true
  by_cases e:(gt s.1 i).1.toNat=j
  ·rw[e,cC (by rw[f4];exact hj)]
   unfold kU
   cases mQ (gt (cG clock rs s.1 i) j) (gt s.1 i).2 with
   | false=>exact ih j hj
   | true=>
    unfold dR at he
    simp only[Bool.and_eq_true,aS] at he
    show vG clock ((gt s.1 i).2.1,(gt s.1 i).2.2.2.1,clock,())=true
    unfold vG
    simp only[Bool.and_eq_true,aS]
    omega
  ·rw[eC e];exact ih j hj
-- a node with another state, other rows and rises
def tkS(x:NodeT)(s:aH):List bQ:=bB x.seen x.1 (cB (cJ x.state s))
def tkP(x:NodeT)(s:aH):aH:=prune (cJ x.state s) (tkS x s)
def tkR(x:NodeT)(s:aH):List iT:=cG x.clock x.rises (tkP x s).1 (tkP x s).1.length
def fI(x:NodeT)(s:aH):NodeT:=
 (x.1,x.2.1,(tkP x s).1,(tkP x s).2.1,(bX (tkP x s)).1,(bX (tkP x s)).2.1,x.2.2.2.2.2.2.1,x.2.2.2.2.2.2.2.1,x.2.2.2.2.2.2.2.2.1,x.got,x.acked,tkS x s,x.num,x.slots,x.sess,x.wait,x.limit,x.clock,tkR x s,())
theorem gW(a:List aX):eJ a a=true:=by
 unfold eJ;simp[bI]
structure NodeOk (x:NodeT):Prop where
 n:inB x.2.1 1 5=true
 id:inB x.1 0 (i64.wrap (x.2.1 - 1))=true
 state:aO x.state=true
 tree:p8 x=true
 log:fC x.log=true
 got:dX x.got x.2.1=true
 acked:dX x.acked x.2.1=true
 own:((gt x.got x.1.toNat).1==cA x.log)=true
 seen:fV x.seen x.2.1=true
 ack:wZ x=true
 num:inB x.num 0 100000=true
 clock:inB x.clock 0 100000=true
 slots:inB x.slots 1 4=true
 wait:inB x.wait 1 20=true
 limit:inB x.limit 1 50=true
 rises:((x.rises.length:Nat):Int)==5
 rise:bI x.rises.length (jD x)=true
 sess:jY x=true
theorem eE(x:NodeT):eF x=true↔NodeOk x:=by
 unfold eF j6
 simp only[Bool.and_eq_true]
 constructor
 ·rintro ⟨h1,h2,h3,h4,h5,h6,h7,h8,h9,h10,h11,h12,h13,h14,h15,h16,h17,h18⟩
  exact⟨h1,h2,h3,h4,h5,h6,h7,h8,h9,h10,h11,h12,h13,h14,h15,h16,h17,h18⟩
 ·rintro ⟨h1,h2,h3,h4,h5,h6,h7,h8,h9,h10,h11,h12,h13,h14,h15,h16,h17,h18⟩
  exact⟨h1,h2,h3,h4,h5,h6,h7,h8,h9,h10,h11,h12,h13,h14,h15,h16,h17,h18⟩
theorem HA{x:NodeT}{s:aH}(h:NodeOk x)(hs:aO s=true):aO (tkP x s)=true:=vK (j8 h.state hs) _
theorem NodeOk.take{x:NodeT}{s:aH}(h:NodeOk x)(hs:aO s=true):NodeOk (fI x s) where
 n:=h.n
 id:=h.id
 state:=HA h hs
 tree:=by
  show(eJ (bX (tkP x s)).1 (bX (tkP x s)).1&&(bX (tkP x s)).2.1==(bX (tkP x s)).2.1)=true
  rw[gW];simp
 log:=h.log
 got:=h.got
 acked:=h.acked
 own:=h.own
 seen:=m8 h.seen
 ack:=h.ack
 num:=h.num
 clock:=h.clock
 slots:=h.slots
 wait:=h.wait
 limit:=h.limit
 rises:=by
  show(((cG x.clock x.rises (tkP x s).1 (tkP x s).1.length).length:Nat):Int)==5
  rw[f4];exact h.rises
 rise:=by
  show bI (cG x.clock x.rises (tkP x s).1 (tkP x s).1.length).length _=true
  rw[f4,bJ]
  intro i hi
  have hc:=h.clock;rw[aS] at hc
  exact xR hc.1 ((aV _).1 (HA h hs)) (fun j hj=>bJ.1 h.rise j hj) _ (Nat.le_refl _) i hi
 sess:=h.sess
theorem CL(x:NodeT)(s:aH):SzS (tkP x s):=H2 (jI _ _) _
theorem FA(s:aH):(bX s).1.length≤aU:=by
 unfold bX;cases aO s with
 | false=>exact Nat.zero_le _
 | true=>show 4≤aU;decide
theorem jC{x:NodeT}(h:SzN x)(s:aH):SzN (fI x s) where
 state:=CL x s
 leaves:=FA _
 list:=h.list
 logs:=h.logs
 got:=h.got
 acked:=h.acked
 seen:=by show(tkS x s).length≤aU;unfold tkS;rw[cU];exact h.seen
 lines:=by
  intro i hi
  show(gt (tkS x s) i).1.length≤aU
  unfold tkS;rw[eN]
  exact h.lines i (by have:i<(tkS x s).length:=hi;unfold tkS at this;rw[cU] at this;exact this)
 sess:=h.sess
 rises:=by show(cG x.clock x.rises (tkP x s).1 (tkP x s).1.length).length≤aU;rw[f4];exact h.rises
-- hearing
def heard0(x:NodeT)(m:MsgT):NodeT:=
 (x.1,x.2.1,x.2.2.1,x.2.2.2.1,x.2.2.2.2.1,x.2.2.2.2.2.1,x.2.2.2.2.2.2.1,x.2.2.2.2.2.2.2.1,x.2.2.2.2.2.2.2.2.1,x.got,bU x.acked m.2.1 (mxI false (gt m.vec x.1.toNat).1 (cA x.log)),bB x.seen m.2.1 m.marks,x.num,x.slots,x.sess,x.wait,x.limit,x.clock,x.rises,())
def bP(x:NodeT)(m:MsgT):NodeT:=fI (heard0 x m) iA
def gotUp(x:NodeT)(m:MsgT):NodeT:=
 (x.1,x.2.1,x.2.2.1,x.2.2.2.1,x.2.2.2.2.1,x.2.2.2.2.2.1,x.2.2.2.2.2.2.1,x.2.2.2.2.2.2.2.1,x.2.2.2.2.2.2.2.2.1,bU x.got m.2.1 m.hi,x.acked,x.seen,x.num,x.slots,x.sess,x.wait,x.limit,x.clock,x.rises,())
def bF(x:NodeT)(m:MsgT):NodeT:=gotUp (fI (bP x m) m.part) m
theorem yE{l:fA}(h:fC l=true):0≤cA l∧cA l≤100000:=by
 unfold cA;rw[h]
 unfold fC at h
 simp only[Bool.and_eq_true,aS,Bool.not_eq_true',decide_eq_false_iff_not] at h
 show 0≤i64.wrap _∧i64.wrap _≤100000
 rw[IntKind.wrap_i64] at h ⊢
 omega
theorem NodeOk.heard0{x:NodeT}(h:NodeOk x)(m:MsgT):NodeOk (heard0 x m) where
 n:=h.n
 id:=h.id
 state:=h.state
 tree:=h.tree
 log:=h.log
 got:=h.got
 acked:=tB h.acked (by rw[A9];have:=yE h.log;omega)
 own:=h.own
 seen:=m8 h.seen
 ack:=by
  have:=h.ack
  unfold wZ at this ⊢
  rw[show(Go.Abs.heard0 x m).acked=bU x.acked m.2.1 (mxI false (gt m.vec x.1.toNat).1 (cA x.log))from rfl,fD]
  rw[bJ] at this ⊢
  intro i hi
  have h1:=this i hi
  rw[show(Go.Abs.heard0 x m).log=x.log from rfl]
  simp only[Bool.not_eq_true',decide_eq_false_iff_not] at h1 ⊢
  rcases m4 x.acked m.2.1 (mxI false (gt m.vec x.1.toNat).1 (cA x.log)) i with e | e
  ·rw[e];exact h1
  ·rw[e,A9];omega
 num:=h.num
 clock:=h.clock
 slots:=h.slots
 wait:=h.wait
 limit:=h.limit
 rises:=h.rises
 rise:=h.rise
 sess:=h.sess
theorem NodeOk.heard{x:NodeT}(h:NodeOk x)(m:MsgT):NodeOk (bP x m):=(h.heard0 m).take oM
theorem oQ{x:NodeT}(h:SzN x)(m:MsgT):SzN (heard0 x m) where
 state:=h.state
 leaves:=h.leaves
 list:=h.list
 logs:=h.logs
 got:=h.got
 acked:=by show(bU _ _ _).length≤aU;rw[fD];exact h.acked
 seen:=by show(bB _ _ _).length≤aU;rw[cU];exact h.seen
 lines:=by
  intro i hi
  show(gt (bB x.seen m.2.1 m.marks) i).1.length≤aU
  rw[eN]
  exact h.lines i (by have:i<(bB x.seen m.2.1 m.marks).length:=hi;rw[cU] at this;exact this)
 sess:=h.sess
 rises:=h.rises
theorem fP{x:NodeT}(h:SzN x)(m:MsgT):SzN (bP x m):=jC (oQ h m) _
theorem NodeOk.gotUp{x:NodeT}(h:NodeOk x){m:MsgT}(hi:m.hi≤100000)(hm:m.2.1.toNat≠x.1.toNat):NodeOk (gotUp x m) where
 n:=h.n
 id:=h.id
 state:=h.state
 tree:=h.tree
 log:=h.log
 got:=tB h.got hi
 acked:=h.acked
 own:=by
  show((gt (bU x.got m.2.1 m.hi) x.1.toNat).1==cA x.log)=true
  rw[z6 _ hm];exact h.own
 seen:=h.seen
 ack:=h.ack
 num:=h.num
 clock:=h.clock
 slots:=h.slots
 wait:=h.wait
 limit:=h.limit
 rises:=h.rises
 rise:=h.rise
 sess:=h.sess
theorem JF{x:NodeT}(h:SzN x)(m:MsgT):SzN (gotUp x m) where
 state:=h.state
 leaves:=h.leaves
 list:=h.list
 logs:=h.logs
 got:=by show(bU _ _ _).length≤aU;rw[fD];exact h.got
 acked:=h.acked
 seen:=h.seen
 lines:=h.lines
 sess:=h.sess
 rises:=h.rises
theorem hI{x:NodeT}(h:SzN x)(m:MsgT):SzN (bF x m):=JF (jC (fP h m) _) _
-- messages
def kL(v:List aX)(top:Int):Bool:=bI v.length fun i=>inB (gt v i).1 0 top
def treeB(t:iP):Bool:=bif((t.1.length:Nat):Int)==0 then t.2.1==0 else(((t.1.length:Nat):Int)==4&&(kL t.1 1023&&inB t.2.1 0 1023))
def tN(v:List aX)(i:Nat):Bool:=inB (gt v i).1 0 3&&tI (fun j=> !decide ((gt v (j+1)).1≤(gt v j).1)) i
def l7(m:MsgT):Bool:=inB m.1 0 5&&(dY m.2.1&&(dY m.2.2.1&& !(m.2.1==m.2.2.1)))
def iH(m:MsgT):Bool:=l7 m&&((bI m.leaves.length (tN m.leaves))&&(kL m.vec 100000&&(inB m.2.2.2.1 0 100000&&(inB m.hi 0 100000&&(treeB m.tree&&(decide (((m.vec.length:Nat):Int)≤5)&&(aO m.part&&dQ m.marks)))))))
def mT(v:List aX)(most top:Int):Bool:= !decide (((v.length:Nat):Int)>most)&&kL v top
def BK(v:List aX)(i:Nat):Bool:= !decide ((gt v (i+1)).1≤(gt v i).1)
def vW(m:MsgT):Bool:=inB m.1 0 5&&(dY m.2.1&&(dY m.2.2.1&&(!(m.2.1==m.2.2.1)&&(inB m.2.2.2.1 0 100000&&(inB m.hi 0 100000&&(treeB m.tree&&(mT m.vec 5 100000&&(mT m.leaves 4 3&&(aO m.part&&(dQ m.marks&&bI (m.leaves.length - 1) (BK m.leaves)))))))))))
theorem IX(v:List aX):(mT v 4 3&&bI (v.length - 1) (BK v))=bI v.length (tN v):=by
 rw[Bool.eq_iff_iff]
 unfold mT kL tN BK
 simp only[Bool.and_eq_true,bJ,Bool.not_eq_true',decide_eq_false_iff_not]
 constructor
 ·rintro ⟨⟨_,h2⟩,h3⟩ i hi
  refine⟨h2 i hi,?_⟩
  cases i with
  | zero=>rfl
  | succ j=>show(!decide ((gt v (j+1)).1≤(gt v j).1))=true;rw[decide_eq_false (h3 j (by omega))];rfl
 ·intro h
  have hp:∀ j,j+1<v.length→(gt v j).1<(gt v (j+1)).1:=fun j hj=>by
   have:=(h (j+1) hj).2
   unfold tI at this
   simpa using this
  have hge:∀ i,i<v.length→(i:Int)≤(gt v i).1:=by
   intro i
   induction i with
   | zero=>intro hi;have:=(h 0 hi).1;rw[aS] at this;exact this.1
   | succ j ih=>intro hi;have:=ih (by omega);have:=hp j hi;omega
  refine⟨⟨?_,fun i hi=>(h i hi).1⟩,fun i hi=>by have:=hp i (by omega);omega⟩
  rcases Nat.lt_or_ge 4 v.length with h5 | h5
  ·have h6:=hge 4 h5
   have:=(h 4 h5).1;rw[aS] at this;omega
  ·omega
theorem EL(m:MsgT):vW m=iH m:=by
 unfold vW iH l7
 rw[← IX]
 unfold mT
 simp only[sE]
 ac_rfl
theorem DB{m:MsgT}(h:iH m=true):m.leaves.length≤4:=by
 rw[← EL] at h
 unfold vW mT at h
 simp only[Bool.and_eq_true,Bool.not_eq_true',decide_eq_false_iff_not] at h
 omega
end Go.Abs
-- messages and receiving: plain laws
namespace Go.Abs
theorem gB{β:Type}{o:Option Out}{A B C:List Kd}{r:Row A}{s:Row B}{t:Row C}{f:Rows [A,B,C]×Rows []→Option β}(h:o=some ⟨[⟨A,r⟩,⟨B,s⟩,⟨C,t⟩],[]⟩):(o.bind (eR [A,B,C] [])).bind f=f ((r,s,t,()),()):=by
 rw[h];simp[eR,eQ,iM];rfl
def dH(l:List aH)(k:Nat):Nat→aH
 | 0=>iA
 | i+1=>cJ (dH l k i) (gt l (k+i))
theorem pH(l:List aH)(k:Nat):∀ i,SzS (dH l k i)
 | 0=>oK
 | i+1=>jI _ _
theorem pI{l:fA}(h:fC l=true)(k:Nat):∀ i,k+i≤l.2.2.1.length→aO (dH l.2.2.1 k i)=true
 | 0,_=>oM
 | i+1,hi=>j8 (pI h k i (by omega)) (by
   unfold fC at h
   simp only[Bool.and_eq_true] at h
   exact bJ.1 h.2.2.2.2 (k+i) (by omega))
def fE(l:fA)(seq:Int):Bool:=fC l&&inB seq l.2.1 (i64.wrap (l.2.1+((l.2.2.1.length:Nat):Int)))
def bT(l:fA)(seq:Int):Nat:=(seq - l.2.1).toNat
def f8(l:fA)(seq:Int):aH:=bif fE l seq then dH l.2.2.1 (bT l seq) (l.2.2.1.length - bT l seq)else iA
theorem qD{l:fA}{seq:Int}(h:fE l seq=true):l.2.1+((bT l seq:Nat):Int)=seq∧bT l seq≤l.2.2.1.length∧0≤l.2.1∧l.2.1≤100000∧l.2.2.1.length≤8:=by
 unfold fE fC at h
 simp only[Bool.and_eq_true,aS,Bool.not_eq_true',decide_eq_false_iff_not] at h
 unfold bT
 rw[IntKind.wrap_i64] at h
 omega
def nC(x:NodeT)(seq:Int):aH:=bif fE x.log seq then f8 x.log seq else x.state
theorem AL{x:NodeT}(h:SzN x)(seq:Int):SzS (nC x seq):=by
 unfold nC f8
 cases fE x.log seq with
 | false=>exact h.state
 | true=>exact pH _ _ _
theorem AM{x:NodeT}(h:NodeOk x)(seq:Int):aO (nC x seq)=true:=by
 unfold nC f8
 cases hs:fE x.log seq with
 | false=>exact h.state
 | true=>have:=qD hs;exact pI h.log _ _ (by omega)
theorem u7{s:aH}(h:SzS s)(ls:List aX):SzS (f0 s ls):=
 ⟨Nat.le_trans (List.length_filter_le ..) h.1,Nat.le_trans (List.length_filter_le ..) h.2⟩
theorem AK{s:aH}(h:aO s=true)(ls:List aX):aO (f0 s ls)=true:=(aV _).2 (((aV _).1 h).slice ls)
def qV(x:NodeT)(ls:List aX)(seq:Int):aH:=cJ (f0 x.state ls) (nC x seq)
def dE(a b:iP)(i:Nat):List aX:=bif((a.1.length:Nat):Int) != 4 then[((i:Int),())] else bif((b.1.length:Nat):Int) != 4 then[((i:Int),())] else bif(gt a.1 i).1 != (gt b.1 i).1 then[((i:Int),())] else[]
def eT(a b:iP):List aX:=bif a.2.1==b.2.1 then[] else bH 4 (dE a b)
theorem kP(a b:iP)(i:Nat):(dE a b i).length≤1:=by
 unfold dE
 cases ((a.1.length:Nat):Int) != 4<;>cases ((b.1.length:Nat):Int) != 4<;>cases (gt a.1 i).1 != (gt b.1 i).1<;>simp
theorem kA(a b:iP):(eT a b).length≤4:=by
 unfold eT
 cases a.2.1==b.2.1 with
 | true=>exact Nat.zero_le _
 | false=>exact cZ (n:=4) (L:=1) fun i _=>kP a b i
def BC(x:NodeT)(kind to num:Int):MsgT:=(kind,x.1,to,num,cA x.log,[],0,x.got,[],[],[],cB x.state,())
-- exchanges
def withS(x:NodeT)(ss:List c7):NodeT:=
 (x.1,x.2.1,x.2.2.1,x.2.2.2.1,x.2.2.2.2.1,x.2.2.2.2.2.1,x.2.2.2.2.2.2.1,x.2.2.2.2.2.2.2.1,x.2.2.2.2.2.2.2.2.1,x.got,x.acked,x.seen,x.num,x.slots,ss,x.wait,x.limit,x.clock,x.rises,())
def jH(s:c7):Int×Bool:=(s.1,s.2.2.1)
def L8(x:NodeT)(s:c7):Prop:=inB s.1 0 (i64.wrap (x.2.1 - 1))=true∧s.1≠x.1∧inB s.2.1 0 100000=true∧inB s.2.2.2.1 0 x.wait=true
theorem jS{v:List c7}{k:Nat}{p:Int}{b:Bool}:dC v k p b=true↔jH (gt v k)=(p,b):=by
 unfold dC jH
 rw[Bool.and_eq_true,beq_iff_eq,J2,Prod.mk.injEq]
theorem H8(v:List c7):(∀ i,i<v.length→xW v i=true)↔(v.map jH).Nodup:=by
 unfold List.Nodup
 rw[List.pairwise_iff_getElem]
 unfold xW
 simp only[bJ,Bool.not_eq_true',List.length_map,List.getElem_map]
 constructor
 ·intro h i j hi hj hij e
  have:=h j hj i hij
  rw[← Bool.not_eq_true,jS] at this
  apply this
  rw[cV hi,cV hj];exact e
 ·intro h j hj i hij
  rw[← Bool.not_eq_true,jS]
  intro e
  refine h i j (by omega) hj hij ?_
  rw[cV (by omega),cV hj] at e;exact e
theorem cP(x:NodeT):jY x=true↔((x.sess.length:Nat):Int)≤x.slots∧(∀ s∈x.sess,L8 x s)∧(x.sess.map jH).Nodup:=by
 rw[← H8]
 unfold jY lC
 simp only[Bool.and_eq_true,bJ,Bool.not_eq_true',decide_eq_false_iff_not]
 constructor
 ·rintro ⟨h1,h2⟩
  refine⟨by omega,fun s hs=>?_,fun i hi=>(h2 i hi).2.2.2.2⟩
  obtain⟨i,hi,rfl⟩:=iI hs
  obtain⟨a,b,c,d,_⟩:=h2 i hi
  refine⟨a,?_,c,d⟩
  intro e;rw[e] at b;simp at b
 ·rintro ⟨h1,h2,h3⟩
  refine⟨by omega,fun i hi=>?_⟩
  obtain⟨a,b,c,d⟩:=h2 _ (c6 hi)
  exact⟨a,by simpa using b,c,d,h3 i hi⟩
theorem NodeOk.withS{x:NodeT}(h:NodeOk x){ss:List c7}(h1:((ss.length:Nat):Int)≤x.slots)(h2:∀ s∈ss,L8 x s)(h3:(ss.map jH).Nodup):NodeOk (withS x ss) where
 n:=h.n
 id:=h.id
 state:=h.state
 tree:=h.tree
 log:=h.log
 got:=h.got
 acked:=h.acked
 own:=h.own
 seen:=h.seen
 ack:=h.ack
 num:=h.num
 clock:=h.clock
 slots:=h.slots
 wait:=h.wait
 limit:=h.limit
 rises:=h.rises
 rise:=h.rise
 sess:=(cP _).2 ⟨h1,h2,h3⟩
theorem lB{x:NodeT}(h:SzN x){ss:List c7}(h1:ss.length≤aU):SzN (withS x ss):=
 ⟨h.state,h.leaves,h.list,h.logs,h.got,h.acked,h.seen,h.lines,h1,h.rises⟩
theorem dB(v:List c7)(p:Int)(b:Bool):(∃ k:Nat,k<v.length∧bW v p b=(k:Int)∧jH (gt v k)=(p,b))∨(bW v p b= -1∧∀ s∈v,jH s≠(p,b)):=by
 unfold bW
 cases hf:(List.range v.length).find? (fun k=>dC v k p b)with
 | none=>
  refine .inr ⟨rfl,fun s hs e=>?_⟩
  obtain⟨i,hi,rfl⟩:=iI hs
  have:=List.find?_eq_none.1 hf i (List.mem_range.2 hi)
  exact this (jS.2 e)
 | some k=>
  refine .inl ⟨k,List.mem_range.1 (List.mem_of_find?_eq_some hf),rfl,?_⟩
  exact jS.1 (show dC v k p b=true from List.find?_some (p:=fun k=>dC v k p b) hf)
def dK(x:NodeT)(m:MsgT)(b:Bool):Int:=bif decide (bW x.sess m.2.1 b≥0)then(bif(gt x.sess (bW x.sess m.2.1 b).toNat).2.1 != m.2.2.2.1 then -1 else bW x.sess m.2.1 b)else bW x.sess m.2.1 b
def gI(x:NodeT)(k:Nat):NodeT:=withS x (x.sess.take k++x.sess.drop (k+1))
theorem lK{x:NodeT}(h:NodeOk x)(k:Nat):NodeOk (gI x k):=by
 have hs:=(cP x).1 h.sess
 have sub:List.Sublist (x.sess.take k++x.sess.drop (k+1)) x.sess:=by rw[← List.eraseIdx_eq_take_drop_succ];exact List.eraseIdx_sublist ..
 refine h.withS ?_ (fun s hm=>hs.2.1 s (sub.subset hm)) ((sub.map jH).nodup hs.2.2)
 have:=sub.length_le;omega
theorem wC{x:NodeT}(h:SzN x)(k:Nat):SzN (gI x k):=lB h (by
 have:=h.sess;rw[List.length_append,List.length_take,List.length_drop];omega)
def iY(x:NodeT)(k:Nat)(num:Int):List c7:=x.sess.set k ((gt x.sess k).1,num,(gt x.sess k).2.2.1,(0:Int),())
def iO(x:NodeT)(m:MsgT):List c7:=x.sess++[(m.2.1,m.2.2.2.1,true,(0:Int),())]
theorem FV{x:NodeT}(h:NodeOk x){k:Nat}(hk:k<x.sess.length){num:Int}(hn:inB num 0 100000=true):NodeOk (withS x (iY x k num)):=by
 have hs:=(cP x).1 h.sess
 refine h.withS (by unfold iY;rw[List.length_set];exact hs.1) (fun s hm=>?_) ?_
 ·rcases List.mem_or_eq_of_mem_set hm with h1 | h1
  ·exact hs.2.1 s h1
  ·have h2:=hs.2.1 _ (c6 hk)
   rw[h1]
   refine⟨h2.1,h2.2.1,hn,?_⟩
   have:=h.wait;rw[aS] at this ⊢;show 0≤(0:Int)∧(0:Int)≤x.wait;omega
 ·unfold iY
  rw[List.map_set,show jH ((gt x.sess k).1,num,(gt x.sess k).2.2.1,(0:Int),())=jH (gt x.sess k)from rfl]
  have:(x.sess.map jH).set k (jH (gt x.sess k))=x.sess.map jH:=by
   rw[← List.map_set,nD]
  rw[this];exact hs.2.2
theorem D7{x:NodeT}(h:NodeOk x){m:MsgT}(hp:inB m.2.1 0 (i64.wrap (x.2.1 - 1))=true)(hi:m.2.1≠x.1)(hn:inB m.2.2.2.1 0 100000=true)(hf:bW x.sess m.2.1 true<0)(hl:((x.sess.length:Nat):Int)≠x.slots):NodeOk (withS x (iO x m)):=by
 have hs:=(cP x).1 h.sess
 refine h.withS (by unfold iO;rw[List.length_append,List.length_singleton];omega) (fun s hm=>?_) ?_
 ·rcases List.mem_append.1 hm with h1 | h1
  ·exact hs.2.1 s h1
  ·rw[List.mem_singleton.1 h1]
   refine⟨hp,hi,hn,?_⟩
   have:=h.wait;rw[aS] at this ⊢;show 0≤(0:Int)∧(0:Int)≤x.wait;omega
 ·unfold iO
  rw[List.map_append,List.nodup_append]
  refine⟨hs.2.2,by simp,fun a ha b hb=>?_⟩
  obtain⟨s,hs1,rfl⟩:=List.mem_map.1 ha
  have hb:b=(m.2.1,true):=by simpa [jH] using hb
  rw[hb]
  rcases dB x.sess m.2.1 true with ⟨k,_,e,_⟩ | ⟨_,e⟩
  ·rw[e] at hf;omega
  ·exact e s hs1
-- receiving
def pL(o:NodeT)(x:NodeT)(m:MsgT):MsgT:=
 (3,o.1,m.2.1,m.2.2.2.1,cA o.log,o.tree.1,o.tree.2.1,o.got,eT o.tree m.tree,(qV o (eT o.tree m.tree) (gt m.vec x.1.toNat).1).1,(qV o (eT o.tree m.tree) (gt m.vec x.1.toNat).1).2.1,cB o.state,())
def I3(o:NodeT)(x:NodeT)(m:MsgT):MsgT:=
 (4,o.1,m.2.1,m.2.2.2.1,cA o.log,[],0,o.got,m.leaves,(qV o m.leaves (gt m.vec x.1.toNat).1).1,(qV o m.leaves (gt m.vec x.1.toNat).1).2.1,cB o.state,())
abbrev D9:=NodeT×List MsgT×Int
def dU(x:NodeT)(m:MsgT):List c7:=bif decide (bW x.sess m.2.1 true≥0)then iY x (bW x.sess m.2.1 true).toNat m.2.2.2.1 else iO x m
def jN(x:NodeT)(m:MsgT):NodeT:=bP (withS x (dU x m)) m
def dP(x:NodeT)(m:MsgT):Bool:= !decide (bW x.sess m.2.1 true≥0)&&((x.sess.length:Nat):Int)==x.slots
def cF(x:NodeT)(m:MsgT):D9:=bif dP x m then(x,[BC x 5 m.2.1 m.2.2.2.1],3)else(jN x m,[pL (jN x m) x m],0)
def cX(x:NodeT)(m:MsgT)(k:Nat):D9:=
 bif m.1==5 then(gI x k,[],0)else bif m.1==4 then(bF (gI x k) m,[],0)else(bF (gI x k) m,[I3 (bF (gI x k) m) x m],0)
def dS(x:NodeT)(m:MsgT):D9:=
 bif m.1==0 then(bF x m,[BC (bF x m) 1 m.2.1 m.2.2.2.1],0)else
 bif m.1==1 then(bP x m,[],0)else bif m.1==2 then cF x m else
 bif decide (dK x m (m.1==4)<0)then(x,[],2)else cX x m (dK x m (m.1==4)).toNat
def dM(x:NodeT)(m:MsgT):Bool:=eF x&&(iH m&&(m.2.2.1==x.1&&(!decide (m.2.1≥x.2.1)&&((m.vec.length:Nat):Int)==x.2.1)))
def eK(x:NodeT)(m:MsgT):D9:=bif dM x m then dS x m else(x,[],1)
structure RecOk (x:NodeT) (m:MsgT):Prop where
 node:NodeOk x
 msg:iH m=true
 idn:0≤x.1∧x.1<x.2.1∧1≤x.2.1∧x.2.1≤5
 frm:0≤m.2.1∧m.2.1<x.2.1
 ne:m.2.1≠x.1
 vec:((m.vec.length:Nat):Int)=x.2.1
 to:m.2.2.1=x.1
 num:inB m.2.2.2.1 0 100000=true
 hi:0≤m.hi∧m.hi≤100000
 part:aO m.part=true
 marks:dQ m.marks=true
 leaves:m.leaves.length≤4
theorem iE{x:NodeT}{m:MsgT}(h:dM x m=true):RecOk x m:=by
 unfold dM at h
 simp only[Bool.and_eq_true,beq_iff_eq,Bool.not_eq_true',decide_eq_false_iff_not] at h
 obtain⟨h1,h2,h3,h4,h5⟩:=h
 have hn:=(eE x).1 h1
 have a1:=hn.n
 have a2:=hn.id
 rw[aS] at a1 a2
 rw[IntKind.wrap_i64] at a2
 have hm:=h2
 unfold iH l7 dY at hm
 simp only[Bool.and_eq_true,aS,Bool.not_eq_true',beq_eq_false_iff_ne] at hm
 obtain⟨⟨b1,b2,b3,b4⟩,b5,b6,b7,b8,b9,b10,b11,b12⟩:=hm
 exact⟨hn,h2,by omega,by omega,by rw[← h3];exact b4,h5,h3,aS.2 b7,b8,b11,b12,DB h2⟩
theorem RecOk.gone{x:NodeT}{m:MsgT}(h:RecOk x m)(k:Nat):RecOk (gI x k) m:=
 ⟨lK h.node k,h.msg,h.idn,h.frm,h.ne,h.vec,h.to,h.num,h.hi,h.part,h.marks,h.leaves⟩
theorem RecOk.brought{x:NodeT}{m:MsgT}(h:RecOk x m):NodeOk (bF x m):=
 NodeOk.gotUp ((h.node.heard m).take h.part) h.hi.2 (by
  have h1:=h.ne;have h2:=h.idn;have h3:=h.frm
  show m.2.1.toNat≠x.1.toNat
  omega)
theorem RecOk.syn{x:NodeT}{m:MsgT}(h:RecOk x m)(hf:dP x m=false):RecOk (withS x (dU x m)) m:=by
 refine⟨?_,h.msg,h.idn,h.frm,h.ne,h.vec,h.to,h.num,h.hi,h.part,h.marks,h.leaves⟩
 unfold dU
 unfold dP at hf
 by_cases hc:bW x.sess m.2.1 true≥0
 ·rw[decide_eq_true hc]
  rcases dB x.sess m.2.1 true with ⟨k,hk,e,_⟩ | ⟨e,_⟩
  ·show NodeOk (withS x (iY x (bW x.sess m.2.1 true).toNat m.2.2.2.1))
   rw[e];exact FV h.node hk h.num
  ·omega
 ·rw[decide_eq_false hc] at hf ⊢
  refine D7 h.node ?_ h.ne h.num (by omega) (by intro e;rw[e] at hf;simp at hf)
  have h2:=h.idn;have h3:=h.frm
  rw[aS,IntKind.wrap_i64];omega
theorem kK{x:NodeT}(h:NodeOk x)(m:MsgT):(dU x m).length≤aU:=by
 have h1:=((cP x).1 h.sess).1
 have h2:=h.slots;rw[aS] at h2
 unfold dU iY iO aU
 cases decide (bW x.sess m.2.1 true≥0)with
 | true=>show(List.set _ _ _).length≤_;rw[List.length_set];omega
 | false=>show(x.sess++[_]).length≤_;rw[List.length_append,List.length_singleton];omega
theorem KN{x:NodeT}(hz:SzN x)(h:NodeOk x)(m:MsgT):SzN (jN x m):=fP (lB hz (kK h m)) m
theorem zJ{x:NodeT}{m:MsgT}(h:dM x m=false):eK x m=(x,[],1):=by unfold eK;rw[h];rfl
theorem qN{x:NodeT}{m:MsgT}(h:dM x m=true):eK x m=dS x m:=by unfold eK;rw[h];rfl
-- an exchange taken out, as the code does it
def xE(x:NodeT)(k:Int):List c7:=([]++((x.sess.take (k.toNat)).drop 0))++((x.sess.take x.sess.length).drop ((i64.wrap (k+1))).toNat)
theorem KY{x:NodeT}{k:Nat}(hk:k<x.sess.length)(hl:x.sess.length≤aU):xE x (k:Int)=x.sess.take k++x.sess.drop (k+1):=by
 unfold xE
 rw[aL (Nat.lt_of_lt_of_le hk (Nat.le_trans hl (by decide))),List.take_length,Int.toNat_natCast,Int.toNat_natCast];rfl
theorem AV{x:NodeT}{k:Nat}(hk:k<x.sess.length)(hl:x.sess.length≤aU):withS x (xE x (k:Int))=gI x k:=by rw[KY hk hl];rfl
theorem rK{α β:Type}{ss:List α}{k:Nat}{F Z:β}(hk:k<ss.length)(hl:ss.length≤aU):
  (bif decide (0≤(k:Int))&&decide ((k:Int)≤((ss.length:Nat):Int))then(bif decide (List.length ([]:List α)+List.length ((ss.take ((k:Int).toNat)).drop 0)≤bound)then
   (bif decide (0≤i64.wrap ((k:Int)+1))&&decide (i64.wrap ((k:Int)+1)≤((ss.length:Nat):Int))then
    (bif decide (List.length ([]++((ss.take ((k:Int).toNat)).drop 0))+List.length ((ss.take ss.length).drop ((i64.wrap ((k:Int)+1))).toNat)≤bound)then F else Z)else Z)else Z)else Z)=F:=by
 have hb:aU≤bound:=by decide
 rw[aL (Nat.lt_of_lt_of_le hk (Nat.le_trans hl (by decide)))]
 refine(n4 (Int.natCast_nonneg _) (by omega)).trans ?_
 refine(aE (by rw[List.drop_zero,List.length_take];simp;omega)).trans ?_
 refine(n4 (Int.natCast_nonneg _) (by omega)).trans ?_
 exact aE (by rw[List.nil_append,List.drop_zero,List.length_take,List.length_drop,List.length_take,Int.toNat_natCast,Int.toNat_natCast];omega)
end Go.Abs
-- exchanges begun and gone through: plain laws
namespace Go.Abs
def nA(x:NodeT)(to:Int):Bool:=eF x&&(qT x to&&(!decide (bW x.sess to false≥0)&&(!(((x.sess.length:Nat):Int)==x.slots)&& !(x.num==100000))))
def AF(x:NodeT)(to:Int):NodeT:=
 (x.1,x.2.1,x.2.2.1,x.2.2.2.1,x.2.2.2.2.1,x.2.2.2.2.2.1,x.2.2.2.2.2.2.1,x.2.2.2.2.2.2.2.1,x.2.2.2.2.2.2.2.2.1,x.got,x.acked,x.seen,i64.wrap (x.num+1),x.slots,x.sess++[(to,i64.wrap (x.num+1),false,(0:Int),())],x.wait,x.limit,x.clock,x.rises,())
def ML(x:NodeT)(to:Int):MsgT:=(2,x.1,to,i64.wrap (x.num+1),cA x.log,x.tree.1,x.tree.2.1,x.got,[],[],[],cB x.state,())
def LM:MsgT:=((0:Int),(0:Int),(0:Int),(0:Int),(0:Int),[],(0:Int),[],[],[],[],[],())
abbrev NW:=NodeT×MsgT×Bool
def m9(x:NodeT)(to:Int):NW:=bif nA x to then(AF x to,ML x to,true)else(x,LM,false)
structure SynOk (x:NodeT) (to:Int):Prop where
 node:NodeOk x
 peer:0≤to∧to<x.2.1∧to≠x.1
 slot:bW x.sess to false<0
 room:((x.sess.length:Nat):Int)<x.slots
 num:0≤x.num∧x.num<100000
 nn:1≤x.2.1∧x.2.1≤5
theorem qC{x:NodeT}{to:Int}(h:nA x to=true):SynOk x to:=by
 unfold nA qT at h
 simp only[Bool.and_eq_true,Bool.not_eq_true',decide_eq_false_iff_not,beq_eq_false_iff_ne,bne_iff_ne,aS] at h
 obtain⟨h1,⟨h2,h3⟩,h4,h5,h6⟩:=h
 have hn:=(eE x).1 h1
 have h7:=hn.n;have h8:=hn.num
 have h9:=((cP x).1 hn.sess).1
 rw[aS] at h7 h8
 rw[IntKind.wrap_i64] at h2
 exact⟨hn,by omega,by omega,by omega,by omega,by omega⟩
theorem CY{n:Int}(h:0≤n∧n<100000):i64.wrap (n+1)=n+1:=by rw[IntKind.wrap_i64];omega
theorem SynOk.up{x:NodeT}{to:Int}(h:SynOk x to):NodeOk (AF x to) where
 n:=h.node.n
 id:=h.node.id
 state:=h.node.state
 tree:=h.node.tree
 log:=h.node.log
 got:=h.node.got
 acked:=h.node.acked
 own:=h.node.own
 seen:=h.node.seen
 ack:=h.node.ack
 num:=by show inB (i64.wrap (x.num+1)) 0 100000=true;rw[CY h.num,aS];have:=h.num;omega
 clock:=h.node.clock
 slots:=h.node.slots
 wait:=h.node.wait
 limit:=h.node.limit
 rises:=h.node.rises
 rise:=h.node.rise
 sess:=by
  have hs:=(cP x).1 h.node.sess
  refine(cP _).2 ⟨?_,fun s hm=>?_,?_⟩
  ·show(((x.sess++[_]).length:Nat):Int)≤x.slots
   rw[List.length_append,List.length_singleton];have:=h.room;omega
  ·have hm:s∈x.sess++[(to,i64.wrap (x.num+1),false,(0:Int),())]:=hm
   rcases List.mem_append.1 hm with h1 | h1
   ·exact hs.2.1 s h1
   ·rw[List.mem_singleton.1 h1]
    have h2:=h.peer;have h3:=h.num;have h4:=h.node.wait;have h5:=h.nn
    rw[aS] at h4
    refine⟨?_,h2.2.2,?_,?_⟩
    ·show inB to 0 (i64.wrap (x.2.1 - 1))=true
     rw[aS,IntKind.wrap_i64];omega
    ·show inB (i64.wrap (x.num+1)) 0 100000=true
     rw[CY h.num,aS];omega
    ·show inB 0 0 x.wait=true
     rw[aS];omega
  ·show(List.map jH (x.sess++[(to,i64.wrap (x.num+1),false,(0:Int),())])).Nodup
   rw[List.map_append,List.nodup_append]
   refine⟨hs.2.2,by simp,fun a ha b hb=>?_⟩
   obtain⟨s,hs1,rfl⟩:=List.mem_map.1 ha
   have hb:b=(to,false):=by simpa [jH] using hb
   rw[hb]
   rcases dB x.sess to false with ⟨k,_,e,_⟩ | ⟨_,e⟩
   ·have:=h.slot;rw[e] at this;omega
   ·exact e s hs1
theorem AE{x:NodeT}{to:Int}(hz:SzN x)(h:SynOk x to):SzN (AF x to):=
 ⟨hz.state,hz.leaves,hz.list,hz.logs,hz.got,hz.acked,hz.seen,hz.lines,by
  have h1:=h.room;have h2:=h.node.slots;rw[aS] at h2
  show(x.sess++[_]).length≤aU
  rw[List.length_append,List.length_singleton];unfold aU;omega,hz.rises⟩
theorem KO{x:NodeT}(hz:SzN x)(to:Int):SzM (ML x to):=⟨hz.leaves,hz.got,Nat.zero_le _,oK,Nat.le_trans (dZ _) (by decide)⟩
theorem LL:SzM LM:=⟨Nat.zero_le _,Nat.zero_le _,Nat.zero_le _,oK,Nat.zero_le _⟩
theorem KK{x:NodeT}(hz:SzN x)(to:Int):SzN (m9 x to).1∧SzM (m9 x to).2.1:=by
 unfold m9
 cases h:nA x to with
 | false=>exact⟨hz,LL⟩
 | true=>exact⟨AE hz (qC h),KO hz to⟩
theorem HF{x:NodeT}{to:Int}(h:nA x to=true):m9 x to=(AF x to,ML x to,true):=by unfold m9;rw[h];rfl
theorem KM{x:NodeT}{to:Int}(h:nA x to=false):m9 x to=(x,LM,false):=by unfold m9;rw[h];rfl
-- who answers whom
structure RecTo (x:NodeT) (m:MsgT) (r:D9):Prop where
 id:r.1.1=x.1
 to:∀ q∈r.2.1,q.2.2.1=m.2.1∧q.2.1=x.1
theorem p9{x:NodeT}{m:MsgT}:∀ q∈([]:List MsgT),q.2.2.1=m.2.1∧q.2.1=x.1:=fun q h=>by cases h
theorem y5{x:NodeT}{m a:MsgT}(h:a.2.2.1=m.2.1∧a.2.1=x.1):∀ q∈[a],q.2.2.1=m.2.1∧q.2.1=x.1:=fun q hq=>by rw[List.mem_singleton.1 hq];exact h
theorem FP(x:NodeT)(m:MsgT):RecTo x m (cF x m):=by
 unfold cF
 cases dP x m with
 | true=>exact⟨rfl,y5 ⟨rfl,rfl⟩⟩
 | false=>exact⟨rfl,y5 ⟨rfl,rfl⟩⟩
theorem FT(x:NodeT)(m:MsgT)(k:Nat):RecTo x m (cX x m k):=by
 unfold cX
 cases m.1==5 with
 | true=>exact⟨rfl,p9⟩
 | false=>
  cases m.1==4 with
  | true=>exact⟨rfl,p9⟩
  | false=>exact⟨rfl,y5 ⟨rfl,rfl⟩⟩
theorem HZ(x:NodeT)(m:MsgT):RecTo x m (eK x m):=by
 unfold eK
 cases dM x m with
 | false=>exact⟨rfl,p9⟩
 | true=>
  show RecTo x m (dS x m)
  unfold dS
  cases m.1==0 with
  | true=>exact⟨rfl,y5 ⟨rfl,rfl⟩⟩
  | false=>
   cases m.1==1 with
   | true=>exact⟨rfl,p9⟩
   | false=>
    cases m.1==2 with
    | true=>exact FP x m
    | false=>
     cases decide (dK x m (m.1==4)<0)with
     | true=>exact⟨rfl,p9⟩
     | false=>exact FT x m _
theorem KX(x:NodeT)(m:MsgT):(eK x m).1.1=x.1:=(HZ x m).id
-- an exchange gone through
end Go.Abs
-- saying: plain laws
namespace Go.Abs
abbrev J8:=aH×Int
def vO(id:Int)(e:bE):aH:=bif aO ([(id,e)],[],())then([(id,e)],[],())else iA
theorem qX(id:Int)(e:bE):aO (vO id e)=true:=by
 unfold vO
 cases h:aO ([(id,e)],[],())with
 | true=>exact h
 | false=>rfl
def upE(s:aH)(id:Int):bE×Int:=bif aO s then(bif dY id then(bif(mA s id).2 then((mA s id).1,0)else(cS,3))else(cS,1))else(cS,1)
def rD(s:aH)(id:Int):Int:=mxI true (bC s id).1.1 (cI s.2.1 id)
def oD(s:aH)(id:Int):J8:=bif aO s then(bif dY id then(bif(mA s id).2 then(iA,2)else bif rD s id==1000 then(iA,4)else(vO id (i64.wrap (rD s id+1),0,0,0,⟨#[]⟩,()),0))else(iA,1))else(iA,1)
def oG(s:aH)(id:Int):J8:=bif(upE s id).2 != 0 then(iA,(upE s id).2)else bif(upE s id).1.2.2.1==100000 then(iA,4)else
 (vO id ((upE s id).1.1,(upE s id).1.2.1,i64.wrap ((upE s id).1.2.2.1+1),(upE s id).1.2.2.2.1,(upE s id).1.2.2.2.2.1,()),0)
def rY(s:aH)(id:Int)(t:ByteArray):J8:=bif(upE s id).2 != 0 then(iA,(upE s id).2)else bif(upE s id).1.2.2.2.1==1000 then(iA,4)else bif decide (((ByteArray.size t:Nat):Int)>8)then(iA,4)else
 (vO id ((upE s id).1.1,(upE s id).1.2.1,(upE s id).1.2.2.1,i64.wrap ((upE s id).1.2.2.2.1+1),t,()),0)
def oE(s:aH)(id:Int):J8:=bif(upE s id).2 != 0 then(iA,(upE s id).2)else(vO id ((upE s id).1.1,1,(upE s id).1.2.2.1,(upE s id).1.2.2.2.1,(upE s id).1.2.2.2.2.1,()),0)
def fW(s:aH)(k id:Int)(t:ByteArray):J8:=bif k==0 then oD s id else bif k==1 then oG s id else bif k==2 then rY s id t else oE s id
theorem CR(s:aH)(id:Int):aO (oD s id).1=true:=by
 unfold oD
 cases aO s<;>cases dY id<;>cases (mA s id).2<;>cases rD s id==1000<;>first | rfl | exact qX _ _
theorem CT(s:aH)(id:Int):aO (oG s id).1=true:=by
 unfold oG
 cases (upE s id).2 != 0<;>cases (upE s id).1.2.2.1==100000<;>first | rfl | exact qX _ _
theorem FK(s:aH)(id:Int)(t:ByteArray):aO (rY s id t).1=true:=by
 unfold rY
 cases (upE s id).2 != 0<;>cases (upE s id).1.2.2.2.1==1000<;>cases decide (((ByteArray.size t:Nat):Int)>8)<;>first | rfl | exact qX _ _
theorem CS(s:aH)(id:Int):aO (oE s id).1=true:=by
 unfold oE
 cases (upE s id).2 != 0<;>first | rfl | exact qX _ _
theorem AO(s:aH)(k id:Int)(t:ByteArray):aO (fW s k id t).1=true:=by
 unfold fW
 cases k==0
 ·cases k==1
  ·cases k==2
   ·exact CS s id
   ·exact FK s id t
  ·exact CT s id
 ·exact CR s id
-- logs
def mX(l:fA)(d:aH):Bool:=fC l&&(aO d&& !(i64.wrap (l.2.1+((l.2.2.1.length:Nat):Int))==100000))
def fT(l:fA)(d:aH):fA:=bif decide ((((l.2.2.1++[d]).length:Nat):Int)>l.1)then(l.1,i64.wrap (l.2.1+1),(l.2.2.1++[d]).drop 1,())else(l.1,l.2.1,l.2.2.1++[d],())
def pM(l:fA)(d:aH):fA×Bool:=bif mX l d then(fT l d,true)else(l,false)
structure LogOk (l:fA):Prop where
 cap:1≤l.1∧l.1≤8
 len:((l.2.2.1.length:Nat):Int)≤l.1
 frm:0≤l.2.1∧l.2.1≤100000
 top:l.2.1+((l.2.2.1.length:Nat):Int)≤100000
 all:∀ s∈l.2.2.1,aO s=true
theorem lG(l:fA):fC l=true↔LogOk l:=by
 unfold fC
 simp only[Bool.and_eq_true,aS,Bool.not_eq_true',decide_eq_false_iff_not,bJ]
 constructor
 ·rintro ⟨h1,h2,h3,h4,h5⟩
  rw[IntKind.wrap_i64] at h4
  refine⟨h1,by omega,h3,by omega,fun s hs=>?_⟩
  obtain⟨i,hi,rfl⟩:=iI hs
  exact h5 i hi
 ·rintro ⟨h1,h2,h3,h4,h5⟩
  rw[IntKind.wrap_i64]
  exact⟨h1,by omega,h3,by omega,fun i hi=>h5 _ (c6 hi)⟩
theorem oO{l:fA}(h:LogOk l):cA l=l.2.1+((l.2.2.1.length:Nat):Int):=by
 have h1:=h.frm;have h2:=h.top
 unfold cA;rw[(lG l).2 h];show i64.wrap _=_;rw[IntKind.wrap_i64];omega
theorem GB{l:fA}{d:aH}(h:LogOk l)(hd:aO d=true)(hn:l.2.1+((l.2.2.1.length:Nat):Int)<100000):LogOk (fT l d)∧cA (fT l d)=cA l+1:=by
 have h1:=h.cap;have h2:=h.len;have h3:=h.frm
 have hl:(l.2.2.1++[d]).length=l.2.2.1.length+1:=by rw[List.length_append,List.length_singleton]
 have ha:∀ s∈l.2.2.1++[d],aO s=true:=fun s hs=>by
  rcases List.mem_append.1 hs with hs | hs
  ·exact h.all s hs
  ·rw[List.mem_singleton.1 hs];exact hd
 have key:LogOk (fT l d)∧(fT l d).2.1+(((fT l d).2.2.1.length:Nat):Int)=l.2.1+((l.2.2.1.length:Nat):Int)+1:=by
  unfold fT
  by_cases hc:(((l.2.2.1++[d]).length:Nat):Int)>l.1
  ·rw[decide_eq_true hc]
   have hw:i64.wrap (l.2.1+1)=l.2.1+1:=by rw[IntKind.wrap_i64];omega
   have hdl:((l.2.2.1++[d]).drop 1).length=l.2.2.1.length:=by rw[List.length_drop,hl];omega
   refine⟨⟨h1,?_,?_,?_,fun s hs=>ha s (List.mem_of_mem_drop hs)⟩,?_⟩
   ·show((((l.2.2.1++[d]).drop 1).length:Nat):Int)≤l.1;rw[hdl];exact h2
   ·show 0≤i64.wrap (l.2.1+1)∧i64.wrap (l.2.1+1)≤100000;rw[hw];omega
   ·show i64.wrap (l.2.1+1)+((((l.2.2.1++[d]).drop 1).length:Nat):Int)≤100000;rw[hw,hdl];omega
   ·show i64.wrap (l.2.1+1)+((((l.2.2.1++[d]).drop 1).length:Nat):Int)=_;rw[hw,hdl];omega
  ·rw[decide_eq_false hc]
   rw[hl] at hc
   refine⟨⟨h1,?_,h3,?_,ha⟩,?_⟩
   ·show(((l.2.2.1++[d]).length:Nat):Int)≤l.1;rw[hl];omega
   ·show l.2.1+(((l.2.2.1++[d]).length:Nat):Int)≤100000;rw[hl];omega
   ·show l.2.1+(((l.2.2.1++[d]).length:Nat):Int)=_;rw[hl];omega
 exact⟨key.1,by rw[oO key.1,oO h];exact key.2⟩
-- a node says
def rZ(x:NodeT)(k id:Int):Bool:=eF x&&(inB k 0 4&&(inB id 0 (i64.wrap (x.2.1 - 1))&& !(oX (k==4) (id==x.1))))
def EE(x:NodeT)(d:aH):NodeT:=
 (x.1,x.2.1,x.2.2.1,x.2.2.2.1,x.2.2.2.2.1,x.2.2.2.2.2.1,(fT x.log d).1,(fT x.log d).2.1,(fT x.log d).2.2.1,x.got.set x.1.toNat (i64.wrap ((gt x.got x.1.toNat).1+1),()),x.acked,x.seen,x.num,x.slots,x.sess,x.wait,x.limit,x.clock,x.rises,())
abbrev MB:=NodeT×aH×Int
def qH(x:NodeT)(k id:Int)(t:ByteArray):MB:=
 bif rZ x k id then(bif(fW x.state k id t).2 != 0 then(x,iA,(fW x.state k id t).2)else bif mX x.log (fW x.state k id t).1 then(fI (EE x (fW x.state k id t).1) (fW x.state k id t).1,(fW x.state k id t).1,0)else(x,iA,4))else(x,iA,1)
theorem vD{x:NodeT}{d:aH}(h:NodeOk x)(hd:mX x.log d=true):NodeOk (EE x d):=by
 unfold mX at hd
 simp only[Bool.and_eq_true,Bool.not_eq_true',beq_eq_false_iff_ne] at hd
 have hL:=(lG x.log).1 h.log
 have h1:=hL.frm;have h2:=hL.top;have h3:=hL.len;have h4:=hL.cap
 have hw:i64.wrap (x.log.2.1+((x.log.2.2.1.length:Nat):Int))=x.log.2.1+((x.log.2.2.1.length:Nat):Int):=by rw[IntKind.wrap_i64];omega
 rw[hw] at hd
 obtain⟨p1,p2⟩:=GB hL hd.2.1 (by have:=hd.2.2;omega)
 have hs:cA x.log<100000∧0≤cA x.log:=by rw[oO hL];have:=hd.2.2;omega
 have hg:(gt x.got x.1.toNat).1=cA x.log:=eq_of_beq h.own
 have hwg:i64.wrap ((gt x.got x.1.toNat).1+1)=cA x.log+1:=by rw[hg,IntKind.wrap_i64];omega
 have hid:=h.id;have hn:=h.n;have hv:=h.got
 rw[aS] at hid hn
 rw[IntKind.wrap_i64] at hid
 unfold dX at hv
 simp only[Bool.and_eq_true,beq_iff_eq] at hv
 have hk:x.1.toNat<x.got.length:=by omega
 exact {
  n:=h.n,id:=h.id,state:=h.state,tree:=h.tree
  log:=(lG _).2 p1
  got:=by
   show dX (x.got.set x.1.toNat _) x.2.1=true
   unfold dX
   simp only[Bool.and_eq_true,beq_iff_eq]
   rw[List.length_set]
   refine⟨hv.1,hv.2.1,?_⟩
   have h5:=bJ.1 hv.2.2
   rw[bJ]
   intro i hi
   by_cases e:x.1.toNat=i
   ·rw[← e,cC hk];show inB (i64.wrap _) 0 100000=true;rw[hwg,aS];omega
   ·rw[eC e];exact h5 i hi
  acked:=h.acked
  own:=by
   show((gt (x.got.set x.1.toNat (i64.wrap ((gt x.got x.1.toNat).1+1),())) x.1.toNat).1==cA (fT x.log d))=true
   rw[cC hk,p2,beq_iff_eq];exact hwg
  seen:=h.seen
  ack:=by
   have h6:=h.ack
   unfold wZ at h6 ⊢
   rw[bJ] at h6 ⊢
   intro i hi
   have h7:=h6 i hi
   show(!decide ((gt x.acked i).1>cA (fT x.log d)))=true
   rw[p2]
   simp only[Bool.not_eq_true',decide_eq_false_iff_not] at h7 ⊢
   omega
  num:=h.num,clock:=h.clock,slots:=h.slots,wait:=h.wait,limit:=h.limit,rises:=h.rises,rise:=h.rise,sess:=h.sess }
theorem C7(l:fA)(d:aH):(fT l d).2.2.1.length≤l.2.2.1.length+1:=by
 unfold fT
 cases decide ((((l.2.2.1++[d]).length:Nat):Int)>l.1)with
 | true=>show((l.2.2.1++[d]).drop 1).length≤_;rw[List.length_drop,List.length_append,List.length_singleton];omega
 | false=>show(l.2.2.1++[d]).length≤_;rw[List.length_append,List.length_singleton];exact Nat.le_refl _
theorem AQ{x:NodeT}{d:aH}(hz:SzN x)(h:NodeOk x)(hd:mX x.log d=true):SzN (EE x d):=by
 have ho:=(lG _).1 (vD h hd).log
 have h1:=ho.cap;have h2:=ho.len
 refine⟨hz.state,hz.leaves,?_,fun i hi=>?_,?_,hz.acked,hz.seen,hz.lines,hz.sess,hz.rises⟩
 ·unfold aU;omega
 ·have:=((aV _).1 (ho.all _ (c6 hi))).len
  exact⟨by unfold aU;omega,by unfold aU;omega⟩
 ·show(x.got.set _ _).length≤aU;rw[List.length_set];exact hz.got
theorem KU{x:NodeT}(h:NodeOk x)(k id:Int)(t:ByteArray):NodeOk (qH x k id t).1:=by
 unfold qH
 cases rZ x k id with
 | false=>exact h
 | true=>
  cases (fW x.state k id t).2 != 0 with
  | true=>exact h
  | false=>
   cases hb:mX x.log (fW x.state k id t).1 with
   | false=>exact h
   | true=>exact(vD h hb).take (AO _ _ _ _)
theorem KT{x:NodeT}(hz:SzN x)(k id:Int)(t:ByteArray):SzN (qH x k id t).1:=by
 unfold qH
 cases hs:rZ x k id with
 | false=>exact hz
 | true=>
  have h:NodeOk x:=(eE x).1 (by unfold rZ at hs;simp only[Bool.and_eq_true] at hs;exact hs.1)
  cases (fW x.state k id t).2 != 0 with
  | true=>exact hz
  | false=>
   cases hb:mX x.log (fW x.state k id t).1 with
   | false=>exact hz
   | true=>exact jC (AQ hz h hb) _
end Go.Abs
-- check sums lie in 0 .. 2^32 - 1: plain laws
namespace Go.Abs
def rP(x:Int):Prop:=0≤x∧x<4294967296
theorem G7{a b:Int}(ha:rP a)(hb:rP b):rP (oV .i64 a b):=by
 obtain⟨n,rfl⟩:∃ n:Nat,a=n:=⟨a.toNat,by have:=ha.1;omega⟩
 obtain⟨m,rfl⟩:∃ m:Nat,b=m:=⟨b.toNat,by have:=hb.1;omega⟩
 have hn:n<2 ^ 32:=by have:=ha.2;omega
 have hm:m<2 ^ 32:=by have:=hb.2;omega
 unfold oV
 have h:(BitVec.ofInt i64.bits (n:Int) ^^^ BitVec.ofInt i64.bits (m:Int)).toNat<2 ^ 32:=by
  rw[BitVec.toNat_xor]
  have e1:(BitVec.ofInt i64.bits (n:Int)).toNat=n:=by
   rw[BitVec.toNat_ofInt];show((n:Int) % ((2 ^ 64:Nat):Int)).toNat=n;omega
  have e2:(BitVec.ofInt i64.bits (m:Int)).toNat=m:=by
   rw[BitVec.toNat_ofInt];show((m:Int) % ((2 ^ 64:Nat):Int)).toNat=m;omega
  rw[e1,e2];exact Nat.xor_lt_two_pow hn hm
 generalize (BitVec.ofInt i64.bits (n:Int) ^^^ BitVec.ofInt i64.bits (m:Int)).toNat=k at h
 have e:i64.wrap (k:Int)=k:=by rw[IntKind.wrap_i64];omega
 rw[e];exact⟨by omega,by omega⟩
theorem JU{x:Int}(h:rP x):rP (pS x):=by
 have hd:0≤x.tdiv 2∧x.tdiv 2<4294967296:=by
  have h1:=h.1;have h2:=h.2
  rw[Int.tdiv_eq_ediv_of_nonneg h1];omega
 have hw:i64.wrap (x.tdiv 2)=x.tdiv 2:=by rw[IntKind.wrap_i64];omega
 unfold pS
 rw[hw]
 cases (x.tmod 2)==1 with
 | true=>exact G7 hd ⟨by omega,by omega⟩
 | false=>exact hd
theorem yO{x:Int}(h:rP x):∀ k,rP (eV k x)
 | 0=>h
 | k+1=>JU (yO h k)
theorem EX{bs:List aX}(h:∀ b∈bs,rP b.1):∀ i,i≤bs.length→rP (mW bs i)
 | 0,_=>⟨by show(0:Int)≤4294967295;omega,by show(4294967295:Int)<4294967296;omega⟩
 | i+1,hi=>by
  have hb:=h _ (c6 (xs:=bs) (i:=i) (by omega))
  have hw:i64.wrap (gt bs i).1=(gt bs i).1:=by have h1:=hb.1;have h2:=hb.2;rw[IntKind.wrap_i64];omega
  show rP (eV 8 (oV .i64 (mW bs i) (i64.wrap (gt bs i).1)))
  rw[hw]
  exact yO (G7 (EX h i (by omega)) hb) 8
theorem L9{bs:List aX}(h:∀ b∈bs,rP b.1):rP (crc bs):=by
 unfold crc
 exact G7 (EX h _ (Nat.le_refl _)) ⟨by omega,by omega⟩
def B32(bs:List aX):Prop:=∀ b∈bs,rP b.1
theorem B32.app{a b:List aX}(ha:B32 a)(hb:B32 b):B32 (a++b):=fun x hx=>by
 rcases List.mem_append.1 hx with h | h
 ·exact ha x h
 ·exact hb x h
theorem B32.flat{α:Type}{f:α→List aX}(h:∀ x,B32 (f x))(xs:List α):B32 (xs.flatMap f):=fun x hx=>by
 obtain⟨a,_,ha⟩:=List.mem_flatMap.1 hx
 exact h a x ha
theorem MS(n:Nat):B32 (oW n):=by
 induction n using Nat.strongRecOn with
 | _ n ih=>
  unfold oW
  split
  ·rename_i h
   intro b hb
   rw[List.mem_singleton.1 hb];exact⟨by show(0:Int)≤(n:Int);omega,by show(n:Int)<4294967296;omega⟩
  ·rename_i h
   intro b hb
   rcases List.mem_cons.1 hb with e | e
   ·rw[e];exact⟨by show(0:Int)≤((n % 128+128:Nat):Int);omega,by show((n % 128+128:Nat):Int)<4294967296;omega⟩
   ·exact ih (n / 128) (Nat.div_lt_self (by omega) (by omega)) b e
theorem f5(x:Int):B32 (aY x):=by
 unfold aY
 cases inB x 0 2147483647 with
 | false=>intro b hb;cases hb
 | true=>exact MS _
theorem FZ(t:ByteArray):B32 (fX t):=by
 unfold fX
 refine(f5 _).app fun b hb=>?_
 unfold pX eY at hb
 obtain⟨u,_,rfl⟩:=List.mem_map.1 hb
 have:=u.toNat_lt
 exact⟨by show(0:Int)≤((u.toNat:Nat):Int);omega,by show((u.toNat:Nat):Int)<4294967296;omega⟩
theorem J1(s:aH):B32 (kB s):=by
 unfold kB
 refine(((f5 _).app (B32.flat (fun x=>?_) _)).app (f5 _)).app (B32.flat (fun f=>?_) _)
 ·unfold bL;exact(((((f5 _).app (f5 _)).app (f5 _)).app (f5 _)).app (f5 _)).app (FZ _)
 ·unfold cN;exact(f5 _).app (f5 _)
theorem AA{x:Int}(h:rP x):inB (x.tmod 1024) 0 1023=true:=by
 rw[aS];have:=qA (x:=x) (n:=1024) h.1 (by omega);omega
theorem mB(s:aH)(k:Int):inB (gV s k) 0 1023=true:=by
 unfold gV
 cases aO s&&inB k 0 3 with
 | true=>exact AA (L9 (J1 _))
 | false=>rfl
theorem G8{s:aH}(h:aO s=true):treeB (bX s)=true:=by
 unfold bX;rw[h]
 show treeB (cR s,jZ (cR s),())=true
 have hr:inB (jZ (cR s)) 0 1023=true:=AA (L9 (B32.flat (fun x=>f5 _) _))
 have hl:kL (cR s) 1023=true:=bJ.2 fun i hi=>by
  match i,hi with
  | 0,_=>exact mB s 0
  | 1,_=>exact mB s 1
  | 2,_=>exact mB s 2
  | 3,_=>exact mB s 3
 unfold treeB
 rw[hl,hr];rfl
end Go.Abs
-- states as points of a lattice: plain laws
namespace Go.Abs
-- comparing one after another
structure Cmp {α:Type} (c:α→α→Int):Prop where
 neg:∀ a b,c b a= - c a b
 eq:∀ a b,c a b=0→a=b
 tr:∀ a b d,c a b≤0→c b d≤0→c a d≤0
theorem Cmp.self{α:Type}{c:α→α→Int}(h:Cmp c)(a:α):c a a=0:=by have:=h.neg a a;omega
theorem Cmp.lex{α β:Type}{c:α→α→Int}{d:β→β→Int}(hc:Cmp c)(hd:Cmp d):Cmp (fun(a b:α×β)=>if c a.1 b.1≠0 then c a.1 b.1 else d a.2 b.2) where
 neg a b:=by
  show(if c b.1 a.1≠0 then c b.1 a.1 else d b.2 a.2)= -(if c a.1 b.1≠0 then c a.1 b.1 else d a.2 b.2)
  rw[hc.neg a.1 b.1,hd.neg a.2 b.2];exact rE _ _
 eq a b h:=by
  have h:(if c a.1 b.1≠0 then c a.1 b.1 else d a.2 b.2)=0:=h
  by_cases h0:c a.1 b.1=0
  ·rw[if_neg (fun g=>g h0)] at h
   exact Prod.ext (hc.eq _ _ h0) (hd.eq _ _ h)
  ·rw[if_pos h0] at h;exact absurd h h0
 tr a b e h1 h2:=by
  have h1:(if c a.1 b.1≠0 then c a.1 b.1 else d a.2 b.2)≤0:=h1
  have h2:(if c b.1 e.1≠0 then c b.1 e.1 else d b.2 e.2)≤0:=h2
  show(if c a.1 e.1≠0 then c a.1 e.1 else d a.2 e.2)≤0
  have k2:c b.1 e.1≤0:=by
   by_cases h0:c b.1 e.1=0
   ·omega
   ·rw[if_pos h0] at h2;exact h2
  by_cases h0:c a.1 b.1=0
  ·rw[if_neg (fun g=>g h0)] at h1
   rw[hc.eq _ _ h0]
   by_cases g0:c b.1 e.1=0
   ·rw[if_neg (fun g=>g g0)] at h2 ⊢;exact hd.tr _ _ _ h1 h2
   ·rw[if_pos g0];exact k2
  ·rw[if_pos h0] at h1
   have k3:=hc.tr _ _ _ h1 k2
   by_cases g0:c a.1 e.1=0
   ·have e1:=hc.eq _ _ g0
    rw[← e1,hc.neg a.1 b.1] at k2;omega
   ·rw[if_pos g0];exact k3
theorem l2_cmp:Cmp l2 where
 neg:=v6
 eq a b h:=by
  unfold l2 at h
  by_cases h1:a<b
  ·rw[decide_eq_true h1] at h;cases h
  ·rw[decide_eq_false h1] at h
   by_cases h2:a>b
   ·rw[decide_eq_true h2] at h;cases h
   ·omega
 tr a b d h1 h2:=by
  have key:∀ x y:Int,l2 x y≤0↔x≤y:=fun x y=>by
   unfold l2
   by_cases h1:x<y
   ·rw[decide_eq_true h1];exact⟨fun _=>by omega,fun _=>by show(-1:Int)≤0;omega⟩
   ·rw[decide_eq_false h1]
    by_cases h2:x>y
    ·rw[decide_eq_true h2];exact⟨fun h=>by have h:(1:Int)≤0:=h;omega,fun _=>by omega⟩
    ·rw[decide_eq_false h2];exact⟨fun _=>by omega,fun _=>Int.le_refl 0⟩
  rw[key] at h1 h2 ⊢;omega
theorem EQ{x y:Int}(h:l2 x y≤0):x≤y:=by
 unfold l2 at h
 by_cases h1:x<y
 ·omega
 ·rw[decide_eq_false h1] at h
  by_cases h2:x>y
  ·rw[decide_eq_true h2] at h;have h:(1:Int)≤0:=h;omega
  ·omega
theorem LQ(x:Int):l2 x x=0:=l2_cmp.self x
theorem B5:∀ x y:List UInt8,Lib.compareBytes x y=0→x=y
 | [],[],_=>rfl
 | [],_::_,h=>by unfold Lib.compareBytes at h;omega
 | _::_,[],h=>by unfold Lib.compareBytes at h;omega
 | a::x,b::y,h=>by
  unfold Lib.compareBytes at h
  by_cases h1:a<b
  ·rw[if_pos h1] at h;omega
  ·rw[if_neg h1] at h
   by_cases h2:b<a
   ·rw[if_pos h2] at h;omega
   ·rw[if_neg h2] at h
    have e:a=b:=UInt8.toNat_inj.1 (by rw[UInt8.lt_iff_toNat_lt] at h1 h2;omega)
    rw[e,B5 x y h]
theorem B4:∀ x y z:List UInt8,Lib.compareBytes x y≤0→Lib.compareBytes y z≤0→Lib.compareBytes x z≤0
 | [],_,[],_,_=>by unfold Lib.compareBytes;omega
 | [],_,_::_,_,_=>by unfold Lib.compareBytes;omega
 | _::_,[],_,h,_=>by unfold Lib.compareBytes at h;omega
 | _::_,_::_,[],_,h=>by unfold Lib.compareBytes at h;omega
 | a ::x,b::y,c::z,h1,h2=>by
  unfold Lib.compareBytes at h1 h2 ⊢
  simp only[UInt8.lt_iff_toNat_lt] at h1 h2 ⊢
  by_cases c1:a.toNat<b.toNat
  ·by_cases c2:b.toNat<c.toNat
   ·rw[if_pos (by omega)];omega
   ·rw[if_neg c2] at h2
    by_cases c3:c.toNat<b.toNat
    ·rw[if_pos c3] at h2;omega
    ·rw[if_pos (by omega)];omega
  ·rw [if_neg c1] at h1
   by_cases c2:b.toNat<a.toNat
   ·rw[if_pos c2] at h1;omega
   ·rw[if_neg c2] at h1
    by_cases c3:b.toNat<c.toNat
    ·rw[if_pos (by omega)];omega
    ·rw[if_neg c3] at h2
     by_cases c4:c.toNat<b.toNat
     ·rw[if_pos c4] at h2;omega
     ·rw[if_neg c4] at h2
      rw[if_neg (by omega),if_neg (by omega)];exact B4 x y z h1 h2
theorem JX:Cmp (fun(a b:ByteArray×Unit)=>rN a.1 b.1) where
 neg a b:=sR _ _
 eq a b h:=by
  have h1:=B5 _ _ h
  obtain⟨⟨⟨x⟩⟩,u⟩:=a
  obtain⟨⟨⟨y⟩⟩,v⟩:=b
  have h1:x=y:=h1
  rw[h1]
 tr a b d h1 h2:=B4 _ _ _ h1 h2
theorem cmpE_cmp:Cmp fU:=l2_cmp.lex (l2_cmp.lex (l2_cmp.lex (l2_cmp.lex JX)))
def leE(a b:bE):Prop:=fU a b≤0
theorem lI(a:bE):leE a a:=Int.le_of_eq (cmpE_cmp.self a)
theorem GC{a b c:bE}(h1:leE a b)(h2:leE b c):leE a c:=cmpE_cmp.tr _ _ _ h1 h2
theorem GD(a b:bE):leE a b∨leE b a:=by unfold leE;have:=nX a b;omega
theorem mC{a b:bE}(h1:leE a b)(h2:leE b a):a=b:=cmpE_cmp.eq _ _ (by unfold leE at h1 h2;have:=nX a b;omega)
theorem kM{a b:bE}(h:leE a b):a.1≤b.1:=by
 unfold leE fU at h
 by_cases h0:l2 a.1 b.1=0
 ·exact EQ (by omega)
 ·rw[if_pos h0] at h;exact EQ h
theorem I0{a b:bE}(h:leE a b)(e:a.1=b.1):a.2.1≤b.2.1:=by
 unfold leE fU at h
 rw[e,if_neg (fun g=>g (LQ _))] at h
 by_cases h0:l2 a.2.1 b.2.1=0
 ·exact EQ (by omega)
 ·rw[if_pos h0] at h;exact EQ h
theorem G5{e:bE}(h:1≤e.1):leE cS e:=by unfold leE;rw[sO h];omega
theorem BA(a b:bE):leE a (mxE a b):=by
 unfold mxE
 by_cases h:fU a b<0
 ·rw[decide_eq_true h];show fU a b≤0;omega
 ·rw[decide_eq_false h];exact lI a
theorem IL(a b:bE):leE b (mxE a b):=by
 unfold mxE
 by_cases h:fU a b<0
 ·rw[decide_eq_true h];exact lI b
 ·rw[decide_eq_false h];show fU b a≤0;rw[nX a b];omega
theorem C1(a b:bE):mxE a b=a∨mxE a b=b:=by
 unfold mxE;cases decide (fU a b<0)
 ·exact .inl rfl
 ·exact .inr rfl
theorem IM{a b:bE}(h:leE a b):mxE a b=b:=mC (by rcases C1 a b with e | e<;>rw[e];exact h;exact lI b) (IL a b)
theorem EK{a b:bE}(h:leE b a):mxE a b=a:=mC (by rcases C1 a b with e | e<;>rw[e];exact lI a;exact h) (BA a b)
-- points
def ent(s:aH)(i:Int):bE:=(bC s i).1
def flo(s:aH)(i:Int):Int:=cI s.2.1 i
structure Pt (e:bE) (f:Int):Prop where
 nn:0≤f
 up:e=cS∨f<e.1
def nrm(m:bE)(f:Int):bE:=if f<m.1 then m else cS
theorem fO:cS.1=0:=rfl
theorem GJ{s:aH}(h:StateOk s){x:bM}(hx:x∈s.1):bC s x.1=(x.2,true):=by
 rcases eB s x.1 with ⟨y,hy,h1,e⟩ | ⟨h1,_⟩
 ·have:y=x:=by
   obtain⟨i,hi,rfl⟩:=iI hx
   obtain⟨j,hj,rfl⟩:=iI hy
   have hp:=h.items
   rw[List.pairwise_iff_getElem] at hp
   rcases Nat.lt_trichotomy i j with h2 | h2 | h2
   ·have:=hp i j hi hj h2;rw[← cV hi,← cV hj] at this;omega
   ·rw[h2]
   ·have:=hp j i hj hi h2;rw[← cV hi,← cV hj] at this;omega
  rw[e,this]
 ·exact absurd rfl (h1 x hx)
theorem JR{s:aH}(h:StateOk s){x:bM}(hx:x∈s.1):ent s x.1=x.2:=by unfold ent;rw[GJ h hx]
theorem BL{s:aH}(h:StateOk s){x:bM}(hx:x∈s.1):1≤x.2.1:=h.pos.item x hx
theorem lO{s:aH}(h:StateOk s)(i:Int):(1≤(ent s i).1∧(i,ent s i)∈s.1∧(bC s i).2=true∧dR (ent s i)=true)∨(ent s i=cS∧(bC s i).2=false):=by
 unfold ent
 rcases eB s i with ⟨x,hx,h1,e⟩ | ⟨h1,e⟩
 ·rw[e];subst h1;exact .inl ⟨BL h hx,hx,rfl,(h.item x hx).2.1⟩
 ·rw[e];exact .inr ⟨rfl,rfl⟩
theorem mR{s:aH}(h:StateOk s)(i:Int):Pt (ent s i) (flo s i):=by
 refine⟨(mJ h i).1,?_⟩
 rcases lO h i with ⟨_,h2,_⟩ | ⟨h2,_⟩
 ·exact .inr (h.item _ h2).2.2
 ·exact .inl h2
theorem z3{α:Type}{k:α→Int}:∀ {a b:List α},a.Pairwise (fun x y=>k x<k y)→b.Pairwise (fun x y=>k x<k y)→(∀ x,x∈a↔x∈b)→a=b
 | [],[],_,_,_=>rfl
 | [],y::_,_,_,h=>by have:=(h y).2 (List.mem_cons_self ..);cases this
 | x::_,[],_,_,h=>by have:=(h x).1 (List.mem_cons_self ..);cases this
 | x::a,y::b,ha,hb,h=>by
  rw[List.pairwise_cons] at ha hb
  have e:x=y:=by
   rcases List.mem_cons.1 ((h x).1 (List.mem_cons_self ..))with e | e
   ·exact e
   ·rcases List.mem_cons.1 ((h y).2 (List.mem_cons_self ..))with e2 | e2
    ·exact e2.symm
    ·have h1:=hb.1 x e;have h2:=ha.1 y e2;omega
  subst e
  rw[z3 ha.2 hb.2 fun z=>⟨fun hz=>?_,fun hz=>?_⟩]
  ·rcases List.mem_cons.1 ((h z).1 (List.mem_cons_of_mem _ hz))with e | e
   ·have:=ha.1 z hz;rw[e] at this;omega
   ·exact e
  ·rcases List.mem_cons.1 ((h z).2 (List.mem_cons_of_mem _ hz))with e | e
   ·have:=hb.1 z hz;rw[e] at this;omega
   ·exact e
theorem lF{i:Int}(h:dY i=true):∃ k:Nat,k<5∧i=k:=by
 unfold dY at h;rw[aS] at h
 exact⟨i.toNat,by omega,by omega⟩
theorem HK{a b:aH}(ha:StateOk a)(hb:StateOk b)(h:∀ i:Nat,i<5→ent a i=ent b i∧flo a i=flo b i):a=b:=by
 have key:∀ {a b:aH},StateOk a→StateOk b→(∀ i:Nat,i<5→ent a i=ent b i∧flo a i=flo b i)→∀ x,x∈a.1→x∈b.1:=by
  intro a b ha hb h x hx
  obtain⟨k,hk,e⟩:=lF (ha.item x hx).1
  have h1:=(h k hk).1
  rw[← e,JR ha hx] at h1
  rcases lO hb x.1 with ⟨_,h2,_⟩ | ⟨h2,_⟩
  ·rw[← h1] at h2;exact h2
  ·have:=BL ha hx;rw[h1,h2] at this;have:(1:Int)≤0:=this;omega
 have keyF:∀ {a b:aH},StateOk a→StateOk b→(∀ i:Nat,i<5→ent a i=ent b i∧flo a i=flo b i)→∀ x,x∈a.2.1→x∈b.2.1:=by
  intro a b ha hb h x hx
  obtain⟨k,hk,e⟩:=lF (ha.floor x hx).1
  have h1:=(h k hk).2
  have h3:flo a x.1=x.2.1:=zW ha hx
  have h4:=(ha.floor x hx).2
  rw[aS] at h4
  rw[← e,h3] at h1
  rcases eA b x.1 with ⟨y,hy,h5,h6⟩ | ⟨_,h6⟩
  ·have h6:flo b x.1=y.2.1:=h6
   have:y=x:=Prod.ext h5 (Prod.ext (by rw[← h6,← h1]) rfl)
   rw[← this];exact hy
  ·have h6:flo b x.1=0:=h6
   omega
 have h':∀ i:Nat,i<5→ent b i=ent a i∧flo b i=flo a i:=fun i hi=>⟨(h i hi).1.symm,(h i hi).2.symm⟩
 refine Prod.ext (z3 (k:=fun x:bM=>x.1) ha.items hb.items fun x=>⟨key ha hb h x,key hb ha h' x⟩) (Prod.ext (z3 (k:=fun x:aR=>x.1) ha.floors hb.floors fun x=>⟨keyF ha hb h x,keyF hb ha h' x⟩) rfl)
theorem lL{a b:aH}(ha:StateOk a){i:Nat}(hi:i<5):flo (cJ a b) i=max (flo a i) (flo b i):=by
 have hf:flr a b i=max (flo a i) (flo b i):=by unfold flr;rw[mU];rfl
 have h0:=JL (b:=b) ha.pos (i:Int)
 unfold flo
 rcases eA (cJ a b) i with ⟨x,hx,h1,e⟩ | ⟨h1,e⟩
 ·rw[e]
  obtain⟨j,_,hx⟩:=gT hx
  obtain⟨rfl,_⟩:=mG hx
  have:(j:Int)=(i:Int):=h1
  show flr a b (j:Int)=_
  rw[this];exact hf
 ·rw[e]
  by_cases h2:flr a b i>0
  ·refine absurd rfl (h1 ((i:Int),flr a b i,()) ?_)
   exact List.mem_flatMap.2 ⟨i,List.mem_range.2 hi,by rw[mF h2];exact List.mem_singleton.2 rfl⟩
  ·show 0=max (flo a i) (flo b i)
   omega
theorem lN(a b:aH){i:Nat}(hi:i<5):ent (cJ a b) i=nrm (mxE (ent a i) (ent b i)) (max (flo a i) (flo b i)):=by
 have hf:flr a b i=max (flo a i) (flo b i):=by unfold flr;rw[mU];rfl
 have hp:dT a b i=mxE (ent a i) (ent b i):=rfl
 rw[← hf,← hp]
 unfold ent nrm
 rcases eB (cJ a b) i with ⟨x,hx,h1,e⟩ | ⟨h1,e⟩
 ·rw[e]
  obtain⟨j,_,hx⟩:=gT hx
  obtain⟨rfl,h2⟩:=sJ hx
  have e2:(j:Int)=(i:Int):=h1
  rw[e2] at h2
  rw[if_pos h2];show dT a b (j:Int)=_;rw[e2]
 ·rw[e]
  by_cases h2:flr a b i<(dT a b i).1
  ·refine absurd rfl (h1 ((i:Int),dT a b i) ?_)
   exact List.mem_flatMap.2 ⟨i,List.mem_range.2 hi,by rw[fQ rfl h2];exact List.mem_singleton.2 rfl⟩
  ·rw[if_neg h2]
-- the order of points
def LeP(e:bE)(f:Int)(e':bE)(f':Int):Prop:=f≤f'∧(e.1≤f'∨leE e e')
theorem LeP.refl(e:bE)(f:Int):LeP e f e f:=⟨Int.le_refl f, .inr (lI e)⟩
theorem LeP.trans{e f e' f' e'' f''}(h:LeP e f e' f')(h':LeP e' f' e'' f''):LeP e f e'' f'':=by
 refine⟨Int.le_trans h.1 h'.1,?_⟩
 rcases h.2 with h2 | h2
 ·exact .inl (Int.le_trans h2 h'.1)
 ·rcases h'.2 with h3 | h3
  ·exact .inl (Int.le_trans (kM h2) h3)
  ·exact .inr (GC h2 h3)
theorem MW{m:bE}{f:Int}(h:Pt m f):nrm m f=m:=by
 unfold nrm
 rcases h.up with e | e
 ·have:=h.nn;rw[e,if_neg (by rw[fO];omega)]
 ·rw[if_pos e]
theorem EP{e f e' f'}(h:Pt e f)(h':Pt e' f'):(nrm (mxE e e') (max f f')=e'∧max f f'=f')↔LeP e f e' f':=by
 constructor
 ·rintro ⟨h1,h2⟩
  refine⟨by omega,?_⟩
  rw[h2] at h1
  by_cases h3:e.1≤f'
  ·exact .inl h3
  ·have h4:=kM (BA e e')
   unfold nrm at h1
   rw[if_pos (by omega)] at h1
   exact .inr (by have:=BA e e';rw[h1] at this;exact this)
 ·rintro ⟨h1,h2⟩
  have hm:max f f'=f':=by omega
  rw[hm]
  refine⟨?_,rfl⟩
  by_cases hl:leE e e'
  ·rw[IM hl];exact MW h'
  ·have h3:e.1≤f':=by rcases h2 with h2 | h2;exact h2;exact absurd h2 hl
   have h4:leE e' e:=by rcases GD e e' with h4 | h4;exact absurd h4 hl;exact h4
   rw[EK h4]
   unfold nrm
   rw[if_neg (by omega)]
   rcases h'.up with h5 | h5
   ·exact h5.symm
   ·have:=kM h4;omega
theorem DG{e f e' f'}:LeP e f (nrm (mxE e e') (max f f')) (max f f'):=by
 refine⟨by omega,?_⟩
 by_cases h:e.1≤max f f'
 ·exact .inl h
 ·have h4:=kM (BA e e')
  unfold nrm;rw[if_pos (by omega)];exact .inr (BA e e')
theorem DF{e f e' f'}:LeP e' f' (nrm (mxE e e') (max f f')) (max f f'):=by
 refine⟨by omega,?_⟩
 by_cases h:e'.1≤max f f'
 ·exact .inl h
 ·have h4:=kM (IL e e')
  unfold nrm;rw[if_pos (by omega)];exact .inr (IL e e')
theorem LP{e f e' f' e'' f''}(h0:0≤f'')(h:LeP e f e'' f'')(h':LeP e' f' e'' f''):LeP (nrm (mxE e e') (max f f')) (max f f') e'' f'':=by
 refine⟨by have:=h.1;have:=h'.1;omega,?_⟩
 unfold nrm
 split
 ·rcases C1 e e' with e1 | e1<;>rw[e1]
  ·exact h.2
  ·exact h'.2
 ·exact .inl h0
theorem zT{e f e' f'}(h:Pt e f)(h':Pt e' f')(h1:LeP e f e' f')(h2:LeP e' f' e f):e=e'∧f=f':=by
 have hf:f=f':=Int.le_antisymm h1.1 h2.1
 subst hf
 refine⟨?_,rfl⟩
 have hz:=h.nn
 rcases h.up with e0 | e0
 ·rcases h'.up with e1 | e1
  ·rw[e0,e1]
  ·rcases h2.2 with h3 | h3
   ·omega
   ·have:=kM h3;rw[e0,fO] at this;omega
 ·rcases h1.2 with h3 | h3
  ·omega
  ·rcases h2.2 with h4 | h4
   ·have:=kM h3;omega
   ·exact mC h3 h4
-- the order of states
structure Leq (a b:aH):Prop where
 oka:StateOk a
 okb:StateOk b
 le:∀ i:Nat,i<5→LeP (ent a i) (flo a i) (ent b i) (flo b i)
theorem nP{a b:aH}:C9 a b=true↔Leq a b:=by
 unfold C9
 rw[Bool.and_eq_true,Bool.and_eq_true,gK,aV,aV]
 constructor
 ·rintro ⟨ha,hb,e⟩
  refine⟨ha,hb,fun i hi=>(EP (mR ha _) (mR hb _)).1 ?_⟩
  rw[← lN a b hi,← lL ha hi,e];exact⟨rfl,rfl⟩
 ·rintro ⟨ha,hb,h⟩
  refine⟨ha,hb,HK (ha.join hb) hb fun i hi=>?_⟩
  rw[lN a b hi,lL ha hi]
  exact(EP (mR ha _) (mR hb _)).2 (h i hi)
theorem Leq.join{a b:aH}(h:Leq a b):cJ a b=b:=by
 have:=nP.2 h
 unfold C9 at this
 rw[Bool.and_eq_true,Bool.and_eq_true,gK] at this
 exact this.2.2
theorem Leq.refl{a:aH}(h:StateOk a):Leq a a:=⟨h,h,fun i _=>LeP.refl _ _⟩
theorem Leq.trans{a b c:aH}(h:Leq a b)(h':Leq b c):Leq a c:=⟨h.oka,h'.okb,fun i hi=>(h.le i hi).trans (h'.le i hi)⟩
theorem Leq.antisymm{a b:aH}(h:Leq a b)(h':Leq b a):a=b:=HK h.oka h.okb fun i hi=>zT (mR h.oka _) (mR h.okb _) (h.le i hi) (h'.le i hi)
theorem Leq.left{a b:aH}(ha:StateOk a)(hb:StateOk b):Leq a (cJ a b):=⟨ha,ha.join hb,fun i hi=>by rw[lN a b hi,lL ha hi];exact DG⟩
theorem Leq.right{a b:aH}(ha:StateOk a)(hb:StateOk b):Leq b (cJ a b):=⟨hb,ha.join hb,fun i hi=>by rw[lN a b hi,lL ha hi];exact DF⟩
theorem Leq.lub{a b c:aH}(h:Leq a c)(h':Leq b c):Leq (cJ a b) c:=⟨h.oka.join h'.oka,h.okb,fun i hi=>by rw[lN a b hi,lL h.oka hi];exact LP (mR h.okb _).nn (h.le i hi) (h'.le i hi)⟩
theorem DI{a b:aH}(ha:StateOk a)(hb:StateOk b):cJ a b=cJ b a:=
 Leq.antisymm (Leq.lub (Leq.right hb ha) (Leq.left hb ha)) (Leq.lub (Leq.right ha hb) (Leq.left ha hb))
theorem Leq.joinR{a b:aH}(h:Leq a b):cJ b a=b:=by rw[DI h.okb h.oka];exact h.join
theorem Leq.mono{a a' b b':aH}(h:Leq a a')(h':Leq b b'):Leq (cJ a b) (cJ a' b'):=Leq.lub (h.trans (Leq.left h.okb h'.okb)) (h'.trans (Leq.right h.okb h'.okb))
theorem vV:StateOk iA:=(aV _).1 oM
theorem Leq.nil{a:aH}(h:StateOk a):Leq iA a:=⟨vV,h,fun i _=>⟨(mR h _).nn, .inl (mR h _).nn⟩⟩
-- what is over at a point
def gN(e:bE)(f:Int):Int:=if 1≤e.1 then(if e.2.1=0 then e.1 - 1 else e.1)else f
theorem pQ{e:bE}(h:dR e=true):1≤e.1∧e.1≤1000∧(e.2.1=0∨e.2.1=1):=by
 unfold dR at h;simp only[Bool.and_eq_true,aS] at h;omega
theorem rH{s:aH}(h:StateOk s)(i:Int):gone s i=gN (ent s i) (flo s i):=by
 unfold gone gN
 rw[(aV s).2 h]
 rcases lO h i with ⟨h1,_,h3,h4⟩ | ⟨h2,h3⟩
 ·have h5:=pQ h4
  rw[h3,if_pos h1]
  show(bif(ent s i).2.1==0 then i64.wrap ((ent s i).1 - 1)else(ent s i).1)=_
  rcases h5.2.2 with e | e
  ·rw[e,if_pos rfl];show i64.wrap ((ent s i).1 - 1)=_;rw[IntKind.wrap_i64];omega
  ·rw[e,if_neg (by omega)];rfl
 ·rw[h3,h2,if_neg (by rw[fO];omega)];rfl
theorem BR{e:bE}{f:Int}(h:¬ 1≤e.1):gN e f=f:=by unfold gN;rw[if_neg h]
theorem BQ{e:bE}{f:Int}(h:1≤e.1)(h':e.2.1=0):gN e f=e.1 - 1:=by unfold gN;rw[if_pos h,if_pos h']
theorem BT{e:bE}{f:Int}(h:1≤e.1)(h':e.2.1≠0):gN e f=e.1:=by unfold gN;rw[if_pos h,if_neg h']
theorem wB{e:bE}{f:Int}(h:1≤e.1):e.1 - 1≤gN e f∧gN e f≤e.1:=by
 by_cases h':e.2.1=0
 ·rw[BQ h h'];omega
 ·rw[BT h h'];omega
theorem JG{e:bE}{f:Int}(h:Pt e f):f≤gN e f:=by
 by_cases h1:1≤e.1
 ·have h2:=wB (f:=f) h1
  rcases h.up with h3 | h3
  ·rw[h3,fO] at h1;omega
  ·omega
 ·rw[BR h1];omega
theorem DN{e f e' f'}(h:Pt e f)(h':Pt e' f')(hr:e.1=e'.1→e.2.1≠0→e.2.1≤e'.2.1→e'.2.1≠0)(hl:LeP e f e' f'):gN e f≤gN e' f':=by
 have g:=JG h'
 by_cases h1:1≤e.1
 ·have g1:=wB (f:=f) h1
  rcases hl.2 with h2 | h2
  ·omega
  ·have h3:=kM h2
   have h1':1≤e'.1:=by omega
   have g2:=wB (f:=f') h1'
   by_cases h4:e.1=e'.1
   ·by_cases h6:e.2.1=0
    ·rw[BQ h1 h6];omega
    ·rw[BT h1' (hr h4 h6 (I0 h2 h4))];omega
   ·omega
 ·rw[BR h1];have:=hl.1;omega
theorem Leq.gone{a b:aH}(h:Leq a b){i:Nat}(hi:i<5):gone a i≤Go.Abs.gone b i:=by
 rw[rH h.oka,rH h.okb]
 refine DN (mR h.oka _) (mR h.okb _) (fun h1 h2 h3=>?_) (h.le i hi)
 rcases lO h.oka i with ⟨_,_,_,h4⟩ | ⟨h4,_⟩
 ·have:=pQ h4;omega
 ·rw[h4] at h2;exact absurd rfl h2
end Go.Abs
-- pruning, tables and taking done twice: plain laws
namespace Go.Abs
theorem H9(f:Int)(h:0≤f):nrm cS f=cS:=by unfold nrm;rw[if_neg (by rw[fO];omega)]
theorem DR(s:aH)(t:List bQ){i:Nat}(hi:i<5):flo (eG s t) i=max 0 (min (dW t i) (gone s i)):=by
 have hm:mxI false (dW t i) (gone s i)=min (dW t i) (gone s i):=A9 _ _
 unfold flo
 rcases eA (eG s t) i with ⟨x,hx,h1,e⟩ | ⟨h1,e⟩
 ·rw[e]
  obtain⟨j,_,hx⟩:=gT hx
  unfold eL at hx
  cases hd:decide (mxI false (dW t j) (gone s j)>0)with
  | false=>rw[hd] at hx;cases hx
  | true=>
   rw[hd] at hx
   have e1:=List.mem_singleton.1 hx
   have h0:=of_decide_eq_true hd
   rw[e1] at h1 ⊢
   have h1:(j:Int)=(i:Int):=h1
   have h1:j=i:=by omega
   subst h1
   show mxI false (dW t j) (gone s j)=_
   omega
 ·rw[e]
  by_cases h2:mxI false (dW t i) (gone s i)>0
  ·refine absurd rfl (h1 ((i:Int),mxI false (dW t i) (gone s i),()) ?_)
   exact List.mem_flatMap.2 ⟨i,List.mem_range.2 hi,by unfold eL;rw[decide_eq_true h2];exact List.mem_singleton.2 rfl⟩
  ·omega
theorem DT(s:aH)(t:List bQ)(i:Int):ent (eG s t) i=cS:=by
 unfold ent
 rcases eB (eG s t) i with ⟨x,hx,h1,e⟩ | ⟨h1,e⟩
 ·cases hx
 ·rw[e]
theorem wE(s:aH)(t:List bQ):StateOk (eG s t):=(aV _).1 (nR s t)
theorem qR{s:aH}(h:StateOk s)(t:List bQ):prune s t=cJ s (eG s t):=by unfold prune;rw[(aV s).2 h];rfl
theorem sD{s:aH}(h:StateOk s)(t:List bQ):StateOk (prune s t):=(aV _).1 (vK ((aV s).2 h) t)
theorem GQ{e:bE}{f g:Int}(h:Pt e f)(hr:1≤e.1→e.2.1=0∨e.2.1=1)(hg:g≤gN e f):gN (nrm (mxE e cS) (max f g)) (max f g)=gN e f:=by
 have h0:=h.nn
 rcases h.up with e0 | e1
 ·rw[e0,IM (lI cS)]
  rw[H9 _ (by omega)]
  rw[e0] at hg
  unfold gN at hg ⊢
  rw[if_neg (by rw[fO];omega)] at hg
  rw[if_neg (by rw[fO];omega),if_neg (by rw[fO];omega)];omega
 ·rw[EK (G5 (by omega))]
  unfold nrm
  have h1:1≤e.1:=by omega
  have hgo:gN e f=if e.2.1=0 then e.1 - 1 else e.1:=by unfold gN;rw[if_pos h1]
  by_cases hc:max f g<e.1
  ·rw[if_pos hc,hgo];unfold gN;rw[if_pos h1]
  ·rw[if_neg hc]
   rw[hgo] at hg ⊢
   unfold gN;rw[if_neg (by rw[fO];omega)]
   rcases hr h1 with h2 | h2
   ·rw[if_pos h2] at hg;omega
   ·rw[if_neg (by omega)] at hg ⊢;omega
theorem JQ{s:aH}(h:StateOk s)(i:Int):1≤(ent s i).1→(ent s i).2.1=0∨(ent s i).2.1=1:=by
 intro h1
 rcases lO h i with ⟨_,_,_,h4⟩ | ⟨h4,_⟩
 ·exact(pQ h4).2.2
 ·rw[h4,fO] at h1;omega
theorem wA{s:aH}(h:StateOk s)(t:List bQ){i:Nat}(hi:i<5):gone (prune s t) i=gone s i:=by
 have hg:=LT ((aV s).2 h) (i:Int)
 rw[rH (sD h t),qR h,lN _ _ hi,lL h hi,DT,DR s t hi,rH h]
 rw[rH h] at hg
 exact GQ (mR h _) (JQ h _) (by omega)
theorem p0{α:Type}{g g':Nat→List α}:∀ {n:Nat},(∀ i,i<n→g i=g' i)→bH n g=bH n g'
 | 0,_=>rfl
 | n+1,h=>by rw[cY,cY,p0 (n:=n) fun i hi=>h i (by omega),h n (by omega)]
theorem wF{s s':aH}(t:List bQ)(h:∀ i:Nat,i<5→gone s i=gone s' i):eG s t=eG s' t:=by
 have:bH 5 (eL s t)=bH 5 (eL s' t):=p0 fun i hi=>by unfold eL;rw[h i hi]
 unfold eG;rw[this]
theorem xF{s s':aH}(h:∀ i:Nat,i<5→gone s i=gone s' i):cB s=cB s':=by
 unfold cB;exact p0 fun i hi=>by unfold f7;rw[h i hi]
theorem A1{s:aH}(h:StateOk s)(t:List bQ):prune (prune s t) t=prune s t:=by
 have hp:=sD h t
 rw[qR hp,wF (s:=prune s t) (s':=s) t fun i hi=>wA h t hi]
 refine Leq.joinR ?_
 rw[qR h];exact Leq.right h (wE s t)
theorem F1{s:aH}(h:StateOk s)(t:List bQ):Leq s (prune s t):=by rw[qR h];exact Leq.left h (wE s t)
theorem BF{s:aH}(h:StateOk s)(t:List bQ):cB (prune s t)=cB s:=xF fun i hi=>wA h t hi
-- rows that hold marks already
def J4(t:List bQ)(k j:Nat):Int:=(gt (gt t k).1 j).1
def Cov(t:List bQ)(k:Int)(ms:List aR):Prop:=∀ i,i<ms.length→(gt ms i).2.1≤J4 t k.toNat (gt ms i).1.toNat
def DoneT(t:List bQ)(k:Int)(ms:List aR):Prop:=kF t k ms=true→Cov t k ms
theorem D8{t t':List bQ}(hl:t.length=t'.length)(hr:∀ j,(gt t j).1.length=(gt t' j).1.length)(k:Int)(ms:List aR):kF t k ms=kF t' k ms:=by
 unfold kF;rw[hl,hr]
theorem CD(t:List bQ)(k k':Int)(ms ms':List aR):kF (bB t k' ms') k ms=kF t k ms:=
 D8 (cU t k' ms') (fun j=>eN t k' ms' j) k ms
theorem CB(r:bQ)(ms:List aR):∀ i j,(gt r.1 j).1≤(gt (iS r ms i).1 j).1
 | 0,_=>Int.le_refl _
 | i+1,j=>by
  have ih:=CB r ms i j
  show _≤(gt (List.set (iS r ms i).1 (gt ms i).1.toNat (mxI true (gt (iS r ms i).1 (gt ms i).1.toNat).1 (gt ms i).2.1,())) j).1
  rcases Nat.lt_or_ge (gt ms i).1.toNat (iS r ms i).1.length with h | h
  ·by_cases e:(gt ms i).1.toNat=j
   ·rw[e] at h ⊢
    rw[cC h]
    show _≤mxI true _ _
    rw[mU];omega
   ·rw[eC e];exact ih
  ·rw[List.set_eq_of_length_le h];exact ih
theorem s9(r:bQ){ms:List aR}(h:∀ i,i<ms.length→(gt ms i).1.toNat<r.1.length):∀ n,n≤ms.length→∀ i,i<n→(gt ms i).2.1≤(gt (iS r ms n).1 (gt ms i).1.toNat).1
 | 0,_,_,hi=>by omega
 | n+1,hn,i,hi=>by
  show _≤(gt (List.set (iS r ms n).1 (gt ms n).1.toNat (mxI true (gt (iS r ms n).1 (gt ms n).1.toNat).1 (gt ms n).2.1,())) (gt ms i).1.toNat).1
  have hl:(gt ms n).1.toNat<(iS r ms n).1.length:=by rw[jX];exact h n (by omega)
  by_cases e:(gt ms n).1.toNat=(gt ms i).1.toNat
  ·rw[e] at hl ⊢
   rw[cC hl]
   show _≤mxI true _ _
   rw[mU]
   by_cases c:i=n
   ·subst c;omega
   ·have:=s9 r h n (by omega) i (by omega);omega
  ·rw[eC e]
   exact s9 r h n (by omega) i (by
    rcases Nat.lt_or_ge i n with c | c
    ·exact c
    ·exact absurd (by rw[show i=n by omega]) e)
theorem CA{r:bQ}{ms:List aR}(h:∀ i,i<ms.length→(gt ms i).2.1≤(gt r.1 (gt ms i).1.toNat).1):∀ n,n≤ms.length→iS r ms n=r
 | 0,_=>rfl
 | n+1,hn=>by
  show vC (iS r ms n) (gt ms n)=r
  rw[CA h n (by omega)]
  have:=h n (by omega)
  unfold vC
  rw[mU,show max (gt r.1 (gt ms n).1.toNat).1 (gt ms n).2.1=(gt r.1 (gt ms n).1.toNat).1 by omega]
  show(r.1.set (gt ms n).1.toNat (gt r.1 (gt ms n).1.toNat),())=r
  rw[nD]
structure AddOk (t:List bQ) (k:Int) (ms:List aR):Prop where
 kn:k.toNat<t.length
 mok:dQ ms=true
 row:5≤(gt t k.toNat).1.length
theorem J7{t:List bQ}{k:Int}{ms:List aR}(hl:t.length≤aU)(h:kF t k ms=true):AddOk t k ms:=by
 unfold kF at h
 simp only[Bool.and_eq_true,Bool.not_eq_true',decide_eq_false_iff_not] at h
 exact⟨(kO hl h.1).1,h.2.1,by omega⟩
theorem AddOk.ids{t:List bQ}{k:Int}{ms:List aR}(h:AddOk t k ms):∀ i,i<ms.length→(gt ms i).1.toNat<(gt t k.toNat).1.length:=fun i hi=>by
 have h1:=q9 h.mok hi;have h2:=h.row;omega
theorem B9{t:List bQ}(hl:t.length≤aU)(k:Int)(ms:List aR):DoneT (bB t k ms) k ms:=by
 intro hb
 rw[CD] at hb
 have ho:=J7 hl hb
 intro i hi
 unfold J4 bB
 rw[hb]
 show _≤(gt (gt (bO t k.toNat ms ms.length) k.toNat).1 _).1
 unfold bO
 rw[cC ho.kn]
 exact s9 _ ho.ids _ (Nat.le_refl _) i hi
theorem NC(t:List bQ)(k:Int)(ms:List aR)(q j:Nat):J4 t q j≤J4 (bB t k ms) q j:=by
 unfold J4 bB
 cases kF t k ms with
 | false=>exact Int.le_refl _
 | true=>
  show _≤(gt (gt (bO t k.toNat ms ms.length) q).1 j).1
  unfold bO
  rcases Nat.lt_or_ge k.toNat t.length with h | h
  ·by_cases e:k.toNat=q
   ·subst e;rw[cC h];exact CB _ _ _ _
   ·rw[eC e];exact Int.le_refl _
  ·rw[List.set_eq_of_length_le h];exact Int.le_refl _
theorem DoneT.add{t:List bQ}{k:Int}{ms:List aR}(h:DoneT t k ms)(k':Int)(ms':List aR):DoneT (bB t k' ms') k ms:=fun hb i hi=>by
 rw[CD] at hb
 exact Int.le_trans (h hb i hi) (NC t k' ms' _ _)
theorem DoneT.eq{t:List bQ}{k:Int}{ms:List aR}(h:DoneT t k ms):bB t k ms=t:=by
 unfold bB
 cases hb:kF t k ms with
 | false=>rfl
 | true=>
  show bO t k.toNat ms ms.length=t
  unfold bO
  rw[CA (h hb) _ (Nat.le_refl _)]
  exact nD
-- vectors that are raised already
theorem mZ{v:List aX}(hl:v.length≤aU)(k n:Int):bU (bU v k n) k n=bU v k n:=by
 unfold bU
 cases hb:inB k 0 (i64.wrap (((v.length:Nat):Int) - 1))with
 | false=>show(bif inB k 0 (i64.wrap (((v.length:Nat):Int) - 1))then _ else v)=v;rw[hb];rfl
 | true=>
  have hk:=(kO hl hb).1
  show(bif inB k 0 (i64.wrap ((((v.set k.toNat (mxI true (gt v k.toNat).1 n,())).length:Nat):Int) - 1))then _ else _)=v.set k.toNat (mxI true (gt v k.toNat).1 n,())
  rw[List.length_set,hb]
  show(v.set _ _).set k.toNat (mxI true (gt (v.set k.toNat (mxI true (gt v k.toNat).1 n,())) k.toNat).1 n,())=_
  rw[cC hk,List.set_set]
  congr 2
  show mxI true (mxI true (gt v k.toNat).1 n) n=mxI true (gt v k.toNat).1 n
  rw[mU,mU];omega
theorem z7(v:List aX)(k n:Int)(j:Nat):(gt v j).1≤(gt (bU v k n) j).1:=by
 rcases m4 v k n j with e | e<;>rw[e]<;>omega
-- rises that are up to date
def RisesUp(rs:List iT)(xs:List bM):Prop:=∀ i,i<xs.length→mQ (gt rs (gt xs i).1.toNat) (gt xs i).2=false
theorem FM(clock:Int)(r:iT)(e:bE):mQ (kU clock r e) e=false:=by
 unfold kU
 cases h:mQ r e with
 | false=>exact h
 | true=>unfold mQ;simp
theorem RisesUp.eq{clock:Int}{rs:List iT}{xs:List bM}(h:RisesUp rs xs):∀ n,n≤xs.length→cG clock rs xs n=rs
 | 0,_=>rfl
 | n+1,hn=>by
  show(cG clock rs xs n).set (gt xs n).1.toNat (kU clock (gt (cG clock rs xs n) (gt xs n).1.toNat) (gt xs n).2)=rs
  rw[h.eq n (by omega)]
  unfold kU
  rw[h n (by omega)]
  exact nD
theorem xQ{clock:Int}{rs:List iT}{xs:List bM}(hl:∀ i,i<xs.length→(gt xs i).1.toNat<rs.length)(hd:∀ i j,i<j→j<xs.length→(gt xs i).1.toNat≠(gt xs j).1.toNat):
  ∀ n,n≤xs.length→∀ i,i<n→mQ (gt (cG clock rs xs n) (gt xs i).1.toNat) (gt xs i).2=false
 | 0,_,_,hi=>by omega
 | n+1,hn,i,hi=>by
  show mQ (gt ((cG clock rs xs n).set (gt xs n).1.toNat (kU clock (gt (cG clock rs xs n) (gt xs n).1.toNat) (gt xs n).2)) (gt xs i).1.toNat) (gt xs i).2=false
  by_cases c:i=n
  ·subst c
   rw[cC (by rw[f4];exact hl i (by omega))]
   exact FM _ _ _
  ·rw[eC (fun e=>hd i n (by omega) (by omega) e.symm)]
   exact xQ hl hd n (by omega) i (by omega)
theorem GI{s:aH}(h:StateOk s):(∀ i,i<s.1.length→(gt s.1 i).1.toNat<5)∧∀ i j,i<j→j<s.1.length→(gt s.1 i).1.toNat≠(gt s.1 j).1.toNat:=by
 refine⟨fun i hi=>?_,fun i j hij hj e=>?_⟩
 ·obtain⟨k,hk,e⟩:=lF (h.item _ (c6 hi)).1;omega
 ·obtain⟨k,hk,e1⟩:=lF (h.item _ (c6 (i:=i) (by omega))).1
  obtain⟨k',hk',e2⟩:=lF (h.item _ (c6 hj)).1
  have hp:=h.items
  rw[List.pairwise_iff_getElem] at hp
  have:=hp i j (by omega) hj hij
  rw[← cV (by omega),← cV hj] at this
  omega
-- a node at rest
structure Rest (x:NodeT):Prop where
 ok:StateOk x.state
 seen:DoneT x.seen x.1 (cB x.state)
 prune:prune x.state x.seen=x.state
 tree:bX x.state=x.tree
 rises:RisesUp x.rises x.state.1
theorem Rest.take{x:NodeT}(h:Rest x){s:aH}(hs:Leq s x.state):fI x s=x:=by
 have e1:cJ x.state s=x.state:=hs.joinR
 have e2:tkS x s=x.seen:=by unfold tkS;rw[e1];exact h.seen.eq
 have e3:tkP x s=x.state:=by unfold tkP;rw[e2,e1];exact h.prune
 have e4:tkR x s=x.rises:=by unfold tkR;rw[e3];exact h.rises.eq _ (Nat.le_refl _)
 unfold fI
 rw[e2,e4,e3,h.tree]
theorem uX{x:NodeT}(h:NodeOk x)(hl:x.seen.length≤aU){s:aH}(hs:StateOk s):Rest (fI x s):=by
 have hx:=(aV _).1 h.state
 have hj:=hx.join hs
 have e:(fI x s).state=tkP x s:=rfl
 have hm:cB (tkP x s)=cB (cJ x.state s):=BF hj _
 have hp:StateOk (tkP x s):=sD hj _
 refine⟨hp,?_,?_,rfl,?_⟩
 ·show DoneT (tkS x s) x.1 (cB (tkP x s))
  rw[hm];exact B9 hl _ _
 ·show prune (tkP x s) (tkS x s)=tkP x s
  exact A1 hj _
 ·show RisesUp (tkR x s) (tkP x s).1
  have hi:=GI hp
  have hr:=h.rises
  rw[beq_iff_eq] at hr
  exact fun i hi'=>xQ (fun i hi''=>by have:=hi.1 i hi'';omega) hi.2 _ (Nat.le_refl _) i hi'
theorem rR{x:NodeT}(h:NodeOk x){s:aH}(hs:StateOk s):Leq x.state (fI x s).state∧Leq s (fI x s).state:=by
 have hx:=(aV _).1 h.state
 have hj:=hx.join hs
 have hp:Leq (cJ x.state s) (fI x s).state:=F1 hj _
 exact⟨(Leq.left hx hs).trans hp,(Leq.right hx hs).trans hp⟩
-- hearing twice
structure Heard (x:NodeT) (m:MsgT):Prop where
 rest:Rest x
 acked:bU x.acked m.2.1 (mxI false (gt m.vec x.1.toNat).1 (cA x.log))=x.acked
 seen:DoneT x.seen m.2.1 m.marks
theorem Heard.eq{x:NodeT}{m:MsgT}(h:Heard x m):bP x m=x:=by
 have e:heard0 x m=x:=by
  unfold heard0
  rw[h.acked,h.seen.eq]
 unfold bP
 rw[e];exact h.rest.take (Leq.nil h.rest.ok)
theorem mE{x:NodeT}(h:NodeOk x)(hz:SzN x)(m:MsgT):Heard (bP x m) m:=by
 refine⟨uX (h.heard0 m) (oQ hz m).seen vV,mZ hz.acked _ _,?_⟩
 show DoneT (bB (bB x.seen m.2.1 m.marks) x.1 _) m.2.1 m.marks
 exact(B9 hz.seen _ _).add _ _
theorem Heard.take{x:NodeT}{m:MsgT}(h:Heard x m)(ho:NodeOk x)(hl:x.seen.length≤aU){s:aH}(hs:StateOk s):Heard (fI x s) m:=
 ⟨uX ho hl hs,h.acked,h.seen.add _ _⟩
theorem Heard.gotUp{x:NodeT}{m:MsgT}(h:Heard x m):Heard (gotUp x m) m:=⟨⟨h.rest.ok,h.rest.seen,h.rest.prune,h.rest.tree,h.rest.rises⟩,h.acked,h.seen⟩
theorem wT{x:NodeT}(h:NodeOk x)(hz:SzN x){m:MsgT}(hp:aO m.part=true):Heard (bF x m) m:=
 ((mE h hz m).take (h.heard m) (fP hz m).seen ((aV _).1 hp)).gotUp
def HN(x:NodeT)(g:List aX):NodeT:=
 (x.1,x.2.1,x.2.2.1,x.2.2.2.1,x.2.2.2.2.1,x.2.2.2.2.2.1,x.2.2.2.2.2.2.1,x.2.2.2.2.2.2.2.1,x.2.2.2.2.2.2.2.2.1,g,x.acked,x.seen,x.num,x.slots,x.sess,x.wait,x.limit,x.clock,x.rises,())
theorem BO{x:NodeT}(h:x.got.length≤aU)(m:MsgT):gotUp (gotUp x m) m=gotUp x m:=by
 show HN x (bU (bU x.got m.2.1 m.hi) m.2.1 m.hi)=HN x (bU x.got m.2.1 m.hi)
 rw[mZ h]
theorem wS{x:NodeT}(h:NodeOk x)(hz:SzN x){m:MsgT}(hp:aO m.part=true):bF (bF x m) m=bF x m:=by
 have hh:=wT h hz hp
 have h2:=(rR (h.heard m) ((aV _).1 hp)).2
 have e1:bP (bF x m) m=bF x m:=hh.eq
 have e2:fI (bF x m) m.part=bF x m:=hh.rest.take h2
 show gotUp (fI (bP (bF x m) m) m.part) m=bF x m
 rw[e1,e2]
 exact BO (x:=fI (bP x m) m.part) hz.got m
end Go.Abs
-- receiving twice, and what receiving keeps: plain laws
namespace Go.Abs
theorem v7{v:List c7}(h:(v.map jH).Nodup){i j:Nat}(hi:i<v.length)(hj:j<v.length)(e:jH (gt v i)=jH (gt v j)):i=j:=by
 unfold List.Nodup at h
 rw[List.pairwise_iff_getElem] at h
 simp only[List.length_map,List.getElem_map] at h
 rw[cV hi,cV hj] at e
 rcases Nat.lt_trichotomy i j with c | c | c
 ·exact absurd e (h i j hi hj c)
 ·exact c
 ·exact absurd e.symm (h j i hj hi c)
theorem IP{v:List c7}(hn:(v.map jH).Nodup){s:c7}(hs:s∈v):∃ k:Nat,k<v.length∧bW v s.1 s.2.2.1=(k:Int)∧gt v k=s:=by
 rcases dB v s.1 s.2.2.1 with ⟨k,hk,e,h⟩ | ⟨_,h⟩
 ·obtain⟨i,hi,rfl⟩:=iI hs
  have:=v7 hn hk hi (by rw[h];rfl)
  subst this
  exact⟨k,hk,e,rfl⟩
 ·exact absurd rfl (h s hs)
theorem RecOk.of_eq{x y:NodeT}{m:MsgT}(h:RecOk x m)(ho:NodeOk y)(h1:y.1=x.1)(h2:y.2.1=x.2.1):dM y m=true:=by
 unfold dM
 simp only[Bool.and_eq_true,beq_iff_eq,Bool.not_eq_true',decide_eq_false_iff_not]
 have h3:=h.frm
 refine⟨(eE y).2 ho,h.msg,?_,by rw[h2];omega,by rw[h2];exact h.vec⟩
 rw[h1];exact h.to
def FE(m:MsgT):c7:=(m.2.1,m.2.2.2.1,true,(0:Int),())
theorem AG{x:NodeT}(m:MsgT):FE m∈dU x m:=by
 unfold dU
 by_cases hc:bW x.sess m.2.1 true≥0
 ·rw[decide_eq_true hc]
  rcases dB x.sess m.2.1 true with ⟨k,hk,e,hg⟩ | ⟨e,_⟩
  ·show FE m∈iY x (bW x.sess m.2.1 true).toNat m.2.2.2.1
   rw[e]
   unfold iY jH at*
   rw[Prod.mk.injEq] at hg
   rw[Int.toNat_natCast,hg.1,hg.2]
   exact List.mem_set hk _
  ·omega
 ·rw[decide_eq_false hc]
  show FE m∈x.sess++[_]
  exact List.mem_append.2 (.inr (List.mem_singleton.2 rfl))
theorem xA{y:NodeT}{m:MsgT}(hn:(y.sess.map jH).Nodup)(hm:FE m∈y.sess):dU y m=y.sess∧dP y m=false:=by
 obtain⟨k,hk,e,hg⟩:=IP hn hm
 have e:bW y.sess m.2.1 true=(k:Int):=e
 have h0:bW y.sess m.2.1 true≥0:=by rw[e];omega
 refine⟨?_,?_⟩
 ·unfold dU
  rw[decide_eq_true h0]
  show iY y (bW y.sess m.2.1 true).toNat m.2.2.2.1=y.sess
  rw[e,Int.toNat_natCast]
  unfold iY
  rw[hg]
  show y.sess.set k (FE m)=y.sess
  rw[← hg];exact nD
 ·unfold dP;rw[decide_eq_true h0];rfl
theorem GW{v:List c7}(hn:(v.map jH).Nodup){k:Nat}(hk:k<v.length):bW (v.take k++v.drop (k+1)) (gt v k).1 (gt v k).2.2.1= -1:=by
 rcases dB (v.take k++v.drop (k+1)) (gt v k).1 (gt v k).2.2.1 with ⟨j,hj,_,e⟩ | ⟨e,_⟩
 ·exfalso
  have hm:=c6 hj
  rcases List.mem_append.1 hm with h1 | h1
  ·obtain⟨i,hi,e2⟩:=List.mem_take_iff_getElem.1 h1
   have hi2:i<k∧i<v.length:=by omega
   have e3:gt v i=gt (v.take k++v.drop (k+1)) j:=by rw[cV hi2.2];exact e2
   have:=v7 hn hi2.2 hk (by rw[e3,e];rfl)
   omega
  ·obtain⟨i,hi,e2⟩:=List.mem_drop_iff_getElem.1 h1
   have hi2:i+(k+1)<v.length:=by omega
   have e3:gt v (i+(k+1))=gt (v.take k++v.drop (k+1)) j:=by rw[cV hi2,← e2];congr 1;omega
   have:=v7 hn hi2 hk (by rw[e3,e];rfl)
   omega
 ·exact e
theorem GV{x:NodeT}(h:NodeOk x){m:MsgT}{b:Bool}(hf:¬ dK x m b<0):dK (gI x (dK x m b).toNat) m b<0:=by
 have hs:=(cP x).1 h.sess
 have hs1:bW x.sess m.2.1 b≥0:=by
  by_cases hc:bW x.sess m.2.1 b≥0
  ·exact hc
  ·exfalso;apply hf;unfold dK;rw[decide_eq_false hc];show bW x.sess m.2.1 b<0;omega
 have hfe:dK x m b=bW x.sess m.2.1 b:=by
  unfold dK at hf ⊢
  rw[decide_eq_true hs1] at hf ⊢
  cases hc:(gt x.sess (bW x.sess m.2.1 b).toNat).2.1 != m.2.2.2.1 with
  | true=>rw[hc] at hf;exact absurd (by show(-1:Int)<0;omega) hf
  | false=>rfl
 rcases dB x.sess m.2.1 b with ⟨k,hk,e,hg⟩ | ⟨e,_⟩
 ·rw[hfe,e,Int.toNat_natCast]
  unfold jH at hg
  rw[Prod.mk.injEq] at hg
  have h1:=GW hs.2.2 hk
  rw[hg.1,hg.2] at h1
  have h2:bW (gI x k).sess m.2.1 b= -1:=h1
  unfold dK
  rw[h2];show(-1:Int)<0;omega
 ·omega
theorem EH{x:NodeT}(h:NodeOk x)(m:MsgT):NodeOk (eK x m).1:=by
 unfold eK
 cases hr:dM x m with
 | false=>exact h
 | true=>
  have R:=iE hr
  show NodeOk (dS x m).1
  unfold dS
  cases m.1==0 with
  | true=>exact R.brought
  | false=>
   cases m.1==1 with
   | true=>exact h.heard m
   | false=>
    cases m.1==2 with
    | true=>
     show NodeOk (cF x m).1
     unfold cF
     cases hf:dP x m with
     | true=>exact h
     | false=>exact(R.syn hf).node.heard m
    | false=>
     cases decide (dK x m (m.1==4)<0)with
     | true=>exact h
     | false=>
      show NodeOk (cX x m _).1
      unfold cX
      cases m.1==5 with
      | true=>exact lK h _
      | false=>
       cases m.1==4 with
       | true=>exact(R.gone _).brought
       | false=>exact(R.gone _).brought
theorem MR(x:NodeT)(m:MsgT):(eK x m).1.2.1=x.2.1:=by
 unfold eK
 cases dM x m with
 | false=>rfl
 | true=>
  show(dS x m).1.2.1=_
  unfold dS
  cases m.1==0 with
  | true=>rfl
  | false=>
   cases m.1==1 with
   | true=>rfl
   | false=>
    cases m.1==2 with
    | true=>show(cF x m).1.2.1=_;unfold cF;cases dP x m<;>rfl
    | false=>
     cases decide (dK x m (m.1==4)<0)with
     | true=>rfl
     | false=>
      show(cX x m _).1.2.1=_
      unfold cX
      cases m.1==5 with
      | true=>rfl
      | false=>cases m.1==4<;>rfl
/-- A message that was received is late or does nothing when it comes again. -/
def I1(m:MsgT):Bool:=m.1==3||(m.1==4||m.1==5)
theorem FO{x:NodeT}(hz:SzN x){m:MsgT}(h0:(eK x m).2.2=0):(eK (eK x m).1 m).1=(eK x m).1∧(eK (eK x m).1 m).2.2=bif I1 m then 2 else 0:=by
 cases hr:dM x m with
 | false=>rw[zJ hr] at h0;cases h0
 | true=>
  have R:=iE hr
  have hk5:0≤m.1∧m.1≤5:=by
   have:=R.msg;unfold iH l7 at this;simp only[Bool.and_eq_true,aS] at this;exact this.1.1
  have hN:=EH R.node m
  have hr2:dM (eK x m).1 m=true:=R.of_eq hN (KX x m) (MR x m)
  rw[qN hr2]
  rw[qN hr] at h0 hN ⊢
  unfold I1
  by_cases k0:m.1=0
  ·have e:dS x m=(bF x m,[BC (bF x m) 1 m.2.1 m.2.2.2.1],0):=by unfold dS;rw[k0];rfl
   have e':dS (bF x m) m=(bF (bF x m) m,[BC (bF (bF x m) m) 1 m.2.1 m.2.2.2.1],0):=by unfold dS;rw[k0];rfl
   rw[e,k0]
   show(dS (bF x m) m).1=bF x m∧_
   rw[e']
   exact⟨wS R.node hz R.part,rfl⟩
  by_cases k1:m.1=1
  ·have e:dS x m=(bP x m,[],0):=by unfold dS;rw[k1];rfl
   have e':dS (bP x m) m=(bP (bP x m) m,[],0):=by unfold dS;rw[k1];rfl
   rw[e,k1]
   show(dS (bP x m) m).1=bP x m∧_
   rw[e']
   exact⟨(mE R.node hz m).eq,rfl⟩
  by_cases k2:m.1=2
  ·have e:∀ y:NodeT,dS y m=cF y m:=fun y=>by unfold dS;rw[k2];rfl
   rw[e] at h0 hN ⊢
   rw[e,k2]
   cases hf:dP x m with
   | true=>unfold cF at h0;rw[hf] at h0;cases h0
   | false=>
    have e2:cF x m=(jN x m,[pL (jN x m) x m],0):=by unfold cF;rw[hf];rfl
    rw[e2] at hN ⊢
    have hm:FE m∈(jN x m).sess:=AG m
    obtain⟨s1,s2⟩:=xA ((cP _).1 hN.sess).2.2 hm
    have e3:cF (jN x m) m=(jN (jN x m) m,[pL (jN (jN x m) m) (jN x m) m],0):=by unfold cF;rw[s2];rfl
    show(cF (jN x m) m).1=jN x m∧(cF (jN x m) m).2.2=_
    rw[e3]
    refine⟨?_,rfl⟩
    show bP (withS (jN x m) (dU (jN x m) m)) m=jN x m
    rw[s1]
    have hh:Heard (jN x m) m:=mE (R.syn hf).node (lB hz (kK R.node m)) m
    exact hh.eq
  ·have hb:∀ y:NodeT,dS y m=bif decide (dK y m (m.1==4)<0)then(y,[],2)else cX y m (dK y m (m.1==4)).toNat:=fun y=>by
    unfold dS
    rw[beq_eq_false_iff_ne.2 k0,beq_eq_false_iff_ne.2 k1,beq_eq_false_iff_ne.2 k2];rfl
   have hl:(m.1==3||(m.1==4||m.1==5))=true:=by simp only[Bool.or_eq_true,beq_iff_eq];omega
   rw[hl]
   by_cases hf:dK x m (m.1==4)<0
   ·rw[hb,decide_eq_true hf] at h0;cases h0
   ·have e1:dS x m=cX x m (dK x m (m.1==4)).toNat:=by rw[hb,decide_eq_false hf];rfl
    have hg:=GV R.node hf
    have e2:dK (cX x m (dK x m (m.1==4)).toNat).1 m (m.1==4)<0:=by
     unfold cX
     cases m.1==5 with
     | true=>exact hg
     | false=>
      cases q:m.1==4 with
      | true=>rw[q] at hg;exact hg
      | false=>rw[q] at hg;exact hg
    rw[e1,hb,decide_eq_true e2]
    exact⟨rfl,rfl⟩
theorem HW{x:NodeT}{m:MsgT}(h:(eK x m).2.2≠0):(eK x m).1=x:=by
 unfold eK at h ⊢
 cases hr:dM x m with
 | false=>rfl
 | true=>
  rw[hr] at h
  have h:(dS x m).2.2≠0:=h
  show(dS x m).1=x
  unfold dS at h ⊢
  cases k0:m.1==0 with
  | true=>rw[k0] at h;exact absurd rfl h
  | false=>
   cases k1:m.1==1 with
   | true=>rw[k0,k1] at h;exact absurd rfl h
   | false=>
    cases k2:m.1==2 with
    | true=>
     rw[k0,k1,k2] at h
     have h:(cF x m).2.2≠0:=h
     show(cF x m).1=x
     unfold cF at h ⊢
     cases hf:dP x m with
     | true=>rfl
     | false=>rw[hf] at h;exact absurd rfl h
    | false=>
     rw[k0,k1,k2] at h
     cases hf:decide (dK x m (m.1==4)<0)with
     | true=>rfl
     | false=>
      rw[hf] at h
      have h:(cX x m (dK x m (m.1==4)).toNat).2.2≠0:=h
      exfalso;apply h
      unfold cX
      cases m.1==5 with
      | true=>rfl
      | false=>cases m.1==4<;>rfl
-- what receiving keeps
def VLe(a b:List aX):Prop:=a.length=b.length∧∀ i,(gt a i).1≤(gt b i).1
theorem VLe.refl(a:List aX):VLe a a:=⟨rfl,fun _=>Int.le_refl _⟩
theorem VLe.trans{a b c:List aX}(h:VLe a b)(h':VLe b c):VLe a c:=⟨h.1.trans h'.1,fun i=>Int.le_trans (h.2 i) (h'.2 i)⟩
theorem VLe.raise(v:List aX)(k n:Int):VLe v (bU v k n):=⟨(fD v k n).symm,z7 v k n⟩
structure Kept (x y:NodeT):Prop where
 state:Leq x.state y.state
 got:VLe x.got y.got
 acked:VLe x.acked y.acked
theorem NodeOk.st{x:NodeT}(h:NodeOk x):StateOk x.state:=(aV _).1 h.state
theorem Kept.refl{x:NodeT}(h:NodeOk x):Kept x x:=⟨Leq.refl h.st,VLe.refl _,VLe.refl _⟩
theorem Kept.trans{x y z:NodeT}(h:Kept x y)(h':Kept y z):Kept x z:=⟨h.state.trans h'.state,h.got.trans h'.got,h.acked.trans h'.acked⟩
theorem Kept.take{x:NodeT}(h:NodeOk x){s:aH}(hs:StateOk s):Kept x (fI x s):=⟨(rR h hs).1,VLe.refl _,VLe.refl _⟩
theorem Kept.heard{x:NodeT}(h:NodeOk x)(m:MsgT):Kept x (bP x m):=
 Kept.trans (y:=heard0 x m) ⟨Leq.refl h.st,VLe.refl _,VLe.raise _ _ _⟩ (Kept.take (h.heard0 m) vV)
theorem Kept.brought{x:NodeT}(h:NodeOk x){m:MsgT}(hp:aO m.part=true):Kept x (bF x m):=by
 have h1:=(Kept.heard h m).trans (Kept.take (h.heard m) ((aV _).1 hp))
 exact⟨h1.state,h1.got.trans (VLe.raise _ _ _),h1.acked⟩
theorem Kept.with{x:NodeT}(h:NodeOk x)(ss:List c7):Kept x (withS x ss):=⟨Leq.refl h.st,VLe.refl _,VLe.refl _⟩
theorem FS{x:NodeT}(h:NodeOk x)(m:MsgT):Kept x (eK x m).1:=by
 unfold eK
 cases hr:dM x m with
 | false=>exact Kept.refl h
 | true=>
  have R:=iE hr
  show Kept x (dS x m).1
  unfold dS
  cases m.1==0 with
  | true=>exact Kept.brought h R.part
  | false=>
   cases m.1==1 with
   | true=>exact Kept.heard h m
   | false=>
    cases m.1==2 with
    | true=>
     show Kept x (cF x m).1
     unfold cF
     cases hf:dP x m with
     | true=>exact Kept.refl h
     | false=>exact(Kept.with h _).trans (Kept.heard (R.syn hf).node m)
    | false=>
     cases decide (dK x m (m.1==4)<0)with
     | true=>exact Kept.refl h
     | false=>
      show Kept x (cX x m _).1
      unfold cX
      cases m.1==5 with
      | true=>exact Kept.with h _
      | false=>
       cases m.1==4 with
       | true=>exact(Kept.with h _).trans (Kept.brought (lK h _) R.part)
       | false=>exact(Kept.with h _).trans (Kept.brought (lK h _) R.part)
def sS(m:MsgT):Bool:=m.1==0||(m.1==3||m.1==4)
theorem mO{x:NodeT}(h:NodeOk x){m:MsgT}(hp:aO m.part=true):Leq m.part (bF x m).state:=(rR (h.heard m) ((aV _).1 hp)).2
theorem HX{x:NodeT}{m:MsgT}(h0:(eK x m).2.2=0)(hb:sS m=true):Leq m.part (eK x m).1.state:=by
 unfold sS at hb
 simp only[Bool.or_eq_true,beq_iff_eq] at hb
 unfold eK at h0 ⊢
 cases hr:dM x m with
 | false=>rw[hr] at h0;cases h0
 | true=>
  have R:=iE hr
  rw[hr] at h0
  have h0:(dS x m).2.2=0:=h0
  show Leq m.part (dS x m).1.state
  unfold dS at h0 ⊢
  by_cases k0:m.1=0
  ·rw[k0];exact mO R.node R.part
  ·rw[beq_eq_false_iff_ne.2 k0,beq_eq_false_iff_ne.2 (show m.1≠1 by omega),beq_eq_false_iff_ne.2 (show m.1≠2 by omega)] at h0 ⊢
   cases hf:decide (dK x m (m.1==4)<0)with
   | true=>rw[hf] at h0;cases h0
   | false=>
    show Leq m.part (cX x m (dK x m (m.1==4)).toNat).1.state
    unfold cX
    rw[beq_eq_false_iff_ne.2 (show m.1≠5 by omega)]
    cases m.1==4 with
    | true=>exact mO (lK R.node _) R.part
    | false=>exact mO (lK R.node _) R.part
-- what is answered
theorem HR{a b:List aX}(h:eJ a b=true):a=b:=by
 unfold eJ at h
 simp only[Bool.and_eq_true,beq_iff_eq,bJ] at h
 exact DS (by omega) fun i hi=>Prod.ext (by have:=h.2 i hi;simpa using this) rfl
theorem NodeOk.treeB{x:NodeT}(h:NodeOk x):treeB x.tree=true:=by
 have h1:=h.tree
 unfold p8 at h1
 rw[Bool.and_eq_true] at h1
 have e1:x.tree.1=(bX x.state).1:=HR h1.1
 have e2:x.tree.2.1=(bX x.state).2.1:=eq_of_beq h1.2
 have e:x.tree=bX x.state:=Prod.ext e1 (Prod.ext e2 rfl)
 rw[e];exact G8 h.state
theorem CG{v:List aX}{n:Int}(h:dX v n=true):kL v 100000=true∧((v.length:Nat):Int)=n∧1≤n∧n≤5:=by
 unfold dX at h
 simp only[Bool.and_eq_true,beq_iff_eq,aS] at h
 exact⟨h.2.2,h.2.1,h.1⟩
def rC(v:List aX):Bool:=bI v.length (tN v)
theorem DC{v:List aX}(h:v.Pairwise (fun a b:aX=>a.1<b.1))(hv:∀ a∈v,0≤a.1∧a.1≤3):rC v=true:=by
 unfold rC;rw[bJ]
 intro i hi
 unfold tN
 rw[Bool.and_eq_true,aS]
 refine⟨hv _ (c6 hi),?_⟩
 cases i with
 | zero=>rfl
 | succ j=>
  rw[List.pairwise_iff_getElem] at h
  have:=h j (j+1) (by omega) hi (by omega)
  rw[← cV (by omega),← cV hi] at this
  show(!decide ((gt v (j+1)).1≤(gt v j).1))=true
  rw[decide_eq_false (by omega)];rfl
theorem xH(a b:iP):rC (eT a b)=true:=by
 unfold eT
 cases a.2.1==b.2.1 with
 | true=>rfl
 | false=>
  have hm:∀ i,∀ x∈dE a b i,x.1=(i:Int):=fun i x hx=>by
   unfold dE at hx
   cases c1:((a.1.length:Nat):Int) != 4<;>rw[c1] at hx
   ·cases c2:((b.1.length:Nat):Int) != 4<;>rw[c2] at hx
    ·cases c3:(gt a.1 i).1 != (gt b.1 i).1<;>rw[c3] at hx
     ·cases hx
     ·rw[List.mem_singleton.1 hx]
    ·rw[List.mem_singleton.1 hx]
   ·rw[List.mem_singleton.1 hx]
  refine DC (lS (k:=fun x:aX=>x.1) (kP a b) hm 4) fun x hx=>?_
  obtain⟨i,hi,hx⟩:=gT hx
  rw[hm i x hx];omega
/-- A message that a right node writes is right. -/
theorem NodeOk.says {x:NodeT} (h:NodeOk x) {k to num:Int} {tree:iP} {leaves:List aX} {part:aH} (hk:0≤k∧k≤5) (ht:0≤to∧to≤4∧to≠x.1) (hn:inB num 0 100000=true)
  (hT:Go.Abs.treeB tree=true) (hl:rC leaves=true) (hp:aO part=true):
  iH (k,x.1,to,num,cA x.log,tree.1,tree.2.1,x.got,leaves,part.1,part.2.1,cB x.state,())=true:=by
 have hv:=CG h.got
 have hid:=h.id
 have hl2:=yE h.log
 rw[aS,IntKind.wrap_i64] at hid
 rw[aS] at hn
 unfold iH l7 dY
 simp only[Bool.and_eq_true,aS,Bool.not_eq_true',beq_eq_false_iff_ne,decide_eq_true_eq]
 exact⟨⟨hk,by show 0≤x.1∧x.1≤4;omega,by show 0≤to∧to≤4;omega,fun e=>ht.2.2 e.symm⟩,hl,hv.1,hn,hl2,hT,by show((x.got.length:Nat):Int)≤5;omega,hp,C3 _⟩
structure Ans (x:NodeT) (m q:MsgT):Prop where
 ok:iH q=true
 frm:q.2.1=x.1
 to:q.2.2.1=m.2.1
 num:q.2.2.2.1=m.2.2.2.1
theorem A4{x:NodeT}(h:NodeOk x)(ls:List aX)(seq:Int):aO (qV x ls seq)=true:=j8 (AK h.state ls) (AM h seq)
theorem F8{m:MsgT}(h:iH m=true):rC m.leaves=true:=by
 unfold iH at h;simp only[Bool.and_eq_true] at h;exact h.2.1
theorem RecOk.peer{x:NodeT}{m:MsgT}(h:RecOk x m):0≤m.2.1∧m.2.1≤4∧m.2.1≠x.1:=by
 have h1:=h.frm;have h2:=h.idn;exact⟨by omega,by omega,h.ne⟩
theorem GE{o x:NodeT}{m:MsgT}(h:NodeOk o)(e:o.1=x.1)(R:RecOk x m):Ans x m (I3 o x m):=
 ⟨h.says (x:=o) (tree:=([],0,())) (leaves:=m.leaves) (part:=qV o m.leaves (gt m.vec x.1.toNat).1) (k:=4) (by omega) (by have:=R.peer;rw[e];exact this) R.num rfl (F8 R.msg) (A4 h _ _),e,rfl,rfl⟩
theorem CU{o x:NodeT}{m:MsgT}(h:NodeOk o)(e:o.1=x.1)(R:RecOk x m):Ans x m (pL o x m):=
 ⟨h.says (x:=o) (tree:=o.tree) (leaves:=eT o.tree m.tree) (part:=qV o (eT o.tree m.tree) (gt m.vec x.1.toNat).1) (k:=3) (by omega) (by have:=R.peer;rw[e];exact this) R.num h.treeB (xH _ _) (A4 h _ _),e,rfl,rfl⟩
theorem BB{o x:NodeT}{m:MsgT}(h:NodeOk o)(e:o.1=x.1)(R:RecOk x m){k:Int}(hk:0≤k∧k≤5):Ans x m (BC o k m.2.1 m.2.2.2.1):=
 ⟨h.says (x:=o) (tree:=([],0,())) (leaves:=[]) (part:=iA) hk (by have:=R.peer;rw[e];exact this) R.num rfl rfl oM,e,rfl,rfl⟩
theorem KV{x:NodeT}{m:MsgT}:(eK x m).2.1.length≤1∧∀ q∈(eK x m).2.1,Ans x m q:=by
 have none:([]:List MsgT).length≤1∧∀ q∈([]:List MsgT),Ans x m q:=⟨Nat.zero_le _,fun q h=>by cases h⟩
 have one:∀ a:MsgT,Ans x m a→[a].length≤1∧∀ q∈[a],Ans x m q:=fun a h=>⟨Nat.le_refl _,fun q hq=>by rw[List.mem_singleton.1 hq];exact h⟩
 unfold eK
 cases hr:dM x m with
 | false=>exact none
 | true =>
  have R:=iE hr
  show(dS x m).2.1.length≤1∧∀ q∈(dS x m).2.1,Ans x m q
  unfold dS
  cases m.1==0 with
  | true=>exact one _ (BB (o:=bF x m) (x:=x) R.brought rfl R (k:=1) (by omega))
  | false=>
   cases m.1==1 with
   | true=>exact none
   | false=>
    cases m.1==2 with
    | true=>
     show(cF x m).2.1.length≤1∧∀ q∈(cF x m).2.1,Ans x m q
     unfold cF
     cases hf:dP x m with
     | true=>exact one _ (BB (o:=x) (x:=x) R.node rfl R (k:=5) (by omega))
     | false=>
      have hN:NodeOk (jN x m):=(R.syn hf).node.heard m
      exact one _ (CU (o:=jN x m) (x:=x) hN rfl R)
    | false=>
     cases decide (dK x m (m.1==4)<0)with
     | true=>exact none
     | false=>
      show(cX x m _).2.1.length≤1∧∀ q∈(cX x m _).2.1,Ans x m q
      unfold cX
      cases m.1==5 with
      | true=>exact none
      | false=>
       cases m.1==4 with
       | true=>exact none
       | false=>
        have hN:NodeOk (bF (gI x (dK x m false).toNat) m):=(R.gone _).brought
        exact one _ (GE (o:=bF (gI x (dK x m false).toNat) m) (x:=x) hN rfl R)
-- vectors compared
def atV(v:List aX)(i:Int):Int:=bif inB i 0 (i64.wrap (((v.length:Nat):Int) - 1))then(gt v i.toNat).1 else 0
def CI(a b:List aX):Bool:=bI a.length fun i=> !decide ((gt a i).1>atV b (i:Int))
theorem VLe.leq{a b:List aX}(h:VLe a b)(hl:b.length≤aU):CI a b=true:=by
 unfold CI;rw[bJ]
 intro i hi
 have h1:=h.1;have h2:=h.2 i
 unfold atV
 rw[aS.2 (by rw[IntKind.wrap_i64];unfold aU at hl;omega)]
 show(!decide ((gt a i).1>(gt b ((i:Int)).toNat).1))=true
 rw[Int.toNat_natCast,decide_eq_false (by omega)];rfl
end Go.Abs
/- Plain laws: worlds compared. -/
namespace Go.Abs
def gL{α:Type}(a b:List α):Bool:=((a.length:Nat):Int)==((b.length:Nat):Int)
theorem oP{α:Type}{a b:List α}:gL a b=true↔a.length=b.length:=by unfold gL;rw[beq_iff_eq];omega
def nE{α:Type}[Inhabited α](f:α→α→Bool)(a b:List α):Bool:=gL a b&&bI a.length fun i=>f (gt a i) (gt b i)
def sG(a b:bQ):Bool:=eJ a.1 b.1
def nU(x y:c7):Bool:=eM x.1 y.1&&(eM x.2.1 y.2.1&&(oX x.2.2.1 y.2.2.1&&(eM x.2.2.2.1 y.2.2.2.1&&true)))
def kY(x y:iT):Bool:=eM x.1 y.1&&(eM x.2.1 y.2.1&&(eM x.2.2.1 y.2.2.1&&true))
def y4(a b:iP):Bool:=eJ a.1 b.1&&a.2.1==b.2.1
def v5(a b:fA):Bool:=a.1==b.1&&(a.2.1==b.2.1&&nE dJ a.2.2.1 b.2.2.1)
def vT(a b:NodeT):Bool:=a.1==b.1&&(a.2.1==b.2.1&&(a.num==b.num&&(a.slots==b.slots&&(a.wait==b.wait&&(a.limit==b.limit&&(a.clock==b.clock&&(nE sG a.seen b.seen&&(dJ a.state b.state&&(y4 a.tree b.tree&&(v5 a.log b.log&&(eJ a.got b.got&&(eJ a.acked b.acked&&(nE nU a.sess b.sess&&nE kY a.rises b.rises)))))))))))))
def uN(a b:NodeT):Bool:=a.1==b.1&&(a.2.1==b.2.1&&(dJ a.state b.state&&(y4 a.tree b.tree&&(v5 a.log b.log&&(eJ a.got b.got&&(eJ a.acked b.acked&&(gL a.seen b.seen&&(a.num==b.num&&(a.slots==b.slots&&(a.wait==b.wait&&(a.limit==b.limit&&(a.clock==b.clock&&(gL a.sess b.sess&&(gL a.rises b.rises&&
 (bI a.seen.length (fun i=>sG (gt a.seen i) (gt b.seen i))&&(bI a.sess.length (fun i=>nU (gt a.sess i) (gt b.sess i))&&bI a.rises.length fun i=>kY (gt a.rises i) (gt b.rises i)))))))))))))))))
theorem IC(a b:NodeT):uN a b=vT a b:=by
 unfold uN vT nE;ac_rfl
end Go.Abs
