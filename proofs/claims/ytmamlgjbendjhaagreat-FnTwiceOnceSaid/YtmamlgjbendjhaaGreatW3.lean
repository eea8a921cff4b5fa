/- A by-value reading of the model, and its soundness, part 3. -/
import Derived.Test.YtmamlgjbendjhaaGreatW2
set_option linter.unusedVariables false
/- Plain laws: joins, what was said, what lies beneath, what is over. -/
open Go.IntKind (i64)
namespace Go.Abs
theorem vW(a b:Int):l2 b a= - l2 a b:=by
 unfold l2
 rcases Int.lt_trichotomy a b with h | h | h
 ·rw[decide_eq_true h,decide_eq_false (by omega:¬ b<a)];rfl
 ·subst h;rw[decide_eq_false (by omega:¬ a<a)];rfl
 ·rw[decide_eq_true h,decide_eq_false (by omega:¬ a<b)];rfl
theorem sK:∀ x y:List UInt8,Lib.compareBytes y x= - Lib.compareBytes x y
 | [],[]=>rfl
 | [],_::_=>rfl
 | _::_,[]=>rfl
 | a::x,b::y=>by
  unfold Lib.compareBytes
  by_cases h1:a<b
  ·have h2:¬ b<a:=fun h=>by rw[UInt8.lt_iff_toNat_lt] at h h1;omega
   simp[h1,h2]
  ·by_cases h2:b<a
   ·simp[h1,h2]
   ·simp[h1,h2,sK x y]
theorem qV(x y:Int):(if -x≠0 then -x else -y)= -(if x≠0 then x else y):=by
 by_cases h:x=0
 ·subst h;simp
 ·rw[if_pos h,if_pos (by omega)]
theorem nQ(a b:bE):fT b a= - fT a b:=by
 unfold fT
 rw[vW a.1 b.1,vW a.2.1 b.2.1,vW a.2.2.1 b.2.2.1,vW a.2.2.2.1 b.2.2.2.1,show rE b.2.2.2.2.1 a.2.2.2.2.1= - rE a.2.2.2.2.1 b.2.2.2.2.1 from sK _ _,qV,qV,qV,qV]
theorem sH{y:bE}(h:1≤y.1):fT cQ y= -1:=by
 have e:l2 cQ.1 y.1= -1:=by
  unfold l2;rw[decide_eq_true (show cQ.1<y.1 from by show(0:Int)<y.1;omega)];rfl
 unfold fT;rw[e];rfl
def orZ(z:Int)(ls:List aZ):Int:=match (List.range ls.length).find? (fun i=>(gt ls i).1 != 0)with
 | some i=>(gt ls i).1
 | none=>z
theorem AS(z:Int)(ls:List aZ):orZ z ls=(match ls.find? (fun x:aZ=>x.1 != 0)with | some x=>x.1 | none=>z):=by
 have h:=mE (fun x:aZ=>x.1 != 0) (fun x:aZ=>x.1) z ls
 unfold orZ
 cases h1:(List.range ls.length).find? (fun i=>(gt ls i).1 != 0)<;>cases h2:ls.find? (fun x:aZ=>x.1 != 0)<;>simp only[h1,h2] at h ⊢<;>exact h
theorem qO(z x:Int)(ls:List aZ):orZ z ((x,())::ls)=if x≠0 then x else orZ z ls:=by
 rw[AS,AS,List.find?_cons]
 by_cases h:x=0
 ·subst h;rfl
 ·have:((x,()):aZ).1 != 0:=by simpa using h
  rw[this,if_pos h]
def BI(a b:bE):List aZ:=[(l2 a.1 b.1,()),(l2 a.2.1 b.2.1,()),(l2 a.2.2.1 b.2.2.1,()),(l2 a.2.2.2.1 b.2.2.2.1,())]
theorem HO(a b:bE):orZ (rE a.2.2.2.2.1 b.2.2.2.2.1) (BI a b)=fT a b:=by
 unfold BI fT
 rw[qO,qO,qO,qO];rfl
theorem GI(x y:ByteArray):(bif Op.bytesLess (ByteArray.toList x) (ByteArray.toList y)then(-1:Int)else GM (!(Op.bytesLess (ByteArray.toList x) (ByteArray.toList y)||ByteArray.toList x==ByteArray.toList y)))=rE x y:=by
 rw[ByteArray.toList_eq,ByteArray.toList_eq];exact yJ _ _
/-- The cells of a state that a join leans on. -/
structure Pos (s:aH):Prop where
 item:∀ x∈s.1,1≤x.2.1
 floor:∀ f∈s.2.1,0≤f.2.1
theorem StateOk.pos{s:aH}(h:StateOk s):Pos s where
 item x hx:=by
  have:=(h.item x hx).2.1
  unfold dL at this;simp only[Bool.and_eq_true,aU] at this;omega
 floor f hf:=by have:=(h.floor f hf).2;rw[aU] at this;omega
theorem KP:Pos ([],[],()):=⟨fun x hx=>(List.not_mem_nil hx).elim,fun x hx=>(List.not_mem_nil hx).elim⟩
def mxE(a b:bE):bE:=bif decide (fT a b<0)then b else a
def dM(a b:aH)(i:Int):bE:=mxE (bC a i).1 (bC b i).1
def flr(a b:aH)(i:Int):Int:=mxI true (cG a.2.1 i) (cG b.2.1 i)
def cU(a b:aH)(i:Nat):List bN:=bif decide ((dM a b i).1>flr a b i)then[((i:Int),dM a b i)] else[]
def cM(a b:aH)(i:Nat):List aR:=bif decide (flr a b i>0)then[((i:Int),flr a b i,())] else[]
def cJ(a b:aH):aH:=(bG 5 (cU a b),bG 5 (cM a b),())
theorem oG(a b:aH)(i:Nat):(cU a b i).length≤1:=by unfold cU;cases decide ((dM a b i).1>flr a b i)<;>simp
theorem mA(a b:aH)(i:Nat):(cM a b i).length≤1:=by unfold cM;cases decide (flr a b i>0)<;>simp
theorem jQ(a b:aH):(cJ a b).1.length≤5∧(cJ a b).2.1.length≤5:=
 ⟨cW (n:=5) (L:=1) fun i _=>oG a b i,cW (n:=5) (L:=1) fun i _=>mA a b i⟩
theorem jY(a b:aH):SzS (cJ a b):=⟨Nat.le_trans (jQ a b).1 (by decide),Nat.le_trans (jQ a b).2 (by decide)⟩
theorem I2{a b:aH}(ha:Pos a)(i:Int):0≤flr a b i:=by
 have h:0≤cG a.2.1 i:=by
  rcases dV a i with ⟨x,hx,_,e⟩ | ⟨_,e⟩
  ·rw[e];exact ha.floor x hx
  ·omega
 unfold flr mxI;simp only[if_true];split<;>omega
theorem HZ:mxE cQ cQ=cQ:=by
 unfold mxE;cases decide (fT cQ cQ<0)<;>rfl
theorem KQ{a b:aH}{i:Int}(ha:bC a i=(cQ,false))(hb:bC b i=(cQ,false)):dM a b i=cQ:=by
 unfold dM;rw[ha,hb];exact HZ
theorem t9{a b:aH}{i:Int}{y:bE}(ha:bC a i=(cQ,false))(hb:bC b i=(y,true))(hy:1≤y.1):dM a b i=y:=by
 unfold dM mxE;rw[ha,hb];rw[show fT (cQ,false).1 (y,true).1= -1 from sH hy];rfl
theorem t8{a b:aH}{i:Int}{x:bE}(ha:bC a i=(x,true))(hb:bC b i=(cQ,false))(hx:1≤x.1):dM a b i=x:=by
 unfold dM mxE;rw[ha,hb];rw[show fT (x,true).1 (cQ,false).1=1 from by rw[show fT (x,true).1 (cQ,false).1= - fT cQ x from nQ cQ x,sH hx];rfl];rfl
theorem D2{a b:aH}{i:Int}{x y:bE}(ha:bC a i=(x,true))(hb:bC b i=(y,true)):dM a b i=bif decide (fT y x>0)then y else x:=by
 unfold dM mxE;rw[ha,hb]
 show(bif decide (fT x y<0)then y else x)=_
 rw[show decide (fT x y<0)=decide (fT y x>0)from ?_]
 rw[nQ x y]
 by_cases h:fT x y<0
 ·rw[decide_eq_true h,decide_eq_true (by omega)]
 ·rw[decide_eq_false h,decide_eq_false (by omega)]
theorem fP{a b:aH}{i:Nat}{e:bE}(he:dM a b i=e)(h:e.1>flr a b i):cU a b i=[((i:Int),e)]:=by
 unfold cU;rw[he,decide_eq_true h];rfl
theorem fQ{a b:aH}{i:Nat}{e:bE}(he:dM a b i=e)(h:¬ e.1>flr a b i):cU a b i=[]:=by
 unfold cU;rw[he,decide_eq_false h];rfl
theorem l7{a b:aH}{i:Nat}(h:flr a b i>0):cM a b i=[((i:Int),flr a b i,())]:=by
 unfold cM;rw[decide_eq_true h];rfl
theorem pG{a b:aH}{i:Nat}(h:¬ flr a b i>0):cM a b i=[]:=by
 unfold cM;rw[decide_eq_false h];rfl
theorem lG{s:aH}(hs:Pos s)(i:Int):(∃ x:bE,1≤x.1∧bC s i=(x,true))∨bC s i=(cQ,false):=by
 rcases dW s i with ⟨x,hx,_,e⟩ | ⟨_,e⟩
 ·exact .inl ⟨x.2,hs.item x hx,e⟩
 ·exact .inr e
-- less
def KY(a b:aH):Bool:=aO a&&(aO b&&eF (cJ a b) b)
-- over
def gone(s:aH)(id:Int):Int:=bif aO s then(bif(bC s id).2 then(bif(bC s id).1.2.1==0 then i64.wrap ((bC s id).1.1 - 1)else(bC s id).1.1)else cG s.2.1 id)else 0
-- what was said
def iK:aH:=([],[],())
def IL(g:Nat→aH):Nat→aH
 | 0=>iK
 | k+1=>cJ (IL g k) (g k)
theorem oA:SzS iK:=⟨Nat.zero_le _,Nat.zero_le _⟩
def CJ(w:gT)(i:Nat):aH:=(gt w.2.2.1 i).2
def NQ(w:gT):aH:=bif pU w then IL (CJ w) w.2.2.1.length else iK
def H5(w:gT)(node:Int):Nat→Int
 | 0=>0
 | k+1=>H5 w node k+GM ((gt w.2.2.1 k).1==node)
def H6(w:gT)(node:Int):Int:=H5 w node w.2.2.1.length
def C4(w:gT)(ls:List aZ):Nat→aH
 | 0=>iK
 | k+1=>bif inB (gt ls k).1 0 (i64.wrap (((w.2.2.1.length:Nat):Int) - 1))then cJ (C4 w ls k) (CJ w (gt ls k).1.toNat)else C4 w ls k
def MN(w:gT)(ls:List aZ):aH:=bif pU w then C4 w ls ls.length else iK
def LF(w:gT)(s:aH):List aZ:=bif pU w&&aO s then bG w.2.2.1.length (fun i=>bif KY (CJ w i) s then[((i:Int),())] else[])else[]
theorem MP{s:aH}(hs:aO s=true)(id:Int):gone s id=(bif(bC s id).2 then(bif(bC s id).1.2.1==1 then(bC s id).1.1 else i64.wrap ((bC s id).1.1 - 1))else cG s.2.1 id):=by
 unfold gone;rw[hs]
 rcases dW s id with ⟨x,hx,_,e⟩ | ⟨_,e⟩
 ·rw[e]
  obtain⟨i,hi,rfl⟩:=iA hx
  show(bif(gt s.1 i).2.2.1==0 then _ else _)=bif(gt s.1 i).2.2.1==1 then _ else _
  rcases KH hs hi with h | h<;>rw[h]<;>rfl
 ·rw[e];rfl
end Go.Abs
/- Plain laws: what the judges decide. -/
namespace Go.Abs
theorem BC{s:aH}(hs:aO s=false)(id:Int):gone s id=0:=by unfold gone;rw[hs];rfl
theorem nT{β:Type}{q r:Prop}[Decidable q][Decidable r]{x y:β}(h:q)(h':r):(bif decide q&&decide r then x else y)=x:=by
 rw[decide_eq_true h,decide_eq_true h'];rfl
-- own
-- views
-- heard
-- seen
theorem zP{s:aH}(h:StateOk s){f:aR}(hf:f∈s.2.1):cG s.2.1 f.1=f.2.1:=by
 rcases dV s f.1 with ⟨x,hx,h1,e⟩ | ⟨h1,_⟩
 ·have:x=f:=by
   obtain⟨i,hi,rfl⟩:=iA hx
   obtain⟨j,hj,rfl⟩:=iA hf
   have hp:=h.floors
   rw[List.pairwise_iff_getElem] at hp
   rcases Nat.lt_trichotomy i j with h2 | h2 | h2
   ·have:=hp i j hi hj h2;rw[← cZ hi,← cZ hj] at this;omega
   ·rw[h2]
   ·have:=hp j i hj hi h2;rw[← cZ hi,← cZ hj] at this;omega
  rw[e,this]
 ·exact absurd rfl (h1 f hf)
theorem LC{s:aH}(hs:aO s=true)(id:Int):0≤gone s id:=by
 have ok:=(aW s).1 hs
 unfold gone;rw[hs]
 rcases dW s id with ⟨x,hx,_,e⟩ | ⟨_,e⟩
 ·rw[e]
  have:=(ok.item x hx).2.1
  unfold dL at this;simp only[Bool.and_eq_true,aU] at this
  show 0≤(bif x.2.2.1==0 then i64.wrap (x.2.1 - 1)else x.2.1)
  rw[yU (by omega) (by omega)]
  cases x.2.2.1==0 with
  | false=>show 0≤x.2.1;omega
  | true=>show 0≤x.2.1 - 1;omega
 ·rw[e]
  show 0≤cG s.2.1 id
  rcases dV s id with ⟨x,hx,_,e⟩ | ⟨_,e⟩
  ·rw[e];exact ok.pos.floor x hx
  ·omega
-- J8, II, grown
def J8(w:gT):Bool:=pU w&&bK w.1.length fun i=>E5 (oS (gt w.1 i).state) (oS (NQ w))
def l0(s:aH)(id:Int):bE×Bool:=bC (oS s,[],()) id
def EB(w:gT)(id:Int):Nat→Int
 | 0=>0
 | k+1=>EB w id k+GM (l0 (gt w.1 k).state id).2
def II(w:gT)(id:Int):Int:=bif pU w then EB w id w.1.length else 0
end Go.Abs
/- Plain laws: differences of views applied, and what they are. -/
namespace Go.Abs
end Go.Abs
/- Plain laws: draws. -/
namespace Go.Abs
abbrev dI:=List aZ×Int×Int×Unit
structure CurOk (c:dI):Prop where
 len:c.1.length≤1048576
 lo:0≤c.2.1
 hi:c.2.1≤c.1.length
theorem uK(a:Int):0≤DQ .i64 a 255∧DQ .i64 a 255≤255:=by
 unfold DQ
 have h:(BitVec.ofInt i64.bits a&&& BitVec.ofInt i64.bits 255).toNat≤255:=by
  rw[BitVec.toNat_and];exact Nat.le_trans Nat.and_le_right (by decide)
 generalize (BitVec.ofInt i64.bits a&&& BitVec.ofInt i64.bits 255).toNat=m at h
 have e:i64.wrap (m:Int)=m:=by rw[IntKind.wrap_i64];omega
 rw[e];omega
theorem pZ{x n:Int}(hx:0≤x)(hn:0<n):0≤x.tmod n∧x.tmod n<n:=by
 rw[Int.tmod_eq_emod_of_nonneg hx]
 exact⟨Int.emod_nonneg _ (by omega),Int.emod_lt_of_pos _ hn⟩
theorem aG{β:Type}{o:Option Out}{A B:List Kd}{r:Row A}{s:Row B}{f:Rows [A]×Rows [B]→Option β}(h:o=some ⟨[⟨A,r⟩],[⟨B,s⟩]⟩):(o.bind (eL [A] [B])).bind f=f ((r,()),(s,())):=by
 rw[h];simp[eL,eK,iG];rfl
theorem wJ{β:Type}{o:Option Out}{A B:List Kd}{r:Row A}{s:Row B}{f:Rows [A,B]×Rows []→Option β}(h:o=some ⟨[⟨A,r⟩,⟨B,s⟩],[]⟩):(o.bind (eL [A,B] [])).bind f=f ((r,s,()),()):=by
 rw[h];simp[eL,eK,iG];rfl
/-- A loop whose rounds are told by what they keep. -/
theorem It.ex {ι σ:Type} {lvl:Nat} {c:Nat→Nat→ι→(σ→Option Out)→σ→Option Out} (Inv:Nat→σ→Prop) (Good:Out→Prop) (N:Nat)
  (hs:∀ i x,i<N→Inv i x→∃ y,Inv (i+1) y∧∀ n,lvl≤n→∀ aA a rec,c n aA a rec x=rec y)
  (he:∀ x,Inv N x→∃ o,Good o∧∀ n,lvl≤n→It (c n) x (fun _=>some o)):∀ (m j:Nat) x,j+m=N→Inv j x→∃ o,Good o∧∀ n,lvl≤n→It (c n) x (fun _=>some o)
 | 0,j,x,hj,hx=>he x ((show j=N by omega)▸hx)
 | m+1,j,x,hj,hx=>by
  obtain⟨y,hy,h⟩:=hs j x (by omega) hx
  obtain⟨o,ho,h'⟩:=It.ex Inv Good N hs he m (j+1) y (by omega) hy
  exact⟨o,ho,fun n hn=>It.next (fun aA a rec=>h n hn aA a rec) (h' n hn)⟩
def datas:List ByteArray:=[⟨#[]⟩,⟨#[97]⟩,⟨#[98]⟩,⟨#[97,98]⟩,⟨#[49,50,51,52,53,54,55,56]⟩,⟨#[49,50,51,52,53,54,55,56,57]⟩]
def JV(e:bE):Prop:=e.2.2.2.2.1∈datas
structure StD (k:Nat) (s:aH):Prop where
 a:s.1.length≤k
 b:s.2.1.length≤k
 data:∀ x∈s.1,JV x.2
theorem StD.sz{k:Nat}{s:aH}(h:StD k s)(hk:k≤1048576):SzS s:=⟨Nat.le_trans h.a hk,Nat.le_trans h.b hk⟩
theorem JX:JV cQ:=List.mem_cons_self ..
theorem tP{P:bE→Prop}(hz:P cQ){s:aH}(hs:∀ x∈s.1,P x.2)(i:Int):P (bC s i).1:=by
 unfold bC
 cases h:(List.range s.1.length).find? (fun j=>(gt s.1 j).1==i)with
 | none=>exact hz
 | some j=>
  have hj:=List.mem_range.1 (List.mem_of_find?_eq_some h)
  show P (gt s.1 j).2
  rw[cZ hj];exact hs _ (List.getElem_mem hj)
theorem iI{α:Type}{n:Nat}{g:Nat→List α}{x:α}(h:x∈bG n g):∃ i,i<n∧x∈g i:=by
 induction n with
 | zero=>exact(List.not_mem_nil h).elim
 | succ n ih=>
  rw[cV] at h
  rcases List.mem_append.1 h with h | h
  ·obtain⟨i,hi,hx⟩:=ih h;exact⟨i,by omega,hx⟩
  ·exact⟨n,by omega,h⟩
theorem F0{P:bE→Prop}(hz:P cQ){a b:aH}(ha:∀ x∈a.1,P x.2)(hb:∀ x∈b.1,P x.2):∀ x∈(cJ a b).1,P x.2:=by
 intro x hx
 obtain⟨i,_,hi⟩:=iI hx
 unfold cU at hi
 cases hc:decide ((dM a b (i:Int)).1>flr a b (i:Int))with
 | false=>rw[hc] at hi;exact(List.not_mem_nil hi).elim
 | true=>
  rw[hc] at hi
  have e:x=((i:Int),dM a b (i:Int)):=List.mem_singleton.1 hi
  subst e
  show P (dM a b (i:Int))
  unfold dM mxE
  cases decide (fT (bC a (i:Int)).1 (bC b (i:Int)).1<0)
  ·exact tP hz ha _
  ·exact tP hz hb _
theorem EC{j k:Nat}{a b:aH}(ha:StD j a)(hb:StD k b):StD 5 (cJ a b):=⟨(jQ a b).1,(jQ a b).2,F0 JX ha.data hb.data⟩
theorem vZ{β:Type}{A B:Prop}[Decidable A][Decidable B]{X R:β}(h:¬ A∨¬ B):(bif decide A then(bif decide B then X else R)else R)=R:=by
 by_cases a:A
 ·rcases h with h | h
  ·exact absurd a h
  ·rw[decide_eq_true a,decide_eq_false h];rfl
 ·rw[decide_eq_false a];rfl
/-- The loop of a new cursor, and what comes behind it. -/
theorem It.new {lvl:Nat} {c:Nat→Nat→Unit→(Int×Int→Option Out)→Int×Int→Option Out} (Good:Out→Prop) (b:List aZ) (hb:b.length≤1048576)
  (hs:∀ (i:Nat) (h:Int),i<b.length→i<4000→∃ h',∀ n,lvl≤n→∀ aA a rec,c n aA a rec (h,(i:Int))=rec (h',((i+1:Nat):Int)))
  (he:∀ (h i:Int),CurOk (b,0,h,())→(¬ i<((b.length:Nat):Int)∨¬ i<4000)→∃ o,Good o∧∀ n,lvl≤n→∃ M,∀ aA,M≤aA→∀ a rec,c n aA a rec (h,i)=some o) (h0:Int):
  ∃ o,Good o∧∀ n,lvl≤n→It (c n) (h0,(0:Int)) (fun _=>some o):=by
 refine It.ex (fun i y=>∃ h,y=(h,(i:Int))) Good (min b.length 4000) ?_ ?_ (min b.length 4000) 0 (h0,(0:Int)) (by omega) ⟨h0,rfl⟩
 ·rintro i y hi ⟨h,rfl⟩
  obtain⟨h',hh⟩:=hs i h (by omega) (by omega)
  exact⟨_,⟨h',rfl⟩,hh⟩
 ·rintro y ⟨h,rfl⟩
  obtain⟨o,ho,hh⟩:=he h ((min b.length 4000:Nat):Int) ⟨hb,by show(0:Int)≤0;omega,by show(0:Int)≤((b.length:Nat):Int);omega⟩ (by omega)
  refine⟨o,ho,fun n hn=>?_⟩
  obtain⟨M,hM⟩:=hh n hn
  refine⟨M+1,fun aA k hf hk a=>?_⟩
  obtain⟨k,rfl⟩:∃ k',k=k'+1:=⟨k - 1,by omega⟩
  exact hM aA (by omega) a _
end Go.Abs
-- marks, tables, taking and receiving: plain laws
namespace Go.Abs
abbrev MsgT:=Int×Int×Int×Int×Int×List aZ×Int×List aZ×List aZ×List bN×List aR×List aR×Unit
abbrev MsgT.hi(m:MsgT):Int:=m.2.2.2.2.1
abbrev MsgT.tree(m:MsgT):iO:=(m.2.2.2.2.2.1,m.2.2.2.2.2.2.1,())
abbrev MsgT.vec(m:MsgT):List aZ:=m.2.2.2.2.2.2.2.1
abbrev MsgT.leaves(m:MsgT):List aZ:=m.2.2.2.2.2.2.2.2.1
abbrev MsgT.part(m:MsgT):aH:=(m.2.2.2.2.2.2.2.2.2.1,m.2.2.2.2.2.2.2.2.2.2.1,())
abbrev MsgT.marks(m:MsgT):List aR:=m.2.2.2.2.2.2.2.2.2.2.2.1
structure SzM (m:MsgT):Prop where
 leaves:m.tree.1.length≤aS
 vec:m.vec.length≤aS
 list:m.leaves.length≤aS
 part:SzS m.part
 marks:m.marks.length≤aS
theorem mM(a b:Int):mxI true a b=max a b:=by unfold mxI;simp only[if_true];split<;>omega
theorem AW(a b:Int):mxI false a b=min a b:=by unfold mxI;simp only[Bool.false_eq_true,if_false];split<;>omega
-- lists in order
theorem oK{α:Type}{k:α→Int}{g:Nat→List α}(h1:∀ i,(g i).length≤1)(h:∀ i,∀ x∈g i,k x=(i:Int)):∀ n,(bG n g).Pairwise (fun x y=>k x<k y)
 | 0=>by rw[sV];exact List.Pairwise.nil
 | n+1=>by
  rw[cV,List.pairwise_append]
  refine⟨oK h1 h n,?_,fun x hx y hy=>?_⟩
  ·match hg:g n with
   | []=>exact List.Pairwise.nil
   | [x]=>exact List.pairwise_singleton _ _
   | x::y::t=>have:=h1 n;rw[hg] at this;simp at this
  ·obtain⟨i,hi,hx⟩:=iI hx
   rw[h i x hx,h n y hy];omega
theorem mC{s:aH}(h:StateOk s)(i:Int):0≤cG s.2.1 i∧cG s.2.1 i≤1000:=by
 rcases dV s i with ⟨x,hx,_,e⟩ | ⟨_,e⟩
 ·have:=(h.floor x hx).2;rw[aU] at this;rw[e];omega
 ·rw[e];omega
theorem pJ{s:aH}(h:StateOk s)(i:Int):(bC s i).1=cQ∨dL (bC s i).1=true:=by
 rcases dW s i with ⟨x,hx,_,e⟩ | ⟨_,e⟩
 ·rw[e];exact .inr (h.item x hx).2.1
 ·rw[e];exact .inl rfl
theorem HL{a b:aH}(ha:StateOk a)(hb:StateOk b)(i:Int):dM a b i=cQ∨dL (dM a b i)=true:=by
 unfold dM mxE
 cases decide (fT (bC a i).1 (bC b i).1<0)with
 | true=>exact pJ hb i
 | false=>exact pJ ha i
theorem I3{a b:aH}(ha:StateOk a)(hb:StateOk b)(i:Int):0≤flr a b i∧flr a b i≤1000:=by
 have h1:=mC ha i
 have h2:=mC hb i
 unfold flr;rw[mM];omega
theorem sB{a b:aH}{i:Nat}{x:bN}(h:x∈cU a b i):x=((i:Int),dM a b i)∧(dM a b i).1>flr a b i:=by
 unfold cU at h
 cases hd:decide ((dM a b i).1>flr a b i)with
 | false=>rw[hd] at h;cases h
 | true=>rw[hd] at h;exact⟨List.mem_singleton.1 h,of_decide_eq_true hd⟩
theorem l9{a b:aH}{i:Nat}{x:aR}(h:x∈cM a b i):x=((i:Int),flr a b i,())∧flr a b i>0:=by
 unfold cM at h
 cases hd:decide (flr a b i>0)with
 | false=>rw[hd] at h;cases h
 | true=>rw[hd] at h;exact⟨List.mem_singleton.1 h,of_decide_eq_true hd⟩
theorem zH{i:Nat}(h:i<5):dT (i:Int)=true:=by unfold dT;rw[aU];omega
theorem StateOk.join{a b:aH}(ha:StateOk a)(hb:StateOk b):StateOk (cJ a b) where
 item x hx:=by
  obtain⟨i,hi,hx⟩:=iI hx
  obtain⟨rfl,hg⟩:=sB hx
  have hf:=I3 ha hb (i:Int)
  refine⟨zH hi,?_,?_⟩
  ·rcases HL ha hb (i:Int)with e | e
   ·rw[e] at hg;have h0:(0:Int)>flr a b i:=hg;omega
   ·exact e
  ·show cG (cJ a b).2.1 (i:Int)<(dM a b i).1
   rcases dV (cJ a b) (i:Int)with ⟨f,hf',e1,e⟩ | ⟨_,e⟩
   ·obtain⟨j,_,hf'⟩:=iI hf'
    obtain⟨rfl,_⟩:=l9 hf'
    have:(j:Int)=(i:Int):=e1
    rw[e];show flr a b (j:Int)<_;rw[this];omega
   ·rw[e];omega
 items:=oK (k:=fun x:bN=>x.1) (oG a b) (fun i x hx=>by rw[(sB hx).1]) 5
 floor f hf:=by
  obtain⟨i,hi,hf⟩:=iI hf
  obtain⟨rfl,hg⟩:=l9 hf
  have:=I3 ha hb (i:Int)
  refine⟨zH hi,?_⟩
  rw[aU];show 1≤flr a b i∧flr a b i≤1000;omega
 floors:=oK (k:=fun x:aR=>x.1) (mA a b) (fun i x hx=>by rw[(l9 hx).1]) 5
theorem lE{a b:aH}(ha:aO a=true)(hb:aO b=true):aO (cJ a b)=true:=
 (aW _).2 (((aW _).1 ha).join ((aW _).1 hb))
theorem qQ:aO iK=true:=rfl
-- marks
def dK(ms:List aR):Bool:=bK ms.length (eS ms)
def A1(ms:List aR):Bool:=bK ms.length (gM ms)
theorem FU(ms:List aR):A1 ms=dK ms:=j8 fun i hi=>by unfold gM eS;ac_rfl
theorem CP(ms:List aR):aO ([],ms,())=dK ms:=by
 unfold aO dK;rw[show bK ([]:List bN).length (kI ([],ms,()))=true from rfl,Bool.true_and]
def f6(s:aH)(i:Nat):List aR:=bif decide (gone s i>0)then[((i:Int),gone s i,())] else[]
def cA(s:aH):List aR:=bG 5 (f6 s)
theorem lZ(s:aH)(i:Nat):(f6 s i).length≤1:=by unfold f6;cases decide (gone s i>0)<;>simp
theorem dU(s:aH):(cA s).length≤5:=cW (n:=5) (L:=1) fun i _=>lZ s i
theorem EF(s:aH)(i:Int):gone s i≤1000:=by
 cases hs:aO s with
 | false=>rw[BC hs];omega
 | true=>
  have h:=(aW s).1 hs
  have hf:=mC h i
  unfold gone;rw[hs]
  show(bif(bC s i).2 then _ else _)≤(1000:Int)
  cases h2:(bC s i).2 with
  | false=>exact hf.2
  | true=>
   have he:(bC s i).1.1≤1000∧0≤(bC s i).1.1:=by
    rcases pJ h i with e | e
    ·rw[e];show(0:Int)≤1000∧(0:Int)≤0;omega
    ·unfold dL at e;simp only[Bool.and_eq_true,aU] at e;omega
   show(bif(bC s i).1.2.1==0 then i64.wrap ((bC s i).1.1 - 1)else(bC s i).1.1)≤1000
   cases (bC s i).1.2.1==0 with
   | false=>exact he.1
   | true=>show i64.wrap ((bC s i).1.1 - 1)≤1000;rw[IntKind.wrap_i64];omega
theorem CR{s:aH}{i:Nat}{x:aR}(h:x∈f6 s i):x=((i:Int),gone s i,())∧gone s i>0:=by
 unfold f6 at h
 cases hd:decide (gone s i>0)with
 | false=>rw[hd] at h;cases h
 | true=>rw[hd] at h;exact⟨List.mem_singleton.1 h,of_decide_eq_true hd⟩
theorem yE{fs:List aR}(g:Nat→List aR)(he:fs=bG 5 g)(h1:∀ i,(g i).length≤1)(h:∀ i,∀ x∈g i,x.1=(i:Int)∧1≤x.2.1∧x.2.1≤1000):StateOk ([],fs,()) where
 item x hx:=by cases hx
 items:=List.Pairwise.nil
 floor f hf:=by
  have hf:f∈fs:=hf
  rw[he] at hf
  obtain⟨i,hi,hf⟩:=iI hf
  obtain⟨e,h2,h3⟩:=h i f hf
  exact⟨by rw[e];exact zH hi,aU.2 ⟨h2,h3⟩⟩
 floors:=by
  show fs.Pairwise _
  rw[he];exact oK (k:=fun x:aR=>x.1) h1 (fun i x hx=>(h i x hx).1) 5
theorem CQ(s:aH):dK (cA s)=true:=by
 rw[← CP]
 exact(aW _).2 (yE (f6 s) rfl (lZ s) fun i x hx=>by
  obtain⟨rfl,h⟩:=CR hx
  exact⟨rfl,h,EF s i⟩)
theorem qT{ms:List aR}(h:dK ms=true){i:Nat}(hi:i<ms.length):0≤(gt ms i).1∧(gt ms i).1≤4∧1≤(gt ms i).2.1∧(gt ms i).2.1≤1000:=by
 unfold dK at h
 have:=bI.1 h i hi
 unfold eS dT at this
 simp only[Bool.and_eq_true,aU] at this
 omega
-- tables
def uZ(r:bQ)(f:aR):bQ:=(r.1.set f.1.toNat (mxI true (gt r.1 f.1.toNat).1 f.2.1,()),())
def iM(r:bQ)(ms:List aR):Nat→bQ
 | 0=>r
 | i+1=>uZ (iM r ms i) (gt ms i)
def kA(t:List bQ)(k:Int)(ms:List aR):Bool:=inB k 0 (i64.wrap (((t.length:Nat):Int) - 1))&&(dK ms&& !decide ((((gt t k.toNat).1.length:Nat):Int)<5))
def bO(t:List bQ)(k:Nat)(ms:List aR)(i:Nat):List bQ:=t.set k (iM (gt t k) ms i)
def bB(t:List bQ)(k:Int)(ms:List aR):List bQ:=bif kA t k ms then bO t k.toNat ms ms.length else t
theorem jR(r:bQ)(ms:List aR):∀ i,(iM r ms i).1.length=r.1.length
 | 0=>rfl
 | i+1=>by show(List.set _ _ _).length=_;rw[List.length_set];exact jR r ms i
theorem cB{α:Type}[Inhabited α]{xs:List α}{i:Nat}(h:i<xs.length)(x:α):gt (xs.set i x) i=x:=by
 rw[cZ (by rw[List.length_set];exact h)];simp
theorem dX{α:Type}[Inhabited α]{xs:List α}{i j:Nat}(h:i≠j)(x:α):gt (xs.set i x) j=gt xs j:=by
 unfold gt;simp[h]
theorem m6{α:Type}[Inhabited α]{xs:List α}{i:Nat}:xs.set i (gt xs i)=xs:=by
 rcases Nat.lt_or_ge i xs.length with h | h
 ·rw[cZ h];exact List.set_getElem_self h
 ·exact List.set_eq_of_length_le h
theorem p0(t:List bQ)(k:Nat)(ms:List aR):bO t k ms 0=t:=m6
theorem cT(t:List bQ)(k:Int)(ms:List aR):(bB t k ms).length=t.length:=by
 unfold bB
 cases kA t k ms with
 | false=>rfl
 | true=>show(bO _ _ _ _).length=_;unfold bO;rw[List.length_set]
theorem kJ{k:Int}{n:Nat}(hn:n≤aS)(h:inB k 0 (i64.wrap ((n:Int) - 1))=true):k.toNat<n∧((k.toNat:Nat):Int)=k:=by
 rw[aU,IntKind.wrap_i64] at h;unfold aS at hn;omega
theorem eG(t:List bQ)(k:Int)(ms:List aR)(j:Nat):((gt (bB t k ms) j).1.length)=(gt t j).1.length:=by
 unfold bB
 cases hb:kA t k ms with
 | false=>rfl
 | true=>
  show(gt (bO t k.toNat ms ms.length) j).1.length=_
  unfold bO
  rcases Nat.lt_or_ge k.toNat t.length with h | h
  ·by_cases e:k.toNat=j
   ·subst e;rw[cB h,jR]
   ·rw[dX e]
  ·rw[List.set_eq_of_length_le h]
theorem BX{r:bQ}{ms:List aR}(hm:dK ms=true)(hr:∀ j,j<r.1.length→inB (gt r.1 j).1 0 1000=true):∀ i,i≤ms.length→∀ j,j<r.1.length→inB (gt (iM r ms i).1 j).1 0 1000=true
 | 0,_,j,hj=>hr j hj
 | i+1,hi,j,hj=>by
  have ih:=BX hm hr i (by omega)
  have hid:=qT hm (i:=i) (by omega)
  have hl:=jR r ms i
  show inB (gt (List.set (iM r ms i).1 (gt ms i).1.toNat (mxI true (gt (iM r ms i).1 (gt ms i).1.toNat).1 (gt ms i).2.1,())) j).1 0 1000=true
  by_cases e:(gt ms i).1.toNat=j
  ·subst e
   rw[cB (by omega)]
   have:=ih _ hj
   rw[aU] at this ⊢
   show 0≤mxI true _ _∧mxI true _ _≤1000
   rw[mM];omega
  ·rw[dX e];exact ih j hj
theorem mW{t:List bQ}{n k:Int}{ms:List aR}(ht:fU t n=true):fU (bB t k ms) n=true:=by
 unfold fU at ht ⊢
 simp only[Bool.and_eq_true] at ht ⊢
 obtain⟨h1,h2,h3⟩:=ht
 refine⟨h1,by rw[cT];exact h2,?_⟩
 rw[cT]
 rw[bI] at h3 ⊢
 intro j hj
 have h4:=h3 j hj
 unfold pF at h4 ⊢
 simp only[Bool.and_eq_true] at h4 ⊢
 rw[eG]
 refine⟨h4.1,?_⟩
 have h5:=bI.1 h4.2
 rw[bI]
 intro i hi
 unfold bB
 cases hb:kA t k ms with
 | false=>exact h5 i hi
 | true=>
  show inB (gt (gt (bO t k.toNat ms ms.length) j).1 i).1 0 1000=true
  unfold bO
  by_cases e:k.toNat=j
  ·subst e
   rw[cB hj]
   have hm:dK ms=true:=by unfold kA at hb;simp only[Bool.and_eq_true] at hb;exact hb.2.1
   exact BX hm h5 _ (Nat.le_refl _) i hi
  ·rw[dX e];exact h5 i hi
def iE(t:List bQ)(id:Int)(k:Nat):Bool:=inB id 0 (i64.wrap ((((gt t k).1.length:Nat):Int) - 1))
def eJ(t:List bQ)(id:Int):Nat→Int
 | 0=>0
 | k+1=>bif(k:Int)==0 then(gt (gt t k).1 id.toNat).1 else bif decide ((gt (gt t k).1 id.toNat).1<eJ t id k)then(gt (gt t k).1 id.toNat).1 else eJ t id k
def dR(t:List bQ)(id:Int):Int:=bif bK t.length (iE t id)then eJ t id t.length else 0
-- pruning
def eE(s:aH)(t:List bQ)(i:Nat):List aR:=bif decide (mxI false (dR t i) (gone s i)>0)then[((i:Int),mxI false (dR t i) (gone s i),())] else[]
def eA(s:aH)(t:List bQ):aH:=([],bG 5 (eE s t),())
def prune(s:aH)(t:List bQ):aH:=bif aO s then cJ s (eA s t)else s
theorem lU(s:aH)(t:List bQ)(i:Nat):(eE s t i).length≤1:=by unfold eE;cases decide (mxI false (dR t i) (gone s i)>0)<;>simp
theorem nK(s:aH)(t:List bQ):aO (eA s t)=true:=
 (aW _).2 (yE (eE s t) rfl (lU s t) fun i x hx=>by
  unfold eE at hx
  cases hd:decide (mxI false (dR t i) (gone s i)>0)with
  | false=>rw[hd] at hx;cases hx
  | true=>
   rw[hd] at hx
   have e:=List.mem_singleton.1 hx
   have h0:=of_decide_eq_true hd
   have hg:=EF s i
   rw[e];refine⟨rfl,h0,?_⟩
   show mxI false (dR t i) (gone s i)≤1000
   rw[AW];omega)
theorem tK(s:aH)(t:List bQ):SzS (eA s t):=⟨Nat.zero_le _,Nat.le_trans (cW (n:=5) (L:=1) fun i _=>lU s t i) (by decide)⟩
theorem vA{s:aH}(h:aO s=true)(t:List bQ):aO (prune s t)=true:=by
 unfold prune;rw[h];exact lE h (nK s t)
theorem HK{s:aH}(h:SzS s)(t:List bQ):SzS (prune s t):=by
 unfold prune;cases aO s with
 | false=>exact h
 | true=>exact jY _ _
-- vectors
def bU(v:List aZ)(k n:Int):List aZ:=bif inB k 0 (i64.wrap (((v.length:Nat):Int) - 1))then v.set k.toNat (mxI true (gt v k.toNat).1 n,())else v
theorem eZ(v:List aZ)(k n:Int):(bU v k n).length=v.length:=by
 unfold bU;cases inB k 0 (i64.wrap (((v.length:Nat):Int) - 1))with
 | false=>rfl
 | true=>exact List.length_set ..
theorem mT(v:List aZ)(k n:Int)(j:Nat):(gt (bU v k n) j).1=(gt v j).1∨(gt (bU v k n) j).1=max (gt v j).1 n:=by
 unfold bU;cases inB k 0 (i64.wrap (((v.length:Nat):Int) - 1))with
 | false=>exact .inl rfl
 | true=>
  show(gt (v.set _ _) j).1=_∨(gt (v.set _ _) j).1=_
  rcases Nat.lt_or_ge k.toNat v.length with h | h
  ·by_cases e:k.toNat=j
   ·subst e;rw[cB h];exact .inr (mM _ _)
   ·rw[dX e];exact .inl rfl
  ·rw[List.set_eq_of_length_le h];exact .inl rfl
theorem zY(v:List aZ){k n:Int}{j:Nat}(h:k.toNat≠j):gt (bU v k n) j=gt v j:=by
 unfold bU;cases inB k 0 (i64.wrap (((v.length:Nat):Int) - 1))with
 | false=>rfl
 | true=>exact dX h _
theorem sW{v:List aZ}{m k n:Int}(h:dS v m=true)(hn:n≤100000):dS (bU v k n) m=true:=by
 unfold dS at h ⊢
 simp only[Bool.and_eq_true] at h ⊢
 rw[eZ]
 refine⟨h.1,h.2.1,?_⟩
 have h3:=bI.1 h.2.2
 rw[bI]
 intro i hi
 have:=h3 i hi
 rw[aU] at this ⊢
 rcases mT v k n i with e | e<;>rw[e]<;>omega
end Go.Abs
-- taking and receiving: plain laws
namespace Go.Abs
-- rises
def mJ(r:iP)(e:bE):Bool:=decide (e.1>r.1)||(e.1==r.1&&decide (e.2.2.1>r.2.1))
def kO(clock:Int)(r:iP)(e:bE):iP:=bif mJ r e then(e.1,e.2.2.1,clock,())else r
def cE(clock:Int)(rs:List iP)(xs:List bN):Nat→List iP
 | 0=>rs
 | i+1=>(cE clock rs xs i).set (gt xs i).1.toNat (kO clock (gt (cE clock rs xs i) (gt xs i).1.toNat) (gt xs i).2)
theorem f0(clock:Int)(rs:List iP)(xs:List bN):∀ i,(cE clock rs xs i).length=rs.length
 | 0=>rfl
 | i+1=>by show(List.set _ _ _).length=_;rw[List.length_set];exact f0 clock rs xs i
def u6(clock:Int)(r:iP):Bool:=inB r.1 0 1000&&(inB r.2.1 0 100000&&inB r.2.2.1 0 clock)
theorem xK{clock:Int}(hc:0≤clock){rs:List iP}{s:aH}(hs:StateOk s)(h:∀ j,j<rs.length→u6 clock (gt rs j)=true):
  ∀ i,i≤s.1.length→∀ j,j<rs.length→u6 clock (gt (cE clock rs s.1 i) j)=true
 | 0,_,j,hj=>h j hj
 | i+1,hi,j,hj=>by
  have ih:=xK hc hs h i (by omega)
  have he:=(hs.item _ (dE (xs:=s.1) (i:=i) (by omega))).2.1
  show u6 clock (gt ((cE clock rs s.1 i).set (gt s.1 i).1.toNat (kO clock (gt (cE clock rs s.1 i) (gt s.1 i).1.toNat) (gt s.1 i).2)) j)=true
  by_cases e:(gt s.1 i).1.toNat=j
  ·rw[e,cB (by rw[f0];exact hj)]
   unfold kO
   cases mJ (gt (cE clock rs s.1 i) j) (gt s.1 i).2 with
   | false=>exact ih j hj
   | true=>
    unfold dL at he
    simp only[Bool.and_eq_true,aU] at he
    show u6 clock ((gt s.1 i).2.1,(gt s.1 i).2.2.2.1,clock,())=true
    unfold u6
    simp only[Bool.and_eq_true,aU]
    omega
  ·rw[dX e];exact ih j hj
-- a node with another state, other rows and rises
def tkS(x:NodeT)(s:aH):List bQ:=bB x.seen x.1 (cA (cJ x.state s))
def tkP(x:NodeT)(s:aH):aH:=prune (cJ x.state s) (tkS x s)
def tkR(x:NodeT)(s:aH):List iP:=cE x.clock x.rises (tkP x s).1 (tkP x s).1.length
def fF(x:NodeT)(s:aH):NodeT:=
 (x.1,x.2.1,(tkP x s).1,(tkP x s).2.1,(bX (tkP x s)).1,(bX (tkP x s)).2.1,x.2.2.2.2.2.2.1,x.2.2.2.2.2.2.2.1,x.2.2.2.2.2.2.2.2.1,x.got,x.acked,tkS x s,x.num,x.slots,x.sess,x.wait,x.limit,x.clock,tkR x s,())
theorem iR(a:List aZ):fG a a=true:=by
 unfold fG;simp[bK]
structure NodeOk (x:NodeT):Prop where
 n:inB x.2.1 1 5=true
 id:inB x.1 0 (i64.wrap (x.2.1 - 1))=true
 state:aO x.state=true
 tree:pX x=true
 log:eY x.log=true
 got:dS x.got x.2.1=true
 acked:dS x.acked x.2.1=true
 own:((gt x.got x.1.toNat).1==bZ x.log)=true
 seen:fU x.seen x.2.1=true
 ack:wS x=true
 num:inB x.num 0 100000=true
 clock:inB x.clock 0 100000=true
 slots:inB x.slots 1 4=true
 wait:inB x.wait 1 20=true
 limit:inB x.limit 1 50=true
 rises:((x.rises.length:Nat):Int)==5
 rise:bK x.rises.length (i8 x)=true
 sess:jT x=true
theorem eN(x:NodeT):dP x=true↔NodeOk x:=by
 unfold dP jW
 simp only[Bool.and_eq_true]
 constructor
 ·rintro ⟨h1,h2,h3,h4,h5,h6,h7,h8,h9,h10,h11,h12,h13,h14,h15,h16,h17,h18⟩
  exact⟨h1,h2,h3,h4,h5,h6,h7,h8,h9,h10,h11,h12,h13,h14,h15,h16,h17,h18⟩
 ·rintro ⟨h1,h2,h3,h4,h5,h6,h7,h8,h9,h10,h11,h12,h13,h14,h15,h16,h17,h18⟩
  exact⟨h1,h2,h3,h4,h5,h6,h7,h8,h9,h10,h11,h12,h13,h14,h15,h16,h17,h18⟩
theorem GT{x:NodeT}{s:aH}(h:NodeOk x)(hs:aO s=true):aO (tkP x s)=true:=vA (lE h.state hs) _
theorem NodeOk.take{x:NodeT}{s:aH}(h:NodeOk x)(hs:aO s=true):NodeOk (fF x s) where
 n:=h.n
 id:=h.id
 state:=GT h hs
 tree:=by
  show(fG (bX (tkP x s)).1 (bX (tkP x s)).1&&(bX (tkP x s)).2.1==(bX (tkP x s)).2.1)=true
  rw[iR];simp
 log:=h.log
 got:=h.got
 acked:=h.acked
 own:=h.own
 seen:=mW h.seen
 ack:=h.ack
 num:=h.num
 clock:=h.clock
 slots:=h.slots
 wait:=h.wait
 limit:=h.limit
 rises:=by
  show(((cE x.clock x.rises (tkP x s).1 (tkP x s).1.length).length:Nat):Int)==5
  rw[f0];exact h.rises
 rise:=by
  show bK (cE x.clock x.rises (tkP x s).1 (tkP x s).1.length).length _=true
  rw[f0,bI]
  intro i hi
  have hc:=h.clock;rw[aU] at hc
  exact xK hc.1 ((aW _).1 (GT h hs)) (fun j hj=>bI.1 h.rise j hj) _ (Nat.le_refl _) i hi
 sess:=h.sess
theorem B8(x:NodeT)(s:aH):SzS (tkP x s):=HK (jY _ _) _
theorem ES(s:aH):(bX s).1.length≤aS:=by
 unfold bX;cases aO s with
 | false=>exact Nat.zero_le _
 | true=>show 4≤aS;decide
theorem i7{x:NodeT}(h:SzN x)(s:aH):SzN (fF x s) where
 state:=B8 x s
 leaves:=ES _
 list:=h.list
 logs:=h.logs
 got:=h.got
 acked:=h.acked
 seen:=by show(tkS x s).length≤aS;unfold tkS;rw[cT];exact h.seen
 lines:=by
  intro i hi
  show(gt (tkS x s) i).1.length≤aS
  unfold tkS;rw[eG]
  exact h.lines i (by have:i<(tkS x s).length:=hi;unfold tkS at this;rw[cT] at this;exact this)
 sess:=h.sess
 rises:=by show(cE x.clock x.rises (tkP x s).1 (tkP x s).1.length).length≤aS;rw[f0];exact h.rises
-- hearing
def heard0(x:NodeT)(m:MsgT):NodeT:=
 (x.1,x.2.1,x.2.2.1,x.2.2.2.1,x.2.2.2.2.1,x.2.2.2.2.2.1,x.2.2.2.2.2.2.1,x.2.2.2.2.2.2.2.1,x.2.2.2.2.2.2.2.2.1,x.got,bU x.acked m.2.1 (mxI false (gt m.vec x.1.toNat).1 (bZ x.log)),bB x.seen m.2.1 m.marks,x.num,x.slots,x.sess,x.wait,x.limit,x.clock,x.rises,())
def bP(x:NodeT)(m:MsgT):NodeT:=fF (heard0 x m) iK
def gotUp(x:NodeT)(m:MsgT):NodeT:=
 (x.1,x.2.1,x.2.2.1,x.2.2.2.1,x.2.2.2.2.1,x.2.2.2.2.2.1,x.2.2.2.2.2.2.1,x.2.2.2.2.2.2.2.1,x.2.2.2.2.2.2.2.2.1,bU x.got m.2.1 m.hi,x.acked,x.seen,x.num,x.slots,x.sess,x.wait,x.limit,x.clock,x.rises,())
def bH(x:NodeT)(m:MsgT):NodeT:=gotUp (fF (bP x m) m.part) m
theorem xY{l:eW}(h:eY l=true):0≤bZ l∧bZ l≤100000:=by
 unfold bZ;rw[h]
 unfold eY at h
 simp only[Bool.and_eq_true,aU,Bool.not_eq_true',decide_eq_false_iff_not] at h
 show 0≤i64.wrap _∧i64.wrap _≤100000
 rw[IntKind.wrap_i64] at h ⊢
 omega
theorem NodeOk.heard0{x:NodeT}(h:NodeOk x)(m:MsgT):NodeOk (heard0 x m) where
 n:=h.n
 id:=h.id
 state:=h.state
 tree:=h.tree
 log:=h.log
 got:=h.got
 acked:=sW h.acked (by rw[AW];have:=xY h.log;omega)
 own:=h.own
 seen:=mW h.seen
 ack:=by
  have:=h.ack
  unfold wS at this ⊢
  rw[show(Go.Abs.heard0 x m).acked=bU x.acked m.2.1 (mxI false (gt m.vec x.1.toNat).1 (bZ x.log))from rfl,eZ]
  rw[bI] at this ⊢
  intro i hi
  have h1:=this i hi
  rw[show(Go.Abs.heard0 x m).log=x.log from rfl]
  simp only[Bool.not_eq_true',decide_eq_false_iff_not] at h1 ⊢
  rcases mT x.acked m.2.1 (mxI false (gt m.vec x.1.toNat).1 (bZ x.log)) i with e | e
  ·rw[e];exact h1
  ·rw[e,AW];omega
 num:=h.num
 clock:=h.clock
 slots:=h.slots
 wait:=h.wait
 limit:=h.limit
 rises:=h.rises
 rise:=h.rise
 sess:=h.sess
theorem NodeOk.heard{x:NodeT}(h:NodeOk x)(m:MsgT):NodeOk (bP x m):=(h.heard0 m).take qQ
theorem oE{x:NodeT}(h:SzN x)(m:MsgT):SzN (heard0 x m) where
 state:=h.state
 leaves:=h.leaves
 list:=h.list
 logs:=h.logs
 got:=h.got
 acked:=by show(bU _ _ _).length≤aS;rw[eZ];exact h.acked
 seen:=by show(bB _ _ _).length≤aS;rw[cT];exact h.seen
 lines:=by
  intro i hi
  show(gt (bB x.seen m.2.1 m.marks) i).1.length≤aS
  rw[eG]
  exact h.lines i (by have:i<(bB x.seen m.2.1 m.marks).length:=hi;rw[cT] at this;exact this)
 sess:=h.sess
 rises:=h.rises
theorem fO{x:NodeT}(h:SzN x)(m:MsgT):SzN (bP x m):=i7 (oE h m) _
theorem NodeOk.gotUp{x:NodeT}(h:NodeOk x){m:MsgT}(hi:m.hi≤100000)(hm:m.2.1.toNat≠x.1.toNat):NodeOk (gotUp x m) where
 n:=h.n
 id:=h.id
 state:=h.state
 tree:=h.tree
 log:=h.log
 got:=sW h.got hi
 acked:=h.acked
 own:=by
  show((gt (bU x.got m.2.1 m.hi) x.1.toNat).1==bZ x.log)=true
  rw[zY _ hm];exact h.own
 seen:=h.seen
 ack:=h.ack
 num:=h.num
 clock:=h.clock
 slots:=h.slots
 wait:=h.wait
 limit:=h.limit
 rises:=h.rises
 rise:=h.rise
 sess:=h.sess
theorem IW{x:NodeT}(h:SzN x)(m:MsgT):SzN (gotUp x m) where
 state:=h.state
 leaves:=h.leaves
 list:=h.list
 logs:=h.logs
 got:=by show(bU _ _ _).length≤aS;rw[eZ];exact h.got
 acked:=h.acked
 seen:=h.seen
 lines:=h.lines
 sess:=h.sess
 rises:=h.rises
theorem gY{x:NodeT}(h:SzN x)(m:MsgT):SzN (bH x m):=IW (i7 (fO h m) _) _
-- messages
def kG(v:List aZ)(top:Int):Bool:=bK v.length fun i=>inB (gt v i).1 0 top
def treeB(t:iO):Bool:=bif((t.1.length:Nat):Int)==0 then t.2.1==0 else(((t.1.length:Nat):Int)==4&&(kG t.1 1023&&inB t.2.1 0 1023))
def vV(v:List aZ)(i:Nat):Bool:=inB (gt v i).1 0 3&&tA (fun j=> !decide ((gt v (j+1)).1≤(gt v j).1)) i
def lY(m:MsgT):Bool:=inB m.1 0 5&&(dT m.2.1&&(dT m.2.2.1&& !(m.2.1==m.2.2.1)))
def jB(m:MsgT):Bool:=lY m&&((bK m.leaves.length (vV m.leaves))&&(kG m.vec 100000&&(inB m.2.2.2.1 0 100000&&(inB m.hi 0 100000&&(treeB m.tree&&(decide (((m.vec.length:Nat):Int)≤5)&&(aO m.part&&dK m.marks)))))))
def mL(v:List aZ)(most top:Int):Bool:= !decide (((v.length:Nat):Int)>most)&&kG v top
def A6(v:List aZ)(i:Nat):Bool:= !decide ((gt v (i+1)).1≤(gt v i).1)
def vN(m:MsgT):Bool:=inB m.1 0 5&&(dT m.2.1&&(dT m.2.2.1&&(!(m.2.1==m.2.2.1)&&(inB m.2.2.2.1 0 100000&&(inB m.hi 0 100000&&(treeB m.tree&&(mL m.vec 5 100000&&(mL m.leaves 4 3&&(aO m.part&&(dK m.marks&&bK (m.leaves.length - 1) (A6 m.leaves)))))))))))
theorem IA(v:List aZ):(mL v 4 3&&bK (v.length - 1) (A6 v))=bK v.length (vV v):=by
 rw[Bool.eq_iff_iff]
 unfold mL kG vV A6
 simp only[Bool.and_eq_true,bI,Bool.not_eq_true',decide_eq_false_iff_not]
 constructor
 ·rintro ⟨⟨_,h2⟩,h3⟩ i hi
  refine⟨h2 i hi,?_⟩
  cases i with
  | zero=>rfl
  | succ j=>show(!decide ((gt v (j+1)).1≤(gt v j).1))=true;rw[decide_eq_false (h3 j (by omega))];rfl
 ·intro h
  have hp:∀ j,j+1<v.length→(gt v j).1<(gt v (j+1)).1:=fun j hj=>by
   have:=(h (j+1) hj).2
   unfold tA at this
   simpa using this
  have hge:∀ i,i<v.length→(i:Int)≤(gt v i).1:=by
   intro i
   induction i with
   | zero=>intro hi;have:=(h 0 hi).1;rw[aU] at this;exact this.1
   | succ j ih=>intro hi;have:=ih (by omega);have:=hp j hi;omega
  refine⟨⟨?_,fun i hi=>(h i hi).1⟩,fun i hi=>by have:=hp i (by omega);omega⟩
  rcases Nat.lt_or_ge 4 v.length with h5 | h5
  ·have h6:=hge 4 h5
   have:=(h 4 h5).1;rw[aU] at this;omega
  ·omega
theorem D5(m:MsgT):vN m=jB m:=by
 unfold vN jB lY
 rw[← IA]
 unfold mL
 simp only[rV]
 ac_rfl
theorem CX{m:MsgT}(h:jB m=true):m.leaves.length≤4:=by
 rw[← D5] at h
 unfold vN mL at h
 simp only[Bool.and_eq_true,Bool.not_eq_true',decide_eq_false_iff_not] at h
 omega
end Go.Abs
-- messages and receiving: plain laws
namespace Go.Abs
theorem eO{β:Type}{o:Option Out}{A B C:List Kd}{r:Row A}{s:Row B}{t:Row C}{f:Rows [A,B,C]×Rows []→Option β}(h:o=some ⟨[⟨A,r⟩,⟨B,s⟩,⟨C,t⟩],[]⟩):(o.bind (eL [A,B,C] [])).bind f=f ((r,s,t,()),()):=by
 rw[h];simp[eL,eK,iG];rfl
def dF(l:List aH)(k:Nat):Nat→aH
 | 0=>iK
 | i+1=>cJ (dF l k i) (gt l (k+i))
theorem pA(l:List aH)(k:Nat):∀ i,SzS (dF l k i)
 | 0=>oA
 | i+1=>jY _ _
theorem pB{l:eW}(h:eY l=true)(k:Nat):∀ i,k+i≤l.2.2.1.length→aO (dF l.2.2.1 k i)=true
 | 0,_=>qQ
 | i+1,hi=>lE (pB h k i (by omega)) (by
   unfold eY at h
   simp only[Bool.and_eq_true] at h
   exact bI.1 h.2.2.2.2 (k+i) (by omega))
def fA(l:eW)(seq:Int):Bool:=eY l&&inB seq l.2.1 (i64.wrap (l.2.1+((l.2.2.1.length:Nat):Int)))
def bT(l:eW)(seq:Int):Nat:=(seq - l.2.1).toNat
def f7(l:eW)(seq:Int):aH:=bif fA l seq then dF l.2.2.1 (bT l seq) (l.2.2.1.length - bT l seq)else iK
theorem p6{l:eW}{seq:Int}(h:fA l seq=true):l.2.1+((bT l seq:Nat):Int)=seq∧bT l seq≤l.2.2.1.length∧0≤l.2.1∧l.2.1≤100000∧l.2.2.1.length≤8:=by
 unfold fA eY at h
 simp only[Bool.and_eq_true,aU,Bool.not_eq_true',decide_eq_false_iff_not] at h
 unfold bT
 rw[IntKind.wrap_i64] at h
 omega
def m4(x:NodeT)(seq:Int):aH:=bif fA x.log seq then f7 x.log seq else x.state
theorem AB{x:NodeT}(h:SzN x)(seq:Int):SzS (m4 x seq):=by
 unfold m4 f7
 cases fA x.log seq with
 | false=>exact h.state
 | true=>exact pA _ _ _
theorem G6{x:NodeT}(h:NodeOk x)(seq:Int):aO (m4 x seq)=true:=by
 unfold m4 f7
 cases hs:fA x.log seq with
 | false=>exact h.state
 | true=>have:=p6 hs;exact pB h.log _ _ (by omega)
theorem uW{s:aH}(h:SzS s)(ls:List aZ):SzS (fZ s ls):=
 ⟨Nat.le_trans (List.length_filter_le ..) h.1,Nat.le_trans (List.length_filter_le ..) h.2⟩
theorem G3{s:aH}(h:aO s=true)(ls:List aZ):aO (fZ s ls)=true:=(aW _).2 (((aW _).1 h).slice ls)
def xP(x:NodeT)(ls:List aZ)(seq:Int):aH:=cJ (fZ x.state ls) (m4 x seq)
def dH(a b:iO)(i:Nat):List aZ:=bif((a.1.length:Nat):Int) != 4 then[((i:Int),())] else bif((b.1.length:Nat):Int) != 4 then[((i:Int),())] else bif(gt a.1 i).1 != (gt b.1 i).1 then[((i:Int),())] else[]
def gA(a b:iO):List aZ:=bif a.2.1==b.2.1 then[] else bG 4 (dH a b)
theorem nP(a b:iO)(i:Nat):(dH a b i).length≤1:=by
 unfold dH
 cases ((a.1.length:Nat):Int) != 4<;>cases ((b.1.length:Nat):Int) != 4<;>cases (gt a.1 i).1 != (gt b.1 i).1<;>simp
theorem j0(a b:iO):(gA a b).length≤4:=by
 unfold gA
 cases a.2.1==b.2.1 with
 | true=>exact Nat.zero_le _
 | false=>exact cW (n:=4) (L:=1) fun i _=>nP a b i
def CO(x:NodeT)(kind to num:Int):MsgT:=(kind,x.1,to,num,bZ x.log,[],0,x.got,[],[],[],cA x.state,())
-- exchanges
def withS(x:NodeT)(ss:List c5):NodeT:=
 (x.1,x.2.1,x.2.2.1,x.2.2.2.1,x.2.2.2.2.1,x.2.2.2.2.2.1,x.2.2.2.2.2.2.1,x.2.2.2.2.2.2.2.1,x.2.2.2.2.2.2.2.2.1,x.got,x.acked,x.seen,x.num,x.slots,ss,x.wait,x.limit,x.clock,x.rises,())
def jD(s:c5):Int×Bool:=(s.1,s.2.2.1)
def LT(x:NodeT)(s:c5):Prop:=inB s.1 0 (i64.wrap (x.2.1 - 1))=true∧s.1≠x.1∧inB s.2.1 0 100000=true∧inB s.2.2.2.1 0 x.wait=true
theorem jM{v:List c5}{k:Nat}{p:Int}{b:Bool}:dA v k p b=true↔jD (gt v k)=(p,b):=by
 unfold dA jD
 rw[Bool.and_eq_true,beq_iff_eq,JK,Prod.mk.injEq]
theorem HQ(v:List c5):(∀ i,i<v.length→xQ v i=true)↔(v.map jD).Nodup:=by
 unfold List.Nodup
 rw[List.pairwise_iff_getElem]
 unfold xQ
 simp only[bI,Bool.not_eq_true',List.length_map,List.getElem_map]
 constructor
 ·intro h i j hi hj hij e
  have:=h j hj i hij
  rw[← Bool.not_eq_true,jM] at this
  apply this
  rw[cZ hi,cZ hj];exact e
 ·intro h j hj i hij
  rw[← Bool.not_eq_true,jM]
  intro e
  refine h i j (by omega) hj hij ?_
  rw[cZ (by omega),cZ hj] at e;exact e
theorem cN(x:NodeT):jT x=true↔((x.sess.length:Nat):Int)≤x.slots∧(∀ s∈x.sess,LT x s)∧(x.sess.map jD).Nodup:=by
 rw[← HQ]
 unfold jT kW
 simp only[Bool.and_eq_true,bI,Bool.not_eq_true',decide_eq_false_iff_not]
 constructor
 ·rintro ⟨h1,h2⟩
  refine⟨by omega,fun s hs=>?_,fun i hi=>(h2 i hi).2.2.2.2⟩
  obtain⟨i,hi,rfl⟩:=iA hs
  obtain⟨a,b,c,d,_⟩:=h2 i hi
  refine⟨a,?_,c,d⟩
  intro e;rw[e] at b;simp at b
 ·rintro ⟨h1,h2,h3⟩
  refine⟨by omega,fun i hi=>?_⟩
  obtain⟨a,b,c,d⟩:=h2 _ (dE hi)
  exact⟨a,by simpa using b,c,d,h3 i hi⟩
theorem NodeOk.withS{x:NodeT}(h:NodeOk x){ss:List c5}(h1:((ss.length:Nat):Int)≤x.slots)(h2:∀ s∈ss,LT x s)(h3:(ss.map jD).Nodup):NodeOk (withS x ss) where
 n:=h.n
 id:=h.id
 state:=h.state
 tree:=h.tree
 log:=h.log
 got:=h.got
 acked:=h.acked
 own:=h.own
 seen:=h.seen
 ack:=h.ack
 num:=h.num
 clock:=h.clock
 slots:=h.slots
 wait:=h.wait
 limit:=h.limit
 rises:=h.rises
 rise:=h.rise
 sess:=(cN _).2 ⟨h1,h2,h3⟩
theorem kV{x:NodeT}(h:SzN x){ss:List c5}(h1:ss.length≤aS):SzN (withS x ss):=
 ⟨h.state,h.leaves,h.list,h.logs,h.got,h.acked,h.seen,h.lines,h1,h.rises⟩
theorem c7(v:List c5)(p:Int)(b:Bool):(∃ k:Nat,k<v.length∧bW v p b=(k:Int)∧jD (gt v k)=(p,b))∨(bW v p b= -1∧∀ s∈v,jD s≠(p,b)):=by
 unfold bW
 cases hf:(List.range v.length).find? (fun k=>dA v k p b)with
 | none=>
  refine .inr ⟨rfl,fun s hs e=>?_⟩
  obtain⟨i,hi,rfl⟩:=iA hs
  have:=List.find?_eq_none.1 hf i (List.mem_range.2 hi)
  exact this (jM.2 e)
 | some k=>
  refine .inl ⟨k,List.mem_range.1 (List.mem_of_find?_eq_some hf),rfl,?_⟩
  exact jM.1 (show dA v k p b=true from List.find?_some (p:=fun k=>dA v k p b) hf)
def eP(x:NodeT)(m:MsgT)(b:Bool):Int:=bif decide (bW x.sess m.2.1 b≥0)then(bif(gt x.sess (bW x.sess m.2.1 b).toNat).2.1 != m.2.2.2.1 then -1 else bW x.sess m.2.1 b)else bW x.sess m.2.1 b
def gV(x:NodeT)(k:Nat):NodeT:=withS x (x.sess.take k++x.sess.drop (k+1))
theorem BG{x:NodeT}(h:NodeOk x)(k:Nat):NodeOk (gV x k):=by
 have hs:=(cN x).1 h.sess
 have sub:List.Sublist (x.sess.take k++x.sess.drop (k+1)) x.sess:=by rw[← List.eraseIdx_eq_take_drop_succ];exact List.eraseIdx_sublist ..
 refine h.withS ?_ (fun s hm=>hs.2.1 s (sub.subset hm)) ((sub.map jD).nodup hs.2.2)
 have:=sub.length_le;omega
theorem v5{x:NodeT}(h:SzN x)(k:Nat):SzN (gV x k):=kV h (by
 have:=h.sess;rw[List.length_append,List.length_take,List.length_drop];omega)
def iT(x:NodeT)(k:Nat)(num:Int):List c5:=x.sess.set k ((gt x.sess k).1,num,(gt x.sess k).2.2.1,(0:Int),())
def iH(x:NodeT)(m:MsgT):List c5:=x.sess++[(m.2.1,m.2.2.2.1,true,(0:Int),())]
theorem FF{x:NodeT}(h:NodeOk x){k:Nat}(hk:k<x.sess.length){num:Int}(hn:inB num 0 100000=true):NodeOk (withS x (iT x k num)):=by
 have hs:=(cN x).1 h.sess
 refine h.withS (by unfold iT;rw[List.length_set];exact hs.1) (fun s hm=>?_) ?_
 ·rcases List.mem_or_eq_of_mem_set hm with h1 | h1
  ·exact hs.2.1 s h1
  ·have h2:=hs.2.1 _ (dE hk)
   rw[h1]
   refine⟨h2.1,h2.2.1,hn,?_⟩
   have:=h.wait;rw[aU] at this ⊢;show 0≤(0:Int)∧(0:Int)≤x.wait;omega
 ·unfold iT
  rw[List.map_set,show jD ((gt x.sess k).1,num,(gt x.sess k).2.2.1,(0:Int),())=jD (gt x.sess k)from rfl]
  have:(x.sess.map jD).set k (jD (gt x.sess k))=x.sess.map jD:=by
   rw[← List.map_set,m6]
  rw[this];exact hs.2.2
theorem DS{x:NodeT}(h:NodeOk x){m:MsgT}(hp:inB m.2.1 0 (i64.wrap (x.2.1 - 1))=true)(hi:m.2.1≠x.1)(hn:inB m.2.2.2.1 0 100000=true)(hf:bW x.sess m.2.1 true<0)(hl:((x.sess.length:Nat):Int)≠x.slots):NodeOk (withS x (iH x m)):=by
 have hs:=(cN x).1 h.sess
 refine h.withS (by unfold iH;rw[List.length_append,List.length_singleton];omega) (fun s hm=>?_) ?_
 ·rcases List.mem_append.1 hm with h1 | h1
  ·exact hs.2.1 s h1
  ·rw[List.mem_singleton.1 h1]
   refine⟨hp,hi,hn,?_⟩
   have:=h.wait;rw[aU] at this ⊢;show 0≤(0:Int)∧(0:Int)≤x.wait;omega
 ·unfold iH
  rw[List.map_append,List.nodup_append]
  refine⟨hs.2.2,by simp,fun a ha b hb=>?_⟩
  obtain⟨s,hs1,rfl⟩:=List.mem_map.1 ha
  have hb:b=(m.2.1,true):=by simpa [jD] using hb
  rw[hb]
  rcases c7 x.sess m.2.1 true with ⟨k,_,e,_⟩ | ⟨_,e⟩
  ·rw[e] at hf;omega
  ·exact e s hs1
-- receiving
def rS(o:NodeT)(x:NodeT)(m:MsgT):MsgT:=
 (3,o.1,m.2.1,m.2.2.2.1,bZ o.log,o.tree.1,o.tree.2.1,o.got,gA o.tree m.tree,(xP o (gA o.tree m.tree) (gt m.vec x.1.toNat).1).1,(xP o (gA o.tree m.tree) (gt m.vec x.1.toNat).1).2.1,cA o.state,())
def LQ(o:NodeT)(x:NodeT)(m:MsgT):MsgT:=
 (4,o.1,m.2.1,m.2.2.2.1,bZ o.log,[],0,o.got,m.leaves,(xP o m.leaves (gt m.vec x.1.toNat).1).1,(xP o m.leaves (gt m.vec x.1.toNat).1).2.1,cA o.state,())
abbrev DU:=NodeT×List MsgT×Int
def dN(x:NodeT)(m:MsgT):List c5:=bif decide (bW x.sess m.2.1 true≥0)then iT x (bW x.sess m.2.1 true).toNat m.2.2.2.1 else iH x m
def jS(x:NodeT)(m:MsgT):NodeT:=bP (withS x (dN x m)) m
def eH(x:NodeT)(m:MsgT):Bool:= !decide (bW x.sess m.2.1 true≥0)&&((x.sess.length:Nat):Int)==x.slots
def cY(x:NodeT)(m:MsgT):DU:=bif eH x m then(x,[CO x 5 m.2.1 m.2.2.2.1],3)else(jS x m,[rS (jS x m) x m],0)
def eD(x:NodeT)(m:MsgT)(k:Nat):DU:=
 bif m.1==5 then(gV x k,[],0)else bif m.1==4 then(bH (gV x k) m,[],0)else(bH (gV x k) m,[LQ (bH (gV x k) m) x m],0)
def fB(x:NodeT)(m:MsgT):DU:=
 bif m.1==0 then(bH x m,[CO (bH x m) 1 m.2.1 m.2.2.2.1],0)else
 bif m.1==1 then(bP x m,[],0)else bif m.1==2 then cY x m else
 bif decide (eP x m (m.1==4)<0)then(x,[],2)else eD x m (eP x m (m.1==4)).toNat
def dZ(x:NodeT)(m:MsgT):Bool:=dP x&&(jB m&&(m.2.2.1==x.1&&(!decide (m.2.1≥x.2.1)&&((m.vec.length:Nat):Int)==x.2.1)))
def gC(x:NodeT)(m:MsgT):DU:=bif dZ x m then fB x m else(x,[],1)
structure RecOk (x:NodeT) (m:MsgT):Prop where
 node:NodeOk x
 msg:jB m=true
 idn:0≤x.1∧x.1<x.2.1∧1≤x.2.1∧x.2.1≤5
 frm:0≤m.2.1∧m.2.1<x.2.1
 ne:m.2.1≠x.1
 vec:((m.vec.length:Nat):Int)=x.2.1
 to:m.2.2.1=x.1
 num:inB m.2.2.2.1 0 100000=true
 hi:0≤m.hi∧m.hi≤100000
 part:aO m.part=true
 marks:dK m.marks=true
 leaves:m.leaves.length≤4
theorem nB{x:NodeT}{m:MsgT}(h:dZ x m=true):RecOk x m:=by
 unfold dZ at h
 simp only[Bool.and_eq_true,beq_iff_eq,Bool.not_eq_true',decide_eq_false_iff_not] at h
 obtain⟨h1,h2,h3,h4,h5⟩:=h
 have hn:=(eN x).1 h1
 have a1:=hn.n
 have a2:=hn.id
 rw[aU] at a1 a2
 rw[IntKind.wrap_i64] at a2
 have hm:=h2
 unfold jB lY dT at hm
 simp only[Bool.and_eq_true,aU,Bool.not_eq_true',beq_eq_false_iff_ne] at hm
 obtain⟨⟨b1,b2,b3,b4⟩,b5,b6,b7,b8,b9,b10,b11,b12⟩:=hm
 exact⟨hn,h2,by omega,by omega,by rw[← h3];exact b4,h5,h3,aU.2 b7,b8,b11,b12,CX h2⟩
theorem RecOk.gone{x:NodeT}{m:MsgT}(h:RecOk x m)(k:Nat):RecOk (gV x k) m:=
 ⟨BG h.node k,h.msg,h.idn,h.frm,h.ne,h.vec,h.to,h.num,h.hi,h.part,h.marks,h.leaves⟩
theorem RecOk.brought{x:NodeT}{m:MsgT}(h:RecOk x m):NodeOk (bH x m):=
 NodeOk.gotUp ((h.node.heard m).take h.part) h.hi.2 (by
  have h1:=h.ne;have h2:=h.idn;have h3:=h.frm
  show m.2.1.toNat≠x.1.toNat
  omega)
theorem RecOk.syn{x:NodeT}{m:MsgT}(h:RecOk x m)(hf:eH x m=false):RecOk (withS x (dN x m)) m:=by
 refine⟨?_,h.msg,h.idn,h.frm,h.ne,h.vec,h.to,h.num,h.hi,h.part,h.marks,h.leaves⟩
 unfold dN
 unfold eH at hf
 by_cases hc:bW x.sess m.2.1 true≥0
 ·rw[decide_eq_true hc]
  rcases c7 x.sess m.2.1 true with ⟨k,hk,e,_⟩ | ⟨e,_⟩
  ·show NodeOk (withS x (iT x (bW x.sess m.2.1 true).toNat m.2.2.2.1))
   rw[e];exact FF h.node hk h.num
  ·omega
 ·rw[decide_eq_false hc] at hf ⊢
  refine DS h.node ?_ h.ne h.num (by omega) (by intro e;rw[e] at hf;simp at hf)
  have h2:=h.idn;have h3:=h.frm
  rw[aU,IntKind.wrap_i64];omega
theorem kF{x:NodeT}(h:NodeOk x)(m:MsgT):(dN x m).length≤aS:=by
 have h1:=((cN x).1 h.sess).1
 have h2:=h.slots;rw[aU] at h2
 unfold dN iT iH aS
 cases decide (bW x.sess m.2.1 true≥0)with
 | true=>show(List.set _ _ _).length≤_;rw[List.length_set];omega
 | false=>show(x.sess++[_]).length≤_;rw[List.length_append,List.length_singleton];omega
theorem J5{x:NodeT}(hz:SzN x)(h:NodeOk x)(m:MsgT):SzN (jS x m):=fO (kV hz (kF h m)) m
theorem tZ{x:NodeT}{m:MsgT}(h:dZ x m=false):gC x m=(x,[],1):=by unfold gC;rw[h];rfl
theorem qG{x:NodeT}{m:MsgT}(h:dZ x m=true):gC x m=fB x m:=by unfold gC;rw[h];rfl
-- an exchange taken out, as the code does it
def w7(x:NodeT)(k:Int):List c5:=([]++((x.sess.take (k.toNat)).drop 0))++((x.sess.take x.sess.length).drop ((i64.wrap (k+1))).toNat)
theorem KG{x:NodeT}{k:Nat}(hk:k<x.sess.length)(hl:x.sess.length≤aS):w7 x (k:Int)=x.sess.take k++x.sess.drop (k+1):=by
 unfold w7
 rw[aL (Nat.lt_of_lt_of_le hk (Nat.le_trans hl (by decide))),List.take_length,Int.toNat_natCast,Int.toNat_natCast];rfl
theorem AK{x:NodeT}{k:Nat}(hk:k<x.sess.length)(hl:x.sess.length≤aS):withS x (w7 x (k:Int))=gV x k:=by rw[KG hk hl];rfl
theorem q9{α β:Type}{ss:List α}{k:Nat}{F Z:β}(hk:k<ss.length)(hl:ss.length≤aS):
  (bif decide (0≤(k:Int))&&decide ((k:Int)≤((ss.length:Nat):Int))then(bif decide (List.length ([]:List α)+List.length ((ss.take ((k:Int).toNat)).drop 0)≤bound)then
   (bif decide (0≤i64.wrap ((k:Int)+1))&&decide (i64.wrap ((k:Int)+1)≤((ss.length:Nat):Int))then
    (bif decide (List.length ([]++((ss.take ((k:Int).toNat)).drop 0))+List.length ((ss.take ss.length).drop ((i64.wrap ((k:Int)+1))).toNat)≤bound)then F else Z)else Z)else Z)else Z)=F:=by
 have hb:aS≤bound:=by decide
 rw[aL (Nat.lt_of_lt_of_le hk (Nat.le_trans hl (by decide)))]
 refine(nT (Int.natCast_nonneg _) (by omega)).trans ?_
 refine(aE (by rw[List.drop_zero,List.length_take];simp;omega)).trans ?_
 refine(nT (Int.natCast_nonneg _) (by omega)).trans ?_
 exact aE (by rw[List.nil_append,List.drop_zero,List.length_take,List.length_drop,List.length_take,Int.toNat_natCast,Int.toNat_natCast];omega)
end Go.Abs
-- exchanges begun and gone through: plain laws
namespace Go.Abs
def mY(x:NodeT)(to:Int):Bool:=dP x&&(qM x to&&(!decide (bW x.sess to false≥0)&&(!(((x.sess.length:Nat):Int)==x.slots)&& !(x.num==100000))))
def z7(x:NodeT)(to:Int):NodeT:=
 (x.1,x.2.1,x.2.2.1,x.2.2.2.1,x.2.2.2.2.1,x.2.2.2.2.2.1,x.2.2.2.2.2.2.1,x.2.2.2.2.2.2.2.1,x.2.2.2.2.2.2.2.2.1,x.got,x.acked,x.seen,i64.wrap (x.num+1),x.slots,x.sess++[(to,i64.wrap (x.num+1),false,(0:Int),())],x.wait,x.limit,x.clock,x.rises,())
def L6(x:NodeT)(to:Int):MsgT:=(2,x.1,to,i64.wrap (x.num+1),bZ x.log,x.tree.1,x.tree.2.1,x.got,[],[],[],cA x.state,())
def KV:MsgT:=((0:Int),(0:Int),(0:Int),(0:Int),(0:Int),[],(0:Int),[],[],[],[],[],())
abbrev NH:=NodeT×MsgT×Bool
def mX(x:NodeT)(to:Int):NH:=bif mY x to then(z7 x to,L6 x to,true)else(x,KV,false)
structure SynOk (x:NodeT) (to:Int):Prop where
 node:NodeOk x
 peer:0≤to∧to<x.2.1∧to≠x.1
 slot:bW x.sess to false<0
 room:((x.sess.length:Nat):Int)<x.slots
 num:0≤x.num∧x.num<100000
 nn:1≤x.2.1∧x.2.1≤5
theorem p5{x:NodeT}{to:Int}(h:mY x to=true):SynOk x to:=by
 unfold mY qM at h
 simp only[Bool.and_eq_true,Bool.not_eq_true',decide_eq_false_iff_not,beq_eq_false_iff_ne,bne_iff_ne,aU] at h
 obtain⟨h1,⟨h2,h3⟩,h4,h5,h6⟩:=h
 have hn:=(eN x).1 h1
 have h7:=hn.n;have h8:=hn.num
 have h9:=((cN x).1 hn.sess).1
 rw[aU] at h7 h8
 rw[IntKind.wrap_i64] at h2
 exact⟨hn,by omega,by omega,by omega,by omega,by omega⟩
theorem CK{n:Int}(h:0≤n∧n<100000):i64.wrap (n+1)=n+1:=by rw[IntKind.wrap_i64];omega
theorem SynOk.up{x:NodeT}{to:Int}(h:SynOk x to):NodeOk (z7 x to) where
 n:=h.node.n
 id:=h.node.id
 state:=h.node.state
 tree:=h.node.tree
 log:=h.node.log
 got:=h.node.got
 acked:=h.node.acked
 own:=h.node.own
 seen:=h.node.seen
 ack:=h.node.ack
 num:=by show inB (i64.wrap (x.num+1)) 0 100000=true;rw[CK h.num,aU];have:=h.num;omega
 clock:=h.node.clock
 slots:=h.node.slots
 wait:=h.node.wait
 limit:=h.node.limit
 rises:=h.node.rises
 rise:=h.node.rise
 sess:=by
  have hs:=(cN x).1 h.node.sess
  refine(cN _).2 ⟨?_,fun s hm=>?_,?_⟩
  ·show(((x.sess++[_]).length:Nat):Int)≤x.slots
   rw[List.length_append,List.length_singleton];have:=h.room;omega
  ·have hm:s∈x.sess++[(to,i64.wrap (x.num+1),false,(0:Int),())]:=hm
   rcases List.mem_append.1 hm with h1 | h1
   ·exact hs.2.1 s h1
   ·rw[List.mem_singleton.1 h1]
    have h2:=h.peer;have h3:=h.num;have h4:=h.node.wait;have h5:=h.nn
    rw[aU] at h4
    refine⟨?_,h2.2.2,?_,?_⟩
    ·show inB to 0 (i64.wrap (x.2.1 - 1))=true
     rw[aU,IntKind.wrap_i64];omega
    ·show inB (i64.wrap (x.num+1)) 0 100000=true
     rw[CK h.num,aU];omega
    ·show inB 0 0 x.wait=true
     rw[aU];omega
  ·show(List.map jD (x.sess++[(to,i64.wrap (x.num+1),false,(0:Int),())])).Nodup
   rw[List.map_append,List.nodup_append]
   refine⟨hs.2.2,by simp,fun a ha b hb=>?_⟩
   obtain⟨s,hs1,rfl⟩:=List.mem_map.1 ha
   have hb:b=(to,false):=by simpa [jD] using hb
   rw[hb]
   rcases c7 x.sess to false with ⟨k,_,e,_⟩ | ⟨_,e⟩
   ·have:=h.slot;rw[e] at this;omega
   ·exact e s hs1
theorem z6{x:NodeT}{to:Int}(hz:SzN x)(h:SynOk x to):SzN (z7 x to):=
 ⟨hz.state,hz.leaves,hz.list,hz.logs,hz.got,hz.acked,hz.seen,hz.lines,by
  have h1:=h.room;have h2:=h.node.slots;rw[aU] at h2
  show(x.sess++[_]).length≤aS
  rw[List.length_append,List.length_singleton];unfold aS;omega,hz.rises⟩
theorem J6{x:NodeT}(hz:SzN x)(to:Int):SzM (L6 x to):=⟨hz.leaves,hz.got,Nat.zero_le _,oA,Nat.le_trans (dU _) (by decide)⟩
theorem KU:SzM KV:=⟨Nat.zero_le _,Nat.zero_le _,Nat.zero_le _,oA,Nat.zero_le _⟩
theorem J2{x:NodeT}(hz:SzN x)(to:Int):SzN (mX x to).1∧SzM (mX x to).2.1:=by
 unfold mX
 cases h:mY x to with
 | false=>exact⟨hz,KU⟩
 | true=>exact⟨z6 hz (p5 h),J6 hz to⟩
theorem GY{x:NodeT}{to:Int}(h:mY x to=true):mX x to=(z7 x to,L6 x to,true):=by unfold mX;rw[h];rfl
theorem J4{x:NodeT}{to:Int}(h:mY x to=false):mX x to=(x,KV,false):=by unfold mX;rw[h];rfl
-- who answers whom
structure RecTo (x:NodeT) (m:MsgT) (r:DU):Prop where
 id:r.1.1=x.1
 to:∀ q∈r.2.1,q.2.2.1=m.2.1∧q.2.1=x.1
theorem pY{x:NodeT}{m:MsgT}:∀ q∈([]:List MsgT),q.2.2.1=m.2.1∧q.2.1=x.1:=fun q h=>by cases h
theorem yX{x:NodeT}{m a:MsgT}(h:a.2.2.1=m.2.1∧a.2.1=x.1):∀ q∈[a],q.2.2.1=m.2.1∧q.2.1=x.1:=fun q hq=>by rw[List.mem_singleton.1 hq];exact h
theorem FB(x:NodeT)(m:MsgT):RecTo x m (cY x m):=by
 unfold cY
 cases eH x m with
 | true=>exact⟨rfl,yX ⟨rfl,rfl⟩⟩
 | false=>exact⟨rfl,yX ⟨rfl,rfl⟩⟩
theorem FD(x:NodeT)(m:MsgT)(k:Nat):RecTo x m (eD x m k):=by
 unfold eD
 cases m.1==5 with
 | true=>exact⟨rfl,pY⟩
 | false=>
  cases m.1==4 with
  | true=>exact⟨rfl,pY⟩
  | false=>exact⟨rfl,yX ⟨rfl,rfl⟩⟩
theorem HG(x:NodeT)(m:MsgT):RecTo x m (gC x m):=by
 unfold gC
 cases dZ x m with
 | false=>exact⟨rfl,pY⟩
 | true=>
  show RecTo x m (fB x m)
  unfold fB
  cases m.1==0 with
  | true=>exact⟨rfl,yX ⟨rfl,rfl⟩⟩
  | false=>
   cases m.1==1 with
   | true=>exact⟨rfl,pY⟩
   | false=>
    cases m.1==2 with
    | true=>exact FB x m
    | false=>
     cases decide (eP x m (m.1==4)<0)with
     | true=>exact⟨rfl,pY⟩
     | false=>exact FD x m _
theorem KF(x:NodeT)(m:MsgT):(gC x m).1.1=x.1:=(HG x m).id
-- an exchange gone through
end Go.Abs
-- saying: plain laws
namespace Go.Abs
abbrev JQ:=aH×Int
def vE(id:Int)(e:bE):aH:=bif aO ([(id,e)],[],())then([(id,e)],[],())else iK
theorem qP(id:Int)(e:bE):aO (vE id e)=true:=by
 unfold vE
 cases h:aO ([(id,e)],[],())with
 | true=>exact h
 | false=>rfl
def upE(s:aH)(id:Int):bE×Int:=bif aO s then(bif dT id then(bif(l0 s id).2 then((l0 s id).1,0)else(cQ,3))else(cQ,1))else(cQ,1)
def qU(s:aH)(id:Int):Int:=mxI true (bC s id).1.1 (cG s.2.1 id)
def n4(s:aH)(id:Int):JQ:=bif aO s then(bif dT id then(bif(l0 s id).2 then(iK,2)else bif qU s id==1000 then(iK,4)else(vE id (i64.wrap (qU s id+1),0,0,0,⟨#[]⟩,()),0))else(iK,1))else(iK,1)
def n7(s:aH)(id:Int):JQ:=bif(upE s id).2 != 0 then(iK,(upE s id).2)else bif(upE s id).1.2.2.1==100000 then(iK,4)else
 (vE id ((upE s id).1.1,(upE s id).1.2.1,i64.wrap ((upE s id).1.2.2.1+1),(upE s id).1.2.2.2.1,(upE s id).1.2.2.2.2.1,()),0)
def rO(s:aH)(id:Int)(t:ByteArray):JQ:=bif(upE s id).2 != 0 then(iK,(upE s id).2)else bif(upE s id).1.2.2.2.1==1000 then(iK,4)else bif decide (((ByteArray.size t:Nat):Int)>8)then(iK,4)else
 (vE id ((upE s id).1.1,(upE s id).1.2.1,(upE s id).1.2.2.1,i64.wrap ((upE s id).1.2.2.2.1+1),t,()),0)
def n6(s:aH)(id:Int):JQ:=bif(upE s id).2 != 0 then(iK,(upE s id).2)else(vE id ((upE s id).1.1,1,(upE s id).1.2.2.1,(upE s id).1.2.2.2.1,(upE s id).1.2.2.2.2.1,()),0)
def fV(s:aH)(k id:Int)(t:ByteArray):JQ:=bif k==0 then n4 s id else bif k==1 then n7 s id else bif k==2 then rO s id t else n6 s id
theorem CE(s:aH)(id:Int):aO (n4 s id).1=true:=by
 unfold n4
 cases aO s<;>cases dT id<;>cases (l0 s id).2<;>cases qU s id==1000<;>first | rfl | exact qP _ _
theorem CG(s:aH)(id:Int):aO (n7 s id).1=true:=by
 unfold n7
 cases (upE s id).2 != 0<;>cases (upE s id).1.2.2.1==100000<;>first | rfl | exact qP _ _
theorem E4(s:aH)(id:Int)(t:ByteArray):aO (rO s id t).1=true:=by
 unfold rO
 cases (upE s id).2 != 0<;>cases (upE s id).1.2.2.2.1==1000<;>cases decide (((ByteArray.size t:Nat):Int)>8)<;>first | rfl | exact qP _ _
theorem CF(s:aH)(id:Int):aO (n6 s id).1=true:=by
 unfold n6
 cases (upE s id).2 != 0<;>first | rfl | exact qP _ _
theorem AE(s:aH)(k id:Int)(t:ByteArray):aO (fV s k id t).1=true:=by
 unfold fV
 cases k==0
 ·cases k==1
  ·cases k==2
   ·exact CF s id
   ·exact E4 s id t
  ·exact CG s id
 ·exact CE s id
-- logs
def mP(l:eW)(d:aH):Bool:=eY l&&(aO d&& !(i64.wrap (l.2.1+((l.2.2.1.length:Nat):Int))==100000))
def fS(l:eW)(d:aH):eW:=bif decide ((((l.2.2.1++[d]).length:Nat):Int)>l.1)then(l.1,i64.wrap (l.2.1+1),(l.2.2.1++[d]).drop 1,())else(l.1,l.2.1,l.2.2.1++[d],())
def pE(l:eW)(d:aH):eW×Bool:=bif mP l d then(fS l d,true)else(l,false)
structure LogOk (l:eW):Prop where
 cap:1≤l.1∧l.1≤8
 len:((l.2.2.1.length:Nat):Int)≤l.1
 frm:0≤l.2.1∧l.2.1≤100000
 top:l.2.1+((l.2.2.1.length:Nat):Int)≤100000
 all:∀ s∈l.2.2.1,aO s=true
theorem lA(l:eW):eY l=true↔LogOk l:=by
 unfold eY
 simp only[Bool.and_eq_true,aU,Bool.not_eq_true',decide_eq_false_iff_not,bI]
 constructor
 ·rintro ⟨h1,h2,h3,h4,h5⟩
  rw[IntKind.wrap_i64] at h4
  refine⟨h1,by omega,h3,by omega,fun s hs=>?_⟩
  obtain⟨i,hi,rfl⟩:=iA hs
  exact h5 i hi
 ·rintro ⟨h1,h2,h3,h4,h5⟩
  rw[IntKind.wrap_i64]
  exact⟨h1,by omega,h3,by omega,fun i hi=>h5 _ (dE hi)⟩
theorem oC{l:eW}(h:LogOk l):bZ l=l.2.1+((l.2.2.1.length:Nat):Int):=by
 have h1:=h.frm;have h2:=h.top
 unfold bZ;rw[(lA l).2 h];show i64.wrap _=_;rw[IntKind.wrap_i64];omega
theorem FV{l:eW}{d:aH}(h:LogOk l)(hd:aO d=true)(hn:l.2.1+((l.2.2.1.length:Nat):Int)<100000):LogOk (fS l d)∧bZ (fS l d)=bZ l+1:=by
 have h1:=h.cap;have h2:=h.len;have h3:=h.frm
 have hl:(l.2.2.1++[d]).length=l.2.2.1.length+1:=by rw[List.length_append,List.length_singleton]
 have ha:∀ s∈l.2.2.1++[d],aO s=true:=fun s hs=>by
  rcases List.mem_append.1 hs with hs | hs
  ·exact h.all s hs
  ·rw[List.mem_singleton.1 hs];exact hd
 have key:LogOk (fS l d)∧(fS l d).2.1+(((fS l d).2.2.1.length:Nat):Int)=l.2.1+((l.2.2.1.length:Nat):Int)+1:=by
  unfold fS
  by_cases hc:(((l.2.2.1++[d]).length:Nat):Int)>l.1
  ·rw[decide_eq_true hc]
   have hw:i64.wrap (l.2.1+1)=l.2.1+1:=by rw[IntKind.wrap_i64];omega
   have hdl:((l.2.2.1++[d]).drop 1).length=l.2.2.1.length:=by rw[List.length_drop,hl];omega
   refine⟨⟨h1,?_,?_,?_,fun s hs=>ha s (List.mem_of_mem_drop hs)⟩,?_⟩
   ·show((((l.2.2.1++[d]).drop 1).length:Nat):Int)≤l.1;rw[hdl];exact h2
   ·show 0≤i64.wrap (l.2.1+1)∧i64.wrap (l.2.1+1)≤100000;rw[hw];omega
   ·show i64.wrap (l.2.1+1)+((((l.2.2.1++[d]).drop 1).length:Nat):Int)≤100000;rw[hw,hdl];omega
   ·show i64.wrap (l.2.1+1)+((((l.2.2.1++[d]).drop 1).length:Nat):Int)=_;rw[hw,hdl];omega
  ·rw[decide_eq_false hc]
   rw[hl] at hc
   refine⟨⟨h1,?_,h3,?_,ha⟩,?_⟩
   ·show(((l.2.2.1++[d]).length:Nat):Int)≤l.1;rw[hl];omega
   ·show l.2.1+(((l.2.2.1++[d]).length:Nat):Int)≤100000;rw[hl];omega
   ·show l.2.1+(((l.2.2.1++[d]).length:Nat):Int)=_;rw[hl];omega
 exact⟨key.1,by rw[oC key.1,oC h];exact key.2⟩
-- a node says
def rP(x:NodeT)(k id:Int):Bool:=dP x&&(inB k 0 4&&(inB id 0 (i64.wrap (x.2.1 - 1))&& !(oP (k==4) (id==x.1))))
def DZ(x:NodeT)(d:aH):NodeT:=
 (x.1,x.2.1,x.2.2.1,x.2.2.2.1,x.2.2.2.2.1,x.2.2.2.2.2.1,(fS x.log d).1,(fS x.log d).2.1,(fS x.log d).2.2.1,x.got.set x.1.toNat (i64.wrap ((gt x.got x.1.toNat).1+1),()),x.acked,x.seen,x.num,x.slots,x.sess,x.wait,x.limit,x.clock,x.rises,())
abbrev LW:=NodeT×aH×Int
def qA(x:NodeT)(k id:Int)(t:ByteArray):LW:=
 bif rP x k id then(bif(fV x.state k id t).2 != 0 then(x,iK,(fV x.state k id t).2)else bif mP x.log (fV x.state k id t).1 then(fF (DZ x (fV x.state k id t).1) (fV x.state k id t).1,(fV x.state k id t).1,0)else(x,iK,4))else(x,iK,1)
theorem u3{x:NodeT}{d:aH}(h:NodeOk x)(hd:mP x.log d=true):NodeOk (DZ x d):=by
 unfold mP at hd
 simp only[Bool.and_eq_true,Bool.not_eq_true',beq_eq_false_iff_ne] at hd
 have hL:=(lA x.log).1 h.log
 have h1:=hL.frm;have h2:=hL.top;have h3:=hL.len;have h4:=hL.cap
 have hw:i64.wrap (x.log.2.1+((x.log.2.2.1.length:Nat):Int))=x.log.2.1+((x.log.2.2.1.length:Nat):Int):=by rw[IntKind.wrap_i64];omega
 rw[hw] at hd
 obtain⟨p1,p2⟩:=FV hL hd.2.1 (by have:=hd.2.2;omega)
 have hs:bZ x.log<100000∧0≤bZ x.log:=by rw[oC hL];have:=hd.2.2;omega
 have hg:(gt x.got x.1.toNat).1=bZ x.log:=eq_of_beq h.own
 have hwg:i64.wrap ((gt x.got x.1.toNat).1+1)=bZ x.log+1:=by rw[hg,IntKind.wrap_i64];omega
 have hid:=h.id;have hn:=h.n;have hv:=h.got
 rw[aU] at hid hn
 rw[IntKind.wrap_i64] at hid
 unfold dS at hv
 simp only[Bool.and_eq_true,beq_iff_eq] at hv
 have hk:x.1.toNat<x.got.length:=by omega
 exact {
  n:=h.n,id:=h.id,state:=h.state,tree:=h.tree
  log:=(lA _).2 p1
  got:=by
   show dS (x.got.set x.1.toNat _) x.2.1=true
   unfold dS
   simp only[Bool.and_eq_true,beq_iff_eq]
   rw[List.length_set]
   refine⟨hv.1,hv.2.1,?_⟩
   have h5:=bI.1 hv.2.2
   rw[bI]
   intro i hi
   by_cases e:x.1.toNat=i
   ·rw[← e,cB hk];show inB (i64.wrap _) 0 100000=true;rw[hwg,aU];omega
   ·rw[dX e];exact h5 i hi
  acked:=h.acked
  own:=by
   show((gt (x.got.set x.1.toNat (i64.wrap ((gt x.got x.1.toNat).1+1),())) x.1.toNat).1==bZ (fS x.log d))=true
   rw[cB hk,p2,beq_iff_eq];exact hwg
  seen:=h.seen
  ack:=by
   have h6:=h.ack
   unfold wS at h6 ⊢
   rw[bI] at h6 ⊢
   intro i hi
   have h7:=h6 i hi
   show(!decide ((gt x.acked i).1>bZ (fS x.log d)))=true
   rw[p2]
   simp only[Bool.not_eq_true',decide_eq_false_iff_not] at h7 ⊢
   omega
  num:=h.num,clock:=h.clock,slots:=h.slots,wait:=h.wait,limit:=h.limit,rises:=h.rises,rise:=h.rise,sess:=h.sess }
theorem CU(l:eW)(d:aH):(fS l d).2.2.1.length≤l.2.2.1.length+1:=by
 unfold fS
 cases decide ((((l.2.2.1++[d]).length:Nat):Int)>l.1)with
 | true=>show((l.2.2.1++[d]).drop 1).length≤_;rw[List.length_drop,List.length_append,List.length_singleton];omega
 | false=>show(l.2.2.1++[d]).length≤_;rw[List.length_append,List.length_singleton];exact Nat.le_refl _
theorem AF{x:NodeT}{d:aH}(hz:SzN x)(h:NodeOk x)(hd:mP x.log d=true):SzN (DZ x d):=by
 have ho:=(lA _).1 (u3 h hd).log
 have h1:=ho.cap;have h2:=ho.len
 refine⟨hz.state,hz.leaves,?_,fun i hi=>?_,?_,hz.acked,hz.seen,hz.lines,hz.sess,hz.rises⟩
 ·unfold aS;omega
 ·have:=((aW _).1 (ho.all _ (dE hi))).len
  exact⟨by unfold aS;omega,by unfold aS;omega⟩
 ·show(x.got.set _ _).length≤aS;rw[List.length_set];exact hz.got
theorem KC{x:NodeT}(h:NodeOk x)(k id:Int)(t:ByteArray):NodeOk (qA x k id t).1:=by
 unfold qA
 cases rP x k id with
 | false=>exact h
 | true=>
  cases (fV x.state k id t).2 != 0 with
  | true=>exact h
  | false=>
   cases hb:mP x.log (fV x.state k id t).1 with
   | false=>exact h
   | true=>exact(u3 h hb).take (AE _ _ _ _)
theorem KB{x:NodeT}(hz:SzN x)(k id:Int)(t:ByteArray):SzN (qA x k id t).1:=by
 unfold qA
 cases hs:rP x k id with
 | false=>exact hz
 | true=>
  have h:NodeOk x:=(eN x).1 (by unfold rP at hs;simp only[Bool.and_eq_true] at hs;exact hs.1)
  cases (fV x.state k id t).2 != 0 with
  | true=>exact hz
  | false=>
   cases hb:mP x.log (fV x.state k id t).1 with
   | false=>exact hz
   | true=>exact i7 (AF hz h hb) _
end Go.Abs
-- check sums lie in 0 .. 2^32 - 1: plain laws
namespace Go.Abs
def rH(x:Int):Prop:=0≤x∧x<4294967296
theorem GP{a b:Int}(ha:rH a)(hb:rH b):rH (oM .i64 a b):=by
 obtain⟨n,rfl⟩:∃ n:Nat,a=n:=⟨a.toNat,by have:=ha.1;omega⟩
 obtain⟨m,rfl⟩:∃ m:Nat,b=m:=⟨b.toNat,by have:=hb.1;omega⟩
 have hn:n<2 ^ 32:=by have:=ha.2;omega
 have hm:m<2 ^ 32:=by have:=hb.2;omega
 unfold oM
 have h:(BitVec.ofInt i64.bits (n:Int) ^^^ BitVec.ofInt i64.bits (m:Int)).toNat<2 ^ 32:=by
  rw[BitVec.toNat_xor]
  have e1:(BitVec.ofInt i64.bits (n:Int)).toNat=n:=by
   rw[BitVec.toNat_ofInt];show((n:Int) % ((2 ^ 64:Nat):Int)).toNat=n;omega
  have e2:(BitVec.ofInt i64.bits (m:Int)).toNat=m:=by
   rw[BitVec.toNat_ofInt];show((m:Int) % ((2 ^ 64:Nat):Int)).toNat=m;omega
  rw[e1,e2];exact Nat.xor_lt_two_pow hn hm
 generalize (BitVec.ofInt i64.bits (n:Int) ^^^ BitVec.ofInt i64.bits (m:Int)).toNat=k at h
 have e:i64.wrap (k:Int)=k:=by rw[IntKind.wrap_i64];omega
 rw[e];exact⟨by omega,by omega⟩
theorem JB{x:Int}(h:rH x):rH (pK x):=by
 have hd:0≤x.tdiv 2∧x.tdiv 2<4294967296:=by
  have h1:=h.1;have h2:=h.2
  rw[Int.tdiv_eq_ediv_of_nonneg h1];omega
 have hw:i64.wrap (x.tdiv 2)=x.tdiv 2:=by rw[IntKind.wrap_i64];omega
 unfold pK
 rw[hw]
 cases (x.tmod 2)==1 with
 | true=>exact GP hd ⟨by omega,by omega⟩
 | false=>exact hd
theorem yI{x:Int}(h:rH x):∀ k,rH (eQ k x)
 | 0=>h
 | k+1=>JB (yI h k)
theorem EH{bs:List aZ}(h:∀ b∈bs,rH b.1):∀ i,i≤bs.length→rH (mO bs i)
 | 0,_=>⟨by show(0:Int)≤4294967295;omega,by show(4294967295:Int)<4294967296;omega⟩
 | i+1,hi=>by
  have hb:=h _ (dE (xs:=bs) (i:=i) (by omega))
  have hw:i64.wrap (gt bs i).1=(gt bs i).1:=by have h1:=hb.1;have h2:=hb.2;rw[IntKind.wrap_i64];omega
  show rH (eQ 8 (oM .i64 (mO bs i) (i64.wrap (gt bs i).1)))
  rw[hw]
  exact yI (GP (EH h i (by omega)) hb) 8
theorem LU{bs:List aZ}(h:∀ b∈bs,rH b.1):rH (crc bs):=by
 unfold crc
 exact GP (EH h _ (Nat.le_refl _)) ⟨by omega,by omega⟩
def B32(bs:List aZ):Prop:=∀ b∈bs,rH b.1
theorem B32.app{a b:List aZ}(ha:B32 a)(hb:B32 b):B32 (a++b):=fun x hx=>by
 rcases List.mem_append.1 hx with h | h
 ·exact ha x h
 ·exact hb x h
theorem B32.flat{α:Type}{f:α→List aZ}(h:∀ x,B32 (f x))(xs:List α):B32 (xs.flatMap f):=fun x hx=>by
 obtain⟨a,_,ha⟩:=List.mem_flatMap.1 hx
 exact h a x ha
theorem MD(n:Nat):B32 (oO n):=by
 induction n using Nat.strongRecOn with
 | _ n ih=>
  unfold oO
  split
  ·rename_i h
   intro b hb
   rw[List.mem_singleton.1 hb];exact⟨by show(0:Int)≤(n:Int);omega,by show(n:Int)<4294967296;omega⟩
  ·rename_i h
   intro b hb
   rcases List.mem_cons.1 hb with e | e
   ·rw[e];exact⟨by show(0:Int)≤((n % 128+128:Nat):Int);omega,by show((n % 128+128:Nat):Int)<4294967296;omega⟩
   ·exact ih (n / 128) (Nat.div_lt_self (by omega) (by omega)) b e
theorem f4(x:Int):B32 (aX x):=by
 unfold aX
 cases inB x 0 2147483647 with
 | false=>intro b hb;cases hb
 | true=>exact MD _
theorem FJ(t:ByteArray):B32 (fW t):=by
 unfold fW
 refine(f4 _).app fun b hb=>?_
 unfold pP eT at hb
 obtain⟨u,_,rfl⟩:=List.mem_map.1 hb
 have:=u.toNat_lt
 exact⟨by show(0:Int)≤((u.toNat:Nat):Int);omega,by show((u.toNat:Nat):Int)<4294967296;omega⟩
theorem JI(s:aH):B32 (j6 s):=by
 unfold j6
 refine(((f4 _).app (B32.flat (fun x=>?_) _)).app (f4 _)).app (B32.flat (fun f=>?_) _)
 ·unfold bL;exact(((((f4 _).app (f4 _)).app (f4 _)).app (f4 _)).app (f4 _)).app (FJ _)
 ·unfold cL;exact(f4 _).app (f4 _)
theorem z3{x:Int}(h:rH x):inB (x.tmod 1024) 0 1023=true:=by
 rw[aU];have:=pZ (x:=x) (n:=1024) h.1 (by omega);omega
theorem l3(s:aH)(k:Int):inB (gS s k) 0 1023=true:=by
 unfold gS
 cases aO s&&inB k 0 3 with
 | true=>exact z3 (LU (JI _))
 | false=>rfl
theorem GR{s:aH}(h:aO s=true):treeB (bX s)=true:=by
 unfold bX;rw[h]
 show treeB (cP s,jU (cP s),())=true
 have hr:inB (jU (cP s)) 0 1023=true:=z3 (LU (B32.flat (fun x=>f4 _) _))
 have hl:kG (cP s) 1023=true:=bI.2 fun i hi=>by
  match i,hi with
  | 0,_=>exact l3 s 0
  | 1,_=>exact l3 s 1
  | 2,_=>exact l3 s 2
  | 3,_=>exact l3 s 3
 unfold treeB
 rw[hl,hr];rfl
end Go.Abs
-- states as points of a lattice: plain laws
namespace Go.Abs
-- comparing one after another
structure Cmp {α:Type} (c:α→α→Int):Prop where
 neg:∀ a b,c b a= - c a b
 eq:∀ a b,c a b=0→a=b
 tr:∀ a b d,c a b≤0→c b d≤0→c a d≤0
theorem Cmp.self{α:Type}{c:α→α→Int}(h:Cmp c)(a:α):c a a=0:=by have:=h.neg a a;omega
theorem Cmp.lex{α β:Type}{c:α→α→Int}{d:β→β→Int}(hc:Cmp c)(hd:Cmp d):Cmp (fun(a b:α×β)=>if c a.1 b.1≠0 then c a.1 b.1 else d a.2 b.2) where
 neg a b:=by
  show(if c b.1 a.1≠0 then c b.1 a.1 else d b.2 a.2)= -(if c a.1 b.1≠0 then c a.1 b.1 else d a.2 b.2)
  rw[hc.neg a.1 b.1,hd.neg a.2 b.2];exact qV _ _
 eq a b h:=by
  have h:(if c a.1 b.1≠0 then c a.1 b.1 else d a.2 b.2)=0:=h
  by_cases h0:c a.1 b.1=0
  ·rw[if_neg (fun g=>g h0)] at h
   exact Prod.ext (hc.eq _ _ h0) (hd.eq _ _ h)
  ·rw[if_pos h0] at h;exact absurd h h0
 tr a b e h1 h2:=by
  have h1:(if c a.1 b.1≠0 then c a.1 b.1 else d a.2 b.2)≤0:=h1
  have h2:(if c b.1 e.1≠0 then c b.1 e.1 else d b.2 e.2)≤0:=h2
  show(if c a.1 e.1≠0 then c a.1 e.1 else d a.2 e.2)≤0
  have k2:c b.1 e.1≤0:=by
   by_cases h0:c b.1 e.1=0
   ·omega
   ·rw[if_pos h0] at h2;exact h2
  by_cases h0:c a.1 b.1=0
  ·rw[if_neg (fun g=>g h0)] at h1
   rw[hc.eq _ _ h0]
   by_cases g0:c b.1 e.1=0
   ·rw[if_neg (fun g=>g g0)] at h2 ⊢;exact hd.tr _ _ _ h1 h2
   ·rw[if_pos g0];exact k2
  ·rw[if_pos h0] at h1
   have k3:=hc.tr _ _ _ h1 k2
   by_cases g0:c a.1 e.1=0
   ·have e1:=hc.eq _ _ g0
    rw[← e1,hc.neg a.1 b.1] at k2;omega
   ·rw[if_pos g0];exact k3
theorem l2_cmp:Cmp l2 where
 neg:=vW
 eq a b h:=by
  unfold l2 at h
  by_cases h1:a<b
  ·rw[decide_eq_true h1] at h;cases h
  ·rw[decide_eq_false h1] at h
   by_cases h2:a>b
   ·rw[decide_eq_true h2] at h;cases h
   ·omega
 tr a b d h1 h2:=by
  have key:∀ x y:Int,l2 x y≤0↔x≤y:=fun x y=>by
   unfold l2
   by_cases h1:x<y
   ·rw[decide_eq_true h1];exact⟨fun _=>by omega,fun _=>by show(-1:Int)≤0;omega⟩
   ·rw[decide_eq_false h1]
    by_cases h2:x>y
    ·rw[decide_eq_true h2];exact⟨fun h=>by have h:(1:Int)≤0:=h;omega,fun _=>by omega⟩
    ·rw[decide_eq_false h2];exact⟨fun _=>by omega,fun _=>Int.le_refl 0⟩
  rw[key] at h1 h2 ⊢;omega
theorem EA{x y:Int}(h:l2 x y≤0):x≤y:=by
 unfold l2 at h
 by_cases h1:x<y
 ·omega
 ·rw[decide_eq_false h1] at h
  by_cases h2:x>y
  ·rw[decide_eq_true h2] at h;have h:(1:Int)≤0:=h;omega
  ·omega
theorem LA(x:Int):l2 x x=0:=l2_cmp.self x
theorem BP:∀ x y:List UInt8,Lib.compareBytes x y=0→x=y
 | [],[],_=>rfl
 | [],_::_,h=>by unfold Lib.compareBytes at h;omega
 | _::_,[],h=>by unfold Lib.compareBytes at h;omega
 | a::x,b::y,h=>by
  unfold Lib.compareBytes at h
  by_cases h1:a<b
  ·rw[if_pos h1] at h;omega
  ·rw[if_neg h1] at h
   by_cases h2:b<a
   ·rw[if_pos h2] at h;omega
   ·rw[if_neg h2] at h
    have e:a=b:=UInt8.toNat_inj.1 (by rw[UInt8.lt_iff_toNat_lt] at h1 h2;omega)
    rw[e,BP x y h]
theorem BO:∀ x y z:List UInt8,Lib.compareBytes x y≤0→Lib.compareBytes y z≤0→Lib.compareBytes x z≤0
 | [],_,[],_,_=>by unfold Lib.compareBytes;omega
 | [],_,_::_,_,_=>by unfold Lib.compareBytes;omega
 | _::_,[],_,h,_=>by unfold Lib.compareBytes at h;omega
 | _::_,_::_,[],_,h=>by unfold Lib.compareBytes at h;omega
 | a ::x,b::y,c::z,h1,h2=>by
  unfold Lib.compareBytes at h1 h2 ⊢
  simp only[UInt8.lt_iff_toNat_lt] at h1 h2 ⊢
  by_cases c1:a.toNat<b.toNat
  ·by_cases c2:b.toNat<c.toNat
   ·rw[if_pos (by omega)];omega
   ·rw[if_neg c2] at h2
    by_cases c3:c.toNat<b.toNat
    ·rw[if_pos c3] at h2;omega
    ·rw[if_pos (by omega)];omega
  ·rw [if_neg c1] at h1
   by_cases c2:b.toNat<a.toNat
   ·rw[if_pos c2] at h1;omega
   ·rw[if_neg c2] at h1
    by_cases c3:b.toNat<c.toNat
    ·rw[if_pos (by omega)];omega
    ·rw[if_neg c3] at h2
     by_cases c4:c.toNat<b.toNat
     ·rw[if_pos c4] at h2;omega
     ·rw[if_neg c4] at h2
      rw[if_neg (by omega),if_neg (by omega)];exact BO x y z h1 h2
theorem JE:Cmp (fun(a b:ByteArray×Unit)=>rE a.1 b.1) where
 neg a b:=sK _ _
 eq a b h:=by
  have h1:=BP _ _ h
  obtain⟨⟨⟨x⟩⟩,u⟩:=a
  obtain⟨⟨⟨y⟩⟩,v⟩:=b
  have h1:x=y:=h1
  rw[h1]
 tr a b d h1 h2:=BO _ _ _ h1 h2
theorem cmpE_cmp:Cmp fT:=l2_cmp.lex (l2_cmp.lex (l2_cmp.lex (l2_cmp.lex JE)))
def leE(a b:bE):Prop:=fT a b≤0
theorem lC(a:bE):leE a a:=Int.le_of_eq (cmpE_cmp.self a)
theorem FW{a b c:bE}(h1:leE a b)(h2:leE b c):leE a c:=cmpE_cmp.tr _ _ _ h1 h2
theorem FX(a b:bE):leE a b∨leE b a:=by unfold leE;have:=nQ a b;omega
theorem l4{a b:bE}(h1:leE a b)(h2:leE b a):a=b:=cmpE_cmp.eq _ _ (by unfold leE at h1 h2;have:=nQ a b;omega)
theorem kH{a b:bE}(h:leE a b):a.1≤b.1:=by
 unfold leE fT at h
 by_cases h0:l2 a.1 b.1=0
 ·exact EA (by omega)
 ·rw[if_pos h0] at h;exact EA h
theorem IE{a b:bE}(h:leE a b)(e:a.1=b.1):a.2.1≤b.2.1:=by
 unfold leE fT at h
 rw[e,if_neg (fun g=>g (LA _))] at h
 by_cases h0:l2 a.2.1 b.2.1=0
 ·exact EA (by omega)
 ·rw[if_pos h0] at h;exact EA h
theorem GN{e:bE}(h:1≤e.1):leE cQ e:=by unfold leE;rw[sH h];omega
theorem AX(a b:bE):leE a (mxE a b):=by
 unfold mxE
 by_cases h:fT a b<0
 ·rw[decide_eq_true h];show fT a b≤0;omega
 ·rw[decide_eq_false h];exact lC a
theorem H0(a b:bE):leE b (mxE a b):=by
 unfold mxE
 by_cases h:fT a b<0
 ·rw[decide_eq_true h];exact lC b
 ·rw[decide_eq_false h];show fT b a≤0;rw[nQ a b];omega
theorem CN(a b:bE):mxE a b=a∨mxE a b=b:=by
 unfold mxE;cases decide (fT a b<0)
 ·exact .inl rfl
 ·exact .inr rfl
theorem H1{a b:bE}(h:leE a b):mxE a b=b:=l4 (by rcases CN a b with e | e<;>rw[e];exact h;exact lC b) (H0 a b)
theorem D4{a b:bE}(h:leE b a):mxE a b=a:=l4 (by rcases CN a b with e | e<;>rw[e];exact lC a;exact h) (AX a b)
-- points
def ent(s:aH)(i:Int):bE:=(bC s i).1
def flo(s:aH)(i:Int):Int:=cG s.2.1 i
structure Pt (e:bE) (f:Int):Prop where
 nn:0≤f
 up:e=cQ∨f<e.1
def nrm(m:bE)(f:Int):bE:=if f<m.1 then m else cQ
theorem fN:cQ.1=0:=rfl
theorem F2{s:aH}(h:StateOk s){x:bN}(hx:x∈s.1):bC s x.1=(x.2,true):=by
 rcases dW s x.1 with ⟨y,hy,h1,e⟩ | ⟨h1,_⟩
 ·have:y=x:=by
   obtain⟨i,hi,rfl⟩:=iA hx
   obtain⟨j,hj,rfl⟩:=iA hy
   have hp:=h.items
   rw[List.pairwise_iff_getElem] at hp
   rcases Nat.lt_trichotomy i j with h2 | h2 | h2
   ·have:=hp i j hi hj h2;rw[← cZ hi,← cZ hj] at this;omega
   ·rw[h2]
   ·have:=hp j i hj hi h2;rw[← cZ hi,← cZ hj] at this;omega
  rw[e,this]
 ·exact absurd rfl (h1 x hx)
theorem I8{s:aH}(h:StateOk s){x:bN}(hx:x∈s.1):ent s x.1=x.2:=by unfold ent;rw[F2 h hx]
theorem A8{s:aH}(h:StateOk s){x:bN}(hx:x∈s.1):1≤x.2.1:=h.pos.item x hx
theorem lI{s:aH}(h:StateOk s)(i:Int):(1≤(ent s i).1∧(i,ent s i)∈s.1∧(bC s i).2=true∧dL (ent s i)=true)∨(ent s i=cQ∧(bC s i).2=false):=by
 unfold ent
 rcases dW s i with ⟨x,hx,h1,e⟩ | ⟨h1,e⟩
 ·rw[e];subst h1;exact .inl ⟨A8 h hx,hx,rfl,(h.item x hx).2.1⟩
 ·rw[e];exact .inr ⟨rfl,rfl⟩
theorem mK{s:aH}(h:StateOk s)(i:Int):Pt (ent s i) (flo s i):=by
 refine⟨(mC h i).1,?_⟩
 rcases lI h i with ⟨_,h2,_⟩ | ⟨h2,_⟩
 ·exact .inr (h.item _ h2).2.2
 ·exact .inl h2
theorem zV{α:Type}{k:α→Int}:∀ {a b:List α},a.Pairwise (fun x y=>k x<k y)→b.Pairwise (fun x y=>k x<k y)→(∀ x,x∈a↔x∈b)→a=b
 | [],[],_,_,_=>rfl
 | [],y::_,_,_,h=>by have:=(h y).2 (List.mem_cons_self ..);cases this
 | x::_,[],_,_,h=>by have:=(h x).1 (List.mem_cons_self ..);cases this
 | x::a,y::b,ha,hb,h=>by
  rw[List.pairwise_cons] at ha hb
  have e:x=y:=by
   rcases List.mem_cons.1 ((h x).1 (List.mem_cons_self ..))with e | e
   ·exact e
   ·rcases List.mem_cons.1 ((h y).2 (List.mem_cons_self ..))with e2 | e2
    ·exact e2.symm
    ·have h1:=hb.1 x e;have h2:=ha.1 y e2;omega
  subst e
  rw[zV ha.2 hb.2 fun z=>⟨fun hz=>?_,fun hz=>?_⟩]
  ·rcases List.mem_cons.1 ((h z).1 (List.mem_cons_of_mem _ hz))with e | e
   ·have:=ha.1 z hz;rw[e] at this;omega
   ·exact e
  ·rcases List.mem_cons.1 ((h z).2 (List.mem_cons_of_mem _ hz))with e | e
   ·have:=hb.1 z hz;rw[e] at this;omega
   ·exact e
theorem kZ{i:Int}(h:dT i=true):∃ k:Nat,k<5∧i=k:=by
 unfold dT at h;rw[aU] at h
 exact⟨i.toNat,by omega,by omega⟩
theorem G2{a b:aH}(ha:StateOk a)(hb:StateOk b)(h:∀ i:Nat,i<5→ent a i=ent b i∧flo a i=flo b i):a=b:=by
 have key:∀ {a b:aH},StateOk a→StateOk b→(∀ i:Nat,i<5→ent a i=ent b i∧flo a i=flo b i)→∀ x,x∈a.1→x∈b.1:=by
  intro a b ha hb h x hx
  obtain⟨k,hk,e⟩:=kZ (ha.item x hx).1
  have h1:=(h k hk).1
  rw[← e,I8 ha hx] at h1
  rcases lI hb x.1 with ⟨_,h2,_⟩ | ⟨h2,_⟩
  ·rw[← h1] at h2;exact h2
  ·have:=A8 ha hx;rw[h1,h2] at this;have:(1:Int)≤0:=this;omega
 have keyF:∀ {a b:aH},StateOk a→StateOk b→(∀ i:Nat,i<5→ent a i=ent b i∧flo a i=flo b i)→∀ x,x∈a.2.1→x∈b.2.1:=by
  intro a b ha hb h x hx
  obtain⟨k,hk,e⟩:=kZ (ha.floor x hx).1
  have h1:=(h k hk).2
  have h3:flo a x.1=x.2.1:=zP ha hx
  have h4:=(ha.floor x hx).2
  rw[aU] at h4
  rw[← e,h3] at h1
  rcases dV b x.1 with ⟨y,hy,h5,h6⟩ | ⟨_,h6⟩
  ·have h6:flo b x.1=y.2.1:=h6
   have:y=x:=Prod.ext h5 (Prod.ext (by rw[← h6,← h1]) rfl)
   rw[← this];exact hy
  ·have h6:flo b x.1=0:=h6
   omega
 have h':∀ i:Nat,i<5→ent b i=ent a i∧flo b i=flo a i:=fun i hi=>⟨(h i hi).1.symm,(h i hi).2.symm⟩
 refine Prod.ext (zV (k:=fun x:bN=>x.1) ha.items hb.items fun x=>⟨key ha hb h x,key hb ha h' x⟩) (Prod.ext (zV (k:=fun x:aR=>x.1) ha.floors hb.floors fun x=>⟨keyF ha hb h x,keyF hb ha h' x⟩) rfl)
theorem lF{a b:aH}(ha:StateOk a){i:Nat}(hi:i<5):flo (cJ a b) i=max (flo a i) (flo b i):=by
 have hf:flr a b i=max (flo a i) (flo b i):=by unfold flr;rw[mM];rfl
 have h0:=I2 (b:=b) ha.pos (i:Int)
 unfold flo
 rcases dV (cJ a b) i with ⟨x,hx,h1,e⟩ | ⟨h1,e⟩
 ·rw[e]
  obtain⟨j,_,hx⟩:=iI hx
  obtain⟨rfl,_⟩:=l9 hx
  have:(j:Int)=(i:Int):=h1
  show flr a b (j:Int)=_
  rw[this];exact hf
 ·rw[e]
  by_cases h2:flr a b i>0
  ·refine absurd rfl (h1 ((i:Int),flr a b i,()) ?_)
   exact List.mem_flatMap.2 ⟨i,List.mem_range.2 hi,by rw[l7 h2];exact List.mem_singleton.2 rfl⟩
  ·show 0=max (flo a i) (flo b i)
   omega
theorem lH(a b:aH){i:Nat}(hi:i<5):ent (cJ a b) i=nrm (mxE (ent a i) (ent b i)) (max (flo a i) (flo b i)):=by
 have hf:flr a b i=max (flo a i) (flo b i):=by unfold flr;rw[mM];rfl
 have hp:dM a b i=mxE (ent a i) (ent b i):=rfl
 rw[← hf,← hp]
 unfold ent nrm
 rcases dW (cJ a b) i with ⟨x,hx,h1,e⟩ | ⟨h1,e⟩
 ·rw[e]
  obtain⟨j,_,hx⟩:=iI hx
  obtain⟨rfl,h2⟩:=sB hx
  have e2:(j:Int)=(i:Int):=h1
  rw[e2] at h2
  rw[if_pos h2];show dM a b (j:Int)=_;rw[e2]
 ·rw[e]
  by_cases h2:flr a b i<(dM a b i).1
  ·refine absurd rfl (h1 ((i:Int),dM a b i) ?_)
   exact List.mem_flatMap.2 ⟨i,List.mem_range.2 hi,by rw[fP rfl h2];exact List.mem_singleton.2 rfl⟩
  ·rw[if_neg h2]
-- the order of points
def LeP(e:bE)(f:Int)(e':bE)(f':Int):Prop:=f≤f'∧(e.1≤f'∨leE e e')
theorem LeP.refl(e:bE)(f:Int):LeP e f e f:=⟨Int.le_refl f, .inr (lC e)⟩
theorem LeP.trans{e f e' f' e'' f''}(h:LeP e f e' f')(h':LeP e' f' e'' f''):LeP e f e'' f'':=by
 refine⟨Int.le_trans h.1 h'.1,?_⟩
 rcases h.2 with h2 | h2
 ·exact .inl (Int.le_trans h2 h'.1)
 ·rcases h'.2 with h3 | h3
  ·exact .inl (Int.le_trans (kH h2) h3)
  ·exact .inr (FW h2 h3)
theorem MH{m:bE}{f:Int}(h:Pt m f):nrm m f=m:=by
 unfold nrm
 rcases h.up with e | e
 ·have:=h.nn;rw[e,if_neg (by rw[fN];omega)]
 ·rw[if_pos e]
theorem D9{e f e' f'}(h:Pt e f)(h':Pt e' f'):(nrm (mxE e e') (max f f')=e'∧max f f'=f')↔LeP e f e' f':=by
 constructor
 ·rintro ⟨h1,h2⟩
  refine⟨by omega,?_⟩
  rw[h2] at h1
  by_cases h3:e.1≤f'
  ·exact .inl h3
  ·have h4:=kH (AX e e')
   unfold nrm at h1
   rw[if_pos (by omega)] at h1
   exact .inr (by have:=AX e e';rw[h1] at this;exact this)
 ·rintro ⟨h1,h2⟩
  have hm:max f f'=f':=by omega
  rw[hm]
  refine⟨?_,rfl⟩
  by_cases hl:leE e e'
  ·rw[H1 hl];exact MH h'
  ·have h3:e.1≤f':=by rcases h2 with h2 | h2;exact h2;exact absurd h2 hl
   have h4:leE e' e:=by rcases FX e e' with h4 | h4;exact absurd h4 hl;exact h4
   rw[D4 h4]
   unfold nrm
   rw[if_neg (by omega)]
   rcases h'.up with h5 | h5
   ·exact h5.symm
   ·have:=kH h4;omega
theorem C1{e f e' f'}:LeP e f (nrm (mxE e e') (max f f')) (max f f'):=by
 refine⟨by omega,?_⟩
 by_cases h:e.1≤max f f'
 ·exact .inl h
 ·have h4:=kH (AX e e')
  unfold nrm;rw[if_pos (by omega)];exact .inr (AX e e')
theorem C0{e f e' f'}:LeP e' f' (nrm (mxE e e') (max f f')) (max f f'):=by
 refine⟨by omega,?_⟩
 by_cases h:e'.1≤max f f'
 ·exact .inl h
 ·have h4:=kH (H0 e e')
  unfold nrm;rw[if_pos (by omega)];exact .inr (H0 e e')
theorem K0{e f e' f' e'' f''}(h0:0≤f'')(h:LeP e f e'' f'')(h':LeP e' f' e'' f''):LeP (nrm (mxE e e') (max f f')) (max f f') e'' f'':=by
 refine⟨by have:=h.1;have:=h'.1;omega,?_⟩
 unfold nrm
 split
 ·rcases CN e e' with e1 | e1<;>rw[e1]
  ·exact h.2
  ·exact h'.2
 ·exact .inl h0
theorem zM{e f e' f'}(h:Pt e f)(h':Pt e' f')(h1:LeP e f e' f')(h2:LeP e' f' e f):e=e'∧f=f':=by
 have hf:f=f':=Int.le_antisymm h1.1 h2.1
 subst hf
 refine⟨?_,rfl⟩
 have hz:=h.nn
 rcases h.up with e0 | e0
 ·rcases h'.up with e1 | e1
  ·rw[e0,e1]
  ·rcases h2.2 with h3 | h3
   ·omega
   ·have:=kH h3;rw[e0,fN] at this;omega
 ·rcases h1.2 with h3 | h3
  ·omega
  ·rcases h2.2 with h4 | h4
   ·have:=kH h3;omega
   ·exact l4 h3 h4
-- the order of states
structure Leq (a b:aH):Prop where
 oka:StateOk a
 okb:StateOk b
 le:∀ i:Nat,i<5→LeP (ent a i) (flo a i) (ent b i) (flo b i)
theorem H9{a b:aH}:KY a b=true↔Leq a b:=by
 unfold KY
 rw[Bool.and_eq_true,Bool.and_eq_true,iW,aW,aW]
 constructor
 ·rintro ⟨ha,hb,e⟩
  refine⟨ha,hb,fun i hi=>(D9 (mK ha _) (mK hb _)).1 ?_⟩
  rw[← lH a b hi,← lF ha hi,e];exact⟨rfl,rfl⟩
 ·rintro ⟨ha,hb,h⟩
  refine⟨ha,hb,G2 (ha.join hb) hb fun i hi=>?_⟩
  rw[lH a b hi,lF ha hi]
  exact(D9 (mK ha _) (mK hb _)).2 (h i hi)
theorem Leq.join{a b:aH}(h:Leq a b):cJ a b=b:=by
 have:=H9.2 h
 unfold KY at this
 rw[Bool.and_eq_true,Bool.and_eq_true,iW] at this
 exact this.2.2
theorem Leq.refl{a:aH}(h:StateOk a):Leq a a:=⟨h,h,fun i _=>LeP.refl _ _⟩
theorem Leq.trans{a b c:aH}(h:Leq a b)(h':Leq b c):Leq a c:=⟨h.oka,h'.okb,fun i hi=>(h.le i hi).trans (h'.le i hi)⟩
theorem Leq.antisymm{a b:aH}(h:Leq a b)(h':Leq b a):a=b:=G2 h.oka h.okb fun i hi=>zM (mK h.oka _) (mK h.okb _) (h.le i hi) (h'.le i hi)
theorem Leq.left{a b:aH}(ha:StateOk a)(hb:StateOk b):Leq a (cJ a b):=⟨ha,ha.join hb,fun i hi=>by rw[lH a b hi,lF ha hi];exact C1⟩
theorem Leq.right{a b:aH}(ha:StateOk a)(hb:StateOk b):Leq b (cJ a b):=⟨hb,ha.join hb,fun i hi=>by rw[lH a b hi,lF ha hi];exact C0⟩
theorem Leq.lub{a b c:aH}(h:Leq a c)(h':Leq b c):Leq (cJ a b) c:=⟨h.oka.join h'.oka,h.okb,fun i hi=>by rw[lH a b hi,lF h.oka hi];exact K0 (mK h.okb _).nn (h.le i hi) (h'.le i hi)⟩
theorem C3{a b:aH}(ha:StateOk a)(hb:StateOk b):cJ a b=cJ b a:=
 Leq.antisymm (Leq.lub (Leq.right hb ha) (Leq.left hb ha)) (Leq.lub (Leq.right ha hb) (Leq.left ha hb))
theorem Leq.joinR{a b:aH}(h:Leq a b):cJ b a=b:=by rw[C3 h.okb h.oka];exact h.join
theorem Leq.mono{a a' b b':aH}(h:Leq a a')(h':Leq b b'):Leq (cJ a b) (cJ a' b'):=Leq.lub (h.trans (Leq.left h.okb h'.okb)) (h'.trans (Leq.right h.okb h'.okb))
theorem vM:StateOk iK:=(aW _).1 qQ
theorem Leq.nil{a:aH}(h:StateOk a):Leq iK a:=⟨vM,h,fun i _=>⟨(mK h _).nn, .inl (mK h _).nn⟩⟩
-- what is over at a point
def gL(e:bE)(f:Int):Int:=if 1≤e.1 then(if e.2.1=0 then e.1 - 1 else e.1)else f
theorem pI{e:bE}(h:dL e=true):1≤e.1∧e.1≤1000∧(e.2.1=0∨e.2.1=1):=by
 unfold dL at h;simp only[Bool.and_eq_true,aU] at h;omega
theorem qX{s:aH}(h:StateOk s)(i:Int):gone s i=gL (ent s i) (flo s i):=by
 unfold gone gL
 rw[(aW s).2 h]
 rcases lI h i with ⟨h1,_,h3,h4⟩ | ⟨h2,h3⟩
 ·have h5:=pI h4
  rw[h3,if_pos h1]
  show(bif(ent s i).2.1==0 then i64.wrap ((ent s i).1 - 1)else(ent s i).1)=_
  rcases h5.2.2 with e | e
  ·rw[e,if_pos rfl];show i64.wrap ((ent s i).1 - 1)=_;rw[IntKind.wrap_i64];omega
  ·rw[e,if_neg (by omega)];rfl
 ·rw[h3,h2,if_neg (by rw[fN];omega)];rfl
theorem BE{e:bE}{f:Int}(h:¬ 1≤e.1):gL e f=f:=by unfold gL;rw[if_neg h]
theorem BD{e:bE}{f:Int}(h:1≤e.1)(h':e.2.1=0):gL e f=e.1 - 1:=by unfold gL;rw[if_pos h,if_pos h']
theorem BF{e:bE}{f:Int}(h:1≤e.1)(h':e.2.1≠0):gL e f=e.1:=by unfold gL;rw[if_pos h,if_neg h']
theorem v4{e:bE}{f:Int}(h:1≤e.1):e.1 - 1≤gL e f∧gL e f≤e.1:=by
 by_cases h':e.2.1=0
 ·rw[BD h h'];omega
 ·rw[BF h h'];omega
theorem IX{e:bE}{f:Int}(h:Pt e f):f≤gL e f:=by
 by_cases h1:1≤e.1
 ·have h2:=v4 (f:=f) h1
  rcases h.up with h3 | h3
  ·rw[h3,fN] at h1;omega
  ·omega
 ·rw[BE h1];omega
theorem C8{e f e' f'}(h:Pt e f)(h':Pt e' f')(hr:e.1=e'.1→e.2.1≠0→e.2.1≤e'.2.1→e'.2.1≠0)(hl:LeP e f e' f'):gL e f≤gL e' f':=by
 have g:=IX h'
 by_cases h1:1≤e.1
 ·have g1:=v4 (f:=f) h1
  rcases hl.2 with h2 | h2
  ·omega
  ·have h3:=kH h2
   have h1':1≤e'.1:=by omega
   have g2:=v4 (f:=f') h1'
   by_cases h4:e.1=e'.1
   ·by_cases h6:e.2.1=0
    ·rw[BD h1 h6];omega
    ·rw[BF h1' (hr h4 h6 (IE h2 h4))];omega
   ·omega
 ·rw[BE h1];have:=hl.1;omega
theorem Leq.gone{a b:aH}(h:Leq a b){i:Nat}(hi:i<5):gone a i≤Go.Abs.gone b i:=by
 rw[qX h.oka,qX h.okb]
 refine C8 (mK h.oka _) (mK h.okb _) (fun h1 h2 h3=>?_) (h.le i hi)
 rcases lI h.oka i with ⟨_,_,_,h4⟩ | ⟨h4,_⟩
 ·have:=pI h4;omega
 ·rw[h4] at h2;exact absurd rfl h2
end Go.Abs
-- pruning, tables and taking done twice: plain laws
namespace Go.Abs
theorem HR(f:Int)(h:0≤f):nrm cQ f=cQ:=by unfold nrm;rw[if_neg (by rw[fN];omega)]
theorem DB(s:aH)(t:List bQ){i:Nat}(hi:i<5):flo (eA s t) i=max 0 (min (dR t i) (gone s i)):=by
 have hm:mxI false (dR t i) (gone s i)=min (dR t i) (gone s i):=AW _ _
 unfold flo
 rcases dV (eA s t) i with ⟨x,hx,h1,e⟩ | ⟨h1,e⟩
 ·rw[e]
  obtain⟨j,_,hx⟩:=iI hx
  unfold eE at hx
  cases hd:decide (mxI false (dR t j) (gone s j)>0)with
  | false=>rw[hd] at hx;cases hx
  | true=>
   rw[hd] at hx
   have e1:=List.mem_singleton.1 hx
   have h0:=of_decide_eq_true hd
   rw[e1] at h1 ⊢
   have h1:(j:Int)=(i:Int):=h1
   have h1:j=i:=by omega
   subst h1
   show mxI false (dR t j) (gone s j)=_
   omega
 ·rw[e]
  by_cases h2:mxI false (dR t i) (gone s i)>0
  ·refine absurd rfl (h1 ((i:Int),mxI false (dR t i) (gone s i),()) ?_)
   exact List.mem_flatMap.2 ⟨i,List.mem_range.2 hi,by unfold eE;rw[decide_eq_true h2];exact List.mem_singleton.2 rfl⟩
  ·omega
theorem DD(s:aH)(t:List bQ)(i:Int):ent (eA s t) i=cQ:=by
 unfold ent
 rcases dW (eA s t) i with ⟨x,hx,h1,e⟩ | ⟨h1,e⟩
 ·cases hx
 ·rw[e]
theorem v7(s:aH)(t:List bQ):StateOk (eA s t):=(aW _).1 (nK s t)
theorem qK{s:aH}(h:StateOk s)(t:List bQ):prune s t=cJ s (eA s t):=by unfold prune;rw[(aW s).2 h];rfl
theorem rU{s:aH}(h:StateOk s)(t:List bQ):StateOk (prune s t):=(aW _).1 (vA ((aW s).2 h) t)
theorem F9{e:bE}{f g:Int}(h:Pt e f)(hr:1≤e.1→e.2.1=0∨e.2.1=1)(hg:g≤gL e f):gL (nrm (mxE e cQ) (max f g)) (max f g)=gL e f:=by
 have h0:=h.nn
 rcases h.up with e0 | e1
 ·rw[e0,H1 (lC cQ)]
  rw[HR _ (by omega)]
  rw[e0] at hg
  unfold gL at hg ⊢
  rw[if_neg (by rw[fN];omega)] at hg
  rw[if_neg (by rw[fN];omega),if_neg (by rw[fN];omega)];omega
 ·rw[D4 (GN (by omega))]
  unfold nrm
  have h1:1≤e.1:=by omega
  have hgo:gL e f=if e.2.1=0 then e.1 - 1 else e.1:=by unfold gL;rw[if_pos h1]
  by_cases hc:max f g<e.1
  ·rw[if_pos hc,hgo];unfold gL;rw[if_pos h1]
  ·rw[if_neg hc]
   rw[hgo] at hg ⊢
   unfold gL;rw[if_neg (by rw[fN];omega)]
   rcases hr h1 with h2 | h2
   ·rw[if_pos h2] at hg;omega
   ·rw[if_neg (by omega)] at hg ⊢;omega
theorem I7{s:aH}(h:StateOk s)(i:Int):1≤(ent s i).1→(ent s i).2.1=0∨(ent s i).2.1=1:=by
 intro h1
 rcases lI h i with ⟨_,_,_,h4⟩ | ⟨h4,_⟩
 ·exact(pI h4).2.2
 ·rw[h4,fN] at h1;omega
theorem v3{s:aH}(h:StateOk s)(t:List bQ){i:Nat}(hi:i<5):gone (prune s t) i=gone s i:=by
 have hg:=LC ((aW s).2 h) (i:Int)
 rw[qX (rU h t),qK h,lH _ _ hi,lF h hi,DD,DB s t hi,qX h]
 rw[qX h] at hg
 exact F9 (mK h _) (I7 h _) (by omega)
theorem pS{α:Type}{g g':Nat→List α}:∀ {n:Nat},(∀ i,i<n→g i=g' i)→bG n g=bG n g'
 | 0,_=>rfl
 | n+1,h=>by rw[cV,cV,pS (n:=n) fun i hi=>h i (by omega),h n (by omega)]
theorem v8{s s':aH}(t:List bQ)(h:∀ i:Nat,i<5→gone s i=gone s' i):eA s t=eA s' t:=by
 have:bG 5 (eE s t)=bG 5 (eE s' t):=pS fun i hi=>by unfold eE;rw[h i hi]
 unfold eA;rw[this]
theorem w8{s s':aH}(h:∀ i:Nat,i<5→gone s i=gone s' i):cA s=cA s':=by
 unfold cA;exact pS fun i hi=>by unfold f6;rw[h i hi]
theorem AQ{s:aH}(h:StateOk s)(t:List bQ):prune (prune s t) t=prune s t:=by
 have hp:=rU h t
 rw[qK hp,v8 (s:=prune s t) (s':=s) t fun i hi=>v3 h t hi]
 refine Leq.joinR ?_
 rw[qK h];exact Leq.right h (v7 s t)
theorem FL{s:aH}(h:StateOk s)(t:List bQ):Leq s (prune s t):=by rw[qK h];exact Leq.left h (v7 s t)
theorem A0{s:aH}(h:StateOk s)(t:List bQ):cA (prune s t)=cA s:=w8 fun i hi=>v3 h t hi
-- rows that hold marks already
def JM(t:List bQ)(k j:Nat):Int:=(gt (gt t k).1 j).1
def Cov(t:List bQ)(k:Int)(ms:List aR):Prop:=∀ i,i<ms.length→(gt ms i).2.1≤JM t k.toNat (gt ms i).1.toNat
def DoneT(t:List bQ)(k:Int)(ms:List aR):Prop:=kA t k ms=true→Cov t k ms
theorem DT{t t':List bQ}(hl:t.length=t'.length)(hr:∀ j,(gt t j).1.length=(gt t' j).1.length)(k:Int)(ms:List aR):kA t k ms=kA t' k ms:=by
 unfold kA;rw[hl,hr]
theorem BZ(t:List bQ)(k k':Int)(ms ms':List aR):kA (bB t k' ms') k ms=kA t k ms:=
 DT (cT t k' ms') (fun j=>eG t k' ms' j) k ms
theorem BW(r:bQ)(ms:List aR):∀ i j,(gt r.1 j).1≤(gt (iM r ms i).1 j).1
 | 0,_=>Int.le_refl _
 | i+1,j=>by
  have ih:=BW r ms i j
  show _≤(gt (List.set (iM r ms i).1 (gt ms i).1.toNat (mxI true (gt (iM r ms i).1 (gt ms i).1.toNat).1 (gt ms i).2.1,())) j).1
  rcases Nat.lt_or_ge (gt ms i).1.toNat (iM r ms i).1.length with h | h
  ·by_cases e:(gt ms i).1.toNat=j
   ·rw[e] at h ⊢
    rw[cB h]
    show _≤mxI true _ _
    rw[mM];omega
   ·rw[dX e];exact ih
  ·rw[List.set_eq_of_length_le h];exact ih
theorem sU(r:bQ){ms:List aR}(h:∀ i,i<ms.length→(gt ms i).1.toNat<r.1.length):∀ n,n≤ms.length→∀ i,i<n→(gt ms i).2.1≤(gt (iM r ms n).1 (gt ms i).1.toNat).1
 | 0,_,_,hi=>by omega
 | n+1,hn,i,hi=>by
  show _≤(gt (List.set (iM r ms n).1 (gt ms n).1.toNat (mxI true (gt (iM r ms n).1 (gt ms n).1.toNat).1 (gt ms n).2.1,())) (gt ms i).1.toNat).1
  have hl:(gt ms n).1.toNat<(iM r ms n).1.length:=by rw[jR];exact h n (by omega)
  by_cases e:(gt ms n).1.toNat=(gt ms i).1.toNat
  ·rw[e] at hl ⊢
   rw[cB hl]
   show _≤mxI true _ _
   rw[mM]
   by_cases c:i=n
   ·subst c;omega
   ·have:=sU r h n (by omega) i (by omega);omega
  ·rw[dX e]
   exact sU r h n (by omega) i (by
    rcases Nat.lt_or_ge i n with c | c
    ·exact c
    ·exact absurd (by rw[show i=n by omega]) e)
theorem BV{r:bQ}{ms:List aR}(h:∀ i,i<ms.length→(gt ms i).2.1≤(gt r.1 (gt ms i).1.toNat).1):∀ n,n≤ms.length→iM r ms n=r
 | 0,_=>rfl
 | n+1,hn=>by
  show uZ (iM r ms n) (gt ms n)=r
  rw[BV h n (by omega)]
  have:=h n (by omega)
  unfold uZ
  rw[mM,show max (gt r.1 (gt ms n).1.toNat).1 (gt ms n).2.1=(gt r.1 (gt ms n).1.toNat).1 by omega]
  show(r.1.set (gt ms n).1.toNat (gt r.1 (gt ms n).1.toNat),())=r
  rw[m6]
structure AddOk (t:List bQ) (k:Int) (ms:List aR):Prop where
 kn:k.toNat<t.length
 mok:dK ms=true
 row:5≤(gt t k.toNat).1.length
theorem JP{t:List bQ}{k:Int}{ms:List aR}(hl:t.length≤aS)(h:kA t k ms=true):AddOk t k ms:=by
 unfold kA at h
 simp only[Bool.and_eq_true,Bool.not_eq_true',decide_eq_false_iff_not] at h
 exact⟨(kJ hl h.1).1,h.2.1,by omega⟩
theorem AddOk.ids{t:List bQ}{k:Int}{ms:List aR}(h:AddOk t k ms):∀ i,i<ms.length→(gt ms i).1.toNat<(gt t k.toNat).1.length:=fun i hi=>by
 have h1:=qT h.mok hi;have h2:=h.row;omega
theorem BU{t:List bQ}(hl:t.length≤aS)(k:Int)(ms:List aR):DoneT (bB t k ms) k ms:=by
 intro hb
 rw[BZ] at hb
 have ho:=JP hl hb
 intro i hi
 unfold JM bB
 rw[hb]
 show _≤(gt (gt (bO t k.toNat ms ms.length) k.toNat).1 _).1
 unfold bO
 rw[cB ho.kn]
 exact sU _ ho.ids _ (Nat.le_refl _) i hi
theorem MX(t:List bQ)(k:Int)(ms:List aR)(q j:Nat):JM t q j≤JM (bB t k ms) q j:=by
 unfold JM bB
 cases kA t k ms with
 | false=>exact Int.le_refl _
 | true=>
  show _≤(gt (gt (bO t k.toNat ms ms.length) q).1 j).1
  unfold bO
  rcases Nat.lt_or_ge k.toNat t.length with h | h
  ·by_cases e:k.toNat=q
   ·subst e;rw[cB h];exact BW _ _ _ _
   ·rw[dX e];exact Int.le_refl _
  ·rw[List.set_eq_of_length_le h];exact Int.le_refl _
theorem DoneT.add{t:List bQ}{k:Int}{ms:List aR}(h:DoneT t k ms)(k':Int)(ms':List aR):DoneT (bB t k' ms') k ms:=fun hb i hi=>by
 rw[BZ] at hb
 exact Int.le_trans (h hb i hi) (MX t k' ms' _ _)
theorem DoneT.eq{t:List bQ}{k:Int}{ms:List aR}(h:DoneT t k ms):bB t k ms=t:=by
 unfold bB
 cases hb:kA t k ms with
 | false=>rfl
 | true=>
  show bO t k.toNat ms ms.length=t
  unfold bO
  rw[BV (h hb) _ (Nat.le_refl _)]
  exact m6
-- vectors that are raised already
theorem mR{v:List aZ}(hl:v.length≤aS)(k n:Int):bU (bU v k n) k n=bU v k n:=by
 unfold bU
 cases hb:inB k 0 (i64.wrap (((v.length:Nat):Int) - 1))with
 | false=>show(bif inB k 0 (i64.wrap (((v.length:Nat):Int) - 1))then _ else v)=v;rw[hb];rfl
 | true=>
  have hk:=(kJ hl hb).1
  show(bif inB k 0 (i64.wrap ((((v.set k.toNat (mxI true (gt v k.toNat).1 n,())).length:Nat):Int) - 1))then _ else _)=v.set k.toNat (mxI true (gt v k.toNat).1 n,())
  rw[List.length_set,hb]
  show(v.set _ _).set k.toNat (mxI true (gt (v.set k.toNat (mxI true (gt v k.toNat).1 n,())) k.toNat).1 n,())=_
  rw[cB hk,List.set_set]
  congr 2
  show mxI true (mxI true (gt v k.toNat).1 n) n=mxI true (gt v k.toNat).1 n
  rw[mM,mM];omega
theorem zZ(v:List aZ)(k n:Int)(j:Nat):(gt v j).1≤(gt (bU v k n) j).1:=by
 rcases mT v k n j with e | e<;>rw[e]<;>omega
-- rises that are up to date
def RisesUp(rs:List iP)(xs:List bN):Prop:=∀ i,i<xs.length→mJ (gt rs (gt xs i).1.toNat) (gt xs i).2=false
theorem E7(clock:Int)(r:iP)(e:bE):mJ (kO clock r e) e=false:=by
 unfold kO
 cases h:mJ r e with
 | false=>exact h
 | true=>unfold mJ;simp
theorem RisesUp.eq{clock:Int}{rs:List iP}{xs:List bN}(h:RisesUp rs xs):∀ n,n≤xs.length→cE clock rs xs n=rs
 | 0,_=>rfl
 | n+1,hn=>by
  show(cE clock rs xs n).set (gt xs n).1.toNat (kO clock (gt (cE clock rs xs n) (gt xs n).1.toNat) (gt xs n).2)=rs
  rw[h.eq n (by omega)]
  unfold kO
  rw[h n (by omega)]
  exact m6
theorem xJ{clock:Int}{rs:List iP}{xs:List bN}(hl:∀ i,i<xs.length→(gt xs i).1.toNat<rs.length)(hd:∀ i j,i<j→j<xs.length→(gt xs i).1.toNat≠(gt xs j).1.toNat):
  ∀ n,n≤xs.length→∀ i,i<n→mJ (gt (cE clock rs xs n) (gt xs i).1.toNat) (gt xs i).2=false
 | 0,_,_,hi=>by omega
 | n+1,hn,i,hi=>by
  show mJ (gt ((cE clock rs xs n).set (gt xs n).1.toNat (kO clock (gt (cE clock rs xs n) (gt xs n).1.toNat) (gt xs n).2)) (gt xs i).1.toNat) (gt xs i).2=false
  by_cases c:i=n
  ·subst c
   rw[cB (by rw[f0];exact hl i (by omega))]
   exact E7 _ _ _
  ·rw[dX (fun e=>hd i n (by omega) (by omega) e.symm)]
   exact xJ hl hd n (by omega) i (by omega)
theorem F1{s:aH}(h:StateOk s):(∀ i,i<s.1.length→(gt s.1 i).1.toNat<5)∧∀ i j,i<j→j<s.1.length→(gt s.1 i).1.toNat≠(gt s.1 j).1.toNat:=by
 refine⟨fun i hi=>?_,fun i j hij hj e=>?_⟩
 ·obtain⟨k,hk,e⟩:=kZ (h.item _ (dE hi)).1;omega
 ·obtain⟨k,hk,e1⟩:=kZ (h.item _ (dE (i:=i) (by omega))).1
  obtain⟨k',hk',e2⟩:=kZ (h.item _ (dE hj)).1
  have hp:=h.items
  rw[List.pairwise_iff_getElem] at hp
  have:=hp i j (by omega) hj hij
  rw[← cZ (by omega),← cZ hj] at this
  omega
-- a node at rest
structure Rest (x:NodeT):Prop where
 ok:StateOk x.state
 seen:DoneT x.seen x.1 (cA x.state)
 prune:prune x.state x.seen=x.state
 tree:bX x.state=x.tree
 rises:RisesUp x.rises x.state.1
theorem Rest.take{x:NodeT}(h:Rest x){s:aH}(hs:Leq s x.state):fF x s=x:=by
 have e1:cJ x.state s=x.state:=hs.joinR
 have e2:tkS x s=x.seen:=by unfold tkS;rw[e1];exact h.seen.eq
 have e3:tkP x s=x.state:=by unfold tkP;rw[e2,e1];exact h.prune
 have e4:tkR x s=x.rises:=by unfold tkR;rw[e3];exact h.rises.eq _ (Nat.le_refl _)
 unfold fF
 rw[e2,e4,e3,h.tree]
theorem uP{x:NodeT}(h:NodeOk x)(hl:x.seen.length≤aS){s:aH}(hs:StateOk s):Rest (fF x s):=by
 have hx:=(aW _).1 h.state
 have hj:=hx.join hs
 have e:(fF x s).state=tkP x s:=rfl
 have hm:cA (tkP x s)=cA (cJ x.state s):=A0 hj _
 have hp:StateOk (tkP x s):=rU hj _
 refine⟨hp,?_,?_,rfl,?_⟩
 ·show DoneT (tkS x s) x.1 (cA (tkP x s))
  rw[hm];exact BU hl _ _
 ·show prune (tkP x s) (tkS x s)=tkP x s
  exact AQ hj _
 ·show RisesUp (tkR x s) (tkP x s).1
  have hi:=F1 hp
  have hr:=h.rises
  rw[beq_iff_eq] at hr
  exact fun i hi'=>xJ (fun i hi''=>by have:=hi.1 i hi'';omega) hi.2 _ (Nat.le_refl _) i hi'
theorem xG{x:NodeT}(h:NodeOk x){s:aH}(hs:StateOk s):Leq x.state (fF x s).state∧Leq s (fF x s).state:=by
 have hx:=(aW _).1 h.state
 have hj:=hx.join hs
 have hp:Leq (cJ x.state s) (fF x s).state:=FL hj _
 exact⟨(Leq.left hx hs).trans hp,(Leq.right hx hs).trans hp⟩
-- hearing twice
structure Heard (x:NodeT) (m:MsgT):Prop where
 rest:Rest x
 acked:bU x.acked m.2.1 (mxI false (gt m.vec x.1.toNat).1 (bZ x.log))=x.acked
 seen:DoneT x.seen m.2.1 m.marks
theorem Heard.eq{x:NodeT}{m:MsgT}(h:Heard x m):bP x m=x:=by
 have e:heard0 x m=x:=by
  unfold heard0
  rw[h.acked,h.seen.eq]
 unfold bP
 rw[e];exact h.rest.take (Leq.nil h.rest.ok)
theorem l6{x:NodeT}(h:NodeOk x)(hz:SzN x)(m:MsgT):Heard (bP x m) m:=by
 refine⟨uP (h.heard0 m) (oE hz m).seen vM,mR hz.acked _ _,?_⟩
 show DoneT (bB (bB x.seen m.2.1 m.marks) x.1 _) m.2.1 m.marks
 exact(BU hz.seen _ _).add _ _
theorem Heard.take{x:NodeT}{m:MsgT}(h:Heard x m)(ho:NodeOk x)(hl:x.seen.length≤aS){s:aH}(hs:StateOk s):Heard (fF x s) m:=
 ⟨uP ho hl hs,h.acked,h.seen.add _ _⟩
theorem Heard.gotUp{x:NodeT}{m:MsgT}(h:Heard x m):Heard (gotUp x m) m:=⟨⟨h.rest.ok,h.rest.seen,h.rest.prune,h.rest.tree,h.rest.rises⟩,h.acked,h.seen⟩
theorem wM{x:NodeT}(h:NodeOk x)(hz:SzN x){m:MsgT}(hp:aO m.part=true):Heard (bH x m) m:=
 ((l6 h hz m).take (h.heard m) (fO hz m).seen ((aW _).1 hp)).gotUp
def G7(x:NodeT)(g:List aZ):NodeT:=
 (x.1,x.2.1,x.2.2.1,x.2.2.2.1,x.2.2.2.2.1,x.2.2.2.2.2.1,x.2.2.2.2.2.2.1,x.2.2.2.2.2.2.2.1,x.2.2.2.2.2.2.2.2.1,g,x.acked,x.seen,x.num,x.slots,x.sess,x.wait,x.limit,x.clock,x.rises,())
theorem BB{x:NodeT}(h:x.got.length≤aS)(m:MsgT):gotUp (gotUp x m) m=gotUp x m:=by
 show G7 x (bU (bU x.got m.2.1 m.hi) m.2.1 m.hi)=G7 x (bU x.got m.2.1 m.hi)
 rw[mR h]
theorem wL{x:NodeT}(h:NodeOk x)(hz:SzN x){m:MsgT}(hp:aO m.part=true):bH (bH x m) m=bH x m:=by
 have hh:=wM h hz hp
 have h2:=(xG (h.heard m) ((aW _).1 hp)).2
 have e1:bP (bH x m) m=bH x m:=hh.eq
 have e2:fF (bH x m) m.part=bH x m:=hh.rest.take h2
 show gotUp (fF (bP (bH x m) m) m.part) m=bH x m
 rw[e1,e2]
 exact BB (x:=fF (bP x m) m.part) hz.got m
end Go.Abs
-- receiving twice, and what receiving keeps: plain laws
namespace Go.Abs
theorem vX{v:List c5}(h:(v.map jD).Nodup){i j:Nat}(hi:i<v.length)(hj:j<v.length)(e:jD (gt v i)=jD (gt v j)):i=j:=by
 unfold List.Nodup at h
 rw[List.pairwise_iff_getElem] at h
 simp only[List.length_map,List.getElem_map] at h
 rw[cZ hi,cZ hj] at e
 rcases Nat.lt_trichotomy i j with c | c | c
 ·exact absurd e (h i j hi hj c)
 ·exact c
 ·exact absurd e.symm (h j i hj hi c)
theorem H3{v:List c5}(hn:(v.map jD).Nodup){s:c5}(hs:s∈v):∃ k:Nat,k<v.length∧bW v s.1 s.2.2.1=(k:Int)∧gt v k=s:=by
 rcases c7 v s.1 s.2.2.1 with ⟨k,hk,e,h⟩ | ⟨_,h⟩
 ·obtain⟨i,hi,rfl⟩:=iA hs
  have:=vX hn hk hi (by rw[h];rfl)
  subst this
  exact⟨k,hk,e,rfl⟩
 ·exact absurd rfl (h s hs)
theorem RecOk.of_eq{x y:NodeT}{m:MsgT}(h:RecOk x m)(ho:NodeOk y)(h1:y.1=x.1)(h2:y.2.1=x.2.1):dZ y m=true:=by
 unfold dZ
 simp only[Bool.and_eq_true,beq_iff_eq,Bool.not_eq_true',decide_eq_false_iff_not]
 have h3:=h.frm
 refine⟨(eN y).2 ho,h.msg,?_,by rw[h2];omega,by rw[h2];exact h.vec⟩
 rw[h1];exact h.to
def EW(m:MsgT):c5:=(m.2.1,m.2.2.2.1,true,(0:Int),())
theorem z8{x:NodeT}(m:MsgT):EW m∈dN x m:=by
 unfold dN
 by_cases hc:bW x.sess m.2.1 true≥0
 ·rw[decide_eq_true hc]
  rcases c7 x.sess m.2.1 true with ⟨k,hk,e,hg⟩ | ⟨e,_⟩
  ·show EW m∈iT x (bW x.sess m.2.1 true).toNat m.2.2.2.1
   rw[e]
   unfold iT jD at*
   rw[Prod.mk.injEq] at hg
   rw[Int.toNat_natCast,hg.1,hg.2]
   exact List.mem_set hk _
  ·omega
 ·rw[decide_eq_false hc]
  show EW m∈x.sess++[_]
  exact List.mem_append.2 (.inr (List.mem_singleton.2 rfl))
theorem wX{y:NodeT}{m:MsgT}(hn:(y.sess.map jD).Nodup)(hm:EW m∈y.sess):dN y m=y.sess∧eH y m=false:=by
 obtain⟨k,hk,e,hg⟩:=H3 hn hm
 have e:bW y.sess m.2.1 true=(k:Int):=e
 have h0:bW y.sess m.2.1 true≥0:=by rw[e];omega
 refine⟨?_,?_⟩
 ·unfold dN
  rw[decide_eq_true h0]
  show iT y (bW y.sess m.2.1 true).toNat m.2.2.2.1=y.sess
  rw[e,Int.toNat_natCast]
  unfold iT
  rw[hg]
  show y.sess.set k (EW m)=y.sess
  rw[← hg];exact m6
 ·unfold eH;rw[decide_eq_true h0];rfl
theorem GF{v:List c5}(hn:(v.map jD).Nodup){k:Nat}(hk:k<v.length):bW (v.take k++v.drop (k+1)) (gt v k).1 (gt v k).2.2.1= -1:=by
 rcases c7 (v.take k++v.drop (k+1)) (gt v k).1 (gt v k).2.2.1 with ⟨j,hj,_,e⟩ | ⟨e,_⟩
 ·exfalso
  have hm:=dE hj
  rcases List.mem_append.1 hm with h1 | h1
  ·obtain⟨i,hi,e2⟩:=List.mem_take_iff_getElem.1 h1
   have hi2:i<k∧i<v.length:=by omega
   have e3:gt v i=gt (v.take k++v.drop (k+1)) j:=by rw[cZ hi2.2];exact e2
   have:=vX hn hi2.2 hk (by rw[e3,e];rfl)
   omega
  ·obtain⟨i,hi,e2⟩:=List.mem_drop_iff_getElem.1 h1
   have hi2:i+(k+1)<v.length:=by omega
   have e3:gt v (i+(k+1))=gt (v.take k++v.drop (k+1)) j:=by rw[cZ hi2,← e2];congr 1;omega
   have:=vX hn hi2 hk (by rw[e3,e];rfl)
   omega
 ·exact e
theorem GE{x:NodeT}(h:NodeOk x){m:MsgT}{b:Bool}(hf:¬ eP x m b<0):eP (gV x (eP x m b).toNat) m b<0:=by
 have hs:=(cN x).1 h.sess
 have hs1:bW x.sess m.2.1 b≥0:=by
  by_cases hc:bW x.sess m.2.1 b≥0
  ·exact hc
  ·exfalso;apply hf;unfold eP;rw[decide_eq_false hc];show bW x.sess m.2.1 b<0;omega
 have hfe:eP x m b=bW x.sess m.2.1 b:=by
  unfold eP at hf ⊢
  rw[decide_eq_true hs1] at hf ⊢
  cases hc:(gt x.sess (bW x.sess m.2.1 b).toNat).2.1 != m.2.2.2.1 with
  | true=>rw[hc] at hf;exact absurd (by show(-1:Int)<0;omega) hf
  | false=>rfl
 rcases c7 x.sess m.2.1 b with ⟨k,hk,e,hg⟩ | ⟨e,_⟩
 ·rw[hfe,e,Int.toNat_natCast]
  unfold jD at hg
  rw[Prod.mk.injEq] at hg
  have h1:=GF hs.2.2 hk
  rw[hg.1,hg.2] at h1
  have h2:bW (gV x k).sess m.2.1 b= -1:=h1
  unfold eP
  rw[h2];show(-1:Int)<0;omega
 ·omega
theorem KE{x:NodeT}(h:NodeOk x)(m:MsgT):NodeOk (gC x m).1:=by
 unfold gC
 cases hr:dZ x m with
 | false=>exact h
 | true=>
  have R:=nB hr
  show NodeOk (fB x m).1
  unfold fB
  cases m.1==0 with
  | true=>exact R.brought
  | false=>
   cases m.1==1 with
   | true=>exact h.heard m
   | false=>
    cases m.1==2 with
    | true=>
     show NodeOk (cY x m).1
     unfold cY
     cases hf:eH x m with
     | true=>exact h
     | false=>exact(R.syn hf).node.heard m
    | false=>
     cases decide (eP x m (m.1==4)<0)with
     | true=>exact h
     | false=>
      show NodeOk (eD x m _).1
      unfold eD
      cases m.1==5 with
      | true=>exact BG h _
      | false=>
       cases m.1==4 with
       | true=>exact(R.gone _).brought
       | false=>exact(R.gone _).brought
theorem MC(x:NodeT)(m:MsgT):(gC x m).1.2.1=x.2.1:=by
 unfold gC
 cases dZ x m with
 | false=>rfl
 | true=>
  show(fB x m).1.2.1=_
  unfold fB
  cases m.1==0 with
  | true=>rfl
  | false=>
   cases m.1==1 with
   | true=>rfl
   | false=>
    cases m.1==2 with
    | true=>show(cY x m).1.2.1=_;unfold cY;cases eH x m<;>rfl
    | false=>
     cases decide (eP x m (m.1==4)<0)with
     | true=>rfl
     | false=>
      show(eD x m _).1.2.1=_
      unfold eD
      cases m.1==5 with
      | true=>rfl
      | false=>cases m.1==4<;>rfl
/-- A message that was received is late or does nothing when it comes again. -/
def A7(m:MsgT):Bool:=m.1==3||(m.1==4||m.1==5)
theorem E9{x:NodeT}(hz:SzN x){m:MsgT}(h0:(gC x m).2.2=0):(gC (gC x m).1 m).1=(gC x m).1∧(gC (gC x m).1 m).2.2=bif A7 m then 2 else 0:=by
 cases hr:dZ x m with
 | false=>rw[tZ hr] at h0;cases h0
 | true=>
  have R:=nB hr
  have hk5:0≤m.1∧m.1≤5:=by
   have:=R.msg;unfold jB lY at this;simp only[Bool.and_eq_true,aU] at this;exact this.1.1
  have hN:=KE R.node m
  have hr2:dZ (gC x m).1 m=true:=R.of_eq hN (KF x m) (MC x m)
  rw[qG hr2]
  rw[qG hr] at h0 hN ⊢
  unfold A7
  by_cases k0:m.1=0
  ·have e:fB x m=(bH x m,[CO (bH x m) 1 m.2.1 m.2.2.2.1],0):=by unfold fB;rw[k0];rfl
   have e':fB (bH x m) m=(bH (bH x m) m,[CO (bH (bH x m) m) 1 m.2.1 m.2.2.2.1],0):=by unfold fB;rw[k0];rfl
   rw[e,k0]
   show(fB (bH x m) m).1=bH x m∧_
   rw[e']
   exact⟨wL R.node hz R.part,rfl⟩
  by_cases k1:m.1=1
  ·have e:fB x m=(bP x m,[],0):=by unfold fB;rw[k1];rfl
   have e':fB (bP x m) m=(bP (bP x m) m,[],0):=by unfold fB;rw[k1];rfl
   rw[e,k1]
   show(fB (bP x m) m).1=bP x m∧_
   rw[e']
   exact⟨(l6 R.node hz m).eq,rfl⟩
  by_cases k2:m.1=2
  ·have e:∀ y:NodeT,fB y m=cY y m:=fun y=>by unfold fB;rw[k2];rfl
   rw[e] at h0 hN ⊢
   rw[e,k2]
   cases hf:eH x m with
   | true=>unfold cY at h0;rw[hf] at h0;cases h0
   | false=>
    have e2:cY x m=(jS x m,[rS (jS x m) x m],0):=by unfold cY;rw[hf];rfl
    rw[e2] at hN ⊢
    have hm:EW m∈(jS x m).sess:=z8 m
    obtain⟨s1,s2⟩:=wX ((cN _).1 hN.sess).2.2 hm
    have e3:cY (jS x m) m=(jS (jS x m) m,[rS (jS (jS x m) m) (jS x m) m],0):=by unfold cY;rw[s2];rfl
    show(cY (jS x m) m).1=jS x m∧(cY (jS x m) m).2.2=_
    rw[e3]
    refine⟨?_,rfl⟩
    show bP (withS (jS x m) (dN (jS x m) m)) m=jS x m
    rw[s1]
    have hh:Heard (jS x m) m:=l6 (R.syn hf).node (kV hz (kF R.node m)) m
    exact hh.eq
  ·have hb:∀ y:NodeT,fB y m=bif decide (eP y m (m.1==4)<0)then(y,[],2)else eD y m (eP y m (m.1==4)).toNat:=fun y=>by
    unfold fB
    rw[beq_eq_false_iff_ne.2 k0,beq_eq_false_iff_ne.2 k1,beq_eq_false_iff_ne.2 k2];rfl
   have hl:(m.1==3||(m.1==4||m.1==5))=true:=by simp only[Bool.or_eq_true,beq_iff_eq];omega
   rw[hl]
   by_cases hf:eP x m (m.1==4)<0
   ·rw[hb,decide_eq_true hf] at h0;cases h0
   ·have e1:fB x m=eD x m (eP x m (m.1==4)).toNat:=by rw[hb,decide_eq_false hf];rfl
    have hg:=GE R.node hf
    have e2:eP (eD x m (eP x m (m.1==4)).toNat).1 m (m.1==4)<0:=by
     unfold eD
     cases m.1==5 with
     | true=>exact hg
     | false=>
      cases q:m.1==4 with
      | true=>rw[q] at hg;exact hg
      | false=>rw[q] at hg;exact hg
    rw[e1,hb,decide_eq_true e2]
    exact⟨rfl,rfl⟩
theorem HF{x:NodeT}{m:MsgT}(h:(gC x m).2.2≠0):(gC x m).1=x:=by
 unfold gC at h ⊢
 cases hr:dZ x m with
 | false=>rfl
 | true=>
  rw[hr] at h
  have h:(fB x m).2.2≠0:=h
  show(fB x m).1=x
  unfold fB at h ⊢
  cases k0:m.1==0 with
  | true=>rw[k0] at h;exact absurd rfl h
  | false=>
   cases k1:m.1==1 with
   | true=>rw[k0,k1] at h;exact absurd rfl h
   | false=>
    cases k2:m.1==2 with
    | true=>
     rw[k0,k1,k2] at h
     have h:(cY x m).2.2≠0:=h
     show(cY x m).1=x
     unfold cY at h ⊢
     cases hf:eH x m with
     | true=>rfl
     | false=>rw[hf] at h;exact absurd rfl h
    | false=>
     rw[k0,k1,k2] at h
     cases hf:decide (eP x m (m.1==4)<0)with
     | true=>rfl
     | false=>
      rw[hf] at h
      have h:(eD x m (eP x m (m.1==4)).toNat).2.2≠0:=h
      exfalso;apply h
      unfold eD
      cases m.1==5 with
      | true=>rfl
      | false=>cases m.1==4<;>rfl
theorem FA{x:NodeT}{m:MsgT}(t:Int)(h:t≠x.1):gC x (m.1,m.2.1,t,m.2.2.2)=(x,[],1):=by
 refine tZ ?_
 unfold dZ
 have:(t==x.1)=false:=beq_eq_false_iff_ne.2 h
 show(dP x&&(_&&(t==x.1&&_)))=false
 rw[this];simp
-- what receiving keeps
def VLe(a b:List aZ):Prop:=a.length=b.length∧∀ i,(gt a i).1≤(gt b i).1
theorem VLe.refl(a:List aZ):VLe a a:=⟨rfl,fun _=>Int.le_refl _⟩
theorem VLe.trans{a b c:List aZ}(h:VLe a b)(h':VLe b c):VLe a c:=⟨h.1.trans h'.1,fun i=>Int.le_trans (h.2 i) (h'.2 i)⟩
theorem VLe.raise(v:List aZ)(k n:Int):VLe v (bU v k n):=⟨(eZ v k n).symm,zZ v k n⟩
structure Kept (x y:NodeT):Prop where
 state:Leq x.state y.state
 got:VLe x.got y.got
 acked:VLe x.acked y.acked
theorem NodeOk.st{x:NodeT}(h:NodeOk x):StateOk x.state:=(aW _).1 h.state
theorem Kept.refl{x:NodeT}(h:NodeOk x):Kept x x:=⟨Leq.refl h.st,VLe.refl _,VLe.refl _⟩
theorem Kept.trans{x y z:NodeT}(h:Kept x y)(h':Kept y z):Kept x z:=⟨h.state.trans h'.state,h.got.trans h'.got,h.acked.trans h'.acked⟩
theorem Kept.take{x:NodeT}(h:NodeOk x){s:aH}(hs:StateOk s):Kept x (fF x s):=⟨(xG h hs).1,VLe.refl _,VLe.refl _⟩
theorem Kept.heard{x:NodeT}(h:NodeOk x)(m:MsgT):Kept x (bP x m):=
 Kept.trans (y:=heard0 x m) ⟨Leq.refl h.st,VLe.refl _,VLe.raise _ _ _⟩ (Kept.take (h.heard0 m) vM)
theorem Kept.brought{x:NodeT}(h:NodeOk x){m:MsgT}(hp:aO m.part=true):Kept x (bH x m):=by
 have h1:=(Kept.heard h m).trans (Kept.take (h.heard m) ((aW _).1 hp))
 exact⟨h1.state,h1.got.trans (VLe.raise _ _ _),h1.acked⟩
theorem Kept.with{x:NodeT}(h:NodeOk x)(ss:List c5):Kept x (withS x ss):=⟨Leq.refl h.st,VLe.refl _,VLe.refl _⟩
-- what is answered
theorem HB{a b:List aZ}(h:fG a b=true):a=b:=by
 unfold fG at h
 simp only[Bool.and_eq_true,beq_iff_eq,bI] at h
 exact DC (by omega) fun i hi=>Prod.ext (by have:=h.2 i hi;simpa using this) rfl
theorem NodeOk.treeB{x:NodeT}(h:NodeOk x):treeB x.tree=true:=by
 have h1:=h.tree
 unfold pX at h1
 rw[Bool.and_eq_true] at h1
 have e1:x.tree.1=(bX x.state).1:=HB h1.1
 have e2:x.tree.2.1=(bX x.state).2.1:=eq_of_beq h1.2
 have e:x.tree=bX x.state:=Prod.ext e1 (Prod.ext e2 rfl)
 rw[e];exact GR h.state
theorem B4{v:List aZ}{n:Int}(h:dS v n=true):kG v 100000=true∧((v.length:Nat):Int)=n∧1≤n∧n≤5:=by
 unfold dS at h
 simp only[Bool.and_eq_true,beq_iff_eq,aU] at h
 exact⟨h.2.2,h.2.1,h.1⟩
def KZ(v:List aZ):Bool:=bK v.length (vV v)
/-- A message that a right node writes is right. -/
theorem NodeOk.says {x:NodeT} (h:NodeOk x) {k to num:Int} {tree:iO} {leaves:List aZ} {part:aH} (hk:0≤k∧k≤5) (ht:0≤to∧to≤4∧to≠x.1) (hn:inB num 0 100000=true)
  (hT:Go.Abs.treeB tree=true) (hl:KZ leaves=true) (hp:aO part=true):
  jB (k,x.1,to,num,bZ x.log,tree.1,tree.2.1,x.got,leaves,part.1,part.2.1,cA x.state,())=true:=by
 have hv:=B4 h.got
 have hid:=h.id
 have hl2:=xY h.log
 rw[aU,IntKind.wrap_i64] at hid
 rw[aU] at hn
 unfold jB lY dT
 simp only[Bool.and_eq_true,aU,Bool.not_eq_true',beq_eq_false_iff_ne,decide_eq_true_eq]
 exact⟨⟨hk,by show 0≤x.1∧x.1≤4;omega,by show 0≤to∧to≤4;omega,fun e=>ht.2.2 e.symm⟩,hl,hv.1,hn,hl2,hT,by show((x.got.length:Nat):Int)≤5;omega,hp,CQ _⟩
structure Ans (x:NodeT) (m q:MsgT):Prop where
 ok:jB q=true
 frm:q.2.1=x.1
 to:q.2.2.1=m.2.1
 num:q.2.2.2.1=m.2.2.2.1
theorem RecOk.peer{x:NodeT}{m:MsgT}(h:RecOk x m):0≤m.2.1∧m.2.1≤4∧m.2.1≠x.1:=by
 have h1:=h.frm;have h2:=h.idn;exact⟨by omega,by omega,h.ne⟩
-- vectors compared
def atV(v:List aZ)(i:Int):Int:=bif inB i 0 (i64.wrap (((v.length:Nat):Int) - 1))then(gt v i.toNat).1 else 0
def GQ(a b:List aZ):Bool:=bK a.length fun i=> !decide ((gt a i).1>atV b (i:Int))
theorem VLe.leq{a b:List aZ}(h:VLe a b)(hl:b.length≤aS):GQ a b=true:=by
 unfold GQ;rw[bI]
 intro i hi
 have h1:=h.1;have h2:=h.2 i
 unfold atV
 rw[aU.2 (by rw[IntKind.wrap_i64];unfold aS at hl;omega)]
 show(!decide ((gt a i).1>(gt b ((i:Int)).toNat).1))=true
 rw[Int.toNat_natCast,decide_eq_false (by omega)];rfl
end Go.Abs
/- Plain laws: worlds compared. -/
namespace Go.Abs
def gJ{α:Type}(a b:List α):Bool:=((a.length:Nat):Int)==((b.length:Nat):Int)
theorem oD{α:Type}{a b:List α}:gJ a b=true↔a.length=b.length:=by unfold gJ;rw[beq_iff_eq];omega
def m7{α:Type}[Inhabited α](f:α→α→Bool)(a b:List α):Bool:=gJ a b&&bK a.length fun i=>f (gt a i) (gt b i)
def rY(a b:bQ):Bool:=fG a.1 b.1
def nN(x y:c5):Bool:=fK x.1 y.1&&(fK x.2.1 y.2.1&&(oP x.2.2.1 y.2.2.1&&(fK x.2.2.2.1 y.2.2.2.1&&true)))
def kS(x y:iP):Bool:=fK x.1 y.1&&(fK x.2.1 y.2.1&&(fK x.2.2.1 y.2.2.1&&true))
def yW(a b:iO):Bool:=fG a.1 b.1&&a.2.1==b.2.1
def vU(a b:eW):Bool:=a.1==b.1&&(a.2.1==b.2.1&&m7 eF a.2.2.1 b.2.2.1)
def vJ(a b:NodeT):Bool:=a.1==b.1&&(a.2.1==b.2.1&&(a.num==b.num&&(a.slots==b.slots&&(a.wait==b.wait&&(a.limit==b.limit&&(a.clock==b.clock&&(m7 rY a.seen b.seen&&(eF a.state b.state&&(yW a.tree b.tree&&(vU a.log b.log&&(fG a.got b.got&&(fG a.acked b.acked&&(m7 nN a.sess b.sess&&m7 kS a.rises b.rises)))))))))))))
def uF(a b:NodeT):Bool:=a.1==b.1&&(a.2.1==b.2.1&&(eF a.state b.state&&(yW a.tree b.tree&&(vU a.log b.log&&(fG a.got b.got&&(fG a.acked b.acked&&(gJ a.seen b.seen&&(a.num==b.num&&(a.slots==b.slots&&(a.wait==b.wait&&(a.limit==b.limit&&(a.clock==b.clock&&(gJ a.sess b.sess&&(gJ a.rises b.rises&&
 (bK a.seen.length (fun i=>rY (gt a.seen i) (gt b.seen i))&&(bK a.sess.length (fun i=>nN (gt a.sess i) (gt b.sess i))&&bK a.rises.length fun i=>kS (gt a.rises i) (gt b.rises i)))))))))))))))))
theorem HU(a b:NodeT):uF a b=vJ a b:=by
 unfold uF vJ m7;ac_rfl
end Go.Abs
