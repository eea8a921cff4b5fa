/- A by-value reading of the model, and its soundness, part 3. -/
import Derived.Test.YtohahjehdododaaGreatW2
import Derived.Lib.Bytealg
set_option linter.unusedVariables false
/- Plain laws: logs, vectors, tables, exchanges, nodes and worlds. -/
open Go.IntKind (i64)
namespace Go.Abs
theorem pZ(s:ByteArray):(dU s).length<=5+ByteArray.size s:=by
 unfold dU;rw[List.length_append,j6]
 have:=bC ((ByteArray.size s:Nat):Int);omega
theorem iT{x:bK}(h:eD x.2=true):(bB x).length<=38:=by
 have h8:ByteArray.size x.2.2.2.2.2.1<=8:=by
  unfold eD at h;simp only[Bool.and_eq_true,decide_eq_true_eq] at h;omega
 have h1:=pZ x.2.2.2.2.2.1
 have h2:=bC x.1;have h3:=bC x.2.1;have h4:=bC x.2.2.1;have h5:=bC x.2.2.2.1;have h6:=bC x.2.2.2.2.1
 unfold bB;simp only[List.length_append];omega
theorem hO(f:aU):(bD f).length<=10:=by
 have h2:=bC f.1;have h3:=bC f.2.1
 unfold bD;simp only[List.length_append];omega
theorem StateOk.size{s:aJ}(h:StateOk s){x:bK}(hx:x∈s.1):ByteArray.size x.2.2.2.2.2.1<=8:=by
 have h:=(h.item x hx).2.1
 unfold eD at h;simp only[Bool.and_eq_true,decide_eq_true_eq] at h;omega
def five(x:bK):List aO:=[(x.1,()),(x.2.1,()),(x.2.2.1,()),(x.2.2.2.1,()),(x.2.2.2.2.1,())]
theorem PJ(x:bK)(acc:List aO):acc++bR 5 (λk=>aN (gt (five x) k).1)++dU x.2.2.2.2.2.1=acc++bB x:=by
 have:bR 5 (λk=>aN (gt (five x) k).1)=(five x).flatMap λy=>aN y.1:=cF (λy:aO=>aN y.1) (five x)
 rw[this];unfold five bB
 simp only[List.flatMap_cons,List.flatMap_nil,List.append_nil,List.append_assoc]
theorem tZ{ps:List bQ}{L:Nat}(h:∀ r∈ps,r.1.length<=L):∀ i,i<ps.length->(gt ps i).1.length<=L:=λi hi=>h _ (cJ hi)
theorem nS{s:aJ}(h:StateOk s):(bS s).length<=250:=by
 have h5:=h.len
 have h1:=bC (s.1.length:Int);have h2:=bC (s.2.1.length:Int)
 have h3:(s.1.flatMap bB).length<=s.1.length*38:=by
  rw[<- cF];exact dT λi hi=>iT (h.item _ (cJ hi)).2.1
 have h4:(s.2.1.flatMap bD).length<=s.2.1.length*10:=by
  rw[<- cF];exact dT λi hi=>hO _
 unfold bS;simp only[List.length_append];omega
-- logs
def gR(l:f8):Bool:=inB l.1 1 8&&(!decide ((l.2.2.1.length:Int)>l.1)&&(inB l.2.1 0 100000&&(!decide (i64.wrap (l.2.1+(l.2.2.1.length:Int))>100000)&&bL l.2.2.1.length λi=>aS (gt l.2.2.1 i))))
def HS(l:f8):Bool:=(bL l.2.2.1.length λi=>aS (gt l.2.2.1 i))&&(inB l.1 1 8&&(decide ((l.2.2.1.length:Int)<=l.1)&&(inB l.2.1 0 100000&&decide (i64.wrap (l.2.1+(l.2.2.1.length:Int))<=100000))))
theorem vH(a b:Int):(!decide (a>b))=decide (a<=b):=by rw[Bool.eq_iff_iff];simp
theorem RU(l:f8):HS l=gR l:=by
 unfold gR HS;rw[vH,vH];ac_rfl
def cE(l:f8):Int:=bif gR l then i64.wrap (l.2.1+(l.2.2.1.length:Int))else 0
-- vectors and tables
def eG(v:List aO)(n:Int):Bool:=inB n 1 5&&((v.length:Int)==n&&bL v.length λi=>inB (gt v i).1 0 100000)
def GR(v:List aO)(n:Int):Bool:=(bL v.length λi=>inB (gt v i).1 0 100000)&&(inB n 1 5&&(v.length:Int)==n)
theorem QJ(v:List aO)(n:Int):GR v n=eG v n:=by unfold eG GR;ac_rfl
def sP(r:bQ):Bool:=(r.1.length:Int)==5&&bL r.1.length λi=>inB (gt r.1 i).1 0 1000
def yF(r:bQ):Bool:=(bL r.1.length λi=>inB (gt r.1 i).1 0 1000)&&(r.1.length:Int)==5
def gN(t:List bQ)(n:Int):Bool:=inB n 1 5&&((t.length:Int)==n&&bL t.length λk=>sP (gt t k))
def yW(t:List bQ)(n:Int):Bool:=(bL t.length λk=>yF (gt t k))&&(inB n 1 5&&(t.length:Int)==n)
theorem KI(t:List bQ)(n:Int):yW t n=gN t n:=by
 unfold gN yW
 rw[pA (ok:=λk=>yF (gt t k)) (ok':=λk=>sP (gt t k)) λk _=>by unfold sP yF;ac_rfl]
 ac_rfl
def uC(v:List aO):Nat->Int
 | 0=>(gt v 0).1
 | j+1=>mxI true (uC v j) (gt v (j+1)).1
theorem FM(v:List aO)(m:Int):∀ j,uC v j<=m↔∀ i,i<=j->(gt v i).1<=m
 | 0=>⟨λh i hi=>by rw[show i=0 by omega];exact h,λh=>h 0 (Nat.le_refl 0)⟩
 | j+1=>by
  unfold uC mxI
  have ih:=FM v m j
  constructor
  ·intro h i hi
   simp only[if_true] at h
   rcases Nat.lt_or_ge j i with h1 | h1
   ·have:i=j+1:=by omega
    subst this;split at h<;>omega
   ·exact(ih.1 (by split at h<;>omega)) i h1
  ·intro h
   have h1:=ih.2 λi hi=>h i (by omega)
   have h2:=h (j+1) (Nat.le_refl _)
   simp only[if_true];split<;>assumption
def LM(v:List aO):Int:=uC v (v.length - 1)
theorem RT{v:List aO}(hv:0<v.length)(m:Int):(!decide (LM v>m))=bL v.length λi=> !decide ((gt v i).1>m):=by
 rw[Bool.eq_iff_iff,bI,vH,decide_eq_true_eq]
 unfold LM
 rw[FM]
 simp only[vH,decide_eq_true_eq]
 exact⟨λh i hi=>h i (by omega),λh i hi=>h i (by omega)⟩
-- exchanges
def dQ(v:List dM)(k:Nat)(peer:Int)(inn:Bool):Bool:=(gt v k).1==peer&&nU (gt v k).2.2.1 inn
def B3(v:List dM)(i:Nat):Bool:=bL i λk=> !dQ v k (gt v i).1 (gt v i).2.2.1
def c6(v:List dM)(peer:Int)(inn:Bool):Int:=match (List.range v.length).find? (λk=>dQ v k peer inn)with
 | some k=>(k:Int)
 | none=> -1
theorem P5{a b:Bool}:nU a b=true↔a=b:=by cases a<;>cases b<;>decide
theorem ER{v:List dM}{i:Nat}(hi:i<v.length):(c6 v (gt v i).1 (gt v i).2.2.1==(i:Int))=B3 v i:=by
 have hs:dQ v i (gt v i).1 (gt v i).2.2.1=true:=by unfold dQ;rw[Bool.and_eq_true];exact⟨by simp,wC _⟩
 rw[Bool.eq_iff_iff]
 unfold c6 B3
 rw[bI]
 cases h:(List.range v.length).find? (λk=>dQ v k (gt v i).1 (gt v i).2.2.1)with
 | none=>
  rw[List.find?_eq_none] at h
  exact absurd hs (h i (List.mem_range.2 hi))
 | some k=>
  rw[List.find?_range_eq_some] at h
  obtain⟨h1,h2,h3⟩:=h
  constructor
  ·intro e j hj
   have e':(k:Int)=(i:Int):=by simpa using e
   have:k=i:=by omega
   subst this;exact h3 j hj
  ·intro e
   rcases Nat.lt_trichotomy k i with h4 | h4 | h4
   ·have:=e k h4;rw[h1] at this;cases this
   ·subst h4;simp
   ·have:=h3 i h4;rw[hs] at this;cases this
def m7(n:NodeT)(v:List dM)(i:Nat):Bool:=inB (gt v i).1 0 (i64.wrap (n.2.1 - 1))&&(!((gt v i).1==n.1)&&(inB (gt v i).2.1 0 100000&&(inB (gt v i).2.2.2.1 0 n.2.2.2.2.2.2.2.2.2.2.2.2.2.2.2.1&&B3 v i)))
abbrev NodeT.sess(n:NodeT):List dM:=n.2.2.2.2.2.2.2.2.2.2.2.2.2.2.1
abbrev NodeT.slots(n:NodeT):Int:=n.2.2.2.2.2.2.2.2.2.2.2.2.2.1
abbrev NodeT.rises(n:NodeT):List jQ:=n.2.2.2.2.2.2.2.2.2.2.2.2.2.2.2.2.2.2.1
abbrev NodeT.clock(n:NodeT):Int:=n.2.2.2.2.2.2.2.2.2.2.2.2.2.2.2.2.2.1
abbrev NodeT.limit(n:NodeT):Int:=n.2.2.2.2.2.2.2.2.2.2.2.2.2.2.2.2.1
abbrev NodeT.wait(n:NodeT):Int:=n.2.2.2.2.2.2.2.2.2.2.2.2.2.2.2.1
abbrev NodeT.num(n:NodeT):Int:=n.2.2.2.2.2.2.2.2.2.2.2.2.1
abbrev NodeT.seen(n:NodeT):List bQ:=n.2.2.2.2.2.2.2.2.2.2.2.1
abbrev NodeT.acked(n:NodeT):List aO:=n.2.2.2.2.2.2.2.2.2.2.1
abbrev NodeT.got(n:NodeT):List aO:=n.2.2.2.2.2.2.2.2.2.1
abbrev NodeT.log(n:NodeT):f8:=(n.2.2.2.2.2.2.1,n.2.2.2.2.2.2.2.1,n.2.2.2.2.2.2.2.2.1,())
abbrev NodeT.tree(n:NodeT):kX:=(n.2.2.2.2.1,n.2.2.2.2.2.1,())
abbrev NodeT.state(n:NodeT):aJ:=(n.2.2.1,n.2.2.2.1,())
def lU(n:NodeT):Bool:= !decide ((n.sess.length:Int)>n.slots)&&bL n.sess.length (m7 n n.sess)
def mG(n:NodeT)(x:Int):Bool:=inB x 0 (i64.wrap (n.2.1 - 1))&&x != n.1
def qQ(n:NodeT)(v:List dM)(i:Nat):Bool:=mG n (gt v i).1&&(inB (gt v i).2.1 0 100000&&(inB (gt v i).2.2.2.1 0 n.wait&&c6 v (gt v i).1 (gt v i).2.2.1==(i:Int)))
def tN(n:NodeT):Bool:=bL n.sess.length (qQ n n.sess)&&(inB n.slots 1 4&&decide ((n.sess.length:Int)<=n.slots))
theorem NB(n:NodeT):tN n=(inB n.slots 1 4&&lU n):=by
 unfold lU tN
 rw[vH,pA (ok:=qQ n n.sess) (ok':=m7 n n.sess) λi hi=>?_]
 ·ac_rfl
 ·unfold m7 qQ mG
  rw[ER hi,show((gt n.sess i).1 != n.1)= !((gt n.sess i).1==n.1)from rfl,Bool.and_assoc]
def kH(n:NodeT)(i:Nat):Bool:=inB (gt n.rises i).1 0 1000&&(inB (gt n.rises i).2.1 0 100000&&inB (gt n.rises i).2.2.1 0 n.clock)
def tQ(n:NodeT):Bool:=bL n.rises.length (kH n)&&(n.rises.length:Int)==5
def tH(n:NodeT):Bool:=gB n.tree.1 (cI n.state).1&&n.tree.2.1==(cI n.state).2.1
def kK(n:NodeT):Bool:=inB n.num 0 100000&&(inB n.clock 0 100000&&(inB n.slots 1 4&&(inB n.wait 1 20&&(inB n.limit 1 50&&((n.rises.length:Int)==5&&(bL n.rises.length (kH n)&&lU n))))))
def A7(n:NodeT):Bool:=bL n.acked.length λi=> !decide ((gt n.acked i).1>cE n.log)
def dJ(n:NodeT):Bool:=inB n.2.1 1 5&&(inB n.1 0 (i64.wrap (n.2.1 - 1))&&(aS n.state&&(tH n&&(gR n.log&&(eG n.got n.2.1&&(eG n.acked n.2.1&&
 ((gt n.got n.1.toNat).1==cE n.log&&(gN n.seen n.2.1&&(A7 n&&kK n)))))))))
def yB(n:NodeT):Bool:=inB n.2.1 1 5&&(inB n.1 0 (i64.wrap (n.2.1 - 1))&&(aS n.state&&(tH n&&(gR n.log&&(eG n.got n.2.1&&(eG n.acked n.2.1&&
 ((gt n.got n.1.toNat).1==cE n.log&&(!decide (LM n.acked>cE n.log)&&(gN n.seen n.2.1&&(inB n.num 0 100000&&(inB n.clock 0 100000&&(inB n.wait 1 20&&(inB n.limit 1 50&&(tN n&&tQ n))))))))))))))
theorem BJ{v:List aO}{n:Int}(h:eG v n=true):0<v.length:=by
 unfold eG at h;simp only[Bool.and_eq_true,aP,beq_iff_eq] at h;omega
theorem N5(n:NodeT):yB n=dJ n:=by
 unfold yB dJ
 cases h:eG n.acked n.2.1 with
 | false=>simp only[Bool.false_and,Bool.and_false]
 | true=>
  rw[RT (BJ h),NB]
  unfold tQ kK A7
  ac_rfl
-- worlds
def kL(w:a9)(i:Nat):Bool:=dJ (gt w.1 i)&&((gt w.1 i).2.1==(w.1.length:Int)&&(gt w.1 i).1==(i:Int))
def iR(w:a9)(i:Nat):Bool:=inB (gt w.2.2.1 i).1 0 (i64.wrap ((w.1.length:Int) - 1))&&aS (gt w.2.2.1 i).2
def bT(w:a9):Bool:=inB (w.1.length:Int) 1 5&&(!decide ((w.2.1.length:Int)>12)&&(!decide ((w.2.2.1.length:Int)>40)&&
 (bL w.1.length (kL w)&&(bL w.2.1.length (λi=>inB (gt w.2.1 i).1 0 (i64.wrap ((w.1.length:Int) - 1)))&&bL w.2.2.1.length (iR w)))))
-- sizes that a machine holds
structure SzS (s:aJ):Prop where
 a:s.1.length<=aW
 b:s.2.1.length<=aW
structure SzN (n:NodeT):Prop where
 state:SzS n.state
 leaves:n.tree.1.length<=aW
 list:n.log.2.2.1.length<=aW
 logs:∀ i,i<n.log.2.2.1.length->SzS (gt n.log.2.2.1 i)
 got:n.got.length<=aW
 acked:n.acked.length<=aW
 seen:n.seen.length<=aW
 lines:∀ i,i<n.seen.length->(gt n.seen i).1.length<=aW
 sess:n.sess.length<=aW
 rises:n.rises.length<=aW
structure SzW (w:a9):Prop where
 nodes:w.1.length<=aW
 node:∀ i,i<w.1.length->SzN (gt w.1 i)
 net:w.2.1.length<=aW
 said:w.2.2.1.length<=aW
 part:∀ i,i<w.2.2.1.length->SzS (gt w.2.2.1 i).2
end Go.Abs
/- Small rows have small sizes. -/
namespace Go.Abs
end Go.Abs
/- Plain laws: views, sides, what is cleared, what is the same here. -/
namespace Go.Abs
def rH(s:aJ):List bK:=bif aS s then s.1.filter (λx=>x.2.2.1==0)else[]
theorem KA{s:aJ}(h:SzS s):(rH s).length<=aW:=by
 unfold rH
 cases aS s with
 | false=>exact Nat.zero_le _
 | true=>exact Nat.le_trans (List.length_filter_le _ _) h.a
def vV(x y:bK):Bool:=gG x.1 y.1&&((gG x.2.1 y.2.1&&(gG x.2.2.1 y.2.2.1&&(gG x.2.2.2.1 y.2.2.2.1&&(gG x.2.2.2.2.1 y.2.2.2.2.1&&(P4 x.2.2.2.2.2.1 y.2.2.2.2.2.1&&true)))))&&true)
def oY(x y:aU):Bool:=gG x.1 y.1&&(gG x.2.1 y.2.1&&true)
def KS(a b:List bK):Bool:=(a.length:Int)==(b.length:Int)&&bL a.length λi=>vV (gt a i) (gt b i)
def eY(a b:aJ):Bool:=(a.1.length:Int)==(b.1.length:Int)&&((a.2.1.length:Int)==(b.2.1.length:Int)&&(bL a.1.length (λi=>vV (gt a.1 i) (gt b.1 i))&&bL a.2.1.length λi=>oY (gt a.2.1 i) (gt b.2.1 i)))
theorem nT{a b:Int}:gG a b=true↔a=b:=by unfold gG;simp
theorem MC{a b:ByteArray}:(a==b)=true↔a=b:=by
 cases a with
 | mk x=>cases b with
  | mk y=>
   show ByteArray.beq ⟨x⟩ ⟨y⟩=true↔_
   simp[ByteArray.beq]
theorem AM{x y:bK}:vV x y=true↔x=y:=by
 obtain⟨a,b,c,d,e,s,u⟩:=x
 obtain⟨a',b',c',d',e',s',u'⟩:=y
 unfold vV gG P4
 simp only[Bool.and_eq_true,beq_iff_eq,MC,Prod.mk.injEq,and_true]
theorem xG{x y:aU}:oY x y=true↔x=y:=by
 obtain⟨a,b,u⟩:=x
 obtain⟨a',b',u'⟩:=y
 unfold oY gG
 simp only[Bool.and_eq_true,beq_iff_eq,Prod.mk.injEq,and_true]
theorem IJ{α:Type}[Inhabited α]{a b:List α}(hl:a.length=b.length)(h:∀ i,i<a.length->gt a i=gt b i):a=b:=
 List.ext_getElem hl λi h1 h2=>by have:=h i h1;rw[cK h1,cK h2] at this;exact this
theorem gK{a b:aJ}:eY a b=true↔a=b:=by
 obtain⟨a1,a2,u⟩:=a
 obtain⟨b1,b2,u'⟩:=b
 unfold eY
 simp only[Bool.and_eq_true,bI,beq_iff_eq]
 constructor
 ·rintro ⟨h1,h2,h3,h4⟩
  have e1:a1=b1:=IJ (by omega) λi hi=>AM.1 (h3 i hi)
  have e2:a2=b2:=IJ (by omega) λi hi=>xG.1 (h4 i hi)
  rw[e1,e2]
 ·intro h
  cases h
  exact⟨rfl,rfl,λi _=>AM.2 rfl,λi _=>xG.2 rfl⟩
theorem tE{w:a9}(h:bT w=true){i:Nat}(hi:i<w.1.length):dJ (gt w.1 i)=true:=by
 unfold bT kL at h;simp only[Bool.and_eq_true,bI] at h
 exact(h.2.2.2.1 i hi).1
end Go.Abs
/- Plain laws: entries compared, states joined. -/
namespace Go.Abs
theorem bE{β:Type}{o:Option Out}{A B:List Kd}{r:Row A}{s:Row B}{f:Rows [A,B]×Rows []->Option β}(h:o=some ⟨[⟨A,r⟩,⟨B,s⟩],[]⟩):(o.bind (dR [A,B] [])).bind f=f ((r,s,()),()):=by
 rw[h];exact UU r s f
def dF:bF:=(0,0,0,0,⟨#[]⟩,())
def bJ(s:aJ)(id:Int):bF×Bool:=match (List.range s.1.length).find? (λi=>(gt s.1 i).1==id)with
 | some i=>((gt s.1 i).2,true)
 | none=>(dF,false)
theorem fH(s:aJ)(id:Int):(∃ x∈s.1,x.1=id/\bJ s id=(x.2,true))\/((∀ x∈s.1,x.1≠id)/\bJ s id=(dF,false)):=by
 unfold bJ
 cases h:(List.range s.1.length).find? (λi=>(gt s.1 i).1==id)with
 | none=>
  rw[List.find?_eq_none] at h
  refine .inr ⟨λx hx=>?_,rfl⟩
  obtain⟨i,hi,rfl⟩:=fZ hx
  have:=h i (List.mem_range.2 hi)
  simpa using this
 | some i=>
  rw[List.find?_range_eq_some] at h
  exact .inl ⟨_,cJ (List.mem_range.1 h.2.1),eq_of_beq h.1,rfl⟩
theorem eO(s:aJ)(id:Int):(∃ x∈s.2.1,x.1=id/\cM s.2.1 id=x.2.1)\/((∀ x∈s.2.1,x.1≠id)/\cM s.2.1 id=0):=by
 unfold cM
 cases h:(List.range s.2.1.length).find? (λi=>(gt s.2.1 i).1==id)with
 | none=>
  rw[List.find?_eq_none] at h
  refine .inr ⟨λx hx=>?_,rfl⟩
  obtain⟨i,hi,rfl⟩:=fZ hx
  have:=h i (List.mem_range.2 hi)
  simpa using this
 | some i=>
  rw[List.find?_range_eq_some] at h
  exact .inl ⟨_,cJ (List.mem_range.1 h.2.1),eq_of_beq h.1,rfl⟩
-- entries compared
def l2(a b:Int):Int:=bif decide (a<b)then -1 else bif decide (a>b)then 1 else 0
def IP(s t:ByteArray):Int:=Lib.compareBytes s.data.toList t.data.toList
def iQ(a b:bF):Int:=if l2 a.1 b.1≠0 then l2 a.1 b.1 else if l2 a.2.1 b.2.1≠0 then l2 a.2.1 b.2.1 else if l2 a.2.2.1 b.2.2.1≠0 then l2 a.2.2.1 b.2.2.1 else if l2 a.2.2.2.1 b.2.2.2.1≠0 then l2 a.2.2.2.1 b.2.2.2.1 else IP a.2.2.2.2.1 b.2.2.2.2.1
def MG(b:Bool):Int:=bif b then 1 else 0
theorem CO:∀ x y:List UInt8,(bif Op.bytesLess x y then(-1:Int)else MG (!(Op.bytesLess x y||x==y)))=Lib.compareBytes x y
 | [],[]=>rfl
 | [],_::_=>rfl
 | _::_,[]=>rfl
 | a ::x,b::y=>by
  have ih:=CO x y
  unfold Op.bytesLess Lib.compareBytes
  by_cases h1:a<b
  ·simp[h1]
  ·by_cases h2:b<a
   ·have hne:(a==b)=false:=by
     simp only[beq_eq_false_iff_ne,ne_eq];rintro rfl;exact h1 h2
    have hne':(a::x==b::y)=false:=by rw[List.cons_beq_cons,hne];rfl
    rw[if_neg h1,if_pos h2,hne,hne'];simp[h1,MG]
   ·have he:a=b:=by
     rcases UInt8.lt_or_lt_of_ne (a:=a) (b:=b)with h
     by_cases hab:a=b
     ·exact hab
     ·rcases UInt8.lt_or_lt_of_ne hab with h | h
      ·exact absurd h h1
      ·exact absurd h h2
    subst he
    rw[if_neg h1,if_neg h2,<- ih,List.cons_beq_cons]
    simp[h1]
end Go.Abs
/- Plain laws: joins, what was said, what lies beneath, what is over. -/
namespace Go.Abs
theorem z5(a b:Int):l2 b a= - l2 a b:=by
 unfold l2
 rcases Int.lt_trichotomy a b with h | h | h
 ·rw[decide_eq_true h,decide_eq_false (by omega:¬ b<a)];rfl
 ·subst h;rw[decide_eq_false (by omega:¬ a<a)];rfl
 ·rw[decide_eq_true h,decide_eq_false (by omega:¬ a<b)];rfl
theorem v7:∀ x y:List UInt8,Lib.compareBytes y x= - Lib.compareBytes x y
 | [],[]=>rfl
 | [],_::_=>rfl
 | _::_,[]=>rfl
 | a::x,b::y=>by
  unfold Lib.compareBytes
  by_cases h1:a<b
  ·have h2:¬ b<a:=λh=>by rw[UInt8.lt_iff_toNat_lt] at h h1;omega
   simp[h1,h2]
  ·by_cases h2:b<a
   ·simp[h1,h2]
   ·simp[h1,h2,v7 x y]
theorem uH(x y:Int):(if -x≠0 then -x else -y)= -(if x≠0 then x else y):=by
 by_cases h:x=0
 ·subst h;simp
 ·rw[if_pos h,if_pos (by omega)]
theorem qJ(a b:bF):iQ b a= - iQ a b:=by
 unfold iQ
 rw[z5 a.1 b.1,z5 a.2.1 b.2.1,z5 a.2.2.1 b.2.2.1,z5 a.2.2.2.1 b.2.2.2.1,show IP b.2.2.2.2.1 a.2.2.2.2.1= - IP a.2.2.2.2.1 b.2.2.2.2.1 from v7 _ _,uH,uH,uH,uH]
theorem v3{y:bF}(h:1<=y.1):iQ dF y= -1:=by
 have e:l2 dF.1 y.1= -1:=by
  unfold l2;rw[decide_eq_true (show dF.1<y.1 from by show(0:Int)<y.1;omega)];rfl
 unfold iQ;rw[e];rfl
def orZ(z:Int)(ls:List aO):Int:=match (List.range ls.length).find? (λi=>(gt ls i).1 != 0)with
 | some i=>(gt ls i).1
 | none=>z
theorem FD(z:Int)(ls:List aO):orZ z ls=(match ls.find? (λx:aO=>x.1 != 0)with | some x=>x.1 | none=>z):=by
 have h:=sR (λx:aO=>x.1 != 0) (λx:aO=>x.1) z ls
 unfold orZ
 cases h1:(List.range ls.length).find? (λi=>(gt ls i).1 != 0)<;>cases h2:ls.find? (λx:aO=>x.1 != 0)<;>simp only[h1,h2] at h ⊢<;>exact h
theorem t7(z x:Int)(ls:List aO):orZ z ((x,())::ls)=if x≠0 then x else orZ z ls:=by
 rw[FD,FD,List.find?_cons]
 by_cases h:x=0
 ·subst h;rfl
 ·have:((x,()):aO).1 != 0:=by simpa using h
  rw[this,if_pos h]
def F4(a b:bF):List aO:=[(l2 a.1 b.1,()),(l2 a.2.1 b.2.1,()),(l2 a.2.2.1 b.2.2.1,()),(l2 a.2.2.2.1 b.2.2.2.1,())]
theorem NZ(a b:bF):orZ (IP a.2.2.2.2.1 b.2.2.2.2.1) (F4 a b)=iQ a b:=by
 unfold F4 iQ
 rw[t7,t7,t7,t7];rfl
theorem MA(x y:ByteArray):(bif Op.bytesLess (ByteArray.toList x) (ByteArray.toList y)then(-1:Int)else MG (!(Op.bytesLess (ByteArray.toList x) (ByteArray.toList y)||ByteArray.toList x==ByteArray.toList y)))=IP x y:=by
 rw[ByteArray.toList_eq,ByteArray.toList_eq];exact CO _ _
/-- The cells of a state that a join leans on. -/
structure Pos (s:aJ):Prop where
 item:∀ x∈s.1,1<=x.2.1
 floor:∀ f∈s.2.1,0<=f.2.1
theorem StateOk.pos{s:aJ}(h:StateOk s):Pos s where
 item x hx:=by
  have:=(h.item x hx).2.1
  unfold eD at this;simp only[Bool.and_eq_true,aP] at this;omega
 floor f hf:=by have:=(h.floor f hf).2;rw[aP] at this;omega
theorem RJ:Pos ([],[],()):=⟨λx hx=>(List.not_mem_nil hx).elim,λx hx=>(List.not_mem_nil hx).elim⟩
def mxE(a b:bF):bF:=bif decide (iQ a b<0)then b else a
def eL(a b:aJ)(i:Int):bF:=mxE (bJ a i).1 (bJ b i).1
def flr(a b:aJ)(i:Int):Int:=mxI true (cM a.2.1 i) (cM b.2.1 i)
def dZ(a b:aJ)(i:Nat):List bK:=bif decide ((eL a b i).1>flr a b i)then[((i:Int),eL a b i)] else[]
def dY(a b:aJ)(i:Nat):List aU:=bif decide (flr a b i>0)then[((i:Int),flr a b i,())] else[]
def dG(a b:aJ):aJ:=(bR 5 (dZ a b),bR 5 (dY a b),())
theorem vR(a b:aJ)(i:Nat):(dZ a b i).length<=1:=by unfold dZ;cases decide ((eL a b i).1>flr a b i)<;>simp
theorem sQ(a b:aJ)(i:Nat):(dY a b i).length<=1:=by unfold dY;cases decide (flr a b i>0)<;>simp
theorem lO(a b:aJ):(dG a b).1.length<=5/\(dG a b).2.1.length<=5:=
 ⟨dT (n:=5) (L:=1) λi _=>vR a b i,dT (n:=5) (L:=1) λi _=>sQ a b i⟩
theorem nJ(a b:aJ):SzS (dG a b):=⟨Nat.le_trans (lO a b).1 (by decide),Nat.le_trans (lO a b).2 (by decide)⟩
theorem PH{a b:aJ}(ha:Pos a)(i:Int):0<=flr a b i:=by
 have h:0<=cM a.2.1 i:=by
  rcases eO a i with ⟨x,hx,_,e⟩ | ⟨_,e⟩
  ·rw[e];exact ha.floor x hx
  ·omega
 unfold flr mxI;simp only[if_true];split<;>omega
theorem OB:mxE dF dF=dF:=by
 unfold mxE;cases decide (iQ dF dF<0)<;>rfl
theorem RK{a b:aJ}{i:Int}(ha:bJ a i=(dF,false))(hb:bJ b i=(dF,false)):eL a b i=dF:=by
 unfold eL;rw[ha,hb];exact OB
theorem xX{a b:aJ}{i:Int}{y:bF}(ha:bJ a i=(dF,false))(hb:bJ b i=(y,true))(hy:1<=y.1):eL a b i=y:=by
 unfold eL mxE;rw[ha,hb];rw[show iQ (dF,false).1 (y,true).1= -1 from v3 hy];rfl
theorem xW{a b:aJ}{i:Int}{x:bF}(ha:bJ a i=(x,true))(hb:bJ b i=(dF,false))(hx:1<=x.1):eL a b i=x:=by
 unfold eL mxE;rw[ha,hb];rw[show iQ (x,true).1 (dF,false).1=1 from by rw[show iQ (x,true).1 (dF,false).1= - iQ dF x from qJ dF x,v3 hx];rfl];rfl
theorem JG{a b:aJ}{i:Int}{x y:bF}(ha:bJ a i=(x,true))(hb:bJ b i=(y,true)):eL a b i=bif decide (iQ y x>0)then y else x:=by
 unfold eL mxE;rw[ha,hb]
 show(bif decide (iQ x y<0)then y else x)=_
 rw[show decide (iQ x y<0)=decide (iQ y x>0)from ?_]
 rw[qJ x y]
 by_cases h:iQ x y<0
 ·rw[decide_eq_true h,decide_eq_true (by omega)]
 ·rw[decide_eq_false h,decide_eq_false (by omega)]
theorem iC{a b:aJ}{i:Nat}{e:bF}(he:eL a b i=e)(h:e.1>flr a b i):dZ a b i=[((i:Int),e)]:=by
 unfold dZ;rw[he,decide_eq_true h];rfl
theorem iE{a b:aJ}{i:Nat}{e:bF}(he:eL a b i=e)(h:¬ e.1>flr a b i):dZ a b i=[]:=by
 unfold dZ;rw[he,decide_eq_false h];rfl
theorem AC{a b:aJ}{i:Nat}(h:flr a b i>0):dY a b i=[((i:Int),flr a b i,())]:=by
 unfold dY;rw[decide_eq_true h];rfl
theorem IA{a b:aJ}{i:Nat}(h:¬ flr a b i>0):dY a b i=[]:=by
 unfold dY;rw[decide_eq_false h];rfl
theorem qG{s:aJ}(hs:Pos s)(i:Int):(∃ x:bF,1<=x.1/\bJ s i=(x,true))\/bJ s i=(dF,false):=by
 rcases fH s i with ⟨x,hx,_,e⟩ | ⟨_,e⟩
 ·exact .inl ⟨x.2,hs.item x hx,e⟩
 ·exact .inr e
-- less
def RV(a b:aJ):Bool:=aS a&&(aS b&&eY (dG a b) b)
-- over
def gone(s:aJ)(id:Int):Int:=bif aS s then(bif(bJ s id).2 then(bif(bJ s id).1.2.1==0 then i64.wrap ((bJ s id).1.1 - 1)else(bJ s id).1.1)else cM s.2.1 id)else 0
-- what was said
def iM:aJ:=([],[],())
def OZ(g:Nat->aJ):Nat->aJ
 | 0=>iM
 | k+1=>dG (OZ g k) (g k)
theorem kA:SzS iM:=⟨Nat.zero_le _,Nat.zero_le _⟩
def HC(w:a9)(i:Nat):aJ:=(gt w.2.2.1 i).2
def VB(w:a9):aJ:=bif bT w then OZ (HC w) w.2.2.1.length else iM
def OK(w:a9)(node:Int):Nat->Int
 | 0=>0
 | k+1=>OK w node k+MG ((gt w.2.2.1 k).1==node)
def many(w:a9)(node:Int):Int:=OK w node w.2.2.1.length
def H0(w:a9)(ls:List aO):Nat->aJ
 | 0=>iM
 | k+1=>bif inB (gt ls k).1 0 (i64.wrap ((w.2.2.1.length:Int) - 1))then dG (H0 w ls k) (HC w (gt ls k).1.toNat)else H0 w ls k
def TT(w:a9)(ls:List aO):aJ:=bif bT w then H0 w ls ls.length else iM
def D8(w:a9)(s:aJ):List aO:=bif bT w&&aS s then bR w.2.2.1.length (λi=>bif RV (HC w i) s then[((i:Int),())] else[])else[]
end Go.Abs
/- Plain laws: what the judges decide. -/
namespace Go.Abs
theorem O9{s:aJ}(hs:aS s=false)(id:Int):gone s id=0:=by unfold gone;rw[hs];rfl
theorem uT{β:Type}{q r:Prop}[Decidable q][Decidable r]{x y:β}(h:q)(h':r):(bif decide q&&decide r then x else y)=x:=by
 rw[decide_eq_true h,decide_eq_true h'];rfl
-- own
-- views
-- heard
-- seen
theorem D2{s:aJ}(h:StateOk s){f:aU}(hf:f∈s.2.1):cM s.2.1 f.1=f.2.1:=by
 rcases eO s f.1 with ⟨x,hx,h1,e⟩ | ⟨h1,_⟩
 ·have:x=f:=by
   obtain⟨i,hi,rfl⟩:=fZ hx
   obtain⟨j,hj,rfl⟩:=fZ hf
   have hp:=h.floors
   rw[List.pairwise_iff_getElem] at hp
   rcases Nat.lt_trichotomy i j with h2 | h2 | h2
   ·have:=hp i j hi hj h2;rw[<- cK hi,<- cK hj] at this;omega
   ·rw[h2]
   ·have:=hp j i hj hi h2;rw[<- cK hi,<- cK hj] at this;omega
  rw[e,this]
 ·exact absurd rfl (h1 f hf)
theorem R6{s:aJ}(hs:aS s=true)(id:Int):0<=gone s id:=by
 have ok:=(aV s).1 hs
 unfold gone;rw[hs]
 rcases fH s id with ⟨x,hx,_,e⟩ | ⟨_,e⟩
 ·rw[e]
  have:=(ok.item x hx).2.1
  unfold eD at this;simp only[Bool.and_eq_true,aP] at this
  show 0<=(bif x.2.2.1==0 then i64.wrap (x.2.1 - 1)else x.2.1)
  rw[uY (by omega) (by omega)]
  cases x.2.2.1==0 with
  | false=>show 0<=x.2.1;omega
  | true=>show 0<=x.2.1 - 1;omega
 ·rw[e]
  show 0<=cM s.2.1 id
  rcases eO s id with ⟨x,hx,_,e⟩ | ⟨_,e⟩
  ·rw[e];exact ok.pos.floor x hx
  ·omega
-- Q0, JS, grown
def Q0(w:a9):Bool:=bT w&&bL w.1.length λi=>KS (rH (gt w.1 i).state) (rH (VB w))
def oP(s:aJ)(id:Int):bF×Bool:=bJ (rH s,[],()) id
def JR(w:a9)(id:Int):Nat->Int
 | 0=>0
 | k+1=>JR w id k+MG (oP (gt w.1 k).state id).2
def JS(w:a9)(id:Int):Int:=bif bT w then JR w id w.1.length else 0
end Go.Abs
/- Plain laws: differences of views applied, and what they are. -/
namespace Go.Abs
end Go.Abs
/- Plain laws: draws. -/
namespace Go.Abs
abbrev eQ:=List aO×Int×Int×Unit
structure CurOk (c:eQ):Prop where
 len:c.1.length<=1048576
 lo:0<=c.2.1
 hi:c.2.1<=c.1.length
theorem yK(a:Int):0<=I1 .i64 a 255/\I1 .i64 a 255<=255:=by
 unfold I1
 have h:(BitVec.ofInt i64.bits a&&& BitVec.ofInt i64.bits 255).toNat<=255:=by
  rw[BitVec.toNat_and];exact Nat.le_trans Nat.and_le_right (by decide)
 generalize (BitVec.ofInt i64.bits a&&& BitVec.ofInt i64.bits 255).toNat=m at h
 have e:i64.wrap (m:Int)=m:=by rw[IntKind.wrap_i64];omega
 rw[e];omega
theorem tI{x n:Int}(hx:0<=x)(hn:0<n):0<=x.tmod n/\x.tmod n<n:=by
 rw[Int.tmod_eq_emod_of_nonneg hx]
 exact⟨Int.emod_nonneg _ (by omega),Int.emod_lt_of_pos _ hn⟩
theorem aG{β:Type}{o:Option Out}{A B:List Kd}{r:Row A}{s:Row B}{f:Rows [A]×Rows [B]->Option β}(h:o=some ⟨[⟨A,r⟩],[⟨B,s⟩]⟩):(o.bind (dR [A] [B])).bind f=f ((r,()),(s,())):=by
 rw[h];simp[dR,fD,jO];rfl
theorem AR{β:Type}{o:Option Out}{A B:List Kd}{r:Row A}{s:Row B}{f:Rows [A,B]×Rows []->Option β}(h:o=some ⟨[⟨A,r⟩,⟨B,s⟩],[]⟩):(o.bind (dR [A,B] [])).bind f=f ((r,s,()),()):=by
 rw[h];simp[dR,fD,jO];rfl
/-- A loop whose rounds are told by what they keep. -/
theorem It.ex {ι σ:Type} {lvl:Nat} {c:Nat->Nat->ι->(σ->Option Out)->σ->Option Out} (Inv:Nat->σ->Prop) (Good:Out->Prop) (N:Nat)
  (hs:∀ i x,i<N->Inv i x->∃ y,Inv (i+1) y/\∀ n,lvl<=n->∀ aA a rec,c n aA a rec x=rec y)
  (he:∀ x,Inv N x->∃ o,Good o/\∀ n,lvl<=n->It (c n) x (λ_=>some o)):∀ (m j:Nat) x,j+m=N->Inv j x->∃ o,Good o/\∀ n,lvl<=n->It (c n) x (λ_=>some o)
 | 0,j,x,hj,hx=>he x ((show j=N by omega)▸hx)
 | m+1,j,x,hj,hx=>by
  obtain⟨y,hy,h⟩:=hs j x (by omega) hx
  obtain⟨o,ho,h'⟩:=It.ex Inv Good N hs he m (j+1) y (by omega) hy
  exact⟨o,ho,λn hn=>It.next (λaA a rec=>h n hn aA a rec) (h' n hn)⟩
def datas:List ByteArray:=[⟨#[]⟩,⟨#[97]⟩,⟨#[98]⟩,⟨#[97,98]⟩,⟨#[49,50,51,52,53,54,55,56]⟩,⟨#[49,50,51,52,53,54,55,56,57]⟩]
def QG(e:bF):Prop:=e.2.2.2.2.1∈datas
structure StD (k:Nat) (s:aJ):Prop where
 a:s.1.length<=k
 b:s.2.1.length<=k
 data:∀ x∈s.1,QG x.2
theorem StD.sz{k:Nat}{s:aJ}(h:StD k s)(hk:k<=1048576):SzS s:=⟨Nat.le_trans h.a hk,Nat.le_trans h.b hk⟩
theorem QH:QG dF:=List.mem_cons_self ..
theorem xH{P:bF->Prop}(hz:P dF){s:aJ}(hs:∀ x∈s.1,P x.2)(i:Int):P (bJ s i).1:=by
 unfold bJ
 cases h:(List.range s.1.length).find? (λj=>(gt s.1 j).1==i)with
 | none=>exact hz
 | some j=>
  have hj:=List.mem_range.1 (List.mem_of_find?_eq_some h)
  show P (gt s.1 j).2
  rw[cK hj];exact hs _ (List.getElem_mem hj)
theorem jP{α:Type}{n:Nat}{g:Nat->List α}{x:α}(h:x∈bR n g):∃ i,i<n/\x∈g i:=by
 induction n with
 | zero=>exact(List.not_mem_nil h).elim
 | succ n ih=>
  rw[eE] at h
  rcases List.mem_append.1 h with h | h
  ·obtain⟨i,hi,hx⟩:=ih h;exact⟨i,by omega,hx⟩
  ·exact⟨n,by omega,h⟩
theorem LU{P:bF->Prop}(hz:P dF){a b:aJ}(ha:∀ x∈a.1,P x.2)(hb:∀ x∈b.1,P x.2):∀ x∈(dG a b).1,P x.2:=by
 intro x hx
 obtain⟨i,_,hi⟩:=jP hx
 unfold dZ at hi
 cases hc:decide ((eL a b (i:Int)).1>flr a b (i:Int))with
 | false=>rw[hc] at hi;exact(List.not_mem_nil hi).elim
 | true=>
  rw[hc] at hi
  have e:x=((i:Int),eL a b (i:Int)):=List.mem_singleton.1 hi
  subst e
  show P (eL a b (i:Int))
  unfold eL mxE
  cases decide (iQ (bJ a (i:Int)).1 (bJ b (i:Int)).1<0)
  ·exact xH hz ha _
  ·exact xH hz hb _
theorem JT{j k:Nat}{a b:aJ}(ha:StD j a)(hb:StD k b):StD 5 (dG a b):=⟨(lO a b).1,(lO a b).2,LU QH ha.data hb.data⟩
theorem O6{β:Type}{A B:Prop}[Decidable A][Decidable B]{X R:β}(h:¬ A\/¬ B):(bif decide A then(bif decide B then X else R)else R)=R:=by
 by_cases a:A
 ·rcases h with h | h
  ·exact absurd a h
  ·rw[decide_eq_true a,decide_eq_false h];rfl
 ·rw[decide_eq_false a];rfl
/-- The loop of a new cursor, and what comes behind it. -/
theorem It.new {lvl:Nat} {c:Nat->Nat->Unit->(Int×Int->Option Out)->Int×Int->Option Out} (Good:Out->Prop) (b:List aO) (hb:b.length<=1048576)
  (hs:∀ (i:Nat) (h:Int),i<b.length->i<4000->∃ h',∀ n,lvl<=n->∀ aA a rec,c n aA a rec (h,(i:Int))=rec (h',((i+1:Nat):Int)))
  (he:∀ (h i:Int),CurOk (b,0,h,())->(¬ i<(b.length:Int)\/¬ i<4000)->∃ o,Good o/\∀ n,lvl<=n->∃ M,∀ aA,M<=aA->∀ a rec,c n aA a rec (h,i)=some o) (h0:Int):
  ∃ o,Good o/\∀ n,lvl<=n->It (c n) (h0,(0:Int)) (λ_=>some o):=by
 refine It.ex (λi y=>∃ h,y=(h,(i:Int))) Good (min b.length 4000) ?_ ?_ (min b.length 4000) 0 (h0,(0:Int)) (by omega) ⟨h0,rfl⟩
 ·rintro i y hi ⟨h,rfl⟩
  obtain⟨h',hh⟩:=hs i h (by omega) (by omega)
  exact⟨_,⟨h',rfl⟩,hh⟩
 ·rintro y ⟨h,rfl⟩
  obtain⟨o,ho,hh⟩:=he h ((min b.length 4000:Nat):Int) ⟨hb,by show(0:Int)<=0;omega,by show(0:Int)<=(b.length:Int);omega⟩ (by omega)
  refine⟨o,ho,λn hn=>?_⟩
  obtain⟨M,hM⟩:=hh n hn
  refine⟨M+1,λaA k hf hk a=>?_⟩
  obtain⟨k,rfl⟩:∃ k',k=k'+1:=⟨k - 1,by omega⟩
  exact hM aA (by omega) a _
end Go.Abs
-- marks, tables, taking and receiving: plain laws
namespace Go.Abs
abbrev MsgT:=Int×Int×Int×Int×Int×List aO×Int×List aO×List aO×List bK×List aU×List aU×Unit
abbrev MsgT.hi(m:MsgT):Int:=m.2.2.2.2.1
abbrev MsgT.tree(m:MsgT):kX:=(m.2.2.2.2.2.1,m.2.2.2.2.2.2.1,())
abbrev MsgT.vec(m:MsgT):List aO:=m.2.2.2.2.2.2.2.1
abbrev MsgT.leaves(m:MsgT):List aO:=m.2.2.2.2.2.2.2.2.1
abbrev MsgT.part(m:MsgT):aJ:=(m.2.2.2.2.2.2.2.2.2.1,m.2.2.2.2.2.2.2.2.2.2.1,())
abbrev MsgT.marks(m:MsgT):List aU:=m.2.2.2.2.2.2.2.2.2.2.2.1
structure SzM (m:MsgT):Prop where
 leaves:m.tree.1.length<=aW
 vec:m.vec.length<=aW
 list:m.leaves.length<=aW
 part:SzS m.part
 marks:m.marks.length<=aW
theorem rR(a b:Int):mxI true a b=max a b:=by unfold mxI;simp only[if_true];split<;>omega
theorem FH(a b:Int):mxI false a b=min a b:=by unfold mxI;simp only[Bool.false_eq_true,if_false];split<;>omega
-- lists in order
theorem rE{α:Type}{k:α->Int}{g:Nat->List α}(h1:∀ i,(g i).length<=1)(h:∀ i,∀ x∈g i,k x=(i:Int)):∀ n,(bR n g).Pairwise (λx y=>k x<k y)
 | 0=>by rw[wH];exact List.Pairwise.nil
 | n+1=>by
  rw[eE,List.pairwise_append]
  refine⟨rE h1 h n,?_,λx hx y hy=>?_⟩
  ·match hg:g n with
   | []=>exact List.Pairwise.nil
   | [x]=>exact List.pairwise_singleton _ _
   | x::y::t=>have:=h1 n;rw[hg] at this;simp at this
  ·obtain⟨i,hi,hx⟩:=jP hx
   rw[h i x hx,h n y hy];omega
theorem oW{s:aJ}(h:StateOk s)(i:Int):0<=cM s.2.1 i/\cM s.2.1 i<=1000:=by
 rcases eO s i with ⟨x,hx,_,e⟩ | ⟨_,e⟩
 ·have:=(h.floor x hx).2;rw[aP] at this;rw[e];omega
 ·rw[e];omega
theorem sV{s:aJ}(h:StateOk s)(i:Int):(bJ s i).1=dF\/eD (bJ s i).1=true:=by
 rcases fH s i with ⟨x,hx,_,e⟩ | ⟨_,e⟩
 ·rw[e];exact .inr (h.item x hx).2.1
 ·rw[e];exact .inl rfl
theorem NX{a b:aJ}(ha:StateOk a)(hb:StateOk b)(i:Int):eL a b i=dF\/eD (eL a b i)=true:=by
 unfold eL mxE
 cases decide (iQ (bJ a i).1 (bJ b i).1<0)with
 | true=>exact sV hb i
 | false=>exact sV ha i
theorem PI{a b:aJ}(ha:StateOk a)(hb:StateOk b)(i:Int):0<=flr a b i/\flr a b i<=1000:=by
 have h1:=oW ha i
 have h2:=oW hb i
 unfold flr;rw[rR];omega
theorem vQ{a b:aJ}{i:Nat}{x:bK}(h:x∈dZ a b i):x=((i:Int),eL a b i)/\(eL a b i).1>flr a b i:=by
 unfold dZ at h
 cases hd:decide ((eL a b i).1>flr a b i)with
 | false=>rw[hd] at h;cases h
 | true=>rw[hd] at h;exact⟨List.mem_singleton.1 h,of_decide_eq_true hd⟩
theorem oU{a b:aJ}{i:Nat}{x:aU}(h:x∈dY a b i):x=((i:Int),flr a b i,())/\flr a b i>0:=by
 unfold dY at h
 cases hd:decide (flr a b i>0)with
 | false=>rw[hd] at h;cases h
 | true=>rw[hd] at h;exact⟨List.mem_singleton.1 h,of_decide_eq_true hd⟩
theorem DR{i:Nat}(h:i<5):eM (i:Int)=true:=by unfold eM;rw[aP];omega
theorem StateOk.join{a b:aJ}(ha:StateOk a)(hb:StateOk b):StateOk (dG a b) where
 item x hx:=by
  obtain⟨i,hi,hx⟩:=jP hx
  obtain⟨rfl,hg⟩:=vQ hx
  have hf:=PI ha hb (i:Int)
  refine⟨DR hi,?_,?_⟩
  ·rcases NX ha hb (i:Int)with e | e
   ·rw[e] at hg;have h0:(0:Int)>flr a b i:=hg;omega
   ·exact e
  ·show cM (dG a b).2.1 (i:Int)<(eL a b i).1
   rcases eO (dG a b) (i:Int)with ⟨f,hf',e1,e⟩ | ⟨_,e⟩
   ·obtain⟨j,_,hf'⟩:=jP hf'
    obtain⟨rfl,_⟩:=oU hf'
    have:(j:Int)=(i:Int):=e1
    rw[e];show flr a b (j:Int)<_;rw[this];omega
   ·rw[e];omega
 items:=rE (k:=λx:bK=>x.1) (vR a b) (λi x hx=>by rw[(vQ hx).1]) 5
 floor f hf:=by
  obtain⟨i,hi,hf⟩:=jP hf
  obtain⟨rfl,hg⟩:=oU hf
  have:=PI ha hb (i:Int)
  refine⟨DR hi,?_⟩
  rw[aP];show 1<=flr a b i/\flr a b i<=1000;omega
 floors:=rE (k:=λx:aU=>x.1) (sQ a b) (λi x hx=>by rw[(oU hx).1]) 5
theorem nK{a b:aJ}(ha:aS a=true)(hb:aS b=true):aS (dG a b)=true:=
 (aV _).2 (((aV _).1 ha).join ((aV _).1 hb))
theorem yD:aS iM=true:=rfl
-- marks
def fJ(ms:List aU):Bool:=bL ms.length (gE ms)
theorem zT(ms:List aU):aS ([],ms,())=fJ ms:=by
 unfold aS fJ;rw[show bL ([]:List bK).length (mJ ([],ms,()))=true from rfl,Bool.true_and]
def kU(s:aJ)(i:Nat):List aU:=bif decide (gone s i>0)then[((i:Int),gone s i,())] else[]
def cX(s:aJ):List aU:=bR 5 (kU s)
theorem sN(s:aJ)(i:Nat):(kU s i).length<=1:=by unfold kU;cases decide (gone s i>0)<;>simp
theorem fU(s:aJ):(cX s).length<=5:=dT (n:=5) (L:=1) λi _=>sN s i
theorem JW(s:aJ)(i:Int):gone s i<=1000:=by
 cases hs:aS s with
 | false=>rw[O9 hs];omega
 | true=>
  have h:=(aV s).1 hs
  have hf:=oW h i
  unfold gone;rw[hs]
  show(bif(bJ s i).2 then _ else _)<=(1000:Int)
  cases h2:(bJ s i).2 with
  | false=>exact hf.2
  | true=>
   have he:(bJ s i).1.1<=1000/\0<=(bJ s i).1.1:=by
    rcases sV h i with e | e
    ·rw[e];show(0:Int)<=1000/\(0:Int)<=0;omega
    ·unfold eD at e;simp only[Bool.and_eq_true,aP] at e;omega
   show(bif(bJ s i).1.2.1==0 then i64.wrap ((bJ s i).1.1 - 1)else(bJ s i).1.1)<=1000
   cases (bJ s i).1.2.1==0 with
   | false=>exact he.1
   | true=>show i64.wrap ((bJ s i).1.1 - 1)<=1000;rw[IntKind.wrap_i64];omega
theorem HN{s:aJ}{i:Nat}{x:aU}(h:x∈kU s i):x=((i:Int),gone s i,())/\gone s i>0:=by
 unfold kU at h
 cases hd:decide (gone s i>0)with
 | false=>rw[hd] at h;cases h
 | true=>rw[hd] at h;exact⟨List.mem_singleton.1 h,of_decide_eq_true hd⟩
theorem CI{fs:List aU}(g:Nat->List aU)(he:fs=bR 5 g)(h1:∀ i,(g i).length<=1)(h:∀ i,∀ x∈g i,x.1=(i:Int)/\1<=x.2.1/\x.2.1<=1000):StateOk ([],fs,()) where
 item x hx:=by cases hx
 items:=List.Pairwise.nil
 floor f hf:=by
  have hf:f∈fs:=hf
  rw[he] at hf
  obtain⟨i,hi,hf⟩:=jP hf
  obtain⟨e,h2,h3⟩:=h i f hf
  exact⟨by rw[e];exact DR hi,aP.2 ⟨h2,h3⟩⟩
 floors:=by
  show fs.Pairwise _
  rw[he];exact rE (k:=λx:aU=>x.1) h1 (λi x hx=>(h i x hx).1) 5
theorem HM(s:aJ):fJ (cX s)=true:=by
 rw[<- zT]
 exact(aV _).2 (CI (kU s) rfl (sN s) λi x hx=>by
  obtain⟨rfl,h⟩:=HN hx
  exact⟨rfl,h,JW s i⟩)
theorem uD{ms:List aU}(h:fJ ms=true){i:Nat}(hi:i<ms.length):0<=(gt ms i).1/\(gt ms i).1<=4/\1<=(gt ms i).2.1/\(gt ms i).2.1<=1000:=by
 unfold fJ at h
 have:=bI.1 h i hi
 unfold gE eM at this
 simp only[Bool.and_eq_true,aP] at this
 omega
theorem LN{ms:List aU}(h:fJ ms=true):ms.length<=5:=by
 rw[<- zT] at h
 exact((aV _).1 h).len.2
-- tables
def DD(r:bQ)(f:aU):bQ:=(r.1.set f.1.toNat (mxI true (gt r.1 f.1.toNat).1 f.2.1,()),())
def kQ(r:bQ)(ms:List aU):Nat->bQ
 | 0=>r
 | i+1=>DD (kQ r ms i) (gt ms i)
def pB(t:List bQ)(k:Int)(ms:List aU):Bool:=inB k 0 (i64.wrap ((t.length:Int) - 1))&&(fJ ms&& !decide ((((gt t k.toNat).1.length:Nat):Int)<5))
def cP(t:List bQ)(k:Nat)(ms:List aU)(i:Nat):List bQ:=t.set k (kQ (gt t k) ms i)
def bO(t:List bQ)(k:Int)(ms:List aU):List bQ:=bif pB t k ms then cP t k.toNat ms ms.length else t
theorem nW(r:bQ)(ms:List aU):∀ i,(kQ r ms i).1.length=r.1.length
 | 0=>rfl
 | i+1=>by show(List.set _ _ _).length=_;rw[List.length_set];exact nW r ms i
theorem cC{α:Type}[Inhabited α]{xs:List α}{i:Nat}(h:i<xs.length)(x:α):gt (xs.set i x) i=x:=by
 rw[cK (by rw[List.length_set];exact h)];simp
theorem eC{α:Type}[Inhabited α]{xs:List α}{i j:Nat}(h:i≠j)(x:α):gt (xs.set i x) j=gt xs j:=by
 unfold gt;simp[h]
theorem sE{α:Type}[Inhabited α]{xs:List α}{i:Nat}:xs.set i (gt xs i)=xs:=by
 rcases Nat.lt_or_ge i xs.length with h | h
 ·rw[cK h];exact List.set_getElem_self h
 ·exact List.set_eq_of_length_le h
theorem C3(t:List bQ)(k:Nat)(ms:List aU):cP t k ms 0=t:=sE
theorem dD(t:List bQ)(k:Int)(ms:List aU):(bO t k ms).length=t.length:=by
 unfold bO
 cases pB t k ms with
 | false=>rfl
 | true=>show(cP _ _ _ _).length=_;unfold cP;rw[List.length_set]
theorem yG{k:Int}{n:Nat}(hn:n<=aW)(h:inB k 0 (i64.wrap ((n:Int) - 1))=true):k.toNat<n/\((k.toNat:Nat):Int)=k:=by
 rw[aP,IntKind.wrap_i64] at h;unfold aW at hn;omega
theorem fA(t:List bQ)(k:Int)(ms:List aU)(j:Nat):((gt (bO t k ms) j).1.length)=(gt t j).1.length:=by
 unfold bO
 cases hb:pB t k ms with
 | false=>rfl
 | true=>
  show(gt (cP t k.toNat ms ms.length) j).1.length=_
  unfold cP
  rcases Nat.lt_or_ge k.toNat t.length with h | h
  ·by_cases e:k.toNat=j
   ·subst e;rw[cC h,nW]
   ·rw[eC e]
  ·rw[List.set_eq_of_length_le h]
theorem GL{r:bQ}{ms:List aU}(hm:fJ ms=true)(hr:∀ j,j<r.1.length->inB (gt r.1 j).1 0 1000=true):∀ i,i<=ms.length->∀ j,j<r.1.length->inB (gt (kQ r ms i).1 j).1 0 1000=true
 | 0,_,j,hj=>hr j hj
 | i+1,hi,j,hj=>by
  have ih:=GL hm hr i (by omega)
  have hid:=uD hm (i:=i) (by omega)
  have hl:=nW r ms i
  show inB (gt (List.set (kQ r ms i).1 (gt ms i).1.toNat (mxI true (gt (kQ r ms i).1 (gt ms i).1.toNat).1 (gt ms i).2.1,())) j).1 0 1000=true
  by_cases e:(gt ms i).1.toNat=j
  ·subst e
   rw[cC (by omega)]
   have:=ih _ hj
   rw[aP] at this ⊢
   show 0<=mxI true _ _/\mxI true _ _<=1000
   rw[rR];omega
  ·rw[eC e];exact ih j hj
theorem pN{t:List bQ}{n k:Int}{ms:List aU}(ht:gN t n=true):gN (bO t k ms) n=true:=by
 unfold gN at ht ⊢
 simp only[Bool.and_eq_true] at ht ⊢
 obtain⟨h1,h2,h3⟩:=ht
 refine⟨h1,by rw[dD];exact h2,?_⟩
 rw[dD]
 rw[bI] at h3 ⊢
 intro j hj
 have h4:=h3 j hj
 unfold sP at h4 ⊢
 simp only[Bool.and_eq_true] at h4 ⊢
 rw[fA]
 refine⟨h4.1,?_⟩
 have h5:=bI.1 h4.2
 rw[bI]
 intro i hi
 unfold bO
 cases hb:pB t k ms with
 | false=>exact h5 i hi
 | true=>
  show inB (gt (gt (cP t k.toNat ms ms.length) j).1 i).1 0 1000=true
  unfold cP
  by_cases e:k.toNat=j
  ·subst e
   rw[cC hj]
   have hm:fJ ms=true:=by unfold pB at hb;simp only[Bool.and_eq_true] at hb;exact hb.2.1
   exact GL hm h5 _ (Nat.le_refl _) i hi
  ·rw[eC e];exact h5 i hi
def qI(t:List bQ)(id:Int)(k:Nat):Bool:=inB id 0 (i64.wrap ((((gt t k).1.length:Nat):Int) - 1))
def kC(t:List bQ)(id:Int):Nat->Int
 | 0=>0
 | k+1=>bif(k:Int)==0 then(gt (gt t k).1 id.toNat).1 else bif decide ((gt (gt t k).1 id.toNat).1<kC t id k)then(gt (gt t k).1 id.toNat).1 else kC t id k
def f7(t:List bQ)(id:Int):Int:=bif bL t.length (qI t id)then kC t id t.length else 0
-- pruning
def iL(s:aJ)(t:List bQ)(i:Nat):List aU:=bif decide (mxI false (f7 t i) (gone s i)>0)then[((i:Int),mxI false (f7 t i) (gone s i),())] else[]
def fC(s:aJ)(t:List bQ):aJ:=([],bR 5 (iL s t),())
def prune(s:aJ)(t:List bQ):aJ:=bif aS s then dG s (fC s t)else s
theorem sH(s:aJ)(t:List bQ)(i:Nat):(iL s t i).length<=1:=by unfold iL;cases decide (mxI false (f7 t i) (gone s i)>0)<;>simp
theorem qB(s:aJ)(t:List bQ):aS (fC s t)=true:=
 (aV _).2 (CI (iL s t) rfl (sH s t) λi x hx=>by
  unfold iL at hx
  cases hd:decide (mxI false (f7 t i) (gone s i)>0)with
  | false=>rw[hd] at hx;cases hx
  | true=>
   rw[hd] at hx
   have e:=List.mem_singleton.1 hx
   have h0:=of_decide_eq_true hd
   have hg:=JW s i
   rw[e];refine⟨rfl,h0,?_⟩
   show mxI false (f7 t i) (gone s i)<=1000
   rw[FH];omega)
theorem F6(s:aJ)(t:List bQ):SzS (fC s t):=⟨Nat.zero_le _,Nat.le_trans (dT (n:=5) (L:=1) λi _=>sH s t i) (by decide)⟩
theorem zI{s:aJ}(h:aS s=true)(t:List bQ):aS (prune s t)=true:=by
 unfold prune;rw[h];exact nK h (qB s t)
theorem NV{s:aJ}(h:SzS s)(t:List bQ):SzS (prune s t):=by
 unfold prune;cases aS s with
 | false=>exact h
 | true=>exact nJ _ _
-- vectors
def cZ(v:List aO)(k n:Int):List aO:=bif inB k 0 (i64.wrap ((v.length:Int) - 1))then v.set k.toNat (mxI true (gt v k.toNat).1 n,())else v
theorem fW(v:List aO)(k n:Int):(cZ v k n).length=v.length:=by
 unfold cZ;cases inB k 0 (i64.wrap ((v.length:Int) - 1))with
 | false=>rfl
 | true=>exact List.length_set ..
theorem pL(v:List aO)(k n:Int)(j:Nat):(gt (cZ v k n) j).1=(gt v j).1\/(gt (cZ v k n) j).1=max (gt v j).1 n:=by
 unfold cZ;cases inB k 0 (i64.wrap ((v.length:Int) - 1))with
 | false=>exact .inl rfl
 | true=>
  show(gt (v.set _ _) j).1=_\/(gt (v.set _ _) j).1=_
  rcases Nat.lt_or_ge k.toNat v.length with h | h
  ·by_cases e:k.toNat=j
   ·subst e;rw[cC h];exact .inr (rR _ _)
   ·rw[eC e];exact .inl rfl
  ·rw[List.set_eq_of_length_le h];exact .inl rfl
theorem EE(v:List aO){k n:Int}{j:Nat}(h:k.toNat≠j):gt (cZ v k n) j=gt v j:=by
 unfold cZ;cases inB k 0 (i64.wrap ((v.length:Int) - 1))with
 | false=>rfl
 | true=>exact eC h _
theorem wK{v:List aO}{m k n:Int}(h:eG v m=true)(hn:n<=100000):eG (cZ v k n) m=true:=by
 unfold eG at h ⊢
 simp only[Bool.and_eq_true] at h ⊢
 rw[fW]
 refine⟨h.1,h.2.1,?_⟩
 have h3:=bI.1 h.2.2
 rw[bI]
 intro i hi
 have:=h3 i hi
 rw[aP] at this ⊢
 rcases pL v k n i with e | e<;>rw[e]<;>omega
end Go.Abs
-- taking and receiving: plain laws
namespace Go.Abs
-- rises
def pV(r:jQ)(e:bF):Bool:=decide (e.1>r.1)||(e.1==r.1&&decide (e.2.2.1>r.2.1))
def mT(clock:Int)(r:jQ)(e:bF):jQ:=bif pV r e then(e.1,e.2.2.1,clock,())else r
def dI(clock:Int)(rs:List jQ)(xs:List bK):Nat->List jQ
 | 0=>rs
 | i+1=>(dI clock rs xs i).set (gt xs i).1.toNat (mT clock (gt (dI clock rs xs i) (gt xs i).1.toNat) (gt xs i).2)
theorem gX(clock:Int)(rs:List jQ)(xs:List bK):∀ i,(dI clock rs xs i).length=rs.length
 | 0=>rfl
 | i+1=>by show(List.set _ _ _).length=_;rw[List.length_set];exact gX clock rs xs i
def zC(clock:Int)(r:jQ):Bool:=inB r.1 0 1000&&(inB r.2.1 0 100000&&inB r.2.2.1 0 clock)
theorem BU{clock:Int}(hc:0<=clock){rs:List jQ}{s:aJ}(hs:StateOk s)(h:∀ j,j<rs.length->zC clock (gt rs j)=true):
  ∀ i,i<=s.1.length->∀ j,j<rs.length->zC clock (gt (dI clock rs s.1 i) j)=true
 | 0,_,j,hj=>h j hj
 | i+1,hi,j,hj=>by
  have ih:=BU hc hs h i (by omega)
  have he:=(hs.item _ (cJ (xs:=s.1) (i:=i) (by omega))).2.1
  show zC clock (gt ((dI clock rs s.1 i).set (gt s.1 i).1.toNat (mT clock (gt (dI clock rs s.1 i) (gt s.1 i).1.toNat) (gt s.1 i).2)) j)=true
  by_cases e:(gt s.1 i).1.toNat=j
  ·rw[e,cC (by rw[gX];exact hj)]
   unfold mT
   cases pV (gt (dI clock rs s.1 i) j) (gt s.1 i).2 with
   | false=>exact ih j hj
   | true=>
    unfold eD at he
    simp only[Bool.and_eq_true,aP] at he
    show zC clock ((gt s.1 i).2.1,(gt s.1 i).2.2.2.1,clock,())=true
    unfold zC
    simp only[Bool.and_eq_true,aP]
    omega
  ·rw[eC e];exact ih j hj
-- a node with another state, other rows and rises
def tkS(x:NodeT)(s:aJ):List bQ:=bO x.seen x.1 (cX (dG x.state s))
def tkP(x:NodeT)(s:aJ):aJ:=prune (dG x.state s) (tkS x s)
def tkR(x:NodeT)(s:aJ):List jQ:=dI x.clock x.rises (tkP x s).1 (tkP x s).1.length
def jG(x:NodeT)(s:aJ):NodeT:=
 (x.1,x.2.1,(tkP x s).1,(tkP x s).2.1,(cI (tkP x s)).1,(cI (tkP x s)).2.1,x.2.2.2.2.2.2.1,x.2.2.2.2.2.2.2.1,x.2.2.2.2.2.2.2.2.1,x.got,x.acked,tkS x s,x.num,x.slots,x.sess,x.wait,x.limit,x.clock,tkR x s,())
theorem jY(a:List aO):gB a a=true:=by
 unfold gB;simp[bL]
structure NodeOk (x:NodeT):Prop where
 n:inB x.2.1 1 5=true
 id:inB x.1 0 (i64.wrap (x.2.1 - 1))=true
 state:aS x.state=true
 tree:tH x=true
 log:gR x.log=true
 got:eG x.got x.2.1=true
 acked:eG x.acked x.2.1=true
 own:((gt x.got x.1.toNat).1==cE x.log)=true
 seen:gN x.seen x.2.1=true
 ack:A7 x=true
 num:inB x.num 0 100000=true
 clock:inB x.clock 0 100000=true
 slots:inB x.slots 1 4=true
 wait:inB x.wait 1 20=true
 limit:inB x.limit 1 50=true
 rises:(x.rises.length:Int)==5
 rise:bL x.rises.length (kH x)=true
 sess:lU x=true
theorem eU(x:NodeT):dJ x=true↔NodeOk x:=by
 unfold dJ kK
 simp only[Bool.and_eq_true]
 constructor
 ·rintro ⟨h1,h2,h3,h4,h5,h6,h7,h8,h9,h10,h11,h12,h13,h14,h15,h16,h17,h18⟩
  exact⟨h1,h2,h3,h4,h5,h6,h7,h8,h9,h10,h11,h12,h13,h14,h15,h16,h17,h18⟩
 ·rintro ⟨h1,h2,h3,h4,h5,h6,h7,h8,h9,h10,h11,h12,h13,h14,h15,h16,h17,h18⟩
  exact⟨h1,h2,h3,h4,h5,h6,h7,h8,h9,h10,h11,h12,h13,h14,h15,h16,h17,h18⟩
theorem MT{x:NodeT}{s:aJ}(h:NodeOk x)(hs:aS s=true):aS (tkP x s)=true:=zI (nK h.state hs) _
theorem NodeOk.take{x:NodeT}{s:aJ}(h:NodeOk x)(hs:aS s=true):NodeOk (jG x s) where
 n:=h.n
 id:=h.id
 state:=MT h hs
 tree:=by
  show(gB (cI (tkP x s)).1 (cI (tkP x s)).1&&(cI (tkP x s)).2.1==(cI (tkP x s)).2.1)=true
  rw[jY];simp
 log:=h.log
 got:=h.got
 acked:=h.acked
 own:=h.own
 seen:=pN h.seen
 ack:=h.ack
 num:=h.num
 clock:=h.clock
 slots:=h.slots
 wait:=h.wait
 limit:=h.limit
 rises:=by
  show(((dI x.clock x.rises (tkP x s).1 (tkP x s).1.length).length:Nat):Int)==5
  rw[gX];exact h.rises
 rise:=by
  show bL (dI x.clock x.rises (tkP x s).1 (tkP x s).1.length).length _=true
  rw[gX,bI]
  intro i hi
  have hc:=h.clock;rw[aP] at hc
  exact BU hc.1 ((aV _).1 (MT h hs)) (λj hj=>bI.1 h.rise j hj) _ (Nat.le_refl _) i hi
 sess:=h.sess
theorem MS(x:NodeT)(s:aJ):SzS (tkP x s):=NV (nJ _ _) _
theorem KE(s:aJ):(cI s).1.length<=aW:=by
 unfold cI;cases aS s with
 | false=>exact Nat.zero_le _
 | true=>show 4<=aW;decide
theorem lT{x:NodeT}(h:SzN x)(s:aJ):SzN (jG x s) where
 state:=MS x s
 leaves:=KE _
 list:=h.list
 logs:=h.logs
 got:=h.got
 acked:=h.acked
 seen:=by show(tkS x s).length<=aW;unfold tkS;rw[dD];exact h.seen
 lines:=by
  intro i hi
  show(gt (tkS x s) i).1.length<=aW
  unfold tkS;rw[fA]
  exact h.lines i (by have:i<(tkS x s).length:=hi;unfold tkS at this;rw[dD] at this;exact this)
 sess:=h.sess
 rises:=by show(dI x.clock x.rises (tkP x s).1 (tkP x s).1.length).length<=aW;rw[gX];exact h.rises
-- hearing
def heard0(x:NodeT)(m:MsgT):NodeT:=
 (x.1,x.2.1,x.2.2.1,x.2.2.2.1,x.2.2.2.2.1,x.2.2.2.2.2.1,x.2.2.2.2.2.2.1,x.2.2.2.2.2.2.2.1,x.2.2.2.2.2.2.2.2.1,x.got,cZ x.acked m.2.1 (mxI false (gt m.vec x.1.toNat).1 (cE x.log)),bO x.seen m.2.1 m.marks,x.num,x.slots,x.sess,x.wait,x.limit,x.clock,x.rises,())
def eF(x:NodeT)(m:MsgT):NodeT:=jG (heard0 x m) iM
def gotUp(x:NodeT)(m:MsgT):NodeT:=
 (x.1,x.2.1,x.2.2.1,x.2.2.2.1,x.2.2.2.2.1,x.2.2.2.2.2.1,x.2.2.2.2.2.2.1,x.2.2.2.2.2.2.2.1,x.2.2.2.2.2.2.2.2.1,cZ x.got m.2.1 m.hi,x.acked,x.seen,x.num,x.slots,x.sess,x.wait,x.limit,x.clock,x.rises,())
def eB(x:NodeT)(m:MsgT):NodeT:=gotUp (jG (eF x m) m.part) m
theorem CC{l:f8}(h:gR l=true):0<=cE l/\cE l<=100000:=by
 unfold cE;rw[h]
 unfold gR at h
 simp only[Bool.and_eq_true,aP,Bool.not_eq_true',decide_eq_false_iff_not] at h
 show 0<=i64.wrap _/\i64.wrap _<=100000
 rw[IntKind.wrap_i64] at h ⊢
 omega
theorem NodeOk.heard0{x:NodeT}(h:NodeOk x)(m:MsgT):NodeOk (heard0 x m) where
 n:=h.n
 id:=h.id
 state:=h.state
 tree:=h.tree
 log:=h.log
 got:=h.got
 acked:=wK h.acked (by rw[FH];have:=CC h.log;omega)
 own:=h.own
 seen:=pN h.seen
 ack:=by
  have:=h.ack
  unfold A7 at this ⊢
  rw[show(Go.Abs.heard0 x m).acked=cZ x.acked m.2.1 (mxI false (gt m.vec x.1.toNat).1 (cE x.log))from rfl,fW]
  rw[bI] at this ⊢
  intro i hi
  have h1:=this i hi
  rw[show(Go.Abs.heard0 x m).log=x.log from rfl]
  simp only[Bool.not_eq_true',decide_eq_false_iff_not] at h1 ⊢
  rcases pL x.acked m.2.1 (mxI false (gt m.vec x.1.toNat).1 (cE x.log)) i with e | e
  ·rw[e];exact h1
  ·rw[e,FH];omega
 num:=h.num
 clock:=h.clock
 slots:=h.slots
 wait:=h.wait
 limit:=h.limit
 rises:=h.rises
 rise:=h.rise
 sess:=h.sess
theorem NodeOk.heard{x:NodeT}(h:NodeOk x)(m:MsgT):NodeOk (eF x m):=(h.heard0 m).take yD
theorem CF{x:NodeT}(h:SzN x)(m:MsgT):SzN (heard0 x m) where
 state:=h.state
 leaves:=h.leaves
 list:=h.list
 logs:=h.logs
 got:=h.got
 acked:=by show(cZ _ _ _).length<=aW;rw[fW];exact h.acked
 seen:=by show(bO _ _ _).length<=aW;rw[dD];exact h.seen
 lines:=by
  intro i hi
  show(gt (bO x.seen m.2.1 m.marks) i).1.length<=aW
  rw[fA]
  exact h.lines i (by have:i<(bO x.seen m.2.1 m.marks).length:=hi;rw[dD] at this;exact this)
 sess:=h.sess
 rises:=h.rises
theorem lP{x:NodeT}(h:SzN x)(m:MsgT):SzN (eF x m):=lT (CF h m) _
theorem NodeOk.gotUp{x:NodeT}(h:NodeOk x){m:MsgT}(hi:m.hi<=100000)(hm:m.2.1.toNat≠x.1.toNat):NodeOk (gotUp x m) where
 n:=h.n
 id:=h.id
 state:=h.state
 tree:=h.tree
 log:=h.log
 got:=wK h.got hi
 acked:=h.acked
 own:=by
  show((gt (cZ x.got m.2.1 m.hi) x.1.toNat).1==cE x.log)=true
  rw[EE _ hm];exact h.own
 seen:=h.seen
 ack:=h.ack
 num:=h.num
 clock:=h.clock
 slots:=h.slots
 wait:=h.wait
 limit:=h.limit
 rises:=h.rises
 rise:=h.rise
 sess:=h.sess
theorem O8{x:NodeT}(h:SzN x)(m:MsgT):SzN (gotUp x m) where
 state:=h.state
 leaves:=h.leaves
 list:=h.list
 logs:=h.logs
 got:=by show(cZ _ _ _).length<=aW;rw[fW];exact h.got
 acked:=h.acked
 seen:=h.seen
 lines:=h.lines
 sess:=h.sess
 rises:=h.rises
theorem mM{x:NodeT}(h:SzN x)(m:MsgT):SzN (eB x m):=O8 (lT (lP h m) _) _
-- messages
def nC(v:List aO)(top:Int):Bool:=bL v.length λi=>inB (gt v i).1 0 top
def treeB(t:kX):Bool:=bif(t.1.length:Int)==0 then t.2.1==0 else((t.1.length:Int)==4&&(nC t.1 1023&&inB t.2.1 0 1023))
def FS(v:List aO)(i:Nat):Bool:=inB (gt v i).1 0 3&&wV (λj=> !decide ((gt v (j+1)).1<=(gt v j).1)) i
def uA(m:MsgT):Bool:=inB m.1 0 5&&(eM m.2.1&&(eM m.2.2.1&& !(m.2.1==m.2.2.1)))
def eX(m:MsgT):Bool:=uA m&&((bL m.leaves.length (FS m.leaves))&&(nC m.vec 100000&&(inB m.2.2.2.1 0 100000&&(inB m.hi 0 100000&&(treeB m.tree&&(decide ((m.vec.length:Int)<=5)&&(aS m.part&&fJ m.marks)))))))
def pE(v:List aO)(most top:Int):Bool:= !decide ((v.length:Int)>most)&&nC v top
def FQ(v:List aO)(i:Nat):Bool:= !decide ((gt v (i+1)).1<=(gt v i).1)
def zS(m:MsgT):Bool:=inB m.1 0 5&&(eM m.2.1&&(eM m.2.2.1&&(!(m.2.1==m.2.2.1)&&(inB m.2.2.2.1 0 100000&&(inB m.hi 0 100000&&(treeB m.tree&&(pE m.vec 5 100000&&(pE m.leaves 4 3&&(aS m.part&&(fJ m.marks&&bL (m.leaves.length - 1) (FQ m.leaves)))))))))))
theorem OS(v:List aO):(pE v 4 3&&bL (v.length - 1) (FQ v))=bL v.length (FS v):=by
 rw[Bool.eq_iff_iff]
 unfold pE nC FS FQ
 simp only[Bool.and_eq_true,bI,Bool.not_eq_true',decide_eq_false_iff_not]
 constructor
 ·rintro ⟨⟨_,h2⟩,h3⟩ i hi
  refine⟨h2 i hi,?_⟩
  cases i with
  | zero=>rfl
  | succ j=>show(!decide ((gt v (j+1)).1<=(gt v j).1))=true;rw[decide_eq_false (h3 j (by omega))];rfl
 ·intro h
  have hp:∀ j,j+1<v.length->(gt v j).1<(gt v (j+1)).1:=λj hj=>by
   have:=(h (j+1) hj).2
   unfold wV at this
   simpa using this
  have hge:∀ i,i<v.length->(i:Int)<=(gt v i).1:=by
   intro i
   induction i with
   | zero=>intro hi;have:=(h 0 hi).1;rw[aP] at this;exact this.1
   | succ j ih=>intro hi;have:=ih (by omega);have:=hp j hi;omega
  refine⟨⟨?_,λi hi=>(h i hi).1⟩,λi hi=>by have:=hp i (by omega);omega⟩
  rcases Nat.lt_or_ge 4 v.length with h5 | h5
  ·have h6:=hge 4 h5
   have:=(h 4 h5).1;rw[aP] at this;omega
  ·omega
theorem JK(m:MsgT):zS m=eX m:=by
 unfold zS eX uA
 rw[<- OS]
 unfold pE
 simp only[vH]
 ac_rfl
theorem z4{m:MsgT}(h:eX m=true):m.leaves.length<=4:=by
 rw[<- JK] at h
 unfold zS pE at h
 simp only[Bool.and_eq_true,Bool.not_eq_true',decide_eq_false_iff_not] at h
 omega
end Go.Abs
-- messages and receiving: plain laws
namespace Go.Abs
theorem dK{β:Type}{o:Option Out}{A B C:List Kd}{r:Row A}{s:Row B}{t:Row C}{f:Rows [A,B,C]×Rows []->Option β}(h:o=some ⟨[⟨A,r⟩,⟨B,s⟩,⟨C,t⟩],[]⟩):(o.bind (dR [A,B,C] [])).bind f=f ((r,s,t,()),()):=by
 rw[h];simp[dR,fD,jO];rfl
def jI(l:List aJ)(k:Nat):Nat->aJ
 | 0=>iM
 | i+1=>dG (jI l k i) (gt l (k+i))
theorem y8(l:List aJ)(k:Nat):∀ i,SzS (jI l k i)
 | 0=>kA
 | i+1=>nJ _ _
theorem sD{l:f8}(h:gR l=true)(k:Nat):∀ i,k+i<=l.2.2.1.length->aS (jI l.2.2.1 k i)=true
 | 0,_=>yD
 | i+1,hi=>nK (sD h k i (by omega)) (by
   unfold gR at h
   simp only[Bool.and_eq_true] at h
   exact bI.1 h.2.2.2.2 (k+i) (by omega))
def jX(l:f8)(seq:Int):Bool:=gR l&&inB seq l.2.1 (i64.wrap (l.2.1+(l.2.2.1.length:Int)))
def dW(l:f8)(seq:Int):Nat:=(seq - l.2.1).toNat
def lY(l:f8)(seq:Int):aJ:=bif jX l seq then jI l.2.2.1 (dW l seq) (l.2.2.1.length - dW l seq)else iM
theorem y7{l:f8}{seq:Int}(h:jX l seq=true):l.2.1+((dW l seq:Nat):Int)=seq/\dW l seq<=l.2.2.1.length/\0<=l.2.1/\l.2.1<=100000/\l.2.2.1.length<=8:=by
 unfold jX gR at h
 simp only[Bool.and_eq_true,aP,Bool.not_eq_true',decide_eq_false_iff_not] at h
 unfold dW
 rw[IntKind.wrap_i64] at h
 omega
def rK(x:NodeT)(seq:Int):aJ:=bif jX x.log seq then lY x.log seq else x.state
theorem ET{x:NodeT}(h:SzN x)(seq:Int):SzS (rK x seq):=by
 unfold rK lY
 cases jX x.log seq with
 | false=>exact h.state
 | true=>exact y8 _ _ _
theorem M9{x:NodeT}(h:NodeOk x)(seq:Int):aS (rK x seq)=true:=by
 unfold rK lY
 cases hs:jX x.log seq with
 | false=>exact h.state
 | true=>have:=y7 hs;exact sD h.log _ _ (by omega)
theorem M5{s:aJ}(h:SzS s)(ls:List aO):SzS (jH s ls):=
 ⟨Nat.le_trans (List.length_filter_le ..) h.1,Nat.le_trans (List.length_filter_le ..) h.2⟩
theorem M6{s:aJ}(h:aS s=true)(ls:List aO):aS (jH s ls)=true:=(aV _).2 (((aV _).1 h).slice ls)
def FB(x:NodeT)(ls:List aO)(seq:Int):aJ:=dG (jH x.state ls) (rK x seq)
def kD(a b:kX)(i:Nat):List aO:=bif(a.1.length:Int) != 4 then[((i:Int),())] else bif(b.1.length:Int) != 4 then[((i:Int),())] else bif(gt a.1 i).1 != (gt b.1 i).1 then[((i:Int),())] else[]
def lZ(a b:kX):List aO:=bif a.2.1==b.2.1 then[] else bR 4 (kD a b)
theorem xJ(a b:kX)(i:Nat):(kD a b i).length<=1:=by
 unfold kD
 cases (a.1.length:Int) != 4<;>cases (b.1.length:Int) != 4<;>cases (gt a.1 i).1 != (gt b.1 i).1<;>simp
theorem sW(a b:kX):(lZ a b).length<=4:=by
 unfold lZ
 cases a.2.1==b.2.1 with
 | true=>exact Nat.zero_le _
 | false=>exact dT (n:=4) (L:=1) λi _=>xJ a b i
def RQ(x:NodeT)(kind to num:Int):MsgT:=(kind,x.1,to,num,cE x.log,[],0,x.got,[],[],[],cX x.state,())
-- exchanges
def withS(x:NodeT)(ss:List dM):NodeT:=
 (x.1,x.2.1,x.2.2.1,x.2.2.2.1,x.2.2.2.2.1,x.2.2.2.2.2.1,x.2.2.2.2.2.2.1,x.2.2.2.2.2.2.2.1,x.2.2.2.2.2.2.2.2.1,x.got,x.acked,x.seen,x.num,x.slots,ss,x.wait,x.limit,x.clock,x.rises,())
def pK(s:dM):Int×Bool:=(s.1,s.2.2.1)
def SV(x:NodeT)(s:dM):Prop:=inB s.1 0 (i64.wrap (x.2.1 - 1))=true/\s.1≠x.1/\inB s.2.1 0 100000=true/\inB s.2.2.2.1 0 x.wait=true
theorem lE{v:List dM}{k:Nat}{p:Int}{b:Bool}:dQ v k p b=true↔pK (gt v k)=(p,b):=by
 unfold dQ pK
 rw[Bool.and_eq_true,beq_iff_eq,P5,Prod.mk.injEq]
theorem N1(v:List dM):(∀ i,i<v.length->B3 v i=true)↔(v.map pK).Nodup:=by
 unfold List.Nodup
 rw[List.pairwise_iff_getElem]
 unfold B3
 simp only[bI,Bool.not_eq_true',List.length_map,List.getElem_map]
 constructor
 ·intro h i j hi hj hij e
  have:=h j hj i hij
  rw[<- Bool.not_eq_true,lE] at this
  apply this
  rw[cK hi,cK hj];exact e
 ·intro h j hj i hij
  rw[<- Bool.not_eq_true,lE]
  intro e
  refine h i j (by omega) hj hij ?_
  rw[cK (by omega),cK hj] at e;exact e
theorem cV(x:NodeT):lU x=true↔(x.sess.length:Int)<=x.slots/\(∀ s∈x.sess,SV x s)/\(x.sess.map pK).Nodup:=by
 rw[<- N1]
 unfold lU m7
 simp only[Bool.and_eq_true,bI,Bool.not_eq_true',decide_eq_false_iff_not]
 constructor
 ·rintro ⟨h1,h2⟩
  refine⟨by omega,λs hs=>?_,λi hi=>(h2 i hi).2.2.2.2⟩
  obtain⟨i,hi,rfl⟩:=fZ hs
  obtain⟨a,b,c,d,_⟩:=h2 i hi
  refine⟨a,?_,c,d⟩
  intro e;rw[e] at b;simp at b
 ·rintro ⟨h1,h2,h3⟩
  refine⟨by omega,λi hi=>?_⟩
  obtain⟨a,b,c,d⟩:=h2 _ (cJ hi)
  exact⟨a,by simpa using b,c,d,h3 i hi⟩
theorem NodeOk.withS{x:NodeT}(h:NodeOk x){ss:List dM}(h1:(ss.length:Int)<=x.slots)(h2:∀ s∈ss,SV x s)(h3:(ss.map pK).Nodup):NodeOk (withS x ss) where
 n:=h.n
 id:=h.id
 state:=h.state
 tree:=h.tree
 log:=h.log
 got:=h.got
 acked:=h.acked
 own:=h.own
 seen:=h.seen
 ack:=h.ack
 num:=h.num
 clock:=h.clock
 slots:=h.slots
 wait:=h.wait
 limit:=h.limit
 rises:=h.rises
 rise:=h.rise
 sess:=(cV _).2 ⟨h1,h2,h3⟩
theorem tF{x:NodeT}(h:SzN x){ss:List dM}(h1:ss.length<=aW):SzN (withS x ss):=
 ⟨h.state,h.leaves,h.list,h.logs,h.got,h.acked,h.seen,h.lines,h1,h.rises⟩
theorem hX(v:List dM)(p:Int)(b:Bool):(∃ k:Nat,k<v.length/\c6 v p b=(k:Int)/\pK (gt v k)=(p,b))\/(c6 v p b= -1/\∀ s∈v,pK s≠(p,b)):=by
 unfold c6
 cases hf:(List.range v.length).find? (λk=>dQ v k p b)with
 | none=>
  refine .inr ⟨rfl,λs hs e=>?_⟩
  obtain⟨i,hi,rfl⟩:=fZ hs
  have:=List.find?_eq_none.1 hf i (List.mem_range.2 hi)
  exact this (lE.2 e)
 | some k=>
  refine .inl ⟨k,List.mem_range.1 (List.mem_of_find?_eq_some hf),rfl,?_⟩
  exact lE.1 (show dQ v k p b=true from List.find?_some (p:=λk=>dQ v k p b) hf)
def rU(x:NodeT)(m:MsgT)(b:Bool):Int:=bif decide (c6 x.sess m.2.1 b>=0)then(bif(gt x.sess (c6 x.sess m.2.1 b).toNat).2.1 != m.2.2.2.1 then -1 else c6 x.sess m.2.1 b)else c6 x.sess m.2.1 b
def kN(x:NodeT)(k:Nat):NodeT:=withS x (x.sess.take k++x.sess.drop (k+1))
theorem PB{x:NodeT}(h:NodeOk x)(k:Nat):NodeOk (kN x k):=by
 have hs:=(cV x).1 h.sess
 have sub:List.Sublist (x.sess.take k++x.sess.drop (k+1)) x.sess:=by rw[<- List.eraseIdx_eq_take_drop_succ];exact List.eraseIdx_sublist ..
 refine h.withS ?_ (λs hm=>hs.2.1 s (sub.subset hm)) ((sub.map pK).nodup hs.2.2)
 have:=sub.length_le;omega
theorem F0{x:NodeT}(h:SzN x)(k:Nat):SzN (kN x k):=tF h (by
 have:=h.sess;rw[List.length_append,List.length_take,List.length_drop];omega)
def oJ(x:NodeT)(k:Nat)(num:Int):List dM:=x.sess.set k ((gt x.sess k).1,num,(gt x.sess k).2.2.1,(0:Int),())
def lH(x:NodeT)(m:MsgT):List dM:=x.sess++[(m.2.1,m.2.2.2.1,true,(0:Int),())]
theorem K0{x:NodeT}(h:NodeOk x){k:Nat}(hk:k<x.sess.length){num:Int}(hn:inB num 0 100000=true):NodeOk (withS x (oJ x k num)):=by
 have hs:=(cV x).1 h.sess
 refine h.withS (by unfold oJ;rw[List.length_set];exact hs.1) (λs hm=>?_) ?_
 ·rcases List.mem_or_eq_of_mem_set hm with h1 | h1
  ·exact hs.2.1 s h1
  ·have h2:=hs.2.1 _ (cJ hk)
   rw[h1]
   refine⟨h2.1,h2.2.1,hn,?_⟩
   have:=h.wait;rw[aP] at this ⊢;show 0<=(0:Int)/\(0:Int)<=x.wait;omega
 ·unfold oJ
  rw[List.map_set,show pK ((gt x.sess k).1,num,(gt x.sess k).2.2.1,(0:Int),())=pK (gt x.sess k)from rfl]
  have:(x.sess.map pK).set k (pK (gt x.sess k))=x.sess.map pK:=by
   rw[<- List.map_set,sE]
  rw[this];exact hs.2.2
theorem I3{x:NodeT}(h:NodeOk x){m:MsgT}(hp:inB m.2.1 0 (i64.wrap (x.2.1 - 1))=true)(hi:m.2.1≠x.1)(hn:inB m.2.2.2.1 0 100000=true)(hf:c6 x.sess m.2.1 true<0)(hl:(x.sess.length:Int)≠x.slots):NodeOk (withS x (lH x m)):=by
 have hs:=(cV x).1 h.sess
 refine h.withS (by unfold lH;rw[List.length_append,List.length_singleton];omega) (λs hm=>?_) ?_
 ·rcases List.mem_append.1 hm with h1 | h1
  ·exact hs.2.1 s h1
  ·rw[List.mem_singleton.1 h1]
   refine⟨hp,hi,hn,?_⟩
   have:=h.wait;rw[aP] at this ⊢;show 0<=(0:Int)/\(0:Int)<=x.wait;omega
 ·unfold lH
  rw[List.map_append,List.nodup_append]
  refine⟨hs.2.2,by simp,λa ha b hb=>?_⟩
  obtain⟨s,hs1,rfl⟩:=List.mem_map.1 ha
  have hb:b=(m.2.1,true):=by simpa [pK] using hb
  rw[hb]
  rcases hX x.sess m.2.1 true with ⟨k,_,e,_⟩ | ⟨_,e⟩
  ·rw[e] at hf;omega
  ·exact e s hs1
-- receiving
def G8(o:NodeT)(x:NodeT)(m:MsgT):MsgT:=
 (3,o.1,m.2.1,m.2.2.2.1,cE o.log,o.tree.1,o.tree.2.1,o.got,lZ o.tree m.tree,(FB o (lZ o.tree m.tree) (gt m.vec x.1.toNat).1).1,(FB o (lZ o.tree m.tree) (gt m.vec x.1.toNat).1).2.1,cX o.state,())
def ST(o:NodeT)(x:NodeT)(m:MsgT):MsgT:=
 (4,o.1,m.2.1,m.2.2.2.1,cE o.log,[],0,o.got,m.leaves,(FB o m.leaves (gt m.vec x.1.toNat).1).1,(FB o m.leaves (gt m.vec x.1.toNat).1).2.1,cX o.state,())
abbrev I5:=NodeT×List MsgT×Int
def hU(x:NodeT)(m:MsgT):List dM:=bif decide (c6 x.sess m.2.1 true>=0)then oJ x (c6 x.sess m.2.1 true).toNat m.2.2.2.1 else lH x m
def KJ(x:NodeT)(m:MsgT):NodeT:=eF (withS x (hU x m)) m
def lC(x:NodeT)(m:MsgT):Bool:= !decide (c6 x.sess m.2.1 true>=0)&&(x.sess.length:Int)==x.slots
def oG(x:NodeT)(m:MsgT):I5:=bif lC x m then(x,[RQ x 5 m.2.1 m.2.2.2.1],3)else(KJ x m,[G8 (KJ x m) x m],0)
def sG(x:NodeT)(m:MsgT)(k:Nat):I5:=
 bif m.1==5 then(kN x k,[],0)else bif m.1==4 then(eB (kN x k) m,[],0)else(eB (kN x k) m,[ST (eB (kN x k) m) x m],0)
def zE(x:NodeT)(m:MsgT):I5:=
 bif m.1==0 then(eB x m,[RQ (eB x m) 1 m.2.1 m.2.2.2.1],0)else
 bif m.1==1 then(eF x m,[],0)else bif m.1==2 then oG x m else
 bif decide (rU x m (m.1==4)<0)then(x,[],2)else sG x m (rU x m (m.1==4)).toNat
def mF(x:NodeT)(m:MsgT):Bool:=dJ x&&(eX m&&(m.2.2.1==x.1&&(!decide (m.2.1>=x.2.1)&&(m.vec.length:Int)==x.2.1)))
def gY(x:NodeT)(m:MsgT):I5:=bif mF x m then zE x m else(x,[],1)
structure RecOk (x:NodeT) (m:MsgT):Prop where
 node:NodeOk x
 msg:eX m=true
 idn:0<=x.1/\x.1<x.2.1/\1<=x.2.1/\x.2.1<=5
 frm:0<=m.2.1/\m.2.1<x.2.1
 ne:m.2.1≠x.1
 vec:(m.vec.length:Int)=x.2.1
 to:m.2.2.1=x.1
 num:inB m.2.2.2.1 0 100000=true
 hi:0<=m.hi/\m.hi<=100000
 part:aS m.part=true
 marks:fJ m.marks=true
 leaves:m.leaves.length<=4
theorem EZ{x:NodeT}{m:MsgT}(h:mF x m=true):RecOk x m:=by
 unfold mF at h
 simp only[Bool.and_eq_true,beq_iff_eq,Bool.not_eq_true',decide_eq_false_iff_not] at h
 obtain⟨h1,h2,h3,h4,h5⟩:=h
 have hn:=(eU x).1 h1
 have a1:=hn.n
 have a2:=hn.id
 rw[aP] at a1 a2
 rw[IntKind.wrap_i64] at a2
 have hm:=h2
 unfold eX uA eM at hm
 simp only[Bool.and_eq_true,aP,Bool.not_eq_true',beq_eq_false_iff_ne] at hm
 obtain⟨⟨b1,b2,b3,b4⟩,b5,b6,b7,b8,b9,b10,b11,b12⟩:=hm
 exact⟨hn,h2,by omega,by omega,by rw[<- h3];exact b4,h5,h3,aP.2 b7,b8,b11,b12,z4 h2⟩
theorem RecOk.gone{x:NodeT}{m:MsgT}(h:RecOk x m)(k:Nat):RecOk (kN x k) m:=
 ⟨PB h.node k,h.msg,h.idn,h.frm,h.ne,h.vec,h.to,h.num,h.hi,h.part,h.marks,h.leaves⟩
theorem RecOk.brought{x:NodeT}{m:MsgT}(h:RecOk x m):NodeOk (eB x m):=
 NodeOk.gotUp ((h.node.heard m).take h.part) h.hi.2 (by
  have h1:=h.ne;have h2:=h.idn;have h3:=h.frm
  show m.2.1.toNat≠x.1.toNat
  omega)
theorem RecOk.syn{x:NodeT}{m:MsgT}(h:RecOk x m)(hf:lC x m=false):RecOk (withS x (hU x m)) m:=by
 refine⟨?_,h.msg,h.idn,h.frm,h.ne,h.vec,h.to,h.num,h.hi,h.part,h.marks,h.leaves⟩
 unfold hU
 unfold lC at hf
 by_cases hc:c6 x.sess m.2.1 true>=0
 ·rw[decide_eq_true hc]
  rcases hX x.sess m.2.1 true with ⟨k,hk,e,_⟩ | ⟨e,_⟩
  ·show NodeOk (withS x (oJ x (c6 x.sess m.2.1 true).toNat m.2.2.2.1))
   rw[e];exact K0 h.node hk h.num
  ·omega
 ·rw[decide_eq_false hc] at hf ⊢
  refine I3 h.node ?_ h.ne h.num (by omega) (by intro e;rw[e] at hf;simp at hf)
  have h2:=h.idn;have h3:=h.frm
  rw[aP,IntKind.wrap_i64];omega
theorem wL{x:NodeT}(h:NodeOk x)(m:MsgT):(hU x m).length<=aW:=by
 have h1:=((cV x).1 h.sess).1
 have h2:=h.slots;rw[aP] at h2
 unfold hU oJ lH aW
 cases decide (c6 x.sess m.2.1 true>=0)with
 | true=>show(List.set _ _ _).length<=_;rw[List.length_set];omega
 | false=>show(x.sess++[_]).length<=_;rw[List.length_append,List.length_singleton];omega
theorem QS{x:NodeT}(hz:SzN x)(h:NodeOk x)(m:MsgT):SzN (KJ x m):=lP (tF hz (wL h m)) m
theorem Q5{x:NodeT}{m:MsgT}(h:mF x m=false):gY x m=(x,[],1):=by unfold gY;rw[h];rfl
theorem NJ{x:NodeT}{m:MsgT}(h:mF x m=true):gY x m=zE x m:=by unfold gY;rw[h];rfl
-- an exchange taken out, as the code does it
def TC(x:NodeT)(k:Int):List dM:=([]++((x.sess.take (k.toNat)).drop 0))++((x.sess.take x.sess.length).drop ((i64.wrap (k+1))).toNat)
theorem Q6{x:NodeT}{k:Nat}(hk:k<x.sess.length)(hl:x.sess.length<=aW):TC x (k:Int)=x.sess.take k++x.sess.drop (k+1):=by
 unfold TC
 rw[aL (Nat.lt_of_lt_of_le hk (Nat.le_trans hl (by decide))),List.take_length,Int.toNat_natCast,Int.toNat_natCast];rfl
theorem NO{x:NodeT}{k:Nat}(hk:k<x.sess.length)(hl:x.sess.length<=aW):withS x (TC x (k:Int))=kN x k:=by rw[Q6 hk hl];rfl
theorem PO{α β:Type}{ss:List α}{k:Nat}{F Z:β}(hk:k<ss.length)(hl:ss.length<=aW):
  (bif decide (0<=(k:Int))&&decide ((k:Int)<=(ss.length:Int))then(bif decide (List.length ([]:List α)+List.length ((ss.take ((k:Int).toNat)).drop 0)<=bound)then
   (bif decide (0<=i64.wrap ((k:Int)+1))&&decide (i64.wrap ((k:Int)+1)<=(ss.length:Int))then
    (bif decide (List.length ([]++((ss.take ((k:Int).toNat)).drop 0))+List.length ((ss.take ss.length).drop ((i64.wrap ((k:Int)+1))).toNat)<=bound)then F else Z)else Z)else Z)else Z)=F:=by
 have hb:aW<=bound:=by decide
 rw[aL (Nat.lt_of_lt_of_le hk (Nat.le_trans hl (by decide)))]
 refine(uT (Int.natCast_nonneg _) (by omega)).trans ?_
 refine(aE (by rw[List.drop_zero,List.length_take];simp;omega)).trans ?_
 refine(uT (Int.natCast_nonneg _) (by omega)).trans ?_
 exact aE (by rw[List.nil_append,List.drop_zero,List.length_take,List.length_drop,List.length_take,Int.toNat_natCast,Int.toNat_natCast];omega)
end Go.Abs
-- exchanges begun and gone through: plain laws
namespace Go.Abs
def pO(x:NodeT)(to:Int):Bool:=dJ x&&(mG x to&&(!decide (c6 x.sess to false>=0)&&(!((x.sess.length:Int)==x.slots)&& !(x.num==100000))))
def EO(x:NodeT)(to:Int):NodeT:=
 (x.1,x.2.1,x.2.2.1,x.2.2.2.1,x.2.2.2.2.1,x.2.2.2.2.2.1,x.2.2.2.2.2.2.1,x.2.2.2.2.2.2.2.1,x.2.2.2.2.2.2.2.2.1,x.got,x.acked,x.seen,i64.wrap (x.num+1),x.slots,x.sess++[(to,i64.wrap (x.num+1),false,(0:Int),())],x.wait,x.limit,x.clock,x.rises,())
def S6(x:NodeT)(to:Int):MsgT:=(2,x.1,to,i64.wrap (x.num+1),cE x.log,x.tree.1,x.tree.2.1,x.got,[],[],[],cX x.state,())
def BF:MsgT:=((0:Int),(0:Int),(0:Int),(0:Int),(0:Int),[],(0:Int),[],[],[],[],[],())
abbrev UY:=NodeT×MsgT×Bool
def i7(x:NodeT)(to:Int):UY:=bif pO x to then(EO x to,S6 x to,true)else(x,BF,false)
structure SynOk (x:NodeT) (to:Int):Prop where
 node:NodeOk x
 peer:0<=to/\to<x.2.1/\to≠x.1
 slot:c6 x.sess to false<0
 room:(x.sess.length:Int)<x.slots
 num:0<=x.num/\x.num<100000
 nn:1<=x.2.1/\x.2.1<=5
theorem tL{x:NodeT}{to:Int}(h:pO x to=true):SynOk x to:=by
 unfold pO mG at h
 simp only[Bool.and_eq_true,Bool.not_eq_true',decide_eq_false_iff_not,beq_eq_false_iff_ne,bne_iff_ne,aP] at h
 obtain⟨h1,⟨h2,h3⟩,h4,h5,h6⟩:=h
 have hn:=(eU x).1 h1
 have h7:=hn.n;have h8:=hn.num
 have h9:=((cV x).1 hn.sess).1
 rw[aP] at h7 h8
 rw[IntKind.wrap_i64] at h2
 exact⟨hn,by omega,by omega,by omega,by omega,by omega⟩
theorem HF{n:Int}(h:0<=n/\n<100000):i64.wrap (n+1)=n+1:=by rw[IntKind.wrap_i64];omega
theorem SynOk.up{x:NodeT}{to:Int}(h:SynOk x to):NodeOk (EO x to) where
 n:=h.node.n
 id:=h.node.id
 state:=h.node.state
 tree:=h.node.tree
 log:=h.node.log
 got:=h.node.got
 acked:=h.node.acked
 own:=h.node.own
 seen:=h.node.seen
 ack:=h.node.ack
 num:=by show inB (i64.wrap (x.num+1)) 0 100000=true;rw[HF h.num,aP];have:=h.num;omega
 clock:=h.node.clock
 slots:=h.node.slots
 wait:=h.node.wait
 limit:=h.node.limit
 rises:=h.node.rises
 rise:=h.node.rise
 sess:=by
  have hs:=(cV x).1 h.node.sess
  refine(cV _).2 ⟨?_,λs hm=>?_,?_⟩
  ·show(((x.sess++[_]).length:Nat):Int)<=x.slots
   rw[List.length_append,List.length_singleton];have:=h.room;omega
  ·have hm:s∈x.sess++[(to,i64.wrap (x.num+1),false,(0:Int),())]:=hm
   rcases List.mem_append.1 hm with h1 | h1
   ·exact hs.2.1 s h1
   ·rw[List.mem_singleton.1 h1]
    have h2:=h.peer;have h3:=h.num;have h4:=h.node.wait;have h5:=h.nn
    rw[aP] at h4
    refine⟨?_,h2.2.2,?_,?_⟩
    ·show inB to 0 (i64.wrap (x.2.1 - 1))=true
     rw[aP,IntKind.wrap_i64];omega
    ·show inB (i64.wrap (x.num+1)) 0 100000=true
     rw[HF h.num,aP];omega
    ·show inB 0 0 x.wait=true
     rw[aP];omega
  ·show(List.map pK (x.sess++[(to,i64.wrap (x.num+1),false,(0:Int),())])).Nodup
   rw[List.map_append,List.nodup_append]
   refine⟨hs.2.2,by simp,λa ha b hb=>?_⟩
   obtain⟨s,hs1,rfl⟩:=List.mem_map.1 ha
   have hb:b=(to,false):=by simpa [pK] using hb
   rw[hb]
   rcases hX x.sess to false with ⟨k,_,e,_⟩ | ⟨_,e⟩
   ·have:=h.slot;rw[e] at this;omega
   ·exact e s hs1
theorem EN{x:NodeT}{to:Int}(hz:SzN x)(h:SynOk x to):SzN (EO x to):=
 ⟨hz.state,hz.leaves,hz.list,hz.logs,hz.got,hz.acked,hz.seen,hz.lines,by
  have h1:=h.room;have h2:=h.node.slots;rw[aP] at h2
  show(x.sess++[_]).length<=aW
  rw[List.length_append,List.length_singleton];unfold aW;omega,hz.rises⟩
theorem QT{x:NodeT}(hz:SzN x)(to:Int):SzM (S6 x to):=⟨hz.leaves,hz.got,Nat.zero_le _,kA,Nat.le_trans (fU _) (by decide)⟩
theorem JM:SzM BF:=⟨Nat.zero_le _,Nat.zero_le _,Nat.zero_le _,kA,Nat.zero_le _⟩
theorem C7{x:NodeT}(hz:SzN x)(to:Int):SzN (i7 x to).1/\SzM (i7 x to).2.1:=by
 unfold i7
 cases h:pO x to with
 | false=>exact⟨hz,JM⟩
 | true=>exact⟨EN hz (tL h),QT hz to⟩
theorem MW{x:NodeT}{to:Int}(h:pO x to=true):i7 x to=(EO x to,S6 x to,true):=by unfold i7;rw[h];rfl
theorem QR{x:NodeT}{to:Int}(h:pO x to=false):i7 x to=(x,BF,false):=by unfold i7;rw[h];rfl
-- who answers whom
structure RecTo (x:NodeT) (m:MsgT) (r:I5):Prop where
 id:r.1.1=x.1
 to:∀ q∈r.2.1,q.2.2.1=m.2.1/\q.2.1=x.1
-- an exchange gone through
end Go.Abs
-- saying: plain laws
namespace Go.Abs
abbrev QD:=aJ×Int
def zM(id:Int)(e:bF):aJ:=bif aS ([(id,e)],[],())then([(id,e)],[],())else iM
theorem t8(id:Int)(e:bF):aS (zM id e)=true:=by
 unfold zM
 cases h:aS ([(id,e)],[],())with
 | true=>exact h
 | false=>rfl
def upE(s:aJ)(id:Int):bF×Int:=bif aS s then(bif eM id then(bif(oP s id).2 then((oP s id).1,0)else(dF,3))else(dF,1))else(dF,1)
def uF(s:aJ)(id:Int):Int:=mxI true (bJ s id).1.1 (cM s.2.1 id)
def qR(s:aJ)(id:Int):QD:=bif aS s then(bif eM id then(bif(oP s id).2 then(iM,2)else bif uF s id==1000 then(iM,4)else(zM id (i64.wrap (uF s id+1),0,0,0,⟨#[]⟩,()),0))else(iM,1))else(iM,1)
def qT(s:aJ)(id:Int):QD:=bif(upE s id).2 != 0 then(iM,(upE s id).2)else bif(upE s id).1.2.2.1==100000 then(iM,4)else
 (zM id ((upE s id).1.1,(upE s id).1.2.1,i64.wrap ((upE s id).1.2.2.1+1),(upE s id).1.2.2.2.1,(upE s id).1.2.2.2.2.1,()),0)
def vA(s:aJ)(id:Int)(t:ByteArray):QD:=bif(upE s id).2 != 0 then(iM,(upE s id).2)else bif(upE s id).1.2.2.2.1==1000 then(iM,4)else bif decide (((ByteArray.size t:Nat):Int)>8)then(iM,4)else
 (zM id ((upE s id).1.1,(upE s id).1.2.1,(upE s id).1.2.2.1,i64.wrap ((upE s id).1.2.2.2.1+1),t,()),0)
def qS(s:aJ)(id:Int):QD:=bif(upE s id).2 != 0 then(iM,(upE s id).2)else(zM id ((upE s id).1.1,1,(upE s id).1.2.2.1,(upE s id).1.2.2.2.1,(upE s id).1.2.2.2.2.1,()),0)
def fT(s:aJ)(k id:Int)(t:ByteArray):QD:=bif k==0 then qR s id else bif k==1 then qT s id else bif k==2 then vA s id t else qS s id
theorem G5(s:aJ)(id:Int):aS (qR s id).1=true:=by
 unfold qR
 cases aS s<;>cases eM id<;>cases (oP s id).2<;>cases uF s id==1000<;>first | rfl | exact t8 _ _
theorem G7(s:aJ)(id:Int):aS (qT s id).1=true:=by
 unfold qT
 cases (upE s id).2 != 0<;>cases (upE s id).1.2.2.1==100000<;>first | rfl | exact t8 _ _
theorem KQ(s:aJ)(id:Int)(t:ByteArray):aS (vA s id t).1=true:=by
 unfold vA
 cases (upE s id).2 != 0<;>cases (upE s id).1.2.2.2.1==1000<;>cases decide (((ByteArray.size t:Nat):Int)>8)<;>first | rfl | exact t8 _ _
theorem G6(s:aJ)(id:Int):aS (qS s id).1=true:=by
 unfold qS
 cases (upE s id).2 != 0<;>first | rfl | exact t8 _ _
theorem EW(s:aJ)(k id:Int)(t:ByteArray):aS (fT s k id t).1=true:=by
 unfold fT
 cases k==0
 ·cases k==1
  ·cases k==2
   ·exact G6 s id
   ·exact KQ s id t
  ·exact G7 s id
 ·exact G5 s id
-- logs
def mQ(l:f8)(d:aJ):Bool:=gR l&&(aS d&& !(i64.wrap (l.2.1+(l.2.2.1.length:Int))==100000))
def gM(l:f8)(d:aJ):f8:=bif decide ((((l.2.2.1++[d]).length:Nat):Int)>l.1)then(l.1,i64.wrap (l.2.1+1),(l.2.2.1++[d]).drop 1,())else(l.1,l.2.1,l.2.2.1++[d],())
def sO(l:f8)(d:aJ):f8×Bool:=bif mQ l d then(gM l d,true)else(l,false)
structure LogOk (l:f8):Prop where
 cap:1<=l.1/\l.1<=8
 len:(l.2.2.1.length:Int)<=l.1
 frm:0<=l.2.1/\l.2.1<=100000
 top:l.2.1+(l.2.2.1.length:Int)<=100000
 all:∀ s∈l.2.2.1,aS s=true
theorem nF(l:f8):gR l=true↔LogOk l:=by
 unfold gR
 simp only[Bool.and_eq_true,aP,Bool.not_eq_true',decide_eq_false_iff_not,bI]
 constructor
 ·rintro ⟨h1,h2,h3,h4,h5⟩
  rw[IntKind.wrap_i64] at h4
  refine⟨h1,by omega,h3,by omega,λs hs=>?_⟩
  obtain⟨i,hi,rfl⟩:=fZ hs
  exact h5 i hi
 ·rintro ⟨h1,h2,h3,h4,h5⟩
  rw[IntKind.wrap_i64]
  exact⟨h1,by omega,h3,by omega,λi hi=>h5 _ (cJ hi)⟩
theorem q9{l:f8}(h:LogOk l):cE l=l.2.1+(l.2.2.1.length:Int):=by
 have h1:=h.frm;have h2:=h.top
 unfold cE;rw[(nF l).2 h];show i64.wrap _=_;rw[IntKind.wrap_i64];omega
theorem LO{l:f8}{d:aJ}(h:LogOk l)(hd:aS d=true)(hn:l.2.1+(l.2.2.1.length:Int)<100000):LogOk (gM l d)/\cE (gM l d)=cE l+1:=by
 have h1:=h.cap;have h2:=h.len;have h3:=h.frm
 have hl:(l.2.2.1++[d]).length=l.2.2.1.length+1:=by rw[List.length_append,List.length_singleton]
 have ha:∀ s∈l.2.2.1++[d],aS s=true:=λs hs=>by
  rcases List.mem_append.1 hs with hs | hs
  ·exact h.all s hs
  ·rw[List.mem_singleton.1 hs];exact hd
 have key:LogOk (gM l d)/\(gM l d).2.1+(((gM l d).2.2.1.length:Nat):Int)=l.2.1+(l.2.2.1.length:Int)+1:=by
  unfold gM
  by_cases hc:(((l.2.2.1++[d]).length:Nat):Int)>l.1
  ·rw[decide_eq_true hc]
   have hw:i64.wrap (l.2.1+1)=l.2.1+1:=by rw[IntKind.wrap_i64];omega
   have hdl:((l.2.2.1++[d]).drop 1).length=l.2.2.1.length:=by rw[List.length_drop,hl];omega
   refine⟨⟨h1,?_,?_,?_,λs hs=>ha s (List.mem_of_mem_drop hs)⟩,?_⟩
   ·show((((l.2.2.1++[d]).drop 1).length:Nat):Int)<=l.1;rw[hdl];exact h2
   ·show 0<=i64.wrap (l.2.1+1)/\i64.wrap (l.2.1+1)<=100000;rw[hw];omega
   ·show i64.wrap (l.2.1+1)+((((l.2.2.1++[d]).drop 1).length:Nat):Int)<=100000;rw[hw,hdl];omega
   ·show i64.wrap (l.2.1+1)+((((l.2.2.1++[d]).drop 1).length:Nat):Int)=_;rw[hw,hdl];omega
  ·rw[decide_eq_false hc]
   rw[hl] at hc
   refine⟨⟨h1,?_,h3,?_,ha⟩,?_⟩
   ·show(((l.2.2.1++[d]).length:Nat):Int)<=l.1;rw[hl];omega
   ·show l.2.1+(((l.2.2.1++[d]).length:Nat):Int)<=100000;rw[hl];omega
   ·show l.2.1+(((l.2.2.1++[d]).length:Nat):Int)=_;rw[hl];omega
 exact⟨key.1,by rw[q9 key.1,q9 h];exact key.2⟩
-- a node says
def tO(x:NodeT)(k id:Int):Bool:=dJ x&&(inB k 0 4&&(inB id 0 (i64.wrap (x.2.1 - 1))&& !(nU (k==4) (id==x.1))))
def JD(x:NodeT)(d:aJ):NodeT:=
 (x.1,x.2.1,x.2.2.1,x.2.2.2.1,x.2.2.2.2.1,x.2.2.2.2.2.1,(gM x.log d).1,(gM x.log d).2.1,(gM x.log d).2.2.1,x.got.set x.1.toNat (i64.wrap ((gt x.got x.1.toNat).1+1),()),x.acked,x.seen,x.num,x.slots,x.sess,x.wait,x.limit,x.clock,x.rises,())
abbrev J6:=NodeT×aJ×Int
def jF(x:NodeT)(k id:Int)(t:ByteArray):J6:=
 bif tO x k id then(bif(fT x.state k id t).2 != 0 then(x,iM,(fT x.state k id t).2)else bif mQ x.log (fT x.state k id t).1 then(jG (JD x (fT x.state k id t).1) (fT x.state k id t).1,(fT x.state k id t).1,0)else(x,iM,4))else(x,iM,1)
theorem y9{x:NodeT}{d:aJ}(h:NodeOk x)(hd:mQ x.log d=true):NodeOk (JD x d):=by
 unfold mQ at hd
 simp only[Bool.and_eq_true,Bool.not_eq_true',beq_eq_false_iff_ne] at hd
 have hL:=(nF x.log).1 h.log
 have h1:=hL.frm;have h2:=hL.top;have h3:=hL.len;have h4:=hL.cap
 have hw:i64.wrap (x.log.2.1+(x.log.2.2.1.length:Int))=x.log.2.1+(x.log.2.2.1.length:Int):=by rw[IntKind.wrap_i64];omega
 rw[hw] at hd
 obtain⟨p1,p2⟩:=LO hL hd.2.1 (by have:=hd.2.2;omega)
 have hs:cE x.log<100000/\0<=cE x.log:=by rw[q9 hL];have:=hd.2.2;omega
 have hg:(gt x.got x.1.toNat).1=cE x.log:=eq_of_beq h.own
 have hwg:i64.wrap ((gt x.got x.1.toNat).1+1)=cE x.log+1:=by rw[hg,IntKind.wrap_i64];omega
 have hid:=h.id;have hn:=h.n;have hv:=h.got
 rw[aP] at hid hn
 rw[IntKind.wrap_i64] at hid
 unfold eG at hv
 simp only[Bool.and_eq_true,beq_iff_eq] at hv
 have hk:x.1.toNat<x.got.length:=by omega
 exact {
  n:=h.n,id:=h.id,state:=h.state,tree:=h.tree
  log:=(nF _).2 p1
  got:=by
   show eG (x.got.set x.1.toNat _) x.2.1=true
   unfold eG
   simp only[Bool.and_eq_true,beq_iff_eq]
   rw[List.length_set]
   refine⟨hv.1,hv.2.1,?_⟩
   have h5:=bI.1 hv.2.2
   rw[bI]
   intro i hi
   by_cases e:x.1.toNat=i
   ·rw[<- e,cC hk];show inB (i64.wrap _) 0 100000=true;rw[hwg,aP];omega
   ·rw[eC e];exact h5 i hi
  acked:=h.acked
  own:=by
   show((gt (x.got.set x.1.toNat (i64.wrap ((gt x.got x.1.toNat).1+1),())) x.1.toNat).1==cE (gM x.log d))=true
   rw[cC hk,p2,beq_iff_eq];exact hwg
  seen:=h.seen
  ack:=by
   have h6:=h.ack
   unfold A7 at h6 ⊢
   rw[bI] at h6 ⊢
   intro i hi
   have h7:=h6 i hi
   show(!decide ((gt x.acked i).1>cE (gM x.log d)))=true
   rw[p2]
   simp only[Bool.not_eq_true',decide_eq_false_iff_not] at h7 ⊢
   omega
  num:=h.num,clock:=h.clock,slots:=h.slots,wait:=h.wait,limit:=h.limit,rises:=h.rises,rise:=h.rise,sess:=h.sess }
theorem HR(l:f8)(d:aJ):(gM l d).2.2.1.length<=l.2.2.1.length+1:=by
 unfold gM
 cases decide ((((l.2.2.1++[d]).length:Nat):Int)>l.1)with
 | true=>show((l.2.2.1++[d]).drop 1).length<=_;rw[List.length_drop,List.length_append,List.length_singleton];omega
 | false=>show(l.2.2.1++[d]).length<=_;rw[List.length_append,List.length_singleton];exact Nat.le_refl _
theorem EX{x:NodeT}{d:aJ}(hz:SzN x)(h:NodeOk x)(hd:mQ x.log d=true):SzN (JD x d):=by
 have ho:=(nF _).1 (y9 h hd).log
 have h1:=ho.cap;have h2:=ho.len
 refine⟨hz.state,hz.leaves,?_,λi hi=>?_,?_,hz.acked,hz.seen,hz.lines,hz.sess,hz.rises⟩
 ·unfold aW;omega
 ·have:=((aV _).1 (ho.all _ (cJ hi))).len
  exact⟨by unfold aW;omega,by unfold aW;omega⟩
 ·show(x.got.set _ _).length<=aW;rw[List.length_set];exact hz.got
theorem Q3{x:NodeT}(h:NodeOk x)(k id:Int)(t:ByteArray):NodeOk (jF x k id t).1:=by
 unfold jF
 cases tO x k id with
 | false=>exact h
 | true=>
  cases (fT x.state k id t).2 != 0 with
  | true=>exact h
  | false=>
   cases hb:mQ x.log (fT x.state k id t).1 with
   | false=>exact h
   | true=>exact(y9 h hb).take (EW _ _ _ _)
theorem JC{x:NodeT}(hz:SzN x)(k id:Int)(t:ByteArray):SzN (jF x k id t).1:=by
 unfold jF
 cases hs:tO x k id with
 | false=>exact hz
 | true=>
  have h:NodeOk x:=(eU x).1 (by unfold tO at hs;simp only[Bool.and_eq_true] at hs;exact hs.1)
  cases (fT x.state k id t).2 != 0 with
  | true=>exact hz
  | false=>
   cases hb:mQ x.log (fT x.state k id t).1 with
   | false=>exact hz
   | true=>exact lT (EX hz h hb) _
end Go.Abs
-- check sums lie in 0 .. 2^32 - 1: plain laws
namespace Go.Abs
def uX(x:Int):Prop:=0<=x/\x<4294967296
theorem MK{a b:Int}(ha:uX a)(hb:uX b):uX (kS .i64 a b):=by
 obtain⟨n,rfl⟩:∃ n:Nat,a=n:=⟨a.toNat,by have:=ha.1;omega⟩
 obtain⟨m,rfl⟩:∃ m:Nat,b=m:=⟨b.toNat,by have:=hb.1;omega⟩
 have hn:n<2 ^ 32:=by have:=ha.2;omega
 have hm:m<2 ^ 32:=by have:=hb.2;omega
 unfold kS
 have h:(BitVec.ofInt i64.bits (n:Int) ^^^ BitVec.ofInt i64.bits (m:Int)).toNat<2 ^ 32:=by
  rw[BitVec.toNat_xor]
  have e1:(BitVec.ofInt i64.bits (n:Int)).toNat=n:=by
   rw[BitVec.toNat_ofInt];show((n:Int) % ((2 ^ 64:Nat):Int)).toNat=n;omega
  have e2:(BitVec.ofInt i64.bits (m:Int)).toNat=m:=by
   rw[BitVec.toNat_ofInt];show((m:Int) % ((2 ^ 64:Nat):Int)).toNat=m;omega
  rw[e1,e2];exact Nat.xor_lt_two_pow hn hm
 generalize (BitVec.ofInt i64.bits (n:Int) ^^^ BitVec.ofInt i64.bits (m:Int)).toNat=k at h
 have e:i64.wrap (k:Int)=k:=by rw[IntKind.wrap_i64];omega
 rw[e];exact⟨by omega,by omega⟩
theorem PS{x:Int}(h:uX x):uX (sX x):=by
 have hd:0<=x.tdiv 2/\x.tdiv 2<4294967296:=by
  have h1:=h.1;have h2:=h.2
  rw[Int.tdiv_eq_ediv_of_nonneg h1];omega
 have hw:i64.wrap (x.tdiv 2)=x.tdiv 2:=by rw[IntKind.wrap_i64];omega
 unfold sX
 rw[hw]
 cases (x.tmod 2)==1 with
 | true=>exact MK hd ⟨by omega,by omega⟩
 | false=>exact hd
theorem CN{x:Int}(h:uX x):∀ k,uX (fK k x)
 | 0=>h
 | k+1=>PS (CN h k)
theorem J0{bs:List aO}(h:∀ b∈bs,uX b.1):∀ i,i<=bs.length->uX (pH bs i)
 | 0,_=>⟨by show(0:Int)<=4294967295;omega,by show(4294967295:Int)<4294967296;omega⟩
 | i+1,hi=>by
  have hb:=h _ (cJ (xs:=bs) (i:=i) (by omega))
  have hw:i64.wrap (gt bs i).1=(gt bs i).1:=by have h1:=hb.1;have h2:=hb.2;rw[IntKind.wrap_i64];omega
  show uX (fK 8 (kS .i64 (pH bs i) (i64.wrap (gt bs i).1)))
  rw[hw]
  exact CN (MK (J0 h i (by omega)) hb) 8
theorem PT{bs:List aO}(h:∀ b∈bs,uX b.1):uX (crc bs):=by
 unfold crc
 exact MK (J0 h _ (Nat.le_refl _)) ⟨by omega,by omega⟩
def B32(bs:List aO):Prop:=∀ b∈bs,uX b.1
theorem B32.app{a b:List aO}(ha:B32 a)(hb:B32 b):B32 (a++b):=λx hx=>by
 rcases List.mem_append.1 hx with h | h
 ·exact ha x h
 ·exact hb x h
theorem B32.flat{α:Type}{f:α->List aO}(h:∀ x,B32 (f x))(xs:List α):B32 (xs.flatMap f):=λx hx=>by
 obtain⟨a,_,ha⟩:=List.mem_flatMap.1 hx
 exact h a x ha
theorem TD(n:Nat):B32 (hZ n):=by
 induction n using Nat.strongRecOn with
 | _ n ih=>
  unfold hZ
  split
  ·rename_i h
   intro b hb
   rw[List.mem_singleton.1 hb];exact⟨by show(0:Int)<=(n:Int);omega,by show(n:Int)<4294967296;omega⟩
  ·rename_i h
   intro b hb
   rcases List.mem_cons.1 hb with e | e
   ·rw[e];exact⟨by show(0:Int)<=((n % 128+128:Nat):Int);omega,by show((n % 128+128:Nat):Int)<4294967296;omega⟩
   ·exact ih (n / 128) (Nat.div_lt_self (by omega) (by omega)) b e
theorem gZ(x:Int):B32 (aN x):=by
 unfold aN
 cases inB x 0 2147483647 with
 | false=>intro b hb;cases hb
 | true=>exact TD _
theorem LC(t:ByteArray):B32 (dU t):=by
 unfold dU
 refine(gZ _).app λb hb=>?_
 unfold fQ eP at hb
 obtain⟨u,_,rfl⟩:=List.mem_map.1 hb
 have:=u.toNat_lt
 exact⟨by show(0:Int)<=((u.toNat:Nat):Int);omega,by show((u.toNat:Nat):Int)<4294967296;omega⟩
theorem P2(s:aJ):B32 (bS s):=by
 unfold bS
 refine(((gZ _).app (B32.flat (λx=>?_) _)).app (gZ _)).app (B32.flat (λf=>?_) _)
 ·unfold bB;exact(((((gZ _).app (gZ _)).app (gZ _)).app (gZ _)).app (gZ _)).app (LC _)
 ·unfold bD;exact(gZ _).app (gZ _)
theorem EJ{x:Int}(h:uX x):inB (x.tmod 1024) 0 1023=true:=by
 rw[aP];have:=tI (x:=x) (n:=1024) h.1 (by omega);omega
theorem oQ(s:aJ)(k:Int):inB (iZ s k) 0 1023=true:=by
 unfold iZ
 cases aS s&&inB k 0 3 with
 | true=>exact EJ (PT (P2 _))
 | false=>rfl
theorem MR{s:aJ}(h:aS s=true):treeB (cI s)=true:=by
 unfold cI;rw[h]
 show treeB (cY s,lV (cY s),())=true
 have hr:inB (lV (cY s)) 0 1023=true:=EJ (PT (B32.flat (λx=>gZ _) _))
 have hl:nC (cY s) 1023=true:=bI.2 λi hi=>by
  match i,hi with
  | 0,_=>exact oQ s 0
  | 1,_=>exact oQ s 1
  | 2,_=>exact oQ s 2
  | 3,_=>exact oQ s 3
 unfold treeB
 rw[hl,hr];rfl
end Go.Abs
-- states as points of a lattice: plain laws
namespace Go.Abs
-- comparing one after another
structure Cmp {α:Type} (c:α->α->Int):Prop where
 neg:∀ a b,c b a= - c a b
 eq:∀ a b,c a b=0->a=b
 tr:∀ a b d,c a b<=0->c b d<=0->c a d<=0
theorem Cmp.self{α:Type}{c:α->α->Int}(h:Cmp c)(a:α):c a a=0:=by have:=h.neg a a;omega
theorem Cmp.lex{α β:Type}{c:α->α->Int}{d:β->β->Int}(hc:Cmp c)(hd:Cmp d):Cmp (fun(a b:α×β)=>if c a.1 b.1≠0 then c a.1 b.1 else d a.2 b.2) where
 neg a b:=by
  show(if c b.1 a.1≠0 then c b.1 a.1 else d b.2 a.2)= -(if c a.1 b.1≠0 then c a.1 b.1 else d a.2 b.2)
  rw[hc.neg a.1 b.1,hd.neg a.2 b.2];exact uH _ _
 eq a b h:=by
  have h:(if c a.1 b.1≠0 then c a.1 b.1 else d a.2 b.2)=0:=h
  by_cases h0:c a.1 b.1=0
  ·rw[if_neg (λg=>g h0)] at h
   exact Prod.ext (hc.eq _ _ h0) (hd.eq _ _ h)
  ·rw[if_pos h0] at h;exact absurd h h0
 tr a b e h1 h2:=by
  have h1:(if c a.1 b.1≠0 then c a.1 b.1 else d a.2 b.2)<=0:=h1
  have h2:(if c b.1 e.1≠0 then c b.1 e.1 else d b.2 e.2)<=0:=h2
  show(if c a.1 e.1≠0 then c a.1 e.1 else d a.2 e.2)<=0
  have k2:c b.1 e.1<=0:=by
   by_cases h0:c b.1 e.1=0
   ·omega
   ·rw[if_pos h0] at h2;exact h2
  by_cases h0:c a.1 b.1=0
  ·rw[if_neg (λg=>g h0)] at h1
   rw[hc.eq _ _ h0]
   by_cases g0:c b.1 e.1=0
   ·rw[if_neg (λg=>g g0)] at h2 ⊢;exact hd.tr _ _ _ h1 h2
   ·rw[if_pos g0];exact k2
  ·rw[if_pos h0] at h1
   have k3:=hc.tr _ _ _ h1 k2
   by_cases g0:c a.1 e.1=0
   ·have e1:=hc.eq _ _ g0
    rw[<- e1,hc.neg a.1 b.1] at k2;omega
   ·rw[if_pos g0];exact k3
theorem l2_cmp:Cmp l2 where
 neg:=z5
 eq a b h:=by
  unfold l2 at h
  by_cases h1:a<b
  ·rw[decide_eq_true h1] at h;cases h
  ·rw[decide_eq_false h1] at h
   by_cases h2:a>b
   ·rw[decide_eq_true h2] at h;cases h
   ·omega
 tr a b d h1 h2:=by
  have key:∀ x y:Int,l2 x y<=0↔x<=y:=λx y=>by
   unfold l2
   by_cases h1:x<y
   ·rw[decide_eq_true h1];exact⟨λ_=>by omega,λ_=>by show(-1:Int)<=0;omega⟩
   ·rw[decide_eq_false h1]
    by_cases h2:x>y
    ·rw[decide_eq_true h2];exact⟨λh=>by have h:(1:Int)<=0:=h;omega,λ_=>by omega⟩
    ·rw[decide_eq_false h2];exact⟨λ_=>by omega,λ_=>Int.le_refl 0⟩
  rw[key] at h1 h2 ⊢;omega
theorem JQ{x y:Int}(h:l2 x y<=0):x<=y:=by
 unfold l2 at h
 by_cases h1:x<y
 ·omega
 ·rw[decide_eq_false h1] at h
  by_cases h2:x>y
  ·rw[decide_eq_true h2] at h;have h:(1:Int)<=0:=h;omega
  ·omega
theorem RZ(x:Int):l2 x x=0:=l2_cmp.self x
theorem GE:∀ x y:List UInt8,Lib.compareBytes x y=0->x=y
 | [],[],_=>rfl
 | [],_::_,h=>by unfold Lib.compareBytes at h;omega
 | _::_,[],h=>by unfold Lib.compareBytes at h;omega
 | a::x,b::y,h=>by
  unfold Lib.compareBytes at h
  by_cases h1:a<b
  ·rw[if_pos h1] at h;omega
  ·rw[if_neg h1] at h
   by_cases h2:b<a
   ·rw[if_pos h2] at h;omega
   ·rw[if_neg h2] at h
    have e:a=b:=UInt8.toNat_inj.1 (by rw[UInt8.lt_iff_toNat_lt] at h1 h2;omega)
    rw[e,GE x y h]
theorem GD:∀ x y z:List UInt8,Lib.compareBytes x y<=0->Lib.compareBytes y z<=0->Lib.compareBytes x z<=0
 | [],_,[],_,_=>by unfold Lib.compareBytes;omega
 | [],_,_::_,_,_=>by unfold Lib.compareBytes;omega
 | _::_,[],_,h,_=>by unfold Lib.compareBytes at h;omega
 | _::_,_::_,[],_,h=>by unfold Lib.compareBytes at h;omega
 | a ::x,b::y,c::z,h1,h2=>by
  unfold Lib.compareBytes at h1 h2 ⊢
  simp only[UInt8.lt_iff_toNat_lt] at h1 h2 ⊢
  by_cases c1:a.toNat<b.toNat
  ·by_cases c2:b.toNat<c.toNat
   ·rw[if_pos (by omega)];omega
   ·rw[if_neg c2] at h2
    by_cases c3:c.toNat<b.toNat
    ·rw[if_pos c3] at h2;omega
    ·rw[if_pos (by omega)];omega
  ·rw [if_neg c1] at h1
   by_cases c2:b.toNat<a.toNat
   ·rw[if_pos c2] at h1;omega
   ·rw[if_neg c2] at h1
    by_cases c3:b.toNat<c.toNat
    ·rw[if_pos (by omega)];omega
    ·rw[if_neg c3] at h2
     by_cases c4:c.toNat<b.toNat
     ·rw[if_pos c4] at h2;omega
     ·rw[if_neg c4] at h2
      rw[if_neg (by omega),if_neg (by omega)];exact GD x y z h1 h2
theorem PX:Cmp (fun(a b:ByteArray×Unit)=>IP a.1 b.1) where
 neg a b:=v7 _ _
 eq a b h:=by
  have h1:=GE _ _ h
  obtain⟨⟨⟨x⟩⟩,u⟩:=a
  obtain⟨⟨⟨y⟩⟩,v⟩:=b
  have h1:x=y:=h1
  rw[h1]
 tr a b d h1 h2:=GD _ _ _ h1 h2
theorem cmpE_cmp:Cmp iQ:=l2_cmp.lex (l2_cmp.lex (l2_cmp.lex (l2_cmp.lex PX)))
def leE(a b:bF):Prop:=iQ a b<=0
theorem nH(a:bF):leE a a:=Int.le_of_eq (cmpE_cmp.self a)
theorem LQ{a b c:bF}(h1:leE a b)(h2:leE b c):leE a c:=cmpE_cmp.tr _ _ _ h1 h2
theorem LS(a b:bF):leE a b\/leE b a:=by unfold leE;have:=qJ a b;omega
theorem oS{a b:bF}(h1:leE a b)(h2:leE b a):a=b:=cmpE_cmp.eq _ _ (by unfold leE at h1 h2;have:=qJ a b;omega)
theorem mI{a b:bF}(h:leE a b):a.1<=b.1:=by
 unfold leE iQ at h
 by_cases h0:l2 a.1 b.1=0
 ·exact JQ (by omega)
 ·rw[if_pos h0] at h;exact JQ h
theorem OV{a b:bF}(h:leE a b)(e:a.1=b.1):a.2.1<=b.2.1:=by
 unfold leE iQ at h
 rw[e,if_neg (λg=>g (RZ _))] at h
 by_cases h0:l2 a.2.1 b.2.1=0
 ·exact JQ (by omega)
 ·rw[if_pos h0] at h;exact JQ h
theorem MI{e:bF}(h:1<=e.1):leE dF e:=by unfold leE;rw[v3 h];omega
theorem FI(a b:bF):leE a (mxE a b):=by
 unfold mxE
 by_cases h:iQ a b<0
 ·rw[decide_eq_true h];show iQ a b<=0;omega
 ·rw[decide_eq_false h];exact nH a
theorem OC(a b:bF):leE b (mxE a b):=by
 unfold mxE
 by_cases h:iQ a b<0
 ·rw[decide_eq_true h];exact nH b
 ·rw[decide_eq_false h];show iQ b a<=0;rw[qJ a b];omega
theorem HJ(a b:bF):mxE a b=a\/mxE a b=b:=by
 unfold mxE;cases decide (iQ a b<0)
 ·exact .inl rfl
 ·exact .inr rfl
theorem OD{a b:bF}(h:leE a b):mxE a b=b:=oS (by rcases HJ a b with e | e<;>rw[e];exact h;exact nH b) (OC a b)
theorem JJ{a b:bF}(h:leE b a):mxE a b=a:=oS (by rcases HJ a b with e | e<;>rw[e];exact nH a;exact h) (FI a b)
-- points
def ent(s:aJ)(i:Int):bF:=(bJ s i).1
def flo(s:aJ)(i:Int):Int:=cM s.2.1 i
structure Pt (e:bF) (f:Int):Prop where
 nn:0<=f
 up:e=dF\/f<e.1
def nrm(m:bF)(f:Int):bF:=if f<m.1 then m else dF
theorem gI:dF.1=0:=rfl
theorem LW{s:aJ}(h:StateOk s){x:bK}(hx:x∈s.1):bJ s x.1=(x.2,true):=by
 rcases fH s x.1 with ⟨y,hy,h1,e⟩ | ⟨h1,_⟩
 ·have:y=x:=by
   obtain⟨i,hi,rfl⟩:=fZ hx
   obtain⟨j,hj,rfl⟩:=fZ hy
   have hp:=h.items
   rw[List.pairwise_iff_getElem] at hp
   rcases Nat.lt_trichotomy i j with h2 | h2 | h2
   ·have:=hp i j hi hj h2;rw[<- cK hi,<- cK hj] at this;omega
   ·rw[h2]
   ·have:=hp j i hj hi h2;rw[<- cK hi,<- cK hj] at this;omega
  rw[e,this]
 ·exact absurd rfl (h1 x hx)
theorem PN{s:aJ}(h:StateOk s){x:bK}(hx:x∈s.1):ent s x.1=x.2:=by unfold ent;rw[LW h hx]
theorem FT{s:aJ}(h:StateOk s){x:bK}(hx:x∈s.1):1<=x.2.1:=h.pos.item x hx
theorem nQ{s:aJ}(h:StateOk s)(i:Int):(1<=(ent s i).1/\(i,ent s i)∈s.1/\(bJ s i).2=true/\eD (ent s i)=true)\/(ent s i=dF/\(bJ s i).2=false):=by
 unfold ent
 rcases fH s i with ⟨x,hx,h1,e⟩ | ⟨h1,e⟩
 ·rw[e];subst h1;exact .inl ⟨FT h hx,hx,rfl,(h.item x hx).2.1⟩
 ·rw[e];exact .inr ⟨rfl,rfl⟩
theorem pD{s:aJ}(h:StateOk s)(i:Int):Pt (ent s i) (flo s i):=by
 refine⟨(oW h i).1,?_⟩
 rcases nQ h i with ⟨_,h2,_⟩ | ⟨h2,_⟩
 ·exact .inr (h.item _ h2).2.2
 ·exact .inl h2
theorem EA{α:Type}{k:α->Int}:∀ {a b:List α},a.Pairwise (λx y=>k x<k y)->b.Pairwise (λx y=>k x<k y)->(∀ x,x∈a↔x∈b)->a=b
 | [],[],_,_,_=>rfl
 | [],y::_,_,_,h=>by have:=(h y).2 (List.mem_cons_self ..);cases this
 | x::_,[],_,_,h=>by have:=(h x).1 (List.mem_cons_self ..);cases this
 | x::a,y::b,ha,hb,h=>by
  rw[List.pairwise_cons] at ha hb
  have e:x=y:=by
   rcases List.mem_cons.1 ((h x).1 (List.mem_cons_self ..))with e | e
   ·exact e
   ·rcases List.mem_cons.1 ((h y).2 (List.mem_cons_self ..))with e2 | e2
    ·exact e2.symm
    ·have h1:=hb.1 x e;have h2:=ha.1 y e2;omega
  subst e
  rw[EA ha.2 hb.2 λz=>⟨λhz=>?_,λhz=>?_⟩]
  ·rcases List.mem_cons.1 ((h z).1 (List.mem_cons_of_mem _ hz))with e | e
   ·have:=ha.1 z hz;rw[e] at this;omega
   ·exact e
  ·rcases List.mem_cons.1 ((h z).2 (List.mem_cons_of_mem _ hz))with e | e
   ·have:=hb.1 z hz;rw[e] at this;omega
   ·exact e
theorem nD{i:Int}(h:eM i=true):∃ k:Nat,k<5/\i=k:=by
 unfold eM at h;rw[aP] at h
 exact⟨i.toNat,by omega,by omega⟩
theorem M2{a b:aJ}(ha:StateOk a)(hb:StateOk b)(h:∀ i:Nat,i<5->ent a i=ent b i/\flo a i=flo b i):a=b:=by
 have key:∀ {a b:aJ},StateOk a->StateOk b->(∀ i:Nat,i<5->ent a i=ent b i/\flo a i=flo b i)->∀ x,x∈a.1->x∈b.1:=by
  intro a b ha hb h x hx
  obtain⟨k,hk,e⟩:=nD (ha.item x hx).1
  have h1:=(h k hk).1
  rw[<- e,PN ha hx] at h1
  rcases nQ hb x.1 with ⟨_,h2,_⟩ | ⟨h2,_⟩
  ·rw[<- h1] at h2;exact h2
  ·have:=FT ha hx;rw[h1,h2] at this;have:(1:Int)<=0:=this;omega
 have keyF:∀ {a b:aJ},StateOk a->StateOk b->(∀ i:Nat,i<5->ent a i=ent b i/\flo a i=flo b i)->∀ x,x∈a.2.1->x∈b.2.1:=by
  intro a b ha hb h x hx
  obtain⟨k,hk,e⟩:=nD (ha.floor x hx).1
  have h1:=(h k hk).2
  have h3:flo a x.1=x.2.1:=D2 ha hx
  have h4:=(ha.floor x hx).2
  rw[aP] at h4
  rw[<- e,h3] at h1
  rcases eO b x.1 with ⟨y,hy,h5,h6⟩ | ⟨_,h6⟩
  ·have h6:flo b x.1=y.2.1:=h6
   have:y=x:=Prod.ext h5 (Prod.ext (by rw[<- h6,<- h1]) rfl)
   rw[<- this];exact hy
  ·have h6:flo b x.1=0:=h6
   omega
 have h':∀ i:Nat,i<5->ent b i=ent a i/\flo b i=flo a i:=λi hi=>⟨(h i hi).1.symm,(h i hi).2.symm⟩
 refine Prod.ext (EA (k:=λx:bK=>x.1) ha.items hb.items λx=>⟨key ha hb h x,key hb ha h' x⟩) (Prod.ext (EA (k:=λx:aU=>x.1) ha.floors hb.floors λx=>⟨keyF ha hb h x,keyF hb ha h' x⟩) rfl)
theorem nN{a b:aJ}(ha:StateOk a){i:Nat}(hi:i<5):flo (dG a b) i=max (flo a i) (flo b i):=by
 have hf:flr a b i=max (flo a i) (flo b i):=by unfold flr;rw[rR];rfl
 have h0:=PH (b:=b) ha.pos (i:Int)
 unfold flo
 rcases eO (dG a b) i with ⟨x,hx,h1,e⟩ | ⟨h1,e⟩
 ·rw[e]
  obtain⟨j,_,hx⟩:=jP hx
  obtain⟨rfl,_⟩:=oU hx
  have:(j:Int)=(i:Int):=h1
  show flr a b (j:Int)=_
  rw[this];exact hf
 ·rw[e]
  by_cases h2:flr a b i>0
  ·refine absurd rfl (h1 ((i:Int),flr a b i,()) ?_)
   exact List.mem_flatMap.2 ⟨i,List.mem_range.2 hi,by rw[AC h2];exact List.mem_singleton.2 rfl⟩
  ·show 0=max (flo a i) (flo b i)
   omega
theorem nP(a b:aJ){i:Nat}(hi:i<5):ent (dG a b) i=nrm (mxE (ent a i) (ent b i)) (max (flo a i) (flo b i)):=by
 have hf:flr a b i=max (flo a i) (flo b i):=by unfold flr;rw[rR];rfl
 have hp:eL a b i=mxE (ent a i) (ent b i):=rfl
 rw[<- hf,<- hp]
 unfold ent nrm
 rcases fH (dG a b) i with ⟨x,hx,h1,e⟩ | ⟨h1,e⟩
 ·rw[e]
  obtain⟨j,_,hx⟩:=jP hx
  obtain⟨rfl,h2⟩:=vQ hx
  have e2:(j:Int)=(i:Int):=h1
  rw[e2] at h2
  rw[if_pos h2];show eL a b (j:Int)=_;rw[e2]
 ·rw[e]
  by_cases h2:flr a b i<(eL a b i).1
  ·refine absurd rfl (h1 ((i:Int),eL a b i) ?_)
   exact List.mem_flatMap.2 ⟨i,List.mem_range.2 hi,by rw[iC rfl h2];exact List.mem_singleton.2 rfl⟩
  ·rw[if_neg h2]
-- the order of points
def LeP(e:bF)(f:Int)(e':bF)(f':Int):Prop:=f<=f'/\(e.1<=f'\/leE e e')
theorem LeP.refl(e:bF)(f:Int):LeP e f e f:=⟨Int.le_refl f,.inr (nH e)⟩
theorem LeP.trans{e f e' f' e'' f''}(h:LeP e f e' f')(h':LeP e' f' e'' f''):LeP e f e'' f'':=by
 refine⟨Int.le_trans h.1 h'.1,?_⟩
 rcases h.2 with h2 | h2
 ·exact .inl (Int.le_trans h2 h'.1)
 ·rcases h'.2 with h3 | h3
  ·exact .inl (Int.le_trans (mI h2) h3)
  ·exact .inr (LQ h2 h3)
theorem TK{m:bF}{f:Int}(h:Pt m f):nrm m f=m:=by
 unfold nrm
 rcases h.up with e | e
 ·have:=h.nn;rw[e,if_neg (by rw[gI];omega)]
 ·rw[if_pos e]
theorem JP{e f e' f'}(h:Pt e f)(h':Pt e' f'):(nrm (mxE e e') (max f f')=e'/\max f f'=f')↔LeP e f e' f':=by
 constructor
 ·rintro ⟨h1,h2⟩
  refine⟨by omega,?_⟩
  rw[h2] at h1
  by_cases h3:e.1<=f'
  ·exact .inl h3
  ·have h4:=mI (FI e e')
   unfold nrm at h1
   rw[if_pos (by omega)] at h1
   exact .inr (by have:=FI e e';rw[h1] at this;exact this)
 ·rintro ⟨h1,h2⟩
  have hm:max f f'=f':=by omega
  rw[hm]
  refine⟨?_,rfl⟩
  by_cases hl:leE e e'
  ·rw[OD hl];exact TK h'
  ·have h3:e.1<=f':=by rcases h2 with h2 | h2;exact h2;exact absurd h2 hl
   have h4:leE e' e:=by rcases LS e e' with h4 | h4;exact absurd h4 hl;exact h4
   rw[JJ h4]
   unfold nrm
   rw[if_neg (by omega)]
   rcases h'.up with h5 | h5
   ·exact h5.symm
   ·have:=mI h4;omega
theorem HX{e f e' f'}:LeP e f (nrm (mxE e e') (max f f')) (max f f'):=by
 refine⟨by omega,?_⟩
 by_cases h:e.1<=max f f'
 ·exact .inl h
 ·have h4:=mI (FI e e')
  unfold nrm;rw[if_pos (by omega)];exact .inr (FI e e')
theorem HW{e f e' f'}:LeP e' f' (nrm (mxE e e') (max f f')) (max f f'):=by
 refine⟨by omega,?_⟩
 by_cases h:e'.1<=max f f'
 ·exact .inl h
 ·have h4:=mI (OC e e')
  unfold nrm;rw[if_pos (by omega)];exact .inr (OC e e')
theorem RY{e f e' f' e'' f''}(h0:0<=f'')(h:LeP e f e'' f'')(h':LeP e' f' e'' f''):LeP (nrm (mxE e e') (max f f')) (max f f') e'' f'':=by
 refine⟨by have:=h.1;have:=h'.1;omega,?_⟩
 unfold nrm
 split
 ·rcases HJ e e' with e1 | e1<;>rw[e1]
  ·exact h.2
  ·exact h'.2
 ·exact .inl h0
theorem DW{e f e' f'}(h:Pt e f)(h':Pt e' f')(h1:LeP e f e' f')(h2:LeP e' f' e f):e=e'/\f=f':=by
 have hf:f=f':=Int.le_antisymm h1.1 h2.1
 subst hf
 refine⟨?_,rfl⟩
 have hz:=h.nn
 rcases h.up with e0 | e0
 ·rcases h'.up with e1 | e1
  ·rw[e0,e1]
  ·rcases h2.2 with h3 | h3
   ·omega
   ·have:=mI h3;rw[e0,gI] at this;omega
 ·rcases h1.2 with h3 | h3
  ·omega
  ·rcases h2.2 with h4 | h4
   ·have:=mI h3;omega
   ·exact oS h3 h4
-- the order of states
structure Leq (a b:aJ):Prop where
 oka:StateOk a
 okb:StateOk b
 le:∀ i:Nat,i<5->LeP (ent a i) (flo a i) (ent b i) (flo b i)
theorem OQ{a b:aJ}:RV a b=true↔Leq a b:=by
 unfold RV
 rw[Bool.and_eq_true,Bool.and_eq_true,gK,aV,aV]
 constructor
 ·rintro ⟨ha,hb,e⟩
  refine⟨ha,hb,λi hi=>(JP (pD ha _) (pD hb _)).1 ?_⟩
  rw[<- nP a b hi,<- nN ha hi,e];exact⟨rfl,rfl⟩
 ·rintro ⟨ha,hb,h⟩
  refine⟨ha,hb,M2 (ha.join hb) hb λi hi=>?_⟩
  rw[nP a b hi,nN ha hi]
  exact(JP (pD ha _) (pD hb _)).2 (h i hi)
theorem Leq.join{a b:aJ}(h:Leq a b):dG a b=b:=by
 have:=OQ.2 h
 unfold RV at this
 rw[Bool.and_eq_true,Bool.and_eq_true,gK] at this
 exact this.2.2
theorem Leq.refl{a:aJ}(h:StateOk a):Leq a a:=⟨h,h,λi _=>LeP.refl _ _⟩
theorem Leq.trans{a b c:aJ}(h:Leq a b)(h':Leq b c):Leq a c:=⟨h.oka,h'.okb,λi hi=>(h.le i hi).trans (h'.le i hi)⟩
theorem Leq.antisymm{a b:aJ}(h:Leq a b)(h':Leq b a):a=b:=M2 h.oka h.okb λi hi=>DW (pD h.oka _) (pD h.okb _) (h.le i hi) (h'.le i hi)
theorem Leq.left{a b:aJ}(ha:StateOk a)(hb:StateOk b):Leq a (dG a b):=⟨ha,ha.join hb,λi hi=>by rw[nP a b hi,nN ha hi];exact HX⟩
theorem Leq.right{a b:aJ}(ha:StateOk a)(hb:StateOk b):Leq b (dG a b):=⟨hb,ha.join hb,λi hi=>by rw[nP a b hi,nN ha hi];exact HW⟩
theorem Leq.lub{a b c:aJ}(h:Leq a c)(h':Leq b c):Leq (dG a b) c:=⟨h.oka.join h'.oka,h.okb,λi hi=>by rw[nP a b hi,nN h.oka hi];exact RY (pD h.okb _).nn (h.le i hi) (h'.le i hi)⟩
theorem HZ{a b:aJ}(ha:StateOk a)(hb:StateOk b):dG a b=dG b a:=
 Leq.antisymm (Leq.lub (Leq.right hb ha) (Leq.left hb ha)) (Leq.lub (Leq.right ha hb) (Leq.left ha hb))
theorem Leq.joinR{a b:aJ}(h:Leq a b):dG b a=b:=by rw[HZ h.okb h.oka];exact h.join
theorem Leq.mono{a a' b b':aJ}(h:Leq a a')(h':Leq b b'):Leq (dG a b) (dG a' b'):=Leq.lub (h.trans (Leq.left h.okb h'.okb)) (h'.trans (Leq.right h.okb h'.okb))
theorem FG:StateOk iM:=(aV _).1 yD
theorem Leq.nil{a:aJ}(h:StateOk a):Leq iM a:=⟨FG,h,λi _=>⟨(pD h _).nn,.inl (pD h _).nn⟩⟩
-- what is over at a point
def iU(e:bF)(f:Int):Int:=if 1<=e.1 then(if e.2.1=0 then e.1 - 1 else e.1)else f
theorem sU{e:bF}(h:eD e=true):1<=e.1/\e.1<=1000/\(e.2.1=0\/e.2.1=1):=by
 unfold eD at h;simp only[Bool.and_eq_true,aP] at h;omega
theorem uJ{s:aJ}(h:StateOk s)(i:Int):gone s i=iU (ent s i) (flo s i):=by
 unfold gone iU
 rw[(aV s).2 h]
 rcases nQ h i with ⟨h1,_,h3,h4⟩ | ⟨h2,h3⟩
 ·have h5:=sU h4
  rw[h3,if_pos h1]
  show(bif(ent s i).2.1==0 then i64.wrap ((ent s i).1 - 1)else(ent s i).1)=_
  rcases h5.2.2 with e | e
  ·rw[e,if_pos rfl];show i64.wrap ((ent s i).1 - 1)=_;rw[IntKind.wrap_i64];omega
  ·rw[e,if_neg (by omega)];rfl
 ·rw[h3,h2,if_neg (by rw[gI];omega)];rfl
theorem FY{e:bF}{f:Int}(h:¬ 1<=e.1):iU e f=f:=by unfold iU;rw[if_neg h]
theorem FX{e:bF}{f:Int}(h:1<=e.1)(h':e.2.1=0):iU e f=e.1 - 1:=by unfold iU;rw[if_pos h,if_pos h']
theorem FZ{e:bF}{f:Int}(h:1<=e.1)(h':e.2.1≠0):iU e f=e.1:=by unfold iU;rw[if_pos h,if_neg h']
theorem AA{e:bF}{f:Int}(h:1<=e.1):e.1 - 1<=iU e f/\iU e f<=e.1:=by
 by_cases h':e.2.1=0
 ·rw[FX h h'];omega
 ·rw[FZ h h'];omega
theorem PA{e:bF}{f:Int}(h:Pt e f):f<=iU e f:=by
 by_cases h1:1<=e.1
 ·have h2:=AA (f:=f) h1
  rcases h.up with h3 | h3
  ·rw[h3,gI] at h1;omega
  ·omega
 ·rw[FY h1];omega
theorem H8{e f e' f'}(h:Pt e f)(h':Pt e' f')(hr:e.1=e'.1->e.2.1≠0->e.2.1<=e'.2.1->e'.2.1≠0)(hl:LeP e f e' f'):iU e f<=iU e' f':=by
 have g:=PA h'
 by_cases h1:1<=e.1
 ·have g1:=AA (f:=f) h1
  rcases hl.2 with h2 | h2
  ·omega
  ·have h3:=mI h2
   have h1':1<=e'.1:=by omega
   have g2:=AA (f:=f') h1'
   by_cases h4:e.1=e'.1
   ·by_cases h6:e.2.1=0
    ·rw[FX h1 h6];omega
    ·rw[FZ h1' (hr h4 h6 (OV h2 h4))];omega
   ·omega
 ·rw[FY h1];have:=hl.1;omega
theorem Leq.gone{a b:aJ}(h:Leq a b){i:Nat}(hi:i<5):gone a i<=Go.Abs.gone b i:=by
 rw[uJ h.oka,uJ h.okb]
 refine H8 (pD h.oka _) (pD h.okb _) (λh1 h2 h3=>?_) (h.le i hi)
 rcases nQ h.oka i with ⟨_,_,_,h4⟩ | ⟨h4,_⟩
 ·have:=sU h4;omega
 ·rw[h4] at h2;exact absurd rfl h2
end Go.Abs
-- pruning, tables and taking done twice: plain laws
namespace Go.Abs
theorem N3(f:Int)(h:0<=f):nrm dF f=dF:=by unfold nrm;rw[if_neg (by rw[gI];omega)]
theorem IE(s:aJ)(t:List bQ){i:Nat}(hi:i<5):flo (fC s t) i=max 0 (min (f7 t i) (gone s i)):=by
 have hm:mxI false (f7 t i) (gone s i)=min (f7 t i) (gone s i):=FH _ _
 unfold flo
 rcases eO (fC s t) i with ⟨x,hx,h1,e⟩ | ⟨h1,e⟩
 ·rw[e]
  obtain⟨j,_,hx⟩:=jP hx
  unfold iL at hx
  cases hd:decide (mxI false (f7 t j) (gone s j)>0)with
  | false=>rw[hd] at hx;cases hx
  | true=>
   rw[hd] at hx
   have e1:=List.mem_singleton.1 hx
   have h0:=of_decide_eq_true hd
   rw[e1] at h1 ⊢
   have h1:(j:Int)=(i:Int):=h1
   have h1:j=i:=by omega
   subst h1
   show mxI false (f7 t j) (gone s j)=_
   omega
 ·rw[e]
  by_cases h2:mxI false (f7 t i) (gone s i)>0
  ·refine absurd rfl (h1 ((i:Int),mxI false (f7 t i) (gone s i),()) ?_)
   exact List.mem_flatMap.2 ⟨i,List.mem_range.2 hi,by unfold iL;rw[decide_eq_true h2];exact List.mem_singleton.2 rfl⟩
  ·omega
theorem IK(s:aJ)(t:List bQ)(i:Int):ent (fC s t) i=dF:=by
 unfold ent
 rcases fH (fC s t) i with ⟨x,hx,h1,e⟩ | ⟨h1,e⟩
 ·cases hx
 ·rw[e]
theorem AE(s:aJ)(t:List bQ):StateOk (fC s t):=(aV _).1 (qB s t)
theorem tX{s:aJ}(h:StateOk s)(t:List bQ):prune s t=dG s (fC s t):=by unfold prune;rw[(aV s).2 h];rfl
theorem vG{s:aJ}(h:StateOk s)(t:List bQ):StateOk (prune s t):=(aV _).1 (zI ((aV s).2 h) t)
theorem L3{e:bF}{f g:Int}(h:Pt e f)(hr:1<=e.1->e.2.1=0\/e.2.1=1)(hg:g<=iU e f):iU (nrm (mxE e dF) (max f g)) (max f g)=iU e f:=by
 have h0:=h.nn
 rcases h.up with e0 | e1
 ·rw[e0,OD (nH dF)]
  rw[N3 _ (by omega)]
  rw[e0] at hg
  unfold iU at hg ⊢
  rw[if_neg (by rw[gI];omega)] at hg
  rw[if_neg (by rw[gI];omega),if_neg (by rw[gI];omega)];omega
 ·rw[JJ (MI (by omega))]
  unfold nrm
  have h1:1<=e.1:=by omega
  have hgo:iU e f=if e.2.1=0 then e.1 - 1 else e.1:=by unfold iU;rw[if_pos h1]
  by_cases hc:max f g<e.1
  ·rw[if_pos hc,hgo];unfold iU;rw[if_pos h1]
  ·rw[if_neg hc]
   rw[hgo] at hg ⊢
   unfold iU;rw[if_neg (by rw[gI];omega)]
   rcases hr h1 with h2 | h2
   ·rw[if_pos h2] at hg;omega
   ·rw[if_neg (by omega)] at hg ⊢;omega
theorem PM{s:aJ}(h:StateOk s)(i:Int):1<=(ent s i).1->(ent s i).2.1=0\/(ent s i).2.1=1:=by
 intro h1
 rcases nQ h i with ⟨_,_,_,h4⟩ | ⟨h4,_⟩
 ·exact(sU h4).2.2
 ·rw[h4,gI] at h1;omega
theorem z9{s:aJ}(h:StateOk s)(t:List bQ){i:Nat}(hi:i<5):gone (prune s t) i=gone s i:=by
 have hg:=R6 ((aV s).2 h) (i:Int)
 rw[uJ (vG h t),tX h,nP _ _ hi,nN h hi,IK,IE s t hi,uJ h]
 rw[uJ h] at hg
 exact L3 (pD h _) (PM h _) (by omega)
theorem tB{α:Type}{g g':Nat->List α}:∀ {n:Nat},(∀ i,i<n->g i=g' i)->bR n g=bR n g'
 | 0,_=>rfl
 | n+1,h=>by rw[eE,eE,tB (n:=n) λi hi=>h i (by omega),h n (by omega)]
theorem AF{s s':aJ}(t:List bQ)(h:∀ i:Nat,i<5->gone s i=gone s' i):fC s t=fC s' t:=by
 have:bR 5 (iL s t)=bR 5 (iL s' t):=tB λi hi=>by unfold iL;rw[h i hi]
 unfold fC;rw[this]
theorem BG{s s':aJ}(h:∀ i:Nat,i<5->gone s i=gone s' i):cX s=cX s':=by
 unfold cX;exact tB λi hi=>by unfold kU;rw[h i hi]
theorem E9{s:aJ}(h:StateOk s)(t:List bQ):prune (prune s t) t=prune s t:=by
 have hp:=vG h t
 rw[tX hp,AF (s:=prune s t) (s':=s) t λi hi=>z9 h t hi]
 refine Leq.joinR ?_
 rw[tX h];exact Leq.right h (AE s t)
theorem LE{s:aJ}(h:StateOk s)(t:List bQ):Leq s (prune s t):=by rw[tX h];exact Leq.left h (AE s t)
theorem FN{s:aJ}(h:StateOk s)(t:List bQ):cX (prune s t)=cX s:=BG λi hi=>z9 h t hi
-- rows that hold marks already
def P7(t:List bQ)(k j:Nat):Int:=(gt (gt t k).1 j).1
def Cov(t:List bQ)(k:Int)(ms:List aU):Prop:=∀ i,i<ms.length->(gt ms i).2.1<=P7 t k.toNat (gt ms i).1.toNat
def DoneT(t:List bQ)(k:Int)(ms:List aU):Prop:=pB t k ms=true->Cov t k ms
theorem I4{t t':List bQ}(hl:t.length=t'.length)(hr:∀ j,(gt t j).1.length=(gt t' j).1.length)(k:Int)(ms:List aU):pB t k ms=pB t' k ms:=by
 unfold pB;rw[hl,hr]
theorem GN(t:List bQ)(k k':Int)(ms ms':List aU):pB (bO t k' ms') k ms=pB t k ms:=
 I4 (dD t k' ms') (λj=>fA t k' ms' j) k ms
theorem GK(r:bQ)(ms:List aU):∀ i j,(gt r.1 j).1<=(gt (kQ r ms i).1 j).1
 | 0,_=>Int.le_refl _
 | i+1,j=>by
  have ih:=GK r ms i j
  show _<=(gt (List.set (kQ r ms i).1 (gt ms i).1.toNat (mxI true (gt (kQ r ms i).1 (gt ms i).1.toNat).1 (gt ms i).2.1,())) j).1
  rcases Nat.lt_or_ge (gt ms i).1.toNat (kQ r ms i).1.length with h | h
  ·by_cases e:(gt ms i).1.toNat=j
   ·rw[e] at h ⊢
    rw[cC h]
    show _<=mxI true _ _
    rw[rR];omega
   ·rw[eC e];exact ih
  ·rw[List.set_eq_of_length_le h];exact ih
theorem wG(r:bQ){ms:List aU}(h:∀ i,i<ms.length->(gt ms i).1.toNat<r.1.length):∀ n,n<=ms.length->∀ i,i<n->(gt ms i).2.1<=(gt (kQ r ms n).1 (gt ms i).1.toNat).1
 | 0,_,_,hi=>by omega
 | n+1,hn,i,hi=>by
  show _<=(gt (List.set (kQ r ms n).1 (gt ms n).1.toNat (mxI true (gt (kQ r ms n).1 (gt ms n).1.toNat).1 (gt ms n).2.1,())) (gt ms i).1.toNat).1
  have hl:(gt ms n).1.toNat<(kQ r ms n).1.length:=by rw[nW];exact h n (by omega)
  by_cases e:(gt ms n).1.toNat=(gt ms i).1.toNat
  ·rw[e] at hl ⊢
   rw[cC hl]
   show _<=mxI true _ _
   rw[rR]
   by_cases c:i=n
   ·subst c;omega
   ·have:=wG r h n (by omega) i (by omega);omega
  ·rw[eC e]
   exact wG r h n (by omega) i (by
    rcases Nat.lt_or_ge i n with c | c
    ·exact c
    ·exact absurd (by rw[show i=n by omega]) e)
theorem GJ{r:bQ}{ms:List aU}(h:∀ i,i<ms.length->(gt ms i).2.1<=(gt r.1 (gt ms i).1.toNat).1):∀ n,n<=ms.length->kQ r ms n=r
 | 0,_=>rfl
 | n+1,hn=>by
  show DD (kQ r ms n) (gt ms n)=r
  rw[GJ h n (by omega)]
  have:=h n (by omega)
  unfold DD
  rw[rR,show max (gt r.1 (gt ms n).1.toNat).1 (gt ms n).2.1=(gt r.1 (gt ms n).1.toNat).1 by omega]
  show(r.1.set (gt ms n).1.toNat (gt r.1 (gt ms n).1.toNat),())=r
  rw[sE]
structure AddOk (t:List bQ) (k:Int) (ms:List aU):Prop where
 kn:k.toNat<t.length
 mok:fJ ms=true
 row:5<=(gt t k.toNat).1.length
theorem QC{t:List bQ}{k:Int}{ms:List aU}(hl:t.length<=aW)(h:pB t k ms=true):AddOk t k ms:=by
 unfold pB at h
 simp only[Bool.and_eq_true,Bool.not_eq_true',decide_eq_false_iff_not] at h
 exact⟨(yG hl h.1).1,h.2.1,by omega⟩
theorem AddOk.ids{t:List bQ}{k:Int}{ms:List aU}(h:AddOk t k ms):∀ i,i<ms.length->(gt ms i).1.toNat<(gt t k.toNat).1.length:=λi hi=>by
 have h1:=uD h.mok hi;have h2:=h.row;omega
theorem QB{t:List bQ}(hl:t.length<=aW)(k:Int)(ms:List aU):DoneT (bO t k ms) k ms:=by
 intro hb
 rw[GN] at hb
 have ho:=QC hl hb
 intro i hi
 unfold P7 bO
 rw[hb]
 show _<=(gt (gt (cP t k.toNat ms ms.length) k.toNat).1 _).1
 unfold cP
 rw[cC ho.kn]
 exact wG _ ho.ids _ (Nat.le_refl _) i hi
theorem T7(t:List bQ)(k:Int)(ms:List aU)(q j:Nat):P7 t q j<=P7 (bO t k ms) q j:=by
 unfold P7 bO
 cases pB t k ms with
 | false=>exact Int.le_refl _
 | true=>
  show _<=(gt (gt (cP t k.toNat ms ms.length) q).1 j).1
  unfold cP
  rcases Nat.lt_or_ge k.toNat t.length with h | h
  ·by_cases e:k.toNat=q
   ·subst e;rw[cC h];exact GK _ _ _ _
   ·rw[eC e];exact Int.le_refl _
  ·rw[List.set_eq_of_length_le h];exact Int.le_refl _
theorem DoneT.add{t:List bQ}{k:Int}{ms:List aU}(h:DoneT t k ms)(k':Int)(ms':List aU):DoneT (bO t k' ms') k ms:=λhb i hi=>by
 rw[GN] at hb
 exact Int.le_trans (h hb i hi) (T7 t k' ms' _ _)
theorem DoneT.eq{t:List bQ}{k:Int}{ms:List aU}(h:DoneT t k ms):bO t k ms=t:=by
 unfold bO
 cases hb:pB t k ms with
 | false=>rfl
 | true=>
  show cP t k.toNat ms ms.length=t
  unfold cP
  rw[GJ (h hb) _ (Nat.le_refl _)]
  exact sE
-- vectors that are raised already
theorem EF(v:List aO)(k n:Int)(j:Nat):(gt v j).1<=(gt (cZ v k n) j).1:=by
 rcases pL v k n j with e | e<;>rw[e]<;>omega
-- rises that are up to date
def RisesUp(rs:List jQ)(xs:List bK):Prop:=∀ i,i<xs.length->pV (gt rs (gt xs i).1.toNat) (gt xs i).2=false
theorem KU(clock:Int)(r:jQ)(e:bF):pV (mT clock r e) e=false:=by
 unfold mT
 cases h:pV r e with
 | false=>exact h
 | true=>unfold pV;simp
theorem RisesUp.eq{clock:Int}{rs:List jQ}{xs:List bK}(h:RisesUp rs xs):∀ n,n<=xs.length->dI clock rs xs n=rs
 | 0,_=>rfl
 | n+1,hn=>by
  show(dI clock rs xs n).set (gt xs n).1.toNat (mT clock (gt (dI clock rs xs n) (gt xs n).1.toNat) (gt xs n).2)=rs
  rw[h.eq n (by omega)]
  unfold mT
  rw[h n (by omega)]
  exact sE
theorem BT{clock:Int}{rs:List jQ}{xs:List bK}(hl:∀ i,i<xs.length->(gt xs i).1.toNat<rs.length)(hd:∀ i j,i<j->j<xs.length->(gt xs i).1.toNat≠(gt xs j).1.toNat):
  ∀ n,n<=xs.length->∀ i,i<n->pV (gt (dI clock rs xs n) (gt xs i).1.toNat) (gt xs i).2=false
 | 0,_,_,hi=>by omega
 | n+1,hn,i,hi=>by
  show pV (gt ((dI clock rs xs n).set (gt xs n).1.toNat (mT clock (gt (dI clock rs xs n) (gt xs n).1.toNat) (gt xs n).2)) (gt xs i).1.toNat) (gt xs i).2=false
  by_cases c:i=n
  ·subst c
   rw[cC (by rw[gX];exact hl i (by omega))]
   exact KU _ _ _
  ·rw[eC (λe=>hd i n (by omega) (by omega) e.symm)]
   exact BT hl hd n (by omega) i (by omega)
theorem LV{s:aJ}(h:StateOk s):(∀ i,i<s.1.length->(gt s.1 i).1.toNat<5)/\∀ i j,i<j->j<s.1.length->(gt s.1 i).1.toNat≠(gt s.1 j).1.toNat:=by
 refine⟨λi hi=>?_,λi j hij hj e=>?_⟩
 ·obtain⟨k,hk,e⟩:=nD (h.item _ (cJ hi)).1;omega
 ·obtain⟨k,hk,e1⟩:=nD (h.item _ (cJ (i:=i) (by omega))).1
  obtain⟨k',hk',e2⟩:=nD (h.item _ (cJ hj)).1
  have hp:=h.items
  rw[List.pairwise_iff_getElem] at hp
  have:=hp i j (by omega) hj hij
  rw[<- cK (by omega),<- cK hj] at this
  omega
-- a node at rest
structure Rest (x:NodeT):Prop where
 ok:StateOk x.state
 seen:DoneT x.seen x.1 (cX x.state)
 prune:prune x.state x.seen=x.state
 tree:cI x.state=x.tree
 rises:RisesUp x.rises x.state.1
theorem Rest.take{x:NodeT}(h:Rest x){s:aJ}(hs:Leq s x.state):jG x s=x:=by
 have e1:dG x.state s=x.state:=hs.joinR
 have e2:tkS x s=x.seen:=by unfold tkS;rw[e1];exact h.seen.eq
 have e3:tkP x s=x.state:=by unfold tkP;rw[e2,e1];exact h.prune
 have e4:tkR x s=x.rises:=by unfold tkR;rw[e3];exact h.rises.eq _ (Nat.le_refl _)
 unfold jG
 rw[e2,e4,e3,h.tree]
theorem GY{x:NodeT}(h:NodeOk x)(hl:x.seen.length<=aW){s:aJ}(hs:StateOk s):Rest (jG x s):=by
 have hx:=(aV _).1 h.state
 have hj:=hx.join hs
 have e:(jG x s).state=tkP x s:=rfl
 have hm:cX (tkP x s)=cX (dG x.state s):=FN hj _
 have hp:StateOk (tkP x s):=vG hj _
 refine⟨hp,?_,?_,rfl,?_⟩
 ·show DoneT (tkS x s) x.1 (cX (tkP x s))
  rw[hm];exact QB hl _ _
 ·show prune (tkP x s) (tkS x s)=tkP x s
  exact E9 hj _
 ·show RisesUp (tkR x s) (tkP x s).1
  have hi:=LV hp
  have hr:=h.rises
  rw[beq_iff_eq] at hr
  exact λi hi'=>BT (λi hi''=>by have:=hi.1 i hi'';omega) hi.2 _ (Nat.le_refl _) i hi'
theorem KG{x:NodeT}(h:NodeOk x){s:aJ}(hs:StateOk s):Leq x.state (jG x s).state/\Leq s (jG x s).state:=by
 have hx:=(aV _).1 h.state
 have hj:=hx.join hs
 have hp:Leq (dG x.state s) (jG x s).state:=LE hj _
 exact⟨(Leq.left hx hs).trans hp,(Leq.right hx hs).trans hp⟩
-- hearing twice
structure Heard (x:NodeT) (m:MsgT):Prop where
 rest:Rest x
 acked:cZ x.acked m.2.1 (mxI false (gt m.vec x.1.toNat).1 (cE x.log))=x.acked
 seen:DoneT x.seen m.2.1 m.marks
theorem Heard.eq{x:NodeT}{m:MsgT}(h:Heard x m):eF x m=x:=by
 have e:heard0 x m=x:=by
  unfold heard0
  rw[h.acked,h.seen.eq]
 unfold eF
 rw[e];exact h.rest.take (Leq.nil h.rest.ok)
theorem Heard.take{x:NodeT}{m:MsgT}(h:Heard x m)(ho:NodeOk x)(hl:x.seen.length<=aW){s:aJ}(hs:StateOk s):Heard (jG x s) m:=
 ⟨GY ho hl hs,h.acked,h.seen.add _ _⟩
theorem Heard.gotUp{x:NodeT}{m:MsgT}(h:Heard x m):Heard (gotUp x m) m:=⟨⟨h.rest.ok,h.rest.seen,h.rest.prune,h.rest.tree,h.rest.rises⟩,h.acked,h.seen⟩
end Go.Abs
-- receiving twice, and what receiving keeps: plain laws
namespace Go.Abs
-- what receiving keeps
def VLe(a b:List aO):Prop:=a.length=b.length/\∀ i,(gt a i).1<=(gt b i).1
theorem VLe.refl(a:List aO):VLe a a:=⟨rfl,λ_=>Int.le_refl _⟩
theorem VLe.trans{a b c:List aO}(h:VLe a b)(h':VLe b c):VLe a c:=⟨h.1.trans h'.1,λi=>Int.le_trans (h.2 i) (h'.2 i)⟩
theorem VLe.raise(v:List aO)(k n:Int):VLe v (cZ v k n):=⟨(fW v k n).symm,EF v k n⟩
structure Kept (x y:NodeT):Prop where
 state:Leq x.state y.state
 got:VLe x.got y.got
 acked:VLe x.acked y.acked
theorem NodeOk.st{x:NodeT}(h:NodeOk x):StateOk x.state:=(aV _).1 h.state
theorem Kept.refl{x:NodeT}(h:NodeOk x):Kept x x:=⟨Leq.refl h.st,VLe.refl _,VLe.refl _⟩
theorem Kept.trans{x y z:NodeT}(h:Kept x y)(h':Kept y z):Kept x z:=⟨h.state.trans h'.state,h.got.trans h'.got,h.acked.trans h'.acked⟩
theorem Kept.take{x:NodeT}(h:NodeOk x){s:aJ}(hs:StateOk s):Kept x (jG x s):=⟨(KG h hs).1,VLe.refl _,VLe.refl _⟩
theorem Kept.heard{x:NodeT}(h:NodeOk x)(m:MsgT):Kept x (eF x m):=
 Kept.trans (y:=heard0 x m) ⟨Leq.refl h.st,VLe.refl _,VLe.raise _ _ _⟩ (Kept.take (h.heard0 m) FG)
theorem Kept.brought{x:NodeT}(h:NodeOk x){m:MsgT}(hp:aS m.part=true):Kept x (eB x m):=by
 have h1:=(Kept.heard h m).trans (Kept.take (h.heard m) ((aV _).1 hp))
 exact⟨h1.state,h1.got.trans (VLe.raise _ _ _),h1.acked⟩
theorem Kept.with{x:NodeT}(h:NodeOk x)(ss:List dM):Kept x (withS x ss):=⟨Leq.refl h.st,VLe.refl _,VLe.refl _⟩
-- what is answered
theorem NE{a b:List aO}(h:gB a b=true):a=b:=by
 unfold gB at h
 simp only[Bool.and_eq_true,beq_iff_eq,bI] at h
 exact IJ (by omega) λi hi=>Prod.ext (by have:=h.2 i hi;simpa using this) rfl
theorem NodeOk.treeB{x:NodeT}(h:NodeOk x):treeB x.tree=true:=by
 have h1:=h.tree
 unfold tH at h1
 rw[Bool.and_eq_true] at h1
 have e1:x.tree.1=(cI x.state).1:=NE h1.1
 have e2:x.tree.2.1=(cI x.state).2.1:=eq_of_beq h1.2
 have e:x.tree=cI x.state:=Prod.ext e1 (Prod.ext e2 rfl)
 rw[e];exact MR h.state
theorem GQ{v:List aO}{n:Int}(h:eG v n=true):nC v 100000=true/\(v.length:Int)=n/\1<=n/\n<=5:=by
 unfold eG at h
 simp only[Bool.and_eq_true,beq_iff_eq,aP] at h
 exact⟨h.2.2,h.2.1,h.1⟩
def RX(v:List aO):Bool:=bL v.length (FS v)
/-- A message that a right node writes is right. -/
theorem NodeOk.says {x:NodeT} (h:NodeOk x) {k to num:Int} {tree:kX} {leaves:List aO} {part:aJ} (hk:0<=k/\k<=5) (ht:0<=to/\to<=4/\to≠x.1) (hn:inB num 0 100000=true)
  (hT:Go.Abs.treeB tree=true) (hl:RX leaves=true) (hp:aS part=true):
  eX (k,x.1,to,num,cE x.log,tree.1,tree.2.1,x.got,leaves,part.1,part.2.1,cX x.state,())=true:=by
 have hv:=GQ h.got
 have hid:=h.id
 have hl2:=CC h.log
 rw[aP,IntKind.wrap_i64] at hid
 rw[aP] at hn
 unfold eX uA eM
 simp only[Bool.and_eq_true,aP,Bool.not_eq_true',beq_eq_false_iff_ne,decide_eq_true_eq]
 exact⟨⟨hk,by show 0<=x.1/\x.1<=4;omega,by show 0<=to/\to<=4;omega,λe=>ht.2.2 e.symm⟩,hl,hv.1,hn,hl2,hT,by show(x.got.length:Int)<=5;omega,hp,HM _⟩
structure Ans (x:NodeT) (m q:MsgT):Prop where
 ok:eX q=true
 frm:q.2.1=x.1
 to:q.2.2.1=m.2.1
 num:q.2.2.2.1=m.2.2.2.1
theorem RecOk.peer{x:NodeT}{m:MsgT}(h:RecOk x m):0<=m.2.1/\m.2.1<=4/\m.2.1≠x.1:=by
 have h1:=h.frm;have h2:=h.idn;exact⟨by omega,by omega,h.ne⟩
-- vectors compared
def atV(v:List aO)(i:Int):Int:=bif inB i 0 (i64.wrap ((v.length:Int) - 1))then(gt v i.toNat).1 else 0
def MP(a b:List aO):Bool:=bL a.length λi=> !decide ((gt a i).1>atV b (i:Int))
theorem VLe.leq{a b:List aO}(h:VLe a b)(hl:b.length<=aW):MP a b=true:=by
 unfold MP;rw[bI]
 intro i hi
 have h1:=h.1;have h2:=h.2 i
 unfold atV
 rw[aP.2 (by rw[IntKind.wrap_i64];unfold aW at hl;omega)]
 show(!decide ((gt a i).1>(gt b ((i:Int)).toNat).1))=true
 rw[Int.toNat_natCast,decide_eq_false (by omega)];rfl
end Go.Abs
namespace Go.Abs
open Go
-- a number read back: what lies at place i of b, five bytes at most
def xR(b:List aO)(i:Nat):Nat->Nat->Nat->Option (Nat×Nat)
 | 0,_,_=>none
 | n+1,k,acc=>
  if i+k<b.length then
   if 128<=(gt b (i+k)).1.toNat then xR b i n (k+1) (acc+(gt b (i+k)).1.toNat % 128*128 ^ k)
   else if 0<k/\(gt b (i+k)).1.toNat=0 then none
   else if acc+(gt b (i+k)).1.toNat*128 ^ k>2147483647 then none
   else some (acc+(gt b (i+k)).1.toNat*128 ^ k,i+k+1)
  else none
def AB(b:List aO)(i:Nat):Option (Nat×Nat):=xR b i 5 0 0
theorem H7(u v:List aO)(x:aO):gt (u++x::v) u.length=x:=by
 rw[cK (by simp)];simp
theorem PD(v:List aO):∀ (m n k acc i:Nat) (u:List aO),n<128 ^ (m+1)->(0<k->0<n)->acc+n*128 ^ k<=2147483647->i+k=u.length->
  xR (u++hZ n++v) i (m+1) k acc=some (acc+n*128 ^ k,i+k+(hZ n).length):=by
 intro m
 induction m with
 | zero=>
  intro n k acc i u h h0 hb hi
  have hn:n<128:=by simpa using h
  have e:hZ n=[((n:Int),())]:=by unfold hZ;rw[dif_pos hn]
  rw[e]
  have eg:gt (u++[((n:Int),())]++v) (i+k)=((n:Int),()):=by rw[hi,List.append_assoc];exact H7 u v _
  unfold xR
  rw[eg,if_pos (by rw[hi];simp)]
  show(if 128<=((n:Int)).toNat then _ else _)=_
  rw[Int.toNat_natCast,if_neg (by omega),if_neg (by omega),if_neg (by omega)];rfl
 | succ m ih=>
  intro n k acc i u h h0 hb hi
  by_cases hn:n<128
  ·have e:hZ n=[((n:Int),())]:=by unfold hZ;rw[dif_pos hn]
   rw[e]
   have eg:gt (u++[((n:Int),())]++v) (i+k)=((n:Int),()):=by rw[hi,List.append_assoc];exact H7 u v _
   unfold xR
   rw[eg,if_pos (by rw[hi];simp)]
   show(if 128<=((n:Int)).toNat then _ else _)=_
   rw[Int.toNat_natCast,if_neg (by omega),if_neg (by omega),if_neg (by omega)];rfl
  ·have e:hZ n=(((n % 128+128:Nat):Int),())::hZ (n / 128):=by conv=>lhs;unfold hZ;rw[dif_neg hn]
   have hm:n % 128*128 ^ k+n / 128*128 ^ (k+1)=n*128 ^ k:=by
    have:=Nat.mod_add_div n 128
    rw[Nat.pow_succ,show n / 128*(128 ^ k*128)=128*(n / 128)*128 ^ k by ac_rfl,<- Nat.add_mul,this]
   have eb:u++hZ n++v=(u++[(((n % 128+128:Nat):Int),())])++hZ (n / 128)++v:=by rw[e];simp
   have eg:gt (u++hZ n++v) (i+k)=(((n % 128+128:Nat):Int),()):=by rw[hi,e,List.append_assoc];exact H7 u _ _
   have hl:i+k<(u++hZ n++v).length:=by rw[e,hi];simp
   have ih':=ih (n / 128) (k+1) (acc+n % 128*128 ^ k) i (u++[(((n % 128+128:Nat):Int),())]) (by rw[Nat.pow_succ] at h;exact Nat.div_lt_of_lt_mul (by omega)) (λ_=>by omega) (by omega) (by rw[List.length_append,List.length_singleton];omega)
   rw[<- eb] at ih'
   unfold xR
   rw[if_pos hl,eg]
   show(if 128<=(((n % 128+128:Nat):Int)).toNat then _ else _)=_
   rw[Int.toNat_natCast,if_pos (by omega),show(n % 128+128) % 128=n % 128 by omega,ih',e]
   rw[List.length_cons]
   congr 2
   ·omega
   ·omega
theorem H9(u v:List aO){n:Nat}(h:n<=2147483647):AB (u++hZ n++v) u.length=some (n,u.length+(hZ n).length):=by
 have:=PD v 4 n 0 0 u.length u (by omega) (λh=>absurd h (by omega)) (by omega) rfl
 unfold AB;rw[this];simp
end Go.Abs
namespace Go.Abs
open Go
theorem R7{b:List aO}{i:Nat}:∀ (n k acc:Nat) {x j:Nat},xR b i n k acc=some (x,j)->x<=2147483647/\j<=b.length/\i+k<j:=by
 intro n
 induction n with
 | zero=>intro k acc x j h;unfold xR at h;exact absurd h (by simp)
 | succ n ih=>
  intro k acc x j h
  unfold xR at h
  split at h
  ·split at h
   ·have:=ih _ _ h;omega
   ·split at h
    ·cases h
    ·split at h
     ·cases h
     ·cases h;omega
  ·cases h
theorem xS{n:Nat}(h:n<9223372036854775808):i64.wrap (n:Int)=(n:Int):=by
 rw[IntKind.wrap_i64];omega
theorem SJ{k:Nat}(hk:k<5):i64.wrap ((7:Int)*(k:Int))=((7*k:Nat):Int):=by
 rw[IntKind.wrap_i64];omega
theorem QY{x k:Nat}(hx:x<128)(hk:k<5):ES i64 (x:Int) (i64.wrap ((7:Int)*(k:Int)))=((x*128 ^ k:Nat):Int):=by
 rw[SJ hk]
 unfold ES
 rw[Int.toNat_natCast]
 have h:k=0\/k=1\/k=2\/k=3\/k=4:=by omega
 rcases h with rfl | rfl | rfl | rfl | rfl
 ·rw[show(2:Int) ^ (min (7*0) i64.bits)=1 by decide,IntKind.wrap_i64];omega
 ·rw[show(2:Int) ^ (min (7*1) i64.bits)=128 by decide,IntKind.wrap_i64];omega
 ·rw[show(2:Int) ^ (min (7*2) i64.bits)=16384 by decide,IntKind.wrap_i64];omega
 ·rw[show(2:Int) ^ (min (7*3) i64.bits)=2097152 by decide,IntKind.wrap_i64];omega
 ·rw[show(2:Int) ^ (min (7*4) i64.bits)=268435456 by decide,IntKind.wrap_i64];omega
theorem EI(x:Nat):((x:Int)).tmod 128=((x % 128:Nat):Int):=by
 rw[Int.tmod_eq_emod_of_nonneg (by omega)];omega
theorem UM{k:Nat}(hk:k<5):128 ^ k<=268435456:=by
 have h:k=0\/k=1\/k=2\/k=3\/k=4:=by omega
 rcases h with rfl | rfl | rfl | rfl | rfl<;>decide
theorem TH{a x k:Nat}(ha:a<128 ^ k)(hx:x<128)(hk:k<5):orI i64 (a:Int) ((x*128 ^ k:Nat):Int)=((a+x*128 ^ k:Nat):Int):=by
 have hp:=UM hk
 have hm:x*128 ^ k<=127*268435456:=Nat.mul_le_mul (by omega) hp
 unfold orI
 have e:(BitVec.ofInt i64.bits (a:Int)||| BitVec.ofInt i64.bits ((x*128 ^ k:Nat):Int)).toNat=a+x*128 ^ k:=by
  rw[BitVec.toNat_or,BitVec.ofInt_natCast,BitVec.ofInt_natCast,BitVec.toNat_ofNat,BitVec.toNat_ofNat]
  rw[Nat.mod_eq_of_lt (show a<2 ^ i64.bits by show a<2 ^ 64;omega),Nat.mod_eq_of_lt (show x*128 ^ k<2 ^ i64.bits by show x*128 ^ k<2 ^ 64;omega)]
  have h2:128 ^ k=2 ^ (7*k):=by rw[Nat.pow_mul]
  rw[h2] at ha ⊢
  rw[Nat.or_comm,Nat.mul_comm x,<- Nat.two_pow_add_eq_or_of_lt ha];omega
 rw[e];exact xS (by omega)
theorem T8{a x k:Nat}(ha:a<128 ^ k):a+x % 128*128 ^ k<128 ^ (k+1):=by
 have h:x % 128<128:=Nat.mod_lt _ (by omega)
 have h2:x % 128*128 ^ k<=127*128 ^ k:=Nat.mul_le_mul (by omega) (Nat.le_refl _)
 rw[Nat.pow_succ];omega
end Go.Abs
/- Plain laws: worlds compared. -/
namespace Go.Abs
def iS{α:Type}(a b:List α):Bool:=(a.length:Int)==(b.length:Int)
theorem rC{α:Type}{a b:List α}:iS a b=true↔a.length=b.length:=by unfold iS;rw[beq_iff_eq];omega
def pS{α:Type}[Inhabited α](f:α->α->Bool)(a b:List α):Bool:=iS a b&&bL a.length λi=>f (gt a i) (gt b i)
def cL(a b:List aO):Bool:=ByteArray.toList (cR a)==ByteArray.toList (cR b)
def vM(a b:bQ):Bool:=gB a.1 b.1
def qF(x y:dM):Bool:=gG x.1 y.1&&(gG x.2.1 y.2.1&&(nU x.2.2.1 y.2.2.1&&(gG x.2.2.2.1 y.2.2.2.1&&true)))
def mZ(x y:jQ):Bool:=gG x.1 y.1&&(gG x.2.1 y.2.1&&(gG x.2.2.1 y.2.2.1&&true))
def C1(a b:kX):Bool:=gB a.1 b.1&&a.2.1==b.2.1
def z2(a b:f8):Bool:=a.1==b.1&&(a.2.1==b.2.1&&pS eY a.2.2.1 b.2.2.1)
def zP(a b:NodeT):Bool:=a.1==b.1&&(a.2.1==b.2.1&&(a.num==b.num&&(a.slots==b.slots&&(a.wait==b.wait&&(a.limit==b.limit&&(a.clock==b.clock&&(pS vM a.seen b.seen&&(eY a.state b.state&&(C1 a.tree b.tree&&(z2 a.log b.log&&(gB a.got b.got&&(gB a.acked b.acked&&(pS qF a.sess b.sess&&pS mZ a.rises b.rises)))))))))))))
def yC(a b:NodeT):Bool:=a.1==b.1&&(a.2.1==b.2.1&&(eY a.state b.state&&(C1 a.tree b.tree&&(z2 a.log b.log&&(gB a.got b.got&&(gB a.acked b.acked&&(iS a.seen b.seen&&(a.num==b.num&&(a.slots==b.slots&&(a.wait==b.wait&&(a.limit==b.limit&&(a.clock==b.clock&&(iS a.sess b.sess&&(iS a.rises b.rises&&
 (bL a.seen.length (λi=>vM (gt a.seen i) (gt b.seen i))&&(bL a.sess.length (λi=>qF (gt a.sess i) (gt b.sess i))&&bL a.rises.length λi=>mZ (gt a.rises i) (gt b.rises i)))))))))))))))))
theorem N6(a b:NodeT):yC a b=zP a b:=by
 unfold yC zP pS;ac_rfl
end Go.Abs
-- bytes read back: plain laws of readers
namespace Go.Abs
open Go
def B8(b:List aO):Prop:=∀ k,k<b.length->∃ y:Nat,(gt b k).1=(y:Int)/\y<=255
def ByL(b:List aO):Prop:=∀ x∈b,∃ y:Nat,x.1=(y:Int)/\y<=255
theorem ByL.b8{b:List aO}(h:ByL b):B8 b:=λk hk=>h _ (cJ hk)
theorem B8.byL{b:List aO}(h:B8 b):ByL b:=λx hx=>by
 obtain⟨i,hi,e⟩:=fZ hx
 rw[<- e];exact h i hi
theorem ByL.app{a b:List aO}(ha:ByL a)(hb:ByL b):ByL (a++b):=λx hx=>by
 rcases List.mem_append.1 hx with h | h
 ·exact ha x h
 ·exact hb x h
theorem ByL.flat{α:Type}{f:α->List aO}(h:∀ x,ByL (f x))(xs:List α):ByL (xs.flatMap f):=λx hx=>by
 obtain⟨a,_,ha⟩:=List.mem_flatMap.1 hx
 exact h a x ha
theorem ByL.sub{a b:List aO}(h:ByL b)(hs:∀ x∈a,x∈b):ByL a:=λx hx=>h x (hs x hx)
theorem RG(n:Nat):ByL (hZ n):=by
 induction n using Nat.strongRecOn with
 | _ n ih=>
  unfold hZ
  split
  ·rename_i h
   intro b hb
   rw[List.mem_singleton.1 hb];exact⟨n,rfl,by omega⟩
  ·rename_i h
   intro b hb
   rcases List.mem_cons.1 hb with e | e
   ·rw[e];exact⟨n % 128+128,rfl,by omega⟩
   ·exact ih (n / 128) (Nat.div_lt_self (by omega) (by omega)) b e
theorem dX(x:Int):ByL (aN x):=by
 unfold aN
 cases inB x 0 2147483647 with
 | false=>intro b hb;cases hb
 | true=>exact RG _
theorem ME(t:ByteArray):ByL (fQ t):=λb hb=>by
 unfold fQ eP at hb
 obtain⟨u,_,rfl⟩:=List.mem_map.1 hb
 have:=u.toNat_lt
 exact⟨u.toNat,rfl,by omega⟩
theorem HB(t:ByteArray):ByL (dU t):=(dX _).app (ME t)
theorem DX(x:bK):ByL (bB x):=by
 unfold bB;exact(((((dX _).app (dX _)).app (dX _)).app (dX _)).app (dX _)).app (HB _)
theorem rT(f:aU):ByL (bD f):=(dX _).app (dX _)
theorem v8(s:aJ):ByL (bS s):=(((dX _).app (ByL.flat DX _)).app (dX _)).app (ByL.flat rT _)
theorem CQ{l:List aO}(h:ByL l):fQ (cR l)=l:=by
 show List.map (λb:UInt8=>(((b.toNat:Nat):Int),())) (List.map (λr:aO=>UInt8.ofNat (Int.toNat r.1)) l)=l
 rw[List.map_map]
 conv=>rhs;rw[<- List.map_id l]
 refine List.map_congr_left λx hx=>?_
 obtain⟨y,hy,hy2⟩:=h x hx
 obtain⟨z,u⟩:=x
 have hy:z=(y:Int):=hy
 subst hy
 show((((UInt8.ofNat ((y:Int)).toNat).toNat:Nat):Int),())=((y:Int),u)
 rw[Int.toNat_natCast,UInt8.toNat_ofNat',Nat.mod_eq_of_lt (by omega)]
theorem MD(s:ByteArray):cR (fQ s)=s:=by
 have e:List.map (λr:aO=>UInt8.ofNat (Int.toNat r.1)) (fQ s)=s.data.toList:=by
  show List.map _ (List.map (λb:UInt8=>(((b.toNat:Nat):Int),())) s.data.toList)=_
  rw[List.map_map]
  conv=>rhs;rw[<- List.map_id s.data.toList]
  refine List.map_congr_left λx hx=>?_
  show UInt8.ofNat (((x.toNat:Nat):Int)).toNat=x
  rw[Int.toNat_natCast];simp
 exact congrArg (λl:List UInt8=>(⟨l.toArray⟩:ByteArray)) e
theorem mL{a b:List aO}(ha:ByL a)(hb:ByL b):cL a b=true↔a=b:=by
 unfold cL
 rw[beq_iff_eq,ByteArray.toList_eq,ByteArray.toList_eq]
 constructor
 ·intro h
  have:fQ (cR a)=fQ (cR b):=by unfold fQ eP;rw[h]
  rwa [CQ ha,CQ hb] at this
 ·rintro rfl;rfl
-- readers
abbrev RdT:Type:=List aO×Int×Bool×Unit
def uK(b:List aO)(i:Int):Option (Nat×Nat):=bif decide (i<0)then none else AB b i.toNat
theorem D0{b:List aO}{i:Int}{x j:Nat}(h:uK b i=some (x,j)):x<=2147483647/\j<=b.length:=by
 unfold uK at h
 cases e:decide (i<0)with
 | true=>rw[e] at h;cases h
 | false=>
  rw[e] at h
  have h:xR b i.toNat 5 0 0=some (x,j):=h
  have:=R7 5 0 0 h
  omega
-- a number read off a reader: (the number, the reader behind it)
def aQ(r:RdT):Int×RdT:=bif r.2.2.1 then(0,(r.1,r.2.1,true,()))else
 match uK r.1 r.2.1 with
 | none=>(0,(r.1,r.2.1,true,()))
 | some (x,j)=>((x:Int),(r.1,(j:Int),r.2.2.1,()))
def m9(r:RdT)(m:Int):Int×RdT:=bif decide ((aQ r).1>m)then(0,((aQ r).2.1,(aQ r).2.2.1,true,()))else aQ r
def yO(b:List aO)(i:Int):Option (ByteArray×Nat):=match uK b i with
 | none=>none
 | some (x,j)=>if x>b.length - j then none else some (cR ((b.take (j+x)).drop j),j+x)
def pC(r:RdT):ByteArray×RdT:=bif r.2.2.1 then(⟨#[]⟩,(r.1,r.2.1,true,()))else
 match yO r.1 r.2.1 with
 | none=>(⟨#[]⟩,(r.1,r.2.1,true,()))
 | some (s,j)=>(s,(r.1,(j:Int),r.2.2.1,()))
structure RdOk (r:RdT):Prop where
 b8:B8 r.1
 len:r.1.length<=aW
 lo:0<=r.2.1
 hi:r.2.1<=(r.1.length:Int)
theorem qV(r:RdT):(aQ r).2.1=r.1/\(0<=r.2.1->r.2.1<=(r.1.length:Int)->0<=(aQ r).2.2.1/\(aQ r).2.2.1<=(r.1.length:Int))/\0<=(aQ r).1/\(aQ r).1<=2147483647/\(r.2.2.1=true->(aQ r).2.2.2.1=true):=by
 obtain⟨b,i,bad,u⟩:=r
 cases bad with
 | true=>exact⟨rfl,λh1 h2=>⟨h1,h2⟩,Int.le_refl _,by show(0:Int)<=2147483647;omega,λ_=>rfl⟩
 | false=>
  have e:aQ (b,i,false,u)=(match uK b i with | none=>((0:Int),((b,i,true,()):RdT)) | some (x,j)=>((x:Int),(b,(j:Int),false,()))):=rfl
  rw[e]
  cases h:uK b i with
  | none=>exact⟨rfl,λh1 h2=>⟨h1,h2⟩,Int.le_refl _,by show(0:Int)<=2147483647;omega,λ_=>rfl⟩
  | some q=>
   obtain⟨x,j⟩:=q
   have hb:=D0 h
   exact⟨rfl,λh1 h2=>⟨Int.natCast_nonneg _,by show(j:Int)<=(b.length:Int);omega⟩,Int.natCast_nonneg _,by show(x:Int)<=2147483647;omega,λh=>absurd (show false=true from h) (by decide)⟩
theorem jZ(r:RdT):(aQ r).2.1=r.1:=(qV r).1
theorem E3(r:RdT):0<=(aQ r).1:=(qV r).2.2.1
theorem RdOk.num{r:RdT}(h:RdOk r):RdOk (aQ r).2:=by
 have e:=qV r
 have p:=e.2.1 h.lo h.hi
 exact⟨by rw[e.1];exact h.b8,by rw[e.1];exact h.len,p.1,by rw[e.1];exact p.2⟩
theorem RdOk.cnt{r:RdT}(h:RdOk r)(m:Int):RdOk (m9 r m).2:=by
 have hn:=h.num
 unfold m9
 cases decide ((aQ r).1>m)with
 | true=>exact⟨hn.b8,hn.len,hn.lo,hn.hi⟩
 | false=>exact hn
theorem zG(r:RdT):(pC r).2.1=r.1/\(0<=r.2.1->r.2.1<=(r.1.length:Int)->0<=(pC r).2.2.1/\(pC r).2.2.1<=(r.1.length:Int)):=by
 obtain⟨b,i,bad,u⟩:=r
 cases bad with
 | true=>exact⟨rfl,λh1 h2=>⟨h1,h2⟩⟩
 | false=>
  have e:pC (b,i,false,u)=(match yO b i with | none=>((⟨#[]⟩:ByteArray),((b,i,true,()):RdT)) | some (s,j)=>(s,(b,(j:Int),false,()))):=rfl
  rw[e]
  cases h:yO b i with
  | none=>exact⟨rfl,λh1 h2=>⟨h1,h2⟩⟩
  | some q=>
   obtain⟨s,j⟩:=q
   refine⟨rfl,λh1 h2=>⟨Int.natCast_nonneg _,?_⟩⟩
   show(j:Int)<=(b.length:Int)
   unfold yO at h
   cases hg:uK b i with
   | none=>rw[hg] at h;cases h
   | some q=>
    obtain⟨x,k⟩:=q
    have hb:=D0 hg
    rw[hg] at h
    have h:(if x>b.length - k then none else some (cR ((b.take (k+x)).drop k),k+x))=some (s,j):=h
    split at h
    ·cases h
    ·cases h;omega
theorem RdOk.txt{r:RdT}(h:RdOk r):RdOk (pC r).2:=by
 have e:=zG r
 have p:=e.2 h.lo h.hi
 exact⟨by rw[e.1];exact h.b8,by rw[e.1];exact h.len,p.1,by rw[e.1];exact p.2⟩
-- several numbers
def rdK(r:RdT):Nat->RdT
 | 0=>r
 | k+1=>(aQ (rdK r k)).2
def rdV(r:RdT)(k:Nat):Int:=(aQ (rdK r k)).1
theorem RdOk.k{r:RdT}(h:RdOk r):∀ k,RdOk (rdK r k)
 | 0=>h
 | k+1=>(RdOk.k h k).num
theorem tU(r:RdT):∀ k,(rdK r k).1=r.1
 | 0=>rfl
 | k+1=>(jZ _).trans (tU r k)
-- the same reading done several times
def kW{α:Type}(f:RdT->α×RdT)(r:RdT):Nat->List α×RdT
 | 0=>([],r)
 | k+1=>((kW f r k).1++[(f (kW f r k).2).1],(f (kW f r k).2).2)
def N2(r:RdT):aO×RdT:=(((aQ r).1,()),(aQ r).2)
def qC(r:RdT):aU×RdT:=((rdV r 0,rdV r 1,()),rdK r 2)
def eI(r:RdT):bK×RdT:=((rdV r 0,rdV r 1,rdV r 2,rdV r 3,rdV r 4,(pC (rdK r 5)).1,()),(pC (rdK r 5)).2)
theorem RdOk.floor{r:RdT}(h:RdOk r):RdOk (qC r).2:=h.k 2
theorem RdOk.item{r:RdT}(h:RdOk r):RdOk (eI r).2:=(h.k 5).txt
theorem H1(r:RdT):(eI r).2.1=r.1:=(zG _).1.trans (tU r 5)
def G9(r:RdT)(m:Int):List aO×RdT:=kW N2 (m9 r m).2 (m9 r m).1.toNat
-- what is read back
def kZ{α:Type}(f:RdT->α×RdT)(e:List aO)(x:α):Prop:=
 ∀ b u v:List aO,b=u++(e++v)->f (b,(u.length:Int),false,())=(x,(b,(((u++e).length:Nat):Int),false,()))
theorem F2{x:Int}(h:inB x 0 2147483647=true){b u v:List aO}(hb:b=u++(aN x++v)):uK b (u.length:Int)=some (x.toNat,(u++aN x).length):=by
 rw[aP] at h
 have e:aN x=hZ x.toNat:=by unfold aN;rw[aP.2 h];rfl
 rw[e] at hb ⊢
 unfold uK
 rw[decide_eq_false (by omega)]
 show AB b (u.length:Int).toNat=_
 rw[Int.toNat_natCast,hb,<- List.append_assoc,H9 u v (by omega),List.length_append]
theorem hY{x:Int}(h:inB x 0 2147483647=true):kZ aQ (aN x) x:=by
 intro b u v hb
 have g:=F2 h hb
 show(match uK b (u.length:Int)with | none=>((0:Int),((b,(u.length:Int),true,()):RdT)) | some (x,j)=>((x:Int),(b,(j:Int),false,())))=_
 rw[g]
 show(((x.toNat:Nat):Int),_)=(x,_)
 rw[aP] at h
 rw[show((x.toNat:Nat):Int)=x by omega]
theorem qU{x m:Int}(h:inB x 0 2147483647=true)(hm:x<=m):kZ (λr=>m9 r m) (aN x) x:=by
 intro b u v hb
 have:=hY h b u v hb
 show m9 _ m=_
 unfold m9
 rw[this,decide_eq_false (show ¬ x>m by omega)];rfl
theorem QW{s:ByteArray}(h:ByteArray.size s<=2147483647):inB ((ByteArray.size s:Nat):Int) 0 2147483647=true:=by rw[aP];omega
theorem rX{α:Type}(a b c:List α):((a++(b++c)).take (a.length+b.length)).drop a.length=b:=by
 rw[<- List.append_assoc,List.take_left' (by rw[List.length_append]),List.drop_left' rfl]
theorem MQ{s:ByteArray}(h:ByteArray.size s<=2147483647){b u v:List aO}(hb:b=u++(dU s++v)):yO b (u.length:Int)=some (s,(u++dU s).length):=by
 unfold dU at hb ⊢
 have g:=F2 (QW h) (b:=b) (u:=u) (v:=fQ s++v) (by rw[hb];simp)
 unfold yO;rw[g]
 show(if((ByteArray.size s:Nat):Int).toNat>b.length - (u++aN ((ByteArray.size s:Nat):Int)).length then none else some (cR ((b.take ((u++aN ((ByteArray.size s:Nat):Int)).length+((ByteArray.size s:Nat):Int).toNat)).drop (u++aN ((ByteArray.size s:Nat):Int)).length),(u++aN ((ByteArray.size s:Nat):Int)).length+((ByteArray.size s:Nat):Int).toNat))=_
 have e2:b=(u++aN ((ByteArray.size s:Nat):Int))++(fQ s++v):=by rw[hb];simp
 have e3:b.length=(u++aN ((ByteArray.size s:Nat):Int)).length+(ByteArray.size s+v.length):=by rw[e2,List.length_append,List.length_append (as:=fQ s),j6]
 rw[Int.toNat_natCast,if_neg (by omega)]
 have e4:=rX (α:=aO) (u++aN ((ByteArray.size s:Nat):Int)) (fQ s) v
 rw[<- e2,j6] at e4
 refine(congrArg (λl:List aO=>some (cR l,(u++aN ((ByteArray.size s:Nat):Int)).length+ByteArray.size s)) e4).trans ?_
 rw[MD,<- List.append_assoc,List.length_append (bs:=fQ s),j6]
theorem KZ{s:ByteArray}(h:ByteArray.size s<=2147483647):kZ pC (dU s) s:=by
 intro b u v hb
 have g:=MQ h hb
 show(match yO b (u.length:Int)with | none=>((⟨#[]⟩:ByteArray),((b,(u.length:Int),true,()):RdT)) | some (s,j)=>(s,(b,(j:Int),false,())))=_
 rw[g]
def cU(ns:List aO):List aO:=ns.flatMap λx=>aN x.1
theorem nO(a b:List aO):cU (a++b)=cU a++cU b:=List.flatMap_append
theorem vU(x:aO):cU [x]=aN x.1:=by unfold cU;simp
theorem nY{α:Type}[Inhabited α]{xs:List α}{k:Nat}(h:k<xs.length):xs.take (k+1)=xs.take k++[gt xs k]:=by
 rw[<- List.take_append_getElem h,cK h]
theorem y5{α:Type}[Inhabited α]{xs:List α}{k:Nat}(h:k<xs.length):xs=xs.take k++(gt xs k::xs.drop (k+1)):=by
 rw[cK h,<- List.drop_eq_getElem_cons h,List.take_append_drop]
theorem m8{ns:List aO}(h:∀ x∈ns,inB x.1 0 2147483647=true){b u v:List aO}(hb:b=u++(cU ns++v)):
  ∀ k,k<=ns.length->rdK (b,(u.length:Int),false,()) k=(b,(((u++cU (ns.take k)).length:Nat):Int),false,())
 | 0,_=>by
  show(b,(u.length:Int),false,())=_
  rw[List.take_zero];unfold cU;rw[List.flatMap_nil,List.append_nil]
 | k+1,hk=>by
  have ih:=m8 h hb k (by omega)
  have hg:b=(u++cU (ns.take k))++(aN (gt ns k).1++(cU (ns.drop (k+1))++v)):=by
   rw[hb];conv=>lhs;rw[y5 (show k<ns.length by omega)]
   rw[nO,show gt ns k::ns.drop (k+1)=[gt ns k]++ns.drop (k+1)from rfl,nO,vU];simp only[List.append_assoc]
  have:=hY (h _ (cJ (show k<ns.length by omega))) b _ _ hg
  show(aQ (rdK _ k)).2=_
  rw[ih,this,nY (by omega),nO,vU,List.append_assoc]
theorem vE{ns:List aO}(h:∀ x∈ns,inB x.1 0 2147483647=true){b u v:List aO}(hb:b=u++(cU ns++v))(k:Nat)(hk:k<ns.length):
  rdV (b,(u.length:Int),false,()) k=(gt ns k).1:=by
 have ih:=m8 h hb k (by omega)
 have hg:b=(u++cU (ns.take k))++(aN (gt ns k).1++(cU (ns.drop (k+1))++v)):=by
  rw[hb];conv=>lhs;rw[y5 hk]
  rw[nO,show gt ns k::ns.drop (k+1)=[gt ns k]++ns.drop (k+1)from rfl,nO,vU];simp only[List.append_assoc]
 have:=hY (h _ (cJ hk)) b _ _ hg
 unfold rdV;rw[ih,this]
theorem zV{α:Type}[Inhabited α]{f:RdT->α×RdT}{e:α->List aO}{xs:List α}(h:∀ x∈xs,kZ f (e x) x){b u v:List aO}(hb:b=u++(xs.flatMap e++v)):
  ∀ k,k<=xs.length->kW f (b,(u.length:Int),false,()) k=(xs.take k,(b,(((u++(xs.take k).flatMap e).length:Nat):Int),false,()))
 | 0,_=>by
  show(([]:List α),((b,(u.length:Int),false,()):RdT))=_
  rw[List.take_zero,List.flatMap_nil,List.append_nil]
 | k+1,hk=>by
  have ih:=zV h hb k (by omega)
  have hg:b=(u++(xs.take k).flatMap e)++(e (gt xs k)++((xs.drop (k+1)).flatMap e++v)):=by
   rw[hb];conv=>lhs;rw[y5 (show k<xs.length by omega)]
   rw[List.flatMap_append,List.flatMap_cons];simp only[List.append_assoc]
  have:=h _ (cJ (show k<xs.length by omega)) b _ _ hg
  show((kW f _ k).1++[(f (kW f _ k).2).1],(f (kW f _ k).2).2)=_
  rw[ih,this,nY (by omega),List.flatMap_append,List.append_assoc]
  simp
theorem oH{α:Type}[Inhabited α]{f:RdT->α×RdT}{e:α->List aO}{xs:List α}(h:∀ x∈xs,kZ f (e x) x):kZ (λr=>kW f r xs.length) (xs.flatMap e) xs:=by
 intro b u v hb
 have:=zV h hb xs.length (Nat.le_refl _)
 rw[List.take_length] at this
 exact this
theorem HG{x:aO}(h:inB x.1 0 2147483647=true):kZ N2 (aN x.1) x:=by
 intro b u v hb
 unfold N2;rw[hY h b u v hb]
theorem D1{f:aU}(h1:inB f.1 0 2147483647=true)(h2:inB f.2.1 0 2147483647=true):kZ qC (bD f) f:=by
 intro b u v hb
 have e:bD f=cU [(f.1,()),(f.2.1,())]:=by unfold cU bD;simp
 rw[e] at hb ⊢
 have hn:∀ x∈[((f.1,()):aO),(f.2.1,())],inB x.1 0 2147483647=true:=by
  intro x hx;rcases List.mem_cons.1 hx with rfl | hx
  ·exact h1
  ·rw[List.mem_singleton.1 hx];exact h2
 have a:=vE hn hb
 have c:=m8 hn hb 2 (Nat.le_refl _)
 unfold qC
 rw[a 0 (show 0<2 by omega),a 1 (show 1<2 by omega),c];rfl
theorem FU{x:bK}(h:∀ y∈five x,inB y.1 0 2147483647=true)(hs:ByteArray.size x.2.2.2.2.2.1<=2147483647):kZ eI (bB x) x:=by
 intro b u v hb
 have e:bB x=cU (five x)++dU x.2.2.2.2.2.1:=by unfold cU bB five;simp
 rw[e] at hb ⊢
 have hb1:b=u++(cU (five x)++(dU x.2.2.2.2.2.1++v)):=by rw[hb];simp
 have hb2:b=(u++cU (five x))++(dU x.2.2.2.2.2.1++v):=by rw[hb];simp
 have a:=vE h hb1
 have c:=m8 h hb1 5 (Nat.le_refl _)
 rw[show(five x).take 5=five x from rfl] at c
 have d:=KZ hs b _ _ hb2
 unfold eI
 rw[c,d,a 0 (show 0<5 by omega),a 1 (show 1<5 by omega),a 2 (show 2<5 by omega),a 3 (show 3<5 by omega),a 4 (show 4<5 by omega),List.append_assoc];rfl
end Go.Abs
-- states and messages read back: plain laws
namespace Go.Abs
open Go
def InN(x:Int):Prop:=inB x 0 2147483647=true
theorem InN.of{x hi:Int}(h:inB x 0 hi=true)(hh:hi<=2147483647):InN x:=by
 unfold InN;rw[aP] at h ⊢;omega
theorem InN.of1{x hi:Int}(h:inB x 1 hi=true)(hh:hi<=2147483647):InN x:=by
 unfold InN;rw[aP] at h ⊢;omega
theorem InN.nat{n:Nat}(h:n<=2147483647):InN (n:Int):=by unfold InN;rw[aP];omega
theorem StateOk.five{s:aJ}(h:StateOk s){x:bK}(hx:x∈s.1):(∀ y∈five x,inB y.1 0 2147483647=true)/\ByteArray.size x.2.2.2.2.2.1<=2147483647:=by
 obtain⟨h1,h2,_⟩:=h.item x hx
 unfold eD at h2
 simp only[Bool.and_eq_true,decide_eq_true_eq] at h2
 obtain⟨a,b,c,d,e⟩:=h2
 refine⟨λy hy=>?_,by omega⟩
 unfold Go.Abs.five at hy
 simp only[List.mem_cons,List.not_mem_nil,or_false] at hy
 rcases hy with rfl | rfl | rfl | rfl | rfl
 ·exact InN.of (h1:inB x.1 0 4=true) (by decide)
 ·exact InN.of1 a (by decide)
 ·exact InN.of b (by decide)
 ·exact InN.of c (by decide)
 ·exact InN.of d (by decide)
theorem StateOk.flo{s:aJ}(h:StateOk s){f:aU}(hf:f∈s.2.1):InN f.1/\InN f.2.1:=
 ⟨InN.of ((h.floor f hf).1:inB f.1 0 4=true) (by decide),InN.of1 (h.floor f hf).2 (by decide)⟩
theorem z6{s:aJ}(h:StateOk s):∀ x∈s.1,kZ eI (bB x) x:=λx hx=>FU (h.five hx).1 (h.five hx).2
theorem xC{fs:List aU}(h:∀ f∈fs,InN f.1/\InN f.2.1):∀ x∈fs,kZ qC (bD x) x:=λx hx=>D1 (h x hx).1 (h x hx).2
-- the program's reader of states
def rs0(b:List aO):RdT:=(b,0,false,())
def siC(b:List aO):Int×RdT:=m9 (rs0 b) 5
def siI(b:List aO):List bK×RdT:=kW eI (siC b).2 (siC b).1.toNat
def siF(b:List aO):Int×RdT:=m9 (siI b).2 5
def siG(b:List aO):List aU×RdT:=kW qC (siF b).2 (siF b).1.toNat
def stI(b:List aO):aJ:=((siI b).1,(siG b).1,())
def cT(b:List aO):Option aJ:=bif(siG b).2.2.2.1||(!aS (stI b)|| !cL (bS (stI b)) b)then none else some (stI b)
theorem uS{α:Type}{c:Bool}{x y:α}(h:(bif c then none else some x)=some y):c=false/\x=y:=by
 cases c with
 | true=>cases h
 | false=>exact⟨rfl,by injection h⟩
theorem wN{b:List aO}{s:aJ}(h:cT b=some s):aS s=true/\cL (bS s) b=true:=by
 obtain⟨h1,h2⟩:=uS h
 subst h2
 simp only[Bool.or_eq_false_iff,Bool.not_eq_false'] at h1
 exact h1.2
theorem uP(s:aJ):bS s=([]:List aO)++(aN (s.1.length:Int)++(s.1.flatMap bB++(aN (s.2.1.length:Int)++(s.2.1.flatMap bD++[])))):=by
 unfold bS;simp
theorem iI(b:List aO):cL b b=true:=by unfold cL;exact beq_self_eq_true _
theorem lD{s:aJ}(hs:aS s=true):cT (bS s)=some s:=by
 have h:=(aV s).1 hs
 have h5:=h.len
 have hb:=uP s
 generalize e:bS s=b at hb
 have c1:siC b=((s.1.length:Int),(b,(((([]:List aO)++aN (s.1.length:Int)).length:Nat):Int),false,())):=
  qU (m:=5) (InN.nat (by omega)) (by omega) b [] _ hb
 have c2:siI b=(s.1,(b,(((([]:List aO)++aN (s.1.length:Int)++s.1.flatMap bB).length:Nat):Int),false,())):=by
  unfold siI;rw[c1]
  show kW eI _ ((s.1.length:Int)).toNat=_
  rw[Int.toNat_natCast]
  exact oH (z6 h) b _ _ (by rw[hb,List.append_assoc])
 have c3:siF b=((s.2.1.length:Int),(b,(((([]:List aO)++aN (s.1.length:Int)++s.1.flatMap bB++aN (s.2.1.length:Int)).length:Nat):Int),false,())):=by
  unfold siF;rw[c2]
  exact qU (m:=5) (InN.nat (by omega)) (by omega) b _ (s.2.1.flatMap bD++[]) (by rw[hb];simp only[List.append_assoc])
 have c4:siG b=(s.2.1,(b,(((([]:List aO)++aN (s.1.length:Int)++s.1.flatMap bB++aN (s.2.1.length:Int)++s.2.1.flatMap bD).length:Nat):Int),false,())):=by
  unfold siG;rw[c3]
  show kW qC _ ((s.2.1.length:Int)).toNat=_
  rw[Int.toNat_natCast]
  exact oH (xC λf hf=>h.flo hf) b _ [] (by rw[hb];simp only[List.append_assoc])
 have c5:stI b=s:=by unfold stI;rw[c2,c4]
 unfold cT;rw[c4,c5,hs,e,iI];rfl
-- the reference's reader of states
def mB:RdT->Nat->List aO×RdT
 | r,0=>([],r)
 | r,k+1=>bif r.2.2.1 then([],r)else(((aQ r).1,())::(mB (aQ r).2 k).1,(mB (aQ r).2 k).2)
def bV(r:RdT)(t:Nat):List aO×RdT:=bif decide ((aQ r).1>100)then([],((aQ r).2.1,(aQ r).2.2.1,true,()))else mB (aQ r).2 ((aQ r).1.toNat*t)
theorem EV:∀ (k:Nat) (r:RdT),(mB r k).1.length<=k
 | 0,r=>Nat.le_refl _
 | k+1,r=>by
  unfold mB
  cases r.2.2.1 with
  | true=>exact Nat.zero_le _
  | false=>show(((aQ r).1,())::(mB (aQ r).2 k).1).length<=k+1;rw[List.length_cons];have:=EV k (aQ r).2;omega
theorem JB:∀ (k:Nat) {r:RdT},RdOk r->RdOk (mB r k).2
 | 0,r,h=>h
 | k+1,r,h=>by
  unfold mB
  cases r.2.2.1 with
  | true=>exact h
  | false=>exact JB k h.num
theorem BR:∀ (k:Nat) (r:RdT),(mB r k).2.1=r.1
 | 0,r=>rfl
 | k+1,r=>by
  unfold mB
  cases r.2.2.1 with
  | true=>rfl
  | false=>exact(BR k _).trans (jZ r)
theorem HO(r:RdT)(t:Nat):(bV r t).2.1=r.1:=by
 unfold bV
 cases decide ((aQ r).1>100)with
 | true=>exact jZ r
 | false=>exact(BR _ _).trans (jZ r)
theorem qY(r:RdT)(t:Nat):(bV r t).1.length<=100*t:=by
 unfold bV
 by_cases h:(aQ r).1>100
 ·rw[decide_eq_true h];exact Nat.zero_le _
 ·rw[decide_eq_false h]
  have h1:=EV ((aQ r).1.toNat*t) (aQ r).2
  have h2:(aQ r).1.toNat*t<=100*t:=Nat.mul_le_mul (by omega) (Nat.le_refl _)
  show(mB (aQ r).2 ((aQ r).1.toNat*t)).1.length<=100*t;omega
theorem RdOk.many{r:RdT}(h:RdOk r)(t:Nat):RdOk (bV r t).2:=by
 unfold bV
 cases decide ((aQ r).1>100)with
 | true=>exact⟨h.num.b8,h.num.len,h.num.lo,h.num.hi⟩
 | false=>exact JB _ h.num
theorem BW:∀ (ns:List aO),(∀ x∈ns,InN x.1)->kZ (λr=>mB r ns.length) (cU ns) ns
 | [],_=>λb u v hb=>by show(([]:List aO),((b,(u.length:Int),false,()):RdT))=_;unfold cU;rw[List.flatMap_nil,List.append_nil]
 | x::ns,h=>λb u v hb=>by
  have e:cU (x::ns)=aN x.1++cU ns:=by unfold cU;rw[List.flatMap_cons]
  rw[e] at hb ⊢
  have h1:=hY (h x (List.mem_cons_self ..)) b u (cU ns++v) (by rw[hb];simp only[List.append_assoc])
  have h2:=BW ns (λy hy=>h y (List.mem_cons_of_mem _ hy)) b (u++aN x.1) v (by rw[hb];simp only[List.append_assoc])
  show(((aQ _).1,())::(mB (aQ _).2 ns.length).1,(mB (aQ _).2 ns.length).2)=_
  rw[h1]
  have h2:mB (b,(((u++aN x.1).length:Nat):Int),false,()) ns.length=_:=h2
  rw[h2,List.append_assoc]
theorem wU{ns:List aO}{n t:Nat}(hl:ns.length=n*t)(hn:n<=100)(h:∀ x∈ns,InN x.1):kZ (λr=>bV r t) (aN ((n:Nat):Int)++cU ns) ns:=by
 intro b u v hb
 have h1:=hY (InN.nat (show n<=2147483647 by omega)) b u (cU ns++v) (by rw[hb];simp only[List.append_assoc])
 have h2:=BW ns h b (u++aN ((n:Nat):Int)) v (by rw[hb];simp only[List.append_assoc])
 show bV _ t=_
 unfold bV
 rw[h1,decide_eq_false (show ¬ (((n:Nat):Int)>100) by omega)]
 show mB _ (((n:Nat):Int).toNat*t)=_
 rw[Int.toNat_natCast,<- hl]
 exact h2.trans (by rw[List.append_assoc])
def fN(fl:List aO)(k:Nat):List aU:=(List.range k).map λi=>((gt fl (2*i)).1,(gt fl (2*i+1)).1,())
theorem sJ(fl:List aO)(k:Nat):(fN fl k).length=k:=by unfold fN;rw[List.length_map,List.length_range]
theorem wY(fl:List aO)(k:Nat):fN fl (k+1)=fN fl k++[((gt fl (2*k)).1,(gt fl (2*k+1)).1,())]:=by
 unfold fN;rw[List.range_succ,List.map_append];rfl
theorem FC(x y:aO)(l:List aO)(k:Nat):fN (x::y::l) (k+1)=(x.1,y.1,())::fN l k:=by
 unfold fN
 rw[List.range_succ_eq_map,List.map_cons,List.map_map]
 congr 1
def CZ(fs:List aU):List aO:=fs.flatMap λf=>[(f.1,()),(f.2.1,())]
theorem uZ(f:aU)(fs:List aU):CZ (f::fs)=(f.1,())::(f.2.1,())::CZ fs:=by unfold CZ;rw[List.flatMap_cons];rfl
theorem yP:∀ fs:List aU,(CZ fs).length=fs.length*2
 | []=>rfl
 | f::fs=>by rw[uZ,List.length_cons,List.length_cons,yP fs,List.length_cons];omega
theorem BK:∀ fs:List aU,cU (CZ fs)=fs.flatMap bD
 | []=>rfl
 | f::fs=>by
  rw[uZ,List.flatMap_cons,<- BK fs]
  unfold cU bD;rw[List.flatMap_cons,List.flatMap_cons,List.append_assoc]
theorem QL{fs:List aU}(h:∀ f∈fs,InN f.1/\InN f.2.1):∀ x∈CZ fs,InN x.1:=λx hx=>by
 obtain⟨f,hf,hx⟩:=List.mem_flatMap.1 hx
 rcases List.mem_cons.1 hx with rfl | hx
 ·exact(h f hf).1
 ·rw[List.mem_singleton.1 hx];exact(h f hf).2
theorem zL:∀ fs:List aU,fN (CZ fs) fs.length=fs
 | []=>rfl
 | f::fs=>by rw[uZ,List.length_cons,FC,zL fs]
def flR(r:RdT):List aU×RdT:=(fN (bV r 2).1 ((bV r 2).1.length / 2),(bV r 2).2)
theorem CK{fs:List aU}(hl:fs.length<=100)(h:∀ f∈fs,InN f.1/\InN f.2.1):kZ flR (aN (fs.length:Int)++fs.flatMap bD) fs:=by
 intro b u v hb
 rw[<- BK] at hb ⊢
 have:=wU (t:=2) (yP fs) hl (QL h) b u v hb
 have this:bV (b,(u.length:Int),false,()) 2=_:=this
 unfold flR;rw[this]
 show(fN (CZ fs) ((CZ fs).length / 2),_)=_
 rw[yP,Nat.mul_div_cancel _ (by decide),zL]
theorem JX(r:RdT):(flR r).1.length<=100:=by
 unfold flR;rw[sJ];have:=qY r 2;omega
def iO:RdT->Nat->Option (List bK×RdT)
 | r,0=>some ([],r)
 | r,k+1=>bif r.2.2.1 then some ([],r)else bif(eI r).2.2.2.1 then none else(iO (eI r).2 k).map λq=>((eI r).1::q.1,q.2)
theorem uG:∀ (xs:List bK),(∀ x∈xs,kZ eI (bB x) x)->∀ b u v,b=u++(xs.flatMap bB++v)->
  iO (b,(u.length:Int),false,()) xs.length=some (xs,(b,(((u++xs.flatMap bB).length:Nat):Int),false,()))
 | [],_,b,u,v,hb=>by show some (([]:List bK),((b,(u.length:Int),false,()):RdT))=_;rw[List.flatMap_nil,List.append_nil]
 | x::xs,h,b,u,v,hb=>by
  rw[List.flatMap_cons] at hb ⊢
  have h1:=h x (List.mem_cons_self ..) b u (xs.flatMap bB++v) (by rw[hb];simp only[List.append_assoc])
  have h2:=uG xs (λy hy=>h y (List.mem_cons_of_mem _ hy)) b (u++bB x) v (by rw[hb];simp only[List.append_assoc])
  show(bif(eI _).2.2.2.1 then none else(iO (eI _).2 xs.length).map λq=>((eI _).1::q.1,q.2))=_
  rw[h1]
  show(iO _ xs.length).map _=_
  rw[h2,List.append_assoc];rfl
def ssI(b:List aO):Option (List bK×RdT):=bif decide ((aQ (rs0 b)).1>100)then some ([],(aQ (rs0 b)).2)else iO (aQ (rs0 b)).2 (aQ (rs0 b)).1.toNat
def stS(q:List bK×RdT):aJ:=(q.1,(flR q.2).1,())
def gA(b:List aO):Option aJ:=match ssI b with
 | none=>none
 | some q=>bif(flR q.2).2.2.2.1||(decide ((aQ (rs0 b)).1>100)||(!aS (stS q)|| !cL (bS (stS q)) b))then none else some (stS q)
theorem EP{b:List aO}{s:aJ}(h:gA b=some s):aS s=true/\cL (bS s) b=true:=by
 unfold gA at h
 cases e:ssI b with
 | none=>rw[e] at h;cases h
 | some q=>
  rw[e] at h
  obtain⟨h1,h2⟩:=uS h
  subst h2
  simp only[Bool.or_eq_false_iff,Bool.not_eq_false'] at h1
  exact h1.2.2
theorem C9{s:aJ}(hs:aS s=true):gA (bS s)=some s:=by
 have h:=(aV s).1 hs
 have h5:=h.len
 have hb:=uP s
 generalize e:bS s=b at hb
 have c1:aQ (rs0 b)=((s.1.length:Int),(b,(((([]:List aO)++aN (s.1.length:Int)).length:Nat):Int),false,())):=
  hY (InN.nat (by omega)) b [] _ hb
 have hd:decide ((s.1.length:Int)>100)=false:=decide_eq_false (by omega)
 have c2:ssI b=some (s.1,(b,(((([]:List aO)++aN (s.1.length:Int)++s.1.flatMap bB).length:Nat):Int),false,())):=by
  unfold ssI;rw[c1,hd]
  show iO _ ((s.1.length:Int)).toNat=_
  rw[Int.toNat_natCast]
  exact uG s.1 (z6 h) b _ _ (by rw[hb,List.append_assoc])
 have c3:=CK (show s.2.1.length<=100 by omega) (λf hf=>h.flo hf) b (([]:List aO)++aN (s.1.length:Int)++s.1.flatMap bB) [] (by rw[hb];simp only[List.append_assoc])
 unfold gA;rw[c1,c2,hd]
 show(bif(flR _).2.2.2.1||(false||(!aS (s.1,(flR _).1,())|| !cL (bS (s.1,(flR _).1,())) b))then none else some (s.1,(flR _).1,()))=_
 rw[c3]
 show(bif false||(false||(!aS s|| !cL (bS s) b))then none else some s)=_
 rw[hs,e,iI];rfl
theorem KM{b:List aO}(hb:ByL b):gA b=cT b:=by
 cases h:cT b with
 | some s=>
  obtain⟨h1,h2⟩:=wN h
  have e:=(mL (v8 s) hb).1 h2
  rw[<- e];exact C9 h1
 | none=>
  cases h2:gA b with
  | none=>rfl
  | some s=>
   obtain⟨h3,h4⟩:=EP h2
   have e:=(mL (v8 s) hb).1 h4
   rw[<- e,lD h3] at h;cases h
end Go.Abs
