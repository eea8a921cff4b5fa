/- A by-value reading of the model, and its soundness, part 3. -/
import Derived.Test.YtohahjehdododaaGreatW2
import Derived.Lib.Bytealg
set_option linter.unusedVariables false
/- Plain laws: rows marked cell by cell; how many cells there are. -/
open Go.IntKind (i64)
namespace Go.Abs
def gT{α:Type}(c:α->Int):List α->Int
 | []=>0
 | x::xs=>c x+gT c xs
def PF{α:Type}(f:α->Int->α)(c:α->Int):List α->Int->List α
 | [],_=>[]
 | x::xs,n=>f x n::PF f c xs (n+c x)
mutual
/-- How many cells lie in a value. -/
def cnT:(k:Kd)->k.T->Int
 | .int _,_=>1
 | .bool,_=>1
 | .str,_=>1
 | .fn,_=>1
 | .sl ks,xs=>gT (cnR ks) xs
def cnR:(ks:List Kd)->Row ks->Int
 | [],_=>0
 | k::ks,r=>cnT k r.1+cnR ks r.2
end
/-- How many cells lie in a struct's slices. -/
def cnS:(ks:List Kd)->Row ks->Int
 | [],_=>0
 | .sl k::ks,r=>cnT (.sl k) r.1+cnS ks r.2
 | .int _::ks,r=>cnS ks r.2
 | .bool::ks,r=>cnS ks r.2
 | .str::ks,r=>cnS ks r.2
 | .fn::ks,r=>cnS ks r.2
mutual
/-- How much lies in a value: elements and texts' bytes. -/
def szT:(k:Kd)->k.T->Int
 | .int _,_=>0
 | .bool,_=>0
 | .str,s=>((ByteArray.size s:Nat):Int)
 | .fn,_=>0
 | .sl ks,xs=>((List.length xs:Nat):Int)+gT (szR ks) xs
def szR:(ks:List Kd)->Row ks->Int
 | [],_=>0
 | k::ks,r=>szT k r.1+szR ks r.2
end
mutual
def HL:Kd->Bool
 | .sl ks=>Nat.ble ks.length 64&&uC ks
 | .int _=>true
 | .bool=>true
 | .str=>true
 | .fn=>true
def uC:List Kd->Bool
 | []=>true
 | k::ks=>HL k&&uC ks
end
theorem qV{α:Type}{c:α->Int}:∀ (xs:List α),(∀ x∈xs,0<=c x)->0<=gT c xs
 | [],_=>Int.le_refl _
 | x::xs,h=>by
  have h1:=h x (List.mem_cons_self ..)
  have h2:=qV xs λy hy=>h y (List.mem_cons_of_mem _ hy)
  show 0<=c x+gT c xs
  omega
theorem JC{α:Type}{c d:α->Int}{A B:Int}:∀ (xs:List α),(∀ x∈xs,c x<=A+B*d x)->gT c xs<=A*(xs.length:Int)+B*gT d xs
 | [],_=>by show(0:Int)<=A*((0:Nat):Int)+B*0;omega
 | x::xs,h=>by
  have h1:=h x (List.mem_cons_self ..)
  have h2:=JC (A:=A) (B:=B) (c:=c) (d:=d) xs λy hy=>h y (List.mem_cons_of_mem _ hy)
  show c x+gT c xs<=A*(((xs.length+1:Nat):Nat):Int)+B*(d x+gT d xs)
  rw[Int.mul_add,show(((xs.length+1:Nat):Nat):Int)=(xs.length:Int)+1 from by omega,Int.mul_add]
  omega
theorem pT{α:Type}{c:α->Int}:∀ (xs ys:List α),gT c (xs++ys)=gT c xs+gT c ys
 | [],ys=>by show gT c ys=0+gT c ys;omega
 | x::xs,ys=>by
  show c x+gT c (xs++ys)=c x+gT c xs+gT c ys
  rw[pT xs ys];omega
theorem yY{α:Type}{c:α->Int}{xs:List α}{i:Nat}(h:i<xs.length):gT c (xs.take (i+1))=gT c (xs.take i)+c xs[i]:=by
 rw[<- List.take_append_getElem h,pT]
 show gT c (xs.take i)+(c xs[i]+0)=_
 omega
mutual
theorem TQ:∀ (k:Kd) (x:k.T),0<=cnT k x
 | .int _,_=>by show(0:Int)<=1;omega
 | .bool,_=>by show(0:Int)<=1;omega
 | .str,_=>by show(0:Int)<=1;omega
 | .fn,_=>by show(0:Int)<=1;omega
 | .sl ks,xs=>qV (c:=cnR ks) xs λx _=>PU ks x
theorem PU:∀ (ks:List Kd) (r:Row ks),0<=cnR ks r
 | [],_=>Int.le_refl _
 | k::ks,r=>by
  have h1:=TQ k r.1
  have h2:=PU ks r.2
  show 0<=cnT k r.1+cnR ks r.2
  omega
end
mutual
theorem G2:∀ (k:Kd) (x:k.T),0<=szT k x
 | .int _,_=>Int.le_refl _
 | .bool,_=>Int.le_refl _
 | .str,s=>by show(0:Int)<=((ByteArray.size s:Nat):Int);omega
 | .fn,_=>Int.le_refl _
 | .sl ks,xs=>by
  have h:=qV (c:=szR ks) xs λx _=>yX ks x
  show(0:Int)<=((List.length xs:Nat):Int)+gT (szR ks) xs
  omega
theorem yX:∀ (ks:List Kd) (r:Row ks),0<=szR ks r
 | [],_=>Int.le_refl _
 | k::ks,r=>by
  have h1:=G2 k r.1
  have h2:=yX ks r.2
  show 0<=szT k r.1+szR ks r.2
  omega
end
mutual
theorem TS:∀ (k:Kd) (x:k.T),HL k=true->cnT k x<=(bif iV k then 1 else 0)+64*szT k x
 | .int _,_,_=>by show(1:Int)<=1+64*0;omega
 | .bool,_,_=>by show(1:Int)<=1+64*0;omega
 | .str,s,_=>by show(1:Int)<=1+64*((ByteArray.size s:Nat):Int);omega
 | .fn,_,_=>by show(1:Int)<=1+64*0;omega
 | .sl ks,xs,h=>by
  have h':(Nat.ble ks.length 64&&uC ks)=true:=h
  rw[Bool.and_eq_true] at h'
  have hl:=Nat.le_of_ble_eq_true h'.1
  have:=JC (c:=cnR ks) (d:=szR ks) (A:=64) (B:=64) xs λx _=>by
   have:=PW ks x h'.2
   omega
  show gT (cnR ks) xs<=0+64*(((List.length xs:Nat):Int)+gT (szR ks) xs)
  rw[Int.mul_add];omega
theorem PW:∀ (ks:List Kd) (r:Row ks),uC ks=true->cnR ks r<=(ks.length:Int)+64*szR ks r
 | [],_,_=>by show(0:Int)<=((0:Nat):Int)+64*0;omega
 | k::ks,r,h=>by
  have h':(HL k&&uC ks)=true:=h
  rw[Bool.and_eq_true] at h'
  have h1:=TS k r.1 h'.1
  have h2:=PW ks r.2 h'.2
  have h3:=G2 k r.1
  show cnT k r.1+cnR ks r.2<=(((ks.length+1:Nat):Nat):Int)+64*(szT k r.1+szR ks r.2)
  have h4:cnT k r.1<=1+64*szT k r.1:=by
   cases hf:iV k<;>rw[hf] at h1<;>simp only[cond_true,cond_false] at h1<;>omega
  rw[Int.mul_add]
  omega
end
/-- A number as a cell of a kind holds it. -/
def wr(j:IntKind)(n:Int):Int:=match j with
 | .i64=>n
 | j=>j.wrap n
section
variable (txt:Int->ByteArray)
mutual
/-- A value whose cells are numbered. -/
def mkT:(k:Kd)->k.T->Int->k.T
 | .int j,_,n=>wr j n
 | .bool,_,n=>n.tmod 3==0
 | .str,_,n=>txt n
 | .fn,x,_=>x
 | .sl ks,xs,n=>PF (mkR ks) (cnR ks) xs n
def mkR:(ks:List Kd)->Row ks->Int->Row ks
 | [],_,_=>()
 | k::ks,r,n=>(mkT k r.1 n,mkR ks r.2 (n+cnT k r.1))
end
end
section
variable {ι σ α:Type} {c:Nat->ι->(σ->Option Out)->σ->Option Out} {r:ι->Option Out}
theorem C9{d:α->Int}(hd:∀ x,0<=d x){xs:List α}{i:Nat}(h:i<xs.length):0<=gT d (xs.take i)/\gT d (xs.take i)+d xs[i]<=gT d xs:=by
 have e:gT d xs=gT d (xs.take (i+1))+gT d (xs.drop (i+1)):=by rw[<- pT,List.take_append_drop]
 rw[e,yY h]
 have h1:=qV (c:=d) (xs.take i) λx _=>hd x
 have h2:=qV (c:=d) (xs.drop (i+1)) λx _=>hd x
 omega
end
mutual
/-- No row in a value is too long. -/
def LmT:(k:Kd)->k.T->Prop
 | .int _,_=>True
 | .bool,_=>True
 | .str,_=>True
 | .fn,_=>True
 | .sl ks,xs=>List.length xs<=4611686018427387904/\∀ (i:Nat) (r:Row ks),at? xs i=some r->LmR ks r
def LmR:(ks:List Kd)->Row ks->Prop
 | [],_=>True
 | k::ks,r=>LmT k r.1/\LmR ks r.2
end
mutual
theorem TSm.lm:∀ (k:Kd) (x:k.T),TSm k x->LmT k x
 | .int _,_,_=>trivial
 | .bool,_,_=>trivial
 | .str,_,_=>trivial
 | .fn,_,_=>trivial
 | .sl ks,xs,h=>⟨Nat.le_trans h.1 (by decide),λi r hr=>Small.lm ks r (h.2 i r hr)⟩
theorem Small.lm:∀ (ks:List Kd) (r:Row ks),Small ks r->LmR ks r
 | [],_,_=>trivial
 | k::ks,r,h=>⟨TSm.lm k r.1 h.1,Small.lm ks r.2 h.2⟩
end
mutual
theorem S0:∀ (k:Kd) (x:k.T),szT k x<=4611686018427387904->LmT k x
 | .int _,_,_=>trivial
 | .bool,_,_=>trivial
 | .str,_,_=>trivial
 | .fn,_,_=>trivial
 | .sl ks,xs,h=>by
  have h':((List.length xs:Nat):Int)+gT (szR ks) xs<=4611686018427387904:=h
  have h2:=qV (c:=szR ks) xs λx _=>yX ks x
  refine⟨by omega,λi r hr=>M0 ks r ?_⟩
  obtain⟨hi,rfl⟩:=SA hr
  have:=(C9 (d:=szR ks) (λx=>yX ks x) hi)
  omega
theorem M0:∀ (ks:List Kd) (r:Row ks),szR ks r<=4611686018427387904->LmR ks r
 | [],_,_=>trivial
 | k::ks,r,h=>by
  have h':szT k r.1+szR ks r.2<=4611686018427387904:=h
  have h1:=G2 k r.1
  have h2:=yX ks r.2
  exact⟨S0 k r.1 (by omega),M0 ks r.2 (by omega)⟩
end
theorem jV{α:Type}{c:α->Int}{n:Int}(h:∀ x,c x=n):∀ xs:List α,gT c xs=n*(xs.length:Int)
 | []=>by show(0:Int)=n*((0:Nat):Int);simp
 | x::xs=>by
  show c x+gT c xs=n*(((xs.length+1:Nat):Nat):Int)
  rw[h,jV h xs,show(((xs.length+1:Nat):Nat):Int)=(xs.length:Int)+1 from by omega,Int.mul_add];omega
theorem JD{α ρ:Type}(x:α)(f:α->Option ρ):NF x f=f x:=rfl
theorem set_set{α:Type}(ys:List α)(i:Nat)(x y:α):(ys.set i x).set i y=ys.set i y:=by simp
end Go.Abs
/- Plain laws: logs, vectors, tables, exchanges, nodes and worlds. -/
namespace Go.Abs
theorem p5(s:ByteArray):(dT s).length<=5+ByteArray.size s:=by
 unfold dT;rw[List.length_append,j0]
 have:=bD ((ByteArray.size s:Nat):Int);omega
theorem iS{x:bF}(h:eE x.2=true):(bC x).length<=38:=by
 have h8:ByteArray.size x.2.2.2.2.2.1<=8:=by
  unfold eE at h;simp only[Bool.and_eq_true,decide_eq_true_eq] at h;omega
 have h1:=p5 x.2.2.2.2.2.1
 have h2:=bD x.1;have h3:=bD x.2.1;have h4:=bD x.2.2.1;have h5:=bD x.2.2.2.1;have h6:=bD x.2.2.2.2.1
 unfold bC;simp only[List.length_append];omega
theorem hS(f:aU):(bE f).length<=10:=by
 have h2:=bD f.1;have h3:=bD f.2.1
 unfold bE;simp only[List.length_append];omega
theorem StateOk.size{s:aH}(h:StateOk s){x:bF}(hx:x∈s.1):ByteArray.size x.2.2.2.2.2.1<=8:=by
 have h:=(h.item x hx).2.1
 unfold eE at h;simp only[Bool.and_eq_true,decide_eq_true_eq] at h;omega
def five(x:bF):List aO:=[(x.1,()),(x.2.1,()),(x.2.2.1,()),(x.2.2.2.1,()),(x.2.2.2.2.1,())]
theorem PJ(x:bF)(acc:List aO):acc++bL 5 (λk=>aN (gt (five x) k).1)++dT x.2.2.2.2.2.1=acc++bC x:=by
 have:bL 5 (λk=>aN (gt (five x) k).1)=(five x).flatMap λy=>aN y.1:=cG (λy:aO=>aN y.1) (five x)
 rw[this];unfold five bC
 simp only[List.flatMap_cons,List.flatMap_nil,List.append_nil,List.append_assoc]
theorem t9{ps:List bU}{L:Nat}(h:∀ r∈ps,r.1.length<=L):∀ i,i<ps.length->(gt ps i).1.length<=L:=λi hi=>h _ (cN hi)
theorem nV{s:aH}(h:StateOk s):(bT s).length<=250:=by
 have h5:=h.len
 have h1:=bD (s.1.length:Int);have h2:=bD (s.2.1.length:Int)
 have h3:(s.1.flatMap bC).length<=s.1.length*38:=by
  rw[<- cG];exact cY λi hi=>iS (h.item _ (cN hi)).2.1
 have h4:(s.2.1.flatMap bE).length<=s.2.1.length*10:=by
  rw[<- cG];exact cY λi hi=>hS _
 unfold bT;simp only[List.length_append];omega
-- logs
def gR(l:gV):Bool:=inB l.1 1 8&&(!decide ((l.2.2.1.length:Int)>l.1)&&(inB l.2.1 0 100000&&(!decide (i64.wrap (l.2.1+(l.2.2.1.length:Int))>100000)&&bS l.2.2.1.length λi=>aP (gt l.2.2.1 i))))
def HV(l:gV):Bool:=(bS l.2.2.1.length λi=>aP (gt l.2.2.1 i))&&(inB l.1 1 8&&(decide ((l.2.2.1.length:Int)<=l.1)&&(inB l.2.1 0 100000&&decide (i64.wrap (l.2.1+(l.2.2.1.length:Int))<=100000))))
theorem vM(a b:Int):(!decide (a>b))=decide (a<=b):=by rw[Bool.eq_iff_iff];simp
theorem RP(l:gV):HV l=gR l:=by
 unfold gR HV;rw[vM,vM];ac_rfl
def cF(l:gV):Int:=bif gR l then i64.wrap (l.2.1+(l.2.2.1.length:Int))else 0
-- vectors and tables
def eI(v:List aO)(n:Int):Bool:=inB n 1 5&&((v.length:Int)==n&&bS v.length λi=>inB (gt v i).1 0 100000)
def GX(v:List aO)(n:Int):Bool:=(bS v.length λi=>inB (gt v i).1 0 100000)&&(inB n 1 5&&(v.length:Int)==n)
theorem QH(v:List aO)(n:Int):GX v n=eI v n:=by unfold eI GX;ac_rfl
def sV(r:bU):Bool:=(r.1.length:Int)==5&&bS r.1.length λi=>inB (gt r.1 i).1 0 1000
def yF(r:bU):Bool:=(bS r.1.length λi=>inB (gt r.1 i).1 0 1000)&&(r.1.length:Int)==5
def gM(t:List bU)(n:Int):Bool:=inB n 1 5&&((t.length:Int)==n&&bS t.length λk=>sV (gt t k))
def yV(t:List bU)(n:Int):Bool:=(bS t.length λk=>yF (gt t k))&&(inB n 1 5&&(t.length:Int)==n)
theorem KJ(t:List bU)(n:Int):yV t n=gM t n:=by
 unfold gM yV
 rw[pE (ok:=λk=>yF (gt t k)) (ok':=λk=>sV (gt t k)) λk _=>by unfold sV yF;ac_rfl]
 ac_rfl
def uF(v:List aO):Nat->Int
 | 0=>(gt v 0).1
 | j+1=>mxI true (uF v j) (gt v (j+1)).1
theorem FQ(v:List aO)(m:Int):∀ j,uF v j<=m↔∀ i,i<=j->(gt v i).1<=m
 | 0=>⟨λh i hi=>by rw[show i=0 by omega];exact h,λh=>h 0 (Nat.le_refl 0)⟩
 | j+1=>by
  unfold uF mxI
  have ih:=FQ v m j
  constructor
  ·intro h i hi
   simp only[if_true] at h
   rcases Nat.lt_or_ge j i with h1 | h1
   ·have:i=j+1:=by omega
    subst this;split at h<;>omega
   ·exact(ih.1 (by split at h<;>omega)) i h1
  ·intro h
   have h1:=ih.2 λi hi=>h i (by omega)
   have h2:=h (j+1) (Nat.le_refl _)
   simp only[if_true];split<;>assumption
def LM(v:List aO):Int:=uF v (v.length - 1)
theorem RO{v:List aO}(hv:0<v.length)(m:Int):(!decide (LM v>m))=bS v.length λi=> !decide ((gt v i).1>m):=by
 rw[Bool.eq_iff_iff,bN,vM,decide_eq_true_eq]
 unfold LM
 rw[FQ]
 simp only[vM,decide_eq_true_eq]
 exact⟨λh i hi=>h i (by omega),λh i hi=>h i (by omega)⟩
-- exchanges
def dQ(v:List eF)(k:Nat)(peer:Int)(inn:Bool):Bool:=(gt v k).1==peer&&rM (gt v k).2.2.1 inn
def B0(v:List eF)(i:Nat):Bool:=bS i λk=> !dQ v k (gt v i).1 (gt v i).2.2.1
def dE(v:List eF)(peer:Int)(inn:Bool):Int:=match (List.range v.length).find? (λk=>dQ v k peer inn)with
 | some k=>(k:Int)
 | none=> -1
theorem P3{a b:Bool}:rM a b=true↔a=b:=by cases a<;>cases b<;>decide
theorem EU{v:List eF}{i:Nat}(hi:i<v.length):(dE v (gt v i).1 (gt v i).2.2.1==(i:Int))=B0 v i:=by
 have hs:dQ v i (gt v i).1 (gt v i).2.2.1=true:=by unfold dQ;rw[Bool.and_eq_true];exact⟨by simp,MK _⟩
 rw[Bool.eq_iff_iff]
 unfold dE B0
 rw[bN]
 cases h:(List.range v.length).find? (λk=>dQ v k (gt v i).1 (gt v i).2.2.1)with
 | none=>
  rw[List.find?_eq_none] at h
  exact absurd hs (h i (List.mem_range.2 hi))
 | some k=>
  rw[List.find?_range_eq_some] at h
  obtain⟨h1,h2,h3⟩:=h
  constructor
  ·intro e j hj
   have e':(k:Int)=(i:Int):=by simpa using e
   have:k=i:=by omega
   subst this;exact h3 j hj
  ·intro e
   rcases Nat.lt_trichotomy k i with h4 | h4 | h4
   ·have:=e k h4;rw[h1] at this;cases this
   ·subst h4;simp
   ·have:=h3 i h4;rw[hs] at this;cases this
def nA(n:NodeT)(v:List eF)(i:Nat):Bool:=inB (gt v i).1 0 (i64.wrap (n.2.1 - 1))&&(!((gt v i).1==n.1)&&(inB (gt v i).2.1 0 100000&&(inB (gt v i).2.2.2.1 0 n.2.2.2.2.2.2.2.2.2.2.2.2.2.2.2.1&&B0 v i)))
abbrev NodeT.sess(n:NodeT):List eF:=n.2.2.2.2.2.2.2.2.2.2.2.2.2.2.1
abbrev NodeT.slots(n:NodeT):Int:=n.2.2.2.2.2.2.2.2.2.2.2.2.2.1
abbrev NodeT.rises(n:NodeT):List kM:=n.2.2.2.2.2.2.2.2.2.2.2.2.2.2.2.2.2.2.1
abbrev NodeT.clock(n:NodeT):Int:=n.2.2.2.2.2.2.2.2.2.2.2.2.2.2.2.2.2.1
abbrev NodeT.limit(n:NodeT):Int:=n.2.2.2.2.2.2.2.2.2.2.2.2.2.2.2.2.1
abbrev NodeT.wait(n:NodeT):Int:=n.2.2.2.2.2.2.2.2.2.2.2.2.2.2.2.1
abbrev NodeT.num(n:NodeT):Int:=n.2.2.2.2.2.2.2.2.2.2.2.2.1
abbrev NodeT.seen(n:NodeT):List bU:=n.2.2.2.2.2.2.2.2.2.2.2.1
abbrev NodeT.acked(n:NodeT):List aO:=n.2.2.2.2.2.2.2.2.2.2.1
abbrev NodeT.got(n:NodeT):List aO:=n.2.2.2.2.2.2.2.2.2.1
abbrev NodeT.log(n:NodeT):gV:=(n.2.2.2.2.2.2.1,n.2.2.2.2.2.2.2.1,n.2.2.2.2.2.2.2.2.1,())
abbrev NodeT.tree(n:NodeT):mU:=(n.2.2.2.2.1,n.2.2.2.2.2.1,())
abbrev NodeT.state(n:NodeT):aH:=(n.2.2.1,n.2.2.2.1,())
def lP(n:NodeT):Bool:= !decide ((n.sess.length:Int)>n.slots)&&bS n.sess.length (nA n n.sess)
def mH(n:NodeT)(x:Int):Bool:=inB x 0 (i64.wrap (n.2.1 - 1))&&x != n.1
def qW(n:NodeT)(v:List eF)(i:Nat):Bool:=mH n (gt v i).1&&(inB (gt v i).2.1 0 100000&&(inB (gt v i).2.2.2.1 0 n.wait&&dE v (gt v i).1 (gt v i).2.2.1==(i:Int)))
def tQ(n:NodeT):Bool:=bS n.sess.length (qW n n.sess)&&(inB n.slots 1 4&&decide ((n.sess.length:Int)<=n.slots))
theorem NG(n:NodeT):tQ n=(inB n.slots 1 4&&lP n):=by
 unfold lP tQ
 rw[vM,pE (ok:=qW n n.sess) (ok':=nA n n.sess) λi hi=>?_]
 ·ac_rfl
 ·unfold nA qW mH
  rw[EU hi,show((gt n.sess i).1 != n.1)= !((gt n.sess i).1==n.1)from rfl,Bool.and_assoc]
def kD(n:NodeT)(i:Nat):Bool:=inB (gt n.rises i).1 0 1000&&(inB (gt n.rises i).2.1 0 100000&&inB (gt n.rises i).2.2.1 0 n.clock)
def tU(n:NodeT):Bool:=bS n.rises.length (kD n)&&(n.rises.length:Int)==5
def tL(n:NodeT):Bool:=jJ n.tree.1 (cJ n.state).1&&n.tree.2.1==(cJ n.state).2.1
def lT(n:NodeT):Bool:=inB n.num 0 100000&&(inB n.clock 0 100000&&(inB n.slots 1 4&&(inB n.wait 1 20&&(inB n.limit 1 50&&((n.rises.length:Int)==5&&(bS n.rises.length (kD n)&&lP n))))))
def A6(n:NodeT):Bool:=bS n.acked.length λi=> !decide ((gt n.acked i).1>cF n.log)
def dY(n:NodeT):Bool:=inB n.2.1 1 5&&(inB n.1 0 (i64.wrap (n.2.1 - 1))&&(aP n.state&&(tL n&&(gR n.log&&(eI n.got n.2.1&&(eI n.acked n.2.1&&
 ((gt n.got n.1.toNat).1==cF n.log&&(gM n.seen n.2.1&&(A6 n&&lT n)))))))))
def yC(n:NodeT):Bool:=inB n.2.1 1 5&&(inB n.1 0 (i64.wrap (n.2.1 - 1))&&(aP n.state&&(tL n&&(gR n.log&&(eI n.got n.2.1&&(eI n.acked n.2.1&&
 ((gt n.got n.1.toNat).1==cF n.log&&(!decide (LM n.acked>cF n.log)&&(gM n.seen n.2.1&&(inB n.num 0 100000&&(inB n.clock 0 100000&&(inB n.wait 1 20&&(inB n.limit 1 50&&(tQ n&&tU n))))))))))))))
theorem BI{v:List aO}{n:Int}(h:eI v n=true):0<v.length:=by
 unfold eI at h;simp only[Bool.and_eq_true,aV,beq_iff_eq] at h;omega
theorem OB(n:NodeT):yC n=dY n:=by
 unfold yC dY
 cases h:eI n.acked n.2.1 with
 | false=>simp only[Bool.false_and,Bool.and_false]
 | true=>
  rw[RO (BI h),NG]
  unfold tU lT A6
  ac_rfl
-- worlds
def lU(w:a9)(i:Nat):Bool:=dY (gt w.1 i)&&((gt w.1 i).2.1==(w.1.length:Int)&&(gt w.1 i).1==(i:Int))
def iQ(w:a9)(i:Nat):Bool:=inB (gt w.2.2.1 i).1 0 (i64.wrap ((w.1.length:Int) - 1))&&aP (gt w.2.2.1 i).2
def bM(w:a9):Bool:=inB (w.1.length:Int) 1 5&&(!decide ((w.2.1.length:Int)>12)&&(!decide ((w.2.2.1.length:Int)>40)&&
 (bS w.1.length (lU w)&&(bS w.2.1.length (λi=>inB (gt w.2.1 i).1 0 (i64.wrap ((w.1.length:Int) - 1)))&&bS w.2.2.1.length (iQ w)))))
-- sizes that a machine holds
structure SzS (s:aH):Prop where
 a:s.1.length<=aW
 b:s.2.1.length<=aW
structure SzN (n:NodeT):Prop where
 state:SzS n.state
 leaves:n.tree.1.length<=aW
 list:n.log.2.2.1.length<=aW
 logs:∀ i,i<n.log.2.2.1.length->SzS (gt n.log.2.2.1 i)
 got:n.got.length<=aW
 acked:n.acked.length<=aW
 seen:n.seen.length<=aW
 lines:∀ i,i<n.seen.length->(gt n.seen i).1.length<=aW
 sess:n.sess.length<=aW
 rises:n.rises.length<=aW
structure SzW (w:a9):Prop where
 nodes:w.1.length<=aW
 node:∀ i,i<w.1.length->SzN (gt w.1 i)
 net:w.2.1.length<=aW
 said:w.2.2.1.length<=aW
 part:∀ i,i<w.2.2.1.length->SzS (gt w.2.2.1 i).2
end Go.Abs
/- Small rows have small sizes. -/
namespace Go.Abs
end Go.Abs
/- Plain laws: views, sides, what is cleared, what is the same here. -/
namespace Go.Abs
def iL(s:aH):List bF:=bif aP s then s.1.filter (λx=>x.2.2.1==0)else[]
theorem u4{s:aH}(h:SzS s):(iL s).length<=aW:=by
 unfold iL
 cases aP s with
 | false=>exact Nat.zero_le _
 | true=>exact Nat.le_trans (List.length_filter_le _ _) h.a
def qJ(x y:bF):Bool:=kS x.1 y.1&&((kS x.2.1 y.2.1&&(kS x.2.2.1 y.2.2.1&&(kS x.2.2.2.1 y.2.2.2.1&&(kS x.2.2.2.2.1 y.2.2.2.2.1&&(MJ x.2.2.2.2.2.1 y.2.2.2.2.2.1&&true)))))&&true)
def j9(x y:aU):Bool:=kS x.1 y.1&&(kS x.2.1 y.2.1&&true)
def fC(a b:List bF):Bool:=(a.length:Int)==(b.length:Int)&&bS a.length λi=>qJ (gt a i) (gt b i)
def fB(a b:aH):Bool:=(a.1.length:Int)==(b.1.length:Int)&&((a.2.1.length:Int)==(b.2.1.length:Int)&&(bS a.1.length (λi=>qJ (gt a.1 i) (gt b.1 i))&&bS a.2.1.length λi=>j9 (gt a.2.1 i) (gt b.2.1 i)))
theorem xR(a b:List bF):fB (a,[],()) (b,[],())=fC a b:=by
 unfold fB fC
 show(_&&(true&&(_&&true)))=_
 rw[Bool.true_and,Bool.and_true]
theorem ME{a b:ByteArray}:(a==b)=true↔a=b:=by
 cases a with
 | mk x=>cases b with
  | mk y=>
   show ByteArray.beq ⟨x⟩ ⟨y⟩=true↔_
   simp[ByteArray.beq]
theorem AN{x y:bF}:qJ x y=true↔x=y:=by
 obtain⟨a,b,c,d,e,s,u⟩:=x
 obtain⟨a',b',c',d',e',s',u'⟩:=y
 unfold qJ kS MJ
 simp only[Bool.and_eq_true,beq_iff_eq,ME,Prod.mk.injEq,and_true]
theorem xH{x y:aU}:j9 x y=true↔x=y:=by
 obtain⟨a,b,u⟩:=x
 obtain⟨a',b',u'⟩:=y
 unfold j9 kS
 simp only[Bool.and_eq_true,beq_iff_eq,Prod.mk.injEq,and_true]
theorem IM{α:Type}[Inhabited α]{a b:List α}(hl:a.length=b.length)(h:∀ i,i<a.length->gt a i=gt b i):a=b:=
 List.ext_getElem hl λi h1 h2=>by have:=h i h1;rw[cS h1,cS h2] at this;exact this
theorem mV{a b:aH}:fB a b=true↔a=b:=by
 obtain⟨a1,a2,u⟩:=a
 obtain⟨b1,b2,u'⟩:=b
 unfold fB
 simp only[Bool.and_eq_true,bN,beq_iff_eq]
 constructor
 ·rintro ⟨h1,h2,h3,h4⟩
  have e1:a1=b1:=IM (by omega) λi hi=>AN.1 (h3 i hi)
  have e2:a2=b2:=IM (by omega) λi hi=>xH.1 (h4 i hi)
  rw[e1,e2]
 ·intro h
  cases h
  exact⟨rfl,rfl,λi _=>AN.2 rfl,λi _=>xH.2 rfl⟩
theorem CZ{w:a9}(h:bM w=true){i:Nat}(hi:i<w.1.length):dY (gt w.1 i)=true:=by
 unfold bM lU at h;simp only[Bool.and_eq_true,bN] at h
 exact(h.2.2.2.1 i hi).1
end Go.Abs
/- Plain laws: entries compared, states joined. -/
namespace Go.Abs
theorem bA{β:Type}{o:Option Out}{A B:List Kd}{r:Row A}{s:Row B}{f:Rows [A,B]×Rows []->Option β}(h:o=some ⟨[⟨A,r⟩,⟨B,s⟩],[]⟩):(o.bind (dR [A,B] [])).bind f=f ((r,s,()),()):=by
 rw[h];exact UP r s f
def c9:bI:=(0,0,0,0,⟨#[]⟩,())
def bG(s:aH)(id:Int):bI×Bool:=match (List.range s.1.length).find? (λi=>(gt s.1 i).1==id)with
 | some i=>((gt s.1 i).2,true)
 | none=>(c9,false)
theorem fK(s:aH)(id:Int):(∃ x∈s.1,x.1=id/\bG s id=(x.2,true))\/((∀ x∈s.1,x.1≠id)/\bG s id=(c9,false)):=by
 unfold bG
 cases h:(List.range s.1.length).find? (λi=>(gt s.1 i).1==id)with
 | none=>
  rw[List.find?_eq_none] at h
  refine .inr ⟨λx hx=>?_,rfl⟩
  obtain⟨i,hi,rfl⟩:=hO hx
  have:=h i (List.mem_range.2 hi)
  simpa using this
 | some i=>
  rw[List.find?_range_eq_some] at h
  exact .inl ⟨_,cN (List.mem_range.1 h.2.1),eq_of_beq h.1,rfl⟩
theorem eQ(s:aH)(id:Int):(∃ x∈s.2.1,x.1=id/\cO s.2.1 id=x.2.1)\/((∀ x∈s.2.1,x.1≠id)/\cO s.2.1 id=0):=by
 unfold cO
 cases h:(List.range s.2.1.length).find? (λi=>(gt s.2.1 i).1==id)with
 | none=>
  rw[List.find?_eq_none] at h
  refine .inr ⟨λx hx=>?_,rfl⟩
  obtain⟨i,hi,rfl⟩:=hO hx
  have:=h i (List.mem_range.2 hi)
  simpa using this
 | some i=>
  rw[List.find?_range_eq_some] at h
  exact .inl ⟨_,cN (List.mem_range.1 h.2.1),eq_of_beq h.1,rfl⟩
-- entries compared
def l2(a b:Int):Int:=bif decide (a<b)then -1 else bif decide (a>b)then 1 else 0
def uR(s t:ByteArray):Int:=Lib.compareBytes s.data.toList t.data.toList
def orN(ls:List aO):Int:=match (List.range ls.length).find? (λi=>(gt ls i).1 != 0)with
 | some i=>(gt ls i).1
 | none=>0
def gL(a b:bI):Int:=if l2 a.1 b.1≠0 then l2 a.1 b.1 else if l2 a.2.1 b.2.1≠0 then l2 a.2.1 b.2.1 else if l2 a.2.2.1 b.2.2.1≠0 then l2 a.2.2.1 b.2.2.1 else if l2 a.2.2.2.1 b.2.2.2.1≠0 then l2 a.2.2.2.1 b.2.2.2.1 else uR a.2.2.2.2.1 b.2.2.2.2.1
theorem FJ(ls:List aO):orN ls=(match ls.find? (λx:aO=>x.1 != 0)with | some x=>x.1 | none=>0):=by
 have h:=pC (λx:aO=>x.1 != 0) (λx:aO=>x.1) 0 ls
 unfold orN
 cases h1:(List.range ls.length).find? (λi=>(gt ls i).1 != 0)<;>cases h2:ls.find? (λx:aO=>x.1 != 0)<;>simp only[h1,h2] at h ⊢<;>exact h
theorem p7(x:Int)(ls:List aO):orN ((x,())::ls)=if x≠0 then x else orN ls:=by
 rw[FJ,FJ,List.find?_cons]
 by_cases h:x=0
 ·subst h;rfl
 ·have:((x,()):aO).1 != 0:=by simpa using h
  rw[this,if_pos h]
theorem RI(a b:bI):orN [(l2 a.1 b.1,()),(l2 a.2.1 b.2.1,()),(l2 a.2.2.1 b.2.2.1,()),(l2 a.2.2.2.1 b.2.2.2.1,()),(uR a.2.2.2.2.1 b.2.2.2.2.1,())]=gL a b:=by
 unfold gL
 rw[p7,p7,p7,p7,p7]
 have:(if uR a.2.2.2.2.1 b.2.2.2.2.1≠0 then uR a.2.2.2.2.1 b.2.2.2.2.1 else orN [])=uR a.2.2.2.2.1 b.2.2.2.2.1:=by
  by_cases h:uR a.2.2.2.2.1 b.2.2.2.2.1=0
  ·rw[h];rfl
  ·rw[if_pos h]
 rw[this]
def MI(b:Bool):Int:=bif b then 1 else 0
theorem CO:∀ x y:List UInt8,(bif Op.bytesLess x y then(-1:Int)else MI (!(Op.bytesLess x y||x==y)))=Lib.compareBytes x y
 | [],[]=>rfl
 | [],_::_=>rfl
 | _::_,[]=>rfl
 | a ::x,b::y=>by
  have ih:=CO x y
  unfold Op.bytesLess Lib.compareBytes
  by_cases h1:a<b
  ·simp[h1]
  ·by_cases h2:b<a
   ·have hne:(a==b)=false:=by
     simp only[beq_eq_false_iff_ne,ne_eq];rintro rfl;exact h1 h2
    have hne':(a::x==b::y)=false:=by rw[List.cons_beq_cons,hne];rfl
    rw[if_neg h1,if_pos h2,hne,hne'];simp[h1,MI]
   ·have he:a=b:=by
     rcases UInt8.lt_or_lt_of_ne (a:=a) (b:=b)with h
     by_cases hab:a=b
     ·exact hab
     ·rcases UInt8.lt_or_lt_of_ne hab with h | h
      ·exact absurd h h1
      ·exact absurd h h2
    subst he
    rw[if_neg h1,if_neg h2,<- ih,List.cons_beq_cons]
    simp[h1]
end Go.Abs
/- Plain laws: joins, what was said, what lies beneath, what is over. -/
namespace Go.Abs
theorem z4(a b:Int):l2 b a= - l2 a b:=by
 unfold l2
 rcases Int.lt_trichotomy a b with h | h | h
 ·rw[decide_eq_true h,decide_eq_false (by omega:¬ b<a)];rfl
 ·subst h;rw[decide_eq_false (by omega:¬ a<a)];rfl
 ·rw[decide_eq_true h,decide_eq_false (by omega:¬ a<b)];rfl
theorem v7:∀ x y:List UInt8,Lib.compareBytes y x= - Lib.compareBytes x y
 | [],[]=>rfl
 | [],_::_=>rfl
 | _::_,[]=>rfl
 | a::x,b::y=>by
  unfold Lib.compareBytes
  by_cases h1:a<b
  ·have h2:¬ b<a:=λh=>by rw[UInt8.lt_iff_toNat_lt] at h h1;omega
   simp[h1,h2]
  ·by_cases h2:b<a
   ·simp[h1,h2]
   ·simp[h1,h2,v7 x y]
theorem uJ(x y:Int):(if -x≠0 then -x else -y)= -(if x≠0 then x else y):=by
 by_cases h:x=0
 ·subst h;simp
 ·rw[if_pos h,if_pos (by omega)]
theorem qN(a b:bI):gL b a= - gL a b:=by
 unfold gL
 rw[z4 a.1 b.1,z4 a.2.1 b.2.1,z4 a.2.2.1 b.2.2.1,z4 a.2.2.2.1 b.2.2.2.1,show uR b.2.2.2.2.1 a.2.2.2.2.1= - uR a.2.2.2.2.1 b.2.2.2.2.1 from v7 _ _,uJ,uJ,uJ,uJ]
theorem v4{y:bI}(h:1<=y.1):gL c9 y= -1:=by
 have e:l2 c9.1 y.1= -1:=by
  unfold l2;rw[decide_eq_true (show c9.1<y.1 from by show(0:Int)<y.1;omega)];rfl
 unfold gL;rw[e];rfl
def orZ(z:Int)(ls:List aO):Int:=match (List.range ls.length).find? (λi=>(gt ls i).1 != 0)with
 | some i=>(gt ls i).1
 | none=>z
theorem FI(z:Int)(ls:List aO):orZ z ls=(match ls.find? (λx:aO=>x.1 != 0)with | some x=>x.1 | none=>z):=by
 have h:=pC (λx:aO=>x.1 != 0) (λx:aO=>x.1) z ls
 unfold orZ
 cases h1:(List.range ls.length).find? (λi=>(gt ls i).1 != 0)<;>cases h2:ls.find? (λx:aO=>x.1 != 0)<;>simp only[h1,h2] at h ⊢<;>exact h
theorem uA(z x:Int)(ls:List aO):orZ z ((x,())::ls)=if x≠0 then x else orZ z ls:=by
 rw[FI,FI,List.find?_cons]
 by_cases h:x=0
 ·subst h;rfl
 ·have:((x,()):aO).1 != 0:=by simpa using h
  rw[this,if_pos h]
def F8(a b:bI):List aO:=[(l2 a.1 b.1,()),(l2 a.2.1 b.2.1,()),(l2 a.2.2.1 b.2.2.1,()),(l2 a.2.2.2.1 b.2.2.2.1,())]
theorem N5(a b:bI):orZ (uR a.2.2.2.2.1 b.2.2.2.2.1) (F8 a b)=gL a b:=by
 unfold F8 gL
 rw[uA,uA,uA,uA];rfl
theorem MB(x y:ByteArray):(bif Op.bytesLess (ByteArray.toList x) (ByteArray.toList y)then(-1:Int)else MI (!(Op.bytesLess (ByteArray.toList x) (ByteArray.toList y)||ByteArray.toList x==ByteArray.toList y)))=uR x y:=by
 rw[ByteArray.toList_eq,ByteArray.toList_eq];exact CO _ _
/-- The cells of a state that a join leans on. -/
structure Pos (s:aH):Prop where
 item:∀ x∈s.1,1<=x.2.1
 floor:∀ f∈s.2.1,0<=f.2.1
theorem StateOk.pos{s:aH}(h:StateOk s):Pos s where
 item x hx:=by
  have:=(h.item x hx).2.1
  unfold eE at this;simp only[Bool.and_eq_true,aV] at this;omega
 floor f hf:=by have:=(h.floor f hf).2;rw[aV] at this;omega
theorem DN:Pos ([],[],()):=⟨λx hx=>(List.not_mem_nil hx).elim,λx hx=>(List.not_mem_nil hx).elim⟩
def mxE(a b:bI):bI:=bif decide (gL a b<0)then b else a
def eB(a b:aH)(i:Int):bI:=mxE (bG a i).1 (bG b i).1
def flr(a b:aH)(i:Int):Int:=mxI true (cO a.2.1 i) (cO b.2.1 i)
def dF(a b:aH)(i:Nat):List bF:=bif decide ((eB a b i).1>flr a b i)then[((i:Int),eB a b i)] else[]
def cR(a b:aH)(i:Nat):List aU:=bif decide (flr a b i>0)then[((i:Int),flr a b i,())] else[]
def cL(a b:aH):aH:=(bL 5 (dF a b),bL 5 (cR a b),())
theorem rJ(a b:aH)(i:Nat):(dF a b i).length<=1:=by unfold dF;cases decide ((eB a b i).1>flr a b i)<;>simp
theorem oY(a b:aH)(i:Nat):(cR a b i).length<=1:=by unfold cR;cases decide (flr a b i>0)<;>simp
theorem lJ(a b:aH):(cL a b).1.length<=5/\(cL a b).2.1.length<=5:=
 ⟨cY (n:=5) (L:=1) λi _=>rJ a b i,cY (n:=5) (L:=1) λi _=>oY a b i⟩
theorem iR(a b:aH):SzS (cL a b):=⟨Nat.le_trans (lJ a b).1 (by decide),Nat.le_trans (lJ a b).2 (by decide)⟩
theorem D3{a b:aH}(ha:Pos a)(i:Int):0<=flr a b i:=by
 have h:0<=cO a.2.1 i:=by
  rcases eQ a i with ⟨x,hx,_,e⟩ | ⟨_,e⟩
  ·rw[e];exact ha.floor x hx
  ·omega
 unfold flr mxI;simp only[if_true];split<;>omega
theorem OH:mxE c9 c9=c9:=by
 unfold mxE;cases decide (gL c9 c9<0)<;>rfl
theorem CD{a b:aH}(ha:Pos a):Pos (cL a b) where
 item x hx:=by
  obtain⟨i,_,h⟩:=List.mem_flatMap.1 hx
  have hn:=D3 (b:=b) ha (i:Int)
  unfold dF at h
  cases hd:decide ((eB a b i).1>flr a b i)with
  | false=>rw[hd] at h;cases h
  | true=>rw[hd] at h;have:=of_decide_eq_true hd;have e:=List.mem_singleton.1 h;rw[e];show 1<=(eB a b i).1;omega
 floor f hf:=by
  obtain⟨i,_,h⟩:=List.mem_flatMap.1 hf
  have hn:=D3 (b:=b) ha (i:Int)
  unfold cR at h
  cases hd:decide (flr a b i>0)with
  | false=>rw[hd] at h;cases h
  | true=>rw[hd] at h;have e:=List.mem_singleton.1 h;rw[e];exact hn
theorem RG{a b:aH}{i:Int}(ha:bG a i=(c9,false))(hb:bG b i=(c9,false)):eB a b i=c9:=by
 unfold eB;rw[ha,hb];exact OH
theorem xY{a b:aH}{i:Int}{y:bI}(ha:bG a i=(c9,false))(hb:bG b i=(y,true))(hy:1<=y.1):eB a b i=y:=by
 unfold eB mxE;rw[ha,hb];rw[show gL (c9,false).1 (y,true).1= -1 from v4 hy];rfl
theorem xX{a b:aH}{i:Int}{x:bI}(ha:bG a i=(x,true))(hb:bG b i=(c9,false))(hx:1<=x.1):eB a b i=x:=by
 unfold eB mxE;rw[ha,hb];rw[show gL (x,true).1 (c9,false).1=1 from by rw[show gL (x,true).1 (c9,false).1= - gL c9 x from qN c9 x,v4 hx];rfl];rfl
theorem JJ{a b:aH}{i:Int}{x y:bI}(ha:bG a i=(x,true))(hb:bG b i=(y,true)):eB a b i=bif decide (gL y x>0)then y else x:=by
 unfold eB mxE;rw[ha,hb]
 show(bif decide (gL x y<0)then y else x)=_
 rw[show decide (gL x y<0)=decide (gL y x>0)from ?_]
 rw[qN x y]
 by_cases h:gL x y<0
 ·rw[decide_eq_true h,decide_eq_true (by omega)]
 ·rw[decide_eq_false h,decide_eq_false (by omega)]
theorem gH{a b:aH}{i:Nat}{e:bI}(he:eB a b i=e)(h:e.1>flr a b i):dF a b i=[((i:Int),e)]:=by
 unfold dF;rw[he,decide_eq_true h];rfl
theorem gI{a b:aH}{i:Nat}{e:bI}(he:eB a b i=e)(h:¬ e.1>flr a b i):dF a b i=[]:=by
 unfold dF;rw[he,decide_eq_false h];rfl
theorem oW{a b:aH}{i:Nat}(h:flr a b i>0):cR a b i=[((i:Int),flr a b i,())]:=by
 unfold cR;rw[decide_eq_true h];rfl
theorem sX{a b:aH}{i:Nat}(h:¬ flr a b i>0):cR a b i=[]:=by
 unfold cR;rw[decide_eq_false h];rfl
theorem qK{s:aH}(hs:Pos s)(i:Int):(∃ x:bI,1<=x.1/\bG s i=(x,true))\/bG s i=(c9,false):=by
 rcases fK s i with ⟨x,hx,_,e⟩ | ⟨_,e⟩
 ·exact .inl ⟨x.2,hs.item x hx,e⟩
 ·exact .inr e
-- less
def jZ(a b:aH):Bool:=aP a&&(aP b&&fB (cL a b) b)
-- over
def gone(s:aH)(id:Int):Int:=bif aP s then(bif(bG s id).2 then(bif(bG s id).1.2.1==0 then i64.wrap ((bG s id).1.1 - 1)else(bG s id).1.1)else cO s.2.1 id)else 0
-- what was said
def iC:aH:=([],[],())
def eG(g:Nat->aH):Nat->aH
 | 0=>iC
 | k+1=>cL (eG g k) (g k)
theorem gP:SzS iC:=⟨Nat.zero_le _,Nat.zero_le _⟩
theorem vQ(g:Nat->aH):∀ k,SzS (eG g k)
 | 0=>gP
 | k+1=>iR _ _
theorem z5(g:Nat->aH):∀ k,Pos (eG g k)
 | 0=>DN
 | k+1=>CD (z5 g k)
def bP(w:a9)(i:Nat):aH:=(gt w.2.2.1 i).2
def kK(w:a9):aH:=bif bM w then eG (bP w) w.2.2.1.length else iC
def OT(w:a9)(node:Int):Nat->Int
 | 0=>0
 | k+1=>OT w node k+MI ((gt w.2.2.1 k).1==node)
def many(w:a9)(node:Int):Int:=OT w node w.2.2.1.length
def cM(w:a9)(ls:List aO):Nat->aH
 | 0=>iC
 | k+1=>bif inB (gt ls k).1 0 (i64.wrap ((w.2.2.1.length:Int) - 1))then cL (cM w ls k) (bP w (gt ls k).1.toNat)else cM w ls k
theorem lX(w:a9)(ls:List aO):∀ k,SzS (cM w ls k)/\Pos (cM w ls k)
 | 0=>⟨gP,DN⟩
 | k+1=>by
  have h:=lX w ls k
  unfold cM
  cases inB (gt ls k).1 0 (i64.wrap ((w.2.2.1.length:Int) - 1))with
  | false=>exact h
  | true=>exact⟨iR _ _,CD h.2⟩
def eM(w:a9)(ls:List aO):aH:=bif bM w then cM w ls ls.length else iC
theorem vP(w:a9)(ls:List aO):SzS (eM w ls):=by
 unfold eM;cases bM w with
 | false=>exact gP
 | true=>exact(lX w ls _).1
theorem EE(w:a9):SzS (kK w):=by
 unfold kK;cases bM w with
 | false=>exact gP
 | true=>exact vQ _ _
def bH(w:a9)(s:aH):List aO:=bif bM w&&aP s then bL w.2.2.1.length (λi=>bif jZ (bP w i) s then[((i:Int),())] else[])else[]
theorem qR(w:a9)(s:aH)(h:w.2.2.1.length<=aW):(bH w s).length<=aW:=by
 unfold bH
 cases bM w&&aP s with
 | false=>exact Nat.zero_le _
 | true=>
  have:=cY (n:=w.2.2.1.length) (g:=λi=>bif jZ (bP w i) s then[((i:Int),())] else[]) (L:=1) (λi _=>by cases jZ (bP w i) s<;>simp)
  show(bL w.2.2.1.length _).length<=aW
  omega
def eR(w:a9)(s:aH):Bool:=bM w&&(aP s&&fC (iL s) (iL (eM w (bH w s))))
theorem nY{w:a9}(h:bM w=true){i:Nat}(hi:i<w.2.2.1.length):aP (bP w i)=true:=by
 unfold bM at h;simp only[Bool.and_eq_true,bN] at h
 have:=h.2.2.2.2.2 i hi
 unfold iQ at this;simp only[Bool.and_eq_true] at this;exact this.2
end Go.Abs
/- Plain laws: what the judges decide. -/
namespace Go.Abs
def jX(a b:List aU):Bool:=(a.length:Int)==(b.length:Int)&&bS a.length λi=>j9 (gt a i) (gt b i)
theorem E0(a b:aH):(fC a.1 b.1&&jX a.2.1 b.2.1)=fB a b:=by
 unfold fB fC jX;ac_rfl
theorem PA{s:aH}(hs:aP s=false)(id:Int):gone s id=0:=by unfold gone;rw[hs];rfl
theorem uV{β:Type}{q r:Prop}[Decidable q][Decidable r]{x y:β}(h:q)(h':r):(bif decide q&&decide r then x else y)=x:=by
 rw[decide_eq_true h,decide_eq_true h'];rfl
-- own
-- views
-- heard
-- seen
theorem D5{s:aH}(h:StateOk s){f:aU}(hf:f∈s.2.1):cO s.2.1 f.1=f.2.1:=by
 rcases eQ s f.1 with ⟨x,hx,h1,e⟩ | ⟨h1,_⟩
 ·have:x=f:=by
   obtain⟨i,hi,rfl⟩:=hO hx
   obtain⟨j,hj,rfl⟩:=hO hf
   have hp:=h.floors
   rw[List.pairwise_iff_getElem] at hp
   rcases Nat.lt_trichotomy i j with h2 | h2 | h2
   ·have:=hp i j hi hj h2;rw[<- cS hi,<- cS hj] at this;omega
   ·rw[h2]
   ·have:=hp j i hj hi h2;rw[<- cS hi,<- cS hj] at this;omega
  rw[e,this]
 ·exact absurd rfl (h1 f hf)
theorem RY{s:aH}(hs:aP s=true)(id:Int):0<=gone s id:=by
 have ok:=(aS s).1 hs
 unfold gone;rw[hs]
 rcases fK s id with ⟨x,hx,_,e⟩ | ⟨_,e⟩
 ·rw[e]
  have:=(ok.item x hx).2.1
  unfold eE at this;simp only[Bool.and_eq_true,aV] at this
  show 0<=(bif x.2.2.1==0 then i64.wrap (x.2.1 - 1)else x.2.1)
  rw[u3 (by omega) (by omega)]
  cases x.2.2.1==0 with
  | false=>show 0<=x.2.1;omega
  | true=>show 0<=x.2.1 - 1;omega
 ·rw[e]
  show 0<=cO s.2.1 id
  rcases eQ s id with ⟨x,hx,_,e⟩ | ⟨_,e⟩
  ·rw[e];exact ok.pos.floor x hx
  ·omega
-- QX, JV, grown
def QX(w:a9):Bool:=bM w&&bS w.1.length λi=>fC (iL (gt w.1 i).state) (iL (kK w))
def oQ(s:aH)(id:Int):bI×Bool:=bG (iL s,[],()) id
def JU(w:a9)(id:Int):Nat->Int
 | 0=>0
 | k+1=>JU w id k+MI (oQ (gt w.1 k).state id).2
def JV(w:a9)(id:Int):Int:=bif bM w then JU w id w.1.length else 0
end Go.Abs
/- Plain laws: differences of views applied, and what they are. -/
namespace Go.Abs
end Go.Abs
/- Plain laws: draws. -/
namespace Go.Abs
abbrev eV:=List aO×Int×Int×Unit
structure CurOk (c:eV):Prop where
 len:c.1.length<=1048576
 lo:0<=c.2.1
 hi:c.2.1<=c.1.length
theorem yK(a:Int):0<=I4 .i64 a 255/\I4 .i64 a 255<=255:=by
 unfold I4
 have h:(BitVec.ofInt i64.bits a&&& BitVec.ofInt i64.bits 255).toNat<=255:=by
  rw[BitVec.toNat_and];exact Nat.le_trans Nat.and_le_right (by decide)
 generalize (BitVec.ofInt i64.bits a&&& BitVec.ofInt i64.bits 255).toNat=m at h
 have e:i64.wrap (m:Int)=m:=by rw[IntKind.wrap_i64];omega
 rw[e];omega
theorem tM{x n:Int}(hx:0<=x)(hn:0<n):0<=x.tmod n/\x.tmod n<n:=by
 rw[Int.tmod_eq_emod_of_nonneg hx]
 exact⟨Int.emod_nonneg _ (by omega),Int.emod_lt_of_pos _ hn⟩
theorem aG{β:Type}{o:Option Out}{A B:List Kd}{r:Row A}{s:Row B}{f:Rows [A]×Rows [B]->Option β}(h:o=some ⟨[⟨A,r⟩],[⟨B,s⟩]⟩):(o.bind (dR [A] [B])).bind f=f ((r,()),(s,())):=by
 rw[h];simp[dR,fG,jP];rfl
theorem AS{β:Type}{o:Option Out}{A B:List Kd}{r:Row A}{s:Row B}{f:Rows [A,B]×Rows []->Option β}(h:o=some ⟨[⟨A,r⟩,⟨B,s⟩],[]⟩):(o.bind (dR [A,B] [])).bind f=f ((r,s,()),()):=by
 rw[h];simp[dR,fG,jP];rfl
/-- A loop whose rounds are told by what they keep. -/
theorem It.ex {ι σ:Type} {lvl:Nat} {c:Nat->Nat->ι->(σ->Option Out)->σ->Option Out} (Inv:Nat->σ->Prop) (Good:Out->Prop) (N:Nat)
  (hs:∀ i x,i<N->Inv i x->∃ y,Inv (i+1) y/\∀ n,lvl<=n->∀ aA a rec,c n aA a rec x=rec y)
  (he:∀ x,Inv N x->∃ o,Good o/\∀ n,lvl<=n->It (c n) x (λ_=>some o)):∀ (m j:Nat) x,j+m=N->Inv j x->∃ o,Good o/\∀ n,lvl<=n->It (c n) x (λ_=>some o)
 | 0,j,x,hj,hx=>he x ((show j=N by omega)▸hx)
 | m+1,j,x,hj,hx=>by
  obtain⟨y,hy,h⟩:=hs j x (by omega) hx
  obtain⟨o,ho,h'⟩:=It.ex Inv Good N hs he m (j+1) y (by omega) hy
  exact⟨o,ho,λn hn=>It.next (λaA a rec=>h n hn aA a rec) (h' n hn)⟩
def datas:List ByteArray:=[⟨#[]⟩,⟨#[97]⟩,⟨#[98]⟩,⟨#[97,98]⟩,⟨#[49,50,51,52,53,54,55,56]⟩,⟨#[49,50,51,52,53,54,55,56,57]⟩]
def QE(e:bI):Prop:=e.2.2.2.2.1∈datas
structure StD (k:Nat) (s:aH):Prop where
 a:s.1.length<=k
 b:s.2.1.length<=k
 data:∀ x∈s.1,QE x.2
theorem StD.sz{k:Nat}{s:aH}(h:StD k s)(hk:k<=1048576):SzS s:=⟨Nat.le_trans h.a hk,Nat.le_trans h.b hk⟩
theorem QF:QE c9:=List.mem_cons_self ..
theorem xI{P:bI->Prop}(hz:P c9){s:aH}(hs:∀ x∈s.1,P x.2)(i:Int):P (bG s i).1:=by
 unfold bG
 cases h:(List.range s.1.length).find? (λj=>(gt s.1 j).1==i)with
 | none=>exact hz
 | some j=>
  have hj:=List.mem_range.1 (List.mem_of_find?_eq_some h)
  show P (gt s.1 j).2
  rw[cS hj];exact hs _ (List.getElem_mem hj)
theorem iY{α:Type}{n:Nat}{g:Nat->List α}{x:α}(h:x∈bL n g):∃ i,i<n/\x∈g i:=by
 induction n with
 | zero=>exact(List.not_mem_nil h).elim
 | succ n ih=>
  rw[c8] at h
  rcases List.mem_append.1 h with h | h
  ·obtain⟨i,hi,hx⟩:=ih h;exact⟨i,by omega,hx⟩
  ·exact⟨n,by omega,h⟩
theorem LV{P:bI->Prop}(hz:P c9){a b:aH}(ha:∀ x∈a.1,P x.2)(hb:∀ x∈b.1,P x.2):∀ x∈(cL a b).1,P x.2:=by
 intro x hx
 obtain⟨i,_,hi⟩:=iY hx
 unfold dF at hi
 cases hc:decide ((eB a b (i:Int)).1>flr a b (i:Int))with
 | false=>rw[hc] at hi;exact(List.not_mem_nil hi).elim
 | true=>
  rw[hc] at hi
  have e:x=((i:Int),eB a b (i:Int)):=List.mem_singleton.1 hi
  subst e
  show P (eB a b (i:Int))
  unfold eB mxE
  cases decide (gL (bG a (i:Int)).1 (bG b (i:Int)).1<0)
  ·exact xI hz ha _
  ·exact xI hz hb _
theorem JW{j k:Nat}{a b:aH}(ha:StD j a)(hb:StD k b):StD 5 (cL a b):=⟨(lJ a b).1,(lJ a b).2,LV QF ha.data hb.data⟩
theorem z9{β:Type}{A B:Prop}[Decidable A][Decidable B]{X R:β}(h:¬ A\/¬ B):(bif decide A then(bif decide B then X else R)else R)=R:=by
 by_cases a:A
 ·rcases h with h | h
  ·exact absurd a h
  ·rw[decide_eq_true a,decide_eq_false h];rfl
 ·rw[decide_eq_false a];rfl
/-- The loop of a new cursor, and what comes behind it. -/
theorem It.new {lvl:Nat} {c:Nat->Nat->Unit->(Int×Int->Option Out)->Int×Int->Option Out} (Good:Out->Prop) (b:List aO) (hb:b.length<=1048576)
  (hs:∀ (i:Nat) (h:Int),i<b.length->i<4000->∃ h',∀ n,lvl<=n->∀ aA a rec,c n aA a rec (h,(i:Int))=rec (h',((i+1:Nat):Int)))
  (he:∀ (h i:Int),CurOk (b,0,h,())->(¬ i<(b.length:Int)\/¬ i<4000)->∃ o,Good o/\∀ n,lvl<=n->∃ M,∀ aA,M<=aA->∀ a rec,c n aA a rec (h,i)=some o) (h0:Int):
  ∃ o,Good o/\∀ n,lvl<=n->It (c n) (h0,(0:Int)) (λ_=>some o):=by
 refine It.ex (λi y=>∃ h,y=(h,(i:Int))) Good (min b.length 4000) ?_ ?_ (min b.length 4000) 0 (h0,(0:Int)) (by omega) ⟨h0,rfl⟩
 ·rintro i y hi ⟨h,rfl⟩
  obtain⟨h',hh⟩:=hs i h (by omega) (by omega)
  exact⟨_,⟨h',rfl⟩,hh⟩
 ·rintro y ⟨h,rfl⟩
  obtain⟨o,ho,hh⟩:=he h ((min b.length 4000:Nat):Int) ⟨hb,by show(0:Int)<=0;omega,by show(0:Int)<=(b.length:Int);omega⟩ (by omega)
  refine⟨o,ho,λn hn=>?_⟩
  obtain⟨M,hM⟩:=hh n hn
  refine⟨M+1,λaA k hf hk a=>?_⟩
  obtain⟨k,rfl⟩:∃ k',k=k'+1:=⟨k - 1,by omega⟩
  exact hM aA (by omega) a _
end Go.Abs
-- marks, tables, taking and receiving: plain laws
namespace Go.Abs
abbrev MsgT:=Int×Int×Int×Int×Int×List aO×Int×List aO×List aO×List bF×List aU×List aU×Unit
abbrev MsgT.hi(m:MsgT):Int:=m.2.2.2.2.1
abbrev MsgT.tree(m:MsgT):mU:=(m.2.2.2.2.2.1,m.2.2.2.2.2.2.1,())
abbrev MsgT.vec(m:MsgT):List aO:=m.2.2.2.2.2.2.2.1
abbrev MsgT.leaves(m:MsgT):List aO:=m.2.2.2.2.2.2.2.2.1
abbrev MsgT.part(m:MsgT):aH:=(m.2.2.2.2.2.2.2.2.2.1,m.2.2.2.2.2.2.2.2.2.2.1,())
abbrev MsgT.marks(m:MsgT):List aU:=m.2.2.2.2.2.2.2.2.2.2.2.1
structure SzM (m:MsgT):Prop where
 leaves:m.tree.1.length<=aW
 vec:m.vec.length<=aW
 list:m.leaves.length<=aW
 part:SzS m.part
 marks:m.marks.length<=aW
theorem rY(a b:Int):mxI true a b=max a b:=by unfold mxI;simp only[if_true];split<;>omega
theorem FL(a b:Int):mxI false a b=min a b:=by unfold mxI;simp only[Bool.false_eq_true,if_false];split<;>omega
-- lists in order
theorem rL{α:Type}{k:α->Int}{g:Nat->List α}(h1:∀ i,(g i).length<=1)(h:∀ i,∀ x∈g i,k x=(i:Int)):∀ n,(bL n g).Pairwise (λx y=>k x<k y)
 | 0=>by rw[wH];exact List.Pairwise.nil
 | n+1=>by
  rw[c8,List.pairwise_append]
  refine⟨rL h1 h n,?_,λx hx y hy=>?_⟩
  ·match hg:g n with
   | []=>exact List.Pairwise.nil
   | [x]=>exact List.pairwise_singleton _ _
   | x::y::t=>have:=h1 n;rw[hg] at this;simp at this
  ·obtain⟨i,hi,hx⟩:=iY hx
   rw[h i x hx,h n y hy];omega
theorem pA{s:aH}(h:StateOk s)(i:Int):0<=cO s.2.1 i/\cO s.2.1 i<=1000:=by
 rcases eQ s i with ⟨x,hx,_,e⟩ | ⟨_,e⟩
 ·have:=(h.floor x hx).2;rw[aV] at this;rw[e];omega
 ·rw[e];omega
theorem s7{s:aH}(h:StateOk s)(i:Int):(bG s i).1=c9\/eE (bG s i).1=true:=by
 rcases fK s i with ⟨x,hx,_,e⟩ | ⟨_,e⟩
 ·rw[e];exact .inr (h.item x hx).2.1
 ·rw[e];exact .inl rfl
theorem N2{a b:aH}(ha:StateOk a)(hb:StateOk b)(i:Int):eB a b i=c9\/eE (eB a b i)=true:=by
 unfold eB mxE
 cases decide (gL (bG a i).1 (bG b i).1<0)with
 | true=>exact s7 hb i
 | false=>exact s7 ha i
theorem PI{a b:aH}(ha:StateOk a)(hb:StateOk b)(i:Int):0<=flr a b i/\flr a b i<=1000:=by
 have h1:=pA ha i
 have h2:=pA hb i
 unfold flr;rw[rY];omega
theorem vV{a b:aH}{i:Nat}{x:bF}(h:x∈dF a b i):x=((i:Int),eB a b i)/\(eB a b i).1>flr a b i:=by
 unfold dF at h
 cases hd:decide ((eB a b i).1>flr a b i)with
 | false=>rw[hd] at h;cases h
 | true=>rw[hd] at h;exact⟨List.mem_singleton.1 h,of_decide_eq_true hd⟩
theorem oX{a b:aH}{i:Nat}{x:aU}(h:x∈cR a b i):x=((i:Int),flr a b i,())/\flr a b i>0:=by
 unfold cR at h
 cases hd:decide (flr a b i>0)with
 | false=>rw[hd] at h;cases h
 | true=>rw[hd] at h;exact⟨List.mem_singleton.1 h,of_decide_eq_true hd⟩
theorem DT{i:Nat}(h:i<5):eO (i:Int)=true:=by unfold eO;rw[aV];omega
theorem StateOk.join{a b:aH}(ha:StateOk a)(hb:StateOk b):StateOk (cL a b) where
 item x hx:=by
  obtain⟨i,hi,hx⟩:=iY hx
  obtain⟨rfl,hg⟩:=vV hx
  have hf:=PI ha hb (i:Int)
  refine⟨DT hi,?_,?_⟩
  ·rcases N2 ha hb (i:Int)with e | e
   ·rw[e] at hg;have h0:(0:Int)>flr a b i:=hg;omega
   ·exact e
  ·show cO (cL a b).2.1 (i:Int)<(eB a b i).1
   rcases eQ (cL a b) (i:Int)with ⟨f,hf',e1,e⟩ | ⟨_,e⟩
   ·obtain⟨j,_,hf'⟩:=iY hf'
    obtain⟨rfl,_⟩:=oX hf'
    have:(j:Int)=(i:Int):=e1
    rw[e];show flr a b (j:Int)<_;rw[this];omega
   ·rw[e];omega
 items:=rL (k:=λx:bF=>x.1) (rJ a b) (λi x hx=>by rw[(vV hx).1]) 5
 floor f hf:=by
  obtain⟨i,hi,hf⟩:=iY hf
  obtain⟨rfl,hg⟩:=oX hf
  have:=PI ha hb (i:Int)
  refine⟨DT hi,?_⟩
  rw[aV];show 1<=flr a b i/\flr a b i<=1000;omega
 floors:=rL (k:=λx:aU=>x.1) (oY a b) (λi x hx=>by rw[(oX hx).1]) 5
theorem nN{a b:aH}(ha:aP a=true)(hb:aP b=true):aP (cL a b)=true:=
 (aS _).2 (((aS _).1 ha).join ((aS _).1 hb))
theorem yD:aP iC=true:=rfl
-- marks
def fM(ms:List aU):Bool:=bS ms.length (gD ms)
theorem zT(ms:List aU):aP ([],ms,())=fM ms:=by
 unfold aP fM;rw[show bS ([]:List bF).length (mK ([],ms,()))=true from rfl,Bool.true_and]
def kR(s:aH)(i:Nat):List aU:=bif decide (gone s i>0)then[((i:Int),gone s i,())] else[]
def c6(s:aH):List aU:=bL 5 (kR s)
theorem sS(s:aH)(i:Nat):(kR s i).length<=1:=by unfold kR;cases decide (gone s i>0)<;>simp
theorem fW(s:aH):(c6 s).length<=5:=cY (n:=5) (L:=1) λi _=>sS s i
theorem JZ(s:aH)(i:Int):gone s i<=1000:=by
 cases hs:aP s with
 | false=>rw[PA hs];omega
 | true=>
  have h:=(aS s).1 hs
  have hf:=pA h i
  unfold gone;rw[hs]
  show(bif(bG s i).2 then _ else _)<=(1000:Int)
  cases h2:(bG s i).2 with
  | false=>exact hf.2
  | true=>
   have he:(bG s i).1.1<=1000/\0<=(bG s i).1.1:=by
    rcases s7 h i with e | e
    ·rw[e];show(0:Int)<=1000/\(0:Int)<=0;omega
    ·unfold eE at e;simp only[Bool.and_eq_true,aV] at e;omega
   show(bif(bG s i).1.2.1==0 then i64.wrap ((bG s i).1.1 - 1)else(bG s i).1.1)<=1000
   cases (bG s i).1.2.1==0 with
   | false=>exact he.1
   | true=>show i64.wrap ((bG s i).1.1 - 1)<=1000;rw[IntKind.wrap_i64];omega
theorem HQ{s:aH}{i:Nat}{x:aU}(h:x∈kR s i):x=((i:Int),gone s i,())/\gone s i>0:=by
 unfold kR at h
 cases hd:decide (gone s i>0)with
 | false=>rw[hd] at h;cases h
 | true=>rw[hd] at h;exact⟨List.mem_singleton.1 h,of_decide_eq_true hd⟩
theorem CI{fs:List aU}(g:Nat->List aU)(he:fs=bL 5 g)(h1:∀ i,(g i).length<=1)(h:∀ i,∀ x∈g i,x.1=(i:Int)/\1<=x.2.1/\x.2.1<=1000):StateOk ([],fs,()) where
 item x hx:=by cases hx
 items:=List.Pairwise.nil
 floor f hf:=by
  have hf:f∈fs:=hf
  rw[he] at hf
  obtain⟨i,hi,hf⟩:=iY hf
  obtain⟨e,h2,h3⟩:=h i f hf
  exact⟨by rw[e];exact DT hi,aV.2 ⟨h2,h3⟩⟩
 floors:=by
  show fs.Pairwise _
  rw[he];exact rL (k:=λx:aU=>x.1) h1 (λi x hx=>(h i x hx).1) 5
theorem HP(s:aH):fM (c6 s)=true:=by
 rw[<- zT]
 exact(aS _).2 (CI (kR s) rfl (sS s) λi x hx=>by
  obtain⟨rfl,h⟩:=HQ hx
  exact⟨rfl,h,JZ s i⟩)
theorem uG{ms:List aU}(h:fM ms=true){i:Nat}(hi:i<ms.length):0<=(gt ms i).1/\(gt ms i).1<=4/\1<=(gt ms i).2.1/\(gt ms i).2.1<=1000:=by
 unfold fM at h
 have:=bN.1 h i hi
 unfold gD eO at this
 simp only[Bool.and_eq_true,aV] at this
 omega
theorem LN{ms:List aU}(h:fM ms=true):ms.length<=5:=by
 rw[<- zT] at h
 exact((aS _).1 h).len.2
-- tables
def DE(r:bU)(f:aU):bU:=(r.1.set f.1.toNat (mxI true (gt r.1 f.1.toNat).1 f.2.1,()),())
def kL(r:bU)(ms:List aU):Nat->bU
 | 0=>r
 | i+1=>DE (kL r ms i) (gt ms i)
def pF(t:List bU)(k:Int)(ms:List aU):Bool:=inB k 0 (i64.wrap ((t.length:Int) - 1))&&(fM ms&& !decide ((((gt t k.toNat).1.length:Nat):Int)<5))
def cT(t:List bU)(k:Nat)(ms:List aU)(i:Nat):List bU:=t.set k (kL (gt t k) ms i)
def bQ(t:List bU)(k:Int)(ms:List aU):List bU:=bif pF t k ms then cT t k.toNat ms ms.length else t
theorem nX(r:bU)(ms:List aU):∀ i,(kL r ms i).1.length=r.1.length
 | 0=>rfl
 | i+1=>by show(List.set _ _ _).length=_;rw[List.length_set];exact nX r ms i
theorem cD{α:Type}[Inhabited α]{xs:List α}{i:Nat}(h:i<xs.length)(x:α):gt (xs.set i x) i=x:=by
 rw[cS (by rw[List.length_set];exact h)];simp
theorem eD{α:Type}[Inhabited α]{xs:List α}{i j:Nat}(h:i≠j)(x:α):gt (xs.set i x) j=gt xs j:=by
 unfold gt;simp[h]
theorem sK{α:Type}[Inhabited α]{xs:List α}{i:Nat}:xs.set i (gt xs i)=xs:=by
 rcases Nat.lt_or_ge i xs.length with h | h
 ·rw[cS h];exact List.set_getElem_self h
 ·exact List.set_eq_of_length_le h
theorem C4(t:List bU)(k:Nat)(ms:List aU):cT t k ms 0=t:=sK
theorem dI(t:List bU)(k:Int)(ms:List aU):(bQ t k ms).length=t.length:=by
 unfold bQ
 cases pF t k ms with
 | false=>rfl
 | true=>show(cT _ _ _ _).length=_;unfold cT;rw[List.length_set]
theorem yG{k:Int}{n:Nat}(hn:n<=aW)(h:inB k 0 (i64.wrap ((n:Int) - 1))=true):k.toNat<n/\((k.toNat:Nat):Int)=k:=by
 rw[aV,IntKind.wrap_i64] at h;unfold aW at hn;omega
theorem fD(t:List bU)(k:Int)(ms:List aU)(j:Nat):((gt (bQ t k ms) j).1.length)=(gt t j).1.length:=by
 unfold bQ
 cases hb:pF t k ms with
 | false=>rfl
 | true=>
  show(gt (cT t k.toNat ms ms.length) j).1.length=_
  unfold cT
  rcases Nat.lt_or_ge k.toNat t.length with h | h
  ·by_cases e:k.toNat=j
   ·subst e;rw[cD h,nX]
   ·rw[eD e]
  ·rw[List.set_eq_of_length_le h]
theorem GR{r:bU}{ms:List aU}(hm:fM ms=true)(hr:∀ j,j<r.1.length->inB (gt r.1 j).1 0 1000=true):∀ i,i<=ms.length->∀ j,j<r.1.length->inB (gt (kL r ms i).1 j).1 0 1000=true
 | 0,_,j,hj=>hr j hj
 | i+1,hi,j,hj=>by
  have ih:=GR hm hr i (by omega)
  have hid:=uG hm (i:=i) (by omega)
  have hl:=nX r ms i
  show inB (gt (List.set (kL r ms i).1 (gt ms i).1.toNat (mxI true (gt (kL r ms i).1 (gt ms i).1.toNat).1 (gt ms i).2.1,())) j).1 0 1000=true
  by_cases e:(gt ms i).1.toNat=j
  ·subst e
   rw[cD (by omega)]
   have:=ih _ hj
   rw[aV] at this ⊢
   show 0<=mxI true _ _/\mxI true _ _<=1000
   rw[rY];omega
  ·rw[eD e];exact ih j hj
theorem pR{t:List bU}{n k:Int}{ms:List aU}(ht:gM t n=true):gM (bQ t k ms) n=true:=by
 unfold gM at ht ⊢
 simp only[Bool.and_eq_true] at ht ⊢
 obtain⟨h1,h2,h3⟩:=ht
 refine⟨h1,by rw[dI];exact h2,?_⟩
 rw[dI]
 rw[bN] at h3 ⊢
 intro j hj
 have h4:=h3 j hj
 unfold sV at h4 ⊢
 simp only[Bool.and_eq_true] at h4 ⊢
 rw[fD]
 refine⟨h4.1,?_⟩
 have h5:=bN.1 h4.2
 rw[bN]
 intro i hi
 unfold bQ
 cases hb:pF t k ms with
 | false=>exact h5 i hi
 | true=>
  show inB (gt (gt (cT t k.toNat ms ms.length) j).1 i).1 0 1000=true
  unfold cT
  by_cases e:k.toNat=j
  ·subst e
   rw[cD hj]
   have hm:fM ms=true:=by unfold pF at hb;simp only[Bool.and_eq_true] at hb;exact hb.2.1
   exact GR hm h5 _ (Nat.le_refl _) i hi
  ·rw[eD e];exact h5 i hi
def qM(t:List bU)(id:Int)(k:Nat):Bool:=inB id 0 (i64.wrap ((((gt t k).1.length:Nat):Int) - 1))
def j8(t:List bU)(id:Int):Nat->Int
 | 0=>0
 | k+1=>bif(k:Int)==0 then(gt (gt t k).1 id.toNat).1 else bif decide ((gt (gt t k).1 id.toNat).1<j8 t id k)then(gt (gt t k).1 id.toNat).1 else j8 t id k
def f8(t:List bU)(id:Int):Int:=bif bS t.length (qM t id)then j8 t id t.length else 0
-- pruning
def iM(s:aH)(t:List bU)(i:Nat):List aU:=bif decide (mxI false (f8 t i) (gone s i)>0)then[((i:Int),mxI false (f8 t i) (gone s i),())] else[]
def fF(s:aH)(t:List bU):aH:=([],bL 5 (iM s t),())
def prune(s:aH)(t:List bU):aH:=bif aP s then cL s (fF s t)else s
theorem sN(s:aH)(t:List bU)(i:Nat):(iM s t i).length<=1:=by unfold iM;cases decide (mxI false (f8 t i) (gone s i)>0)<;>simp
theorem qF(s:aH)(t:List bU):aP (fF s t)=true:=
 (aS _).2 (CI (iM s t) rfl (sN s t) λi x hx=>by
  unfold iM at hx
  cases hd:decide (mxI false (f8 t i) (gone s i)>0)with
  | false=>rw[hd] at hx;cases hx
  | true=>
   rw[hd] at hx
   have e:=List.mem_singleton.1 hx
   have h0:=of_decide_eq_true hd
   have hg:=JZ s i
   rw[e];refine⟨rfl,h0,?_⟩
   show mxI false (f8 t i) (gone s i)<=1000
   rw[FL];omega)
theorem GA(s:aH)(t:List bU):SzS (fF s t):=⟨Nat.zero_le _,Nat.le_trans (cY (n:=5) (L:=1) λi _=>sN s t i) (by decide)⟩
theorem zI{s:aH}(h:aP s=true)(t:List bU):aP (prune s t)=true:=by
 unfold prune;rw[h];exact nN h (qF s t)
theorem N0{s:aH}(h:SzS s)(t:List bU):SzS (prune s t):=by
 unfold prune;cases aP s with
 | false=>exact h
 | true=>exact iR _ _
-- vectors
def dD(v:List aO)(k n:Int):List aO:=bif inB k 0 (i64.wrap ((v.length:Int) - 1))then v.set k.toNat (mxI true (gt v k.toNat).1 n,())else v
theorem fY(v:List aO)(k n:Int):(dD v k n).length=v.length:=by
 unfold dD;cases inB k 0 (i64.wrap ((v.length:Int) - 1))with
 | false=>rfl
 | true=>exact List.length_set ..
theorem pO(v:List aO)(k n:Int)(j:Nat):(gt (dD v k n) j).1=(gt v j).1\/(gt (dD v k n) j).1=max (gt v j).1 n:=by
 unfold dD;cases inB k 0 (i64.wrap ((v.length:Int) - 1))with
 | false=>exact .inl rfl
 | true=>
  show(gt (v.set _ _) j).1=_\/(gt (v.set _ _) j).1=_
  rcases Nat.lt_or_ge k.toNat v.length with h | h
  ·by_cases e:k.toNat=j
   ·subst e;rw[cD h];exact .inr (rY _ _)
   ·rw[eD e];exact .inl rfl
  ·rw[List.set_eq_of_length_le h];exact .inl rfl
theorem EH(v:List aO){k n:Int}{j:Nat}(h:k.toNat≠j):gt (dD v k n) j=gt v j:=by
 unfold dD;cases inB k 0 (i64.wrap ((v.length:Int) - 1))with
 | false=>rfl
 | true=>exact eD h _
theorem wK{v:List aO}{m k n:Int}(h:eI v m=true)(hn:n<=100000):eI (dD v k n) m=true:=by
 unfold eI at h ⊢
 simp only[Bool.and_eq_true] at h ⊢
 rw[fY]
 refine⟨h.1,h.2.1,?_⟩
 have h3:=bN.1 h.2.2
 rw[bN]
 intro i hi
 have:=h3 i hi
 rw[aV] at this ⊢
 rcases pO v k n i with e | e<;>rw[e]<;>omega
end Go.Abs
-- taking and receiving: plain laws
namespace Go.Abs
-- rises
def pX(r:kM)(e:bI):Bool:=decide (e.1>r.1)||(e.1==r.1&&decide (e.2.2.1>r.2.1))
def mW(clock:Int)(r:kM)(e:bI):kM:=bif pX r e then(e.1,e.2.2.1,clock,())else r
def dL(clock:Int)(rs:List kM)(xs:List bF):Nat->List kM
 | 0=>rs
 | i+1=>(dL clock rs xs i).set (gt xs i).1.toNat (mW clock (gt (dL clock rs xs i) (gt xs i).1.toNat) (gt xs i).2)
theorem gX(clock:Int)(rs:List kM)(xs:List bF):∀ i,(dL clock rs xs i).length=rs.length
 | 0=>rfl
 | i+1=>by show(List.set _ _ _).length=_;rw[List.length_set];exact gX clock rs xs i
def zC(clock:Int)(r:kM):Bool:=inB r.1 0 1000&&(inB r.2.1 0 100000&&inB r.2.2.1 0 clock)
theorem BT{clock:Int}(hc:0<=clock){rs:List kM}{s:aH}(hs:StateOk s)(h:∀ j,j<rs.length->zC clock (gt rs j)=true):
  ∀ i,i<=s.1.length->∀ j,j<rs.length->zC clock (gt (dL clock rs s.1 i) j)=true
 | 0,_,j,hj=>h j hj
 | i+1,hi,j,hj=>by
  have ih:=BT hc hs h i (by omega)
  have he:=(hs.item _ (cN (xs:=s.1) (i:=i) (by omega))).2.1
  show zC clock (gt ((dL clock rs s.1 i).set (gt s.1 i).1.toNat (mW clock (gt (dL clock rs s.1 i) (gt s.1 i).1.toNat) (gt s.1 i).2)) j)=true
  by_cases e:(gt s.1 i).1.toNat=j
  ·rw[e,cD (by rw[gX];exact hj)]
   unfold mW
   cases pX (gt (dL clock rs s.1 i) j) (gt s.1 i).2 with
   | false=>exact ih j hj
   | true=>
    unfold eE at he
    simp only[Bool.and_eq_true,aV] at he
    show zC clock ((gt s.1 i).2.1,(gt s.1 i).2.2.2.1,clock,())=true
    unfold zC
    simp only[Bool.and_eq_true,aV]
    omega
  ·rw[eD e];exact ih j hj
-- a node with another state, other rows and rises
def tkS(x:NodeT)(s:aH):List bU:=bQ x.seen x.1 (c6 (cL x.state s))
def tkP(x:NodeT)(s:aH):aH:=prune (cL x.state s) (tkS x s)
def tkR(x:NodeT)(s:aH):List kM:=dL x.clock x.rises (tkP x s).1 (tkP x s).1.length
def jG(x:NodeT)(s:aH):NodeT:=
 (x.1,x.2.1,(tkP x s).1,(tkP x s).2.1,(cJ (tkP x s)).1,(cJ (tkP x s)).2.1,x.2.2.2.2.2.2.1,x.2.2.2.2.2.2.2.1,x.2.2.2.2.2.2.2.2.1,x.got,x.acked,tkS x s,x.num,x.slots,x.sess,x.wait,x.limit,x.clock,tkR x s,())
theorem y8(a:List aO):jJ a a=true:=by
 unfold jJ;simp[bS]
structure NodeOk (x:NodeT):Prop where
 n:inB x.2.1 1 5=true
 id:inB x.1 0 (i64.wrap (x.2.1 - 1))=true
 state:aP x.state=true
 tree:tL x=true
 log:gR x.log=true
 got:eI x.got x.2.1=true
 acked:eI x.acked x.2.1=true
 own:((gt x.got x.1.toNat).1==cF x.log)=true
 seen:gM x.seen x.2.1=true
 ack:A6 x=true
 num:inB x.num 0 100000=true
 clock:inB x.clock 0 100000=true
 slots:inB x.slots 1 4=true
 wait:inB x.wait 1 20=true
 limit:inB x.limit 1 50=true
 rises:(x.rises.length:Int)==5
 rise:bS x.rises.length (kD x)=true
 sess:lP x=true
theorem hI(x:NodeT):dY x=true↔NodeOk x:=by
 unfold dY lT
 simp only[Bool.and_eq_true]
 constructor
 ·rintro ⟨h1,h2,h3,h4,h5,h6,h7,h8,h9,h10,h11,h12,h13,h14,h15,h16,h17,h18⟩
  exact⟨h1,h2,h3,h4,h5,h6,h7,h8,h9,h10,h11,h12,h13,h14,h15,h16,h17,h18⟩
 ·rintro ⟨h1,h2,h3,h4,h5,h6,h7,h8,h9,h10,h11,h12,h13,h14,h15,h16,h17,h18⟩
  exact⟨h1,h2,h3,h4,h5,h6,h7,h8,h9,h10,h11,h12,h13,h14,h15,h16,h17,h18⟩
theorem MX{x:NodeT}{s:aH}(h:NodeOk x)(hs:aP s=true):aP (tkP x s)=true:=zI (nN h.state hs) _
theorem NodeOk.take{x:NodeT}{s:aH}(h:NodeOk x)(hs:aP s=true):NodeOk (jG x s) where
 n:=h.n
 id:=h.id
 state:=MX h hs
 tree:=by
  show(jJ (cJ (tkP x s)).1 (cJ (tkP x s)).1&&(cJ (tkP x s)).2.1==(cJ (tkP x s)).2.1)=true
  rw[y8];simp
 log:=h.log
 got:=h.got
 acked:=h.acked
 own:=h.own
 seen:=pR h.seen
 ack:=h.ack
 num:=h.num
 clock:=h.clock
 slots:=h.slots
 wait:=h.wait
 limit:=h.limit
 rises:=by
  show(((dL x.clock x.rises (tkP x s).1 (tkP x s).1.length).length:Nat):Int)==5
  rw[gX];exact h.rises
 rise:=by
  show bS (dL x.clock x.rises (tkP x s).1 (tkP x s).1.length).length _=true
  rw[gX,bN]
  intro i hi
  have hc:=h.clock;rw[aV] at hc
  exact BT hc.1 ((aS _).1 (MX h hs)) (λj hj=>bN.1 h.rise j hj) _ (Nat.le_refl _) i hi
 sess:=h.sess
theorem MW(x:NodeT)(s:aH):SzS (tkP x s):=N0 (iR _ _) _
theorem KF(s:aH):(cJ s).1.length<=aW:=by
 unfold cJ;cases aP s with
 | false=>exact Nat.zero_le _
 | true=>show 4<=aW;decide
theorem lO{x:NodeT}(h:SzN x)(s:aH):SzN (jG x s) where
 state:=MW x s
 leaves:=KF _
 list:=h.list
 logs:=h.logs
 got:=h.got
 acked:=h.acked
 seen:=by show(tkS x s).length<=aW;unfold tkS;rw[dI];exact h.seen
 lines:=by
  intro i hi
  show(gt (tkS x s) i).1.length<=aW
  unfold tkS;rw[fD]
  exact h.lines i (by have:i<(tkS x s).length:=hi;unfold tkS at this;rw[dI] at this;exact this)
 sess:=h.sess
 rises:=by show(dL x.clock x.rises (tkP x s).1 (tkP x s).1.length).length<=aW;rw[gX];exact h.rises
-- hearing
def heard0(x:NodeT)(m:MsgT):NodeT:=
 (x.1,x.2.1,x.2.2.1,x.2.2.2.1,x.2.2.2.2.1,x.2.2.2.2.2.1,x.2.2.2.2.2.2.1,x.2.2.2.2.2.2.2.1,x.2.2.2.2.2.2.2.2.1,x.got,dD x.acked m.2.1 (mxI false (gt m.vec x.1.toNat).1 (cF x.log)),bQ x.seen m.2.1 m.marks,x.num,x.slots,x.sess,x.wait,x.limit,x.clock,x.rises,())
def eH(x:NodeT)(m:MsgT):NodeT:=jG (heard0 x m) iC
def gotUp(x:NodeT)(m:MsgT):NodeT:=
 (x.1,x.2.1,x.2.2.1,x.2.2.2.1,x.2.2.2.2.1,x.2.2.2.2.2.1,x.2.2.2.2.2.2.1,x.2.2.2.2.2.2.2.1,x.2.2.2.2.2.2.2.2.1,dD x.got m.2.1 m.hi,x.acked,x.seen,x.num,x.slots,x.sess,x.wait,x.limit,x.clock,x.rises,())
def eC(x:NodeT)(m:MsgT):NodeT:=gotUp (jG (eH x m) m.part) m
theorem CB{l:gV}(h:gR l=true):0<=cF l/\cF l<=100000:=by
 unfold cF;rw[h]
 unfold gR at h
 simp only[Bool.and_eq_true,aV,Bool.not_eq_true',decide_eq_false_iff_not] at h
 show 0<=i64.wrap _/\i64.wrap _<=100000
 rw[IntKind.wrap_i64] at h ⊢
 omega
theorem NodeOk.heard0{x:NodeT}(h:NodeOk x)(m:MsgT):NodeOk (heard0 x m) where
 n:=h.n
 id:=h.id
 state:=h.state
 tree:=h.tree
 log:=h.log
 got:=h.got
 acked:=wK h.acked (by rw[FL];have:=CB h.log;omega)
 own:=h.own
 seen:=pR h.seen
 ack:=by
  have:=h.ack
  unfold A6 at this ⊢
  rw[show(Go.Abs.heard0 x m).acked=dD x.acked m.2.1 (mxI false (gt m.vec x.1.toNat).1 (cF x.log))from rfl,fY]
  rw[bN] at this ⊢
  intro i hi
  have h1:=this i hi
  rw[show(Go.Abs.heard0 x m).log=x.log from rfl]
  simp only[Bool.not_eq_true',decide_eq_false_iff_not] at h1 ⊢
  rcases pO x.acked m.2.1 (mxI false (gt m.vec x.1.toNat).1 (cF x.log)) i with e | e
  ·rw[e];exact h1
  ·rw[e,FL];omega
 num:=h.num
 clock:=h.clock
 slots:=h.slots
 wait:=h.wait
 limit:=h.limit
 rises:=h.rises
 rise:=h.rise
 sess:=h.sess
theorem NodeOk.heard{x:NodeT}(h:NodeOk x)(m:MsgT):NodeOk (eH x m):=(h.heard0 m).take yD
theorem CF{x:NodeT}(h:SzN x)(m:MsgT):SzN (heard0 x m) where
 state:=h.state
 leaves:=h.leaves
 list:=h.list
 logs:=h.logs
 got:=h.got
 acked:=by show(dD _ _ _).length<=aW;rw[fY];exact h.acked
 seen:=by show(bQ _ _ _).length<=aW;rw[dI];exact h.seen
 lines:=by
  intro i hi
  show(gt (bQ x.seen m.2.1 m.marks) i).1.length<=aW
  rw[fD]
  exact h.lines i (by have:i<(bQ x.seen m.2.1 m.marks).length:=hi;rw[dI] at this;exact this)
 sess:=h.sess
 rises:=h.rises
theorem lK{x:NodeT}(h:SzN x)(m:MsgT):SzN (eH x m):=lO (CF h m) _
theorem NodeOk.gotUp{x:NodeT}(h:NodeOk x){m:MsgT}(hi:m.hi<=100000)(hm:m.2.1.toNat≠x.1.toNat):NodeOk (gotUp x m) where
 n:=h.n
 id:=h.id
 state:=h.state
 tree:=h.tree
 log:=h.log
 got:=wK h.got hi
 acked:=h.acked
 own:=by
  show((gt (dD x.got m.2.1 m.hi) x.1.toNat).1==cF x.log)=true
  rw[EH _ hm];exact h.own
 seen:=h.seen
 ack:=h.ack
 num:=h.num
 clock:=h.clock
 slots:=h.slots
 wait:=h.wait
 limit:=h.limit
 rises:=h.rises
 rise:=h.rise
 sess:=h.sess
theorem O9{x:NodeT}(h:SzN x)(m:MsgT):SzN (gotUp x m) where
 state:=h.state
 leaves:=h.leaves
 list:=h.list
 logs:=h.logs
 got:=by show(dD _ _ _).length<=aW;rw[fY];exact h.got
 acked:=h.acked
 seen:=h.seen
 lines:=h.lines
 sess:=h.sess
 rises:=h.rises
theorem mN{x:NodeT}(h:SzN x)(m:MsgT):SzN (eC x m):=O9 (lO (lK h m) _) _
-- messages
def nF(v:List aO)(top:Int):Bool:=bS v.length λi=>inB (gt v i).1 0 top
def treeB(t:mU):Bool:=bif(t.1.length:Int)==0 then t.2.1==0 else((t.1.length:Int)==4&&(nF t.1 1023&&inB t.2.1 0 1023))
def FW(v:List aO)(i:Nat):Bool:=inB (gt v i).1 0 3&&wV (λj=> !decide ((gt v (j+1)).1<=(gt v j).1)) i
def uD(m:MsgT):Bool:=inB m.1 0 5&&(eO m.2.1&&(eO m.2.2.1&& !(m.2.1==m.2.2.1)))
def fA(m:MsgT):Bool:=uD m&&((bS m.leaves.length (FW m.leaves))&&(nF m.vec 100000&&(inB m.2.2.2.1 0 100000&&(inB m.hi 0 100000&&(treeB m.tree&&(decide ((m.vec.length:Int)<=5)&&(aP m.part&&fM m.marks)))))))
def pI(v:List aO)(most top:Int):Bool:= !decide ((v.length:Int)>most)&&nF v top
def FV(v:List aO)(i:Nat):Bool:= !decide ((gt v (i+1)).1<=(gt v i).1)
def zS(m:MsgT):Bool:=inB m.1 0 5&&(eO m.2.1&&(eO m.2.2.1&&(!(m.2.1==m.2.2.1)&&(inB m.2.2.2.1 0 100000&&(inB m.hi 0 100000&&(treeB m.tree&&(pI m.vec 5 100000&&(pI m.leaves 4 3&&(aP m.part&&(fM m.marks&&bS (m.leaves.length - 1) (FV m.leaves)))))))))))
theorem OW(v:List aO):(pI v 4 3&&bS (v.length - 1) (FV v))=bS v.length (FW v):=by
 rw[Bool.eq_iff_iff]
 unfold pI nF FW FV
 simp only[Bool.and_eq_true,bN,Bool.not_eq_true',decide_eq_false_iff_not]
 constructor
 ·rintro ⟨⟨_,h2⟩,h3⟩ i hi
  refine⟨h2 i hi,?_⟩
  cases i with
  | zero=>rfl
  | succ j=>show(!decide ((gt v (j+1)).1<=(gt v j).1))=true;rw[decide_eq_false (h3 j (by omega))];rfl
 ·intro h
  have hp:∀ j,j+1<v.length->(gt v j).1<(gt v (j+1)).1:=λj hj=>by
   have:=(h (j+1) hj).2
   unfold wV at this
   simpa using this
  have hge:∀ i,i<v.length->(i:Int)<=(gt v i).1:=by
   intro i
   induction i with
   | zero=>intro hi;have:=(h 0 hi).1;rw[aV] at this;exact this.1
   | succ j ih=>intro hi;have:=ih (by omega);have:=hp j hi;omega
  refine⟨⟨?_,λi hi=>(h i hi).1⟩,λi hi=>by have:=hp i (by omega);omega⟩
  rcases Nat.lt_or_ge 4 v.length with h5 | h5
  ·have h6:=hge 4 h5
   have:=(h 4 h5).1;rw[aV] at this;omega
  ·omega
theorem JN(m:MsgT):zS m=fA m:=by
 unfold zS fA uD
 rw[<- OW]
 unfold pI
 simp only[vM]
 ac_rfl
theorem z3{m:MsgT}(h:fA m=true):m.leaves.length<=4:=by
 rw[<- JN] at h
 unfold zS pI at h
 simp only[Bool.and_eq_true,Bool.not_eq_true',decide_eq_false_iff_not] at h
 omega
end Go.Abs
-- messages and receiving: plain laws
namespace Go.Abs
theorem dM{β:Type}{o:Option Out}{A B C:List Kd}{r:Row A}{s:Row B}{t:Row C}{f:Rows [A,B,C]×Rows []->Option β}(h:o=some ⟨[⟨A,r⟩,⟨B,s⟩,⟨C,t⟩],[]⟩):(o.bind (dR [A,B,C] [])).bind f=f ((r,s,t,()),()):=by
 rw[h];simp[dR,fG,jP];rfl
def jI(l:List aH)(k:Nat):Nat->aH
 | 0=>iC
 | i+1=>cL (jI l k i) (gt l (k+i))
theorem y7(l:List aH)(k:Nat):∀ i,SzS (jI l k i)
 | 0=>gP
 | i+1=>iR _ _
theorem sJ{l:gV}(h:gR l=true)(k:Nat):∀ i,k+i<=l.2.2.1.length->aP (jI l.2.2.1 k i)=true
 | 0,_=>yD
 | i+1,hi=>nN (sJ h k i (by omega)) (by
   unfold gR at h
   simp only[Bool.and_eq_true] at h
   exact bN.1 h.2.2.2.2 (k+i) (by omega))
def jW(l:gV)(seq:Int):Bool:=gR l&&inB seq l.2.1 (i64.wrap (l.2.1+(l.2.2.1.length:Int)))
def dV(l:gV)(seq:Int):Nat:=(seq - l.2.1).toNat
def lW(l:gV)(seq:Int):aH:=bif jW l seq then jI l.2.2.1 (dV l seq) (l.2.2.1.length - dV l seq)else iC
theorem y6{l:gV}{seq:Int}(h:jW l seq=true):l.2.1+((dV l seq:Nat):Int)=seq/\dV l seq<=l.2.2.1.length/\0<=l.2.1/\l.2.1<=100000/\l.2.2.1.length<=8:=by
 unfold jW gR at h
 simp only[Bool.and_eq_true,aV,Bool.not_eq_true',decide_eq_false_iff_not] at h
 unfold dV
 rw[IntKind.wrap_i64] at h
 omega
def rS(x:NodeT)(seq:Int):aH:=bif jW x.log seq then lW x.log seq else x.state
theorem EW{x:NodeT}(h:SzN x)(seq:Int):SzS (rS x seq):=by
 unfold rS lW
 cases jW x.log seq with
 | false=>exact h.state
 | true=>exact y7 _ _ _
theorem NE{x:NodeT}(h:NodeOk x)(seq:Int):aP (rS x seq)=true:=by
 unfold rS lW
 cases hs:jW x.log seq with
 | false=>exact h.state
 | true=>have:=y6 hs;exact sJ h.log _ _ (by omega)
theorem NA{s:aH}(h:SzS s)(ls:List aO):SzS (jH s ls):=
 ⟨Nat.le_trans (List.length_filter_le ..) h.1,Nat.le_trans (List.length_filter_le ..) h.2⟩
theorem NB{s:aH}(h:aP s=true)(ls:List aO):aP (jH s ls)=true:=(aS _).2 (((aS _).1 h).slice ls)
def FG(x:NodeT)(ls:List aO)(seq:Int):aH:=cL (jH x.state ls) (rS x seq)
def kA(a b:mU)(i:Nat):List aO:=bif(a.1.length:Int) != 4 then[((i:Int),())] else bif(b.1.length:Int) != 4 then[((i:Int),())] else bif(gt a.1 i).1 != (gt b.1 i).1 then[((i:Int),())] else[]
def lY(a b:mU):List aO:=bif a.2.1==b.2.1 then[] else bL 4 (kA a b)
theorem xK(a b:mU)(i:Nat):(kA a b i).length<=1:=by
 unfold kA
 cases (a.1.length:Int) != 4<;>cases (b.1.length:Int) != 4<;>cases (gt a.1 i).1 != (gt b.1 i).1<;>simp
theorem s8(a b:mU):(lY a b).length<=4:=by
 unfold lY
 cases a.2.1==b.2.1 with
 | true=>exact Nat.zero_le _
 | false=>exact cY (n:=4) (L:=1) λi _=>xK a b i
def RN(x:NodeT)(kind to num:Int):MsgT:=(kind,x.1,to,num,cF x.log,[],0,x.got,[],[],[],c6 x.state,())
-- exchanges
def withS(x:NodeT)(ss:List eF):NodeT:=
 (x.1,x.2.1,x.2.2.1,x.2.2.2.1,x.2.2.2.2.1,x.2.2.2.2.2.1,x.2.2.2.2.2.2.1,x.2.2.2.2.2.2.2.1,x.2.2.2.2.2.2.2.2.1,x.got,x.acked,x.seen,x.num,x.slots,ss,x.wait,x.limit,x.clock,x.rises,())
def pN(s:eF):Int×Bool:=(s.1,s.2.2.1)
def SR(x:NodeT)(s:eF):Prop:=inB s.1 0 (i64.wrap (x.2.1 - 1))=true/\s.1≠x.1/\inB s.2.1 0 100000=true/\inB s.2.2.2.1 0 x.wait=true
theorem lB{v:List eF}{k:Nat}{p:Int}{b:Bool}:dQ v k p b=true↔pN (gt v k)=(p,b):=by
 unfold dQ pN
 rw[Bool.and_eq_true,beq_iff_eq,P3,Prod.mk.injEq]
theorem N7(v:List eF):(∀ i,i<v.length->B0 v i=true)↔(v.map pN).Nodup:=by
 unfold List.Nodup
 rw[List.pairwise_iff_getElem]
 unfold B0
 simp only[bN,Bool.not_eq_true',List.length_map,List.getElem_map]
 constructor
 ·intro h i j hi hj hij e
  have:=h j hj i hij
  rw[<- Bool.not_eq_true,lB] at this
  apply this
  rw[cS hi,cS hj];exact e
 ·intro h j hj i hij
  rw[<- Bool.not_eq_true,lB]
  intro e
  refine h i j (by omega) hj hij ?_
  rw[cS (by omega),cS hj] at e;exact e
theorem dW(x:NodeT):lP x=true↔(x.sess.length:Int)<=x.slots/\(∀ s∈x.sess,SR x s)/\(x.sess.map pN).Nodup:=by
 rw[<- N7]
 unfold lP nA
 simp only[Bool.and_eq_true,bN,Bool.not_eq_true',decide_eq_false_iff_not]
 constructor
 ·rintro ⟨h1,h2⟩
  refine⟨by omega,λs hs=>?_,λi hi=>(h2 i hi).2.2.2.2⟩
  obtain⟨i,hi,rfl⟩:=hO hs
  obtain⟨a,b,c,d,_⟩:=h2 i hi
  refine⟨a,?_,c,d⟩
  intro e;rw[e] at b;simp at b
 ·rintro ⟨h1,h2,h3⟩
  refine⟨by omega,λi hi=>?_⟩
  obtain⟨a,b,c,d⟩:=h2 _ (cN hi)
  exact⟨a,by simpa using b,c,d,h3 i hi⟩
theorem NodeOk.withS{x:NodeT}(h:NodeOk x){ss:List eF}(h1:(ss.length:Int)<=x.slots)(h2:∀ s∈ss,SR x s)(h3:(ss.map pN).Nodup):NodeOk (withS x ss) where
 n:=h.n
 id:=h.id
 state:=h.state
 tree:=h.tree
 log:=h.log
 got:=h.got
 acked:=h.acked
 own:=h.own
 seen:=h.seen
 ack:=h.ack
 num:=h.num
 clock:=h.clock
 slots:=h.slots
 wait:=h.wait
 limit:=h.limit
 rises:=h.rises
 rise:=h.rise
 sess:=(dW _).2 ⟨h1,h2,h3⟩
theorem tI{x:NodeT}(h:SzN x){ss:List eF}(h1:ss.length<=aW):SzN (withS x ss):=
 ⟨h.state,h.leaves,h.list,h.logs,h.got,h.acked,h.seen,h.lines,h1,h.rises⟩
theorem hZ(v:List eF)(p:Int)(b:Bool):(∃ k:Nat,k<v.length/\dE v p b=(k:Int)/\pN (gt v k)=(p,b))\/(dE v p b= -1/\∀ s∈v,pN s≠(p,b)):=by
 unfold dE
 cases hf:(List.range v.length).find? (λk=>dQ v k p b)with
 | none=>
  refine .inr ⟨rfl,λs hs e=>?_⟩
  obtain⟨i,hi,rfl⟩:=hO hs
  have:=List.find?_eq_none.1 hf i (List.mem_range.2 hi)
  exact this (lB.2 e)
 | some k=>
  refine .inl ⟨k,List.mem_range.1 (List.mem_of_find?_eq_some hf),rfl,?_⟩
  exact lB.1 (show dQ v k p b=true from List.find?_some (p:=λk=>dQ v k p b) hf)
def sC(x:NodeT)(m:MsgT)(b:Bool):Int:=bif decide (dE x.sess m.2.1 b>=0)then(bif(gt x.sess (dE x.sess m.2.1 b).toNat).2.1 != m.2.2.2.1 then -1 else dE x.sess m.2.1 b)else dE x.sess m.2.1 b
def kH(x:NodeT)(k:Nat):NodeT:=withS x (x.sess.take k++x.sess.drop (k+1))
theorem PC{x:NodeT}(h:NodeOk x)(k:Nat):NodeOk (kH x k):=by
 have hs:=(dW x).1 h.sess
 have sub:List.Sublist (x.sess.take k++x.sess.drop (k+1)) x.sess:=by rw[<- List.eraseIdx_eq_take_drop_succ];exact List.eraseIdx_sublist ..
 refine h.withS ?_ (λs hm=>hs.2.1 s (sub.subset hm)) ((sub.map pN).nodup hs.2.2)
 have:=sub.length_le;omega
theorem F4{x:NodeT}(h:SzN x)(k:Nat):SzN (kH x k):=tI h (by
 have:=h.sess;rw[List.length_append,List.length_take,List.length_drop];omega)
def oK(x:NodeT)(k:Nat)(num:Int):List eF:=x.sess.set k ((gt x.sess k).1,num,(gt x.sess k).2.2.1,(0:Int),())
def lE(x:NodeT)(m:MsgT):List eF:=x.sess++[(m.2.1,m.2.2.2.1,true,(0:Int),())]
theorem K0{x:NodeT}(h:NodeOk x){k:Nat}(hk:k<x.sess.length){num:Int}(hn:inB num 0 100000=true):NodeOk (withS x (oK x k num)):=by
 have hs:=(dW x).1 h.sess
 refine h.withS (by unfold oK;rw[List.length_set];exact hs.1) (λs hm=>?_) ?_
 ·rcases List.mem_or_eq_of_mem_set hm with h1 | h1
  ·exact hs.2.1 s h1
  ·have h2:=hs.2.1 _ (cN hk)
   rw[h1]
   refine⟨h2.1,h2.2.1,hn,?_⟩
   have:=h.wait;rw[aV] at this ⊢;show 0<=(0:Int)/\(0:Int)<=x.wait;omega
 ·unfold oK
  rw[List.map_set,show pN ((gt x.sess k).1,num,(gt x.sess k).2.2.1,(0:Int),())=pN (gt x.sess k)from rfl]
  have:(x.sess.map pN).set k (pN (gt x.sess k))=x.sess.map pN:=by
   rw[<- List.map_set,sK]
  rw[this];exact hs.2.2
theorem I6{x:NodeT}(h:NodeOk x){m:MsgT}(hp:inB m.2.1 0 (i64.wrap (x.2.1 - 1))=true)(hi:m.2.1≠x.1)(hn:inB m.2.2.2.1 0 100000=true)(hf:dE x.sess m.2.1 true<0)(hl:(x.sess.length:Int)≠x.slots):NodeOk (withS x (lE x m)):=by
 have hs:=(dW x).1 h.sess
 refine h.withS (by unfold lE;rw[List.length_append,List.length_singleton];omega) (λs hm=>?_) ?_
 ·rcases List.mem_append.1 hm with h1 | h1
  ·exact hs.2.1 s h1
  ·rw[List.mem_singleton.1 h1]
   refine⟨hp,hi,hn,?_⟩
   have:=h.wait;rw[aV] at this ⊢;show 0<=(0:Int)/\(0:Int)<=x.wait;omega
 ·unfold lE
  rw[List.map_append,List.nodup_append]
  refine⟨hs.2.2,by simp,λa ha b hb=>?_⟩
  obtain⟨s,hs1,rfl⟩:=List.mem_map.1 ha
  have hb:b=(m.2.1,true):=by simpa [pN] using hb
  rw[hb]
  rcases hZ x.sess m.2.1 true with ⟨k,_,e,_⟩ | ⟨_,e⟩
  ·rw[e] at hf;omega
  ·exact e s hs1
-- receiving
def HC(o:NodeT)(x:NodeT)(m:MsgT):MsgT:=
 (3,o.1,m.2.1,m.2.2.2.1,cF o.log,o.tree.1,o.tree.2.1,o.got,lY o.tree m.tree,(FG o (lY o.tree m.tree) (gt m.vec x.1.toNat).1).1,(FG o (lY o.tree m.tree) (gt m.vec x.1.toNat).1).2.1,c6 o.state,())
def SP(o:NodeT)(x:NodeT)(m:MsgT):MsgT:=
 (4,o.1,m.2.1,m.2.2.2.1,cF o.log,[],0,o.got,m.leaves,(FG o m.leaves (gt m.vec x.1.toNat).1).1,(FG o m.leaves (gt m.vec x.1.toNat).1).2.1,c6 o.state,())
abbrev I8:=NodeT×List MsgT×Int
def hY(x:NodeT)(m:MsgT):List eF:=bif decide (dE x.sess m.2.1 true>=0)then oK x (dE x.sess m.2.1 true).toNat m.2.2.2.1 else lE x m
def KK(x:NodeT)(m:MsgT):NodeT:=eH (withS x (hY x m)) m
def kZ(x:NodeT)(m:MsgT):Bool:= !decide (dE x.sess m.2.1 true>=0)&&(x.sess.length:Int)==x.slots
def oH(x:NodeT)(m:MsgT):I8:=bif kZ x m then(x,[RN x 5 m.2.1 m.2.2.2.1],3)else(KK x m,[HC (KK x m) x m],0)
def sM(x:NodeT)(m:MsgT)(k:Nat):I8:=
 bif m.1==5 then(kH x k,[],0)else bif m.1==4 then(eC (kH x k) m,[],0)else(eC (kH x k) m,[SP (eC (kH x k) m) x m],0)
def zE(x:NodeT)(m:MsgT):I8:=
 bif m.1==0 then(eC x m,[RN (eC x m) 1 m.2.1 m.2.2.2.1],0)else
 bif m.1==1 then(eH x m,[],0)else bif m.1==2 then oH x m else
 bif decide (sC x m (m.1==4)<0)then(x,[],2)else sM x m (sC x m (m.1==4)).toNat
def mG(x:NodeT)(m:MsgT):Bool:=dY x&&(fA m&&(m.2.2.1==x.1&&(!decide (m.2.1>=x.2.1)&&(m.vec.length:Int)==x.2.1)))
def gY(x:NodeT)(m:MsgT):I8:=bif mG x m then zE x m else(x,[],1)
structure RecOk (x:NodeT) (m:MsgT):Prop where
 node:NodeOk x
 msg:fA m=true
 idn:0<=x.1/\x.1<x.2.1/\1<=x.2.1/\x.2.1<=5
 frm:0<=m.2.1/\m.2.1<x.2.1
 ne:m.2.1≠x.1
 vec:(m.vec.length:Int)=x.2.1
 to:m.2.2.1=x.1
 num:inB m.2.2.2.1 0 100000=true
 hi:0<=m.hi/\m.hi<=100000
 part:aP m.part=true
 marks:fM m.marks=true
 leaves:m.leaves.length<=4
theorem E5{x:NodeT}{m:MsgT}(h:mG x m=true):RecOk x m:=by
 unfold mG at h
 simp only[Bool.and_eq_true,beq_iff_eq,Bool.not_eq_true',decide_eq_false_iff_not] at h
 obtain⟨h1,h2,h3,h4,h5⟩:=h
 have hn:=(hI x).1 h1
 have a1:=hn.n
 have a2:=hn.id
 rw[aV] at a1 a2
 rw[IntKind.wrap_i64] at a2
 have hm:=h2
 unfold fA uD eO at hm
 simp only[Bool.and_eq_true,aV,Bool.not_eq_true',beq_eq_false_iff_ne] at hm
 obtain⟨⟨b1,b2,b3,b4⟩,b5,b6,b7,b8,b9,b10,b11,b12⟩:=hm
 exact⟨hn,h2,by omega,by omega,by rw[<- h3];exact b4,h5,h3,aV.2 b7,b8,b11,b12,z3 h2⟩
theorem RecOk.gone{x:NodeT}{m:MsgT}(h:RecOk x m)(k:Nat):RecOk (kH x k) m:=
 ⟨PC h.node k,h.msg,h.idn,h.frm,h.ne,h.vec,h.to,h.num,h.hi,h.part,h.marks,h.leaves⟩
theorem RecOk.brought{x:NodeT}{m:MsgT}(h:RecOk x m):NodeOk (eC x m):=
 NodeOk.gotUp ((h.node.heard m).take h.part) h.hi.2 (by
  have h1:=h.ne;have h2:=h.idn;have h3:=h.frm
  show m.2.1.toNat≠x.1.toNat
  omega)
theorem RecOk.syn{x:NodeT}{m:MsgT}(h:RecOk x m)(hf:kZ x m=false):RecOk (withS x (hY x m)) m:=by
 refine⟨?_,h.msg,h.idn,h.frm,h.ne,h.vec,h.to,h.num,h.hi,h.part,h.marks,h.leaves⟩
 unfold hY
 unfold kZ at hf
 by_cases hc:dE x.sess m.2.1 true>=0
 ·rw[decide_eq_true hc]
  rcases hZ x.sess m.2.1 true with ⟨k,hk,e,_⟩ | ⟨e,_⟩
  ·show NodeOk (withS x (oK x (dE x.sess m.2.1 true).toNat m.2.2.2.1))
   rw[e];exact K0 h.node hk h.num
  ·omega
 ·rw[decide_eq_false hc] at hf ⊢
  refine I6 h.node ?_ h.ne h.num (by omega) (by intro e;rw[e] at hf;simp at hf)
  have h2:=h.idn;have h3:=h.frm
  rw[aV,IntKind.wrap_i64];omega
theorem wL{x:NodeT}(h:NodeOk x)(m:MsgT):(hY x m).length<=aW:=by
 have h1:=((dW x).1 h.sess).1
 have h2:=h.slots;rw[aV] at h2
 unfold hY oK lE aW
 cases decide (dE x.sess m.2.1 true>=0)with
 | true=>show(List.set _ _ _).length<=_;rw[List.length_set];omega
 | false=>show(x.sess++[_]).length<=_;rw[List.length_append,List.length_singleton];omega
theorem QP{x:NodeT}(hz:SzN x)(h:NodeOk x)(m:MsgT):SzN (KK x m):=lK (tI hz (wL h m)) m
theorem Q2{x:NodeT}{m:MsgT}(h:mG x m=false):gY x m=(x,[],1):=by unfold gY;rw[h];rfl
theorem NO{x:NodeT}{m:MsgT}(h:mG x m=true):gY x m=zE x m:=by unfold gY;rw[h];rfl
-- an exchange taken out, as the code does it
def S8(x:NodeT)(k:Int):List eF:=([]++((x.sess.take (k.toNat)).drop 0))++((x.sess.take x.sess.length).drop ((i64.wrap (k+1))).toNat)
theorem Q3{x:NodeT}{k:Nat}(hk:k<x.sess.length)(hl:x.sess.length<=aW):S8 x (k:Int)=x.sess.take k++x.sess.drop (k+1):=by
 unfold S8
 rw[aM (Nat.lt_of_lt_of_le hk (Nat.le_trans hl (by decide))),List.take_length,Int.toNat_natCast,Int.toNat_natCast];rfl
theorem NU{x:NodeT}{k:Nat}(hk:k<x.sess.length)(hl:x.sess.length<=aW):withS x (S8 x (k:Int))=kH x k:=by rw[Q3 hk hl];rfl
theorem PO{α β:Type}{ss:List α}{k:Nat}{F Z:β}(hk:k<ss.length)(hl:ss.length<=aW):
  (bif decide (0<=(k:Int))&&decide ((k:Int)<=(ss.length:Int))then(bif decide (List.length ([]:List α)+List.length ((ss.take ((k:Int).toNat)).drop 0)<=bound)then
   (bif decide (0<=i64.wrap ((k:Int)+1))&&decide (i64.wrap ((k:Int)+1)<=(ss.length:Int))then
    (bif decide (List.length ([]++((ss.take ((k:Int).toNat)).drop 0))+List.length ((ss.take ss.length).drop ((i64.wrap ((k:Int)+1))).toNat)<=bound)then F else Z)else Z)else Z)else Z)=F:=by
 have hb:aW<=bound:=by decide
 rw[aM (Nat.lt_of_lt_of_le hk (Nat.le_trans hl (by decide)))]
 refine(uV (Int.natCast_nonneg _) (by omega)).trans ?_
 refine(aE (by rw[List.drop_zero,List.length_take];simp;omega)).trans ?_
 refine(uV (Int.natCast_nonneg _) (by omega)).trans ?_
 exact aE (by rw[List.nil_append,List.drop_zero,List.length_take,List.length_drop,List.length_take,Int.toNat_natCast,Int.toNat_natCast];omega)
end Go.Abs
-- exchanges begun and gone through: plain laws
namespace Go.Abs
def pS(x:NodeT)(to:Int):Bool:=dY x&&(mH x to&&(!decide (dE x.sess to false>=0)&&(!((x.sess.length:Int)==x.slots)&& !(x.num==100000))))
def ER(x:NodeT)(to:Int):NodeT:=
 (x.1,x.2.1,x.2.2.1,x.2.2.2.1,x.2.2.2.2.1,x.2.2.2.2.2.1,x.2.2.2.2.2.2.1,x.2.2.2.2.2.2.2.1,x.2.2.2.2.2.2.2.2.1,x.got,x.acked,x.seen,i64.wrap (x.num+1),x.slots,x.sess++[(to,i64.wrap (x.num+1),false,(0:Int),())],x.wait,x.limit,x.clock,x.rises,())
def S2(x:NodeT)(to:Int):MsgT:=(2,x.1,to,i64.wrap (x.num+1),cF x.log,x.tree.1,x.tree.2.1,x.got,[],[],[],c6 x.state,())
def BE:MsgT:=((0:Int),(0:Int),(0:Int),(0:Int),(0:Int),[],(0:Int),[],[],[],[],[],())
abbrev UT:=NodeT×MsgT×Bool
def i7(x:NodeT)(to:Int):UT:=bif pS x to then(ER x to,S2 x to,true)else(x,BE,false)
structure SynOk (x:NodeT) (to:Int):Prop where
 node:NodeOk x
 peer:0<=to/\to<x.2.1/\to≠x.1
 slot:dE x.sess to false<0
 room:(x.sess.length:Int)<x.slots
 num:0<=x.num/\x.num<100000
 nn:1<=x.2.1/\x.2.1<=5
theorem tO{x:NodeT}{to:Int}(h:pS x to=true):SynOk x to:=by
 unfold pS mH at h
 simp only[Bool.and_eq_true,Bool.not_eq_true',decide_eq_false_iff_not,beq_eq_false_iff_ne,bne_iff_ne,aV] at h
 obtain⟨h1,⟨h2,h3⟩,h4,h5,h6⟩:=h
 have hn:=(hI x).1 h1
 have h7:=hn.n;have h8:=hn.num
 have h9:=((dW x).1 hn.sess).1
 rw[aV] at h7 h8
 rw[IntKind.wrap_i64] at h2
 exact⟨hn,by omega,by omega,by omega,by omega,by omega⟩
theorem HJ{n:Int}(h:0<=n/\n<100000):i64.wrap (n+1)=n+1:=by rw[IntKind.wrap_i64];omega
theorem SynOk.up{x:NodeT}{to:Int}(h:SynOk x to):NodeOk (ER x to) where
 n:=h.node.n
 id:=h.node.id
 state:=h.node.state
 tree:=h.node.tree
 log:=h.node.log
 got:=h.node.got
 acked:=h.node.acked
 own:=h.node.own
 seen:=h.node.seen
 ack:=h.node.ack
 num:=by show inB (i64.wrap (x.num+1)) 0 100000=true;rw[HJ h.num,aV];have:=h.num;omega
 clock:=h.node.clock
 slots:=h.node.slots
 wait:=h.node.wait
 limit:=h.node.limit
 rises:=h.node.rises
 rise:=h.node.rise
 sess:=by
  have hs:=(dW x).1 h.node.sess
  refine(dW _).2 ⟨?_,λs hm=>?_,?_⟩
  ·show(((x.sess++[_]).length:Nat):Int)<=x.slots
   rw[List.length_append,List.length_singleton];have:=h.room;omega
  ·have hm:s∈x.sess++[(to,i64.wrap (x.num+1),false,(0:Int),())]:=hm
   rcases List.mem_append.1 hm with h1 | h1
   ·exact hs.2.1 s h1
   ·rw[List.mem_singleton.1 h1]
    have h2:=h.peer;have h3:=h.num;have h4:=h.node.wait;have h5:=h.nn
    rw[aV] at h4
    refine⟨?_,h2.2.2,?_,?_⟩
    ·show inB to 0 (i64.wrap (x.2.1 - 1))=true
     rw[aV,IntKind.wrap_i64];omega
    ·show inB (i64.wrap (x.num+1)) 0 100000=true
     rw[HJ h.num,aV];omega
    ·show inB 0 0 x.wait=true
     rw[aV];omega
  ·show(List.map pN (x.sess++[(to,i64.wrap (x.num+1),false,(0:Int),())])).Nodup
   rw[List.map_append,List.nodup_append]
   refine⟨hs.2.2,by simp,λa ha b hb=>?_⟩
   obtain⟨s,hs1,rfl⟩:=List.mem_map.1 ha
   have hb:b=(to,false):=by simpa [pN] using hb
   rw[hb]
   rcases hZ x.sess to false with ⟨k,_,e,_⟩ | ⟨_,e⟩
   ·have:=h.slot;rw[e] at this;omega
   ·exact e s hs1
theorem EQ{x:NodeT}{to:Int}(hz:SzN x)(h:SynOk x to):SzN (ER x to):=
 ⟨hz.state,hz.leaves,hz.list,hz.logs,hz.got,hz.acked,hz.seen,hz.lines,by
  have h1:=h.room;have h2:=h.node.slots;rw[aV] at h2
  show(x.sess++[_]).length<=aW
  rw[List.length_append,List.length_singleton];unfold aW;omega,hz.rises⟩
theorem QQ{x:NodeT}(hz:SzN x)(to:Int):SzM (S2 x to):=⟨hz.leaves,hz.got,Nat.zero_le _,gP,Nat.le_trans (fW _) (by decide)⟩
theorem JP:SzM BE:=⟨Nat.zero_le _,Nat.zero_le _,Nat.zero_le _,gP,Nat.zero_le _⟩
theorem C8{x:NodeT}(hz:SzN x)(to:Int):SzN (i7 x to).1/\SzM (i7 x to).2.1:=by
 unfold i7
 cases h:pS x to with
 | false=>exact⟨hz,JP⟩
 | true=>exact⟨EQ hz (tO h),QQ hz to⟩
theorem M1{x:NodeT}{to:Int}(h:pS x to=true):i7 x to=(ER x to,S2 x to,true):=by unfold i7;rw[h];rfl
theorem QO{x:NodeT}{to:Int}(h:pS x to=false):i7 x to=(x,BE,false):=by unfold i7;rw[h];rfl
-- who answers whom
structure RecTo (x:NodeT) (m:MsgT) (r:I8):Prop where
 id:r.1.1=x.1
 to:∀ q∈r.2.1,q.2.2.1=m.2.1/\q.2.1=x.1
-- an exchange gone through
end Go.Abs
-- saying: plain laws
namespace Go.Abs
abbrev QB:=aH×Int
def zM(id:Int)(e:bI):aH:=bif aP ([(id,e)],[],())then([(id,e)],[],())else iC
theorem uB(id:Int)(e:bI):aP (zM id e)=true:=by
 unfold zM
 cases h:aP ([(id,e)],[],())with
 | true=>exact h
 | false=>rfl
def upE(s:aH)(id:Int):bI×Int:=bif aP s then(bif eO id then(bif(oQ s id).2 then((oQ s id).1,0)else(c9,3))else(c9,1))else(c9,1)
def uH(s:aH)(id:Int):Int:=mxI true (bG s id).1.1 (cO s.2.1 id)
def qX(s:aH)(id:Int):QB:=bif aP s then(bif eO id then(bif(oQ s id).2 then(iC,2)else bif uH s id==1000 then(iC,4)else(zM id (i64.wrap (uH s id+1),0,0,0,⟨#[]⟩,()),0))else(iC,1))else(iC,1)
def qZ(s:aH)(id:Int):QB:=bif(upE s id).2 != 0 then(iC,(upE s id).2)else bif(upE s id).1.2.2.1==100000 then(iC,4)else
 (zM id ((upE s id).1.1,(upE s id).1.2.1,i64.wrap ((upE s id).1.2.2.1+1),(upE s id).1.2.2.2.1,(upE s id).1.2.2.2.2.1,()),0)
def vE(s:aH)(id:Int)(t:ByteArray):QB:=bif(upE s id).2 != 0 then(iC,(upE s id).2)else bif(upE s id).1.2.2.2.1==1000 then(iC,4)else bif decide (((ByteArray.size t:Nat):Int)>8)then(iC,4)else
 (zM id ((upE s id).1.1,(upE s id).1.2.1,(upE s id).1.2.2.1,i64.wrap ((upE s id).1.2.2.2.1+1),t,()),0)
def qY(s:aH)(id:Int):QB:=bif(upE s id).2 != 0 then(iC,(upE s id).2)else(zM id ((upE s id).1.1,1,(upE s id).1.2.2.1,(upE s id).1.2.2.2.1,(upE s id).1.2.2.2.2.1,()),0)
def fV(s:aH)(k id:Int)(t:ByteArray):QB:=bif k==0 then qX s id else bif k==1 then qZ s id else bif k==2 then vE s id t else qY s id
theorem G8(s:aH)(id:Int):aP (qX s id).1=true:=by
 unfold qX
 cases aP s<;>cases eO id<;>cases (oQ s id).2<;>cases uH s id==1000<;>first | rfl | exact uB _ _
theorem HA(s:aH)(id:Int):aP (qZ s id).1=true:=by
 unfold qZ
 cases (upE s id).2 != 0<;>cases (upE s id).1.2.2.1==100000<;>first | rfl | exact uB _ _
theorem KR(s:aH)(id:Int)(t:ByteArray):aP (vE s id t).1=true:=by
 unfold vE
 cases (upE s id).2 != 0<;>cases (upE s id).1.2.2.2.1==1000<;>cases decide (((ByteArray.size t:Nat):Int)>8)<;>first | rfl | exact uB _ _
theorem G9(s:aH)(id:Int):aP (qY s id).1=true:=by
 unfold qY
 cases (upE s id).2 != 0<;>first | rfl | exact uB _ _
theorem EZ(s:aH)(k id:Int)(t:ByteArray):aP (fV s k id t).1=true:=by
 unfold fV
 cases k==0
 ·cases k==1
  ·cases k==2
   ·exact G9 s id
   ·exact KR s id t
  ·exact HA s id
 ·exact G8 s id
-- logs
def mT(l:gV)(d:aH):Bool:=gR l&&(aP d&& !(i64.wrap (l.2.1+(l.2.2.1.length:Int))==100000))
def gK(l:gV)(d:aH):gV:=bif decide ((((l.2.2.1++[d]).length:Nat):Int)>l.1)then(l.1,i64.wrap (l.2.1+1),(l.2.2.1++[d]).drop 1,())else(l.1,l.2.1,l.2.2.1++[d],())
def sU(l:gV)(d:aH):gV×Bool:=bif mT l d then(gK l d,true)else(l,false)
structure LogOk (l:gV):Prop where
 cap:1<=l.1/\l.1<=8
 len:(l.2.2.1.length:Int)<=l.1
 frm:0<=l.2.1/\l.2.1<=100000
 top:l.2.1+(l.2.2.1.length:Int)<=100000
 all:∀ s∈l.2.2.1,aP s=true
theorem nI(l:gV):gR l=true↔LogOk l:=by
 unfold gR
 simp only[Bool.and_eq_true,aV,Bool.not_eq_true',decide_eq_false_iff_not,bN]
 constructor
 ·rintro ⟨h1,h2,h3,h4,h5⟩
  rw[IntKind.wrap_i64] at h4
  refine⟨h1,by omega,h3,by omega,λs hs=>?_⟩
  obtain⟨i,hi,rfl⟩:=hO hs
  exact h5 i hi
 ·rintro ⟨h1,h2,h3,h4,h5⟩
  rw[IntKind.wrap_i64]
  exact⟨h1,by omega,h3,by omega,λi hi=>h5 _ (cN hi)⟩
theorem rI{l:gV}(h:LogOk l):cF l=l.2.1+(l.2.2.1.length:Int):=by
 have h1:=h.frm;have h2:=h.top
 unfold cF;rw[(nI l).2 h];show i64.wrap _=_;rw[IntKind.wrap_i64];omega
theorem LO{l:gV}{d:aH}(h:LogOk l)(hd:aP d=true)(hn:l.2.1+(l.2.2.1.length:Int)<100000):LogOk (gK l d)/\cF (gK l d)=cF l+1:=by
 have h1:=h.cap;have h2:=h.len;have h3:=h.frm
 have hl:(l.2.2.1++[d]).length=l.2.2.1.length+1:=by rw[List.length_append,List.length_singleton]
 have ha:∀ s∈l.2.2.1++[d],aP s=true:=λs hs=>by
  rcases List.mem_append.1 hs with hs | hs
  ·exact h.all s hs
  ·rw[List.mem_singleton.1 hs];exact hd
 have key:LogOk (gK l d)/\(gK l d).2.1+(((gK l d).2.2.1.length:Nat):Int)=l.2.1+(l.2.2.1.length:Int)+1:=by
  unfold gK
  by_cases hc:(((l.2.2.1++[d]).length:Nat):Int)>l.1
  ·rw[decide_eq_true hc]
   have hw:i64.wrap (l.2.1+1)=l.2.1+1:=by rw[IntKind.wrap_i64];omega
   have hdl:((l.2.2.1++[d]).drop 1).length=l.2.2.1.length:=by rw[List.length_drop,hl];omega
   refine⟨⟨h1,?_,?_,?_,λs hs=>ha s (List.mem_of_mem_drop hs)⟩,?_⟩
   ·show((((l.2.2.1++[d]).drop 1).length:Nat):Int)<=l.1;rw[hdl];exact h2
   ·show 0<=i64.wrap (l.2.1+1)/\i64.wrap (l.2.1+1)<=100000;rw[hw];omega
   ·show i64.wrap (l.2.1+1)+((((l.2.2.1++[d]).drop 1).length:Nat):Int)<=100000;rw[hw,hdl];omega
   ·show i64.wrap (l.2.1+1)+((((l.2.2.1++[d]).drop 1).length:Nat):Int)=_;rw[hw,hdl];omega
  ·rw[decide_eq_false hc]
   rw[hl] at hc
   refine⟨⟨h1,?_,h3,?_,ha⟩,?_⟩
   ·show(((l.2.2.1++[d]).length:Nat):Int)<=l.1;rw[hl];omega
   ·show l.2.1+(((l.2.2.1++[d]).length:Nat):Int)<=100000;rw[hl];omega
   ·show l.2.1+(((l.2.2.1++[d]).length:Nat):Int)=_;rw[hl];omega
 exact⟨key.1,by rw[rI key.1,rI h];exact key.2⟩
-- a node says
def tR(x:NodeT)(k id:Int):Bool:=dY x&&(inB k 0 4&&(inB id 0 (i64.wrap (x.2.1 - 1))&& !(rM (k==4) (id==x.1))))
def JG(x:NodeT)(d:aH):NodeT:=
 (x.1,x.2.1,x.2.2.1,x.2.2.2.1,x.2.2.2.2.1,x.2.2.2.2.2.1,(gK x.log d).1,(gK x.log d).2.1,(gK x.log d).2.2.1,x.got.set x.1.toNat (i64.wrap ((gt x.got x.1.toNat).1+1),()),x.acked,x.seen,x.num,x.slots,x.sess,x.wait,x.limit,x.clock,x.rises,())
abbrev J8:=NodeT×aH×Int
def jF(x:NodeT)(k id:Int)(t:ByteArray):J8:=
 bif tR x k id then(bif(fV x.state k id t).2 != 0 then(x,iC,(fV x.state k id t).2)else bif mT x.log (fV x.state k id t).1 then(jG (JG x (fV x.state k id t).1) (fV x.state k id t).1,(fV x.state k id t).1,0)else(x,iC,4))else(x,iC,1)
theorem y9{x:NodeT}{d:aH}(h:NodeOk x)(hd:mT x.log d=true):NodeOk (JG x d):=by
 unfold mT at hd
 simp only[Bool.and_eq_true,Bool.not_eq_true',beq_eq_false_iff_ne] at hd
 have hL:=(nI x.log).1 h.log
 have h1:=hL.frm;have h2:=hL.top;have h3:=hL.len;have h4:=hL.cap
 have hw:i64.wrap (x.log.2.1+(x.log.2.2.1.length:Int))=x.log.2.1+(x.log.2.2.1.length:Int):=by rw[IntKind.wrap_i64];omega
 rw[hw] at hd
 obtain⟨p1,p2⟩:=LO hL hd.2.1 (by have:=hd.2.2;omega)
 have hs:cF x.log<100000/\0<=cF x.log:=by rw[rI hL];have:=hd.2.2;omega
 have hg:(gt x.got x.1.toNat).1=cF x.log:=eq_of_beq h.own
 have hwg:i64.wrap ((gt x.got x.1.toNat).1+1)=cF x.log+1:=by rw[hg,IntKind.wrap_i64];omega
 have hid:=h.id;have hn:=h.n;have hv:=h.got
 rw[aV] at hid hn
 rw[IntKind.wrap_i64] at hid
 unfold eI at hv
 simp only[Bool.and_eq_true,beq_iff_eq] at hv
 have hk:x.1.toNat<x.got.length:=by omega
 exact {
  n:=h.n,id:=h.id,state:=h.state,tree:=h.tree
  log:=(nI _).2 p1
  got:=by
   show eI (x.got.set x.1.toNat _) x.2.1=true
   unfold eI
   simp only[Bool.and_eq_true,beq_iff_eq]
   rw[List.length_set]
   refine⟨hv.1,hv.2.1,?_⟩
   have h5:=bN.1 hv.2.2
   rw[bN]
   intro i hi
   by_cases e:x.1.toNat=i
   ·rw[<- e,cD hk];show inB (i64.wrap _) 0 100000=true;rw[hwg,aV];omega
   ·rw[eD e];exact h5 i hi
  acked:=h.acked
  own:=by
   show((gt (x.got.set x.1.toNat (i64.wrap ((gt x.got x.1.toNat).1+1),())) x.1.toNat).1==cF (gK x.log d))=true
   rw[cD hk,p2,beq_iff_eq];exact hwg
  seen:=h.seen
  ack:=by
   have h6:=h.ack
   unfold A6 at h6 ⊢
   rw[bN] at h6 ⊢
   intro i hi
   have h7:=h6 i hi
   show(!decide ((gt x.acked i).1>cF (gK x.log d)))=true
   rw[p2]
   simp only[Bool.not_eq_true',decide_eq_false_iff_not] at h7 ⊢
   omega
  num:=h.num,clock:=h.clock,slots:=h.slots,wait:=h.wait,limit:=h.limit,rises:=h.rises,rise:=h.rise,sess:=h.sess }
theorem HU(l:gV)(d:aH):(gK l d).2.2.1.length<=l.2.2.1.length+1:=by
 unfold gK
 cases decide ((((l.2.2.1++[d]).length:Nat):Int)>l.1)with
 | true=>show((l.2.2.1++[d]).drop 1).length<=_;rw[List.length_drop,List.length_append,List.length_singleton];omega
 | false=>show(l.2.2.1++[d]).length<=_;rw[List.length_append,List.length_singleton];exact Nat.le_refl _
theorem E3{x:NodeT}{d:aH}(hz:SzN x)(h:NodeOk x)(hd:mT x.log d=true):SzN (JG x d):=by
 have ho:=(nI _).1 (y9 h hd).log
 have h1:=ho.cap;have h2:=ho.len
 refine⟨hz.state,hz.leaves,?_,λi hi=>?_,?_,hz.acked,hz.seen,hz.lines,hz.sess,hz.rises⟩
 ·unfold aW;omega
 ·have:=((aS _).1 (ho.all _ (cN hi))).len
  exact⟨by unfold aW;omega,by unfold aW;omega⟩
 ·show(x.got.set _ _).length<=aW;rw[List.length_set];exact hz.got
theorem Q0{x:NodeT}(h:NodeOk x)(k id:Int)(t:ByteArray):NodeOk (jF x k id t).1:=by
 unfold jF
 cases tR x k id with
 | false=>exact h
 | true=>
  cases (fV x.state k id t).2 != 0 with
  | true=>exact h
  | false=>
   cases hb:mT x.log (fV x.state k id t).1 with
   | false=>exact h
   | true=>exact(y9 h hb).take (EZ _ _ _ _)
theorem JF{x:NodeT}(hz:SzN x)(k id:Int)(t:ByteArray):SzN (jF x k id t).1:=by
 unfold jF
 cases hs:tR x k id with
 | false=>exact hz
 | true=>
  have h:NodeOk x:=(hI x).1 (by unfold tR at hs;simp only[Bool.and_eq_true] at hs;exact hs.1)
  cases (fV x.state k id t).2 != 0 with
  | true=>exact hz
  | false=>
   cases hb:mT x.log (fV x.state k id t).1 with
   | false=>exact hz
   | true=>exact lO (E3 hz h hb) _
end Go.Abs
-- check sums lie in 0 .. 2^32 - 1: plain laws
namespace Go.Abs
def uZ(x:Int):Prop:=0<=x/\x<4294967296
theorem MO{a b:Int}(ha:uZ a)(hb:uZ b):uZ (kO .i64 a b):=by
 obtain⟨n,rfl⟩:∃ n:Nat,a=n:=⟨a.toNat,by have:=ha.1;omega⟩
 obtain⟨m,rfl⟩:∃ m:Nat,b=m:=⟨b.toNat,by have:=hb.1;omega⟩
 have hn:n<2 ^ 32:=by have:=ha.2;omega
 have hm:m<2 ^ 32:=by have:=hb.2;omega
 unfold kO
 have h:(BitVec.ofInt i64.bits (n:Int) ^^^ BitVec.ofInt i64.bits (m:Int)).toNat<2 ^ 32:=by
  rw[BitVec.toNat_xor]
  have e1:(BitVec.ofInt i64.bits (n:Int)).toNat=n:=by
   rw[BitVec.toNat_ofInt];show((n:Int) % ((2 ^ 64:Nat):Int)).toNat=n;omega
  have e2:(BitVec.ofInt i64.bits (m:Int)).toNat=m:=by
   rw[BitVec.toNat_ofInt];show((m:Int) % ((2 ^ 64:Nat):Int)).toNat=m;omega
  rw[e1,e2];exact Nat.xor_lt_two_pow hn hm
 generalize (BitVec.ofInt i64.bits (n:Int) ^^^ BitVec.ofInt i64.bits (m:Int)).toNat=k at h
 have e:i64.wrap (k:Int)=k:=by rw[IntKind.wrap_i64];omega
 rw[e];exact⟨by omega,by omega⟩
theorem PS{x:Int}(h:uZ x):uZ (s9 x):=by
 have hd:0<=x.tdiv 2/\x.tdiv 2<4294967296:=by
  have h1:=h.1;have h2:=h.2
  rw[Int.tdiv_eq_ediv_of_nonneg h1];omega
 have hw:i64.wrap (x.tdiv 2)=x.tdiv 2:=by rw[IntKind.wrap_i64];omega
 unfold s9
 rw[hw]
 cases (x.tmod 2)==1 with
 | true=>exact MO hd ⟨by omega,by omega⟩
 | false=>exact hd
theorem CN{x:Int}(h:uZ x):∀ k,uZ (fN k x)
 | 0=>h
 | k+1=>PS (CN h k)
theorem J3{bs:List aO}(h:∀ b∈bs,uZ b.1):∀ i,i<=bs.length->uZ (pK bs i)
 | 0,_=>⟨by show(0:Int)<=4294967295;omega,by show(4294967295:Int)<4294967296;omega⟩
 | i+1,hi=>by
  have hb:=h _ (cN (xs:=bs) (i:=i) (by omega))
  have hw:i64.wrap (gt bs i).1=(gt bs i).1:=by have h1:=hb.1;have h2:=hb.2;rw[IntKind.wrap_i64];omega
  show uZ (fN 8 (kO .i64 (pK bs i) (i64.wrap (gt bs i).1)))
  rw[hw]
  exact CN (MO (J3 h i (by omega)) hb) 8
theorem PT{bs:List aO}(h:∀ b∈bs,uZ b.1):uZ (crc bs):=by
 unfold crc
 exact MO (J3 h _ (Nat.le_refl _)) ⟨by omega,by omega⟩
def B32(bs:List aO):Prop:=∀ b∈bs,uZ b.1
theorem B32.app{a b:List aO}(ha:B32 a)(hb:B32 b):B32 (a++b):=λx hx=>by
 rcases List.mem_append.1 hx with h | h
 ·exact ha x h
 ·exact hb x h
theorem B32.flat{α:Type}{f:α->List aO}(h:∀ x,B32 (f x))(xs:List α):B32 (xs.flatMap f):=λx hx=>by
 obtain⟨a,_,ha⟩:=List.mem_flatMap.1 hx
 exact h a x ha
theorem S9(n:Nat):B32 (iB n):=by
 induction n using Nat.strongRecOn with
 | _ n ih=>
  unfold iB
  split
  ·rename_i h
   intro b hb
   rw[List.mem_singleton.1 hb];exact⟨by show(0:Int)<=(n:Int);omega,by show(n:Int)<4294967296;omega⟩
  ·rename_i h
   intro b hb
   rcases List.mem_cons.1 hb with e | e
   ·rw[e];exact⟨by show(0:Int)<=((n % 128+128:Nat):Int);omega,by show((n % 128+128:Nat):Int)<4294967296;omega⟩
   ·exact ih (n / 128) (Nat.div_lt_self (by omega) (by omega)) b e
theorem gZ(x:Int):B32 (aN x):=by
 unfold aN
 cases inB x 0 2147483647 with
 | false=>intro b hb;cases hb
 | true=>exact S9 _
theorem LC(t:ByteArray):B32 (dT t):=by
 unfold dT
 refine(gZ _).app λb hb=>?_
 unfold fS eS at hb
 obtain⟨u,_,rfl⟩:=List.mem_map.1 hb
 have:=u.toNat_lt
 exact⟨by show(0:Int)<=((u.toNat:Nat):Int);omega,by show((u.toNat:Nat):Int)<4294967296;omega⟩
theorem P1(s:aH):B32 (bT s):=by
 unfold bT
 refine(((gZ _).app (B32.flat (λx=>?_) _)).app (gZ _)).app (B32.flat (λf=>?_) _)
 ·unfold bC;exact(((((gZ _).app (gZ _)).app (gZ _)).app (gZ _)).app (gZ _)).app (LC _)
 ·unfold bE;exact(gZ _).app (gZ _)
theorem EM{x:Int}(h:uZ x):inB (x.tmod 1024) 0 1023=true:=by
 rw[aV];have:=tM (x:=x) (n:=1024) h.1 (by omega);omega
theorem oS(s:aH)(k:Int):inB (iZ s k) 0 1023=true:=by
 unfold iZ
 cases aP s&&inB k 0 3 with
 | true=>exact EM (PT (P1 _))
 | false=>rfl
theorem MV{s:aH}(h:aP s=true):treeB (cJ s)=true:=by
 unfold cJ;rw[h]
 show treeB (c7 s,lQ (c7 s),())=true
 have hr:inB (lQ (c7 s)) 0 1023=true:=EM (PT (B32.flat (λx=>gZ _) _))
 have hl:nF (c7 s) 1023=true:=bN.2 λi hi=>by
  match i,hi with
  | 0,_=>exact oS s 0
  | 1,_=>exact oS s 1
  | 2,_=>exact oS s 2
  | 3,_=>exact oS s 3
 unfold treeB
 rw[hl,hr];rfl
end Go.Abs
-- states as points of a lattice: plain laws
namespace Go.Abs
-- comparing one after another
structure Cmp {α:Type} (c:α->α->Int):Prop where
 neg:∀ a b,c b a= - c a b
 eq:∀ a b,c a b=0->a=b
 tr:∀ a b d,c a b<=0->c b d<=0->c a d<=0
theorem Cmp.self{α:Type}{c:α->α->Int}(h:Cmp c)(a:α):c a a=0:=by have:=h.neg a a;omega
theorem Cmp.lex{α β:Type}{c:α->α->Int}{d:β->β->Int}(hc:Cmp c)(hd:Cmp d):Cmp (fun(a b:α×β)=>if c a.1 b.1≠0 then c a.1 b.1 else d a.2 b.2) where
 neg a b:=by
  show(if c b.1 a.1≠0 then c b.1 a.1 else d b.2 a.2)= -(if c a.1 b.1≠0 then c a.1 b.1 else d a.2 b.2)
  rw[hc.neg a.1 b.1,hd.neg a.2 b.2];exact uJ _ _
 eq a b h:=by
  have h:(if c a.1 b.1≠0 then c a.1 b.1 else d a.2 b.2)=0:=h
  by_cases h0:c a.1 b.1=0
  ·rw[if_neg (λg=>g h0)] at h
   exact Prod.ext (hc.eq _ _ h0) (hd.eq _ _ h)
  ·rw[if_pos h0] at h;exact absurd h h0
 tr a b e h1 h2:=by
  have h1:(if c a.1 b.1≠0 then c a.1 b.1 else d a.2 b.2)<=0:=h1
  have h2:(if c b.1 e.1≠0 then c b.1 e.1 else d b.2 e.2)<=0:=h2
  show(if c a.1 e.1≠0 then c a.1 e.1 else d a.2 e.2)<=0
  have k2:c b.1 e.1<=0:=by
   by_cases h0:c b.1 e.1=0
   ·omega
   ·rw[if_pos h0] at h2;exact h2
  by_cases h0:c a.1 b.1=0
  ·rw[if_neg (λg=>g h0)] at h1
   rw[hc.eq _ _ h0]
   by_cases g0:c b.1 e.1=0
   ·rw[if_neg (λg=>g g0)] at h2 ⊢;exact hd.tr _ _ _ h1 h2
   ·rw[if_pos g0];exact k2
  ·rw[if_pos h0] at h1
   have k3:=hc.tr _ _ _ h1 k2
   by_cases g0:c a.1 e.1=0
   ·have e1:=hc.eq _ _ g0
    rw[<- e1,hc.neg a.1 b.1] at k2;omega
   ·rw[if_pos g0];exact k3
theorem l2_cmp:Cmp l2 where
 neg:=z4
 eq a b h:=by
  unfold l2 at h
  by_cases h1:a<b
  ·rw[decide_eq_true h1] at h;cases h
  ·rw[decide_eq_false h1] at h
   by_cases h2:a>b
   ·rw[decide_eq_true h2] at h;cases h
   ·omega
 tr a b d h1 h2:=by
  have key:∀ x y:Int,l2 x y<=0↔x<=y:=λx y=>by
   unfold l2
   by_cases h1:x<y
   ·rw[decide_eq_true h1];exact⟨λ_=>by omega,λ_=>by show(-1:Int)<=0;omega⟩
   ·rw[decide_eq_false h1]
    by_cases h2:x>y
    ·rw[decide_eq_true h2];exact⟨λh=>by have h:(1:Int)<=0:=h;omega,λ_=>by omega⟩
    ·rw[decide_eq_false h2];exact⟨λ_=>by omega,λ_=>Int.le_refl 0⟩
  rw[key] at h1 h2 ⊢;omega
theorem JT{x y:Int}(h:l2 x y<=0):x<=y:=by
 unfold l2 at h
 by_cases h1:x<y
 ·omega
 ·rw[decide_eq_false h1] at h
  by_cases h2:x>y
  ·rw[decide_eq_true h2] at h;have h:(1:Int)<=0:=h;omega
  ·omega
theorem RU(x:Int):l2 x x=0:=l2_cmp.self x
theorem GI:∀ x y:List UInt8,Lib.compareBytes x y=0->x=y
 | [],[],_=>rfl
 | [],_::_,h=>by unfold Lib.compareBytes at h;omega
 | _::_,[],h=>by unfold Lib.compareBytes at h;omega
 | a::x,b::y,h=>by
  unfold Lib.compareBytes at h
  by_cases h1:a<b
  ·rw[if_pos h1] at h;omega
  ·rw[if_neg h1] at h
   by_cases h2:b<a
   ·rw[if_pos h2] at h;omega
   ·rw[if_neg h2] at h
    have e:a=b:=UInt8.toNat_inj.1 (by rw[UInt8.lt_iff_toNat_lt] at h1 h2;omega)
    rw[e,GI x y h]
theorem GH:∀ x y z:List UInt8,Lib.compareBytes x y<=0->Lib.compareBytes y z<=0->Lib.compareBytes x z<=0
 | [],_,[],_,_=>by unfold Lib.compareBytes;omega
 | [],_,_::_,_,_=>by unfold Lib.compareBytes;omega
 | _::_,[],_,h,_=>by unfold Lib.compareBytes at h;omega
 | _::_,_::_,[],_,h=>by unfold Lib.compareBytes at h;omega
 | a ::x,b::y,c::z,h1,h2=>by
  unfold Lib.compareBytes at h1 h2 ⊢
  simp only[UInt8.lt_iff_toNat_lt] at h1 h2 ⊢
  by_cases c1:a.toNat<b.toNat
  ·by_cases c2:b.toNat<c.toNat
   ·rw[if_pos (by omega)];omega
   ·rw[if_neg c2] at h2
    by_cases c3:c.toNat<b.toNat
    ·rw[if_pos c3] at h2;omega
    ·rw[if_pos (by omega)];omega
  ·rw [if_neg c1] at h1
   by_cases c2:b.toNat<a.toNat
   ·rw[if_pos c2] at h1;omega
   ·rw[if_neg c2] at h1
    by_cases c3:b.toNat<c.toNat
    ·rw[if_pos (by omega)];omega
    ·rw[if_neg c3] at h2
     by_cases c4:c.toNat<b.toNat
     ·rw[if_pos c4] at h2;omega
     ·rw[if_neg c4] at h2
      rw[if_neg (by omega),if_neg (by omega)];exact GH x y z h1 h2
theorem PX:Cmp (fun(a b:ByteArray×Unit)=>uR a.1 b.1) where
 neg a b:=v7 _ _
 eq a b h:=by
  have h1:=GI _ _ h
  obtain⟨⟨⟨x⟩⟩,u⟩:=a
  obtain⟨⟨⟨y⟩⟩,v⟩:=b
  have h1:x=y:=h1
  rw[h1]
 tr a b d h1 h2:=GH _ _ _ h1 h2
theorem cmpE_cmp:Cmp gL:=l2_cmp.lex (l2_cmp.lex (l2_cmp.lex (l2_cmp.lex PX)))
def leE(a b:bI):Prop:=gL a b<=0
theorem nL(a:bI):leE a a:=Int.le_of_eq (cmpE_cmp.self a)
theorem LQ{a b c:bI}(h1:leE a b)(h2:leE b c):leE a c:=cmpE_cmp.tr _ _ _ h1 h2
theorem LS(a b:bI):leE a b\/leE b a:=by unfold leE;have:=qN a b;omega
theorem oT{a b:bI}(h1:leE a b)(h2:leE b a):a=b:=cmpE_cmp.eq _ _ (by unfold leE at h1 h2;have:=qN a b;omega)
theorem mJ{a b:bI}(h:leE a b):a.1<=b.1:=by
 unfold leE gL at h
 by_cases h0:l2 a.1 b.1=0
 ·exact JT (by omega)
 ·rw[if_pos h0] at h;exact JT h
theorem OZ{a b:bI}(h:leE a b)(e:a.1=b.1):a.2.1<=b.2.1:=by
 unfold leE gL at h
 rw[e,if_neg (λg=>g (RU _))] at h
 by_cases h0:l2 a.2.1 b.2.1=0
 ·exact JT (by omega)
 ·rw[if_pos h0] at h;exact JT h
theorem MM{e:bI}(h:1<=e.1):leE c9 e:=by unfold leE;rw[v4 h];omega
theorem FM(a b:bI):leE a (mxE a b):=by
 unfold mxE
 by_cases h:gL a b<0
 ·rw[decide_eq_true h];show gL a b<=0;omega
 ·rw[decide_eq_false h];exact nL a
theorem OI(a b:bI):leE b (mxE a b):=by
 unfold mxE
 by_cases h:gL a b<0
 ·rw[decide_eq_true h];exact nL b
 ·rw[decide_eq_false h];show gL b a<=0;rw[qN a b];omega
theorem HM(a b:bI):mxE a b=a\/mxE a b=b:=by
 unfold mxE;cases decide (gL a b<0)
 ·exact .inl rfl
 ·exact .inr rfl
theorem OJ{a b:bI}(h:leE a b):mxE a b=b:=oT (by rcases HM a b with e | e<;>rw[e];exact h;exact nL b) (OI a b)
theorem JM{a b:bI}(h:leE b a):mxE a b=a:=oT (by rcases HM a b with e | e<;>rw[e];exact nL a;exact h) (FM a b)
-- points
def ent(s:aH)(i:Int):bI:=(bG s i).1
def flo(s:aH)(i:Int):Int:=cO s.2.1 i
structure Pt (e:bI) (f:Int):Prop where
 nn:0<=f
 up:e=c9\/f<e.1
def nrm(m:bI)(f:Int):bI:=if f<m.1 then m else c9
theorem gG:c9.1=0:=rfl
theorem LX{s:aH}(h:StateOk s){x:bF}(hx:x∈s.1):bG s x.1=(x.2,true):=by
 rcases fK s x.1 with ⟨y,hy,h1,e⟩ | ⟨h1,_⟩
 ·have:y=x:=by
   obtain⟨i,hi,rfl⟩:=hO hx
   obtain⟨j,hj,rfl⟩:=hO hy
   have hp:=h.items
   rw[List.pairwise_iff_getElem] at hp
   rcases Nat.lt_trichotomy i j with h2 | h2 | h2
   ·have:=hp i j hi hj h2;rw[<- cS hi,<- cS hj] at this;omega
   ·rw[h2]
   ·have:=hp j i hj hi h2;rw[<- cS hi,<- cS hj] at this;omega
  rw[e,this]
 ·exact absurd rfl (h1 x hx)
theorem PN{s:aH}(h:StateOk s){x:bF}(hx:x∈s.1):ent s x.1=x.2:=by unfold ent;rw[LX h hx]
theorem FX{s:aH}(h:StateOk s){x:bF}(hx:x∈s.1):1<=x.2.1:=h.pos.item x hx
theorem nT{s:aH}(h:StateOk s)(i:Int):(1<=(ent s i).1/\(i,ent s i)∈s.1/\(bG s i).2=true/\eE (ent s i)=true)\/(ent s i=c9/\(bG s i).2=false):=by
 unfold ent
 rcases fK s i with ⟨x,hx,h1,e⟩ | ⟨h1,e⟩
 ·rw[e];subst h1;exact .inl ⟨FX h hx,hx,rfl,(h.item x hx).2.1⟩
 ·rw[e];exact .inr ⟨rfl,rfl⟩
theorem pH{s:aH}(h:StateOk s)(i:Int):Pt (ent s i) (flo s i):=by
 refine⟨(pA h i).1,?_⟩
 rcases nT h i with ⟨_,h2,_⟩ | ⟨h2,_⟩
 ·exact .inr (h.item _ h2).2.2
 ·exact .inl h2
theorem EC{α:Type}{k:α->Int}:∀ {a b:List α},a.Pairwise (λx y=>k x<k y)->b.Pairwise (λx y=>k x<k y)->(∀ x,x∈a↔x∈b)->a=b
 | [],[],_,_,_=>rfl
 | [],y::_,_,_,h=>by have:=(h y).2 (List.mem_cons_self ..);cases this
 | x::_,[],_,_,h=>by have:=(h x).1 (List.mem_cons_self ..);cases this
 | x::a,y::b,ha,hb,h=>by
  rw[List.pairwise_cons] at ha hb
  have e:x=y:=by
   rcases List.mem_cons.1 ((h x).1 (List.mem_cons_self ..))with e | e
   ·exact e
   ·rcases List.mem_cons.1 ((h y).2 (List.mem_cons_self ..))with e2 | e2
    ·exact e2.symm
    ·have h1:=hb.1 x e;have h2:=ha.1 y e2;omega
  subst e
  rw[EC ha.2 hb.2 λz=>⟨λhz=>?_,λhz=>?_⟩]
  ·rcases List.mem_cons.1 ((h z).1 (List.mem_cons_of_mem _ hz))with e | e
   ·have:=ha.1 z hz;rw[e] at this;omega
   ·exact e
  ·rcases List.mem_cons.1 ((h z).2 (List.mem_cons_of_mem _ hz))with e | e
   ·have:=hb.1 z hz;rw[e] at this;omega
   ·exact e
theorem nG{i:Int}(h:eO i=true):∃ k:Nat,k<5/\i=k:=by
 unfold eO at h;rw[aV] at h
 exact⟨i.toNat,by omega,by omega⟩
theorem M7{a b:aH}(ha:StateOk a)(hb:StateOk b)(h:∀ i:Nat,i<5->ent a i=ent b i/\flo a i=flo b i):a=b:=by
 have key:∀ {a b:aH},StateOk a->StateOk b->(∀ i:Nat,i<5->ent a i=ent b i/\flo a i=flo b i)->∀ x,x∈a.1->x∈b.1:=by
  intro a b ha hb h x hx
  obtain⟨k,hk,e⟩:=nG (ha.item x hx).1
  have h1:=(h k hk).1
  rw[<- e,PN ha hx] at h1
  rcases nT hb x.1 with ⟨_,h2,_⟩ | ⟨h2,_⟩
  ·rw[<- h1] at h2;exact h2
  ·have:=FX ha hx;rw[h1,h2] at this;have:(1:Int)<=0:=this;omega
 have keyF:∀ {a b:aH},StateOk a->StateOk b->(∀ i:Nat,i<5->ent a i=ent b i/\flo a i=flo b i)->∀ x,x∈a.2.1->x∈b.2.1:=by
  intro a b ha hb h x hx
  obtain⟨k,hk,e⟩:=nG (ha.floor x hx).1
  have h1:=(h k hk).2
  have h3:flo a x.1=x.2.1:=D5 ha hx
  have h4:=(ha.floor x hx).2
  rw[aV] at h4
  rw[<- e,h3] at h1
  rcases eQ b x.1 with ⟨y,hy,h5,h6⟩ | ⟨_,h6⟩
  ·have h6:flo b x.1=y.2.1:=h6
   have:y=x:=Prod.ext h5 (Prod.ext (by rw[<- h6,<- h1]) rfl)
   rw[<- this];exact hy
  ·have h6:flo b x.1=0:=h6
   omega
 have h':∀ i:Nat,i<5->ent b i=ent a i/\flo b i=flo a i:=λi hi=>⟨(h i hi).1.symm,(h i hi).2.symm⟩
 refine Prod.ext (EC (k:=λx:bF=>x.1) ha.items hb.items λx=>⟨key ha hb h x,key hb ha h' x⟩) (Prod.ext (EC (k:=λx:aU=>x.1) ha.floors hb.floors λx=>⟨keyF ha hb h x,keyF hb ha h' x⟩) rfl)
theorem nQ{a b:aH}(ha:StateOk a){i:Nat}(hi:i<5):flo (cL a b) i=max (flo a i) (flo b i):=by
 have hf:flr a b i=max (flo a i) (flo b i):=by unfold flr;rw[rY];rfl
 have h0:=D3 (b:=b) ha.pos (i:Int)
 unfold flo
 rcases eQ (cL a b) i with ⟨x,hx,h1,e⟩ | ⟨h1,e⟩
 ·rw[e]
  obtain⟨j,_,hx⟩:=iY hx
  obtain⟨rfl,_⟩:=oX hx
  have:(j:Int)=(i:Int):=h1
  show flr a b (j:Int)=_
  rw[this];exact hf
 ·rw[e]
  by_cases h2:flr a b i>0
  ·refine absurd rfl (h1 ((i:Int),flr a b i,()) ?_)
   exact List.mem_flatMap.2 ⟨i,List.mem_range.2 hi,by rw[oW h2];exact List.mem_singleton.2 rfl⟩
  ·show 0=max (flo a i) (flo b i)
   omega
theorem nS(a b:aH){i:Nat}(hi:i<5):ent (cL a b) i=nrm (mxE (ent a i) (ent b i)) (max (flo a i) (flo b i)):=by
 have hf:flr a b i=max (flo a i) (flo b i):=by unfold flr;rw[rY];rfl
 have hp:eB a b i=mxE (ent a i) (ent b i):=rfl
 rw[<- hf,<- hp]
 unfold ent nrm
 rcases fK (cL a b) i with ⟨x,hx,h1,e⟩ | ⟨h1,e⟩
 ·rw[e]
  obtain⟨j,_,hx⟩:=iY hx
  obtain⟨rfl,h2⟩:=vV hx
  have e2:(j:Int)=(i:Int):=h1
  rw[e2] at h2
  rw[if_pos h2];show eB a b (j:Int)=_;rw[e2]
 ·rw[e]
  by_cases h2:flr a b i<(eB a b i).1
  ·refine absurd rfl (h1 ((i:Int),eB a b i) ?_)
   exact List.mem_flatMap.2 ⟨i,List.mem_range.2 hi,by rw[gH rfl h2];exact List.mem_singleton.2 rfl⟩
  ·rw[if_neg h2]
-- the order of points
def LeP(e:bI)(f:Int)(e':bI)(f':Int):Prop:=f<=f'/\(e.1<=f'\/leE e e')
theorem LeP.refl(e:bI)(f:Int):LeP e f e f:=⟨Int.le_refl f,.inr (nL e)⟩
theorem LeP.trans{e f e' f' e'' f''}(h:LeP e f e' f')(h':LeP e' f' e'' f''):LeP e f e'' f'':=by
 refine⟨Int.le_trans h.1 h'.1,?_⟩
 rcases h.2 with h2 | h2
 ·exact .inl (Int.le_trans h2 h'.1)
 ·rcases h'.2 with h3 | h3
  ·exact .inl (Int.le_trans (mJ h2) h3)
  ·exact .inr (LQ h2 h3)
theorem TF{m:bI}{f:Int}(h:Pt m f):nrm m f=m:=by
 unfold nrm
 rcases h.up with e | e
 ·have:=h.nn;rw[e,if_neg (by rw[gG];omega)]
 ·rw[if_pos e]
theorem JS{e f e' f'}(h:Pt e f)(h':Pt e' f'):(nrm (mxE e e') (max f f')=e'/\max f f'=f')↔LeP e f e' f':=by
 constructor
 ·rintro ⟨h1,h2⟩
  refine⟨by omega,?_⟩
  rw[h2] at h1
  by_cases h3:e.1<=f'
  ·exact .inl h3
  ·have h4:=mJ (FM e e')
   unfold nrm at h1
   rw[if_pos (by omega)] at h1
   exact .inr (by have:=FM e e';rw[h1] at this;exact this)
 ·rintro ⟨h1,h2⟩
  have hm:max f f'=f':=by omega
  rw[hm]
  refine⟨?_,rfl⟩
  by_cases hl:leE e e'
  ·rw[OJ hl];exact TF h'
  ·have h3:e.1<=f':=by rcases h2 with h2 | h2;exact h2;exact absurd h2 hl
   have h4:leE e' e:=by rcases LS e e' with h4 | h4;exact absurd h4 hl;exact h4
   rw[JM h4]
   unfold nrm
   rw[if_neg (by omega)]
   rcases h'.up with h5 | h5
   ·exact h5.symm
   ·have:=mJ h4;omega
theorem H0{e f e' f'}:LeP e f (nrm (mxE e e') (max f f')) (max f f'):=by
 refine⟨by omega,?_⟩
 by_cases h:e.1<=max f f'
 ·exact .inl h
 ·have h4:=mJ (FM e e')
  unfold nrm;rw[if_pos (by omega)];exact .inr (FM e e')
theorem HZ{e f e' f'}:LeP e' f' (nrm (mxE e e') (max f f')) (max f f'):=by
 refine⟨by omega,?_⟩
 by_cases h:e'.1<=max f f'
 ·exact .inl h
 ·have h4:=mJ (OI e e')
  unfold nrm;rw[if_pos (by omega)];exact .inr (OI e e')
theorem RT{e f e' f' e'' f''}(h0:0<=f'')(h:LeP e f e'' f'')(h':LeP e' f' e'' f''):LeP (nrm (mxE e e') (max f f')) (max f f') e'' f'':=by
 refine⟨by have:=h.1;have:=h'.1;omega,?_⟩
 unfold nrm
 split
 ·rcases HM e e' with e1 | e1<;>rw[e1]
  ·exact h.2
  ·exact h'.2
 ·exact .inl h0
theorem DY{e f e' f'}(h:Pt e f)(h':Pt e' f')(h1:LeP e f e' f')(h2:LeP e' f' e f):e=e'/\f=f':=by
 have hf:f=f':=Int.le_antisymm h1.1 h2.1
 subst hf
 refine⟨?_,rfl⟩
 have hz:=h.nn
 rcases h.up with e0 | e0
 ·rcases h'.up with e1 | e1
  ·rw[e0,e1]
  ·rcases h2.2 with h3 | h3
   ·omega
   ·have:=mJ h3;rw[e0,gG] at this;omega
 ·rcases h1.2 with h3 | h3
  ·omega
  ·rcases h2.2 with h4 | h4
   ·have:=mJ h3;omega
   ·exact oT h3 h4
-- the order of states
structure Leq (a b:aH):Prop where
 oka:StateOk a
 okb:StateOk b
 le:∀ i:Nat,i<5->LeP (ent a i) (flo a i) (ent b i) (flo b i)
theorem nK{a b:aH}:jZ a b=true↔Leq a b:=by
 unfold jZ
 rw[Bool.and_eq_true,Bool.and_eq_true,mV,aS,aS]
 constructor
 ·rintro ⟨ha,hb,e⟩
  refine⟨ha,hb,λi hi=>(JS (pH ha _) (pH hb _)).1 ?_⟩
  rw[<- nS a b hi,<- nQ ha hi,e];exact⟨rfl,rfl⟩
 ·rintro ⟨ha,hb,h⟩
  refine⟨ha,hb,M7 (ha.join hb) hb λi hi=>?_⟩
  rw[nS a b hi,nQ ha hi]
  exact(JS (pH ha _) (pH hb _)).2 (h i hi)
theorem Leq.join{a b:aH}(h:Leq a b):cL a b=b:=by
 have:=nK.2 h
 unfold jZ at this
 rw[Bool.and_eq_true,Bool.and_eq_true,mV] at this
 exact this.2.2
theorem Leq.refl{a:aH}(h:StateOk a):Leq a a:=⟨h,h,λi _=>LeP.refl _ _⟩
theorem Leq.trans{a b c:aH}(h:Leq a b)(h':Leq b c):Leq a c:=⟨h.oka,h'.okb,λi hi=>(h.le i hi).trans (h'.le i hi)⟩
theorem Leq.antisymm{a b:aH}(h:Leq a b)(h':Leq b a):a=b:=M7 h.oka h.okb λi hi=>DY (pH h.oka _) (pH h.okb _) (h.le i hi) (h'.le i hi)
theorem Leq.left{a b:aH}(ha:StateOk a)(hb:StateOk b):Leq a (cL a b):=⟨ha,ha.join hb,λi hi=>by rw[nS a b hi,nQ ha hi];exact H0⟩
theorem Leq.right{a b:aH}(ha:StateOk a)(hb:StateOk b):Leq b (cL a b):=⟨hb,ha.join hb,λi hi=>by rw[nS a b hi,nQ ha hi];exact HZ⟩
theorem Leq.lub{a b c:aH}(h:Leq a c)(h':Leq b c):Leq (cL a b) c:=⟨h.oka.join h'.oka,h.okb,λi hi=>by rw[nS a b hi,nQ h.oka hi];exact RT (pH h.okb _).nn (h.le i hi) (h'.le i hi)⟩
theorem H4{a b:aH}(ha:StateOk a)(hb:StateOk b):cL a b=cL b a:=
 Leq.antisymm (Leq.lub (Leq.right hb ha) (Leq.left hb ha)) (Leq.lub (Leq.right ha hb) (Leq.left ha hb))
theorem Leq.joinR{a b:aH}(h:Leq a b):cL b a=b:=by rw[H4 h.okb h.oka];exact h.join
theorem Leq.mono{a a' b b':aH}(h:Leq a a')(h':Leq b b'):Leq (cL a b) (cL a' b'):=Leq.lub (h.trans (Leq.left h.okb h'.okb)) (h'.trans (Leq.right h.okb h'.okb))
theorem zQ:StateOk iC:=(aS _).1 yD
theorem Leq.nil{a:aH}(h:StateOk a):Leq iC a:=⟨zQ,h,λi _=>⟨(pH h _).nn,.inl (pH h _).nn⟩⟩
-- what is over at a point
def iT(e:bI)(f:Int):Int:=if 1<=e.1 then(if e.2.1=0 then e.1 - 1 else e.1)else f
theorem sZ{e:bI}(h:eE e=true):1<=e.1/\e.1<=1000/\(e.2.1=0\/e.2.1=1):=by
 unfold eE at h;simp only[Bool.and_eq_true,aV] at h;omega
theorem uL{s:aH}(h:StateOk s)(i:Int):gone s i=iT (ent s i) (flo s i):=by
 unfold gone iT
 rw[(aS s).2 h]
 rcases nT h i with ⟨h1,_,h3,h4⟩ | ⟨h2,h3⟩
 ·have h5:=sZ h4
  rw[h3,if_pos h1]
  show(bif(ent s i).2.1==0 then i64.wrap ((ent s i).1 - 1)else(ent s i).1)=_
  rcases h5.2.2 with e | e
  ·rw[e,if_pos rfl];show i64.wrap ((ent s i).1 - 1)=_;rw[IntKind.wrap_i64];omega
  ·rw[e,if_neg (by omega)];rfl
 ·rw[h3,h2,if_neg (by rw[gG];omega)];rfl
theorem F2{e:bI}{f:Int}(h:¬ 1<=e.1):iT e f=f:=by unfold iT;rw[if_neg h]
theorem F1{e:bI}{f:Int}(h:1<=e.1)(h':e.2.1=0):iT e f=e.1 - 1:=by unfold iT;rw[if_pos h,if_pos h']
theorem F3{e:bI}{f:Int}(h:1<=e.1)(h':e.2.1≠0):iT e f=e.1:=by unfold iT;rw[if_pos h,if_neg h']
theorem AB{e:bI}{f:Int}(h:1<=e.1):e.1 - 1<=iT e f/\iT e f<=e.1:=by
 by_cases h':e.2.1=0
 ·rw[F1 h h'];omega
 ·rw[F3 h h'];omega
theorem PB{e:bI}{f:Int}(h:Pt e f):f<=iT e f:=by
 by_cases h1:1<=e.1
 ·have h2:=AB (f:=f) h1
  rcases h.up with h3 | h3
  ·rw[h3,gG] at h1;omega
  ·omega
 ·rw[F2 h1];omega
theorem IC{e f e' f'}(h:Pt e f)(h':Pt e' f')(hr:e.1=e'.1->e.2.1≠0->e.2.1<=e'.2.1->e'.2.1≠0)(hl:LeP e f e' f'):iT e f<=iT e' f':=by
 have g:=PB h'
 by_cases h1:1<=e.1
 ·have g1:=AB (f:=f) h1
  rcases hl.2 with h2 | h2
  ·omega
  ·have h3:=mJ h2
   have h1':1<=e'.1:=by omega
   have g2:=AB (f:=f') h1'
   by_cases h4:e.1=e'.1
   ·by_cases h6:e.2.1=0
    ·rw[F1 h1 h6];omega
    ·rw[F3 h1' (hr h4 h6 (OZ h2 h4))];omega
   ·omega
 ·rw[F2 h1];have:=hl.1;omega
theorem Leq.gone{a b:aH}(h:Leq a b){i:Nat}(hi:i<5):gone a i<=Go.Abs.gone b i:=by
 rw[uL h.oka,uL h.okb]
 refine IC (pH h.oka _) (pH h.okb _) (λh1 h2 h3=>?_) (h.le i hi)
 rcases nT h.oka i with ⟨_,_,_,h4⟩ | ⟨h4,_⟩
 ·have:=sZ h4;omega
 ·rw[h4] at h2;exact absurd rfl h2
end Go.Abs
-- pruning, tables and taking done twice: plain laws
namespace Go.Abs
theorem N9(f:Int)(h:0<=f):nrm c9 f=c9:=by unfold nrm;rw[if_neg (by rw[gG];omega)]
theorem IJ(s:aH)(t:List bU){i:Nat}(hi:i<5):flo (fF s t) i=max 0 (min (f8 t i) (gone s i)):=by
 have hm:mxI false (f8 t i) (gone s i)=min (f8 t i) (gone s i):=FL _ _
 unfold flo
 rcases eQ (fF s t) i with ⟨x,hx,h1,e⟩ | ⟨h1,e⟩
 ·rw[e]
  obtain⟨j,_,hx⟩:=iY hx
  unfold iM at hx
  cases hd:decide (mxI false (f8 t j) (gone s j)>0)with
  | false=>rw[hd] at hx;cases hx
  | true=>
   rw[hd] at hx
   have e1:=List.mem_singleton.1 hx
   have h0:=of_decide_eq_true hd
   rw[e1] at h1 ⊢
   have h1:(j:Int)=(i:Int):=h1
   have h1:j=i:=by omega
   subst h1
   show mxI false (f8 t j) (gone s j)=_
   omega
 ·rw[e]
  by_cases h2:mxI false (f8 t i) (gone s i)>0
  ·refine absurd rfl (h1 ((i:Int),mxI false (f8 t i) (gone s i),()) ?_)
   exact List.mem_flatMap.2 ⟨i,List.mem_range.2 hi,by unfold iM;rw[decide_eq_true h2];exact List.mem_singleton.2 rfl⟩
  ·omega
theorem IO(s:aH)(t:List bU)(i:Int):ent (fF s t) i=c9:=by
 unfold ent
 rcases fK (fF s t) i with ⟨x,hx,h1,e⟩ | ⟨h1,e⟩
 ·cases hx
 ·rw[e]
theorem AE(s:aH)(t:List bU):StateOk (fF s t):=(aS _).1 (qF s t)
theorem t7{s:aH}(h:StateOk s)(t:List bU):prune s t=cL s (fF s t):=by unfold prune;rw[(aS s).2 h];rfl
theorem vK{s:aH}(h:StateOk s)(t:List bU):StateOk (prune s t):=(aS _).1 (zI ((aS s).2 h) t)
theorem L4{e:bI}{f g:Int}(h:Pt e f)(hr:1<=e.1->e.2.1=0\/e.2.1=1)(hg:g<=iT e f):iT (nrm (mxE e c9) (max f g)) (max f g)=iT e f:=by
 have h0:=h.nn
 rcases h.up with e0 | e1
 ·rw[e0,OJ (nL c9)]
  rw[N9 _ (by omega)]
  rw[e0] at hg
  unfold iT at hg ⊢
  rw[if_neg (by rw[gG];omega)] at hg
  rw[if_neg (by rw[gG];omega),if_neg (by rw[gG];omega)];omega
 ·rw[JM (MM (by omega))]
  unfold nrm
  have h1:1<=e.1:=by omega
  have hgo:iT e f=if e.2.1=0 then e.1 - 1 else e.1:=by unfold iT;rw[if_pos h1]
  by_cases hc:max f g<e.1
  ·rw[if_pos hc,hgo];unfold iT;rw[if_pos h1]
  ·rw[if_neg hc]
   rw[hgo] at hg ⊢
   unfold iT;rw[if_neg (by rw[gG];omega)]
   rcases hr h1 with h2 | h2
   ·rw[if_pos h2] at hg;omega
   ·rw[if_neg (by omega)] at hg ⊢;omega
theorem PM{s:aH}(h:StateOk s)(i:Int):1<=(ent s i).1->(ent s i).2.1=0\/(ent s i).2.1=1:=by
 intro h1
 rcases nT h i with ⟨_,_,_,h4⟩ | ⟨h4,_⟩
 ·exact(sZ h4).2.2
 ·rw[h4,gG] at h1;omega
theorem AA{s:aH}(h:StateOk s)(t:List bU){i:Nat}(hi:i<5):gone (prune s t) i=gone s i:=by
 have hg:=RY ((aS s).2 h) (i:Int)
 rw[uL (vK h t),t7 h,nS _ _ hi,nQ h hi,IO,IJ s t hi,uL h]
 rw[uL h] at hg
 exact L4 (pH h _) (PM h _) (by omega)
theorem tF{α:Type}{g g':Nat->List α}:∀ {n:Nat},(∀ i,i<n->g i=g' i)->bL n g=bL n g'
 | 0,_=>rfl
 | n+1,h=>by rw[c8,c8,tF (n:=n) λi hi=>h i (by omega),h n (by omega)]
theorem AF{s s':aH}(t:List bU)(h:∀ i:Nat,i<5->gone s i=gone s' i):fF s t=fF s' t:=by
 have:bL 5 (iM s t)=bL 5 (iM s' t):=tF λi hi=>by unfold iM;rw[h i hi]
 unfold fF;rw[this]
theorem BF{s s':aH}(h:∀ i:Nat,i<5->gone s i=gone s' i):c6 s=c6 s':=by
 unfold c6;exact tF λi hi=>by unfold kR;rw[h i hi]
theorem FD{s:aH}(h:StateOk s)(t:List bU):prune (prune s t) t=prune s t:=by
 have hp:=vK h t
 rw[t7 hp,AF (s:=prune s t) (s':=s) t λi hi=>AA h t hi]
 refine Leq.joinR ?_
 rw[t7 h];exact Leq.right h (AE s t)
theorem LE{s:aH}(h:StateOk s)(t:List bU):Leq s (prune s t):=by rw[t7 h];exact Leq.left h (AE s t)
theorem FS{s:aH}(h:StateOk s)(t:List bU):c6 (prune s t)=c6 s:=BF λi hi=>AA h t hi
-- rows that hold marks already
def P5(t:List bU)(k j:Nat):Int:=(gt (gt t k).1 j).1
def Cov(t:List bU)(k:Int)(ms:List aU):Prop:=∀ i,i<ms.length->(gt ms i).2.1<=P5 t k.toNat (gt ms i).1.toNat
def DoneT(t:List bU)(k:Int)(ms:List aU):Prop:=pF t k ms=true->Cov t k ms
theorem I7{t t':List bU}(hl:t.length=t'.length)(hr:∀ j,(gt t j).1.length=(gt t' j).1.length)(k:Int)(ms:List aU):pF t k ms=pF t' k ms:=by
 unfold pF;rw[hl,hr]
theorem GT(t:List bU)(k k':Int)(ms ms':List aU):pF (bQ t k' ms') k ms=pF t k ms:=
 I7 (dI t k' ms') (λj=>fD t k' ms' j) k ms
theorem GQ(r:bU)(ms:List aU):∀ i j,(gt r.1 j).1<=(gt (kL r ms i).1 j).1
 | 0,_=>Int.le_refl _
 | i+1,j=>by
  have ih:=GQ r ms i j
  show _<=(gt (List.set (kL r ms i).1 (gt ms i).1.toNat (mxI true (gt (kL r ms i).1 (gt ms i).1.toNat).1 (gt ms i).2.1,())) j).1
  rcases Nat.lt_or_ge (gt ms i).1.toNat (kL r ms i).1.length with h | h
  ·by_cases e:(gt ms i).1.toNat=j
   ·rw[e] at h ⊢
    rw[cD h]
    show _<=mxI true _ _
    rw[rY];omega
   ·rw[eD e];exact ih
  ·rw[List.set_eq_of_length_le h];exact ih
theorem wG(r:bU){ms:List aU}(h:∀ i,i<ms.length->(gt ms i).1.toNat<r.1.length):∀ n,n<=ms.length->∀ i,i<n->(gt ms i).2.1<=(gt (kL r ms n).1 (gt ms i).1.toNat).1
 | 0,_,_,hi=>by omega
 | n+1,hn,i,hi=>by
  show _<=(gt (List.set (kL r ms n).1 (gt ms n).1.toNat (mxI true (gt (kL r ms n).1 (gt ms n).1.toNat).1 (gt ms n).2.1,())) (gt ms i).1.toNat).1
  have hl:(gt ms n).1.toNat<(kL r ms n).1.length:=by rw[nX];exact h n (by omega)
  by_cases e:(gt ms n).1.toNat=(gt ms i).1.toNat
  ·rw[e] at hl ⊢
   rw[cD hl]
   show _<=mxI true _ _
   rw[rY]
   by_cases c:i=n
   ·subst c;omega
   ·have:=wG r h n (by omega) i (by omega);omega
  ·rw[eD e]
   exact wG r h n (by omega) i (by
    rcases Nat.lt_or_ge i n with c | c
    ·exact c
    ·exact absurd (by rw[show i=n by omega]) e)
theorem GP{r:bU}{ms:List aU}(h:∀ i,i<ms.length->(gt ms i).2.1<=(gt r.1 (gt ms i).1.toNat).1):∀ n,n<=ms.length->kL r ms n=r
 | 0,_=>rfl
 | n+1,hn=>by
  show DE (kL r ms n) (gt ms n)=r
  rw[GP h n (by omega)]
  have:=h n (by omega)
  unfold DE
  rw[rY,show max (gt r.1 (gt ms n).1.toNat).1 (gt ms n).2.1=(gt r.1 (gt ms n).1.toNat).1 by omega]
  show(r.1.set (gt ms n).1.toNat (gt r.1 (gt ms n).1.toNat),())=r
  rw[sK]
structure AddOk (t:List bU) (k:Int) (ms:List aU):Prop where
 kn:k.toNat<t.length
 mok:fM ms=true
 row:5<=(gt t k.toNat).1.length
theorem QA{t:List bU}{k:Int}{ms:List aU}(hl:t.length<=aW)(h:pF t k ms=true):AddOk t k ms:=by
 unfold pF at h
 simp only[Bool.and_eq_true,Bool.not_eq_true',decide_eq_false_iff_not] at h
 exact⟨(yG hl h.1).1,h.2.1,by omega⟩
theorem AddOk.ids{t:List bU}{k:Int}{ms:List aU}(h:AddOk t k ms):∀ i,i<ms.length->(gt ms i).1.toNat<(gt t k.toNat).1.length:=λi hi=>by
 have h1:=uG h.mok hi;have h2:=h.row;omega
theorem P9{t:List bU}(hl:t.length<=aW)(k:Int)(ms:List aU):DoneT (bQ t k ms) k ms:=by
 intro hb
 rw[GT] at hb
 have ho:=QA hl hb
 intro i hi
 unfold P5 bQ
 rw[hb]
 show _<=(gt (gt (cT t k.toNat ms ms.length) k.toNat).1 _).1
 unfold cT
 rw[cD ho.kn]
 exact wG _ ho.ids _ (Nat.le_refl _) i hi
theorem TY(t:List bU)(k:Int)(ms:List aU)(q j:Nat):P5 t q j<=P5 (bQ t k ms) q j:=by
 unfold P5 bQ
 cases pF t k ms with
 | false=>exact Int.le_refl _
 | true=>
  show _<=(gt (gt (cT t k.toNat ms ms.length) q).1 j).1
  unfold cT
  rcases Nat.lt_or_ge k.toNat t.length with h | h
  ·by_cases e:k.toNat=q
   ·subst e;rw[cD h];exact GQ _ _ _ _
   ·rw[eD e];exact Int.le_refl _
  ·rw[List.set_eq_of_length_le h];exact Int.le_refl _
theorem DoneT.add{t:List bU}{k:Int}{ms:List aU}(h:DoneT t k ms)(k':Int)(ms':List aU):DoneT (bQ t k' ms') k ms:=λhb i hi=>by
 rw[GT] at hb
 exact Int.le_trans (h hb i hi) (TY t k' ms' _ _)
theorem DoneT.eq{t:List bU}{k:Int}{ms:List aU}(h:DoneT t k ms):bQ t k ms=t:=by
 unfold bQ
 cases hb:pF t k ms with
 | false=>rfl
 | true=>
  show cT t k.toNat ms ms.length=t
  unfold cT
  rw[GP (h hb) _ (Nat.le_refl _)]
  exact sK
-- vectors that are raised already
theorem EI(v:List aO)(k n:Int)(j:Nat):(gt v j).1<=(gt (dD v k n) j).1:=by
 rcases pO v k n j with e | e<;>rw[e]<;>omega
-- rises that are up to date
def RisesUp(rs:List kM)(xs:List bF):Prop:=∀ i,i<xs.length->pX (gt rs (gt xs i).1.toNat) (gt xs i).2=false
theorem KU(clock:Int)(r:kM)(e:bI):pX (mW clock r e) e=false:=by
 unfold mW
 cases h:pX r e with
 | false=>exact h
 | true=>unfold pX;simp
theorem RisesUp.eq{clock:Int}{rs:List kM}{xs:List bF}(h:RisesUp rs xs):∀ n,n<=xs.length->dL clock rs xs n=rs
 | 0,_=>rfl
 | n+1,hn=>by
  show(dL clock rs xs n).set (gt xs n).1.toNat (mW clock (gt (dL clock rs xs n) (gt xs n).1.toNat) (gt xs n).2)=rs
  rw[h.eq n (by omega)]
  unfold mW
  rw[h n (by omega)]
  exact sK
theorem BR{clock:Int}{rs:List kM}{xs:List bF}(hl:∀ i,i<xs.length->(gt xs i).1.toNat<rs.length)(hd:∀ i j,i<j->j<xs.length->(gt xs i).1.toNat≠(gt xs j).1.toNat):
  ∀ n,n<=xs.length->∀ i,i<n->pX (gt (dL clock rs xs n) (gt xs i).1.toNat) (gt xs i).2=false
 | 0,_,_,hi=>by omega
 | n+1,hn,i,hi=>by
  show pX (gt ((dL clock rs xs n).set (gt xs n).1.toNat (mW clock (gt (dL clock rs xs n) (gt xs n).1.toNat) (gt xs n).2)) (gt xs i).1.toNat) (gt xs i).2=false
  by_cases c:i=n
  ·subst c
   rw[cD (by rw[gX];exact hl i (by omega))]
   exact KU _ _ _
  ·rw[eD (λe=>hd i n (by omega) (by omega) e.symm)]
   exact BR hl hd n (by omega) i (by omega)
theorem LW{s:aH}(h:StateOk s):(∀ i,i<s.1.length->(gt s.1 i).1.toNat<5)/\∀ i j,i<j->j<s.1.length->(gt s.1 i).1.toNat≠(gt s.1 j).1.toNat:=by
 refine⟨λi hi=>?_,λi j hij hj e=>?_⟩
 ·obtain⟨k,hk,e⟩:=nG (h.item _ (cN hi)).1;omega
 ·obtain⟨k,hk,e1⟩:=nG (h.item _ (cN (i:=i) (by omega))).1
  obtain⟨k',hk',e2⟩:=nG (h.item _ (cN hj)).1
  have hp:=h.items
  rw[List.pairwise_iff_getElem] at hp
  have:=hp i j (by omega) hj hij
  rw[<- cS (by omega),<- cS hj] at this
  omega
-- a node at rest
structure Rest (x:NodeT):Prop where
 ok:StateOk x.state
 seen:DoneT x.seen x.1 (c6 x.state)
 prune:prune x.state x.seen=x.state
 tree:cJ x.state=x.tree
 rises:RisesUp x.rises x.state.1
theorem Rest.take{x:NodeT}(h:Rest x){s:aH}(hs:Leq s x.state):jG x s=x:=by
 have e1:cL x.state s=x.state:=hs.joinR
 have e2:tkS x s=x.seen:=by unfold tkS;rw[e1];exact h.seen.eq
 have e3:tkP x s=x.state:=by unfold tkP;rw[e2,e1];exact h.prune
 have e4:tkR x s=x.rises:=by unfold tkR;rw[e3];exact h.rises.eq _ (Nat.le_refl _)
 unfold jG
 rw[e2,e4,e3,h.tree]
theorem G1{x:NodeT}(h:NodeOk x)(hl:x.seen.length<=aW){s:aH}(hs:StateOk s):Rest (jG x s):=by
 have hx:=(aS _).1 h.state
 have hj:=hx.join hs
 have e:(jG x s).state=tkP x s:=rfl
 have hm:c6 (tkP x s)=c6 (cL x.state s):=FS hj _
 have hp:StateOk (tkP x s):=vK hj _
 refine⟨hp,?_,?_,rfl,?_⟩
 ·show DoneT (tkS x s) x.1 (c6 (tkP x s))
  rw[hm];exact P9 hl _ _
 ·show prune (tkP x s) (tkS x s)=tkP x s
  exact FD hj _
 ·show RisesUp (tkR x s) (tkP x s).1
  have hi:=LW hp
  have hr:=h.rises
  rw[beq_iff_eq] at hr
  exact λi hi'=>BR (λi hi''=>by have:=hi.1 i hi'';omega) hi.2 _ (Nat.le_refl _) i hi'
theorem KH{x:NodeT}(h:NodeOk x){s:aH}(hs:StateOk s):Leq x.state (jG x s).state/\Leq s (jG x s).state:=by
 have hx:=(aS _).1 h.state
 have hj:=hx.join hs
 have hp:Leq (cL x.state s) (jG x s).state:=LE hj _
 exact⟨(Leq.left hx hs).trans hp,(Leq.right hx hs).trans hp⟩
-- hearing twice
structure Heard (x:NodeT) (m:MsgT):Prop where
 rest:Rest x
 acked:dD x.acked m.2.1 (mxI false (gt m.vec x.1.toNat).1 (cF x.log))=x.acked
 seen:DoneT x.seen m.2.1 m.marks
theorem Heard.eq{x:NodeT}{m:MsgT}(h:Heard x m):eH x m=x:=by
 have e:heard0 x m=x:=by
  unfold heard0
  rw[h.acked,h.seen.eq]
 unfold eH
 rw[e];exact h.rest.take (Leq.nil h.rest.ok)
theorem Heard.take{x:NodeT}{m:MsgT}(h:Heard x m)(ho:NodeOk x)(hl:x.seen.length<=aW){s:aH}(hs:StateOk s):Heard (jG x s) m:=
 ⟨G1 ho hl hs,h.acked,h.seen.add _ _⟩
theorem Heard.gotUp{x:NodeT}{m:MsgT}(h:Heard x m):Heard (gotUp x m) m:=⟨⟨h.rest.ok,h.rest.seen,h.rest.prune,h.rest.tree,h.rest.rises⟩,h.acked,h.seen⟩
end Go.Abs
-- receiving twice, and what receiving keeps: plain laws
namespace Go.Abs
-- what receiving keeps
def VLe(a b:List aO):Prop:=a.length=b.length/\∀ i,(gt a i).1<=(gt b i).1
theorem VLe.refl(a:List aO):VLe a a:=⟨rfl,λ_=>Int.le_refl _⟩
theorem VLe.trans{a b c:List aO}(h:VLe a b)(h':VLe b c):VLe a c:=⟨h.1.trans h'.1,λi=>Int.le_trans (h.2 i) (h'.2 i)⟩
theorem VLe.raise(v:List aO)(k n:Int):VLe v (dD v k n):=⟨(fY v k n).symm,EI v k n⟩
structure Kept (x y:NodeT):Prop where
 state:Leq x.state y.state
 got:VLe x.got y.got
 acked:VLe x.acked y.acked
theorem NodeOk.st{x:NodeT}(h:NodeOk x):StateOk x.state:=(aS _).1 h.state
theorem Kept.refl{x:NodeT}(h:NodeOk x):Kept x x:=⟨Leq.refl h.st,VLe.refl _,VLe.refl _⟩
theorem Kept.trans{x y z:NodeT}(h:Kept x y)(h':Kept y z):Kept x z:=⟨h.state.trans h'.state,h.got.trans h'.got,h.acked.trans h'.acked⟩
theorem Kept.take{x:NodeT}(h:NodeOk x){s:aH}(hs:StateOk s):Kept x (jG x s):=⟨(KH h hs).1,VLe.refl _,VLe.refl _⟩
theorem Kept.heard{x:NodeT}(h:NodeOk x)(m:MsgT):Kept x (eH x m):=
 Kept.trans (y:=heard0 x m) ⟨Leq.refl h.st,VLe.refl _,VLe.raise _ _ _⟩ (Kept.take (h.heard0 m) zQ)
theorem Kept.brought{x:NodeT}(h:NodeOk x){m:MsgT}(hp:aP m.part=true):Kept x (eC x m):=by
 have h1:=(Kept.heard h m).trans (Kept.take (h.heard m) ((aS _).1 hp))
 exact⟨h1.state,h1.got.trans (VLe.raise _ _ _),h1.acked⟩
theorem Kept.with{x:NodeT}(h:NodeOk x)(ss:List eF):Kept x (withS x ss):=⟨Leq.refl h.st,VLe.refl _,VLe.refl _⟩
-- what is answered
theorem NK{a b:List aO}(h:jJ a b=true):a=b:=by
 unfold jJ at h
 simp only[Bool.and_eq_true,beq_iff_eq,bN] at h
 exact IM (by omega) λi hi=>Prod.ext (by have:=h.2 i hi;simpa using this) rfl
theorem NodeOk.treeB{x:NodeT}(h:NodeOk x):treeB x.tree=true:=by
 have h1:=h.tree
 unfold tL at h1
 rw[Bool.and_eq_true] at h1
 have e1:x.tree.1=(cJ x.state).1:=NK h1.1
 have e2:x.tree.2.1=(cJ x.state).2.1:=eq_of_beq h1.2
 have e:x.tree=cJ x.state:=Prod.ext e1 (Prod.ext e2 rfl)
 rw[e];exact MV h.state
theorem GW{v:List aO}{n:Int}(h:eI v n=true):nF v 100000=true/\(v.length:Int)=n/\1<=n/\n<=5:=by
 unfold eI at h
 simp only[Bool.and_eq_true,beq_iff_eq,aV] at h
 exact⟨h.2.2,h.2.1,h.1⟩
def RQ(v:List aO):Bool:=bS v.length (FW v)
/-- A message that a right node writes is right. -/
theorem NodeOk.says {x:NodeT} (h:NodeOk x) {k to num:Int} {tree:mU} {leaves:List aO} {part:aH} (hk:0<=k/\k<=5) (ht:0<=to/\to<=4/\to≠x.1) (hn:inB num 0 100000=true)
  (hT:Go.Abs.treeB tree=true) (hl:RQ leaves=true) (hp:aP part=true):
  fA (k,x.1,to,num,cF x.log,tree.1,tree.2.1,x.got,leaves,part.1,part.2.1,c6 x.state,())=true:=by
 have hv:=GW h.got
 have hid:=h.id
 have hl2:=CB h.log
 rw[aV,IntKind.wrap_i64] at hid
 rw[aV] at hn
 unfold fA uD eO
 simp only[Bool.and_eq_true,aV,Bool.not_eq_true',beq_eq_false_iff_ne,decide_eq_true_eq]
 exact⟨⟨hk,by show 0<=x.1/\x.1<=4;omega,by show 0<=to/\to<=4;omega,λe=>ht.2.2 e.symm⟩,hl,hv.1,hn,hl2,hT,by show(x.got.length:Int)<=5;omega,hp,HP _⟩
structure Ans (x:NodeT) (m q:MsgT):Prop where
 ok:fA q=true
 frm:q.2.1=x.1
 to:q.2.2.1=m.2.1
 num:q.2.2.2.1=m.2.2.2.1
theorem RecOk.peer{x:NodeT}{m:MsgT}(h:RecOk x m):0<=m.2.1/\m.2.1<=4/\m.2.1≠x.1:=by
 have h1:=h.frm;have h2:=h.idn;exact⟨by omega,by omega,h.ne⟩
-- vectors compared
def atV(v:List aO)(i:Int):Int:=bif inB i 0 (i64.wrap ((v.length:Int) - 1))then(gt v i.toNat).1 else 0
def MT(a b:List aO):Bool:=bS a.length λi=> !decide ((gt a i).1>atV b (i:Int))
theorem VLe.leq{a b:List aO}(h:VLe a b)(hl:b.length<=aW):MT a b=true:=by
 unfold MT;rw[bN]
 intro i hi
 have h1:=h.1;have h2:=h.2 i
 unfold atV
 rw[aV.2 (by rw[IntKind.wrap_i64];unfold aW at hl;omega)]
 show(!decide ((gt a i).1>(gt b ((i:Int)).toNat).1))=true
 rw[Int.toNat_natCast,decide_eq_false (by omega)];rfl
end Go.Abs
namespace Go.Abs
open Go
-- a number read back: what lies at place i of b, five bytes at most
def xS(b:List aO)(i:Nat):Nat->Nat->Nat->Option (Nat×Nat)
 | 0,_,_=>none
 | n+1,k,acc=>
  if i+k<b.length then
   if 128<=(gt b (i+k)).1.toNat then xS b i n (k+1) (acc+(gt b (i+k)).1.toNat % 128*128 ^ k)
   else if 0<k/\(gt b (i+k)).1.toNat=0 then none
   else if acc+(gt b (i+k)).1.toNat*128 ^ k>2147483647 then none
   else some (acc+(gt b (i+k)).1.toNat*128 ^ k,i+k+1)
  else none
def AC(b:List aO)(i:Nat):Option (Nat×Nat):=xS b i 5 0 0
theorem IB(u v:List aO)(x:aO):gt (u++x::v) u.length=x:=by
 rw[cS (by simp)];simp
theorem PE(v:List aO):∀ (m n k acc i:Nat) (u:List aO),n<128 ^ (m+1)->(0<k->0<n)->acc+n*128 ^ k<=2147483647->i+k=u.length->
  xS (u++iB n++v) i (m+1) k acc=some (acc+n*128 ^ k,i+k+(iB n).length):=by
 intro m
 induction m with
 | zero=>
  intro n k acc i u h h0 hb hi
  have hn:n<128:=by simpa using h
  have e:iB n=[((n:Int),())]:=by unfold iB;rw[dif_pos hn]
  rw[e]
  have eg:gt (u++[((n:Int),())]++v) (i+k)=((n:Int),()):=by rw[hi,List.append_assoc];exact IB u v _
  unfold xS
  rw[eg,if_pos (by rw[hi];simp)]
  show(if 128<=((n:Int)).toNat then _ else _)=_
  rw[Int.toNat_natCast,if_neg (by omega),if_neg (by omega),if_neg (by omega)];rfl
 | succ m ih=>
  intro n k acc i u h h0 hb hi
  by_cases hn:n<128
  ·have e:iB n=[((n:Int),())]:=by unfold iB;rw[dif_pos hn]
   rw[e]
   have eg:gt (u++[((n:Int),())]++v) (i+k)=((n:Int),()):=by rw[hi,List.append_assoc];exact IB u v _
   unfold xS
   rw[eg,if_pos (by rw[hi];simp)]
   show(if 128<=((n:Int)).toNat then _ else _)=_
   rw[Int.toNat_natCast,if_neg (by omega),if_neg (by omega),if_neg (by omega)];rfl
  ·have e:iB n=(((n % 128+128:Nat):Int),())::iB (n / 128):=by conv=>lhs;unfold iB;rw[dif_neg hn]
   have hm:n % 128*128 ^ k+n / 128*128 ^ (k+1)=n*128 ^ k:=by
    have:=Nat.mod_add_div n 128
    rw[Nat.pow_succ,show n / 128*(128 ^ k*128)=128*(n / 128)*128 ^ k by ac_rfl,<- Nat.add_mul,this]
   have eb:u++iB n++v=(u++[(((n % 128+128:Nat):Int),())])++iB (n / 128)++v:=by rw[e];simp
   have eg:gt (u++iB n++v) (i+k)=(((n % 128+128:Nat):Int),()):=by rw[hi,e,List.append_assoc];exact IB u _ _
   have hl:i+k<(u++iB n++v).length:=by rw[e,hi];simp
   have ih':=ih (n / 128) (k+1) (acc+n % 128*128 ^ k) i (u++[(((n % 128+128:Nat):Int),())]) (by rw[Nat.pow_succ] at h;exact Nat.div_lt_of_lt_mul (by omega)) (λ_=>by omega) (by omega) (by rw[List.length_append,List.length_singleton];omega)
   rw[<- eb] at ih'
   unfold xS
   rw[if_pos hl,eg]
   show(if 128<=(((n % 128+128:Nat):Int)).toNat then _ else _)=_
   rw[Int.toNat_natCast,if_pos (by omega),show(n % 128+128) % 128=n % 128 by omega,ih',e]
   rw[List.length_cons]
   congr 2
   ·omega
   ·omega
theorem IE(u v:List aO){n:Nat}(h:n<=2147483647):AC (u++iB n++v) u.length=some (n,u.length+(iB n).length):=by
 have:=PE v 4 n 0 0 u.length u (by omega) (λh=>absurd h (by omega)) (by omega) rfl
 unfold AC;rw[this];simp
end Go.Abs
namespace Go.Abs
open Go
theorem RZ{b:List aO}{i:Nat}:∀ (n k acc:Nat) {x j:Nat},xS b i n k acc=some (x,j)->x<=2147483647/\j<=b.length/\i+k<j:=by
 intro n
 induction n with
 | zero=>intro k acc x j h;unfold xS at h;exact absurd h (by simp)
 | succ n ih=>
  intro k acc x j h
  unfold xS at h
  split at h
  ·split at h
   ·have:=ih _ _ h;omega
   ·split at h
    ·cases h
    ·split at h
     ·cases h
     ·cases h;omega
  ·cases h
theorem xT{n:Nat}(h:n<9223372036854775808):i64.wrap (n:Int)=(n:Int):=by
 rw[IntKind.wrap_i64];omega
theorem SF{k:Nat}(hk:k<5):i64.wrap ((7:Int)*(k:Int))=((7*k:Nat):Int):=by
 rw[IntKind.wrap_i64];omega
theorem QV{x k:Nat}(hx:x<128)(hk:k<5):EV i64 (x:Int) (i64.wrap ((7:Int)*(k:Int)))=((x*128 ^ k:Nat):Int):=by
 rw[SF hk]
 unfold EV
 rw[Int.toNat_natCast]
 have h:k=0\/k=1\/k=2\/k=3\/k=4:=by omega
 rcases h with rfl | rfl | rfl | rfl | rfl
 ·rw[show(2:Int) ^ (min (7*0) i64.bits)=1 by decide,IntKind.wrap_i64];omega
 ·rw[show(2:Int) ^ (min (7*1) i64.bits)=128 by decide,IntKind.wrap_i64];omega
 ·rw[show(2:Int) ^ (min (7*2) i64.bits)=16384 by decide,IntKind.wrap_i64];omega
 ·rw[show(2:Int) ^ (min (7*3) i64.bits)=2097152 by decide,IntKind.wrap_i64];omega
 ·rw[show(2:Int) ^ (min (7*4) i64.bits)=268435456 by decide,IntKind.wrap_i64];omega
theorem EL(x:Nat):((x:Int)).tmod 128=((x % 128:Nat):Int):=by
 rw[Int.tmod_eq_emod_of_nonneg (by omega)];omega
theorem UH{k:Nat}(hk:k<5):128 ^ k<=268435456:=by
 have h:k=0\/k=1\/k=2\/k=3\/k=4:=by omega
 rcases h with rfl | rfl | rfl | rfl | rfl<;>decide
theorem TC{a x k:Nat}(ha:a<128 ^ k)(hx:x<128)(hk:k<5):orI i64 (a:Int) ((x*128 ^ k:Nat):Int)=((a+x*128 ^ k:Nat):Int):=by
 have hp:=UH hk
 have hm:x*128 ^ k<=127*268435456:=Nat.mul_le_mul (by omega) hp
 unfold orI
 have e:(BitVec.ofInt i64.bits (a:Int)||| BitVec.ofInt i64.bits ((x*128 ^ k:Nat):Int)).toNat=a+x*128 ^ k:=by
  rw[BitVec.toNat_or,BitVec.ofInt_natCast,BitVec.ofInt_natCast,BitVec.toNat_ofNat,BitVec.toNat_ofNat]
  rw[Nat.mod_eq_of_lt (show a<2 ^ i64.bits by show a<2 ^ 64;omega),Nat.mod_eq_of_lt (show x*128 ^ k<2 ^ i64.bits by show x*128 ^ k<2 ^ 64;omega)]
  have h2:128 ^ k=2 ^ (7*k):=by rw[Nat.pow_mul]
  rw[h2] at ha ⊢
  rw[Nat.or_comm,Nat.mul_comm x,<- Nat.two_pow_add_eq_or_of_lt ha];omega
 rw[e];exact xT (by omega)
theorem TZ{a x k:Nat}(ha:a<128 ^ k):a+x % 128*128 ^ k<128 ^ (k+1):=by
 have h:x % 128<128:=Nat.mod_lt _ (by omega)
 have h2:x % 128*128 ^ k<=127*128 ^ k:=Nat.mul_le_mul (by omega) (Nat.le_refl _)
 rw[Nat.pow_succ];omega
end Go.Abs
/- Plain laws: worlds compared. -/
namespace Go.Abs
def cK(a b:List aO):Bool:=ByteArray.toList (dJ a)==ByteArray.toList (dJ b)
end Go.Abs
-- bytes read back: plain laws of readers
namespace Go.Abs
open Go
def B8(b:List aO):Prop:=∀ k,k<b.length->∃ y:Nat,(gt b k).1=(y:Int)/\y<=255
def ByL(b:List aO):Prop:=∀ x∈b,∃ y:Nat,x.1=(y:Int)/\y<=255
theorem ByL.b8{b:List aO}(h:ByL b):B8 b:=λk hk=>h _ (cN hk)
theorem B8.byL{b:List aO}(h:B8 b):ByL b:=λx hx=>by
 obtain⟨i,hi,e⟩:=hO hx
 rw[<- e];exact h i hi
theorem ByL.app{a b:List aO}(ha:ByL a)(hb:ByL b):ByL (a++b):=λx hx=>by
 rcases List.mem_append.1 hx with h | h
 ·exact ha x h
 ·exact hb x h
theorem ByL.flat{α:Type}{f:α->List aO}(h:∀ x,ByL (f x))(xs:List α):ByL (xs.flatMap f):=λx hx=>by
 obtain⟨a,_,ha⟩:=List.mem_flatMap.1 hx
 exact h a x ha
theorem ByL.sub{a b:List aO}(h:ByL b)(hs:∀ x∈a,x∈b):ByL a:=λx hx=>h x (hs x hx)
theorem RA(n:Nat):ByL (iB n):=by
 induction n using Nat.strongRecOn with
 | _ n ih=>
  unfold iB
  split
  ·rename_i h
   intro b hb
   rw[List.mem_singleton.1 hb];exact⟨n,rfl,by omega⟩
  ·rename_i h
   intro b hb
   rcases List.mem_cons.1 hb with e | e
   ·rw[e];exact⟨n % 128+128,rfl,by omega⟩
   ·exact ih (n / 128) (Nat.div_lt_self (by omega) (by omega)) b e
theorem dX(x:Int):ByL (aN x):=by
 unfold aN
 cases inB x 0 2147483647 with
 | false=>intro b hb;cases hb
 | true=>exact RA _
theorem MG(t:ByteArray):ByL (fS t):=λb hb=>by
 unfold fS eS at hb
 obtain⟨u,_,rfl⟩:=List.mem_map.1 hb
 have:=u.toNat_lt
 exact⟨u.toNat,rfl,by omega⟩
theorem HF(t:ByteArray):ByL (dT t):=(dX _).app (MG t)
theorem DZ(x:bF):ByL (bC x):=by
 unfold bC;exact(((((dX _).app (dX _)).app (dX _)).app (dX _)).app (dX _)).app (HF _)
theorem sB(f:aU):ByL (bE f):=(dX _).app (dX _)
theorem v8(s:aH):ByL (bT s):=(((dX _).app (ByL.flat DZ _)).app (dX _)).app (ByL.flat sB _)
theorem CQ{l:List aO}(h:ByL l):fS (dJ l)=l:=by
 show List.map (λb:UInt8=>(((b.toNat:Nat):Int),())) (List.map (λr:aO=>UInt8.ofNat (Int.toNat r.1)) l)=l
 rw[List.map_map]
 conv=>rhs;rw[<- List.map_id l]
 refine List.map_congr_left λx hx=>?_
 obtain⟨y,hy,hy2⟩:=h x hx
 obtain⟨z,u⟩:=x
 have hy:z=(y:Int):=hy
 subst hy
 show((((UInt8.ofNat ((y:Int)).toNat).toNat:Nat):Int),())=((y:Int),u)
 rw[Int.toNat_natCast,UInt8.toNat_ofNat',Nat.mod_eq_of_lt (by omega)]
theorem MF(s:ByteArray):dJ (fS s)=s:=by
 have e:List.map (λr:aO=>UInt8.ofNat (Int.toNat r.1)) (fS s)=s.data.toList:=by
  show List.map _ (List.map (λb:UInt8=>(((b.toNat:Nat):Int),())) s.data.toList)=_
  rw[List.map_map]
  conv=>rhs;rw[<- List.map_id s.data.toList]
  refine List.map_congr_left λx hx=>?_
  show UInt8.ofNat (((x.toNat:Nat):Int)).toNat=x
  rw[Int.toNat_natCast];simp
 exact congrArg (λl:List UInt8=>(⟨l.toArray⟩:ByteArray)) e
theorem mM{a b:List aO}(ha:ByL a)(hb:ByL b):cK a b=true↔a=b:=by
 unfold cK
 rw[beq_iff_eq,ByteArray.toList_eq,ByteArray.toList_eq]
 constructor
 ·intro h
  have:fS (dJ a)=fS (dJ b):=by unfold fS eS;rw[h]
  rwa [CQ ha,CQ hb] at this
 ·rintro rfl;rfl
-- readers
abbrev RdT:Type:=List aO×Int×Bool×Unit
def uM(b:List aO)(i:Int):Option (Nat×Nat):=bif decide (i<0)then none else AC b i.toNat
theorem D2{b:List aO}{i:Int}{x j:Nat}(h:uM b i=some (x,j)):x<=2147483647/\j<=b.length:=by
 unfold uM at h
 cases e:decide (i<0)with
 | true=>rw[e] at h;cases h
 | false=>
  rw[e] at h
  have h:xS b i.toNat 5 0 0=some (x,j):=h
  have:=RZ 5 0 0 h
  omega
-- a number read off a reader: (the number, the reader behind it)
def aR(r:RdT):Int×RdT:=bif r.2.2.1 then(0,(r.1,r.2.1,true,()))else
 match uM r.1 r.2.1 with
 | none=>(0,(r.1,r.2.1,true,()))
 | some (x,j)=>((x:Int),(r.1,(j:Int),r.2.2.1,()))
def nC(r:RdT)(m:Int):Int×RdT:=bif decide ((aR r).1>m)then(0,((aR r).2.1,(aR r).2.2.1,true,()))else aR r
def yO(b:List aO)(i:Int):Option (ByteArray×Nat):=match uM b i with
 | none=>none
 | some (x,j)=>if x>b.length - j then none else some (dJ ((b.take (j+x)).drop j),j+x)
def pG(r:RdT):ByteArray×RdT:=bif r.2.2.1 then(⟨#[]⟩,(r.1,r.2.1,true,()))else
 match yO r.1 r.2.1 with
 | none=>(⟨#[]⟩,(r.1,r.2.1,true,()))
 | some (s,j)=>(s,(r.1,(j:Int),r.2.2.1,()))
structure RdOk (r:RdT):Prop where
 b8:B8 r.1
 len:r.1.length<=aW
 lo:0<=r.2.1
 hi:r.2.1<=(r.1.length:Int)
theorem rC(r:RdT):(aR r).2.1=r.1/\(0<=r.2.1->r.2.1<=(r.1.length:Int)->0<=(aR r).2.2.1/\(aR r).2.2.1<=(r.1.length:Int))/\0<=(aR r).1/\(aR r).1<=2147483647/\(r.2.2.1=true->(aR r).2.2.2.1=true):=by
 obtain⟨b,i,bad,u⟩:=r
 cases bad with
 | true=>exact⟨rfl,λh1 h2=>⟨h1,h2⟩,Int.le_refl _,by show(0:Int)<=2147483647;omega,λ_=>rfl⟩
 | false=>
  have e:aR (b,i,false,u)=(match uM b i with | none=>((0:Int),((b,i,true,()):RdT)) | some (x,j)=>((x:Int),(b,(j:Int),false,()))):=rfl
  rw[e]
  cases h:uM b i with
  | none=>exact⟨rfl,λh1 h2=>⟨h1,h2⟩,Int.le_refl _,by show(0:Int)<=2147483647;omega,λ_=>rfl⟩
  | some q=>
   obtain⟨x,j⟩:=q
   have hb:=D2 h
   exact⟨rfl,λh1 h2=>⟨Int.natCast_nonneg _,by show(j:Int)<=(b.length:Int);omega⟩,Int.natCast_nonneg _,by show(x:Int)<=2147483647;omega,λh=>absurd (show false=true from h) (by decide)⟩
theorem jY(r:RdT):(aR r).2.1=r.1:=(rC r).1
theorem E7(r:RdT):0<=(aR r).1:=(rC r).2.2.1
theorem RdOk.num{r:RdT}(h:RdOk r):RdOk (aR r).2:=by
 have e:=rC r
 have p:=e.2.1 h.lo h.hi
 exact⟨by rw[e.1];exact h.b8,by rw[e.1];exact h.len,p.1,by rw[e.1];exact p.2⟩
theorem RdOk.cnt{r:RdT}(h:RdOk r)(m:Int):RdOk (nC r m).2:=by
 have hn:=h.num
 unfold nC
 cases decide ((aR r).1>m)with
 | true=>exact⟨hn.b8,hn.len,hn.lo,hn.hi⟩
 | false=>exact hn
theorem zG(r:RdT):(pG r).2.1=r.1/\(0<=r.2.1->r.2.1<=(r.1.length:Int)->0<=(pG r).2.2.1/\(pG r).2.2.1<=(r.1.length:Int)):=by
 obtain⟨b,i,bad,u⟩:=r
 cases bad with
 | true=>exact⟨rfl,λh1 h2=>⟨h1,h2⟩⟩
 | false=>
  have e:pG (b,i,false,u)=(match yO b i with | none=>((⟨#[]⟩:ByteArray),((b,i,true,()):RdT)) | some (s,j)=>(s,(b,(j:Int),false,()))):=rfl
  rw[e]
  cases h:yO b i with
  | none=>exact⟨rfl,λh1 h2=>⟨h1,h2⟩⟩
  | some q=>
   obtain⟨s,j⟩:=q
   refine⟨rfl,λh1 h2=>⟨Int.natCast_nonneg _,?_⟩⟩
   show(j:Int)<=(b.length:Int)
   unfold yO at h
   cases hg:uM b i with
   | none=>rw[hg] at h;cases h
   | some q=>
    obtain⟨x,k⟩:=q
    have hb:=D2 hg
    rw[hg] at h
    have h:(if x>b.length - k then none else some (dJ ((b.take (k+x)).drop k),k+x))=some (s,j):=h
    split at h
    ·cases h
    ·cases h;omega
theorem RdOk.txt{r:RdT}(h:RdOk r):RdOk (pG r).2:=by
 have e:=zG r
 have p:=e.2 h.lo h.hi
 exact⟨by rw[e.1];exact h.b8,by rw[e.1];exact h.len,p.1,by rw[e.1];exact p.2⟩
-- several numbers
def rdK(r:RdT):Nat->RdT
 | 0=>r
 | k+1=>(aR (rdK r k)).2
def rdV(r:RdT)(k:Nat):Int:=(aR (rdK r k)).1
theorem RdOk.k{r:RdT}(h:RdOk r):∀ k,RdOk (rdK r k)
 | 0=>h
 | k+1=>(RdOk.k h k).num
theorem tX(r:RdT):∀ k,(rdK r k).1=r.1
 | 0=>rfl
 | k+1=>(jY _).trans (tX r k)
-- the same reading done several times
def kV{α:Type}(f:RdT->α×RdT)(r:RdT):Nat->List α×RdT
 | 0=>([],r)
 | k+1=>((kV f r k).1++[(f (kV f r k).2).1],(f (kV f r k).2).2)
def N8(r:RdT):aO×RdT:=(((aR r).1,()),(aR r).2)
def qG(r:RdT):aU×RdT:=((rdV r 0,rdV r 1,()),rdK r 2)
def eK(r:RdT):bF×RdT:=((rdV r 0,rdV r 1,rdV r 2,rdV r 3,rdV r 4,(pG (rdK r 5)).1,()),(pG (rdK r 5)).2)
theorem RdOk.floor{r:RdT}(h:RdOk r):RdOk (qG r).2:=h.k 2
theorem RdOk.item{r:RdT}(h:RdOk r):RdOk (eK r).2:=(h.k 5).txt
theorem H5(r:RdT):(eK r).2.1=r.1:=(zG _).1.trans (tX r 5)
def HD(r:RdT)(m:Int):List aO×RdT:=kV N8 (nC r m).2 (nC r m).1.toNat
-- what is read back
def kX{α:Type}(f:RdT->α×RdT)(e:List aO)(x:α):Prop:=
 ∀ b u v:List aO,b=u++(e++v)->f (b,(u.length:Int),false,())=(x,(b,(((u++e).length:Nat):Int),false,()))
theorem F6{x:Int}(h:inB x 0 2147483647=true){b u v:List aO}(hb:b=u++(aN x++v)):uM b (u.length:Int)=some (x.toNat,(u++aN x).length):=by
 rw[aV] at h
 have e:aN x=iB x.toNat:=by unfold aN;rw[aV.2 h];rfl
 rw[e] at hb ⊢
 unfold uM
 rw[decide_eq_false (by omega)]
 show AC b (u.length:Int).toNat=_
 rw[Int.toNat_natCast,hb,<- List.append_assoc,IE u v (by omega),List.length_append]
theorem iA{x:Int}(h:inB x 0 2147483647=true):kX aR (aN x) x:=by
 intro b u v hb
 have g:=F6 h hb
 show(match uM b (u.length:Int)with | none=>((0:Int),((b,(u.length:Int),true,()):RdT)) | some (x,j)=>((x:Int),(b,(j:Int),false,())))=_
 rw[g]
 show(((x.toNat:Nat):Int),_)=(x,_)
 rw[aV] at h
 rw[show((x.toNat:Nat):Int)=x by omega]
theorem q9{x m:Int}(h:inB x 0 2147483647=true)(hm:x<=m):kX (λr=>nC r m) (aN x) x:=by
 intro b u v hb
 have:=iA h b u v hb
 show nC _ m=_
 unfold nC
 rw[this,decide_eq_false (show ¬ x>m by omega)];rfl
theorem QT{s:ByteArray}(h:ByteArray.size s<=2147483647):inB ((ByteArray.size s:Nat):Int) 0 2147483647=true:=by rw[aV];omega
theorem sD{α:Type}(a b c:List α):((a++(b++c)).take (a.length+b.length)).drop a.length=b:=by
 rw[<- List.append_assoc,List.take_left' (by rw[List.length_append]),List.drop_left' rfl]
theorem MU{s:ByteArray}(h:ByteArray.size s<=2147483647){b u v:List aO}(hb:b=u++(dT s++v)):yO b (u.length:Int)=some (s,(u++dT s).length):=by
 unfold dT at hb ⊢
 have g:=F6 (QT h) (b:=b) (u:=u) (v:=fS s++v) (by rw[hb];simp)
 unfold yO;rw[g]
 show(if((ByteArray.size s:Nat):Int).toNat>b.length - (u++aN ((ByteArray.size s:Nat):Int)).length then none else some (dJ ((b.take ((u++aN ((ByteArray.size s:Nat):Int)).length+((ByteArray.size s:Nat):Int).toNat)).drop (u++aN ((ByteArray.size s:Nat):Int)).length),(u++aN ((ByteArray.size s:Nat):Int)).length+((ByteArray.size s:Nat):Int).toNat))=_
 have e2:b=(u++aN ((ByteArray.size s:Nat):Int))++(fS s++v):=by rw[hb];simp
 have e3:b.length=(u++aN ((ByteArray.size s:Nat):Int)).length+(ByteArray.size s+v.length):=by rw[e2,List.length_append,List.length_append (as:=fS s),j0]
 rw[Int.toNat_natCast,if_neg (by omega)]
 have e4:=sD (α:=aO) (u++aN ((ByteArray.size s:Nat):Int)) (fS s) v
 rw[<- e2,j0] at e4
 refine(congrArg (λl:List aO=>some (dJ l,(u++aN ((ByteArray.size s:Nat):Int)).length+ByteArray.size s)) e4).trans ?_
 rw[MF,<- List.append_assoc,List.length_append (bs:=fS s),j0]
theorem KZ{s:ByteArray}(h:ByteArray.size s<=2147483647):kX pG (dT s) s:=by
 intro b u v hb
 have g:=MU h hb
 show(match yO b (u.length:Int)with | none=>((⟨#[]⟩:ByteArray),((b,(u.length:Int),true,()):RdT)) | some (s,j)=>(s,(b,(j:Int),false,())))=_
 rw[g]
def cX(ns:List aO):List aO:=ns.flatMap λx=>aN x.1
theorem nR(a b:List aO):cX (a++b)=cX a++cX b:=List.flatMap_append
theorem vX(x:aO):cX [x]=aN x.1:=by unfold cX;simp
theorem n7{α:Type}[Inhabited α]{xs:List α}{k:Nat}(h:k<xs.length):xs.take (k+1)=xs.take k++[gt xs k]:=by
 rw[<- List.take_append_getElem h,cS h]
theorem y4{α:Type}[Inhabited α]{xs:List α}{k:Nat}(h:k<xs.length):xs=xs.take k++(gt xs k::xs.drop (k+1)):=by
 rw[cS h,<- List.drop_eq_getElem_cons h,List.take_append_drop]
theorem nB{ns:List aO}(h:∀ x∈ns,inB x.1 0 2147483647=true){b u v:List aO}(hb:b=u++(cX ns++v)):
  ∀ k,k<=ns.length->rdK (b,(u.length:Int),false,()) k=(b,(((u++cX (ns.take k)).length:Nat):Int),false,())
 | 0,_=>by
  show(b,(u.length:Int),false,())=_
  rw[List.take_zero];unfold cX;rw[List.flatMap_nil,List.append_nil]
 | k+1,hk=>by
  have ih:=nB h hb k (by omega)
  have hg:b=(u++cX (ns.take k))++(aN (gt ns k).1++(cX (ns.drop (k+1))++v)):=by
   rw[hb];conv=>lhs;rw[y4 (show k<ns.length by omega)]
   rw[nR,show gt ns k::ns.drop (k+1)=[gt ns k]++ns.drop (k+1)from rfl,nR,vX];simp only[List.append_assoc]
  have:=iA (h _ (cN (show k<ns.length by omega))) b _ _ hg
  show(aR (rdK _ k)).2=_
  rw[ih,this,n7 (by omega),nR,vX,List.append_assoc]
theorem vH{ns:List aO}(h:∀ x∈ns,inB x.1 0 2147483647=true){b u v:List aO}(hb:b=u++(cX ns++v))(k:Nat)(hk:k<ns.length):
  rdV (b,(u.length:Int),false,()) k=(gt ns k).1:=by
 have ih:=nB h hb k (by omega)
 have hg:b=(u++cX (ns.take k))++(aN (gt ns k).1++(cX (ns.drop (k+1))++v)):=by
  rw[hb];conv=>lhs;rw[y4 hk]
  rw[nR,show gt ns k::ns.drop (k+1)=[gt ns k]++ns.drop (k+1)from rfl,nR,vX];simp only[List.append_assoc]
 have:=iA (h _ (cN hk)) b _ _ hg
 unfold rdV;rw[ih,this]
theorem zV{α:Type}[Inhabited α]{f:RdT->α×RdT}{e:α->List aO}{xs:List α}(h:∀ x∈xs,kX f (e x) x){b u v:List aO}(hb:b=u++(xs.flatMap e++v)):
  ∀ k,k<=xs.length->kV f (b,(u.length:Int),false,()) k=(xs.take k,(b,(((u++(xs.take k).flatMap e).length:Nat):Int),false,()))
 | 0,_=>by
  show(([]:List α),((b,(u.length:Int),false,()):RdT))=_
  rw[List.take_zero,List.flatMap_nil,List.append_nil]
 | k+1,hk=>by
  have ih:=zV h hb k (by omega)
  have hg:b=(u++(xs.take k).flatMap e)++(e (gt xs k)++((xs.drop (k+1)).flatMap e++v)):=by
   rw[hb];conv=>lhs;rw[y4 (show k<xs.length by omega)]
   rw[List.flatMap_append,List.flatMap_cons];simp only[List.append_assoc]
  have:=h _ (cN (show k<xs.length by omega)) b _ _ hg
  show((kV f _ k).1++[(f (kV f _ k).2).1],(f (kV f _ k).2).2)=_
  rw[ih,this,n7 (by omega),List.flatMap_append,List.append_assoc]
  simp
theorem oJ{α:Type}[Inhabited α]{f:RdT->α×RdT}{e:α->List aO}{xs:List α}(h:∀ x∈xs,kX f (e x) x):kX (λr=>kV f r xs.length) (xs.flatMap e) xs:=by
 intro b u v hb
 have:=zV h hb xs.length (Nat.le_refl _)
 rw[List.take_length] at this
 exact this
theorem HK{x:aO}(h:inB x.1 0 2147483647=true):kX N8 (aN x.1) x:=by
 intro b u v hb
 unfold N8;rw[iA h b u v hb]
theorem D4{f:aU}(h1:inB f.1 0 2147483647=true)(h2:inB f.2.1 0 2147483647=true):kX qG (bE f) f:=by
 intro b u v hb
 have e:bE f=cX [(f.1,()),(f.2.1,())]:=by unfold cX bE;simp
 rw[e] at hb ⊢
 have hn:∀ x∈[((f.1,()):aO),(f.2.1,())],inB x.1 0 2147483647=true:=by
  intro x hx;rcases List.mem_cons.1 hx with rfl | hx
  ·exact h1
  ·rw[List.mem_singleton.1 hx];exact h2
 have a:=vH hn hb
 have c:=nB hn hb 2 (Nat.le_refl _)
 unfold qG
 rw[a 0 (show 0<2 by omega),a 1 (show 1<2 by omega),c];rfl
theorem FY{x:bF}(h:∀ y∈five x,inB y.1 0 2147483647=true)(hs:ByteArray.size x.2.2.2.2.2.1<=2147483647):kX eK (bC x) x:=by
 intro b u v hb
 have e:bC x=cX (five x)++dT x.2.2.2.2.2.1:=by unfold cX bC five;simp
 rw[e] at hb ⊢
 have hb1:b=u++(cX (five x)++(dT x.2.2.2.2.2.1++v)):=by rw[hb];simp
 have hb2:b=(u++cX (five x))++(dT x.2.2.2.2.2.1++v):=by rw[hb];simp
 have a:=vH h hb1
 have c:=nB h hb1 5 (Nat.le_refl _)
 rw[show(five x).take 5=five x from rfl] at c
 have d:=KZ hs b _ _ hb2
 unfold eK
 rw[c,d,a 0 (show 0<5 by omega),a 1 (show 1<5 by omega),a 2 (show 2<5 by omega),a 3 (show 3<5 by omega),a 4 (show 4<5 by omega),List.append_assoc];rfl
end Go.Abs
