/- A by-value reading of the model, and its soundness, part 3. -/
import Derived.Test.YtohahjehdododaaGreatW2
import Derived.Lib.Bytealg
set_option linter.unusedVariables false
/- Plain laws: rows marked cell by cell; how many cells there are. -/
open Go.IntKind (i64)
namespace Go.Abs
def gN{α:Type}(c:α->Int):List α->Int
 | []=>0
 | x::xs=>c x+gN c xs
def PI{α:Type}(f:α->Int->α)(c:α->Int):List α->Int->List α
 | [],_=>[]
 | x::xs,n=>f x n::PI f c xs (n+c x)
mutual
/-- How many cells lie in a value. -/
def cnT:(k:Kd)->k.T->Int
 | .int _,_=>1
 | .bool,_=>1
 | .str,_=>1
 | .fn,_=>1
 | .sl ks,xs=>gN (cnR ks) xs
def cnR:(ks:List Kd)->Row ks->Int
 | [],_=>0
 | k::ks,r=>cnT k r.1+cnR ks r.2
end
/-- How many cells lie in a struct's slices. -/
def cnS:(ks:List Kd)->Row ks->Int
 | [],_=>0
 | .sl k::ks,r=>cnT (.sl k) r.1+cnS ks r.2
 | .int _::ks,r=>cnS ks r.2
 | .bool::ks,r=>cnS ks r.2
 | .str::ks,r=>cnS ks r.2
 | .fn::ks,r=>cnS ks r.2
mutual
/-- How much lies in a value: elements and texts' bytes. -/
def szT:(k:Kd)->k.T->Int
 | .int _,_=>0
 | .bool,_=>0
 | .str,s=>((ByteArray.size s:Nat):Int)
 | .fn,_=>0
 | .sl ks,xs=>((List.length xs:Nat):Int)+gN (szR ks) xs
def szR:(ks:List Kd)->Row ks->Int
 | [],_=>0
 | k::ks,r=>szT k r.1+szR ks r.2
end
mutual
def HH:Kd->Bool
 | .sl ks=>Nat.ble ks.length 64&&uC ks
 | .int _=>true
 | .bool=>true
 | .str=>true
 | .fn=>true
def uC:List Kd->Bool
 | []=>true
 | k::ks=>HH k&&uC ks
end
theorem qU{α:Type}{c:α->Int}:∀ (xs:List α),(∀ x∈xs,0<=c x)->0<=gN c xs
 | [],_=>Int.le_refl _
 | x::xs,h=>by
  have h1:=h x (List.mem_cons_self ..)
  have h2:=qU xs λy hy=>h y (List.mem_cons_of_mem _ hy)
  show 0<=c x+gN c xs
  omega
theorem I9{α:Type}{c d:α->Int}{A B:Int}:∀ (xs:List α),(∀ x∈xs,c x<=A+B*d x)->gN c xs<=A*(xs.length:Int)+B*gN d xs
 | [],_=>by show(0:Int)<=A*((0:Nat):Int)+B*0;omega
 | x::xs,h=>by
  have h1:=h x (List.mem_cons_self ..)
  have h2:=I9 (A:=A) (B:=B) (c:=c) (d:=d) xs λy hy=>h y (List.mem_cons_of_mem _ hy)
  show c x+gN c xs<=A*(((xs.length+1:Nat):Nat):Int)+B*(d x+gN d xs)
  rw[Int.mul_add,show(((xs.length+1:Nat):Nat):Int)=(xs.length:Int)+1 from by omega,Int.mul_add]
  omega
theorem pU{α:Type}{c:α->Int}:∀ (xs ys:List α),gN c (xs++ys)=gN c xs+gN c ys
 | [],ys=>by show gN c ys=0+gN c ys;omega
 | x::xs,ys=>by
  show c x+gN c (xs++ys)=c x+gN c xs+gN c ys
  rw[pU xs ys];omega
theorem yT{α:Type}{c:α->Int}{xs:List α}{i:Nat}(h:i<xs.length):gN c (xs.take (i+1))=gN c (xs.take i)+c xs[i]:=by
 rw[<- List.take_append_getElem h,pU]
 show gN c (xs.take i)+(c xs[i]+0)=_
 omega
mutual
theorem TT:∀ (k:Kd) (x:k.T),0<=cnT k x
 | .int _,_=>by show(0:Int)<=1;omega
 | .bool,_=>by show(0:Int)<=1;omega
 | .str,_=>by show(0:Int)<=1;omega
 | .fn,_=>by show(0:Int)<=1;omega
 | .sl ks,xs=>qU (c:=cnR ks) xs λx _=>PY ks x
theorem PY:∀ (ks:List Kd) (r:Row ks),0<=cnR ks r
 | [],_=>Int.le_refl _
 | k::ks,r=>by
  have h1:=TT k r.1
  have h2:=PY ks r.2
  show 0<=cnT k r.1+cnR ks r.2
  omega
end
mutual
theorem G0:∀ (k:Kd) (x:k.T),0<=szT k x
 | .int _,_=>Int.le_refl _
 | .bool,_=>Int.le_refl _
 | .str,s=>by show(0:Int)<=((ByteArray.size s:Nat):Int);omega
 | .fn,_=>Int.le_refl _
 | .sl ks,xs=>by
  have h:=qU (c:=szR ks) xs λx _=>yS ks x
  show(0:Int)<=((List.length xs:Nat):Int)+gN (szR ks) xs
  omega
theorem yS:∀ (ks:List Kd) (r:Row ks),0<=szR ks r
 | [],_=>Int.le_refl _
 | k::ks,r=>by
  have h1:=G0 k r.1
  have h2:=yS ks r.2
  show 0<=szT k r.1+szR ks r.2
  omega
end
mutual
theorem TU:∀ (k:Kd) (x:k.T),HH k=true->cnT k x<=(bif iQ k then 1 else 0)+64*szT k x
 | .int _,_,_=>by show(1:Int)<=1+64*0;omega
 | .bool,_,_=>by show(1:Int)<=1+64*0;omega
 | .str,s,_=>by show(1:Int)<=1+64*((ByteArray.size s:Nat):Int);omega
 | .fn,_,_=>by show(1:Int)<=1+64*0;omega
 | .sl ks,xs,h=>by
  have h':(Nat.ble ks.length 64&&uC ks)=true:=h
  rw[Bool.and_eq_true] at h'
  have hl:=Nat.le_of_ble_eq_true h'.1
  have:=I9 (c:=cnR ks) (d:=szR ks) (A:=64) (B:=64) xs λx _=>by
   have:=PZ ks x h'.2
   omega
  show gN (cnR ks) xs<=0+64*(((List.length xs:Nat):Int)+gN (szR ks) xs)
  rw[Int.mul_add];omega
theorem PZ:∀ (ks:List Kd) (r:Row ks),uC ks=true->cnR ks r<=(ks.length:Int)+64*szR ks r
 | [],_,_=>by show(0:Int)<=((0:Nat):Int)+64*0;omega
 | k::ks,r,h=>by
  have h':(HH k&&uC ks)=true:=h
  rw[Bool.and_eq_true] at h'
  have h1:=TU k r.1 h'.1
  have h2:=PZ ks r.2 h'.2
  have h3:=G0 k r.1
  show cnT k r.1+cnR ks r.2<=(((ks.length+1:Nat):Nat):Int)+64*(szT k r.1+szR ks r.2)
  have h4:cnT k r.1<=1+64*szT k r.1:=by
   cases hf:iQ k<;>rw[hf] at h1<;>simp only[cond_true,cond_false] at h1<;>omega
  rw[Int.mul_add]
  omega
end
/-- A number as a cell of a kind holds it. -/
def wr(j:IntKind)(n:Int):Int:=match j with
 | .i64=>n
 | j=>j.wrap n
section
variable (txt:Int->ByteArray)
mutual
/-- A value whose cells are numbered. -/
def mkT:(k:Kd)->k.T->Int->k.T
 | .int j,_,n=>wr j n
 | .bool,_,n=>n.tmod 3==0
 | .str,_,n=>txt n
 | .fn,x,_=>x
 | .sl ks,xs,n=>PI (mkR ks) (cnR ks) xs n
def mkR:(ks:List Kd)->Row ks->Int->Row ks
 | [],_,_=>()
 | k::ks,r,n=>(mkT k r.1 n,mkR ks r.2 (n+cnT k r.1))
end
end
section
variable {ι σ α:Type} {c:Nat->ι->(σ->Option Out)->σ->Option Out} {r:ι->Option Out}
theorem C7{d:α->Int}(hd:∀ x,0<=d x){xs:List α}{i:Nat}(h:i<xs.length):0<=gN d (xs.take i)/\gN d (xs.take i)+d xs[i]<=gN d xs:=by
 have e:gN d xs=gN d (xs.take (i+1))+gN d (xs.drop (i+1)):=by rw[<- pU,List.take_append_drop]
 rw[e,yT h]
 have h1:=qU (c:=d) (xs.take i) λx _=>hd x
 have h2:=qU (c:=d) (xs.drop (i+1)) λx _=>hd x
 omega
end
mutual
/-- No row in a value is too long. -/
def LmT:(k:Kd)->k.T->Prop
 | .int _,_=>True
 | .bool,_=>True
 | .str,_=>True
 | .fn,_=>True
 | .sl ks,xs=>List.length xs<=4611686018427387904/\∀ (i:Nat) (r:Row ks),at? xs i=some r->LmR ks r
def LmR:(ks:List Kd)->Row ks->Prop
 | [],_=>True
 | k::ks,r=>LmT k r.1/\LmR ks r.2
end
mutual
theorem TSm.lm:∀ (k:Kd) (x:k.T),TSm k x->LmT k x
 | .int _,_,_=>trivial
 | .bool,_,_=>trivial
 | .str,_,_=>trivial
 | .fn,_,_=>trivial
 | .sl ks,xs,h=>⟨Nat.le_trans h.1 (by decide),λi r hr=>Small.lm ks r (h.2 i r hr)⟩
theorem Small.lm:∀ (ks:List Kd) (r:Row ks),Small ks r->LmR ks r
 | [],_,_=>trivial
 | k::ks,r,h=>⟨TSm.lm k r.1 h.1,Small.lm ks r.2 h.2⟩
end
mutual
theorem S1:∀ (k:Kd) (x:k.T),szT k x<=4611686018427387904->LmT k x
 | .int _,_,_=>trivial
 | .bool,_,_=>trivial
 | .str,_,_=>trivial
 | .fn,_,_=>trivial
 | .sl ks,xs,h=>by
  have h':((List.length xs:Nat):Int)+gN (szR ks) xs<=4611686018427387904:=h
  have h2:=qU (c:=szR ks) xs λx _=>yS ks x
  refine⟨by omega,λi r hr=>M2 ks r ?_⟩
  obtain⟨hi,rfl⟩:=SC hr
  have:=(C7 (d:=szR ks) (λx=>yS ks x) hi)
  omega
theorem M2:∀ (ks:List Kd) (r:Row ks),szR ks r<=4611686018427387904->LmR ks r
 | [],_,_=>trivial
 | k::ks,r,h=>by
  have h':szT k r.1+szR ks r.2<=4611686018427387904:=h
  have h1:=G0 k r.1
  have h2:=yS ks r.2
  exact⟨S1 k r.1 (by omega),M2 ks r.2 (by omega)⟩
end
theorem jS{α:Type}{c:α->Int}{n:Int}(h:∀ x,c x=n):∀ xs:List α,gN c xs=n*(xs.length:Int)
 | []=>by show(0:Int)=n*((0:Nat):Int);simp
 | x::xs=>by
  show c x+gN c xs=n*(((xs.length+1:Nat):Nat):Int)
  rw[h,jS h xs,show(((xs.length+1:Nat):Nat):Int)=(xs.length:Int)+1 from by omega,Int.mul_add];omega
theorem JA{α ρ:Type}(x:α)(f:α->Option ρ):NH x f=f x:=rfl
theorem set_set{α:Type}(ys:List α)(i:Nat)(x y:α):(ys.set i x).set i y=ys.set i y:=by simp
end Go.Abs
/- Plain laws: logs, vectors, tables, exchanges, nodes and worlds. -/
namespace Go.Abs
theorem p6(s:ByteArray):(dT s).length<=5+ByteArray.size s:=by
 unfold dT;rw[List.length_append,jX]
 have:=bE ((ByteArray.size s:Nat):Int);omega
theorem iM{x:bM}(h:eE x.2=true):(bD x).length<=38:=by
 have h8:ByteArray.size x.2.2.2.2.2.1<=8:=by
  unfold eE at h;simp only[Bool.and_eq_true,decide_eq_true_eq] at h;omega
 have h1:=p6 x.2.2.2.2.2.1
 have h2:=bE x.1;have h3:=bE x.2.1;have h4:=bE x.2.2.1;have h5:=bE x.2.2.2.1;have h6:=bE x.2.2.2.2.1
 unfold bD;simp only[List.length_append];omega
theorem hI(f:aR):(bF f).length<=10:=by
 have h2:=bE f.1;have h3:=bE f.2.1
 unfold bF;simp only[List.length_append];omega
theorem StateOk.size{s:aH}(h:StateOk s){x:bM}(hx:x∈s.1):ByteArray.size x.2.2.2.2.2.1<=8:=by
 have h:=(h.item x hx).2.1
 unfold eE at h;simp only[Bool.and_eq_true,decide_eq_true_eq] at h;omega
def five(x:bM):List aO:=[(x.1,()),(x.2.1,()),(x.2.2.1,()),(x.2.2.2.1,()),(x.2.2.2.2.1,())]
theorem PM(x:bM)(acc:List aO):acc++bN 5 (λk=>aN (gt (five x) k).1)++dT x.2.2.2.2.2.1=acc++bD x:=by
 have:bN 5 (λk=>aN (gt (five x) k).1)=(five x).flatMap λy=>aN y.1:=cI (λy:aO=>aN y.1) (five x)
 rw[this];unfold five bD
 simp only[List.flatMap_cons,List.flatMap_nil,List.append_nil,List.append_assoc]
theorem t9{ps:List bT}{L:Nat}(h:∀ r∈ps,r.1.length<=L):∀ i,i<ps.length->(gt ps i).1.length<=L:=λi hi=>h _ (cO hi)
theorem nV{s:aH}(h:StateOk s):(bS s).length<=250:=by
 have h5:=h.len
 have h1:=bE (s.1.length:Int);have h2:=bE (s.2.1.length:Int)
 have h3:(s.1.flatMap bD).length<=s.1.length*38:=by
  rw[<- cI];exact dE λi hi=>iM (h.item _ (cO hi)).2.1
 have h4:(s.2.1.flatMap bF).length<=s.2.1.length*10:=by
  rw[<- cI];exact dE λi hi=>hI _
 unfold bS;simp only[List.length_append];omega
-- logs
def gL(l:gR):Bool:=inB l.1 1 8&&(!decide ((l.2.2.1.length:Int)>l.1)&&(inB l.2.1 0 100000&&(!decide (i64.wrap (l.2.1+(l.2.2.1.length:Int))>100000)&&bR l.2.2.1.length λi=>aP (gt l.2.2.1 i))))
def HS(l:gR):Bool:=(bR l.2.2.1.length λi=>aP (gt l.2.2.1 i))&&(inB l.1 1 8&&(decide ((l.2.2.1.length:Int)<=l.1)&&(inB l.2.1 0 100000&&decide (i64.wrap (l.2.1+(l.2.2.1.length:Int))<=100000))))
theorem vM(a b:Int):(!decide (a>b))=decide (a<=b):=by rw[Bool.eq_iff_iff];simp
theorem RV(l:gR):HS l=gL l:=by
 unfold gL HS;rw[vM,vM];ac_rfl
def cE(l:gR):Int:=bif gL l then i64.wrap (l.2.1+(l.2.2.1.length:Int))else 0
-- vectors and tables
def eH(v:List aO)(n:Int):Bool:=inB n 1 5&&((v.length:Int)==n&&bR v.length λi=>inB (gt v i).1 0 100000)
def GV(v:List aO)(n:Int):Bool:=(bR v.length λi=>inB (gt v i).1 0 100000)&&(inB n 1 5&&(v.length:Int)==n)
theorem QL(v:List aO)(n:Int):GV v n=eH v n:=by unfold eH GV;ac_rfl
def sV(r:bT):Bool:=(r.1.length:Int)==5&&bR r.1.length λi=>inB (gt r.1 i).1 0 1000
def yA(r:bT):Bool:=(bR r.1.length λi=>inB (gt r.1 i).1 0 1000)&&(r.1.length:Int)==5
def gJ(t:List bT)(n:Int):Bool:=inB n 1 5&&((t.length:Int)==n&&bR t.length λk=>sV (gt t k))
def yQ(t:List bT)(n:Int):Bool:=(bR t.length λk=>yA (gt t k))&&(inB n 1 5&&(t.length:Int)==n)
theorem KJ(t:List bT)(n:Int):yQ t n=gJ t n:=by
 unfold gJ yQ
 rw[pF (ok:=λk=>yA (gt t k)) (ok':=λk=>sV (gt t k)) λk _=>by unfold sV yA;ac_rfl]
 ac_rfl
def uF(v:List aO):Nat->Int
 | 0=>(gt v 0).1
 | j+1=>mxI true (uF v j) (gt v (j+1)).1
theorem FL(v:List aO)(m:Int):∀ j,uF v j<=m↔∀ i,i<=j->(gt v i).1<=m
 | 0=>⟨λh i hi=>by rw[show i=0 by omega];exact h,λh=>h 0 (Nat.le_refl 0)⟩
 | j+1=>by
  unfold uF mxI
  have ih:=FL v m j
  constructor
  ·intro h i hi
   simp only[if_true] at h
   rcases Nat.lt_or_ge j i with h1 | h1
   ·have:i=j+1:=by omega
    subst this;split at h<;>omega
   ·exact(ih.1 (by split at h<;>omega)) i h1
  ·intro h
   have h1:=ih.2 λi hi=>h i (by omega)
   have h2:=h (j+1) (Nat.le_refl _)
   simp only[if_true];split<;>assumption
def LM(v:List aO):Int:=uF v (v.length - 1)
theorem RU{v:List aO}(hv:0<v.length)(m:Int):(!decide (LM v>m))=bR v.length λi=> !decide ((gt v i).1>m):=by
 rw[Bool.eq_iff_iff,bL,vM,decide_eq_true_eq]
 unfold LM
 rw[FL]
 simp only[vM,decide_eq_true_eq]
 exact⟨λh i hi=>h i (by omega),λh i hi=>h i (by omega)⟩
-- exchanges
def dN(v:List eF)(k:Nat)(peer:Int)(inn:Bool):Bool:=(gt v k).1==peer&&uW (gt v k).2.2.1 inn
def B0(v:List eF)(i:Nat):Bool:=bR i λk=> !dN v k (gt v i).1 (gt v i).2.2.1
def c8(v:List eF)(peer:Int)(inn:Bool):Int:=match (List.range v.length).find? (λk=>dN v k peer inn)with
 | some k=>(k:Int)
 | none=> -1
theorem P6{a b:Bool}:uW a b=true↔a=b:=by cases a<;>cases b<;>decide
theorem EQ{v:List eF}{i:Nat}(hi:i<v.length):(c8 v (gt v i).1 (gt v i).2.2.1==(i:Int))=B0 v i:=by
 have hs:dN v i (gt v i).1 (gt v i).2.2.1=true:=by unfold dN;rw[Bool.and_eq_true];exact⟨by simp,MM _⟩
 rw[Bool.eq_iff_iff]
 unfold c8 B0
 rw[bL]
 cases h:(List.range v.length).find? (λk=>dN v k (gt v i).1 (gt v i).2.2.1)with
 | none=>
  rw[List.find?_eq_none] at h
  exact absurd hs (h i (List.mem_range.2 hi))
 | some k=>
  rw[List.find?_range_eq_some] at h
  obtain⟨h1,h2,h3⟩:=h
  constructor
  ·intro e j hj
   have e':(k:Int)=(i:Int):=by simpa using e
   have:k=i:=by omega
   subst this;exact h3 j hj
  ·intro e
   rcases Nat.lt_trichotomy k i with h4 | h4 | h4
   ·have:=e k h4;rw[h1] at this;cases this
   ·subst h4;simp
   ·have:=h3 i h4;rw[hs] at this;cases this
def nB(n:NodeT)(v:List eF)(i:Nat):Bool:=inB (gt v i).1 0 (i64.wrap (n.2.1 - 1))&&(!((gt v i).1==n.1)&&(inB (gt v i).2.1 0 100000&&(inB (gt v i).2.2.2.1 0 n.2.2.2.2.2.2.2.2.2.2.2.2.2.2.2.1&&B0 v i)))
abbrev NodeT.sess(n:NodeT):List eF:=n.2.2.2.2.2.2.2.2.2.2.2.2.2.2.1
abbrev NodeT.slots(n:NodeT):Int:=n.2.2.2.2.2.2.2.2.2.2.2.2.2.1
abbrev NodeT.rises(n:NodeT):List kI:=n.2.2.2.2.2.2.2.2.2.2.2.2.2.2.2.2.2.2.1
abbrev NodeT.clock(n:NodeT):Int:=n.2.2.2.2.2.2.2.2.2.2.2.2.2.2.2.2.2.1
abbrev NodeT.limit(n:NodeT):Int:=n.2.2.2.2.2.2.2.2.2.2.2.2.2.2.2.2.1
abbrev NodeT.wait(n:NodeT):Int:=n.2.2.2.2.2.2.2.2.2.2.2.2.2.2.2.1
abbrev NodeT.num(n:NodeT):Int:=n.2.2.2.2.2.2.2.2.2.2.2.2.1
abbrev NodeT.seen(n:NodeT):List bT:=n.2.2.2.2.2.2.2.2.2.2.2.1
abbrev NodeT.acked(n:NodeT):List aO:=n.2.2.2.2.2.2.2.2.2.2.1
abbrev NodeT.got(n:NodeT):List aO:=n.2.2.2.2.2.2.2.2.2.1
abbrev NodeT.log(n:NodeT):gR:=(n.2.2.2.2.2.2.1,n.2.2.2.2.2.2.2.1,n.2.2.2.2.2.2.2.2.1,())
abbrev NodeT.tree(n:NodeT):mU:=(n.2.2.2.2.1,n.2.2.2.2.2.1,())
abbrev NodeT.state(n:NodeT):aH:=(n.2.2.1,n.2.2.2.1,())
def lL(n:NodeT):Bool:= !decide ((n.sess.length:Int)>n.slots)&&bR n.sess.length (nB n n.sess)
def mH(n:NodeT)(x:Int):Bool:=inB x 0 (i64.wrap (n.2.1 - 1))&&x != n.1
def qV(n:NodeT)(v:List eF)(i:Nat):Bool:=mH n (gt v i).1&&(inB (gt v i).2.1 0 100000&&(inB (gt v i).2.2.2.1 0 n.wait&&c8 v (gt v i).1 (gt v i).2.2.1==(i:Int)))
def tQ(n:NodeT):Bool:=bR n.sess.length (qV n n.sess)&&(inB n.slots 1 4&&decide ((n.sess.length:Int)<=n.slots))
theorem NJ(n:NodeT):tQ n=(inB n.slots 1 4&&lL n):=by
 unfold lL tQ
 rw[vM,pF (ok:=qV n n.sess) (ok':=nB n n.sess) λi hi=>?_]
 ·ac_rfl
 ·unfold nB qV mH
  rw[EQ hi,show((gt n.sess i).1 != n.1)= !((gt n.sess i).1==n.1)from rfl,Bool.and_assoc]
def kA(n:NodeT)(i:Nat):Bool:=inB (gt n.rises i).1 0 1000&&(inB (gt n.rises i).2.1 0 100000&&inB (gt n.rises i).2.2.1 0 n.clock)
def tU(n:NodeT):Bool:=bR n.rises.length (kA n)&&(n.rises.length:Int)==5
def tL(n:NodeT):Bool:=jE n.tree.1 (cJ n.state).1&&n.tree.2.1==(cJ n.state).2.1
def lR(n:NodeT):Bool:=inB n.num 0 100000&&(inB n.clock 0 100000&&(inB n.slots 1 4&&(inB n.wait 1 20&&(inB n.limit 1 50&&((n.rises.length:Int)==5&&(bR n.rises.length (kA n)&&lL n))))))
def A5(n:NodeT):Bool:=bR n.acked.length λi=> !decide ((gt n.acked i).1>cE n.log)
def dY(n:NodeT):Bool:=inB n.2.1 1 5&&(inB n.1 0 (i64.wrap (n.2.1 - 1))&&(aP n.state&&(tL n&&(gL n.log&&(eH n.got n.2.1&&(eH n.acked n.2.1&&
 ((gt n.got n.1.toNat).1==cE n.log&&(gJ n.seen n.2.1&&(A5 n&&lR n)))))))))
def xX(n:NodeT):Bool:=inB n.2.1 1 5&&(inB n.1 0 (i64.wrap (n.2.1 - 1))&&(aP n.state&&(tL n&&(gL n.log&&(eH n.got n.2.1&&(eH n.acked n.2.1&&
 ((gt n.got n.1.toNat).1==cE n.log&&(!decide (LM n.acked>cE n.log)&&(gJ n.seen n.2.1&&(inB n.num 0 100000&&(inB n.clock 0 100000&&(inB n.wait 1 20&&(inB n.limit 1 50&&(tQ n&&tU n))))))))))))))
theorem BH{v:List aO}{n:Int}(h:eH v n=true):0<v.length:=by
 unfold eH at h;simp only[Bool.and_eq_true,aV,beq_iff_eq] at h;omega
theorem OD(n:NodeT):xX n=dY n:=by
 unfold xX dY
 cases h:eH n.acked n.2.1 with
 | false=>simp only[Bool.false_and,Bool.and_false]
 | true=>
  rw[RU (BH h),NJ]
  unfold tU lR A5
  ac_rfl
-- worlds
def lT(w:a9)(i:Nat):Bool:=dY (gt w.1 i)&&((gt w.1 i).2.1==(w.1.length:Int)&&(gt w.1 i).1==(i:Int))
def gT(w:a9)(i:Nat):Bool:=inB (gt w.2.2.1 i).1 0 (i64.wrap ((w.1.length:Int) - 1))&&aP (gt w.2.2.1 i).2
def bJ(w:a9):Bool:=inB (w.1.length:Int) 1 5&&(!decide ((w.2.1.length:Int)>12)&&(!decide ((w.2.2.1.length:Int)>40)&&
 (bR w.1.length (lT w)&&(bR w.2.1.length (λi=>inB (gt w.2.1 i).1 0 (i64.wrap ((w.1.length:Int) - 1)))&&bR w.2.2.1.length (gT w)))))
-- sizes that a machine holds
structure SzS (s:aH):Prop where
 a:s.1.length<=aW
 b:s.2.1.length<=aW
structure SzN (n:NodeT):Prop where
 state:SzS n.state
 leaves:n.tree.1.length<=aW
 list:n.log.2.2.1.length<=aW
 logs:∀ i,i<n.log.2.2.1.length->SzS (gt n.log.2.2.1 i)
 got:n.got.length<=aW
 acked:n.acked.length<=aW
 seen:n.seen.length<=aW
 lines:∀ i,i<n.seen.length->(gt n.seen i).1.length<=aW
 sess:n.sess.length<=aW
 rises:n.rises.length<=aW
structure SzW (w:a9):Prop where
 nodes:w.1.length<=aW
 node:∀ i,i<w.1.length->SzN (gt w.1 i)
 net:w.2.1.length<=aW
 said:w.2.2.1.length<=aW
 part:∀ i,i<w.2.2.1.length->SzS (gt w.2.2.1 i).2
end Go.Abs
/- Small rows have small sizes. -/
namespace Go.Abs
end Go.Abs
/- Plain laws: views, sides, what is cleared, what is the same here. -/
namespace Go.Abs
def rR(s:aH):List bM:=bif aP s then s.1.filter (λx=>x.2.2.1==0)else[]
theorem KB{s:aH}(h:SzS s):(rR s).length<=aW:=by
 unfold rR
 cases aP s with
 | false=>exact Nat.zero_le _
 | true=>exact Nat.le_trans (List.length_filter_le _ _) h.a
def qK(x y:bM):Bool:=kO x.1 y.1&&((kO x.2.1 y.2.1&&(kO x.2.2.1 y.2.2.1&&(kO x.2.2.2.1 y.2.2.2.1&&(kO x.2.2.2.2.1 y.2.2.2.2.1&&(ML x.2.2.2.2.2.1 y.2.2.2.2.2.1&&true)))))&&true)
def j6(x y:aR):Bool:=kO x.1 y.1&&(kO x.2.1 y.2.1&&true)
def jU(a b:List bM):Bool:=(a.length:Int)==(b.length:Int)&&bR a.length λi=>qK (gt a i) (gt b i)
def gC(a b:aH):Bool:=(a.1.length:Int)==(b.1.length:Int)&&((a.2.1.length:Int)==(b.2.1.length:Int)&&(bR a.1.length (λi=>qK (gt a.1 i) (gt b.1 i))&&bR a.2.1.length λi=>j6 (gt a.2.1 i) (gt b.2.1 i)))
theorem MG{a b:ByteArray}:(a==b)=true↔a=b:=by
 cases a with
 | mk x=>cases b with
  | mk y=>
   show ByteArray.beq ⟨x⟩ ⟨y⟩=true↔_
   simp[ByteArray.beq]
theorem AK{x y:bM}:qK x y=true↔x=y:=by
 obtain⟨a,b,c,d,e,s,u⟩:=x
 obtain⟨a',b',c',d',e',s',u'⟩:=y
 unfold qK kO ML
 simp only[Bool.and_eq_true,beq_iff_eq,MG,Prod.mk.injEq,and_true]
theorem xE{x y:aR}:j6 x y=true↔x=y:=by
 obtain⟨a,b,u⟩:=x
 obtain⟨a',b',u'⟩:=y
 unfold j6 kO
 simp only[Bool.and_eq_true,beq_iff_eq,Prod.mk.injEq,and_true]
theorem IJ{α:Type}[Inhabited α]{a b:List α}(hl:a.length=b.length)(h:∀ i,i<a.length->gt a i=gt b i):a=b:=
 List.ext_getElem hl λi h1 h2=>by have:=h i h1;rw[cY h1,cY h2] at this;exact this
theorem mV{a b:aH}:gC a b=true↔a=b:=by
 obtain⟨a1,a2,u⟩:=a
 obtain⟨b1,b2,u'⟩:=b
 unfold gC
 simp only[Bool.and_eq_true,bL,beq_iff_eq]
 constructor
 ·rintro ⟨h1,h2,h3,h4⟩
  have e1:a1=b1:=IJ (by omega) λi hi=>AK.1 (h3 i hi)
  have e2:a2=b2:=IJ (by omega) λi hi=>xE.1 (h4 i hi)
  rw[e1,e2]
 ·intro h
  cases h
  exact⟨rfl,rfl,λi _=>AK.2 rfl,λi _=>xE.2 rfl⟩
theorem CX{w:a9}(h:bJ w=true){i:Nat}(hi:i<w.1.length):dY (gt w.1 i)=true:=by
 unfold bJ lT at h;simp only[Bool.and_eq_true,bL] at h
 exact(h.2.2.2.1 i hi).1
end Go.Abs
/- Plain laws: entries compared, states joined. -/
namespace Go.Abs
theorem bA{β:Type}{o:Option Out}{A B:List Kd}{r:Row A}{s:Row B}{f:Rows [A,B]×Rows []->Option β}(h:o=some ⟨[⟨A,r⟩,⟨B,s⟩],[]⟩):(o.bind (dQ [A,B] [])).bind f=f ((r,s,()),()):=by
 rw[h];exact UT r s f
def c6:bH:=(0,0,0,0,⟨#[]⟩,())
def bG(s:aH)(id:Int):bH×Bool:=match (List.range s.1.length).find? (λi=>(gt s.1 i).1==id)with
 | some i=>((gt s.1 i).2,true)
 | none=>(c6,false)
theorem fE(s:aH)(id:Int):(∃ x∈s.1,x.1=id/\bG s id=(x.2,true))\/((∀ x∈s.1,x.1≠id)/\bG s id=(c6,false)):=by
 unfold bG
 cases h:(List.range s.1.length).find? (λi=>(gt s.1 i).1==id)with
 | none=>
  rw[List.find?_eq_none] at h
  refine .inr ⟨λx hx=>?_,rfl⟩
  obtain⟨i,hi,rfl⟩:=gZ hx
  have:=h i (List.mem_range.2 hi)
  simpa using this
 | some i=>
  rw[List.find?_range_eq_some] at h
  exact .inl ⟨_,cO (List.mem_range.1 h.2.1),eq_of_beq h.1,rfl⟩
theorem eO(s:aH)(id:Int):(∃ x∈s.2.1,x.1=id/\cL s.2.1 id=x.2.1)\/((∀ x∈s.2.1,x.1≠id)/\cL s.2.1 id=0):=by
 unfold cL
 cases h:(List.range s.2.1.length).find? (λi=>(gt s.2.1 i).1==id)with
 | none=>
  rw[List.find?_eq_none] at h
  refine .inr ⟨λx hx=>?_,rfl⟩
  obtain⟨i,hi,rfl⟩:=gZ hx
  have:=h i (List.mem_range.2 hi)
  simpa using this
 | some i=>
  rw[List.find?_range_eq_some] at h
  exact .inl ⟨_,cO (List.mem_range.1 h.2.1),eq_of_beq h.1,rfl⟩
-- entries compared
def l2(a b:Int):Int:=bif decide (a<b)then -1 else bif decide (a>b)then 1 else 0
def uR(s t:ByteArray):Int:=Lib.compareBytes s.data.toList t.data.toList
def orN(ls:List aO):Int:=match (List.range ls.length).find? (λi=>(gt ls i).1 != 0)with
 | some i=>(gt ls i).1
 | none=>0
def gI(a b:bH):Int:=if l2 a.1 b.1≠0 then l2 a.1 b.1 else if l2 a.2.1 b.2.1≠0 then l2 a.2.1 b.2.1 else if l2 a.2.2.1 b.2.2.1≠0 then l2 a.2.2.1 b.2.2.1 else if l2 a.2.2.2.1 b.2.2.2.1≠0 then l2 a.2.2.2.1 b.2.2.2.1 else uR a.2.2.2.2.1 b.2.2.2.2.1
theorem FE(ls:List aO):orN ls=(match ls.find? (λx:aO=>x.1 != 0)with | some x=>x.1 | none=>0):=by
 have h:=pD (λx:aO=>x.1 != 0) (λx:aO=>x.1) 0 ls
 unfold orN
 cases h1:(List.range ls.length).find? (λi=>(gt ls i).1 != 0)<;>cases h2:ls.find? (λx:aO=>x.1 != 0)<;>simp only[h1,h2] at h ⊢<;>exact h
theorem p8(x:Int)(ls:List aO):orN ((x,())::ls)=if x≠0 then x else orN ls:=by
 rw[FE,FE,List.find?_cons]
 by_cases h:x=0
 ·subst h;rfl
 ·have:((x,()):aO).1 != 0:=by simpa using h
  rw[this,if_pos h]
theorem RM(a b:bH):orN [(l2 a.1 b.1,()),(l2 a.2.1 b.2.1,()),(l2 a.2.2.1 b.2.2.1,()),(l2 a.2.2.2.1 b.2.2.2.1,()),(uR a.2.2.2.2.1 b.2.2.2.2.1,())]=gI a b:=by
 unfold gI
 rw[p8,p8,p8,p8,p8]
 have:(if uR a.2.2.2.2.1 b.2.2.2.2.1≠0 then uR a.2.2.2.2.1 b.2.2.2.2.1 else orN [])=uR a.2.2.2.2.1 b.2.2.2.2.1:=by
  by_cases h:uR a.2.2.2.2.1 b.2.2.2.2.1=0
  ·rw[h];rfl
  ·rw[if_pos h]
 rw[this]
def MK(b:Bool):Int:=bif b then 1 else 0
theorem CN:∀ x y:List UInt8,(bif Op.bytesLess x y then(-1:Int)else MK (!(Op.bytesLess x y||x==y)))=Lib.compareBytes x y
 | [],[]=>rfl
 | [],_::_=>rfl
 | _::_,[]=>rfl
 | a ::x,b::y=>by
  have ih:=CN x y
  unfold Op.bytesLess Lib.compareBytes
  by_cases h1:a<b
  ·simp[h1]
  ·by_cases h2:b<a
   ·have hne:(a==b)=false:=by
     simp only[beq_eq_false_iff_ne,ne_eq];rintro rfl;exact h1 h2
    have hne':(a::x==b::y)=false:=by rw[List.cons_beq_cons,hne];rfl
    rw[if_neg h1,if_pos h2,hne,hne'];simp[h1,MK]
   ·have he:a=b:=by
     rcases UInt8.lt_or_lt_of_ne (a:=a) (b:=b)with h
     by_cases hab:a=b
     ·exact hab
     ·rcases UInt8.lt_or_lt_of_ne hab with h | h
      ·exact absurd h h1
      ·exact absurd h h2
    subst he
    rw[if_neg h1,if_neg h2,<- ih,List.cons_beq_cons]
    simp[h1]
end Go.Abs
/- Plain laws: joins, what was said, what lies beneath, what is over. -/
namespace Go.Abs
theorem z3(a b:Int):l2 b a= - l2 a b:=by
 unfold l2
 rcases Int.lt_trichotomy a b with h | h | h
 ·rw[decide_eq_true h,decide_eq_false (by omega:¬ b<a)];rfl
 ·subst h;rw[decide_eq_false (by omega:¬ a<a)];rfl
 ·rw[decide_eq_true h,decide_eq_false (by omega:¬ a<b)];rfl
theorem v5:∀ x y:List UInt8,Lib.compareBytes y x= - Lib.compareBytes x y
 | [],[]=>rfl
 | [],_::_=>rfl
 | _::_,[]=>rfl
 | a::x,b::y=>by
  unfold Lib.compareBytes
  by_cases h1:a<b
  ·have h2:¬ b<a:=λh=>by rw[UInt8.lt_iff_toNat_lt] at h h1;omega
   simp[h1,h2]
  ·by_cases h2:b<a
   ·simp[h1,h2]
   ·simp[h1,h2,v5 x y]
theorem uJ(x y:Int):(if -x≠0 then -x else -y)= -(if x≠0 then x else y):=by
 by_cases h:x=0
 ·subst h;simp
 ·rw[if_pos h,if_pos (by omega)]
theorem qO(a b:bH):gI b a= - gI a b:=by
 unfold gI
 rw[z3 a.1 b.1,z3 a.2.1 b.2.1,z3 a.2.2.1 b.2.2.1,z3 a.2.2.2.1 b.2.2.2.1,show uR b.2.2.2.2.1 a.2.2.2.2.1= - uR a.2.2.2.2.1 b.2.2.2.2.1 from v5 _ _,uJ,uJ,uJ,uJ]
theorem vZ{y:bH}(h:1<=y.1):gI c6 y= -1:=by
 have e:l2 c6.1 y.1= -1:=by
  unfold l2;rw[decide_eq_true (show c6.1<y.1 from by show(0:Int)<y.1;omega)];rfl
 unfold gI;rw[e];rfl
def orZ(z:Int)(ls:List aO):Int:=match (List.range ls.length).find? (λi=>(gt ls i).1 != 0)with
 | some i=>(gt ls i).1
 | none=>z
theorem FD(z:Int)(ls:List aO):orZ z ls=(match ls.find? (λx:aO=>x.1 != 0)with | some x=>x.1 | none=>z):=by
 have h:=pD (λx:aO=>x.1 != 0) (λx:aO=>x.1) z ls
 unfold orZ
 cases h1:(List.range ls.length).find? (λi=>(gt ls i).1 != 0)<;>cases h2:ls.find? (λx:aO=>x.1 != 0)<;>simp only[h1,h2] at h ⊢<;>exact h
theorem uA(z x:Int)(ls:List aO):orZ z ((x,())::ls)=if x≠0 then x else orZ z ls:=by
 rw[FD,FD,List.find?_cons]
 by_cases h:x=0
 ·subst h;rfl
 ·have:((x,()):aO).1 != 0:=by simpa using h
  rw[this,if_pos h]
def F4(a b:bH):List aO:=[(l2 a.1 b.1,()),(l2 a.2.1 b.2.1,()),(l2 a.2.2.1 b.2.2.1,()),(l2 a.2.2.2.1 b.2.2.2.1,())]
theorem N7(a b:bH):orZ (uR a.2.2.2.2.1 b.2.2.2.2.1) (F4 a b)=gI a b:=by
 unfold F4 gI
 rw[uA,uA,uA,uA];rfl
theorem MD(x y:ByteArray):(bif Op.bytesLess (ByteArray.toList x) (ByteArray.toList y)then(-1:Int)else MK (!(Op.bytesLess (ByteArray.toList x) (ByteArray.toList y)||ByteArray.toList x==ByteArray.toList y)))=uR x y:=by
 rw[ByteArray.toList_eq,ByteArray.toList_eq];exact CN _ _
/-- The cells of a state that a join leans on. -/
structure Pos (s:aH):Prop where
 item:∀ x∈s.1,1<=x.2.1
 floor:∀ f∈s.2.1,0<=f.2.1
theorem StateOk.pos{s:aH}(h:StateOk s):Pos s where
 item x hx:=by
  have:=(h.item x hx).2.1
  unfold eE at this;simp only[Bool.and_eq_true,aV] at this;omega
 floor f hf:=by have:=(h.floor f hf).2;rw[aV] at this;omega
theorem JG:Pos ([],[],()):=⟨λx hx=>(List.not_mem_nil hx).elim,λx hx=>(List.not_mem_nil hx).elim⟩
def mxE(a b:bH):bH:=bif decide (gI a b<0)then b else a
def eB(a b:aH)(i:Int):bH:=mxE (bG a i).1 (bG b i).1
def flr(a b:aH)(i:Int):Int:=mxI true (cL a.2.1 i) (cL b.2.1 i)
def c9(a b:aH)(i:Nat):List bM:=bif decide ((eB a b i).1>flr a b i)then[((i:Int),eB a b i)] else[]
def cP(a b:aH)(i:Nat):List aR:=bif decide (flr a b i>0)then[((i:Int),flr a b i,())] else[]
def cF(a b:aH):aH:=(bN 5 (c9 a b),bN 5 (cP a b),())
theorem rJ(a b:aH)(i:Nat):(c9 a b i).length<=1:=by unfold c9;cases decide ((eB a b i).1>flr a b i)<;>simp
theorem oZ(a b:aH)(i:Nat):(cP a b i).length<=1:=by unfold cP;cases decide (flr a b i>0)<;>simp
theorem lE(a b:aH):(cF a b).1.length<=5/\(cF a b).2.1.length<=5:=
 ⟨dE (n:=5) (L:=1) λi _=>rJ a b i,dE (n:=5) (L:=1) λi _=>oZ a b i⟩
theorem jK(a b:aH):SzS (cF a b):=⟨Nat.le_trans (lE a b).1 (by decide),Nat.le_trans (lE a b).2 (by decide)⟩
theorem D0{a b:aH}(ha:Pos a)(i:Int):0<=flr a b i:=by
 have h:0<=cL a.2.1 i:=by
  rcases eO a i with ⟨x,hx,_,e⟩ | ⟨_,e⟩
  ·rw[e];exact ha.floor x hx
  ·omega
 unfold flr mxI;simp only[if_true];split<;>omega
theorem OJ:mxE c6 c6=c6:=by
 unfold mxE;cases decide (gI c6 c6<0)<;>rfl
theorem LW{a b:aH}(ha:Pos a):Pos (cF a b) where
 item x hx:=by
  obtain⟨i,_,h⟩:=List.mem_flatMap.1 hx
  have hn:=D0 (b:=b) ha (i:Int)
  unfold c9 at h
  cases hd:decide ((eB a b i).1>flr a b i)with
  | false=>rw[hd] at h;cases h
  | true=>rw[hd] at h;have:=of_decide_eq_true hd;have e:=List.mem_singleton.1 h;rw[e];show 1<=(eB a b i).1;omega
 floor f hf:=by
  obtain⟨i,_,h⟩:=List.mem_flatMap.1 hf
  have hn:=D0 (b:=b) ha (i:Int)
  unfold cP at h
  cases hd:decide (flr a b i>0)with
  | false=>rw[hd] at h;cases h
  | true=>rw[hd] at h;have e:=List.mem_singleton.1 h;rw[e];exact hn
theorem RK{a b:aH}{i:Int}(ha:bG a i=(c6,false))(hb:bG b i=(c6,false)):eB a b i=c6:=by
 unfold eB;rw[ha,hb];exact OJ
theorem xT{a b:aH}{i:Int}{y:bH}(ha:bG a i=(c6,false))(hb:bG b i=(y,true))(hy:1<=y.1):eB a b i=y:=by
 unfold eB mxE;rw[ha,hb];rw[show gI (c6,false).1 (y,true).1= -1 from vZ hy];rfl
theorem xS{a b:aH}{i:Int}{x:bH}(ha:bG a i=(x,true))(hb:bG b i=(c6,false))(hx:1<=x.1):eB a b i=x:=by
 unfold eB mxE;rw[ha,hb];rw[show gI (x,true).1 (c6,false).1=1 from by rw[show gI (x,true).1 (c6,false).1= - gI c6 x from qO c6 x,vZ hx];rfl];rfl
theorem JH{a b:aH}{i:Int}{x y:bH}(ha:bG a i=(x,true))(hb:bG b i=(y,true)):eB a b i=bif decide (gI y x>0)then y else x:=by
 unfold eB mxE;rw[ha,hb]
 show(bif decide (gI x y<0)then y else x)=_
 rw[show decide (gI x y<0)=decide (gI y x>0)from ?_]
 rw[qO x y]
 by_cases h:gI x y<0
 ·rw[decide_eq_true h,decide_eq_true (by omega)]
 ·rw[decide_eq_false h,decide_eq_false (by omega)]
theorem gD{a b:aH}{i:Nat}{e:bH}(he:eB a b i=e)(h:e.1>flr a b i):c9 a b i=[((i:Int),e)]:=by
 unfold c9;rw[he,decide_eq_true h];rfl
theorem gE{a b:aH}{i:Nat}{e:bH}(he:eB a b i=e)(h:¬ e.1>flr a b i):c9 a b i=[]:=by
 unfold c9;rw[he,decide_eq_false h];rfl
theorem oX{a b:aH}{i:Nat}(h:flr a b i>0):cP a b i=[((i:Int),flr a b i,())]:=by
 unfold cP;rw[decide_eq_true h];rfl
theorem sX{a b:aH}{i:Nat}(h:¬ flr a b i>0):cP a b i=[]:=by
 unfold cP;rw[decide_eq_false h];rfl
theorem qL{s:aH}(hs:Pos s)(i:Int):(∃ x:bH,1<=x.1/\bG s i=(x,true))\/bG s i=(c6,false):=by
 rcases fE s i with ⟨x,hx,_,e⟩ | ⟨_,e⟩
 ·exact .inl ⟨x.2,hs.item x hx,e⟩
 ·exact .inr e
-- less
def HT(a b:aH):Bool:=aP a&&(aP b&&gC (cF a b) b)
-- over
def gone(s:aH)(id:Int):Int:=bif aP s then(bif(bG s id).2 then(bif(bG s id).1.2.1==0 then i64.wrap ((bG s id).1.1 - 1)else(bG s id).1.1)else cL s.2.1 id)else 0
-- what was said
def f4:aH:=([],[],())
def g9(g:Nat->aH):Nat->aH
 | 0=>f4
 | k+1=>cF (g9 g k) (g k)
theorem iA:SzS f4:=⟨Nat.zero_le _,Nat.zero_le _⟩
theorem LV(g:Nat->aH):∀ k,SzS (g9 g k)
 | 0=>iA
 | k+1=>jK _ _
def dP(w:a9)(i:Nat):aH:=(gt w.2.2.1 i).2
def A1(w:a9):aH:=bif bJ w then g9 (dP w) w.2.2.1.length else f4
def bC(w:a9)(node m:Int):Nat->Int×aH
 | 0=>(0,f4)
 | k+1=>bif(gt w.2.2.1 k).1==node&&decide ((bC w node m k).1<m)then((bC w node m k).1+1,cF (bC w node m k).2 (dP w k))else bC w node m k
theorem lM(w:a9)(node m:Int):∀ k,0<=(bC w node m k).1/\(bC w node m k).1<=k/\SzS (bC w node m k).2/\Pos (bC w node m k).2
 | 0=>⟨Int.le_refl 0,Int.le_refl 0,iA,JG⟩
 | k+1=>by
  obtain⟨h1,h2,h3,h4⟩:=lM w node m k
  unfold bC
  cases (gt w.2.2.1 k).1==node&&decide ((bC w node m k).1<m)with
  | false=>exact⟨h1,by show(bC w node m k).1<=_;omega,h3,h4⟩
  | true=>exact⟨by show 0<=(bC w node m k).1+1;omega,by show(bC w node m k).1+1<=_;omega,jK _ _,LW h4⟩
theorem wM{w:a9}{node m:Int}{i:Nat}(h:¬ (bC w node m i).1<m):∀ d,bC w node m (i+d)=bC w node m i
 | 0=>rfl
 | d+1=>by
  have ih:=wM h d
  show bC w node m (i+d+1)=_
  conv=>lhs;unfold bC
  rw[ih,decide_eq_false h,Bool.and_false];rfl
def dL(w:a9)(node m:Int):aH:=bif bJ w then(bC w node m w.2.2.1.length).2 else f4
def OV(w:a9)(node:Int):Nat->Int
 | 0=>0
 | k+1=>OV w node k+MK ((gt w.2.2.1 k).1==node)
def many(w:a9)(node:Int):Int:=OV w node w.2.2.1.length
def H1(w:a9)(ls:List aO):Nat->aH
 | 0=>f4
 | k+1=>bif inB (gt ls k).1 0 (i64.wrap ((w.2.2.1.length:Int) - 1))then cF (H1 w ls k) (dP w (gt ls k).1.toNat)else H1 w ls k
def TO(w:a9)(ls:List aO):aH:=bif bJ w then H1 w ls ls.length else f4
theorem qZ(w:a9)(a b:Int):SzS (dL w a b):=by
 unfold dL;cases bJ w with
 | false=>exact iA
 | true=>exact(lM w a b _).2.2.1
def D7(w:a9)(s:aH):List aO:=bif bJ w&&aP s then bN w.2.2.1.length (λi=>bif HT (dP w i) s then[((i:Int),())] else[])else[]
theorem tH{w:a9}(h:bJ w=true){i:Nat}(hi:i<w.2.2.1.length):aP (dP w i)=true:=by
 unfold bJ at h;simp only[Bool.and_eq_true,bL] at h
 have:=h.2.2.2.2.2 i hi
 unfold gT at this;simp only[Bool.and_eq_true] at this;exact this.2
end Go.Abs
/- Plain laws: what the judges decide. -/
namespace Go.Abs
def jV(a b:List aR):Bool:=(a.length:Int)==(b.length:Int)&&bR a.length λi=>j6 (gt a i) (gt b i)
theorem EW(a b:aH):(jU a.1 b.1&&jV a.2.1 b.2.1)=gC a b:=by
 unfold gC jU jV;ac_rfl
theorem PD{s:aH}(hs:aP s=false)(id:Int):gone s id=0:=by unfold gone;rw[hs];rfl
theorem uV{β:Type}{q r:Prop}[Decidable q][Decidable r]{x y:β}(h:q)(h':r):(bif decide q&&decide r then x else y)=x:=by
 rw[decide_eq_true h,decide_eq_true h'];rfl
-- own
-- views
-- heard
-- seen
theorem D2{s:aH}(h:StateOk s){f:aR}(hf:f∈s.2.1):cL s.2.1 f.1=f.2.1:=by
 rcases eO s f.1 with ⟨x,hx,h1,e⟩ | ⟨h1,_⟩
 ·have:x=f:=by
   obtain⟨i,hi,rfl⟩:=gZ hx
   obtain⟨j,hj,rfl⟩:=gZ hf
   have hp:=h.floors
   rw[List.pairwise_iff_getElem] at hp
   rcases Nat.lt_trichotomy i j with h2 | h2 | h2
   ·have:=hp i j hi hj h2;rw[<- cY hi,<- cY hj] at this;omega
   ·rw[h2]
   ·have:=hp j i hj hi h2;rw[<- cY hi,<- cY hj] at this;omega
  rw[e,this]
 ·exact absurd rfl (h1 f hf)
theorem R5{s:aH}(hs:aP s=true)(id:Int):0<=gone s id:=by
 have ok:=(aS s).1 hs
 unfold gone;rw[hs]
 rcases fE s id with ⟨x,hx,_,e⟩ | ⟨_,e⟩
 ·rw[e]
  have:=(ok.item x hx).2.1
  unfold eE at this;simp only[Bool.and_eq_true,aV] at this
  show 0<=(bif x.2.2.1==0 then i64.wrap (x.2.1 - 1)else x.2.1)
  rw[u4 (by omega) (by omega)]
  cases x.2.2.1==0 with
  | false=>show 0<=x.2.1;omega
  | true=>show 0<=x.2.1 - 1;omega
 ·rw[e]
  show 0<=cL s.2.1 id
  rcases eO s id with ⟨x,hx,_,e⟩ | ⟨_,e⟩
  ·rw[e];exact ok.pos.floor x hx
  ·omega
-- Q1, JT, grown
def Q1(w:a9):Bool:=bJ w&&bR w.1.length λi=>jU (rR (gt w.1 i).state) (rR (A1 w))
def oT(s:aH)(id:Int):bH×Bool:=bG (rR s,[],()) id
def JS(w:a9)(id:Int):Nat->Int
 | 0=>0
 | k+1=>JS w id k+MK (oT (gt w.1 k).state id).2
def JT(w:a9)(id:Int):Int:=bif bJ w then JS w id w.1.length else 0
end Go.Abs
/- Plain laws: differences of views applied, and what they are. -/
namespace Go.Abs
end Go.Abs
/- Plain laws: draws. -/
namespace Go.Abs
abbrev eR:=List aO×Int×Int×Unit
structure CurOk (c:eR):Prop where
 len:c.1.length<=1048576
 lo:0<=c.2.1
 hi:c.2.1<=c.1.length
theorem yF(a:Int):0<=I1 .i64 a 255/\I1 .i64 a 255<=255:=by
 unfold I1
 have h:(BitVec.ofInt i64.bits a&&& BitVec.ofInt i64.bits 255).toNat<=255:=by
  rw[BitVec.toNat_and];exact Nat.le_trans Nat.and_le_right (by decide)
 generalize (BitVec.ofInt i64.bits a&&& BitVec.ofInt i64.bits 255).toNat=m at h
 have e:i64.wrap (m:Int)=m:=by rw[IntKind.wrap_i64];omega
 rw[e];omega
theorem tM{x n:Int}(hx:0<=x)(hn:0<n):0<=x.tmod n/\x.tmod n<n:=by
 rw[Int.tmod_eq_emod_of_nonneg hx]
 exact⟨Int.emod_nonneg _ (by omega),Int.emod_lt_of_pos _ hn⟩
theorem aG{β:Type}{o:Option Out}{A B:List Kd}{r:Row A}{s:Row B}{f:Rows [A]×Rows [B]->Option β}(h:o=some ⟨[⟨A,r⟩],[⟨B,s⟩]⟩):(o.bind (dQ [A] [B])).bind f=f ((r,()),(s,())):=by
 rw[h];simp[dQ,fB,jL];rfl
theorem AP{β:Type}{o:Option Out}{A B:List Kd}{r:Row A}{s:Row B}{f:Rows [A,B]×Rows []->Option β}(h:o=some ⟨[⟨A,r⟩,⟨B,s⟩],[]⟩):(o.bind (dQ [A,B] [])).bind f=f ((r,s,()),()):=by
 rw[h];simp[dQ,fB,jL];rfl
/-- A loop whose rounds are told by what they keep. -/
theorem It.ex {ι σ:Type} {lvl:Nat} {c:Nat->Nat->ι->(σ->Option Out)->σ->Option Out} (Inv:Nat->σ->Prop) (Good:Out->Prop) (N:Nat)
  (hs:∀ i x,i<N->Inv i x->∃ y,Inv (i+1) y/\∀ n,lvl<=n->∀ aA a rec,c n aA a rec x=rec y)
  (he:∀ x,Inv N x->∃ o,Good o/\∀ n,lvl<=n->It (c n) x (λ_=>some o)):∀ (m j:Nat) x,j+m=N->Inv j x->∃ o,Good o/\∀ n,lvl<=n->It (c n) x (λ_=>some o)
 | 0,j,x,hj,hx=>he x ((show j=N by omega)▸hx)
 | m+1,j,x,hj,hx=>by
  obtain⟨y,hy,h⟩:=hs j x (by omega) hx
  obtain⟨o,ho,h'⟩:=It.ex Inv Good N hs he m (j+1) y (by omega) hy
  exact⟨o,ho,λn hn=>It.next (λaA a rec=>h n hn aA a rec) (h' n hn)⟩
def datas:List ByteArray:=[⟨#[]⟩,⟨#[97]⟩,⟨#[98]⟩,⟨#[97,98]⟩,⟨#[49,50,51,52,53,54,55,56]⟩,⟨#[49,50,51,52,53,54,55,56,57]⟩]
def QI(e:bH):Prop:=e.2.2.2.2.1∈datas
structure StD (k:Nat) (s:aH):Prop where
 a:s.1.length<=k
 b:s.2.1.length<=k
 data:∀ x∈s.1,QI x.2
theorem StD.sz{k:Nat}{s:aH}(h:StD k s)(hk:k<=1048576):SzS s:=⟨Nat.le_trans h.a hk,Nat.le_trans h.b hk⟩
theorem QJ:QI c6:=List.mem_cons_self ..
theorem xF{P:bH->Prop}(hz:P c6){s:aH}(hs:∀ x∈s.1,P x.2)(i:Int):P (bG s i).1:=by
 unfold bG
 cases h:(List.range s.1.length).find? (λj=>(gt s.1 j).1==i)with
 | none=>exact hz
 | some j=>
  have hj:=List.mem_range.1 (List.mem_of_find?_eq_some h)
  show P (gt s.1 j).2
  rw[cY hj];exact hs _ (List.getElem_mem hj)
theorem jM{α:Type}{n:Nat}{g:Nat->List α}{x:α}(h:x∈bN n g):∃ i,i<n/\x∈g i:=by
 induction n with
 | zero=>exact(List.not_mem_nil h).elim
 | succ n ih=>
  rw[dS] at h
  rcases List.mem_append.1 h with h | h
  ·obtain⟨i,hi,hx⟩:=ih h;exact⟨i,by omega,hx⟩
  ·exact⟨n,by omega,h⟩
theorem LX{P:bH->Prop}(hz:P c6){a b:aH}(ha:∀ x∈a.1,P x.2)(hb:∀ x∈b.1,P x.2):∀ x∈(cF a b).1,P x.2:=by
 intro x hx
 obtain⟨i,_,hi⟩:=jM hx
 unfold c9 at hi
 cases hc:decide ((eB a b (i:Int)).1>flr a b (i:Int))with
 | false=>rw[hc] at hi;exact(List.not_mem_nil hi).elim
 | true=>
  rw[hc] at hi
  have e:x=((i:Int),eB a b (i:Int)):=List.mem_singleton.1 hi
  subst e
  show P (eB a b (i:Int))
  unfold eB mxE
  cases decide (gI (bG a (i:Int)).1 (bG b (i:Int)).1<0)
  ·exact xF hz ha _
  ·exact xF hz hb _
theorem JU{j k:Nat}{a b:aH}(ha:StD j a)(hb:StD k b):StD 5 (cF a b):=⟨(lE a b).1,(lE a b).2,LX QJ ha.data hb.data⟩
theorem PB{β:Type}{A B:Prop}[Decidable A][Decidable B]{X R:β}(h:¬ A\/¬ B):(bif decide A then(bif decide B then X else R)else R)=R:=by
 by_cases a:A
 ·rcases h with h | h
  ·exact absurd a h
  ·rw[decide_eq_true a,decide_eq_false h];rfl
 ·rw[decide_eq_false a];rfl
/-- The loop of a new cursor, and what comes behind it. -/
theorem It.new {lvl:Nat} {c:Nat->Nat->Unit->(Int×Int->Option Out)->Int×Int->Option Out} (Good:Out->Prop) (b:List aO) (hb:b.length<=1048576)
  (hs:∀ (i:Nat) (h:Int),i<b.length->i<4000->∃ h',∀ n,lvl<=n->∀ aA a rec,c n aA a rec (h,(i:Int))=rec (h',((i+1:Nat):Int)))
  (he:∀ (h i:Int),CurOk (b,0,h,())->(¬ i<(b.length:Int)\/¬ i<4000)->∃ o,Good o/\∀ n,lvl<=n->∃ M,∀ aA,M<=aA->∀ a rec,c n aA a rec (h,i)=some o) (h0:Int):
  ∃ o,Good o/\∀ n,lvl<=n->It (c n) (h0,(0:Int)) (λ_=>some o):=by
 refine It.ex (λi y=>∃ h,y=(h,(i:Int))) Good (min b.length 4000) ?_ ?_ (min b.length 4000) 0 (h0,(0:Int)) (by omega) ⟨h0,rfl⟩
 ·rintro i y hi ⟨h,rfl⟩
  obtain⟨h',hh⟩:=hs i h (by omega) (by omega)
  exact⟨_,⟨h',rfl⟩,hh⟩
 ·rintro y ⟨h,rfl⟩
  obtain⟨o,ho,hh⟩:=he h ((min b.length 4000:Nat):Int) ⟨hb,by show(0:Int)<=0;omega,by show(0:Int)<=(b.length:Int);omega⟩ (by omega)
  refine⟨o,ho,λn hn=>?_⟩
  obtain⟨M,hM⟩:=hh n hn
  refine⟨M+1,λaA k hf hk a=>?_⟩
  obtain⟨k,rfl⟩:∃ k',k=k'+1:=⟨k - 1,by omega⟩
  exact hM aA (by omega) a _
end Go.Abs
-- marks, tables, taking and receiving: plain laws
namespace Go.Abs
abbrev MsgT:=Int×Int×Int×Int×Int×List aO×Int×List aO×List aO×List bM×List aR×List aR×Unit
abbrev MsgT.hi(m:MsgT):Int:=m.2.2.2.2.1
abbrev MsgT.tree(m:MsgT):mU:=(m.2.2.2.2.2.1,m.2.2.2.2.2.2.1,())
abbrev MsgT.vec(m:MsgT):List aO:=m.2.2.2.2.2.2.2.1
abbrev MsgT.leaves(m:MsgT):List aO:=m.2.2.2.2.2.2.2.2.1
abbrev MsgT.part(m:MsgT):aH:=(m.2.2.2.2.2.2.2.2.2.1,m.2.2.2.2.2.2.2.2.2.2.1,())
abbrev MsgT.marks(m:MsgT):List aR:=m.2.2.2.2.2.2.2.2.2.2.2.1
structure SzM (m:MsgT):Prop where
 leaves:m.tree.1.length<=aW
 vec:m.vec.length<=aW
 list:m.leaves.length<=aW
 part:SzS m.part
 marks:m.marks.length<=aW
theorem rZ(a b:Int):mxI true a b=max a b:=by unfold mxI;simp only[if_true];split<;>omega
theorem FG(a b:Int):mxI false a b=min a b:=by unfold mxI;simp only[Bool.false_eq_true,if_false];split<;>omega
-- lists in order
theorem rL{α:Type}{k:α->Int}{g:Nat->List α}(h1:∀ i,(g i).length<=1)(h:∀ i,∀ x∈g i,k x=(i:Int)):∀ n,(bN n g).Pairwise (λx y=>k x<k y)
 | 0=>by rw[wE];exact List.Pairwise.nil
 | n+1=>by
  rw[dS,List.pairwise_append]
  refine⟨rL h1 h n,?_,λx hx y hy=>?_⟩
  ·match hg:g n with
   | []=>exact List.Pairwise.nil
   | [x]=>exact List.pairwise_singleton _ _
   | x::y::t=>have:=h1 n;rw[hg] at this;simp at this
  ·obtain⟨i,hi,hx⟩:=jM hx
   rw[h i x hx,h n y hy];omega
theorem pB{s:aH}(h:StateOk s)(i:Int):0<=cL s.2.1 i/\cL s.2.1 i<=1000:=by
 rcases eO s i with ⟨x,hx,_,e⟩ | ⟨_,e⟩
 ·have:=(h.floor x hx).2;rw[aV] at this;rw[e];omega
 ·rw[e];omega
theorem s7{s:aH}(h:StateOk s)(i:Int):(bG s i).1=c6\/eE (bG s i).1=true:=by
 rcases fE s i with ⟨x,hx,_,e⟩ | ⟨_,e⟩
 ·rw[e];exact .inr (h.item x hx).2.1
 ·rw[e];exact .inl rfl
theorem N4{a b:aH}(ha:StateOk a)(hb:StateOk b)(i:Int):eB a b i=c6\/eE (eB a b i)=true:=by
 unfold eB mxE
 cases decide (gI (bG a i).1 (bG b i).1<0)with
 | true=>exact s7 hb i
 | false=>exact s7 ha i
theorem PL{a b:aH}(ha:StateOk a)(hb:StateOk b)(i:Int):0<=flr a b i/\flr a b i<=1000:=by
 have h1:=pB ha i
 have h2:=pB hb i
 unfold flr;rw[rZ];omega
theorem vT{a b:aH}{i:Nat}{x:bM}(h:x∈c9 a b i):x=((i:Int),eB a b i)/\(eB a b i).1>flr a b i:=by
 unfold c9 at h
 cases hd:decide ((eB a b i).1>flr a b i)with
 | false=>rw[hd] at h;cases h
 | true=>rw[hd] at h;exact⟨List.mem_singleton.1 h,of_decide_eq_true hd⟩
theorem oY{a b:aH}{i:Nat}{x:aR}(h:x∈cP a b i):x=((i:Int),flr a b i,())/\flr a b i>0:=by
 unfold cP at h
 cases hd:decide (flr a b i>0)with
 | false=>rw[hd] at h;cases h
 | true=>rw[hd] at h;exact⟨List.mem_singleton.1 h,of_decide_eq_true hd⟩
theorem DQ{i:Nat}(h:i<5):eM (i:Int)=true:=by unfold eM;rw[aV];omega
theorem StateOk.join{a b:aH}(ha:StateOk a)(hb:StateOk b):StateOk (cF a b) where
 item x hx:=by
  obtain⟨i,hi,hx⟩:=jM hx
  obtain⟨rfl,hg⟩:=vT hx
  have hf:=PL ha hb (i:Int)
  refine⟨DQ hi,?_,?_⟩
  ·rcases N4 ha hb (i:Int)with e | e
   ·rw[e] at hg;have h0:(0:Int)>flr a b i:=hg;omega
   ·exact e
  ·show cL (cF a b).2.1 (i:Int)<(eB a b i).1
   rcases eO (cF a b) (i:Int)with ⟨f,hf',e1,e⟩ | ⟨_,e⟩
   ·obtain⟨j,_,hf'⟩:=jM hf'
    obtain⟨rfl,_⟩:=oY hf'
    have:(j:Int)=(i:Int):=e1
    rw[e];show flr a b (j:Int)<_;rw[this];omega
   ·rw[e];omega
 items:=rL (k:=λx:bM=>x.1) (rJ a b) (λi x hx=>by rw[(vT hx).1]) 5
 floor f hf:=by
  obtain⟨i,hi,hf⟩:=jM hf
  obtain⟨rfl,hg⟩:=oY hf
  have:=PL ha hb (i:Int)
  refine⟨DQ hi,?_⟩
  rw[aV];show 1<=flr a b i/\flr a b i<=1000;omega
 floors:=rL (k:=λx:aR=>x.1) (oZ a b) (λi x hx=>by rw[(oY hx).1]) 5
theorem nN{a b:aH}(ha:aP a=true)(hb:aP b=true):aP (cF a b)=true:=
 (aS _).2 (((aS _).1 ha).join ((aS _).1 hb))
theorem xY:aP f4=true:=rfl
-- marks
def fG(ms:List aR):Bool:=bR ms.length (f5 ms)
theorem zS(ms:List aR):aP ([],ms,())=fG ms:=by
 unfold aP fG;rw[show bR ([]:List bM).length (mK ([],ms,()))=true from rfl,Bool.true_and]
def kN(s:aH)(i:Nat):List aR:=bif decide (gone s i>0)then[((i:Int),gone s i,())] else[]
def cX(s:aH):List aR:=bN 5 (kN s)
theorem sS(s:aH)(i:Nat):(kN s i).length<=1:=by unfold kN;cases decide (gone s i>0)<;>simp
theorem fQ(s:aH):(cX s).length<=5:=dE (n:=5) (L:=1) λi _=>sS s i
theorem JX(s:aH)(i:Int):gone s i<=1000:=by
 cases hs:aP s with
 | false=>rw[PD hs];omega
 | true=>
  have h:=(aS s).1 hs
  have hf:=pB h i
  unfold gone;rw[hs]
  show(bif(bG s i).2 then _ else _)<=(1000:Int)
  cases h2:(bG s i).2 with
  | false=>exact hf.2
  | true=>
   have he:(bG s i).1.1<=1000/\0<=(bG s i).1.1:=by
    rcases s7 h i with e | e
    ·rw[e];show(0:Int)<=1000/\(0:Int)<=0;omega
    ·unfold eE at e;simp only[Bool.and_eq_true,aV] at e;omega
   show(bif(bG s i).1.2.1==0 then i64.wrap ((bG s i).1.1 - 1)else(bG s i).1.1)<=1000
   cases (bG s i).1.2.1==0 with
   | false=>exact he.1
   | true=>show i64.wrap ((bG s i).1.1 - 1)<=1000;rw[IntKind.wrap_i64];omega
theorem HN{s:aH}{i:Nat}{x:aR}(h:x∈kN s i):x=((i:Int),gone s i,())/\gone s i>0:=by
 unfold kN at h
 cases hd:decide (gone s i>0)with
 | false=>rw[hd] at h;cases h
 | true=>rw[hd] at h;exact⟨List.mem_singleton.1 h,of_decide_eq_true hd⟩
theorem CH{fs:List aR}(g:Nat->List aR)(he:fs=bN 5 g)(h1:∀ i,(g i).length<=1)(h:∀ i,∀ x∈g i,x.1=(i:Int)/\1<=x.2.1/\x.2.1<=1000):StateOk ([],fs,()) where
 item x hx:=by cases hx
 items:=List.Pairwise.nil
 floor f hf:=by
  have hf:f∈fs:=hf
  rw[he] at hf
  obtain⟨i,hi,hf⟩:=jM hf
  obtain⟨e,h2,h3⟩:=h i f hf
  exact⟨by rw[e];exact DQ hi,aV.2 ⟨h2,h3⟩⟩
 floors:=by
  show fs.Pairwise _
  rw[he];exact rL (k:=λx:aR=>x.1) h1 (λi x hx=>(h i x hx).1) 5
theorem HM(s:aH):fG (cX s)=true:=by
 rw[<- zS]
 exact(aS _).2 (CH (kN s) rfl (sS s) λi x hx=>by
  obtain⟨rfl,h⟩:=HN hx
  exact⟨rfl,h,JX s i⟩)
theorem uG{ms:List aR}(h:fG ms=true){i:Nat}(hi:i<ms.length):0<=(gt ms i).1/\(gt ms i).1<=4/\1<=(gt ms i).2.1/\(gt ms i).2.1<=1000:=by
 unfold fG at h
 have:=bL.1 h i hi
 unfold f5 eM at this
 simp only[Bool.and_eq_true,aV] at this
 omega
theorem LN{ms:List aR}(h:fG ms=true):ms.length<=5:=by
 rw[<- zS] at h
 exact((aS _).1 h).len.2
-- tables
def DC(r:bT)(f:aR):bT:=(r.1.set f.1.toNat (mxI true (gt r.1 f.1.toNat).1 f.2.1,()),())
def kH(r:bT)(ms:List aR):Nat->bT
 | 0=>r
 | i+1=>DC (kH r ms i) (gt ms i)
def pG(t:List bT)(k:Int)(ms:List aR):Bool:=inB k 0 (i64.wrap ((t.length:Int) - 1))&&(fG ms&& !decide ((((gt t k.toNat).1.length:Nat):Int)<5))
def cR(t:List bT)(k:Nat)(ms:List aR)(i:Nat):List bT:=t.set k (kH (gt t k) ms i)
def bP(t:List bT)(k:Int)(ms:List aR):List bT:=bif pG t k ms then cR t k.toNat ms ms.length else t
theorem nY(r:bT)(ms:List aR):∀ i,(kH r ms i).1.length=r.1.length
 | 0=>rfl
 | i+1=>by show(List.set _ _ _).length=_;rw[List.length_set];exact nY r ms i
theorem cC{α:Type}[Inhabited α]{xs:List α}{i:Nat}(h:i<xs.length)(x:α):gt (xs.set i x) i=x:=by
 rw[cY (by rw[List.length_set];exact h)];simp
theorem eD{α:Type}[Inhabited α]{xs:List α}{i j:Nat}(h:i≠j)(x:α):gt (xs.set i x) j=gt xs j:=by
 unfold gt;simp[h]
theorem sK{α:Type}[Inhabited α]{xs:List α}{i:Nat}:xs.set i (gt xs i)=xs:=by
 rcases Nat.lt_or_ge i xs.length with h | h
 ·rw[cY h];exact List.set_getElem_self h
 ·exact List.set_eq_of_length_le h
theorem C2(t:List bT)(k:Nat)(ms:List aR):cR t k ms 0=t:=sK
theorem dG(t:List bT)(k:Int)(ms:List aR):(bP t k ms).length=t.length:=by
 unfold bP
 cases pG t k ms with
 | false=>rfl
 | true=>show(cR _ _ _ _).length=_;unfold cR;rw[List.length_set]
theorem yB{k:Int}{n:Nat}(hn:n<=aW)(h:inB k 0 (i64.wrap ((n:Int) - 1))=true):k.toNat<n/\((k.toNat:Nat):Int)=k:=by
 rw[aV,IntKind.wrap_i64] at h;unfold aW at hn;omega
theorem eY(t:List bT)(k:Int)(ms:List aR)(j:Nat):((gt (bP t k ms) j).1.length)=(gt t j).1.length:=by
 unfold bP
 cases hb:pG t k ms with
 | false=>rfl
 | true=>
  show(gt (cR t k.toNat ms ms.length) j).1.length=_
  unfold cR
  rcases Nat.lt_or_ge k.toNat t.length with h | h
  ·by_cases e:k.toNat=j
   ·subst e;rw[cC h,nY]
   ·rw[eD e]
  ·rw[List.set_eq_of_length_le h]
theorem GO{r:bT}{ms:List aR}(hm:fG ms=true)(hr:∀ j,j<r.1.length->inB (gt r.1 j).1 0 1000=true):∀ i,i<=ms.length->∀ j,j<r.1.length->inB (gt (kH r ms i).1 j).1 0 1000=true
 | 0,_,j,hj=>hr j hj
 | i+1,hi,j,hj=>by
  have ih:=GO hm hr i (by omega)
  have hid:=uG hm (i:=i) (by omega)
  have hl:=nY r ms i
  show inB (gt (List.set (kH r ms i).1 (gt ms i).1.toNat (mxI true (gt (kH r ms i).1 (gt ms i).1.toNat).1 (gt ms i).2.1,())) j).1 0 1000=true
  by_cases e:(gt ms i).1.toNat=j
  ·subst e
   rw[cC (by omega)]
   have:=ih _ hj
   rw[aV] at this ⊢
   show 0<=mxI true _ _/\mxI true _ _<=1000
   rw[rZ];omega
  ·rw[eD e];exact ih j hj
theorem pS{t:List bT}{n k:Int}{ms:List aR}(ht:gJ t n=true):gJ (bP t k ms) n=true:=by
 unfold gJ at ht ⊢
 simp only[Bool.and_eq_true] at ht ⊢
 obtain⟨h1,h2,h3⟩:=ht
 refine⟨h1,by rw[dG];exact h2,?_⟩
 rw[dG]
 rw[bL] at h3 ⊢
 intro j hj
 have h4:=h3 j hj
 unfold sV at h4 ⊢
 simp only[Bool.and_eq_true] at h4 ⊢
 rw[eY]
 refine⟨h4.1,?_⟩
 have h5:=bL.1 h4.2
 rw[bL]
 intro i hi
 unfold bP
 cases hb:pG t k ms with
 | false=>exact h5 i hi
 | true=>
  show inB (gt (gt (cR t k.toNat ms ms.length) j).1 i).1 0 1000=true
  unfold cR
  by_cases e:k.toNat=j
  ·subst e
   rw[cC hj]
   have hm:fG ms=true:=by unfold pG at hb;simp only[Bool.and_eq_true] at hb;exact hb.2.1
   exact GO hm h5 _ (Nat.le_refl _) i hi
  ·rw[eD e];exact h5 i hi
def qN(t:List bT)(id:Int)(k:Nat):Bool:=inB id 0 (i64.wrap ((((gt t k).1.length:Nat):Int) - 1))
def j0(t:List bT)(id:Int):Nat->Int
 | 0=>0
 | k+1=>bif(k:Int)==0 then(gt (gt t k).1 id.toNat).1 else bif decide ((gt (gt t k).1 id.toNat).1<j0 t id k)then(gt (gt t k).1 id.toNat).1 else j0 t id k
def fX(t:List bT)(id:Int):Int:=bif bR t.length (qN t id)then j0 t id t.length else 0
-- pruning
def iJ(s:aH)(t:List bT)(i:Nat):List aR:=bif decide (mxI false (fX t i) (gone s i)>0)then[((i:Int),mxI false (fX t i) (gone s i),())] else[]
def fA(s:aH)(t:List bT):aH:=([],bN 5 (iJ s t),())
def prune(s:aH)(t:List bT):aH:=bif aP s then cF s (fA s t)else s
theorem sN(s:aH)(t:List bT)(i:Nat):(iJ s t i).length<=1:=by unfold iJ;cases decide (mxI false (fX t i) (gone s i)>0)<;>simp
theorem qG(s:aH)(t:List bT):aP (fA s t)=true:=
 (aS _).2 (CH (iJ s t) rfl (sN s t) λi x hx=>by
  unfold iJ at hx
  cases hd:decide (mxI false (fX t i) (gone s i)>0)with
  | false=>rw[hd] at hx;cases hx
  | true=>
   rw[hd] at hx
   have e:=List.mem_singleton.1 hx
   have h0:=of_decide_eq_true hd
   have hg:=JX s i
   rw[e];refine⟨rfl,h0,?_⟩
   show mxI false (fX t i) (gone s i)<=1000
   rw[FG];omega)
theorem F6(s:aH)(t:List bT):SzS (fA s t):=⟨Nat.zero_le _,Nat.le_trans (dE (n:=5) (L:=1) λi _=>sN s t i) (by decide)⟩
theorem zH{s:aH}(h:aP s=true)(t:List bT):aP (prune s t)=true:=by
 unfold prune;rw[h];exact nN h (qG s t)
theorem N2{s:aH}(h:SzS s)(t:List bT):SzS (prune s t):=by
 unfold prune;cases aP s with
 | false=>exact h
 | true=>exact jK _ _
-- vectors
def c7(v:List aO)(k n:Int):List aO:=bif inB k 0 (i64.wrap ((v.length:Int) - 1))then v.set k.toNat (mxI true (gt v k.toNat).1 n,())else v
theorem fS(v:List aO)(k n:Int):(c7 v k n).length=v.length:=by
 unfold c7;cases inB k 0 (i64.wrap ((v.length:Int) - 1))with
 | false=>rfl
 | true=>exact List.length_set ..
theorem pP(v:List aO)(k n:Int)(j:Nat):(gt (c7 v k n) j).1=(gt v j).1\/(gt (c7 v k n) j).1=max (gt v j).1 n:=by
 unfold c7;cases inB k 0 (i64.wrap ((v.length:Int) - 1))with
 | false=>exact .inl rfl
 | true=>
  show(gt (v.set _ _) j).1=_\/(gt (v.set _ _) j).1=_
  rcases Nat.lt_or_ge k.toNat v.length with h | h
  ·by_cases e:k.toNat=j
   ·subst e;rw[cC h];exact .inr (rZ _ _)
   ·rw[eD e];exact .inl rfl
  ·rw[List.set_eq_of_length_le h];exact .inl rfl
theorem ED(v:List aO){k n:Int}{j:Nat}(h:k.toNat≠j):gt (c7 v k n) j=gt v j:=by
 unfold c7;cases inB k 0 (i64.wrap ((v.length:Int) - 1))with
 | false=>rfl
 | true=>exact eD h _
theorem wH{v:List aO}{m k n:Int}(h:eH v m=true)(hn:n<=100000):eH (c7 v k n) m=true:=by
 unfold eH at h ⊢
 simp only[Bool.and_eq_true] at h ⊢
 rw[fS]
 refine⟨h.1,h.2.1,?_⟩
 have h3:=bL.1 h.2.2
 rw[bL]
 intro i hi
 have:=h3 i hi
 rw[aV] at this ⊢
 rcases pP v k n i with e | e<;>rw[e]<;>omega
end Go.Abs
-- taking and receiving: plain laws
namespace Go.Abs
-- rises
def pY(r:kI)(e:bH):Bool:=decide (e.1>r.1)||(e.1==r.1&&decide (e.2.2.1>r.2.1))
def mW(clock:Int)(r:kI)(e:bH):kI:=bif pY r e then(e.1,e.2.2.1,clock,())else r
def dJ(clock:Int)(rs:List kI)(xs:List bM):Nat->List kI
 | 0=>rs
 | i+1=>(dJ clock rs xs i).set (gt xs i).1.toNat (mW clock (gt (dJ clock rs xs i) (gt xs i).1.toNat) (gt xs i).2)
theorem gU(clock:Int)(rs:List kI)(xs:List bM):∀ i,(dJ clock rs xs i).length=rs.length
 | 0=>rfl
 | i+1=>by show(List.set _ _ _).length=_;rw[List.length_set];exact gU clock rs xs i
def zB(clock:Int)(r:kI):Bool:=inB r.1 0 1000&&(inB r.2.1 0 100000&&inB r.2.2.1 0 clock)
theorem BT{clock:Int}(hc:0<=clock){rs:List kI}{s:aH}(hs:StateOk s)(h:∀ j,j<rs.length->zB clock (gt rs j)=true):
  ∀ i,i<=s.1.length->∀ j,j<rs.length->zB clock (gt (dJ clock rs s.1 i) j)=true
 | 0,_,j,hj=>h j hj
 | i+1,hi,j,hj=>by
  have ih:=BT hc hs h i (by omega)
  have he:=(hs.item _ (cO (xs:=s.1) (i:=i) (by omega))).2.1
  show zB clock (gt ((dJ clock rs s.1 i).set (gt s.1 i).1.toNat (mW clock (gt (dJ clock rs s.1 i) (gt s.1 i).1.toNat) (gt s.1 i).2)) j)=true
  by_cases e:(gt s.1 i).1.toNat=j
  ·rw[e,cC (by rw[gU];exact hj)]
   unfold mW
   cases pY (gt (dJ clock rs s.1 i) j) (gt s.1 i).2 with
   | false=>exact ih j hj
   | true=>
    unfold eE at he
    simp only[Bool.and_eq_true,aV] at he
    show zB clock ((gt s.1 i).2.1,(gt s.1 i).2.2.2.1,clock,())=true
    unfold zB
    simp only[Bool.and_eq_true,aV]
    omega
  ·rw[eD e];exact ih j hj
-- a node with another state, other rows and rises
def tkS(x:NodeT)(s:aH):List bT:=bP x.seen x.1 (cX (cF x.state s))
def tkP(x:NodeT)(s:aH):aH:=prune (cF x.state s) (tkS x s)
def tkR(x:NodeT)(s:aH):List kI:=dJ x.clock x.rises (tkP x s).1 (tkP x s).1.length
def jB(x:NodeT)(s:aH):NodeT:=
 (x.1,x.2.1,(tkP x s).1,(tkP x s).2.1,(cJ (tkP x s)).1,(cJ (tkP x s)).2.1,x.2.2.2.2.2.2.1,x.2.2.2.2.2.2.2.1,x.2.2.2.2.2.2.2.2.1,x.got,x.acked,tkS x s,x.num,x.slots,x.sess,x.wait,x.limit,x.clock,tkR x s,())
theorem y4(a:List aO):jE a a=true:=by
 unfold jE;simp[bR]
structure NodeOk (x:NodeT):Prop where
 n:inB x.2.1 1 5=true
 id:inB x.1 0 (i64.wrap (x.2.1 - 1))=true
 state:aP x.state=true
 tree:tL x=true
 log:gL x.log=true
 got:eH x.got x.2.1=true
 acked:eH x.acked x.2.1=true
 own:((gt x.got x.1.toNat).1==cE x.log)=true
 seen:gJ x.seen x.2.1=true
 ack:A5 x=true
 num:inB x.num 0 100000=true
 clock:inB x.clock 0 100000=true
 slots:inB x.slots 1 4=true
 wait:inB x.wait 1 20=true
 limit:inB x.limit 1 50=true
 rises:(x.rises.length:Int)==5
 rise:bR x.rises.length (kA x)=true
 sess:lL x=true
theorem gY(x:NodeT):dY x=true↔NodeOk x:=by
 unfold dY lR
 simp only[Bool.and_eq_true]
 constructor
 ·rintro ⟨h1,h2,h3,h4,h5,h6,h7,h8,h9,h10,h11,h12,h13,h14,h15,h16,h17,h18⟩
  exact⟨h1,h2,h3,h4,h5,h6,h7,h8,h9,h10,h11,h12,h13,h14,h15,h16,h17,h18⟩
 ·rintro ⟨h1,h2,h3,h4,h5,h6,h7,h8,h9,h10,h11,h12,h13,h14,h15,h16,h17,h18⟩
  exact⟨h1,h2,h3,h4,h5,h6,h7,h8,h9,h10,h11,h12,h13,h14,h15,h16,h17,h18⟩
theorem MZ{x:NodeT}{s:aH}(h:NodeOk x)(hs:aP s=true):aP (tkP x s)=true:=zH (nN h.state hs) _
theorem NodeOk.take{x:NodeT}{s:aH}(h:NodeOk x)(hs:aP s=true):NodeOk (jB x s) where
 n:=h.n
 id:=h.id
 state:=MZ h hs
 tree:=by
  show(jE (cJ (tkP x s)).1 (cJ (tkP x s)).1&&(cJ (tkP x s)).2.1==(cJ (tkP x s)).2.1)=true
  rw[y4];simp
 log:=h.log
 got:=h.got
 acked:=h.acked
 own:=h.own
 seen:=pS h.seen
 ack:=h.ack
 num:=h.num
 clock:=h.clock
 slots:=h.slots
 wait:=h.wait
 limit:=h.limit
 rises:=by
  show(((dJ x.clock x.rises (tkP x s).1 (tkP x s).1.length).length:Nat):Int)==5
  rw[gU];exact h.rises
 rise:=by
  show bR (dJ x.clock x.rises (tkP x s).1 (tkP x s).1.length).length _=true
  rw[gU,bL]
  intro i hi
  have hc:=h.clock;rw[aV] at hc
  exact BT hc.1 ((aS _).1 (MZ h hs)) (λj hj=>bL.1 h.rise j hj) _ (Nat.le_refl _) i hi
 sess:=h.sess
theorem MY(x:NodeT)(s:aH):SzS (tkP x s):=N2 (jK _ _) _
theorem KF(s:aH):(cJ s).1.length<=aW:=by
 unfold cJ;cases aP s with
 | false=>exact Nat.zero_le _
 | true=>show 4<=aW;decide
theorem lK{x:NodeT}(h:SzN x)(s:aH):SzN (jB x s) where
 state:=MY x s
 leaves:=KF _
 list:=h.list
 logs:=h.logs
 got:=h.got
 acked:=h.acked
 seen:=by show(tkS x s).length<=aW;unfold tkS;rw[dG];exact h.seen
 lines:=by
  intro i hi
  show(gt (tkS x s) i).1.length<=aW
  unfold tkS;rw[eY]
  exact h.lines i (by have:i<(tkS x s).length:=hi;unfold tkS at this;rw[dG] at this;exact this)
 sess:=h.sess
 rises:=by show(dJ x.clock x.rises (tkP x s).1 (tkP x s).1.length).length<=aW;rw[gU];exact h.rises
-- hearing
def heard0(x:NodeT)(m:MsgT):NodeT:=
 (x.1,x.2.1,x.2.2.1,x.2.2.2.1,x.2.2.2.2.1,x.2.2.2.2.2.1,x.2.2.2.2.2.2.1,x.2.2.2.2.2.2.2.1,x.2.2.2.2.2.2.2.2.1,x.got,c7 x.acked m.2.1 (mxI false (gt m.vec x.1.toNat).1 (cE x.log)),bP x.seen m.2.1 m.marks,x.num,x.slots,x.sess,x.wait,x.limit,x.clock,x.rises,())
def eG(x:NodeT)(m:MsgT):NodeT:=jB (heard0 x m) f4
def gotUp(x:NodeT)(m:MsgT):NodeT:=
 (x.1,x.2.1,x.2.2.1,x.2.2.2.1,x.2.2.2.2.1,x.2.2.2.2.2.1,x.2.2.2.2.2.2.1,x.2.2.2.2.2.2.2.1,x.2.2.2.2.2.2.2.2.1,c7 x.got m.2.1 m.hi,x.acked,x.seen,x.num,x.slots,x.sess,x.wait,x.limit,x.clock,x.rises,())
def eC(x:NodeT)(m:MsgT):NodeT:=gotUp (jB (eG x m) m.part) m
theorem CB{l:gR}(h:gL l=true):0<=cE l/\cE l<=100000:=by
 unfold cE;rw[h]
 unfold gL at h
 simp only[Bool.and_eq_true,aV,Bool.not_eq_true',decide_eq_false_iff_not] at h
 show 0<=i64.wrap _/\i64.wrap _<=100000
 rw[IntKind.wrap_i64] at h ⊢
 omega
theorem NodeOk.heard0{x:NodeT}(h:NodeOk x)(m:MsgT):NodeOk (heard0 x m) where
 n:=h.n
 id:=h.id
 state:=h.state
 tree:=h.tree
 log:=h.log
 got:=h.got
 acked:=wH h.acked (by rw[FG];have:=CB h.log;omega)
 own:=h.own
 seen:=pS h.seen
 ack:=by
  have:=h.ack
  unfold A5 at this ⊢
  rw[show(Go.Abs.heard0 x m).acked=c7 x.acked m.2.1 (mxI false (gt m.vec x.1.toNat).1 (cE x.log))from rfl,fS]
  rw[bL] at this ⊢
  intro i hi
  have h1:=this i hi
  rw[show(Go.Abs.heard0 x m).log=x.log from rfl]
  simp only[Bool.not_eq_true',decide_eq_false_iff_not] at h1 ⊢
  rcases pP x.acked m.2.1 (mxI false (gt m.vec x.1.toNat).1 (cE x.log)) i with e | e
  ·rw[e];exact h1
  ·rw[e,FG];omega
 num:=h.num
 clock:=h.clock
 slots:=h.slots
 wait:=h.wait
 limit:=h.limit
 rises:=h.rises
 rise:=h.rise
 sess:=h.sess
theorem NodeOk.heard{x:NodeT}(h:NodeOk x)(m:MsgT):NodeOk (eG x m):=(h.heard0 m).take xY
theorem CE{x:NodeT}(h:SzN x)(m:MsgT):SzN (heard0 x m) where
 state:=h.state
 leaves:=h.leaves
 list:=h.list
 logs:=h.logs
 got:=h.got
 acked:=by show(c7 _ _ _).length<=aW;rw[fS];exact h.acked
 seen:=by show(bP _ _ _).length<=aW;rw[dG];exact h.seen
 lines:=by
  intro i hi
  show(gt (bP x.seen m.2.1 m.marks) i).1.length<=aW
  rw[eY]
  exact h.lines i (by have:i<(bP x.seen m.2.1 m.marks).length:=hi;rw[dG] at this;exact this)
 sess:=h.sess
 rises:=h.rises
theorem lF{x:NodeT}(h:SzN x)(m:MsgT):SzN (eG x m):=lK (CE h m) _
theorem NodeOk.gotUp{x:NodeT}(h:NodeOk x){m:MsgT}(hi:m.hi<=100000)(hm:m.2.1.toNat≠x.1.toNat):NodeOk (gotUp x m) where
 n:=h.n
 id:=h.id
 state:=h.state
 tree:=h.tree
 log:=h.log
 got:=wH h.got hi
 acked:=h.acked
 own:=by
  show((gt (c7 x.got m.2.1 m.hi) x.1.toNat).1==cE x.log)=true
  rw[ED _ hm];exact h.own
 seen:=h.seen
 ack:=h.ack
 num:=h.num
 clock:=h.clock
 slots:=h.slots
 wait:=h.wait
 limit:=h.limit
 rises:=h.rises
 rise:=h.rise
 sess:=h.sess
theorem PC{x:NodeT}(h:SzN x)(m:MsgT):SzN (gotUp x m) where
 state:=h.state
 leaves:=h.leaves
 list:=h.list
 logs:=h.logs
 got:=by show(c7 _ _ _).length<=aW;rw[fS];exact h.got
 acked:=h.acked
 seen:=h.seen
 lines:=h.lines
 sess:=h.sess
 rises:=h.rises
theorem mN{x:NodeT}(h:SzN x)(m:MsgT):SzN (eC x m):=PC (lK (lF h m) _) _
-- messages
def nG(v:List aO)(top:Int):Bool:=bR v.length λi=>inB (gt v i).1 0 top
def treeB(t:mU):Bool:=bif(t.1.length:Int)==0 then t.2.1==0 else((t.1.length:Int)==4&&(nG t.1 1023&&inB t.2.1 0 1023))
def FS(v:List aO)(i:Nat):Bool:=inB (gt v i).1 0 3&&wT (λj=> !decide ((gt v (j+1)).1<=(gt v j).1)) i
def uD(m:MsgT):Bool:=inB m.1 0 5&&(eM m.2.1&&(eM m.2.2.1&& !(m.2.1==m.2.2.1)))
def eX(m:MsgT):Bool:=uD m&&((bR m.leaves.length (FS m.leaves))&&(nG m.vec 100000&&(inB m.2.2.2.1 0 100000&&(inB m.hi 0 100000&&(treeB m.tree&&(decide ((m.vec.length:Int)<=5)&&(aP m.part&&fG m.marks)))))))
def pJ(v:List aO)(most top:Int):Bool:= !decide ((v.length:Int)>most)&&nG v top
def FQ(v:List aO)(i:Nat):Bool:= !decide ((gt v (i+1)).1<=(gt v i).1)
def zR(m:MsgT):Bool:=inB m.1 0 5&&(eM m.2.1&&(eM m.2.2.1&&(!(m.2.1==m.2.2.1)&&(inB m.2.2.2.1 0 100000&&(inB m.hi 0 100000&&(treeB m.tree&&(pJ m.vec 5 100000&&(pJ m.leaves 4 3&&(aP m.part&&(fG m.marks&&bR (m.leaves.length - 1) (FQ m.leaves)))))))))))
theorem OY(v:List aO):(pJ v 4 3&&bR (v.length - 1) (FQ v))=bR v.length (FS v):=by
 rw[Bool.eq_iff_iff]
 unfold pJ nG FS FQ
 simp only[Bool.and_eq_true,bL,Bool.not_eq_true',decide_eq_false_iff_not]
 constructor
 ·rintro ⟨⟨_,h2⟩,h3⟩ i hi
  refine⟨h2 i hi,?_⟩
  cases i with
  | zero=>rfl
  | succ j=>show(!decide ((gt v (j+1)).1<=(gt v j).1))=true;rw[decide_eq_false (h3 j (by omega))];rfl
 ·intro h
  have hp:∀ j,j+1<v.length->(gt v j).1<(gt v (j+1)).1:=λj hj=>by
   have:=(h (j+1) hj).2
   unfold wT at this
   simpa using this
  have hge:∀ i,i<v.length->(i:Int)<=(gt v i).1:=by
   intro i
   induction i with
   | zero=>intro hi;have:=(h 0 hi).1;rw[aV] at this;exact this.1
   | succ j ih=>intro hi;have:=ih (by omega);have:=hp j hi;omega
  refine⟨⟨?_,λi hi=>(h i hi).1⟩,λi hi=>by have:=hp i (by omega);omega⟩
  rcases Nat.lt_or_ge 4 v.length with h5 | h5
  ·have h6:=hge 4 h5
   have:=(h 4 h5).1;rw[aV] at this;omega
  ·omega
theorem JL(m:MsgT):zR m=eX m:=by
 unfold zR eX uD
 rw[<- OY]
 unfold pJ
 simp only[vM]
 ac_rfl
theorem z2{m:MsgT}(h:eX m=true):m.leaves.length<=4:=by
 rw[<- JL] at h
 unfold zR pJ at h
 simp only[Bool.and_eq_true,Bool.not_eq_true',decide_eq_false_iff_not] at h
 omega
end Go.Abs
-- messages and receiving: plain laws
namespace Go.Abs
theorem cQ{β:Type}{o:Option Out}{A B C:List Kd}{r:Row A}{s:Row B}{t:Row C}{f:Rows [A,B,C]×Rows []->Option β}(h:o=some ⟨[⟨A,r⟩,⟨B,s⟩,⟨C,t⟩],[]⟩):(o.bind (dQ [A,B,C] [])).bind f=f ((r,s,t,()),()):=by
 rw[h];simp[dQ,fB,jL];rfl
def jD(l:List aH)(k:Nat):Nat->aH
 | 0=>f4
 | i+1=>cF (jD l k i) (gt l (k+i))
theorem y2(l:List aH)(k:Nat):∀ i,SzS (jD l k i)
 | 0=>iA
 | i+1=>jK _ _
theorem sJ{l:gR}(h:gL l=true)(k:Nat):∀ i,k+i<=l.2.2.1.length->aP (jD l.2.2.1 k i)=true
 | 0,_=>xY
 | i+1,hi=>nN (sJ h k i (by omega)) (by
   unfold gL at h
   simp only[Bool.and_eq_true] at h
   exact bL.1 h.2.2.2.2 (k+i) (by omega))
def jT(l:gR)(seq:Int):Bool:=gL l&&inB seq l.2.1 (i64.wrap (l.2.1+(l.2.2.1.length:Int)))
def dV(l:gR)(seq:Int):Nat:=(seq - l.2.1).toNat
def lW(l:gR)(seq:Int):aH:=bif jT l seq then jD l.2.2.1 (dV l seq) (l.2.2.1.length - dV l seq)else f4
theorem yZ{l:gR}{seq:Int}(h:jT l seq=true):l.2.1+((dV l seq:Nat):Int)=seq/\dV l seq<=l.2.2.1.length/\0<=l.2.1/\l.2.1<=100000/\l.2.2.1.length<=8:=by
 unfold jT gL at h
 simp only[Bool.and_eq_true,aV,Bool.not_eq_true',decide_eq_false_iff_not] at h
 unfold dV
 rw[IntKind.wrap_i64] at h
 omega
def rT(x:NodeT)(seq:Int):aH:=bif jT x.log seq then lW x.log seq else x.state
theorem ES{x:NodeT}(h:SzN x)(seq:Int):SzS (rT x seq):=by
 unfold rT lW
 cases jT x.log seq with
 | false=>exact h.state
 | true=>exact y2 _ _ _
theorem NG{x:NodeT}(h:NodeOk x)(seq:Int):aP (rT x seq)=true:=by
 unfold rT lW
 cases hs:jT x.log seq with
 | false=>exact h.state
 | true=>have:=yZ hs;exact sJ h.log _ _ (by omega)
theorem NC{s:aH}(h:SzS s)(ls:List aO):SzS (jC s ls):=
 ⟨Nat.le_trans (List.length_filter_le ..) h.1,Nat.le_trans (List.length_filter_le ..) h.2⟩
theorem ND{s:aH}(h:aP s=true)(ls:List aO):aP (jC s ls)=true:=(aS _).2 (((aS _).1 h).slice ls)
def FB(x:NodeT)(ls:List aO)(seq:Int):aH:=cF (jC x.state ls) (rT x seq)
def j7(a b:mU)(i:Nat):List aO:=bif(a.1.length:Int) != 4 then[((i:Int),())] else bif(b.1.length:Int) != 4 then[((i:Int),())] else bif(gt a.1 i).1 != (gt b.1 i).1 then[((i:Int),())] else[]
def lX(a b:mU):List aO:=bif a.2.1==b.2.1 then[] else bN 4 (j7 a b)
theorem xH(a b:mU)(i:Nat):(j7 a b i).length<=1:=by
 unfold j7
 cases (a.1.length:Int) != 4<;>cases (b.1.length:Int) != 4<;>cases (gt a.1 i).1 != (gt b.1 i).1<;>simp
theorem s8(a b:mU):(lX a b).length<=4:=by
 unfold lX
 cases a.2.1==b.2.1 with
 | true=>exact Nat.zero_le _
 | false=>exact dE (n:=4) (L:=1) λi _=>xH a b i
def RT(x:NodeT)(kind to num:Int):MsgT:=(kind,x.1,to,num,cE x.log,[],0,x.got,[],[],[],cX x.state,())
-- exchanges
def withS(x:NodeT)(ss:List eF):NodeT:=
 (x.1,x.2.1,x.2.2.1,x.2.2.2.1,x.2.2.2.2.1,x.2.2.2.2.2.1,x.2.2.2.2.2.2.1,x.2.2.2.2.2.2.2.1,x.2.2.2.2.2.2.2.2.1,x.got,x.acked,x.seen,x.num,x.slots,ss,x.wait,x.limit,x.clock,x.rises,())
def pO(s:eF):Int×Bool:=(s.1,s.2.2.1)
def SS(x:NodeT)(s:eF):Prop:=inB s.1 0 (i64.wrap (x.2.1 - 1))=true/\s.1≠x.1/\inB s.2.1 0 100000=true/\inB s.2.2.2.1 0 x.wait=true
theorem kX{v:List eF}{k:Nat}{p:Int}{b:Bool}:dN v k p b=true↔pO (gt v k)=(p,b):=by
 unfold dN pO
 rw[Bool.and_eq_true,beq_iff_eq,P6,Prod.mk.injEq]
theorem N9(v:List eF):(∀ i,i<v.length->B0 v i=true)↔(v.map pO).Nodup:=by
 unfold List.Nodup
 rw[List.pairwise_iff_getElem]
 unfold B0
 simp only[bL,Bool.not_eq_true',List.length_map,List.getElem_map]
 constructor
 ·intro h i j hi hj hij e
  have:=h j hj i hij
  rw[<- Bool.not_eq_true,kX] at this
  apply this
  rw[cY hi,cY hj];exact e
 ·intro h j hj i hij
  rw[<- Bool.not_eq_true,kX]
  intro e
  refine h i j (by omega) hj hij ?_
  rw[cY (by omega),cY hj] at e;exact e
theorem dW(x:NodeT):lL x=true↔(x.sess.length:Int)<=x.slots/\(∀ s∈x.sess,SS x s)/\(x.sess.map pO).Nodup:=by
 rw[<- N9]
 unfold lL nB
 simp only[Bool.and_eq_true,bL,Bool.not_eq_true',decide_eq_false_iff_not]
 constructor
 ·rintro ⟨h1,h2⟩
  refine⟨by omega,λs hs=>?_,λi hi=>(h2 i hi).2.2.2.2⟩
  obtain⟨i,hi,rfl⟩:=gZ hs
  obtain⟨a,b,c,d,_⟩:=h2 i hi
  refine⟨a,?_,c,d⟩
  intro e;rw[e] at b;simp at b
 ·rintro ⟨h1,h2,h3⟩
  refine⟨by omega,λi hi=>?_⟩
  obtain⟨a,b,c,d⟩:=h2 _ (cO hi)
  exact⟨a,by simpa using b,c,d,h3 i hi⟩
theorem NodeOk.withS{x:NodeT}(h:NodeOk x){ss:List eF}(h1:(ss.length:Int)<=x.slots)(h2:∀ s∈ss,SS x s)(h3:(ss.map pO).Nodup):NodeOk (withS x ss) where
 n:=h.n
 id:=h.id
 state:=h.state
 tree:=h.tree
 log:=h.log
 got:=h.got
 acked:=h.acked
 own:=h.own
 seen:=h.seen
 ack:=h.ack
 num:=h.num
 clock:=h.clock
 slots:=h.slots
 wait:=h.wait
 limit:=h.limit
 rises:=h.rises
 rise:=h.rise
 sess:=(dW _).2 ⟨h1,h2,h3⟩
theorem tI{x:NodeT}(h:SzN x){ss:List eF}(h1:ss.length<=aW):SzN (withS x ss):=
 ⟨h.state,h.leaves,h.list,h.logs,h.got,h.acked,h.seen,h.lines,h1,h.rises⟩
theorem hX(v:List eF)(p:Int)(b:Bool):(∃ k:Nat,k<v.length/\c8 v p b=(k:Int)/\pO (gt v k)=(p,b))\/(c8 v p b= -1/\∀ s∈v,pO s≠(p,b)):=by
 unfold c8
 cases hf:(List.range v.length).find? (λk=>dN v k p b)with
 | none=>
  refine .inr ⟨rfl,λs hs e=>?_⟩
  obtain⟨i,hi,rfl⟩:=gZ hs
  have:=List.find?_eq_none.1 hf i (List.mem_range.2 hi)
  exact this (kX.2 e)
 | some k=>
  refine .inl ⟨k,List.mem_range.1 (List.mem_of_find?_eq_some hf),rfl,?_⟩
  exact kX.1 (show dN v k p b=true from List.find?_some (p:=λk=>dN v k p b) hf)
def sD(x:NodeT)(m:MsgT)(b:Bool):Int:=bif decide (c8 x.sess m.2.1 b>=0)then(bif(gt x.sess (c8 x.sess m.2.1 b).toNat).2.1 != m.2.2.2.1 then -1 else c8 x.sess m.2.1 b)else c8 x.sess m.2.1 b
def kE(x:NodeT)(k:Nat):NodeT:=withS x (x.sess.take k++x.sess.drop (k+1))
theorem PF{x:NodeT}(h:NodeOk x)(k:Nat):NodeOk (kE x k):=by
 have hs:=(dW x).1 h.sess
 have sub:List.Sublist (x.sess.take k++x.sess.drop (k+1)) x.sess:=by rw[<- List.eraseIdx_eq_take_drop_succ];exact List.eraseIdx_sublist ..
 refine h.withS ?_ (λs hm=>hs.2.1 s (sub.subset hm)) ((sub.map pO).nodup hs.2.2)
 have:=sub.length_le;omega
theorem F0{x:NodeT}(h:SzN x)(k:Nat):SzN (kE x k):=tI h (by
 have:=h.sess;rw[List.length_append,List.length_take,List.length_drop];omega)
def oO(x:NodeT)(k:Nat)(num:Int):List eF:=x.sess.set k ((gt x.sess k).1,num,(gt x.sess k).2.2.1,(0:Int),())
def lA(x:NodeT)(m:MsgT):List eF:=x.sess++[(m.2.1,m.2.2.2.1,true,(0:Int),())]
theorem K0{x:NodeT}(h:NodeOk x){k:Nat}(hk:k<x.sess.length){num:Int}(hn:inB num 0 100000=true):NodeOk (withS x (oO x k num)):=by
 have hs:=(dW x).1 h.sess
 refine h.withS (by unfold oO;rw[List.length_set];exact hs.1) (λs hm=>?_) ?_
 ·rcases List.mem_or_eq_of_mem_set hm with h1 | h1
  ·exact hs.2.1 s h1
  ·have h2:=hs.2.1 _ (cO hk)
   rw[h1]
   refine⟨h2.1,h2.2.1,hn,?_⟩
   have:=h.wait;rw[aV] at this ⊢;show 0<=(0:Int)/\(0:Int)<=x.wait;omega
 ·unfold oO
  rw[List.map_set,show pO ((gt x.sess k).1,num,(gt x.sess k).2.2.1,(0:Int),())=pO (gt x.sess k)from rfl]
  have:(x.sess.map pO).set k (pO (gt x.sess k))=x.sess.map pO:=by
   rw[<- List.map_set,sK]
  rw[this];exact hs.2.2
theorem I3{x:NodeT}(h:NodeOk x){m:MsgT}(hp:inB m.2.1 0 (i64.wrap (x.2.1 - 1))=true)(hi:m.2.1≠x.1)(hn:inB m.2.2.2.1 0 100000=true)(hf:c8 x.sess m.2.1 true<0)(hl:(x.sess.length:Int)≠x.slots):NodeOk (withS x (lA x m)):=by
 have hs:=(dW x).1 h.sess
 refine h.withS (by unfold lA;rw[List.length_append,List.length_singleton];omega) (λs hm=>?_) ?_
 ·rcases List.mem_append.1 hm with h1 | h1
  ·exact hs.2.1 s h1
  ·rw[List.mem_singleton.1 h1]
   refine⟨hp,hi,hn,?_⟩
   have:=h.wait;rw[aV] at this ⊢;show 0<=(0:Int)/\(0:Int)<=x.wait;omega
 ·unfold lA
  rw[List.map_append,List.nodup_append]
  refine⟨hs.2.2,by simp,λa ha b hb=>?_⟩
  obtain⟨s,hs1,rfl⟩:=List.mem_map.1 ha
  have hb:b=(m.2.1,true):=by simpa [pO] using hb
  rw[hb]
  rcases hX x.sess m.2.1 true with ⟨k,_,e,_⟩ | ⟨_,e⟩
  ·rw[e] at hf;omega
  ·exact e s hs1
-- receiving
def HA(o:NodeT)(x:NodeT)(m:MsgT):MsgT:=
 (3,o.1,m.2.1,m.2.2.2.1,cE o.log,o.tree.1,o.tree.2.1,o.got,lX o.tree m.tree,(FB o (lX o.tree m.tree) (gt m.vec x.1.toNat).1).1,(FB o (lX o.tree m.tree) (gt m.vec x.1.toNat).1).2.1,cX o.state,())
def SQ(o:NodeT)(x:NodeT)(m:MsgT):MsgT:=
 (4,o.1,m.2.1,m.2.2.2.1,cE o.log,[],0,o.got,m.leaves,(FB o m.leaves (gt m.vec x.1.toNat).1).1,(FB o m.leaves (gt m.vec x.1.toNat).1).2.1,cX o.state,())
abbrev I5:=NodeT×List MsgT×Int
def hU(x:NodeT)(m:MsgT):List eF:=bif decide (c8 x.sess m.2.1 true>=0)then oO x (c8 x.sess m.2.1 true).toNat m.2.2.2.1 else lA x m
def KK(x:NodeT)(m:MsgT):NodeT:=eG (withS x (hU x m)) m
def kV(x:NodeT)(m:MsgT):Bool:= !decide (c8 x.sess m.2.1 true>=0)&&(x.sess.length:Int)==x.slots
def oK(x:NodeT)(m:MsgT):I5:=bif kV x m then(x,[RT x 5 m.2.1 m.2.2.2.1],3)else(KK x m,[HA (KK x m) x m],0)
def sM(x:NodeT)(m:MsgT)(k:Nat):I5:=
 bif m.1==5 then(kE x k,[],0)else bif m.1==4 then(eC (kE x k) m,[],0)else(eC (kE x k) m,[SQ (eC (kE x k) m) x m],0)
def zD(x:NodeT)(m:MsgT):I5:=
 bif m.1==0 then(eC x m,[RT (eC x m) 1 m.2.1 m.2.2.2.1],0)else
 bif m.1==1 then(eG x m,[],0)else bif m.1==2 then oK x m else
 bif decide (sD x m (m.1==4)<0)then(x,[],2)else sM x m (sD x m (m.1==4)).toNat
def mG(x:NodeT)(m:MsgT):Bool:=dY x&&(eX m&&(m.2.2.1==x.1&&(!decide (m.2.1>=x.2.1)&&(m.vec.length:Int)==x.2.1)))
def gV(x:NodeT)(m:MsgT):I5:=bif mG x m then zD x m else(x,[],1)
structure RecOk (x:NodeT) (m:MsgT):Prop where
 node:NodeOk x
 msg:eX m=true
 idn:0<=x.1/\x.1<x.2.1/\1<=x.2.1/\x.2.1<=5
 frm:0<=m.2.1/\m.2.1<x.2.1
 ne:m.2.1≠x.1
 vec:(m.vec.length:Int)=x.2.1
 to:m.2.2.1=x.1
 num:inB m.2.2.2.1 0 100000=true
 hi:0<=m.hi/\m.hi<=100000
 part:aP m.part=true
 marks:fG m.marks=true
 leaves:m.leaves.length<=4
theorem EZ{x:NodeT}{m:MsgT}(h:mG x m=true):RecOk x m:=by
 unfold mG at h
 simp only[Bool.and_eq_true,beq_iff_eq,Bool.not_eq_true',decide_eq_false_iff_not] at h
 obtain⟨h1,h2,h3,h4,h5⟩:=h
 have hn:=(gY x).1 h1
 have a1:=hn.n
 have a2:=hn.id
 rw[aV] at a1 a2
 rw[IntKind.wrap_i64] at a2
 have hm:=h2
 unfold eX uD eM at hm
 simp only[Bool.and_eq_true,aV,Bool.not_eq_true',beq_eq_false_iff_ne] at hm
 obtain⟨⟨b1,b2,b3,b4⟩,b5,b6,b7,b8,b9,b10,b11,b12⟩:=hm
 exact⟨hn,h2,by omega,by omega,by rw[<- h3];exact b4,h5,h3,aV.2 b7,b8,b11,b12,z2 h2⟩
theorem RecOk.gone{x:NodeT}{m:MsgT}(h:RecOk x m)(k:Nat):RecOk (kE x k) m:=
 ⟨PF h.node k,h.msg,h.idn,h.frm,h.ne,h.vec,h.to,h.num,h.hi,h.part,h.marks,h.leaves⟩
theorem RecOk.brought{x:NodeT}{m:MsgT}(h:RecOk x m):NodeOk (eC x m):=
 NodeOk.gotUp ((h.node.heard m).take h.part) h.hi.2 (by
  have h1:=h.ne;have h2:=h.idn;have h3:=h.frm
  show m.2.1.toNat≠x.1.toNat
  omega)
theorem RecOk.syn{x:NodeT}{m:MsgT}(h:RecOk x m)(hf:kV x m=false):RecOk (withS x (hU x m)) m:=by
 refine⟨?_,h.msg,h.idn,h.frm,h.ne,h.vec,h.to,h.num,h.hi,h.part,h.marks,h.leaves⟩
 unfold hU
 unfold kV at hf
 by_cases hc:c8 x.sess m.2.1 true>=0
 ·rw[decide_eq_true hc]
  rcases hX x.sess m.2.1 true with ⟨k,hk,e,_⟩ | ⟨e,_⟩
  ·show NodeOk (withS x (oO x (c8 x.sess m.2.1 true).toNat m.2.2.2.1))
   rw[e];exact K0 h.node hk h.num
  ·omega
 ·rw[decide_eq_false hc] at hf ⊢
  refine I3 h.node ?_ h.ne h.num (by omega) (by intro e;rw[e] at hf;simp at hf)
  have h2:=h.idn;have h3:=h.frm
  rw[aV,IntKind.wrap_i64];omega
theorem wI{x:NodeT}(h:NodeOk x)(m:MsgT):(hU x m).length<=aW:=by
 have h1:=((dW x).1 h.sess).1
 have h2:=h.slots;rw[aV] at h2
 unfold hU oO lA aW
 cases decide (c8 x.sess m.2.1 true>=0)with
 | true=>show(List.set _ _ _).length<=_;rw[List.length_set];omega
 | false=>show(x.sess++[_]).length<=_;rw[List.length_append,List.length_singleton];omega
theorem QT{x:NodeT}(hz:SzN x)(h:NodeOk x)(m:MsgT):SzN (KK x m):=lF (tI hz (wI h m)) m
theorem Q6{x:NodeT}{m:MsgT}(h:mG x m=false):gV x m=(x,[],1):=by unfold gV;rw[h];rfl
theorem NQ{x:NodeT}{m:MsgT}(h:mG x m=true):gV x m=zD x m:=by unfold gV;rw[h];rfl
-- an exchange taken out, as the code does it
def S9(x:NodeT)(k:Int):List eF:=([]++((x.sess.take (k.toNat)).drop 0))++((x.sess.take x.sess.length).drop ((i64.wrap (k+1))).toNat)
theorem Q7{x:NodeT}{k:Nat}(hk:k<x.sess.length)(hl:x.sess.length<=aW):S9 x (k:Int)=x.sess.take k++x.sess.drop (k+1):=by
 unfold S9
 rw[aM (Nat.lt_of_lt_of_le hk (Nat.le_trans hl (by decide))),List.take_length,Int.toNat_natCast,Int.toNat_natCast];rfl
theorem NW{x:NodeT}{k:Nat}(hk:k<x.sess.length)(hl:x.sess.length<=aW):withS x (S9 x (k:Int))=kE x k:=by rw[Q7 hk hl];rfl
theorem PR{α β:Type}{ss:List α}{k:Nat}{F Z:β}(hk:k<ss.length)(hl:ss.length<=aW):
  (bif decide (0<=(k:Int))&&decide ((k:Int)<=(ss.length:Int))then(bif decide (List.length ([]:List α)+List.length ((ss.take ((k:Int).toNat)).drop 0)<=bound)then
   (bif decide (0<=i64.wrap ((k:Int)+1))&&decide (i64.wrap ((k:Int)+1)<=(ss.length:Int))then
    (bif decide (List.length ([]++((ss.take ((k:Int).toNat)).drop 0))+List.length ((ss.take ss.length).drop ((i64.wrap ((k:Int)+1))).toNat)<=bound)then F else Z)else Z)else Z)else Z)=F:=by
 have hb:aW<=bound:=by decide
 rw[aM (Nat.lt_of_lt_of_le hk (Nat.le_trans hl (by decide)))]
 refine(uV (Int.natCast_nonneg _) (by omega)).trans ?_
 refine(aE (by rw[List.drop_zero,List.length_take];simp;omega)).trans ?_
 refine(uV (Int.natCast_nonneg _) (by omega)).trans ?_
 exact aE (by rw[List.nil_append,List.drop_zero,List.length_take,List.length_drop,List.length_take,Int.toNat_natCast,Int.toNat_natCast];omega)
end Go.Abs
-- exchanges begun and gone through: plain laws
namespace Go.Abs
def pT(x:NodeT)(to:Int):Bool:=dY x&&(mH x to&&(!decide (c8 x.sess to false>=0)&&(!((x.sess.length:Int)==x.slots)&& !(x.num==100000))))
def EN(x:NodeT)(to:Int):NodeT:=
 (x.1,x.2.1,x.2.2.1,x.2.2.2.1,x.2.2.2.2.1,x.2.2.2.2.2.1,x.2.2.2.2.2.2.1,x.2.2.2.2.2.2.2.1,x.2.2.2.2.2.2.2.2.1,x.got,x.acked,x.seen,i64.wrap (x.num+1),x.slots,x.sess++[(to,i64.wrap (x.num+1),false,(0:Int),())],x.wait,x.limit,x.clock,x.rises,())
def S3(x:NodeT)(to:Int):MsgT:=(2,x.1,to,i64.wrap (x.num+1),cE x.log,x.tree.1,x.tree.2.1,x.got,[],[],[],cX x.state,())
def BD:MsgT:=((0:Int),(0:Int),(0:Int),(0:Int),(0:Int),[],(0:Int),[],[],[],[],[],())
abbrev UX:=NodeT×MsgT×Bool
def iU(x:NodeT)(to:Int):UX:=bif pT x to then(EN x to,S3 x to,true)else(x,BD,false)
structure SynOk (x:NodeT) (to:Int):Prop where
 node:NodeOk x
 peer:0<=to/\to<x.2.1/\to≠x.1
 slot:c8 x.sess to false<0
 room:(x.sess.length:Int)<x.slots
 num:0<=x.num/\x.num<100000
 nn:1<=x.2.1/\x.2.1<=5
theorem tO{x:NodeT}{to:Int}(h:pT x to=true):SynOk x to:=by
 unfold pT mH at h
 simp only[Bool.and_eq_true,Bool.not_eq_true',decide_eq_false_iff_not,beq_eq_false_iff_ne,bne_iff_ne,aV] at h
 obtain⟨h1,⟨h2,h3⟩,h4,h5,h6⟩:=h
 have hn:=(gY x).1 h1
 have h7:=hn.n;have h8:=hn.num
 have h9:=((dW x).1 hn.sess).1
 rw[aV] at h7 h8
 rw[IntKind.wrap_i64] at h2
 exact⟨hn,by omega,by omega,by omega,by omega,by omega⟩
theorem HF{n:Int}(h:0<=n/\n<100000):i64.wrap (n+1)=n+1:=by rw[IntKind.wrap_i64];omega
theorem SynOk.up{x:NodeT}{to:Int}(h:SynOk x to):NodeOk (EN x to) where
 n:=h.node.n
 id:=h.node.id
 state:=h.node.state
 tree:=h.node.tree
 log:=h.node.log
 got:=h.node.got
 acked:=h.node.acked
 own:=h.node.own
 seen:=h.node.seen
 ack:=h.node.ack
 num:=by show inB (i64.wrap (x.num+1)) 0 100000=true;rw[HF h.num,aV];have:=h.num;omega
 clock:=h.node.clock
 slots:=h.node.slots
 wait:=h.node.wait
 limit:=h.node.limit
 rises:=h.node.rises
 rise:=h.node.rise
 sess:=by
  have hs:=(dW x).1 h.node.sess
  refine(dW _).2 ⟨?_,λs hm=>?_,?_⟩
  ·show(((x.sess++[_]).length:Nat):Int)<=x.slots
   rw[List.length_append,List.length_singleton];have:=h.room;omega
  ·have hm:s∈x.sess++[(to,i64.wrap (x.num+1),false,(0:Int),())]:=hm
   rcases List.mem_append.1 hm with h1 | h1
   ·exact hs.2.1 s h1
   ·rw[List.mem_singleton.1 h1]
    have h2:=h.peer;have h3:=h.num;have h4:=h.node.wait;have h5:=h.nn
    rw[aV] at h4
    refine⟨?_,h2.2.2,?_,?_⟩
    ·show inB to 0 (i64.wrap (x.2.1 - 1))=true
     rw[aV,IntKind.wrap_i64];omega
    ·show inB (i64.wrap (x.num+1)) 0 100000=true
     rw[HF h.num,aV];omega
    ·show inB 0 0 x.wait=true
     rw[aV];omega
  ·show(List.map pO (x.sess++[(to,i64.wrap (x.num+1),false,(0:Int),())])).Nodup
   rw[List.map_append,List.nodup_append]
   refine⟨hs.2.2,by simp,λa ha b hb=>?_⟩
   obtain⟨s,hs1,rfl⟩:=List.mem_map.1 ha
   have hb:b=(to,false):=by simpa [pO] using hb
   rw[hb]
   rcases hX x.sess to false with ⟨k,_,e,_⟩ | ⟨_,e⟩
   ·have:=h.slot;rw[e] at this;omega
   ·exact e s hs1
theorem EM{x:NodeT}{to:Int}(hz:SzN x)(h:SynOk x to):SzN (EN x to):=
 ⟨hz.state,hz.leaves,hz.list,hz.logs,hz.got,hz.acked,hz.seen,hz.lines,by
  have h1:=h.room;have h2:=h.node.slots;rw[aV] at h2
  show(x.sess++[_]).length<=aW
  rw[List.length_append,List.length_singleton];unfold aW;omega,hz.rises⟩
theorem QU{x:NodeT}(hz:SzN x)(to:Int):SzM (S3 x to):=⟨hz.leaves,hz.got,Nat.zero_le _,iA,Nat.le_trans (fQ _) (by decide)⟩
theorem JN:SzM BD:=⟨Nat.zero_le _,Nat.zero_le _,Nat.zero_le _,iA,Nat.zero_le _⟩
theorem C6{x:NodeT}(hz:SzN x)(to:Int):SzN (iU x to).1/\SzM (iU x to).2.1:=by
 unfold iU
 cases h:pT x to with
 | false=>exact⟨hz,JN⟩
 | true=>exact⟨EM hz (tO h),QU hz to⟩
theorem M3{x:NodeT}{to:Int}(h:pT x to=true):iU x to=(EN x to,S3 x to,true):=by unfold iU;rw[h];rfl
theorem QS{x:NodeT}{to:Int}(h:pT x to=false):iU x to=(x,BD,false):=by unfold iU;rw[h];rfl
-- who answers whom
structure RecTo (x:NodeT) (m:MsgT) (r:I5):Prop where
 id:r.1.1=x.1
 to:∀ q∈r.2.1,q.2.2.1=m.2.1/\q.2.1=x.1
-- an exchange gone through
end Go.Abs
-- saying: plain laws
namespace Go.Abs
abbrev QF:=aH×Int
def zL(id:Int)(e:bH):aH:=bif aP ([(id,e)],[],())then([(id,e)],[],())else f4
theorem uB(id:Int)(e:bH):aP (zL id e)=true:=by
 unfold zL
 cases h:aP ([(id,e)],[],())with
 | true=>exact h
 | false=>rfl
def upE(s:aH)(id:Int):bH×Int:=bif aP s then(bif eM id then(bif(oT s id).2 then((oT s id).1,0)else(c6,3))else(c6,1))else(c6,1)
def uH(s:aH)(id:Int):Int:=mxI true (bG s id).1.1 (cL s.2.1 id)
def qW(s:aH)(id:Int):QF:=bif aP s then(bif eM id then(bif(oT s id).2 then(f4,2)else bif uH s id==1000 then(f4,4)else(zL id (i64.wrap (uH s id+1),0,0,0,⟨#[]⟩,()),0))else(f4,1))else(f4,1)
def qY(s:aH)(id:Int):QF:=bif(upE s id).2 != 0 then(f4,(upE s id).2)else bif(upE s id).1.2.2.1==100000 then(f4,4)else
 (zL id ((upE s id).1.1,(upE s id).1.2.1,i64.wrap ((upE s id).1.2.2.1+1),(upE s id).1.2.2.2.1,(upE s id).1.2.2.2.2.1,()),0)
def vE(s:aH)(id:Int)(t:ByteArray):QF:=bif(upE s id).2 != 0 then(f4,(upE s id).2)else bif(upE s id).1.2.2.2.1==1000 then(f4,4)else bif decide (((ByteArray.size t:Nat):Int)>8)then(f4,4)else
 (zL id ((upE s id).1.1,(upE s id).1.2.1,(upE s id).1.2.2.1,i64.wrap ((upE s id).1.2.2.2.1+1),t,()),0)
def qX(s:aH)(id:Int):QF:=bif(upE s id).2 != 0 then(f4,(upE s id).2)else(zL id ((upE s id).1.1,1,(upE s id).1.2.2.1,(upE s id).1.2.2.2.1,(upE s id).1.2.2.2.2.1,()),0)
def fP(s:aH)(k id:Int)(t:ByteArray):QF:=bif k==0 then qW s id else bif k==1 then qY s id else bif k==2 then vE s id t else qX s id
theorem G6(s:aH)(id:Int):aP (qW s id).1=true:=by
 unfold qW
 cases aP s<;>cases eM id<;>cases (oT s id).2<;>cases uH s id==1000<;>first | rfl | exact uB _ _
theorem G8(s:aH)(id:Int):aP (qY s id).1=true:=by
 unfold qY
 cases (upE s id).2 != 0<;>cases (upE s id).1.2.2.1==100000<;>first | rfl | exact uB _ _
theorem KR(s:aH)(id:Int)(t:ByteArray):aP (vE s id t).1=true:=by
 unfold vE
 cases (upE s id).2 != 0<;>cases (upE s id).1.2.2.2.1==1000<;>cases decide (((ByteArray.size t:Nat):Int)>8)<;>first | rfl | exact uB _ _
theorem G7(s:aH)(id:Int):aP (qX s id).1=true:=by
 unfold qX
 cases (upE s id).2 != 0<;>first | rfl | exact uB _ _
theorem EV(s:aH)(k id:Int)(t:ByteArray):aP (fP s k id t).1=true:=by
 unfold fP
 cases k==0
 ·cases k==1
  ·cases k==2
   ·exact G7 s id
   ·exact KR s id t
  ·exact G8 s id
 ·exact G6 s id
-- logs
def mT(l:gR)(d:aH):Bool:=gL l&&(aP d&& !(i64.wrap (l.2.1+(l.2.2.1.length:Int))==100000))
def gH(l:gR)(d:aH):gR:=bif decide ((((l.2.2.1++[d]).length:Nat):Int)>l.1)then(l.1,i64.wrap (l.2.1+1),(l.2.2.1++[d]).drop 1,())else(l.1,l.2.1,l.2.2.1++[d],())
def sU(l:gR)(d:aH):gR×Bool:=bif mT l d then(gH l d,true)else(l,false)
structure LogOk (l:gR):Prop where
 cap:1<=l.1/\l.1<=8
 len:(l.2.2.1.length:Int)<=l.1
 frm:0<=l.2.1/\l.2.1<=100000
 top:l.2.1+(l.2.2.1.length:Int)<=100000
 all:∀ s∈l.2.2.1,aP s=true
theorem nJ(l:gR):gL l=true↔LogOk l:=by
 unfold gL
 simp only[Bool.and_eq_true,aV,Bool.not_eq_true',decide_eq_false_iff_not,bL]
 constructor
 ·rintro ⟨h1,h2,h3,h4,h5⟩
  rw[IntKind.wrap_i64] at h4
  refine⟨h1,by omega,h3,by omega,λs hs=>?_⟩
  obtain⟨i,hi,rfl⟩:=gZ hs
  exact h5 i hi
 ·rintro ⟨h1,h2,h3,h4,h5⟩
  rw[IntKind.wrap_i64]
  exact⟨h1,by omega,h3,by omega,λi hi=>h5 _ (cO hi)⟩
theorem rI{l:gR}(h:LogOk l):cE l=l.2.1+(l.2.2.1.length:Int):=by
 have h1:=h.frm;have h2:=h.top
 unfold cE;rw[(nJ l).2 h];show i64.wrap _=_;rw[IntKind.wrap_i64];omega
theorem LO{l:gR}{d:aH}(h:LogOk l)(hd:aP d=true)(hn:l.2.1+(l.2.2.1.length:Int)<100000):LogOk (gH l d)/\cE (gH l d)=cE l+1:=by
 have h1:=h.cap;have h2:=h.len;have h3:=h.frm
 have hl:(l.2.2.1++[d]).length=l.2.2.1.length+1:=by rw[List.length_append,List.length_singleton]
 have ha:∀ s∈l.2.2.1++[d],aP s=true:=λs hs=>by
  rcases List.mem_append.1 hs with hs | hs
  ·exact h.all s hs
  ·rw[List.mem_singleton.1 hs];exact hd
 have key:LogOk (gH l d)/\(gH l d).2.1+(((gH l d).2.2.1.length:Nat):Int)=l.2.1+(l.2.2.1.length:Int)+1:=by
  unfold gH
  by_cases hc:(((l.2.2.1++[d]).length:Nat):Int)>l.1
  ·rw[decide_eq_true hc]
   have hw:i64.wrap (l.2.1+1)=l.2.1+1:=by rw[IntKind.wrap_i64];omega
   have hdl:((l.2.2.1++[d]).drop 1).length=l.2.2.1.length:=by rw[List.length_drop,hl];omega
   refine⟨⟨h1,?_,?_,?_,λs hs=>ha s (List.mem_of_mem_drop hs)⟩,?_⟩
   ·show((((l.2.2.1++[d]).drop 1).length:Nat):Int)<=l.1;rw[hdl];exact h2
   ·show 0<=i64.wrap (l.2.1+1)/\i64.wrap (l.2.1+1)<=100000;rw[hw];omega
   ·show i64.wrap (l.2.1+1)+((((l.2.2.1++[d]).drop 1).length:Nat):Int)<=100000;rw[hw,hdl];omega
   ·show i64.wrap (l.2.1+1)+((((l.2.2.1++[d]).drop 1).length:Nat):Int)=_;rw[hw,hdl];omega
  ·rw[decide_eq_false hc]
   rw[hl] at hc
   refine⟨⟨h1,?_,h3,?_,ha⟩,?_⟩
   ·show(((l.2.2.1++[d]).length:Nat):Int)<=l.1;rw[hl];omega
   ·show l.2.1+(((l.2.2.1++[d]).length:Nat):Int)<=100000;rw[hl];omega
   ·show l.2.1+(((l.2.2.1++[d]).length:Nat):Int)=_;rw[hl];omega
 exact⟨key.1,by rw[rI key.1,rI h];exact key.2⟩
-- a node says
def tR(x:NodeT)(k id:Int):Bool:=dY x&&(inB k 0 4&&(inB id 0 (i64.wrap (x.2.1 - 1))&& !(uW (k==4) (id==x.1))))
def JD(x:NodeT)(d:aH):NodeT:=
 (x.1,x.2.1,x.2.2.1,x.2.2.2.1,x.2.2.2.2.1,x.2.2.2.2.2.1,(gH x.log d).1,(gH x.log d).2.1,(gH x.log d).2.2.1,x.got.set x.1.toNat (i64.wrap ((gt x.got x.1.toNat).1+1),()),x.acked,x.seen,x.num,x.slots,x.sess,x.wait,x.limit,x.clock,x.rises,())
abbrev J7:=NodeT×aH×Int
def jA(x:NodeT)(k id:Int)(t:ByteArray):J7:=
 bif tR x k id then(bif(fP x.state k id t).2 != 0 then(x,f4,(fP x.state k id t).2)else bif mT x.log (fP x.state k id t).1 then(jB (JD x (fP x.state k id t).1) (fP x.state k id t).1,(fP x.state k id t).1,0)else(x,f4,4))else(x,f4,1)
theorem y8{x:NodeT}{d:aH}(h:NodeOk x)(hd:mT x.log d=true):NodeOk (JD x d):=by
 unfold mT at hd
 simp only[Bool.and_eq_true,Bool.not_eq_true',beq_eq_false_iff_ne] at hd
 have hL:=(nJ x.log).1 h.log
 have h1:=hL.frm;have h2:=hL.top;have h3:=hL.len;have h4:=hL.cap
 have hw:i64.wrap (x.log.2.1+(x.log.2.2.1.length:Int))=x.log.2.1+(x.log.2.2.1.length:Int):=by rw[IntKind.wrap_i64];omega
 rw[hw] at hd
 obtain⟨p1,p2⟩:=LO hL hd.2.1 (by have:=hd.2.2;omega)
 have hs:cE x.log<100000/\0<=cE x.log:=by rw[rI hL];have:=hd.2.2;omega
 have hg:(gt x.got x.1.toNat).1=cE x.log:=eq_of_beq h.own
 have hwg:i64.wrap ((gt x.got x.1.toNat).1+1)=cE x.log+1:=by rw[hg,IntKind.wrap_i64];omega
 have hid:=h.id;have hn:=h.n;have hv:=h.got
 rw[aV] at hid hn
 rw[IntKind.wrap_i64] at hid
 unfold eH at hv
 simp only[Bool.and_eq_true,beq_iff_eq] at hv
 have hk:x.1.toNat<x.got.length:=by omega
 exact {
  n:=h.n,id:=h.id,state:=h.state,tree:=h.tree
  log:=(nJ _).2 p1
  got:=by
   show eH (x.got.set x.1.toNat _) x.2.1=true
   unfold eH
   simp only[Bool.and_eq_true,beq_iff_eq]
   rw[List.length_set]
   refine⟨hv.1,hv.2.1,?_⟩
   have h5:=bL.1 hv.2.2
   rw[bL]
   intro i hi
   by_cases e:x.1.toNat=i
   ·rw[<- e,cC hk];show inB (i64.wrap _) 0 100000=true;rw[hwg,aV];omega
   ·rw[eD e];exact h5 i hi
  acked:=h.acked
  own:=by
   show((gt (x.got.set x.1.toNat (i64.wrap ((gt x.got x.1.toNat).1+1),())) x.1.toNat).1==cE (gH x.log d))=true
   rw[cC hk,p2,beq_iff_eq];exact hwg
  seen:=h.seen
  ack:=by
   have h6:=h.ack
   unfold A5 at h6 ⊢
   rw[bL] at h6 ⊢
   intro i hi
   have h7:=h6 i hi
   show(!decide ((gt x.acked i).1>cE (gH x.log d)))=true
   rw[p2]
   simp only[Bool.not_eq_true',decide_eq_false_iff_not] at h7 ⊢
   omega
  num:=h.num,clock:=h.clock,slots:=h.slots,wait:=h.wait,limit:=h.limit,rises:=h.rises,rise:=h.rise,sess:=h.sess }
theorem HR(l:gR)(d:aH):(gH l d).2.2.1.length<=l.2.2.1.length+1:=by
 unfold gH
 cases decide ((((l.2.2.1++[d]).length:Nat):Int)>l.1)with
 | true=>show((l.2.2.1++[d]).drop 1).length<=_;rw[List.length_drop,List.length_append,List.length_singleton];omega
 | false=>show(l.2.2.1++[d]).length<=_;rw[List.length_append,List.length_singleton];exact Nat.le_refl _
theorem EX{x:NodeT}{d:aH}(hz:SzN x)(h:NodeOk x)(hd:mT x.log d=true):SzN (JD x d):=by
 have ho:=(nJ _).1 (y8 h hd).log
 have h1:=ho.cap;have h2:=ho.len
 refine⟨hz.state,hz.leaves,?_,λi hi=>?_,?_,hz.acked,hz.seen,hz.lines,hz.sess,hz.rises⟩
 ·unfold aW;omega
 ·have:=((aS _).1 (ho.all _ (cO hi))).len
  exact⟨by unfold aW;omega,by unfold aW;omega⟩
 ·show(x.got.set _ _).length<=aW;rw[List.length_set];exact hz.got
theorem Q4{x:NodeT}(h:NodeOk x)(k id:Int)(t:ByteArray):NodeOk (jA x k id t).1:=by
 unfold jA
 cases tR x k id with
 | false=>exact h
 | true=>
  cases (fP x.state k id t).2 != 0 with
  | true=>exact h
  | false=>
   cases hb:mT x.log (fP x.state k id t).1 with
   | false=>exact h
   | true=>exact(y8 h hb).take (EV _ _ _ _)
theorem JC{x:NodeT}(hz:SzN x)(k id:Int)(t:ByteArray):SzN (jA x k id t).1:=by
 unfold jA
 cases hs:tR x k id with
 | false=>exact hz
 | true=>
  have h:NodeOk x:=(gY x).1 (by unfold tR at hs;simp only[Bool.and_eq_true] at hs;exact hs.1)
  cases (fP x.state k id t).2 != 0 with
  | true=>exact hz
  | false=>
   cases hb:mT x.log (fP x.state k id t).1 with
   | false=>exact hz
   | true=>exact lK (EX hz h hb) _
end Go.Abs
-- check sums lie in 0 .. 2^32 - 1: plain laws
namespace Go.Abs
def u3(x:Int):Prop:=0<=x/\x<4294967296
theorem MQ{a b:Int}(ha:u3 a)(hb:u3 b):u3 (kK .i64 a b):=by
 obtain⟨n,rfl⟩:∃ n:Nat,a=n:=⟨a.toNat,by have:=ha.1;omega⟩
 obtain⟨m,rfl⟩:∃ m:Nat,b=m:=⟨b.toNat,by have:=hb.1;omega⟩
 have hn:n<2 ^ 32:=by have:=ha.2;omega
 have hm:m<2 ^ 32:=by have:=hb.2;omega
 unfold kK
 have h:(BitVec.ofInt i64.bits (n:Int) ^^^ BitVec.ofInt i64.bits (m:Int)).toNat<2 ^ 32:=by
  rw[BitVec.toNat_xor]
  have e1:(BitVec.ofInt i64.bits (n:Int)).toNat=n:=by
   rw[BitVec.toNat_ofInt];show((n:Int) % ((2 ^ 64:Nat):Int)).toNat=n;omega
  have e2:(BitVec.ofInt i64.bits (m:Int)).toNat=m:=by
   rw[BitVec.toNat_ofInt];show((m:Int) % ((2 ^ 64:Nat):Int)).toNat=m;omega
  rw[e1,e2];exact Nat.xor_lt_two_pow hn hm
 generalize (BitVec.ofInt i64.bits (n:Int) ^^^ BitVec.ofInt i64.bits (m:Int)).toNat=k at h
 have e:i64.wrap (k:Int)=k:=by rw[IntKind.wrap_i64];omega
 rw[e];exact⟨by omega,by omega⟩
theorem PW{x:Int}(h:u3 x):u3 (s9 x):=by
 have hd:0<=x.tdiv 2/\x.tdiv 2<4294967296:=by
  have h1:=h.1;have h2:=h.2
  rw[Int.tdiv_eq_ediv_of_nonneg h1];omega
 have hw:i64.wrap (x.tdiv 2)=x.tdiv 2:=by rw[IntKind.wrap_i64];omega
 unfold s9
 rw[hw]
 cases (x.tmod 2)==1 with
 | true=>exact MQ hd ⟨by omega,by omega⟩
 | false=>exact hd
theorem CM{x:Int}(h:u3 x):∀ k,u3 (fH k x)
 | 0=>h
 | k+1=>PW (CM h k)
theorem J1{bs:List aO}(h:∀ b∈bs,u3 b.1):∀ i,i<=bs.length->u3 (pL bs i)
 | 0,_=>⟨by show(0:Int)<=4294967295;omega,by show(4294967295:Int)<4294967296;omega⟩
 | i+1,hi=>by
  have hb:=h _ (cO (xs:=bs) (i:=i) (by omega))
  have hw:i64.wrap (gt bs i).1=(gt bs i).1:=by have h1:=hb.1;have h2:=hb.2;rw[IntKind.wrap_i64];omega
  show u3 (fH 8 (kK .i64 (pL bs i) (i64.wrap (gt bs i).1)))
  rw[hw]
  exact CM (MQ (J1 h i (by omega)) hb) 8
theorem PX{bs:List aO}(h:∀ b∈bs,u3 b.1):u3 (crc bs):=by
 unfold crc
 exact MQ (J1 h _ (Nat.le_refl _)) ⟨by omega,by omega⟩
def B32(bs:List aO):Prop:=∀ b∈bs,u3 b.1
theorem B32.app{a b:List aO}(ha:B32 a)(hb:B32 b):B32 (a++b):=λx hx=>by
 rcases List.mem_append.1 hx with h | h
 ·exact ha x h
 ·exact hb x h
theorem B32.flat{α:Type}{f:α->List aO}(h:∀ x,B32 (f x))(xs:List α):B32 (xs.flatMap f):=λx hx=>by
 obtain⟨a,_,ha⟩:=List.mem_flatMap.1 hx
 exact h a x ha
theorem TA(n:Nat):B32 (hZ n):=by
 induction n using Nat.strongRecOn with
 | _ n ih=>
  unfold hZ
  split
  ·rename_i h
   intro b hb
   rw[List.mem_singleton.1 hb];exact⟨by show(0:Int)<=(n:Int);omega,by show(n:Int)<4294967296;omega⟩
  ·rename_i h
   intro b hb
   rcases List.mem_cons.1 hb with e | e
   ·rw[e];exact⟨by show(0:Int)<=((n % 128+128:Nat):Int);omega,by show((n % 128+128:Nat):Int)<4294967296;omega⟩
   ·exact ih (n / 128) (Nat.div_lt_self (by omega) (by omega)) b e
theorem gW(x:Int):B32 (aN x):=by
 unfold aN
 cases inB x 0 2147483647 with
 | false=>intro b hb;cases hb
 | true=>exact TA _
theorem LC(t:ByteArray):B32 (dT t):=by
 unfold dT
 refine(gW _).app λb hb=>?_
 unfold fM eP at hb
 obtain⟨u,_,rfl⟩:=List.mem_map.1 hb
 have:=u.toNat_lt
 exact⟨by show(0:Int)<=((u.toNat:Nat):Int);omega,by show((u.toNat:Nat):Int)<4294967296;omega⟩
theorem P4(s:aH):B32 (bS s):=by
 unfold bS
 refine(((gW _).app (B32.flat (λx=>?_) _)).app (gW _)).app (B32.flat (λf=>?_) _)
 ·unfold bD;exact(((((gW _).app (gW _)).app (gW _)).app (gW _)).app (gW _)).app (LC _)
 ·unfold bF;exact(gW _).app (gW _)
theorem EI{x:Int}(h:u3 x):inB (x.tmod 1024) 0 1023=true:=by
 rw[aV];have:=tM (x:=x) (n:=1024) h.1 (by omega);omega
theorem oU(s:aH)(k:Int):inB (iT s k) 0 1023=true:=by
 unfold iT
 cases aP s&&inB k 0 3 with
 | true=>exact EI (PX (P4 _))
 | false=>rfl
theorem MX{s:aH}(h:aP s=true):treeB (cJ s)=true:=by
 unfold cJ;rw[h]
 show treeB (cZ s,lP (cZ s),())=true
 have hr:inB (lP (cZ s)) 0 1023=true:=EI (PX (B32.flat (λx=>gW _) _))
 have hl:nG (cZ s) 1023=true:=bL.2 λi hi=>by
  match i,hi with
  | 0,_=>exact oU s 0
  | 1,_=>exact oU s 1
  | 2,_=>exact oU s 2
  | 3,_=>exact oU s 3
 unfold treeB
 rw[hl,hr];rfl
end Go.Abs
-- states as points of a lattice: plain laws
namespace Go.Abs
-- comparing one after another
structure Cmp {α:Type} (c:α->α->Int):Prop where
 neg:∀ a b,c b a= - c a b
 eq:∀ a b,c a b=0->a=b
 tr:∀ a b d,c a b<=0->c b d<=0->c a d<=0
theorem Cmp.self{α:Type}{c:α->α->Int}(h:Cmp c)(a:α):c a a=0:=by have:=h.neg a a;omega
theorem Cmp.lex{α β:Type}{c:α->α->Int}{d:β->β->Int}(hc:Cmp c)(hd:Cmp d):Cmp (fun(a b:α×β)=>if c a.1 b.1≠0 then c a.1 b.1 else d a.2 b.2) where
 neg a b:=by
  show(if c b.1 a.1≠0 then c b.1 a.1 else d b.2 a.2)= -(if c a.1 b.1≠0 then c a.1 b.1 else d a.2 b.2)
  rw[hc.neg a.1 b.1,hd.neg a.2 b.2];exact uJ _ _
 eq a b h:=by
  have h:(if c a.1 b.1≠0 then c a.1 b.1 else d a.2 b.2)=0:=h
  by_cases h0:c a.1 b.1=0
  ·rw[if_neg (λg=>g h0)] at h
   exact Prod.ext (hc.eq _ _ h0) (hd.eq _ _ h)
  ·rw[if_pos h0] at h;exact absurd h h0
 tr a b e h1 h2:=by
  have h1:(if c a.1 b.1≠0 then c a.1 b.1 else d a.2 b.2)<=0:=h1
  have h2:(if c b.1 e.1≠0 then c b.1 e.1 else d b.2 e.2)<=0:=h2
  show(if c a.1 e.1≠0 then c a.1 e.1 else d a.2 e.2)<=0
  have k2:c b.1 e.1<=0:=by
   by_cases h0:c b.1 e.1=0
   ·omega
   ·rw[if_pos h0] at h2;exact h2
  by_cases h0:c a.1 b.1=0
  ·rw[if_neg (λg=>g h0)] at h1
   rw[hc.eq _ _ h0]
   by_cases g0:c b.1 e.1=0
   ·rw[if_neg (λg=>g g0)] at h2 ⊢;exact hd.tr _ _ _ h1 h2
   ·rw[if_pos g0];exact k2
  ·rw[if_pos h0] at h1
   have k3:=hc.tr _ _ _ h1 k2
   by_cases g0:c a.1 e.1=0
   ·have e1:=hc.eq _ _ g0
    rw[<- e1,hc.neg a.1 b.1] at k2;omega
   ·rw[if_pos g0];exact k3
theorem l2_cmp:Cmp l2 where
 neg:=z3
 eq a b h:=by
  unfold l2 at h
  by_cases h1:a<b
  ·rw[decide_eq_true h1] at h;cases h
  ·rw[decide_eq_false h1] at h
   by_cases h2:a>b
   ·rw[decide_eq_true h2] at h;cases h
   ·omega
 tr a b d h1 h2:=by
  have key:∀ x y:Int,l2 x y<=0↔x<=y:=λx y=>by
   unfold l2
   by_cases h1:x<y
   ·rw[decide_eq_true h1];exact⟨λ_=>by omega,λ_=>by show(-1:Int)<=0;omega⟩
   ·rw[decide_eq_false h1]
    by_cases h2:x>y
    ·rw[decide_eq_true h2];exact⟨λh=>by have h:(1:Int)<=0:=h;omega,λ_=>by omega⟩
    ·rw[decide_eq_false h2];exact⟨λ_=>by omega,λ_=>Int.le_refl 0⟩
  rw[key] at h1 h2 ⊢;omega
theorem JR{x y:Int}(h:l2 x y<=0):x<=y:=by
 unfold l2 at h
 by_cases h1:x<y
 ·omega
 ·rw[decide_eq_false h1] at h
  by_cases h2:x>y
  ·rw[decide_eq_true h2] at h;have h:(1:Int)<=0:=h;omega
  ·omega
theorem RZ(x:Int):l2 x x=0:=l2_cmp.self x
theorem GE:∀ x y:List UInt8,Lib.compareBytes x y=0->x=y
 | [],[],_=>rfl
 | [],_::_,h=>by unfold Lib.compareBytes at h;omega
 | _::_,[],h=>by unfold Lib.compareBytes at h;omega
 | a::x,b::y,h=>by
  unfold Lib.compareBytes at h
  by_cases h1:a<b
  ·rw[if_pos h1] at h;omega
  ·rw[if_neg h1] at h
   by_cases h2:b<a
   ·rw[if_pos h2] at h;omega
   ·rw[if_neg h2] at h
    have e:a=b:=UInt8.toNat_inj.1 (by rw[UInt8.lt_iff_toNat_lt] at h1 h2;omega)
    rw[e,GE x y h]
theorem GD:∀ x y z:List UInt8,Lib.compareBytes x y<=0->Lib.compareBytes y z<=0->Lib.compareBytes x z<=0
 | [],_,[],_,_=>by unfold Lib.compareBytes;omega
 | [],_,_::_,_,_=>by unfold Lib.compareBytes;omega
 | _::_,[],_,h,_=>by unfold Lib.compareBytes at h;omega
 | _::_,_::_,[],_,h=>by unfold Lib.compareBytes at h;omega
 | a ::x,b::y,c::z,h1,h2=>by
  unfold Lib.compareBytes at h1 h2 ⊢
  simp only[UInt8.lt_iff_toNat_lt] at h1 h2 ⊢
  by_cases c1:a.toNat<b.toNat
  ·by_cases c2:b.toNat<c.toNat
   ·rw[if_pos (by omega)];omega
   ·rw[if_neg c2] at h2
    by_cases c3:c.toNat<b.toNat
    ·rw[if_pos c3] at h2;omega
    ·rw[if_pos (by omega)];omega
  ·rw [if_neg c1] at h1
   by_cases c2:b.toNat<a.toNat
   ·rw[if_pos c2] at h1;omega
   ·rw[if_neg c2] at h1
    by_cases c3:b.toNat<c.toNat
    ·rw[if_pos (by omega)];omega
    ·rw[if_neg c3] at h2
     by_cases c4:c.toNat<b.toNat
     ·rw[if_pos c4] at h2;omega
     ·rw[if_neg c4] at h2
      rw[if_neg (by omega),if_neg (by omega)];exact GD x y z h1 h2
theorem P0:Cmp (fun(a b:ByteArray×Unit)=>uR a.1 b.1) where
 neg a b:=v5 _ _
 eq a b h:=by
  have h1:=GE _ _ h
  obtain⟨⟨⟨x⟩⟩,u⟩:=a
  obtain⟨⟨⟨y⟩⟩,v⟩:=b
  have h1:x=y:=h1
  rw[h1]
 tr a b d h1 h2:=GD _ _ _ h1 h2
theorem cmpE_cmp:Cmp gI:=l2_cmp.lex (l2_cmp.lex (l2_cmp.lex (l2_cmp.lex P0)))
def leE(a b:bH):Prop:=gI a b<=0
theorem nL(a:bH):leE a a:=Int.le_of_eq (cmpE_cmp.self a)
theorem LQ{a b c:bH}(h1:leE a b)(h2:leE b c):leE a c:=cmpE_cmp.tr _ _ _ h1 h2
theorem LS(a b:bH):leE a b\/leE b a:=by unfold leE;have:=qO a b;omega
theorem oV{a b:bH}(h1:leE a b)(h2:leE b a):a=b:=cmpE_cmp.eq _ _ (by unfold leE at h1 h2;have:=qO a b;omega)
theorem mJ{a b:bH}(h:leE a b):a.1<=b.1:=by
 unfold leE gI at h
 by_cases h0:l2 a.1 b.1=0
 ·exact JR (by omega)
 ·rw[if_pos h0] at h;exact JR h
theorem O1{a b:bH}(h:leE a b)(e:a.1=b.1):a.2.1<=b.2.1:=by
 unfold leE gI at h
 rw[e,if_neg (λg=>g (RZ _))] at h
 by_cases h0:l2 a.2.1 b.2.1=0
 ·exact JR (by omega)
 ·rw[if_pos h0] at h;exact JR h
theorem MO{e:bH}(h:1<=e.1):leE c6 e:=by unfold leE;rw[vZ h];omega
theorem FH(a b:bH):leE a (mxE a b):=by
 unfold mxE
 by_cases h:gI a b<0
 ·rw[decide_eq_true h];show gI a b<=0;omega
 ·rw[decide_eq_false h];exact nL a
theorem OK(a b:bH):leE b (mxE a b):=by
 unfold mxE
 by_cases h:gI a b<0
 ·rw[decide_eq_true h];exact nL b
 ·rw[decide_eq_false h];show gI b a<=0;rw[qO a b];omega
theorem HJ(a b:bH):mxE a b=a\/mxE a b=b:=by
 unfold mxE;cases decide (gI a b<0)
 ·exact .inl rfl
 ·exact .inr rfl
theorem OL{a b:bH}(h:leE a b):mxE a b=b:=oV (by rcases HJ a b with e | e<;>rw[e];exact h;exact nL b) (OK a b)
theorem JK{a b:bH}(h:leE b a):mxE a b=a:=oV (by rcases HJ a b with e | e<;>rw[e];exact nL a;exact h) (FH a b)
-- points
def ent(s:aH)(i:Int):bH:=(bG s i).1
def flo(s:aH)(i:Int):Int:=cL s.2.1 i
structure Pt (e:bH) (f:Int):Prop where
 nn:0<=f
 up:e=c6\/f<e.1
def nrm(m:bH)(f:Int):bH:=if f<m.1 then m else c6
theorem gB:c6.1=0:=rfl
theorem LZ{s:aH}(h:StateOk s){x:bM}(hx:x∈s.1):bG s x.1=(x.2,true):=by
 rcases fE s x.1 with ⟨y,hy,h1,e⟩ | ⟨h1,_⟩
 ·have:y=x:=by
   obtain⟨i,hi,rfl⟩:=gZ hx
   obtain⟨j,hj,rfl⟩:=gZ hy
   have hp:=h.items
   rw[List.pairwise_iff_getElem] at hp
   rcases Nat.lt_trichotomy i j with h2 | h2 | h2
   ·have:=hp i j hi hj h2;rw[<- cY hi,<- cY hj] at this;omega
   ·rw[h2]
   ·have:=hp j i hj hi h2;rw[<- cY hi,<- cY hj] at this;omega
  rw[e,this]
 ·exact absurd rfl (h1 x hx)
theorem PQ{s:aH}(h:StateOk s){x:bM}(hx:x∈s.1):ent s x.1=x.2:=by unfold ent;rw[LZ h hx]
theorem FT{s:aH}(h:StateOk s){x:bM}(hx:x∈s.1):1<=x.2.1:=h.pos.item x hx
theorem nT{s:aH}(h:StateOk s)(i:Int):(1<=(ent s i).1/\(i,ent s i)∈s.1/\(bG s i).2=true/\eE (ent s i)=true)\/(ent s i=c6/\(bG s i).2=false):=by
 unfold ent
 rcases fE s i with ⟨x,hx,h1,e⟩ | ⟨h1,e⟩
 ·rw[e];subst h1;exact .inl ⟨FT h hx,hx,rfl,(h.item x hx).2.1⟩
 ·rw[e];exact .inr ⟨rfl,rfl⟩
theorem pI{s:aH}(h:StateOk s)(i:Int):Pt (ent s i) (flo s i):=by
 refine⟨(pB h i).1,?_⟩
 rcases nT h i with ⟨_,h2,_⟩ | ⟨h2,_⟩
 ·exact .inr (h.item _ h2).2.2
 ·exact .inl h2
theorem D9{α:Type}{k:α->Int}:∀ {a b:List α},a.Pairwise (λx y=>k x<k y)->b.Pairwise (λx y=>k x<k y)->(∀ x,x∈a↔x∈b)->a=b
 | [],[],_,_,_=>rfl
 | [],y::_,_,_,h=>by have:=(h y).2 (List.mem_cons_self ..);cases this
 | x::_,[],_,_,h=>by have:=(h x).1 (List.mem_cons_self ..);cases this
 | x::a,y::b,ha,hb,h=>by
  rw[List.pairwise_cons] at ha hb
  have e:x=y:=by
   rcases List.mem_cons.1 ((h x).1 (List.mem_cons_self ..))with e | e
   ·exact e
   ·rcases List.mem_cons.1 ((h y).2 (List.mem_cons_self ..))with e2 | e2
    ·exact e2.symm
    ·have h1:=hb.1 x e;have h2:=ha.1 y e2;omega
  subst e
  rw[D9 ha.2 hb.2 λz=>⟨λhz=>?_,λhz=>?_⟩]
  ·rcases List.mem_cons.1 ((h z).1 (List.mem_cons_of_mem _ hz))with e | e
   ·have:=ha.1 z hz;rw[e] at this;omega
   ·exact e
  ·rcases List.mem_cons.1 ((h z).2 (List.mem_cons_of_mem _ hz))with e | e
   ·have:=hb.1 z hz;rw[e] at this;omega
   ·exact e
theorem nH{i:Int}(h:eM i=true):∃ k:Nat,k<5/\i=k:=by
 unfold eM at h;rw[aV] at h
 exact⟨i.toNat,by omega,by omega⟩
theorem M9{a b:aH}(ha:StateOk a)(hb:StateOk b)(h:∀ i:Nat,i<5->ent a i=ent b i/\flo a i=flo b i):a=b:=by
 have key:∀ {a b:aH},StateOk a->StateOk b->(∀ i:Nat,i<5->ent a i=ent b i/\flo a i=flo b i)->∀ x,x∈a.1->x∈b.1:=by
  intro a b ha hb h x hx
  obtain⟨k,hk,e⟩:=nH (ha.item x hx).1
  have h1:=(h k hk).1
  rw[<- e,PQ ha hx] at h1
  rcases nT hb x.1 with ⟨_,h2,_⟩ | ⟨h2,_⟩
  ·rw[<- h1] at h2;exact h2
  ·have:=FT ha hx;rw[h1,h2] at this;have:(1:Int)<=0:=this;omega
 have keyF:∀ {a b:aH},StateOk a->StateOk b->(∀ i:Nat,i<5->ent a i=ent b i/\flo a i=flo b i)->∀ x,x∈a.2.1->x∈b.2.1:=by
  intro a b ha hb h x hx
  obtain⟨k,hk,e⟩:=nH (ha.floor x hx).1
  have h1:=(h k hk).2
  have h3:flo a x.1=x.2.1:=D2 ha hx
  have h4:=(ha.floor x hx).2
  rw[aV] at h4
  rw[<- e,h3] at h1
  rcases eO b x.1 with ⟨y,hy,h5,h6⟩ | ⟨_,h6⟩
  ·have h6:flo b x.1=y.2.1:=h6
   have:y=x:=Prod.ext h5 (Prod.ext (by rw[<- h6,<- h1]) rfl)
   rw[<- this];exact hy
  ·have h6:flo b x.1=0:=h6
   omega
 have h':∀ i:Nat,i<5->ent b i=ent a i/\flo b i=flo a i:=λi hi=>⟨(h i hi).1.symm,(h i hi).2.symm⟩
 refine Prod.ext (D9 (k:=λx:bM=>x.1) ha.items hb.items λx=>⟨key ha hb h x,key hb ha h' x⟩) (Prod.ext (D9 (k:=λx:aR=>x.1) ha.floors hb.floors λx=>⟨keyF ha hb h x,keyF hb ha h' x⟩) rfl)
theorem nQ{a b:aH}(ha:StateOk a){i:Nat}(hi:i<5):flo (cF a b) i=max (flo a i) (flo b i):=by
 have hf:flr a b i=max (flo a i) (flo b i):=by unfold flr;rw[rZ];rfl
 have h0:=D0 (b:=b) ha.pos (i:Int)
 unfold flo
 rcases eO (cF a b) i with ⟨x,hx,h1,e⟩ | ⟨h1,e⟩
 ·rw[e]
  obtain⟨j,_,hx⟩:=jM hx
  obtain⟨rfl,_⟩:=oY hx
  have:(j:Int)=(i:Int):=h1
  show flr a b (j:Int)=_
  rw[this];exact hf
 ·rw[e]
  by_cases h2:flr a b i>0
  ·refine absurd rfl (h1 ((i:Int),flr a b i,()) ?_)
   exact List.mem_flatMap.2 ⟨i,List.mem_range.2 hi,by rw[oX h2];exact List.mem_singleton.2 rfl⟩
  ·show 0=max (flo a i) (flo b i)
   omega
theorem nS(a b:aH){i:Nat}(hi:i<5):ent (cF a b) i=nrm (mxE (ent a i) (ent b i)) (max (flo a i) (flo b i)):=by
 have hf:flr a b i=max (flo a i) (flo b i):=by unfold flr;rw[rZ];rfl
 have hp:eB a b i=mxE (ent a i) (ent b i):=rfl
 rw[<- hf,<- hp]
 unfold ent nrm
 rcases fE (cF a b) i with ⟨x,hx,h1,e⟩ | ⟨h1,e⟩
 ·rw[e]
  obtain⟨j,_,hx⟩:=jM hx
  obtain⟨rfl,h2⟩:=vT hx
  have e2:(j:Int)=(i:Int):=h1
  rw[e2] at h2
  rw[if_pos h2];show eB a b (j:Int)=_;rw[e2]
 ·rw[e]
  by_cases h2:flr a b i<(eB a b i).1
  ·refine absurd rfl (h1 ((i:Int),eB a b i) ?_)
   exact List.mem_flatMap.2 ⟨i,List.mem_range.2 hi,by rw[gD rfl h2];exact List.mem_singleton.2 rfl⟩
  ·rw[if_neg h2]
-- the order of points
def LeP(e:bH)(f:Int)(e':bH)(f':Int):Prop:=f<=f'/\(e.1<=f'\/leE e e')
theorem LeP.refl(e:bH)(f:Int):LeP e f e f:=⟨Int.le_refl f,.inr (nL e)⟩
theorem LeP.trans{e f e' f' e'' f''}(h:LeP e f e' f')(h':LeP e' f' e'' f''):LeP e f e'' f'':=by
 refine⟨Int.le_trans h.1 h'.1,?_⟩
 rcases h.2 with h2 | h2
 ·exact .inl (Int.le_trans h2 h'.1)
 ·rcases h'.2 with h3 | h3
  ·exact .inl (Int.le_trans (mJ h2) h3)
  ·exact .inr (LQ h2 h3)
theorem TG{m:bH}{f:Int}(h:Pt m f):nrm m f=m:=by
 unfold nrm
 rcases h.up with e | e
 ·have:=h.nn;rw[e,if_neg (by rw[gB];omega)]
 ·rw[if_pos e]
theorem JQ{e f e' f'}(h:Pt e f)(h':Pt e' f'):(nrm (mxE e e') (max f f')=e'/\max f f'=f')↔LeP e f e' f':=by
 constructor
 ·rintro ⟨h1,h2⟩
  refine⟨by omega,?_⟩
  rw[h2] at h1
  by_cases h3:e.1<=f'
  ·exact .inl h3
  ·have h4:=mJ (FH e e')
   unfold nrm at h1
   rw[if_pos (by omega)] at h1
   exact .inr (by have:=FH e e';rw[h1] at this;exact this)
 ·rintro ⟨h1,h2⟩
  have hm:max f f'=f':=by omega
  rw[hm]
  refine⟨?_,rfl⟩
  by_cases hl:leE e e'
  ·rw[OL hl];exact TG h'
  ·have h3:e.1<=f':=by rcases h2 with h2 | h2;exact h2;exact absurd h2 hl
   have h4:leE e' e:=by rcases LS e e' with h4 | h4;exact absurd h4 hl;exact h4
   rw[JK h4]
   unfold nrm
   rw[if_neg (by omega)]
   rcases h'.up with h5 | h5
   ·exact h5.symm
   ·have:=mJ h4;omega
theorem HY{e f e' f'}:LeP e f (nrm (mxE e e') (max f f')) (max f f'):=by
 refine⟨by omega,?_⟩
 by_cases h:e.1<=max f f'
 ·exact .inl h
 ·have h4:=mJ (FH e e')
  unfold nrm;rw[if_pos (by omega)];exact .inr (FH e e')
theorem HX{e f e' f'}:LeP e' f' (nrm (mxE e e') (max f f')) (max f f'):=by
 refine⟨by omega,?_⟩
 by_cases h:e'.1<=max f f'
 ·exact .inl h
 ·have h4:=mJ (OK e e')
  unfold nrm;rw[if_pos (by omega)];exact .inr (OK e e')
theorem RY{e f e' f' e'' f''}(h0:0<=f'')(h:LeP e f e'' f'')(h':LeP e' f' e'' f''):LeP (nrm (mxE e e') (max f f')) (max f f') e'' f'':=by
 refine⟨by have:=h.1;have:=h'.1;omega,?_⟩
 unfold nrm
 split
 ·rcases HJ e e' with e1 | e1<;>rw[e1]
  ·exact h.2
  ·exact h'.2
 ·exact .inl h0
theorem DV{e f e' f'}(h:Pt e f)(h':Pt e' f')(h1:LeP e f e' f')(h2:LeP e' f' e f):e=e'/\f=f':=by
 have hf:f=f':=Int.le_antisymm h1.1 h2.1
 subst hf
 refine⟨?_,rfl⟩
 have hz:=h.nn
 rcases h.up with e0 | e0
 ·rcases h'.up with e1 | e1
  ·rw[e0,e1]
  ·rcases h2.2 with h3 | h3
   ·omega
   ·have:=mJ h3;rw[e0,gB] at this;omega
 ·rcases h1.2 with h3 | h3
  ·omega
  ·rcases h2.2 with h4 | h4
   ·have:=mJ h3;omega
   ·exact oV h3 h4
-- the order of states
structure Leq (a b:aH):Prop where
 oka:StateOk a
 okb:StateOk b
 le:∀ i:Nat,i<5->LeP (ent a i) (flo a i) (ent b i) (flo b i)
theorem FO{a b:aH}:HT a b=true↔Leq a b:=by
 unfold HT
 rw[Bool.and_eq_true,Bool.and_eq_true,mV,aS,aS]
 constructor
 ·rintro ⟨ha,hb,e⟩
  refine⟨ha,hb,λi hi=>(JQ (pI ha _) (pI hb _)).1 ?_⟩
  rw[<- nS a b hi,<- nQ ha hi,e];exact⟨rfl,rfl⟩
 ·rintro ⟨ha,hb,h⟩
  refine⟨ha,hb,M9 (ha.join hb) hb λi hi=>?_⟩
  rw[nS a b hi,nQ ha hi]
  exact(JQ (pI ha _) (pI hb _)).2 (h i hi)
theorem Leq.join{a b:aH}(h:Leq a b):cF a b=b:=by
 have:=FO.2 h
 unfold HT at this
 rw[Bool.and_eq_true,Bool.and_eq_true,mV] at this
 exact this.2.2
theorem Leq.refl{a:aH}(h:StateOk a):Leq a a:=⟨h,h,λi _=>LeP.refl _ _⟩
theorem Leq.trans{a b c:aH}(h:Leq a b)(h':Leq b c):Leq a c:=⟨h.oka,h'.okb,λi hi=>(h.le i hi).trans (h'.le i hi)⟩
theorem Leq.antisymm{a b:aH}(h:Leq a b)(h':Leq b a):a=b:=M9 h.oka h.okb λi hi=>DV (pI h.oka _) (pI h.okb _) (h.le i hi) (h'.le i hi)
theorem Leq.left{a b:aH}(ha:StateOk a)(hb:StateOk b):Leq a (cF a b):=⟨ha,ha.join hb,λi hi=>by rw[nS a b hi,nQ ha hi];exact HY⟩
theorem Leq.right{a b:aH}(ha:StateOk a)(hb:StateOk b):Leq b (cF a b):=⟨hb,ha.join hb,λi hi=>by rw[nS a b hi,nQ ha hi];exact HX⟩
theorem Leq.lub{a b c:aH}(h:Leq a c)(h':Leq b c):Leq (cF a b) c:=⟨h.oka.join h'.oka,h.okb,λi hi=>by rw[nS a b hi,nQ h.oka hi];exact RY (pI h.okb _).nn (h.le i hi) (h'.le i hi)⟩
theorem H0{a b:aH}(ha:StateOk a)(hb:StateOk b):cF a b=cF b a:=
 Leq.antisymm (Leq.lub (Leq.right hb ha) (Leq.left hb ha)) (Leq.lub (Leq.right ha hb) (Leq.left ha hb))
theorem Leq.joinR{a b:aH}(h:Leq a b):cF b a=b:=by rw[H0 h.okb h.oka];exact h.join
theorem Leq.mono{a a' b b':aH}(h:Leq a a')(h':Leq b b'):Leq (cF a b) (cF a' b'):=Leq.lub (h.trans (Leq.left h.okb h'.okb)) (h'.trans (Leq.right h.okb h'.okb))
theorem lU:StateOk f4:=(aS _).1 xY
theorem Leq.nil{a:aH}(h:StateOk a):Leq f4 a:=⟨lU,h,λi _=>⟨(pI h _).nn,.inl (pI h _).nn⟩⟩
-- what is over at a point
def iO(e:bH)(f:Int):Int:=if 1<=e.1 then(if e.2.1=0 then e.1 - 1 else e.1)else f
theorem sZ{e:bH}(h:eE e=true):1<=e.1/\e.1<=1000/\(e.2.1=0\/e.2.1=1):=by
 unfold eE at h;simp only[Bool.and_eq_true,aV] at h;omega
theorem uL{s:aH}(h:StateOk s)(i:Int):gone s i=iO (ent s i) (flo s i):=by
 unfold gone iO
 rw[(aS s).2 h]
 rcases nT h i with ⟨h1,_,h3,h4⟩ | ⟨h2,h3⟩
 ·have h5:=sZ h4
  rw[h3,if_pos h1]
  show(bif(ent s i).2.1==0 then i64.wrap ((ent s i).1 - 1)else(ent s i).1)=_
  rcases h5.2.2 with e | e
  ·rw[e,if_pos rfl];show i64.wrap ((ent s i).1 - 1)=_;rw[IntKind.wrap_i64];omega
  ·rw[e,if_neg (by omega)];rfl
 ·rw[h3,h2,if_neg (by rw[gB];omega)];rfl
theorem FY{e:bH}{f:Int}(h:¬ 1<=e.1):iO e f=f:=by unfold iO;rw[if_neg h]
theorem FX{e:bH}{f:Int}(h:1<=e.1)(h':e.2.1=0):iO e f=e.1 - 1:=by unfold iO;rw[if_pos h,if_pos h']
theorem FZ{e:bH}{f:Int}(h:1<=e.1)(h':e.2.1≠0):iO e f=e.1:=by unfold iO;rw[if_pos h,if_neg h']
theorem z8{e:bH}{f:Int}(h:1<=e.1):e.1 - 1<=iO e f/\iO e f<=e.1:=by
 by_cases h':e.2.1=0
 ·rw[FX h h'];omega
 ·rw[FZ h h'];omega
theorem PE{e:bH}{f:Int}(h:Pt e f):f<=iO e f:=by
 by_cases h1:1<=e.1
 ·have h2:=z8 (f:=f) h1
  rcases h.up with h3 | h3
  ·rw[h3,gB] at h1;omega
  ·omega
 ·rw[FY h1];omega
theorem H9{e f e' f'}(h:Pt e f)(h':Pt e' f')(hr:e.1=e'.1->e.2.1≠0->e.2.1<=e'.2.1->e'.2.1≠0)(hl:LeP e f e' f'):iO e f<=iO e' f':=by
 have g:=PE h'
 by_cases h1:1<=e.1
 ·have g1:=z8 (f:=f) h1
  rcases hl.2 with h2 | h2
  ·omega
  ·have h3:=mJ h2
   have h1':1<=e'.1:=by omega
   have g2:=z8 (f:=f') h1'
   by_cases h4:e.1=e'.1
   ·by_cases h6:e.2.1=0
    ·rw[FX h1 h6];omega
    ·rw[FZ h1' (hr h4 h6 (O1 h2 h4))];omega
   ·omega
 ·rw[FY h1];have:=hl.1;omega
theorem Leq.gone{a b:aH}(h:Leq a b){i:Nat}(hi:i<5):gone a i<=Go.Abs.gone b i:=by
 rw[uL h.oka,uL h.okb]
 refine H9 (pI h.oka _) (pI h.okb _) (λh1 h2 h3=>?_) (h.le i hi)
 rcases nT h.oka i with ⟨_,_,_,h4⟩ | ⟨h4,_⟩
 ·have:=sZ h4;omega
 ·rw[h4] at h2;exact absurd rfl h2
end Go.Abs
-- pruning, tables and taking done twice: plain laws
namespace Go.Abs
theorem OB(f:Int)(h:0<=f):nrm c6 f=c6:=by unfold nrm;rw[if_neg (by rw[gB];omega)]
theorem IE(s:aH)(t:List bT){i:Nat}(hi:i<5):flo (fA s t) i=max 0 (min (fX t i) (gone s i)):=by
 have hm:mxI false (fX t i) (gone s i)=min (fX t i) (gone s i):=FG _ _
 unfold flo
 rcases eO (fA s t) i with ⟨x,hx,h1,e⟩ | ⟨h1,e⟩
 ·rw[e]
  obtain⟨j,_,hx⟩:=jM hx
  unfold iJ at hx
  cases hd:decide (mxI false (fX t j) (gone s j)>0)with
  | false=>rw[hd] at hx;cases hx
  | true=>
   rw[hd] at hx
   have e1:=List.mem_singleton.1 hx
   have h0:=of_decide_eq_true hd
   rw[e1] at h1 ⊢
   have h1:(j:Int)=(i:Int):=h1
   have h1:j=i:=by omega
   subst h1
   show mxI false (fX t j) (gone s j)=_
   omega
 ·rw[e]
  by_cases h2:mxI false (fX t i) (gone s i)>0
  ·refine absurd rfl (h1 ((i:Int),mxI false (fX t i) (gone s i),()) ?_)
   exact List.mem_flatMap.2 ⟨i,List.mem_range.2 hi,by unfold iJ;rw[decide_eq_true h2];exact List.mem_singleton.2 rfl⟩
  ·omega
theorem IK(s:aH)(t:List bT)(i:Int):ent (fA s t) i=c6:=by
 unfold ent
 rcases fE (fA s t) i with ⟨x,hx,h1,e⟩ | ⟨h1,e⟩
 ·cases hx
 ·rw[e]
theorem AA(s:aH)(t:List bT):StateOk (fA s t):=(aS _).1 (qG s t)
theorem t7{s:aH}(h:StateOk s)(t:List bT):prune s t=cF s (fA s t):=by unfold prune;rw[(aS s).2 h];rfl
theorem vK{s:aH}(h:StateOk s)(t:List bT):StateOk (prune s t):=(aS _).1 (zH ((aS s).2 h) t)
theorem L6{e:bH}{f g:Int}(h:Pt e f)(hr:1<=e.1->e.2.1=0\/e.2.1=1)(hg:g<=iO e f):iO (nrm (mxE e c6) (max f g)) (max f g)=iO e f:=by
 have h0:=h.nn
 rcases h.up with e0 | e1
 ·rw[e0,OL (nL c6)]
  rw[OB _ (by omega)]
  rw[e0] at hg
  unfold iO at hg ⊢
  rw[if_neg (by rw[gB];omega)] at hg
  rw[if_neg (by rw[gB];omega),if_neg (by rw[gB];omega)];omega
 ·rw[JK (MO (by omega))]
  unfold nrm
  have h1:1<=e.1:=by omega
  have hgo:iO e f=if e.2.1=0 then e.1 - 1 else e.1:=by unfold iO;rw[if_pos h1]
  by_cases hc:max f g<e.1
  ·rw[if_pos hc,hgo];unfold iO;rw[if_pos h1]
  ·rw[if_neg hc]
   rw[hgo] at hg ⊢
   unfold iO;rw[if_neg (by rw[gB];omega)]
   rcases hr h1 with h2 | h2
   ·rw[if_pos h2] at hg;omega
   ·rw[if_neg (by omega)] at hg ⊢;omega
theorem PP{s:aH}(h:StateOk s)(i:Int):1<=(ent s i).1->(ent s i).2.1=0\/(ent s i).2.1=1:=by
 intro h1
 rcases nT h i with ⟨_,_,_,h4⟩ | ⟨h4,_⟩
 ·exact(sZ h4).2.2
 ·rw[h4,gB] at h1;omega
theorem z7{s:aH}(h:StateOk s)(t:List bT){i:Nat}(hi:i<5):gone (prune s t) i=gone s i:=by
 have hg:=R5 ((aS s).2 h) (i:Int)
 rw[uL (vK h t),t7 h,nS _ _ hi,nQ h hi,IK,IE s t hi,uL h]
 rw[uL h] at hg
 exact L6 (pI h _) (PP h _) (by omega)
theorem tF{α:Type}{g g':Nat->List α}:∀ {n:Nat},(∀ i,i<n->g i=g' i)->bN n g=bN n g'
 | 0,_=>rfl
 | n+1,h=>by rw[dS,dS,tF (n:=n) λi hi=>h i (by omega),h n (by omega)]
theorem AB{s s':aH}(t:List bT)(h:∀ i:Nat,i<5->gone s i=gone s' i):fA s t=fA s' t:=by
 have:bN 5 (iJ s t)=bN 5 (iJ s' t):=tF λi hi=>by unfold iJ;rw[h i hi]
 unfold fA;rw[this]
theorem BE{s s':aH}(h:∀ i:Nat,i<5->gone s i=gone s' i):cX s=cX s':=by
 unfold cX;exact tF λi hi=>by unfold kN;rw[h i hi]
theorem E9{s:aH}(h:StateOk s)(t:List bT):prune (prune s t) t=prune s t:=by
 have hp:=vK h t
 rw[t7 hp,AB (s:=prune s t) (s':=s) t λi hi=>z7 h t hi]
 refine Leq.joinR ?_
 rw[t7 h];exact Leq.right h (AA s t)
theorem LE{s:aH}(h:StateOk s)(t:List bT):Leq s (prune s t):=by rw[t7 h];exact Leq.left h (AA s t)
theorem FM{s:aH}(h:StateOk s)(t:List bT):cX (prune s t)=cX s:=BE λi hi=>z7 h t hi
-- rows that hold marks already
def P8(t:List bT)(k j:Nat):Int:=(gt (gt t k).1 j).1
def Cov(t:List bT)(k:Int)(ms:List aR):Prop:=∀ i,i<ms.length->(gt ms i).2.1<=P8 t k.toNat (gt ms i).1.toNat
def DoneT(t:List bT)(k:Int)(ms:List aR):Prop:=pG t k ms=true->Cov t k ms
theorem I4{t t':List bT}(hl:t.length=t'.length)(hr:∀ j,(gt t j).1.length=(gt t' j).1.length)(k:Int)(ms:List aR):pG t k ms=pG t' k ms:=by
 unfold pG;rw[hl,hr]
theorem GQ(t:List bT)(k k':Int)(ms ms':List aR):pG (bP t k' ms') k ms=pG t k ms:=
 I4 (dG t k' ms') (λj=>eY t k' ms' j) k ms
theorem GN(r:bT)(ms:List aR):∀ i j,(gt r.1 j).1<=(gt (kH r ms i).1 j).1
 | 0,_=>Int.le_refl _
 | i+1,j=>by
  have ih:=GN r ms i j
  show _<=(gt (List.set (kH r ms i).1 (gt ms i).1.toNat (mxI true (gt (kH r ms i).1 (gt ms i).1.toNat).1 (gt ms i).2.1,())) j).1
  rcases Nat.lt_or_ge (gt ms i).1.toNat (kH r ms i).1.length with h | h
  ·by_cases e:(gt ms i).1.toNat=j
   ·rw[e] at h ⊢
    rw[cC h]
    show _<=mxI true _ _
    rw[rZ];omega
   ·rw[eD e];exact ih
  ·rw[List.set_eq_of_length_le h];exact ih
theorem wD(r:bT){ms:List aR}(h:∀ i,i<ms.length->(gt ms i).1.toNat<r.1.length):∀ n,n<=ms.length->∀ i,i<n->(gt ms i).2.1<=(gt (kH r ms n).1 (gt ms i).1.toNat).1
 | 0,_,_,hi=>by omega
 | n+1,hn,i,hi=>by
  show _<=(gt (List.set (kH r ms n).1 (gt ms n).1.toNat (mxI true (gt (kH r ms n).1 (gt ms n).1.toNat).1 (gt ms n).2.1,())) (gt ms i).1.toNat).1
  have hl:(gt ms n).1.toNat<(kH r ms n).1.length:=by rw[nY];exact h n (by omega)
  by_cases e:(gt ms n).1.toNat=(gt ms i).1.toNat
  ·rw[e] at hl ⊢
   rw[cC hl]
   show _<=mxI true _ _
   rw[rZ]
   by_cases c:i=n
   ·subst c;omega
   ·have:=wD r h n (by omega) i (by omega);omega
  ·rw[eD e]
   exact wD r h n (by omega) i (by
    rcases Nat.lt_or_ge i n with c | c
    ·exact c
    ·exact absurd (by rw[show i=n by omega]) e)
theorem GM{r:bT}{ms:List aR}(h:∀ i,i<ms.length->(gt ms i).2.1<=(gt r.1 (gt ms i).1.toNat).1):∀ n,n<=ms.length->kH r ms n=r
 | 0,_=>rfl
 | n+1,hn=>by
  show DC (kH r ms n) (gt ms n)=r
  rw[GM h n (by omega)]
  have:=h n (by omega)
  unfold DC
  rw[rZ,show max (gt r.1 (gt ms n).1.toNat).1 (gt ms n).2.1=(gt r.1 (gt ms n).1.toNat).1 by omega]
  show(r.1.set (gt ms n).1.toNat (gt r.1 (gt ms n).1.toNat),())=r
  rw[sK]
structure AddOk (t:List bT) (k:Int) (ms:List aR):Prop where
 kn:k.toNat<t.length
 mok:fG ms=true
 row:5<=(gt t k.toNat).1.length
theorem QE{t:List bT}{k:Int}{ms:List aR}(hl:t.length<=aW)(h:pG t k ms=true):AddOk t k ms:=by
 unfold pG at h
 simp only[Bool.and_eq_true,Bool.not_eq_true',decide_eq_false_iff_not] at h
 exact⟨(yB hl h.1).1,h.2.1,by omega⟩
theorem AddOk.ids{t:List bT}{k:Int}{ms:List aR}(h:AddOk t k ms):∀ i,i<ms.length->(gt ms i).1.toNat<(gt t k.toNat).1.length:=λi hi=>by
 have h1:=uG h.mok hi;have h2:=h.row;omega
theorem QD{t:List bT}(hl:t.length<=aW)(k:Int)(ms:List aR):DoneT (bP t k ms) k ms:=by
 intro hb
 rw[GQ] at hb
 have ho:=QE hl hb
 intro i hi
 unfold P8 bP
 rw[hb]
 show _<=(gt (gt (cR t k.toNat ms ms.length) k.toNat).1 _).1
 unfold cR
 rw[cC ho.kn]
 exact wD _ ho.ids _ (Nat.le_refl _) i hi
theorem T0(t:List bT)(k:Int)(ms:List aR)(q j:Nat):P8 t q j<=P8 (bP t k ms) q j:=by
 unfold P8 bP
 cases pG t k ms with
 | false=>exact Int.le_refl _
 | true=>
  show _<=(gt (gt (cR t k.toNat ms ms.length) q).1 j).1
  unfold cR
  rcases Nat.lt_or_ge k.toNat t.length with h | h
  ·by_cases e:k.toNat=q
   ·subst e;rw[cC h];exact GN _ _ _ _
   ·rw[eD e];exact Int.le_refl _
  ·rw[List.set_eq_of_length_le h];exact Int.le_refl _
theorem DoneT.add{t:List bT}{k:Int}{ms:List aR}(h:DoneT t k ms)(k':Int)(ms':List aR):DoneT (bP t k' ms') k ms:=λhb i hi=>by
 rw[GQ] at hb
 exact Int.le_trans (h hb i hi) (T0 t k' ms' _ _)
theorem DoneT.eq{t:List bT}{k:Int}{ms:List aR}(h:DoneT t k ms):bP t k ms=t:=by
 unfold bP
 cases hb:pG t k ms with
 | false=>rfl
 | true=>
  show cR t k.toNat ms ms.length=t
  unfold cR
  rw[GM (h hb) _ (Nat.le_refl _)]
  exact sK
-- vectors that are raised already
theorem EE(v:List aO)(k n:Int)(j:Nat):(gt v j).1<=(gt (c7 v k n) j).1:=by
 rcases pP v k n j with e | e<;>rw[e]<;>omega
-- rises that are up to date
def RisesUp(rs:List kI)(xs:List bM):Prop:=∀ i,i<xs.length->pY (gt rs (gt xs i).1.toNat) (gt xs i).2=false
theorem KU(clock:Int)(r:kI)(e:bH):pY (mW clock r e) e=false:=by
 unfold mW
 cases h:pY r e with
 | false=>exact h
 | true=>unfold pY;simp
theorem RisesUp.eq{clock:Int}{rs:List kI}{xs:List bM}(h:RisesUp rs xs):∀ n,n<=xs.length->dJ clock rs xs n=rs
 | 0,_=>rfl
 | n+1,hn=>by
  show(dJ clock rs xs n).set (gt xs n).1.toNat (mW clock (gt (dJ clock rs xs n) (gt xs n).1.toNat) (gt xs n).2)=rs
  rw[h.eq n (by omega)]
  unfold mW
  rw[h n (by omega)]
  exact sK
theorem BR{clock:Int}{rs:List kI}{xs:List bM}(hl:∀ i,i<xs.length->(gt xs i).1.toNat<rs.length)(hd:∀ i j,i<j->j<xs.length->(gt xs i).1.toNat≠(gt xs j).1.toNat):
  ∀ n,n<=xs.length->∀ i,i<n->pY (gt (dJ clock rs xs n) (gt xs i).1.toNat) (gt xs i).2=false
 | 0,_,_,hi=>by omega
 | n+1,hn,i,hi=>by
  show pY (gt ((dJ clock rs xs n).set (gt xs n).1.toNat (mW clock (gt (dJ clock rs xs n) (gt xs n).1.toNat) (gt xs n).2)) (gt xs i).1.toNat) (gt xs i).2=false
  by_cases c:i=n
  ·subst c
   rw[cC (by rw[gU];exact hl i (by omega))]
   exact KU _ _ _
  ·rw[eD (λe=>hd i n (by omega) (by omega) e.symm)]
   exact BR hl hd n (by omega) i (by omega)
theorem LY{s:aH}(h:StateOk s):(∀ i,i<s.1.length->(gt s.1 i).1.toNat<5)/\∀ i j,i<j->j<s.1.length->(gt s.1 i).1.toNat≠(gt s.1 j).1.toNat:=by
 refine⟨λi hi=>?_,λi j hij hj e=>?_⟩
 ·obtain⟨k,hk,e⟩:=nH (h.item _ (cO hi)).1;omega
 ·obtain⟨k,hk,e1⟩:=nH (h.item _ (cO (i:=i) (by omega))).1
  obtain⟨k',hk',e2⟩:=nH (h.item _ (cO hj)).1
  have hp:=h.items
  rw[List.pairwise_iff_getElem] at hp
  have:=hp i j (by omega) hj hij
  rw[<- cY (by omega),<- cY hj] at this
  omega
-- a node at rest
structure Rest (x:NodeT):Prop where
 ok:StateOk x.state
 seen:DoneT x.seen x.1 (cX x.state)
 prune:prune x.state x.seen=x.state
 tree:cJ x.state=x.tree
 rises:RisesUp x.rises x.state.1
theorem Rest.take{x:NodeT}(h:Rest x){s:aH}(hs:Leq s x.state):jB x s=x:=by
 have e1:cF x.state s=x.state:=hs.joinR
 have e2:tkS x s=x.seen:=by unfold tkS;rw[e1];exact h.seen.eq
 have e3:tkP x s=x.state:=by unfold tkP;rw[e2,e1];exact h.prune
 have e4:tkR x s=x.rises:=by unfold tkR;rw[e3];exact h.rises.eq _ (Nat.le_refl _)
 unfold jB
 rw[e2,e4,e3,h.tree]
theorem GZ{x:NodeT}(h:NodeOk x)(hl:x.seen.length<=aW){s:aH}(hs:StateOk s):Rest (jB x s):=by
 have hx:=(aS _).1 h.state
 have hj:=hx.join hs
 have e:(jB x s).state=tkP x s:=rfl
 have hm:cX (tkP x s)=cX (cF x.state s):=FM hj _
 have hp:StateOk (tkP x s):=vK hj _
 refine⟨hp,?_,?_,rfl,?_⟩
 ·show DoneT (tkS x s) x.1 (cX (tkP x s))
  rw[hm];exact QD hl _ _
 ·show prune (tkP x s) (tkS x s)=tkP x s
  exact E9 hj _
 ·show RisesUp (tkR x s) (tkP x s).1
  have hi:=LY hp
  have hr:=h.rises
  rw[beq_iff_eq] at hr
  exact λi hi'=>BR (λi hi''=>by have:=hi.1 i hi'';omega) hi.2 _ (Nat.le_refl _) i hi'
theorem KH{x:NodeT}(h:NodeOk x){s:aH}(hs:StateOk s):Leq x.state (jB x s).state/\Leq s (jB x s).state:=by
 have hx:=(aS _).1 h.state
 have hj:=hx.join hs
 have hp:Leq (cF x.state s) (jB x s).state:=LE hj _
 exact⟨(Leq.left hx hs).trans hp,(Leq.right hx hs).trans hp⟩
-- hearing twice
structure Heard (x:NodeT) (m:MsgT):Prop where
 rest:Rest x
 acked:c7 x.acked m.2.1 (mxI false (gt m.vec x.1.toNat).1 (cE x.log))=x.acked
 seen:DoneT x.seen m.2.1 m.marks
theorem Heard.eq{x:NodeT}{m:MsgT}(h:Heard x m):eG x m=x:=by
 have e:heard0 x m=x:=by
  unfold heard0
  rw[h.acked,h.seen.eq]
 unfold eG
 rw[e];exact h.rest.take (Leq.nil h.rest.ok)
theorem Heard.take{x:NodeT}{m:MsgT}(h:Heard x m)(ho:NodeOk x)(hl:x.seen.length<=aW){s:aH}(hs:StateOk s):Heard (jB x s) m:=
 ⟨GZ ho hl hs,h.acked,h.seen.add _ _⟩
theorem Heard.gotUp{x:NodeT}{m:MsgT}(h:Heard x m):Heard (gotUp x m) m:=⟨⟨h.rest.ok,h.rest.seen,h.rest.prune,h.rest.tree,h.rest.rises⟩,h.acked,h.seen⟩
end Go.Abs
-- receiving twice, and what receiving keeps: plain laws
namespace Go.Abs
-- what receiving keeps
def VLe(a b:List aO):Prop:=a.length=b.length/\∀ i,(gt a i).1<=(gt b i).1
theorem VLe.refl(a:List aO):VLe a a:=⟨rfl,λ_=>Int.le_refl _⟩
theorem VLe.trans{a b c:List aO}(h:VLe a b)(h':VLe b c):VLe a c:=⟨h.1.trans h'.1,λi=>Int.le_trans (h.2 i) (h'.2 i)⟩
theorem VLe.raise(v:List aO)(k n:Int):VLe v (c7 v k n):=⟨(fS v k n).symm,EE v k n⟩
structure Kept (x y:NodeT):Prop where
 state:Leq x.state y.state
 got:VLe x.got y.got
 acked:VLe x.acked y.acked
theorem NodeOk.st{x:NodeT}(h:NodeOk x):StateOk x.state:=(aS _).1 h.state
theorem Kept.refl{x:NodeT}(h:NodeOk x):Kept x x:=⟨Leq.refl h.st,VLe.refl _,VLe.refl _⟩
theorem Kept.trans{x y z:NodeT}(h:Kept x y)(h':Kept y z):Kept x z:=⟨h.state.trans h'.state,h.got.trans h'.got,h.acked.trans h'.acked⟩
theorem Kept.take{x:NodeT}(h:NodeOk x){s:aH}(hs:StateOk s):Kept x (jB x s):=⟨(KH h hs).1,VLe.refl _,VLe.refl _⟩
theorem Kept.heard{x:NodeT}(h:NodeOk x)(m:MsgT):Kept x (eG x m):=
 Kept.trans (y:=heard0 x m) ⟨Leq.refl h.st,VLe.refl _,VLe.raise _ _ _⟩ (Kept.take (h.heard0 m) lU)
theorem Kept.brought{x:NodeT}(h:NodeOk x){m:MsgT}(hp:aP m.part=true):Kept x (eC x m):=by
 have h1:=(Kept.heard h m).trans (Kept.take (h.heard m) ((aS _).1 hp))
 exact⟨h1.state,h1.got.trans (VLe.raise _ _ _),h1.acked⟩
theorem Kept.with{x:NodeT}(h:NodeOk x)(ss:List eF):Kept x (withS x ss):=⟨Leq.refl h.st,VLe.refl _,VLe.refl _⟩
-- what is answered
theorem NM{a b:List aO}(h:jE a b=true):a=b:=by
 unfold jE at h
 simp only[Bool.and_eq_true,beq_iff_eq,bL] at h
 exact IJ (by omega) λi hi=>Prod.ext (by have:=h.2 i hi;simpa using this) rfl
theorem NodeOk.treeB{x:NodeT}(h:NodeOk x):treeB x.tree=true:=by
 have h1:=h.tree
 unfold tL at h1
 rw[Bool.and_eq_true] at h1
 have e1:x.tree.1=(cJ x.state).1:=NM h1.1
 have e2:x.tree.2.1=(cJ x.state).2.1:=eq_of_beq h1.2
 have e:x.tree=cJ x.state:=Prod.ext e1 (Prod.ext e2 rfl)
 rw[e];exact MX h.state
theorem GU{v:List aO}{n:Int}(h:eH v n=true):nG v 100000=true/\(v.length:Int)=n/\1<=n/\n<=5:=by
 unfold eH at h
 simp only[Bool.and_eq_true,beq_iff_eq,aV] at h
 exact⟨h.2.2,h.2.1,h.1⟩
def RX(v:List aO):Bool:=bR v.length (FS v)
/-- A message that a right node writes is right. -/
theorem NodeOk.says {x:NodeT} (h:NodeOk x) {k to num:Int} {tree:mU} {leaves:List aO} {part:aH} (hk:0<=k/\k<=5) (ht:0<=to/\to<=4/\to≠x.1) (hn:inB num 0 100000=true)
  (hT:Go.Abs.treeB tree=true) (hl:RX leaves=true) (hp:aP part=true):
  eX (k,x.1,to,num,cE x.log,tree.1,tree.2.1,x.got,leaves,part.1,part.2.1,cX x.state,())=true:=by
 have hv:=GU h.got
 have hid:=h.id
 have hl2:=CB h.log
 rw[aV,IntKind.wrap_i64] at hid
 rw[aV] at hn
 unfold eX uD eM
 simp only[Bool.and_eq_true,aV,Bool.not_eq_true',beq_eq_false_iff_ne,decide_eq_true_eq]
 exact⟨⟨hk,by show 0<=x.1/\x.1<=4;omega,by show 0<=to/\to<=4;omega,λe=>ht.2.2 e.symm⟩,hl,hv.1,hn,hl2,hT,by show(x.got.length:Int)<=5;omega,hp,HM _⟩
structure Ans (x:NodeT) (m q:MsgT):Prop where
 ok:eX q=true
 frm:q.2.1=x.1
 to:q.2.2.1=m.2.1
 num:q.2.2.2.1=m.2.2.2.1
theorem RecOk.peer{x:NodeT}{m:MsgT}(h:RecOk x m):0<=m.2.1/\m.2.1<=4/\m.2.1≠x.1:=by
 have h1:=h.frm;have h2:=h.idn;exact⟨by omega,by omega,h.ne⟩
-- vectors compared
def atV(v:List aO)(i:Int):Int:=bif inB i 0 (i64.wrap ((v.length:Int) - 1))then(gt v i.toNat).1 else 0
def MV(a b:List aO):Bool:=bR a.length λi=> !decide ((gt a i).1>atV b (i:Int))
theorem VLe.leq{a b:List aO}(h:VLe a b)(hl:b.length<=aW):MV a b=true:=by
 unfold MV;rw[bL]
 intro i hi
 have h1:=h.1;have h2:=h.2 i
 unfold atV
 rw[aV.2 (by rw[IntKind.wrap_i64];unfold aW at hl;omega)]
 show(!decide ((gt a i).1>(gt b ((i:Int)).toNat).1))=true
 rw[Int.toNat_natCast,decide_eq_false (by omega)];rfl
end Go.Abs
namespace Go.Abs
open Go
-- a number read back: what lies at place i of b, five bytes at most
def xN(b:List aO)(i:Nat):Nat->Nat->Nat->Option (Nat×Nat)
 | 0,_,_=>none
 | n+1,k,acc=>
  if i+k<b.length then
   if 128<=(gt b (i+k)).1.toNat then xN b i n (k+1) (acc+(gt b (i+k)).1.toNat % 128*128 ^ k)
   else if 0<k/\(gt b (i+k)).1.toNat=0 then none
   else if acc+(gt b (i+k)).1.toNat*128 ^ k>2147483647 then none
   else some (acc+(gt b (i+k)).1.toNat*128 ^ k,i+k+1)
  else none
def z9(b:List aO)(i:Nat):Option (Nat×Nat):=xN b i 5 0 0
theorem H8(u v:List aO)(x:aO):gt (u++x::v) u.length=x:=by
 rw[cY (by simp)];simp
theorem PH(v:List aO):∀ (m n k acc i:Nat) (u:List aO),n<128 ^ (m+1)->(0<k->0<n)->acc+n*128 ^ k<=2147483647->i+k=u.length->
  xN (u++hZ n++v) i (m+1) k acc=some (acc+n*128 ^ k,i+k+(hZ n).length):=by
 intro m
 induction m with
 | zero=>
  intro n k acc i u h h0 hb hi
  have hn:n<128:=by simpa using h
  have e:hZ n=[((n:Int),())]:=by unfold hZ;rw[dif_pos hn]
  rw[e]
  have eg:gt (u++[((n:Int),())]++v) (i+k)=((n:Int),()):=by rw[hi,List.append_assoc];exact H8 u v _
  unfold xN
  rw[eg,if_pos (by rw[hi];simp)]
  show(if 128<=((n:Int)).toNat then _ else _)=_
  rw[Int.toNat_natCast,if_neg (by omega),if_neg (by omega),if_neg (by omega)];rfl
 | succ m ih=>
  intro n k acc i u h h0 hb hi
  by_cases hn:n<128
  ·have e:hZ n=[((n:Int),())]:=by unfold hZ;rw[dif_pos hn]
   rw[e]
   have eg:gt (u++[((n:Int),())]++v) (i+k)=((n:Int),()):=by rw[hi,List.append_assoc];exact H8 u v _
   unfold xN
   rw[eg,if_pos (by rw[hi];simp)]
   show(if 128<=((n:Int)).toNat then _ else _)=_
   rw[Int.toNat_natCast,if_neg (by omega),if_neg (by omega),if_neg (by omega)];rfl
  ·have e:hZ n=(((n % 128+128:Nat):Int),())::hZ (n / 128):=by conv=>lhs;unfold hZ;rw[dif_neg hn]
   have hm:n % 128*128 ^ k+n / 128*128 ^ (k+1)=n*128 ^ k:=by
    have:=Nat.mod_add_div n 128
    rw[Nat.pow_succ,show n / 128*(128 ^ k*128)=128*(n / 128)*128 ^ k by ac_rfl,<- Nat.add_mul,this]
   have eb:u++hZ n++v=(u++[(((n % 128+128:Nat):Int),())])++hZ (n / 128)++v:=by rw[e];simp
   have eg:gt (u++hZ n++v) (i+k)=(((n % 128+128:Nat):Int),()):=by rw[hi,e,List.append_assoc];exact H8 u _ _
   have hl:i+k<(u++hZ n++v).length:=by rw[e,hi];simp
   have ih':=ih (n / 128) (k+1) (acc+n % 128*128 ^ k) i (u++[(((n % 128+128:Nat):Int),())]) (by rw[Nat.pow_succ] at h;exact Nat.div_lt_of_lt_mul (by omega)) (λ_=>by omega) (by omega) (by rw[List.length_append,List.length_singleton];omega)
   rw[<- eb] at ih'
   unfold xN
   rw[if_pos hl,eg]
   show(if 128<=(((n % 128+128:Nat):Int)).toNat then _ else _)=_
   rw[Int.toNat_natCast,if_pos (by omega),show(n % 128+128) % 128=n % 128 by omega,ih',e]
   rw[List.length_cons]
   congr 2
   ·omega
   ·omega
theorem IA(u v:List aO){n:Nat}(h:n<=2147483647):z9 (u++hZ n++v) u.length=some (n,u.length+(hZ n).length):=by
 have:=PH v 4 n 0 0 u.length u (by omega) (λh=>absurd h (by omega)) (by omega) rfl
 unfold z9;rw[this];simp
end Go.Abs
namespace Go.Abs
open Go
theorem R6{b:List aO}{i:Nat}:∀ (n k acc:Nat) {x j:Nat},xN b i n k acc=some (x,j)->x<=2147483647/\j<=b.length/\i+k<j:=by
 intro n
 induction n with
 | zero=>intro k acc x j h;unfold xN at h;exact absurd h (by simp)
 | succ n ih=>
  intro k acc x j h
  unfold xN at h
  split at h
  ·split at h
   ·have:=ih _ _ h;omega
   ·split at h
    ·cases h
    ·split at h
     ·cases h
     ·cases h;omega
  ·cases h
theorem xO{n:Nat}(h:n<9223372036854775808):i64.wrap (n:Int)=(n:Int):=by
 rw[IntKind.wrap_i64];omega
theorem SH{k:Nat}(hk:k<5):i64.wrap ((7:Int)*(k:Int))=((7*k:Nat):Int):=by
 rw[IntKind.wrap_i64];omega
theorem QZ{x k:Nat}(hx:x<128)(hk:k<5):ER i64 (x:Int) (i64.wrap ((7:Int)*(k:Int)))=((x*128 ^ k:Nat):Int):=by
 rw[SH hk]
 unfold ER
 rw[Int.toNat_natCast]
 have h:k=0\/k=1\/k=2\/k=3\/k=4:=by omega
 rcases h with rfl | rfl | rfl | rfl | rfl
 ·rw[show(2:Int) ^ (min (7*0) i64.bits)=1 by decide,IntKind.wrap_i64];omega
 ·rw[show(2:Int) ^ (min (7*1) i64.bits)=128 by decide,IntKind.wrap_i64];omega
 ·rw[show(2:Int) ^ (min (7*2) i64.bits)=16384 by decide,IntKind.wrap_i64];omega
 ·rw[show(2:Int) ^ (min (7*3) i64.bits)=2097152 by decide,IntKind.wrap_i64];omega
 ·rw[show(2:Int) ^ (min (7*4) i64.bits)=268435456 by decide,IntKind.wrap_i64];omega
theorem EH(x:Nat):((x:Int)).tmod 128=((x % 128:Nat):Int):=by
 rw[Int.tmod_eq_emod_of_nonneg (by omega)];omega
theorem UK{k:Nat}(hk:k<5):128 ^ k<=268435456:=by
 have h:k=0\/k=1\/k=2\/k=3\/k=4:=by omega
 rcases h with rfl | rfl | rfl | rfl | rfl<;>decide
theorem TD{a x k:Nat}(ha:a<128 ^ k)(hx:x<128)(hk:k<5):orI i64 (a:Int) ((x*128 ^ k:Nat):Int)=((a+x*128 ^ k:Nat):Int):=by
 have hp:=UK hk
 have hm:x*128 ^ k<=127*268435456:=Nat.mul_le_mul (by omega) hp
 unfold orI
 have e:(BitVec.ofInt i64.bits (a:Int)||| BitVec.ofInt i64.bits ((x*128 ^ k:Nat):Int)).toNat=a+x*128 ^ k:=by
  rw[BitVec.toNat_or,BitVec.ofInt_natCast,BitVec.ofInt_natCast,BitVec.toNat_ofNat,BitVec.toNat_ofNat]
  rw[Nat.mod_eq_of_lt (show a<2 ^ i64.bits by show a<2 ^ 64;omega),Nat.mod_eq_of_lt (show x*128 ^ k<2 ^ i64.bits by show x*128 ^ k<2 ^ 64;omega)]
  have h2:128 ^ k=2 ^ (7*k):=by rw[Nat.pow_mul]
  rw[h2] at ha ⊢
  rw[Nat.or_comm,Nat.mul_comm x,<- Nat.two_pow_add_eq_or_of_lt ha];omega
 rw[e];exact xO (by omega)
theorem T1{a x k:Nat}(ha:a<128 ^ k):a+x % 128*128 ^ k<128 ^ (k+1):=by
 have h:x % 128<128:=Nat.mod_lt _ (by omega)
 have h2:x % 128*128 ^ k<=127*128 ^ k:=Nat.mul_le_mul (by omega) (Nat.le_refl _)
 rw[Nat.pow_succ];omega
end Go.Abs
/- Plain laws: worlds compared. -/
namespace Go.Abs
def cK(a b:List aO):Bool:=ByteArray.toList (dH a)==ByteArray.toList (dH b)
end Go.Abs
-- bytes read back: plain laws of readers
namespace Go.Abs
open Go
def B8(b:List aO):Prop:=∀ k,k<b.length->∃ y:Nat,(gt b k).1=(y:Int)/\y<=255
def ByL(b:List aO):Prop:=∀ x∈b,∃ y:Nat,x.1=(y:Int)/\y<=255
theorem ByL.b8{b:List aO}(h:ByL b):B8 b:=λk hk=>h _ (cO hk)
theorem B8.byL{b:List aO}(h:B8 b):ByL b:=λx hx=>by
 obtain⟨i,hi,e⟩:=gZ hx
 rw[<- e];exact h i hi
theorem ByL.app{a b:List aO}(ha:ByL a)(hb:ByL b):ByL (a++b):=λx hx=>by
 rcases List.mem_append.1 hx with h | h
 ·exact ha x h
 ·exact hb x h
theorem ByL.flat{α:Type}{f:α->List aO}(h:∀ x,ByL (f x))(xs:List α):ByL (xs.flatMap f):=λx hx=>by
 obtain⟨a,_,ha⟩:=List.mem_flatMap.1 hx
 exact h a x ha
theorem ByL.sub{a b:List aO}(h:ByL b)(hs:∀ x∈a,x∈b):ByL a:=λx hx=>h x (hs x hx)
theorem RH(n:Nat):ByL (hZ n):=by
 induction n using Nat.strongRecOn with
 | _ n ih=>
  unfold hZ
  split
  ·rename_i h
   intro b hb
   rw[List.mem_singleton.1 hb];exact⟨n,rfl,by omega⟩
  ·rename_i h
   intro b hb
   rcases List.mem_cons.1 hb with e | e
   ·rw[e];exact⟨n % 128+128,rfl,by omega⟩
   ·exact ih (n / 128) (Nat.div_lt_self (by omega) (by omega)) b e
theorem dX(x:Int):ByL (aN x):=by
 unfold aN
 cases inB x 0 2147483647 with
 | false=>intro b hb;cases hb
 | true=>exact RH _
theorem MI(t:ByteArray):ByL (fM t):=λb hb=>by
 unfold fM eP at hb
 obtain⟨u,_,rfl⟩:=List.mem_map.1 hb
 have:=u.toNat_lt
 exact⟨u.toNat,rfl,by omega⟩
theorem HD(t:ByteArray):ByL (dT t):=(dX _).app (MI t)
theorem DW(x:bM):ByL (bD x):=by
 unfold bD;exact(((((dX _).app (dX _)).app (dX _)).app (dX _)).app (dX _)).app (HD _)
theorem sC(f:aR):ByL (bF f):=(dX _).app (dX _)
theorem v6(s:aH):ByL (bS s):=(((dX _).app (ByL.flat DW _)).app (dX _)).app (ByL.flat sC _)
theorem CP{l:List aO}(h:ByL l):fM (dH l)=l:=by
 show List.map (λb:UInt8=>(((b.toNat:Nat):Int),())) (List.map (λr:aO=>UInt8.ofNat (Int.toNat r.1)) l)=l
 rw[List.map_map]
 conv=>rhs;rw[<- List.map_id l]
 refine List.map_congr_left λx hx=>?_
 obtain⟨y,hy,hy2⟩:=h x hx
 obtain⟨z,u⟩:=x
 have hy:z=(y:Int):=hy
 subst hy
 show((((UInt8.ofNat ((y:Int)).toNat).toNat:Nat):Int),())=((y:Int),u)
 rw[Int.toNat_natCast,UInt8.toNat_ofNat',Nat.mod_eq_of_lt (by omega)]
theorem MH(s:ByteArray):dH (fM s)=s:=by
 have e:List.map (λr:aO=>UInt8.ofNat (Int.toNat r.1)) (fM s)=s.data.toList:=by
  show List.map _ (List.map (λb:UInt8=>(((b.toNat:Nat):Int),())) s.data.toList)=_
  rw[List.map_map]
  conv=>rhs;rw[<- List.map_id s.data.toList]
  refine List.map_congr_left λx hx=>?_
  show UInt8.ofNat (((x.toNat:Nat):Int)).toNat=x
  rw[Int.toNat_natCast];simp
 exact congrArg (λl:List UInt8=>(⟨l.toArray⟩:ByteArray)) e
theorem mM{a b:List aO}(ha:ByL a)(hb:ByL b):cK a b=true↔a=b:=by
 unfold cK
 rw[beq_iff_eq,ByteArray.toList_eq,ByteArray.toList_eq]
 constructor
 ·intro h
  have:fM (dH a)=fM (dH b):=by unfold fM eP;rw[h]
  rwa [CP ha,CP hb] at this
 ·rintro rfl;rfl
-- readers
abbrev RdT:Type:=List aO×Int×Bool×Unit
def uM(b:List aO)(i:Int):Option (Nat×Nat):=bif decide (i<0)then none else z9 b i.toNat
theorem DZ{b:List aO}{i:Int}{x j:Nat}(h:uM b i=some (x,j)):x<=2147483647/\j<=b.length:=by
 unfold uM at h
 cases e:decide (i<0)with
 | true=>rw[e] at h;cases h
 | false=>
  rw[e] at h
  have h:xN b i.toNat 5 0 0=some (x,j):=h
  have:=R6 5 0 0 h
  omega
-- a number read off a reader: (the number, the reader behind it)
def aQ(r:RdT):Int×RdT:=bif r.2.2.1 then(0,(r.1,r.2.1,true,()))else
 match uM r.1 r.2.1 with
 | none=>(0,(r.1,r.2.1,true,()))
 | some (x,j)=>((x:Int),(r.1,(j:Int),r.2.2.1,()))
def nD(r:RdT)(m:Int):Int×RdT:=bif decide ((aQ r).1>m)then(0,((aQ r).2.1,(aQ r).2.2.1,true,()))else aQ r
def yJ(b:List aO)(i:Int):Option (ByteArray×Nat):=match uM b i with
 | none=>none
 | some (x,j)=>if x>b.length - j then none else some (dH ((b.take (j+x)).drop j),j+x)
def pH(r:RdT):ByteArray×RdT:=bif r.2.2.1 then(⟨#[]⟩,(r.1,r.2.1,true,()))else
 match yJ r.1 r.2.1 with
 | none=>(⟨#[]⟩,(r.1,r.2.1,true,()))
 | some (s,j)=>(s,(r.1,(j:Int),r.2.2.1,()))
structure RdOk (r:RdT):Prop where
 b8:B8 r.1
 len:r.1.length<=aW
 lo:0<=r.2.1
 hi:r.2.1<=(r.1.length:Int)
theorem rC(r:RdT):(aQ r).2.1=r.1/\(0<=r.2.1->r.2.1<=(r.1.length:Int)->0<=(aQ r).2.2.1/\(aQ r).2.2.1<=(r.1.length:Int))/\0<=(aQ r).1/\(aQ r).1<=2147483647/\(r.2.2.1=true->(aQ r).2.2.2.1=true):=by
 obtain⟨b,i,bad,u⟩:=r
 cases bad with
 | true=>exact⟨rfl,λh1 h2=>⟨h1,h2⟩,Int.le_refl _,by show(0:Int)<=2147483647;omega,λ_=>rfl⟩
 | false=>
  have e:aQ (b,i,false,u)=(match uM b i with | none=>((0:Int),((b,i,true,()):RdT)) | some (x,j)=>((x:Int),(b,(j:Int),false,()))):=rfl
  rw[e]
  cases h:uM b i with
  | none=>exact⟨rfl,λh1 h2=>⟨h1,h2⟩,Int.le_refl _,by show(0:Int)<=2147483647;omega,λ_=>rfl⟩
  | some q=>
   obtain⟨x,j⟩:=q
   have hb:=DZ h
   exact⟨rfl,λh1 h2=>⟨Int.natCast_nonneg _,by show(j:Int)<=(b.length:Int);omega⟩,Int.natCast_nonneg _,by show(x:Int)<=2147483647;omega,λh=>absurd (show false=true from h) (by decide)⟩
theorem jW(r:RdT):(aQ r).2.1=r.1:=(rC r).1
theorem E3(r:RdT):0<=(aQ r).1:=(rC r).2.2.1
theorem RdOk.num{r:RdT}(h:RdOk r):RdOk (aQ r).2:=by
 have e:=rC r
 have p:=e.2.1 h.lo h.hi
 exact⟨by rw[e.1];exact h.b8,by rw[e.1];exact h.len,p.1,by rw[e.1];exact p.2⟩
theorem RdOk.cnt{r:RdT}(h:RdOk r)(m:Int):RdOk (nD r m).2:=by
 have hn:=h.num
 unfold nD
 cases decide ((aQ r).1>m)with
 | true=>exact⟨hn.b8,hn.len,hn.lo,hn.hi⟩
 | false=>exact hn
theorem zF(r:RdT):(pH r).2.1=r.1/\(0<=r.2.1->r.2.1<=(r.1.length:Int)->0<=(pH r).2.2.1/\(pH r).2.2.1<=(r.1.length:Int)):=by
 obtain⟨b,i,bad,u⟩:=r
 cases bad with
 | true=>exact⟨rfl,λh1 h2=>⟨h1,h2⟩⟩
 | false=>
  have e:pH (b,i,false,u)=(match yJ b i with | none=>((⟨#[]⟩:ByteArray),((b,i,true,()):RdT)) | some (s,j)=>(s,(b,(j:Int),false,()))):=rfl
  rw[e]
  cases h:yJ b i with
  | none=>exact⟨rfl,λh1 h2=>⟨h1,h2⟩⟩
  | some q=>
   obtain⟨s,j⟩:=q
   refine⟨rfl,λh1 h2=>⟨Int.natCast_nonneg _,?_⟩⟩
   show(j:Int)<=(b.length:Int)
   unfold yJ at h
   cases hg:uM b i with
   | none=>rw[hg] at h;cases h
   | some q=>
    obtain⟨x,k⟩:=q
    have hb:=DZ hg
    rw[hg] at h
    have h:(if x>b.length - k then none else some (dH ((b.take (k+x)).drop k),k+x))=some (s,j):=h
    split at h
    ·cases h
    ·cases h;omega
theorem RdOk.txt{r:RdT}(h:RdOk r):RdOk (pH r).2:=by
 have e:=zF r
 have p:=e.2 h.lo h.hi
 exact⟨by rw[e.1];exact h.b8,by rw[e.1];exact h.len,p.1,by rw[e.1];exact p.2⟩
-- several numbers
def rdK(r:RdT):Nat->RdT
 | 0=>r
 | k+1=>(aQ (rdK r k)).2
def rdV(r:RdT)(k:Nat):Int:=(aQ (rdK r k)).1
theorem RdOk.k{r:RdT}(h:RdOk r):∀ k,RdOk (rdK r k)
 | 0=>h
 | k+1=>(RdOk.k h k).num
theorem tX(r:RdT):∀ k,(rdK r k).1=r.1
 | 0=>rfl
 | k+1=>(jW _).trans (tX r k)
-- the same reading done several times
def kR{α:Type}(f:RdT->α×RdT)(r:RdT):Nat->List α×RdT
 | 0=>([],r)
 | k+1=>((kR f r k).1++[(f (kR f r k).2).1],(f (kR f r k).2).2)
def OA(r:RdT):aO×RdT:=(((aQ r).1,()),(aQ r).2)
def qH(r:RdT):aR×RdT:=((rdV r 0,rdV r 1,()),rdK r 2)
def eJ(r:RdT):bM×RdT:=((rdV r 0,rdV r 1,rdV r 2,rdV r 3,rdV r 4,(pH (rdK r 5)).1,()),(pH (rdK r 5)).2)
theorem RdOk.floor{r:RdT}(h:RdOk r):RdOk (qH r).2:=h.k 2
theorem RdOk.item{r:RdT}(h:RdOk r):RdOk (eJ r).2:=(h.k 5).txt
theorem H2(r:RdT):(eJ r).2.1=r.1:=(zF _).1.trans (tX r 5)
def HB(r:RdT)(m:Int):List aO×RdT:=kR OA (nD r m).2 (nD r m).1.toNat
-- what is read back
def kT{α:Type}(f:RdT->α×RdT)(e:List aO)(x:α):Prop:=
 ∀ b u v:List aO,b=u++(e++v)->f (b,(u.length:Int),false,())=(x,(b,(((u++e).length:Nat):Int),false,()))
theorem F2{x:Int}(h:inB x 0 2147483647=true){b u v:List aO}(hb:b=u++(aN x++v)):uM b (u.length:Int)=some (x.toNat,(u++aN x).length):=by
 rw[aV] at h
 have e:aN x=hZ x.toNat:=by unfold aN;rw[aV.2 h];rfl
 rw[e] at hb ⊢
 unfold uM
 rw[decide_eq_false (by omega)]
 show z9 b (u.length:Int).toNat=_
 rw[Int.toNat_natCast,hb,<- List.append_assoc,IA u v (by omega),List.length_append]
theorem hY{x:Int}(h:inB x 0 2147483647=true):kT aQ (aN x) x:=by
 intro b u v hb
 have g:=F2 h hb
 show(match uM b (u.length:Int)with | none=>((0:Int),((b,(u.length:Int),true,()):RdT)) | some (x,j)=>((x:Int),(b,(j:Int),false,())))=_
 rw[g]
 show(((x.toNat:Nat):Int),_)=(x,_)
 rw[aV] at h
 rw[show((x.toNat:Nat):Int)=x by omega]
theorem q9{x m:Int}(h:inB x 0 2147483647=true)(hm:x<=m):kT (λr=>nD r m) (aN x) x:=by
 intro b u v hb
 have:=hY h b u v hb
 show nD _ m=_
 unfold nD
 rw[this,decide_eq_false (show ¬ x>m by omega)];rfl
theorem QX{s:ByteArray}(h:ByteArray.size s<=2147483647):inB ((ByteArray.size s:Nat):Int) 0 2147483647=true:=by rw[aV];omega
theorem sE{α:Type}(a b c:List α):((a++(b++c)).take (a.length+b.length)).drop a.length=b:=by
 rw[<- List.append_assoc,List.take_left' (by rw[List.length_append]),List.drop_left' rfl]
theorem MW{s:ByteArray}(h:ByteArray.size s<=2147483647){b u v:List aO}(hb:b=u++(dT s++v)):yJ b (u.length:Int)=some (s,(u++dT s).length):=by
 unfold dT at hb ⊢
 have g:=F2 (QX h) (b:=b) (u:=u) (v:=fM s++v) (by rw[hb];simp)
 unfold yJ;rw[g]
 show(if((ByteArray.size s:Nat):Int).toNat>b.length - (u++aN ((ByteArray.size s:Nat):Int)).length then none else some (dH ((b.take ((u++aN ((ByteArray.size s:Nat):Int)).length+((ByteArray.size s:Nat):Int).toNat)).drop (u++aN ((ByteArray.size s:Nat):Int)).length),(u++aN ((ByteArray.size s:Nat):Int)).length+((ByteArray.size s:Nat):Int).toNat))=_
 have e2:b=(u++aN ((ByteArray.size s:Nat):Int))++(fM s++v):=by rw[hb];simp
 have e3:b.length=(u++aN ((ByteArray.size s:Nat):Int)).length+(ByteArray.size s+v.length):=by rw[e2,List.length_append,List.length_append (as:=fM s),jX]
 rw[Int.toNat_natCast,if_neg (by omega)]
 have e4:=sE (α:=aO) (u++aN ((ByteArray.size s:Nat):Int)) (fM s) v
 rw[<- e2,jX] at e4
 refine(congrArg (λl:List aO=>some (dH l,(u++aN ((ByteArray.size s:Nat):Int)).length+ByteArray.size s)) e4).trans ?_
 rw[MH,<- List.append_assoc,List.length_append (bs:=fM s),jX]
theorem KZ{s:ByteArray}(h:ByteArray.size s<=2147483647):kT pH (dT s) s:=by
 intro b u v hb
 have g:=MW h hb
 show(match yJ b (u.length:Int)with | none=>((⟨#[]⟩:ByteArray),((b,(u.length:Int),true,()):RdT)) | some (s,j)=>(s,(b,(j:Int),false,())))=_
 rw[g]
def cV(ns:List aO):List aO:=ns.flatMap λx=>aN x.1
theorem nR(a b:List aO):cV (a++b)=cV a++cV b:=List.flatMap_append
theorem vV(x:aO):cV [x]=aN x.1:=by unfold cV;simp
theorem n7{α:Type}[Inhabited α]{xs:List α}{k:Nat}(h:k<xs.length):xs.take (k+1)=xs.take k++[gt xs k]:=by
 rw[<- List.take_append_getElem h,cY h]
theorem yX{α:Type}[Inhabited α]{xs:List α}{k:Nat}(h:k<xs.length):xs=xs.take k++(gt xs k::xs.drop (k+1)):=by
 rw[cY h,<- List.drop_eq_getElem_cons h,List.take_append_drop]
theorem nC{ns:List aO}(h:∀ x∈ns,inB x.1 0 2147483647=true){b u v:List aO}(hb:b=u++(cV ns++v)):
  ∀ k,k<=ns.length->rdK (b,(u.length:Int),false,()) k=(b,(((u++cV (ns.take k)).length:Nat):Int),false,())
 | 0,_=>by
  show(b,(u.length:Int),false,())=_
  rw[List.take_zero];unfold cV;rw[List.flatMap_nil,List.append_nil]
 | k+1,hk=>by
  have ih:=nC h hb k (by omega)
  have hg:b=(u++cV (ns.take k))++(aN (gt ns k).1++(cV (ns.drop (k+1))++v)):=by
   rw[hb];conv=>lhs;rw[yX (show k<ns.length by omega)]
   rw[nR,show gt ns k::ns.drop (k+1)=[gt ns k]++ns.drop (k+1)from rfl,nR,vV];simp only[List.append_assoc]
  have:=hY (h _ (cO (show k<ns.length by omega))) b _ _ hg
  show(aQ (rdK _ k)).2=_
  rw[ih,this,n7 (by omega),nR,vV,List.append_assoc]
theorem vH{ns:List aO}(h:∀ x∈ns,inB x.1 0 2147483647=true){b u v:List aO}(hb:b=u++(cV ns++v))(k:Nat)(hk:k<ns.length):
  rdV (b,(u.length:Int),false,()) k=(gt ns k).1:=by
 have ih:=nC h hb k (by omega)
 have hg:b=(u++cV (ns.take k))++(aN (gt ns k).1++(cV (ns.drop (k+1))++v)):=by
  rw[hb];conv=>lhs;rw[yX hk]
  rw[nR,show gt ns k::ns.drop (k+1)=[gt ns k]++ns.drop (k+1)from rfl,nR,vV];simp only[List.append_assoc]
 have:=hY (h _ (cO hk)) b _ _ hg
 unfold rdV;rw[ih,this]
theorem zU{α:Type}[Inhabited α]{f:RdT->α×RdT}{e:α->List aO}{xs:List α}(h:∀ x∈xs,kT f (e x) x){b u v:List aO}(hb:b=u++(xs.flatMap e++v)):
  ∀ k,k<=xs.length->kR f (b,(u.length:Int),false,()) k=(xs.take k,(b,(((u++(xs.take k).flatMap e).length:Nat):Int),false,()))
 | 0,_=>by
  show(([]:List α),((b,(u.length:Int),false,()):RdT))=_
  rw[List.take_zero,List.flatMap_nil,List.append_nil]
 | k+1,hk=>by
  have ih:=zU h hb k (by omega)
  have hg:b=(u++(xs.take k).flatMap e)++(e (gt xs k)++((xs.drop (k+1)).flatMap e++v)):=by
   rw[hb];conv=>lhs;rw[yX (show k<xs.length by omega)]
   rw[List.flatMap_append,List.flatMap_cons];simp only[List.append_assoc]
  have:=h _ (cO (show k<xs.length by omega)) b _ _ hg
  show((kR f _ k).1++[(f (kR f _ k).2).1],(f (kR f _ k).2).2)=_
  rw[ih,this,n7 (by omega),List.flatMap_append,List.append_assoc]
  simp
theorem oM{α:Type}[Inhabited α]{f:RdT->α×RdT}{e:α->List aO}{xs:List α}(h:∀ x∈xs,kT f (e x) x):kT (λr=>kR f r xs.length) (xs.flatMap e) xs:=by
 intro b u v hb
 have:=zU h hb xs.length (Nat.le_refl _)
 rw[List.take_length] at this
 exact this
theorem HG{x:aO}(h:inB x.1 0 2147483647=true):kT OA (aN x.1) x:=by
 intro b u v hb
 unfold OA;rw[hY h b u v hb]
theorem D1{f:aR}(h1:inB f.1 0 2147483647=true)(h2:inB f.2.1 0 2147483647=true):kT qH (bF f) f:=by
 intro b u v hb
 have e:bF f=cV [(f.1,()),(f.2.1,())]:=by unfold cV bF;simp
 rw[e] at hb ⊢
 have hn:∀ x∈[((f.1,()):aO),(f.2.1,())],inB x.1 0 2147483647=true:=by
  intro x hx;rcases List.mem_cons.1 hx with rfl | hx
  ·exact h1
  ·rw[List.mem_singleton.1 hx];exact h2
 have a:=vH hn hb
 have c:=nC hn hb 2 (Nat.le_refl _)
 unfold qH
 rw[a 0 (show 0<2 by omega),a 1 (show 1<2 by omega),c];rfl
theorem FU{x:bM}(h:∀ y∈five x,inB y.1 0 2147483647=true)(hs:ByteArray.size x.2.2.2.2.2.1<=2147483647):kT eJ (bD x) x:=by
 intro b u v hb
 have e:bD x=cV (five x)++dT x.2.2.2.2.2.1:=by unfold cV bD five;simp
 rw[e] at hb ⊢
 have hb1:b=u++(cV (five x)++(dT x.2.2.2.2.2.1++v)):=by rw[hb];simp
 have hb2:b=(u++cV (five x))++(dT x.2.2.2.2.2.1++v):=by rw[hb];simp
 have a:=vH h hb1
 have c:=nC h hb1 5 (Nat.le_refl _)
 rw[show(five x).take 5=five x from rfl] at c
 have d:=KZ hs b _ _ hb2
 unfold eJ
 rw[c,d,a 0 (show 0<5 by omega),a 1 (show 1<5 by omega),a 2 (show 2<5 by omega),a 3 (show 3<5 by omega),a 4 (show 4<5 by omega),List.append_assoc];rfl
end Go.Abs
