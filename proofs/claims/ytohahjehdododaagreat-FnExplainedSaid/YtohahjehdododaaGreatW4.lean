/- A by-value reading of the model, and its soundness, part 4. -/
import Derived.Test.YtohahjehdododaaGreatW3
set_option linter.unusedVariables false
-- states and messages read back: plain laws
open Go.IntKind (i64)
namespace Go.Abs
open Go
def InN(x:Int):Prop:=inB x 0 2147483647=true
theorem InN.of{x hi:Int}(h:inB x 0 hi=true)(hh:hi<=2147483647):InN x:=by
 unfold InN;rw[aV] at h ⊢;omega
theorem InN.of1{x hi:Int}(h:inB x 1 hi=true)(hh:hi<=2147483647):InN x:=by
 unfold InN;rw[aV] at h ⊢;omega
theorem InN.nat{n:Nat}(h:n<=2147483647):InN (n:Int):=by unfold InN;rw[aV];omega
theorem StateOk.five{s:aH}(h:StateOk s){x:bF}(hx:x∈s.1):(∀ y∈five x,inB y.1 0 2147483647=true)/\ByteArray.size x.2.2.2.2.2.1<=2147483647:=by
 obtain⟨h1,h2,_⟩:=h.item x hx
 unfold eE at h2
 simp only[Bool.and_eq_true,decide_eq_true_eq] at h2
 obtain⟨a,b,c,d,e⟩:=h2
 refine⟨λy hy=>?_,by omega⟩
 unfold Go.Abs.five at hy
 simp only[List.mem_cons,List.not_mem_nil,or_false] at hy
 rcases hy with rfl | rfl | rfl | rfl | rfl
 ·exact InN.of (h1:inB x.1 0 4=true) (by decide)
 ·exact InN.of1 a (by decide)
 ·exact InN.of b (by decide)
 ·exact InN.of c (by decide)
 ·exact InN.of d (by decide)
theorem StateOk.flo{s:aH}(h:StateOk s){f:aU}(hf:f∈s.2.1):InN f.1/\InN f.2.1:=
 ⟨InN.of ((h.floor f hf).1:inB f.1 0 4=true) (by decide),InN.of1 (h.floor f hf).2 (by decide)⟩
theorem z6{s:aH}(h:StateOk s):∀ x∈s.1,kX eK (bC x) x:=λx hx=>FY (h.five hx).1 (h.five hx).2
theorem xD{fs:List aU}(h:∀ f∈fs,InN f.1/\InN f.2.1):∀ x∈fs,kX qG (bE x) x:=λx hx=>D4 (h x hx).1 (h x hx).2
-- the program's reader of states
def rs0(b:List aO):RdT:=(b,0,false,())
def siC(b:List aO):Int×RdT:=nC (rs0 b) 5
def siI(b:List aO):List bF×RdT:=kV eK (siC b).2 (siC b).1.toNat
def siF(b:List aO):Int×RdT:=nC (siI b).2 5
def siG(b:List aO):List aU×RdT:=kV qG (siF b).2 (siF b).1.toNat
def stI(b:List aO):aH:=((siI b).1,(siG b).1,())
def cW(b:List aO):Option aH:=bif(siG b).2.2.2.1||(!aP (stI b)|| !cK (bT (stI b)) b)then none else some (stI b)
theorem uU{α:Type}{c:Bool}{x y:α}(h:(bif c then none else some x)=some y):c=false/\x=y:=by
 cases c with
 | true=>cases h
 | false=>exact⟨rfl,by injection h⟩
theorem wN{b:List aO}{s:aH}(h:cW b=some s):aP s=true/\cK (bT s) b=true:=by
 obtain⟨h1,h2⟩:=uU h
 subst h2
 simp only[Bool.or_eq_false_iff,Bool.not_eq_false'] at h1
 exact h1.2
theorem uS(s:aH):bT s=([]:List aO)++(aN (s.1.length:Int)++(s.1.flatMap bC++(aN (s.2.1.length:Int)++(s.2.1.flatMap bE++[])))):=by
 unfold bT;simp
theorem iJ(b:List aO):cK b b=true:=by unfold cK;exact beq_self_eq_true _
theorem lA{s:aH}(hs:aP s=true):cW (bT s)=some s:=by
 have h:=(aS s).1 hs
 have h5:=h.len
 have hb:=uS s
 generalize e:bT s=b at hb
 have c1:siC b=((s.1.length:Int),(b,(((([]:List aO)++aN (s.1.length:Int)).length:Nat):Int),false,())):=
  q9 (m:=5) (InN.nat (by omega)) (by omega) b [] _ hb
 have c2:siI b=(s.1,(b,(((([]:List aO)++aN (s.1.length:Int)++s.1.flatMap bC).length:Nat):Int),false,())):=by
  unfold siI;rw[c1]
  show kV eK _ ((s.1.length:Int)).toNat=_
  rw[Int.toNat_natCast]
  exact oJ (z6 h) b _ _ (by rw[hb,List.append_assoc])
 have c3:siF b=((s.2.1.length:Int),(b,(((([]:List aO)++aN (s.1.length:Int)++s.1.flatMap bC++aN (s.2.1.length:Int)).length:Nat):Int),false,())):=by
  unfold siF;rw[c2]
  exact q9 (m:=5) (InN.nat (by omega)) (by omega) b _ (s.2.1.flatMap bE++[]) (by rw[hb];simp only[List.append_assoc])
 have c4:siG b=(s.2.1,(b,(((([]:List aO)++aN (s.1.length:Int)++s.1.flatMap bC++aN (s.2.1.length:Int)++s.2.1.flatMap bE).length:Nat):Int),false,())):=by
  unfold siG;rw[c3]
  show kV qG _ ((s.2.1.length:Int)).toNat=_
  rw[Int.toNat_natCast]
  exact oJ (xD λf hf=>h.flo hf) b _ [] (by rw[hb];simp only[List.append_assoc])
 have c5:stI b=s:=by unfold stI;rw[c2,c4]
 unfold cW;rw[c4,c5,hs,e,iJ];rfl
-- the reference's reader of states
def mB:RdT->Nat->List aO×RdT
 | r,0=>([],r)
 | r,k+1=>bif r.2.2.1 then([],r)else(((aR r).1,())::(mB (aR r).2 k).1,(mB (aR r).2 k).2)
def bW(r:RdT)(t:Nat):List aO×RdT:=bif decide ((aR r).1>100)then([],((aR r).2.1,(aR r).2.2.1,true,()))else mB (aR r).2 ((aR r).1.toNat*t)
theorem EY:∀ (k:Nat) (r:RdT),(mB r k).1.length<=k
 | 0,r=>Nat.le_refl _
 | k+1,r=>by
  unfold mB
  cases r.2.2.1 with
  | true=>exact Nat.zero_le _
  | false=>show(((aR r).1,())::(mB (aR r).2 k).1).length<=k+1;rw[List.length_cons];have:=EY k (aR r).2;omega
theorem JE:∀ (k:Nat) {r:RdT},RdOk r->RdOk (mB r k).2
 | 0,r,h=>h
 | k+1,r,h=>by
  unfold mB
  cases r.2.2.1 with
  | true=>exact h
  | false=>exact JE k h.num
theorem BQ:∀ (k:Nat) (r:RdT),(mB r k).2.1=r.1
 | 0,r=>rfl
 | k+1,r=>by
  unfold mB
  cases r.2.2.1 with
  | true=>rfl
  | false=>exact(BQ k _).trans (jY r)
theorem HR(r:RdT)(t:Nat):(bW r t).2.1=r.1:=by
 unfold bW
 cases decide ((aR r).1>100)with
 | true=>exact jY r
 | false=>exact(BQ _ _).trans (jY r)
theorem rG(r:RdT)(t:Nat):(bW r t).1.length<=100*t:=by
 unfold bW
 by_cases h:(aR r).1>100
 ·rw[decide_eq_true h];exact Nat.zero_le _
 ·rw[decide_eq_false h]
  have h1:=EY ((aR r).1.toNat*t) (aR r).2
  have h2:(aR r).1.toNat*t<=100*t:=Nat.mul_le_mul (by omega) (Nat.le_refl _)
  show(mB (aR r).2 ((aR r).1.toNat*t)).1.length<=100*t;omega
theorem RdOk.many{r:RdT}(h:RdOk r)(t:Nat):RdOk (bW r t).2:=by
 unfold bW
 cases decide ((aR r).1>100)with
 | true=>exact⟨h.num.b8,h.num.len,h.num.lo,h.num.hi⟩
 | false=>exact JE _ h.num
theorem BV:∀ (ns:List aO),(∀ x∈ns,InN x.1)->kX (λr=>mB r ns.length) (cX ns) ns
 | [],_=>λb u v hb=>by show(([]:List aO),((b,(u.length:Int),false,()):RdT))=_;unfold cX;rw[List.flatMap_nil,List.append_nil]
 | x::ns,h=>λb u v hb=>by
  have e:cX (x::ns)=aN x.1++cX ns:=by unfold cX;rw[List.flatMap_cons]
  rw[e] at hb ⊢
  have h1:=iA (h x (List.mem_cons_self ..)) b u (cX ns++v) (by rw[hb];simp only[List.append_assoc])
  have h2:=BV ns (λy hy=>h y (List.mem_cons_of_mem _ hy)) b (u++aN x.1) v (by rw[hb];simp only[List.append_assoc])
  show(((aR _).1,())::(mB (aR _).2 ns.length).1,(mB (aR _).2 ns.length).2)=_
  rw[h1]
  have h2:mB (b,(((u++aN x.1).length:Nat):Int),false,()) ns.length=_:=h2
  rw[h2,List.append_assoc]
theorem wU{ns:List aO}{n t:Nat}(hl:ns.length=n*t)(hn:n<=100)(h:∀ x∈ns,InN x.1):kX (λr=>bW r t) (aN ((n:Nat):Int)++cX ns) ns:=by
 intro b u v hb
 have h1:=iA (InN.nat (show n<=2147483647 by omega)) b u (cX ns++v) (by rw[hb];simp only[List.append_assoc])
 have h2:=BV ns h b (u++aN ((n:Nat):Int)) v (by rw[hb];simp only[List.append_assoc])
 show bW _ t=_
 unfold bW
 rw[h1,decide_eq_false (show ¬ (((n:Nat):Int)>100) by omega)]
 show mB _ (((n:Nat):Int).toNat*t)=_
 rw[Int.toNat_natCast,<- hl]
 exact h2.trans (by rw[List.append_assoc])
def fP(fl:List aO)(k:Nat):List aU:=(List.range k).map λi=>((gt fl (2*i)).1,(gt fl (2*i+1)).1,())
theorem sP(fl:List aO)(k:Nat):(fP fl k).length=k:=by unfold fP;rw[List.length_map,List.length_range]
theorem wY(fl:List aO)(k:Nat):fP fl (k+1)=fP fl k++[((gt fl (2*k)).1,(gt fl (2*k+1)).1,())]:=by
 unfold fP;rw[List.range_succ,List.map_append];rfl
theorem FH(x y:aO)(l:List aO)(k:Nat):fP (x::y::l) (k+1)=(x.1,y.1,())::fP l k:=by
 unfold fP
 rw[List.range_succ_eq_map,List.map_cons,List.map_map]
 congr 1
def C1(fs:List aU):List aO:=fs.flatMap λf=>[(f.1,()),(f.2.1,())]
theorem u5(f:aU)(fs:List aU):C1 (f::fs)=(f.1,())::(f.2.1,())::C1 fs:=by unfold C1;rw[List.flatMap_cons];rfl
theorem yP:∀ fs:List aU,(C1 fs).length=fs.length*2
 | []=>rfl
 | f::fs=>by rw[u5,List.length_cons,List.length_cons,yP fs,List.length_cons];omega
theorem BJ:∀ fs:List aU,cX (C1 fs)=fs.flatMap bE
 | []=>rfl
 | f::fs=>by
  rw[u5,List.flatMap_cons,<- BJ fs]
  unfold cX bE;rw[List.flatMap_cons,List.flatMap_cons,List.append_assoc]
theorem QJ{fs:List aU}(h:∀ f∈fs,InN f.1/\InN f.2.1):∀ x∈C1 fs,InN x.1:=λx hx=>by
 obtain⟨f,hf,hx⟩:=List.mem_flatMap.1 hx
 rcases List.mem_cons.1 hx with rfl | hx
 ·exact(h f hf).1
 ·rw[List.mem_singleton.1 hx];exact(h f hf).2
theorem zL:∀ fs:List aU,fP (C1 fs) fs.length=fs
 | []=>rfl
 | f::fs=>by rw[u5,List.length_cons,FH,zL fs]
def flR(r:RdT):List aU×RdT:=(fP (bW r 2).1 ((bW r 2).1.length / 2),(bW r 2).2)
theorem CK{fs:List aU}(hl:fs.length<=100)(h:∀ f∈fs,InN f.1/\InN f.2.1):kX flR (aN (fs.length:Int)++fs.flatMap bE) fs:=by
 intro b u v hb
 rw[<- BJ] at hb ⊢
 have:=wU (t:=2) (yP fs) hl (QJ h) b u v hb
 have this:bW (b,(u.length:Int),false,()) 2=_:=this
 unfold flR;rw[this]
 show(fP (C1 fs) ((C1 fs).length / 2),_)=_
 rw[yP,Nat.mul_div_cancel _ (by decide),zL]
theorem J0(r:RdT):(flR r).1.length<=100:=by
 unfold flR;rw[sP];have:=rG r 2;omega
def iO:RdT->Nat->Option (List bF×RdT)
 | r,0=>some ([],r)
 | r,k+1=>bif r.2.2.1 then some ([],r)else bif(eK r).2.2.2.1 then none else(iO (eK r).2 k).map λq=>((eK r).1::q.1,q.2)
theorem uI:∀ (xs:List bF),(∀ x∈xs,kX eK (bC x) x)->∀ b u v,b=u++(xs.flatMap bC++v)->
  iO (b,(u.length:Int),false,()) xs.length=some (xs,(b,(((u++xs.flatMap bC).length:Nat):Int),false,()))
 | [],_,b,u,v,hb=>by show some (([]:List bF),((b,(u.length:Int),false,()):RdT))=_;rw[List.flatMap_nil,List.append_nil]
 | x::xs,h,b,u,v,hb=>by
  rw[List.flatMap_cons] at hb ⊢
  have h1:=h x (List.mem_cons_self ..) b u (xs.flatMap bC++v) (by rw[hb];simp only[List.append_assoc])
  have h2:=uI xs (λy hy=>h y (List.mem_cons_of_mem _ hy)) b (u++bC x) v (by rw[hb];simp only[List.append_assoc])
  show(bif(eK _).2.2.2.1 then none else(iO (eK _).2 xs.length).map λq=>((eK _).1::q.1,q.2))=_
  rw[h1]
  show(iO _ xs.length).map _=_
  rw[h2,List.append_assoc];rfl
def ssI(b:List aO):Option (List bF×RdT):=bif decide ((aR (rs0 b)).1>100)then some ([],(aR (rs0 b)).2)else iO (aR (rs0 b)).2 (aR (rs0 b)).1.toNat
def stS(q:List bF×RdT):aH:=(q.1,(flR q.2).1,())
def gA(b:List aO):Option aH:=match ssI b with
 | none=>none
 | some q=>bif(flR q.2).2.2.2.1||(decide ((aR (rs0 b)).1>100)||(!aP (stS q)|| !cK (bT (stS q)) b))then none else some (stS q)
theorem ES{b:List aO}{s:aH}(h:gA b=some s):aP s=true/\cK (bT s) b=true:=by
 unfold gA at h
 cases e:ssI b with
 | none=>rw[e] at h;cases h
 | some q=>
  rw[e] at h
  obtain⟨h1,h2⟩:=uU h
  subst h2
  simp only[Bool.or_eq_false_iff,Bool.not_eq_false'] at h1
  exact h1.2.2
theorem DA{s:aH}(hs:aP s=true):gA (bT s)=some s:=by
 have h:=(aS s).1 hs
 have h5:=h.len
 have hb:=uS s
 generalize e:bT s=b at hb
 have c1:aR (rs0 b)=((s.1.length:Int),(b,(((([]:List aO)++aN (s.1.length:Int)).length:Nat):Int),false,())):=
  iA (InN.nat (by omega)) b [] _ hb
 have hd:decide ((s.1.length:Int)>100)=false:=decide_eq_false (by omega)
 have c2:ssI b=some (s.1,(b,(((([]:List aO)++aN (s.1.length:Int)++s.1.flatMap bC).length:Nat):Int),false,())):=by
  unfold ssI;rw[c1,hd]
  show iO _ ((s.1.length:Int)).toNat=_
  rw[Int.toNat_natCast]
  exact uI s.1 (z6 h) b _ _ (by rw[hb,List.append_assoc])
 have c3:=CK (show s.2.1.length<=100 by omega) (λf hf=>h.flo hf) b (([]:List aO)++aN (s.1.length:Int)++s.1.flatMap bC) [] (by rw[hb];simp only[List.append_assoc])
 unfold gA;rw[c1,c2,hd]
 show(bif(flR _).2.2.2.1||(false||(!aP (s.1,(flR _).1,())|| !cK (bT (s.1,(flR _).1,())) b))then none else some (s.1,(flR _).1,()))=_
 rw[c3]
 show(bif false||(false||(!aP s|| !cK (bT s) b))then none else some s)=_
 rw[hs,e,iJ];rfl
theorem KN{b:List aO}(hb:ByL b):gA b=cW b:=by
 cases h:cW b with
 | some s=>
  obtain⟨h1,h2⟩:=wN h
  have e:=(mM (v8 s) hb).1 h2
  rw[<- e];exact DA h1
 | none=>
  cases h2:gA b with
  | none=>rfl
  | some s=>
   obtain⟨h3,h4⟩:=ES h2
   have e:=(mM (v8 s) hb).1 h4
   rw[<- e,lA h3] at h;cases h
end Go.Abs
-- messages as bytes, and read back: plain laws
namespace Go.Abs
open Go
def fR(m:MsgT):List aO:=[(m.1,()),(m.2.1,()),(m.2.2.1,()),(m.2.2.2.1,()),(m.hi,())]
def eP(ns:List aO):List aO:=aN (ns.length:Int)++cX ns
def rZ(fs:List aU):List aO:=aN (fs.length:Int)++fs.flatMap bE
def rk2:List aO:=[(82,()),(75,())]
def fL(m:MsgT):List aO:=rk2++(cX (fR m)++(eP m.tree.1++(aN m.tree.2.1++(eP m.vec++(eP m.leaves++(aN (((bT m.part).length:Nat):Int)++(bT m.part++rZ m.marks)))))))
def M5(x:Nat):List aO:=[(((x / 16777216:Nat):Int),()),(((x / 65536 % 256:Nat):Int),()),(((x / 256 % 256:Nat):Int),()),(((x % 256:Nat):Int),())]
def y2(b:List aO):List aO:=M5 (crc b).toNat
def cV(m:MsgT):List aO:=fL m++y2 (fL m)
theorem GB(ns:List aO):ByL (cX ns):=ByL.flat (λx=>dX _) ns
theorem z2(ns:List aO):ByL (eP ns):=(dX _).app (GB ns)
theorem OS(fs:List aU):ByL (rZ fs):=(dX _).app (ByL.flat sB fs)
theorem rk2_by:ByL rk2:=λx hx=>by
 unfold rk2 at hx
 simp only[List.mem_cons,List.not_mem_nil,or_false] at hx
 rcases hx with rfl | rfl
 ·exact⟨82,rfl,by decide⟩
 ·exact⟨75,rfl,by decide⟩
theorem AX(m:MsgT):ByL (fL m):=rk2_by.app ((GB _).app ((z2 _).app ((dX _).app ((z2 _).app ((z2 _).app ((dX _).app ((v8 _).app (OS _))))))))
theorem ByL.b32{b:List aO}(h:ByL b):B32 b:=λx hx=>by
 obtain⟨y,hy,hy2⟩:=h x hx
 exact⟨by omega,by omega⟩
theorem QR{x:Nat}(h:x<4294967296):ByL (M5 x):=λy hy=>by
 unfold M5 at hy
 simp only[List.mem_cons,List.not_mem_nil,or_false] at hy
 rcases hy with rfl | rfl | rfl | rfl
 ·exact⟨_,rfl,by omega⟩
 ·exact⟨_,rfl,by omega⟩
 ·exact⟨_,rfl,by omega⟩
 ·exact⟨_,rfl,by omega⟩
theorem PR{b:List aO}(h:ByL b):(crc b).toNat<4294967296/\0<=crc b:=by
 have:=PT (bs:=b) h.b32
 have h1:=this.1;have h2:=this.2
 exact⟨by omega,h1⟩
theorem QS{b:List aO}(h:ByL b):ByL (y2 b):=QR (PR h).1
theorem MH(m:MsgT):ByL (cV m):=(AX m).app (QS (AX m))
theorem yZ(b:List aO):(y2 b).length=4:=rfl
-- numbers of a right message
structure MsgR (m:MsgT):Prop where
 head:∀ x∈fR m,InN x.1
 tree:m.tree.1.length<=4/\∀ x∈m.tree.1,InN x.1
 root:InN m.tree.2.1
 vec:m.vec.length<=5/\∀ x∈m.vec,InN x.1
 leaves:m.leaves.length<=4/\∀ x∈m.leaves,InN x.1
 part:aP m.part=true
 marks:m.marks.length<=5/\∀ f∈m.marks,InN f.1/\InN f.2.1
theorem P7{v:List aO}{top:Int}(h:nF v top=true)(ht:top<=2147483647):∀ x∈v,InN x.1:=λx hx=>by
 obtain⟨i,hi,rfl⟩:=hO hx
 exact InN.of (bN.1 h i hi) ht
theorem rE{m:MsgT}(h:fA m=true):MsgR m:=by
 have hl:=z3 h
 unfold fA uD at h
 simp only[Bool.and_eq_true] at h
 obtain⟨⟨h1,h2,h3,_⟩,h4,h5,h6,h7,h8,h9,h10,h11⟩:=h
 rw[decide_eq_true_eq] at h9
 refine⟨λx hx=>?_,?_,?_,⟨by omega,P7 h5 (by decide)⟩,⟨hl,λx hx=>?_⟩,h10,⟨LN h11,λf hf=>?_⟩⟩
 ·unfold fR at hx
  simp only[List.mem_cons,List.not_mem_nil,or_false] at hx
  rcases hx with rfl | rfl | rfl | rfl | rfl
  ·exact InN.of h1 (by decide)
  ·exact InN.of (h2:inB _ 0 4=true) (by decide)
  ·exact InN.of (h3:inB _ 0 4=true) (by decide)
  ·exact InN.of h6 (by decide)
  ·exact InN.of h7 (by decide)
 ·unfold treeB at h8
  cases he:(m.tree.1.length:Int)==0 with
  | true=>
   have:m.tree.1.length=0:=by have:=eq_of_beq he;omega
   exact⟨by omega,λx hx=>by rw[List.length_eq_zero_iff.1 this] at hx;cases hx⟩
  | false=>
   rw[he] at h8
   have h8:((m.tree.1.length:Int)==4&&(nF m.tree.1 1023&&inB m.tree.2.1 0 1023))=true:=h8
   rw[Bool.and_eq_true] at h8
   have h8a:=eq_of_beq h8.1
   have h8b:=h8.2
   rw[Bool.and_eq_true] at h8b
   exact⟨by omega,P7 h8b.1 (by decide)⟩
 ·unfold treeB at h8
  cases he:(m.tree.1.length:Int)==0 with
  | true=>
   rw[he] at h8
   have h8:(m.tree.2.1==0)=true:=h8
   rw[beq_iff_eq] at h8
   show InN m.tree.2.1
   rw[h8];exact InN.nat (n:=0) (by decide)
  | false=>
   rw[he] at h8
   have h8:((m.tree.1.length:Int)==4&&(nF m.tree.1 1023&&inB m.tree.2.1 0 1023))=true:=h8
   simp only[Bool.and_eq_true] at h8
   exact InN.of h8.2.2 (by decide)
 ·obtain⟨i,hi,rfl⟩:=hO hx
  have:=bN.1 h4 i hi
  unfold FW at this
  simp only[Bool.and_eq_true] at this
  exact InN.of this.1 (by decide)
 ·obtain⟨i,hi,rfl⟩:=hO hf
  have:=uG h11 hi
  unfold InN;rw[aV,aV];omega
theorem lL(ns:List aO):(cX ns).length<=ns.length*5:=by
 unfold cX;rw[<- cG];exact cY λi hi=>bD _
theorem GL{m:MsgT}(h:MsgR m):(fL m).length<=500:=by
 have h1:=lL (fR m);have h2:=lL m.tree.1;have h3:=lL m.vec;have h4:=lL m.leaves
 have h5:=nV ((aS _).1 h.part)
 have h6:(m.marks.flatMap bE).length<=m.marks.length*10:=by rw[<- cG];exact cY λi hi=>hS _
 have n1:=bD (m.tree.1.length:Int);have n2:=bD m.tree.2.1;have n3:=bD (m.vec.length:Int);have n4:=bD (m.leaves.length:Int)
 have n5:=bD (((bT m.part).length:Nat):Int);have n6:=bD (m.marks.length:Int)
 have l1:=h.tree.1;have l2:=h.vec.1;have l3:=h.leaves.1;have l4:=h.marks.1
 have l5:(fR m).length=5:=rfl
 have l6:rk2.length=2:=rfl
 unfold fL eP rZ
 simp only[List.length_append]
 dsimp only[MsgT.tree] at*
 omega
theorem AV{m:MsgT}(h:fA m=true):(cV m).length<=504:=by
 have:=GL (rE h)
 unfold cV;rw[List.length_append,yZ];omega
def bR(m:MsgT):List aO:=bif fA m then cV m else[]
theorem mI(m:MsgT):ByL (bR m):=by
 unfold bR;cases fA m with
 | true=>exact MH m
 | false=>exact λx hx=>by cases hx
theorem uE(m:MsgT):(bR m).length<=504:=by
 unfold bR;cases h:fA m with
 | true=>exact AV h
 | false=>exact Nat.zero_le _
-- the reader of messages, by the ways of reading lists
def mR(b:List aO):RdT:=(b.take (b.length - 4),2,false,())
section
variable (N:Int->RdT->List aO×RdT) (r:RdT)
def mgA:List aO×RdT:=N 4 (rdK r 5)
def mgB:Int×RdT:=aR (mgA N r).2
def mgC:List aO×RdT:=N 5 (mgB N r).2
def mgD:List aO×RdT:=N 4 (mgC N r).2
def mgE:Int×RdT:=aR (mgD N r).2
def qD:Bool:=(mgE N r).2.2.2.1||decide ((mgE N r).1>(((mgE N r).2.1.length:Nat):Int) - (mgE N r).2.2.1)
def fJ:List aO:=((mgE N r).2.1.take ((mgE N r).2.2.1+(mgE N r).1).toNat).drop (mgE N r).2.2.1.toNat
def mgR:RdT:=((mgE N r).2.1,(mgE N r).2.2.1+(mgE N r).1,(mgE N r).2.2.2.1,())
def mgM(s:aH)(fs:List aU):MsgT:=(rdV r 0,rdV r 1,rdV r 2,rdV r 3,rdV r 4,(mgA N r).1,(mgB N r).1,(mgC N r).1,(mgD N r).1,s.1,s.2.1,fs,())
end
def I9(N:Int->RdT->List aO×RdT):Prop:=∀ (k:Int) (ns:List aO),(ns.length:Int)<=k->k<=5->(∀ x∈ns,InN x.1)->kX (N k) (eP ns) ns
def NI(k:Int)(r:RdT):List aO×RdT:=HD r k
def NS(k:Int)(r:RdT):List aO×RdT:=bW r 1
theorem NT:I9 NI:=λk ns hl hk h b u v hb=>by
 unfold eP at hb ⊢
 have h1:=q9 (InN.nat (show ns.length<=2147483647 by omega)) hl b u (cX ns++v) (by rw[hb];simp only[List.append_assoc])
 have h2:=oJ (f:=N8) (xs:=ns) (e:=λx=>aN x.1) (λx hx=>HK (h x hx)) b (u++aN (ns.length:Int)) v (by rw[hb];simp only[List.append_assoc];rfl)
 show HD _ k=_
 unfold HD
 have h1:nC (b,(u.length:Int),false,()) k=_:=h1
 rw[h1]
 show kV N8 _ ((ns.length:Int)).toNat=_
 rw[Int.toNat_natCast]
 exact h2.trans (by rw[List.append_assoc];rfl)
theorem NR:I9 NS:=λk ns hl hk h=>wU (t:=1) (by omega) (by omega) h
theorem OM{N:Int->RdT->List aO×RdT}(hN:I9 N){m:MsgT}(h:MsgR m){b:List aO}(hb:b=fL m):
  qD N (b,2,false,())=false/\fJ N (b,2,false,())=bT m.part/\mgM N (b,2,false,()) m.part m.marks=m/\
  ∃ u:List aO,b=u++(rZ m.marks++[])/\mgR N (b,2,false,())=(b,(u.length:Int),false,()):=by
 have h0:((b,2,false,()):RdT)=(b,(rk2.length:Int),false,()):=rfl
 rw[h0]
 have hb:=hb
 unfold fL at hb
 have c0:=nB (ns:=fR m) h.head hb 5 (Nat.le_refl _)
 rw[show(fR m).take 5=fR m from rfl] at c0
 have v0:=vH (ns:=fR m) h.head hb
 have c1:mgA N (b,(rk2.length:Int),false,())=_:=(congrArg (N 4) c0).trans (hN 4 m.tree.1 (by have:=h.tree.1;omega) (by decide) h.tree.2 b _ _ (by rw[hb];simp only[List.append_assoc];rfl))
 have c2:mgB N (b,(rk2.length:Int),false,())=_:=(congrArg (λq:List aO×RdT=>aR q.2) c1).trans (iA h.root b _ _ (by rw[hb];simp only[List.append_assoc];rfl))
 have c3:mgC N (b,(rk2.length:Int),false,())=_:=(congrArg (λq:Int×RdT=>N 5 q.2) c2).trans (hN 5 m.vec (by have:=h.vec.1;omega) (by decide) h.vec.2 b _ _ (by rw[hb];simp only[List.append_assoc];rfl))
 have c4:mgD N (b,(rk2.length:Int),false,())=_:=(congrArg (λq:List aO×RdT=>N 4 q.2) c3).trans (hN 4 m.leaves (by have:=h.leaves.1;omega) (by decide) h.leaves.2 b _ _ (by rw[hb];simp only[List.append_assoc];rfl))
 have hl:=nV ((aS _).1 h.part)
 have c5:mgE N (b,(rk2.length:Int),false,())=_:=(congrArg (λq:List aO×RdT=>aR q.2) c4).trans (iA (x:=(((bT m.part).length:Nat):Int)) (InN.nat (by omega)) b _ _ (by rw[hb];simp only[List.append_assoc];rfl))
 generalize hu:rk2++cX (fR m)++eP m.tree.1++aN m.tree.2.1++eP m.vec++eP m.leaves++aN (((bT m.part).length:Nat):Int)=U at c5
 have hb2:b=U++(bT m.part++rZ m.marks):=by rw[hb,<- hu];simp only[List.append_assoc]
 have hbl:b.length=U.length+((bT m.part).length+(rZ m.marks).length):=by rw[hb2,List.length_append,List.length_append]
 refine⟨?_,?_,?_,U++bT m.part,?_,?_⟩
 ·unfold qD;rw[c5]
  show(false||decide ((((bT m.part).length:Nat):Int)>(b.length:Int) - (U.length:Int)))=false
  rw[decide_eq_false (by omega)];rfl
 ·unfold fJ;rw[c5]
  show(b.take ((U.length:Int)+(((bT m.part).length:Nat):Int)).toNat).drop ((U.length:Int)).toNat=_
  rw[show((U.length:Int)+(((bT m.part).length:Nat):Int)).toNat=U.length+(bT m.part).length by omega,Int.toNat_natCast,hb2]
  exact sD _ _ _
 ·unfold mgM;rw[c1,c2,c3,c4,v0 0 (show 0<5 by omega),v0 1 (show 1<5 by omega),v0 2 (show 2<5 by omega),v0 3 (show 3<5 by omega),v0 4 (show 4<5 by omega)];rfl
 ·rw[hb2];simp only[List.append_assoc,List.append_nil]
 ·unfold mgR;rw[c5]
  show(b,(U.length:Int)+(((bT m.part).length:Nat):Int),false,())=_
  rw[List.length_append,Int.natCast_add]
-- the program's reader of messages
def miC(b:List aO):Int×RdT:=nC (mgR NI (mR b)) 5
def miF(b:List aO):List aU×RdT:=kV qG (miC b).2 (miC b).1.toNat
def miM(b:List aO)(s:aH):MsgT:=mgM NI (mR b) s (miF b).1
def jO(b:List aO):Option MsgT:=bif decide (i64.wrap ((b.length:Int) - 4)<2)then none else bif !cK (b.take 2) rk2 then none else bif qD NI (mR b)then none else
 match cW (fJ NI (mR b))with
 | none=>none
 | some s=>bif(miF b).2.2.2.1||(!fA (miM b s)|| !cK (bR (miM b s)) b)then none else some (miM b s)
-- the reference's
def msF(b:List aO):List aU×RdT:=flR (mgR NS (mR b))
def msM(b:List aO):MsgT:=mgM NS (mR b) ((cW (fJ NS (mR b))).getD iC) (msF b).1
def fQ(b:List aO):Option MsgT:=bif decide ((b.length:Int)<6)then none else bif !cK (y2 (b.take (b.length - 4))) (b.drop (b.length - 4))then none else bif qD NS (mR b)then none else
 bif(cW (fJ NS (mR b))).isNone||((msF b).2.2.2.1||(!fA (msM b)|| !cK (bR (msM b)) b))then none else some (msM b)
theorem B4{b:List aO}{m:MsgT}(h:jO b=some m):fA m=true/\cK (bR m) b=true:=by
 unfold jO at h
 cases h1:decide (i64.wrap ((b.length:Int) - 4)<2)with
 | true=>rw[h1] at h;cases h
 | false=>
  rw[h1] at h
  cases h2: !cK (b.take 2) rk2 with
  | true=>rw[h2] at h;cases h
  | false=>
   rw[h2] at h
   cases h3:qD NI (mR b)with
   | true=>rw[h3] at h;cases h
   | false=>
    rw[h3] at h
    cases h4:cW (fJ NI (mR b))with
    | none=>rw[h4] at h;cases h
    | some s=>
     rw[h4] at h
     obtain⟨h5,h6⟩:=uU h
     subst h6
     simp only[Bool.or_eq_false_iff,Bool.not_eq_false'] at h5
     exact h5.2
theorem LL{b:List aO}{m:MsgT}(h:fQ b=some m):fA m=true/\cK (bR m) b=true:=by
 unfold fQ at h
 cases h1:decide ((b.length:Int)<6)with
 | true=>rw[h1] at h;cases h
 | false=>
  rw[h1] at h
  cases h2: !cK (y2 (b.take (b.length - 4))) (b.drop (b.length - 4))with
  | true=>rw[h2] at h;cases h
  | false=>
   rw[h2] at h
   cases h3:qD NS (mR b)with
   | true=>rw[h3] at h;cases h
   | false=>
    rw[h3] at h
    obtain⟨h5,h6⟩:=uU h
    subst h6
    simp only[Bool.or_eq_false_iff,Bool.not_eq_false'] at h5
    exact h5.2.2
theorem AW(m:MsgT):(cV m).length - 4=(fL m).length/\(cV m).take ((cV m).length - 4)=fL m/\(cV m).drop ((cV m).length - 4)=y2 (fL m):=by
 have e:(cV m).length - 4=(fL m).length:=by unfold cV;rw[List.length_append,yZ];omega
 rw[e]
 exact⟨rfl,List.take_left' rfl,List.drop_left' rfl⟩
theorem CR(m:MsgT):2<=(fL m).length:=by unfold fL;rw[List.length_append];exact Nat.le_add_right 2 _
theorem HO{m:MsgT}(h:fA m=true):jO (cV m)=some m:=by
 have hr:=rE h
 obtain⟨p1,p2,p3⟩:=AW m
 have h2:=CR m
 have hl:=AV h
 obtain⟨q1,q2,q3,u,q4,q5⟩:=OM NT hr rfl
 have e:mR (cV m)=(fL m,2,false,()):=by unfold mR;rw[p2]
 have ht:(cV m).take 2=rk2:=by unfold cV fL;rw[List.append_assoc];exact List.take_left' rfl
 have c1:miC (cV m)=_:=(congrArg (λr:RdT=>nC (mgR NI r) 5) e).trans ((congrArg (λr:RdT=>nC r 5) q5).trans
  (q9 (m:=5) (InN.nat (show m.marks.length<=2147483647 by have:=hr.marks.1;omega)) (by have:=hr.marks.1;omega) (fL m) u (m.marks.flatMap bE++[]) (q4.trans (by unfold rZ;simp only[List.append_assoc]))))
 have c2:miF (cV m)=(m.marks,(fL m,(((u++aN (m.marks.length:Int)++m.marks.flatMap bE).length:Nat):Int),false,())):=by
  unfold miF;rw[c1]
  show kV qG _ ((m.marks.length:Int)).toNat=_
  rw[Int.toNat_natCast]
  exact oJ (xD hr.marks.2) (fL m) _ [] (q4.trans (by unfold rZ;simp only[List.append_assoc]))
 have c3:miM (cV m) m.part=m:=by unfold miM;rw[c2,e];exact q3
 have hw:i64.wrap ((((cV m).length:Nat):Int) - 4)=(((cV m).length:Nat):Int) - 4:=by rw[IntKind.wrap_i64];omega
 unfold jO
 rw[hw,decide_eq_false (show ¬ ((((cV m).length:Nat):Int) - 4<2) by omega),ht,iJ,e,q1,q2,lA hr.part]
 show(bif(miF (cV m)).2.2.2.1||(!fA (miM (cV m) m.part)|| !cK (bR (miM (cV m) m.part)) (cV m))then none else some (miM (cV m) m.part))=some m
 rw[c3,c2,h,show bR m=cV m by unfold bR;rw[h];rfl,iJ];rfl
theorem HN{m:MsgT}(h:fA m=true):fQ (cV m)=some m:=by
 have hr:=rE h
 obtain⟨p1,p2,p3⟩:=AW m
 have h2:=CR m
 obtain⟨q1,q2,q3,u,q4,q5⟩:=OM NR hr rfl
 have e:mR (cV m)=(fL m,2,false,()):=by unfold mR;rw[p2]
 have c2:msF (cV m)=(m.marks,(fL m,(((u++rZ m.marks).length:Nat):Int),false,())):=by
  unfold msF;rw[e,q5]
  exact CK (show m.marks.length<=100 by have:=hr.marks.1;omega) hr.marks.2 (fL m) u [] q4
 have c3:msM (cV m)=m:=by unfold msM;rw[c2,e,q2,lA hr.part];exact q3
 unfold fQ
 rw[decide_eq_false (show ¬ ((((cV m).length:Nat):Int)<6) by omega),p2,p3,iJ,c3,c2,e,q1,q2,lA hr.part,h,show bR m=cV m by unfold bR;rw[h];rfl,iJ];rfl
theorem qB{m:MsgT}(h:fA m=true):bR m=cV m:=by unfold bR;rw[h];rfl
theorem RM{b:List aO}(hb:ByL b):fQ b=jO b:=by
 cases h:jO b with
 | some m=>
  obtain⟨h1,h2⟩:=B4 h
  have e:=(mM (mI m) hb).1 h2
  rw[<- e,qB h1];exact HN h1
 | none=>
  cases h2:fQ b with
  | none=>rfl
  | some m=>
   obtain⟨h3,h4⟩:=LL h2
   have e:=(mM (mI m) hb).1 h4
   rw[<- e,qB h3,HO h3] at h;cases h
end Go.Abs
-- bytes of sums; sizes of what readers yield: plain laws
namespace Go.Abs
open Go
theorem EF(x:Nat):IntKind.u8.wrap (x:Int)=((x % 256:Nat):Int):=by
 have:IntKind.u8.wrap (x:Int)=(x:Int) % 256:=by unfold IntKind.wrap;simp[IntKind.bits,IntKind.signed]
 rw[this];omega
theorem yU(n d:Nat):((n:Int)).tdiv (d:Int)=((n / d:Nat):Int):=by
 rw[Int.tdiv_eq_ediv_of_nonneg (by omega)];exact(Int.natCast_ediv n d).symm
theorem yS(n d:Nat):((n:Int)).tmod (d:Int)=((n % d:Nat):Int):=by
 rw[Int.tmod_eq_emod_of_nonneg (by omega)];exact(Int.natCast_emod n d).symm
theorem M4{x:Int}(h0:0<=x)(h:x.toNat<4294967296):
  ([((IntKind.u8.wrap (i64.wrap (x.tdiv (16777216:Int)))),()),((IntKind.u8.wrap ((i64.wrap (x.tdiv (65536:Int))).tmod (256:Int))),()),((IntKind.u8.wrap ((i64.wrap (x.tdiv (256:Int))).tmod (256:Int))),()),((IntKind.u8.wrap (x.tmod (256:Int))),())]:List aO)=M5 x.toNat:=by
 obtain⟨n,rfl⟩:∃ n:Nat,x=(n:Int):=⟨x.toNat,by omega⟩
 rw[Int.toNat_natCast] at h ⊢
 have e1:((n:Int)).tdiv (16777216:Int)=((n / 16777216:Nat):Int):=yU n 16777216
 have e2:((n:Int)).tdiv (65536:Int)=((n / 65536:Nat):Int):=yU n 65536
 have e3:((n:Int)).tdiv (256:Int)=((n / 256:Nat):Int):=yU n 256
 rw[e1,e2,e3,xT (show n / 16777216<9223372036854775808 by omega),xT (show n / 65536<9223372036854775808 by omega),xT (show n / 256<9223372036854775808 by omega)]
 have m2:(((n / 65536:Nat):Int)).tmod (256:Int)=((n / 65536 % 256:Nat):Int):=yS _ 256
 have m3:(((n / 256:Nat):Int)).tmod (256:Int)=((n / 256 % 256:Nat):Int):=yS _ 256
 have m4:((n:Int)).tmod (256:Int)=((n % 256:Nat):Int):=yS _ 256
 rw[m2,m3,m4,EF,EF,EF,EF]
 unfold M5
 rw[show n / 16777216 % 256=n / 16777216 by omega,show n / 65536 % 256 % 256=n / 65536 % 256 by omega,show n / 256 % 256 % 256=n / 256 % 256 by omega,show n % 256 % 256=n % 256 by omega]
-- ways of reading lists
def UV(N:Int->RdT->List aO×RdT):Prop:=∀ k r,0<=k->k<=5->RdOk r->RdOk (N k r).2/\(N k r).2.1=r.1/\(N k r).1.length<=100
theorem UW:UV NS:=λk r h0 h5 h=>⟨h.many 1,HR r 1,by have:=rG r 1;show(bW r 1).1.length<=100;omega⟩
structure MgOk (N:Int->RdT->List aO×RdT) (r:RdT):Prop where
 a:RdOk (mgA N r).2
 b:RdOk (mgB N r).2
 c:RdOk (mgC N r).2
 d:RdOk (mgD N r).2
 e:RdOk (mgE N r).2
 list:(mgE N r).2.1=r.1
 len:(mgA N r).1.length<=100/\(mgC N r).1.length<=100/\(mgD N r).1.length<=100
 nn:0<=(mgE N r).1/\(mgE N r).1<=2147483647
theorem UM{N:Int->RdT->List aO×RdT}(hN:UV N){r:RdT}(h:RdOk r):MgOk N r:=by
 have h5:=h.k 5
 have hA:=hN 4 _ (by decide) (by decide) h5
 have hB:RdOk (mgB N r).2:=hA.1.num
 have hC:=hN 5 _ (by decide) (by decide) hB
 have hD:=hN 4 _ (by decide) (by decide) hC.1
 have hE:RdOk (mgE N r).2:=hD.1.num
 have q:=rC (mgD N r).2
 refine⟨hA.1,hB,hC.1,hD.1,hE,?_,⟨hA.2.2,hC.2.2,hD.2.2⟩,⟨q.2.2.1,q.2.2.2.1⟩⟩
 have e1:(mgE N r).2.1=(mgD N r).2.1:=q.1
 have e2:(mgD N r).2.1=(mgC N r).2.1:=hD.2.1
 have e3:(mgC N r).2.1=(mgB N r).2.1:=hC.2.1
 have e4:(mgB N r).2.1=(mgA N r).2.1:=jY _
 have e5:(mgA N r).2.1=(rdK r 5).1:=hA.2.1
 rw[e1,e2,e3,e4,e5];exact tX r 5
theorem TH{N:Int->RdT->List aO×RdT}{r:RdT}(h:MgOk N r){s:aH}(hs:SzS s){fs:List aU}(hf:fs.length<=100):SzM (mgM N r s fs):=
 ⟨Nat.le_trans h.len.1 (by decide),Nat.le_trans h.len.2.1 (by decide),Nat.le_trans h.len.2.2 (by decide),hs,Nat.le_trans hf (by decide)⟩
theorem DB{b:List aO}{s:aH}(h:cW b=some s):StateOk s:=(aS s).1 (wN h).1
theorem HH{s:aH}(h:StateOk s):SzS s:=⟨Nat.le_trans h.len.1 (by decide),Nat.le_trans h.len.2 (by decide)⟩
theorem UN{b:List aO}(hb:B8 b)(hl:b.length<=aW)(h6:6<=b.length):RdOk (mR b) where
 b8:=(hb.byL.sub λx hx=>List.mem_of_mem_take hx).b8
 len:=by show(b.take (b.length - 4)).length<=aW;rw[List.length_take];omega
 lo:=by show(0:Int)<=2;omega
 hi:=by show(2:Int)<=(((b.take (b.length - 4)).length:Nat):Int);rw[List.length_take];omega
theorem TG{N:Int->RdT->List aO×RdT}{r:RdT}(h:MgOk N r)(hb:qD N r=false):RdOk (mgR N r):=by
 unfold qD at hb
 simp only[Bool.or_eq_false_iff,decide_eq_false_iff_not] at hb
 have hn:=h.nn
 have lo:=h.e.lo;have hi:=h.e.hi
 exact⟨h.e.b8,h.e.len,by show 0<=(mgE N r).2.2.1+(mgE N r).1;omega,by show(mgE N r).2.2.1+(mgE N r).1<=(((mgE N r).2.1.length:Nat):Int);omega⟩
theorem FN{b:List aO}{m:MsgT}(h:jO b=some m):SzM m:=by
 have hr:=rE (B4 h).1
 exact⟨Nat.le_trans hr.tree.1 (by decide),Nat.le_trans hr.vec.1 (by decide),Nat.le_trans hr.leaves.1 (by decide),HH ((aS _).1 hr.part),Nat.le_trans hr.marks.1 (by decide)⟩
theorem UZ(a b:Int):∃ y:Nat,kO .u8 a b=(y:Int)/\y<=255:=by
 unfold kO
 rw[EF]
 exact⟨_,rfl,by omega⟩
theorem TU{b:List aO}(h:ByL b)(i:Nat)(x y:Int)(u:Unit):ByL (b.set i (kO .u8 x y,u)):=λz hz=>by
 rcases List.mem_or_eq_of_mem_set hz with h1 | h1
 ·exact h z h1
 ·rw[h1];exact UZ x y
end Go.Abs
-- what was said, in order and bH: plain laws
namespace Go.Abs
open Go
theorem tH{w:a9}(h:bM w=true):1<=w.1.length/\w.1.length<=5/\w.2.1.length<=12/\w.2.2.1.length<=40:=by
 unfold bM at h
 simp only[Bool.and_eq_true,aV,Bool.not_eq_true',decide_eq_false_iff_not] at h
 omega
theorem sG{w:a9}(h:bM w=true){i:Nat}(hi:i<w.2.2.1.length):StateOk (bP w i):=(aS _).1 (nY h hi)
theorem oU{w:a9}(h:bM w=true):∀ k,k<=w.2.2.1.length->StateOk (eG (bP w) k)
 | 0,_=>zQ
 | k+1,hk=>(oU h k (by omega)).join (sG h (by omega))
theorem w9{w:a9}(h:bM w=true){i:Nat}:∀ k,i<k->k<=w.2.2.1.length->Leq (bP w i) (eG (bP w) k)
 | 0,hi,_=>absurd hi (by omega)
 | k+1,hi,hk=>by
  by_cases e:i=k
  ·subst e;exact Leq.right (oU h i (by omega)) (sG h (by omega))
  ·exact(w9 h k (by omega) (by omega)).trans (Leq.left (oU h k (by omega)) (sG h (by omega)))
theorem GN{w:a9}(h:bM w=true):kK w=eG (bP w) w.2.2.1.length:=by unfold kK;rw[h];rfl
theorem GO{w:a9}(h:bM w=true):StateOk (kK w):=by rw[GN h];exact oU h _ (Nat.le_refl _)
-- bH
def xN(w:a9)(s:aH)(i:Nat):List aO:=bif jZ (bP w i) s then[((i:Int),())] else[]
theorem qQ{w:a9}{s:aH}(h:bM w=true)(hs:aP s=true):bH w s=bL w.2.2.1.length (xN w s):=by unfold bH;rw[h,hs];rfl
theorem wC{w:a9}{s:aH}{i:Nat}{x:aO}(h:x∈xN w s i):x=((i:Int),())/\Leq (bP w i) s:=by
 unfold xN at h
 cases hl:jZ (bP w i) s with
 | false=>rw[hl] at h;cases h
 | true=>rw[hl] at h;exact⟨List.mem_singleton.1 h,nK.1 hl⟩
theorem EA{w:a9}{s:aH}(h:bM w=true)(hs:aP s=true){x:aO}(hx:x∈bH w s):∃ i:Nat,i<w.2.2.1.length/\x=((i:Int),())/\Leq (bP w i) s:=by
 rw[qQ h hs] at hx
 obtain⟨i,hi,hx⟩:=iY hx
 exact⟨i,hi,wC hx⟩
theorem CS(w:a9)(s:aH):∀ n,(bL n (xN w s)).Pairwise (λx y:aO=>x.1<y.1)/\∀ x∈bL n (xN w s),x.1<(n:Int)
 | 0=>⟨List.Pairwise.nil,λx hx=>by cases hx⟩
 | n+1=>by
  obtain⟨h1,h2⟩:=CS w s n
  rw[c8]
  refine⟨List.pairwise_append.2 ⟨h1,?_,λx hx y hy=>?_⟩,λx hx=>?_⟩
  ·unfold xN;cases jZ (bP w n) s with
   | false=>exact List.Pairwise.nil
   | true=>exact List.pairwise_singleton ..
  ·have:=h2 x hx;rw[(wC hy).1];exact this
  ·rcases List.mem_append.1 hx with hx | hx
   ·have:=h2 x hx;omega
   ·rw[(wC hx).1];show(n:Int)<((n+1:Nat):Int);omega
theorem R8{w:a9}{s:aH}(h:bM w=true)(hs:aP s=true){i:Nat}(hi:i+1<(bH w s).length):(gt (bH w s) i).1<(gt (bH w s) (i+1)).1:=by
 have:=(CS w s w.2.2.1.length).1
 rw[<- qQ h hs] at this
 rw[cS hi,cS (show i<(bH w s).length by omega)]
 exact List.pairwise_iff_getElem.1 this i (i+1) (by omega) hi (by omega)
theorem H2{w:a9}(h:bM w=true)(ls:List aO):eM w ls=cM w ls ls.length:=by unfold eM;rw[h];rfl
theorem sW{w:a9}(h:bM w=true){s:aH}(hs:StateOk s){ls:List aO}(hl:∀ x∈ls,∃ i:Nat,i<w.2.2.1.length/\x=((i:Int),())/\Leq (bP w i) s):∀ k,k<=ls.length->Leq (cM w ls k) s
 | 0,_=>Leq.nil hs
 | k+1,hk=>by
  have ih:=sW h hs hl k (by omega)
  obtain⟨i,hi,e,hq⟩:=hl _ (cN (show k<ls.length by omega))
  unfold cM
  rw[e]
  cases inB (((i:Int),()):aO).1 0 (i64.wrap ((w.2.2.1.length:Int) - 1))with
  | false=>exact ih
  | true=>exact Leq.lub ih (by show Leq (bP w ((i:Int)).toNat) s;rw[Int.toNat_natCast];exact hq)
theorem FF{w:a9}(h:bM w=true){i:Nat}(hi:i<w.2.2.1.length):Leq (bP w i) (kK w):=by rw[GN h];exact w9 h _ hi (Nat.le_refl _)
theorem H3{w:a9}(h:bM w=true){s:aH}(hs:aP s=true):Leq (eM w (bH w s)) s/\Leq (eM w (bH w s)) (kK w):=by
 rw[H2 h]
 refine⟨sW h ((aS s).1 hs) (λx hx=>EA h hs hx) _ (Nat.le_refl _),sW h (GO h) (λx hx=>?_) _ (Nat.le_refl _)⟩
 obtain⟨i,hi,e,_⟩:=EA h hs hx
 exact⟨i,hi,e,FF h hi⟩
theorem R9{w:a9}(h:bM w=true):(bH w (kK w)).length=w.2.2.1.length:=by
 rw[qQ h ((aS _).2 (GO h))]
 have key:∀ n,n<=w.2.2.1.length->(bL n (xN w (kK w))).length=n:=by
  intro n
  induction n with
  | zero=>intro _;rfl
  | succ n ih=>
   intro hn
   rw[c8,List.length_append,ih (by omega)]
   unfold xN;rw[nK.2 (FF h (show n<w.2.2.1.length by omega))];rfl
 exact key _ (Nat.le_refl _)
end Go.Abs
