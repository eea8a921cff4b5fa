/- A by-value reading of the model, and its soundness, part 4. -/
import Derived.Test.YtohahjehdododaaGreatW3
set_option linter.unusedVariables false
-- states and messages read back: plain laws
open Go.IntKind (i64)
namespace Go.Abs
open Go
def InN(x:Int):Prop:=inB x 0 2147483647=true
theorem InN.of{x hi:Int}(h:inB x 0 hi=true)(hh:hi<=2147483647):InN x:=by
 unfold InN;rw[aV] at h ⊢;omega
theorem InN.of1{x hi:Int}(h:inB x 1 hi=true)(hh:hi<=2147483647):InN x:=by
 unfold InN;rw[aV] at h ⊢;omega
theorem InN.nat{n:Nat}(h:n<=2147483647):InN (n:Int):=by unfold InN;rw[aV];omega
theorem StateOk.five{s:aH}(h:StateOk s){x:bM}(hx:x∈s.1):(∀ y∈five x,inB y.1 0 2147483647=true)/\ByteArray.size x.2.2.2.2.2.1<=2147483647:=by
 obtain⟨h1,h2,_⟩:=h.item x hx
 unfold eE at h2
 simp only[Bool.and_eq_true,decide_eq_true_eq] at h2
 obtain⟨a,b,c,d,e⟩:=h2
 refine⟨λy hy=>?_,by omega⟩
 unfold Go.Abs.five at hy
 simp only[List.mem_cons,List.not_mem_nil,or_false] at hy
 rcases hy with rfl | rfl | rfl | rfl | rfl
 ·exact InN.of (h1:inB x.1 0 4=true) (by decide)
 ·exact InN.of1 a (by decide)
 ·exact InN.of b (by decide)
 ·exact InN.of c (by decide)
 ·exact InN.of d (by decide)
theorem StateOk.flo{s:aH}(h:StateOk s){f:aR}(hf:f∈s.2.1):InN f.1/\InN f.2.1:=
 ⟨InN.of ((h.floor f hf).1:inB f.1 0 4=true) (by decide),InN.of1 (h.floor f hf).2 (by decide)⟩
theorem z4{s:aH}(h:StateOk s):∀ x∈s.1,kT eJ (bD x) x:=λx hx=>FU (h.five hx).1 (h.five hx).2
theorem xA{fs:List aR}(h:∀ f∈fs,InN f.1/\InN f.2.1):∀ x∈fs,kT qH (bF x) x:=λx hx=>D1 (h x hx).1 (h x hx).2
-- the program's reader of states
def rs0(b:List aO):RdT:=(b,0,false,())
def siC(b:List aO):Int×RdT:=nD (rs0 b) 5
def siI(b:List aO):List bM×RdT:=kR eJ (siC b).2 (siC b).1.toNat
def siF(b:List aO):Int×RdT:=nD (siI b).2 5
def siG(b:List aO):List aR×RdT:=kR qH (siF b).2 (siF b).1.toNat
def stI(b:List aO):aH:=((siI b).1,(siG b).1,())
def cU(b:List aO):Option aH:=bif(siG b).2.2.2.1||(!aP (stI b)|| !cK (bS (stI b)) b)then none else some (stI b)
theorem uU{α:Type}{c:Bool}{x y:α}(h:(bif c then none else some x)=some y):c=false/\x=y:=by
 cases c with
 | true=>cases h
 | false=>exact⟨rfl,by injection h⟩
theorem wK{b:List aO}{s:aH}(h:cU b=some s):aP s=true/\cK (bS s) b=true:=by
 obtain⟨h1,h2⟩:=uU h
 subst h2
 simp only[Bool.or_eq_false_iff,Bool.not_eq_false'] at h1
 exact h1.2
theorem uS(s:aH):bS s=([]:List aO)++(aN (s.1.length:Int)++(s.1.flatMap bD++(aN (s.2.1.length:Int)++(s.2.1.flatMap bF++[])))):=by
 unfold bS;simp
theorem iH(b:List aO):cK b b=true:=by unfold cK;exact beq_self_eq_true _
theorem kW{s:aH}(hs:aP s=true):cU (bS s)=some s:=by
 have h:=(aS s).1 hs
 have h5:=h.len
 have hb:=uS s
 generalize e:bS s=b at hb
 have c1:siC b=((s.1.length:Int),(b,(((([]:List aO)++aN (s.1.length:Int)).length:Nat):Int),false,())):=
  q9 (m:=5) (InN.nat (by omega)) (by omega) b [] _ hb
 have c2:siI b=(s.1,(b,(((([]:List aO)++aN (s.1.length:Int)++s.1.flatMap bD).length:Nat):Int),false,())):=by
  unfold siI;rw[c1]
  show kR eJ _ ((s.1.length:Int)).toNat=_
  rw[Int.toNat_natCast]
  exact oM (z4 h) b _ _ (by rw[hb,List.append_assoc])
 have c3:siF b=((s.2.1.length:Int),(b,(((([]:List aO)++aN (s.1.length:Int)++s.1.flatMap bD++aN (s.2.1.length:Int)).length:Nat):Int),false,())):=by
  unfold siF;rw[c2]
  exact q9 (m:=5) (InN.nat (by omega)) (by omega) b _ (s.2.1.flatMap bF++[]) (by rw[hb];simp only[List.append_assoc])
 have c4:siG b=(s.2.1,(b,(((([]:List aO)++aN (s.1.length:Int)++s.1.flatMap bD++aN (s.2.1.length:Int)++s.2.1.flatMap bF).length:Nat):Int),false,())):=by
  unfold siG;rw[c3]
  show kR qH _ ((s.2.1.length:Int)).toNat=_
  rw[Int.toNat_natCast]
  exact oM (xA λf hf=>h.flo hf) b _ [] (by rw[hb];simp only[List.append_assoc])
 have c5:stI b=s:=by unfold stI;rw[c2,c4]
 unfold cU;rw[c4,c5,hs,e,iH];rfl
-- the reference's reader of states
def mA:RdT->Nat->List aO×RdT
 | r,0=>([],r)
 | r,k+1=>bif r.2.2.1 then([],r)else(((aQ r).1,())::(mA (aQ r).2 k).1,(mA (aQ r).2 k).2)
def bU(r:RdT)(t:Nat):List aO×RdT:=bif decide ((aQ r).1>100)then([],((aQ r).2.1,(aQ r).2.2.1,true,()))else mA (aQ r).2 ((aQ r).1.toNat*t)
theorem EU:∀ (k:Nat) (r:RdT),(mA r k).1.length<=k
 | 0,r=>Nat.le_refl _
 | k+1,r=>by
  unfold mA
  cases r.2.2.1 with
  | true=>exact Nat.zero_le _
  | false=>show(((aQ r).1,())::(mA (aQ r).2 k).1).length<=k+1;rw[List.length_cons];have:=EU k (aQ r).2;omega
theorem JB:∀ (k:Nat) {r:RdT},RdOk r->RdOk (mA r k).2
 | 0,r,h=>h
 | k+1,r,h=>by
  unfold mA
  cases r.2.2.1 with
  | true=>exact h
  | false=>exact JB k h.num
theorem BP:∀ (k:Nat) (r:RdT),(mA r k).2.1=r.1
 | 0,r=>rfl
 | k+1,r=>by
  unfold mA
  cases r.2.2.1 with
  | true=>rfl
  | false=>exact(BP k _).trans (jW r)
theorem HO(r:RdT)(t:Nat):(bU r t).2.1=r.1:=by
 unfold bU
 cases decide ((aQ r).1>100)with
 | true=>exact jW r
 | false=>exact(BP _ _).trans (jW r)
theorem rG(r:RdT)(t:Nat):(bU r t).1.length<=100*t:=by
 unfold bU
 by_cases h:(aQ r).1>100
 ·rw[decide_eq_true h];exact Nat.zero_le _
 ·rw[decide_eq_false h]
  have h1:=EU ((aQ r).1.toNat*t) (aQ r).2
  have h2:(aQ r).1.toNat*t<=100*t:=Nat.mul_le_mul (by omega) (Nat.le_refl _)
  show(mA (aQ r).2 ((aQ r).1.toNat*t)).1.length<=100*t;omega
theorem RdOk.many{r:RdT}(h:RdOk r)(t:Nat):RdOk (bU r t).2:=by
 unfold bU
 cases decide ((aQ r).1>100)with
 | true=>exact⟨h.num.b8,h.num.len,h.num.lo,h.num.hi⟩
 | false=>exact JB _ h.num
theorem BV:∀ (ns:List aO),(∀ x∈ns,InN x.1)->kT (λr=>mA r ns.length) (cV ns) ns
 | [],_=>λb u v hb=>by show(([]:List aO),((b,(u.length:Int),false,()):RdT))=_;unfold cV;rw[List.flatMap_nil,List.append_nil]
 | x::ns,h=>λb u v hb=>by
  have e:cV (x::ns)=aN x.1++cV ns:=by unfold cV;rw[List.flatMap_cons]
  rw[e] at hb ⊢
  have h1:=hY (h x (List.mem_cons_self ..)) b u (cV ns++v) (by rw[hb];simp only[List.append_assoc])
  have h2:=BV ns (λy hy=>h y (List.mem_cons_of_mem _ hy)) b (u++aN x.1) v (by rw[hb];simp only[List.append_assoc])
  show(((aQ _).1,())::(mA (aQ _).2 ns.length).1,(mA (aQ _).2 ns.length).2)=_
  rw[h1]
  have h2:mA (b,(((u++aN x.1).length:Nat):Int),false,()) ns.length=_:=h2
  rw[h2,List.append_assoc]
theorem wS{ns:List aO}{n t:Nat}(hl:ns.length=n*t)(hn:n<=100)(h:∀ x∈ns,InN x.1):kT (λr=>bU r t) (aN ((n:Nat):Int)++cV ns) ns:=by
 intro b u v hb
 have h1:=hY (InN.nat (show n<=2147483647 by omega)) b u (cV ns++v) (by rw[hb];simp only[List.append_assoc])
 have h2:=BV ns h b (u++aN ((n:Nat):Int)) v (by rw[hb];simp only[List.append_assoc])
 show bU _ t=_
 unfold bU
 rw[h1,decide_eq_false (show ¬ (((n:Nat):Int)>100) by omega)]
 show mA _ (((n:Nat):Int).toNat*t)=_
 rw[Int.toNat_natCast,<- hl]
 exact h2.trans (by rw[List.append_assoc])
def fJ(fl:List aO)(k:Nat):List aR:=(List.range k).map λi=>((gt fl (2*i)).1,(gt fl (2*i+1)).1,())
theorem sP(fl:List aO)(k:Nat):(fJ fl k).length=k:=by unfold fJ;rw[List.length_map,List.length_range]
theorem wW(fl:List aO)(k:Nat):fJ fl (k+1)=fJ fl k++[((gt fl (2*k)).1,(gt fl (2*k+1)).1,())]:=by
 unfold fJ;rw[List.range_succ,List.map_append];rfl
theorem FC(x y:aO)(l:List aO)(k:Nat):fJ (x::y::l) (k+1)=(x.1,y.1,())::fJ l k:=by
 unfold fJ
 rw[List.range_succ_eq_map,List.map_cons,List.map_map]
 congr 1
def CZ(fs:List aR):List aO:=fs.flatMap λf=>[(f.1,()),(f.2.1,())]
theorem u5(f:aR)(fs:List aR):CZ (f::fs)=(f.1,())::(f.2.1,())::CZ fs:=by unfold CZ;rw[List.flatMap_cons];rfl
theorem yK:∀ fs:List aR,(CZ fs).length=fs.length*2
 | []=>rfl
 | f::fs=>by rw[u5,List.length_cons,List.length_cons,yK fs,List.length_cons];omega
theorem BI:∀ fs:List aR,cV (CZ fs)=fs.flatMap bF
 | []=>rfl
 | f::fs=>by
  rw[u5,List.flatMap_cons,<- BI fs]
  unfold cV bF;rw[List.flatMap_cons,List.flatMap_cons,List.append_assoc]
theorem QN{fs:List aR}(h:∀ f∈fs,InN f.1/\InN f.2.1):∀ x∈CZ fs,InN x.1:=λx hx=>by
 obtain⟨f,hf,hx⟩:=List.mem_flatMap.1 hx
 rcases List.mem_cons.1 hx with rfl | hx
 ·exact(h f hf).1
 ·rw[List.mem_singleton.1 hx];exact(h f hf).2
theorem zK:∀ fs:List aR,fJ (CZ fs) fs.length=fs
 | []=>rfl
 | f::fs=>by rw[u5,List.length_cons,FC,zK fs]
def flR(r:RdT):List aR×RdT:=(fJ (bU r 2).1 ((bU r 2).1.length / 2),(bU r 2).2)
theorem CJ{fs:List aR}(hl:fs.length<=100)(h:∀ f∈fs,InN f.1/\InN f.2.1):kT flR (aN (fs.length:Int)++fs.flatMap bF) fs:=by
 intro b u v hb
 rw[<- BI] at hb ⊢
 have:=wS (t:=2) (yK fs) hl (QN h) b u v hb
 have this:bU (b,(u.length:Int),false,()) 2=_:=this
 unfold flR;rw[this]
 show(fJ (CZ fs) ((CZ fs).length / 2),_)=_
 rw[yK,Nat.mul_div_cancel _ (by decide),zK]
theorem JY(r:RdT):(flR r).1.length<=100:=by
 unfold flR;rw[sP];have:=rG r 2;omega
def iK:RdT->Nat->Option (List bM×RdT)
 | r,0=>some ([],r)
 | r,k+1=>bif r.2.2.1 then some ([],r)else bif(eJ r).2.2.2.1 then none else(iK (eJ r).2 k).map λq=>((eJ r).1::q.1,q.2)
theorem uI:∀ (xs:List bM),(∀ x∈xs,kT eJ (bD x) x)->∀ b u v,b=u++(xs.flatMap bD++v)->
  iK (b,(u.length:Int),false,()) xs.length=some (xs,(b,(((u++xs.flatMap bD).length:Nat):Int),false,()))
 | [],_,b,u,v,hb=>by show some (([]:List bM),((b,(u.length:Int),false,()):RdT))=_;rw[List.flatMap_nil,List.append_nil]
 | x::xs,h,b,u,v,hb=>by
  rw[List.flatMap_cons] at hb ⊢
  have h1:=h x (List.mem_cons_self ..) b u (xs.flatMap bD++v) (by rw[hb];simp only[List.append_assoc])
  have h2:=uI xs (λy hy=>h y (List.mem_cons_of_mem _ hy)) b (u++bD x) v (by rw[hb];simp only[List.append_assoc])
  show(bif(eJ _).2.2.2.1 then none else(iK (eJ _).2 xs.length).map λq=>((eJ _).1::q.1,q.2))=_
  rw[h1]
  show(iK _ xs.length).map _=_
  rw[h2,List.append_assoc];rfl
def ssI(b:List aO):Option (List bM×RdT):=bif decide ((aQ (rs0 b)).1>100)then some ([],(aQ (rs0 b)).2)else iK (aQ (rs0 b)).2 (aQ (rs0 b)).1.toNat
def stS(q:List bM×RdT):aH:=(q.1,(flR q.2).1,())
def fY(b:List aO):Option aH:=match ssI b with
 | none=>none
 | some q=>bif(flR q.2).2.2.2.1||(decide ((aQ (rs0 b)).1>100)||(!aP (stS q)|| !cK (bS (stS q)) b))then none else some (stS q)
theorem EO{b:List aO}{s:aH}(h:fY b=some s):aP s=true/\cK (bS s) b=true:=by
 unfold fY at h
 cases e:ssI b with
 | none=>rw[e] at h;cases h
 | some q=>
  rw[e] at h
  obtain⟨h1,h2⟩:=uU h
  subst h2
  simp only[Bool.or_eq_false_iff,Bool.not_eq_false'] at h1
  exact h1.2.2
theorem C8{s:aH}(hs:aP s=true):fY (bS s)=some s:=by
 have h:=(aS s).1 hs
 have h5:=h.len
 have hb:=uS s
 generalize e:bS s=b at hb
 have c1:aQ (rs0 b)=((s.1.length:Int),(b,(((([]:List aO)++aN (s.1.length:Int)).length:Nat):Int),false,())):=
  hY (InN.nat (by omega)) b [] _ hb
 have hd:decide ((s.1.length:Int)>100)=false:=decide_eq_false (by omega)
 have c2:ssI b=some (s.1,(b,(((([]:List aO)++aN (s.1.length:Int)++s.1.flatMap bD).length:Nat):Int),false,())):=by
  unfold ssI;rw[c1,hd]
  show iK _ ((s.1.length:Int)).toNat=_
  rw[Int.toNat_natCast]
  exact uI s.1 (z4 h) b _ _ (by rw[hb,List.append_assoc])
 have c3:=CJ (show s.2.1.length<=100 by omega) (λf hf=>h.flo hf) b (([]:List aO)++aN (s.1.length:Int)++s.1.flatMap bD) [] (by rw[hb];simp only[List.append_assoc])
 unfold fY;rw[c1,c2,hd]
 show(bif(flR _).2.2.2.1||(false||(!aP (s.1,(flR _).1,())|| !cK (bS (s.1,(flR _).1,())) b))then none else some (s.1,(flR _).1,()))=_
 rw[c3]
 show(bif false||(false||(!aP s|| !cK (bS s) b))then none else some s)=_
 rw[hs,e,iH];rfl
theorem KN{b:List aO}(hb:ByL b):fY b=cU b:=by
 cases h:cU b with
 | some s=>
  obtain⟨h1,h2⟩:=wK h
  have e:=(mM (v6 s) hb).1 h2
  rw[<- e];exact C8 h1
 | none=>
  cases h2:fY b with
  | none=>rfl
  | some s=>
   obtain⟨h3,h4⟩:=EO h2
   have e:=(mM (v6 s) hb).1 h4
   rw[<- e,kW h3] at h;cases h
end Go.Abs
-- messages as bytes, and read back: plain laws
namespace Go.Abs
open Go
def fL(m:MsgT):List aO:=[(m.1,()),(m.2.1,()),(m.2.2.1,()),(m.2.2.2.1,()),(m.hi,())]
def eN(ns:List aO):List aO:=aN (ns.length:Int)++cV ns
def sA(fs:List aR):List aO:=aN (fs.length:Int)++fs.flatMap bF
def rk2:List aO:=[(82,()),(75,())]
def fF(m:MsgT):List aO:=rk2++(cV (fL m)++(eN m.tree.1++(aN m.tree.2.1++(eN m.vec++(eN m.leaves++(aN (((bS m.part).length:Nat):Int)++(bS m.part++sA m.marks)))))))
def M7(x:Nat):List aO:=[(((x / 16777216:Nat):Int),()),(((x / 65536 % 256:Nat):Int),()),(((x / 256 % 256:Nat):Int),()),(((x % 256:Nat):Int),())]
def yV(b:List aO):List aO:=M7 (crc b).toNat
def cT(m:MsgT):List aO:=fF m++yV (fF m)
theorem F7(ns:List aO):ByL (cV ns):=ByL.flat (λx=>dX _) ns
theorem z1(ns:List aO):ByL (eN ns):=(dX _).app (F7 ns)
theorem OU(fs:List aR):ByL (sA fs):=(dX _).app (ByL.flat sC fs)
theorem rk2_by:ByL rk2:=λx hx=>by
 unfold rk2 at hx
 simp only[List.mem_cons,List.not_mem_nil,or_false] at hx
 rcases hx with rfl | rfl
 ·exact⟨82,rfl,by decide⟩
 ·exact⟨75,rfl,by decide⟩
theorem AU(m:MsgT):ByL (fF m):=rk2_by.app ((F7 _).app ((z1 _).app ((dX _).app ((z1 _).app ((z1 _).app ((dX _).app ((v6 _).app (OU _))))))))
theorem ByL.b32{b:List aO}(h:ByL b):B32 b:=λx hx=>by
 obtain⟨y,hy,hy2⟩:=h x hx
 exact⟨by omega,by omega⟩
theorem QV{x:Nat}(h:x<4294967296):ByL (M7 x):=λy hy=>by
 unfold M7 at hy
 simp only[List.mem_cons,List.not_mem_nil,or_false] at hy
 rcases hy with rfl | rfl | rfl | rfl
 ·exact⟨_,rfl,by omega⟩
 ·exact⟨_,rfl,by omega⟩
 ·exact⟨_,rfl,by omega⟩
 ·exact⟨_,rfl,by omega⟩
theorem PU{b:List aO}(h:ByL b):(crc b).toNat<4294967296/\0<=crc b:=by
 have:=PX (bs:=b) h.b32
 have h1:=this.1;have h2:=this.2
 exact⟨by omega,h1⟩
theorem QW{b:List aO}(h:ByL b):ByL (yV b):=QV (PU h).1
theorem MJ(m:MsgT):ByL (cT m):=(AU m).app (QW (AU m))
theorem yU(b:List aO):(yV b).length=4:=rfl
-- numbers of a right message
structure MsgR (m:MsgT):Prop where
 head:∀ x∈fL m,InN x.1
 tree:m.tree.1.length<=4/\∀ x∈m.tree.1,InN x.1
 root:InN m.tree.2.1
 vec:m.vec.length<=5/\∀ x∈m.vec,InN x.1
 leaves:m.leaves.length<=4/\∀ x∈m.leaves,InN x.1
 part:aP m.part=true
 marks:m.marks.length<=5/\∀ f∈m.marks,InN f.1/\InN f.2.1
theorem QA{v:List aO}{top:Int}(h:nG v top=true)(ht:top<=2147483647):∀ x∈v,InN x.1:=λx hx=>by
 obtain⟨i,hi,rfl⟩:=gZ hx
 exact InN.of (bL.1 h i hi) ht
theorem rE{m:MsgT}(h:eX m=true):MsgR m:=by
 have hl:=z2 h
 unfold eX uD at h
 simp only[Bool.and_eq_true] at h
 obtain⟨⟨h1,h2,h3,_⟩,h4,h5,h6,h7,h8,h9,h10,h11⟩:=h
 rw[decide_eq_true_eq] at h9
 refine⟨λx hx=>?_,?_,?_,⟨by omega,QA h5 (by decide)⟩,⟨hl,λx hx=>?_⟩,h10,⟨LN h11,λf hf=>?_⟩⟩
 ·unfold fL at hx
  simp only[List.mem_cons,List.not_mem_nil,or_false] at hx
  rcases hx with rfl | rfl | rfl | rfl | rfl
  ·exact InN.of h1 (by decide)
  ·exact InN.of (h2:inB _ 0 4=true) (by decide)
  ·exact InN.of (h3:inB _ 0 4=true) (by decide)
  ·exact InN.of h6 (by decide)
  ·exact InN.of h7 (by decide)
 ·unfold treeB at h8
  cases he:(m.tree.1.length:Int)==0 with
  | true=>
   have:m.tree.1.length=0:=by have:=eq_of_beq he;omega
   exact⟨by omega,λx hx=>by rw[List.length_eq_zero_iff.1 this] at hx;cases hx⟩
  | false=>
   rw[he] at h8
   have h8:((m.tree.1.length:Int)==4&&(nG m.tree.1 1023&&inB m.tree.2.1 0 1023))=true:=h8
   rw[Bool.and_eq_true] at h8
   have h8a:=eq_of_beq h8.1
   have h8b:=h8.2
   rw[Bool.and_eq_true] at h8b
   exact⟨by omega,QA h8b.1 (by decide)⟩
 ·unfold treeB at h8
  cases he:(m.tree.1.length:Int)==0 with
  | true=>
   rw[he] at h8
   have h8:(m.tree.2.1==0)=true:=h8
   rw[beq_iff_eq] at h8
   show InN m.tree.2.1
   rw[h8];exact InN.nat (n:=0) (by decide)
  | false=>
   rw[he] at h8
   have h8:((m.tree.1.length:Int)==4&&(nG m.tree.1 1023&&inB m.tree.2.1 0 1023))=true:=h8
   simp only[Bool.and_eq_true] at h8
   exact InN.of h8.2.2 (by decide)
 ·obtain⟨i,hi,rfl⟩:=gZ hx
  have:=bL.1 h4 i hi
  unfold FS at this
  simp only[Bool.and_eq_true] at this
  exact InN.of this.1 (by decide)
 ·obtain⟨i,hi,rfl⟩:=gZ hf
  have:=uG h11 hi
  unfold InN;rw[aV,aV];omega
theorem lG(ns:List aO):(cV ns).length<=ns.length*5:=by
 unfold cV;rw[<- cI];exact dE λi hi=>bE _
theorem GH{m:MsgT}(h:MsgR m):(fF m).length<=500:=by
 have h1:=lG (fL m);have h2:=lG m.tree.1;have h3:=lG m.vec;have h4:=lG m.leaves
 have h5:=nV ((aS _).1 h.part)
 have h6:(m.marks.flatMap bF).length<=m.marks.length*10:=by rw[<- cI];exact dE λi hi=>hI _
 have n1:=bE (m.tree.1.length:Int);have n2:=bE m.tree.2.1;have n3:=bE (m.vec.length:Int);have n4:=bE (m.leaves.length:Int)
 have n5:=bE (((bS m.part).length:Nat):Int);have n6:=bE (m.marks.length:Int)
 have l1:=h.tree.1;have l2:=h.vec.1;have l3:=h.leaves.1;have l4:=h.marks.1
 have l5:(fL m).length=5:=rfl
 have l6:rk2.length=2:=rfl
 unfold fF eN sA
 simp only[List.length_append]
 dsimp only[MsgT.tree] at*
 omega
theorem AR{m:MsgT}(h:eX m=true):(cT m).length<=504:=by
 have:=GH (rE h)
 unfold cT;rw[List.length_append,yU];omega
def bQ(m:MsgT):List aO:=bif eX m then cT m else[]
theorem mI(m:MsgT):ByL (bQ m):=by
 unfold bQ;cases eX m with
 | true=>exact MJ m
 | false=>exact λx hx=>by cases hx
theorem uE(m:MsgT):(bQ m).length<=504:=by
 unfold bQ;cases h:eX m with
 | true=>exact AR h
 | false=>exact Nat.zero_le _
-- the reader of messages, by the ways of reading lists
def mR(b:List aO):RdT:=(b.take (b.length - 4),2,false,())
section
variable (N:Int->RdT->List aO×RdT) (r:RdT)
def mgA:List aO×RdT:=N 4 (rdK r 5)
def mgB:Int×RdT:=aQ (mgA N r).2
def mgC:List aO×RdT:=N 5 (mgB N r).2
def mgD:List aO×RdT:=N 4 (mgC N r).2
def mgE:Int×RdT:=aQ (mgD N r).2
def qE:Bool:=(mgE N r).2.2.2.1||decide ((mgE N r).1>(((mgE N r).2.1.length:Nat):Int) - (mgE N r).2.2.1)
def fD:List aO:=((mgE N r).2.1.take ((mgE N r).2.2.1+(mgE N r).1).toNat).drop (mgE N r).2.2.1.toNat
def mgR:RdT:=((mgE N r).2.1,(mgE N r).2.2.1+(mgE N r).1,(mgE N r).2.2.2.1,())
def mgM(s:aH)(fs:List aR):MsgT:=(rdV r 0,rdV r 1,rdV r 2,rdV r 3,rdV r 4,(mgA N r).1,(mgB N r).1,(mgC N r).1,(mgD N r).1,s.1,s.2.1,fs,())
end
def I6(N:Int->RdT->List aO×RdT):Prop:=∀ (k:Int) (ns:List aO),(ns.length:Int)<=k->k<=5->(∀ x∈ns,InN x.1)->kT (N k) (eN ns) ns
def NI(k:Int)(r:RdT):List aO×RdT:=HB r k
def NS(k:Int)(r:RdT):List aO×RdT:=bU r 1
theorem NV:I6 NI:=λk ns hl hk h b u v hb=>by
 unfold eN at hb ⊢
 have h1:=q9 (InN.nat (show ns.length<=2147483647 by omega)) hl b u (cV ns++v) (by rw[hb];simp only[List.append_assoc])
 have h2:=oM (f:=OA) (xs:=ns) (e:=λx=>aN x.1) (λx hx=>HG (h x hx)) b (u++aN (ns.length:Int)) v (by rw[hb];simp only[List.append_assoc];rfl)
 show HB _ k=_
 unfold HB
 have h1:nD (b,(u.length:Int),false,()) k=_:=h1
 rw[h1]
 show kR OA _ ((ns.length:Int)).toNat=_
 rw[Int.toNat_natCast]
 exact h2.trans (by rw[List.append_assoc];rfl)
theorem NU:I6 NS:=λk ns hl hk h=>wS (t:=1) (by omega) (by omega) h
theorem OS{N:Int->RdT->List aO×RdT}(hN:I6 N){m:MsgT}(h:MsgR m){b:List aO}(hb:b=fF m):
  qE N (b,2,false,())=false/\fD N (b,2,false,())=bS m.part/\mgM N (b,2,false,()) m.part m.marks=m/\
  ∃ u:List aO,b=u++(sA m.marks++[])/\mgR N (b,2,false,())=(b,(u.length:Int),false,()):=by
 have h0:((b,2,false,()):RdT)=(b,(rk2.length:Int),false,()):=rfl
 rw[h0]
 have hb:=hb
 unfold fF at hb
 have c0:=nC (ns:=fL m) h.head hb 5 (Nat.le_refl _)
 rw[show(fL m).take 5=fL m from rfl] at c0
 have v0:=vH (ns:=fL m) h.head hb
 have c1:mgA N (b,(rk2.length:Int),false,())=_:=(congrArg (N 4) c0).trans (hN 4 m.tree.1 (by have:=h.tree.1;omega) (by decide) h.tree.2 b _ _ (by rw[hb];simp only[List.append_assoc];rfl))
 have c2:mgB N (b,(rk2.length:Int),false,())=_:=(congrArg (λq:List aO×RdT=>aQ q.2) c1).trans (hY h.root b _ _ (by rw[hb];simp only[List.append_assoc];rfl))
 have c3:mgC N (b,(rk2.length:Int),false,())=_:=(congrArg (λq:Int×RdT=>N 5 q.2) c2).trans (hN 5 m.vec (by have:=h.vec.1;omega) (by decide) h.vec.2 b _ _ (by rw[hb];simp only[List.append_assoc];rfl))
 have c4:mgD N (b,(rk2.length:Int),false,())=_:=(congrArg (λq:List aO×RdT=>N 4 q.2) c3).trans (hN 4 m.leaves (by have:=h.leaves.1;omega) (by decide) h.leaves.2 b _ _ (by rw[hb];simp only[List.append_assoc];rfl))
 have hl:=nV ((aS _).1 h.part)
 have c5:mgE N (b,(rk2.length:Int),false,())=_:=(congrArg (λq:List aO×RdT=>aQ q.2) c4).trans (hY (x:=(((bS m.part).length:Nat):Int)) (InN.nat (by omega)) b _ _ (by rw[hb];simp only[List.append_assoc];rfl))
 generalize hu:rk2++cV (fL m)++eN m.tree.1++aN m.tree.2.1++eN m.vec++eN m.leaves++aN (((bS m.part).length:Nat):Int)=U at c5
 have hb2:b=U++(bS m.part++sA m.marks):=by rw[hb,<- hu];simp only[List.append_assoc]
 have hbl:b.length=U.length+((bS m.part).length+(sA m.marks).length):=by rw[hb2,List.length_append,List.length_append]
 refine⟨?_,?_,?_,U++bS m.part,?_,?_⟩
 ·unfold qE;rw[c5]
  show(false||decide ((((bS m.part).length:Nat):Int)>(b.length:Int) - (U.length:Int)))=false
  rw[decide_eq_false (by omega)];rfl
 ·unfold fD;rw[c5]
  show(b.take ((U.length:Int)+(((bS m.part).length:Nat):Int)).toNat).drop ((U.length:Int)).toNat=_
  rw[show((U.length:Int)+(((bS m.part).length:Nat):Int)).toNat=U.length+(bS m.part).length by omega,Int.toNat_natCast,hb2]
  exact sE _ _ _
 ·unfold mgM;rw[c1,c2,c3,c4,v0 0 (show 0<5 by omega),v0 1 (show 1<5 by omega),v0 2 (show 2<5 by omega),v0 3 (show 3<5 by omega),v0 4 (show 4<5 by omega)];rfl
 ·rw[hb2];simp only[List.append_assoc,List.append_nil]
 ·unfold mgR;rw[c5]
  show(b,(U.length:Int)+(((bS m.part).length:Nat):Int),false,())=_
  rw[List.length_append,Int.natCast_add]
-- the program's reader of messages
def miC(b:List aO):Int×RdT:=nD (mgR NI (mR b)) 5
def miF(b:List aO):List aR×RdT:=kR qH (miC b).2 (miC b).1.toNat
def miM(b:List aO)(s:aH):MsgT:=mgM NI (mR b) s (miF b).1
def jJ(b:List aO):Option MsgT:=bif decide (i64.wrap ((b.length:Int) - 4)<2)then none else bif !cK (b.take 2) rk2 then none else bif qE NI (mR b)then none else
 match cU (fD NI (mR b))with
 | none=>none
 | some s=>bif(miF b).2.2.2.1||(!eX (miM b s)|| !cK (bQ (miM b s)) b)then none else some (miM b s)
-- the reference's
def msF(b:List aO):List aR×RdT:=flR (mgR NS (mR b))
def msM(b:List aO):MsgT:=mgM NS (mR b) ((cU (fD NS (mR b))).getD f4) (msF b).1
def fK(b:List aO):Option MsgT:=bif decide ((b.length:Int)<6)then none else bif !cK (yV (b.take (b.length - 4))) (b.drop (b.length - 4))then none else bif qE NS (mR b)then none else
 bif(cU (fD NS (mR b))).isNone||((msF b).2.2.2.1||(!eX (msM b)|| !cK (bQ (msM b)) b))then none else some (msM b)
theorem B4{b:List aO}{m:MsgT}(h:jJ b=some m):eX m=true/\cK (bQ m) b=true:=by
 unfold jJ at h
 cases h1:decide (i64.wrap ((b.length:Int) - 4)<2)with
 | true=>rw[h1] at h;cases h
 | false=>
  rw[h1] at h
  cases h2: !cK (b.take 2) rk2 with
  | true=>rw[h2] at h;cases h
  | false=>
   rw[h2] at h
   cases h3:qE NI (mR b)with
   | true=>rw[h3] at h;cases h
   | false=>
    rw[h3] at h
    cases h4:cU (fD NI (mR b))with
    | none=>rw[h4] at h;cases h
    | some s=>
     rw[h4] at h
     obtain⟨h5,h6⟩:=uU h
     subst h6
     simp only[Bool.or_eq_false_iff,Bool.not_eq_false'] at h5
     exact h5.2
theorem LL{b:List aO}{m:MsgT}(h:fK b=some m):eX m=true/\cK (bQ m) b=true:=by
 unfold fK at h
 cases h1:decide ((b.length:Int)<6)with
 | true=>rw[h1] at h;cases h
 | false=>
  rw[h1] at h
  cases h2: !cK (yV (b.take (b.length - 4))) (b.drop (b.length - 4))with
  | true=>rw[h2] at h;cases h
  | false=>
   rw[h2] at h
   cases h3:qE NS (mR b)with
   | true=>rw[h3] at h;cases h
   | false=>
    rw[h3] at h
    obtain⟨h5,h6⟩:=uU h
    subst h6
    simp only[Bool.or_eq_false_iff,Bool.not_eq_false'] at h5
    exact h5.2.2
theorem AS(m:MsgT):(cT m).length - 4=(fF m).length/\(cT m).take ((cT m).length - 4)=fF m/\(cT m).drop ((cT m).length - 4)=yV (fF m):=by
 have e:(cT m).length - 4=(fF m).length:=by unfold cT;rw[List.length_append,yU];omega
 rw[e]
 exact⟨rfl,List.take_left' rfl,List.drop_left' rfl⟩
theorem CQ(m:MsgT):2<=(fF m).length:=by unfold fF;rw[List.length_append];exact Nat.le_add_right 2 _
theorem HL{m:MsgT}(h:eX m=true):jJ (cT m)=some m:=by
 have hr:=rE h
 obtain⟨p1,p2,p3⟩:=AS m
 have h2:=CQ m
 have hl:=AR h
 obtain⟨q1,q2,q3,u,q4,q5⟩:=OS NV hr rfl
 have e:mR (cT m)=(fF m,2,false,()):=by unfold mR;rw[p2]
 have ht:(cT m).take 2=rk2:=by unfold cT fF;rw[List.append_assoc];exact List.take_left' rfl
 have c1:miC (cT m)=_:=(congrArg (λr:RdT=>nD (mgR NI r) 5) e).trans ((congrArg (λr:RdT=>nD r 5) q5).trans
  (q9 (m:=5) (InN.nat (show m.marks.length<=2147483647 by have:=hr.marks.1;omega)) (by have:=hr.marks.1;omega) (fF m) u (m.marks.flatMap bF++[]) (q4.trans (by unfold sA;simp only[List.append_assoc]))))
 have c2:miF (cT m)=(m.marks,(fF m,(((u++aN (m.marks.length:Int)++m.marks.flatMap bF).length:Nat):Int),false,())):=by
  unfold miF;rw[c1]
  show kR qH _ ((m.marks.length:Int)).toNat=_
  rw[Int.toNat_natCast]
  exact oM (xA hr.marks.2) (fF m) _ [] (q4.trans (by unfold sA;simp only[List.append_assoc]))
 have c3:miM (cT m) m.part=m:=by unfold miM;rw[c2,e];exact q3
 have hw:i64.wrap ((((cT m).length:Nat):Int) - 4)=(((cT m).length:Nat):Int) - 4:=by rw[IntKind.wrap_i64];omega
 unfold jJ
 rw[hw,decide_eq_false (show ¬ ((((cT m).length:Nat):Int) - 4<2) by omega),ht,iH,e,q1,q2,kW hr.part]
 show(bif(miF (cT m)).2.2.2.1||(!eX (miM (cT m) m.part)|| !cK (bQ (miM (cT m) m.part)) (cT m))then none else some (miM (cT m) m.part))=some m
 rw[c3,c2,h,show bQ m=cT m by unfold bQ;rw[h];rfl,iH];rfl
theorem HK{m:MsgT}(h:eX m=true):fK (cT m)=some m:=by
 have hr:=rE h
 obtain⟨p1,p2,p3⟩:=AS m
 have h2:=CQ m
 obtain⟨q1,q2,q3,u,q4,q5⟩:=OS NU hr rfl
 have e:mR (cT m)=(fF m,2,false,()):=by unfold mR;rw[p2]
 have c2:msF (cT m)=(m.marks,(fF m,(((u++sA m.marks).length:Nat):Int),false,())):=by
  unfold msF;rw[e,q5]
  exact CJ (show m.marks.length<=100 by have:=hr.marks.1;omega) hr.marks.2 (fF m) u [] q4
 have c3:msM (cT m)=m:=by unfold msM;rw[c2,e,q2,kW hr.part];exact q3
 unfold fK
 rw[decide_eq_false (show ¬ ((((cT m).length:Nat):Int)<6) by omega),p2,p3,iH,c3,c2,e,q1,q2,kW hr.part,h,show bQ m=cT m by unfold bQ;rw[h];rfl,iH];rfl
theorem qC{m:MsgT}(h:eX m=true):bQ m=cT m:=by unfold bQ;rw[h];rfl
theorem RQ{b:List aO}(hb:ByL b):fK b=jJ b:=by
 cases h:jJ b with
 | some m=>
  obtain⟨h1,h2⟩:=B4 h
  have e:=(mM (mI m) hb).1 h2
  rw[<- e,qC h1];exact HK h1
 | none=>
  cases h2:fK b with
  | none=>rfl
  | some m=>
   obtain⟨h3,h4⟩:=LL h2
   have e:=(mM (mI m) hb).1 h4
   rw[<- e,qC h3,HL h3] at h;cases h
end Go.Abs
-- bytes of sums; sizes of what readers yield: plain laws
namespace Go.Abs
open Go
theorem EB(x:Nat):IntKind.u8.wrap (x:Int)=((x % 256:Nat):Int):=by
 have:IntKind.u8.wrap (x:Int)=(x:Int) % 256:=by unfold IntKind.wrap;simp[IntKind.bits,IntKind.signed]
 rw[this];omega
theorem yP(n d:Nat):((n:Int)).tdiv (d:Int)=((n / d:Nat):Int):=by
 rw[Int.tdiv_eq_ediv_of_nonneg (by omega)];exact(Int.natCast_ediv n d).symm
theorem yN(n d:Nat):((n:Int)).tmod (d:Int)=((n % d:Nat):Int):=by
 rw[Int.tmod_eq_emod_of_nonneg (by omega)];exact(Int.natCast_emod n d).symm
theorem M6{x:Int}(h0:0<=x)(h:x.toNat<4294967296):
  ([((IntKind.u8.wrap (i64.wrap (x.tdiv (16777216:Int)))),()),((IntKind.u8.wrap ((i64.wrap (x.tdiv (65536:Int))).tmod (256:Int))),()),((IntKind.u8.wrap ((i64.wrap (x.tdiv (256:Int))).tmod (256:Int))),()),((IntKind.u8.wrap (x.tmod (256:Int))),())]:List aO)=M7 x.toNat:=by
 obtain⟨n,rfl⟩:∃ n:Nat,x=(n:Int):=⟨x.toNat,by omega⟩
 rw[Int.toNat_natCast] at h ⊢
 have e1:((n:Int)).tdiv (16777216:Int)=((n / 16777216:Nat):Int):=yP n 16777216
 have e2:((n:Int)).tdiv (65536:Int)=((n / 65536:Nat):Int):=yP n 65536
 have e3:((n:Int)).tdiv (256:Int)=((n / 256:Nat):Int):=yP n 256
 rw[e1,e2,e3,xO (show n / 16777216<9223372036854775808 by omega),xO (show n / 65536<9223372036854775808 by omega),xO (show n / 256<9223372036854775808 by omega)]
 have m2:(((n / 65536:Nat):Int)).tmod (256:Int)=((n / 65536 % 256:Nat):Int):=yN _ 256
 have m3:(((n / 256:Nat):Int)).tmod (256:Int)=((n / 256 % 256:Nat):Int):=yN _ 256
 have m4:((n:Int)).tmod (256:Int)=((n % 256:Nat):Int):=yN _ 256
 rw[m2,m3,m4,EB,EB,EB,EB]
 unfold M7
 rw[show n / 16777216 % 256=n / 16777216 by omega,show n / 65536 % 256 % 256=n / 65536 % 256 by omega,show n / 256 % 256 % 256=n / 256 % 256 by omega,show n % 256 % 256=n % 256 by omega]
-- ways of reading lists
def UZ(N:Int->RdT->List aO×RdT):Prop:=∀ k r,0<=k->k<=5->RdOk r->RdOk (N k r).2/\(N k r).2.1=r.1/\(N k r).1.length<=100
theorem U0:UZ NS:=λk r h0 h5 h=>⟨h.many 1,HO r 1,by have:=rG r 1;show(bU r 1).1.length<=100;omega⟩
structure MgOk (N:Int->RdT->List aO×RdT) (r:RdT):Prop where
 a:RdOk (mgA N r).2
 b:RdOk (mgB N r).2
 c:RdOk (mgC N r).2
 d:RdOk (mgD N r).2
 e:RdOk (mgE N r).2
 list:(mgE N r).2.1=r.1
 len:(mgA N r).1.length<=100/\(mgC N r).1.length<=100/\(mgD N r).1.length<=100
 nn:0<=(mgE N r).1/\(mgE N r).1<=2147483647
theorem UQ{N:Int->RdT->List aO×RdT}(hN:UZ N){r:RdT}(h:RdOk r):MgOk N r:=by
 have h5:=h.k 5
 have hA:=hN 4 _ (by decide) (by decide) h5
 have hB:RdOk (mgB N r).2:=hA.1.num
 have hC:=hN 5 _ (by decide) (by decide) hB
 have hD:=hN 4 _ (by decide) (by decide) hC.1
 have hE:RdOk (mgE N r).2:=hD.1.num
 have q:=rC (mgD N r).2
 refine⟨hA.1,hB,hC.1,hD.1,hE,?_,⟨hA.2.2,hC.2.2,hD.2.2⟩,⟨q.2.2.1,q.2.2.2.1⟩⟩
 have e1:(mgE N r).2.1=(mgD N r).2.1:=q.1
 have e2:(mgD N r).2.1=(mgC N r).2.1:=hD.2.1
 have e3:(mgC N r).2.1=(mgB N r).2.1:=hC.2.1
 have e4:(mgB N r).2.1=(mgA N r).2.1:=jW _
 have e5:(mgA N r).2.1=(rdK r 5).1:=hA.2.1
 rw[e1,e2,e3,e4,e5];exact tX r 5
theorem TI{N:Int->RdT->List aO×RdT}{r:RdT}(h:MgOk N r){s:aH}(hs:SzS s){fs:List aR}(hf:fs.length<=100):SzM (mgM N r s fs):=
 ⟨Nat.le_trans h.len.1 (by decide),Nat.le_trans h.len.2.1 (by decide),Nat.le_trans h.len.2.2 (by decide),hs,Nat.le_trans hf (by decide)⟩
theorem C9{b:List aO}{s:aH}(h:cU b=some s):StateOk s:=(aS s).1 (wK h).1
theorem zM{s:aH}(h:StateOk s):SzS s:=⟨Nat.le_trans h.len.1 (by decide),Nat.le_trans h.len.2 (by decide)⟩
theorem UR{b:List aO}(hb:B8 b)(hl:b.length<=aW)(h6:6<=b.length):RdOk (mR b) where
 b8:=(hb.byL.sub λx hx=>List.mem_of_mem_take hx).b8
 len:=by show(b.take (b.length - 4)).length<=aW;rw[List.length_take];omega
 lo:=by show(0:Int)<=2;omega
 hi:=by show(2:Int)<=(((b.take (b.length - 4)).length:Nat):Int);rw[List.length_take];omega
theorem TH{N:Int->RdT->List aO×RdT}{r:RdT}(h:MgOk N r)(hb:qE N r=false):RdOk (mgR N r):=by
 unfold qE at hb
 simp only[Bool.or_eq_false_iff,decide_eq_false_iff_not] at hb
 have hn:=h.nn
 have lo:=h.e.lo;have hi:=h.e.hi
 exact⟨h.e.b8,h.e.len,by show 0<=(mgE N r).2.2.1+(mgE N r).1;omega,by show(mgE N r).2.2.1+(mgE N r).1<=(((mgE N r).2.1.length:Nat):Int);omega⟩
theorem FI{b:List aO}{m:MsgT}(h:jJ b=some m):SzM m:=by
 have hr:=rE (B4 h).1
 exact⟨Nat.le_trans hr.tree.1 (by decide),Nat.le_trans hr.vec.1 (by decide),Nat.le_trans hr.leaves.1 (by decide),zM ((aS _).1 hr.part),Nat.le_trans hr.marks.1 (by decide)⟩
theorem U2(a b:Int):∃ y:Nat,kK .u8 a b=(y:Int)/\y<=255:=by
 unfold kK
 rw[EB]
 exact⟨_,rfl,by omega⟩
theorem TW{b:List aO}(h:ByL b)(i:Nat)(x y:Int)(u:Unit):ByL (b.set i (kK .u8 x y,u)):=λz hz=>by
 rcases List.mem_or_eq_of_mem_set hz with h1 | h1
 ·exact h z h1
 ·rw[h1];exact U2 x y
end Go.Abs
-- what was said, in order and D7: plain laws
namespace Go.Abs
open Go
theorem m9{w:a9}(h:bJ w=true):1<=w.1.length/\w.1.length<=5/\w.2.1.length<=12/\w.2.2.1.length<=40:=by
 unfold bJ at h
 simp only[Bool.and_eq_true,aV,Bool.not_eq_true',decide_eq_false_iff_not] at h
 omega
theorem GS{w:a9}(h:bJ w=true){i:Nat}(hi:i<w.2.2.1.length):0<=(gt w.2.2.1 i).1/\(gt w.2.2.1 i).1<(w.1.length:Int):=by
 have hl:=m9 h
 unfold bJ at h;simp only[Bool.and_eq_true,bL] at h
 have:=h.2.2.2.2.2 i hi
 unfold gT at this;simp only[Bool.and_eq_true,aV] at this
 have h2:=this.1
 rw[IntKind.wrap_i64] at h2
 omega
theorem lH{w:a9}(h:bJ w=true){i:Nat}(hi:i<w.2.2.1.length):StateOk (dP w i):=(aS _).1 (tH h hi)
theorem sW{w:a9}(h:bJ w=true):∀ k,k<=w.2.2.1.length->StateOk (g9 (dP w) k)
 | 0,_=>lU
 | k+1,hk=>(sW h k (by omega)).join (lH h (by omega))
theorem mF(w:a9)(a m:Int)(k:Nat):bC w a m (k+1)=bif(gt w.2.2.1 k).1==a&&decide ((bC w a m k).1<m)then((bC w a m k).1+1,cF (bC w a m k).2 (dP w k))else bC w a m k:=rfl
theorem n9{w:a9}(h:bJ w=true)(a m:Int):∀ k,k<=w.2.2.1.length->StateOk (bC w a m k).2
 | 0,_=>lU
 | k+1,hk=>by
  have ih:=n9 h a m k (by omega)
  rw[mF]
  cases (gt w.2.2.1 k).1==a&&decide ((bC w a m k).1<m)with
  | false=>exact ih
  | true=>exact ih.join (lH h (by omega))
theorem BQ{w:a9}(h:bJ w=true)(a:Int){k:Nat}(hk:k<w.2.2.1.length):bC w a 40 (k+1)=bif(gt w.2.2.1 k).1==a then((bC w a 40 k).1+1,cF (bC w a 40 k).2 (dP w k))else bC w a 40 k:=by
 have h1:=(lM w a 40 k).2.1
 have h2:=m9 h
 rw[mF,decide_eq_true (show(bC w a 40 k).1<40 by omega),Bool.and_true]
theorem y5{w:a9}(h:bJ w=true)(a m:Int):∀ k,k<=w.2.2.1.length->Leq (bC w a m k).2 (bC w a 40 k).2
 | 0,_=>Leq.refl lU
 | k+1,hk=>by
  have ih:=y5 h a m k (by omega)
  have hp:=lH h (show k<w.2.2.1.length by omega)
  rw[BQ h a (by omega),mF]
  cases (gt w.2.2.1 k).1==a with
  | false=>exact ih
  | true=>
   cases decide ((bC w a m k).1<m)with
   | false=>exact ih.trans (Leq.left (n9 h a 40 k (by omega)) hp)
   | true=>exact ih.mono (Leq.refl hp)
theorem y7{w:a9}(h:bJ w=true)(a m:Int):∀ k,k<=w.2.2.1.length->Leq (bC w a m k).2 (g9 (dP w) k)
 | 0,_=>Leq.refl lU
 | k+1,hk=>by
  have ih:=y7 h a m k (by omega)
  have hp:=lH h (show k<w.2.2.1.length by omega)
  rw[mF]
  show Leq _ (cF (g9 (dP w) k) (dP w k))
  cases (gt w.2.2.1 k).1==a&&decide ((bC w a m k).1<m)with
  | false=>exact ih.trans (Leq.left (sW h k (by omega)) hp)
  | true=>exact ih.mono (Leq.refl hp)
theorem y6{w:a9}(h:bJ w=true)(a:Int){i:Nat}(ha:(gt w.2.2.1 i).1=a):∀ k,i<k->k<=w.2.2.1.length->Leq (dP w i) (bC w a 40 k).2
 | 0,hi,_=>absurd hi (by omega)
 | k+1,hi,hk=>by
  have hp:=lH h (show k<w.2.2.1.length by omega)
  have ho:=n9 h a 40 k (by omega)
  rw[BQ h a (by omega)]
  by_cases e:i=k
  ·subst e
   rw[show((gt w.2.2.1 i).1==a)=true from by rw[ha];exact beq_self_eq_true _]
   exact Leq.right ho hp
  ·have ih:=y6 h a ha k (by omega) (by omega)
   cases (gt w.2.2.1 k).1==a with
   | false=>exact ih
   | true=>exact ih.trans (Leq.left ho hp)
theorem lO{w:a9}(h:bJ w=true)(a m:Int):dL w a m=(bC w a m w.2.2.1.length).2:=by unfold dL;rw[h];rfl
theorem A0{w:a9}(h:bJ w=true):A1 w=g9 (dP w) w.2.2.1.length:=by unfold A1;rw[h];rfl
theorem oA{w:a9}(h:bJ w=true)(a m:Int):StateOk (dL w a m):=by rw[lO h];exact n9 h a m _ (Nat.le_refl _)
theorem QB{w:a9}(h:bJ w=true):StateOk (A1 w):=by rw[A0 h];exact sW h _ (Nat.le_refl _)
theorem G9{w:a9}(h:bJ w=true)(a m:Int):Leq (dL w a m) (dL w a 40):=by rw[lO h,lO h];exact y5 h a m _ (Nat.le_refl _)
def rM(w:a9):Nat->aH
 | 0=>f4
 | k+1=>cF (rM w k) (dL w (k:Int) 40)
theorem nW{w:a9}(h:bJ w=true):∀ k,StateOk (rM w k)
 | 0=>lU
 | k+1=>(nW h k).join (oA h _ _)
theorem GK{w:a9}(h:bJ w=true){a:Nat}:∀ k,a<k->Leq (dL w (a:Int) 40) (rM w k)
 | 0,ha=>absurd ha (by omega)
 | k+1,ha=>by
  by_cases e:a=k
  ·subst e;exact Leq.right (nW h a) (oA h _ _)
  ·exact(GK h k (by omega)).trans (Leq.left (nW h k) (oA h _ _))
theorem GL{w:a9}(h:bJ w=true):∀ k,Leq (rM w k) (A1 w)
 | 0=>Leq.nil (QB h)
 | k+1=>Leq.lub (GL h k) (by rw[lO h,A0 h];exact y7 h _ _ _ (Nat.le_refl _))
theorem GJ{w:a9}(h:bJ w=true):∀ k,k<=w.2.2.1.length->Leq (g9 (dP w) k) (rM w w.1.length)
 | 0,_=>Leq.nil (nW h _)
 | k+1,hk=>by
  have hs:=GS h (show k<w.2.2.1.length by omega)
  refine Leq.lub (GJ h k (by omega)) ((y6 h (gt w.2.2.1 k).1 rfl w.2.2.1.length (by omega) (Nat.le_refl _)).trans ?_)
  have:=GK h (a:=(gt w.2.2.1 k).1.toNat) w.1.length (by omega)
  rw[show(((gt w.2.2.1 k).1.toNat:Nat):Int)=(gt w.2.2.1 k).1 by omega,lO h] at this
  exact this
theorem J5{w:a9}(h:bJ w=true):rM w w.1.length=A1 w:=
 (GL h _).antisymm (by rw[A0 h];exact GJ h _ (Nat.le_refl _))
-- D7
end Go.Abs
