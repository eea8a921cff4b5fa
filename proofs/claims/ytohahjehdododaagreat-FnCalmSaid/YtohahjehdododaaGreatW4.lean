/- A by-value reading of the model, and its soundness, part 4. -/
import Derived.Test.YtohahjehdododaaGreatW3
set_option linter.unusedVariables false
-- messages as bytes, and read back: plain laws
open Go.IntKind (i64)
namespace Go.Abs
open Go
def fP(m:MsgT):List aO:=[(m.1,()),(m.2.1,()),(m.2.2.1,()),(m.2.2.2.1,()),(m.hi,())]
def eN(ns:List aO):List aO:=aN (ns.length:Int)++cU ns
def rS(fs:List aU):List aO:=aN (fs.length:Int)++fs.flatMap bD
def rk2:List aO:=[(82,()),(75,())]
def fI(m:MsgT):List aO:=rk2++(cU (fP m)++(eN m.tree.1++(aN m.tree.2.1++(eN m.vec++(eN m.leaves++(aN (((bS m.part).length:Nat):Int)++(bS m.part++rS m.marks)))))))
def M0(x:Nat):List aO:=[(((x / 16777216:Nat):Int),()),(((x / 65536 % 256:Nat):Int),()),(((x / 256 % 256:Nat):Int),()),(((x % 256:Nat):Int),())]
def y3(b:List aO):List aO:=M0 (crc b).toNat
def cS(m:MsgT):List aO:=fI m++y3 (fI m)
theorem F7(ns:List aO):ByL (cU ns):=ByL.flat (λx=>dX _) ns
theorem z3(ns:List aO):ByL (eN ns):=(dX _).app (F7 ns)
theorem OJ(fs:List aU):ByL (rS fs):=(dX _).app (ByL.flat rT fs)
theorem rk2_by:ByL rk2:=λx hx=>by
 unfold rk2 at hx
 simp only[List.mem_cons,List.not_mem_nil,or_false] at hx
 rcases hx with rfl | rfl
 ·exact⟨82,rfl,by decide⟩
 ·exact⟨75,rfl,by decide⟩
theorem AW(m:MsgT):ByL (fI m):=rk2_by.app ((F7 _).app ((z3 _).app ((dX _).app ((z3 _).app ((z3 _).app ((dX _).app ((v8 _).app (OJ _))))))))
theorem ByL.b32{b:List aO}(h:ByL b):B32 b:=λx hx=>by
 obtain⟨y,hy,hy2⟩:=h x hx
 exact⟨by omega,by omega⟩
theorem QU{x:Nat}(h:x<4294967296):ByL (M0 x):=λy hy=>by
 unfold M0 at hy
 simp only[List.mem_cons,List.not_mem_nil,or_false] at hy
 rcases hy with rfl | rfl | rfl | rfl
 ·exact⟨_,rfl,by omega⟩
 ·exact⟨_,rfl,by omega⟩
 ·exact⟨_,rfl,by omega⟩
 ·exact⟨_,rfl,by omega⟩
theorem PR{b:List aO}(h:ByL b):(crc b).toNat<4294967296/\0<=crc b:=by
 have:=PT (bs:=b) h.b32
 have h1:=this.1;have h2:=this.2
 exact⟨by omega,h1⟩
theorem QV{b:List aO}(h:ByL b):ByL (y3 b):=QU (PR h).1
theorem MF(m:MsgT):ByL (cS m):=(AW m).app (QV (AW m))
theorem y2(b:List aO):(y3 b).length=4:=rfl
-- numbers of a right message
structure MsgR (m:MsgT):Prop where
 head:∀ x∈fP m,InN x.1
 tree:m.tree.1.length<=4/\∀ x∈m.tree.1,InN x.1
 root:InN m.tree.2.1
 vec:m.vec.length<=5/\∀ x∈m.vec,InN x.1
 leaves:m.leaves.length<=4/\∀ x∈m.leaves,InN x.1
 part:aS m.part=true
 marks:m.marks.length<=5/\∀ f∈m.marks,InN f.1/\InN f.2.1
theorem P9{v:List aO}{top:Int}(h:nC v top=true)(ht:top<=2147483647):∀ x∈v,InN x.1:=λx hx=>by
 obtain⟨i,hi,rfl⟩:=fZ hx
 exact InN.of (bI.1 h i hi) ht
theorem qX{m:MsgT}(h:eX m=true):MsgR m:=by
 have hl:=z4 h
 unfold eX uA at h
 simp only[Bool.and_eq_true] at h
 obtain⟨⟨h1,h2,h3,_⟩,h4,h5,h6,h7,h8,h9,h10,h11⟩:=h
 rw[decide_eq_true_eq] at h9
 refine⟨λx hx=>?_,?_,?_,⟨by omega,P9 h5 (by decide)⟩,⟨hl,λx hx=>?_⟩,h10,⟨LN h11,λf hf=>?_⟩⟩
 ·unfold fP at hx
  simp only[List.mem_cons,List.not_mem_nil,or_false] at hx
  rcases hx with rfl | rfl | rfl | rfl | rfl
  ·exact InN.of h1 (by decide)
  ·exact InN.of (h2:inB _ 0 4=true) (by decide)
  ·exact InN.of (h3:inB _ 0 4=true) (by decide)
  ·exact InN.of h6 (by decide)
  ·exact InN.of h7 (by decide)
 ·unfold treeB at h8
  cases he:(m.tree.1.length:Int)==0 with
  | true=>
   have:m.tree.1.length=0:=by have:=eq_of_beq he;omega
   exact⟨by omega,λx hx=>by rw[List.length_eq_zero_iff.1 this] at hx;cases hx⟩
  | false=>
   rw[he] at h8
   have h8:((m.tree.1.length:Int)==4&&(nC m.tree.1 1023&&inB m.tree.2.1 0 1023))=true:=h8
   rw[Bool.and_eq_true] at h8
   have h8a:=eq_of_beq h8.1
   have h8b:=h8.2
   rw[Bool.and_eq_true] at h8b
   exact⟨by omega,P9 h8b.1 (by decide)⟩
 ·unfold treeB at h8
  cases he:(m.tree.1.length:Int)==0 with
  | true=>
   rw[he] at h8
   have h8:(m.tree.2.1==0)=true:=h8
   rw[beq_iff_eq] at h8
   show InN m.tree.2.1
   rw[h8];exact InN.nat (n:=0) (by decide)
  | false=>
   rw[he] at h8
   have h8:((m.tree.1.length:Int)==4&&(nC m.tree.1 1023&&inB m.tree.2.1 0 1023))=true:=h8
   simp only[Bool.and_eq_true] at h8
   exact InN.of h8.2.2 (by decide)
 ·obtain⟨i,hi,rfl⟩:=fZ hx
  have:=bI.1 h4 i hi
  unfold FS at this
  simp only[Bool.and_eq_true] at this
  exact InN.of this.1 (by decide)
 ·obtain⟨i,hi,rfl⟩:=fZ hf
  have:=uD h11 hi
  unfold InN;rw[aP,aP];omega
theorem lQ(ns:List aO):(cU ns).length<=ns.length*5:=by
 unfold cU;rw[<- cF];exact dT λi hi=>bC _
theorem GH{m:MsgT}(h:MsgR m):(fI m).length<=500:=by
 have h1:=lQ (fP m);have h2:=lQ m.tree.1;have h3:=lQ m.vec;have h4:=lQ m.leaves
 have h5:=nS ((aV _).1 h.part)
 have h6:(m.marks.flatMap bD).length<=m.marks.length*10:=by rw[<- cF];exact dT λi hi=>hO _
 have n1:=bC (m.tree.1.length:Int);have n2:=bC m.tree.2.1;have n3:=bC (m.vec.length:Int);have n4:=bC (m.leaves.length:Int)
 have n5:=bC (((bS m.part).length:Nat):Int);have n6:=bC (m.marks.length:Int)
 have l1:=h.tree.1;have l2:=h.vec.1;have l3:=h.leaves.1;have l4:=h.marks.1
 have l5:(fP m).length=5:=rfl
 have l6:rk2.length=2:=rfl
 unfold fI eN rS
 simp only[List.length_append]
 dsimp only[MsgT.tree] at*
 omega
theorem AU{m:MsgT}(h:eX m=true):(cS m).length<=504:=by
 have:=GH (qX h)
 unfold cS;rw[List.length_append,y2];omega
def bP(m:MsgT):List aO:=bif eX m then cS m else[]
theorem mH(m:MsgT):ByL (bP m):=by
 unfold bP;cases eX m with
 | true=>exact MF m
 | false=>exact λx hx=>by cases hx
theorem uB(m:MsgT):(bP m).length<=504:=by
 unfold bP;cases h:eX m with
 | true=>exact AU h
 | false=>exact Nat.zero_le _
-- the reader of messages, by the ways of reading lists
def mR(b:List aO):RdT:=(b.take (b.length - 4),2,false,())
section
variable (N:Int->RdT->List aO×RdT) (r:RdT)
def mgA:List aO×RdT:=N 4 (rdK r 5)
def mgB:Int×RdT:=aQ (mgA N r).2
def mgC:List aO×RdT:=N 5 (mgB N r).2
def mgD:List aO×RdT:=N 4 (mgC N r).2
def mgE:Int×RdT:=aQ (mgD N r).2
def qA:Bool:=(mgE N r).2.2.2.1||decide ((mgE N r).1>(((mgE N r).2.1.length:Nat):Int) - (mgE N r).2.2.1)
def fG:List aO:=((mgE N r).2.1.take ((mgE N r).2.2.1+(mgE N r).1).toNat).drop (mgE N r).2.2.1.toNat
def mgR:RdT:=((mgE N r).2.1,(mgE N r).2.2.1+(mgE N r).1,(mgE N r).2.2.2.1,())
def mgM(s:aJ)(fs:List aU):MsgT:=(rdV r 0,rdV r 1,rdV r 2,rdV r 3,rdV r 4,(mgA N r).1,(mgB N r).1,(mgC N r).1,(mgD N r).1,s.1,s.2.1,fs,())
end
def I6(N:Int->RdT->List aO×RdT):Prop:=∀ (k:Int) (ns:List aO),(ns.length:Int)<=k->k<=5->(∀ x∈ns,InN x.1)->kZ (N k) (eN ns) ns
def NI(k:Int)(r:RdT):List aO×RdT:=G9 r k
def NS(k:Int)(r:RdT):List aO×RdT:=bV r 1
theorem NN:I6 NI:=λk ns hl hk h b u v hb=>by
 unfold eN at hb ⊢
 have h1:=qU (InN.nat (show ns.length<=2147483647 by omega)) hl b u (cU ns++v) (by rw[hb];simp only[List.append_assoc])
 have h2:=oH (f:=N2) (xs:=ns) (e:=λx=>aN x.1) (λx hx=>HG (h x hx)) b (u++aN (ns.length:Int)) v (by rw[hb];simp only[List.append_assoc];rfl)
 show G9 _ k=_
 unfold G9
 have h1:m9 (b,(u.length:Int),false,()) k=_:=h1
 rw[h1]
 show kW N2 _ ((ns.length:Int)).toNat=_
 rw[Int.toNat_natCast]
 exact h2.trans (by rw[List.append_assoc];rfl)
theorem NM:I6 NS:=λk ns hl hk h=>wU (t:=1) (by omega) (by omega) h
theorem OH{N:Int->RdT->List aO×RdT}(hN:I6 N){m:MsgT}(h:MsgR m){b:List aO}(hb:b=fI m):
  qA N (b,2,false,())=false/\fG N (b,2,false,())=bS m.part/\mgM N (b,2,false,()) m.part m.marks=m/\
  ∃ u:List aO,b=u++(rS m.marks++[])/\mgR N (b,2,false,())=(b,(u.length:Int),false,()):=by
 have h0:((b,2,false,()):RdT)=(b,(rk2.length:Int),false,()):=rfl
 rw[h0]
 have hb:=hb
 unfold fI at hb
 have c0:=m8 (ns:=fP m) h.head hb 5 (Nat.le_refl _)
 rw[show(fP m).take 5=fP m from rfl] at c0
 have v0:=vE (ns:=fP m) h.head hb
 have c1:mgA N (b,(rk2.length:Int),false,())=_:=(congrArg (N 4) c0).trans (hN 4 m.tree.1 (by have:=h.tree.1;omega) (by decide) h.tree.2 b _ _ (by rw[hb];simp only[List.append_assoc];rfl))
 have c2:mgB N (b,(rk2.length:Int),false,())=_:=(congrArg (λq:List aO×RdT=>aQ q.2) c1).trans (hY h.root b _ _ (by rw[hb];simp only[List.append_assoc];rfl))
 have c3:mgC N (b,(rk2.length:Int),false,())=_:=(congrArg (λq:Int×RdT=>N 5 q.2) c2).trans (hN 5 m.vec (by have:=h.vec.1;omega) (by decide) h.vec.2 b _ _ (by rw[hb];simp only[List.append_assoc];rfl))
 have c4:mgD N (b,(rk2.length:Int),false,())=_:=(congrArg (λq:List aO×RdT=>N 4 q.2) c3).trans (hN 4 m.leaves (by have:=h.leaves.1;omega) (by decide) h.leaves.2 b _ _ (by rw[hb];simp only[List.append_assoc];rfl))
 have hl:=nS ((aV _).1 h.part)
 have c5:mgE N (b,(rk2.length:Int),false,())=_:=(congrArg (λq:List aO×RdT=>aQ q.2) c4).trans (hY (x:=(((bS m.part).length:Nat):Int)) (InN.nat (by omega)) b _ _ (by rw[hb];simp only[List.append_assoc];rfl))
 generalize hu:rk2++cU (fP m)++eN m.tree.1++aN m.tree.2.1++eN m.vec++eN m.leaves++aN (((bS m.part).length:Nat):Int)=U at c5
 have hb2:b=U++(bS m.part++rS m.marks):=by rw[hb,<- hu];simp only[List.append_assoc]
 have hbl:b.length=U.length+((bS m.part).length+(rS m.marks).length):=by rw[hb2,List.length_append,List.length_append]
 refine⟨?_,?_,?_,U++bS m.part,?_,?_⟩
 ·unfold qA;rw[c5]
  show(false||decide ((((bS m.part).length:Nat):Int)>(b.length:Int) - (U.length:Int)))=false
  rw[decide_eq_false (by omega)];rfl
 ·unfold fG;rw[c5]
  show(b.take ((U.length:Int)+(((bS m.part).length:Nat):Int)).toNat).drop ((U.length:Int)).toNat=_
  rw[show((U.length:Int)+(((bS m.part).length:Nat):Int)).toNat=U.length+(bS m.part).length by omega,Int.toNat_natCast,hb2]
  exact rX _ _ _
 ·unfold mgM;rw[c1,c2,c3,c4,v0 0 (show 0<5 by omega),v0 1 (show 1<5 by omega),v0 2 (show 2<5 by omega),v0 3 (show 3<5 by omega),v0 4 (show 4<5 by omega)];rfl
 ·rw[hb2];simp only[List.append_assoc,List.append_nil]
 ·unfold mgR;rw[c5]
  show(b,(U.length:Int)+(((bS m.part).length:Nat):Int),false,())=_
  rw[List.length_append,Int.natCast_add]
-- the program's reader of messages
def miC(b:List aO):Int×RdT:=m9 (mgR NI (mR b)) 5
def miF(b:List aO):List aU×RdT:=kW qC (miC b).2 (miC b).1.toNat
def miM(b:List aO)(s:aJ):MsgT:=mgM NI (mR b) s (miF b).1
def jN(b:List aO):Option MsgT:=bif decide (i64.wrap ((b.length:Int) - 4)<2)then none else bif !cL (b.take 2) rk2 then none else bif qA NI (mR b)then none else
 match cT (fG NI (mR b))with
 | none=>none
 | some s=>bif(miF b).2.2.2.1||(!eX (miM b s)|| !cL (bP (miM b s)) b)then none else some (miM b s)
-- the reference's
def msF(b:List aO):List aU×RdT:=flR (mgR NS (mR b))
def msM(b:List aO):MsgT:=mgM NS (mR b) ((cT (fG NS (mR b))).getD iM) (msF b).1
def fO(b:List aO):Option MsgT:=bif decide ((b.length:Int)<6)then none else bif !cL (y3 (b.take (b.length - 4))) (b.drop (b.length - 4))then none else bif qA NS (mR b)then none else
 bif(cT (fG NS (mR b))).isNone||((msF b).2.2.2.1||(!eX (msM b)|| !cL (bP (msM b)) b))then none else some (msM b)
theorem B5{b:List aO}{m:MsgT}(h:jN b=some m):eX m=true/\cL (bP m) b=true:=by
 unfold jN at h
 cases h1:decide (i64.wrap ((b.length:Int) - 4)<2)with
 | true=>rw[h1] at h;cases h
 | false=>
  rw[h1] at h
  cases h2: !cL (b.take 2) rk2 with
  | true=>rw[h2] at h;cases h
  | false=>
   rw[h2] at h
   cases h3:qA NI (mR b)with
   | true=>rw[h3] at h;cases h
   | false=>
    rw[h3] at h
    cases h4:cT (fG NI (mR b))with
    | none=>rw[h4] at h;cases h
    | some s=>
     rw[h4] at h
     obtain⟨h5,h6⟩:=uS h
     subst h6
     simp only[Bool.or_eq_false_iff,Bool.not_eq_false'] at h5
     exact h5.2
theorem LL{b:List aO}{m:MsgT}(h:fO b=some m):eX m=true/\cL (bP m) b=true:=by
 unfold fO at h
 cases h1:decide ((b.length:Int)<6)with
 | true=>rw[h1] at h;cases h
 | false=>
  rw[h1] at h
  cases h2: !cL (y3 (b.take (b.length - 4))) (b.drop (b.length - 4))with
  | true=>rw[h2] at h;cases h
  | false=>
   rw[h2] at h
   cases h3:qA NS (mR b)with
   | true=>rw[h3] at h;cases h
   | false=>
    rw[h3] at h
    obtain⟨h5,h6⟩:=uS h
    subst h6
    simp only[Bool.or_eq_false_iff,Bool.not_eq_false'] at h5
    exact h5.2.2
theorem AV(m:MsgT):(cS m).length - 4=(fI m).length/\(cS m).take ((cS m).length - 4)=fI m/\(cS m).drop ((cS m).length - 4)=y3 (fI m):=by
 have e:(cS m).length - 4=(fI m).length:=by unfold cS;rw[List.length_append,y2];omega
 rw[e]
 exact⟨rfl,List.take_left' rfl,List.drop_left' rfl⟩
theorem CR(m:MsgT):2<=(fI m).length:=by unfold fI;rw[List.length_append];exact Nat.le_add_right 2 _
theorem HL{m:MsgT}(h:eX m=true):jN (cS m)=some m:=by
 have hr:=qX h
 obtain⟨p1,p2,p3⟩:=AV m
 have h2:=CR m
 have hl:=AU h
 obtain⟨q1,q2,q3,u,q4,q5⟩:=OH NN hr rfl
 have e:mR (cS m)=(fI m,2,false,()):=by unfold mR;rw[p2]
 have ht:(cS m).take 2=rk2:=by unfold cS fI;rw[List.append_assoc];exact List.take_left' rfl
 have c1:miC (cS m)=_:=(congrArg (λr:RdT=>m9 (mgR NI r) 5) e).trans ((congrArg (λr:RdT=>m9 r 5) q5).trans
  (qU (m:=5) (InN.nat (show m.marks.length<=2147483647 by have:=hr.marks.1;omega)) (by have:=hr.marks.1;omega) (fI m) u (m.marks.flatMap bD++[]) (q4.trans (by unfold rS;simp only[List.append_assoc]))))
 have c2:miF (cS m)=(m.marks,(fI m,(((u++aN (m.marks.length:Int)++m.marks.flatMap bD).length:Nat):Int),false,())):=by
  unfold miF;rw[c1]
  show kW qC _ ((m.marks.length:Int)).toNat=_
  rw[Int.toNat_natCast]
  exact oH (xC hr.marks.2) (fI m) _ [] (q4.trans (by unfold rS;simp only[List.append_assoc]))
 have c3:miM (cS m) m.part=m:=by unfold miM;rw[c2,e];exact q3
 have hw:i64.wrap ((((cS m).length:Nat):Int) - 4)=(((cS m).length:Nat):Int) - 4:=by rw[IntKind.wrap_i64];omega
 unfold jN
 rw[hw,decide_eq_false (show ¬ ((((cS m).length:Nat):Int) - 4<2) by omega),ht,iI,e,q1,q2,lD hr.part]
 show(bif(miF (cS m)).2.2.2.1||(!eX (miM (cS m) m.part)|| !cL (bP (miM (cS m) m.part)) (cS m))then none else some (miM (cS m) m.part))=some m
 rw[c3,c2,h,show bP m=cS m by unfold bP;rw[h];rfl,iI];rfl
theorem HK{m:MsgT}(h:eX m=true):fO (cS m)=some m:=by
 have hr:=qX h
 obtain⟨p1,p2,p3⟩:=AV m
 have h2:=CR m
 obtain⟨q1,q2,q3,u,q4,q5⟩:=OH NM hr rfl
 have e:mR (cS m)=(fI m,2,false,()):=by unfold mR;rw[p2]
 have c2:msF (cS m)=(m.marks,(fI m,(((u++rS m.marks).length:Nat):Int),false,())):=by
  unfold msF;rw[e,q5]
  exact CK (show m.marks.length<=100 by have:=hr.marks.1;omega) hr.marks.2 (fI m) u [] q4
 have c3:msM (cS m)=m:=by unfold msM;rw[c2,e,q2,lD hr.part];exact q3
 unfold fO
 rw[decide_eq_false (show ¬ ((((cS m).length:Nat):Int)<6) by omega),p2,p3,iI,c3,c2,e,q1,q2,lD hr.part,h,show bP m=cS m by unfold bP;rw[h];rfl,iI];rfl
theorem p8{m:MsgT}(h:eX m=true):bP m=cS m:=by unfold bP;rw[h];rfl
theorem RP{b:List aO}(hb:ByL b):fO b=jN b:=by
 cases h:jN b with
 | some m=>
  obtain⟨h1,h2⟩:=B5 h
  have e:=(mL (mH m) hb).1 h2
  rw[<- e,p8 h1];exact HK h1
 | none=>
  cases h2:fO b with
  | none=>rfl
  | some m=>
   obtain⟨h3,h4⟩:=LL h2
   have e:=(mL (mH m) hb).1 h4
   rw[<- e,p8 h3,HL h3] at h;cases h
end Go.Abs
-- bytes of sums; sizes of what readers yield: plain laws
namespace Go.Abs
open Go
theorem EC(x:Nat):IntKind.u8.wrap (x:Int)=((x % 256:Nat):Int):=by
 have:IntKind.u8.wrap (x:Int)=(x:Int) % 256:=by unfold IntKind.wrap;simp[IntKind.bits,IntKind.signed]
 rw[this];omega
theorem yV(n d:Nat):((n:Int)).tdiv (d:Int)=((n / d:Nat):Int):=by
 rw[Int.tdiv_eq_ediv_of_nonneg (by omega)];exact(Int.natCast_ediv n d).symm
theorem yS(n d:Nat):((n:Int)).tmod (d:Int)=((n % d:Nat):Int):=by
 rw[Int.tmod_eq_emod_of_nonneg (by omega)];exact(Int.natCast_emod n d).symm
theorem MZ{x:Int}(h0:0<=x)(h:x.toNat<4294967296):
  ([((IntKind.u8.wrap (i64.wrap (x.tdiv (16777216:Int)))),()),((IntKind.u8.wrap ((i64.wrap (x.tdiv (65536:Int))).tmod (256:Int))),()),((IntKind.u8.wrap ((i64.wrap (x.tdiv (256:Int))).tmod (256:Int))),()),((IntKind.u8.wrap (x.tmod (256:Int))),())]:List aO)=M0 x.toNat:=by
 obtain⟨n,rfl⟩:∃ n:Nat,x=(n:Int):=⟨x.toNat,by omega⟩
 rw[Int.toNat_natCast] at h ⊢
 have e1:((n:Int)).tdiv (16777216:Int)=((n / 16777216:Nat):Int):=yV n 16777216
 have e2:((n:Int)).tdiv (65536:Int)=((n / 65536:Nat):Int):=yV n 65536
 have e3:((n:Int)).tdiv (256:Int)=((n / 256:Nat):Int):=yV n 256
 rw[e1,e2,e3,xS (show n / 16777216<9223372036854775808 by omega),xS (show n / 65536<9223372036854775808 by omega),xS (show n / 256<9223372036854775808 by omega)]
 have m2:(((n / 65536:Nat):Int)).tmod (256:Int)=((n / 65536 % 256:Nat):Int):=yS _ 256
 have m3:(((n / 256:Nat):Int)).tmod (256:Int)=((n / 256 % 256:Nat):Int):=yS _ 256
 have m4:((n:Int)).tmod (256:Int)=((n % 256:Nat):Int):=yS _ 256
 rw[m2,m3,m4,EC,EC,EC,EC]
 unfold M0
 rw[show n / 16777216 % 256=n / 16777216 by omega,show n / 65536 % 256 % 256=n / 65536 % 256 by omega,show n / 256 % 256 % 256=n / 256 % 256 by omega,show n % 256 % 256=n % 256 by omega]
-- ways of reading lists
def U0(N:Int->RdT->List aO×RdT):Prop:=∀ k r,0<=k->k<=5->RdOk r->RdOk (N k r).2/\(N k r).2.1=r.1/\(N k r).1.length<=100
theorem U1:U0 NS:=λk r h0 h5 h=>⟨h.many 1,HO r 1,by have:=qY r 1;show(bV r 1).1.length<=100;omega⟩
structure MgOk (N:Int->RdT->List aO×RdT) (r:RdT):Prop where
 a:RdOk (mgA N r).2
 b:RdOk (mgB N r).2
 c:RdOk (mgC N r).2
 d:RdOk (mgD N r).2
 e:RdOk (mgE N r).2
 list:(mgE N r).2.1=r.1
 len:(mgA N r).1.length<=100/\(mgC N r).1.length<=100/\(mgD N r).1.length<=100
 nn:0<=(mgE N r).1/\(mgE N r).1<=2147483647
theorem UR{N:Int->RdT->List aO×RdT}(hN:U0 N){r:RdT}(h:RdOk r):MgOk N r:=by
 have h5:=h.k 5
 have hA:=hN 4 _ (by decide) (by decide) h5
 have hB:RdOk (mgB N r).2:=hA.1.num
 have hC:=hN 5 _ (by decide) (by decide) hB
 have hD:=hN 4 _ (by decide) (by decide) hC.1
 have hE:RdOk (mgE N r).2:=hD.1.num
 have q:=qV (mgD N r).2
 refine⟨hA.1,hB,hC.1,hD.1,hE,?_,⟨hA.2.2,hC.2.2,hD.2.2⟩,⟨q.2.2.1,q.2.2.2.1⟩⟩
 have e1:(mgE N r).2.1=(mgD N r).2.1:=q.1
 have e2:(mgD N r).2.1=(mgC N r).2.1:=hD.2.1
 have e3:(mgC N r).2.1=(mgB N r).2.1:=hC.2.1
 have e4:(mgB N r).2.1=(mgA N r).2.1:=jZ _
 have e5:(mgA N r).2.1=(rdK r 5).1:=hA.2.1
 rw[e1,e2,e3,e4,e5];exact tU r 5
theorem TM{N:Int->RdT->List aO×RdT}{r:RdT}(h:MgOk N r){s:aJ}(hs:SzS s){fs:List aU}(hf:fs.length<=100):SzM (mgM N r s fs):=
 ⟨Nat.le_trans h.len.1 (by decide),Nat.le_trans h.len.2.1 (by decide),Nat.le_trans h.len.2.2 (by decide),hs,Nat.le_trans hf (by decide)⟩
theorem DA{b:List aO}{s:aJ}(h:cT b=some s):StateOk s:=(aV s).1 (wN h).1
theorem HE{s:aJ}(h:StateOk s):SzS s:=⟨Nat.le_trans h.len.1 (by decide),Nat.le_trans h.len.2 (by decide)⟩
theorem US{b:List aO}(hb:B8 b)(hl:b.length<=aW)(h6:6<=b.length):RdOk (mR b) where
 b8:=(hb.byL.sub λx hx=>List.mem_of_mem_take hx).b8
 len:=by show(b.take (b.length - 4)).length<=aW;rw[List.length_take];omega
 lo:=by show(0:Int)<=2;omega
 hi:=by show(2:Int)<=(((b.take (b.length - 4)).length:Nat):Int);rw[List.length_take];omega
theorem TL{N:Int->RdT->List aO×RdT}{r:RdT}(h:MgOk N r)(hb:qA N r=false):RdOk (mgR N r):=by
 unfold qA at hb
 simp only[Bool.or_eq_false_iff,decide_eq_false_iff_not] at hb
 have hn:=h.nn
 have lo:=h.e.lo;have hi:=h.e.hi
 exact⟨h.e.b8,h.e.len,by show 0<=(mgE N r).2.2.1+(mgE N r).1;omega,by show(mgE N r).2.2.1+(mgE N r).1<=(((mgE N r).2.1.length:Nat):Int);omega⟩
theorem FJ{b:List aO}{m:MsgT}(h:jN b=some m):SzM m:=by
 have hr:=qX (B5 h).1
 exact⟨Nat.le_trans hr.tree.1 (by decide),Nat.le_trans hr.vec.1 (by decide),Nat.le_trans hr.leaves.1 (by decide),HE ((aV _).1 hr.part),Nat.le_trans hr.marks.1 (by decide)⟩
theorem U5(a b:Int):∃ y:Nat,kS .u8 a b=(y:Int)/\y<=255:=by
 unfold kS
 rw[EC]
 exact⟨_,rfl,by omega⟩
theorem TZ{b:List aO}(h:ByL b)(i:Nat)(x y:Int)(u:Unit):ByL (b.set i (kS .u8 x y,u)):=λz hz=>by
 rcases List.mem_or_eq_of_mem_set hz with h1 | h1
 ·exact h z h1
 ·rw[h1];exact U5 x y
end Go.Abs
-- what was said, in order and D8: plain laws
namespace Go.Abs
open Go
theorem tD{w:a9}(h:bT w=true):1<=w.1.length/\w.1.length<=5/\w.2.1.length<=12/\w.2.2.1.length<=40:=by
 unfold bT at h
 simp only[Bool.and_eq_true,aP,Bool.not_eq_true',decide_eq_false_iff_not] at h
 omega
-- D8
end Go.Abs
-- a world in order, told by its parts: plain laws
namespace Go.Abs
open Go
structure WOk (w:a9):Prop where
 n:1<=w.1.length/\w.1.length<=5
 net:w.2.1.length<=12
 said:w.2.2.1.length<=40
 node:∀ i,i<w.1.length->NodeOk (gt w.1 i)/\(gt w.1 i).2.1=(w.1.length:Int)/\(gt w.1 i).1=(i:Int)
 to:∀ p∈w.2.1,0<=p.1/\p.1<(w.1.length:Int)
 part:∀ p∈w.2.2.1,(0<=p.1/\p.1<(w.1.length:Int))/\StateOk p.2
theorem R3{x:Int}{n:Nat}(h:n<=5):inB x 0 (i64.wrap ((n:Int) - 1))=true↔0<=x/\x<(n:Int):=by
 rw[aP,IntKind.wrap_i64];omega
theorem CX(w:a9):bT w=true↔WOk w:=by
 unfold bT kL iR
 simp only[Bool.and_eq_true,bI,aP,Bool.not_eq_true',decide_eq_false_iff_not,beq_iff_eq]
 constructor
 ·rintro ⟨h1,h2,h3,h4,h5,h6⟩
  have h7:w.1.length<=5:=by omega
  refine⟨by omega,by omega,by omega,λi hi=>⟨(eU _).1 (h4 i hi).1,(h4 i hi).2.1,(h4 i hi).2.2⟩,λp hp=>?_,λp hp=>?_⟩
  ·obtain⟨i,hi,rfl⟩:=fZ hp
   exact(R3 h7).1 (aP.2 (h5 i hi))
  ·obtain⟨i,hi,rfl⟩:=fZ hp
   exact⟨(R3 h7).1 (aP.2 (h6 i hi).1),(aV _).1 (h6 i hi).2⟩
 ·intro h
  have h7:=h.n.2
  refine⟨⟨by have:=h.n;omega,by omega⟩,by have:=h.net;omega,by have:=h.said;omega,λi hi=>⟨(eU _).2 (h.node i hi).1,(h.node i hi).2⟩,λi hi=>aP.1 ((R3 h7).2 (h.to _ (cJ hi))),λi hi=>⟨aP.1 ((R3 h7).2 (h.part _ (cJ hi)).1),(aV _).2 (h.part _ (cJ hi)).2⟩⟩
end Go.Abs
