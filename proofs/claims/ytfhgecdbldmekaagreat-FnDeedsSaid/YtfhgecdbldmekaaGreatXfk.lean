/- What the functions of this program answer, part fk. -/
import Derived.Test.YtfhgecdbldmekaaGreatW3
import Derived.Test.YtfhgecdbldmekaaGreatXnw
import Derived.Test.YtfhgecdbldmekaaGreatXsa
set_option linter.unusedVariables false
/- What impl.Say and impl.Push answer. -/
set_option maxHeartbeats 4000000
open Go.IntKind (i64)
namespace Go.Abs.Pz
open Go Go.Abs
theorem E3{i:Int}{e:bI}(h1:eF i=true)(h2:cL e=true):sH i e=([(i,e)],[],()):=by
 have he:=h2
 unfold cL at he
 rw[Bool.and_eq_true,aQ] at he
 have h:aM ([(i,e)],[],())=true:=(aP _).2 ⟨λx hx=>by
  rw[List.mem_singleton.1 hx];exact⟨h1,h2,by show(0:Int)<e.1;omega⟩,List.pairwise_singleton ..,λf hf=>by (cases hf),List.Pairwise.nil⟩
 unfold sH;rw[h];rfl
theorem UO{s:aE}{i:Int}(h:(upE s i).2=0):eF i=true/\cL (upE s i).1=true:=by
 unfold upE at h ⊢
 cases h1:aM s with
 | false=>rw[h1] at h;exact absurd h (by show ¬ (1:Int)=0;omega)
 | true=>
 rw[h1] at h
 cases h2:eF i with
 | false=>rw[h2] at h;exact absurd h (by show ¬ (1:Int)=0;omega)
 | true=>
 rw[h2] at h
 cases h3:(jB s i).2 with
 | false=>rw[h3] at h;exact absurd h (by show ¬ (3:Int)=0;omega)
 | true=>
 refine⟨rfl,?_⟩
 show cL (jB s i).1=true
 unfold jB at h3 ⊢
 rcases eK (kQ s,[],()) i with ⟨x,hx,_,e⟩ | ⟨_,e⟩
 ·rw[e]
  have hx:x∈kQ s:=hx
  unfold kQ at hx
  rw[h1] at hx
  exact(((aP s).1 h1).item x (List.mem_filter.1 hx).1).2.1
 ·rw[e] at h3;cases h3
theorem JO{s:aE}(h:aM s=true)(i:Int):dT s i=(bif(bH s i).2 then(bH s i).1.1 else bV s.2.1 i)/\0<=dT s i/\dT s i<=1000:=by
 have hs:=(aP s).1 h
 have hf:=m8 hs i
 unfold dT
 rw[sL]
 rcases eK s i with ⟨x,hx,e0,e⟩ | ⟨_,e⟩
 ·have hi:=hs.item x hx
  have he:=hi.2.1
  unfold cL at he
  rw[Bool.and_eq_true,aQ] at he
  rw[e0] at hi
  rw[e];show max x.2.1 (bV s.2.1 i)=x.2.1/\0<=max x.2.1 (bV s.2.1 i)/\max x.2.1 (bV s.2.1 i)<=1000;omega
 ·rw[e];show max (0:Int) (bV s.2.1 i)=bV s.2.1 i/\0<=max (0:Int) (bV s.2.1 i)/\max (0:Int) (bV s.2.1 i)<=1000;omega
theorem f327(s:aE)(i:Int)(hz:SzS s):Ran p 6 327 [va K50 s, vf K3 (i,())] ⟨[⟨K104,(upE s i).1⟩,⟨K3,((upE s i).2,())⟩],[]⟩:=go327 λn hn=>Ev.now λaA=>by
 unfold T327 upE;refine qC (f46 s (aK hz.a) (aK hz.b)) ?_
 cases aM s with
 | false=>rfl
 | true=>
 refine qf ?_;refine qC (f109 i) ?_
 cases eF i with
 | false=>rfl
 | true=>
 refine qf ?_;refine qD (f351 s i hz) ?_
 cases (jB s i).2<;>rfl
theorem f328(i:Int)(e:bI):Ran p 1 328 [vf K3 (i,()), va K104 e] ⟨[⟨K50,([(i,e)],[],())⟩,⟨K3,((0:Int),())⟩],[]⟩:=go328 λn hn=>Ev.now λaA=>by
 unfold T328;rfl
theorem f287(s:aE)(i:Int)(hz:SzS s):Ran p 7 287 [va K50 s, vf K3 (i,())] ⟨[⟨K50,(mG s i).1⟩,⟨K3,((mG s i).2,())⟩],[]⟩:=go287 λn hn=>Ev.now λaA=>by
 have hu:=f327 s i hz
 have hF:=f111 s i (aK hz.b)
 have hE:=f149 s i (aK hz.a)
 unfold upE at hu
 unfold T287 mG
 cases h1:aM s with
 | false=>rw[h1] at hu;refine qD hu ?_;rfl
 | true=>
 have hJ:=JO h1 i
 rw[h1] at hu
 cases h2:eF i with
 | false=>rw[h2] at hu;refine qD hu ?_;rfl
 | true=>
 rw[h2] at hu
 cases h3:(jB s i).2 with
 | true=>rw[h3] at hu;refine qD hu ?_;rfl
 | false=>
 rw[h3] at hu
 refine qD hu ?_;refine qf ?_;refine qf ?_;refine qC hF ?_;refine qD hE ?_
 show _=some (⟨[⟨K50,(bif dT s i==1000 then(iK,(4:Int))else(sH i (i64.wrap (dT s i+1),0,0,0,⟨#[]⟩,()),0)).1⟩,⟨K3,((bif dT s i==1000 then(iK,(4:Int))else(sH i (i64.wrap (dT s i+1),0,0,0,⟨#[]⟩,()),0)).2,())⟩],[]⟩:Out)
 have one:(dT s i==1000)=false->sH i (i64.wrap (dT s i+1),0,0,0,⟨#[]⟩,())=([(i,(i64.wrap (dT s i+1),0,0,0,⟨#[]⟩,()))],[],()):=λh=>by
  refine E3 h2 ?_
  rw[beq_eq_false_iff_ne] at h
  unfold cL
  show(inB (i64.wrap (dT s i+1)) 1 1000&&true)=true
  rw[Bool.and_true,aQ,IntKind.wrap_i64];omega
 cases h4:(bH s i).2 with
 | true=>
  rw[h4] at hJ
  have hj:dT s i=(bH s i).1.1:=hJ.1
  (first | refine qT h4 ?_ | refine qt ?_)
  rw[show vI (bH s i).1.1=dT s i from hj.symm]
  cases h5:dT s i==1000 with
  | true=>rfl
  | false=>refine qf ?_;refine qD (f328 i (i64.wrap (dT s i+1),0,0,0,⟨#[]⟩,())) ?_;rw[one h5];rfl
 | false=>
  rw[h4] at hJ
  have hj:dT s i=bV s.2.1 i:=hJ.1
  (first | refine qF h4 ?_ | refine qf ?_)
  rw[show vI (bV s.2.1 i)=dT s i from hj.symm]
  cases h5:dT s i==1000 with
  | true=>rfl
  | false=>refine qf ?_;refine qD (f328 i (i64.wrap (dT s i+1),0,0,0,⟨#[]⟩,())) ?_;rw[one h5];rfl
theorem xE{e:bI}(h:cL e=true):(1<=e.1/\e.1<=1000)/\(0<=e.2.1/\e.2.1<=1)/\(0<=e.2.2.1/\e.2.2.1<=100000)/\(0<=e.2.2.2.1/\e.2.2.2.1<=1000)/\((ByteArray.size e.2.2.2.2.1:Nat):Int)<=8:=by
 unfold cL at h
 simp only[Bool.and_eq_true,aQ,decide_eq_true_eq] at h
 exact h
theorem J3{e:bI}(h:(1<=e.1/\e.1<=1000)/\(0<=e.2.1/\e.2.1<=1)/\(0<=e.2.2.1/\e.2.2.1<=100000)/\(0<=e.2.2.2.1/\e.2.2.2.1<=1000)/\((ByteArray.size e.2.2.2.2.1:Nat):Int)<=8):cL e=true:=by
 unfold cL
 simp only[Bool.and_eq_true,aQ,decide_eq_true_eq]
 exact h
theorem UP{s:aE}{i:Int}(h:((upE s i).2 != 0)=false):eF i=true/\cL (upE s i).1=true:=UO (by simpa using h)
theorem f288(s:aE)(i:Int)(hz:SzS s):Ran p 7 288 [va K50 s, vf K3 (i,())] ⟨[⟨K50,(mI s i).1⟩,⟨K3,((mI s i).2,())⟩],[]⟩:=go288 λn hn=>Ev.now λaA=>by
 unfold T288 mI;refine qD (f327 s i hz) ?_
 cases h:(upE s i).2 != 0 with
 | true=>(first | refine qT h ?_ | refine qt ?_);rfl
 | false=>
 (first | refine qF h ?_ | refine qf ?_)
 cases h2:(upE s i).1.2.2.1==100000 with
 | true=>(first | refine qT h2 ?_ | refine qt ?_);rfl
 | false=>
  have hu:=UP h
  have he:=xE hu.2
  rw[beq_eq_false_iff_ne] at h2
  have one:sH i ((upE s i).1.1,(upE s i).1.2.1,i64.wrap ((upE s i).1.2.2.1+1),(upE s i).1.2.2.2.1,(upE s i).1.2.2.2.2.1,())=([(i,((upE s i).1.1,(upE s i).1.2.1,i64.wrap ((upE s i).1.2.2.1+1),(upE s i).1.2.2.2.1,(upE s i).1.2.2.2.2.1,()))],[],()):=
   E3 hu.1 (J3 ⟨he.1,he.2.1,by show 0<=i64.wrap _/\i64.wrap _<=_;rw[IntKind.wrap_i64];omega,he.2.2.2⟩)
  refine qf ?_
  refine qD (f328 i ((upE s i).1.1,(upE s i).1.2.1,i64.wrap ((upE s i).1.2.2.1+1),(upE s i).1.2.2.2.1,(upE s i).1.2.2.2.2.1,())) ?_;rw[one];rfl
theorem f289(s:aE)(i:Int)(t:ByteArray)(hz:SzS s):Ran p 7 289 [va K50 s, vf K3 (i,()), vf K9 (t,())] ⟨[⟨K50,(pT s i t).1⟩,⟨K3,((pT s i t).2,())⟩],[]⟩:=go289 λn hn=>Ev.now λaA=>by
 unfold T289 pT;refine qD (f327 s i hz) ?_
 cases h:(upE s i).2 != 0 with
 | true=>(first | refine qT h ?_ | refine qt ?_);rfl
 | false=>
 (first | refine qF h ?_ | refine qf ?_)
 cases h2:(upE s i).1.2.2.2.1==1000 with
 | true=>(first | refine qT h2 ?_ | refine qt ?_);rfl
 | false=>
 refine qf ?_
 by_cases h3:((ByteArray.size t:Nat):Int)>8
 ·refine qP h3 ?_;rw[decide_eq_true h3];rfl
 ·have hu:=UP h
  have he:=xE hu.2
  rw[beq_eq_false_iff_ne] at h2
  have one:sH i ((upE s i).1.1,(upE s i).1.2.1,(upE s i).1.2.2.1,i64.wrap ((upE s i).1.2.2.2.1+1),t,())=([(i,((upE s i).1.1,(upE s i).1.2.1,(upE s i).1.2.2.1,i64.wrap ((upE s i).1.2.2.2.1+1),t,()))],[],()):=
   E3 hu.1 (J3 ⟨he.1,he.2.1,he.2.2.1,by show 0<=i64.wrap _/\i64.wrap _<=_;rw[IntKind.wrap_i64];omega,by show((ByteArray.size t:Nat):Int)<=8;omega⟩)
  refine qN h3 ?_;rw[decide_eq_false h3];refine qD (f328 i ((upE s i).1.1,(upE s i).1.2.1,(upE s i).1.2.2.1,i64.wrap ((upE s i).1.2.2.2.1+1),t,())) ?_;rw[one];rfl
theorem f290(s:aE)(i:Int)(hz:SzS s):Ran p 7 290 [va K50 s, vf K3 (i,())] ⟨[⟨K50,(mH s i).1⟩,⟨K3,((mH s i).2,())⟩],[]⟩:=go290 λn hn=>Ev.now λaA=>by
 unfold T290 mH;refine qD (f327 s i hz) ?_
 cases h:(upE s i).2 != 0 with
 | true=>(first | refine qT h ?_ | refine qt ?_);rfl
 | false=>
  have hu:=UP h
  have he:=xE hu.2
  have one:sH i ((upE s i).1.1,1,(upE s i).1.2.2.1,(upE s i).1.2.2.2.1,(upE s i).1.2.2.2.2.1,())=([(i,((upE s i).1.1,(1:Int),(upE s i).1.2.2.1,(upE s i).1.2.2.2.1,(upE s i).1.2.2.2.2.1,()))],[],()):=
   E3 hu.1 (J3 ⟨he.1,by show(0:Int)<=1/\(1:Int)<=1;omega,he.2.2⟩)
  (first | refine qF h ?_ | refine qf ?_);refine qD (f328 i ((upE s i).1.1,1,(upE s i).1.2.2.1,(upE s i).1.2.2.2.1,(upE s i).1.2.2.2.2.1,())) ?_;rw[one];rfl
theorem f218(s:aE)(k i:Int)(t:ByteArray)(hz:SzS s):Ran p 8 218 [va K50 s, vf K3 (k,()), vf K3 (i,()), vf K9 (t,())] ⟨[⟨K50,(eR s k i t).1⟩,⟨K3,((eR s k i t).2,())⟩],[]⟩:=go218 λn hn=>Ev.now λaA=>by
 unfold T218 eR
 cases k==0 with
 | true=>refine qt ?_;refine qD (f287 s i hz) ?_;rfl
 | false=>
 refine qf ?_
 cases k==1 with
 | true=>refine qt ?_;refine qD (f288 s i hz) ?_;rfl
 | false=>
 refine qf ?_
 cases k==2 with
 | true=>refine qt ?_;refine qD (f289 s i t hz) ?_;rfl
 | false=>refine qf ?_;refine qD (f290 s i hz) ?_;rfl
theorem JE{l:iE}{d:aE}(h:LogOk l)(hn:l.2.1+(l.2.2.1.length:Int)=100000):fB (eA l d)=false:=by
 cases hb:fB (eA l d)with
 | false=>rfl
 | true=>
  exfalso
  have h4:=((jZ _).1 hb).top
  have h1:=h.frm
  have hl:(l.2.2.1++[d]).length=l.2.2.1.length+1:=by rw[List.length_append,List.length_singleton]
  unfold eA at h4
  by_cases hc:(((l.2.2.1++[d]).length:Nat):Int)>l.1
  ·rw[decide_eq_true hc] at h4
   have h5:i64.wrap (l.2.1+1)+((((l.2.2.1++[d]).drop 1).length:Nat):Int)<=100000:=h4
   rw[List.length_drop,hl,IntKind.wrap_i64] at h5;omega
  ·rw[decide_eq_false hc] at h4
   have h5:l.2.1+(((l.2.2.1++[d]).length:Nat):Int)<=100000:=h4
   rw[hl] at h5;omega
theorem f219(l:iE)(d:aE)(hl:l.2.2.1.length<=aV)(hs:∀ i,i<l.2.2.1.length->SzS (gt l.2.2.1 i))(hz:SzS d):Ran p 5 219 [va K61 l, va K50 d] ⟨[⟨K61,(sP l d).1⟩,⟨K4,((sP l d).2,())⟩],[]⟩:=go219 λn hn=>Ev.now λaA=>by
 unfold T219 sP nF;refine qC (f201 l hl hs) ?_;refine qC (f103 l hl hs) ?_
 cases g1:fB l with
 | false=>rfl
 | true=>
 refine qf ?_;refine qC (f46 d (aK hz.a) (aK hz.b)) ?_
 cases g2:aM d with
 | false=>rfl
 | true=>
 have hL:=(jZ l).1 g1
 have h1:=hL.cap;have h2:=hL.len;have h3:=hL.frm;have h4:=hL.top
 have hb:l.2.2.1.length+1<=bound:=by unfold bound;omega
 have hlen:(l.2.2.1++[d]).length=l.2.2.1.length+1:=by rw[List.length_append,List.length_singleton]
 have hsz:∀ s∈l.2.2.1++[d],SzS s:=λs hm=>by
  rcases List.mem_append.1 hm with hm | hm
  ·obtain⟨i,hi,rfl⟩:=fR hm;exact hs i hi
  ·rw[List.mem_singleton.1 hm];exact hz
 have hP:fB (eA l d)= !(i64.wrap (l.2.1+(l.2.2.1.length:Int))==100000):=by
  rw[IntKind.wrap_i64]
  by_cases hn:l.2.1+(l.2.2.1.length:Int)=100000
  ·rw[JE hL hn,hn];rfl
  ·rw[(jZ _).2 (DK hL g2 (by omega)).1,show((l.2.1+(l.2.2.1.length:Int)+9223372036854775808) % 18446744073709551616 - 9223372036854775808==(100000:Int))=false by rw[beq_eq_false_iff_ne];omega];rfl
 refine qf ?_;refine qC (f123 d hz) ?_;refine qP hb ?_
 show _=some (⟨[⟨K61,(bif !(i64.wrap (l.2.1+(l.2.2.1.length:Int))==100000)then(eA l d,true)else(l,false)).1⟩,⟨K4,((bif !(i64.wrap (l.2.1+(l.2.2.1.length:Int))==100000)then(eA l d,true)else(l,false)).2,())⟩],[]⟩:Out)
 rw[<- hP]
 have hS:(eA l d).2.2.1.length<=aV/\∀ i,i<(eA l d).2.2.1.length->SzS (gt (eA l d).2.2.1 i):=by
  unfold eA
  by_cases hc:(((l.2.2.1++[d]).length:Nat):Int)>l.1
  ·rw[decide_eq_true hc]
   exact⟨by show((l.2.2.1++[d]).drop 1).length<=aV;rw[List.length_drop,hlen];unfold aV;omega,λi hi=>hsz _ (List.mem_of_mem_drop (bZ hi))⟩
  ·rw[decide_eq_false hc]
   exact⟨by show(l.2.2.1++[d]).length<=aV;rw[hlen];unfold aV;omega,λi hi=>hsz _ (bZ hi)⟩
 have hK:=f103 (eA l d) hS.1 hS.2
 by_cases hc:(((l.2.2.1++[d]).length:Nat):Int)>l.1
 ·have e:eA l d=(l.1,i64.wrap (l.2.1+1),((l.2.2.1++[d]).take (l.2.2.1++[d]).length).drop ((1:Int)).toNat,()):=by unfold eA;rw[decide_eq_true hc,List.take_length];rfl
  refine qP hc ?_;refine(CC (show(0:Int)<=1 by omega) (show(1:Int)<=(((l.2.2.1++[d]).length:Nat):Int) by rw[hlen];omega)).trans ?_
  rw[e] at hK ⊢
  refine qC hK ?_
  cases hq:fB (l.1,i64.wrap (l.2.1+1),((l.2.2.1++[d]).take (l.2.2.1++[d]).length).drop ((1:Int)).toNat,())with
  | true=>refine qf ?_;rfl
  | false=>refine qt ?_;refine qC (f201 l hl hs) ?_;rfl
 ·have e:eA l d=(l.1,l.2.1,l.2.2.1++[d],()):=by unfold eA;rw[decide_eq_false hc];rfl
  refine qN hc ?_
  rw[e] at hK ⊢
  refine qC hK ?_
  cases hq:fB (l.1,l.2.1,l.2.2.1++[d],())with
  | true=>refine qf ?_;rfl
  | false=>refine qt ?_;refine qC (f201 l hl hs) ?_;rfl
theorem f128(x:NodeT)(k i:Int)(t:ByteArray)(hz:SzN x):Ran p 9 128 [va K66 x, vf K3 (k,()), vf K3 (i,()), vf K9 (t,())] (ES (hI x k i t)):=go128 λn hn=>Ev.now λaA=>by
 have bad:nY x k i=false->(some ⟨[⟨K66,x⟩,⟨K50,([],[],())⟩,⟨K3,((1:Int),())⟩],[]⟩:Option Out)=some (ES (hI x k i t)):=λh=>by unfold hI;rw[h];rfl
 unfold T128;refine qC (f121 x hz) ?_;refine qC (f44 x hz) ?_
 cases g1:dD x with
 | false=>refine qt ?_;exact bad (by unfold nY;rw[g1];rfl)
 | true=>
 refine qf ?_;refine qC (f43 k 0 4) ?_
 cases g2:inB k 0 4 with
 | false=>refine qt ?_;exact bad (by unfold nY;rw[g1,g2];rfl)
 | true=>
 refine qf ?_;refine qC (f43 i 0 (i64.wrap (x.2.1 - 1))) ?_
 cases g3:inB i 0 (i64.wrap (x.2.1 - 1))with
 | false=>refine qt ?_;exact bad (by unfold nY;rw[g1,g2,g3];rfl)
 | true=>
 refine qf ?_
 have ec:nD (i==x.1) (k==4)=nD (k==4) (i==x.1):=by cases (i==x.1)<;>cases (k==4)<;>rfl
 rw[show nD (i==vI x.1) (k==4)=nD (k==4) (i==x.1)from ec]
 cases g4:nD (k==4) (i==x.1)with
 | true=>refine qt ?_;exact bad (by unfold nY;rw[g1,g2,g3,g4];rfl)
 | false=>
 have ok:nY x k i=true:=by unfold nY;rw[g1,g2,g3,g4];rfl
 have hN:=(dW x).1 g1
 have hd:=vH x.state k i t
 refine qf ?_;refine qD (f218 x.state k i t hz.state) ?_
 unfold hI;rw[ok]
 cases g5:(eR x.state k i t).2 != 0 with
 | true=>(first | refine qT g5 ?_ | refine qt ?_);rfl
 | false=>
 (first | refine qF g5 ?_ | refine qf ?_);refine qD (f219 x.log (eR x.state k i t).1 hz.list hz.logs (pR hd)) ?_
 unfold sP
 cases hb:nF x.log (eR x.state k i t).1 with
 | false=>rfl
 | true=>
 have hid:=hN.id;have hn5:=hN.n;have hv:=hN.got
 rw[aQ] at hid hn5
 rw[IntKind.wrap_i64] at hid
 unfold eQ at hv
 simp only[Bool.and_eq_true,beq_iff_eq] at hv
 have h0:(0:Int)<=x.1:=hid.1
 have hk:x.1.toNat<x.got.length:=by omega
 refine qf ?_;refine qP h0 ?_;refine(bA hk).trans ?_;refine(bA hk).trans ?_;refine qP h0 ?_;refine(bA hk).trans ?_;refine(bA hk).trans ?_
 refine qD (f220 (GI x (eR x.state k i t).1) (eR x.state k i t).1 (AK hz hN hb) (pR hd) (vJ hN hb) hd) ?_;rfl
theorem f130(x:NodeT)(i:Int)(hz:SzN x):Ran p 9 130 [va K66 x, vf K3 (i,())] (LA (eX x i)):=go130 λn hn=>Ev.now λaA=>by
 unfold T130;refine qC (f44 x hz) ?_
 cases g1:dD x with
 | false=>refine qt ?_;rw[show eX x i=(wZ,false) by unfold eX;rw[g1];rfl];rfl
 | true=>
 refine qf ?_;refine qC (f196 x i) ?_
 cases g2:i9 x i with
 | false=>refine qt ?_;rw[show eX x i=(wZ,false) by unfold eX;rw[g1,g2];rfl];rfl
 | true=>
 obtain⟨h0,hl⟩:=LF g1 g2
 rw[show eX x i=(LB x i,true) by unfold eX;rw[g1,g2];rfl]
 refine qf ?_;refine qC (f213 x 0 i 0 hz) ?_;refine qP h0 ?_
 obtain⟨k,rfl⟩:∃ k:Nat,i=(k:Int):=⟨i.toNat,by omega⟩
 refine(aD (show k<x.acked.length by omega)).trans ?_;refine qD (f221 x (gt x.acked k).1 hz ((dW x).1 g1)) ?_;rfl
end Go.Abs.Pz
/- impl.Do. -/
set_option maxHeartbeats 4000000
namespace Go.Abs.Pz
open Go Go.Abs
theorem F5{a:MsgT}(h:dZ a=true):IE (bD a)=a.2.2.1:=by
 unfold IE;rw[lQ h,A6 h];rfl
theorem TV{w:aZ}{d:eU}(ho:bS w=true)(hk:inB d.1 0 7=true)(h4:4<=d.1)(ha:inB d.2.1 0 (i64.wrap ((w.2.1.length:Int) - 1))=true):doW w d=jA w d:=by
 unfold doW;rw[ho,hk,decide_eq_false (show ¬ d.1<=3 by omega),ha];rfl
theorem TU(w:aZ)(d:eU)(hz:SzY w)(h4:d.1=4)(m:MsgT)(hm:cW (gt w.2.1 d.2.1.toNat).2.1=some m)(ho:bS w=true)(ha0:inB d.2.1 0 (i64.wrap ((w.2.1.length:Int) - 1))=true):Ran p 13 12 [va K28 w, va K36 d] (rJ (doW w d)):=go12 λn hn=>by
 obtain⟨dk,dA,dB,dC,dt,du⟩:=d
 have h4:dk=4:=h4
 subst h4
 have hl:=oG ho
 have hA:=m7 (by omega) ha0
 have hT:=FA ho hA.2
 have hW:doW w (4,dA,dB,dC,dt,du)=(nP w dA.toNat,0):=by rw[TV ho rfl (by show(4:Int)<=4;omega) ha0];rfl
 obtain⟨a,rfl⟩:∃ a:Nat,dA=(a:Int):=⟨dA.toNat,by have h0:0<=dA:=hA.1;omega⟩
 have ha:a<w.2.1.length:=hA.2
 have hq:=hz.pk ha
 have hm:cW (gt w.2.1 a).2.1=some m:=hm
 have hT:0<=(gt w.2.1 a).1/\(gt w.2.1 a).1.toNat<w.1.length:=hT
 obtain⟨t,ht⟩:∃ t:Nat,(gt w.2.1 a).1=(t:Int):=⟨(gt w.2.1 a).1.toNat,by omega⟩
 have htn:(gt w.2.1 a).1.toNat=t:=by rw[ht];rfl
 have htl:t<w.1.length:=by rw[<- htn];exact hT.2
 have hx:=hz.node t htl
 have hmz:=A5 hm
 have hrec:=f126 (gt w.1 t) m hx hmz
 have hans:=K1 (x:=gt w.1 t) (m:=m)
 have rs:=EZ hx hmz
 have hm':=f125 (gt w.2.1 a).2.1 hq.by_.b8 hq.len
 rw[hm] at hm'
 have e1:i64.wrap ((a:Int)+1)=((a+1:Nat):Int):=aF (by omega)
 have c1:(decide ((0:Int)<=(a:Int))&&decide ((a:Int)<=(w.2.1.length:Int)))=true:=rng (c:=True) (d:=True) (by omega) (by omega)
 have c2:(decide ((0:Int)<=((a+1:Nat):Int))&&decide (((a+1:Nat):Int)<=(w.2.1.length:Int)))=true:=rng (c:=True) (d:=True) (by omega) (by omega)
 have c3:(decide (((a:Int)).toNat<=(((a+1:Nat):Int)).toNat)&&(decide ((((a+1:Nat):Int)).toNat<=w.2.1.length)&&(decide (w.2.1.length=w.2.1.length)&&decide (w.2.1.length<=bound))))=true:=by
  rw[decide_eq_true (show((a:Int)).toNat<=(((a+1:Nat):Int)).toNat by omega),decide_eq_true (show(((a+1:Nat):Int)).toNat<=w.2.1.length by omega),decide_eq_true (show w.2.1.length<=bound by unfold bound;omega)];simp
 have hG:nP w a=(w.1.set t (eJ (gt w.1 t) m).1,lU ((eJ (gt w.1 t) m).2.1.map (λa=>(bD a,()))) ((eJ (gt w.1 t) m).2.1.map (λa=>((bD a,()):bT))).length 0 (dF w.2.1 a),w.2.2.1,()):=by
  unfold nP;rw[htn,lA hm]
 have hlen0:(dF w.2.1 a).length<=12:=Nat.le_trans (jX _ _) hl.2.2.1
 rw[hW]
 show Ev _ (rJ (nP w a,0))
 rw[hG,List.length_map]
 generalize eJ (gt w.1 t) m=R at hrec hans rs
 have lp:∀ (k i:Nat) (net:List c9),i+k=R.2.1.length->net.length<=12->It (λaA (_:Unit)=>c12_10010 (aJ p n) aA w ((4:Int),(a:Int),dB,dC,dt,du) ((R.1,(R.2.1,()),(R.2.2,()),()),()) ((w,()),()) (gt (α:=c9) w.2.1 a)) ((i:Int),net) (λ_=>some (rJ ((w.1.set t R.1,lU (R.2.1.map (λa=>(bD a,()))) k i net,w.2.2.1,()),0))):=by
  intro k
  induction k with
  | zero=>
   intro i net hi hln
   refine It.stop λaA u rec=>?_
   unfold c12_10010;dsimp only;refine qN (show ¬ ((i:Int)<(R.2.1.length:Int)) by omega) ?_;refine qf ?_;rw[<- htn];rfl
  | succ k ih=>
   intro i net hi hln
   have hlt:i<R.2.1.length:=by omega
   have hn1:=hans.1
   have hok:=(hans.2 _ (bZ hlt)).ok
   have hgm:(gt (R.2.1.map (λa=>((bD a,()):bT))) i).1=bD (gt R.2.1 i):=by
    rw[cS (by rw[List.length_map];exact hlt),cS hlt,List.getElem_map]
   by_cases h12:(net.length:Int)<12
   ·have hmb:=f211 (gt R.2.1 i) (rs.msg _ (bZ hlt))
    have hbd:net.length+1<=bound:=by unfold bound;omega
    have e2:lU (R.2.1.map (λa=>(bD a,()))) (k+1) i net=lU (R.2.1.map (λa=>(bD a,()))) k (i+1) (net++[((gt R.2.1 i).2.2.1,bD (gt R.2.1 i),false,())]):=by
     conv=>lhs;unfold lU
     rw[decide_eq_true h12,hgm,F5 hok];rfl
    rw[e2]
    refine It.next (λaA u rec=>?_) (ih (i+1) (net++[((gt R.2.1 i).2.2.1,bD (gt R.2.1 i),false,())]) (by omega) (by rw[List.length_append,List.length_singleton];omega))
    unfold c12_10010;dsimp only;rw[aF (show i<9223372036854775807 by omega)];refine ql hlt ?_;refine qz ?_;refine(aD hlt).trans ?_;refine(aD hlt).trans ?_;refine qP h12 ?_;refine qC hmb ?_;refine qP hbd ?_;rfl
   ·have e2:lU (R.2.1.map (λa=>(bD a,()))) (k+1) i net=lU (R.2.1.map (λa=>(bD a,()))) k (i+1) net:=by
     conv=>lhs;unfold lU
     rw[decide_eq_false h12]
     cases k with
     | zero=>rfl
     | succ k=>unfold lU;rw[decide_eq_false h12];rfl
    rw[e2]
    refine It.next (λaA u rec=>?_) (ih (i+1) net (by omega) hln)
    unfold c12_10010;dsimp only;rw[aF (show i<9223372036854775807 by omega)];refine ql hlt ?_;refine qz ?_;refine(aD hlt).trans ?_;refine(aD hlt).trans ?_;refine qN h12 ?_;rfl
 have lp0:=lp R.2.1.length 0 (dF w.2.1 a) (by omega) hlen0
 have hwo:=f10 w hz.toSzW
 rw[ho] at hwo
 have hin:=f43 (a:Int) 0 (i64.wrap ((w.2.1.length:Int) - 1))
 rw[ha0] at hin
 exact Ev.eq (λaA=>by
  unfold T12;refine qP (show(4:Int)>=4 by omega) ?_;refine qC hwo ?_;refine qf ?_;refine qC (f43 4 0 7) ?_;refine qf ?_;refine qC hin ?_;refine qf ?_;refine qC (f50 w hz.toSzX) ?_;refine qP (show(4:Int)>=4 by omega) ?_;unfold kX;dsimp only;rw[e1]
  refine qt ?_;refine qz ?_;refine(aD ha).trans ?_;refine(aD ha).trans ?_;refine qT c1 ?_;refine qT c2 ?_;refine qT c3 ?_;refine qD hm' ?_;refine qf ?_;refine qP hT.1 ?_;rw[show vI (gt w.2.1 a).1=(t:Int)from ht];refine(aD htl).trans ?_;refine(aD htl).trans ?_;refine qE hrec ?_;refine qz ?_;refine(aD htl).trans ?_;refine(aD htl).trans ?_;rfl) (lp0.ev (i:=()) rfl)
theorem TT(w:aZ)(d:eU)(hz:SzY w)(h3:d.1<=3):Ran p 13 12 [va K28 w, va K36 d] (rJ (doW w d)):=go12 λn hn=>Ev.now λaA=>by
 obtain⟨dk,dA,dB,dC,dt,du⟩:=d
 have h3:dk<=3:=h3
 unfold T12;refine qN (show ¬ dk>=4 by omega) ?_;refine qC (f10 w hz.toSzW) ?_
 cases ho:bS w with
 | false=>refine qt ?_;refine qC (f50 w hz.toSzX) ?_;rw[show doW w (dk,dA,dB,dC,dt,du)=(w,1) by unfold doW;rw[ho];rfl];rfl
 | true=>
 have hl:=oG ho
 refine qf ?_;refine qC (f43 dk 0 7) ?_
 cases hk:inB dk 0 7 with
 | false=>refine qt ?_;refine qC (f50 w hz.toSzX) ?_;rw[show doW w (dk,dA,dB,dC,dt,du)=(w,1) by unfold doW;rw[ho];show(bif !inB dk 0 7 then(w,(1:Int))else _)=_;rw[hk];rfl];rfl
 | true=>
 have e3:decide (dk<=3)=true:=decide_eq_true h3
 refine qf ?_;refine qC (f43 dA 0 (i64.wrap ((w.1.length:Int) - 1))) ?_
 cases ha:inB dA 0 (i64.wrap ((w.1.length:Int) - 1))with
 | false=>refine qt ?_;refine qC (f50 w hz.toSzX) ?_;rw[show doW w (dk,dA,dB,dC,dt,du)=(w,1) by unfold doW;rw[ho];show(bif !inB dk 0 7 then(w,(1:Int))else bif decide (dk<=3)then(bif !inB dA 0 _ then(w,1)else _)else _)=_;rw[hk,e3,ha];rfl];rfl
 | true=>
 have hA:=m7 (by omega) ha
 have hW:doW w (dk,dA,dB,dC,dt,du)=cU w (dk,dA,dB,dC,dt,du):=by unfold doW;rw[ho];show(bif !inB dk 0 7 then(w,(1:Int))else bif decide (dk<=3)then(bif !inB dA 0 _ then(w,1)else _)else _)=_;rw[hk,e3,ha];rfl
 rw[hW]
 obtain⟨a,rfl⟩:∃ a:Nat,dA=(a:Int):=⟨dA.toNat,by omega⟩
 have ha:a<w.1.length:=hA.2
 have hx:=hz.node a ha
 have hcp:=f50 w hz.toSzX
 refine qf ?_;refine qC hcp ?_;refine qN (show ¬ dk>=4 by omega) ?_;unfold p9;dsimp only;refine qz ?_;refine(aD ha).trans ?_;refine(aD ha).trans ?_
 have hcase:dk=0\/dk=1\/dk=2\/dk=3:=by rw[aQ] at hk;omega
 have hbn:(w.2.1.length:Int)≠12->w.2.1.length+1<=bound:=λ_=>by unfold bound;omega
 rcases hcase with rfl | rfl | rfl | rfl
 ·refine qt ?_
  have hN:cU w (0,(a:Int),dB,dC,dt,du)=bif(w.2.2.1.length:Int)==40 then(w,3)else bif(hI (gt w.1 a) dB dC dt).2.2 != 0 then(w,2)else((w.1.set a (hI (gt w.1 a) dB dC dt).1,w.2.1,w.2.2.1++[((a:Int),(hI (gt w.1 a) dB dC dt).2.1)],()),0):=rfl
  rw[hN]
  cases gs:(w.2.2.1.length:Int)==40 with
  | true=>(first | refine qT gs ?_ | refine qt ?_);refine qt ?_;refine qC hcp ?_;rfl
  | false=>
   have hbd:w.2.2.1.length+1<=bound:=by unfold bound;omega
   (first | refine qF gs ?_ | refine qf ?_);refine qf ?_;refine qf ?_;refine qt ?_;refine qE (f128 (gt w.1 a) dB dC dt hx) ?_
   cases gc:(hI (gt w.1 a) dB dC dt).2.2 != 0 with
   | true=>(first | refine qT gc ?_ | refine qt ?_);refine qt ?_;refine qC hcp ?_;rfl
   | false=>(first | refine qF gc ?_ | refine qf ?_);refine qz ?_;refine(aD ha).trans ?_;refine(aD ha).trans ?_;refine qP hbd ?_;refine qf ?_;rfl
 ·have hN:cU w (1,(a:Int),dB,dC,dt,du)=((w.1.set a (mU (gt w.1 a)),w.2.1,w.2.2.1,()),0):=rfl
  rw[hN]
  refine qf ?_;refine qf ?_;refine qf ?_;refine qf ?_;refine qt ?_;refine qC (f129 (gt w.1 a) hx) ?_;refine qz ?_;refine(aD ha).trans ?_;refine(aD ha).trans ?_;refine qf ?_;rfl
 ·have hN:cU w (2,(a:Int),dB,dC,dt,du)=bif(w.2.1.length:Int)==12 then(w,3)else bif !(eX (gt w.1 a) dB).2 then(w,2)else((w.1,w.2.1++[(dB,bD (eX (gt w.1 a) dB).1,false,())],w.2.2.1,()),0):=rfl
  rw[hN]
  refine qf ?_;refine qt ?_
  cases gm:(w.2.1.length:Int)==12 with
  | true=>(first | refine qT gm ?_ | refine qt ?_);refine qt ?_;refine qC hcp ?_;rfl
  | false=>
   have hne:(w.2.1.length:Int)≠12:=by rw[beq_eq_false_iff_ne] at gm;exact gm
   (first | refine qF gm ?_ | refine qf ?_);refine qf ?_;refine qf ?_;refine qt ?_;refine qD (f130 (gt w.1 a) dB hx) ?_
   cases gp:(eX (gt w.1 a) dB).2 with
   | false=>refine qt ?_;refine qt ?_;refine qC hcp ?_;rfl
   | true=>
    have hto:(eX (gt w.1 a) dB).1.2.2.1=dB:=by
     unfold eX at gp ⊢
     cases hc:dD (gt w.1 a)&&i9 (gt w.1 a) dB with
     | false=>rw[hc] at gp;cases gp
     | true=>rfl
    refine qf ?_;refine qP (show(w.2.1.length:Int)<12 by omega) ?_;refine qC (f211 (eX (gt w.1 a) dB).1 (GW hx dB)) ?_;refine qP (hbn hne) ?_;refine qf ?_
    rw[show vI (eX (gt w.1 a) dB).1.2.2.1=dB from hto];rfl
 ·have hN:cU w (3,(a:Int),dB,dC,dt,du)=bif(w.2.1.length:Int)==12 then(w,3)else bif !(gH (gt w.1 a) dB).2.2 then((w.1.set a (gH (gt w.1 a) dB).1,w.2.1,w.2.2.1,()),2)else((w.1.set a (gH (gt w.1 a) dB).1,w.2.1++[(dB,bD (gH (gt w.1 a) dB).2.1,false,())],w.2.2.1,()),0):=rfl
  rw[hN]
  refine qf ?_;refine qf ?_;refine qt ?_
  cases gm:(w.2.1.length:Int)==12 with
  | true=>(first | refine qT gm ?_ | refine qt ?_);refine qt ?_;refine qC hcp ?_;rfl
  | false=>
   have hne:(w.2.1.length:Int)≠12:=by rw[beq_eq_false_iff_ne] at gm;exact gm
   (first | refine qF gm ?_ | refine qf ?_);refine qf ?_;refine qf ?_;refine qf ?_;refine qt ?_;refine qE (f131 (gt w.1 a) dB hx) ?_;refine qz ?_;refine(aD ha).trans ?_;refine(aD ha).trans ?_
   cases gp:(gH (gt w.1 a) dB).2.2 with
   | false=>
    have hs:(gH (gt w.1 a) dB).1=gt w.1 a:=by
     unfold gH at gp ⊢
     cases hc:kP (gt w.1 a) dB with
     | true=>rw[hc] at gp;cases gp
     | false=>rfl
    refine qt ?_;refine qt ?_;refine qC hcp ?_;rw[hs,GG ha];rfl
   | true=>
    have hto:(gH (gt w.1 a) dB).2.1.2.2.1=dB:=by
     unfold gH at gp ⊢
     cases hc:kP (gt w.1 a) dB with
     | false=>rw[hc] at gp;cases gp
     | true=>rfl
    refine qf ?_;refine qP (show(w.2.1.length:Int)<12 by omega) ?_;refine qC (f211 (gH (gt w.1 a) dB).2.1 (EJ hx dB).2) ?_;refine qP (hbn hne) ?_;refine qf ?_
    rw[show vI (gH (gt w.1 a) dB).2.1.2.2.1=dB from hto];rfl
theorem RI(w:aZ)(d:eU)(hz:SzY w)(h4:4<=d.1)(hb:bS w=false\/inB d.2.1 0 (i64.wrap ((w.2.1.length:Int) - 1))=false):Ran p 13 12 [va K28 w, va K36 d] (rJ (doW w d)):=go12 λn hn=>Ev.now λaA=>by
 obtain⟨dk,dA,dB,dC,dt,du⟩:=d
 have h4:4<=dk:=h4
 have hb:bS w=false\/inB dA 0 (i64.wrap ((w.2.1.length:Int) - 1))=false:=hb
 have hcp:=f50 w hz.toSzX
 have e3:decide (dk<=3)=false:=decide_eq_false (by omega)
 unfold T12;refine qP (show dk>=4 by omega) ?_;refine qC (f10 w hz.toSzW) ?_
 cases ho:bS w with
 | false=>refine qt ?_;refine qC hcp ?_;rw[show doW w (dk,dA,dB,dC,dt,du)=(w,1) by unfold doW;rw[ho];rfl];rfl
 | true=>
 have ha:=hb.resolve_left (by rw[ho];decide)
 refine qf ?_;refine qC (f43 dk 0 7) ?_
 cases hk:inB dk 0 7 with
 | false=>refine qt ?_;refine qC hcp ?_;rw[show doW w (dk,dA,dB,dC,dt,du)=(w,1) by unfold doW;rw[ho];show(bif !inB dk 0 7 then(w,(1:Int))else _)=_;rw[hk];rfl];rfl
 | true=>
 refine qf ?_;refine qC (f43 dA 0 (i64.wrap ((w.2.1.length:Int) - 1))) ?_;rw[ha];refine qt ?_;refine qC hcp ?_;rw[show doW w (dk,dA,dB,dC,dt,du)=(w,1) by unfold doW;rw[ho];show(bif !inB dk 0 7 then(w,(1:Int))else bif decide (dk<=3)then _ else bif !inB dA 0 _ then(w,1)else _)=_;rw[hk,e3,ha];rfl];rfl
theorem f12(w:aZ)(d:eU)(hz:SzY w):Ran p 13 12 [va K28 w, va K36 d] (rJ (doW w d)):=by
 by_cases h3:d.1<=3
 ·exact TT w d hz h3
 by_cases hg:d.1=4->0<=d.2.1->d.2.1.toNat<w.2.1.length->cW (gt w.2.1 d.2.1.toNat).2.1=none
 ·exact LZ w d hz (by omega) hg
 have h4:d.1=4:=Classical.byContradiction λh=>hg λh'=>absurd h' h
 cases hm:cW (gt w.2.1 d.2.1.toNat).2.1 with
 | none=>exact LZ w d hz (by omega) λ_ _ _=>hm
 | some m=>
  cases ho:bS w with
  | false=>exact RI w d hz (by omega) (.inl ho)
  | true=>
   cases ha:inB d.2.1 0 (i64.wrap ((w.2.1.length:Int) - 1))with
   | false=>exact RI w d hz (by omega) (.inr ha)
   | true=>exact TU w d hz h4 m hm ho ha
end Go.Abs.Pz
/- Rows of deeds, FnDeeds. -/
set_option maxHeartbeats 4000000
namespace Go.Abs.Pz
open Go Go.Abs
-- a deed keeps a world in order
theorem MF(x:NodeT):(mU x).1=x.1:=by unfold mU;cases dD x<;>cases x.clock==100000<;>rfl
theorem ME(x:NodeT):(mU x).2.1=x.2.1:=by unfold mU;cases dD x<;>cases x.clock==100000<;>rfl
theorem PF(x:NodeT)(k i:Int)(t:ByteArray):(hI x k i t).1.1=x.1/\(hI x k i t).1.2.1=x.2.1:=by
 unfold hI
 cases nY x k i with
 | false=>exact⟨rfl,rfl⟩
 | true=>
  cases (eR x.state k i t).2 != 0 with
  | true=>exact⟨rfl,rfl⟩
  | false=>cases nF x.log (eR x.state k i t).1<;>exact⟨rfl,rfl⟩
theorem PE{x:NodeT}{k i:Int}{t:ByteArray}(h:((hI x k i t).2.2 != 0)=false):StateOk (hI x k i t).2.1:=by
 refine(aP _).1 ?_
 unfold hI at h ⊢
 cases hs:nY x k i with
 | false=>rw[hs] at h;cases h
 | true=>
  rw[hs] at h
  cases h1:(eR x.state k i t).2 != 0 with
  | true=>rw[h1] at h;exact absurd (h1.symm.trans h) (by simp)
  | false=>
   rw[h1] at h
   cases hb:nF x.log (eR x.state k i t).1 with
   | true=>exact vH _ _ _ _
   | false=>rw[hb] at h;cases h
theorem SL{x:NodeT}(h:NodeOk x)(i:Int):NodeOk (gH x i).1:=by
 cases hs:kP x i with
 | false=>rw[zD hs];exact h
 | true=>rw[z9 hs];exact(u7 hs).up
theorem O6(x:NodeT)(i:Int):(gH x i).1.1=x.1/\(gH x i).1.2.1=x.2.1:=by unfold gH;cases kP x i<;>exact⟨rfl,rfl⟩
theorem LE{x:NodeT}{i:Int}{n:Nat}(h:i9 x i=true)(hn:x.2.1=(n:Int))(h5:n<=5):0<=i/\i<(n:Int):=by
 unfold i9 at h
 simp only[Bool.and_eq_true] at h
 rw[hn] at h
 exact(QX h5).1 h.1
theorem uW{w:aZ}(h:WOk w)(a:Nat){y:NodeT}(hy:NodeOk y)(h1:y.1=(gt w.1 a).1)(h2:y.2.1=(gt w.1 a).2.1):WOk (w.1.set a y,w.2.1,w.2.2.1,()):=by
 have e:(w.1.set a y).length=w.1.length:=List.length_set
 refine⟨by show 1<=(w.1.set a y).length/\(w.1.set a y).length<=5;rw[e];exact h.n,h.net,h.said,λi hi=>?_,λp hp=>by have:=h.to p hp;show 0<=p.1/\p.1<(((w.1.set a y).length:Nat):Int);rw[e];exact this,λp hp=>by have:=h.part p hp;show(0<=p.1/\p.1<(((w.1.set a y).length:Nat):Int))/\_;rw[e];exact this⟩
 have hi:i<w.1.length:=by rw[<- e];exact hi
 have hk:=h.node i hi
 show NodeOk (gt (w.1.set a y) i)/\(gt (w.1.set a y) i).2.1=(((w.1.set a y).length:Nat):Int)/\(gt (w.1.set a y) i).1=(i:Int)
 rw[e]
 by_cases hai:a=i
 ·subst hai;rw[cG hi];exact⟨hy,h2.trans hk.2.1,h1.trans hk.2.2⟩
 ·rw[fD hai];exact hk
theorem mT{w:aZ}(h:WOk w){net:List c9}(hl:net.length<=12)(ht:∀ q∈net,0<=q.1/\q.1<(w.1.length:Int)):WOk (w.1,net,w.2.2.1,()):=⟨h.n,hl,h.said,h.node,ht,h.part⟩
theorem ED{net:List c9}{n:Int}(h:∀ q∈net,0<=q.1/\q.1<n){x:c9}(hx:0<=x.1/\x.1<n):∀ q∈net++[x],0<=q.1/\q.1<n:=λq hq=>by
 rcases List.mem_append.1 hq with hq | hq
 ·exact h q hq
 ·rw[List.mem_singleton.1 hq];exact hx
theorem zX{net:List c9}{n:Int}(h:∀ q∈net,0<=q.1/\q.1<n)(a:Nat):∀ q∈dF net a,0<=q.1/\q.1<n:=λq hq=>by
 rcases List.mem_append.1 hq with hq | hq
 ·exact h q (List.mem_of_mem_take hq)
 ·exact h q (List.mem_of_mem_drop hq)
theorem L4{rs:List bT}{n:Int}(hr:∀ i,i<rs.length->0<=IE (gt rs i).1/\IE (gt rs i).1<n):∀ (k i:Nat) (net:List c9),i+k=rs.length->(∀ q∈net,0<=q.1/\q.1<n)->∀ q∈lU rs k i net,0<=q.1/\q.1<n
 | 0,i,net,hi,h=>h
 | k+1,i,net,hi,h=>by
  unfold lU
  by_cases h12:(net.length:Int)<12
  ·rw[decide_eq_true h12];exact L4 hr k (i+1) _ (by omega) (ED h (hr i (by omega)))
  ·rw[decide_eq_false h12];exact h
theorem TO{w:aZ}(h:WOk w){a:Nat}(ha:a<w.2.1.length):WOk (nP w a):=by
 have ht:=h.to _ (bZ ha)
 obtain⟨t,e⟩:∃ t:Nat,(gt w.2.1 a).1=(t:Int):=⟨(gt w.2.1 a).1.toNat,by omega⟩
 have htl:t<w.1.length:=by omega
 have hk:=h.node t htl
 have hn5:=h.n.2
 unfold nP
 rw[e,show((t:Int)).toNat=t from rfl]
 have hw0:∀ q∈dF w.2.1 a,0<=q.1/\q.1<(w.1.length:Int):=zX h.to a
 have hl0:(dF w.2.1 a).length<=12:=Nat.le_trans (jX _ _) h.net
 cases hm:cW (gt w.2.1 a).2.1 with
 | none=>
  rw[lB hm]
  exact mT (uW h t hk.1 rfl rfl) hl0 (by show ∀ q∈dF w.2.1 a,0<=q.1/\q.1<(((w.1.set t _).length:Nat):Int);rw[List.length_set];exact hw0)
 | some m=>
  rw[lA hm]
  have ro:=SX hk.1 m
  refine mT (uW h t ro (SY _ _) (UX _ _)) (H7 _ _ _ hl0) ?_
  show ∀ q∈lU _ _ 0 (dF w.2.1 a),0<=q.1/\q.1<(((w.1.set t _).length:Nat):Int)
  rw[List.length_set]
  refine L4 (λi hi=>?_) _ _ _ (by omega) hw0
  rw[List.length_map] at hi
  have hq:=bZ hi
  have hto:=(SW hq).1
  have hok:=((K1 (x:=gt w.1 t) (m:=m)).2 _ hq).ok
  rw[cS (by rw[List.length_map];exact hi),List.getElem_map,<- cS hi,F5 hok,hto]
  cases hr:fX (gt w.1 t) m with
  | false=>rw[show eJ (gt w.1 t) m=(gt w.1 t,[],1) by unfold eJ;rw[hr];rfl] at hi;exact absurd hi (Nat.not_lt_zero _)
  | true=>
   have R:=oO hr
   have h1:=R.frm;have h2:=R.idn;have h3:=hk.2.1
   omega
theorem VG{w:aZ}(d:eU)(h:bS w=true):bS (doW w d).1=true:=by
 have hw:=(k8 w).1 h
 have hn5:=hw.n.2
 have hnet:=hw.net
 have hsd:=hw.said
 unfold doW
 rw[h]
 cases inB d.1 0 7 with
 | false=>exact h
 | true=>
 cases decide (d.1<=3)with
 | true=>
  cases ha:inB d.2.1 0 (i64.wrap ((w.1.length:Int) - 1))with
  | false=>exact h
  | true=>
   have hA:=m7 (by omega) ha
   show bS (cU w d).1=true
   have hk:=hw.node _ hA.2
   unfold cU
   cases d.1==1 with
   | true=>exact(k8 _).2 (uW hw _ (O2 hk.1) (MF _) (ME _))
   | false=>
   cases d.1==0 with
   | true=>
    cases g:(w.2.2.1.length:Int)==40 with
    | true=>exact h
    | false=>
     show bS (bif _ then _ else _:aZ×Int).1=true
     cases hc:(hI (gt w.1 d.2.1.toNat) d.2.2.1 d.2.2.2.1 d.2.2.2.2.1).2.2 != 0 with
     | true=>exact h
     | false=>
      have e1:=PF (gt w.1 d.2.1.toNat) d.2.2.1 d.2.2.2.1 d.2.2.2.2.1
      have s1:=uW hw d.2.1.toNat (SV hk.1 d.2.2.1 d.2.2.2.1 d.2.2.2.2.1) e1.1 e1.2
      refine(k8 _).2 ⟨s1.n,s1.net,FM hsd g,s1.node,s1.to,λq hq=>?_⟩
      rcases List.mem_append.1 hq with hq | hq
      ·exact s1.part q hq
      ·rw[List.mem_singleton.1 hq]
       refine⟨?_,PE hc⟩
       show 0<=d.2.1/\d.2.1<(((w.1.set _ _).length:Nat):Int)
       rw[List.length_set];omega
   | false=>
   cases g:(w.2.1.length:Int)==12 with
   | true=>exact h
   | false=>
   cases d.1==2 with
   | true=>
    show bS (bif _ then _ else _:aZ×Int).1=true
    cases hp:(eX (gt w.1 d.2.1.toNat) d.2.2.1).2 with
    | false=>exact h
    | true=>
     have hb:i9 (gt w.1 d.2.1.toNat) d.2.2.1=true:=by
      unfold eX at hp
      cases hc:dD (gt w.1 d.2.1.toNat)&&i9 (gt w.1 d.2.1.toNat) d.2.2.1 with
      | false=>rw[hc] at hp;cases hp
      | true=>simp only[Bool.and_eq_true] at hc;exact hc.2
     exact(k8 _).2 (mT hw (FM hnet g) (ED hw.to (LE hb hk.2.1 hn5)))
   | false=>
    show bS (bif _ then _ else _:aZ×Int).1=true
    have e1:=O6 (gt w.1 d.2.1.toNat) d.2.2.1
    have s1:=uW hw d.2.1.toNat (SL hk.1 d.2.2.1) e1.1 e1.2
    cases hp:(gH (gt w.1 d.2.1.toNat) d.2.2.1).2.2 with
    | false=>exact(k8 _).2 s1
    | true=>
     have hb:i9 (gt w.1 d.2.1.toNat) d.2.2.1=true:=by
      cases hs:kP (gt w.1 d.2.1.toNat) d.2.2.1 with
      | false=>rw[zD hs] at hp;cases hp
      | true=>unfold kP at hs;simp only[Bool.and_eq_true] at hs;exact hs.2.1
     refine(k8 _).2 (mT s1 (FM hnet g) ?_)
     show ∀ q∈(_:List c9),0<=q.1/\q.1<(((w.1.set _ _).length:Nat):Int)
     rw[List.length_set]
     exact ED hw.to (LE hb hk.2.1 hn5)
 | false=>
  cases ha:inB d.2.1 0 (i64.wrap ((w.2.1.length:Int) - 1))with
  | false=>exact h
  | true=>
   have hA:=m7 (by omega) ha
   show bS (jA w d).1=true
   unfold jA
   cases d.1==4 with
   | true=>exact(k8 _).2 (TO hw hA.2)
   | false=>
   cases d.1==5 with
   | true=>exact(k8 _).2 (mT hw (Nat.le_trans (jX _ _) hnet) (zX hw.to _))
   | false=>
   cases d.1==6 with
   | true=>
    cases g:(w.2.1.length:Int)==12 with
    | true=>exact h
    | false=>exact(k8 _).2 (mT hw (FM hnet g) (ED hw.to (hw.to _ (bZ hA.2))))
   | false=>
   cases mL w d with
   | true=>exact h
   | false=>
    refine(k8 _).2 (mT hw (by rw[List.length_set];exact hnet) λq hq=>?_)
    rcases List.mem_or_eq_of_mem_set hq with hq | hq
    ·exact hw.to q hq
    ·have h9:=hw.to _ (bZ hA.2)
     rw[hq];exact h9
-- rows of deeds
def fU:aZ->List eU->aZ×List aH
 | w,[]=>(w,[])
 | w,d::l=>((fU (doW w d).1 l).1,((doW w d).2,())::(fU (doW w d).1 l).2)
theorem vM:∀ (l:List eU) (w:aZ),(fU w l).2.length=l.length
 | [],w=>rfl
 | d::l,w=>by show((fU (doW w d).1 l).2.length+1)=l.length+1;rw[vM l]
theorem GJ:∀ (a b:List eU) (w:aZ),(fU w (a++b)).1=(fU (fU w a).1 b).1
 | [],b,w=>rfl
 | d::a,b,w=>GJ a b (doW w d).1
theorem EU:∀ (l:List eU) {w:aZ},SzY w->SzY (fU w l).1
 | [],w,h=>h
 | d::l,w,h=>EU l (FN h d)
theorem KX:∀ (l:List eU) {w:aZ},bS w=true->bS (fU w l).1=true
 | [],w,h=>h
 | d::l,w,h=>KX l (VG d h)
def FX(r:aZ×List aH):Out:=⟨[⟨K28,r.1⟩,⟨K38,(r.2,())⟩],[]⟩
theorem f18(w:aZ)(l:List eU)(hz:SzY w)(hl:l.length<=1000):Ran p 14 18 [va K28 w, vf K29 (l,())] (FX (fU w l)):=go18 λn hn=>by
 have lp:∀ (r:List eU) (i:Nat) (v:aZ) (cs:List aH),l.drop i=r->SzY v->cs.length<=i->It (λaA (_:Unit)=>c18_4 (aJ p n) aA l) ((i:Int),cs,v.1,v.2.1,v.2.2.1) (λ_=>some (FX ((fU v r).1,cs++(fU v r).2))):=by
  intro r
  induction r with
  | nil=>
   intro i v cs hr hv hc
   have hi:¬ i<l.length:=λh=>by have:=List.drop_eq_nil_iff.1 hr;omega
   refine It.stop λaA u rec=>?_
   unfold c18_4;dsimp only;refine qN (show ¬ (i:Int)<(l.length:Int) by omega) ?_;rw[show(fU v []).2=[] from rfl,List.append_nil];rfl
  | cons d r ih=>
   intro i v cs hr hv hc
   have hi:i<l.length:=by
    rcases Nat.lt_or_ge i l.length with h | h
    ·exact h
    ·rw[List.drop_eq_nil_iff.2 h] at hr;cases hr
   have hg:gt l i=d:=by
    have h2:=List.drop_eq_getElem_cons hi
    rw[hr] at h2;rw[cS hi];exact(List.cons.inj h2).1.symm
   have hr2:l.drop (i+1)=r:=by
    have h2:=List.drop_eq_getElem_cons hi
    rw[hr] at h2;exact(List.cons.inj h2).2.symm
   have hbd:cs.length+1<=bound:=by unfold bound;omega
   have hdo:=f12 v d hv
   have h3:=ih (i+1) (doW v d).1 (cs++[((doW v d).2,())]) hr2 (FN hv d) (by rw[List.length_append,List.length_singleton];omega)
   rw[show(fU v (d::r)).1=(fU (doW v d).1 r).1 from rfl,show cs++(fU v (d::r)).2=(cs++[((doW v d).2,())])++(fU (doW v d).1 r).2 by rw[List.append_assoc];rfl]
   refine It.next (λaA u rec=>?_) h3
   unfold c18_4;dsimp only;rw[aF (show i<9223372036854775807 by omega)];refine ql hi ?_;refine qz ?_;refine(aD hi).trans ?_;rw[hg];refine qD hdo ?_;refine qP hbd ?_;rfl
 have h0:=lp l 0 w [] rfl hz (Nat.le_refl _)
 exact Ev.eq (λaA=>by unfold T18;refine qC (f50 w hz.toSzX) ?_;rfl) (h0.ev (i:=()) rfl)
theorem f19(w:aZ)(l:List eU)(hz:SzY w)(hl:l.length<=1000):Ran p 15 19 [va K28 w, vf K29 (l,())] (FX (fU w l)):=go19 λn hn=>by
 have lp:∀ (r:List eU) (i:Nat) (v:aZ) (cs:List aH),l.drop i=r->SzY v->cs.length<=i->It (λaA (_:Unit)=>c19_4 (aJ p n) aA l) ((i:Int),cs,v.1,v.2.1,v.2.2.1) (λ_=>some (FX ((fU v r).1,cs++(fU v r).2))):=by
  intro r
  induction r with
  | nil=>
   intro i v cs hr hv hc
   have hi:¬ i<l.length:=λh=>by have:=List.drop_eq_nil_iff.1 hr;omega
   refine It.stop λaA u rec=>?_
   unfold c19_4;dsimp only;refine qN (show ¬ (i:Int)<(l.length:Int) by omega) ?_;rw[show(fU v []).2=[] from rfl,List.append_nil];rfl
  | cons d r ih=>
   intro i v cs hr hv hc
   have hi:i<l.length:=by
    rcases Nat.lt_or_ge i l.length with h | h
    ·exact h
    ·rw[List.drop_eq_nil_iff.2 h] at hr;cases hr
   have hg:gt l i=d:=by
    have h2:=List.drop_eq_getElem_cons hi
    rw[hr] at h2;rw[cS hi];exact(List.cons.inj h2).1.symm
   have hr2:l.drop (i+1)=r:=by
    have h2:=List.drop_eq_getElem_cons hi
    rw[hr] at h2;exact(List.cons.inj h2).2.symm
   have hbd:cs.length+1<=bound:=by unfold bound;omega
   have hdo:=f13 v d hv
   have h3:=ih (i+1) (doW v d).1 (cs++[((doW v d).2,())]) hr2 (FN hv d) (by rw[List.length_append,List.length_singleton];omega)
   rw[show(fU v (d::r)).1=(fU (doW v d).1 r).1 from rfl,show cs++(fU v (d::r)).2=(cs++[((doW v d).2,())])++(fU (doW v d).1 r).2 by rw[List.append_assoc];rfl]
   refine It.next (λaA u rec=>?_) h3
   unfold c19_4;dsimp only;rw[aF (show i<9223372036854775807 by omega)];refine ql hi ?_;refine qz ?_;refine(aD hi).trans ?_;rw[hg];refine qD hdo ?_;refine qP hbd ?_;rfl
 have h0:=lp l 0 w [] rfl hz (Nat.le_refl _)
 exact Ev.eq (λaA=>by unfold T19;refine qC (f53 w hz.toSzX) ?_;rfl) (h0.ev (i:=()) rfl)
theorem f20(l:List aH)(hl:l.length<=1000):Ran p 1 20 [vf K38 (l,()), vf K38 (l,())] (rO K4 (true,())):=go20 λn hn=>by
 have lp:It (λaA (_:Unit)=>c20_4 (aJ p n) aA l l) (0:Int) (λ_=>rV K4 (true,())):=by
  refine It.run (λi=>(i:Int)) l.length (λk hk aA u rec=>?_) (It.stop λaA u rec=>?_)
  ·unfold c20_4;rw[aF (show k<9223372036854775807 by omega)];refine ql hk ?_;refine qz ?_;refine(aD hk).trans ?_;refine qz ?_;refine(aD hk).trans ?_;refine qF (q8 _) ?_;rfl
  ·unfold c20_4;refine qe ?_;rfl
 exact Ev.eq (λaA=>by unfold T20;refine qF (q8 _) ?_;rfl) (lp.ev (i:=()) rfl)
theorem f42(b:List aH)(hb:b.length<=1048576):∃ x:Int,Ran p 1 42 [vf K22 (b,()), vf K3 ((24:Int),())] (rO K3 (x,()))/\1<=x/\x<=24:=by
 have n20:¬ ((20:Int)=0):=by omega
 have e1:(b.length:Int).tdiv 20=(b.length:Int) / 20:=Int.tdiv_eq_ediv_of_nonneg (by omega)
 have e2:i64.wrap ((2:Int)+i64.wrap ((b.length:Int).tdiv 20))=2+(b.length:Int) / 20:=by rw[e1,IntKind.wrap_i64,IntKind.wrap_i64];omega
 by_cases h:2+(b.length:Int) / 20>24
 ·exact⟨24,go42 λn hn=>Ev.now λaA=>by unfold T42;refine qN n20 ?_;refine qP (show i64.wrap ((2:Int)+i64.wrap ((b.length:Int).tdiv 20))>24 by rw[e2];exact h) ?_;rfl,by omega,by omega⟩
 ·exact⟨i64.wrap ((2:Int)+i64.wrap ((b.length:Int).tdiv 20)),go42 λn hn=>Ev.now λaA=>by unfold T42;refine qN n20 ?_;refine qN (show ¬ i64.wrap ((2:Int)+i64.wrap ((b.length:Int).tdiv 20))>24 by rw[e2];exact h) ?_;rfl,by rw[e2];omega,by rw[e2];omega⟩
theorem VN(b:List aH)(hb:b.length<=1048576)(h8:B8 b):∃ x:Int,Ran p 1 21 [vf K22 (b,()), vf K3 ((2:Int),())] (rO K3 (x,()))/\0<=x:=by
 by_cases hi:(2:Int)<(b.length:Int)
 ·have hj:2<b.length:=by omega
  obtain⟨y,hy,hy8⟩:=h8 2 hj
  exact⟨_,go21 λn hn=>Ev.now λaA=>by unfold T21;refine qP hi ?_;refine qP (show(0:Int)<=2 by omega) ?_;refine(bA hj).trans ?_;rfl,by show 0<=i64.wrap (gt b 2).1;rw[hy,IntKind.wrap_i64];omega⟩
 ·refine⟨_,go21 λn hn=>Ev.now λaA=>by unfold T21;refine qN hi ?_;refine qN (by decide) ?_;rfl,?_⟩
  show 0<=Int.tmod (i64.wrap (i64.wrap ((2:Int)*7)+(b.length:Int))) 256
  exact Int.tmod_nonneg _ (by rw[IntKind.wrap_i64,IntKind.wrap_i64];omega)
theorem f9(b:List aH)(hb:b.length<=1048576):∃ (w:aZ) (l:List eU),Ran p 16 9 [vf K22 (b,())] ⟨[⟨K28,w⟩,⟨K29,(l,())⟩],[]⟩/\SzY w/\bS w=true/\l.length<=40:=by
 obtain⟨x0,h0,a0,b0⟩:=f42 b hb
 obtain⟨o,⟨w,l,rfl,g1,g2,g3⟩,hL⟩:=It.new (lvl:=16 - 1) (c:=λn aA (_:Unit)=>c9_10003 (aJ p n) aA b) (λo=>∃ (w:aZ) (l:List eU),o=⟨[⟨K28,w⟩,⟨K29,(l,())⟩],[]⟩/\SzY w/\bS w=true/\l.length<=40) b hb (λi h hi h4=>⟨_,λn hn aA a rec=>by
   unfold c9_10003;dsimp only;rw[aF (show i<9223372036854775807 by omega)];refine ql hi ?_;refine qP (show(i:Int)<4000 by omega) ?_;refine qz ?_;refine(aD hi).trans ?_;rfl⟩) (λh i hc hi=>by
   obtain⟨x1,d1,h1,k1,a1,b1,_⟩:=f41 _ x0 hc
   obtain⟨x2,d2,h2,k2,a2,b2,_⟩:=f41 d1 4 k1
   obtain⟨x3,d3,h3,k3,m3⟩:=f98 d2 [((1:Int),()),((2:Int),()),((8:Int),())] k2 (by show 0<3;omega)
   obtain⟨x4,d4,h4,k4,m4⟩:=f98 d3 [((1:Int),()),((2:Int),()),((4:Int),())] k3 (by show 0<3;omega)
   obtain⟨x5,d5,h5,k5,a5,b5,_⟩:=f41 d4 4 k4
   obtain⟨x6,d6,h6,k6,a6,b6,_⟩:=f41 d5 4 k5
   have b1:=b1 (by omega)
   have b2:=b2 (by omega)
   have b5:=b5 (by omega)
   have b6:=b6 (by omega)
   obtain⟨m,e2,hm⟩:∃ m:Nat,i64.wrap (1+x2)=(m:Int)/\1<=m/\m<=4:=⟨(1+x2).toNat,by rw[IntKind.wrap_i64];omega,by omega,by omega⟩
   have e5:i64.wrap (1+x5)=1+x5:=by rw[IntKind.wrap_i64];omega
   have e6:i64.wrap (1+x6)=1+x6:=by rw[IntKind.wrap_i64];omega
   have hw:=f97 (m:Int) x3 x4 (1+x5) (1+x6)
   have ok:=OU hm (LD m3 (show _=true by decide)) (LD m4 (show _=true by decide)) (show inB (1+x5) 1 20=true by rw[aQ];omega) (show inB (1+x6) 1 50=true by rw[aQ];omega)
   have e7:xZ (m:Int) x3 x4 (1+x5) (1+x6)=wnW (m:Int) x3 x4 (1+x5) (1+x6):=by unfold xZ;rw[ok];rfl
   have hcnt:dS (m:Int)=m:=by unfold dS;omega
   have hlen:(wnW (m:Int) x3 x4 (1+x5) (1+x6)).1.length=m:=by show(fA (m:Int) x3 x4 (1+x5) (1+x6) (dS (m:Int))).length=m;rw[iI,hcnt]
   have hsz:=SF (m:Int) x3 x4 (1+x5) (1+x6)
   have wok:bS (wnW (m:Int) x3 x4 (1+x5) (1+x6))=true:=ok
   rw[e7,ok] at hw
   generalize wnW (m:Int) x3 x4 (1+x5) (1+x6)=W0 at hw hlen hsz wok
   obtain⟨t,et,ht⟩:∃ t:Nat,i64.wrap (6+x1)=(t:Int)/\t<=30:=⟨(6+x1).toNat,by rw[IntKind.wrap_i64];omega,by omega⟩
   obtain⟨o,⟨l,rfl,hl⟩,hM⟩:=It.ex (lvl:=16 - 1) (c:=λn aA (_:Unit)=>c9_20005 (aJ p n) aA (((x1,()),()),(d1,())) ((W0,(true,()),()),())) (λi z=>∃ (l:List eU) (d:xY) (w:aZ),z=((i:Int),d.1,d.2.1,d.2.2.1,w.1,w.2.1,w.2.2.1,l)/\CurOk d/\SzY w/\l.length<=i)
    (λo=>∃ (l:List eU),o=⟨[⟨K28,W0⟩,⟨K29,(l,())⟩],[]⟩/\l.length<=40) t (by
     rintro i z hi ⟨l,d,w,rfl,hd,hz,hl⟩
     obtain⟨dd,e,hde,ke⟩:=f70 d w hd
     have hbd:l.length+1<=bound:=by unfold bound;omega
     have hil:(i:Int)<i64.wrap (6+x1):=by rw[et];omega
     have stp:∀ q:eU,∃ (l':List eU) (d':xY) (w':aZ),(((i+1:Nat):Int),e.1,e.2.1,e.2.2.1,(doW w q).1.1,(doW w q).1.2.1,(doW w q).1.2.2.1,l++[q])=(((i+1:Nat):Int),d'.1,d'.2.1,d'.2.2.1,w'.1,w'.2.1,w'.2.2.1,l')/\CurOk d'/\SzY w'/\l'.length<=i+1:=
      λq=>⟨l++[q],e,(doW w q).1,rfl,ke,FN hz q,by rw[List.length_append,List.length_singleton];omega⟩
     by_cases him:i<m
     ·have hdo:=f13 w ((0:Int),(i:Int),(0:Int),(i:Int),(⟨#[]⟩:ByteArray),()) hz
      refine⟨_,stp ((0:Int),(i:Int),(0:Int),(i:Int),(⟨#[]⟩:ByteArray),()),λn hn aA u rec=>?_⟩
      unfold c9_20005;dsimp only;rw[aF (show i<9223372036854775807 by omega)];refine qP hil ?_;refine qR hde ?_;refine qP (Int.ofNat_lt.2 (show i<W0.1.length by omega)) ?_;refine qP hbd ?_;refine qD hdo ?_;rfl
     ·have hdo:=f13 w dd hz
      refine⟨_,stp dd,λn hn aA u rec=>?_⟩
      unfold c9_20005;dsimp only;rw[aF (show i<9223372036854775807 by omega)];refine qP hil ?_;refine qR hde ?_;refine qN (show ¬ (i:Int)<(W0.1.length:Int) by omega) ?_;refine qP hbd ?_;refine qD hdo ?_;rfl) (by
     rintro z ⟨l,d,w,rfl,hd,hz,hl⟩
     refine⟨_,⟨l,rfl,by omega⟩,λn hn=>It.stop λaA u rec=>?_⟩
     unfold c9_20005;dsimp only;refine qN (show ¬ (t:Int)<i64.wrap (6+x1) by rw[et];omega) ?_;rfl) t 0 ((0:Int),d6.1,d6.2.1,d6.2.2.1,W0.1,W0.2.1,W0.2.2.1,([]:List eU)) (by omega) ⟨[],d6,W0,rfl,k6,hsz,Nat.zero_le _⟩
   exact⟨_,⟨W0,l,rfl,hsz,wok,hl⟩,λn hn=>by
    obtain⟨M,hM⟩:=(hM n hn).ev (i:=()) rfl
    exact⟨M,λaA hf a rec=>by
     unfold c9_10003;refine(Q0 hi).trans ?_;refine qC h0 ?_;refine qR h1 ?_;refine qR h2 ?_;refine qR h3 ?_;refine qR h4 ?_;refine qR h5 ?_;refine qR h6 ?_
     rw[show i64.wrap ((1:Int)+vI x2)=(m:Int)from e2,show i64.wrap ((1:Int)+vI x5)=1+x5 from e5,show i64.wrap ((1:Int)+vI x6)=1+x6 from e6]
     refine qD hw ?_;exact hM aA hf⟩⟩) (i64.wrap (26583+(b.length:Int)))
 exact⟨w,l,go9 λn hn=>Ev.eq (λaA=>by unfold T9;rfl) ((hL n (by omega)).ev (i:=()) rfl),g1,g2,g3⟩
theorem law_deeds(b:List aH)(ho:nH K22 (b,())):Ran p 17 4 [vf K22 (b,())] nM:=by
 have h1:=f8 b
 by_cases hb:(b.length:Int)>1048576
 ·rw[decide_eq_true hb] at h1
  exact go4 λn hn=>Ev.now λaA=>by unfold T4;refine qC h1 ?_;rfl
 rw[decide_eq_false hb] at h1
 obtain⟨w,l,h2,hz,ok,hl⟩:=f9 b (by omega)
 have h3:=f18 w l hz (by omega)
 have h4:=f19 w l hz (by omega)
 have zx:=EU l hz
 have h5:=f20 (fU w l).2 (by rw[vM];omega)
 have h6:=f16 (fU w l).1 zx.toSzX
 obtain⟨x,h7,hx⟩:=VN b (by omega) (WE ho)
 obtain⟨q,hq⟩:∃ q:Int,q=x.tmod (i64.wrap ((l.length:Int)+1)):=⟨_,rfl⟩
 have hq2:0<=q/\q<=(l.length:Int):=by
  have e:i64.wrap ((l.length:Int)+1)=(l.length:Int)+1:=by rw[IntKind.wrap_i64];omega
  have h:=tC hx (show(0:Int)<(l.length:Int)+1 by omega)
  rw[hq,e];omega
 have nz:¬ (i64.wrap ((l.length:Int)+1)=0):=by rw[IntKind.wrap_i64];omega
 have c1:(decide ((0:Int)<=q)&&decide (q<=(l.length:Int)))=true:=rng (c:=True) (d:=True) hq2.1 hq2.2
 have hlt:(l.take q.toNat).length=q.toNat:=by rw[List.length_take];omega
 have h8:=f18 w ((l.take q.toNat).drop 0) hz (by show(l.take q.toNat).length<=1000;omega)
 have zk:=EU (l.take q.toNat) hz
 have h9:=f18 (fU w ((l.take q.toNat).drop 0)).1 ((l.take l.length).drop q.toNat) zk (by rw[List.take_length,List.length_drop];omega)
 have e9:(fU (fU w ((l.take q.toNat).drop 0)).1 ((l.take l.length).drop q.toNat)).1=(fU w l).1:=by
  rw[List.take_length];show(fU (fU w (l.take q.toNat)).1 (l.drop q.toNat)).1=_;rw[<- GJ,List.take_append_drop]
 have n1:(((fU w ((l.take q.toNat).drop 0)).2.length:Nat):Int)=q:=by rw[vM];show(((l.take q.toNat).length:Nat):Int)=q;omega
 have n2:(((fU (fU w ((l.take q.toNat).drop 0)).1 ((l.take l.length).drop q.toNat)).2.length:Nat):Int)=i64.wrap ((l.length:Int) - q):=by rw[vM,List.take_length,List.length_drop,IntKind.wrap_i64];omega
 have h10:=f10 (fU w l).1 zx.toSzW
 rw[KX l ok] at h10
 generalize fU (fU w ((l.take q.toNat).drop 0)).1 ((l.take l.length).drop q.toNat)=R2 at h9 e9 n2
 generalize fU w ((l.take q.toNat).drop 0)=R1 at h8 h9 n1
 generalize fU w l=R at h3 h4 h5 h6 e9 h10
 obtain⟨x2,q2⟩:=R2
 have e9:x2=R.1:=e9
 subst e9
 subst hq
 refine go4 λn hn=>Ev.now λaA=>?_
 unfold T4;refine qC h1 ?_;refine qf ?_;refine qD h2 ?_;refine qD h3 ?_;refine qD h4 ?_;refine qC h5 ?_;refine qf ?_;refine qC h6 ?_;refine qf ?_;refine qC h7 ?_;refine qN nz ?_
 refine qT c1 ?_
 refine qD h8 ?_;refine qT c1 ?_
 refine qD h9 ?_;refine qC h6 ?_;refine qt ?_
 refine qT (beq_iff_eq.2 n1) ?_
 refine qT (beq_iff_eq.2 n2) ?_
 refine qC h10 ?_;rfl
end Go.Abs.Pz
