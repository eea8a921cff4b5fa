/- What the functions of this program answer, part fe. -/
import Derived.Test.YtfhgecdbldmekaaGreatW3
import Derived.Test.YtfhgecdbldmekaaGreatXew
import Derived.Test.YtfhgecdbldmekaaGreatXeb
set_option linter.unusedVariables false
/- Two equal worlds are the same. -/
set_option maxHeartbeats 4000000
open Go.IntKind (i64)
namespace Go.Abs.Pz
open Go Go.Abs
theorem pN(x:Int):(x != x)=false:=by simp
theorem f16(w:aV)(hz:SzX w):Ran p 4 16 [va K28 w, va K28 w] lC:=go16 λn hn=>by
 have l3:It (λaA (_:Unit)=>c16_14 (aI p n) aA w w) (0:Int) (λ_=>some lC):=by
  refine It.run (λi=>(i:Int)) w.2.2.1.length (λi hi aA u rec=>?_) (It.stop λaA u rec=>?_)
  ·have hb:=bN hi hz.said
   have hs:=f63 (gt w.2.2.1 i).2 (gt w.2.2.1 i).2 (hz.part i hi)
   rw[iI.2 rfl] at hs
   unfold c16_14;rw[aF hb];refine ql hi ?_;refine qz ?_;refine(aD hi).trans ?_;refine qz ?_;refine(aD hi).trans ?_;refine qF (pN _) ?_;refine qz ?_;refine(aD hi).trans ?_;refine qz ?_;refine(aD hi).trans ?_;refine qC hs ?_;rfl
  ·unfold c16_14;refine qe ?_;rfl
 have l2:It (λaA (_:Unit)=>c16_9 (aI p n) aA w w) (0:Int) (λ_=>some lC):=by
  refine It.run (λi=>(i:Int)) w.2.1.length (λi hi aA u rec=>?_) (It.stopE (T:=λaA _=>iter (c16_14 (aI p n) aA w w) aA (0:Int)) (λaA u rec=>?_) l3.all_i)
  ·have hb:=bN hi hz.net
   unfold c16_9;rw[aF hb];refine ql hi ?_;refine qz ?_;refine(aD hi).trans ?_;refine qz ?_;refine(aD hi).trans ?_;refine qF (pN _) ?_;refine qz ?_;refine(aD hi).trans ?_;refine qz ?_;refine(aD hi).trans ?_;refine qF (by rw[wV];rfl) ?_;refine qz ?_;refine(aD hi).trans ?_;refine qz ?_;refine(aD hi).trans ?_;refine qF (by simp) ?_;rfl
  ·unfold c16_9;refine qe ?_;rfl
 have l1:It (λaA (_:Unit)=>c16_4 (aI p n) aA w w) (0:Int) (λ_=>some lC):=by
  refine It.run (λi=>(i:Int)) w.1.length (λi hi aA u rec=>?_) (It.stopE (T:=λaA _=>iter (c16_9 (aI p n) aA w w) aA (0:Int)) (λaA u rec=>?_) l2.all_i)
  ·have hb:=bN hi hz.nodes
   have hs:=f24 (gt w.1 i) (gt w.1 i) (hz.node i hi)
   rw[xP] at hs
   unfold c16_4;rw[aF hb];refine ql hi ?_;refine qz ?_;refine(aD hi).trans ?_;refine qz ?_;refine(aD hi).trans ?_;refine qC hs ?_;rfl
  ·unfold c16_4;refine qe ?_;rfl
 exact Ev.eq (λaA=>by unfold T16;refine qF (pN _) ?_;refine qF (pN _) ?_;refine qF (pN _) ?_;rfl) (l1.ev (i:=()) rfl)
end Go.Abs.Pz
/- What impl.Do does with a pack: dropped, copied, spoilt, or given where it holds no message. -/
set_option maxHeartbeats 4000000
namespace Go.Abs.Pz
open Go Go.Abs
theorem FM{α:Type}[Inhabited α]{xs:List α}{i:Nat}(h:i<xs.length):xs.set i (gt xs i)=xs:=by rw[cJ h,List.set_getElem_self]
theorem ES(w:aV)(d:fO)(hz:SzY w)(h4:4<=d.1)(hg:d.1=4->0<=d.2.1->d.2.1.toNat<w.2.1.length->bW (gt w.2.1 d.2.1.toNat).2.1=none):Ran p 13 12 [va K28 w, va K36 d] (DA (doW w d)):=go12 λn hn=>Ev.now λaA=>by
 obtain⟨dk,dA,dB,dC,dt,du⟩:=d
 have h4:4<=dk:=h4
 unfold T12;refine qP (show dk>=4 by omega) ?_;refine qC (f10 w hz.toSzW) ?_
 cases ho:cE w with
 | false=>refine qt ?_;refine qC (f50 w hz.toSzX) ?_;rw[show doW w (dk,dA,dB,dC,dt,du)=(w,1) by unfold doW;rw[ho];rfl];rfl
 | true=>
 have hl:=lR ho
 refine qf ?_;refine qC (f43 dk 0 7) ?_
 cases hk:inB dk 0 7 with
 | false=>refine qt ?_;refine qC (f50 w hz.toSzX) ?_;rw[show doW w (dk,dA,dB,dC,dt,du)=(w,1) by unfold doW;rw[ho];show(bif !inB dk 0 7 then(w,(1:Int))else _)=_;rw[hk];rfl];rfl
 | true=>
 have e3:decide (dk<=3)=false:=decide_eq_false (by omega)
 refine qf ?_;refine qC (f43 dA 0 (i64.wrap ((w.2.1.length:Int) - 1))) ?_
 cases ha:inB dA 0 (i64.wrap ((w.2.1.length:Int) - 1))with
 | false=>refine qt ?_;refine qC (f50 w hz.toSzX) ?_;rw[show doW w (dk,dA,dB,dC,dt,du)=(w,1) by unfold doW;rw[ho];show(bif !inB dk 0 7 then(w,(1:Int))else bif decide (dk<=3)then _ else bif !inB dA 0 _ then(w,1)else _)=_;rw[hk,e3,ha];rfl];rfl
 | true=>
 have hA:=qV (by omega) ha
 have hT:=H5 ho hA.2
 have hW:doW w (dk,dA,dB,dC,dt,du)=gN w (dk,dA,dB,dC,dt,du):=by unfold doW;rw[ho];show(bif !inB dk 0 7 then(w,(1:Int))else bif decide (dk<=3)then _ else bif !inB dA 0 _ then(w,1)else _)=_;rw[hk,e3,ha];rfl
 rw[hW]
 obtain⟨a,rfl⟩:∃ a:Nat,dA=(a:Int):=⟨dA.toNat,by omega⟩
 have ha:a<w.2.1.length:=hA.2
 have hq:=hz.pk ha
 have hT:0<=(gt w.2.1 a).1/\(gt w.2.1 a).1.toNat<w.1.length:=hT
 have e1:i64.wrap ((a:Int)+1)=((a+1:Nat):Int):=aF (by omega)
 have c1:(decide ((0:Int)<=(a:Int))&&decide ((a:Int)<=(w.2.1.length:Int)))=true:=rng (c:=True) (d:=True) (by omega) (by omega)
 have c2:(decide ((0:Int)<=((a+1:Nat):Int))&&decide (((a+1:Nat):Int)<=(w.2.1.length:Int)))=true:=rng (c:=True) (d:=True) (by omega) (by omega)
 have c3:(decide (((a:Int)).toNat<=(((a+1:Nat):Int)).toNat)&&(decide ((((a+1:Nat):Int)).toNat<=w.2.1.length)&&(decide (w.2.1.length=w.2.1.length)&&decide (w.2.1.length<=bound))))=true:=by
  rw[decide_eq_true (show((a:Int)).toNat<=(((a+1:Nat):Int)).toNat by omega),decide_eq_true (show(((a+1:Nat):Int)).toNat<=w.2.1.length by omega),decide_eq_true (show w.2.1.length<=bound by unfold bound;omega)];simp
 refine qf ?_;refine qC (f50 w hz.toSzX) ?_;refine qP (show dk>=4 by omega) ?_;unfold lY;dsimp only;rw[e1]
 cases g4:dk==4 with
 | true=>
  have hm:bW (gt w.2.1 a).2.1=none:=hg (eq_of_beq g4) hA.1 ha
  have hm':=f125 (gt w.2.1 a).2.1 hq.by_.b8 hq.len
  rw[hm] at hm'
  (first | refine qT g4 ?_ | refine qt ?_);refine qz ?_;refine(aD ha).trans ?_;refine(aD ha).trans ?_;refine qT c1 ?_;refine qT c2 ?_;refine qT c3 ?_;refine qD hm' ?_;refine qt ?_;refine qf ?_
  have e:gN w (dk,(a:Int),dB,dC,dt,du)=((w.1,dP w.2.1 a,w.2.2.1,()),0):=by
   unfold gN
   show(bif dk==4 then(qW w a,(0:Int))else _)=_
   rw[g4]
   show(qW w a,(0:Int))=_
   unfold qW
   rw[iK hm]
   show((w.1.set (gt w.2.1 a).1.toNat (gt w.1 (gt w.2.1 a).1.toNat),dP w.2.1 a,w.2.2.1,()),(0:Int))=_
   rw[FM hT.2]
  rw[e];rfl
 | false=>
 (first | refine qF g4 ?_ | refine qf ?_)
 cases g5:dk==5 with
 | true=>
  (first | refine qT g5 ?_ | refine qt ?_);refine qz ?_;refine(aD ha).trans ?_;refine(aD ha).trans ?_;refine qT c1 ?_;refine qT c2 ?_;refine qT c3 ?_;refine qf ?_
  rw[show gN w (dk,(a:Int),dB,dC,dt,du)=((w.1,dP w.2.1 a,w.2.2.1,()),0) by unfold gN;show(bif dk==4 then _ else bif dk==5 then _ else _)=_;rw[g4,g5];rfl];rfl
 | false=>
 (first | refine qF g5 ?_ | refine qf ?_)
 cases g6:dk==6 with
 | true=>
  (first | refine qT g6 ?_ | refine qt ?_)
  cases gm:(w.2.1.length:Int)==12 with
  | true=>
   (first | refine qT gm ?_ | refine qt ?_);refine qt ?_;refine qC (f50 w hz.toSzX) ?_
   rw[show gN w (dk,(a:Int),dB,dC,dt,du)=(w,3) by unfold gN;show(bif dk==4 then _ else bif dk==5 then _ else bif dk==6 then _ else _)=_;rw[g4,g5,g6,gm];rfl];rfl
  | false=>
   have hbn:w.2.1.length+1<=bound:=by unfold bound;omega
   (first | refine qF gm ?_ | refine qf ?_);refine qz ?_;refine(aD ha).trans ?_;refine(aD ha).trans ?_;refine qC (f122 (gt w.2.1 a) hq.len) ?_;refine qP hbn ?_;refine qf ?_
   rw[show gN w (dk,(a:Int),dB,dC,dt,du)=((w.1,w.2.1++[gt w.2.1 a],w.2.2.1,()),0) by unfold gN;show(bif dk==4 then _ else bif dk==5 then _ else bif dk==6 then _ else _)=_;rw[g4,g5,g6,gm];rfl];rfl
 | false=>
 (first | refine qF g6 ?_ | refine qf ?_)
 have g7:(dk==7)=true:=by rw[aL] at hk;rw[beq_eq_false_iff_ne] at g4 g5 g6;rw[beq_iff_eq];omega
 (first | refine qT g7 ?_ | refine qt ?_)
 have hNo:∀ B C:Int,fF w (dk,(a:Int),B,C,dt,du)=((gt w.2.1 a).2.2.1||(!inB B 0 (i64.wrap ((((gt w.2.1 a).2.1.length:Nat):Int) - 1))|| !inB C 1 255)):=λ_ _=>rfl
 have no:fF w (dk,(a:Int),dB,dC,dt,du)=true->gN w (dk,(a:Int),dB,dC,dt,du)=(w,2):=λh=>by unfold gN;show(bif dk==4 then _ else bif dk==5 then _ else bif dk==6 then _ else _)=_;rw[g4,g5,g6,h];rfl
 refine qz ?_;refine(aD ha).trans ?_;refine(aD ha).trans ?_
 cases gs:(gt w.2.1 a).2.2.1 with
 | true=>(first | refine qT gs ?_ | refine qt ?_);refine qt ?_;refine qC (f50 w hz.toSzX) ?_;rw[no (by rw[hNo,gs];rfl)];rfl
 | false=>
 (first | refine qF gs ?_ | refine qf ?_);refine(aD ha).trans ?_;refine(aD ha).trans ?_;refine qC (f43 dB 0 (i64.wrap ((((gt w.2.1 a).2.1.length:Nat):Int) - 1))) ?_
 cases gb:inB dB 0 (i64.wrap ((((gt w.2.1 a).2.1.length:Nat):Int) - 1))with
 | false=>refine qt ?_;refine qt ?_;refine qC (f50 w hz.toSzX) ?_;rw[no (by rw[hNo,gs,gb];rfl)];rfl
 | true=>
 refine qf ?_;refine qC (f43 dC 1 255) ?_
 cases gc:inB dC 1 255 with
 | false=>refine qt ?_;refine qt ?_;refine qC (f50 w hz.toSzX) ?_;rw[no (by rw[hNo,gs,gb,gc];rfl)];rfl
 | true=>
 have hb:=gb
 rw[aL] at hb
 have hql:(gt w.2.1 a).2.1.length<=1048576:=hq.len
 rw[IntKind.wrap_i64] at hb
 obtain⟨b,rfl⟩:∃ b:Nat,dB=(b:Int):=⟨dB.toNat,by omega⟩
 have hbl:b<(gt w.2.1 a).2.1.length:=by omega
 have hN:gN w (dk,(a:Int),(b:Int),dC,dt,du)=((w.1,w.2.1.set a (p6 (gt w.2.1 a) b dC),w.2.2.1,()),0):=by
  unfold gN;show(bif dk==4 then _ else bif dk==5 then _ else bif dk==6 then _ else _)=_;rw[g4,g5,g6,show fF w (dk,(a:Int),(b:Int),dC,dt,du)=false by rw[hNo,gs,gb,gc];rfl];rfl
 have hs2:a<(w.2.1.set a ((gt w.2.1 a).1,(gt w.2.1 a).2.1.set b (eJ .u8 (gt (gt w.2.1 a).2.1 b).1 (IntKind.u8.wrap dC),(gt (gt w.2.1 a).2.1 b).2),(gt w.2.1 a).2.2)).length:=by rw[List.length_set];exact ha
 refine qf ?_;refine(aD ha).trans ?_;refine qz ?_;refine(aD ha).trans ?_;refine(aD hbl).trans ?_;refine(aD ha).trans ?_;refine(aD hbl).trans ?_;refine qz ?_;refine(aD ha).trans ?_;refine(aD hbl).trans ?_;refine(aD ha).trans ?_;refine(aD hbl).trans ?_;rw[yP];refine(aD hs2).trans ?_;rw[yP];refine qf ?_;rw[hN]
 have e:(w.2.1.set a ((gt w.2.1 a).1,(gt w.2.1 a).2.1.set b (eJ .u8 (gt (gt w.2.1 a).2.1 b).1 (IntKind.u8.wrap dC),(gt (gt w.2.1 a).2.1 b).2),(gt w.2.1 a).2.2)).set a ((gt (w.2.1.set a ((gt w.2.1 a).1,(gt w.2.1 a).2.1.set b (eJ .u8 (gt (gt w.2.1 a).2.1 b).1 (IntKind.u8.wrap dC),(gt (gt w.2.1 a).2.1 b).2),(gt w.2.1 a).2.2)) a).1,(gt (w.2.1.set a ((gt w.2.1 a).1,(gt w.2.1 a).2.1.set b (eJ .u8 (gt (gt w.2.1 a).2.1 b).1 (IntKind.u8.wrap dC),(gt (gt w.2.1 a).2.1 b).2),(gt w.2.1 a).2.2)) a).2.1,true,(gt (w.2.1.set a ((gt w.2.1 a).1,(gt w.2.1 a).2.1.set b (eJ .u8 (gt (gt w.2.1 a).2.1 b).1 (IntKind.u8.wrap dC),(gt (gt w.2.1 a).2.1 b).2),(gt w.2.1 a).2.2)) a).2.2.2)=w.2.1.set a (p6 (gt w.2.1 a) b dC):=by
  rw[bO (xs:=w.2.1) (i:=a) ha,List.set_set];rfl
 exact congrArg (λq:List dD=>(some (DA ((w.1,q,w.2.2.1,()),0)):Option Out)) e
end Go.Abs.Pz
/- FnSpoiltNothing: a spoilt pack changes no node and is removed. -/
set_option maxHeartbeats 4000000
namespace Go.Abs.Pz
open Go Go.Abs
theorem f21(b:List aH)(i:Int)(h:0<=i):∃ x:Int,Ran p 1 21 [vf K22 (b,()), vf K3 (i,())] (rO K3 (x,())):=by
 obtain⟨j,rfl⟩:∃ j:Nat,i=j:=⟨i.toNat,by omega⟩
 by_cases hi:(j:Int)<(b.length:Int)
 ·have hj:j<b.length:=by omega
  exact⟨_,go21 λn hn=>Ev.now λaA=>by unfold T21;refine qP hi ?_;refine qz ?_;refine(aD hj).trans ?_;rfl⟩
 ·exact⟨_,go21 λn hn=>Ev.now λaA=>by unfold T21;refine qN hi ?_;refine qN (by decide) ?_;rfl⟩
theorem f22(b:List aH)(hb:b.length<=1048576):∃ (w:aV) (e:fO),Ran p 18 22 [vf K22 (b,())] ⟨[⟨K28,w⟩,⟨K36,e⟩],[]⟩/\SzY w/\PkA w:=by
 obtain⟨o,⟨w,e,rfl,hw,hp⟩,hL⟩:=It.new (lvl:=18 - 1) (c:=λn aA (_:Unit)=>c22_10003 (aI p n) aA b) (λo=>∃ (w:aV) (e:fO),o=⟨[⟨K28,w⟩,⟨K36,e⟩],[]⟩/\SzY w/\PkA w) b hb (λi h hi h4=>⟨_,λn hn aA a rec=>by
   unfold c22_10003;dsimp only;rw[aF (show i<9223372036854775807 by omega)];refine ql hi ?_;refine qP (show(i:Int)<4000 by omega) ?_;refine qz ?_;refine(aD hi).trans ?_;rfl⟩) (λh i hc hi=>by
   obtain⟨w,d1,h1,k1,hw,hp⟩:=IQ _ hc
   obtain⟨x2,d2,h2,k2,_⟩:=f41 _ 10 k1
   obtain⟨x3,d3,h3,k3,_⟩:=f41 _ 7 k2
   obtain⟨x4,d4,h4,k4,_⟩:=f41 _ 5 k3
   obtain⟨x5,d5,h5,k5,_⟩:=f41 _ 5 k4
   by_cases h0:(w.1.length:Int)>0
   ·obtain⟨x6,d6,h6,k6⟩:=f69 _ 3 k5
    cases x6 with
    | false=>
     obtain⟨e,d7,h7,k7⟩:=f70 _ w k6
     exact⟨_,⟨w,e,rfl,hw,hp⟩,λn hn=>⟨0,λaA _ a rec=>by
      unfold c22_10003;refine(AX hi).trans ?_;refine qR h1 ?_;refine qR h2 ?_;refine qR h3 ?_;refine qR h4 ?_;refine qR h5 ?_;refine qP h0 ?_;refine qR h6 ?_;refine qt ?_;refine qR h7 ?_;rfl⟩⟩
    | true=>
     exact⟨_,⟨w,_,rfl,hw,hp⟩,λn hn=>⟨0,λaA _ a rec=>by
      unfold c22_10003;refine(AX hi).trans ?_;refine qR h1 ?_;refine qR h2 ?_;refine qR h3 ?_;refine qR h4 ?_;refine qR h5 ?_;refine qP h0 ?_;refine qR h6 ?_;refine qf ?_;rfl⟩⟩
   ·exact⟨_,⟨w,_,rfl,hw,hp⟩,λn hn=>⟨0,λaA _ a rec=>by
     unfold c22_10003;refine(AX hi).trans ?_;refine qR h1 ?_;refine qR h2 ?_;refine qR h3 ?_;refine qR h4 ?_;refine qR h5 ?_;refine qN h0 ?_;rfl⟩⟩) (i64.wrap (26583+(b.length:Int)))
 exact⟨w,e,go22 λn hn=>Ev.eq (λaA=>by unfold T22;rfl) ((hL n (by omega)).ev (i:=()) rfl),hw,hp⟩
def spD(B C:Int):fO:=((7:Int),(0:Int),B,C,(⟨#[]⟩:ByteArray),())
def gvD:fO:=((4:Int),(0:Int),(0:Int),(0:Int),(⟨#[]⟩:ByteArray),())
def spW(w:aV)(b:Nat)(C:Int):aV:=(w.1,w.2.1.set 0 (p6 (gt w.2.1 0) b C),w.2.2.1,())
structure SpOk (w:aV) (b:Nat) (C:Int):Prop where
 ok:cE w=true
 net:0<w.2.1.length
 at_:b<(gt w.2.1 0).2.1.length
 flag:(gt w.2.1 0).2.2.1=false
 c:1<=C/\C<=255
theorem in0{n:Nat}(h:n<=1000):inB 0 0 (i64.wrap ((n:Int) - 1))=true↔0<n:=by rw[aL,IntKind.wrap_i64];omega
theorem LT(w:aV)(hz:SzY w)(B C:Int):((doW w (spD B C)).2≠0/\(doW w (spD B C)).1=w)\/∃ b:Nat,B=(b:Int)/\SpOk w b C/\doW w (spD B C)=(spW w b C,0):=by
 cases ho:cE w with
 | false=>rw[show doW w (spD B C)=(w,1) by unfold doW;rw[ho];rfl];exact .inl ⟨by show(1:Int)≠0;decide,rfl⟩
 | true=>
 have hl:=lR ho
 cases ha:inB 0 0 (i64.wrap ((w.2.1.length:Int) - 1))with
 | false=>
  rw[show doW w (spD B C)=(w,1) by unfold doW;rw[ho];show(bif !inB 0 0 (i64.wrap ((w.2.1.length:Int) - 1))then(w,(1:Int))else _)=_;rw[ha];rfl]
  exact .inl ⟨by show(1:Int)≠0;decide,rfl⟩
 | true=>
 have h0:=(in0 (by omega)).1 ha
 have hd:doW w (spD B C)=bif fF w (spD B C)then(w,2)else(spW w B.toNat C,0):=by
  unfold doW;rw[ho];show(bif !inB 0 0 (i64.wrap ((w.2.1.length:Int) - 1))then(w,(1:Int))else _)=_;rw[ha];rfl
 rw[hd]
 cases hn:fF w (spD B C)with
 | true=>exact .inl ⟨by show(2:Int)≠0;decide,rfl⟩
 | false=>
  have hn':((gt w.2.1 0).2.2.1||(!inB B 0 (i64.wrap ((((gt w.2.1 0).2.1.length:Nat):Int) - 1))|| !inB C 1 255))=false:=hn
  simp only[Bool.or_eq_false_iff,Bool.not_eq_false',aL] at hn'
  have hq:(gt w.2.1 0).2.1.length<=1048576:=(hz.pk h0).len
  obtain⟨h1,h2,h3⟩:=hn'
  rw[IntKind.wrap_i64] at h2
  exact .inr ⟨B.toNat,by omega,⟨ho,h0,by omega,h1,h3⟩,rfl⟩
theorem VV{a b:Nat}(ha:a<256)(hb:b<256):eJ .u8 (a:Int) (b:Int)=((a ^^^ b:Nat):Int):=by
 have h:a ^^^ b<2 ^ 8:=Nat.xor_lt_two_pow (by omega) (by omega)
 unfold eJ
 have e1:(BitVec.ofInt IntKind.u8.bits (a:Int)).toNat=a:=by
  rw[BitVec.toNat_ofInt];show((a:Int) % ((2 ^ 8:Nat):Int)).toNat=a;omega
 have e2:(BitVec.ofInt IntKind.u8.bits (b:Int)).toNat=b:=by
  rw[BitVec.toNat_ofInt];show((b:Int) % ((2 ^ 8:Nat):Int)).toNat=b;omega
 show IntKind.u8.wrap (((BitVec.ofInt IntKind.u8.bits (a:Int) ^^^ BitVec.ofInt IntKind.u8.bits (b:Int)).toNat:Nat):Int)=_
 rw[BitVec.toNat_xor,e1,e2,IntKind.wrap_u8]
 omega
theorem RT{a:Nat}{C:Int}(ha:a<=255)(hC:1<=C/\C<=255):(∃ y:Nat,eJ .u8 (a:Int) (IntKind.u8.wrap C)=(y:Int)/\y<=255)/\eJ .u8 (a:Int) (IntKind.u8.wrap C)≠(a:Int):=by
 obtain⟨c,rfl⟩:∃ c:Nat,C=c:=⟨C.toNat,by omega⟩
 rw[show IntKind.u8.wrap (c:Int)=(c:Int) by rw[IntKind.wrap_u8];omega,VV (by omega) (by omega)]
 have h:a ^^^ c<2 ^ 8:=Nat.xor_lt_two_pow (by omega) (by omega)
 refine⟨⟨_,rfl,by omega⟩,λe=>?_⟩
 have e1:a ^^^ c=a:=by omega
 have e2:=congrArg (λx=>a ^^^ x) e1
 simp only[<- Nat.xor_assoc,Nat.xor_self,Nat.zero_xor] at e2
 omega
theorem LS{w:aV}(hz:SzY w)(hp:PkA w){b:Nat}{C:Int}(h:SpOk w b C):bW (gt (spW w b C).2.1 0).2.1=none:=by
 show bW (gt (w.2.1.set 0 (p6 (gt w.2.1 0) b C)) 0).2.1=none
 rw[bO h.net]
 show bW ((gt w.2.1 0).2.1.set b (eJ .u8 (gt (gt w.2.1 0).2.1 b).1 (IntKind.u8.wrap C),(gt (gt w.2.1 0).2.1 b).2))=none
 have hat:=h.at_
 obtain⟨y,hy,hy2⟩:=(hz.pk h.net).by_ _ (bR hat)
 have hx:=RT hy2 h.c
 rcases hp _ (bR h.net)with e | ⟨m,e⟩ | e
 ·rw[h.flag] at e;cases e
 ·rw[e] at hat hy ⊢
  rw[hy]
  exact HM hx.1 hat (by rw[hy];exact hx.2)
 ·rw[e]
  unfold bW
  rw[List.length_set];rfl
theorem UP{w:aV}{b:Nat}{C:Int}(h:SpOk w b C):WOk (spW w b C):=by
 have hw:=(yN w).1 h.ok
 refine⟨hw.n,by show(List.set _ _ _).length<=12;rw[List.length_set];exact hw.net,hw.said,hw.node,λp hp=>?_,hw.part⟩
 rcases List.mem_or_eq_of_mem_set hp with h1 | h1
 ·exact hw.to p h1
 ·rw[h1];exact(hw.to (gt w.2.1 0) (bR h.net):_)
def gvW(w:aV):aV:=(w.1,dP w.2.1 0,w.2.2.1,())
theorem KR{w:aV}(hw:WOk w)(h0:0<w.2.1.length)(hm:bW (gt w.2.1 0).2.1=none):doW w gvD=(gvW w,0):=by
 have hn:=hw.net
 have ht:=hw.to _ (bR h0)
 unfold doW;rw[(yN w).2 hw]
 show(bif !inB 0 0 (i64.wrap ((w.2.1.length:Int) - 1))then(w,(1:Int))else(qW w 0,0))=_
 rw[(in0 (by omega)).2 h0]
 show(qW w 0,(0:Int))=_
 unfold qW
 rw[iK hm]
 show((w.1.set (gt w.2.1 0).1.toNat (gt w.1 (gt w.2.1 0).1.toNat),dP w.2.1 0,w.2.2.1,()),(0:Int))=_
 rw[FM (by omega)];rfl
theorem FH{w:aV}(hw:WOk w)(h0:0<w.2.1.length)(hf:(gt w.2.1 0).2.2.1=true):doW w (spD 0 7)=(w,2):=by
 have hn:=hw.net
 unfold doW;rw[(yN w).2 hw]
 show(bif !inB 0 0 (i64.wrap ((w.2.1.length:Int) - 1))then(w,(1:Int))else bif fF w (spD 0 7)then(w,2)else _)=_
 rw[(in0 (by omega)).2 h0,show fF w (spD 0 7)=true by unfold fF;show((gt w.2.1 0).2.2.1||_)=true;rw[hf];rfl];rfl
theorem VD{w:aV}(hw:WOk w):WOk (gvW w):=
 ⟨hw.n,Nat.le_trans (i7 _ _) hw.net,hw.said,hw.node,λp hp=>hw.to p (kD hp),hw.part⟩
theorem law_spoilt(b:List aH)(ho:pS K22 (b,())):Ran p 19 5 [vf K22 (b,())] lC:=by
 have h1:=f8 b
 by_cases hb:(b.length:Int)>1048576
 ·rw[decide_eq_true hb] at h1
  exact go5 λn hn=>Ev.now λaA=>by unfold T5;refine qC h1 ?_;rfl
 rw[decide_eq_false hb] at h1
 obtain⟨w,e0,h2,hz,hp⟩:=f22 b (by omega)
 obtain⟨x2,h3⟩:=f21 b 2 (by omega)
 obtain⟨x3,h4⟩:=f21 b 3 (by omega)
 have n60:¬ ((60:Int)=0):=by omega
 have n255:¬ ((255:Int)=0):=by omega
 generalize hB:x2.tmod 60=B
 generalize hC:i64.wrap (1+x3.tmod 255)=C
 have h5:=ES w (spD B C) hz (by show(4:Int)<=7;omega) (λh=>absurd h (by show ¬ (7:Int)=4;omega))
 have h6:=f13 w (spD B C) hz
 rcases LT w hz B C with ⟨hc,hs⟩ | ⟨j,hj,S,hd⟩
 ·have h9:=f16 w hz.toSzX
  generalize hR:doW w (spD B C)=R at h5 h6 hc hs
  obtain⟨X,cd⟩:=R
  have hs:X=w:=hs
  subst hs
  have hcn:(cd != 0)=true:=by simpa using hc
  exact go5 λn hn=>Ev.now λaA=>by
   unfold T5;refine qC h1 ?_;refine qf ?_;refine qD h2 ?_;refine qC h3 ?_;refine qN n60 ?_;refine qC h4 ?_;refine qN n255 ?_
   rw[show(vI x2).tmod 60=B from hB,show i64.wrap ((1:Int)+(vI x3).tmod 255)=C from hC]
   refine qD h5 ?_;refine qC h3 ?_;refine qN n60 ?_;refine qC h4 ?_;refine qN n255 ?_
   rw[show(vI x2).tmod 60=B from hB,show i64.wrap ((1:Int)+(vI x3).tmod 255)=C from hC]
   refine qD h6 ?_;refine qF (pN _) ?_;refine qT hcn ?_;refine qC h9 ?_;rfl
 ·rw [hd] at h5 h6
  have hw:=UP S
  have hzX:SzY (spW w j C):=by have:=JD hz (spD B C);rw[hd] at this;exact this
  have hlX:(spW w j C).2.1.length=w.2.1.length:=List.length_set ..
  have h0X:0<(spW w j C).2.1.length:=by rw[hlX];exact S.net
  have hno:=LS hz hp S
  have hfl:(gt (spW w j C).2.1 0).2.2.1=true:=by
   show(gt (w.2.1.set 0 (p6 (gt w.2.1 0) j C)) 0).2.2.1=true
   rw[bO S.net];rfl
  have h11:=f23 (gt w.2.1 0).2.1 (hz.pk S.net).by_.b8 (hz.pk S.net).len
  have h12:=ES (spW w j C) gvD hzX (by show(4:Int)<=4;omega) (λ_ _ _=>hno)
  have h13:=ES (spW w j C) (spD 0 7) hzX (by show(4:Int)<=7;omega) (λh=>absurd h (by show ¬ (7:Int)=4;omega))
  rw[KR hw h0X hno] at h12
  rw[FH hw h0X hfl] at h13
  have hzY:SzY (gvW (spW w j C)):=by have:=JD hzX gvD;rw[KR hw h0X hno] at this;exact this
  have h17:=f10 (gvW (spW w j C)) hzY.toSzW
  rw[(yN _).2 (VD hw)] at h17
  have hlY:(gvW (spW w j C)).2.1.length+1=w.2.1.length:=by
   show(dP (spW w j C).2.1 0).length+1=_
   unfold dP;rw[List.length_append,List.length_take,List.length_drop,hlX];have:=S.net;omega
  have hwl:=lR S.ok
  have hlen:(((((gvW (spW w j C)).2.1.length:Nat):Int)) != i64.wrap ((w.2.1.length:Int) - 1))=false:=by
   rw[IntKind.wrap_i64];simp only[bne_eq_false_iff_eq];omega
  have hnod:(gvW (spW w j C)).1=w.1:=rfl
  rw[CR] at h11
  generalize gvW (spW w j C)=Y at h12 h17 hlY hlen hnod hzY
  generalize spW w j C=X at h5 h6 h12 h13
  refine go5 λn hn=>?_
  have lp:It (λaA (_:Unit)=>c5_16 (aI p n) aA (((bW (gt w.2.1 0).2.1).getD AC,((bW (gt w.2.1 0).2.1).isSome,()),()),()) ((Y,((0:Int),()),()),()) ((w,e0,()),())) (0:Int) (λ_=>some lC):=by
   cases hr:(bW (gt w.2.1 0).2.1).isSome with
   | false=>
    refine It.stop λaA u rec=>?_
    unfold c5_16
    by_cases hk:(0:Int)<(w.1.length:Int)
    ·refine qP hk ?_;refine qf ?_;refine qC h17 ?_;rfl
    ·refine qN hk ?_;refine qC h17 ?_;rfl
   | true=>
    refine It.run (λi=>(i:Int)) w.1.length (λk hk aA u rec=>?_) (It.stop λaA u rec=>?_)
    ·have hk2:k<Y.1.length:=by rw[hnod];exact hk
     have h18:=f24 (gt w.1 k) (gt w.1 k) (hz.node k hk)
     rw[xP] at h18
     unfold c5_16;rw[aF (show k<9223372036854775807 by omega)];refine ql hk ?_;refine qt ?_;refine qz ?_;refine(aD hk2).trans ?_;refine(aD hk2).trans ?_;refine qz ?_;refine(aD hk).trans ?_;rw[show gt (α:=NodeT) Y.1 k=gt w.1 k by rw[hnod]];refine qC h18 ?_;rfl
    ·unfold c5_16;refine qe ?_;refine qC h17 ?_;rfl
  exact Ev.eq (λaA=>by
   unfold T5;refine qC h1 ?_;refine qf ?_;refine qD h2 ?_;refine qC h3 ?_;refine qN n60 ?_;refine qC h4 ?_;refine qN n255 ?_
   rw[show(vI x2).tmod 60=B from hB,show i64.wrap ((1:Int)+(vI x3).tmod 255)=C from hC]
   refine qD h5 ?_;refine qC h3 ?_;refine qN n60 ?_;refine qC h4 ?_;refine qN n255 ?_
   rw[show(vI x2).tmod 60=B from hB,show i64.wrap ((1:Int)+(vI x3).tmod 255)=C from hC]
   refine qD h6 ?_;refine qF (pN _) ?_;refine qf ?_;refine qP (show(0:Int)<=0 by omega) ?_;refine(a9 S.net).trans ?_;refine qD h11 ?_;refine qD h12 ?_;refine qD h13 ?_;refine qf ?_;refine qf ?_;refine qF hlen ?_;rfl) (lp.ev (i:=()) rfl)
end Go.Abs.Pz
