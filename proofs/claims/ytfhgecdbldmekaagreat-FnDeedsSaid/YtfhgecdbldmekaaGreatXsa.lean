/- What the functions of this program answer, part sa. -/
import Derived.Test.YtfhgecdbldmekaaGreatW3
import Derived.Test.YtfhgecdbldmekaaGreatXep
import Derived.Test.YtfhgecdbldmekaaGreatXrc
set_option linter.unusedVariables false
set_option maxHeartbeats 2000000
open Go.IntKind (i64)
namespace Go.Abs.Pz
open Go Go.Abs
theorem DM(ls:List aH):(aG (ls.length:Int)++bX ls.length λi=>aG (gt ls i).1)=dN ls:=by
 unfold dN dG;rw[cI (λx:aH=>aG x.1) ls]
theorem f281(ls:List aH)(hl:ls.length<=100):Ran p 3 281 [vf K38 (ls,())] (rO K22 (dN ls,())):=go281 λn hn=>by
 have hp:=bB (ls.length:Int)
 have lp:It (λaA (_:Unit)=>c281_3 (aJ p n) aA ls) ((0:Int),aG (ls.length:Int)) (λ_=>oL (dN ls)):=by
  refine It.accu (α:=aH) (aG (ls.length:Int)) (λi=>aG (gt ls i).1) ls.length 5 (λi hi=>bB _) (λi hi acc ha aA a rec=>?_) (It.stop λaA a rec=>?_)
  ·unfold c281_3;dsimp only;rw[aF (show i<9223372036854775807 by omega)];refine ql hi ?_;refine qz ?_;refine(aD hi).trans ?_;refine qC (f275 (gt ls i).1) ?_
   refine qC (f204 [(acc,()),(aG (gt ls i).1,())] 2000 (lL (by
    intro r hr;simp only[List.mem_cons,List.not_mem_nil,or_false] at hr
    rcases hr with rfl | rfl
    ·show acc.length<=2000;omega
    ·exact dY (by decide))) (by show 2*2000<=4294967296;omega) (by show 2<=9223372036854775807;omega)) ?_
   exact congrArg (λl:List aH=>rec (((i+1:Nat):Int),l)) (by simp:List.flatMap (λr:bT=>r.1) [(acc,()),(aG (gt ls i).1,())]=acc++aG (gt ls i).1)
  ·unfold c281_3;refine qe ?_;exact congrArg oL (DM ls)
 exact Ev.eq (λaA=>by unfold T281;refine qC (f275 (ls.length:Int)) ?_;rfl) (lp.ev (i:=()) rfl)
theorem f247(ls:List aH)(hl:ls.length<=100):Ran p 3 247 [vf K38 (ls,())] (rO K22 (dN ls,())):=go247 λn hn=>by
 have hp:=bB (ls.length:Int)
 have lp:It (λaA (_:Unit)=>c247_3 (aJ p n) aA ls) ((0:Int),aG (ls.length:Int)) (λ_=>oL (dN ls)):=by
  refine It.accu (α:=aH) (aG (ls.length:Int)) (λi=>aG (gt ls i).1) ls.length 5 (λi hi=>bB _) (λi hi acc ha aA a rec=>?_) (It.stop λaA a rec=>?_)
  ·replace ha:acc.length+(aG (gt ls i).1).length<=(aG (ls.length:Int)).length+ls.length*5:=ha
   unfold c247_3;dsimp only;rw[aF (show i<9223372036854775807 by omega)];refine ql hi ?_;refine qz ?_;refine(aD hi).trans ?_;refine qC (f245 (gt ls i).1) ?_;refine qP (by show acc.length+(aG (gt ls i).1).length<=4294967296;omega) ?_;rfl
  ·unfold c247_3;refine qe ?_;exact congrArg oL (DM ls)
 exact Ev.eq (λaA=>by unfold T247;refine qC (f245 (ls.length:Int)) ?_;rfl) (lp.ev (i:=()) rfl)
theorem f282(b:List aH)(hb:ByL b)(hl:b.length<=aV):Ran p 2 282 [vf K22 (b,())] (rO K22 (vA b,())):=go282 λn hn=>Ev.now λaA=>by
 have h:=J8 hb
 unfold T282;refine qC (f272 b (Nat.le_trans hl (by decide))) ?_;refine qN (by decide) ?_;refine qN (by decide) ?_;refine qN (by decide) ?_;exact congrArg oL (O8 h.2 h.1)
theorem f71(b:List aH)(hb:ByL b)(hl:b.length<=aV):Ran p 2 71 [vf K22 (b,())] (rO K22 (vA b,())):=go71 λn hn=>Ev.now λaA=>by
 have h:=J8 hb
 unfold T71;refine qC (f162 b (Nat.le_trans hl (by decide))) ?_;refine qN (by decide) ?_;refine qN (by decide) ?_;refine qN (by decide) ?_;refine qN (by decide) ?_;refine qN (by decide) ?_;refine qN (by decide) ?_;exact congrArg oL (O7 h.2 h.1)
-- the body of a message, as both write it
def pJ(m:MsgT):List aH:=rk2++dG (fT m)++dN m.tree.1++aG m.tree.2.1++dN m.vec++dN m.leaves++aG (((bO m.part).length:Nat):Int)
theorem H2(m:MsgT):pJ m++bO m.part++aG (m.marks.length:Int)++m.marks.flatMap aY=eH m:=by
 unfold pJ eH tT;simp only[List.append_assoc]
structure BodyL (m:MsgT):Prop where
 h5:(dG (fT m)).length<=25
 a:(dN m.tree.1).length<=25
 b:(aG m.tree.2.1).length<=5
 c:(dN m.vec).length<=30
 d:(dN m.leaves).length<=25
 e:(aG (((bO m.part).length:Nat):Int)).length<=5
 f:(bO m.part).length<=250
 g:(aG (m.marks.length:Int)).length<=5
 k:m.marks.length<=5
theorem w4(ls:List aH):(dN ls).length<=5+ls.length*5:=by
 have h1:=bB (ls.length:Int);have h2:=mP ls
 unfold dN;rw[List.length_append];omega
theorem UJ{m:MsgT}(h:MsgR m):BodyL m:=by
 have h1:=w4 m.tree.1;have h2:=w4 m.vec;have h3:=w4 m.leaves
 have l1:=h.tree.1;have l2:=h.vec.1;have l3:=h.leaves.1
 exact⟨mP (fT m),by omega,bB _,by omega,by omega,bB _,pI ((aP _).1 h.part),bB _,h.marks.1⟩
theorem f169(m:MsgT)(h:dZ m=true):Ran p 5 169 [va K53 m] (rO K22 (eH m,())):=go169 λn hn=>by
 have hr:=qA h
 have L:=UJ hr
 have l1:=L.h5;have l2:=L.a;have l3:=L.b;have l4:=L.c;have l5:=L.d;have l6:=L.e;have l7:=L.f;have l8:=L.g;have l9:=L.k
 have t1:=hr.tree.1;have t2:=hr.vec.1;have t3:=hr.leaves.1
 have l0:rk2.length=2:=rfl
 have hok:StateOk m.part:=(aP _).1 hr.part
 have mk:∀ pre:List aH,pre.length<=1000->It (λaA (_:Unit)=>c169_16 (aJ p n) aA m) ((0:Int),pre) (λ_=>oL (pre++m.marks.flatMap aY)):=by
  intro pre hp
  refine It.accu (α:=aH) pre (λi=>aY (gt m.marks i)) m.marks.length 10 (λi hi=>f6 _) (λi hi acc ha aA a rec=>?_) (It.stop λaA a rec=>?_)
  ·have ha':acc.length+(aY (gt m.marks i)).length<=1050:=by omega
   unfold aY at ha';rw[List.length_append] at ha'
   unfold c169_16;dsimp only;rw[aF (show i<9223372036854775807 by omega)];refine ql hi ?_;refine qz ?_;refine(aD hi).trans ?_;refine qC (f245 (gt m.marks i).1) ?_;refine qP (by show acc.length+(aG (gt m.marks i).1).length<=4294967296;omega) ?_;refine qz ?_;refine(aD hi).trans ?_;refine qC (f245 (gt m.marks i).2.1) ?_
   refine qP (by show(acc++aG (gt m.marks i).1).length+(aG (gt m.marks i).2.1).length<=4294967296;rw[List.length_append];omega) ?_
   exact congrArg (λl:List aH=>rec (((i+1:Nat):Int),l)) (List.append_assoc _ _ _)
  ·unfold c169_16;refine qe ?_;exact congrArg (λl:List aH=>oL (pre++l)) (cI aY m.marks)
 have body0:=mk (pJ m++bO m.part++aG (m.marks.length:Int)) (by unfold pJ;simp only[List.length_append];dsimp only[MsgT.tree] at*;omega)
 rw[H2] at body0
 have lp:It (λaA (_:Unit)=>c169_4 (aJ p n) aA m) ((0:Int),rk2) (λ_=>oL (eH m)):=by
  refine It.accu (α:=aH) rk2 (λi=>aG (gt (fT m) i).1) 5 5 (λi hi=>bB _) (λi hi acc ha aA a rec=>?_)
   (It.stopE (T:=λaA _=>iter (c169_16 (aJ p n) aA m) aA ((0:Int),pJ m++bO m.part++aG (m.marks.length:Int))) (λaA a rec=>?_) body0.all_i)
  ·replace ha:acc.length+(aG (gt (fT m) i).1).length<=2+5*5:=ha
   have hi5:i<(fT m).length:=hi
   unfold c169_4;dsimp only;rw[aF (show i<9223372036854775807 by omega)];refine ql hi5 ?_;refine qz ?_;refine(aD hi5).trans ?_;refine(aD hi5).trans ?_;refine qC (f245 (gt (fT m) i).1) ?_;refine qP (by show acc.length+(aG (gt (fT m) i).1).length<=4294967296;omega) ?_;rfl
  ·have e0:(rk2++bX 5 λi=>aG (gt (fT m) i).1)=rk2++dG (fT m):=congrArg (λl=>rk2++l) (cI (λx:aH=>aG x.1) (fT m))
   show c169_4 (aJ p n) aA m rec (((5:Nat):Int),rk2++bX 5 λi=>aG (gt (fT m) i).1)=_
   rw[e0]
   have b1:(rk2++dG (fT m)).length+(dN m.tree.1).length<=bound:=by unfold bound;simp only[List.length_append];dsimp only[MsgT.tree] at*;omega
   have b2:(rk2++dG (fT m)++dN m.tree.1).length+(aG m.tree.2.1).length<=bound:=by unfold bound;simp only[List.length_append];dsimp only[MsgT.tree] at*;omega
   have b3:(rk2++dG (fT m)++dN m.tree.1++aG m.tree.2.1).length+(dN m.vec).length<=bound:=by unfold bound;simp only[List.length_append];dsimp only[MsgT.tree] at*;omega
   have b4:(rk2++dG (fT m)++dN m.tree.1++aG m.tree.2.1++dN m.vec).length+(dN m.leaves).length<=bound:=by unfold bound;simp only[List.length_append];dsimp only[MsgT.tree] at*;omega
   have b5:(rk2++dG (fT m)++dN m.tree.1++aG m.tree.2.1++dN m.vec++dN m.leaves).length+(aG (((bO m.part).length:Nat):Int)).length<=bound:=by unfold bound;simp only[List.length_append];dsimp only[MsgT.tree] at*;omega
   have b6:(pJ m).length+(bO m.part).length<=bound:=by unfold bound pJ;simp only[List.length_append];dsimp only[MsgT.tree] at*;omega
   have b7:(pJ m++bO m.part).length+(aG (m.marks.length:Int)).length<=bound:=by unfold bound pJ;simp only[List.length_append];dsimp only[MsgT.tree] at*;omega
   unfold c169_4;dsimp only;refine qN (show ¬ ((5:Int)<5) by decide) ?_;refine qC (f247 m.tree.1 (by omega)) ?_;refine qP b1 ?_;refine qC (f245 m.tree.2.1) ?_;refine qP b2 ?_;refine qC (f247 m.vec (by omega)) ?_;refine qP b3 ?_;refine qC (f247 m.leaves (by omega)) ?_;refine qP b4 ?_;refine qC (f165 m.part hok) ?_;refine qC (f245 (((bO m.part).length:Nat):Int)) ?_;refine qP b5 ?_;refine qP b6 ?_;refine qC (f245 (m.marks.length:Int)) ?_;refine qP b7 ?_;rfl
 exact Ev.eq (λaA=>by unfold T169;rfl) (lp.ev (i:=()) rfl)
theorem yQ{m:MsgT}(h:dZ m=false):bD m=[]:=by unfold bD;rw[h];rfl
theorem f76(m:MsgT)(hz:SzM m):Ran p 6 76 [va K53 m] (rO K22 (bD m,())):=go76 λn hn=>Ev.now λaA=>by
 unfold T76;refine qC (f75 m hz) ?_
 cases h:dZ m with
 | false=>refine qt ?_;rw[yQ h];rfl
 | true=>
  have hl:=CB (qA h)
  have hb:(eH m).length+(vA (eH m)).length<=bound:=by rw[u9];unfold bound;omega
  rw[lQ h];refine qf ?_;refine qC (f169 m h) ?_;refine qC (f71 (eH m) (wH m) (Nat.le_trans hl (by decide))) ?_;refine qP hb ?_;rfl
theorem f211(m:MsgT)(hz:SzM m):Ran p 5 211 [va K53 m] (rO K22 (bD m,())):=go211 λn hn=>by
 cases h:dZ m with
 | false=>exact Ev.now λaA=>by unfold T211;refine qC (f209 m hz) ?_;rw[h];refine qt ?_;rw[yQ h];rfl
 | true=>
  have hr:=qA h
  have L:=UJ hr
  have l1:=L.h5;have l2:=L.a;have l3:=L.b;have l4:=L.c;have l5:=L.d;have l6:=L.e;have l7:=L.f;have l8:=L.g;have l9:=L.k
  have t1:=hr.tree.1;have t2:=hr.vec.1;have t3:=hr.leaves.1
  have l0:rk2.length=2:=rfl
  have hok:StateOk m.part:=(aP _).1 hr.part
  have hl:=CB hr
  have mk:∀ pre:List aH,pre.length<=1000->pre++m.marks.flatMap aY=eH m->It (λaA (_:Unit)=>c211_6 (aJ p n) aA m) ((0:Int),pre) (λ_=>oL (c6 m)):=by
   intro pre hp he
   refine It.accu (α:=aH) pre (λi=>aY (gt m.marks i)) m.marks.length 10 (λi hi=>f6 _) (λi hi acc ha aA a rec=>?_) (It.stop λaA a rec=>?_)
   ·unfold c211_6;dsimp only;rw[aF (show i<9223372036854775807 by omega)];refine ql hi ?_;refine qz ?_;refine(aD hi).trans ?_;refine qC (f275 (gt m.marks i).1) ?_;refine qC (f275 (gt m.marks i).2.1) ?_
    refine qC (f204 [(acc,()),(aG (gt m.marks i).1,()),(aG (gt m.marks i).2.1,())] 2000 (lL (by
     intro r hr;simp only[List.mem_cons,List.not_mem_nil,or_false] at hr
     rcases hr with rfl | rfl | rfl
     ·show acc.length<=2000;omega
     ·exact dY (by decide)
     ·exact dY (by decide))) (by show 3*2000<=4294967296;omega) (by show 3<=9223372036854775807;omega)) ?_
    exact congrArg (λl:List aH=>rec (((i+1:Nat):Int),l)) (by simp[aY]:List.flatMap (λr:bT=>r.1) [(acc,()),(aG (gt m.marks i).1,()),(aG (gt m.marks i).2.1,())]=acc++aY (gt m.marks i))
   ·have e1:(pre++bX m.marks.length λi=>aY (gt m.marks i))=eH m:=(congrArg (λl=>pre++l) (cI aY m.marks)).trans he
    show c211_6 (aJ p n) aA m rec ((m.marks.length:Int),pre++bX m.marks.length λi=>aY (gt m.marks i))=_
    rw[e1]
    unfold c211_6;refine qe ?_;refine qC (f282 (eH m) (wH m) (Nat.le_trans hl (by decide))) ?_
    refine qC (f204 [(eH m,()),(vA (eH m),())] 2000 (lL (by
     intro r hr;simp only[List.mem_cons,List.not_mem_nil,or_false] at hr
     rcases hr with rfl | rfl
     ·show(eH m).length<=2000;omega
     ·show(vA (eH m)).length<=2000;rw[u9];omega)) (by show 2*2000<=4294967296;omega) (by show 2<=9223372036854775807;omega)) ?_
    exact congrArg oL (by simp[c6]:List.flatMap (λr:bT=>r.1) [(eH m,()),(vA (eH m),())]=c6 m)
  have hP:(List.flatMap (λr:bT=>r.1) [(rk2,()),(aG m.1,()),(aG m.2.1,()),(aG m.2.2.1,()),(aG m.2.2.2.1,()),(aG m.hi,()),(dN m.tree.1,()),(aG m.tree.2.1,()),(dN m.vec,()),(dN m.leaves,()),(aG (((bO m.part).length:Nat):Int),()),(bO m.part,()),(aG (m.marks.length:Int),())])=pJ m++bO m.part++aG (m.marks.length:Int):=by
   unfold pJ dG fT;simp only[List.flatMap_cons,List.flatMap_nil,List.append_assoc,List.append_nil]
  have body0:=mk (pJ m++bO m.part++aG (m.marks.length:Int)) (by unfold pJ;simp only[List.length_append];dsimp only[MsgT.tree] at*;omega) (H2 m)
  rw[lQ h]
  exact Ev.eq (λaA=>by
   unfold T211;refine qC (f209 m hz) ?_;rw[h];refine qf ?_;refine qC (f273 m.part hok) ?_;refine qP (show 0<2 by decide) ?_
   refine qC (f275 m.1) ?_;refine qC (f275 m.2.1) ?_;refine qC (f275 m.2.2.1) ?_;refine qC (f275 m.2.2.2.1) ?_;refine qC (f275 m.hi) ?_;refine qC (f281 m.tree.1 (by omega)) ?_;refine qC (f275 m.tree.2.1) ?_;refine qC (f281 m.vec (by omega)) ?_;refine qC (f281 m.leaves (by omega)) ?_;refine qC (f275 (((bO m.part).length:Nat):Int)) ?_;refine qC (f275 (m.marks.length:Int)) ?_
   refine qC (f204 [(rk2,()),(aG m.1,()),(aG m.2.1,()),(aG m.2.2.1,()),(aG m.2.2.2.1,()),(aG m.hi,()),(dN m.tree.1,()),(aG m.tree.2.1,()),(dN m.vec,()),(dN m.leaves,()),(aG (((bO m.part).length:Nat):Int),()),(bO m.part,()),(aG (m.marks.length:Int),())] 2000 (lL (by
    intro r hr;simp only[List.mem_cons,List.not_mem_nil,or_false] at hr
    rcases hr with rfl | rfl | rfl | rfl | rfl | rfl | rfl | rfl | rfl | rfl | rfl | rfl | rfl
    ·show rk2.length<=2000;omega
    ·exact dY (by decide)
    ·exact dY (by decide)
    ·exact dY (by decide)
    ·exact dY (by decide)
    ·exact dY (by decide)
    ·show(dN m.tree.1).length<=2000;omega
    ·exact dY (by decide)
    ·show(dN m.vec).length<=2000;omega
    ·show(dN m.leaves).length<=2000;omega
    ·exact dY (by decide)
    ·show(bO m.part).length<=2000;omega
    ·exact dY (by decide))) (by show 13*2000<=4294967296;omega) (by show 13<=9223372036854775807;omega)) ?_
   exact congrArg (λl:List aH=>iter (c211_6 (aJ p n) aA m) aA ((0:Int),l)) hP) (body0.ev (i:=()) rfl)
end Go.Abs.Pz
namespace Go.Abs.Pz
open Go Go.Abs
theorem f353(a b:kN):Ran p 1 353 [va K46 a, va K46 b] (rO K38 (fS a b,())):=go353 λn hn=>by
 cases h0:a.2.1==b.2.1 with
 | true=>exact Ev.now λaA=>by unfold T353 fS;rw[h0];exact jW rfl
 | false=>
  have lp:It (λaA (_:Unit)=>c353_5 (aJ p n) aA a b) ((0:Int),([]:List aH)) (λ_=>rV K38 (bX 4 (eL a b),())):=by
   refine It.accu (α:=aH) [] (eL a b) 4 1 (λi _=>nQ a b i) (λi hi acc ha aA u rec=>?_) (It.stop λaA u rec=>?_)
   ·show c353_5 (aJ p n) aA a b rec ((i:Int),acc)=rec (((i+1:Nat):Int),acc++eL a b i)
    have hb:acc.length+1<=bound+(1 - (eL a b i).length):=by simp at ha;unfold bound;omega
    unfold c353_5;dsimp only;rw[aF (show i<9223372036854775807 by omega)];refine qP (show(i:Int)<4 by omega) ?_
    unfold eL at hb ⊢
    cases h1:(a.1.length:Int) != 4 with
    | true=>refine qT h1 ?_;refine qP (by rw[h1] at hb;exact hb) ?_;rfl
    | false=>
     refine qF h1 ?_
     cases h2:(b.1.length:Int) != 4 with
     | true=>refine qT h2 ?_;refine qP (by rw[h1,h2] at hb;exact hb) ?_;rfl
     | false=>
      have e1:a.1.length=4:=by rw[bne_eq_false_iff_eq] at h1;omega
      have e2:b.1.length=4:=by rw[bne_eq_false_iff_eq] at h2;omega
      refine qF h2 ?_;refine qz ?_;refine(aD (show i<a.1.length by omega)).trans ?_;refine qz ?_;refine(aD (show i<b.1.length by omega)).trans ?_
      cases h3:(gt a.1 i).1 != (gt b.1 i).1 with
      | true=>refine qt ?_;refine qP (by rw[h1,h2,h3] at hb;exact hb) ?_;rfl
      | false=>refine qf ?_;show rec _=rec _;rw[show(bif false then[((i:Int),())] else bif false then[((i:Int),())] else bif false then[((i:Int),())] else[])=([]:List aH)from rfl,List.append_nil];rfl
   ·unfold c353_5;dsimp only;refine qe ?_;rfl
  have e:fS a b=bX 4 (eL a b):=by unfold fS;rw[h0];rfl
  rw[e]
  exact Ev.eq (λaA=>by unfold T353;exact gR h0) (lp.ev (i:=()) rfl)
theorem f286(a b:kN):Ran p 1 286 [va K46 a, va K46 b] (rO K38 (fS a b,())):=go286 λn hn=>by
 cases h0:a.2.1==b.2.1 with
 | true=>exact Ev.now λaA=>by unfold T286 fS;rw[h0];exact jW rfl
 | false=>
  have lp:∀ q:Bool,q=((a.1.length:Int)==4&&(b.1.length:Int)==4)->It (λaA (_:Unit)=>c286_6 (aJ p n) aA a b) (q,(0:Int),([]:List aH)) (λ_=>rV K38 (bX 4 (eL a b),())):=by
   intro q hq
   have step:∀ i:Nat,i<4->∀ acc:List aH,acc.length+1<=bound->∀ aA rec,c286_6 (aJ p n) aA a b rec (q,(i:Int),acc)=rec (q,((i+1:Nat):Int),acc++eL a b i):=by
    intro i hi acc hb aA rec
    unfold c286_6;dsimp only;rw[aF (show i<9223372036854775807 by omega)];refine qP (show(i:Int)<4 by omega) ?_
    unfold eL
    cases h1:(a.1.length:Int)==4 with
    | false=>
     rw[h1] at hq;rw[hq];refine qt ?_;refine qP hb ?_;rw[show((a.1.length:Int) != 4)=true by unfold bne;rw[h1];rfl];rfl
    | true=>
     cases h2:(b.1.length:Int)==4 with
     | false=>rw[h1,h2] at hq;rw[hq];refine qt ?_;refine qP hb ?_;rw[show((a.1.length:Int) != 4)=false by unfold bne;rw[h1];rfl,show((b.1.length:Int) != 4)=true by unfold bne;rw[h2];rfl];rfl
     | true=>
      have e1:a.1.length=4:=by have:=eq_of_beq h1;omega
      have e2:b.1.length=4:=by have:=eq_of_beq h2;omega
      rw[h1,h2] at hq;rw[hq];refine qf ?_;refine qz ?_;refine(aD (show i<a.1.length by omega)).trans ?_;refine qz ?_;refine(aD (show i<b.1.length by omega)).trans ?_
      rw[show((a.1.length:Int) != 4)=false by unfold bne;rw[h1];rfl,show((b.1.length:Int) != 4)=false by unfold bne;rw[h2];rfl]
      cases h3:(gt a.1 i).1 != (gt b.1 i).1 with
      | true=>refine qt ?_;refine qP hb ?_;rfl
      | false=>refine qf ?_;show rec _=rec _;rw[show(bif false then[((i:Int),())] else bif false then[((i:Int),())] else bif false then[((i:Int),())] else[])=([]:List aH)from rfl,List.append_nil]
   refine It.run (λi=>(q,(i:Int),bX i (eL a b))) 4 (λi hi aA u rec=>?_) (It.stop λaA u rec=>?_)
   ·show c286_6 (aJ p n) aA a b rec (q,(i:Int),bX i (eL a b))=rec (q,((i+1:Nat):Int),bX (i+1) (eL a b))
    have hb:(bX i (eL a b)).length+1<=bound:=by
     have:=dH (n:=i) (g:=eL a b) (L:=1) (λj _=>nQ a b j)
     unfold bound;omega
    refine(step i hi (bX i (eL a b)) hb aA rec).trans ?_
    rw[d7];rfl
   ·unfold c286_6;dsimp only;refine qe ?_;rfl
  have e:fS a b=bX 4 (eL a b):=by unfold fS;rw[h0];rfl
  rw[e]
  cases h1:(a.1.length:Int)==4 with
  | true=>exact Ev.eq (λaA=>by unfold T286;refine qF h0 ?_;exact jW h1) ((lp _ (by rw[h1];rfl)).ev (i:=()) rfl)
  | false=>exact Ev.eq (λaA=>by unfold T286;refine qF h0 ?_;exact gR h1) ((lp _ (by rw[h1];rfl)).ev (i:=()) rfl)
theorem f231(nd:NodeT)(x:Int)(b:Bool)(hv:nd.sess.length<=aV):Ran p 1 231 [va K66 nd, vf K3 (x,()), vf K4 (b,())] (rO K3 (dL nd.sess x b,())):=go231 λn hn=>by
 have key:∀ {i:Nat} {α:Type} {X R:α},(bif(gt nd.sess i).1==x then(bif nD (gt nd.sess i).2.2.1 b then X else R)else R)=bif d9 nd.sess i x b then X else R:=two
 have lp:It (λaA (_:Unit)=>c231_2 (aJ p n) aA nd x b) (0:Int) (λ_=>oI (dL nd.sess x b)):=by
  have:=It.first (c:=λaA (_:Unit)=>c231_2 (aJ p n) aA nd x b) (λi=>(i:Int)) nd.sess.length (λi=>d9 nd.sess i x b) (λi _=>oI (i:Int)) (λ_=>oI (-1)) (λi hi hp aA a rec=>?_) (λi hi hp=>It.stop λaA a rec=>?_) (It.stop λaA a rec=>?_)
  ·revert this;unfold dL
   cases (List.range nd.sess.length).find? (λi=>d9 nd.sess i x b)<;>exact λh=>h
  ·have hb:=bW hi hv
   unfold c231_2;rw[aF hb];refine ql hi ?_;refine qz ?_;refine(aD hi).trans ?_
   unfold d9 at hp
   cases h1:(gt nd.sess i).1==x with
   | false=>exact gR rfl
   | true=>refine qt ?_;refine qz ?_;refine(aD hi).trans ?_;rw[h1] at hp;exact gR hp
  ·unfold c231_2;refine ql hi ?_;refine qz ?_;refine(aD hi).trans ?_
   unfold d9 at hp;rw[Bool.and_eq_true] at hp
   refine qT hp.1 ?_;refine qz ?_;refine(aD hi).trans ?_;exact jW hp.2
  ·unfold c231_2;refine qe ?_;rfl
 exact Ev.eq (λaA=>by unfold T231;rfl) (lp.ev (i:=()) rfl)
theorem f229(x:NodeT)(k to num:Int)(hz:SzN x):Ran p 6 229 [va K66 x, vf K3 (k,()), vf K3 (to,()), vf K3 (num,())] (rO K53 (NF x k to num)):=go229 λn hn=>Ev.now λaA=>by
 unfold T229;refine qC (f115 x.log hz.list hz.logs) ?_;refine qP (iJ hz.got) ?_;refine qC (f298 x.state hz.state) ?_;rfl
theorem f213(x:NodeT)(k to num:Int)(hz:SzN x):Ran p 6 213 [va K66 x, vf K3 (k,()), vf K3 (to,()), vf K3 (num,())] (rO K53 (NF x k to num)):=go213 λn hn=>Ev.now λaA=>by
 unfold T213;refine qC (f102 x.log hz.list hz.logs) ?_;refine qC (f202 x.got hz.got) ?_;refine qC (f284 x.state hz.state) ?_;rfl
structure Hears (x:NodeT) (m:MsgT):Prop where
 szn:SzN x
 szm:SzM m
 node:NodeOk x
 id:0<=x.1
 vec:x.1.toNat<m.vec.length
theorem f336(x:NodeT)(m:MsgT)(h:Hears x m):Ran p 8 336 [va K66 x, va K53 m] (rO K66 (cR x m)):=go336 λn hn=>Ev.now λaA=>by
 unfold T336;refine qC (f132 x h.szn) ?_;refine qP h.id ?_;refine(bA h.vec).trans ?_;refine qC (f115 x.log h.szn.list h.szn.logs) ?_;refine qC (f333 (gt m.vec x.1.toNat).1 (cJ x.log)) ?_;refine qC (f352 x.acked m.2.1 (mxI false (gt m.vec x.1.toNat).1 (cJ x.log)) h.szn.acked) ?_;refine qC (f297 x.seen m.2.1 m.marks h.szn.seen h.szn.lines h.szm.marks) ?_;refine qC (f227 (heard0 x m) iK (w7 h.szn m) lD (EF (h.node.heard0 m)) tI) ?_;rfl
theorem f214(x:NodeT)(m:MsgT)(h:Hears x m):Ran p 9 214 [va K66 x, va K53 m] (rO K66 (cR x m)):=go214 λn hn=>Ev.now λaA=>by
 unfold T214;refine qP h.id ?_;refine(bA h.vec).trans ?_;refine qC (f102 x.log h.szn.list h.szn.logs) ?_;refine qC (f283 x.acked m.2.1 (mxI false (gt m.vec x.1.toNat).1 (cJ x.log)) h.szn.acked) ?_;refine qC (f285 x.seen m.2.1 m.marks h.szn.seen h.szn.lines h.szm.marks) ?_;refine qD (f220 (heard0 x m) iK (w7 h.szn m) lD (h.node.heard0 m) tI) ?_;rfl
theorem f335(x:NodeT)(m:MsgT)(h:Hears x m)(hp:aM m.part=true):Ran p 9 335 [va K66 x, va K53 m] (rO K66 (cY x m)):=go335 λn hn=>Ev.now λaA=>by
 have hs:=mV (iW h.szn m) m.part
 unfold T335;refine qC (f336 x m h) ?_;refine qC (f227 (cR x m) m.part (iW h.szn m) h.szm.part (EF (h.node.heard m)) hp) ?_;refine qC (f352 (jD (cR x m) m.part).got m.2.1 m.hi hs.got) ?_;rfl
theorem f212(x:NodeT)(m:MsgT)(h:Hears x m)(hp:aM m.part=true):Ran p 10 212 [va K66 x, va K53 m] (rO K66 (cY x m)):=go212 λn hn=>Ev.now λaA=>by
 have hs:=mV (iW h.szn m) m.part
 unfold T212;refine qC (f214 x m h) ?_;refine qD (f220 (cR x m) m.part (iW h.szn m) h.szm.part (h.node.heard m) hp) ?_;refine qC (f283 (jD (cR x m) m.part).got m.2.1 m.hi hs.got) ?_;rfl
end Go.Abs.Pz
namespace Go.Abs.Pz
open Go Go.Abs
theorem f338(x:NodeT)(m:MsgT)(b:Bool)(hv:x.sess.length<=aV):Ran p 2 338 [va K66 x, va K53 m, vf K4 (b,())] (rO K3 (mB x m b,())):=go338 λn hn=>Ev.now λaA=>by
 unfold T338 mB;refine qC (f231 x m.2.1 b hv) ?_
 rcases gI x.sess m.2.1 b with ⟨k,hk,e,_⟩ | ⟨e,_⟩<;>rw[e]
 ·refine qz ?_;refine qz ?_;refine(aD hk).trans ?_;rw[decide_eq_true (show((k:Nat):Int)>=0 by omega),Int.toNat_natCast]
  cases (gt x.sess k).2.1 != m.2.2.2.1<;>rfl
 ·rfl
theorem f339(x:NodeT)(k:Nat)(hz:SzN x)(hk:k<x.sess.length):Ran p 4 339 [va K66 x, vf K3 ((k:Int),())] (rO K66 (j6 x k)):=go339 λn hn=>Ev.now λaA=>by
 rw[<- GQ hk hz.sess]
 unfold T339;refine qC (f132 x hz) ?_;exact wC hk hz.sess
theorem Hears.of{x:NodeT}{m:MsgT}(hz:SzN x)(hm:SzM m)(h:RecOk x m):Hears x m:=
 ⟨hz,hm,h.node,h.idn.1,by have h1:=h.idn;have h2:=h.vec;omega⟩
theorem KT{x:NodeT}{k:Nat}(hk:k<x.sess.length)(num:Int):(x.sess.set k ((gt x.sess k).1,num,(gt x.sess k).2.2)).set k ((gt (x.sess.set k ((gt x.sess k).1,num,(gt x.sess k).2.2)) k).1,(gt (x.sess.set k ((gt x.sess k).1,num,(gt x.sess k).2.2)) k).2.1,(gt (x.sess.set k ((gt x.sess k).1,num,(gt x.sess k).2.2)) k).2.2.1,(0:Int),(gt (x.sess.set k ((gt x.sess k).1,num,(gt x.sess k).2.2)) k).2.2.2.2)=p5 x k num:=by
 rw[cG hk,wS];rfl
theorem T7{x:NodeT}{m:MsgT}{k:Nat}(e:dL x.sess m.2.1 true=(k:Int)):hZ x m=false/\hY x m=p5 x k m.2.2.2.1:=by
 unfold hZ hY;rw[e,decide_eq_true (show((k:Nat):Int)>=0 by omega)];exact⟨rfl,by rw[Int.toNat_natCast];rfl⟩
theorem T6{x:NodeT}{m:MsgT}(e:dL x.sess m.2.1 true= -1):hZ x m=((x.sess.length:Int)==x.slots)/\hY x m=kL x m:=by
 unfold hZ hY;rw[e];exact⟨rfl,rfl⟩
theorem f337(x:NodeT)(m:MsgT)(hz:SzN x)(hm:SzM m)(R:RecOk x m):Ran p 9 337 [va K66 x, va K53 m] ⟨[⟨K66,(fI x m).1⟩,⟨K161,((fI x m).2.1,())⟩,⟨K3,((fI x m).2.2,())⟩],[]⟩:=go337 λn hn=>Ev.now λaA=>by
 have h0:=R.idn.1
 have hv:x.1.toNat<m.vec.length:=(Hears.of hz hm R).vec
 have go:hZ x m=false->∀ {y:NodeT},withS x (hY x m)=y->Hears y m/\NodeOk (cR y m)/\SzN (cR y m)/\fI x m=(cR y m,[AP (cR y m) x m],0):=by
  intro hf y e
  have hr:=R.syn hf
  have hs:=uX hz (rT R.node m)
  rw[e] at hr hs
  refine⟨Hears.of hs hm hr,hr.node.heard m,iW hs m,?_⟩
  unfold fI EL;rw[hf,e];rfl
 unfold T337;refine qC (f132 x hz) ?_;refine qC (f231 x m.2.1 true hz.sess) ?_
 rcases gI x.sess m.2.1 true with ⟨k,hk,e,_⟩ | ⟨e,_⟩
 ·obtain⟨hf,hs⟩:=T7 e
  have hk2:k<(x.sess.set k ((gt x.sess k).1,m.2.2.2.1,(gt x.sess k).2.2)).length:=by rw[List.length_set];exact hk
  obtain⟨hh,ho,hz2,he⟩:=go hf (y:=withS x ((x.sess.set k ((gt x.sess k).1,m.2.2.2.1,(gt x.sess k).2.2)).set k ((gt (x.sess.set k ((gt x.sess k).1,m.2.2.2.1,(gt x.sess k).2.2)) k).1,(gt (x.sess.set k ((gt x.sess k).1,m.2.2.2.1,(gt x.sess k).2.2)) k).2.1,(gt (x.sess.set k ((gt x.sess k).1,m.2.2.2.1,(gt x.sess k).2.2)) k).2.2.1,(0:Int),(gt (x.sess.set k ((gt x.sess k).1,m.2.2.2.1,(gt x.sess k).2.2)) k).2.2.2.2))) (by rw[hs,KT hk])
  rw[he,e];refine qz ?_;refine qz ?_;refine(aD hk).trans ?_;refine(aD hk).trans ?_;refine qz ?_;refine(aD hk2).trans ?_;refine(aD hk2).trans ?_
  refine qC (f336 _ m hh) ?_;refine qC (f229 _ 3 m.2.1 m.2.2.2.1 hz2) ?_;refine qC (f222 (cR _ m).tree hz2.leaves) ?_;refine qC (f353 (cR _ m).tree m.tree) ?_;refine qP h0 ?_;refine(bA hv).trans ?_;refine qC (f340 _ (fS (cR _ m).tree m.tree) (gt m.vec x.1.toNat).1 hz2 ho (Nat.le_trans (nA _ _) (by decide))) ?_;rfl
 ·obtain⟨hf,hs⟩:=T6 e
  rw[e];refine qf ?_
  cases hl:(x.sess.length:Int)==x.slots with
  | true=>
   rw[hl] at hf
   refine qT hl ?_;refine qC (f229 x 5 m.2.1 m.2.2.2.1 hz) ?_;unfold fI;rw[hf];rfl
  | false=>
   rw[hl] at hf
   obtain⟨hh,ho,hz2,he⟩:=go hf (y:=withS x (kL x m)) (by rw[hs])
   have hb:x.sess.length+1<=bound:=by have:=hz.sess;unfold aV at this;unfold bound;omega
   rw[he];refine qF hl ?_;refine qP hb ?_
   refine qC (f336 (withS x (kL x m)) m hh) ?_;refine qC (f229 _ 3 m.2.1 m.2.2.2.1 hz2) ?_;refine qC (f222 (cR _ m).tree hz2.leaves) ?_;refine qC (f353 (cR _ m).tree m.tree) ?_;refine qP h0 ?_;refine(bA hv).trans ?_;refine qC (f340 _ (fS (cR _ m).tree m.tree) (gt m.vec x.1.toNat).1 hz2 ho (Nat.le_trans (nA _ _) (by decide))) ?_;rfl
end Go.Abs.Pz
namespace Go.Abs.Pz
open Go Go.Abs
def EY(r:KP):Out:=⟨[⟨K66,r.1⟩,⟨K161,(r.2.1,())⟩,⟨K3,(r.2.2,())⟩],[]⟩
theorem qX(x:NodeT)(m:MsgT)(b:Bool):(mB x m b<0/\(dL x.sess m.2.1 b= -1\/∃ k:Nat,k<x.sess.length/\dL x.sess m.2.1 b=(k:Int)/\((gt x.sess k).2.1 != m.2.2.2.1)=true))\/∃ k:Nat,k<x.sess.length/\dL x.sess m.2.1 b=(k:Int)/\((gt x.sess k).2.1 != m.2.2.2.1)=false/\mB x m b=(k:Int):=by
 unfold mB
 rcases gI x.sess m.2.1 b with ⟨k,hk,e,_⟩ | ⟨e,_⟩<;>rw[e]
 ·rw[decide_eq_true (show((k:Nat):Int)>=0 by omega),Int.toNat_natCast]
  cases h:(gt x.sess k).2.1 != m.2.2.2.1 with
  | true=>exact .inl ⟨by show(-1:Int)<0;omega,.inr ⟨k,hk,rfl,h⟩⟩
  | false=>exact .inr ⟨k,hk,rfl,h,rfl⟩
 ·exact .inl ⟨by show(-1:Int)<0;omega,.inl rfl⟩
theorem kW{x:NodeT}{m:MsgT}(h0:(m.1==0)=false)(h1:(m.1==1)=false)(h2:(m.1==2)=false){b:Bool}(h4:(m.1==4)=b)(hf:mB x m b<0):mK x m=(x,[],2):=by
 unfold mK;rw[h0,h1,h2,h4,decide_eq_true hf];rfl
theorem vQ{x:NodeT}{m:MsgT}(h0:(m.1==0)=false)(h1:(m.1==1)=false)(h2:(m.1==2)=false){b:Bool}(h4:(m.1==4)=b){k:Nat}(hf:mB x m b=(k:Int)):mK x m=gL x m k:=by
 unfold mK;rw[h0,h1,h2,h4,hf,decide_eq_false (show ¬ (k:Int)<0 by omega)];rfl
theorem f301(x:NodeT)(m:MsgT)(hz:SzN x)(hm:SzM m):Ran p 10 301 [va K66 x, va K53 m] (EY (eJ x m)):=go301 λn hn=>Ev.now λaA=>by
 have bad:fX x m=false->(some ⟨[⟨K66,x⟩,⟨K161,(([]:List MsgT),())⟩,⟨K3,((1:Int),())⟩],[]⟩:Option Out)=some (EY (eJ x m)):=λh=>by rw[K0 h];rfl
 unfold T301;refine qC (f48 x hz) ?_
 cases g1:dD x with
 | false=>refine qt ?_;refine qC (f132 x hz) ?_;exact bad (by unfold fX;rw[g1];rfl)
 | true=>
 refine qf ?_;refine qC (f75 m hm) ?_
 cases g2:dZ m with
 | false=>refine qt ?_;refine qC (f132 x hz) ?_;exact bad (by unfold fX;rw[g1,g2];rfl)
 | true=>
 refine qf ?_
 cases g3:m.2.2.1==x.1 with
 | false=>refine qT (show(m.2.2.1 != x.1)=true by unfold bne;rw[g3];rfl) ?_;refine qC (f132 x hz) ?_;exact bad (by unfold fX;rw[g1,g2,g3];rfl)
 | true=>
 refine qF (show(m.2.2.1 != x.1)=false by unfold bne;rw[g3];rfl) ?_
 by_cases g4:m.2.1>=x.2.1
 ·refine qP g4 ?_;refine qC (f132 x hz) ?_;exact bad (by unfold fX;rw[g1,g2,g3,decide_eq_true g4];rfl)
 refine qN g4 ?_
 cases g5:(m.vec.length:Int)==x.2.1 with
 | false=>refine qT (show((m.vec.length:Int) != x.2.1)=true by unfold bne;rw[g5];rfl) ?_;refine qC (f132 x hz) ?_;exact bad (by unfold fX;rw[g1,g2,g3,decide_eq_false g4,g5];rfl)
 | true=>
 refine qF (show((m.vec.length:Int) != x.2.1)=false by unfold bne;rw[g5];rfl) ?_
 have ok:fX x m=true:=by unfold fX;rw[g1,g2,g3,decide_eq_false g4,g5];rfl
 have R:=oO ok
 have H:=Hears.of hz hm R
 rw[GM ok]
 cases k0:m.1==0 with
 | true=>
  have hz2:=j9 hz m
  (first | refine qT k0 ?_ | refine qt ?_);refine qC (f335 x m H R.part) ?_;refine qC (f229 (cY x m) 1 m.2.1 m.2.2.2.1 hz2) ?_;unfold mK;rw[k0];rfl
 | false=>
 (first | refine qF k0 ?_ | refine qf ?_)
 cases k1:m.1==1 with
 | true=>(first | refine qT k1 ?_ | refine qt ?_);refine qC (f336 x m H) ?_;unfold mK;rw[k0,k1];rfl
 | false=>
 (first | refine qF k1 ?_ | refine qf ?_)
 cases k2:m.1==2 with
 | true=>(first | refine qT k2 ?_ | refine qt ?_);refine qE (f337 x m hz hm R) ?_;unfold mK;rw[k0,k1,k2];rfl
 | false=>
 (first | refine qF k2 ?_ | refine qf ?_);refine qC (f338 x m (m.1==4) hz.sess) ?_
 rcases qX x m (m.1==4)with ⟨hf,_⟩ | ⟨k,hk,_,_,hf⟩
 ·refine qP hf ?_;refine qC (f132 x hz) ?_;rw[kW k0 k1 k2 rfl hf];rfl
 ·rw[vQ k0 k1 k2 rfl hf,hf];refine qN (show ¬ (k:Int)<0 by omega) ?_;refine qC (f339 x k hz hk) ?_
  have hg:=BQ hz k
  have Rg:=R.gone k
  have Hg:=Hears.of hg hm Rg
  have hz2:=j9 hg m
  cases k5:m.1==5 with
  | true=>(first | refine qT k5 ?_ | refine qt ?_);unfold gL;rw[k5];rfl
  | false=>
   (first | refine qF k5 ?_ | refine qf ?_);refine qC (f335 (j6 x k) m Hg Rg.part) ?_
   cases k4:m.1==4 with
   | true=>(first | refine qT k4 ?_ | refine qt ?_);unfold gL;rw[k5,k4];rfl
   | false=>
    (first | refine qF k4 ?_ | refine qf ?_);refine qC (f229 (cY (j6 x k) m) 4 m.2.1 m.2.2.2.1 hz2) ?_;refine qP (iJ hm.list) ?_;refine qP R.idn.1 ?_;refine(bA H.vec).trans ?_
    refine qC (f340 (cY (j6 x k) m) m.leaves (gt m.vec x.1.toNat).1 hz2 Rg.brought hm.list) ?_;unfold gL;rw[k5,k4];rfl
end Go.Abs.Pz
set_option maxHeartbeats 2000000
namespace Go.Abs.Pz
open Go Go.Abs
theorem KL{a b c:Int}(h:(a==b)=true)(hc:b≠c):(a==c)=false:=by
 have:=eq_of_beq h;subst this;simpa using hc
theorem f126(x:NodeT)(m:MsgT)(hz:SzN x)(hm:SzM m):Ran p 11 126 [va K66 x, va K53 m] (EY (eJ x m)):=go126 λn hn=>Ev.now λaA=>by
 have bad:fX x m=false->(some ⟨[⟨K66,x⟩,⟨K161,(([]:List MsgT),())⟩,⟨K3,((1:Int),())⟩],[]⟩:Option Out)=some (EY (eJ x m)):=λh=>by rw[K0 h];rfl
 unfold T126;refine qC (f121 x hz) ?_;refine qC (f44 x hz) ?_
 cases g1:dD x with
 | false=>refine qt ?_;exact bad (by unfold fX;rw[g1];rfl)
 | true=>
 refine qf ?_;refine qC (f209 m hm) ?_
 cases g2:dZ m with
 | false=>refine qt ?_;exact bad (by unfold fX;rw[g1,g2];rfl)
 | true=>
 refine qf ?_
 cases g3:m.2.2.1==x.1 with
 | false=>refine qT (show(m.2.2.1 != x.1)=true by unfold bne;rw[g3];rfl) ?_;exact bad (by unfold fX;rw[g1,g2,g3];rfl)
 | true=>
 refine qF (show(m.2.2.1 != x.1)=false by unfold bne;rw[g3];rfl) ?_
 by_cases g4:m.2.1>=x.2.1
 ·refine qP g4 ?_;exact bad (by unfold fX;rw[g1,g2,g3,decide_eq_true g4];rfl)
 refine qN g4 ?_
 cases g5:(m.vec.length:Int)==x.2.1 with
 | false=>refine qT (show((m.vec.length:Int) != x.2.1)=true by unfold bne;rw[g5];rfl) ?_;exact bad (by unfold fX;rw[g1,g2,g3,decide_eq_false g4,g5];rfl)
 | true=>
 refine qF (show((m.vec.length:Int) != x.2.1)=false by unfold bne;rw[g5];rfl) ?_
 have ok:fX x m=true:=by unfold fX;rw[g1,g2,g3,decide_eq_false g4,g5];rfl
 have R:=oO ok
 have H:=Hears.of hz hm R
 have hv:=H.vec
 rw[GM ok]
 cases k0:m.1==0 with
 | true=>
  have hz2:=j9 hz m
  (first | refine qT k0 ?_ | refine qt ?_);refine qC (f212 x m H R.part) ?_;refine qC (f213 (cY x m) 1 m.2.1 m.2.2.2.1 hz2) ?_;unfold mK;rw[k0];rfl
 | false=>
 (first | refine qF k0 ?_ | refine qf ?_)
 cases k1:m.1==1 with
 | true=>(first | refine qT k1 ?_ | refine qt ?_);refine qC (f214 x m H) ?_;unfold mK;rw[k0,k1];rfl
 | false=>
 (first | refine qF k1 ?_ | refine qf ?_)
 cases k2:m.1==2 with
 | true=>
  have e0:mK x m=fI x m:=by unfold mK;rw[k0,k1,k2];rfl
  rw[e0]
  have go:hZ x m=false->∀ {y:NodeT},withS x (hY x m)=y->Hears y m/\NodeOk (cR y m)/\SzN (cR y m)/\fI x m=(cR y m,[AP (cR y m) x m],0):=by
   intro hf y e
   have hr:=R.syn hf
   have hs:=uX hz (rT R.node m)
   rw[e] at hr hs
   refine⟨Hears.of hs hm hr,hr.node.heard m,iW hs m,?_⟩
   unfold fI EL;rw[hf,e];rfl
  (first | refine qT k2 ?_ | refine qt ?_);refine qC (f197 x m.2.1 true hz.sess) ?_
  rcases gI x.sess m.2.1 true with ⟨k,hk,e,_⟩ | ⟨e,_⟩
  ·obtain⟨hf,hs⟩:=T7 e
   have hk2:k<(x.sess.set k ((gt x.sess k).1,m.2.2.2.1,(gt x.sess k).2.2)).length:=by rw[List.length_set];exact hk
   obtain⟨hh,ho,hz2,he⟩:=go hf (y:=withS x ((x.sess.set k ((gt x.sess k).1,m.2.2.2.1,(gt x.sess k).2.2)).set k ((gt (x.sess.set k ((gt x.sess k).1,m.2.2.2.1,(gt x.sess k).2.2)) k).1,(gt (x.sess.set k ((gt x.sess k).1,m.2.2.2.1,(gt x.sess k).2.2)) k).2.1,(gt (x.sess.set k ((gt x.sess k).1,m.2.2.2.1,(gt x.sess k).2.2)) k).2.2.1,(0:Int),(gt (x.sess.set k ((gt x.sess k).1,m.2.2.2.1,(gt x.sess k).2.2)) k).2.2.2.2))) (by rw[hs,KT hk])
   rw[he,e];refine qz ?_;refine qz ?_;refine(aD hk).trans ?_;refine(aD hk).trans ?_;refine qz ?_;refine(aD hk2).trans ?_;refine(aD hk2).trans ?_
   refine qC (f214 _ m hh) ?_;refine qC (f213 _ 3 m.2.1 m.2.2.2.1 hz2) ?_;refine qC (f200 (cR _ m).tree hz2.leaves) ?_;refine qC (f286 (cR _ m).tree m.tree) ?_;refine qC (f217 _ (fS (cR _ m).tree m.tree) m hz2 ho (Nat.le_trans (nA _ _) (by decide)) R.idn.1 hv) ?_;rfl
  ·obtain⟨hf,hs⟩:=T6 e
   have hle:=((dV x).1 R.node.sess).1
   rw[e];refine qf ?_
   by_cases hl:(x.sess.length:Int)>=x.slots
   ·refine qP hl ?_
    rw[show((x.sess.length:Int)==x.slots)=true from by rw[beq_iff_eq];omega] at hf
    refine qC (f213 x 5 m.2.1 m.2.2.2.1 hz) ?_;unfold fI;rw[hf];rfl
   ·rw[show((x.sess.length:Int)==x.slots)=false from by rw[beq_eq_false_iff_ne];omega] at hf
    obtain⟨hh,ho,hz2,he⟩:=go hf (y:=withS x (kL x m)) (by rw[hs])
    have hb:x.sess.length+1<=bound:=by have:=hz.sess;unfold aV at this;unfold bound;omega
    rw[he];refine qN hl ?_;refine qP hb ?_
    refine qC (f214 (withS x (kL x m)) m hh) ?_;refine qC (f213 _ 3 m.2.1 m.2.2.2.1 hz2) ?_;refine qC (f200 (cR _ m).tree hz2.leaves) ?_;refine qC (f286 (cR _ m).tree m.tree) ?_;refine qC (f217 _ (fS (cR _ m).tree m.tree) m hz2 ho (Nat.le_trans (nA _ _) (by decide)) R.idn.1 hv) ?_;rfl
 | false=>
 (first | refine qF k2 ?_ | refine qf ?_)
 have R2:∀ k:Nat,k<x.sess.length->RecOk (withS x (CR x (k:Int))) m/\SzN (withS x (CR x (k:Int)))/\withS x (CR x (k:Int))=j6 x k:=λk hk=>by
  rw[GQ hk hz.sess];exact⟨R.gone k,BQ hz k,rfl⟩
 cases k3:m.1==3 with
 | true=>
  have k4:(m.1==4)=false:=KL k3 (by decide)
  have k5:(m.1==5)=false:=KL k3 (by decide)
  (first | refine qT k3 ?_ | refine qt ?_);refine qC (f197 x m.2.1 false hz.sess) ?_
  rcases qX x m false with ⟨hf,e | ⟨k,hk,e,hn2⟩⟩ | ⟨k,hk,e,hn2,hf⟩<;>rw[e]
  ·refine qt ?_;rw[kW k0 k1 k2 k4 hf];rfl
  ·rw[kW k0 k1 k2 k4 hf];refine qN (show ¬ (k:Int)<0 by omega) ?_;refine qz ?_;refine(aD hk).trans ?_;refine(aD hk).trans ?_;refine qT hn2 ?_;rfl
  ·rw[vQ k0 k1 k2 k4 hf];refine qN (show ¬ (k:Int)<0 by omega) ?_;refine qz ?_;refine(aD hk).trans ?_;refine(aD hk).trans ?_;refine qF hn2 ?_
   obtain⟨Rg,hg,eg⟩:=R2 k hk
   have hz2:=j9 hg m
   refine(wC hk hz.sess).trans ?_;refine qC (f212 (withS x (CR x (k:Int))) m (Hears.of hg hm Rg) R.part) ?_;refine qC (f213 (cY (withS x (CR x (k:Int))) m) 4 m.2.1 m.2.2.2.1 hz2) ?_;refine qC (f202 m.leaves hm.list) ?_
   refine qC (f217 (cY (withS x (CR x (k:Int))) m) m.leaves m hz2 Rg.brought hm.list R.idn.1 hv) ?_;unfold gL;rw[k5,k4,<- eg];rfl
 | false=>
 (first | refine qF k3 ?_ | refine qf ?_)
 cases k4:m.1==4 with
 | true=>
  have k5:(m.1==5)=false:=KL k4 (by decide)
  (first | refine qT k4 ?_ | refine qt ?_);refine qC (f197 x m.2.1 true hz.sess) ?_
  rcases qX x m true with ⟨hf,e | ⟨k,hk,e,hn2⟩⟩ | ⟨k,hk,e,hn2,hf⟩<;>rw[e]
  ·refine qt ?_;rw[kW k0 k1 k2 k4 hf];rfl
  ·rw[kW k0 k1 k2 k4 hf];refine qN (show ¬ (k:Int)<0 by omega) ?_;refine qz ?_;refine(aD hk).trans ?_;refine(aD hk).trans ?_;refine qT hn2 ?_;rfl
  ·rw[vQ k0 k1 k2 k4 hf];refine qN (show ¬ (k:Int)<0 by omega) ?_;refine qz ?_;refine(aD hk).trans ?_;refine(aD hk).trans ?_;refine qF hn2 ?_
   obtain⟨Rg,hg,eg⟩:=R2 k hk
   refine(wC hk hz.sess).trans ?_;refine qC (f212 (withS x (CR x (k:Int))) m (Hears.of hg hm Rg) R.part) ?_;unfold gL;rw[k5,k4,<- eg];rfl
 | false=>
  have k5:(m.1==5)=true:=by
   have h2:=R.msg
   unfold dZ qB at h2
   simp only[Bool.and_eq_true,aQ] at h2
   have h3:=h2.1.1
   rw[beq_eq_false_iff_ne] at k0 k1 k2 k3 k4
   rw[beq_iff_eq];omega
  (first | refine qF k4 ?_ | refine qf ?_);refine qC (f197 x m.2.1 false hz.sess) ?_
  rcases qX x m false with ⟨hf,e | ⟨k,hk,e,hn2⟩⟩ | ⟨k,hk,e,hn2,hf⟩<;>rw[e]
  ·refine qt ?_;rw[kW k0 k1 k2 k4 hf];rfl
  ·rw[kW k0 k1 k2 k4 hf];refine qN (show ¬ (k:Int)<0 by omega) ?_;refine qz ?_;refine(aD hk).trans ?_;refine(aD hk).trans ?_;refine qT hn2 ?_;rfl
  ·rw[vQ k0 k1 k2 k4 hf];refine qN (show ¬ (k:Int)<0 by omega) ?_;refine qz ?_;refine(aD hk).trans ?_;refine(aD hk).trans ?_;refine qF hn2 ?_
   obtain⟨Rg,hg,eg⟩:=R2 k hk
   refine(wC hk hz.sess).trans ?_;unfold gL;rw[k5,<- eg];rfl
end Go.Abs.Pz
namespace Go.Abs.Pz
open Go Go.Abs
-- how many cells lie in what comes back
theorem PJ(xs:List kT):cnT (.sl K127) xs=3*(xs.length:Int):=kU (c:=cnR K127) (n:=3) (λx=>rfl) xs
theorem lO(x:NodeT):cnS K66 x=6*(x.2.2.1.length:Int)+(2*(x.2.2.2.1.length:Int)+(1*(x.2.2.2.2.1.length:Int)+(cnT (.sl K50) x.log.2.2.1+(1*(x.got.length:Int)+(1*(x.acked.length:Int)+(cnT (.sl K38) x.seen+(4*(x.sess.length:Int)+(3*(x.rises.length:Int)+0)))))))):=by
 rw[<- QT,<- N3,<- zM,<- zM,<- zM,<- SS,<- PJ];rfl
theorem KY{t u:List bT}(h:u.length=t.length)(h2:∀ i,(gt u i).1.length=(gt t i).1.length):cnT (.sl K38) u<=cnT (.sl K38) t:=
 C2 (α:=bT) (c:=cnR K38) u t h λj hj=>by
  have e:∀ r:bT,cnR K38 r=1*(r.1.length:Int)+0:=λr=>by rw[<- zM];rfl
  rw[e,e,h2 j];omega
theorem M8(x:NodeT)(s:aE):(tkP x s).1.length<=5/\(tkP x s).2.1.length<=5:=by
 unfold tkP prune
 cases aM (dK x.state s)with
 | true=>exact tN _ _
 | false=>exact tN _ _
theorem F7(x:NodeT)(s:aE):cnS K66 (jD x s)<=cnS K66 x+100:=by
 rw[lO,lO]
 have h1:=M8 x s
 have h2:(cM (tkP x s)).1.length<=4:=z1 _
 have h3:cnT (.sl K38) (tkS x s)<=cnT (.sl K38) x.seen:=KY (eZ _ _ _) (iS _ _ _)
 have h4:(tkR x s).length=x.rises.length:=iG _ _ _ _
 show 6*(((tkP x s).1.length:Nat):Int)+(2*(((tkP x s).2.1.length:Nat):Int)+(1*(((cM (tkP x s)).1.length:Nat):Int)+(cnT (.sl K50) x.log.2.2.1+(1*(x.got.length:Int)+(1*(x.acked.length:Int)+(cnT (.sl K38) (tkS x s)+(4*(x.sess.length:Int)+(3*(((tkR x s).length:Nat):Int)+0))))))))<=_
 omega
theorem w6(x:NodeT)(m:MsgT):cnS K66 (cR x m)<=cnS K66 x+100:=by
 have h:=F7 (heard0 x m) iK
 have h3:cnT (.sl K38) (bM x.seen m.2.1 m.marks)<=cnT (.sl K38) x.seen:=KY (eZ _ _ _) (iS _ _ _)
 have h4:cnS K66 (heard0 x m)<=cnS K66 x:=by
  rw[lO,lO]
  show 6*(x.2.2.1.length:Int)+(2*(x.2.2.2.1.length:Int)+(1*(x.2.2.2.2.1.length:Int)+(cnT (.sl K50) x.log.2.2.1+(1*(x.got.length:Int)+(1*(((c7 x.acked m.2.1 (mxI false (gt m.vec x.1.toNat).1 (cJ x.log))).length:Nat):Int)+(cnT (.sl K38) (bM x.seen m.2.1 m.marks)+(4*(x.sess.length:Int)+(3*(x.rises.length:Int)+0))))))))<=_
  rw[gG];omega
 unfold cR;omega
theorem y5(x:NodeT)(m:MsgT):cnS K66 (cY x m)<=cnS K66 x+200:=by
 have h1:=w6 x m
 have h2:=F7 (cR x m) m.part
 have h3:∀ y:NodeT,cnS K66 (gotUp y m)=cnS K66 y:=λy=>by
  rw[lO,lO]
  show 6*(y.2.2.1.length:Int)+(2*(y.2.2.2.1.length:Int)+(1*(y.2.2.2.2.1.length:Int)+(cnT (.sl K50) y.log.2.2.1+(1*(((c7 y.got m.2.1 m.hi).length:Nat):Int)+(1*(y.acked.length:Int)+(cnT (.sl K38) y.seen+(4*(y.sess.length:Int)+(3*(y.rises.length:Int)+0))))))))=_
  rw[gG]
 unfold cY;rw[h3];omega
theorem FY(x:NodeT){ss:List eI}(h:ss.length<=x.sess.length+1):cnS K66 (withS x ss)<=cnS K66 x+4:=by
 rw[lO,lO]
 show 6*(x.2.2.1.length:Int)+(2*(x.2.2.2.1.length:Int)+(1*(x.2.2.2.2.1.length:Int)+(cnT (.sl K50) x.log.2.2.1+(1*(x.got.length:Int)+(1*(x.acked.length:Int)+(cnT (.sl K38) x.seen+(4*(ss.length:Int)+(3*(x.rises.length:Int)+0))))))))<=_
 omega
theorem Q3(x:NodeT)(k:Nat):cnS K66 (j6 x k)<=cnS K66 x+4:=FY x (by rw[List.length_append,List.length_take,List.length_drop];omega)
structure RecSz (x:NodeT) (r:KP):Prop where
 node:SzN r.1
 cn:cnS K66 r.1<=cnS K66 x+300
 len:r.2.1.length<=1
 msg:∀ q∈r.2.1,SzM q
theorem zJ{q:MsgT}(h:SzM q):∀ y∈[q],SzM y:=λy hy=>by rw[List.mem_singleton.1 hy];exact h
theorem A3:∀ y∈([]:List MsgT),SzM y:=λy hy=>by cases hy
theorem LJ{x:NodeT}(h:SzN x)(a b c:Int):SzM (NF x a b c):=⟨Nat.zero_le _,h.got,Nat.zero_le _,lD,Nat.le_trans (iL _) (by decide)⟩
theorem MV{o x:NodeT}(h:SzN o)(m:MsgT):SzM (AP o x m):=⟨h.leaves,h.got,Nat.le_trans (nA _ _) (by decide),m6 _ _,Nat.le_trans (iL _) (by decide)⟩
theorem QO{o x:NodeT}(h:SzN o){m:MsgT}(hm:SzM m):SzM (QP o x m):=⟨Nat.zero_le _,h.got,hm.list,m6 _ _,Nat.le_trans (iL _) (by decide)⟩
theorem MX{x:NodeT}{m:MsgT}(hz:SzN x)(hm:SzM m)(R:RecOk x m):RecSz x (fI x m):=by
 unfold fI
 cases hf:hZ x m with
 | true=>exact⟨hz,by show cnS K66 x<=_;omega,Nat.le_refl _,zJ (LJ hz _ _ _)⟩
 | false=>
  have h1:=SK hz R.node m
  have h2:=w6 (withS x (hY x m)) m
  have h3:=FY x (ss:=hY x m) (by
   unfold hY p5 kL
   cases decide (dL x.sess m.2.1 true>=0)with
   | true=>show(List.set _ _ _).length<=_;rw[List.length_set];omega
   | false=>show(x.sess++[_]).length<=_;rw[List.length_append];exact Nat.le_refl _)
  exact⟨h1,by show cnS K66 (EL x m)<=_;unfold EL;omega,Nat.le_refl _,zJ (MV h1 m)⟩
theorem MZ{x:NodeT}{m:MsgT}(hz:SzN x)(hm:SzM m)(k:Nat):RecSz x (gL x m k):=by
 have h1:=BQ hz k
 have h2:=Q3 x k
 have h3:=j9 h1 m
 have h4:=y5 (j6 x k) m
 unfold gL
 cases m.1==5 with
 | true=>exact⟨h1,by show cnS K66 (j6 x k)<=_;omega,Nat.zero_le _,A3⟩
 | false=>
  cases m.1==4 with
  | true=>exact⟨h3,by show cnS K66 (cY (j6 x k) m)<=_;omega,Nat.zero_le _,A3⟩
  | false=>exact⟨h3,by show cnS K66 (cY (j6 x k) m)<=_;omega,Nat.le_refl _,zJ (QO h3 hm)⟩
theorem EZ{x:NodeT}{m:MsgT}(hz:SzN x)(hm:SzM m):RecSz x (eJ x m):=by
 unfold eJ
 cases ho:fX x m with
 | false=>exact⟨hz,by show cnS K66 x<=_;omega,Nat.zero_le _,A3⟩
 | true=>
  have R:=oO ho
  show RecSz x (mK x m)
  unfold mK
  have h3:=j9 hz m
  have h4:=y5 x m
  have h5:=iW hz m
  have h6:=w6 x m
  cases m.1==0 with
  | true=>exact⟨h3,by show cnS K66 (cY x m)<=_;omega,Nat.le_refl _,zJ (LJ h3 _ _ _)⟩
  | false=>
   cases m.1==1 with
   | true=>exact⟨h5,by show cnS K66 (cR x m)<=_;omega,Nat.zero_le _,A3⟩
   | false=>
    cases m.1==2 with
    | true=>exact MX hz hm R
    | false=>
     cases decide (mB x m (m.1==4)<0)with
     | true=>exact⟨hz,by show cnS K66 x<=_;omega,Nat.zero_le _,A3⟩
     | false=>exact MZ hz hm _
end Go.Abs.Pz
set_option maxHeartbeats 4000000
namespace Go.Abs.Pz
open Go Go.Abs
def oA:Option MsgT->Out
 | none=>⟨[⟨K53,wZ⟩,⟨K4,(false,())⟩],[]⟩
 | some m=>⟨[⟨K53,m⟩,⟨K4,(true,())⟩],[]⟩
def prA(x:Int×RdT):Rows [K3]×Rows [K234]:=(((x.1,()),()),(x.2,()))
def prN(x:List aH×RdT):Rows [K38]×Rows [K234]:=(((x.1,()),()),(x.2,()))
def zA(x:Int×RdT):Rows [K3]×Rows [K113]:=(((x.1,()),()),(x.2,()))
def I1(x:List aH×RdT):Rows [K38]×Rows [K113]:=(((x.1,()),()),(x.2,()))
def S9(s:aE)(k:Bool):Rows [K50,K4]×Rows []:=((s,(k,()),()),())
theorem PB(o:Option aE):oJ o=⟨[⟨K50,o.getD iK⟩,⟨K4,(o.isSome,())⟩],[]⟩:=by cases o<;>rfl
theorem TQ(b:List aH):SzS ((cF b).getD iK):=by
 cases h:cF b with
 | none=>exact lD
 | some s=>exact E4 (vC h)
theorem rng{a b c d:Prop}[Decidable a][Decidable b](h1:a)(h2:b):(decide a&&decide b)=true:=by rw[decide_eq_true h1,decide_eq_true h2];rfl
theorem f125(b:List aH)(hb:B8 b)(hl:b.length<=aV):Ran p 6 125 [vf K22 (b,())] (oA (cW b)):=go125 λn hn=>by
 have hs:b.length<=1048576:=hl
 by_cases h2:i64.wrap ((b.length:Int) - 4)<2
 ·exact Ev.now λaA=>by unfold T125;refine qP h2 ?_;rw[show cW b=none by unfold cW;rw[decide_eq_true h2];rfl];rfl
 have h6:6<=b.length:=by rw[IntKind.wrap_i64] at h2;omega
 have e4:i64.wrap ((b.length:Int) - 4)=((b.length - 4:Nat):Int):=by rw[IntKind.wrap_i64];omega
 have hlen2:decide (i64.wrap ((b.length:Int) - 4)<2)=false:=decide_eq_false h2
 have ha:(decide ((0:Int)<=2)&&decide ((2:Int)<=(b.length:Int)))=true:=rng (c:=True) (d:=True) (by omega) (by omega)
 have hc4:(decide ((0:Int)<=((b.length - 4:Nat):Int))&&decide (((b.length - 4:Nat):Int)<=(b.length:Int)))=true:=rng (c:=True) (d:=True) (by omega) (by omega)
 cases hk:cH (b.take 2) rk2 with
 | false=>
  exact Ev.now λaA=>by
   unfold T125;refine qN h2 ?_;refine qT ha ?_;refine qT (show(!cH (b.take 2) rk2)=true by rw[hk];rfl) ?_
   rw[show cW b=none by unfold cW;rw[hlen2,hk];rfl];rfl
 | true=>
 have hr:=UG hb hl h6
 have G:=UF WJ hr
 have lo:=G.e.lo;have hi:=G.e.hi;have nn:=G.nn
 rw[G.list] at hi
 have hlen:(mR b).1.length=b.length - 4:=by show(b.take (b.length - 4)).length=_;rw[List.length_take];omega
 rw[hlen] at hi
 have head:∀ {R:Option Out} (aA:Nat),(bif(mgE NI (mR b)).2.2.2.1 then some (oA none)else bif decide ((mgE NI (mR b)).1>i64.wrap (((b.length - 4:Nat):Int) - (mgE NI (mR b)).2.2.1))then some (oA none)else
   bif decide (0<=i64.wrap ((mgE NI (mR b)).2.2.1+(mgE NI (mR b)).1))&&decide (i64.wrap ((mgE NI (mR b)).2.2.1+(mgE NI (mR b)).1)<=(b.length:Int))then
   bif decide (0<=(mgE NI (mR b)).2.2.1)&&decide ((mgE NI (mR b)).2.2.1<=(((i64.wrap ((mgE NI (mR b)).2.2.1+(mgE NI (mR b)).1)).toNat:Nat):Int))then
   (((aJ p n) 207 [vf K22 (((b.take (i64.wrap ((mgE NI (mR b)).2.2.1+(mgE NI (mR b)).1)).toNat).drop (mgE NI (mR b)).2.2.1.toNat),())]).bind (dE [K50,K4] [])).bind λo11=>(bif !(vB o11.1.2.1.1)then some (oA none)else
   (((aJ p n) 208 [.ref ⟨K234,((mgE NI (mR b)).2.1,i64.wrap ((mgE NI (mR b)).2.2.1+(mgE NI (mR b)).1),(mgE NI (mR b)).2.2.2.1,())⟩, vf K3 ((5:Int),())]).bind (dE [K3] [K234])).bind λo12=>
    iter (c125_25 (aJ p n) aA b (prA (aO (rdK (mR b) 0))) o11 o12 (prA (aO (rdK (mR b) 1))) (prA (aO (rdK (mR b) 2))) (prA (aO (rdK (mR b) 3))) (prA (aO (rdK (mR b) 4))) (prN (mgA NI (mR b))) (prA (mgB NI (mR b))) (prN (mgC NI (mR b))) (prN (mgD NI (mR b)))) aA ((0:Int),(@vL K5 o12.2.1.1),(vI o12.2.1.2.1),(vB o12.2.1.2.2.1),([]:List aR)))
   else none else none)=R->T125 (aJ p n) aA b=R:=by
  intro R aA hR
  unfold T125;refine qN h2 ?_;refine qT ha ?_;refine qF (show(!cH (b.take 2) rk2)=false by rw[hk];rfl) ?_
  rw[show i64.wrap (((List.length (α:=Row K5) b:Nat):Int) - 4)=((b.length - 4:Nat):Int)from e4];refine qT hc4 ?_
  refine qR (f205 (rdK (mR b) 0) (hr.k 0)) ?_;refine qR (f205 (rdK (mR b) 1) (hr.k 1)) ?_;refine qR (f205 (rdK (mR b) 2) (hr.k 2)) ?_;refine qR (f205 (rdK (mR b) 3) (hr.k 3)) ?_;refine qR (f205 (rdK (mR b) 4) (hr.k 4)) ?_
  refine qR (f206 (rdK (mR b) 5) 4 (hr.k 5) (by omega)) ?_;refine qR (f205 (mgA NI (mR b)).2 G.a) ?_;refine qR (f206 (mgB NI (mR b)).2 5 G.b (by omega)) ?_;refine qR (f206 (mgC NI (mR b)).2 4 G.c (by omega)) ?_;refine qR (f205 (mgD NI (mR b)).2 G.d) ?_
  exact hR
 have un:oV NI (mR b)=true->cW b=none:=λh=>by unfold cW;rw[hlen2,hk,h];rfl
 have hbadE:oV NI (mR b)=((mgE NI (mR b)).2.2.2.1||decide ((mgE NI (mR b)).1>((b.length - 4:Nat):Int) - (mgE NI (mR b)).2.2.1)):=by unfold oV;rw[G.list,hlen]
 have ew:i64.wrap (((b.length - 4:Nat):Int) - (mgE NI (mR b)).2.2.1)=((b.length - 4:Nat):Int) - (mgE NI (mR b)).2.2.1:=by rw[IntKind.wrap_i64];omega
 have ep:i64.wrap ((mgE NI (mR b)).2.2.1+(mgE NI (mR b)).1)=(mgE NI (mR b)).2.2.1+(mgE NI (mR b)).1:=by rw[IntKind.wrap_i64];omega
 cases hE:(mgE NI (mR b)).2.2.2.1 with
 | true=>
  have:=un (by rw[hbadE,hE];rfl)
  exact Ev.now λaA=>head aA (by rw[hE,this];rfl)
 | false=>
 by_cases hgt:(mgE NI (mR b)).1>((b.length - 4:Nat):Int) - (mgE NI (mR b)).2.2.1
 ·have:=un (by rw[hbadE,hE,decide_eq_true hgt];rfl)
  exact Ev.now λaA=>head aA (by rw[hE,ew,decide_eq_true hgt,this];rfl)
 have hbad:oV NI (mR b)=false:=by rw[hbadE,hE,decide_eq_false hgt];rfl
 have hR:=QC G hbad
 have hp:(b.take ((mgE NI (mR b)).2.2.1+(mgE NI (mR b)).1).toNat).drop (mgE NI (mR b)).2.2.1.toNat=fJ NI (mR b):=by
  unfold fJ;rw[G.list]
  show _=((b.take (b.length - 4)).take _).drop _
  rw[List.take_take,Nat.min_eq_left (by omega)]
 have hpb:ByL (fJ NI (mR b)):=by rw[<- hp];exact hb.byL.sub λx hx=>List.mem_of_mem_take (List.mem_of_mem_drop hx)
 have hpl:(fJ NI (mR b)).length<=aV:=by rw[<- hp,List.length_drop,List.length_take];show _<=1048576;omega
 have i1:(decide (0<=(mgE NI (mR b)).2.2.1+(mgE NI (mR b)).1)&&decide ((mgE NI (mR b)).2.2.1+(mgE NI (mR b)).1<=(b.length:Int)))=true:=rng (c:=True) (d:=True) (by omega) (by omega)
 have i2:(decide (0<=(mgE NI (mR b)).2.2.1)&&decide ((mgE NI (mR b)).2.2.1<=((((mgE NI (mR b)).2.2.1+(mgE NI (mR b)).1).toNat:Nat):Int)))=true:=rng (c:=True) (d:=True) (by omega) (by omega)
 have hg:=f207 (fJ NI (mR b)) hpb.b8 hpl
 cases hst:cF (fJ NI (mR b))with
 | none=>
  have e:cW b=none:=by unfold cW;rw[hlen2,hk,hbad,hst];rfl
  rw[hst,<- hp] at hg
  exact Ev.now λaA=>head aA (by
   rw[hE,ew,ep,decide_eq_false hgt,e];refine qf ?_;refine qf ?_;refine qT i1 ?_;refine qT i2 ?_;refine qD hg ?_;rfl)
 | some s=>
 rw[hst,<- hp] at hg
 have hso:=vC hst
 have e:cW b=bif(miF b).2.2.2.1||(!dZ (miM b s)|| !cH (bD (miM b s)) b)then none else some (miM b s):=by unfold cW;rw[hlen2,hk,hbad,hst];rfl
 have rC:RdOk (miC b).2:=hR.cnt 5
 have rG:∀ k,RdOk (cN eB (miC b).2 k).2:=oX (f:=eB) (λr h=>RdOk.floor h) rC
 have bC:0<=(miC b).1/\(miC b).1<=5:=sD _ (by decide)
 have lF:(miF b).1.length<=5:=by unfold miF;rw[iV];omega
 have hz:SzM (miM b s):=QD G (E4 hso) (by omega)
 have inn:It (λaA (_:Unit)=>c125_25 (aJ p n) aA b (prA (aO (rdK (mR b) 0))) (S9 s true) (prA (miC b)) (prA (aO (rdK (mR b) 1))) (prA (aO (rdK (mR b) 2))) (prA (aO (rdK (mR b) 3))) (prA (aO (rdK (mR b) 4))) (prN (mgA NI (mR b))) (prA (mgB NI (mR b))) (prN (mgC NI (mR b))) (prN (mgD NI (mR b)))) (rdF 0 (cN eB (miC b).2 0)) (λ_=>some (oA (cW b))):=by
  refine It.run (λk=>rdF k (cN eB (miC b).2 k)) (miC b).1.toNat (λk hk aA u rec=>?_) (It.stop λaA u rec=>?_)
  ·have hln:=iV eB (miC b).2 k
   have hbd:(cN eB (miC b).2 k).1.length+1<=bound:=by unfold bound;omega
   show c125_25 (aJ p n) aA b (prA (aO (rdK (mR b) 0))) (S9 s true) (prA (miC b)) (prA (aO (rdK (mR b) 1))) (prA (aO (rdK (mR b) 2))) (prA (aO (rdK (mR b) 3))) (prA (aO (rdK (mR b) 4))) (prN (mgA NI (mR b))) (prA (mgB NI (mR b))) (prN (mgC NI (mR b))) (prN (mgD NI (mR b))) rec (rdF k (cN eB (miC b).2 k))=rec (rdF (k+1) (cN eB (miC b).2 (k+1)))
   unfold c125_25 rdF;dsimp only;rw[aF (show k<9223372036854775807 by omega)];refine qP (show(k:Int)<(miC b).1 by omega) ?_;refine qR (f205 (cN eB (miC b).2 k).2 (rG k)) ?_;refine qR (f205 (aO (cN eB (miC b).2 k).2).2 (rG k).num) ?_;refine qP hbd ?_;rfl
  ·show c125_25 (aJ p n) aA b (prA (aO (rdK (mR b) 0))) (S9 s true) (prA (miC b)) (prA (aO (rdK (mR b) 1))) (prA (aO (rdK (mR b) 2))) (prA (aO (rdK (mR b) 3))) (prA (aO (rdK (mR b) 4))) (prN (mgA NI (mR b))) (prA (mgB NI (mR b))) (prN (mgC NI (mR b))) (prN (mgD NI (mR b))) rec (rdF (miC b).1.toNat (miF b))=_
   unfold c125_25 rdF;dsimp only;refine qN (show ¬ ((((miC b).1.toNat:Nat):Int)<(miC b).1) by omega) ?_
   cases hbd:(miF b).2.2.2.1 with
   | true=>refine qt ?_;rw[show cW b=none by rw[e,hbd];rfl];rfl
   | false=>
    refine qf ?_;refine qC (f209 (miM b s) hz) ?_
    cases hm:dZ (miM b s)with
    | false=>refine qt ?_;rw[show cW b=none by rw[e,hbd,hm];rfl];rfl
    | true=>
     refine qf ?_;refine qC (f211 (miM b s) hz) ?_;refine qC (f210 (bD (miM b s)) b) ?_
     cases he:cH (bD (miM b s)) b with
     | false=>refine qt ?_;rw[show cW b=none by rw[e,hbd,hm,he];rfl];rfl
     | true=>refine qf ?_;rw[show cW b=some (miM b s) by rw[e,hbd,hm,he];rfl];rfl
 have hcn:Ran p 3 208 [.ref ⟨K234,((mgE NI (mR b)).2.1,(mgE NI (mR b)).2.2.1+(mgE NI (mR b)).1,false,())⟩, vf K3 ((5:Int),())] ⟨[⟨K3,((miC b).1,())⟩],[⟨K234,(miC b).2⟩]⟩:=by
  have h:=f208 (mgR NI (mR b)) 5 hR
  rw[show mgR NI (mR b)=((mgE NI (mR b)).2.1,(mgE NI (mR b)).2.2.1+(mgE NI (mR b)).1,false,()) by unfold mgR;rw[hE]] at h
  rw[show miC b=eW ((mgE NI (mR b)).2.1,(mgE NI (mR b)).2.2.1+(mgE NI (mR b)).1,false,()) 5 by unfold miC mgR;rw[hE]]
  exact h
 exact Ev.eq (λaA=>head aA (by
  rw[hE,ew,ep,decide_eq_false hgt];refine qf ?_;refine qf ?_;refine qT i1 ?_;refine qT i2 ?_;refine qD hg ?_;refine qf ?_
  refine qR hcn ?_;rfl)) (inn.ev (i:=()) rfl)
end Go.Abs.Pz
set_option maxHeartbeats 4000000
namespace Go.Abs.Pz
open Go Go.Abs
theorem f23(b:List aH)(hb:B8 b)(hl:b.length<=aV):Ran p 7 23 [vf K22 (b,())] (oA (cW b)):=go23 λn hn=>by
 rw[<- TF hb.byL]
 have hs:b.length<=1048576:=hl
 by_cases h2:(b.length:Int)<6
 ·exact Ev.now λaA=>by unfold T23;refine qP h2 ?_;rw[show f0 b=none by unfold f0;rw[decide_eq_true h2];rfl];rfl
 have h6:6<=b.length:=by omega
 have e4:i64.wrap ((b.length:Int) - 4)=((b.length - 4:Nat):Int):=by rw[IntKind.wrap_i64];omega
 have hlen2:decide ((b.length:Int)<6)=false:=decide_eq_false h2
 have hc4:(decide ((0:Int)<=((b.length - 4:Nat):Int))&&decide (((b.length - 4:Nat):Int)<=(b.length:Int)))=true:=rng (c:=True) (d:=True) (by omega) (by omega)
 have hr:=UG hb hl h6
 have hbt:ByL (b.take (b.length - 4)):=hb.byL.sub λx hx=>List.mem_of_mem_take hx
 have hlt:(b.take (b.length - 4)).length<=aV:=by rw[List.length_take];show _<=1048576;omega
 have hsum:=f71 (b.take (b.length - 4)) hbt hlt
 have eT:List.drop (α:=Row K5) ((b.length - 4:Nat):Int).toNat (List.take (α:=Row K5) b.length b)=b.drop (b.length - 4):=by
  show List.drop ((b.length - 4:Nat):Int).toNat (List.take b.length b)=b.drop (b.length - 4)
  rw[List.take_length,Int.toNat_natCast]
 cases hk:cH (vA (b.take (b.length - 4))) (b.drop (b.length - 4))with
 | false=>
  exact Ev.now λaA=>by
   unfold T23;refine qN h2 ?_;rw[show i64.wrap (((List.length (α:=Row K5) b:Nat):Int) - 4)=((b.length - 4:Nat):Int)from e4];refine qT hc4 ?_;refine qC hsum ?_;refine qT hc4 ?_
   refine qT (show(!cH (vA (b.take (b.length - 4))) (List.drop (α:=Row K5) ((b.length - 4:Nat):Int).toNat (List.take (α:=Row K5) b.length b)))=true by rw[eT,hk];rfl) ?_
   rw[show f0 b=none by unfold f0;rw[hlen2,hk];rfl];rfl
 | true=>
 have G:=UF WI hr
 have lo:=G.e.lo;have hi:=G.e.hi;have nn:=G.nn
 have hlen:(mR b).1.length=b.length - 4:=by show(b.take (b.length - 4)).length=_;rw[List.length_take];omega
 have hle:(mgE NS (mR b)).2.1.length=b.length - 4:=by rw[G.list];exact hlen
 have head:∀ {R:Option Out} (aA:Nat),(bif(mgE NS (mR b)).2.2.2.1 then some (oA none)else bif decide ((mgE NS (mR b)).1>i64.wrap ((((mgE NS (mR b)).2.1.length:Nat):Int) - (mgE NS (mR b)).2.2.1))then some (oA none)else
   bif decide (0<=i64.wrap ((mgE NS (mR b)).2.2.1+(mgE NS (mR b)).1))&&decide (i64.wrap ((mgE NS (mR b)).2.2.1+(mgE NS (mR b)).1)<=(((mgE NS (mR b)).2.1.length:Nat):Int))then
   bif decide (0<=(mgE NS (mR b)).2.2.1)&&decide ((mgE NS (mR b)).2.2.1<=(((i64.wrap ((mgE NS (mR b)).2.2.1+(mgE NS (mR b)).1)).toNat:Nat):Int))then
   (((aJ p n) 74 [vf K22 ((((mgE NS (mR b)).2.1.take (i64.wrap ((mgE NS (mR b)).2.2.1+(mgE NS (mR b)).1)).toNat).drop (mgE NS (mR b)).2.2.1.toNat),())]).bind (dE [K50,K4] [])).bind λo12=>
   (((aJ p n) 73 [.ref ⟨K113,((mgE NS (mR b)).2.1,i64.wrap ((mgE NS (mR b)).2.2.1+(mgE NS (mR b)).1),(mgE NS (mR b)).2.2.2.1,())⟩, vf K3 ((2:Int),())]).bind (dE [K38] [K113])).bind λo13=>
    iter (c23_22 (aJ p n) aA b (I1 (mgD NS (mR b))) o12 o13 (zA (aO (rdK (mR b) 0))) (zA (aO (rdK (mR b) 1))) (zA (aO (rdK (mR b) 2))) (zA (aO (rdK (mR b) 3))) (zA (aO (rdK (mR b) 4))) (I1 (mgA NS (mR b))) (zA (mgB NS (mR b))) (I1 (mgC NS (mR b)))) aA ((0:Int),([]:List aR))
   else none else none)=R->T23 (aJ p n) aA b=R:=by
  intro R aA hR
  unfold T23;refine qN h2 ?_;rw[show i64.wrap (((List.length (α:=Row K5) b:Nat):Int) - 4)=((b.length - 4:Nat):Int)from e4];refine qT hc4 ?_;refine qC hsum ?_;refine qT hc4 ?_
  refine qF (show(!cH (vA (b.take (b.length - 4))) (List.drop (α:=Row K5) ((b.length - 4:Nat):Int).toNat (List.take (α:=Row K5) b.length b)))=false by rw[eT,hk];rfl) ?_
  refine qT hc4 ?_
  refine qR (f72 (rdK (mR b) 0) (hr.k 0)) ?_;refine qR (f72 (rdK (mR b) 1) (hr.k 1)) ?_;refine qR (f72 (rdK (mR b) 2) (hr.k 2)) ?_;refine qR (f72 (rdK (mR b) 3) (hr.k 3)) ?_;refine qR (f72 (rdK (mR b) 4) (hr.k 4)) ?_
  refine qR (f73 (rdK (mR b) 5) 1 1 rfl (hr.k 5) (by omega)) ?_;refine qR (f72 (mgA NS (mR b)).2 G.a) ?_;refine qR (f73 (mgB NS (mR b)).2 1 1 rfl G.b (by omega)) ?_;refine qR (f73 (mgC NS (mR b)).2 1 1 rfl G.c (by omega)) ?_;refine qR (f72 (mgD NS (mR b)).2 G.d) ?_
  exact hR
 have un:oV NS (mR b)=true->f0 b=none:=λh=>by unfold f0;rw[hlen2,hk,h];rfl
 have hbadE:oV NS (mR b)=((mgE NS (mR b)).2.2.2.1||decide ((mgE NS (mR b)).1>(((mgE NS (mR b)).2.1.length:Nat):Int) - (mgE NS (mR b)).2.2.1)):=rfl
 have ew:i64.wrap ((((mgE NS (mR b)).2.1.length:Nat):Int) - (mgE NS (mR b)).2.2.1)=(((mgE NS (mR b)).2.1.length:Nat):Int) - (mgE NS (mR b)).2.2.1:=by rw[IntKind.wrap_i64];omega
 have ep:i64.wrap ((mgE NS (mR b)).2.2.1+(mgE NS (mR b)).1)=(mgE NS (mR b)).2.2.1+(mgE NS (mR b)).1:=by rw[IntKind.wrap_i64];omega
 cases hE:(mgE NS (mR b)).2.2.2.1 with
 | true=>
  have:=un (by rw[hbadE,hE];rfl)
  exact Ev.now λaA=>head aA (by rw[hE,this];rfl)
 | false=>
 by_cases hgt:(mgE NS (mR b)).1>(((mgE NS (mR b)).2.1.length:Nat):Int) - (mgE NS (mR b)).2.2.1
 ·have:=un (by rw[hbadE,hE,decide_eq_true hgt];rfl)
  exact Ev.now λaA=>head aA (by rw[hE,ew,decide_eq_true hgt,this];rfl)
 have hbad:oV NS (mR b)=false:=by rw[hbadE,hE,decide_eq_false hgt];rfl
 have hR:=QC G hbad
 have hpb:ByL (fJ NS (mR b)):=G.e.b8.byL.sub λx hx=>List.mem_of_mem_take (List.mem_of_mem_drop hx)
 have hpl:(fJ NS (mR b)).length<=aV:=by unfold fJ;rw[List.length_drop,List.length_take];show _<=1048576;omega
 have i1:(decide (0<=(mgE NS (mR b)).2.2.1+(mgE NS (mR b)).1)&&decide ((mgE NS (mR b)).2.2.1+(mgE NS (mR b)).1<=(((mgE NS (mR b)).2.1.length:Nat):Int)))=true:=rng (c:=True) (d:=True) (by omega) (by omega)
 have i2:(decide (0<=(mgE NS (mR b)).2.2.1)&&decide ((mgE NS (mR b)).2.2.1<=((((mgE NS (mR b)).2.2.1+(mgE NS (mR b)).1).toNat:Nat):Int)))=true:=rng (c:=True) (d:=True) (by omega) (by omega)
 have hg:=f74 (fJ NS (mR b)) hpb.b8 hpl
 rw[ML hpb,PB] at hg
 have hz0:=TQ (fJ NS (mR b))
 have e:f0 b=bif(cF (fJ NS (mR b))).isNone||((msF b).2.2.2.1||(!dZ (msM b)|| !cH (bD (msM b)) b))then none else some (msM b):=by unfold f0;rw[hlen2,hk,hbad];rfl
 have hz:SzM (msM b):=QD G hz0 (LX _)
 have hm2:=tJ (mgR NS (mR b)) 2
 have inn:It (λaA (_:Unit)=>c23_22 (aJ p n) aA b (I1 (mgD NS (mR b))) (S9 ((cF (fJ NS (mR b))).getD iK) (cF (fJ NS (mR b))).isSome) (I1 (cX (mgR NS (mR b)) 2)) (zA (aO (rdK (mR b) 0))) (zA (aO (rdK (mR b) 1))) (zA (aO (rdK (mR b) 2))) (zA (aO (rdK (mR b) 3))) (zA (aO (rdK (mR b) 4))) (I1 (mgA NS (mR b))) (zA (mgB NS (mR b))) (I1 (mgC NS (mR b)))) ((0:Int),([]:List aR)) (λ_=>some (oA (f0 b))):=by
  refine It.run (λk=>(((2*k:Nat):Int),jT (cX (mgR NS (mR b)) 2).1 k)) ((cX (mgR NS (mR b)) 2).1.length / 2) (λk hk aA u rec=>?_) (It.stop λaA u rec=>?_)
  ·have h1:2*k<(cX (mgR NS (mR b)) 2).1.length:=by omega
   have h2:2*k+1<(cX (mgR NS (mR b)) 2).1.length:=by omega
   have e1:i64.wrap (((2*k:Nat):Int)+1)=((2*k+1:Nat):Int):=by rw[IntKind.wrap_i64];omega
   have e2:i64.wrap (((2*k:Nat):Int)+2)=((2*(k+1):Nat):Int):=by rw[IntKind.wrap_i64];omega
   have hbd:(jT (cX (mgR NS (mR b)) 2).1 k).length+1<=bound:=by rw[uE];unfold bound;omega
   unfold c23_22;dsimp only;rw[e1,e2,yN];refine ql h2 ?_;refine qz ?_;refine(aD h1).trans ?_;refine(aD h1).trans ?_;refine qz ?_;refine(aD h2).trans ?_;refine(aD h2).trans ?_;refine qP hbd ?_;rfl
  ·have e1:i64.wrap ((((2*((cX (mgR NS (mR b)) 2).1.length / 2):Nat)):Int)+1)=((2*((cX (mgR NS (mR b)) 2).1.length / 2)+1:Nat):Int):=by rw[IntKind.wrap_i64];omega
   unfold c23_22;dsimp only;rw[e1];refine qN (show ¬ (((2*((cX (mgR NS (mR b)) 2).1.length / 2)+1:Nat):Int)<(((cX (mgR NS (mR b)) 2).1.length:Nat):Int)) by omega) ?_
   cases hso:(cF (fJ NS (mR b))).isSome with
   | false=>refine qt ?_;rw[show f0 b=none by rw[e,show(cF (fJ NS (mR b))).isNone=true by rw[<- Option.not_isSome,hso];rfl];rfl];rfl
   | true=>
    have hno:(cF (fJ NS (mR b))).isNone=false:=by rw[<- Option.not_isSome,hso];rfl
    refine qf ?_
    cases hbd:(msF b).2.2.2.1 with
    | true=>refine qT hbd ?_;rw[show f0 b=none by rw[e,hno,hbd];rfl];rfl
    | false=>
     refine qF hbd ?_;refine qC (f75 (msM b) hz) ?_
     cases hm:dZ (msM b)with
     | false=>refine qt ?_;rw[show f0 b=none by rw[e,hno,hbd,hm];rfl];rfl
     | true=>
      refine qf ?_;refine qC (f76 (msM b) hz) ?_
      cases he:cH (bD (msM b)) b with
      | false=>refine qT (show(!cH (bD (msM b)) b)=true by rw[he];rfl) ?_;rw[show f0 b=none by rw[e,hno,hbd,hm,he];rfl];rfl
      | true=>refine qF (show(!cH (bD (msM b)) b)=false by rw[he];rfl) ?_;rw[show f0 b=some (msM b) by rw[e,hno,hbd,hm,he];rfl];rfl
 have hcn:Ran p 3 73 [.ref ⟨K113,((mgE NS (mR b)).2.1,(mgE NS (mR b)).2.2.1+(mgE NS (mR b)).1,false,())⟩, vf K3 ((2:Int),())] (tK (cX (mgR NS (mR b)) 2)):=by
  have h:=f73 (mgR NS (mR b)) 2 2 rfl hR (by omega)
  rw[show mgR NS (mR b)=((mgE NS (mR b)).2.1,(mgE NS (mR b)).2.2.1+(mgE NS (mR b)).1,false,()) by unfold mgR;rw[hE]] at h ⊢
  exact h
 exact Ev.eq (λaA=>head aA (by
  rw[hE,ew,ep,decide_eq_false hgt];refine qf ?_;refine qf ?_;refine qT i1 ?_;refine qT i2 ?_;refine qD hg ?_;refine qR hcn ?_;rfl)) (inn.ev (i:=()) rfl)
-- receiving bytes
def fG(x:NodeT)(b:List aH):NodeT×List bT×Int:=match cW b with
 | none=>(x,[],1)
 | some m=>((eJ x m).1,(eJ x m).2.1.map (λa=>(bD a,())),(eJ x m).2.2)
def UB(r:NodeT×List bT×Int):Out:=⟨[⟨K66,r.1⟩,⟨K250,(r.2.1,())⟩,⟨K3,(r.2.2,())⟩],[]⟩
theorem lB{x:NodeT}{b:List aH}(h:cW b=none):fG x b=(x,[],1):=by unfold fG;rw[h]
theorem lA{x:NodeT}{b:List aH}{m:MsgT}(h:cW b=some m):fG x b=((eJ x m).1,(eJ x m).2.1.map (λa=>(bD a,())),(eJ x m).2.2):=by unfold fG;rw[h]
theorem f232(x:NodeT)(b:List aH)(hz:SzN x)(hb:B8 b)(hl:b.length<=aV):Ran p 11 232 [va K66 x, vf K22 (b,())] (UB (fG x b)):=go232 λn hn=>by
 have hg:=f23 b hb hl
 cases hm:cW b with
 | none=>
  rw[hm] at hg
  exact Ev.now λaA=>by unfold T232;refine qD hg ?_;refine qt ?_;refine qC (f132 x hz) ?_;rw[lB hm];rfl
 | some m=>
  rw[hm] at hg
  have zm:=A5 hm
  have rs:=EZ hz zm
  have hrc:=f301 x m hz zm
  have lp:It (λaA (_:Unit)=>c232_7 (aJ p n) aA (((eJ x m).1,((eJ x m).2.1,()),((eJ x m).2.2,()),()),())) ((0:Int),([]:List bT)) (λ_=>some (UB (fG x b))):=by
   refine It.run (λi=>((i:Int),((eJ x m).2.1.take i).map (λa=>((bD a,()):bT)))) (eJ x m).2.1.length (λi hi aA u rec=>?_) (It.stop λaA u rec=>?_)
   ·have hbd:(((eJ x m).2.1.take i).map (λa=>((bD a,()):bT))).length+1<=bound:=by have:=rs.len;rw[List.length_map,List.length_take];unfold bound;omega
    have e:((eJ x m).2.1.take (i+1)).map (λa=>((bD a,()):bT))=((eJ x m).2.1.take i).map (λa=>((bD a,()):bT))++[(bD (gt (eJ x m).2.1 i),())]:=by rw[pO hi,List.map_append];rfl
    show c232_7 (aJ p n) aA (((eJ x m).1,((eJ x m).2.1,()),((eJ x m).2.2,()),()),()) rec ((i:Int),((eJ x m).2.1.take i).map (λa=>((bD a,()):bT)))=rec (((i+1:Nat):Int),((eJ x m).2.1.take (i+1)).map (λa=>((bD a,()):bT)))
    rw[e]
    unfold c232_7;dsimp only;rw[aF (show i<9223372036854775807 by have:=rs.len;omega)];refine ql hi ?_;refine qz ?_;refine(aD hi).trans ?_;refine(aD hi).trans ?_;refine qC (f76 (gt (eJ x m).2.1 i) (rs.msg _ (bZ hi))) ?_;refine qP hbd ?_;rfl
   ·show c232_7 (aJ p n) aA (((eJ x m).1,((eJ x m).2.1,()),((eJ x m).2.2,()),()),()) rec (((eJ x m).2.1.length:Int),((eJ x m).2.1.take (eJ x m).2.1.length).map (λa=>((bD a,()):bT)))=_
    rw[List.take_length,lA hm]
    unfold c232_7;dsimp only;refine qe ?_;rfl
  exact Ev.eq (λaA=>by unfold T232;refine qD hg ?_;refine qf ?_;refine qE hrc ?_;rfl) (lp.ev (i:=()) rfl)
end Go.Abs.Pz
set_option maxHeartbeats 4000000
namespace Go.Abs.Pz
open Go Go.Abs
theorem WE{b:List aH}(h:nH K22 (b,())):B8 b:=λk hk=>by
 have h2:=(rsl h).2 k (gt (α:=aH) b k) (by unfold at?;rw[cS hk];exact List.getElem?_eq_getElem hk)
 have hw:(Lit.int .u8 (gt b k).1).wf=true:=h2.1
 have hw:0<=(gt b k).1/\(gt b k).1<=255:=by
  simpa [Lit.wf,IntKind.min,IntKind.max,IntKind.signed,IntKind.bits] using hw
 exact⟨(gt b k).1.toNat,by omega,by omega⟩
structure RbSz (x:NodeT) (r:NodeT×List bT×Int):Prop where
 node:SzN r.1
 cn:cnS K66 r.1<=cnS K66 x+300
 len:r.2.1.length<=1
 row:∀ q∈r.2.1,q.1.length<=504
end Go.Abs.Pz
namespace Go.Abs.Pz
open Go Go.Abs
def EK(r:WG):Out:=⟨[⟨K66,r.1⟩,⟨K53,r.2.1⟩,⟨K4,(r.2.2,())⟩],[]⟩
theorem f228(x:NodeT)(i:Int):Ran p 2 228 [va K66 x, vf K3 (i,())] (rO K4 (i9 x i,())):=go228 λn hn=>Ev.now λaA=>by
 unfold T228 i9;refine qC (f47 i 0 (i64.wrap (x.2.1 - 1))) ?_
 cases inB i 0 (i64.wrap (x.2.1 - 1))<;>rfl
theorem f138(x:NodeT)(i:Int)(hz:SzN x):Ran p 8 138 [va K66 x, vf K3 (i,())] (EK (gH x i)):=go138 λn hn=>Ev.now λaA=>by
 have bad:kP x i=false->(some ⟨[⟨K66,x⟩,⟨K53,wZ⟩,⟨K4,(false,())⟩],[]⟩:Option Out)=some (EK (gH x i)):=λh=>by rw[zD h];rfl
 unfold T138;refine qC (f132 x hz) ?_;refine qC (f48 x hz) ?_
 cases g1:dD x with
 | false=>refine qt ?_;exact bad (by unfold kP;rw[g1];rfl)
 | true=>
 refine qf ?_;refine qC (f228 x i) ?_
 cases g2:i9 x i with
 | false=>refine qt ?_;exact bad (by unfold kP;rw[g1,g2];rfl)
 | true=>
 refine qf ?_;refine qC (f231 x i false hz.sess) ?_
 by_cases g3:dL x.sess i false>=0
 ·refine qP g3 ?_;exact bad (by unfold kP;rw[g1,g2,decide_eq_true g3];rfl)
 refine qN g3 ?_
 have hle:=((dV x).1 ((dW x).1 g1).sess).1
 cases g4:(x.sess.length:Int)==x.slots with
 | true=>
  have e:=eq_of_beq g4
  (first | refine qT g4 ?_ | refine qP (show(x.sess.length:Int)>=x.slots by omega) ?_);exact bad (by unfold kP;rw[g1,g2,decide_eq_false g3,g4];rfl)
 | false=>
 have e:(x.sess.length:Int)≠x.slots:=by rw[beq_eq_false_iff_ne] at g4;exact g4
 (first | refine qF g4 ?_ | refine qN (show ¬ (x.sess.length:Int)>=x.slots by omega) ?_)
 cases g5:x.num==100000 with
 | true=>(first | refine qT g5 ?_ | refine qt ?_);exact bad (by unfold kP;rw[g1,g2,decide_eq_false g3,g4,g5];rfl)
 | false=>
 (first | refine qF g5 ?_ | refine qf ?_)
 have ok:kP x i=true:=by unfold kP;rw[g1,g2,decide_eq_false g3,g4,g5];rfl
 have hb:x.sess.length+1<=bound:=by have:=hz.sess;unfold aV at this;unfold bound;omega
 have hz2:=z8 hz (u7 ok)
 rw[z9 ok];refine qP hb ?_;refine qC (f229 (C1 x i) 2 i (i64.wrap (x.num+1)) hz2) ?_;refine qC (f222 x.tree hz.leaves) ?_;rfl
theorem f131(x:NodeT)(i:Int)(hz:SzN x):Ran p 8 131 [va K66 x, vf K3 (i,())] (EK (gH x i)):=go131 λn hn=>Ev.now λaA=>by
 have bad:kP x i=false->(some ⟨[⟨K66,x⟩,⟨K53,wZ⟩,⟨K4,(false,())⟩],[]⟩:Option Out)=some (EK (gH x i)):=λh=>by rw[zD h];rfl
 unfold T131;refine qC (f121 x hz) ?_;refine qC (f44 x hz) ?_
 cases g1:dD x with
 | false=>refine qt ?_;exact bad (by unfold kP;rw[g1];rfl)
 | true=>
 refine qf ?_;refine qC (f196 x i) ?_
 cases g2:i9 x i with
 | false=>refine qt ?_;exact bad (by unfold kP;rw[g1,g2];rfl)
 | true=>
 refine qf ?_;refine qC (f197 x i false hz.sess) ?_
 by_cases g3:dL x.sess i false>=0
 ·refine qP g3 ?_;exact bad (by unfold kP;rw[g1,g2,decide_eq_true g3];rfl)
 refine qN g3 ?_
 have hle:=((dV x).1 ((dW x).1 g1).sess).1
 cases g4:(x.sess.length:Int)==x.slots with
 | true=>
  have e:=eq_of_beq g4
  (first | refine qT g4 ?_ | refine qP (show(x.sess.length:Int)>=x.slots by omega) ?_);exact bad (by unfold kP;rw[g1,g2,decide_eq_false g3,g4];rfl)
 | false=>
 have e:(x.sess.length:Int)≠x.slots:=by rw[beq_eq_false_iff_ne] at g4;exact g4
 (first | refine qF g4 ?_ | refine qN (show ¬ (x.sess.length:Int)>=x.slots by omega) ?_)
 cases g5:x.num==100000 with
 | true=>(first | refine qT g5 ?_ | refine qt ?_);exact bad (by unfold kP;rw[g1,g2,decide_eq_false g3,g4,g5];rfl)
 | false=>
 (first | refine qF g5 ?_ | refine qf ?_)
 have ok:kP x i=true:=by unfold kP;rw[g1,g2,decide_eq_false g3,g4,g5];rfl
 have hb:x.sess.length+1<=bound:=by have:=hz.sess;unfold aV at this;unfold bound;omega
 have hz2:=z8 hz (u7 ok)
 rw[z9 ok];refine qP hb ?_;refine qC (f213 (C1 x i) 2 i (i64.wrap (x.num+1)) hz2) ?_;refine qC (f200 x.tree hz.leaves) ?_;rfl
end Go.Abs.Pz
