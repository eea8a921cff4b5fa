/- What the functions of this program answer, part ra. -/
import Derived.Test.YthhpkmbhjghidaaGreatW3
import Derived.Test.YthhpkmbhjghidaaGreatXep
import Derived.Test.YthhpkmbhjghidaaGreatW2
import Derived.Test.YthhpkmbhjghidaaGreatXa
set_option linter.unusedVariables false
open Go.IntKind (i64)
namespace Go.Abs.Uz
open Go Go.Abs
theorem S5{α:Type}{a b:Bool}{F R:α}:(bif a then(bif !b then F else R)else F)=bif a&&b then R else F:=by cases a<;>cases b<;>rfl
theorem two{α:Type}{a b:Bool}{X R:α}:(bif a then(bif b then X else R)else R)=bif a&&b then X else R:=by cases a<;>cases b<;>rfl
theorem aR{k:Nat}(h:k<=aP):k<=maxLen:=Nat.le_trans h (by decide)
theorem bN{i k:Nat}(hi:i<k)(h:k<=aP):i<9223372036854775807:=Nat.lt_of_lt_of_le hi (Nat.le_trans h (by decide))

theorem f158(l:fZ)(hl:l.2.2.1.length<=aP)(hs:∀ i,i<l.2.2.1.length->SzS (gt l.2.2.1 i)):Ran p 4 158 [va K68 l] (rO K4 (gM l,())):=go158 λn hn=>by
 have lp:It (λaA (_:Unit)=>c158_4 (aI p n) aA l) (0:Int) (λ_=>oB (bJ l.2.2.1.length λi=>aL (gt l.2.2.1 i))):=by
  refine cH (It.allB l.2.2.1.length _ true (λi hi aA a rec=>?_) (It.stop λaA a rec=>?_))
  ·have hb:=bN hi hl
   unfold c158_4;rw[aF hb];refine ql hi ?_;refine qz ?_;refine(aD hi).trans ?_;refine qC (f87 (gt l.2.2.1 i) (aR (hs i hi).a) (aR (hs i hi).b)) ?_;exact fin
  ·unfold c158_4;refine qe ?_;rfl
 obtain⟨N,hN⟩:=lp.all_i
 refine⟨N,λaA hf=>?_⟩
 show T158 (aI p n) aA l=oB (gM l)
 unfold T158 gM;refine qC (f85 l.1 1 8) ?_;refine cS λ_=>?_;refine sZ λ_=>?_;refine qC (f85 l.2.1 0 100000) ?_;refine cS λ_=>?_;refine sZ λ_=>?_;exact hN aA hf ()
theorem f103(l:fZ)(hl:l.2.2.1.length<=aP)(hs:∀ i,i<l.2.2.1.length->SzS (gt l.2.2.1 i)):Ran p 4 103 [va K68 l] (rO K4 (gM l,())):=go103 λn hn=>by
 have lp:It (λaA (_:Unit)=>c103_2 (aI p n) aA l) (0:Int) (λ_=>oB (IB l)):=by
  refine It.allB l.2.2.1.length _ _ (λi hi aA a rec=>?_) (It.stop λaA a rec=>?_)
  ·have hb:=bN hi hl
   unfold c103_2;rw[aF hb];refine ql hi ?_;refine qz ?_;refine(aD hi).trans ?_;refine qC (f49 (gt l.2.2.1 i) (aR (hs i hi).a) (aR (hs i hi).b)) ?_;exact fin
  ·unfold c103_2;refine qe ?_;refine qC (f47 l.1 1 8) ?_;refine fC λ_=>?_;refine fC λ_=>?_;refine qC (f47 l.2.1 0 100000) ?_;refine fC λ_=>?_;rfl
 rw[SO] at lp
 exact Ev.eq (λaA=>by unfold T103;rfl) (lp.ev (i:=()) rfl)
theorem f160(l:fZ)(hl:l.2.2.1.length<=aP)(hs:∀ i,i<l.2.2.1.length->SzS (gt l.2.2.1 i)):Ran p 5 160 [va K68 l] (rO K3 (cA l,())):=go160 λn hn=>Ev.now λaA=>by
 unfold T160 cA;refine qC (f158 l hl hs) ?_;cases gM l<;>rfl
theorem f102(l:fZ)(hl:l.2.2.1.length<=aP)(hs:∀ i,i<l.2.2.1.length->SzS (gt l.2.2.1 i)):Ran p 5 102 [va K68 l] (rO K3 (cA l,())):=go102 λn hn=>Ev.now λaA=>by
 unfold T102 cA;refine qC (f103 l hl hs) ?_;cases gM l<;>rfl
theorem f159(v:List aH)(m:Int)(hv:v.length<=aP):Ran p 2 159 [vf K29 (v,()), vf K3 (m,())] (rO K4 (eD v m,())):=go159 λn hn=>by
 have lp:∃ N,∀ aA,N<=aA->((v.length:Int)==m)=true->iter (c159_4 (aI p n) aA v m) aA (0:Int)=oB (bJ v.length λi=>inB (gt v i).1 0 100000):=by
  cases he:(v.length:Int)==m with
  | false=>exact⟨0,λ_ _ h=>by cases h⟩
  | true=>
   have e:m=(v.length:Int):=(eq_of_beq he).symm
   subst e
   have lp:It (λaA (_:Unit)=>c159_4 (aI p n) aA v (v.length:Int)) (0:Int) (λ_=>oB (bJ v.length λi=>inB (gt v i).1 0 100000)):=by
    refine cH (It.allB v.length _ true (λi hi aA a rec=>?_) (It.stop λaA a rec=>?_))
    ·have hb:=bN hi hv
     unfold c159_4;rw[aF hb];refine ql hi ?_;refine qz ?_;refine(aD hi).trans ?_;refine qC (f85 (gt v i).1 0 100000) ?_;exact fin
    ·unfold c159_4;refine qe ?_;rfl
   obtain⟨N,hN⟩:=lp.all_i
   exact⟨N,λaA hf _=>hN aA hf ()⟩
 obtain⟨N,hN⟩:=lp
 refine⟨N,λaA hf=>?_⟩
 show T159 (aI p n) aA v m=oB (eD v m)
 unfold T159 eD;refine qC (f85 m 1 5) ?_;refine cS λ_=>?_;refine cS λh=>?_;exact hN aA hf h
theorem f104(v:List aH)(m:Int)(hv:v.length<=aP):Ran p 2 104 [vf K29 (v,()), vf K3 (m,())] (rO K4 (eD v m,())):=go104 λn hn=>by
 have lp:It (λaA (_:Unit)=>c104_2 (aI p n) aA v m) (0:Int) (λ_=>oB (HB v m)):=by
  refine It.allB v.length _ _ (λi hi aA a rec=>?_) (It.stop λaA a rec=>?_)
  ·have hb:=bN hi hv
   unfold c104_2;rw[aF hb];refine ql hi ?_;refine qz ?_;refine(aD hi).trans ?_;refine qC (f47 (gt v i).1 0 100000) ?_;exact fin
  ·unfold c104_2;refine qe ?_;refine qC (f47 m 1 5) ?_;refine fC λ_=>?_;rfl
 rw[RA] at lp
 exact Ev.eq (λaA=>by unfold T104;rfl) (lp.ev (i:=()) rfl)
theorem f161(t:List bM)(m:Int)(hv:t.length<=aP)(hr:∀ k,k<t.length->(gt t k).1.length<=aP):Ran p 2 161 [vf K69 (t,()), vf K3 (m,())] (rO K4 (gK t m,())):=go161 λn hn=>by
 have inner:∀ k,k<t.length->It (λaA rec4=>c161_9 (aI p n) aA t m (k:Int) rec4) (0:Int) (fun(rec4:Int->Option Out)=>bif(bJ (gt t k).1.length λi=>inB (gt (gt t k).1 i).1 0 1000)then rec4 ((k+1:Nat):Int)else oB false):=by
  intro k hk
  have hkb:=bN hk hv
  refine It.all (λi=>(i:Int)) (gt t k).1.length _ (rA:=fun(rec4:Int->Option Out)=>rec4 ((k+1:Nat):Int)) (rB:=λ_=>oB false) (λi hi aA rec4 rec=>?_) (It.stop λaA rec4 rec=>?_)
  ·have hb:=bN hi (hr k hk)
   unfold c161_9;rw[aF hb];refine qz ?_;refine(aD hk).trans ?_;refine ql hi ?_;refine qz ?_;refine(aD hk).trans ?_;refine qz ?_;refine(aD hi).trans ?_;refine qC (f85 (gt (gt t k).1 i).1 0 1000) ?_;exact fin
  ·unfold c161_9;rw[aF hkb];refine qz ?_;refine(aD hk).trans ?_;refine qe ?_;rfl
 have lp:∃ N,∀ aA,N<=aA->((t.length:Int)==m)=true->iter (c161_4 (aI p n) aA t m) aA (0:Int)=oB (bJ t.length λk=>tM (gt t k)):=by
  cases he:(t.length:Int)==m with
  | false=>exact⟨0,λ_ _ h=>by cases h⟩
  | true=>
   have e:m=(t.length:Int):=(eq_of_beq he).symm
   subst e
   have lp:It (λaA (_:Unit)=>c161_4 (aI p n) aA t (t.length:Int)) (0:Int) (λ_=>oB (bJ t.length λk=>tM (gt t k))):=by
    refine cH (It.allBE t.length _ true (λk hk=>?_) (It.stop λaA a rec=>?_))
    ·obtain⟨N,hN⟩:=(inner k hk).all_i
     refine⟨N,λaA hf a rec=>?_⟩
     unfold c161_4 tM;refine ql hk ?_;refine qz ?_;refine(aD hk).trans ?_;refine chk λ_=>?_;exact hN aA hf rec
    ·unfold c161_4;refine qe ?_;rfl
   obtain⟨N,hN⟩:=lp.all_i
   exact⟨N,λaA hf _=>hN aA hf ()⟩
 obtain⟨N,hN⟩:=lp
 refine⟨N,λaA hf=>?_⟩
 show T161 (aI p n) aA t m=oB (gK t m)
 unfold T161 gK;refine qC (f85 m 1 5) ?_;refine cS λ_=>?_;refine cS λh=>?_;exact hN aA hf h
theorem f106(t:List bM)(m:Int)(hv:t.length<=aP)(hr:∀ k,k<t.length->(gt t k).1.length<=aP):Ran p 2 106 [vf K69 (t,()), vf K3 (m,())] (rO K4 (gK t m,())):=go106 λn hn=>by
 have inner:∀ k,k<t.length->It (λaA rec2=>c106_5 (aI p n) aA t m (gt (α:=bM) t k) (k:Int) rec2) (0:Int) (fun(rec2:Int->Option Out)=>bif(bJ (gt t k).1.length λi=>inB (gt (gt t k).1 i).1 0 1000)then(bif !(((gt t k).1.length:Nat):Int)==5 then oB false else rec2 ((k+1:Nat):Int))else oB false):=by
  intro k hk
  have hkb:=bN hk hv
  refine It.all (λi=>(i:Int)) (gt t k).1.length _ (rA:=fun(rec2:Int->Option Out)=>bif !(((gt t k).1.length:Nat):Int)==5 then oB false else rec2 ((k+1:Nat):Int)) (rB:=λ_=>oB false) (λi hi aA rec2 rec=>?_) (It.stop λaA rec2 rec=>?_)
  ·have hb:=bN hi (hr k hk)
   unfold c106_5;rw[aF hb];refine ql hi ?_;refine qz ?_;refine(aD hi).trans ?_;refine qC (f47 (gt (gt t k).1 i).1 0 1000) ?_;exact fin
  ·unfold c106_5;rw[aF hkb];refine qe ?_;rfl
 have lp:It (λaA (_:Unit)=>c106_2 (aI p n) aA t m) (0:Int) (λ_=>oB (zL t m)):=by
  refine It.allBE t.length _ _ (λk hk=>?_) (It.stop λaA a rec=>?_)
  ·obtain⟨N,hN⟩:=(inner k hk).all_i
   refine⟨N,λaA hf a rec=>?_⟩
   unfold c106_2 y6;refine ql hk ?_;refine qz ?_;refine(aD hk).trans ?_;exact(hN aA hf rec).trans S5
  ·unfold c106_2;refine qe ?_;refine qC (f47 m 1 5) ?_;refine fC λ_=>?_;rfl
 rw[LB] at lp
 exact Ev.eq (λaA=>by unfold T106;rfl) (lp.ev (i:=()) rfl)
theorem f105(v:List aH)(hv:v.length<=aP)(h0:0<v.length):Ran p 1 105 [vf K29 (v,())] (rO K3 (L8 v,())):=go105 λn hn=>by
 obtain⟨k,hk⟩:∃ k,v.length=k+1:=⟨v.length - 1,by omega⟩
 have em:L8 v=AG v k:=by unfold L8;rw[hk];rfl
 rw[em]
 have lp:It (λaA (_:Unit)=>c105_5 (aI p n) aA v) ((gt (α:=aH) v 0).1,(1:Int)) (λ_=>oI (AG v k)):=by
  refine It.run (λj=>(AG v j,((j+1:Nat):Int))) k (λj hj aA a rec=>?_) (It.stop λaA a rec=>?_)
  ·have hj1:j+1<v.length:=by omega
   have hb:=bN hj1 hv
   unfold c105_5;dsimp only;rw[aF hb];refine ql hj1 ?_;refine qz ?_;refine(aD hj1).trans ?_;rfl
  ·unfold c105_5;rw[<- hk];refine qe ?_;rfl
 refine Ev.eq (λaA=>?_) (lp.ev (i:=()) rfl)
 unfold T105;refine qN (by show ¬ ((v.length:Int)<1);omega) ?_;refine qP (by decide) ?_;exact(aD (α:=aH) (xs:=v) (i:=0) h0)
theorem f171(nd:NodeT)(x:Int):Ran p 2 171 [va K73 nd, vf K3 (x,())] (rO K4 (mN nd x,())):=go171 λn hn=>Ev.now λaA=>by
 unfold T171 mN;refine qC (f47 x 0 (i64.wrap (nd.2.1 - 1))) ?_;refine fC λ_=>?_;rfl
theorem f172(nd:NodeT)(x:Int)(b:Bool)(hv:nd.sess.length<=aP):Ran p 1 172 [va K73 nd, vf K3 (x,()), vf K4 (b,())] (rO K3 (dE nd.sess x b,())):=go172 λn hn=>by
 have lp:It (λaA (_:Unit)=>c172_2 (aI p n) aA nd x b) (0:Int) (λ_=>oI (dE nd.sess x b)):=by
  have:=It.first (c:=λaA (_:Unit)=>c172_2 (aI p n) aA nd x b) (λi=>(i:Int)) nd.sess.length (λi=>dJ nd.sess i x b) (λi _=>oI (i:Int)) (λ_=>oI (-1)) (λi hi hp aA a rec=>?_) (λi hi hp=>It.stop λaA a rec=>?_) (It.stop λaA a rec=>?_)
  ·revert this;unfold dE
   cases (List.range nd.sess.length).find? (λi=>dJ nd.sess i x b)<;>exact λh=>h
  ·have hb:=bN hi hv
   unfold c172_2;rw[aF hb];refine ql hi ?_;refine qz ?_;refine(aD hi).trans ?_;exact two.trans (iM hp)
  ·unfold c172_2;refine ql hi ?_;refine qz ?_;refine(aD hi).trans ?_;exact two.trans (mG hp)
  ·unfold c172_2;refine qe ?_;rfl
 exact Ev.eq (λaA=>by unfold T172;rfl) (lp.ev (i:=()) rfl)
theorem f107(nd:NodeT)(hv:nd.sess.length<=aP):Ran p 3 107 [va K73 nd] (rO K4 (uO nd,())):=go107 λn hn=>by
 have lp:It (λaA (_:Unit)=>c107_2 (aI p n) aA nd) (0:Int) (λ_=>oB (uO nd)):=by
  refine It.allB nd.sess.length _ _ (λi hi aA a rec=>?_) (It.stop λaA a rec=>?_)
  ·have hb:=bN hi hv
   unfold c107_2 rX;rw[aF hb];refine ql hi ?_;refine qz ?_;refine(aD hi).trans ?_;refine qC (f171 nd (gt nd.sess i).1) ?_;refine chk λ_=>?_;refine qC (f47 (gt nd.sess i).2.1 0 100000) ?_;refine chk λ_=>?_;refine qC (f47 (gt nd.sess i).2.2.2.1 0 nd.wait) ?_;refine chk λ_=>?_;refine qC (f172 nd (gt nd.sess i).1 (gt nd.sess i).2.2.1 hv) ?_;exact fin
  ·unfold c107_2;refine qe ?_;refine qC (f47 nd.slots 1 4) ?_;refine fC λ_=>?_;rfl
 exact Ev.eq (λaA=>by unfold T107;rfl) (lp.ev (i:=()) rfl)
theorem f108(nd:NodeT)(hv:nd.rises.length<=aP):Ran p 2 108 [va K73 nd] (rO K4 (uR nd,())):=go108 λn hn=>by
 have lp:It (λaA (_:Unit)=>c108_2 (aI p n) aA nd) (0:Int) (λ_=>oB (uR nd)):=by
  refine It.allB nd.rises.length _ _ (λi hi aA a rec=>?_) (It.stop λaA a rec=>?_)
  ·have hb:=bN hi hv
   unfold c108_2 kI;rw[aF hb];refine ql hi ?_;refine qz ?_;refine(aD hi).trans ?_;refine qC (f47 (gt nd.rises i).1 0 1000) ?_;refine chk λ_=>?_;refine qC (f47 (gt nd.rises i).2.1 0 100000) ?_;refine chk λ_=>?_;refine qC (f47 (gt nd.rises i).2.2.1 0 nd.clock) ?_;exact fin
  ·unfold c108_2;refine qe ?_;rfl
 exact Ev.eq (λaA=>by unfold T108;rfl) (lp.ev (i:=()) rfl)
theorem f162(nd:NodeT)(hv:nd.sess.length<=aP):Ran p 2 162 [va K73 nd] (rO K4 (lX nd,())):=go162 λn hn=>by
 have inner:∀ (o3 o4:Rows [K4]×Rows []) (i:Nat),i<nd.sess.length->It (λaA rec4=>c162_10 (aI p n) aA nd o3 o4 (gt (α:=eI) nd.sess i) (i:Int) rec4) (0:Int) (fun(rec4:Int->Option Out)=>bif CN nd.sess i then rec4 ((i+1:Nat):Int)else oB false):=by
  intro o3 o4 i hi
  have hib:=bN hi hv
  refine It.all (λk=>(k:Int)) i (λk=> !dJ nd.sess k (gt nd.sess i).1 (gt nd.sess i).2.2.1) (rA:=fun(rec4:Int->Option Out)=>rec4 ((i+1:Nat):Int)) (rB:=λ_=>oB false) (λk hk aA rec4 rec=>?_) (It.stop λaA rec4 rec=>?_)
  ·have hk':k<nd.sess.length:=by omega
   have hb:=bN hk' hv
   unfold c162_10 dJ;rw[aF hb];refine ql hk ?_;refine qz ?_;refine(aD hk').trans ?_
   show(bif(gt nd.sess k).1==(gt nd.sess i).1 then _ else _)=bif !((gt nd.sess k).1==(gt nd.sess i).1&&_)then _ else _
   cases (gt nd.sess k).1==(gt nd.sess i).1 with
   | false=>rfl
   | true=>refine qt ?_;refine qz ?_;refine(aD hk').trans ?_;exact EM
  ·unfold c162_10;rw[aF hib];exact kE (Int.lt_irrefl _)
 have lp:It (λaA (_:Unit)=>c162_4 (aI p n) aA nd) (0:Int) (λ_=>oB (bJ nd.sess.length (nJ nd nd.sess))):=by
  refine cH (It.allBE nd.sess.length _ true (λi hi=>?_) (It.stop λaA a rec=>?_))
  ·obtain⟨N,hN⟩:=(inner (((inB (gt nd.sess i).2.1 0 100000,()),()),()) (((inB (gt nd.sess i).2.2.2.1 0 nd.wait,()),()),()) i hi).all_i
   refine⟨N,λaA hf a rec=>?_⟩
   unfold c162_4 nJ;refine ql hi ?_;refine qz ?_;refine(aD hi).trans ?_;refine qC (f85 (gt nd.sess i).1 0 (i64.wrap (nd.2.1 - 1))) ?_;refine chk λ_=>?_;refine QO λ_=>?_;refine qC (f85 (gt nd.sess i).2.1 0 100000) ?_;refine chk λ_=>?_;refine qC (f85 (gt nd.sess i).2.2.2.1 0 nd.wait) ?_;refine chk λ_=>?_;exact hN aA hf rec
  ·unfold c162_4;refine qe ?_;rfl
 obtain⟨N,hN⟩:=lp.all_i
 refine⟨N,λaA hf=>?_⟩
 show T162 (aI p n) aA nd=oB (lX nd)
 unfold T162 lX;refine sZ λ_=>?_;exact hN aA hf ()
theorem TJ{nd:NodeT}(h1:inB nd.2.1 1 5=true)(h2:inB nd.1 0 (i64.wrap (nd.2.1 - 1))=true)(h3:eD nd.got nd.2.1=true):∃ k:Nat,nd.1=(k:Int)/\k<nd.got.length:=by
 rw[aM] at h1 h2
 rw[DH (by omega) (by omega)] at h2
 unfold eD at h3;simp only[Bool.and_eq_true,beq_iff_eq] at h3
 exact⟨nd.1.toNat,by omega,by omega⟩
theorem f48(nd:NodeT)(hz:SzN nd):Ran p 7 48 [va K73 nd] (rO K4 (dU nd,())):=go48 λn hn=>Ev.now λaA=>by
 rw[<- O0]
 show T48 (aI p n) aA nd=oB (y2 nd)
 unfold T48 y2;refine qC (f47 nd.2.1 1 5) ?_;refine cS λh1=>?_;refine qC (f47 nd.1 0 (i64.wrap (nd.2.1 - 1))) ?_;refine cS λh2=>?_;refine qC (f49 nd.state (aR hz.state.a) (aR hz.state.b)) ?_;refine cS λ_=>?_;refine qC (f101 nd.state hz.state) ?_;refine qC (f100 nd.tree (cG nd.state) (aR hz.leaves)) ?_;refine cS λ_=>?_
 refine qC (f102 nd.log hz.list hz.logs) ?_;refine qC (f103 nd.log hz.list hz.logs) ?_;refine cS λ_=>?_;refine qC (f104 nd.got nd.2.1 hz.got) ?_;refine cS λh3=>?_;refine qC (f104 nd.acked nd.2.1 hz.acked) ?_;refine cS λh4=>?_
 obtain⟨k,hk,hlt⟩:=TJ h1 h2 h3
 show(bif decide (0<=nd.1)then((at? nd.got (nd.1).toNat).bind _)else none)=_
 rw[hk];refine qz ?_;refine(aD hlt).trans ?_;refine cS λ_=>?_;refine qC (f105 nd.acked hz.acked (B5 h4)) ?_;refine sZ λ_=>?_;refine qC (f106 nd.seen nd.2.1 hz.seen hz.lines) ?_;refine cS λ_=>?_;refine qC (f47 nd.num 0 100000) ?_;refine cS λ_=>?_;refine qC (f47 nd.clock 0 100000) ?_;refine cS λ_=>?_;refine qC (f47 nd.wait 1 20) ?_;refine fC λ_=>?_;refine qC (f47 nd.limit 1 50) ?_;refine fC λ_=>?_;refine qC (f107 nd hz.sess) ?_;refine fC λ_=>?_;refine qC (f108 nd hz.rises) ?_;rfl
theorem f86(nd:NodeT)(hz:SzN nd):Ran p 7 86 [va K73 nd] (rO K4 (dU nd,())):=go86 λn hn=>by
 have ri:∃ N,∀ aA,N<=aA->((nd.rises.length:Int)==5)=true->iter (c86_13 (aI p n) aA nd) aA (0:Int)=oB (bJ nd.rises.length (kI nd)&&lX nd):=by
  cases he:(nd.rises.length:Int)==5 with
  | false=>exact⟨0,λ_ _ h=>by cases h⟩
  | true=>
   have e:nd.rises.length=5:=by have:=eq_of_beq he;omega
   have lp:It (λaA (_:Unit)=>c86_13 (aI p n) aA nd) (0:Int) (λ_=>oB (bJ 5 (kI nd)&&lX nd)):=by
    refine It.allB 5 _ _ (λi hi aA a rec=>?_) (It.stop λaA a rec=>?_)
    ·have hb:i<9223372036854775807:=by omega
     have hi':i<nd.rises.length:=by omega
     unfold c86_13 kI;rw[aF hb];refine qP (by show(i:Int)<5;omega) ?_;refine qz ?_;refine(aD hi').trans ?_;refine qC (f85 (gt nd.rises i).1 0 1000) ?_;refine chk λ_=>?_;refine qC (f85 (gt nd.rises i).2.1 0 100000) ?_;refine chk λ_=>?_;refine qC (f85 (gt nd.rises i).2.2.1 0 nd.clock) ?_;exact fin
    ·unfold c86_13;refine qN (by decide) ?_;refine qC (f162 nd hz.sess) ?_;rfl
   rw[e]
   obtain⟨N,hN⟩:=lp.all_i
   exact⟨N,λaA hf _=>hN aA hf ()⟩
 have ak:∃ N,∀ aA,N<=aA->eD nd.acked nd.2.1=true->iter (c86_6 (aI p n) aA nd) aA (0:Int)=oB (BN nd&&nN nd):=by
  cases he:eD nd.acked nd.2.1 with
  | false=>exact⟨0,λ_ _ h=>by cases h⟩
  | true=>
   have e:nd.2.1=(nd.acked.length:Int):=by unfold eD at he;simp only[Bool.and_eq_true,beq_iff_eq] at he;omega
   obtain⟨M,hM⟩:=ri
   have lp:It (λaA (_:Unit)=>c86_6 (aI p n) aA nd) (0:Int) (λ_=>oB (BN nd&&nN nd)):=by
    refine It.allB nd.acked.length _ _ (λi hi aA a rec=>?_) (It.stopE (T:=λaA _=>c86_6 (aI p n) aA nd (λ_=>none) (nd.acked.length:Int)) (λaA a rec=>?_) ⟨M,λaA hf a=>?_⟩)
    ·have hb:=bN hi hz.acked
     unfold c86_6;rw[aF hb];refine qP (by show(i:Int)<nd.2.1;omega) ?_;refine qz ?_;refine(aD hi).trans ?_;refine qC (f160 nd.log hz.list hz.logs) ?_;exact EM
    ·unfold c86_6;refine qN (by show ¬ ((nd.acked.length:Int)<nd.2.1);omega) ?_;exact(kE (by show ¬ ((nd.acked.length:Int)<nd.2.1);omega)).symm
    ·unfold c86_6 nN;refine qN (by show ¬ ((nd.acked.length:Int)<nd.2.1);omega) ?_
     refine qC (f85 nd.num 0 100000) ?_;refine cS λ_=>?_;refine qC (f85 nd.clock 0 100000) ?_;refine cS λ_=>?_;refine qC (f85 nd.slots 1 4) ?_;refine cS λ_=>?_;refine qC (f85 nd.wait 1 20) ?_;refine cS λ_=>?_;refine qC (f85 nd.limit 1 50) ?_;refine cS λ_=>?_;refine cS λh5=>?_;exact hM aA hf h5
   obtain⟨N,hN⟩:=lp.all_i
   exact⟨N,λaA hf _=>hN aA hf ()⟩
 obtain⟨N,hN⟩:=ak
 refine⟨N,λaA hf=>?_⟩
 show T86 (aI p n) aA nd=oB (dU nd)
 unfold T86 dU;refine qC (f85 nd.2.1 1 5) ?_;refine cS λh1=>?_;refine qC (f85 nd.1 0 (i64.wrap (nd.2.1 - 1))) ?_;refine cS λh2=>?_;refine qC (f87 nd.state (aR hz.state.a) (aR hz.state.b)) ?_;refine cS λ_=>?_;refine qC (f157 nd.state hz.state) ?_;refine qC (f69 nd.tree (cG nd.state) (aR hz.leaves)) ?_;refine cS λ_=>?_
 refine qC (f158 nd.log hz.list hz.logs) ?_;refine cS λ_=>?_;refine qC (f159 nd.got nd.2.1 hz.got) ?_;refine cS λh3=>?_;refine qC (f159 nd.acked nd.2.1 hz.acked) ?_;refine cS λh4=>?_
 obtain⟨k,hk,hlt⟩:=TJ h1 h2 h3
 show(bif decide (0<=nd.1)then((at? nd.got (nd.1).toNat).bind _)else none)=_
 rw[hk];refine qz ?_;refine(aD hlt).trans ?_;refine qC (f160 nd.log hz.list hz.logs) ?_;refine cS λ_=>?_;refine qC (f161 nd.seen nd.2.1 hz.seen hz.lines) ?_;refine cS λ_=>?_;exact hN aA hf h4
theorem f27(w:aU)(x:Int):Ran p 2 27 [va K28 w, vf K3 (x,())] (rO K4 (inB x 0 (i64.wrap ((w.1.length:Int) - 1)),())):=go27 λn hn=>Ev.now λaA=>by
 unfold T27;refine qC (f47 x 0 (i64.wrap ((w.1.length:Int) - 1))) ?_;rfl
theorem f37(w:aU)(hz:SzW w):Ran p 8 37 [va K28 w] (rO K4 (bP w,())):=go37 λn hn=>by
 have said:It (λaA (_:Unit)=>c37_15 (aI p n) aA w) (0:Int) (λ_=>oB (bJ w.2.2.1.length (iP w))):=by
  refine cH (It.allB w.2.2.1.length _ true (λi hi aA a rec=>?_) (It.stop λaA a rec=>?_))
  ·have hb:=bN hi hz.said
   unfold c37_15 iP;rw[aF hb];refine ql hi ?_;refine qz ?_;refine(aD hi).trans ?_;refine qC (f85 (gt w.2.2.1 i).1 0 (i64.wrap ((w.1.length:Int) - 1))) ?_;refine chk λ_=>?_;refine qz ?_;refine(aD hi).trans ?_;refine qC (f87 (gt w.2.2.1 i).2 (aR (hz.part i hi).a) (aR (hz.part i hi).b)) ?_;exact fin
  ·unfold c37_15;refine qe ?_;rfl
 have net:It (λaA (_:Unit)=>c37_10 (aI p n) aA w) (0:Int) (λ_=>oB (bJ w.2.1.length (λi=>inB (gt w.2.1 i).1 0 (i64.wrap ((w.1.length:Int) - 1)))&&bJ w.2.2.1.length (iP w))):=by
  refine It.allB w.2.1.length _ _ (λi hi aA a rec=>?_) (It.stopE (T:=λaA _=>iter (c37_15 (aI p n) aA w) aA (0:Int)) (λaA a rec=>?_) said.all_i)
  ·have hb:=bN hi hz.net
   unfold c37_10;rw[aF hb];refine ql hi ?_;refine qz ?_;refine(aD hi).trans ?_;refine qC (f85 (gt w.2.1 i).1 0 (i64.wrap ((w.1.length:Int) - 1))) ?_;exact fin
  ·unfold c37_10;refine qe ?_;rfl
 have nodes:It (λaA (_:Unit)=>c37_5 (aI p n) aA w) (0:Int) (λ_=>oB (bJ w.1.length (kN w)&&(bJ w.2.1.length (λi=>inB (gt w.2.1 i).1 0 (i64.wrap ((w.1.length:Int) - 1)))&&bJ w.2.2.1.length (iP w)))):=by
  refine It.allB w.1.length _ _ (λi hi aA a rec=>?_) (It.stopE (T:=λaA _=>iter (c37_10 (aI p n) aA w) aA (0:Int)) (λaA a rec=>?_) net.all_i)
  ·have hb:=bN hi hz.nodes
   unfold c37_5 kN;rw[aF hb];refine ql hi ?_;refine qz ?_;refine(aD hi).trans ?_;refine qC (f86 (gt w.1 i) (hz.node i hi)) ?_;refine chk λ_=>?_;refine qz ?_;refine(aD hi).trans ?_;refine chk λ_=>?_;refine qz ?_;refine(aD hi).trans ?_;exact fin
  ·unfold c37_5;refine qe ?_;rfl
 obtain⟨N,hN⟩:=nodes.all_i
 refine⟨N,λaA hf=>?_⟩
 show T37 (aI p n) aA w=oB (bP w)
 unfold T37 bP;refine qC (f85 (w.1.length:Int) 1 5) ?_;refine cS λ_=>?_;refine sZ λ_=>?_;refine sZ λ_=>?_;exact hN aA hf ()
theorem f15(w:aU)(hz:SzW w):Ran p 8 15 [va K28 w] (rO K4 (bP w,())):=go15 λn hn=>by
 have said:It (λaA (_:Unit)=>c15_16 (aI p n) aA w) (0:Int) (λ_=>oB (bJ w.2.2.1.length (iP w))):=by
  refine cH (It.allB w.2.2.1.length _ true (λi hi aA a rec=>?_) (It.stop λaA a rec=>?_))
  ·have hb:=bN hi hz.said
   unfold c15_16 iP;rw[aF hb];refine ql hi ?_;refine qz ?_;refine(aD hi).trans ?_;refine qC (f27 w (gt w.2.2.1 i).1) ?_;refine chk λ_=>?_;refine qC (f49 (gt w.2.2.1 i).2 (aR (hz.part i hi).a) (aR (hz.part i hi).b)) ?_;exact fin
  ·unfold c15_16;refine qe ?_;rfl
 have net:It (λaA (_:Unit)=>c15_10 (aI p n) aA w) (0:Int) (λ_=>oB (bJ w.2.1.length (λi=>inB (gt w.2.1 i).1 0 (i64.wrap ((w.1.length:Int) - 1)))&&bJ w.2.2.1.length (iP w))):=by
  refine It.allB w.2.1.length _ _ (λi hi aA a rec=>?_) (It.stopE (T:=λaA _=>iter (c15_16 (aI p n) aA w) aA (0:Int)) (λaA a rec=>?_) said.all_i)
  ·have hb:=bN hi hz.net
   unfold c15_10;rw[aF hb];refine ql hi ?_;refine qz ?_;refine(aD hi).trans ?_;refine qC (f27 w (gt w.2.1 i).1) ?_;exact fin
  ·unfold c15_10;refine qe ?_;rfl
 have nodes:It (λaA (_:Unit)=>c15_4 (aI p n) aA w) (0:Int) (λ_=>oB (bJ w.1.length (kN w)&&(bJ w.2.1.length (λi=>inB (gt w.2.1 i).1 0 (i64.wrap ((w.1.length:Int) - 1)))&&bJ w.2.2.1.length (iP w)))):=by
  refine It.allB w.1.length _ _ (λi hi aA a rec=>?_) (It.stopE (T:=λaA _=>iter (c15_10 (aI p n) aA w) aA (0:Int)) (λaA a rec=>?_) net.all_i)
  ·have hb:=bN hi hz.nodes
   unfold c15_4 kN;rw[aF hb];refine ql hi ?_;refine qz ?_;refine(aD hi).trans ?_;refine qC (f48 (gt w.1 i) (hz.node i hi)) ?_;refine chk λ_=>?_;refine chk λ_=>?_;exact fin
  ·unfold c15_4;refine qe ?_;rfl
 obtain⟨N,hN⟩:=nodes.all_i
 refine⟨N,λaA hf=>?_⟩
 show T15 (aI p n) aA w=oB (bP w)
 unfold T15 bP;refine qC (f47 (w.1.length:Int) 1 5) ?_;refine cS λ_=>?_;refine sZ λ_=>?_;refine sZ λ_=>?_;exact hN aA hf ()
end Go.Abs.Uz
namespace Go.Abs.Uz
open Go Go.Abs
end Go.Abs.Uz
namespace Go.Abs.Uz
open Go Go.Abs
theorem f13(w:aU)(v:List aH)(hz:SzW w):Ran p 9 13 [va K28 w, vf K29 (v,())] (rO K4 (eK w v,())):=go13 λn hn=>Ev.now λaA=>by
 unfold T13 eK;refine qC (f37 w hz) ?_;refine fC λ_=>?_;rfl
theorem f26(w:aU)(v:List aH)(hz:SzW w):Ran p 9 26 [va K28 w, vf K29 (v,())] (rO K4 (eK w v,())):=go26 λn hn=>Ev.now λaA=>by
 unfold T26 eK;refine qC (f15 w hz) ?_;refine fC λ_=>?_;rfl
theorem f89(s:aE)(hz:SzS s):Ran p 4 89 [va K43 s] (rO K40 (lU s,())):=go89 λn hn=>by
 cases hs:aL s with
 | false=>
  refine Ev.now λaA=>?_
  unfold T89 lU;refine qC (f87 s (aR hz.a) (aR hz.b)) ?_;rw[hs];rfl
 | true=>
  have lp:It (λaA (_:Unit)=>c89_5 (aI p n) aA s) ((0:Int),([]:List bE)) (λ_=>rV K40 (s.1.filter (λx:bE=>x.2.2.1==0),())):=by
   refine It.accu (α:=bE) [] (λi=>bif(gt s.1 i).2.2.1==0 then[gt s.1 i] else[]) s.1.length 1 (λi hi=>by cases (gt s.1 i).2.2.1==0<;>simp) (λi hi acc ha aA a rec=>?_) (It.stop λaA a rec=>?_)
   ·have hb:=bN hi hz.a
    have hl:s.1.length<=1048576:=hz.a
    unfold c89_5;dsimp only;rw[aF hb];refine ql hi ?_;refine qz ?_;refine(aD hi).trans ?_
    cases hq:(gt s.1 i).2.2.1==0 with
    | false=>refine qf ?_;exact(congrArg (λl:List bE=>rec (((i+1:Nat):Int),l)) (List.append_nil acc).symm:_)
    | true=>refine qt ?_;refine qz ?_;refine(aD hi).trans ?_;refine qP (by rw[hq] at ha;have:acc.length+1<=0+s.1.length*1:=ha;show acc.length+1<=4294967296;omega) ?_;rfl
   ·unfold c89_5;refine qe ?_;exact congrArg (λl:List bE=>(rV K40 (l,()):Option Out)) ((bV (λx:bE=>bif x.2.2.1==0 then[x] else[]) s.1).trans (gZ _ _))
  have e:lU s=s.1.filter (λx:bE=>x.2.2.1==0):=by unfold lU;rw[hs];rfl
  rw[e]
  exact Ev.eq (λaA=>by unfold T89;refine qC (f87 s (aR hz.a) (aR hz.b)) ?_;rw[hs];rfl) (lp.ev (i:=()) rfl)
theorem f84(s:aE)(hz:SzS s):Ran p 4 84 [va K43 s] (rO K40 (lU s,())):=go84 λn hn=>by
 cases hs:aL s with
 | false=>
  refine Ev.now λaA=>?_
  unfold T84 lU;refine qC (f49 s (aR hz.a) (aR hz.b)) ?_;rw[hs];rfl
 | true=>
  have lp:It (λaA (_:Unit)=>c84_5 (aI p n) aA s) ((0:Int),([]:List bE)) (λ_=>rV K40 (s.1.filter (λx:bE=>x.2.2.1==0),())):=by
   refine It.accu (α:=bE) [] (λi=>bif(gt s.1 i).2.2.1==0 then[gt s.1 i] else[]) s.1.length 1 (λi hi=>by cases (gt s.1 i).2.2.1==0<;>simp) (λi hi acc ha aA a rec=>?_) (It.stop λaA a rec=>?_)
   ·have hb:=bN hi hz.a
    have hl:s.1.length<=1048576:=hz.a
    unfold c84_5;dsimp only;rw[aF hb];refine ql hi ?_;refine qz ?_;refine(aD hi).trans ?_
    cases hq:(gt s.1 i).2.2.1==0 with
    | false=>refine qf ?_;exact(congrArg (λl:List bE=>rec (((i+1:Nat):Int),l)) (List.append_nil acc).symm:_)
    | true=>refine qt ?_;refine qP (by rw[hq] at ha;have:acc.length+1<=0+s.1.length*1:=ha;show acc.length+1<=4294967296;omega) ?_;rfl
   ·unfold c84_5;refine qe ?_;exact congrArg (λl:List bE=>(rV K40 (l,()):Option Out)) ((bV (λx:bE=>bif x.2.2.1==0 then[x] else[]) s.1).trans (gZ _ _))
  have e:lU s=s.1.filter (λx:bE=>x.2.2.1==0):=by unfold lU;rw[hs];rfl
  rw[e]
  exact Ev.eq (λaA=>by unfold T84;refine qC (f49 s (aR hz.a) (aR hz.b)) ?_;rw[hs];rfl) (lp.ev (i:=()) rfl)
theorem f29(a b:aE)(ha:SzS a):Ran p 1 29 [va K43 a, va K43 b] (rO K4 (eW a b,())):=go29 λn hn=>by
 have fl:∃ N,∀ aA,N<=aA->((a.2.1.length:Int)==(b.2.1.length:Int))=true->iter (c29_9 (aI p n) aA a b) aA (0:Int)=oB (bJ a.2.1.length λi=>pQ (gt a.2.1 i) (gt b.2.1 i)):=by
  cases he:(a.2.1.length:Int)==(b.2.1.length:Int)with
  | false=>exact⟨0,λ_ _ h=>by cases h⟩
  | true=>
   have e:a.2.1.length=b.2.1.length:=by have:=eq_of_beq he;omega
   have lp:It (λaA (_:Unit)=>c29_9 (aI p n) aA a b) (0:Int) (λ_=>oB (bJ a.2.1.length λi=>pQ (gt a.2.1 i) (gt b.2.1 i))):=by
    refine cH (It.allB a.2.1.length _ true (λi hi aA a' rec=>?_) (It.stop λaA a' rec=>?_))
    ·have hb:=bN hi ha.b
     unfold c29_9;rw[aF hb];refine ql hi ?_;refine qz ?_;refine(aD hi).trans ?_;refine qz ?_;refine(aD (show i<b.2.1.length by omega)).trans ?_;exact fin
    ·unfold c29_9;refine qe ?_;rfl
   obtain⟨N,hN⟩:=lp.all_i
   exact⟨N,λaA hf _=>hN aA hf ()⟩
 have it:∃ N,∀ aA,N<=aA->((a.1.length:Int)==(b.1.length:Int))=true->((a.2.1.length:Int)==(b.2.1.length:Int))=true->iter (c29_4 (aI p n) aA a b) aA (0:Int)=oB (bJ a.1.length (λi=>wK (gt a.1 i) (gt b.1 i))&&bJ a.2.1.length λi=>pQ (gt a.2.1 i) (gt b.2.1 i)):=by
  cases he:(a.1.length:Int)==(b.1.length:Int)with
  | false=>exact⟨0,λ_ _ h=>by cases h⟩
  | true=>
   cases he2:(a.2.1.length:Int)==(b.2.1.length:Int)with
   | false=>exact⟨0,λ_ _ _ h=>by cases h⟩
   | true=>
    have e:a.1.length=b.1.length:=by have:=eq_of_beq he;omega
    obtain⟨M,hM⟩:=fl
    have lp:It (λaA (_:Unit)=>c29_4 (aI p n) aA a b) (0:Int) (λ_=>oB (bJ a.1.length (λi=>wK (gt a.1 i) (gt b.1 i))&&bJ a.2.1.length λi=>pQ (gt a.2.1 i) (gt b.2.1 i))):=by
     refine It.allB a.1.length _ _ (λi hi aA a' rec=>?_) (It.stopE (T:=λaA _=>iter (c29_9 (aI p n) aA a b) aA (0:Int)) (λaA a' rec=>?_) ⟨M,λaA hf _=>hM aA hf he2⟩)
     ·have hb:=bN hi ha.a
      unfold c29_4;rw[aF hb];refine ql hi ?_;refine qz ?_;refine(aD hi).trans ?_;refine qz ?_;refine(aD (show i<b.1.length by omega)).trans ?_;exact fin
     ·unfold c29_4;refine qe ?_;rfl
    obtain⟨N,hN⟩:=lp.all_i
    exact⟨N,λaA hf _ _=>hN aA hf ()⟩
 obtain⟨N,hN⟩:=it
 refine⟨N,λaA hf=>?_⟩
 show T29 (aI p n) aA a b=oB (eW a b)
 unfold T29 eW;refine cS λh=>?_;refine cS λh'=>?_;exact hN aA hf h h'
end Go.Abs.Uz
namespace Go.Abs.Uz
open Go Go.Abs
theorem f88(s:aE)(id:Int)(hl:s.1.length<=maxLen):Ran p 1 88 [va K43 s, vf K3 (id,())] ⟨[⟨K83,(a9 s id).1⟩,⟨K4,((a9 s id).2,())⟩],[]⟩:=go88 λn hn=>by
 have lp:It (λaA (_:Unit)=>c88_2 (aI p n) aA s id) (0:Int) (λ_=>some ⟨[⟨K83,(a9 s id).1⟩,⟨K4,((a9 s id).2,())⟩],[]⟩):=by
  have:=It.first (c:=λaA (_:Unit)=>c88_2 (aI p n) aA s id) (λi=>(i:Int)) s.1.length (λi=>(gt s.1 i).1==id) (λi _=>some ⟨[⟨K83,(gt (α:=bE) s.1 i).2⟩,⟨K4,(true,())⟩],[]⟩) (λ_=>some ⟨[⟨K83,dN⟩,⟨K4,(false,())⟩],[]⟩) (λi hi hp aA a rec=>?_) (λi hi hp=>It.stop λaA a rec=>?_) (It.stop λaA a rec=>?_)
  ·revert this;unfold a9
   cases (List.range s.1.length).find? (λi=>(gt s.1 i).1==id)<;>exact λh=>h
  ·have hb:i<9223372036854775807:=Nat.lt_of_lt_of_le hi hl
   unfold c88_2;rw[aF hb];refine ql hi ?_;refine qz ?_;refine(aD hi).trans ?_;exact iM hp
  ·unfold c88_2;refine ql hi ?_;refine qz ?_;refine(aD hi).trans ?_;refine qT hp ?_;refine qz ?_;refine(aD hi).trans ?_;rfl
  ·unfold c88_2;refine qe ?_;rfl
 exact Ev.eq (λaA=>by unfold T88;rfl) (lp.ev (i:=()) rfl)
theorem f83(s:aE)(id:Int)(hl:s.1.length<=maxLen):Ran p 1 83 [va K43 s, vf K3 (id,())] ⟨[⟨K83,(a9 s id).1⟩,⟨K4,((a9 s id).2,())⟩],[]⟩:=go83 λn hn=>by
 have lp:It (λaA (_:Unit)=>c83_2 (aI p n) aA s id) (0:Int) (λ_=>some ⟨[⟨K83,(a9 s id).1⟩,⟨K4,((a9 s id).2,())⟩],[]⟩):=by
  have:=It.first (c:=λaA (_:Unit)=>c83_2 (aI p n) aA s id) (λi=>(i:Int)) s.1.length (λi=>(gt s.1 i).1==id) (λi _=>some ⟨[⟨K83,(gt (α:=bE) s.1 i).2⟩,⟨K4,(true,())⟩],[]⟩) (λ_=>some ⟨[⟨K83,dN⟩,⟨K4,(false,())⟩],[]⟩) (λi hi hp aA a rec=>?_) (λi hi hp=>It.stop λaA a rec=>?_) (It.stop λaA a rec=>?_)
  ·revert this;unfold a9
   cases (List.range s.1.length).find? (λi=>(gt s.1 i).1==id)<;>exact λh=>h
  ·have hb:i<9223372036854775807:=Nat.lt_of_lt_of_le hi hl
   unfold c83_2;rw[aF hb];refine ql hi ?_;refine qz ?_;refine(aD hi).trans ?_;exact iM hp
  ·unfold c83_2;refine ql hi ?_;refine qz ?_;refine(aD hi).trans ?_;refine qT hp ?_;rfl
  ·unfold c83_2;refine qe ?_;rfl
 exact Ev.eq (λaA=>by unfold T83;rfl) (lp.ev (i:=()) rfl)
theorem f230(a b:Int):Ran p 1 230 [vf K3 (a,()), vf K3 (b,())] (rO K3 (mxI true a b,())):=go230 λn hn=>Ev.now λaA=>by
 unfold T230 mxI
 simp only[if_true]
 by_cases h:a>b
 ·refine qP h ?_;rw[if_neg (by omega:¬ b>a)]
 ·refine qN h ?_;by_cases h':b>a
  ·rw[if_pos h']
  ·rw[if_neg h',show a=b from by omega]
theorem f39(b:Bool):Ran p 1 39 [vf K4 (b,())] (rO K3 (p4 b,())):=go39 λn hn=>Ev.now λaA=>by
 unfold T39;cases b<;>rfl
theorem f270(a b:Int):Ran p 2 270 [vf K3 (a,()), vf K3 (b,())] (rO K3 (l2 a b,())):=go270 λn hn=>Ev.now λaA=>by
 unfold T270 l2
 cases decide (a<b)with
 | true=>rfl
 | false=>refine qf ?_;refine qC (f39 (decide (a>b))) ?_;rfl
theorem f255(a b:bA):Ran p 3 255 [va K83 a, va K83 b] (rO K3 (jL a b,())):=go255 λn hn=>by
 have lp:It (λaA (_:Unit)=>c255_3 (aI p n) aA a b (((l2 a.1 b.1,()),()),()) (((l2 a.2.1 b.2.1,()),()),()) (((l2 a.2.2.1 b.2.2.1,()),()),()) (((l2 a.2.2.2.1 b.2.2.2.1,()),()),())) (0:Int) (λ_=>oI (jL a b)):=by
  have:=It.first (c:=λaA (_:Unit)=>c255_3 (aI p n) aA a b (((l2 a.1 b.1,()),()),()) (((l2 a.2.1 b.2.1,()),()),()) (((l2 a.2.2.1 b.2.2.1,()),()),()) (((l2 a.2.2.2.1 b.2.2.2.1,()),()),())) (λi=>(i:Int)) (IY a b).length (λi=>(gt (IY a b) i).1 != 0) (λi _=>oI (gt (IY a b) i).1) (λ_=>oI (I8 a.2.2.2.2.1 b.2.2.2.2.1)) (λi hi hp aA a' rec=>?_) (λi hi hp=>It.stop λaA a' rec=>?_) (It.stop λaA a' rec=>?_)
  ·rw[<- OV];revert this;unfold orZ
   cases (List.range (IY a b).length).find? (λi=>(gt (IY a b) i).1 != 0)<;>exact λh=>h
  ·have hb:i<9223372036854775807:=Nat.lt_of_lt_of_le hi (by show 4<=9223372036854775807;omega)
   unfold c255_3;rw[aF hb];refine ql hi ?_;refine qz ?_;refine(aD hi).trans ?_;refine(aD hi).trans ?_;exact iM hp
  ·unfold c255_3;refine ql hi ?_;refine qz ?_;refine(aD hi).trans ?_;refine(aD hi).trans ?_;refine qT hp ?_;refine qz ?_;refine(aD hi).trans ?_;refine(aD hi).trans ?_;rfl
  ·unfold c255_3;refine qe ?_
   rw[<- MY]
   cases Op.bytesLess (ByteArray.toList a.2.2.2.2.1) (ByteArray.toList b.2.2.2.2.1)with
   | true=>rfl
   | false=>refine qf ?_;refine qC (f39 (!(false||ByteArray.toList a.2.2.2.2.1==ByteArray.toList b.2.2.2.2.1))) ?_;rfl
 exact Ev.eq (λaA=>by unfold T255;refine qC (f270 a.1 b.1) ?_;refine qC (f270 a.2.1 b.2.1) ?_;refine qC (f270 a.2.2.1 b.2.2.1) ?_;refine qC (f270 a.2.2.2.1 b.2.2.2.1) ?_;rfl) (lp.ev (i:=()) rfl)
theorem f234(a b:aE)(ha:SzS a)(hb':SzS b)(hpa:Pos a)(hpb:Pos b):Ran p 4 234 [va K43 a, va K43 b] (rO K43 (c9 a b)):=go234 λn hn=>by
 have lp:It (λaA (_:Unit)=>c234_3 (aI p n) aA a b) ((0:Int),([]:List aO),([]:List bE)) (λ_=>rV K43 (c9 a b)):=by
  refine It.run (λi=>((i:Int),bW i (eN a b),bW i (eH a b))) 5 (λi hi aA u rec=>?_) (It.stop λaA u rec=>?_)
  ·have l1:(bW i (eN a b)).length<=i*1:=dL λj _=>tO a b j
   have l2':(bW i (eH a b)).length<=i*1:=dL λj _=>wH a b j
   have hb:i<9223372036854775807:=by omega
   have fin3:∀ {F:List aO} {J:List bE},eN a b i=F->eH a b i=J->rec (((i+1:Nat):Int),bW i (eN a b)++F,bW i (eH a b)++J)=rec (((i+1:Nat):Int),bW (i+1) (eN a b),bW (i+1) (eH a b)):=by
    intro F J h1 h2;rw[eB,eB,h1,h2]
   have fin0:∀ {F:List aO},eN a b i=F->eH a b i=[]->rec (((i+1:Nat):Int),bW i (eN a b)++F,bW i (eH a b))=rec (((i+1:Nat):Int),bW (i+1) (eN a b),bW (i+1) (eH a b)):=by
    intro F h1 h2;rw[eB,eB,h1,h2,List.append_nil]
   have fin1:∀ {J:List bE},eN a b i=[]->eH a b i=J->rec (((i+1:Nat):Int),bW i (eN a b),bW i (eH a b)++J)=rec (((i+1:Nat):Int),bW (i+1) (eN a b),bW (i+1) (eH a b)):=by
    intro J h1 h2;rw[eB,eB,h1,h2,List.append_nil]
   have fin2:eN a b i=[]->eH a b i=[]->rec (((i+1:Nat):Int),bW i (eN a b),bW i (eH a b))=rec (((i+1:Nat):Int),bW (i+1) (eN a b),bW (i+1) (eH a b)):=by
    intro h1 h2;rw[eB,eB,h1,h2,List.append_nil,List.append_nil]
   unfold c234_3;dsimp only;rw[aF hb];refine qP (by show(i:Int)<5;omega) ?_;refine qC (f164 a (i:Int) (aR ha.b)) ?_;refine qC (f164 b (i:Int) (aR hb'.b)) ?_;refine qC (f230 (cK a.2.1 (i:Int)) (cK b.2.1 (i:Int))) ?_
   have zi:a9 a (i:Int)=(dN,false)->a9 b (i:Int)=(dN,false)->eH a b i=[]:=λea eb=>iE (SG ea eb) (by show ¬ (0:Int)>_;have:=P7 (b:=b) hpa (i:Int);omega)
   by_cases hf:flr a b (i:Int)>0
   ·refine qP hf ?_;refine qP (by show(bW i (eN a b)).length+1<=4294967296;omega) ?_
    have gF:=A0 hf
    refine qD (f88 a (i:Int) (aR ha.a)) ?_;refine qD (f88 b (i:Int) (aR hb'.a)) ?_
    rcases rH hpa (i:Int)with ⟨x,hx,ea⟩ | ea<;>rcases rH hpb (i:Int)with ⟨y,hy,eb⟩ | eb<;>rw[ea,eb]
    ·refine qf ?_;refine qf ?_;refine qt ?_;refine qC (f255 y x) ?_
     have pk:=J2 ea eb
     by_cases hc:jL y x>0
     ·rw[decide_eq_true hc] at pk
      replace pk:eU a b (i:Int)=y:=pk
      refine qP hc ?_
      by_cases hi':y.1>flr a b i
      ·refine qP hi' ?_;refine qP (by show(bW i (eH a b)).length+1<=4294967296;omega) ?_;exact fin3 gF (iC pk hi')
      ·refine qN hi' ?_;exact fin0 gF (iE pk hi')
     ·rw[decide_eq_false hc] at pk
      replace pk:eU a b (i:Int)=x:=pk
      refine qN hc ?_
      by_cases hi':x.1>flr a b i
      ·refine qP hi' ?_;refine qP (by show(bW i (eH a b)).length+1<=4294967296;omega) ?_;exact fin3 gF (iC pk hi')
      ·refine qN hi' ?_;exact fin0 gF (iE pk hi')
    ·refine qf ?_;refine qf ?_;refine qf ?_
     by_cases hi':x.1>flr a b i
     ·refine qP hi' ?_;refine qP (by show(bW i (eH a b)).length+1<=4294967296;omega) ?_;exact fin3 gF (iC (yV ea eb hx) hi')
     ·refine qN hi' ?_;exact fin0 gF (iE (yV ea eb hx) hi')
    ·refine qt ?_;refine qf ?_;refine qt ?_
     by_cases hi':y.1>flr a b i
     ·refine qP hi' ?_;refine qP (by show(bW i (eH a b)).length+1<=4294967296;omega) ?_;exact fin3 gF (iC (yW ea eb hy) hi')
     ·refine qN hi' ?_;exact fin0 gF (iE (yW ea eb hy) hi')
    ·refine qt ?_;refine qt ?_;exact fin0 gF (zi ea eb)
   ·refine qN hf ?_
    have gF:=IW hf
    refine qD (f88 a (i:Int) (aR ha.a)) ?_;refine qD (f88 b (i:Int) (aR hb'.a)) ?_
    rcases rH hpa (i:Int)with ⟨x,hx,ea⟩ | ea<;>rcases rH hpb (i:Int)with ⟨y,hy,eb⟩ | eb<;>rw[ea,eb]
    ·refine qf ?_;refine qf ?_;refine qt ?_;refine qC (f255 y x) ?_
     have pk:=J2 ea eb
     by_cases hc:jL y x>0
     ·rw[decide_eq_true hc] at pk
      replace pk:eU a b (i:Int)=y:=pk
      refine qP hc ?_
      by_cases hi':y.1>flr a b i
      ·refine qP hi' ?_;refine qP (by show(bW i (eH a b)).length+1<=4294967296;omega) ?_;exact fin1 gF (iC pk hi')
      ·refine qN hi' ?_;exact fin2 gF (iE pk hi')
     ·rw[decide_eq_false hc] at pk
      replace pk:eU a b (i:Int)=x:=pk
      refine qN hc ?_
      by_cases hi':x.1>flr a b i
      ·refine qP hi' ?_;refine qP (by show(bW i (eH a b)).length+1<=4294967296;omega) ?_;exact fin1 gF (iC pk hi')
      ·refine qN hi' ?_;exact fin2 gF (iE pk hi')
    ·refine qf ?_;refine qf ?_;refine qf ?_
     by_cases hi':x.1>flr a b i
     ·refine qP hi' ?_;refine qP (by show(bW i (eH a b)).length+1<=4294967296;omega) ?_;exact fin1 gF (iC (yV ea eb hx) hi')
     ·refine qN hi' ?_;exact fin2 gF (iE (yV ea eb hx) hi')
    ·refine qt ?_;refine qf ?_;refine qt ?_
     by_cases hi':y.1>flr a b i
     ·refine qP hi' ?_;refine qP (by show(bW i (eH a b)).length+1<=4294967296;omega) ?_;exact fin1 gF (iC (yW ea eb hy) hi')
     ·refine qN hi' ?_;exact fin2 gF (iE (yW ea eb hy) hi')
    ·refine qt ?_;refine qt ?_;exact fin2 gF (zi ea eb)
  ·unfold c234_3;exact kE (by show ¬ ((5:Int)<5);decide)
 exact Ev.eq (λaA=>by unfold T234;rfl) (lp.ev (i:=()) rfl)
theorem f238(s:aE)(id:Int)(hz:SzS s):Ran p 4 238 [va K43 s, vf K3 (id,())] (rO K3 (gone s id,())):=go238 λn hn=>Ev.now λaA=>by
 unfold T238 gone;refine qC (f87 s (aR hz.a) (aR hz.b)) ?_
 cases hs:aL s with
 | false=>rfl
 | true=>
  refine qf ?_;refine qD (f88 s id (aR hz.a)) ?_
  rcases rH ((aN s).1 hs).pos id with ⟨x,_,e⟩ | e<;>rw[e]
  ·refine qf ?_;show(bif x.2.1==0 then _ else _)=(some ((rO K3 (bif true then(bif true then(bif x.2.1==0 then _ else _)else _)else _,())):Out):Option Out)
   cases x.2.1==0<;>rfl
  ·refine qt ?_;refine qC (f164 s id (aR hz.b)) ?_;rfl
theorem f38(s:aE)(id:Int)(hz:SzS s):Ran p 5 38 [va K43 s, vf K3 (id,())] ⟨[⟨K83,(fF s id).1⟩,⟨K4,((fF s id).2,())⟩],[]⟩:=go38 λn hn=>Ev.now λaA=>by
 unfold T38;refine qC (f89 s hz) ?_;refine qD (f88 (lU s,[],()) id (aR (B4 hz))) ?_;rfl
end Go.Abs.Uz
namespace Go.Abs.Uz
open Go Go.Abs
end Go.Abs.Uz
namespace Go.Abs.Uz
open Go Go.Abs
theorem PR(xs:List bE):cnT (.sl K125) xs=6*(xs.length:Int):=j0 (c:=cnR K125) (n:=6) (λx=>rfl) xs
theorem MT(xs:List aO):cnT (.sl K126) xs=2*(xs.length:Int):=j0 (c:=cnR K126) (n:=2) (λx=>rfl) xs
theorem yZ(xs:List aH):cnT (.sl K3) xs=1*(xs.length:Int):=j0 (c:=cnR K3) (n:=1) (λx=>rfl) xs
end Go.Abs.Uz
namespace Go.Abs.Uz
open Go Go.Abs
def LN:bM:=(List.replicate ((5:Int)).toNat (eS K3),())
def dQ(n:Int):List bM:=bif inB n 1 5 then List.replicate n.toNat LN else[]
theorem f233(a:Int):Ran p 2 233 [vf K3 (a,())] (rO K69 (dQ a,())):=go233 λn hn=>by
 cases h:inB a 1 5 with
 | false=>exact Ev.now λaA=>by unfold T233 dQ;refine qC (f85 a 1 5) ?_;rw[h];rfl
 | true=>
  have ha:=aM.1 h
  have lp:It (λaA (_:Unit)=>c233_5 (aI p n) aA a) ((0:Int),([]:List (Row K29))) (λ_=>rV K69 (dQ a,())):=by
   refine It.run (λi=>((i:Int),List.replicate i LN)) a.toNat (λi hi aA u rec=>?_) (It.stop λaA u rec=>?_)
   ·unfold c233_5;dsimp only;rw[aF (by omega)];refine qP (by omega) ?_;refine qT (by decide) ?_;refine qP ?_ ?_
    ·show List.length (List.replicate i LN)+1<=bound;rw[List.length_replicate];unfold bound;omega
    ·rw[List.replicate_succ'];rfl
   ·unfold c233_5;dsimp only;refine qN (by omega) ?_;unfold dQ;rw[h];rfl
  exact Ev.eq (λaA=>by unfold T233;refine qC (f85 a 1 5) ?_;rw[h];rfl) (lp.ev (i:=()) rfl)
def TB:NodeT:=((0:Int),(0:Int),[],[],[],(0:Int),(0:Int),(0:Int),[],[],[],[],(0:Int),(0:Int),[],(0:Int),(0:Int),(0:Int),[],())
def gL(id n cap slots wait lim:Int):NodeT:=(id,n,[],[],(cG ([],[],())).1,(cG ([],[],())).2.1,cap,(0:Int),[],List.replicate n.toNat (eS K3),List.replicate n.toNat (eS K3),dQ n,
 (0:Int),slots,[],wait,lim,(0:Int),List.replicate ((5:Int)).toNat (eS K123),())
theorem zH(s:aE):(cG s).1.length<=4:=by
 unfold cG;cases aL s with
 | true=>exact Nat.le_refl 4
 | false=>exact Nat.zero_le _
theorem O2:SzN TB:=⟨⟨Nat.zero_le _,Nat.zero_le _⟩,Nat.zero_le _,Nat.zero_le _,(λi hi=>absurd hi (Nat.not_lt_zero _)),Nat.zero_le _,Nat.zero_le _,Nat.zero_le _,(λi hi=>absurd hi (Nat.not_lt_zero _)),Nat.zero_le _,Nat.zero_le _⟩
theorem DQ{n:Int}(h:inB n 1 5=true):(dQ n).length<=5:=by
 have:=aM.1 h
 unfold dQ;rw[h];show(List.replicate n.toNat LN).length<=5;rw[List.length_replicate];omega
theorem oM{n:Int}(h:inB n 1 5=true){i:Nat}(hi:i<(dQ n).length):gt (dQ n) i=LN:=by
 rw[cU hi];unfold dQ;simp[h]
theorem tJ(id n cap slots wait lim:Int)(h:inB n 1 5=true):SzN (gL id n cap slots wait lim):=by
 have hh:=aM.1 h
 have e:List.length (List.replicate n.toNat (eS K3))<=aP:=by rw[List.length_replicate];unfold aP;omega
 refine⟨⟨Nat.zero_le _,Nat.zero_le _⟩,Nat.le_trans (zH _) (by decide),Nat.zero_le _,(λi hi=>absurd hi (Nat.not_lt_zero _)),e,e,Nat.le_trans (DQ h) (by decide),λi hi=>?_,Nat.zero_le _,?_⟩
 ·rw[show gt (gL id n cap slots wait lim).seen i=LN from oM h hi];decide
 ·show List.length (List.replicate ((5:Int)).toNat (eS K123))<=aP
  rw[List.length_replicate];decide
def pY(id n cap slots wait lim:Int):Bool:=inB n 1 5&&dU (gL id n cap slots wait lim)
def qW(id n cap slots wait lim:Int):NodeT:=bif pY id n cap slots wait lim then gL id n cap slots wait lim else TB
theorem s00:SzS ([],[],()):=⟨Nat.zero_le _,Nat.zero_le _⟩
theorem dd{n:Int}(h:inB n 1 5=true):(decide (0<=n)&&decide (n<=(bound:Int))&&decide (n=n))=true:=by
 have:=aM.1 h
 unfold bound;simp;omega
theorem f202(id m cap slots wait lim:Int):Ran p 8 202 [vf K3 (id,()), vf K3 (m,()), vf K3 (cap,()), vf K3 (slots,()), vf K3 (wait,()), vf K3 (lim,())] ⟨[⟨K73,qW id m cap slots wait lim⟩,⟨K4,(pY id m cap slots wait lim,())⟩],[]⟩:=go202 λn hn=>Ev.now λaA=>by
 show T202 (aI p n) aA id m cap slots wait lim=some ⟨[⟨K73,qW id m cap slots wait lim⟩,⟨K4,(pY id m cap slots wait lim,())⟩],[]⟩
 unfold T202 qW pY
 refine qC (f85 m 1 5) ?_
 cases h:inB m 1 5 with
 | false=>rfl
 | true=>
  refine qf ?_
  refine qC (f157 ([],[],()) s00) ?_
  refine qT (dd h) ?_;refine qT (dd h) ?_
  refine qC (f233 m) ?_
  refine qT (by decide) ?_
  refine qC (f86 (gL id m cap slots wait lim) (tJ _ _ _ _ _ _ h)) ?_
  cases dU (gL id m cap slots wait lim)<;>rfl
theorem O3(id n cap slots wait lim:Int):SzN (qW id n cap slots wait lim):=by
 unfold qW
 cases h:pY id n cap slots wait lim with
 | false=>exact O2
 | true=>exact tJ _ _ _ _ _ _ (by unfold pY at h;simp only[Bool.and_eq_true] at h;exact h.1)
def eL(n cap slots wait lim:Int)(k:Nat):List NodeT:=(List.range k).map fun(i:Nat)=>qW (i:Int) n cap slots wait lim
theorem EA(n cap slots wait lim:Int)(k:Nat):eL n cap slots wait lim (k+1)=eL n cap slots wait lim k++[qW (k:Int) n cap slots wait lim]:=by
 unfold eL;rw[List.range_succ,List.map_append];rfl
theorem gW(n cap slots wait lim:Int)(k:Nat):(eL n cap slots wait lim k).length=k:=by unfold eL;simp
theorem tI(n cap slots wait lim:Int){k i:Nat}(h:i<k):gt (eL n cap slots wait lim k) i=qW (i:Int) n cap slots wait lim:=by
 rw[cU (by rw[gW];exact h)];unfold eL;simp
def c6(n:Int):Nat:=min n.toNat 6
def wnW(n cap slots wait lim:Int):aU:=(eL n cap slots wait lim (c6 n),[],[],())
def BR(n cap slots wait lim:Int):Bool:=bP (wnW n cap slots wait lim)
def xB(n cap slots wait lim:Int):aU:=bif BR n cap slots wait lim then wnW n cap slots wait lim else([],[],[],())
theorem zE(n:Int):c6 n<=6:=Nat.min_le_right _ _
theorem NB(n cap slots wait lim:Int):SzW (wnW n cap slots wait lim):=by
 have hc:=zE n
 refine⟨?_,λi hi=>?_,Nat.zero_le _,Nat.zero_le _,λi hi=>absurd hi (Nat.not_lt_zero _)⟩
 ·show(eL n cap slots wait lim (c6 n)).length<=aP
  rw[gW];unfold aP;omega
 ·have hi':i<c6 n:=by rw[<- gW n cap slots wait lim (c6 n)];exact hi
  rw[show gt (wnW n cap slots wait lim).1 i=_ from tI n cap slots wait lim hi']
  exact O3 _ _ _ _ _ _
theorem NA{n cap slots wait lim:Int}(h:bJ (c6 n) (λi=>pY (i:Int) n cap slots wait lim)=false):BR n cap slots wait lim=false:=by
 cases hw:BR n cap slots wait lim with
 | false=>rfl
 | true=>
  have:bJ (c6 n) (λi=>pY (i:Int) n cap slots wait lim)=true:=by
   rw[bD]
   intro i hi
   have hn:=DI (w:=wnW n cap slots wait lim) hw (i:=i) (by show i<(eL n cap slots wait lim (c6 n)).length;rw[gW];exact hi)
   rw[show gt (wnW n cap slots wait lim).1 i=_ from tI n cap slots wait lim hi] at hn
   cases hx:pY (i:Int) n cap slots wait lim with
   | true=>rfl
   | false=>unfold qW at hn;rw[hx] at hn;exact hn
  rw[this] at h;cases h
theorem f199(m cap slots wait lim:Int):Ran p 9 199 [vf K3 (m,()), vf K3 (cap,()), vf K3 (slots,()), vf K3 (wait,()), vf K3 (lim,())] ⟨[⟨K28,xB m cap slots wait lim⟩,⟨K4,(BR m cap slots wait lim,())⟩],[]⟩:=go199 λn hn=>by
 have hc:=zE m
 have hrest:∀ β,β=(((aI p n 37 [va K28 (wnW m cap slots wait lim)]).bind (cL [K4] [])).bind λo2=>(bif(!(vB o2.1.1.1))then(some (⟨[⟨K28,(([],[],[],()):aU)⟩,⟨K4,(false,())⟩],[]⟩:Out))else(some ⟨[⟨K28,wnW m cap slots wait lim⟩,⟨K4,(true,())⟩],[]⟩)))->
   β=some ⟨[⟨K28,xB m cap slots wait lim⟩,⟨K4,(BR m cap slots wait lim,())⟩],[]⟩:=by
  intro β h
  rw[h]
  refine qC (f37 (wnW m cap slots wait lim) (NB _ _ _ _ _)) ?_
  unfold xB BR
  cases bP (wnW m cap slots wait lim)<;>rfl
 have lp:It (λaA (_:Unit)=>c199_3 (aI p n) aA m cap slots wait lim) ((0:Int),([]:List (Row K73)))
   (λ_=>bif bJ (c6 m) (λi=>pY (i:Int) m cap slots wait lim)then some ⟨[⟨K28,xB m cap slots wait lim⟩,⟨K4,(BR m cap slots wait lim,())⟩],[]⟩else some ⟨[⟨K28,(([],[],[],()):aU)⟩,⟨K4,(false,())⟩],[]⟩):=by
  refine It.all (λi=>((i:Int),eL m cap slots wait lim i)) (c6 m) (λi=>pY (i:Int) m cap slots wait lim) (rA:=λ_=>(some ⟨[⟨K28,xB m cap slots wait lim⟩,⟨K4,(BR m cap slots wait lim,())⟩],[]⟩:Option Out)) (rB:=λ_=>(some ⟨[⟨K28,(([],[],[],()):aU)⟩,⟨K4,(false,())⟩],[]⟩:Option Out)) (λi hi aA u rec=>?_) (It.stop λaA u rec=>?_)
  ·show c199_3 (aI p n) aA m cap slots wait lim rec ((i:Int),eL m cap slots wait lim i)=bif pY (i:Int) m cap slots wait lim then rec (((i+1:Nat):Int),eL m cap slots wait lim (i+1))else _
   have hi':i<m.toNat/\i<6:=by unfold c6 at hi;omega
   unfold c199_3;dsimp only;rw[aF (by omega)];refine qP (by omega) ?_;refine qP (by omega) ?_
   refine qD (f202 (i:Int) m cap slots wait lim) ?_
   cases hx:pY (i:Int) m cap slots wait lim with
   | false=>rfl
   | true=>
    refine qf ?_
    refine qP ?_ ?_
    ·show List.length (eL m cap slots wait lim i)+1<=bound;rw[gW];unfold bound;omega
    ·rw[EA];rfl
  ·show c199_3 (aI p n) aA m cap slots wait lim rec ((c6 m:Int),eL m cap slots wait lim (c6 m))=_
   refine hrest _ ?_
   unfold c199_3;dsimp only
   by_cases h:((c6 m:Nat):Int)<m
   ·refine qP h ?_
    refine qN (by unfold c6 at h ⊢;omega) ?_
    rfl
   ·refine qN h ?_
    rfl
 refine Ev.eq (λaA=>by unfold T199;rfl) (lp.ev (i:=()) ?_)
 cases hx:bJ (c6 m) (λi=>pY (i:Int) m cap slots wait lim)with
 | true=>rfl
 | false=>
  show some _=some _
  unfold xB
  rw[NA hx];rfl
end Go.Abs.Uz
namespace Go.Abs.Uz
open Go Go.Abs
theorem fI{α:Type}[Inhabited α]{xs:List α}{i:Nat}(h:i<xs.length):xs.take i++[gt xs i]=xs.take (i+1):=by
 rw[cU h];exact List.take_append_getElem h
theorem gX{α β:Type}{xs:List β}(h:xs.length<=aP):List.length ([]:List α)+xs.length<=bound:=by
 show 0+xs.length<=bound;unfold aP at h;unfold bound;omega
theorem kB{α:Type}{xs:List α}(h:xs.length<=aP)(i:Nat):(xs.take i).length+1<=bound:=by
 rw[List.length_take];unfold aP at h;unfold bound;omega
theorem i63{i k:Nat}(h:i<k)(hk:k<=aP):i<9223372036854775807:=by unfold aP at hk;omega
theorem f73(s:aE)(hz:SzS s):Ran p 1 73 [va K43 s] (rO K43 s):=go73 λn hn=>Ev.now λaA=>by
 show T73 (aI p n) aA s=rV K43 s
 unfold T73;refine qP (gX hz.a) ?_;refine qP (gX hz.b) ?_;rfl
theorem f68(s:aE)(hz:SzS s):Ran p 1 68 [va K43 s] (rO K43 s):=go68 λn hn=>Ev.now λaA=>by
 show T68 (aI p n) aA s=rV K43 s
 unfold T68;refine qP (gX hz.a) ?_;refine qP (gX hz.b) ?_;rfl
theorem f137(xs:List aH)(h:xs.length<=aP):Ran p 1 137 [vf K29 (xs,())] (rO K29 (xs,())):=go137 λn hn=>Ev.now λaA=>by
 show T137 (aI p n) aA xs=rV K29 (xs,())
 unfold T137;refine qP (gX h) ?_;rfl
theorem f139(t:kS)(h:t.1.length<=aP):Ran p 1 139 [va K39 t] (rO K39 t):=go139 λn hn=>Ev.now λaA=>by
 show T139 (aI p n) aA t=rV K39 t
 unfold T139;refine qP (gX h) ?_;rfl
theorem f135(t:kS)(h:t.1.length<=aP):Ran p 2 135 [va K39 t] (rO K39 t):=go135 λn hn=>Ev.now λaA=>by
 show T135 (aI p n) aA t=rV K39 t
 unfold T135;refine qC (f137 t.1 h) ?_;rfl
theorem f141(ts:List bM)(h1:ts.length<=aP)(h2:∀ i,i<ts.length->(gt ts i).1.length<=aP):Ran p 1 141 [vf K69 (ts,())] (rO K69 (ts,())):=go141 λn hn=>by
 have lp:It (λaA (_:Unit)=>c141_3 (aI p n) aA ts) ((0:Int),([]:List bM)) (λ_=>rV K69 (ts,())):=by
  refine It.run (λi=>((i:Int),ts.take i)) ts.length (λi hi aA u rec=>?_) (It.stop λaA u rec=>?_)
  ·unfold c141_3;dsimp only;rw[aF (i63 hi h1)];refine ql hi ?_;refine qz ?_;refine(aD hi).trans ?_
   refine qP (gX (h2 i hi)) ?_;refine qP (kB h1 i) ?_;rw[<- fI hi];rfl
  ·show c141_3 (aI p n) aA ts rec ((ts.length:Int),ts.take ts.length)=_
   refine(congrArg (λl=>c141_3 (aI p n) aA ts rec ((ts.length:Int),l)) (List.take_length (l:=ts))).trans ?_
   unfold c141_3;dsimp only;refine qe ?_;rfl
 exact Ev.eq (λaA=>by unfold T141;rfl) (lp.ev (i:=()) rfl)
theorem f138(ts:List bM)(h1:ts.length<=aP)(h2:∀ i,i<ts.length->(gt ts i).1.length<=aP):Ran p 2 138 [vf K69 (ts,())] (rO K69 (ts,())):=go138 λn hn=>by
 have lp:It (λaA (_:Unit)=>c138_3 (aI p n) aA ts) ((0:Int),([]:List bM)) (λ_=>rV K69 (ts,())):=by
  refine It.run (λi=>((i:Int),ts.take i)) ts.length (λi hi aA u rec=>?_) (It.stop λaA u rec=>?_)
  ·unfold c138_3;dsimp only;rw[aF (i63 hi h1)];refine ql hi ?_;refine qz ?_;refine(aD hi).trans ?_
   refine qC (f137 (gt ts i).1 (h2 i hi)) ?_;refine qP (kB h1 i) ?_;rw[<- fI hi];rfl
  ·show c138_3 (aI p n) aA ts rec ((ts.length:Int),ts.take ts.length)=_
   refine(congrArg (λl=>c138_3 (aI p n) aA ts rec ((ts.length:Int),l)) (List.take_length (l:=ts))).trans ?_
   unfold c138_3;dsimp only;refine qe ?_;rfl
 exact Ev.eq (λaA=>by unfold T138;rfl) (lp.ev (i:=()) rfl)
theorem f140(l:fZ)(h1:l.2.2.1.length<=aP)(h2:∀ i,i<l.2.2.1.length->SzS (gt l.2.2.1 i)):Ran p 2 140 [va K68 l] (rO K68 l):=go140 λn hn=>by
 have lp:It (λaA (_:Unit)=>c140_3 (aI p n) aA l) ((0:Int),([]:List aE)) (λ_=>rV K68 l):=by
  refine It.run (λi=>((i:Int),l.2.2.1.take i)) l.2.2.1.length (λi hi aA u rec=>?_) (It.stop λaA u rec=>?_)
  ·unfold c140_3;dsimp only;rw[aF (i63 hi h1)];refine ql hi ?_;refine qz ?_;refine(aD hi).trans ?_
   refine qC (f73 (gt l.2.2.1 i) (h2 i hi)) ?_;refine qP (kB h1 i) ?_;rw[<- fI hi];rfl
  ·show c140_3 (aI p n) aA l rec ((l.2.2.1.length:Int),l.2.2.1.take l.2.2.1.length)=_
   refine(congrArg (λq=>c140_3 (aI p n) aA l rec ((l.2.2.1.length:Int),q)) (List.take_length (l:=l.2.2.1))).trans ?_
   unfold c140_3;dsimp only;refine qe ?_;rfl
 exact Ev.eq (λaA=>by unfold T140;rfl) (lp.ev (i:=()) rfl)
theorem f136(l:fZ)(h1:l.2.2.1.length<=aP)(h2:∀ i,i<l.2.2.1.length->SzS (gt l.2.2.1 i)):Ran p 2 136 [va K68 l] (rO K68 l):=go136 λn hn=>by
 have lp:It (λaA (_:Unit)=>c136_3 (aI p n) aA l) ((0:Int),([]:List aE)) (λ_=>rV K68 l):=by
  refine It.run (λi=>((i:Int),l.2.2.1.take i)) l.2.2.1.length (λi hi aA u rec=>?_) (It.stop λaA u rec=>?_)
  ·unfold c136_3;dsimp only;rw[aF (i63 hi h1)];refine ql hi ?_;refine qz ?_;refine(aD hi).trans ?_
   refine qC (f68 (gt l.2.2.1 i) (h2 i hi)) ?_;refine qP (kB h1 i) ?_;rw[<- fI hi];rfl
  ·show c136_3 (aI p n) aA l rec ((l.2.2.1.length:Int),l.2.2.1.take l.2.2.1.length)=_
   refine(congrArg (λq=>c136_3 (aI p n) aA l rec ((l.2.2.1.length:Int),q)) (List.take_length (l:=l.2.2.1))).trans ?_
   unfold c136_3;dsimp only;refine qe ?_;rfl
 exact Ev.eq (λaA=>by unfold T136;rfl) (lp.ev (i:=()) rfl)
theorem f32(k:cN)(h:k.2.1.length<=aP):Ran p 1 32 [va K50 k] (rO K50 k):=go32 λn hn=>Ev.now λaA=>by
 show T32 (aI p n) aA k=rV K50 k
 unfold T32;refine qP (gX h) ?_;rfl
theorem f67(k:cN)(h:k.2.1.length<=aP):Ran p 2 67 [va K50 k] (rO K50 k):=go67 λn hn=>Ev.now λaA=>by
 show T67 (aI p n) aA k=rV K50 k
 have hb:k.2.1.length<=bound:=by unfold aP at h;unfold bound;omega
 unfold T67;refine qC (f96 [(k.2.1,())] k.2.1.length (λi hi=>by
  have:i=0:=by simpa using hi
  subst this;exact Nat.le_refl _) (by simpa using hb) (show 1<=maxLen by decide)) ?_
 have e:([(k.2.1,())]:List bM).flatMap (λr=>r.1)=k.2.1:=by simp
 exact congrArg (λl:List aH=>(rV K50 ((k.1,l,k.2.2.1,()):cN):Option Out)) e
theorem f72(x:NodeT)(hz:SzN x):Ran p 3 72 [va K73 x] (rO K73 x):=go72 λn hn=>Ev.now λaA=>by
 show T72 (aI p n) aA x=rV K73 x
 unfold T72
 refine qC (f73 x.state hz.state) ?_
 refine qC (f139 x.tree hz.leaves) ?_
 refine qC (f140 x.log hz.list hz.logs) ?_
 refine qP (gX hz.got) ?_;refine qP (gX hz.acked) ?_
 refine qC (f141 x.seen hz.seen hz.lines) ?_
 refine qP (gX hz.sess) ?_;refine qP (gX hz.rises) ?_
 rfl
theorem f66(x:NodeT)(hz:SzN x):Ran p 3 66 [va K73 x] (rO K73 x):=go66 λn hn=>Ev.now λaA=>by
 show T66 (aI p n) aA x=rV K73 x
 unfold T66
 refine qC (f68 x.state hz.state) ?_
 refine qC (f135 x.tree hz.leaves) ?_
 refine qC (f136 x.log hz.list hz.logs) ?_
 refine qC (f137 x.got hz.got) ?_
 refine qC (f137 x.acked hz.acked) ?_
 refine qC (f138 x.seen hz.seen hz.lines) ?_
 refine qP (gX hz.sess) ?_;refine qP (gX hz.rises) ?_
 rfl
structure SzX (w:aU):Prop extends SzW w where
 bytes:∀ i,i<w.2.1.length->(gt w.2.1 i).2.1.length<=aP
theorem f30(w:aU)(hz:SzX w):Ran p 4 30 [va K28 w] (rO K28 w):=go30 λn hn=>by
 have said:It (λaA (_:Unit)=>c30_11 (aI p n) aA w w.1 w.2.1) ((0:Int),([]:List yL)) (λ_=>rV K28 w):=by
  refine It.run (λi=>((i:Int),w.2.2.1.take i)) w.2.2.1.length (λi hi aA u rec=>?_) (It.stop λaA u rec=>?_)
  ·unfold c30_11;dsimp only;rw[aF (i63 hi hz.said)];refine ql hi ?_;refine qz ?_;refine(aD hi).trans ?_
   refine qz ?_;refine(aD hi).trans ?_
   refine qC (f73 (gt w.2.2.1 i).2 (hz.part i hi)) ?_;refine qP (kB hz.said i) ?_;rw[<- fI hi];rfl
  ·show c30_11 (aI p n) aA w w.1 w.2.1 rec ((w.2.2.1.length:Int),w.2.2.1.take w.2.2.1.length)=_
   refine(congrArg (λl=>c30_11 (aI p n) aA w w.1 w.2.1 rec ((w.2.2.1.length:Int),l)) (List.take_length (l:=w.2.2.1))).trans ?_
   unfold c30_11;dsimp only;refine qe ?_;rfl
 have net:It (λaA (_:Unit)=>c30_7 (aI p n) aA w w.1) ((0:Int),([]:List cN)) (λ_=>rV K28 w):=by
  refine It.run (λi=>((i:Int),w.2.1.take i)) w.2.1.length (λi hi aA u rec=>?_) (It.stopE (T:=λaA _=>iter (c30_11 (aI p n) aA w w.1 w.2.1) aA ((0:Int),([]:List yL))) (λaA u rec=>?_) said.all_i)
  ·unfold c30_7;dsimp only;rw[aF (i63 hi hz.net)];refine ql hi ?_;refine qz ?_;refine(aD hi).trans ?_
   refine qC (f32 (gt w.2.1 i) (hz.bytes i hi)) ?_;refine qP (kB hz.net i) ?_;rw[<- fI hi];rfl
  ·show c30_7 (aI p n) aA w w.1 rec ((w.2.1.length:Int),w.2.1.take w.2.1.length)=_
   refine(congrArg (λl=>c30_7 (aI p n) aA w w.1 rec ((w.2.1.length:Int),l)) (List.take_length (l:=w.2.1))).trans ?_
   unfold c30_7;dsimp only;refine qe ?_;rfl
 have nodes:It (λaA (_:Unit)=>c30_3 (aI p n) aA w) ((0:Int),([]:List NodeT)) (λ_=>rV K28 w):=by
  refine It.run (λi=>((i:Int),w.1.take i)) w.1.length (λi hi aA u rec=>?_) (It.stopE (T:=λaA _=>iter (c30_7 (aI p n) aA w w.1) aA ((0:Int),([]:List cN))) (λaA u rec=>?_) net.all_i)
  ·unfold c30_3;dsimp only;rw[aF (i63 hi hz.nodes)];refine ql hi ?_;refine qz ?_;refine(aD hi).trans ?_
   refine qC (f72 (gt w.1 i) (hz.node i hi)) ?_;refine qP (kB hz.nodes i) ?_;rw[<- fI hi];rfl
  ·show c30_3 (aI p n) aA w rec ((w.1.length:Int),w.1.take w.1.length)=_
   refine(congrArg (λl=>c30_3 (aI p n) aA w rec ((w.1.length:Int),l)) (List.take_length (l:=w.1))).trans ?_
   unfold c30_3;dsimp only;refine qe ?_;rfl
 exact Ev.eq (λaA=>by unfold T30;rfl) (nodes.ev (i:=()) rfl)
theorem f25(w:aU)(hz:SzX w):Ran p 4 25 [va K28 w] (rO K28 w):=go25 λn hn=>by
 have said:It (λaA (_:Unit)=>c25_13 (aI p n) aA w w.1 w.2.1) ((0:Int),([]:List yL)) (λ_=>rV K28 w):=by
  refine It.run (λi=>((i:Int),w.2.2.1.take i)) w.2.2.1.length (λi hi aA u rec=>?_) (It.stop λaA u rec=>?_)
  ·unfold c25_13;dsimp only;rw[aF (i63 hi hz.said)];refine ql hi ?_;refine qz ?_;refine(aD hi).trans ?_
   refine qC (f68 (gt w.2.2.1 i).2 (hz.part i hi)) ?_;refine qP (kB hz.said i) ?_;rw[<- fI hi];rfl
  ·show c25_13 (aI p n) aA w w.1 w.2.1 rec ((w.2.2.1.length:Int),w.2.2.1.take w.2.2.1.length)=_
   refine(congrArg (λl=>c25_13 (aI p n) aA w w.1 w.2.1 rec ((w.2.2.1.length:Int),l)) (List.take_length (l:=w.2.2.1))).trans ?_
   unfold c25_13;dsimp only;refine qe ?_;rfl
 have net:It (λaA (_:Unit)=>c25_8 (aI p n) aA w w.1) ((0:Int),([]:List cN)) (λ_=>rV K28 w):=by
  refine It.run (λi=>((i:Int),w.2.1.take i)) w.2.1.length (λi hi aA u rec=>?_) (It.stopE (T:=λaA _=>iter (c25_13 (aI p n) aA w w.1 w.2.1) aA ((0:Int),([]:List yL))) (λaA u rec=>?_) said.all_i)
  ·unfold c25_8;dsimp only;rw[aF (i63 hi hz.net)];refine ql hi ?_;refine qz ?_;refine(aD hi).trans ?_
   refine qC (f67 (gt w.2.1 i) (hz.bytes i hi)) ?_;refine qP (kB hz.net i) ?_;rw[<- fI hi];rfl
  ·show c25_8 (aI p n) aA w w.1 rec ((w.2.1.length:Int),w.2.1.take w.2.1.length)=_
   refine(congrArg (λl=>c25_8 (aI p n) aA w w.1 rec ((w.2.1.length:Int),l)) (List.take_length (l:=w.2.1))).trans ?_
   unfold c25_8;dsimp only;refine qe ?_;rfl
 have nodes:It (λaA (_:Unit)=>c25_3 (aI p n) aA w) ((0:Int),([]:List NodeT)) (λ_=>rV K28 w):=by
  refine It.run (λi=>((i:Int),w.1.take i)) w.1.length (λi hi aA u rec=>?_) (It.stopE (T:=λaA _=>iter (c25_8 (aI p n) aA w w.1) aA ((0:Int),([]:List cN))) (λaA u rec=>?_) net.all_i)
  ·unfold c25_3;dsimp only;rw[aF (i63 hi hz.nodes)];refine ql hi ?_;refine qz ?_;refine(aD hi).trans ?_
   refine qC (f66 (gt w.1 i) (hz.node i hi)) ?_;refine qP (kB hz.nodes i) ?_;rw[<- fI hi];rfl
  ·show c25_3 (aI p n) aA w rec ((w.1.length:Int),w.1.take w.1.length)=_
   refine(congrArg (λl=>c25_3 (aI p n) aA w rec ((w.1.length:Int),l)) (List.take_length (l:=w.1))).trans ?_
   unfold c25_3;dsimp only;refine qe ?_;rfl
 exact Ev.eq (λaA=>by unfold T25;rfl) (nodes.ev (i:=()) rfl)
end Go.Abs.Uz
namespace Go.Abs.Uz
open Go Go.Abs
def B7(x:eI):eI:=(x.1,x.2.1,x.2.2.1,i64.wrap (x.2.2.2.1+1),())
def uH(x:NodeT)(i:Nat):List eI:=bif decide (i64.wrap ((gt x.sess i).2.2.2.1+1)<=x.wait)then[B7 (gt x.sess i)] else[]
theorem B9(x:NodeT)(i:Nat):(uH x i).length<=1:=by
 unfold uH;cases decide (i64.wrap ((gt x.sess i).2.2.2.1+1)<=x.wait)<;>simp
def zJ(y:NodeT):NodeT:=(y.1,y.2.1,y.2.2.1,y.2.2.2.1,y.2.2.2.2.1,y.2.2.2.2.2.1,y.2.2.2.2.2.2.1,y.2.2.2.2.2.2.2.1,y.2.2.2.2.2.2.2.2.1,y.2.2.2.2.2.2.2.2.2.1,y.2.2.2.2.2.2.2.2.2.2.1,y.2.2.2.2.2.2.2.2.2.2.2.1,y.2.2.2.2.2.2.2.2.2.2.2.2.1,y.2.2.2.2.2.2.2.2.2.2.2.2.2.1,bW y.sess.length (uH y),y.wait,y.limit,i64.wrap (y.clock+1),y.rises,())
def mL(x:NodeT):NodeT:=bif dU x then(bif x.clock==100000 then x else zJ x)else x
theorem CA(x:NodeT):(zJ x).sess.length<=x.sess.length:=by
 have:=dL (g:=uH x) (L:=1) (n:=x.sess.length) λi _=>B9 x i
 show(bW x.sess.length (uH x)).length<=x.sess.length
 omega
theorem E5{x:NodeT}(h:SzN x):SzN (mL x):=by
 unfold mL
 cases dU x with
 | false=>exact h
 | true=>
  cases x.clock==100000 with
  | true=>exact h
  | false=>exact⟨h.state,h.leaves,h.list,h.logs,h.got,h.acked,h.seen,h.lines,Nat.le_trans (CA x) h.sess,h.rises⟩

theorem f205(x:NodeT)(hz:SzN x):Ran p 8 205 [va K73 x] (rO K73 (mL x)):=go205 λn hn=>by
 unfold mL
 cases ho:dU x with
 | false=>exact Ev.now λaA=>by show T205 (aI p n) aA x=rV K73 x;unfold T205;refine qC (f72 x hz) ?_;refine qC (f86 x hz) ?_;rw[ho];rfl
 | true=>
  cases hc:x.clock==100000 with
  | true=>exact Ev.now λaA=>by show T205 (aI p n) aA x=rV K73 x;unfold T205;refine qC (f72 x hz) ?_;refine qC (f86 x hz) ?_;rw[ho];refine qf ?_;exact mG hc
  | false=>
   have lp:It (λaA (_:Unit)=>c205_7 (aI p n) aA x ((x,()),())) ((0:Int),([]:List eI)) (λ_=>rV K73 (zJ x)):=by
    refine It.accu (α:=eI) [] (uH x) x.sess.length 1 (λi _=>B9 x i) (λi hi acc ha aA u rec=>?_) (It.stop λaA u rec=>?_)
    ·unfold c205_7 uH;dsimp only;rw[aF (i63 hi hz.sess)];refine ql hi ?_;refine qz ?_;refine(aD hi).trans ?_
     by_cases h:i64.wrap ((gt x.sess i).2.2.2.1+1)<=x.wait
     ·refine qP h ?_;refine qP ?_ ?_
      ·have h1:(uH x i).length=1:=by unfold uH;rw[decide_eq_true h];rfl
       have h2:=hz.sess
       rw[h1] at ha
       show acc.length+1<=bound
       unfold aP at h2;unfold bound;simp at ha;omega
      ·rw[decide_eq_true h];rfl
     ·refine qN h ?_;rw[decide_eq_false h];show rec _=rec _;rw[show(bif false then[B7 (gt x.sess i)] else[])=([]:List eI)from rfl,List.append_nil];rfl
    ·unfold c205_7;dsimp only;refine qe ?_;rfl
   exact Ev.eq (λaA=>by
    unfold T205;refine qC (f72 x hz) ?_;refine qC (f86 x hz) ?_;rw[ho];refine qf ?_;exact iM hc) (lp.ev (i:=()) rfl)
theorem CC{α:Type}[Inhabited α]{c:α->Int}:∀ (xs ys:List α),xs.length=ys.length->(∀ j,j<xs.length->c (gt xs j)<=c (gt ys j))->gP c xs<=gP c ys
 | [],[],_,_=>Int.le_refl _
 | x::xs,y::ys,h,h2=>by
  have h3:c x<=c y:=h2 0 (Nat.zero_lt_succ _)
  have h4:=CC xs ys (by simpa using h) λj hj=>h2 (j+1) (Nat.succ_lt_succ hj)
  show c x+gP c xs<=c y+gP c ys
  omega
 | [],_::_,h,_=>by cases h
 | _::_,[],h,_=>by cases h
theorem RU(xs:List eI):cnT (.sl K121) xs=4*(xs.length:Int):=j0 (c:=cnR K121) (n:=4) (λx=>rfl) xs
end Go.Abs.Uz
namespace Go.Abs.Uz
open Go Go.Abs
theorem f256(a b:Int):Ran p 1 256 [vf K3 (a,()), vf K3 (b,())] (rO K3 (mxI false a b,())):=go256 λn hn=>Ev.now λaA=>by
 unfold T256;rw[F1]
 by_cases h:a<b
 ·refine qP h ?_;rw[show min a b=a by omega]
 ·refine qN h ?_;rw[show min a b=b by omega]
theorem f149(ms:List aO)(h2:ms.length<=maxLen):Ran p 3 149 [vf K44 (ms,())] (rO K4 (eM ms,())):=go149 λn hn=>by
 have inner:It (λaA (_:Unit)=>c149_2 (aI p n) aA ms) (0:Int) (λ_=>oB (eM ms)):=by
  refine cH (It.allB ms.length (fL ms) true (λi hi aA a rec=>?_) (It.stop λaA a rec=>?_))
  ·have hb:i<9223372036854775807:=Nat.lt_of_lt_of_le hi h2
   unfold c149_2 fL;rw[aF hb];refine ql hi ?_;refine qz ?_;refine(aD hi).trans ?_;refine qC (f146 (gt ms i).1) ?_;refine chk λ_=>?_
   cases i with
   | zero=>refine qN (by decide) ?_;refine qz ?_;refine(aD hi).trans ?_;refine qC (f85 (gt ms 0).2.1 1 1000) ?_;exact fin
   | succ j=>
    refine qP (by omega) ?_;refine qz ?_;refine(aD hi).trans ?_;rw[jB hb (by omega)];refine qz ?_;refine(aD (show j<ms.length by omega)).trans ?_;refine QO λ_=>?_
    refine qz ?_;refine(aD hi).trans ?_;refine qC (f85 (gt ms (j+1)).2.1 1 1000) ?_;exact fin
  ·unfold c149_2;refine qe ?_;rfl
 exact Ev.eq (λaA=>by unfold T149;rfl) (inner.ev (i:=()) rfl)
theorem f95(ms:List aO)(h2:ms.length<=maxLen):Ran p 3 95 [vf K44 (ms,())] (rO K4 (eM ms,())):=go95 λn hn=>by
 have inner:It (λaA (_:Unit)=>c95_2 (aI p n) aA ms) (0:Int) (λ_=>oB (F7 ms)):=by
  refine cH (It.allB ms.length (iU ms) true (λi hi aA a rec=>?_) (It.stop λaA a rec=>?_))
  ·have hb:i<9223372036854775807:=Nat.lt_of_lt_of_le hi h2
   unfold c95_2 iU;rw[aF hb];refine ql hi ?_;refine qz ?_;refine(aD hi).trans ?_;refine qC (f93 (gt ms i).1) ?_;refine chk λ_=>?_;refine qC (f47 (gt ms i).2.1 1 1000) ?_;refine chk λ_=>?_
   cases i with
   | zero=>refine qN (by decide) ?_;rfl
   | succ j=>refine qP (by omega) ?_;rw[jB hb (by omega)];refine qz ?_;refine(aD (show j<ms.length by omega)).trans ?_;exact EM
  ·unfold c95_2;refine qe ?_;rfl
 rw[MA] at inner
 exact Ev.eq (λaA=>by unfold T95;rfl) (inner.ev (i:=()) rfl)
theorem f207(s:aE)(hz:SzS s):Ran p 5 207 [va K43 s] (rO K44 (c8 s,())):=go207 λn hn=>by
 have lp:It (λaA (_:Unit)=>c207_3 (aI p n) aA s) ((0:Int),([]:List aO)) (λ_=>rV K44 (c8 s,())):=by
  refine It.accu (α:=aO) [] (kX s) 5 1 (λi _=>tK s i) (λi hi acc ha aA u rec=>?_) (It.stop λaA u rec=>?_)
  ·show c207_3 (aI p n) aA s rec ((i:Int),acc)=rec (((i+1:Nat):Int),acc++kX s i)
   have hb:acc.length+1<=bound+(1 - (kX s i).length):=by simp at ha;unfold bound;omega
   unfold c207_3 kX;dsimp only;rw[aF (show i<9223372036854775807 by omega)];refine qP (show(i:Int)<5 by omega) ?_;refine qC (f238 s (i:Int) hz) ?_
   by_cases h:gone s i>0
   ·refine qP h ?_;refine qP (by
     unfold kX at hb;rw[decide_eq_true h] at hb;exact hb) ?_;rw[decide_eq_true h];rfl
   ·refine qN h ?_;rw[decide_eq_false h];show rec _=rec _;rw[show(bif false then[((i:Int),gone s i,())] else[])=([]:List aO)from rfl,List.append_nil];rfl
  ·unfold c207_3;dsimp only;refine qe ?_;rfl
 exact Ev.eq (λaA=>by unfold T207;rfl) (lp.ev (i:=()) rfl)
theorem aZ{α β:Type}[Inhabited α]{xs:List α}{i:Nat}{f:α->Option β}(h:i<xs.length):(at? xs i).bind f=f (gt xs i):=by
 rw[QW h,cU h];rfl
theorem f281(v:List aH)(k m:Int)(hv:v.length<=aP):Ran p 2 281 [vf K29 (v,()), vf K3 (k,()), vf K3 (m,())] (rO K29 (cV v k m,())):=go281 λn hn=>Ev.now λaA=>by
 unfold T281 cV;refine qP (gX hv) ?_;refine qC (f85 k 0 (i64.wrap ((v.length:Int) - 1))) ?_
 cases hb:inB k 0 (i64.wrap ((v.length:Int) - 1))with
 | false=>rfl
 | true=>
  obtain⟨hk,e⟩:=y8 hv hb
  refine qt ?_;refine qP (show(0:Int)<=k by omega) ?_;refine(aZ hk).trans ?_
  by_cases h:m>(gt v k.toNat).1
  ·refine qP h ?_;refine qP (show(0:Int)<=k by omega) ?_;refine(aZ hk).trans ?_;refine(aZ hk).trans ?_
   rw[sQ,show max (gt v k.toNat).1 m=m by omega];rfl
  ·refine qN h ?_;rw[sQ,show max (gt v k.toNat).1 m=(gt v k.toNat).1 by omega]
   show(rV K29 (v,()):Option Out)=rV K29 (v.set k.toNat (gt v k.toNat),())
   rw[tB]
theorem CE{α:Type}(xs:List α)(i:Nat)(a b:α):(xs.set i a).set i b=xs.set i b:=by simp
theorem f206(t:List bM)(k:Int)(ms:List aO)(h1:t.length<=aP)(h2:∀ i,i<t.length->(gt t i).1.length<=aP)(h3:ms.length<=aP):Ran p 4 206 [vf K69 (t,()), vf K3 (k,()), vf K44 (ms,())] (rO K69 (bL t k ms,())):=go206 λn hn=>by
 cases hb:inB k 0 (i64.wrap ((t.length:Int) - 1))with
 | false=>exact Ev.now λaA=>by show T206 (aI p n) aA t k ms=_;unfold T206;refine qC (f141 t h1 h2) ?_;refine qC (f85 k 0 (i64.wrap ((t.length:Int) - 1))) ?_;rw[hb,show bL t k ms=t by unfold bL pT;rw[hb];rfl];rfl
 | true=>
  obtain⟨hk,e⟩:=y8 h1 hb
  cases hm:eM ms with
  | false=>exact Ev.now λaA=>by show T206 (aI p n) aA t k ms=_;unfold T206;refine qC (f141 t h1 h2) ?_;refine qC (f85 k 0 (i64.wrap ((t.length:Int) - 1))) ?_;rw[hb];refine qf ?_;refine qC (f149 ms (aR h3)) ?_;rw[hm,show bL t k ms=t by unfold bL pT;rw[hb,hm];rfl];rfl
  | true=>
   by_cases h5:(((gt t k.toNat).1.length:Nat):Int)<5
   ·exact Ev.now λaA=>by show T206 (aI p n) aA t k ms=_;unfold T206;refine qC (f141 t h1 h2) ?_;refine qC (f85 k 0 (i64.wrap ((t.length:Int) - 1))) ?_;rw[hb];refine qf ?_;refine qC (f149 ms (aR h3)) ?_;rw[hm];refine qf ?_;refine qP (show(0:Int)<=k by omega) ?_;refine(aZ hk).trans ?_;refine qP h5 ?_;rw[show bL t k ms=t by unfold bL pT;rw[hb,hm,decide_eq_true h5];rfl]
   ·have lp:It (λaA (_:Unit)=>c206_5 (aI p n) aA k ms) ((0:Int),t) (λ_=>rV K69 (bL t k ms,())):=by
     have h0:=DP t k.toNat ms
     refine cast (congrArg (λz=>It (λaA (_:Unit)=>c206_5 (aI p n) aA k ms) ((0:Int),z) (λ_=>rV K69 (bL t k ms,()))) h0) ?_
     refine It.run (λi=>((i:Int),cT t k.toNat ms i)) ms.length (λi hi aA u rec=>?_) (It.stop λaA u rec=>?_)
     ·show c206_5 (aI p n) aA k ms rec ((i:Int),cT t k.toNat ms i)=rec (((i+1:Nat):Int),cT t k.toNat ms (i+1))
      have hd:=u7 hm hi
      have hl:k.toNat<(cT t k.toNat ms i).length:=by unfold cT;rw[List.length_set];exact hk
      have hg:gt (cT t k.toNat ms i) k.toNat=kR (gt t k.toNat) ms i:=bX hk _
      have hr:(gt ms i).1.toNat<(gt (cT t k.toNat ms i) k.toNat).1.length:=by rw[hg,oH];omega
      have hp:(0:Int)<=k:=by omega
      unfold c206_5;dsimp only;rw[aF (i63 hi h3)];refine ql hi ?_;refine qP hp ?_;refine(aZ hl).trans ?_;refine(aZ hl).trans ?_;refine qz ?_;refine(aD hi).trans ?_;refine qP hp ?_;refine(aZ hl).trans ?_;refine(aZ hl).trans ?_;refine qz ?_;refine(aD hi).trans ?_;refine qP hd.1 ?_;refine(aZ hl).trans ?_;refine(aZ hr).trans ?_;refine(aZ hl).trans ?_;refine(aZ hr).trans ?_;refine qz ?_;refine(aD hi).trans ?_
      refine qC (f230 (gt (gt (cT t k.toNat ms i) k.toNat).1 (gt ms i).1.toNat).1 (gt ms i).2.1) ?_;refine qP hd.1 ?_;refine(aZ hl).trans ?_;refine(aZ hr).trans ?_;refine(aZ hl).trans ?_;refine(aZ hr).trans ?_
      refine congrArg (λz=>rec (((i+1:Nat):Int),z)) ?_
      show(cT t k.toNat ms i).set k.toNat (DZ (gt (cT t k.toNat ms i) k.toNat) (gt ms i))=cT t k.toNat ms (i+1)
      rw[hg];exact CE ..
     ·unfold c206_5;dsimp only;refine qe ?_;rw[show bL t k ms=cT t k.toNat ms ms.length by unfold bL pT;rw[hb,hm,decide_eq_false h5];rfl]
    exact Ev.eq (λaA=>by unfold T206;refine qC (f141 t h1 h2) ?_;refine qC (f85 k 0 (i64.wrap ((t.length:Int) - 1))) ?_;rw[hb];refine qf ?_;refine qC (f149 ms (aR h3)) ?_;rw[hm];refine qf ?_;refine qP (show(0:Int)<=k by omega) ?_;refine(aZ hk).trans ?_;exact kE h5) (lp.ev (i:=()) rfl)
end Go.Abs.Uz
