/- What the functions of this program answer, part k. -/
import Derived.Test.YtmamlgjbendjhaaGreatW3
import Derived.Test.YtmamlgjbendjhaaGreatXep
import Derived.Test.YtmamlgjbendjhaaGreatW2
set_option linter.unusedVariables false
open Go.IntKind (i64)
namespace Go.Abs.Xz
open Go Go.Abs
theorem QY{α:Type}{a b:Bool}{F R:α}:(bif a then(bif !b then F else R)else F)=bif a&&b then R else F:=by cases a<;>cases b<;>rfl
theorem two{α:Type}{a b:Bool}{X R:α}:(bif a then(bif b then X else R)else R)=bif a&&b then X else R:=by cases a<;>cases b<;>rfl
theorem aO{k:Nat}(h:k<=aN):k<=maxLen:=Nat.le_trans h (by decide)
theorem cO{i k:Nat}(hi:i<k)(h:k<=aN):i<9223372036854775807:=Nat.lt_of_lt_of_le hi (Nat.le_trans h (by decide))

theorem f229(l:fJ)(hl:l.2.2.1.length<=aN)(hs:∀ i,i<l.2.2.1.length->SzS (gt l.2.2.1 i)):Ran p 4 229 [.val true ⟨K33,l⟩] ⟨[⟨K4,(fL l,())⟩],[]⟩:=go229 λn hn=>by
 have lp:It (λaA (_:Unit)=>c229_4 (aL p n) aA l) (0:Int) (λ_=>oB (bL l.2.2.1.length λi=>aJ (gt l.2.2.1 i))):=by
  refine cU (It.allB l.2.2.1.length _ true (λi hi aA a rec=>?_) (It.stop λaA a rec=>?_))
  ·have hb:=cO hi hl
   unfold c229_4;rw[aF hb];refine ql hi ?_;refine qz ?_;refine(aE hi).trans ?_;refine qC (f227 (gt l.2.2.1 i) (aO (hs i hi).a) (aO (hs i hi).b)) ?_;exact fin
  ·unfold c229_4;refine qe ?_;rfl
 obtain⟨N,hN⟩:=lp.all_i
 refine⟨N,λaA hf=>?_⟩
 show T229 (aL p n) aA l=oB (fL l)
 unfold T229 fL;refine qC (f211 l.1 1 8) ?_;refine c8 λ_=>?_;refine CM λ_=>?_;refine qC (f211 l.2.1 0 100000) ?_;refine c8 λ_=>?_;refine CM λ_=>?_;exact hN aA hf ()
theorem f105(l:fJ)(hl:l.2.2.1.length<=aN)(hs:∀ i,i<l.2.2.1.length->SzS (gt l.2.2.1 i)):Ran p 4 105 [.val true ⟨K33,l⟩] ⟨[⟨K4,(fL l,())⟩],[]⟩:=go105 λn hn=>by
 have lp:It (λaA (_:Unit)=>c105_2 (aL p n) aA l) (0:Int) (λ_=>oB (G7 l)):=by
  refine It.allB l.2.2.1.length _ _ (λi hi aA a rec=>?_) (It.stop λaA a rec=>?_)
  ·have hb:=cO hi hl
   unfold c105_2;rw[aF hb];refine ql hi ?_;refine qz ?_;refine(aE hi).trans ?_;refine qC (f101 (gt l.2.2.1 i) (aO (hs i hi).a) (aO (hs i hi).b)) ?_;exact fin
  ·unfold c105_2;refine qe ?_;refine qC (f100 l.1 1 8) ?_;refine fH λ_=>?_;refine fH λ_=>?_;refine qC (f100 l.2.1 0 100000) ?_;refine fH λ_=>?_;rfl
 rw[QK] at lp
 exact Ev.eq (λaA=>by unfold T105;rfl) (lp.ev (i:=()) rfl)
theorem f231(l:fJ)(hl:l.2.2.1.length<=aN)(hs:∀ i,i<l.2.2.1.length->SzS (gt l.2.2.1 i)):Ran p 5 231 [.val true ⟨K33,l⟩] ⟨[⟨K3,(bU l,())⟩],[]⟩:=go231 λn hn=>Ev.now λaA=>by
 unfold T231 bU;refine qC (f229 l hl hs) ?_;cases fL l<;>rfl
theorem f104(l:fJ)(hl:l.2.2.1.length<=aN)(hs:∀ i,i<l.2.2.1.length->SzS (gt l.2.2.1 i)):Ran p 5 104 [.val true ⟨K33,l⟩] ⟨[⟨K3,(bU l,())⟩],[]⟩:=go104 λn hn=>Ev.now λaA=>by
 unfold T104 bU;refine qC (f105 l hl hs) ?_;cases fL l<;>rfl
theorem f230(v:List aH)(m:Int)(hv:v.length<=aN):Ran p 2 230 [.val false ⟨K28,(v,())⟩,.val false ⟨K3,(m,())⟩] ⟨[⟨K4,(eG v m,())⟩],[]⟩:=go230 λn hn=>by
 have lp:∃ N,∀ aA,N<=aA->((v.length:Int)==m)=true->iter (c230_4 (aL p n) aA v m) aA (0:Int)=oB (bL v.length λi=>inB (gt v i).1 0 100000):=by
  cases he:(v.length:Int)==m with
  | false=>exact⟨0,λ_ _ h=>by cases h⟩
  | true=>
   have e:m=(v.length:Int):=(eq_of_beq he).symm
   subst e
   have lp:It (λaA (_:Unit)=>c230_4 (aL p n) aA v (v.length:Int)) (0:Int) (λ_=>oB (bL v.length λi=>inB (gt v i).1 0 100000)):=by
    refine cU (It.allB v.length _ true (λi hi aA a rec=>?_) (It.stop λaA a rec=>?_))
    ·have hb:=cO hi hv
     unfold c230_4;rw[aF hb];refine ql hi ?_;refine qz ?_;refine(aE hi).trans ?_;refine qC (f211 (gt v i).1 0 100000) ?_;exact fin
    ·unfold c230_4;refine qe ?_;rfl
   obtain⟨N,hN⟩:=lp.all_i
   exact⟨N,λaA hf _=>hN aA hf ()⟩
 obtain⟨N,hN⟩:=lp
 refine⟨N,λaA hf=>?_⟩
 show T230 (aL p n) aA v m=oB (eG v m)
 unfold T230 eG;refine qC (f211 m 1 5) ?_;refine c8 λ_=>?_;refine c8 λh=>?_;exact hN aA hf h
theorem f106(v:List aH)(m:Int)(hv:v.length<=aN):Ran p 2 106 [.val false ⟨K28,(v,())⟩,.val false ⟨K3,(m,())⟩] ⟨[⟨K4,(eG v m,())⟩],[]⟩:=go106 λn hn=>by
 have lp:It (λaA (_:Unit)=>c106_2 (aL p n) aA v m) (0:Int) (λ_=>oB (F8 v m)):=by
  refine It.allB v.length _ _ (λi hi aA a rec=>?_) (It.stop λaA a rec=>?_)
  ·have hb:=cO hi hv
   unfold c106_2;rw[aF hb];refine ql hi ?_;refine qz ?_;refine(aE hi).trans ?_;refine qC (f100 (gt v i).1 0 100000) ?_;exact fin
  ·unfold c106_2;refine qe ?_;refine qC (f100 m 1 5) ?_;refine fH λ_=>?_;rfl
 rw[PI] at lp
 exact Ev.eq (λaA=>by unfold T106;rfl) (lp.ev (i:=()) rfl)
theorem f232(t:List bH)(m:Int)(hv:t.length<=aN)(hr:∀ k,k<t.length->(gt t k).1.length<=aN):Ran p 2 232 [.val false ⟨K34,(t,())⟩,.val false ⟨K3,(m,())⟩] ⟨[⟨K4,(gE t m,())⟩],[]⟩:=go232 λn hn=>by
 have inner:∀ k,k<t.length->It (λaA rec4=>c232_9 (aL p n) aA t m (k:Int) rec4) (0:Int) (fun(rec4:Int->Option Out)=>bif(bL (gt t k).1.length λi=>inB (gt (gt t k).1 i).1 0 1000)then rec4 ((k+1:Nat):Int)else oB false):=by
  intro k hk
  have hkb:=cO hk hv
  refine It.all (λi=>(i:Int)) (gt t k).1.length _ (rA:=fun(rec4:Int->Option Out)=>rec4 ((k+1:Nat):Int)) (rB:=λ_=>oB false) (λi hi aA rec4 rec=>?_) (It.stop λaA rec4 rec=>?_)
  ·have hb:=cO hi (hr k hk)
   unfold c232_9;rw[aF hb];refine qz ?_;refine(aE hk).trans ?_;refine ql hi ?_;refine qz ?_;refine(aE hk).trans ?_;refine qz ?_;refine(aE hi).trans ?_;refine qC (f211 (gt (gt t k).1 i).1 0 1000) ?_;exact fin
  ·unfold c232_9;rw[aF hkb];refine qz ?_;refine(aE hk).trans ?_;refine qe ?_;rfl
 have lp:∃ N,∀ aA,N<=aA->((t.length:Int)==m)=true->iter (c232_4 (aL p n) aA t m) aA (0:Int)=oB (bL t.length λk=>sR (gt t k)):=by
  cases he:(t.length:Int)==m with
  | false=>exact⟨0,λ_ _ h=>by cases h⟩
  | true=>
   have e:m=(t.length:Int):=(eq_of_beq he).symm
   subst e
   have lp:It (λaA (_:Unit)=>c232_4 (aL p n) aA t (t.length:Int)) (0:Int) (λ_=>oB (bL t.length λk=>sR (gt t k))):=by
    refine cU (It.allBE t.length _ true (λk hk=>?_) (It.stop λaA a rec=>?_))
    ·obtain⟨N,hN⟩:=(inner k hk).all_i
     refine⟨N,λaA hf a rec=>?_⟩
     unfold c232_4 sR;refine ql hk ?_;refine qz ?_;refine(aE hk).trans ?_;refine chk λ_=>?_;exact hN aA hf rec
    ·unfold c232_4;refine qe ?_;rfl
   obtain⟨N,hN⟩:=lp.all_i
   exact⟨N,λaA hf _=>hN aA hf ()⟩
 obtain⟨N,hN⟩:=lp
 refine⟨N,λaA hf=>?_⟩
 show T232 (aL p n) aA t m=oB (gE t m)
 unfold T232 gE;refine qC (f211 m 1 5) ?_;refine c8 λ_=>?_;refine c8 λh=>?_;exact hN aA hf h
theorem f108(t:List bH)(m:Int)(hv:t.length<=aN)(hr:∀ k,k<t.length->(gt t k).1.length<=aN):Ran p 2 108 [.val false ⟨K34,(t,())⟩,.val false ⟨K3,(m,())⟩] ⟨[⟨K4,(gE t m,())⟩],[]⟩:=go108 λn hn=>by
 have inner:∀ k,k<t.length->It (λaA rec2=>c108_5 (aL p n) aA t m (gt (α:=bH) t k) (k:Int) rec2) (0:Int) (fun(rec2:Int->Option Out)=>bif(bL (gt t k).1.length λi=>inB (gt (gt t k).1 i).1 0 1000)then(bif !(((gt t k).1.length:Nat):Int)==5 then oB false else rec2 ((k+1:Nat):Int))else oB false):=by
  intro k hk
  have hkb:=cO hk hv
  refine It.all (λi=>(i:Int)) (gt t k).1.length _ (rA:=fun(rec2:Int->Option Out)=>bif !(((gt t k).1.length:Nat):Int)==5 then oB false else rec2 ((k+1:Nat):Int)) (rB:=λ_=>oB false) (λi hi aA rec2 rec=>?_) (It.stop λaA rec2 rec=>?_)
  ·have hb:=cO hi (hr k hk)
   unfold c108_5;rw[aF hb];refine ql hi ?_;refine qz ?_;refine(aE hi).trans ?_;refine qC (f100 (gt (gt t k).1 i).1 0 1000) ?_;exact fin
  ·unfold c108_5;rw[aF hkb];refine qe ?_;rfl
 have lp:It (λaA (_:Unit)=>c108_2 (aL p n) aA t m) (0:Int) (λ_=>oB (yQ t m)):=by
  refine It.allBE t.length _ _ (λk hk=>?_) (It.stop λaA a rec=>?_)
  ·obtain⟨N,hN⟩:=(inner k hk).all_i
   refine⟨N,λaA hf a rec=>?_⟩
   unfold c108_2 yD;refine ql hk ?_;refine qz ?_;refine(aE hk).trans ?_;exact(hN aA hf rec).trans QY
  ·unfold c108_2;refine qe ?_;refine qC (f100 m 1 5) ?_;refine fH λ_=>?_;rfl
 rw[JQ] at lp
 exact Ev.eq (λaA=>by unfold T108;rfl) (lp.ev (i:=()) rfl)
theorem f107(v:List aH)(hv:v.length<=aN)(h0:0<v.length):Ran p 1 107 [.val false ⟨K28,(v,())⟩] ⟨[⟨K3,(KK v,())⟩],[]⟩:=go107 λn hn=>by
 obtain⟨k,hk⟩:∃ k,v.length=k+1:=⟨v.length - 1,by omega⟩
 have em:KK v=zP v k:=by unfold KK;rw[hk];rfl
 rw[em]
 have lp:It (λaA (_:Unit)=>c107_5 (aL p n) aA v) ((gt (α:=aH) v 0).1,(1:Int)) (λ_=>oI (zP v k)):=by
  refine It.run (λj=>(zP v j,((j+1:Nat):Int))) k (λj hj aA a rec=>?_) (It.stop λaA a rec=>?_)
  ·have hj1:j+1<v.length:=by omega
   have hb:=cO hj1 hv
   unfold c107_5;dsimp only;rw[aF hb];refine ql hj1 ?_;refine qz ?_;refine(aE hj1).trans ?_;rfl
  ·unfold c107_5;rw[<- hk];refine qe ?_;rfl
 refine Ev.eq (λaA=>?_) (lp.ev (i:=()) rfl)
 unfold T107;refine qN (by show ¬ ((v.length:Int)<1);omega) ?_;refine qP (by decide) ?_;exact(aE (α:=aH) (xs:=v) (i:=0) h0)
theorem f82(nd:NodeT)(x:Int):Ran p 2 82 [.val true ⟨K38,nd⟩,.val false ⟨K3,(x,())⟩] ⟨[⟨K4,(uF nd x,())⟩],[]⟩:=go82 λn hn=>Ev.now λaA=>by
 unfold T82 uF;refine qC (f100 x 0 (i64.wrap (nd.2.1 - 1))) ?_;refine fH λ_=>?_;rfl
theorem f21(nd:NodeT)(x:Int)(b:Bool)(hv:nd.sess.length<=aN):Ran p 1 21 [.val true ⟨K38,nd⟩,.val false ⟨K3,(x,())⟩,.val false ⟨K4,(b,())⟩] ⟨[⟨K3,(cW nd.sess x b,())⟩],[]⟩:=go21 λn hn=>by
 have lp:It (λaA (_:Unit)=>c21_2 (aL p n) aA nd x b) (0:Int) (λ_=>oI (cW nd.sess x b)):=by
  have:=It.first (c:=λaA (_:Unit)=>c21_2 (aL p n) aA nd x b) (λi=>(i:Int)) nd.sess.length (λi=>dH nd.sess i x b) (λi _=>oI (i:Int)) (λ_=>oI (-1)) (λi hi hp aA a rec=>?_) (λi hi hp=>It.stop λaA a rec=>?_) (It.stop λaA a rec=>?_)
  ·revert this;unfold cW
   cases (List.range nd.sess.length).find? (λi=>dH nd.sess i x b)<;>exact λh=>h
  ·have hb:=cO hi hv
   unfold c21_2;rw[aF hb];refine ql hi ?_;refine qz ?_;refine(aE hi).trans ?_;exact two.trans (gD hp)
  ·unfold c21_2;refine ql hi ?_;refine qz ?_;refine(aE hi).trans ?_;exact two.trans (jE hp)
  ·unfold c21_2;refine qe ?_;rfl
 exact Ev.eq (λaA=>by unfold T21;rfl) (lp.ev (i:=()) rfl)
theorem f109(nd:NodeT)(hv:nd.sess.length<=aN):Ran p 3 109 [.val true ⟨K38,nd⟩] ⟨[⟨K4,(tV nd,())⟩],[]⟩:=go109 λn hn=>by
 have lp:It (λaA (_:Unit)=>c109_2 (aL p n) aA nd) (0:Int) (λ_=>oB (tV nd)):=by
  refine It.allB nd.sess.length _ _ (λi hi aA a rec=>?_) (It.stop λaA a rec=>?_)
  ·have hb:=cO hi hv
   unfold c109_2 qU;rw[aF hb];refine ql hi ?_;refine qz ?_;refine(aE hi).trans ?_;refine qC (f82 nd (gt nd.sess i).1) ?_;refine chk λ_=>?_;refine qC (f100 (gt nd.sess i).2.1 0 100000) ?_;refine chk λ_=>?_;refine qC (f100 (gt nd.sess i).2.2.2.1 0 nd.wait) ?_;refine chk λ_=>?_;refine qC (f21 nd (gt nd.sess i).1 (gt nd.sess i).2.2.1 hv) ?_;exact fin
  ·unfold c109_2;refine qe ?_;refine qC (f100 nd.slots 1 4) ?_;refine fH λ_=>?_;rfl
 exact Ev.eq (λaA=>by unfold T109;rfl) (lp.ev (i:=()) rfl)
theorem f110(nd:NodeT)(hv:nd.rises.length<=aN):Ran p 2 110 [.val true ⟨K38,nd⟩] ⟨[⟨K4,(tY nd,())⟩],[]⟩:=go110 λn hn=>by
 have lp:It (λaA (_:Unit)=>c110_2 (aL p n) aA nd) (0:Int) (λ_=>oB (tY nd)):=by
  refine It.allB nd.rises.length _ _ (λi hi aA a rec=>?_) (It.stop λaA a rec=>?_)
  ·have hb:=cO hi hv
   unfold c110_2 j6;rw[aF hb];refine ql hi ?_;refine qz ?_;refine(aE hi).trans ?_;refine qC (f100 (gt nd.rises i).1 0 1000) ?_;refine chk λ_=>?_;refine qC (f100 (gt nd.rises i).2.1 0 100000) ?_;refine chk λ_=>?_;refine qC (f100 (gt nd.rises i).2.2.1 0 nd.clock) ?_;exact fin
  ·unfold c110_2;refine qe ?_;rfl
 exact Ev.eq (λaA=>by unfold T110;rfl) (lp.ev (i:=()) rfl)
theorem f233(nd:NodeT)(hv:nd.sess.length<=aN):Ran p 2 233 [.val true ⟨K38,nd⟩] ⟨[⟨K4,(kW nd,())⟩],[]⟩:=go233 λn hn=>by
 have inner:∀ (o3 o4:Rows [K4]×Rows []) (i:Nat),i<nd.sess.length->It (λaA rec4=>c233_10 (aL p n) aA nd o3 o4 (gt (α:=eC) nd.sess i) (i:Int) rec4) (0:Int) (fun(rec4:Int->Option Out)=>bif BT nd.sess i then rec4 ((i+1:Nat):Int)else oB false):=by
  intro o3 o4 i hi
  have hib:=cO hi hv
  refine It.all (λk=>(k:Int)) i (λk=> !dH nd.sess k (gt nd.sess i).1 (gt nd.sess i).2.2.1) (rA:=fun(rec4:Int->Option Out)=>rec4 ((i+1:Nat):Int)) (rB:=λ_=>oB false) (λk hk aA rec4 rec=>?_) (It.stop λaA rec4 rec=>?_)
  ·have hk':k<nd.sess.length:=by omega
   have hb:=cO hk' hv
   unfold c233_10 dH;rw[aF hb];refine ql hk ?_;refine qz ?_;refine(aE hk').trans ?_
   show(bif(gt nd.sess k).1==(gt nd.sess i).1 then _ else _)=bif !((gt nd.sess k).1==(gt nd.sess i).1&&_)then _ else _
   cases (gt nd.sess k).1==(gt nd.sess i).1 with
   | false=>rfl
   | true=>refine qt ?_;refine qz ?_;refine(aE hk').trans ?_;exact DT
  ·unfold c233_10;rw[aF hib];exact iR (Int.lt_irrefl _)
 have lp:It (λaA (_:Unit)=>c233_4 (aL p n) aA nd) (0:Int) (λ_=>oB (bL nd.sess.length (mP nd nd.sess))):=by
  refine cU (It.allBE nd.sess.length _ true (λi hi=>?_) (It.stop λaA a rec=>?_))
  ·obtain⟨N,hN⟩:=(inner (((inB (gt nd.sess i).2.1 0 100000,()),()),()) (((inB (gt nd.sess i).2.2.2.1 0 nd.wait,()),()),()) i hi).all_i
   refine⟨N,λaA hf a rec=>?_⟩
   unfold c233_4 mP;refine ql hi ?_;refine qz ?_;refine(aE hi).trans ?_;refine qC (f211 (gt nd.sess i).1 0 (i64.wrap (nd.2.1 - 1))) ?_;refine chk λ_=>?_;refine OU λ_=>?_;refine qC (f211 (gt nd.sess i).2.1 0 100000) ?_;refine chk λ_=>?_;refine qC (f211 (gt nd.sess i).2.2.2.1 0 nd.wait) ?_;refine chk λ_=>?_;exact hN aA hf rec
  ·unfold c233_4;refine qe ?_;rfl
 obtain⟨N,hN⟩:=lp.all_i
 refine⟨N,λaA hf=>?_⟩
 show T233 (aL p n) aA nd=oB (kW nd)
 unfold T233 kW;refine CM λ_=>?_;exact hN aA hf ()
theorem RA{nd:NodeT}(h1:inB nd.2.1 1 5=true)(h2:inB nd.1 0 (i64.wrap (nd.2.1 - 1))=true)(h3:eG nd.got nd.2.1=true):∃ k:Nat,nd.1=(k:Int)/\k<nd.got.length:=by
 rw[aQ] at h1 h2
 rw[CT (by omega) (by omega)] at h2
 unfold eG at h3;simp only[Bool.and_eq_true,beq_iff_eq] at h3
 exact⟨nd.1.toNat,by omega,by omega⟩
theorem f23(nd:NodeT)(hz:SzN nd):Ran p 7 23 [.val true ⟨K38,nd⟩] ⟨[⟨K4,(eO nd,())⟩],[]⟩:=go23 λn hn=>Ev.now λaA=>by
 rw[<- M1]
 show T23 (aL p n) aA nd=oB (yB nd)
 unfold T23 yB;refine qC (f100 nd.2.1 1 5) ?_;refine c8 λh1=>?_;refine qC (f100 nd.1 0 (i64.wrap (nd.2.1 - 1))) ?_;refine c8 λh2=>?_;refine qC (f101 nd.state (aO hz.state.a) (aO hz.state.b)) ?_;refine c8 λ_=>?_;refine qC (f103 nd.state hz.state) ?_;refine qC (f102 nd.tree (bV nd.state) (aO hz.leaves)) ?_;refine c8 λ_=>?_
 refine qC (f104 nd.log hz.list hz.logs) ?_;refine qC (f105 nd.log hz.list hz.logs) ?_;refine c8 λ_=>?_;refine qC (f106 nd.got nd.2.1 hz.got) ?_;refine c8 λh3=>?_;refine qC (f106 nd.acked nd.2.1 hz.acked) ?_;refine c8 λh4=>?_
 obtain⟨k,hk,hlt⟩:=RA h1 h2 h3
 show(bif decide (0<=nd.1)then((at? nd.got (nd.1).toNat).bind _)else none)=_
 rw[hk];refine qz ?_;refine(aE hlt).trans ?_;refine c8 λ_=>?_;refine qC (f107 nd.acked hz.acked (BC h4)) ?_;refine CM λ_=>?_;refine qC (f108 nd.seen nd.2.1 hz.seen hz.lines) ?_;refine c8 λ_=>?_;refine qC (f100 nd.num 0 100000) ?_;refine c8 λ_=>?_;refine qC (f100 nd.clock 0 100000) ?_;refine c8 λ_=>?_;refine qC (f100 nd.wait 1 20) ?_;refine fH λ_=>?_;refine qC (f100 nd.limit 1 50) ?_;refine fH λ_=>?_;refine qC (f109 nd hz.sess) ?_;refine fH λ_=>?_;refine qC (f110 nd hz.rises) ?_;rfl
theorem f86(nd:NodeT)(hz:SzN nd):Ran p 7 86 [.val true ⟨K38,nd⟩] ⟨[⟨K4,(eO nd,())⟩],[]⟩:=go86 λn hn=>by
 have ri:∃ N,∀ aA,N<=aA->((nd.rises.length:Int)==5)=true->iter (c86_13 (aL p n) aA nd) aA (0:Int)=oB (bL nd.rises.length (j6 nd)&&kW nd):=by
  cases he:(nd.rises.length:Int)==5 with
  | false=>exact⟨0,λ_ _ h=>by cases h⟩
  | true=>
   have e:nd.rises.length=5:=by have:=eq_of_beq he;omega
   have lp:It (λaA (_:Unit)=>c86_13 (aL p n) aA nd) (0:Int) (λ_=>oB (bL 5 (j6 nd)&&kW nd)):=by
    refine It.allB 5 _ _ (λi hi aA a rec=>?_) (It.stop λaA a rec=>?_)
    ·have hb:i<9223372036854775807:=by omega
     have hi':i<nd.rises.length:=by omega
     unfold c86_13 j6;rw[aF hb];refine qP (by show(i:Int)<5;omega) ?_;refine qz ?_;refine(aE hi').trans ?_;refine qC (f211 (gt nd.rises i).1 0 1000) ?_;refine chk λ_=>?_;refine qC (f211 (gt nd.rises i).2.1 0 100000) ?_;refine chk λ_=>?_;refine qC (f211 (gt nd.rises i).2.2.1 0 nd.clock) ?_;exact fin
    ·unfold c86_13;refine qN (by decide) ?_;refine qC (f233 nd hz.sess) ?_;rfl
   rw[e]
   obtain⟨N,hN⟩:=lp.all_i
   exact⟨N,λaA hf _=>hN aA hf ()⟩
 have ak:∃ N,∀ aA,N<=aA->eG nd.acked nd.2.1=true->iter (c86_6 (aL p n) aA nd) aA (0:Int)=oB (AZ nd&&mV nd):=by
  cases he:eG nd.acked nd.2.1 with
  | false=>exact⟨0,λ_ _ h=>by cases h⟩
  | true=>
   have e:nd.2.1=(nd.acked.length:Int):=by unfold eG at he;simp only[Bool.and_eq_true,beq_iff_eq] at he;omega
   obtain⟨M,hM⟩:=ri
   have lp:It (λaA (_:Unit)=>c86_6 (aL p n) aA nd) (0:Int) (λ_=>oB (AZ nd&&mV nd)):=by
    refine It.allB nd.acked.length _ _ (λi hi aA a rec=>?_) (It.stopE (T:=λaA _=>c86_6 (aL p n) aA nd (λ_=>none) (nd.acked.length:Int)) (λaA a rec=>?_) ⟨M,λaA hf a=>?_⟩)
    ·have hb:=cO hi hz.acked
     unfold c86_6;rw[aF hb];refine qP (by show(i:Int)<nd.2.1;omega) ?_;refine qz ?_;refine(aE hi).trans ?_;refine qC (f231 nd.log hz.list hz.logs) ?_;exact DT
    ·unfold c86_6;refine qN (by show ¬ ((nd.acked.length:Int)<nd.2.1);omega) ?_;exact(iR (by show ¬ ((nd.acked.length:Int)<nd.2.1);omega)).symm
    ·unfold c86_6 mV;refine qN (by show ¬ ((nd.acked.length:Int)<nd.2.1);omega) ?_
     refine qC (f211 nd.num 0 100000) ?_;refine c8 λ_=>?_;refine qC (f211 nd.clock 0 100000) ?_;refine c8 λ_=>?_;refine qC (f211 nd.slots 1 4) ?_;refine c8 λ_=>?_;refine qC (f211 nd.wait 1 20) ?_;refine c8 λ_=>?_;refine qC (f211 nd.limit 1 50) ?_;refine c8 λ_=>?_;refine c8 λh5=>?_;exact hM aA hf h5
   obtain⟨N,hN⟩:=lp.all_i
   exact⟨N,λaA hf _=>hN aA hf ()⟩
 obtain⟨N,hN⟩:=ak
 refine⟨N,λaA hf=>?_⟩
 show T86 (aL p n) aA nd=oB (eO nd)
 unfold T86 eO;refine qC (f211 nd.2.1 1 5) ?_;refine c8 λh1=>?_;refine qC (f211 nd.1 0 (i64.wrap (nd.2.1 - 1))) ?_;refine c8 λh2=>?_;refine qC (f227 nd.state (aO hz.state.a) (aO hz.state.b)) ?_;refine c8 λ_=>?_;refine qC (f228 nd.state hz.state) ?_;refine qC (f91 nd.tree (bV nd.state) (aO hz.leaves)) ?_;refine c8 λ_=>?_
 refine qC (f229 nd.log hz.list hz.logs) ?_;refine c8 λ_=>?_;refine qC (f230 nd.got nd.2.1 hz.got) ?_;refine c8 λh3=>?_;refine qC (f230 nd.acked nd.2.1 hz.acked) ?_;refine c8 λh4=>?_
 obtain⟨k,hk,hlt⟩:=RA h1 h2 h3
 show(bif decide (0<=nd.1)then((at? nd.got (nd.1).toNat).bind _)else none)=_
 rw[hk];refine qz ?_;refine(aE hlt).trans ?_;refine qC (f231 nd.log hz.list hz.logs) ?_;refine c8 λ_=>?_;refine qC (f232 nd.seen nd.2.1 hz.seen hz.lines) ?_;refine c8 λ_=>?_;exact hN aA hf h4
end Go.Abs.Xz
namespace Go.Abs.Xz
open Go Go.Abs
end Go.Abs.Xz
namespace Go.Abs.Xz
open Go Go.Abs
theorem f385(s:aD)(hz:SzS s):Ran p 4 385 [.val true ⟨K27,s⟩] ⟨[⟨K24,(rS s,())⟩],[]⟩:=go385 λn hn=>by
 cases hs:aJ s with
 | false=>
  refine Ev.now λaA=>?_
  unfold T385 rS;refine qC (f227 s (aO hz.a) (aO hz.b)) ?_;rw[hs];rfl
 | true=>
  have lp:It (λaA (_:Unit)=>c385_5 (aL p n) aA s) ((0:Int),([]:List bI)) (λ_=>some ⟨[⟨K24,(s.1.filter (λx:bI=>x.2.2.1==0),())⟩],[]⟩):=by
   refine It.accu (α:=bI) [] (λi=>bif(gt s.1 i).2.2.1==0 then[gt s.1 i] else[]) s.1.length 1 (λi hi=>by cases (gt s.1 i).2.2.1==0<;>simp) (λi hi acc ha aA a rec=>?_) (It.stop λaA a rec=>?_)
   ·have hb:=cO hi hz.a
    have hl:s.1.length<=1048576:=hz.a
    unfold c385_5;dsimp only;rw[aF hb];refine ql hi ?_;refine qz ?_;refine(aE hi).trans ?_
    cases hq:(gt s.1 i).2.2.1==0 with
    | false=>refine qf ?_;exact(congrArg (λl:List bI=>rec (((i+1:Nat):Int),l)) (List.append_nil acc).symm:_)
    | true=>refine qt ?_;refine qz ?_;refine(aE hi).trans ?_;refine qP (by rw[hq] at ha;have:acc.length+1<=0+s.1.length*1:=ha;show acc.length+1<=4294967296;omega) ?_;rfl
   ·unfold c385_5;refine qe ?_;exact congrArg (λl:List bI=>(some ⟨[⟨K24,(l,())⟩],[]⟩:Option Out)) ((cA (λx:bI=>bif x.2.2.1==0 then[x] else[]) s.1).trans (iW _ _))
  have e:rS s=s.1.filter (λx:bI=>x.2.2.1==0):=by unfold rS;rw[hs];rfl
  rw[e]
  exact Ev.eq (λaA=>by unfold T385;refine qC (f227 s (aO hz.a) (aO hz.b)) ?_;rw[hs];rfl) (lp.ev (i:=()) rfl)
theorem f25(a b:aD)(ha:SzS a):Ran p 1 25 [.val true ⟨K27,a⟩,.val true ⟨K27,b⟩] ⟨[⟨K4,(eU a b,())⟩],[]⟩:=go25 λn hn=>by
 have fl:∃ N,∀ aA,N<=aA->((a.2.1.length:Int)==(b.2.1.length:Int))=true->iter (c25_9 (aL p n) aA a b) aA (0:Int)=oB (bL a.2.1.length λi=>oQ (gt a.2.1 i) (gt b.2.1 i)):=by
  cases he:(a.2.1.length:Int)==(b.2.1.length:Int)with
  | false=>exact⟨0,λ_ _ h=>by cases h⟩
  | true=>
   have e:a.2.1.length=b.2.1.length:=by have:=eq_of_beq he;omega
   have lp:It (λaA (_:Unit)=>c25_9 (aL p n) aA a b) (0:Int) (λ_=>oB (bL a.2.1.length λi=>oQ (gt a.2.1 i) (gt b.2.1 i))):=by
    refine cU (It.allB a.2.1.length _ true (λi hi aA a' rec=>?_) (It.stop λaA a' rec=>?_))
    ·have hb:=cO hi ha.b
     unfold c25_9;rw[aF hb];refine ql hi ?_;refine qz ?_;refine(aE hi).trans ?_;refine qz ?_;refine(aE (show i<b.2.1.length by omega)).trans ?_;exact fin
    ·unfold c25_9;refine qe ?_;rfl
   obtain⟨N,hN⟩:=lp.all_i
   exact⟨N,λaA hf _=>hN aA hf ()⟩
 have it:∃ N,∀ aA,N<=aA->((a.1.length:Int)==(b.1.length:Int))=true->((a.2.1.length:Int)==(b.2.1.length:Int))=true->iter (c25_4 (aL p n) aA a b) aA (0:Int)=oB (bL a.1.length (λi=>vY (gt a.1 i) (gt b.1 i))&&bL a.2.1.length λi=>oQ (gt a.2.1 i) (gt b.2.1 i)):=by
  cases he:(a.1.length:Int)==(b.1.length:Int)with
  | false=>exact⟨0,λ_ _ h=>by cases h⟩
  | true=>
   cases he2:(a.2.1.length:Int)==(b.2.1.length:Int)with
   | false=>exact⟨0,λ_ _ _ h=>by cases h⟩
   | true=>
    have e:a.1.length=b.1.length:=by have:=eq_of_beq he;omega
    obtain⟨M,hM⟩:=fl
    have lp:It (λaA (_:Unit)=>c25_4 (aL p n) aA a b) (0:Int) (λ_=>oB (bL a.1.length (λi=>vY (gt a.1 i) (gt b.1 i))&&bL a.2.1.length λi=>oQ (gt a.2.1 i) (gt b.2.1 i))):=by
     refine It.allB a.1.length _ _ (λi hi aA a' rec=>?_) (It.stopE (T:=λaA _=>iter (c25_9 (aL p n) aA a b) aA (0:Int)) (λaA a' rec=>?_) ⟨M,λaA hf _=>hM aA hf he2⟩)
     ·have hb:=cO hi ha.a
      unfold c25_4;rw[aF hb];refine ql hi ?_;refine qz ?_;refine(aE hi).trans ?_;refine qz ?_;refine(aE (show i<b.1.length by omega)).trans ?_;exact fin
     ·unfold c25_4;refine qe ?_;rfl
    obtain⟨N,hN⟩:=lp.all_i
    exact⟨N,λaA hf _ _=>hN aA hf ()⟩
 obtain⟨N,hN⟩:=it
 refine⟨N,λaA hf=>?_⟩
 show T25 (aL p n) aA a b=oB (eU a b)
 unfold T25 eU;refine c8 λh=>?_;refine c8 λh'=>?_;exact hN aA hf h h'
end Go.Abs.Xz
namespace Go.Abs.Xz
open Go Go.Abs
theorem f327(s:aD)(id:Int)(hl:s.1.length<=maxLen):Ran p 1 327 [.val true ⟨K27,s⟩,.val false ⟨K3,(id,())⟩] ⟨[⟨K161,(bA s id).1⟩,⟨K4,((bA s id).2,())⟩],[]⟩:=go327 λn hn=>by
 have lp:It (λaA (_:Unit)=>c327_2 (aL p n) aA s id) (0:Int) (λ_=>some ⟨[⟨K161,(bA s id).1⟩,⟨K4,((bA s id).2,())⟩],[]⟩):=by
  have:=It.first (c:=λaA (_:Unit)=>c327_2 (aL p n) aA s id) (λi=>(i:Int)) s.1.length (λi=>(gt s.1 i).1==id) (λi _=>some ⟨[⟨K161,(gt (α:=bI) s.1 i).2⟩,⟨K4,(true,())⟩],[]⟩) (λ_=>some ⟨[⟨K161,cV⟩,⟨K4,(false,())⟩],[]⟩) (λi hi hp aA a rec=>?_) (λi hi hp=>It.stop λaA a rec=>?_) (It.stop λaA a rec=>?_)
  ·revert this;unfold bA
   cases (List.range s.1.length).find? (λi=>(gt s.1 i).1==id)<;>exact λh=>h
  ·have hb:i<9223372036854775807:=Nat.lt_of_lt_of_le hi hl
   unfold c327_2;rw[aF hb];refine ql hi ?_;refine qz ?_;refine(aE hi).trans ?_;exact gD hp
  ·unfold c327_2;refine ql hi ?_;refine qz ?_;refine(aE hi).trans ?_;refine qT hp ?_;refine qz ?_;refine(aE hi).trans ?_;rfl
  ·unfold c327_2;refine qe ?_;rfl
 exact Ev.eq (λaA=>by unfold T327;rfl) (lp.ev (i:=()) rfl)
theorem f319(s:aD)(id:Int)(hl:s.1.length<=maxLen):Ran p 1 319 [.val true ⟨K27,s⟩,.val false ⟨K3,(id,())⟩] ⟨[⟨K161,(bA s id).1⟩,⟨K4,((bA s id).2,())⟩],[]⟩:=go319 λn hn=>by
 have lp:It (λaA (_:Unit)=>c319_2 (aL p n) aA s id) (0:Int) (λ_=>some ⟨[⟨K161,(bA s id).1⟩,⟨K4,((bA s id).2,())⟩],[]⟩):=by
  have:=It.first (c:=λaA (_:Unit)=>c319_2 (aL p n) aA s id) (λi=>(i:Int)) s.1.length (λi=>(gt s.1 i).1==id) (λi _=>some ⟨[⟨K161,(gt (α:=bI) s.1 i).2⟩,⟨K4,(true,())⟩],[]⟩) (λ_=>some ⟨[⟨K161,cV⟩,⟨K4,(false,())⟩],[]⟩) (λi hi hp aA a rec=>?_) (λi hi hp=>It.stop λaA a rec=>?_) (It.stop λaA a rec=>?_)
  ·revert this;unfold bA
   cases (List.range s.1.length).find? (λi=>(gt s.1 i).1==id)<;>exact λh=>h
  ·have hb:i<9223372036854775807:=Nat.lt_of_lt_of_le hi hl
   unfold c319_2;rw[aF hb];refine ql hi ?_;refine qz ?_;refine(aE hi).trans ?_;exact gD hp
  ·unfold c319_2;refine ql hi ?_;refine qz ?_;refine(aE hi).trans ?_;refine qT hp ?_;rfl
  ·unfold c319_2;refine qe ?_;rfl
 exact Ev.eq (λaA=>by unfold T319;rfl) (lp.ev (i:=()) rfl)
theorem f248(a b:Int):Ran p 1 248 [.val false ⟨K3,(a,())⟩,.val false ⟨K3,(b,())⟩] ⟨[⟨K3,(mxI true a b,())⟩],[]⟩:=go248 λn hn=>Ev.now λaA=>by
 unfold T248 mxI
 simp only[if_true]
 by_cases h:a>b
 ·refine qP h ?_;rw[if_neg (by omega:¬ b>a)]
 ·refine qN h ?_;by_cases h':b>a
  ·rw[if_pos h']
  ·rw[if_neg h',show a=b from by omega]
theorem f359(b:Bool):Ran p 1 359 [.val false ⟨K4,(b,())⟩] ⟨[⟨K3,(LP b,())⟩],[]⟩:=go359 λn hn=>Ev.now λaA=>by
 unfold T359;cases b<;>rfl
theorem f358(a b:Int):Ran p 2 358 [.val false ⟨K3,(a,())⟩,.val false ⟨K3,(b,())⟩] ⟨[⟨K3,(l2 a b,())⟩],[]⟩:=go358 λn hn=>Ev.now λaA=>by
 unfold T358 l2
 cases decide (a<b)with
 | true=>rfl
 | false=>refine qf ?_;refine qC (f359 (decide (a>b))) ?_;rfl
theorem f383(a:Int):Ran p 1 383 [.val false ⟨K3,(a,())⟩] ⟨[⟨K4,(false,())⟩],[]⟩:=go383 λn hn=>Ev.now λaA=>by
 unfold T383;exact congrArg (λb:Bool=>(some ⟨[⟨K4,(b,())⟩],[]⟩:Option Out)) (by simp:(a != a)=false)
theorem f376(a b:Int):Ran p 2 376 [.val false ⟨K3,(a,())⟩,.val false ⟨K3,(b,())⟩] ⟨[⟨K3,(l2 a b,())⟩],[]⟩:=go376 λn hn=>Ev.now λaA=>by
 unfold T376 l2;refine qC (f383 a) ?_;refine qC (f383 b) ?_;refine qf ?_;refine qf ?_;cases decide (a<b)<;>cases decide (a>b)<;>rfl
theorem f375(ls:List aH)(hl:ls.length<=maxLen):Ran p 1 375 [.val false ⟨K28,(ls,())⟩] ⟨[⟨K3,(orN ls,())⟩],[]⟩:=go375 λn hn=>by
 have lp:It (λaA (_:Unit)=>c375_3 (aL p n) aA ls) (0:Int) (λ_=>oI (orN ls)):=by
  have:=It.first (c:=λaA (_:Unit)=>c375_3 (aL p n) aA ls) (λi=>(i:Int)) ls.length (λi=>(gt ls i).1 != 0) (λi _=>oI (gt ls i).1) (λ_=>oI 0) (λi hi hp aA a rec=>?_) (λi hi hp=>It.stop λaA a rec=>?_) (It.stop λaA a rec=>?_)
  ·revert this;unfold orN
   cases (List.range ls.length).find? (λi=>(gt ls i).1 != 0)<;>exact λh=>h
  ·have hb:i<9223372036854775807:=Nat.lt_of_lt_of_le hi hl
   unfold c375_3;rw[aF hb];refine ql hi ?_;refine qz ?_;refine(aE hi).trans ?_;exact gD hp
  ·unfold c375_3;refine ql hi ?_;refine qz ?_;refine(aE hi).trans ?_;exact jE hp
  ·unfold c375_3;refine qe ?_;rfl
 exact Ev.eq (λaA=>by unfold T375;rfl) (lp.ev (i:=()) rfl)
theorem f377(a b:ByteArray):Ran p 1 377 [.val false ⟨K9,(a,())⟩,.val false ⟨K9,(b,())⟩] ⟨[⟨K3,(uU a b,())⟩],[]⟩:=λn hn=>by
 cases n with
 | zero=>omega
 | succ n=>rfl
theorem f355(a b:bD):Ran p 3 355 [.val true ⟨K161,a⟩,.val true ⟨K161,b⟩] ⟨[⟨K3,(gC a b,())⟩],[]⟩:=go355 λn hn=>Ev.now λaA=>by
 unfold T355;refine qC (f376 a.1 b.1) ?_;refine qC (f376 a.2.1 b.2.1) ?_;refine qC (f376 a.2.2.1 b.2.2.1) ?_;refine qC (f376 a.2.2.2.1 b.2.2.2.1) ?_;refine qC (f377 a.2.2.2.2.1 b.2.2.2.2.1) ?_
 refine qC (f375 [(l2 a.1 b.1,()),(l2 a.2.1 b.2.1,()),(l2 a.2.2.1 b.2.2.1,()),(l2 a.2.2.2.1 b.2.2.2.1,()),(uU a.2.2.2.2.1 b.2.2.2.2.1,())] (by show 5<=9223372036854775807;omega)) ?_
 exact congrArg (λx:Int=>(some ⟨[⟨K3,(x,())⟩],[]⟩:Option Out)) (QE a b)
theorem f328(a b:bD):Ran p 3 328 [.val true ⟨K161,a⟩,.val true ⟨K161,b⟩] ⟨[⟨K3,(gC a b,())⟩],[]⟩:=go328 λn hn=>by
 have lp:It (λaA (_:Unit)=>c328_3 (aL p n) aA a b (((l2 a.1 b.1,()),()),()) (((l2 a.2.1 b.2.1,()),()),()) (((l2 a.2.2.1 b.2.2.1,()),()),()) (((l2 a.2.2.2.1 b.2.2.2.1,()),()),())) (0:Int) (λ_=>oI (gC a b)):=by
  have:=It.first (c:=λaA (_:Unit)=>c328_3 (aL p n) aA a b (((l2 a.1 b.1,()),()),()) (((l2 a.2.1 b.2.1,()),()),()) (((l2 a.2.2.1 b.2.2.1,()),()),()) (((l2 a.2.2.2.1 b.2.2.2.1,()),()),())) (λi=>(i:Int)) (HP a b).length (λi=>(gt (HP a b) i).1 != 0) (λi _=>oI (gt (HP a b) i).1) (λ_=>oI (uU a.2.2.2.2.1 b.2.2.2.2.1)) (λi hi hp aA a' rec=>?_) (λi hi hp=>It.stop λaA a' rec=>?_) (It.stop λaA a' rec=>?_)
  ·rw[<- MW];revert this;unfold orZ
   cases (List.range (HP a b).length).find? (λi=>(gt (HP a b) i).1 != 0)<;>exact λh=>h
  ·have hb:i<9223372036854775807:=Nat.lt_of_lt_of_le hi (by show 4<=9223372036854775807;omega)
   unfold c328_3;rw[aF hb];refine ql hi ?_;refine qz ?_;refine(aE hi).trans ?_;refine(aE hi).trans ?_;exact gD hp
  ·unfold c328_3;refine ql hi ?_;refine qz ?_;refine(aE hi).trans ?_;refine(aE hi).trans ?_;refine qT hp ?_;refine qz ?_;refine(aE hi).trans ?_;refine(aE hi).trans ?_;rfl
  ·unfold c328_3;refine qe ?_
   rw[<- LH]
   cases Op.bytesLess (ByteArray.toList a.2.2.2.2.1) (ByteArray.toList b.2.2.2.2.1)with
   | true=>rfl
   | false=>refine qf ?_;refine qC (f359 (!(false||ByteArray.toList a.2.2.2.2.1==ByteArray.toList b.2.2.2.2.1))) ?_;rfl
 exact Ev.eq (λaA=>by unfold T328;refine qC (f358 a.1 b.1) ?_;refine qC (f358 a.2.1 b.2.1) ?_;refine qC (f358 a.2.2.1 b.2.2.1) ?_;refine qC (f358 a.2.2.2.1 b.2.2.2.1) ?_;rfl) (lp.ev (i:=()) rfl)
theorem f320(a b:bD):Ran p 4 320 [.val true ⟨K161,a⟩,.val true ⟨K161,b⟩] ⟨[⟨K161,mxE a b⟩],[]⟩:=go320 λn hn=>Ev.now λaA=>by
 unfold T320 mxE;refine qC (f355 a b) ?_;cases decide (gC a b<0)<;>rfl
theorem f260(a b:aD)(ha:SzS a)(hb':SzS b)(hpa:Pos a)(hpb:Pos b):Ran p 4 260 [.val true ⟨K27,a⟩,.val true ⟨K27,b⟩] ⟨[⟨K27,cM a b⟩],[]⟩:=go260 λn hn=>by
 have lp:It (λaA (_:Unit)=>c260_3 (aL p n) aA a b) ((0:Int),([]:List aK),([]:List bI)) (λ_=>some ⟨[⟨K27,cM a b⟩],[]⟩):=by
  refine It.run (λi=>((i:Int),bM i (dP a b),bM i (dV a b))) 5 (λi hi aA u rec=>?_) (It.stop λaA u rec=>?_)
  ·have l1:(bM i (dP a b)).length<=i*1:=cT λj _=>oH a b j
   have l2':(bM i (dV a b)).length<=i*1:=cT λj _=>rK a b j
   have hb:i<9223372036854775807:=by omega
   have fin3:∀ {F:List aK} {J:List bI},dP a b i=F->dV a b i=J->rec (((i+1:Nat):Int),bM i (dP a b)++F,bM i (dV a b)++J)=rec (((i+1:Nat):Int),bM (i+1) (dP a b),bM (i+1) (dV a b)):=by
    intro F J h1 h2;rw[dD,dD,h1,h2]
   have fin0:∀ {F:List aK},dP a b i=F->dV a b i=[]->rec (((i+1:Nat):Int),bM i (dP a b)++F,bM i (dV a b))=rec (((i+1:Nat):Int),bM (i+1) (dP a b),bM (i+1) (dV a b)):=by
    intro F h1 h2;rw[dD,dD,h1,h2,List.append_nil]
   have fin1:∀ {J:List bI},dP a b i=[]->dV a b i=J->rec (((i+1:Nat):Int),bM i (dP a b),bM i (dV a b)++J)=rec (((i+1:Nat):Int),bM (i+1) (dP a b),bM (i+1) (dV a b)):=by
    intro J h1 h2;rw[dD,dD,h1,h2,List.append_nil]
   have fin2:dP a b i=[]->dV a b i=[]->rec (((i+1:Nat):Int),bM i (dP a b),bM i (dV a b))=rec (((i+1:Nat):Int),bM (i+1) (dP a b),bM (i+1) (dV a b)):=by
    intro h1 h2;rw[dD,dD,h1,h2,List.append_nil,List.append_nil]
   unfold c260_3;dsimp only;rw[aF hb];refine qP (by show(i:Int)<5;omega) ?_;refine qC (f313 a (i:Int) (aO ha.b)) ?_;refine qC (f313 b (i:Int) (aO hb'.b)) ?_;refine qC (f248 (cH a.2.1 (i:Int)) (cH b.2.1 (i:Int))) ?_
   have zi:bA a (i:Int)=(cV,false)->bA b (i:Int)=(cV,false)->dV a b i=[]:=λea eb=>f9 (QD ea eb) (by show ¬ (0:Int)>_;have:=OB (b:=b) hpa (i:Int);omega)
   by_cases hf:flr a b (i:Int)>0
   ·refine qP hf ?_;refine qP (by show(bM i (dP a b)).length+1<=4294967296;omega) ?_
    have gF:=oE hf
    refine qD (f327 a (i:Int) (aO ha.a)) ?_;refine qD (f327 b (i:Int) (aO hb'.a)) ?_
    rcases nB hpa (i:Int)with ⟨x,hx,ea⟩ | ea<;>rcases nB hpb (i:Int)with ⟨y,hy,eb⟩ | eb<;>rw[ea,eb]
    ·refine qf ?_;refine qf ?_;refine qt ?_;refine qC (f328 y x) ?_
     have pk:=IV ea eb
     by_cases hc:gC y x>0
     ·rw[decide_eq_true hc] at pk
      replace pk:eB a b (i:Int)=y:=pk
      refine qP hc ?_
      by_cases hi':y.1>flr a b i
      ·refine qP hi' ?_;refine qP (by show(bM i (dV a b)).length+1<=4294967296;omega) ?_;exact fin3 gF (f8 pk hi')
      ·refine qN hi' ?_;exact fin0 gF (f9 pk hi')
     ·rw[decide_eq_false hc] at pk
      replace pk:eB a b (i:Int)=x:=pk
      refine qN hc ?_
      by_cases hi':x.1>flr a b i
      ·refine qP hi' ?_;refine qP (by show(bM i (dV a b)).length+1<=4294967296;omega) ?_;exact fin3 gF (f8 pk hi')
      ·refine qN hi' ?_;exact fin0 gF (f9 pk hi')
    ·refine qf ?_;refine qf ?_;refine qf ?_
     by_cases hi':x.1>flr a b i
     ·refine qP hi' ?_;refine qP (by show(bM i (dV a b)).length+1<=4294967296;omega) ?_;exact fin3 gF (f8 (xV ea eb hx) hi')
     ·refine qN hi' ?_;exact fin0 gF (f9 (xV ea eb hx) hi')
    ·refine qt ?_;refine qf ?_;refine qt ?_
     by_cases hi':y.1>flr a b i
     ·refine qP hi' ?_;refine qP (by show(bM i (dV a b)).length+1<=4294967296;omega) ?_;exact fin3 gF (f8 (xW ea eb hy) hi')
     ·refine qN hi' ?_;exact fin0 gF (f9 (xW ea eb hy) hi')
    ·refine qt ?_;refine qt ?_;exact fin0 gF (zi ea eb)
   ·refine qN hf ?_
    have gF:=sU hf
    refine qD (f327 a (i:Int) (aO ha.a)) ?_;refine qD (f327 b (i:Int) (aO hb'.a)) ?_
    rcases nB hpa (i:Int)with ⟨x,hx,ea⟩ | ea<;>rcases nB hpb (i:Int)with ⟨y,hy,eb⟩ | eb<;>rw[ea,eb]
    ·refine qf ?_;refine qf ?_;refine qt ?_;refine qC (f328 y x) ?_
     have pk:=IV ea eb
     by_cases hc:gC y x>0
     ·rw[decide_eq_true hc] at pk
      replace pk:eB a b (i:Int)=y:=pk
      refine qP hc ?_
      by_cases hi':y.1>flr a b i
      ·refine qP hi' ?_;refine qP (by show(bM i (dV a b)).length+1<=4294967296;omega) ?_;exact fin1 gF (f8 pk hi')
      ·refine qN hi' ?_;exact fin2 gF (f9 pk hi')
     ·rw[decide_eq_false hc] at pk
      replace pk:eB a b (i:Int)=x:=pk
      refine qN hc ?_
      by_cases hi':x.1>flr a b i
      ·refine qP hi' ?_;refine qP (by show(bM i (dV a b)).length+1<=4294967296;omega) ?_;exact fin1 gF (f8 pk hi')
      ·refine qN hi' ?_;exact fin2 gF (f9 pk hi')
    ·refine qf ?_;refine qf ?_;refine qf ?_
     by_cases hi':x.1>flr a b i
     ·refine qP hi' ?_;refine qP (by show(bM i (dV a b)).length+1<=4294967296;omega) ?_;exact fin1 gF (f8 (xV ea eb hx) hi')
     ·refine qN hi' ?_;exact fin2 gF (f9 (xV ea eb hx) hi')
    ·refine qt ?_;refine qf ?_;refine qt ?_
     by_cases hi':y.1>flr a b i
     ·refine qP hi' ?_;refine qP (by show(bM i (dV a b)).length+1<=4294967296;omega) ?_;exact fin1 gF (f8 (xW ea eb hy) hi')
     ·refine qN hi' ?_;exact fin2 gF (f9 (xW ea eb hy) hi')
    ·refine qt ?_;refine qt ?_;exact fin2 gF (zi ea eb)
  ·unfold c260_3;exact iR (by show ¬ ((5:Int)<5);decide)
 exact Ev.eq (λaA=>by unfold T260;rfl) (lp.ev (i:=()) rfl)
theorem f240(a b:aD)(ha:SzS a)(hb':SzS b):Ran p 5 240 [.val true ⟨K27,a⟩,.val true ⟨K27,b⟩] ⟨[⟨K27,cM a b⟩],[]⟩:=go240 λn hn=>by
 have lp:It (λaA (_:Unit)=>c240_3 (aL p n) aA a b) ((0:Int),([]:List bI),([]:List aK)) (λ_=>some ⟨[⟨K27,cM a b⟩],[]⟩):=by
  refine It.run (λi=>((i:Int),bM i (dV a b),bM i (dP a b))) 5 (λi hi aA u rec=>?_) (It.stop λaA u rec=>?_)
  ·have l1:(bM i (dP a b)).length<=i*1:=cT λj _=>oH a b j
   have l2':(bM i (dV a b)).length<=i*1:=cT λj _=>rK a b j
   have hb:i<9223372036854775807:=by omega
   unfold c240_3;dsimp only;rw[aF hb];refine qP (by show(i:Int)<5;omega) ?_;refine qD (f319 a (i:Int) (aO ha.a)) ?_;refine qD (f319 b (i:Int) (aO hb'.a)) ?_;refine qC (f320 (bA a (i:Int)).1 (bA b (i:Int)).1) ?_;refine qC (f243 a (i:Int) (aO ha.b)) ?_;refine qC (f243 b (i:Int) (aO hb'.b)) ?_
   rw[dD,dD]
   by_cases hp:(eB a b (i:Int)).1>flr a b (i:Int)
   ·refine qP hp ?_;refine qP (by show(bM i (dV a b)).length+1<=4294967296;omega) ?_;rw[f8 rfl hp]
    by_cases hf:flr a b (i:Int)>0
    ·refine qP hf ?_;refine qP (by show(bM i (dP a b)).length+1<=4294967296;omega) ?_;rw[oE hf];rfl
    ·refine qN hf ?_;rw[sU hf,List.append_nil];rfl
   ·refine qN hp ?_;rw[f9 rfl hp,List.append_nil]
    by_cases hf:flr a b (i:Int)>0
    ·refine qP hf ?_;refine qP (by show(bM i (dP a b)).length+1<=4294967296;omega) ?_;rw[oE hf];rfl
    ·refine qN hf ?_;rw[sU hf,List.append_nil];rfl
  ·unfold c240_3;exact iR (by show ¬ ((5:Int)<5);decide)
 exact Ev.eq (λaA=>by unfold T240;rfl) (lp.ev (i:=()) rfl)
theorem f316(s:aD)(id:Int)(hz:SzS s):Ran p 4 316 [.val true ⟨K27,s⟩,.val false ⟨K3,(id,())⟩] ⟨[⟨K3,(gone s id,())⟩],[]⟩:=go316 λn hn=>Ev.now λaA=>by
 unfold T316 gone;refine qC (f227 s (aO hz.a) (aO hz.b)) ?_
 cases hs:aJ s with
 | false=>rfl
 | true=>
  refine qf ?_;refine qD (f327 s id (aO hz.a)) ?_
  rcases nB ((aM s).1 hs).pos id with ⟨x,_,e⟩ | e<;>rw[e]
  ·refine qf ?_;show(bif x.2.1==0 then _ else _)=(some (⟨[⟨K3,(bif true then(bif true then(bif x.2.1==0 then _ else _)else _)else _,())⟩],[]⟩:Out):Option Out)
   cases x.2.1==0<;>rfl
  ·refine qt ?_;refine qC (f313 s id (aO hz.b)) ?_;rfl
theorem f311(s:aD)(id:Int)(hz:SzS s):Ran p 4 311 [.val true ⟨K27,s⟩,.val false ⟨K3,(id,())⟩] ⟨[⟨K3,(gone s id,())⟩],[]⟩:=go311 λn hn=>Ev.now λaA=>by
 unfold T311;refine qC (f101 s (aO hz.a) (aO hz.b)) ?_
 cases hs:aJ s with
 | false=>rw[FI hs];rfl
 | true=>
  rw[SI hs]
  refine qf ?_;refine qD (f319 s id (aO hz.a)) ?_
  rcases nB ((aM s).1 hs).pos id with ⟨x,_,e⟩ | e<;>rw[e]
  ·refine qf ?_;show(bif x.2.1==1 then _ else _)=(some (⟨[⟨K3,(bif true then(bif x.2.1==1 then _ else _)else _,())⟩],[]⟩:Out):Option Out)
   cases x.2.1==1<;>rfl
  ·refine qt ?_;refine qC (f243 s id (aO hz.b)) ?_;rfl
theorem f378(s:aD)(id:Int)(hz:SzS s):Ran p 5 378 [.val true ⟨K27,s⟩,.val false ⟨K3,(id,())⟩] ⟨[⟨K161,(n8 s id).1⟩,⟨K4,((n8 s id).2,())⟩],[]⟩:=go378 λn hn=>Ev.now λaA=>by
 unfold T378;refine qC (f385 s hz) ?_;refine qD (f327 (rS s,[],()) id (aO (JI hz))) ?_;rfl
end Go.Abs.Xz
namespace Go.Abs.Xz
open Go Go.Abs
end Go.Abs.Xz
