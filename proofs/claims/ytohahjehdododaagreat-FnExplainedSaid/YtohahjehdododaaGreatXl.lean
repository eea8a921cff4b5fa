/- What the functions of this program answer, part l. -/
import Derived.Test.YtohahjehdododaaGreatXep
import Derived.Test.YtohahjehdododaaGreatW3
import Derived.Test.YtohahjehdododaaGreatW2
import Derived.Test.YtohahjehdododaaGreatXa
set_option linter.unusedVariables false
open Go.IntKind (i64)
namespace Go.Abs.Wz
open Go Go.Abs
theorem SC{α:Type}{a b:Bool}{F R:α}:(bif a then(bif !b then F else R)else F)=bif a&&b then R else F:=by cases a<;>cases b<;>rfl
theorem two{α:Type}{a b:Bool}{X R:α}:(bif a then(bif b then X else R)else R)=bif a&&b then X else R:=by cases a<;>cases b<;>rfl
theorem aQ{k:Nat}(h:k<=aW):k<=maxLen:=Nat.le_trans h (by decide)
theorem bV{i k:Nat}(hi:i<k)(h:k<=aW):i<9223372036854775807:=Nat.lt_of_lt_of_le hi (Nat.le_trans h (by decide))

theorem f66(l:gV)(hl:l.2.2.1.length<=aW)(hs:∀ i,i<l.2.2.1.length->SzS (gt l.2.2.1 i)):Ran p 4 66 [.val true ⟨K49,l⟩] ⟨[⟨K4,(gR l,())⟩],[]⟩:=go66 λn hn=>by
 have lp:It (λaA (_:Unit)=>c66_4 (aK p n) aA l) (0:Int) (λ_=>oB (bS l.2.2.1.length λi=>aP (gt l.2.2.1 i))):=by
  refine cQ (It.allB l.2.2.1.length _ true (λi hi aA a rec=>?_) (It.stop λaA a rec=>?_))
  ·have hb:=bV hi hl
   show c66_4 (aK p n) aA l rec (i:Int)=_
   unfold c66_4;rw[aM hb];refine(aE (Int.ofNat_lt.2 hi)).trans ?_;refine bif_nn.trans ?_;refine(aJ hi).trans ?_;refine(aB (f25 (gt l.2.2.1 i) (aQ (hs i hi).a) (aQ (hs i hi).b) n (by omega))).trans ?_;exact fin
  ·show c66_4 (aK p n) aA l rec (l.2.2.1.length:Int)=_
   unfold c66_4;refine(aI (Int.lt_irrefl _)).trans ?_;rfl
 obtain⟨N,hN⟩:=lp.all_i
 refine⟨N,λaA hf=>?_⟩
 show T66 (aK p n) aA l=oB (gR l)
 unfold T66 gR;refine(aB (f33 l.1 1 8 n (by omega))).trans ?_;refine eU λ_=>?_;refine uW λ_=>?_;refine(aB (f33 l.2.1 0 100000 n (by omega))).trans ?_;refine eU λ_=>?_;refine uW λ_=>?_;exact hN aA hf ()
theorem f84(l:gV)(hl:l.2.2.1.length<=aW)(hs:∀ i,i<l.2.2.1.length->SzS (gt l.2.2.1 i)):Ran p 4 84 [.val true ⟨K49,l⟩] ⟨[⟨K4,(gR l,())⟩],[]⟩:=go84 λn hn=>by
 have lp:It (λaA (_:Unit)=>c84_2 (aK p n) aA l) (0:Int) (λ_=>oB (HV l)):=by
  refine It.allB l.2.2.1.length _ _ (λi hi aA a rec=>?_) (It.stop λaA a rec=>?_)
  ·have hb:=bV hi hl
   show c84_2 (aK p n) aA l rec (i:Int)=_
   unfold c84_2;rw[aM hb];refine(aE (Int.ofNat_lt.2 hi)).trans ?_;refine bif_nn.trans ?_;refine(aJ hi).trans ?_;refine(aB (f35 (gt l.2.2.1 i) (aQ (hs i hi).a) (aQ (hs i hi).b) n (by omega))).trans ?_;exact fin
  ·show c84_2 (aK p n) aA l rec (l.2.2.1.length:Int)=_
   unfold c84_2;refine(aI (Int.lt_irrefl _)).trans ?_;refine(aB (f43 l.1 1 8 n (by omega))).trans ?_;refine fH λ_=>?_;refine fH λ_=>?_;refine(aB (f43 l.2.1 0 100000 n (by omega))).trans ?_;refine fH λ_=>?_;rfl
 rw[RP] at lp
 exact Ev.eq (λaA=>by unfold T84;rfl) (lp.ev (i:=()) rfl)
theorem f68(l:gV)(hl:l.2.2.1.length<=aW)(hs:∀ i,i<l.2.2.1.length->SzS (gt l.2.2.1 i)):Ran p 5 68 [.val true ⟨K49,l⟩] ⟨[⟨K3,(cF l,())⟩],[]⟩:=go68 λn hn=>Ev.now λaA=>by
 unfold T68 cF;refine(aB (f66 l hl hs n (by omega))).trans ?_;cases gR l<;>rfl
theorem f83(l:gV)(hl:l.2.2.1.length<=aW)(hs:∀ i,i<l.2.2.1.length->SzS (gt l.2.2.1 i)):Ran p 5 83 [.val true ⟨K49,l⟩] ⟨[⟨K3,(cF l,())⟩],[]⟩:=go83 λn hn=>Ev.now λaA=>by
 unfold T83 cF;refine(aB (f84 l hl hs n (by omega))).trans ?_;cases gR l<;>rfl
theorem f67(v:List aO)(m:Int)(hv:v.length<=aW):Ran p 2 67 [.val false ⟨K44,(v,())⟩,.val false ⟨K3,(m,())⟩] ⟨[⟨K4,(eI v m,())⟩],[]⟩:=go67 λn hn=>by
 have lp:∃ N,∀ aA,N<=aA->((v.length:Int)==m)=true->iter (c67_4 (aK p n) aA v m) aA (0:Int)=oB (bS v.length λi=>inB (gt v i).1 0 100000):=by
  cases he:(v.length:Int)==m with
  | false=>exact⟨0,λ_ _ h=>by cases h⟩
  | true=>
   have e:m=(v.length:Int):=(eq_of_beq he).symm
   subst e
   have lp:It (λaA (_:Unit)=>c67_4 (aK p n) aA v (v.length:Int)) (0:Int) (λ_=>oB (bS v.length λi=>inB (gt v i).1 0 100000)):=by
    refine cQ (It.allB v.length _ true (λi hi aA a rec=>?_) (It.stop λaA a rec=>?_))
    ·have hb:=bV hi hv
     show c67_4 (aK p n) aA v (v.length:Int) rec (i:Int)=_
     unfold c67_4;rw[aM hb];refine(aE (Int.ofNat_lt.2 hi)).trans ?_;refine bif_nn.trans ?_;refine(aJ hi).trans ?_;refine(aB (f33 (gt v i).1 0 100000 n (by omega))).trans ?_;exact fin
    ·show c67_4 (aK p n) aA v (v.length:Int) rec (v.length:Int)=_
     unfold c67_4;refine(aI (Int.lt_irrefl _)).trans ?_;rfl
   obtain⟨N,hN⟩:=lp.all_i
   exact⟨N,λaA hf _=>hN aA hf ()⟩
 obtain⟨N,hN⟩:=lp
 refine⟨N,λaA hf=>?_⟩
 show T67 (aK p n) aA v m=oB (eI v m)
 unfold T67 eI;refine(aB (f33 m 1 5 n (by omega))).trans ?_;refine eU λ_=>?_;refine eU λh=>?_;exact hN aA hf h
theorem f85(v:List aO)(m:Int)(hv:v.length<=aW):Ran p 2 85 [.val false ⟨K44,(v,())⟩,.val false ⟨K3,(m,())⟩] ⟨[⟨K4,(eI v m,())⟩],[]⟩:=go85 λn hn=>by
 have lp:It (λaA (_:Unit)=>c85_2 (aK p n) aA v m) (0:Int) (λ_=>oB (GX v m)):=by
  refine It.allB v.length _ _ (λi hi aA a rec=>?_) (It.stop λaA a rec=>?_)
  ·have hb:=bV hi hv
   show c85_2 (aK p n) aA v m rec (i:Int)=_
   unfold c85_2;rw[aM hb];refine(aE (Int.ofNat_lt.2 hi)).trans ?_;refine bif_nn.trans ?_;refine(aJ hi).trans ?_;refine(aB (f43 (gt v i).1 0 100000 n (by omega))).trans ?_;exact fin
  ·show c85_2 (aK p n) aA v m rec (v.length:Int)=_
   unfold c85_2;refine(aI (Int.lt_irrefl _)).trans ?_;refine(aB (f43 m 1 5 n (by omega))).trans ?_;refine fH λ_=>?_;rfl
 rw[QH] at lp
 exact Ev.eq (λaA=>by unfold T85;rfl) (lp.ev (i:=()) rfl)
theorem f69(t:List bU)(m:Int)(hv:t.length<=aW)(hr:∀ k,k<t.length->(gt t k).1.length<=aW):Ran p 2 69 [.val false ⟨K50,(t,())⟩,.val false ⟨K3,(m,())⟩] ⟨[⟨K4,(gM t m,())⟩],[]⟩:=go69 λn hn=>by
 have inner:∀ k,k<t.length->It (λaA rec4=>c69_9 (aK p n) aA t m (k:Int) rec4) (0:Int) (fun(rec4:Int->Option Out)=>bif(bS (gt t k).1.length λi=>inB (gt (gt t k).1 i).1 0 1000)then rec4 ((k+1:Nat):Int)else oB false):=by
  intro k hk
  have hkb:=bV hk hv
  refine It.all (λi=>(i:Int)) (gt t k).1.length _ (rA:=fun(rec4:Int->Option Out)=>rec4 ((k+1:Nat):Int)) (rB:=λ_=>oB false) (λi hi aA rec4 rec=>?_) (It.stop λaA rec4 rec=>?_)
  ·have hb:=bV hi (hr k hk)
   show c69_9 (aK p n) aA t m (k:Int) rec4 rec (i:Int)=_
   unfold c69_9;rw[aM hb];refine bif_nn.trans ?_;refine(aJ hk).trans ?_;refine(aE (Int.ofNat_lt.2 hi)).trans ?_;refine bif_nn.trans ?_;refine(aJ hk).trans ?_;refine bif_nn.trans ?_;refine(aJ hi).trans ?_;refine(aB (f33 (gt (gt t k).1 i).1 0 1000 n (by omega))).trans ?_;exact fin
  ·show c69_9 (aK p n) aA t m (k:Int) rec4 rec (((gt t k).1.length:Nat):Int)=_
   unfold c69_9;rw[aM hkb];refine bif_nn.trans ?_;refine(aJ hk).trans ?_;refine(aI (Int.lt_irrefl _)).trans ?_;rfl
 have lp:∃ N,∀ aA,N<=aA->((t.length:Int)==m)=true->iter (c69_4 (aK p n) aA t m) aA (0:Int)=oB (bS t.length λk=>sV (gt t k)):=by
  cases he:(t.length:Int)==m with
  | false=>exact⟨0,λ_ _ h=>by cases h⟩
  | true=>
   have e:m=(t.length:Int):=(eq_of_beq he).symm
   subst e
   have lp:It (λaA (_:Unit)=>c69_4 (aK p n) aA t (t.length:Int)) (0:Int) (λ_=>oB (bS t.length λk=>sV (gt t k))):=by
    refine cQ (It.allBE t.length _ true (λk hk=>?_) (It.stop λaA a rec=>?_))
    ·obtain⟨N,hN⟩:=(inner k hk).all_i
     refine⟨N,λaA hf a rec=>?_⟩
     show c69_4 (aK p n) aA t (t.length:Int) rec (k:Int)=_
     unfold c69_4 sV;refine(aE (Int.ofNat_lt.2 hk)).trans ?_;refine bif_nn.trans ?_;refine(aJ hk).trans ?_;refine chk λ_=>?_;exact hN aA hf rec
    ·show c69_4 (aK p n) aA t (t.length:Int) rec (t.length:Int)=_
     unfold c69_4;refine(aI (Int.lt_irrefl _)).trans ?_;rfl
   obtain⟨N,hN⟩:=lp.all_i
   exact⟨N,λaA hf _=>hN aA hf ()⟩
 obtain⟨N,hN⟩:=lp
 refine⟨N,λaA hf=>?_⟩
 show T69 (aK p n) aA t m=oB (gM t m)
 unfold T69 gM;refine(aB (f33 m 1 5 n (by omega))).trans ?_;refine eU λ_=>?_;refine eU λh=>?_;exact hN aA hf h
theorem f87(t:List bU)(m:Int)(hv:t.length<=aW)(hr:∀ k,k<t.length->(gt t k).1.length<=aW):Ran p 2 87 [.val false ⟨K50,(t,())⟩,.val false ⟨K3,(m,())⟩] ⟨[⟨K4,(gM t m,())⟩],[]⟩:=go87 λn hn=>by
 have inner:∀ k,k<t.length->It (λaA rec2=>c87_5 (aK p n) aA t m (gt (α:=bU) t k) (k:Int) rec2) (0:Int) (fun(rec2:Int->Option Out)=>bif(bS (gt t k).1.length λi=>inB (gt (gt t k).1 i).1 0 1000)then(bif !(((gt t k).1.length:Nat):Int)==5 then oB false else rec2 ((k+1:Nat):Int))else oB false):=by
  intro k hk
  have hkb:=bV hk hv
  refine It.all (λi=>(i:Int)) (gt t k).1.length _ (rA:=fun(rec2:Int->Option Out)=>bif !(((gt t k).1.length:Nat):Int)==5 then oB false else rec2 ((k+1:Nat):Int)) (rB:=λ_=>oB false) (λi hi aA rec2 rec=>?_) (It.stop λaA rec2 rec=>?_)
  ·have hb:=bV hi (hr k hk)
   show c87_5 (aK p n) aA t m (gt (α:=bU) t k) (k:Int) rec2 rec (i:Int)=_
   unfold c87_5;rw[aM hb];refine(aE (Int.ofNat_lt.2 hi)).trans ?_;refine bif_nn.trans ?_;refine(aJ hi).trans ?_;refine(aB (f43 (gt (gt t k).1 i).1 0 1000 n (by omega))).trans ?_;exact fin
  ·show c87_5 (aK p n) aA t m (gt (α:=bU) t k) (k:Int) rec2 rec (((gt t k).1.length:Nat):Int)=_
   unfold c87_5;rw[aM hkb];refine(aI (Int.lt_irrefl _)).trans ?_;rfl
 have lp:It (λaA (_:Unit)=>c87_2 (aK p n) aA t m) (0:Int) (λ_=>oB (yV t m)):=by
  refine It.allBE t.length _ _ (λk hk=>?_) (It.stop λaA a rec=>?_)
  ·obtain⟨N,hN⟩:=(inner k hk).all_i
   refine⟨N,λaA hf a rec=>?_⟩
   show c87_2 (aK p n) aA t m rec (k:Int)=_
   unfold c87_2 yF;refine(aE (Int.ofNat_lt.2 hk)).trans ?_;refine bif_nn.trans ?_;refine(aJ hk).trans ?_;exact(hN aA hf rec).trans SC
  ·show c87_2 (aK p n) aA t m rec (t.length:Int)=_
   unfold c87_2;refine(aI (Int.lt_irrefl _)).trans ?_;refine(aB (f43 m 1 5 n (by omega))).trans ?_;refine fH λ_=>?_;rfl
 rw[KJ] at lp
 exact Ev.eq (λaA=>by unfold T87;rfl) (lp.ev (i:=()) rfl)
theorem f86(v:List aO)(hv:v.length<=aW)(h0:0<v.length):Ran p 1 86 [.val false ⟨K44,(v,())⟩] ⟨[⟨K3,(LM v,())⟩],[]⟩:=go86 λn hn=>by
 obtain⟨k,hk⟩:∃ k,v.length=k+1:=⟨v.length - 1,by omega⟩
 have em:LM v=uF v k:=by unfold LM;rw[hk];rfl
 rw[em]
 have lp:It (λaA (_:Unit)=>c86_5 (aK p n) aA v) ((gt (α:=aO) v 0).1,(1:Int)) (λ_=>oI (uF v k)):=by
  refine It.run (λj=>(uF v j,((j+1:Nat):Int))) k (λj hj aA a rec=>?_) (It.stop λaA a rec=>?_)
  ·have hj1:j+1<v.length:=by omega
   have hb:=bV hj1 hv
   show c86_5 (aK p n) aA v rec (uF v j,((j+1:Nat):Int))=_
   unfold c86_5;dsimp only;rw[aM hb];refine(aE (Int.ofNat_lt.2 hj1)).trans ?_;refine bif_nn.trans ?_;refine(aJ hj1).trans ?_;rfl
  ·show c86_5 (aK p n) aA v rec (uF v k,((k+1:Nat):Int))=_
   unfold c86_5;rw[<- hk];refine(aI (Int.lt_irrefl _)).trans ?_;rfl
 refine Ev.eq (λaA=>?_) (lp.ev (i:=()) rfl)
 unfold T86;refine(aI (by show ¬ ((v.length:Int)<1);omega)).trans ?_;refine(aE (by decide)).trans ?_;exact(aJ (α:=aO) (xs:=v) (i:=0) h0)
theorem f115(nd:NodeT)(x:Int):Ran p 2 115 [.val true ⟨K54,nd⟩,.val false ⟨K3,(x,())⟩] ⟨[⟨K4,(mH nd x,())⟩],[]⟩:=go115 λn hn=>Ev.now λaA=>by
 unfold T115 mH;refine(aB (f43 x 0 (i64.wrap (nd.2.1 - 1)) n (by omega))).trans ?_;refine fH λ_=>?_;rfl
theorem f116(nd:NodeT)(x:Int)(b:Bool)(hv:nd.sess.length<=aW):Ran p 1 116 [.val true ⟨K54,nd⟩,.val false ⟨K3,(x,())⟩,.val false ⟨K4,(b,())⟩] ⟨[⟨K3,(dE nd.sess x b,())⟩],[]⟩:=go116 λn hn=>by
 have lp:It (λaA (_:Unit)=>c116_2 (aK p n) aA nd x b) (0:Int) (λ_=>oI (dE nd.sess x b)):=by
  have:=It.first (c:=λaA (_:Unit)=>c116_2 (aK p n) aA nd x b) (λi=>(i:Int)) nd.sess.length (λi=>dQ nd.sess i x b) (λi _=>oI (i:Int)) (λ_=>oI (-1)) (λi hi hp aA a rec=>?_) (λi hi hp=>It.stop λaA a rec=>?_) (It.stop λaA a rec=>?_)
  ·revert this;unfold dE
   cases (List.range nd.sess.length).find? (λi=>dQ nd.sess i x b)<;>exact λh=>h
  ·have hb:=bV hi hv
   show c116_2 (aK p n) aA nd x b rec (i:Int)=_
   unfold c116_2;rw[aM hb];refine(aE (Int.ofNat_lt.2 hi)).trans ?_;refine bif_nn.trans ?_;refine(aJ hi).trans ?_;exact two.trans (aF hp)
  ·show c116_2 (aK p n) aA nd x b rec (i:Int)=_
   unfold c116_2;refine(aE (Int.ofNat_lt.2 hi)).trans ?_;refine bif_nn.trans ?_;refine(aJ hi).trans ?_;exact two.trans (aL hp)
  ·show c116_2 (aK p n) aA nd x b rec (nd.sess.length:Int)=_
   unfold c116_2;refine(aI (Int.lt_irrefl _)).trans ?_;rfl
 exact Ev.eq (λaA=>by unfold T116;rfl) (lp.ev (i:=()) rfl)
theorem f88(nd:NodeT)(hv:nd.sess.length<=aW):Ran p 3 88 [.val true ⟨K54,nd⟩] ⟨[⟨K4,(tQ nd,())⟩],[]⟩:=go88 λn hn=>by
 have lp:It (λaA (_:Unit)=>c88_2 (aK p n) aA nd) (0:Int) (λ_=>oB (tQ nd)):=by
  refine It.allB nd.sess.length _ _ (λi hi aA a rec=>?_) (It.stop λaA a rec=>?_)
  ·have hb:=bV hi hv
   show c88_2 (aK p n) aA nd rec (i:Int)=_
   unfold c88_2 qW;rw[aM hb];refine(aE (Int.ofNat_lt.2 hi)).trans ?_;refine bif_nn.trans ?_;refine(aJ hi).trans ?_;refine(aB (f115 nd (gt nd.sess i).1 n (by omega))).trans ?_;refine chk λ_=>?_;refine(aB (f43 (gt nd.sess i).2.1 0 100000 n (by omega))).trans ?_;refine chk λ_=>?_;refine(aB (f43 (gt nd.sess i).2.2.2.1 0 nd.wait n (by omega))).trans ?_;refine chk λ_=>?_;refine(aB (f116 nd (gt nd.sess i).1 (gt nd.sess i).2.2.1 hv n (by omega))).trans ?_;exact fin
  ·show c88_2 (aK p n) aA nd rec (nd.sess.length:Int)=_
   unfold c88_2;refine(aI (Int.lt_irrefl _)).trans ?_;refine(aB (f43 nd.slots 1 4 n (by omega))).trans ?_;refine fH λ_=>?_;rfl
 exact Ev.eq (λaA=>by unfold T88;rfl) (lp.ev (i:=()) rfl)
theorem f89(nd:NodeT)(hv:nd.rises.length<=aW):Ran p 2 89 [.val true ⟨K54,nd⟩] ⟨[⟨K4,(tU nd,())⟩],[]⟩:=go89 λn hn=>by
 have lp:It (λaA (_:Unit)=>c89_2 (aK p n) aA nd) (0:Int) (λ_=>oB (tU nd)):=by
  refine It.allB nd.rises.length _ _ (λi hi aA a rec=>?_) (It.stop λaA a rec=>?_)
  ·have hb:=bV hi hv
   show c89_2 (aK p n) aA nd rec (i:Int)=_
   unfold c89_2 kD;rw[aM hb];refine(aE (Int.ofNat_lt.2 hi)).trans ?_;refine bif_nn.trans ?_;refine(aJ hi).trans ?_;refine(aB (f43 (gt nd.rises i).1 0 1000 n (by omega))).trans ?_;refine chk λ_=>?_;refine(aB (f43 (gt nd.rises i).2.1 0 100000 n (by omega))).trans ?_;refine chk λ_=>?_;refine(aB (f43 (gt nd.rises i).2.2.1 0 nd.clock n (by omega))).trans ?_;exact fin
  ·show c89_2 (aK p n) aA nd rec (nd.rises.length:Int)=_
   unfold c89_2;refine(aI (Int.lt_irrefl _)).trans ?_;rfl
 exact Ev.eq (λaA=>by unfold T89;rfl) (lp.ev (i:=()) rfl)
theorem f70(nd:NodeT)(hv:nd.sess.length<=aW):Ran p 2 70 [.val true ⟨K54,nd⟩] ⟨[⟨K4,(lP nd,())⟩],[]⟩:=go70 λn hn=>by
 have inner:∀ (o3 o4:Rows [K4]×Rows []) (i:Nat),i<nd.sess.length->It (λaA rec4=>c70_10 (aK p n) aA nd o3 o4 (gt (α:=eF) nd.sess i) (i:Int) rec4) (0:Int) (fun(rec4:Int->Option Out)=>bif B0 nd.sess i then rec4 ((i+1:Nat):Int)else oB false):=by
  intro o3 o4 i hi
  have hib:=bV hi hv
  refine It.all (λk=>(k:Int)) i (λk=> !dQ nd.sess k (gt nd.sess i).1 (gt nd.sess i).2.2.1) (rA:=fun(rec4:Int->Option Out)=>rec4 ((i+1:Nat):Int)) (rB:=λ_=>oB false) (λk hk aA rec4 rec=>?_) (It.stop λaA rec4 rec=>?_)
  ·have hk':k<nd.sess.length:=by omega
   have hb:=bV hk' hv
   show c70_10 (aK p n) aA nd o3 o4 (gt (α:=eF) nd.sess i) (i:Int) rec4 rec (k:Int)=_
   unfold c70_10 dQ;rw[aM hb];refine(aE (Int.ofNat_lt.2 hk)).trans ?_;refine bif_nn.trans ?_;refine(aJ hk').trans ?_
   show(bif(gt nd.sess k).1==(gt nd.sess i).1 then _ else _)=bif !((gt nd.sess k).1==(gt nd.sess i).1&&_)then _ else _
   cases (gt nd.sess k).1==(gt nd.sess i).1 with
   | false=>rfl
   | true=>refine(aL rfl).trans ?_;refine bif_nn.trans ?_;refine(aJ hk').trans ?_;exact IL
  ·show c70_10 (aK p n) aA nd o3 o4 (gt (α:=eF) nd.sess i) (i:Int) rec4 rec (i:Int)=_
   unfold c70_10;rw[aM hib];exact aI (Int.lt_irrefl _)
 have lp:It (λaA (_:Unit)=>c70_4 (aK p n) aA nd) (0:Int) (λ_=>oB (bS nd.sess.length (nA nd nd.sess))):=by
  refine cQ (It.allBE nd.sess.length _ true (λi hi=>?_) (It.stop λaA a rec=>?_))
  ·obtain⟨N,hN⟩:=(inner (((inB (gt nd.sess i).2.1 0 100000,()),()),()) (((inB (gt nd.sess i).2.2.2.1 0 nd.wait,()),()),()) i hi).all_i
   refine⟨N,λaA hf a rec=>?_⟩
   show c70_4 (aK p n) aA nd rec (i:Int)=_
   unfold c70_4 nA;refine(aE (Int.ofNat_lt.2 hi)).trans ?_;refine bif_nn.trans ?_;refine(aJ hi).trans ?_;refine(aB (f33 (gt nd.sess i).1 0 (i64.wrap (nd.2.1 - 1)) n (by omega))).trans ?_;refine chk λ_=>?_;refine PY λ_=>?_;refine(aB (f33 (gt nd.sess i).2.1 0 100000 n (by omega))).trans ?_;refine chk λ_=>?_;refine(aB (f33 (gt nd.sess i).2.2.2.1 0 nd.wait n (by omega))).trans ?_;refine chk λ_=>?_;exact hN aA hf rec
  ·show c70_4 (aK p n) aA nd rec (nd.sess.length:Int)=_
   unfold c70_4;refine(aI (Int.lt_irrefl _)).trans ?_;rfl
 obtain⟨N,hN⟩:=lp.all_i
 refine⟨N,λaA hf=>?_⟩
 show T70 (aK p n) aA nd=oB (lP nd)
 unfold T70 lP;refine uW λ_=>?_;exact hN aA hf ()
theorem SQ{nd:NodeT}(h1:inB nd.2.1 1 5=true)(h2:inB nd.1 0 (i64.wrap (nd.2.1 - 1))=true)(h3:eI nd.got nd.2.1=true):∃ k:Nat,nd.1=(k:Int)/\k<nd.got.length:=by
 rw[aV] at h1 h2
 rw[u3 (by omega) (by omega)] at h2
 unfold eI at h3;simp only[Bool.and_eq_true,beq_iff_eq] at h3
 exact⟨nd.1.toNat,by omega,by omega⟩
theorem f44(nd:NodeT)(hz:SzN nd):Ran p 7 44 [.val true ⟨K54,nd⟩] ⟨[⟨K4,(dY nd,())⟩],[]⟩:=go44 λn hn=>Ev.now λaA=>by
 rw[<- OB]
 show T44 (aK p n) aA nd=oB (yC nd)
 unfold T44 yC;refine(aB (f43 nd.2.1 1 5 n (by omega))).trans ?_;refine eU λh1=>?_;refine(aB (f43 nd.1 0 (i64.wrap (nd.2.1 - 1)) n (by omega))).trans ?_;refine eU λh2=>?_;refine(aB (f35 nd.state (aQ hz.state.a) (aQ hz.state.b) n (by omega))).trans ?_;refine eU λ_=>?_;refine(aB (f82 nd.state hz.state n (by omega))).trans ?_;refine(aB (f81 nd.tree (cJ nd.state) (aQ hz.leaves) n (by omega))).trans ?_;refine eU λ_=>?_
 refine(aB (f83 nd.log hz.list hz.logs n (by omega))).trans ?_;refine(aB (f84 nd.log hz.list hz.logs n (by omega))).trans ?_;refine eU λ_=>?_;refine(aB (f85 nd.got nd.2.1 hz.got n (by omega))).trans ?_;refine eU λh3=>?_;refine(aB (f85 nd.acked nd.2.1 hz.acked n (by omega))).trans ?_;refine eU λh4=>?_
 obtain⟨k,hk,hlt⟩:=SQ h1 h2 h3
 show(bif decide (0<=nd.1)then((at? nd.got (nd.1).toNat).bind _)else none)=_
 rw[hk];refine bif_nn.trans ?_;refine(aJ hlt).trans ?_;refine eU λ_=>?_;refine(aB (f86 nd.acked hz.acked (BI h4) n (by omega))).trans ?_;refine uW λ_=>?_;refine(aB (f87 nd.seen nd.2.1 hz.seen hz.lines n (by omega))).trans ?_;refine eU λ_=>?_;refine(aB (f43 nd.num 0 100000 n (by omega))).trans ?_;refine eU λ_=>?_;refine(aB (f43 nd.clock 0 100000 n (by omega))).trans ?_;refine eU λ_=>?_;refine(aB (f43 nd.wait 1 20 n (by omega))).trans ?_;refine fH λ_=>?_;refine(aB (f43 nd.limit 1 50 n (by omega))).trans ?_;refine fH λ_=>?_;refine(aB (f88 nd hz.sess n (by omega))).trans ?_;refine fH λ_=>?_;refine(aB (f89 nd hz.rises n (by omega))).trans ?_;rfl
theorem f34(nd:NodeT)(hz:SzN nd):Ran p 7 34 [.val true ⟨K54,nd⟩] ⟨[⟨K4,(dY nd,())⟩],[]⟩:=go34 λn hn=>by
 have ri:∃ N,∀ aA,N<=aA->((nd.rises.length:Int)==5)=true->iter (c34_13 (aK p n) aA nd) aA (0:Int)=oB (bS nd.rises.length (kD nd)&&lP nd):=by
  cases he:(nd.rises.length:Int)==5 with
  | false=>exact⟨0,λ_ _ h=>by cases h⟩
  | true=>
   have e:nd.rises.length=5:=by have:=eq_of_beq he;omega
   have lp:It (λaA (_:Unit)=>c34_13 (aK p n) aA nd) (0:Int) (λ_=>oB (bS 5 (kD nd)&&lP nd)):=by
    refine It.allB 5 _ _ (λi hi aA a rec=>?_) (It.stop λaA a rec=>?_)
    ·have hb:i<9223372036854775807:=by omega
     have hi':i<nd.rises.length:=by omega
     show c34_13 (aK p n) aA nd rec (i:Int)=_
     unfold c34_13 kD;rw[aM hb];refine(aE (by show(i:Int)<5;omega)).trans ?_;refine bif_nn.trans ?_;refine(aJ hi').trans ?_;refine(aB (f33 (gt nd.rises i).1 0 1000 n (by omega))).trans ?_;refine chk λ_=>?_;refine(aB (f33 (gt nd.rises i).2.1 0 100000 n (by omega))).trans ?_;refine chk λ_=>?_;refine(aB (f33 (gt nd.rises i).2.2.1 0 nd.clock n (by omega))).trans ?_;exact fin
    ·show c34_13 (aK p n) aA nd rec (5:Int)=_
     unfold c34_13;refine(aI (by decide)).trans ?_;refine(aB (f70 nd hz.sess n (by omega))).trans ?_;rfl
   rw[e]
   obtain⟨N,hN⟩:=lp.all_i
   exact⟨N,λaA hf _=>hN aA hf ()⟩
 have ak:∃ N,∀ aA,N<=aA->eI nd.acked nd.2.1=true->iter (c34_6 (aK p n) aA nd) aA (0:Int)=oB (A6 nd&&lT nd):=by
  cases he:eI nd.acked nd.2.1 with
  | false=>exact⟨0,λ_ _ h=>by cases h⟩
  | true=>
   have e:nd.2.1=(nd.acked.length:Int):=by unfold eI at he;simp only[Bool.and_eq_true,beq_iff_eq] at he;omega
   obtain⟨M,hM⟩:=ri
   have lp:It (λaA (_:Unit)=>c34_6 (aK p n) aA nd) (0:Int) (λ_=>oB (A6 nd&&lT nd)):=by
    refine It.allB nd.acked.length _ _ (λi hi aA a rec=>?_) (It.stopE (T:=λaA _=>c34_6 (aK p n) aA nd (λ_=>none) (nd.acked.length:Int)) (λaA a rec=>?_) ⟨M,λaA hf a=>?_⟩)
    ·have hb:=bV hi hz.acked
     show c34_6 (aK p n) aA nd rec (i:Int)=_
     unfold c34_6;rw[aM hb];refine(aE (by show(i:Int)<nd.2.1;omega)).trans ?_;refine bif_nn.trans ?_;refine(aJ hi).trans ?_;refine(aB (f68 nd.log hz.list hz.logs n (by omega))).trans ?_;exact IL
    ·show c34_6 (aK p n) aA nd rec (nd.acked.length:Int)=c34_6 (aK p n) aA nd (λ_=>none) (nd.acked.length:Int)
     unfold c34_6;refine(aI (by show ¬ ((nd.acked.length:Int)<nd.2.1);omega)).trans ?_;exact(aI (by show ¬ ((nd.acked.length:Int)<nd.2.1);omega)).symm
    ·show c34_6 (aK p n) aA nd (λ_=>none) (nd.acked.length:Int)=oB (lT nd)
     unfold c34_6 lT;refine(aI (by show ¬ ((nd.acked.length:Int)<nd.2.1);omega)).trans ?_
     refine(aB (f33 nd.num 0 100000 n (by omega))).trans ?_;refine eU λ_=>?_;refine(aB (f33 nd.clock 0 100000 n (by omega))).trans ?_;refine eU λ_=>?_;refine(aB (f33 nd.slots 1 4 n (by omega))).trans ?_;refine eU λ_=>?_;refine(aB (f33 nd.wait 1 20 n (by omega))).trans ?_;refine eU λ_=>?_;refine(aB (f33 nd.limit 1 50 n (by omega))).trans ?_;refine eU λ_=>?_;refine eU λh5=>?_;exact hM aA hf h5
   obtain⟨N,hN⟩:=lp.all_i
   exact⟨N,λaA hf _=>hN aA hf ()⟩
 obtain⟨N,hN⟩:=ak
 refine⟨N,λaA hf=>?_⟩
 show T34 (aK p n) aA nd=oB (dY nd)
 unfold T34 dY;refine(aB (f33 nd.2.1 1 5 n (by omega))).trans ?_;refine eU λh1=>?_;refine(aB (f33 nd.1 0 (i64.wrap (nd.2.1 - 1)) n (by omega))).trans ?_;refine eU λh2=>?_;refine(aB (f25 nd.state (aQ hz.state.a) (aQ hz.state.b) n (by omega))).trans ?_;refine eU λ_=>?_;refine(aB (f65 nd.state hz.state n (by omega))).trans ?_;refine(aB (f64 nd.tree (cJ nd.state) (aQ hz.leaves) n (by omega))).trans ?_;refine eU λ_=>?_
 refine(aB (f66 nd.log hz.list hz.logs n (by omega))).trans ?_;refine eU λ_=>?_;refine(aB (f67 nd.got nd.2.1 hz.got n (by omega))).trans ?_;refine eU λh3=>?_;refine(aB (f67 nd.acked nd.2.1 hz.acked n (by omega))).trans ?_;refine eU λh4=>?_
 obtain⟨k,hk,hlt⟩:=SQ h1 h2 h3
 show(bif decide (0<=nd.1)then((at? nd.got (nd.1).toNat).bind _)else none)=_
 rw[hk];refine bif_nn.trans ?_;refine(aJ hlt).trans ?_;refine(aB (f68 nd.log hz.list hz.logs n (by omega))).trans ?_;refine eU λ_=>?_;refine(aB (f69 nd.seen nd.2.1 hz.seen hz.lines n (by omega))).trans ?_;refine eU λ_=>?_;exact hN aA hf h4
theorem f45(w:a9)(x:Int):Ran p 2 45 [.val true ⟨K28,w⟩,.val false ⟨K3,(x,())⟩] ⟨[⟨K4,(inB x 0 (i64.wrap ((w.1.length:Int) - 1)),())⟩],[]⟩:=go45 λn hn=>Ev.now λaA=>by
 unfold T45;refine(aB (f43 x 0 (i64.wrap ((w.1.length:Int) - 1)) n (by omega))).trans ?_;rfl
theorem f11(w:a9)(hz:SzW w):Ran p 8 11 [.val true ⟨K28,w⟩] ⟨[⟨K4,(bM w,())⟩],[]⟩:=go11 λn hn=>by
 have said:It (λaA (_:Unit)=>c11_15 (aK p n) aA w) (0:Int) (λ_=>oB (bS w.2.2.1.length (iQ w))):=by
  refine cQ (It.allB w.2.2.1.length _ true (λi hi aA a rec=>?_) (It.stop λaA a rec=>?_))
  ·have hb:=bV hi hz.said
   show c11_15 (aK p n) aA w rec (i:Int)=_
   unfold c11_15 iQ;rw[aM hb];refine(aE (Int.ofNat_lt.2 hi)).trans ?_;refine bif_nn.trans ?_;refine(aJ hi).trans ?_;refine(aB (f33 (gt w.2.2.1 i).1 0 (i64.wrap ((w.1.length:Int) - 1)) n (by omega))).trans ?_;refine chk λ_=>?_;refine bif_nn.trans ?_;refine(aJ hi).trans ?_;refine(aB (f25 (gt w.2.2.1 i).2 (aQ (hz.part i hi).a) (aQ (hz.part i hi).b) n (by omega))).trans ?_;exact fin
  ·show c11_15 (aK p n) aA w rec (w.2.2.1.length:Int)=_
   unfold c11_15;refine(aI (Int.lt_irrefl _)).trans ?_;rfl
 have net:It (λaA (_:Unit)=>c11_10 (aK p n) aA w) (0:Int) (λ_=>oB (bS w.2.1.length (λi=>inB (gt w.2.1 i).1 0 (i64.wrap ((w.1.length:Int) - 1)))&&bS w.2.2.1.length (iQ w))):=by
  refine It.allB w.2.1.length _ _ (λi hi aA a rec=>?_) (It.stopE (T:=λaA _=>iter (c11_15 (aK p n) aA w) aA (0:Int)) (λaA a rec=>?_) said.all_i)
  ·have hb:=bV hi hz.net
   show c11_10 (aK p n) aA w rec (i:Int)=_
   unfold c11_10;rw[aM hb];refine(aE (Int.ofNat_lt.2 hi)).trans ?_;refine bif_nn.trans ?_;refine(aJ hi).trans ?_;refine(aB (f33 (gt w.2.1 i).1 0 (i64.wrap ((w.1.length:Int) - 1)) n (by omega))).trans ?_;exact fin
  ·show c11_10 (aK p n) aA w rec (w.2.1.length:Int)=_
   unfold c11_10;refine(aI (Int.lt_irrefl _)).trans ?_;rfl
 have nodes:It (λaA (_:Unit)=>c11_5 (aK p n) aA w) (0:Int) (λ_=>oB (bS w.1.length (lU w)&&(bS w.2.1.length (λi=>inB (gt w.2.1 i).1 0 (i64.wrap ((w.1.length:Int) - 1)))&&bS w.2.2.1.length (iQ w)))):=by
  refine It.allB w.1.length _ _ (λi hi aA a rec=>?_) (It.stopE (T:=λaA _=>iter (c11_10 (aK p n) aA w) aA (0:Int)) (λaA a rec=>?_) net.all_i)
  ·have hb:=bV hi hz.nodes
   show c11_5 (aK p n) aA w rec (i:Int)=_
   unfold c11_5 lU;rw[aM hb];refine(aE (Int.ofNat_lt.2 hi)).trans ?_;refine bif_nn.trans ?_;refine(aJ hi).trans ?_;refine(aB (f34 (gt w.1 i) (hz.node i hi) n (by omega))).trans ?_;refine chk λ_=>?_;refine bif_nn.trans ?_;refine(aJ hi).trans ?_;refine chk λ_=>?_;refine bif_nn.trans ?_;refine(aJ hi).trans ?_;exact fin
  ·show c11_5 (aK p n) aA w rec (w.1.length:Int)=_
   unfold c11_5;refine(aI (Int.lt_irrefl _)).trans ?_;rfl
 obtain⟨N,hN⟩:=nodes.all_i
 refine⟨N,λaA hf=>?_⟩
 show T11 (aK p n) aA w=oB (bM w)
 unfold T11 bM;refine(aB (f33 (w.1.length:Int) 1 5 n (by omega))).trans ?_;refine eU λ_=>?_;refine uW λ_=>?_;refine uW λ_=>?_;exact hN aA hf ()
theorem f20(w:a9)(hz:SzW w):Ran p 8 20 [.val true ⟨K28,w⟩] ⟨[⟨K4,(bM w,())⟩],[]⟩:=go20 λn hn=>by
 have said:It (λaA (_:Unit)=>c20_16 (aK p n) aA w) (0:Int) (λ_=>oB (bS w.2.2.1.length (iQ w))):=by
  refine cQ (It.allB w.2.2.1.length _ true (λi hi aA a rec=>?_) (It.stop λaA a rec=>?_))
  ·have hb:=bV hi hz.said
   show c20_16 (aK p n) aA w rec (i:Int)=_
   unfold c20_16 iQ;rw[aM hb];refine(aE (Int.ofNat_lt.2 hi)).trans ?_;refine bif_nn.trans ?_;refine(aJ hi).trans ?_;refine(aB (f45 w (gt w.2.2.1 i).1 n (by omega))).trans ?_;refine chk λ_=>?_;refine(aB (f35 (gt w.2.2.1 i).2 (aQ (hz.part i hi).a) (aQ (hz.part i hi).b) n (by omega))).trans ?_;exact fin
  ·show c20_16 (aK p n) aA w rec (w.2.2.1.length:Int)=_
   unfold c20_16;refine(aI (Int.lt_irrefl _)).trans ?_;rfl
 have net:It (λaA (_:Unit)=>c20_10 (aK p n) aA w) (0:Int) (λ_=>oB (bS w.2.1.length (λi=>inB (gt w.2.1 i).1 0 (i64.wrap ((w.1.length:Int) - 1)))&&bS w.2.2.1.length (iQ w))):=by
  refine It.allB w.2.1.length _ _ (λi hi aA a rec=>?_) (It.stopE (T:=λaA _=>iter (c20_16 (aK p n) aA w) aA (0:Int)) (λaA a rec=>?_) said.all_i)
  ·have hb:=bV hi hz.net
   show c20_10 (aK p n) aA w rec (i:Int)=_
   unfold c20_10;rw[aM hb];refine(aE (Int.ofNat_lt.2 hi)).trans ?_;refine bif_nn.trans ?_;refine(aJ hi).trans ?_;refine(aB (f45 w (gt w.2.1 i).1 n (by omega))).trans ?_;exact fin
  ·show c20_10 (aK p n) aA w rec (w.2.1.length:Int)=_
   unfold c20_10;refine(aI (Int.lt_irrefl _)).trans ?_;rfl
 have nodes:It (λaA (_:Unit)=>c20_4 (aK p n) aA w) (0:Int) (λ_=>oB (bS w.1.length (lU w)&&(bS w.2.1.length (λi=>inB (gt w.2.1 i).1 0 (i64.wrap ((w.1.length:Int) - 1)))&&bS w.2.2.1.length (iQ w)))):=by
  refine It.allB w.1.length _ _ (λi hi aA a rec=>?_) (It.stopE (T:=λaA _=>iter (c20_10 (aK p n) aA w) aA (0:Int)) (λaA a rec=>?_) net.all_i)
  ·have hb:=bV hi hz.nodes
   show c20_4 (aK p n) aA w rec (i:Int)=_
   unfold c20_4 lU;rw[aM hb];refine(aE (Int.ofNat_lt.2 hi)).trans ?_;refine bif_nn.trans ?_;refine(aJ hi).trans ?_;refine(aB (f44 (gt w.1 i) (hz.node i hi) n (by omega))).trans ?_;refine chk λ_=>?_;refine chk λ_=>?_;exact fin
  ·show c20_4 (aK p n) aA w rec (w.1.length:Int)=_
   unfold c20_4;refine(aI (Int.lt_irrefl _)).trans ?_;rfl
 obtain⟨N,hN⟩:=nodes.all_i
 refine⟨N,λaA hf=>?_⟩
 show T20 (aK p n) aA w=oB (bM w)
 unfold T20 bM;refine(aB (f43 (w.1.length:Int) 1 5 n (by omega))).trans ?_;refine eU λ_=>?_;refine uW λ_=>?_;refine uW λ_=>?_;exact hN aA hf ()
end Go.Abs.Wz
namespace Go.Abs.Wz
open Go Go.Abs
end Go.Abs.Wz
namespace Go.Abs.Wz
open Go Go.Abs
theorem f49(s:aH)(hz:SzS s):Ran p 4 49 [.val true ⟨K34,s⟩] ⟨[⟨K31,(iL s,())⟩],[]⟩:=go49 λn hn=>by
 cases hs:aP s with
 | false=>
  refine Ev.now λaA=>?_
  unfold T49 iL;refine(aB (f25 s (aQ hz.a) (aQ hz.b) n (by omega))).trans ?_;rw[hs];rfl
 | true=>
  have lp:It (λaA (_:Unit)=>c49_5 (aK p n) aA s) ((0:Int),([]:List bF)) (λ_=>some ⟨[⟨K31,(s.1.filter (λx:bF=>x.2.2.1==0),())⟩],[]⟩):=by
   refine It.accu (α:=bF) [] (λi=>bif(gt s.1 i).2.2.1==0 then[gt s.1 i] else[]) s.1.length 1 (λi hi=>by cases (gt s.1 i).2.2.1==0<;>simp) (λi hi acc ha aA a rec=>?_) (It.stop λaA a rec=>?_)
   ·have hb:=bV hi hz.a
    have hl:s.1.length<=1048576:=hz.a
    show c49_5 (aK p n) aA s rec ((i:Int),acc)=_
    unfold c49_5;dsimp only;rw[aM hb];refine(aE (Int.ofNat_lt.2 hi)).trans ?_;refine bif_nn.trans ?_;refine(aJ hi).trans ?_
    cases hq:(gt s.1 i).2.2.1==0 with
    | false=>refine(aF rfl).trans ?_;exact(congrArg (λl:List bF=>rec (((i+1:Nat):Int),l)) (List.append_nil acc).symm:_)
    | true=>refine(aL rfl).trans ?_;refine bif_nn.trans ?_;refine(aJ hi).trans ?_;refine(aE (by rw[hq] at ha;have:acc.length+1<=0+s.1.length*1:=ha;show acc.length+1<=4294967296;omega)).trans ?_;rfl
   ·show c49_5 (aK p n) aA s rec ((s.1.length:Int),bL (α:=bF) s.1.length (λi=>bif(gt s.1 i).2.2.1==0 then[gt s.1 i] else[]))=_
    unfold c49_5;refine(aI (Int.lt_irrefl _)).trans ?_;exact congrArg (λl:List bF=>(some ⟨[⟨K31,(l,())⟩],[]⟩:Option Out)) ((cG (λx:bF=>bif x.2.2.1==0 then[x] else[]) s.1).trans (hU _ _))
  have e:iL s=s.1.filter (λx:bF=>x.2.2.1==0):=by unfold iL;rw[hs];rfl
  rw[e]
  exact Ev.eq (λaA=>by unfold T49;refine(aB (f25 s (aQ hz.a) (aQ hz.b) n (by omega))).trans ?_;rw[hs];rfl) (lp.ev (i:=()) rfl)
theorem f92(s:aH)(hz:SzS s):Ran p 4 92 [.val true ⟨K34,s⟩] ⟨[⟨K31,(iL s,())⟩],[]⟩:=go92 λn hn=>by
 cases hs:aP s with
 | false=>
  refine Ev.now λaA=>?_
  unfold T92 iL;refine(aB (f35 s (aQ hz.a) (aQ hz.b) n (by omega))).trans ?_;rw[hs];rfl
 | true=>
  have lp:It (λaA (_:Unit)=>c92_5 (aK p n) aA s) ((0:Int),([]:List bF)) (λ_=>some ⟨[⟨K31,(s.1.filter (λx:bF=>x.2.2.1==0),())⟩],[]⟩):=by
   refine It.accu (α:=bF) [] (λi=>bif(gt s.1 i).2.2.1==0 then[gt s.1 i] else[]) s.1.length 1 (λi hi=>by cases (gt s.1 i).2.2.1==0<;>simp) (λi hi acc ha aA a rec=>?_) (It.stop λaA a rec=>?_)
   ·have hb:=bV hi hz.a
    have hl:s.1.length<=1048576:=hz.a
    show c92_5 (aK p n) aA s rec ((i:Int),acc)=_
    unfold c92_5;dsimp only;rw[aM hb];refine(aE (Int.ofNat_lt.2 hi)).trans ?_;refine bif_nn.trans ?_;refine(aJ hi).trans ?_
    cases hq:(gt s.1 i).2.2.1==0 with
    | false=>refine(aF rfl).trans ?_;exact(congrArg (λl:List bF=>rec (((i+1:Nat):Int),l)) (List.append_nil acc).symm:_)
    | true=>refine(aL rfl).trans ?_;refine(aE (by rw[hq] at ha;have:acc.length+1<=0+s.1.length*1:=ha;show acc.length+1<=4294967296;omega)).trans ?_;rfl
   ·show c92_5 (aK p n) aA s rec ((s.1.length:Int),bL (α:=bF) s.1.length (λi=>bif(gt s.1 i).2.2.1==0 then[gt s.1 i] else[]))=_
    unfold c92_5;refine(aI (Int.lt_irrefl _)).trans ?_;exact congrArg (λl:List bF=>(some ⟨[⟨K31,(l,())⟩],[]⟩:Option Out)) ((cG (λx:bF=>bif x.2.2.1==0 then[x] else[]) s.1).trans (hU _ _))
  have e:iL s=s.1.filter (λx:bF=>x.2.2.1==0):=by unfold iL;rw[hs];rfl
  rw[e]
  exact Ev.eq (λaA=>by unfold T92;refine(aB (f35 s (aQ hz.a) (aQ hz.b) n (by omega))).trans ?_;rw[hs];rfl) (lp.ev (i:=()) rfl)
theorem f36(a b:List bF)(ha:a.length<=maxLen):Ran p 1 36 [.val false ⟨K31,(a,())⟩,.val false ⟨K31,(b,())⟩] ⟨[⟨K4,(fC a b,())⟩],[]⟩:=go36 λn hn=>by
 have lp:∃ N,∀ aA,N<=aA->((a.length:Int)==(b.length:Int))=true->iter (c36_4 (aK p n) aA a b) aA (0:Int)=oB (bS a.length λi=>qJ (gt a i) (gt b i)):=by
  cases he:(a.length:Int)==(b.length:Int)with
  | false=>exact⟨0,λ_ _ h=>by cases h⟩
  | true=>
   have e:a.length=b.length:=by have:=eq_of_beq he;omega
   have lp:It (λaA (_:Unit)=>c36_4 (aK p n) aA a b) (0:Int) (λ_=>oB (bS a.length λi=>qJ (gt a i) (gt b i))):=by
    refine cQ (It.allB a.length _ true (λi hi aA a' rec=>?_) (It.stop λaA a' rec=>?_))
    ·have hb:i<9223372036854775807:=Nat.lt_of_lt_of_le hi ha
     show c36_4 (aK p n) aA a b rec (i:Int)=_
     unfold c36_4;rw[aM hb];refine(aE (Int.ofNat_lt.2 hi)).trans ?_;refine bif_nn.trans ?_;refine(aJ hi).trans ?_;refine bif_nn.trans ?_;refine(aJ (show i<b.length by omega)).trans ?_;exact fin
    ·show c36_4 (aK p n) aA a b rec (a.length:Int)=_
     unfold c36_4;refine(aI (Int.lt_irrefl _)).trans ?_;rfl
   obtain⟨N,hN⟩:=lp.all_i
   exact⟨N,λaA hf _=>hN aA hf ()⟩
 obtain⟨N,hN⟩:=lp
 refine⟨N,λaA hf=>?_⟩
 show T36 (aK p n) aA a b=oB (fC a b)
 unfold T36 fC;refine eU λh=>?_;exact hN aA hf h
theorem f9(a b:aH)(ha:SzS a):Ran p 1 9 [.val true ⟨K34,a⟩,.val true ⟨K34,b⟩] ⟨[⟨K4,(fB a b,())⟩],[]⟩:=go9 λn hn=>by
 have fl:∃ N,∀ aA,N<=aA->((a.2.1.length:Int)==(b.2.1.length:Int))=true->iter (c9_9 (aK p n) aA a b) aA (0:Int)=oB (bS a.2.1.length λi=>j9 (gt a.2.1 i) (gt b.2.1 i)):=by
  cases he:(a.2.1.length:Int)==(b.2.1.length:Int)with
  | false=>exact⟨0,λ_ _ h=>by cases h⟩
  | true=>
   have e:a.2.1.length=b.2.1.length:=by have:=eq_of_beq he;omega
   have lp:It (λaA (_:Unit)=>c9_9 (aK p n) aA a b) (0:Int) (λ_=>oB (bS a.2.1.length λi=>j9 (gt a.2.1 i) (gt b.2.1 i))):=by
    refine cQ (It.allB a.2.1.length _ true (λi hi aA a' rec=>?_) (It.stop λaA a' rec=>?_))
    ·have hb:=bV hi ha.b
     show c9_9 (aK p n) aA a b rec (i:Int)=_
     unfold c9_9;rw[aM hb];refine(aE (Int.ofNat_lt.2 hi)).trans ?_;refine bif_nn.trans ?_;refine(aJ hi).trans ?_;refine bif_nn.trans ?_;refine(aJ (show i<b.2.1.length by omega)).trans ?_;exact fin
    ·show c9_9 (aK p n) aA a b rec (a.2.1.length:Int)=_
     unfold c9_9;refine(aI (Int.lt_irrefl _)).trans ?_;rfl
   obtain⟨N,hN⟩:=lp.all_i
   exact⟨N,λaA hf _=>hN aA hf ()⟩
 have it:∃ N,∀ aA,N<=aA->((a.1.length:Int)==(b.1.length:Int))=true->((a.2.1.length:Int)==(b.2.1.length:Int))=true->iter (c9_4 (aK p n) aA a b) aA (0:Int)=oB (bS a.1.length (λi=>qJ (gt a.1 i) (gt b.1 i))&&bS a.2.1.length λi=>j9 (gt a.2.1 i) (gt b.2.1 i)):=by
  cases he:(a.1.length:Int)==(b.1.length:Int)with
  | false=>exact⟨0,λ_ _ h=>by cases h⟩
  | true=>
   cases he2:(a.2.1.length:Int)==(b.2.1.length:Int)with
   | false=>exact⟨0,λ_ _ _ h=>by cases h⟩
   | true=>
    have e:a.1.length=b.1.length:=by have:=eq_of_beq he;omega
    obtain⟨M,hM⟩:=fl
    have lp:It (λaA (_:Unit)=>c9_4 (aK p n) aA a b) (0:Int) (λ_=>oB (bS a.1.length (λi=>qJ (gt a.1 i) (gt b.1 i))&&bS a.2.1.length λi=>j9 (gt a.2.1 i) (gt b.2.1 i))):=by
     refine It.allB a.1.length _ _ (λi hi aA a' rec=>?_) (It.stopE (T:=λaA _=>iter (c9_9 (aK p n) aA a b) aA (0:Int)) (λaA a' rec=>?_) ⟨M,λaA hf _=>hM aA hf he2⟩)
     ·have hb:=bV hi ha.a
      show c9_4 (aK p n) aA a b rec (i:Int)=_
      unfold c9_4;rw[aM hb];refine(aE (Int.ofNat_lt.2 hi)).trans ?_;refine bif_nn.trans ?_;refine(aJ hi).trans ?_;refine bif_nn.trans ?_;refine(aJ (show i<b.1.length by omega)).trans ?_;exact fin
     ·show c9_4 (aK p n) aA a b rec (a.1.length:Int)=_
      unfold c9_4;refine(aI (Int.lt_irrefl _)).trans ?_;rfl
    obtain⟨N,hN⟩:=lp.all_i
    exact⟨N,λaA hf _ _=>hN aA hf ()⟩
 obtain⟨N,hN⟩:=it
 refine⟨N,λaA hf=>?_⟩
 show T9 (aK p n) aA a b=oB (fB a b)
 unfold T9 fB;refine eU λh=>?_;refine eU λh'=>?_;exact hN aA hf h h'
theorem f48(a b:List bF)(ha:a.length<=aW):Ran p 2 48 [.val false ⟨K31,(a,())⟩,.val false ⟨K31,(b,())⟩] ⟨[⟨K4,(fC a b,())⟩],[]⟩:=go48 λn hn=>Ev.now λaA=>by
 unfold T48;refine(aB (f9 (a,[],()) (b,[],()) ⟨ha,Nat.zero_le _⟩ n (by omega))).trans ?_;exact congrArg (λx:Bool=>(some ⟨[⟨K4,(x,())⟩],[]⟩:Option Out)) (xR a b)
theorem f47(a b:aH)(ha:SzS a)(hb:SzS b):Ran p 5 47 [.val true ⟨K34,a⟩,.val true ⟨K34,b⟩] ⟨[⟨K4,(fC (iL a) (iL b),())⟩],[]⟩:=go47 λn hn=>Ev.now λaA=>by
 unfold T47;refine(aB (f92 a ha n (by omega))).trans ?_;refine(aB (f92 b hb n (by omega))).trans ?_;refine(aB (f36 (iL a) (iL b) (aQ (u4 ha)) n (by omega))).trans ?_;rfl
end Go.Abs.Wz
namespace Go.Abs.Wz
open Go Go.Abs
theorem f62(s:aH)(id:Int)(hl:s.1.length<=maxLen):Ran p 1 62 [.val true ⟨K34,s⟩,.val false ⟨K3,(id,())⟩] ⟨[⟨K69,(bG s id).1⟩,⟨K4,((bG s id).2,())⟩],[]⟩:=go62 λn hn=>by
 have lp:It (λaA (_:Unit)=>c62_2 (aK p n) aA s id) (0:Int) (λ_=>some ⟨[⟨K69,(bG s id).1⟩,⟨K4,((bG s id).2,())⟩],[]⟩):=by
  have:=It.first (c:=λaA (_:Unit)=>c62_2 (aK p n) aA s id) (λi=>(i:Int)) s.1.length (λi=>(gt s.1 i).1==id) (λi _=>some ⟨[⟨K69,(gt (α:=bF) s.1 i).2⟩,⟨K4,(true,())⟩],[]⟩) (λ_=>some ⟨[⟨K69,c9⟩,⟨K4,(false,())⟩],[]⟩) (λi hi hp aA a rec=>?_) (λi hi hp=>It.stop λaA a rec=>?_) (It.stop λaA a rec=>?_)
  ·revert this;unfold bG
   cases (List.range s.1.length).find? (λi=>(gt s.1 i).1==id)<;>exact λh=>h
  ·have hb:i<9223372036854775807:=Nat.lt_of_lt_of_le hi hl
   show c62_2 (aK p n) aA s id rec (i:Int)=_
   unfold c62_2;rw[aM hb];refine(aE (Int.ofNat_lt.2 hi)).trans ?_;refine bif_nn.trans ?_;refine(aJ hi).trans ?_;exact aF hp
  ·show c62_2 (aK p n) aA s id rec (i:Int)=_
   unfold c62_2;refine(aE (Int.ofNat_lt.2 hi)).trans ?_;refine bif_nn.trans ?_;refine(aJ hi).trans ?_;refine(aL hp).trans ?_;refine bif_nn.trans ?_;refine(aJ hi).trans ?_;rfl
  ·show c62_2 (aK p n) aA s id rec (s.1.length:Int)=_
   unfold c62_2;refine(aI (Int.lt_irrefl _)).trans ?_;rfl
 exact Ev.eq (λaA=>by unfold T62;rfl) (lp.ev (i:=()) rfl)
theorem f58(s:aH)(id:Int)(hl:s.1.length<=maxLen):Ran p 1 58 [.val true ⟨K34,s⟩,.val false ⟨K3,(id,())⟩] ⟨[⟨K69,(bG s id).1⟩,⟨K4,((bG s id).2,())⟩],[]⟩:=go58 λn hn=>by
 have lp:It (λaA (_:Unit)=>c58_2 (aK p n) aA s id) (0:Int) (λ_=>some ⟨[⟨K69,(bG s id).1⟩,⟨K4,((bG s id).2,())⟩],[]⟩):=by
  have:=It.first (c:=λaA (_:Unit)=>c58_2 (aK p n) aA s id) (λi=>(i:Int)) s.1.length (λi=>(gt s.1 i).1==id) (λi _=>some ⟨[⟨K69,(gt (α:=bF) s.1 i).2⟩,⟨K4,(true,())⟩],[]⟩) (λ_=>some ⟨[⟨K69,c9⟩,⟨K4,(false,())⟩],[]⟩) (λi hi hp aA a rec=>?_) (λi hi hp=>It.stop λaA a rec=>?_) (It.stop λaA a rec=>?_)
  ·revert this;unfold bG
   cases (List.range s.1.length).find? (λi=>(gt s.1 i).1==id)<;>exact λh=>h
  ·have hb:i<9223372036854775807:=Nat.lt_of_lt_of_le hi hl
   show c58_2 (aK p n) aA s id rec (i:Int)=_
   unfold c58_2;rw[aM hb];refine(aE (Int.ofNat_lt.2 hi)).trans ?_;refine bif_nn.trans ?_;refine(aJ hi).trans ?_;exact aF hp
  ·show c58_2 (aK p n) aA s id rec (i:Int)=_
   unfold c58_2;refine(aE (Int.ofNat_lt.2 hi)).trans ?_;refine bif_nn.trans ?_;refine(aJ hi).trans ?_;refine(aL hp).trans ?_;rfl
  ·show c58_2 (aK p n) aA s id rec (s.1.length:Int)=_
   unfold c58_2;refine(aI (Int.lt_irrefl _)).trans ?_;rfl
 exact Ev.eq (λaA=>by unfold T58;rfl) (lp.ev (i:=()) rfl)
theorem f61(a b:Int):Ran p 1 61 [.val false ⟨K3,(a,())⟩,.val false ⟨K3,(b,())⟩] ⟨[⟨K3,(mxI true a b,())⟩],[]⟩:=go61 λn hn=>Ev.now λaA=>by
 unfold T61 mxI
 simp only[if_true]
 by_cases h:a>b
 ·refine(aE h).trans ?_;rw[if_neg (by omega:¬ b>a)]
 ·refine(aI h).trans ?_;by_cases h':b>a
  ·rw[if_pos h']
  ·rw[if_neg h',show a=b from by omega]
theorem f101(b:Bool):Ran p 1 101 [.val false ⟨K4,(b,())⟩] ⟨[⟨K3,(MI b,())⟩],[]⟩:=go101 λn hn=>Ev.now λaA=>by
 unfold T101;cases b<;>rfl
theorem f100(a b:Int):Ran p 2 100 [.val false ⟨K3,(a,())⟩,.val false ⟨K3,(b,())⟩] ⟨[⟨K3,(l2 a b,())⟩],[]⟩:=go100 λn hn=>Ev.now λaA=>by
 unfold T100 l2
 cases decide (a<b)with
 | true=>rfl
 | false=>refine(aF rfl).trans ?_;refine(aB (f101 (decide (a>b)) n (by omega))).trans ?_;rfl
theorem f155(a:Int):Ran p 1 155 [.val false ⟨K3,(a,())⟩] ⟨[⟨K4,(false,())⟩],[]⟩:=go155 λn hn=>Ev.now λaA=>by
 unfold T155;exact congrArg (λb:Bool=>(some ⟨[⟨K4,(b,())⟩],[]⟩:Option Out)) (by simp:(a != a)=false)
theorem f132(a b:Int):Ran p 2 132 [.val false ⟨K3,(a,())⟩,.val false ⟨K3,(b,())⟩] ⟨[⟨K3,(l2 a b,())⟩],[]⟩:=go132 λn hn=>Ev.now λaA=>by
 unfold T132 l2;refine(aB (f155 a n (by omega))).trans ?_;refine(aB (f155 b n (by omega))).trans ?_;refine(aF rfl).trans ?_;refine(aF rfl).trans ?_;cases decide (a<b)<;>cases decide (a>b)<;>rfl
theorem f131(ls:List aO)(hl:ls.length<=maxLen):Ran p 1 131 [.val false ⟨K44,(ls,())⟩] ⟨[⟨K3,(orN ls,())⟩],[]⟩:=go131 λn hn=>by
 have lp:It (λaA (_:Unit)=>c131_3 (aK p n) aA ls) (0:Int) (λ_=>oI (orN ls)):=by
  have:=It.first (c:=λaA (_:Unit)=>c131_3 (aK p n) aA ls) (λi=>(i:Int)) ls.length (λi=>(gt ls i).1 != 0) (λi _=>oI (gt ls i).1) (λ_=>oI 0) (λi hi hp aA a rec=>?_) (λi hi hp=>It.stop λaA a rec=>?_) (It.stop λaA a rec=>?_)
  ·revert this;unfold orN
   cases (List.range ls.length).find? (λi=>(gt ls i).1 != 0)<;>exact λh=>h
  ·have hb:i<9223372036854775807:=Nat.lt_of_lt_of_le hi hl
   show c131_3 (aK p n) aA ls rec (i:Int)=_
   unfold c131_3;rw[aM hb];refine(aE (Int.ofNat_lt.2 hi)).trans ?_;refine bif_nn.trans ?_;refine(aJ hi).trans ?_;exact aF hp
  ·show c131_3 (aK p n) aA ls rec (i:Int)=_
   unfold c131_3;refine(aE (Int.ofNat_lt.2 hi)).trans ?_;refine bif_nn.trans ?_;refine(aJ hi).trans ?_;exact aL hp
  ·show c131_3 (aK p n) aA ls rec (ls.length:Int)=_
   unfold c131_3;refine(aI (Int.lt_irrefl _)).trans ?_;rfl
 exact Ev.eq (λaA=>by unfold T131;rfl) (lp.ev (i:=()) rfl)
theorem f133(a b:ByteArray):Ran p 1 133 [.val false ⟨K9,(a,())⟩,.val false ⟨K9,(b,())⟩] ⟨[⟨K3,(uR a b,())⟩],[]⟩:=λn hn=>by
 cases n with
 | zero=>omega
 | succ n=>rfl
theorem f99(a b:bI):Ran p 3 99 [.val true ⟨K69,a⟩,.val true ⟨K69,b⟩] ⟨[⟨K3,(gL a b,())⟩],[]⟩:=go99 λn hn=>Ev.now λaA=>by
 unfold T99;refine(aB (f132 a.1 b.1 n (by omega))).trans ?_;refine(aB (f132 a.2.1 b.2.1 n (by omega))).trans ?_;refine(aB (f132 a.2.2.1 b.2.2.1 n (by omega))).trans ?_;refine(aB (f132 a.2.2.2.1 b.2.2.2.1 n (by omega))).trans ?_;refine(aB (f133 a.2.2.2.2.1 b.2.2.2.2.1 n (by omega))).trans ?_
 refine(aB (f131 [(l2 a.1 b.1,()),(l2 a.2.1 b.2.1,()),(l2 a.2.2.1 b.2.2.1,()),(l2 a.2.2.2.1 b.2.2.2.1,()),(uR a.2.2.2.2.1 b.2.2.2.2.1,())] (by show 5<=9223372036854775807;omega) n (by omega))).trans ?_
 exact congrArg (λx:Int=>(some ⟨[⟨K3,(x,())⟩],[]⟩:Option Out)) (RI a b)
theorem f63(a b:bI):Ran p 3 63 [.val true ⟨K69,a⟩,.val true ⟨K69,b⟩] ⟨[⟨K3,(gL a b,())⟩],[]⟩:=go63 λn hn=>by
 have lp:It (λaA (_:Unit)=>c63_3 (aK p n) aA a b (((l2 a.1 b.1,()),()),()) (((l2 a.2.1 b.2.1,()),()),()) (((l2 a.2.2.1 b.2.2.1,()),()),()) (((l2 a.2.2.2.1 b.2.2.2.1,()),()),())) (0:Int) (λ_=>oI (gL a b)):=by
  have:=It.first (c:=λaA (_:Unit)=>c63_3 (aK p n) aA a b (((l2 a.1 b.1,()),()),()) (((l2 a.2.1 b.2.1,()),()),()) (((l2 a.2.2.1 b.2.2.1,()),()),()) (((l2 a.2.2.2.1 b.2.2.2.1,()),()),())) (λi=>(i:Int)) (F8 a b).length (λi=>(gt (F8 a b) i).1 != 0) (λi _=>oI (gt (F8 a b) i).1) (λ_=>oI (uR a.2.2.2.2.1 b.2.2.2.2.1)) (λi hi hp aA a' rec=>?_) (λi hi hp=>It.stop λaA a' rec=>?_) (It.stop λaA a' rec=>?_)
  ·rw[<- N5];revert this;unfold orZ
   cases (List.range (F8 a b).length).find? (λi=>(gt (F8 a b) i).1 != 0)<;>exact λh=>h
  ·have hb:i<9223372036854775807:=Nat.lt_of_lt_of_le hi (by show 4<=9223372036854775807;omega)
   show c63_3 (aK p n) aA a b (((l2 a.1 b.1,()),()),()) (((l2 a.2.1 b.2.1,()),()),()) (((l2 a.2.2.1 b.2.2.1,()),()),()) (((l2 a.2.2.2.1 b.2.2.2.1,()),()),()) rec (i:Int)=_
   unfold c63_3;rw[aM hb];refine(aE (Int.ofNat_lt.2 hi)).trans ?_;refine bif_nn.trans ?_;refine(aJ hi).trans ?_;refine(aJ hi).trans ?_;exact aF hp
  ·show c63_3 (aK p n) aA a b (((l2 a.1 b.1,()),()),()) (((l2 a.2.1 b.2.1,()),()),()) (((l2 a.2.2.1 b.2.2.1,()),()),()) (((l2 a.2.2.2.1 b.2.2.2.1,()),()),()) rec (i:Int)=_
   unfold c63_3;refine(aE (Int.ofNat_lt.2 hi)).trans ?_;refine bif_nn.trans ?_;refine(aJ hi).trans ?_;refine(aJ hi).trans ?_;refine(aL hp).trans ?_;refine bif_nn.trans ?_;refine(aJ hi).trans ?_;refine(aJ hi).trans ?_;rfl
  ·show c63_3 (aK p n) aA a b (((l2 a.1 b.1,()),()),()) (((l2 a.2.1 b.2.1,()),()),()) (((l2 a.2.2.1 b.2.2.1,()),()),()) (((l2 a.2.2.2.1 b.2.2.2.1,()),()),()) rec (((F8 a b).length:Nat):Int)=_
   unfold c63_3;refine(aI (Int.lt_irrefl _)).trans ?_
   rw[<- MB]
   cases Op.bytesLess (ByteArray.toList a.2.2.2.2.1) (ByteArray.toList b.2.2.2.2.1)with
   | true=>rfl
   | false=>refine(aF rfl).trans ?_;refine(aB (f101 (!(false||ByteArray.toList a.2.2.2.2.1==ByteArray.toList b.2.2.2.2.1)) n (by omega))).trans ?_;rfl
 exact Ev.eq (λaA=>by unfold T63;refine(aB (f100 a.1 b.1 n (by omega))).trans ?_;refine(aB (f100 a.2.1 b.2.1 n (by omega))).trans ?_;refine(aB (f100 a.2.2.1 b.2.2.1 n (by omega))).trans ?_;refine(aB (f100 a.2.2.2.1 b.2.2.2.1 n (by omega))).trans ?_;rfl) (lp.ev (i:=()) rfl)
theorem f59(a b:bI):Ran p 4 59 [.val true ⟨K69,a⟩,.val true ⟨K69,b⟩] ⟨[⟨K69,mxE a b⟩],[]⟩:=go59 λn hn=>Ev.now λaA=>by
 unfold T59 mxE;refine(aB (f99 a b n (by omega))).trans ?_;cases decide (gL a b<0)<;>rfl
theorem f32(a b:aH)(ha:SzS a)(hb':SzS b)(hpa:Pos a)(hpb:Pos b):Ran p 4 32 [.val true ⟨K34,a⟩,.val true ⟨K34,b⟩] ⟨[⟨K34,cL a b⟩],[]⟩:=go32 λn hn=>by
 have lp:It (λaA (_:Unit)=>c32_3 (aK p n) aA a b) ((0:Int),([]:List aU),([]:List bF)) (λ_=>some ⟨[⟨K34,cL a b⟩],[]⟩):=by
  refine It.run (λi=>((i:Int),bL i (cR a b),bL i (dF a b))) 5 (λi hi aA u rec=>?_) (It.stop λaA u rec=>?_)
  ·have l1:(bL i (cR a b)).length<=i*1:=cY λj _=>oY a b j
   have l2':(bL i (dF a b)).length<=i*1:=cY λj _=>rJ a b j
   have hb:i<9223372036854775807:=by omega
   have fin3:∀ {F:List aU} {J:List bF},cR a b i=F->dF a b i=J->rec (((i+1:Nat):Int),bL i (cR a b)++F,bL i (dF a b)++J)=rec (((i+1:Nat):Int),bL (i+1) (cR a b),bL (i+1) (dF a b)):=by
    intro F J h1 h2;rw[c8,c8,h1,h2]
   have fin0:∀ {F:List aU},cR a b i=F->dF a b i=[]->rec (((i+1:Nat):Int),bL i (cR a b)++F,bL i (dF a b))=rec (((i+1:Nat):Int),bL (i+1) (cR a b),bL (i+1) (dF a b)):=by
    intro F h1 h2;rw[c8,c8,h1,h2,List.append_nil]
   have fin1:∀ {J:List bF},cR a b i=[]->dF a b i=J->rec (((i+1:Nat):Int),bL i (cR a b),bL i (dF a b)++J)=rec (((i+1:Nat):Int),bL (i+1) (cR a b),bL (i+1) (dF a b)):=by
    intro J h1 h2;rw[c8,c8,h1,h2,List.append_nil]
   have fin2:cR a b i=[]->dF a b i=[]->rec (((i+1:Nat):Int),bL i (cR a b),bL i (dF a b))=rec (((i+1:Nat):Int),bL (i+1) (cR a b),bL (i+1) (dF a b)):=by
    intro h1 h2;rw[c8,c8,h1,h2,List.append_nil,List.append_nil]
   show c32_3 (aK p n) aA a b rec ((i:Int),bL i (cR a b),bL i (dF a b))=rec (((i+1:Nat):Int),bL (i+1) (cR a b),bL (i+1) (dF a b))
   unfold c32_3;dsimp only;rw[aM hb];refine(aE (by show(i:Int)<5;omega)).trans ?_;refine(aB (f54 a (i:Int) (aQ ha.b) n (by omega))).trans ?_;refine(aB (f54 b (i:Int) (aQ hb'.b) n (by omega))).trans ?_;refine(aB (f61 (cO a.2.1 (i:Int)) (cO b.2.1 (i:Int)) n (by omega))).trans ?_
   have zi:bG a (i:Int)=(c9,false)->bG b (i:Int)=(c9,false)->dF a b i=[]:=λea eb=>gI (RG ea eb) (by show ¬ (0:Int)>_;have:=D3 (b:=b) hpa (i:Int);omega)
   by_cases hf:flr a b (i:Int)>0
   ·refine(aE hf).trans ?_;refine(aE (by show(bL i (cR a b)).length+1<=4294967296;omega)).trans ?_
    have gF:=oW hf
    refine(bA (f62 a (i:Int) (aQ ha.a) n (by omega))).trans ?_;refine(bA (f62 b (i:Int) (aQ hb'.a) n (by omega))).trans ?_
    rcases qK hpa (i:Int)with ⟨x,hx,ea⟩ | ea<;>rcases qK hpb (i:Int)with ⟨y,hy,eb⟩ | eb<;>rw[ea,eb]
    ·refine(aF rfl).trans ?_;refine(aF rfl).trans ?_;refine(aL rfl).trans ?_;refine(aB (f63 y x n (by omega))).trans ?_
     have pk:=JJ ea eb
     by_cases hc:gL y x>0
     ·rw[decide_eq_true hc] at pk
      replace pk:eB a b (i:Int)=y:=pk
      refine(aE hc).trans ?_
      by_cases hi':y.1>flr a b i
      ·refine(aE hi').trans ?_;refine(aE (by show(bL i (dF a b)).length+1<=4294967296;omega)).trans ?_;exact fin3 gF (gH pk hi')
      ·refine(aI hi').trans ?_;exact fin0 gF (gI pk hi')
     ·rw[decide_eq_false hc] at pk
      replace pk:eB a b (i:Int)=x:=pk
      refine(aI hc).trans ?_
      by_cases hi':x.1>flr a b i
      ·refine(aE hi').trans ?_;refine(aE (by show(bL i (dF a b)).length+1<=4294967296;omega)).trans ?_;exact fin3 gF (gH pk hi')
      ·refine(aI hi').trans ?_;exact fin0 gF (gI pk hi')
    ·refine(aF rfl).trans ?_;refine(aF rfl).trans ?_;refine(aF rfl).trans ?_
     by_cases hi':x.1>flr a b i
     ·refine(aE hi').trans ?_;refine(aE (by show(bL i (dF a b)).length+1<=4294967296;omega)).trans ?_;exact fin3 gF (gH (xX ea eb hx) hi')
     ·refine(aI hi').trans ?_;exact fin0 gF (gI (xX ea eb hx) hi')
    ·refine(aL rfl).trans ?_;refine(aF rfl).trans ?_;refine(aL rfl).trans ?_
     by_cases hi':y.1>flr a b i
     ·refine(aE hi').trans ?_;refine(aE (by show(bL i (dF a b)).length+1<=4294967296;omega)).trans ?_;exact fin3 gF (gH (xY ea eb hy) hi')
     ·refine(aI hi').trans ?_;exact fin0 gF (gI (xY ea eb hy) hi')
    ·refine(aL rfl).trans ?_;refine(aL rfl).trans ?_;exact fin0 gF (zi ea eb)
   ·refine(aI hf).trans ?_
    have gF:=sX hf
    refine(bA (f62 a (i:Int) (aQ ha.a) n (by omega))).trans ?_;refine(bA (f62 b (i:Int) (aQ hb'.a) n (by omega))).trans ?_
    rcases qK hpa (i:Int)with ⟨x,hx,ea⟩ | ea<;>rcases qK hpb (i:Int)with ⟨y,hy,eb⟩ | eb<;>rw[ea,eb]
    ·refine(aF rfl).trans ?_;refine(aF rfl).trans ?_;refine(aL rfl).trans ?_;refine(aB (f63 y x n (by omega))).trans ?_
     have pk:=JJ ea eb
     by_cases hc:gL y x>0
     ·rw[decide_eq_true hc] at pk
      replace pk:eB a b (i:Int)=y:=pk
      refine(aE hc).trans ?_
      by_cases hi':y.1>flr a b i
      ·refine(aE hi').trans ?_;refine(aE (by show(bL i (dF a b)).length+1<=4294967296;omega)).trans ?_;exact fin1 gF (gH pk hi')
      ·refine(aI hi').trans ?_;exact fin2 gF (gI pk hi')
     ·rw[decide_eq_false hc] at pk
      replace pk:eB a b (i:Int)=x:=pk
      refine(aI hc).trans ?_
      by_cases hi':x.1>flr a b i
      ·refine(aE hi').trans ?_;refine(aE (by show(bL i (dF a b)).length+1<=4294967296;omega)).trans ?_;exact fin1 gF (gH pk hi')
      ·refine(aI hi').trans ?_;exact fin2 gF (gI pk hi')
    ·refine(aF rfl).trans ?_;refine(aF rfl).trans ?_;refine(aF rfl).trans ?_
     by_cases hi':x.1>flr a b i
     ·refine(aE hi').trans ?_;refine(aE (by show(bL i (dF a b)).length+1<=4294967296;omega)).trans ?_;exact fin1 gF (gH (xX ea eb hx) hi')
     ·refine(aI hi').trans ?_;exact fin2 gF (gI (xX ea eb hx) hi')
    ·refine(aL rfl).trans ?_;refine(aF rfl).trans ?_;refine(aL rfl).trans ?_
     by_cases hi':y.1>flr a b i
     ·refine(aE hi').trans ?_;refine(aE (by show(bL i (dF a b)).length+1<=4294967296;omega)).trans ?_;exact fin1 gF (gH (xY ea eb hy) hi')
     ·refine(aI hi').trans ?_;exact fin2 gF (gI (xY ea eb hy) hi')
    ·refine(aL rfl).trans ?_;refine(aL rfl).trans ?_;exact fin2 gF (zi ea eb)
  ·show c32_3 (aK p n) aA a b rec (((5:Nat):Int),bL 5 (cR a b),bL 5 (dF a b))=_
   unfold c32_3;exact aI (by show ¬ ((5:Int)<5);decide)
 exact Ev.eq (λaA=>by unfold T32;rfl) (lp.ev (i:=()) rfl)
theorem f31(a b:aH)(ha:SzS a)(hb':SzS b):Ran p 5 31 [.val true ⟨K34,a⟩,.val true ⟨K34,b⟩] ⟨[⟨K34,cL a b⟩],[]⟩:=go31 λn hn=>by
 have lp:It (λaA (_:Unit)=>c31_3 (aK p n) aA a b) ((0:Int),([]:List bF),([]:List aU)) (λ_=>some ⟨[⟨K34,cL a b⟩],[]⟩):=by
  refine It.run (λi=>((i:Int),bL i (dF a b),bL i (cR a b))) 5 (λi hi aA u rec=>?_) (It.stop λaA u rec=>?_)
  ·have l1:(bL i (cR a b)).length<=i*1:=cY λj _=>oY a b j
   have l2':(bL i (dF a b)).length<=i*1:=cY λj _=>rJ a b j
   have hb:i<9223372036854775807:=by omega
   show c31_3 (aK p n) aA a b rec ((i:Int),bL i (dF a b),bL i (cR a b))=rec (((i+1:Nat):Int),bL (i+1) (dF a b),bL (i+1) (cR a b))
   unfold c31_3;dsimp only;rw[aM hb];refine(aE (by show(i:Int)<5;omega)).trans ?_;refine(bA (f58 a (i:Int) (aQ ha.a) n (by omega))).trans ?_;refine(bA (f58 b (i:Int) (aQ hb'.a) n (by omega))).trans ?_;refine(aB (f59 (bG a (i:Int)).1 (bG b (i:Int)).1 n (by omega))).trans ?_;refine(aB (f60 a (i:Int) (aQ ha.b) n (by omega))).trans ?_;refine(aB (f60 b (i:Int) (aQ hb'.b) n (by omega))).trans ?_
   rw[c8,c8]
   by_cases hp:(eB a b (i:Int)).1>flr a b (i:Int)
   ·refine(aE hp).trans ?_;refine(aE (by show(bL i (dF a b)).length+1<=4294967296;omega)).trans ?_;rw[gH rfl hp]
    by_cases hf:flr a b (i:Int)>0
    ·refine(aE hf).trans ?_;refine(aE (by show(bL i (cR a b)).length+1<=4294967296;omega)).trans ?_;rw[oW hf];rfl
    ·refine(aI hf).trans ?_;rw[sX hf,List.append_nil];rfl
   ·refine(aI hp).trans ?_;rw[gI rfl hp,List.append_nil]
    by_cases hf:flr a b (i:Int)>0
    ·refine(aE hf).trans ?_;refine(aE (by show(bL i (cR a b)).length+1<=4294967296;omega)).trans ?_;rw[oW hf];rfl
    ·refine(aI hf).trans ?_;rw[sX hf,List.append_nil];rfl
  ·show c31_3 (aK p n) aA a b rec (((5:Nat):Int),bL 5 (dF a b),bL 5 (cR a b))=_
   unfold c31_3;exact aI (by show ¬ ((5:Int)<5);decide)
 exact Ev.eq (λaA=>by unfold T31;rfl) (lp.ev (i:=()) rfl)
theorem f12(a b:aH)(ha:SzS a)(hb':SzS b):Ran p 6 12 [.val true ⟨K34,a⟩,.val true ⟨K34,b⟩] ⟨[⟨K34,bif aP a&&aP b then cL a b else iC⟩,⟨K4,(aP a&&aP b,())⟩],[]⟩:=go12 λn hn=>Ev.now λaA=>by
 unfold T12;refine(aB (f35 a (aQ ha.a) (aQ ha.b) n (by omega))).trans ?_
 cases aP a with
 | false=>rfl
 | true=>
  refine(aF rfl).trans ?_;refine(aB (f35 b (aQ hb'.a) (aQ hb'.b) n (by omega))).trans ?_
  cases aP b with
  | false=>rfl
  | true=>refine(aF rfl).trans ?_;refine(aB (f31 a b ha hb' n (by omega))).trans ?_;rfl
theorem f37(a b:List aU)(ha:a.length<=maxLen):Ran p 1 37 [.val false ⟨K32,(a,())⟩,.val false ⟨K32,(b,())⟩] ⟨[⟨K4,(jX a b,())⟩],[]⟩:=go37 λn hn=>by
 have lp:∃ N,∀ aA,N<=aA->((a.length:Int)==(b.length:Int))=true->iter (c37_4 (aK p n) aA a b) aA (0:Int)=oB (bS a.length λi=>j9 (gt a i) (gt b i)):=by
  cases he:(a.length:Int)==(b.length:Int)with
  | false=>exact⟨0,λ_ _ h=>by cases h⟩
  | true=>
   have e:a.length=b.length:=by have:=eq_of_beq he;omega
   have lp:It (λaA (_:Unit)=>c37_4 (aK p n) aA a b) (0:Int) (λ_=>oB (bS a.length λi=>j9 (gt a i) (gt b i))):=by
    refine cQ (It.allB a.length _ true (λi hi aA a' rec=>?_) (It.stop λaA a' rec=>?_))
    ·have hb:i<9223372036854775807:=Nat.lt_of_lt_of_le hi ha
     show c37_4 (aK p n) aA a b rec (i:Int)=_
     unfold c37_4;rw[aM hb];refine(aE (Int.ofNat_lt.2 hi)).trans ?_;refine bif_nn.trans ?_;refine(aJ hi).trans ?_;refine bif_nn.trans ?_;refine(aJ (show i<b.length by omega)).trans ?_;exact fin
    ·show c37_4 (aK p n) aA a b rec (a.length:Int)=_
     unfold c37_4;refine(aI (Int.lt_irrefl _)).trans ?_;rfl
   obtain⟨N,hN⟩:=lp.all_i
   exact⟨N,λaA hf _=>hN aA hf ()⟩
 obtain⟨N,hN⟩:=lp
 refine⟨N,λaA hf=>?_⟩
 show T37 (aK p n) aA a b=oB (jX a b)
 unfold T37 jX;refine eU λh=>?_;exact hN aA hf h
theorem f14(a b:aH)(ha:SzS a):Ran p 2 14 [.val true ⟨K34,a⟩,.val true ⟨K34,b⟩] ⟨[⟨K4,(fB a b,())⟩],[]⟩:=go14 λn hn=>Ev.now λaA=>by
 rw[<- E0]
 show T14 (aK p n) aA a b=oB (fC a.1 b.1&&jX a.2.1 b.2.1)
 unfold T14;refine(aB (f36 a.1 b.1 (aQ ha.a) n (by omega))).trans ?_;refine fH λ_=>?_;refine(aB (f37 a.2.1 b.2.1 (aQ ha.b) n (by omega))).trans ?_;rfl
theorem f93(a b:aH)(ha:SzS a)(hb':SzS b):Ran p 5 93 [.val true ⟨K34,a⟩,.val true ⟨K34,b⟩] ⟨[⟨K4,(jZ a b,())⟩],[]⟩:=go93 λn hn=>Ev.now λaA=>by
 show T93 (aK p n) aA a b=oB (jZ a b)
 unfold T93 jZ;refine(aB (f25 a (aQ ha.a) (aQ ha.b) n (by omega))).trans ?_;refine fH λh1=>?_;refine(aB (f25 b (aQ hb'.a) (aQ hb'.b) n (by omega))).trans ?_;refine fH λh2=>?_;refine(aB (f32 a b ha hb' ((aS a).1 h1).pos ((aS b).1 h2).pos n (by omega))).trans ?_;refine(aB (f9 (cL a b) b (iR a b) n (by omega))).trans ?_;rfl
theorem f13(a b:aH)(ha:SzS a)(hb':SzS b):Ran p 7 13 [.val true ⟨K34,a⟩,.val true ⟨K34,b⟩] ⟨[⟨K4,(jZ a b,())⟩],[]⟩:=go13 λn hn=>Ev.now λaA=>by
 show T13 (aK p n) aA a b=oB (jZ a b)
 unfold T13 jZ;refine(bA (f12 a b ha hb' n (by omega))).trans ?_
 cases aP a with
 | false=>rfl
 | true=>cases aP b with
  | false=>rfl
  | true=>refine(aL rfl).trans ?_;refine(aB (f14 (cL a b) b (iR a b) n (by omega))).trans ?_;rfl
theorem f149(s:aH)(id:Int)(hz:SzS s):Ran p 4 149 [.val true ⟨K34,s⟩,.val false ⟨K3,(id,())⟩] ⟨[⟨K3,(gone s id,())⟩],[]⟩:=go149 λn hn=>Ev.now λaA=>by
 unfold T149 gone;refine(aB (f25 s (aQ hz.a) (aQ hz.b) n (by omega))).trans ?_
 cases hs:aP s with
 | false=>rfl
 | true=>
  refine(aF rfl).trans ?_;refine(bA (f62 s id (aQ hz.a) n (by omega))).trans ?_
  rcases qK ((aS s).1 hs).pos id with ⟨x,_,e⟩ | e<;>rw[e]
  ·refine(aF rfl).trans ?_;show(bif x.2.1==0 then _ else _)=(some (⟨[⟨K3,(bif true then(bif true then(bif x.2.1==0 then _ else _)else _)else _,())⟩],[]⟩:Out):Option Out)
   cases x.2.1==0<;>rfl
  ·refine(aL rfl).trans ?_;refine(aB (f54 s id (aQ hz.b) n (by omega))).trans ?_;rfl
theorem f181(s:aH)(id:Int)(hz:SzS s):Ran p 5 181 [.val true ⟨K34,s⟩,.val false ⟨K3,(id,())⟩] ⟨[⟨K69,(oQ s id).1⟩,⟨K4,((oQ s id).2,())⟩],[]⟩:=go181 λn hn=>Ev.now λaA=>by
 unfold T181;refine(aB (f49 s hz n (by omega))).trans ?_;refine(bA (f62 (iL s,[],()) id (aQ (u4 hz)) n (by omega))).trans ?_;rfl
theorem f15(w:a9)(hz:SzW w):Ran p 9 15 [.val true ⟨K28,w⟩] ⟨[⟨K34,kK w⟩],[]⟩:=go15 λn hn=>by
 cases hw:bM w with
 | false=>
  refine Ev.now λaA=>?_
  unfold T15 kK;refine(aB (f20 w hz n (by omega))).trans ?_;rw[hw];rfl
 | true=>
  have lp:It (λaA (_:Unit)=>c15_5 (aK p n) aA w) ((0:Int),([]:List bF),([]:List aU)) (λ_=>some ⟨[⟨K34,eG (bP w) w.2.2.1.length⟩],[]⟩):=by
   refine It.run (λi=>((i:Int),(eG (bP w) i).1,(eG (bP w) i).2.1)) w.2.2.1.length (λi hi aA u rec=>?_) (It.stop λaA u rec=>?_)
   ·have hb:=bV hi hz.said
    show c15_5 (aK p n) aA w rec ((i:Int),(eG (bP w) i).1,(eG (bP w) i).2.1)=_
    unfold c15_5;dsimp only;rw[aM hb];refine(aE (Int.ofNat_lt.2 hi)).trans ?_;refine bif_nn.trans ?_;refine(aJ hi).trans ?_;refine(aB (f31 (eG (bP w) i) (bP w i) (vQ _ i) (hz.part i hi) n (by omega))).trans ?_;rfl
   ·show c15_5 (aK p n) aA w rec ((w.2.2.1.length:Int),(eG (bP w) w.2.2.1.length).1,(eG (bP w) w.2.2.1.length).2.1)=_
    unfold c15_5;refine(aI (Int.lt_irrefl _)).trans ?_;rfl
  have e:kK w=eG (bP w) w.2.2.1.length:=by unfold kK;rw[hw];rfl
  rw[e]
  exact Ev.eq (λaA=>by unfold T15;refine(aB (f20 w hz n (by omega))).trans ?_;rw[hw];rfl) (lp.ev (i:=()) rfl)
theorem f50(w:a9)(ls:List aO)(hz:SzW w)(hl:ls.length<=aW):Ran p 9 50 [.val true ⟨K28,w⟩,.val false ⟨K44,(ls,())⟩] ⟨[⟨K34,eM w ls⟩],[]⟩:=go50 λn hn=>by
 cases hw:bM w with
 | false=>
  refine Ev.now λaA=>?_
  unfold T50 eM;refine(aB (f11 w hz n (by omega))).trans ?_;rw[hw];rfl
 | true=>
  have lp:It (λaA (_:Unit)=>c50_5 (aK p n) aA w ls) ((0:Int),([]:List bF),([]:List aU)) (λ_=>some ⟨[⟨K34,cM w ls ls.length⟩],[]⟩):=by
   refine It.run (λi=>((i:Int),(cM w ls i).1,(cM w ls i).2.1)) ls.length (λi hi aA u rec=>?_) (It.stop λaA u rec=>?_)
   ·have hb:=bV hi hl
    have hwl:w.2.2.1.length<=1048576:=hz.said
    show c50_5 (aK p n) aA w ls rec ((i:Int),(cM w ls i).1,(cM w ls i).2.1)=rec (((i+1:Nat):Int),(cM w ls (i+1)).1,(cM w ls (i+1)).2.1)
    have hs:cM w ls (i+1)=bif inB (gt ls i).1 0 (i64.wrap ((w.2.2.1.length:Int) - 1))then cL (cM w ls i) (bP w (gt ls i).1.toNat)else cM w ls i:=rfl
    rw[hs]
    unfold c50_5;dsimp only;rw[aM hb];refine(aE (Int.ofNat_lt.2 hi)).trans ?_;refine bif_nn.trans ?_;refine(aJ hi).trans ?_;refine(aB (f33 (gt ls i).1 0 (i64.wrap ((w.2.2.1.length:Int) - 1)) n (by omega))).trans ?_
    cases hx:inB (gt ls i).1 0 (i64.wrap ((w.2.2.1.length:Int) - 1))with
    | false=>rfl
    | true=>
     rw[aV,u3 (by omega) (by omega)] at hx
     obtain⟨k,hk'⟩:∃ k:Nat,(gt ls i).1=(k:Int):=⟨(gt ls i).1.toNat,by omega⟩
     have hk:k<w.2.2.1.length:=by omega
     refine(aL rfl).trans ?_;refine bif_nn.trans ?_;refine(aJ hi).trans ?_;show(bif decide (0<=(gt ls i).1)then((at? w.2.2.1 ((gt ls i).1).toNat).bind _)else none)=_
     rw[hk',Int.toNat_natCast];refine bif_nn.trans ?_;refine(aJ hk).trans ?_;refine(aB (f32 (cM w ls i) (bP w k) (lX w ls i).1 (hz.part k hk) (lX w ls i).2 ((aS _).1 (nY hw hk)).pos n (by omega))).trans ?_;rfl
   ·show c50_5 (aK p n) aA w ls rec ((ls.length:Int),(cM w ls ls.length).1,(cM w ls ls.length).2.1)=_
    unfold c50_5;refine(aI (Int.lt_irrefl _)).trans ?_;rfl
  have e:eM w ls=cM w ls ls.length:=by unfold eM;rw[hw];rfl
  rw[e]
  exact Ev.eq (λaA=>by unfold T50;refine(aB (f11 w hz n (by omega))).trans ?_;rw[hw];rfl) (lp.ev (i:=()) rfl)
theorem f27(w:a9)(ls:List aO)(hz:SzW w)(hl:ls.length<=aW):Ran p 9 27 [.val true ⟨K28,w⟩,.val false ⟨K44,(ls,())⟩] ⟨[⟨K34,eM w ls⟩],[]⟩:=go27 λn hn=>by
 cases hw:bM w with
 | false=>
  refine Ev.now λaA=>?_
  unfold T27 eM;refine(aB (f20 w hz n (by omega))).trans ?_;rw[hw];rfl
 | true=>
  have lp:It (λaA (_:Unit)=>c27_5 (aK p n) aA w ls) ((0:Int),([]:List bF),([]:List aU)) (λ_=>some ⟨[⟨K34,cM w ls ls.length⟩],[]⟩):=by
   refine It.run (λi=>((i:Int),(cM w ls i).1,(cM w ls i).2.1)) ls.length (λi hi aA u rec=>?_) (It.stop λaA u rec=>?_)
   ·have hb:=bV hi hl
    have hwl:w.2.2.1.length<=1048576:=hz.said
    show c27_5 (aK p n) aA w ls rec ((i:Int),(cM w ls i).1,(cM w ls i).2.1)=rec (((i+1:Nat):Int),(cM w ls (i+1)).1,(cM w ls (i+1)).2.1)
    have hs:cM w ls (i+1)=bif inB (gt ls i).1 0 (i64.wrap ((w.2.2.1.length:Int) - 1))then cL (cM w ls i) (bP w (gt ls i).1.toNat)else cM w ls i:=rfl
    rw[hs]
    unfold c27_5;dsimp only;rw[aM hb];refine(aE (Int.ofNat_lt.2 hi)).trans ?_;refine bif_nn.trans ?_;refine(aJ hi).trans ?_;refine(aB (f43 (gt ls i).1 0 (i64.wrap ((w.2.2.1.length:Int) - 1)) n (by omega))).trans ?_
    cases hx:inB (gt ls i).1 0 (i64.wrap ((w.2.2.1.length:Int) - 1))with
    | false=>rfl
    | true=>
     rw[aV,u3 (by omega) (by omega)] at hx
     obtain⟨k,hk'⟩:∃ k:Nat,(gt ls i).1=(k:Int):=⟨(gt ls i).1.toNat,by omega⟩
     have hk:k<w.2.2.1.length:=by omega
     refine(aL rfl).trans ?_;show(bif decide (0<=(gt ls i).1)then((at? w.2.2.1 ((gt ls i).1).toNat).bind _)else none)=_
     rw[hk',Int.toNat_natCast];refine bif_nn.trans ?_;refine(aJ hk).trans ?_;refine(aB (f31 (cM w ls i) (bP w k) (lX w ls i).1 (hz.part k hk) n (by omega))).trans ?_;rfl
   ·show c27_5 (aK p n) aA w ls rec ((ls.length:Int),(cM w ls ls.length).1,(cM w ls ls.length).2.1)=_
    unfold c27_5;refine(aI (Int.lt_irrefl _)).trans ?_;rfl
  have e:eM w ls=cM w ls ls.length:=by unfold eM;rw[hw];rfl
  rw[e]
  exact Ev.eq (λaA=>by unfold T27;refine(aB (f20 w hz n (by omega))).trans ?_;rw[hw];rfl) (lp.ev (i:=()) rfl)
theorem f51(w:a9)(s:aH)(hz:SzW w)(hs:SzS s):Ran p 9 51 [.val true ⟨K28,w⟩,.val true ⟨K34,s⟩] ⟨[⟨K44,(bH w s,())⟩],[]⟩:=go51 λn hn=>by
 cases hw:bM w with
 | false=>
  refine Ev.now λaA=>?_
  unfold T51 bH;refine(aB (f11 w hz n (by omega))).trans ?_;rw[hw];rfl
 | true=>cases ho:aP s with
  | false=>
   refine Ev.now λaA=>?_
   unfold T51 bH;refine(aB (f11 w hz n (by omega))).trans ?_;rw[hw];refine(aF rfl).trans ?_;refine(aB (f25 s (aQ hs.a) (aQ hs.b) n (by omega))).trans ?_;rw[ho];rfl
  | true=>
   have lp:It (λaA (_:Unit)=>c51_5 (aK p n) aA w s) ((0:Int),([]:List aO)) (λ_=>some ⟨[⟨K44,(bL w.2.2.1.length (λi=>bif jZ (bP w i) s then[((i:Int),())] else[]),())⟩],[]⟩):=by
    refine It.accu (α:=aO) [] (λi=>bif jZ (bP w i) s then[((i:Int),())] else[]) w.2.2.1.length 1 (λi hi=>by cases jZ (bP w i) s<;>simp) (λi hi acc ha aA u rec=>?_) (It.stop λaA u rec=>?_)
    ·have hb:=bV hi hz.said
     have hl:w.2.2.1.length<=1048576:=hz.said
     show c51_5 (aK p n) aA w s rec ((i:Int),acc)=_
     unfold c51_5;dsimp only;rw[aM hb];refine(aE (Int.ofNat_lt.2 hi)).trans ?_;refine bif_nn.trans ?_;refine(aJ hi).trans ?_;refine(aB (f93 (bP w i) s (hz.part i hi) hs n (by omega))).trans ?_
     cases hq:jZ (bP w i) s with
     | false=>refine(aF rfl).trans ?_;exact(congrArg (λl:List aO=>rec (((i+1:Nat):Int),l)) (List.append_nil acc).symm:_)
     | true=>refine(aL rfl).trans ?_;refine(aE (by rw[hq] at ha;have:acc.length+1<=0+w.2.2.1.length*1:=ha;show acc.length+1<=4294967296;omega)).trans ?_;rfl
    ·show c51_5 (aK p n) aA w s rec ((w.2.2.1.length:Int),bL (α:=aO) w.2.2.1.length (λi=>bif jZ (bP w i) s then[((i:Int),())] else[]))=_
     unfold c51_5;refine(aI (Int.lt_irrefl _)).trans ?_;rfl
   have e:bH w s=bL w.2.2.1.length (λi=>bif jZ (bP w i) s then[((i:Int),())] else[]):=by unfold bH;rw[hw,ho];rfl
   rw[e]
   exact Ev.eq (λaA=>by unfold T51;refine(aB (f11 w hz n (by omega))).trans ?_;rw[hw];refine(aF rfl).trans ?_;refine(aB (f25 s (aQ hs.a) (aQ hs.b) n (by omega))).trans ?_;rw[ho];rfl) (lp.ev (i:=()) rfl)
theorem f26(w:a9)(s:aH)(hz:SzW w)(hs:SzS s):Ran p 9 26 [.val true ⟨K28,w⟩,.val true ⟨K34,s⟩] ⟨[⟨K44,(bH w s,())⟩],[]⟩:=go26 λn hn=>by
 cases hw:bM w with
 | false=>
  refine Ev.now λaA=>?_
  unfold T26 bH;refine(aB (f20 w hz n (by omega))).trans ?_;rw[hw];rfl
 | true=>cases ho:aP s with
  | false=>
   refine Ev.now λaA=>?_
   unfold T26 bH;refine(aB (f20 w hz n (by omega))).trans ?_;rw[hw];refine(aF rfl).trans ?_;refine(aB (f35 s (aQ hs.a) (aQ hs.b) n (by omega))).trans ?_;rw[ho];rfl
  | true=>
   have lp:It (λaA (_:Unit)=>c26_5 (aK p n) aA w s) ((0:Int),([]:List aO)) (λ_=>some ⟨[⟨K44,(bL w.2.2.1.length (λi=>bif jZ (bP w i) s then[((i:Int),())] else[]),())⟩],[]⟩):=by
    refine It.accu (α:=aO) [] (λi=>bif jZ (bP w i) s then[((i:Int),())] else[]) w.2.2.1.length 1 (λi hi=>by cases jZ (bP w i) s<;>simp) (λi hi acc ha aA u rec=>?_) (It.stop λaA u rec=>?_)
    ·have hb:=bV hi hz.said
     have hl:w.2.2.1.length<=1048576:=hz.said
     show c26_5 (aK p n) aA w s rec ((i:Int),acc)=_
     unfold c26_5;dsimp only;rw[aM hb];refine(aE (Int.ofNat_lt.2 hi)).trans ?_;refine bif_nn.trans ?_;refine(aJ hi).trans ?_;refine(aB (f13 (bP w i) s (hz.part i hi) hs n (by omega))).trans ?_
     cases hq:jZ (bP w i) s with
     | false=>refine(aF rfl).trans ?_;exact(congrArg (λl:List aO=>rec (((i+1:Nat):Int),l)) (List.append_nil acc).symm:_)
     | true=>refine(aL rfl).trans ?_;refine(aE (by rw[hq] at ha;have:acc.length+1<=0+w.2.2.1.length*1:=ha;show acc.length+1<=4294967296;omega)).trans ?_;rfl
    ·show c26_5 (aK p n) aA w s rec ((w.2.2.1.length:Int),bL (α:=aO) w.2.2.1.length (λi=>bif jZ (bP w i) s then[((i:Int),())] else[]))=_
     unfold c26_5;refine(aI (Int.lt_irrefl _)).trans ?_;rfl
   have e:bH w s=bL w.2.2.1.length (λi=>bif jZ (bP w i) s then[((i:Int),())] else[]):=by unfold bH;rw[hw,ho];rfl
   rw[e]
   exact Ev.eq (λaA=>by unfold T26;refine(aB (f20 w hz n (by omega))).trans ?_;rw[hw];refine(aF rfl).trans ?_;refine(aB (f35 s (aQ hs.a) (aQ hs.b) n (by omega))).trans ?_;rw[ho];rfl) (lp.ev (i:=()) rfl)
theorem f23(w:a9)(s:aH)(hz:SzW w)(hs:SzS s):Ran p 10 23 [.val true ⟨K28,w⟩,.val true ⟨K34,s⟩] ⟨[⟨K4,(eR w s,())⟩],[]⟩:=go23 λn hn=>Ev.now λaA=>by
 show T23 (aK p n) aA w s=oB (eR w s)
 unfold T23 eR;refine(aB (f11 w hz n (by omega))).trans ?_;refine fH λ_=>?_;refine(aB (f25 s (aQ hs.a) (aQ hs.b) n (by omega))).trans ?_;refine fH λ_=>?_;refine(aB (f49 s hs n (by omega))).trans ?_;refine(aB (f51 w s hz hs n (by omega))).trans ?_;refine(aB (f50 w (bH w s) hz (qR w s hz.said) n (by omega))).trans ?_;refine(aB (f49 (eM w (bH w s)) (vP _ _) n (by omega))).trans ?_;refine(aB (f48 (iL s) (iL (eM w (bH w s))) (u4 hs) n (by omega))).trans ?_;rfl
theorem f22(w:a9)(s:aH)(hz:SzW w)(hs:SzS s):Ran p 10 22 [.val true ⟨K28,w⟩,.val true ⟨K34,s⟩] ⟨[⟨K4,(eR w s,())⟩],[]⟩:=go22 λn hn=>Ev.now λaA=>by
 show T22 (aK p n) aA w s=oB (eR w s)
 unfold T22 eR;refine(aB (f20 w hz n (by omega))).trans ?_;refine fH λ_=>?_;refine(aB (f35 s (aQ hs.a) (aQ hs.b) n (by omega))).trans ?_;refine fH λ_=>?_;refine(aB (f26 w s hz hs n (by omega))).trans ?_;refine(aB (f27 w (bH w s) hz (qR w s hz.said) n (by omega))).trans ?_;refine(aB (f47 s (eM w (bH w s)) hs (vP _ _) n (by omega))).trans ?_;rfl
end Go.Abs.Wz
namespace Go.Abs.Wz
open Go Go.Abs
end Go.Abs.Wz
namespace Go.Abs.Wz
open Go Go.Abs
theorem f24(w:a9)(hz:SzW w):Ran p 9 24 [.val true ⟨K28,w⟩] ⟨[⟨K34,kK w⟩],[]⟩:=go24 λn hn=>by
 cases hw:bM w with
 | false=>
  refine Ev.now λaA=>?_
  unfold T24 kK;refine(aB (f11 w hz n (by omega))).trans ?_;rw[hw];rfl
 | true=>
  have lp:It (λaA (_:Unit)=>c24_5 (aK p n) aA w) ((0:Int),([]:List bF),([]:List aU)) (λ_=>some ⟨[⟨K34,eG (bP w) w.2.2.1.length⟩],[]⟩):=by
   refine It.run (λi=>((i:Int),(eG (bP w) i).1,(eG (bP w) i).2.1)) w.2.2.1.length (λi hi aA u rec=>?_) (It.stop λaA u rec=>?_)
   ·have hb:=bV hi hz.said
    show c24_5 (aK p n) aA w rec ((i:Int),(eG (bP w) i).1,(eG (bP w) i).2.1)=_
    unfold c24_5;dsimp only;rw[aM hb];refine(aE (Int.ofNat_lt.2 hi)).trans ?_;refine bif_nn.trans ?_;refine(aJ hi).trans ?_;refine(aB (f32 (eG (bP w) i) (bP w i) (vQ _ i) (hz.part i hi) (z5 _ i) ((aS _).1 (nY hw hi)).pos n (by omega))).trans ?_;rfl
   ·show c24_5 (aK p n) aA w rec ((w.2.2.1.length:Int),(eG (bP w) w.2.2.1.length).1,(eG (bP w) w.2.2.1.length).2.1)=_
    unfold c24_5;refine(aI (Int.lt_irrefl _)).trans ?_;rfl
  have e:kK w=eG (bP w) w.2.2.1.length:=by unfold kK;rw[hw];rfl
  rw[e]
  exact Ev.eq (λaA=>by unfold T24;refine(aB (f11 w hz n (by omega))).trans ?_;rw[hw];rfl) (lp.ev (i:=()) rfl)
theorem O3(xs:List bF):cnT (.sl K71) xs=6*(xs.length:Int):=jV (c:=cnR K71) (n:=6) (λx=>rfl) xs
theorem L8(xs:List aU):cnT (.sl K73) xs=2*(xs.length:Int):=jV (c:=cnR K73) (n:=2) (λx=>rfl) xs
theorem yB(xs:List aO):cnT (.sl K3) xs=1*(xs.length:Int):=jV (c:=cnR K3) (n:=1) (λx=>rfl) xs
end Go.Abs.Wz
