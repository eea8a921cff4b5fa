/- What the functions of this program answer, part gn. -/
import Derived.Test.YtohahjehdododaaGreatXep
import Derived.Test.YtohahjehdododaaGreatW3
import Derived.Test.YtohahjehdododaaGreatW2
import Derived.Test.YtohahjehdododaaGreatXa
set_option linter.unusedVariables false
open Go.IntKind (i64)
namespace Go.Abs.Wz
open Go Go.Abs
theorem SE{α:Type}{a b:Bool}{F R:α}:(bif a then(bif !b then F else R)else F)=bif a&&b then R else F:=by cases a<;>cases b<;>rfl
theorem two{α:Type}{a b:Bool}{X R:α}:(bif a then(bif b then X else R)else R)=bif a&&b then X else R:=by cases a<;>cases b<;>rfl
theorem aZ{k:Nat}(h:k<=aW):k<=maxLen:=Nat.le_trans h (by decide)
theorem cB{i k:Nat}(hi:i<k)(h:k<=aW):i<9223372036854775807:=Nat.lt_of_lt_of_le hi (Nat.le_trans h (by decide))

theorem f66(l:gR)(hl:l.2.2.1.length<=aW)(hs:∀ i,i<l.2.2.1.length->SzS (gt l.2.2.1 i)):Ran p 4 66 [va K49 l] (rO K4 (gL l,())):=go66 λn hn=>by
 have lp:It (λaA (_:Unit)=>c66_4 (aK p n) aA l) (0:Int) (λ_=>oB (bR l.2.2.1.length λi=>aP (gt l.2.2.1 i))):=by
  refine cN (It.allB l.2.2.1.length _ true (λi hi aA a rec=>?_) (It.stop λaA a rec=>?_))
  ·have hb:=cB hi hl
   show c66_4 (aK p n) aA l rec (i:Int)=_
   unfold c66_4;rw[aM hb];refine(aE (Int.ofNat_lt.2 hi)).trans ?_;refine bif_nn.trans ?_;refine(aJ hi).trans ?_;refine(aB (f25 (gt l.2.2.1 i) (aZ (hs i hi).a) (aZ (hs i hi).b) n (by omega))).trans ?_;exact fin
  ·show c66_4 (aK p n) aA l rec (l.2.2.1.length:Int)=_
   unfold c66_4;refine(aI (Int.lt_irrefl _)).trans ?_;rfl
 obtain⟨N,hN⟩:=lp.all_i
 refine⟨N,λaA hf=>?_⟩
 show T66 (aK p n) aA l=oB (gL l)
 unfold T66 gL;refine(aB (f33 l.1 1 8 n (by omega))).trans ?_;refine eQ λ_=>?_;refine uX λ_=>?_;refine(aB (f33 l.2.1 0 100000 n (by omega))).trans ?_;refine eQ λ_=>?_;refine uX λ_=>?_;exact hN aA hf ()
theorem f84(l:gR)(hl:l.2.2.1.length<=aW)(hs:∀ i,i<l.2.2.1.length->SzS (gt l.2.2.1 i)):Ran p 4 84 [va K49 l] (rO K4 (gL l,())):=go84 λn hn=>by
 have lp:It (λaA (_:Unit)=>c84_2 (aK p n) aA l) (0:Int) (λ_=>oB (HS l)):=by
  refine It.allB l.2.2.1.length _ _ (λi hi aA a rec=>?_) (It.stop λaA a rec=>?_)
  ·have hb:=cB hi hl
   show c84_2 (aK p n) aA l rec (i:Int)=_
   unfold c84_2;rw[aM hb];refine(aE (Int.ofNat_lt.2 hi)).trans ?_;refine bif_nn.trans ?_;refine(aJ hi).trans ?_;refine(aB (f35 (gt l.2.2.1 i) (aZ (hs i hi).a) (aZ (hs i hi).b) n (by omega))).trans ?_;exact fin
  ·show c84_2 (aK p n) aA l rec (l.2.2.1.length:Int)=_
   unfold c84_2;refine(aI (Int.lt_irrefl _)).trans ?_;refine(aB (f43 l.1 1 8 n (by omega))).trans ?_;refine hS λ_=>?_;refine hS λ_=>?_;refine(aB (f43 l.2.1 0 100000 n (by omega))).trans ?_;refine hS λ_=>?_;rfl
 rw[RV] at lp
 exact Ev.eq (λaA=>by unfold T84;rfl) (lp.ev (i:=()) rfl)
theorem f68(l:gR)(hl:l.2.2.1.length<=aW)(hs:∀ i,i<l.2.2.1.length->SzS (gt l.2.2.1 i)):Ran p 5 68 [va K49 l] (rO K3 (cE l,())):=go68 λn hn=>Ev.now λaA=>by
 unfold T68 cE;refine(aB (f66 l hl hs n (by omega))).trans ?_;cases gL l<;>rfl
theorem f83(l:gR)(hl:l.2.2.1.length<=aW)(hs:∀ i,i<l.2.2.1.length->SzS (gt l.2.2.1 i)):Ran p 5 83 [va K49 l] (rO K3 (cE l,())):=go83 λn hn=>Ev.now λaA=>by
 unfold T83 cE;refine(aB (f84 l hl hs n (by omega))).trans ?_;cases gL l<;>rfl
theorem f67(v:List aO)(m:Int)(hv:v.length<=aW):Ran p 2 67 [vf K44 (v,()), vf K3 (m,())] (rO K4 (eH v m,())):=go67 λn hn=>by
 have lp:∃ N,∀ aA,N<=aA->((v.length:Int)==m)=true->iter (c67_4 (aK p n) aA v m) aA (0:Int)=oB (bR v.length λi=>inB (gt v i).1 0 100000):=by
  cases he:(v.length:Int)==m with
  | false=>exact⟨0,λ_ _ h=>by cases h⟩
  | true=>
   have e:m=(v.length:Int):=(eq_of_beq he).symm
   subst e
   have lp:It (λaA (_:Unit)=>c67_4 (aK p n) aA v (v.length:Int)) (0:Int) (λ_=>oB (bR v.length λi=>inB (gt v i).1 0 100000)):=by
    refine cN (It.allB v.length _ true (λi hi aA a rec=>?_) (It.stop λaA a rec=>?_))
    ·have hb:=cB hi hv
     show c67_4 (aK p n) aA v (v.length:Int) rec (i:Int)=_
     unfold c67_4;rw[aM hb];refine(aE (Int.ofNat_lt.2 hi)).trans ?_;refine bif_nn.trans ?_;refine(aJ hi).trans ?_;refine(aB (f33 (gt v i).1 0 100000 n (by omega))).trans ?_;exact fin
    ·show c67_4 (aK p n) aA v (v.length:Int) rec (v.length:Int)=_
     unfold c67_4;refine(aI (Int.lt_irrefl _)).trans ?_;rfl
   obtain⟨N,hN⟩:=lp.all_i
   exact⟨N,λaA hf _=>hN aA hf ()⟩
 obtain⟨N,hN⟩:=lp
 refine⟨N,λaA hf=>?_⟩
 show T67 (aK p n) aA v m=oB (eH v m)
 unfold T67 eH;refine(aB (f33 m 1 5 n (by omega))).trans ?_;refine eQ λ_=>?_;refine eQ λh=>?_;exact hN aA hf h
theorem f85(v:List aO)(m:Int)(hv:v.length<=aW):Ran p 2 85 [vf K44 (v,()), vf K3 (m,())] (rO K4 (eH v m,())):=go85 λn hn=>by
 have lp:It (λaA (_:Unit)=>c85_2 (aK p n) aA v m) (0:Int) (λ_=>oB (GV v m)):=by
  refine It.allB v.length _ _ (λi hi aA a rec=>?_) (It.stop λaA a rec=>?_)
  ·have hb:=cB hi hv
   show c85_2 (aK p n) aA v m rec (i:Int)=_
   unfold c85_2;rw[aM hb];refine(aE (Int.ofNat_lt.2 hi)).trans ?_;refine bif_nn.trans ?_;refine(aJ hi).trans ?_;refine(aB (f43 (gt v i).1 0 100000 n (by omega))).trans ?_;exact fin
  ·show c85_2 (aK p n) aA v m rec (v.length:Int)=_
   unfold c85_2;refine(aI (Int.lt_irrefl _)).trans ?_;refine(aB (f43 m 1 5 n (by omega))).trans ?_;refine hS λ_=>?_;rfl
 rw[QL] at lp
 exact Ev.eq (λaA=>by unfold T85;rfl) (lp.ev (i:=()) rfl)
theorem f69(t:List bT)(m:Int)(hv:t.length<=aW)(hr:∀ k,k<t.length->(gt t k).1.length<=aW):Ran p 2 69 [vf K50 (t,()), vf K3 (m,())] (rO K4 (gJ t m,())):=go69 λn hn=>by
 have inner:∀ k,k<t.length->It (λaA rec4=>c69_9 (aK p n) aA t m (k:Int) rec4) (0:Int) (fun(rec4:Int->Option Out)=>bif(bR (gt t k).1.length λi=>inB (gt (gt t k).1 i).1 0 1000)then rec4 ((k+1:Nat):Int)else oB false):=by
  intro k hk
  have hkb:=cB hk hv
  refine It.all (λi=>(i:Int)) (gt t k).1.length _ (rA:=fun(rec4:Int->Option Out)=>rec4 ((k+1:Nat):Int)) (rB:=λ_=>oB false) (λi hi aA rec4 rec=>?_) (It.stop λaA rec4 rec=>?_)
  ·have hb:=cB hi (hr k hk)
   show c69_9 (aK p n) aA t m (k:Int) rec4 rec (i:Int)=_
   unfold c69_9;rw[aM hb];refine bif_nn.trans ?_;refine(aJ hk).trans ?_;refine(aE (Int.ofNat_lt.2 hi)).trans ?_;refine bif_nn.trans ?_;refine(aJ hk).trans ?_;refine bif_nn.trans ?_;refine(aJ hi).trans ?_;refine(aB (f33 (gt (gt t k).1 i).1 0 1000 n (by omega))).trans ?_;exact fin
  ·show c69_9 (aK p n) aA t m (k:Int) rec4 rec (((gt t k).1.length:Nat):Int)=_
   unfold c69_9;rw[aM hkb];refine bif_nn.trans ?_;refine(aJ hk).trans ?_;refine(aI (Int.lt_irrefl _)).trans ?_;rfl
 have lp:∃ N,∀ aA,N<=aA->((t.length:Int)==m)=true->iter (c69_4 (aK p n) aA t m) aA (0:Int)=oB (bR t.length λk=>sV (gt t k)):=by
  cases he:(t.length:Int)==m with
  | false=>exact⟨0,λ_ _ h=>by cases h⟩
  | true=>
   have e:m=(t.length:Int):=(eq_of_beq he).symm
   subst e
   have lp:It (λaA (_:Unit)=>c69_4 (aK p n) aA t (t.length:Int)) (0:Int) (λ_=>oB (bR t.length λk=>sV (gt t k))):=by
    refine cN (It.allBE t.length _ true (λk hk=>?_) (It.stop λaA a rec=>?_))
    ·obtain⟨N,hN⟩:=(inner k hk).all_i
     refine⟨N,λaA hf a rec=>?_⟩
     show c69_4 (aK p n) aA t (t.length:Int) rec (k:Int)=_
     unfold c69_4 sV;refine(aE (Int.ofNat_lt.2 hk)).trans ?_;refine bif_nn.trans ?_;refine(aJ hk).trans ?_;refine chk λ_=>?_;exact hN aA hf rec
    ·show c69_4 (aK p n) aA t (t.length:Int) rec (t.length:Int)=_
     unfold c69_4;refine(aI (Int.lt_irrefl _)).trans ?_;rfl
   obtain⟨N,hN⟩:=lp.all_i
   exact⟨N,λaA hf _=>hN aA hf ()⟩
 obtain⟨N,hN⟩:=lp
 refine⟨N,λaA hf=>?_⟩
 show T69 (aK p n) aA t m=oB (gJ t m)
 unfold T69 gJ;refine(aB (f33 m 1 5 n (by omega))).trans ?_;refine eQ λ_=>?_;refine eQ λh=>?_;exact hN aA hf h
theorem f87(t:List bT)(m:Int)(hv:t.length<=aW)(hr:∀ k,k<t.length->(gt t k).1.length<=aW):Ran p 2 87 [vf K50 (t,()), vf K3 (m,())] (rO K4 (gJ t m,())):=go87 λn hn=>by
 have inner:∀ k,k<t.length->It (λaA rec2=>c87_5 (aK p n) aA t m (gt (α:=bT) t k) (k:Int) rec2) (0:Int) (fun(rec2:Int->Option Out)=>bif(bR (gt t k).1.length λi=>inB (gt (gt t k).1 i).1 0 1000)then(bif !(((gt t k).1.length:Nat):Int)==5 then oB false else rec2 ((k+1:Nat):Int))else oB false):=by
  intro k hk
  have hkb:=cB hk hv
  refine It.all (λi=>(i:Int)) (gt t k).1.length _ (rA:=fun(rec2:Int->Option Out)=>bif !(((gt t k).1.length:Nat):Int)==5 then oB false else rec2 ((k+1:Nat):Int)) (rB:=λ_=>oB false) (λi hi aA rec2 rec=>?_) (It.stop λaA rec2 rec=>?_)
  ·have hb:=cB hi (hr k hk)
   show c87_5 (aK p n) aA t m (gt (α:=bT) t k) (k:Int) rec2 rec (i:Int)=_
   unfold c87_5;rw[aM hb];refine(aE (Int.ofNat_lt.2 hi)).trans ?_;refine bif_nn.trans ?_;refine(aJ hi).trans ?_;refine(aB (f43 (gt (gt t k).1 i).1 0 1000 n (by omega))).trans ?_;exact fin
  ·show c87_5 (aK p n) aA t m (gt (α:=bT) t k) (k:Int) rec2 rec (((gt t k).1.length:Nat):Int)=_
   unfold c87_5;rw[aM hkb];refine(aI (Int.lt_irrefl _)).trans ?_;rfl
 have lp:It (λaA (_:Unit)=>c87_2 (aK p n) aA t m) (0:Int) (λ_=>oB (yQ t m)):=by
  refine It.allBE t.length _ _ (λk hk=>?_) (It.stop λaA a rec=>?_)
  ·obtain⟨N,hN⟩:=(inner k hk).all_i
   refine⟨N,λaA hf a rec=>?_⟩
   show c87_2 (aK p n) aA t m rec (k:Int)=_
   unfold c87_2 yA;refine(aE (Int.ofNat_lt.2 hk)).trans ?_;refine bif_nn.trans ?_;refine(aJ hk).trans ?_;exact(hN aA hf rec).trans SE
  ·show c87_2 (aK p n) aA t m rec (t.length:Int)=_
   unfold c87_2;refine(aI (Int.lt_irrefl _)).trans ?_;refine(aB (f43 m 1 5 n (by omega))).trans ?_;refine hS λ_=>?_;rfl
 rw[KJ] at lp
 exact Ev.eq (λaA=>by unfold T87;rfl) (lp.ev (i:=()) rfl)
theorem f86(v:List aO)(hv:v.length<=aW)(h0:0<v.length):Ran p 1 86 [vf K44 (v,())] (rO K3 (LM v,())):=go86 λn hn=>by
 obtain⟨k,hk⟩:∃ k,v.length=k+1:=⟨v.length - 1,by omega⟩
 have em:LM v=uF v k:=by unfold LM;rw[hk];rfl
 rw[em]
 have lp:It (λaA (_:Unit)=>c86_5 (aK p n) aA v) ((gt (α:=aO) v 0).1,(1:Int)) (λ_=>oI (uF v k)):=by
  refine It.run (λj=>(uF v j,((j+1:Nat):Int))) k (λj hj aA a rec=>?_) (It.stop λaA a rec=>?_)
  ·have hj1:j+1<v.length:=by omega
   have hb:=cB hj1 hv
   show c86_5 (aK p n) aA v rec (uF v j,((j+1:Nat):Int))=_
   unfold c86_5;dsimp only;rw[aM hb];refine(aE (Int.ofNat_lt.2 hj1)).trans ?_;refine bif_nn.trans ?_;refine(aJ hj1).trans ?_;rfl
  ·show c86_5 (aK p n) aA v rec (uF v k,((k+1:Nat):Int))=_
   unfold c86_5;rw[<- hk];refine(aI (Int.lt_irrefl _)).trans ?_;rfl
 refine Ev.eq (λaA=>?_) (lp.ev (i:=()) rfl)
 unfold T86;refine(aI (by show ¬ ((v.length:Int)<1);omega)).trans ?_;refine(aE (by decide)).trans ?_;exact(aJ (α:=aO) (xs:=v) (i:=0) h0)
theorem f115(nd:NodeT)(x:Int):Ran p 2 115 [va K54 nd, vf K3 (x,())] (rO K4 (mH nd x,())):=go115 λn hn=>Ev.now λaA=>by
 unfold T115 mH;refine(aB (f43 x 0 (i64.wrap (nd.2.1 - 1)) n (by omega))).trans ?_;refine hS λ_=>?_;rfl
theorem f116(nd:NodeT)(x:Int)(b:Bool)(hv:nd.sess.length<=aW):Ran p 1 116 [va K54 nd, vf K3 (x,()), vf K4 (b,())] (rO K3 (c8 nd.sess x b,())):=go116 λn hn=>by
 have lp:It (λaA (_:Unit)=>c116_2 (aK p n) aA nd x b) (0:Int) (λ_=>oI (c8 nd.sess x b)):=by
  have:=It.first (c:=λaA (_:Unit)=>c116_2 (aK p n) aA nd x b) (λi=>(i:Int)) nd.sess.length (λi=>dN nd.sess i x b) (λi _=>oI (i:Int)) (λ_=>oI (-1)) (λi hi hp aA a rec=>?_) (λi hi hp=>It.stop λaA a rec=>?_) (It.stop λaA a rec=>?_)
  ·revert this;unfold c8
   cases (List.range nd.sess.length).find? (λi=>dN nd.sess i x b)<;>exact λh=>h
  ·have hb:=cB hi hv
   show c116_2 (aK p n) aA nd x b rec (i:Int)=_
   unfold c116_2;rw[aM hb];refine(aE (Int.ofNat_lt.2 hi)).trans ?_;refine bif_nn.trans ?_;refine(aJ hi).trans ?_;exact two.trans (aF hp)
  ·show c116_2 (aK p n) aA nd x b rec (i:Int)=_
   unfold c116_2;refine(aE (Int.ofNat_lt.2 hi)).trans ?_;refine bif_nn.trans ?_;refine(aJ hi).trans ?_;exact two.trans (aL hp)
  ·show c116_2 (aK p n) aA nd x b rec (nd.sess.length:Int)=_
   unfold c116_2;refine(aI (Int.lt_irrefl _)).trans ?_;rfl
 exact Ev.eq (λaA=>by unfold T116;rfl) (lp.ev (i:=()) rfl)
theorem f88(nd:NodeT)(hv:nd.sess.length<=aW):Ran p 3 88 [va K54 nd] (rO K4 (tQ nd,())):=go88 λn hn=>by
 have lp:It (λaA (_:Unit)=>c88_2 (aK p n) aA nd) (0:Int) (λ_=>oB (tQ nd)):=by
  refine It.allB nd.sess.length _ _ (λi hi aA a rec=>?_) (It.stop λaA a rec=>?_)
  ·have hb:=cB hi hv
   show c88_2 (aK p n) aA nd rec (i:Int)=_
   unfold c88_2 qV;rw[aM hb];refine(aE (Int.ofNat_lt.2 hi)).trans ?_;refine bif_nn.trans ?_;refine(aJ hi).trans ?_;refine(aB (f115 nd (gt nd.sess i).1 n (by omega))).trans ?_;refine chk λ_=>?_;refine(aB (f43 (gt nd.sess i).2.1 0 100000 n (by omega))).trans ?_;refine chk λ_=>?_;refine(aB (f43 (gt nd.sess i).2.2.2.1 0 nd.wait n (by omega))).trans ?_;refine chk λ_=>?_;refine(aB (f116 nd (gt nd.sess i).1 (gt nd.sess i).2.2.1 hv n (by omega))).trans ?_;exact fin
  ·show c88_2 (aK p n) aA nd rec (nd.sess.length:Int)=_
   unfold c88_2;refine(aI (Int.lt_irrefl _)).trans ?_;refine(aB (f43 nd.slots 1 4 n (by omega))).trans ?_;refine hS λ_=>?_;rfl
 exact Ev.eq (λaA=>by unfold T88;rfl) (lp.ev (i:=()) rfl)
theorem f89(nd:NodeT)(hv:nd.rises.length<=aW):Ran p 2 89 [va K54 nd] (rO K4 (tU nd,())):=go89 λn hn=>by
 have lp:It (λaA (_:Unit)=>c89_2 (aK p n) aA nd) (0:Int) (λ_=>oB (tU nd)):=by
  refine It.allB nd.rises.length _ _ (λi hi aA a rec=>?_) (It.stop λaA a rec=>?_)
  ·have hb:=cB hi hv
   show c89_2 (aK p n) aA nd rec (i:Int)=_
   unfold c89_2 kA;rw[aM hb];refine(aE (Int.ofNat_lt.2 hi)).trans ?_;refine bif_nn.trans ?_;refine(aJ hi).trans ?_;refine(aB (f43 (gt nd.rises i).1 0 1000 n (by omega))).trans ?_;refine chk λ_=>?_;refine(aB (f43 (gt nd.rises i).2.1 0 100000 n (by omega))).trans ?_;refine chk λ_=>?_;refine(aB (f43 (gt nd.rises i).2.2.1 0 nd.clock n (by omega))).trans ?_;exact fin
  ·show c89_2 (aK p n) aA nd rec (nd.rises.length:Int)=_
   unfold c89_2;refine(aI (Int.lt_irrefl _)).trans ?_;rfl
 exact Ev.eq (λaA=>by unfold T89;rfl) (lp.ev (i:=()) rfl)
theorem f70(nd:NodeT)(hv:nd.sess.length<=aW):Ran p 2 70 [va K54 nd] (rO K4 (lL nd,())):=go70 λn hn=>by
 have inner:∀ (o3 o4:Rows [K4]×Rows []) (i:Nat),i<nd.sess.length->It (λaA rec4=>c70_10 (aK p n) aA nd o3 o4 (gt (α:=eF) nd.sess i) (i:Int) rec4) (0:Int) (fun(rec4:Int->Option Out)=>bif B0 nd.sess i then rec4 ((i+1:Nat):Int)else oB false):=by
  intro o3 o4 i hi
  have hib:=cB hi hv
  refine It.all (λk=>(k:Int)) i (λk=> !dN nd.sess k (gt nd.sess i).1 (gt nd.sess i).2.2.1) (rA:=fun(rec4:Int->Option Out)=>rec4 ((i+1:Nat):Int)) (rB:=λ_=>oB false) (λk hk aA rec4 rec=>?_) (It.stop λaA rec4 rec=>?_)
  ·have hk':k<nd.sess.length:=by omega
   have hb:=cB hk' hv
   show c70_10 (aK p n) aA nd o3 o4 (gt (α:=eF) nd.sess i) (i:Int) rec4 rec (k:Int)=_
   unfold c70_10 dN;rw[aM hb];refine(aE (Int.ofNat_lt.2 hk)).trans ?_;refine bif_nn.trans ?_;refine(aJ hk').trans ?_
   show(bif(gt nd.sess k).1==(gt nd.sess i).1 then _ else _)=bif !((gt nd.sess k).1==(gt nd.sess i).1&&_)then _ else _
   cases (gt nd.sess k).1==(gt nd.sess i).1 with
   | false=>rfl
   | true=>refine(aL rfl).trans ?_;refine bif_nn.trans ?_;refine(aJ hk').trans ?_;exact II
  ·show c70_10 (aK p n) aA nd o3 o4 (gt (α:=eF) nd.sess i) (i:Int) rec4 rec (i:Int)=_
   unfold c70_10;rw[aM hib];exact aI (Int.lt_irrefl _)
 have lp:It (λaA (_:Unit)=>c70_4 (aK p n) aA nd) (0:Int) (λ_=>oB (bR nd.sess.length (nB nd nd.sess))):=by
  refine cN (It.allBE nd.sess.length _ true (λi hi=>?_) (It.stop λaA a rec=>?_))
  ·obtain⟨N,hN⟩:=(inner (((inB (gt nd.sess i).2.1 0 100000,()),()),()) (((inB (gt nd.sess i).2.2.2.1 0 nd.wait,()),()),()) i hi).all_i
   refine⟨N,λaA hf a rec=>?_⟩
   show c70_4 (aK p n) aA nd rec (i:Int)=_
   unfold c70_4 nB;refine(aE (Int.ofNat_lt.2 hi)).trans ?_;refine bif_nn.trans ?_;refine(aJ hi).trans ?_;refine(aB (f33 (gt nd.sess i).1 0 (i64.wrap (nd.2.1 - 1)) n (by omega))).trans ?_;refine chk λ_=>?_;refine P1 λ_=>?_;refine(aB (f33 (gt nd.sess i).2.1 0 100000 n (by omega))).trans ?_;refine chk λ_=>?_;refine(aB (f33 (gt nd.sess i).2.2.2.1 0 nd.wait n (by omega))).trans ?_;refine chk λ_=>?_;exact hN aA hf rec
  ·show c70_4 (aK p n) aA nd rec (nd.sess.length:Int)=_
   unfold c70_4;refine(aI (Int.lt_irrefl _)).trans ?_;rfl
 obtain⟨N,hN⟩:=lp.all_i
 refine⟨N,λaA hf=>?_⟩
 show T70 (aK p n) aA nd=oB (lL nd)
 unfold T70 lL;refine uX λ_=>?_;exact hN aA hf ()
theorem SR{nd:NodeT}(h1:inB nd.2.1 1 5=true)(h2:inB nd.1 0 (i64.wrap (nd.2.1 - 1))=true)(h3:eH nd.got nd.2.1=true):∃ k:Nat,nd.1=(k:Int)/\k<nd.got.length:=by
 rw[aV] at h1 h2
 rw[u4 (by omega) (by omega)] at h2
 unfold eH at h3;simp only[Bool.and_eq_true,beq_iff_eq] at h3
 exact⟨nd.1.toNat,by omega,by omega⟩
theorem f44(nd:NodeT)(hz:SzN nd):Ran p 7 44 [va K54 nd] (rO K4 (dY nd,())):=go44 λn hn=>Ev.now λaA=>by
 rw[<- OD]
 show T44 (aK p n) aA nd=oB (xX nd)
 unfold T44 xX;refine(aB (f43 nd.2.1 1 5 n (by omega))).trans ?_;refine eQ λh1=>?_;refine(aB (f43 nd.1 0 (i64.wrap (nd.2.1 - 1)) n (by omega))).trans ?_;refine eQ λh2=>?_;refine(aB (f35 nd.state (aZ hz.state.a) (aZ hz.state.b) n (by omega))).trans ?_;refine eQ λ_=>?_;refine(aB (f82 nd.state hz.state n (by omega))).trans ?_;refine(aB (f81 nd.tree (cJ nd.state) (aZ hz.leaves) n (by omega))).trans ?_;refine eQ λ_=>?_
 refine(aB (f83 nd.log hz.list hz.logs n (by omega))).trans ?_;refine(aB (f84 nd.log hz.list hz.logs n (by omega))).trans ?_;refine eQ λ_=>?_;refine(aB (f85 nd.got nd.2.1 hz.got n (by omega))).trans ?_;refine eQ λh3=>?_;refine(aB (f85 nd.acked nd.2.1 hz.acked n (by omega))).trans ?_;refine eQ λh4=>?_
 obtain⟨k,hk,hlt⟩:=SR h1 h2 h3
 show(bif decide (0<=nd.1)then((at? nd.got (nd.1).toNat).bind _)else none)=_
 rw[hk];refine bif_nn.trans ?_;refine(aJ hlt).trans ?_;refine eQ λ_=>?_;refine(aB (f86 nd.acked hz.acked (BH h4) n (by omega))).trans ?_;refine uX λ_=>?_;refine(aB (f87 nd.seen nd.2.1 hz.seen hz.lines n (by omega))).trans ?_;refine eQ λ_=>?_;refine(aB (f43 nd.num 0 100000 n (by omega))).trans ?_;refine eQ λ_=>?_;refine(aB (f43 nd.clock 0 100000 n (by omega))).trans ?_;refine eQ λ_=>?_;refine(aB (f43 nd.wait 1 20 n (by omega))).trans ?_;refine hS λ_=>?_;refine(aB (f43 nd.limit 1 50 n (by omega))).trans ?_;refine hS λ_=>?_;refine(aB (f88 nd hz.sess n (by omega))).trans ?_;refine hS λ_=>?_;refine(aB (f89 nd hz.rises n (by omega))).trans ?_;rfl
theorem f34(nd:NodeT)(hz:SzN nd):Ran p 7 34 [va K54 nd] (rO K4 (dY nd,())):=go34 λn hn=>by
 have ri:∃ N,∀ aA,N<=aA->((nd.rises.length:Int)==5)=true->iter (c34_13 (aK p n) aA nd) aA (0:Int)=oB (bR nd.rises.length (kA nd)&&lL nd):=by
  cases he:(nd.rises.length:Int)==5 with
  | false=>exact⟨0,λ_ _ h=>by cases h⟩
  | true=>
   have e:nd.rises.length=5:=by have:=eq_of_beq he;omega
   have lp:It (λaA (_:Unit)=>c34_13 (aK p n) aA nd) (0:Int) (λ_=>oB (bR 5 (kA nd)&&lL nd)):=by
    refine It.allB 5 _ _ (λi hi aA a rec=>?_) (It.stop λaA a rec=>?_)
    ·have hb:i<9223372036854775807:=by omega
     have hi':i<nd.rises.length:=by omega
     show c34_13 (aK p n) aA nd rec (i:Int)=_
     unfold c34_13 kA;rw[aM hb];refine(aE (by show(i:Int)<5;omega)).trans ?_;refine bif_nn.trans ?_;refine(aJ hi').trans ?_;refine(aB (f33 (gt nd.rises i).1 0 1000 n (by omega))).trans ?_;refine chk λ_=>?_;refine(aB (f33 (gt nd.rises i).2.1 0 100000 n (by omega))).trans ?_;refine chk λ_=>?_;refine(aB (f33 (gt nd.rises i).2.2.1 0 nd.clock n (by omega))).trans ?_;exact fin
    ·show c34_13 (aK p n) aA nd rec (5:Int)=_
     unfold c34_13;refine(aI (by decide)).trans ?_;refine(aB (f70 nd hz.sess n (by omega))).trans ?_;rfl
   rw[e]
   obtain⟨N,hN⟩:=lp.all_i
   exact⟨N,λaA hf _=>hN aA hf ()⟩
 have ak:∃ N,∀ aA,N<=aA->eH nd.acked nd.2.1=true->iter (c34_6 (aK p n) aA nd) aA (0:Int)=oB (A5 nd&&lR nd):=by
  cases he:eH nd.acked nd.2.1 with
  | false=>exact⟨0,λ_ _ h=>by cases h⟩
  | true=>
   have e:nd.2.1=(nd.acked.length:Int):=by unfold eH at he;simp only[Bool.and_eq_true,beq_iff_eq] at he;omega
   obtain⟨M,hM⟩:=ri
   have lp:It (λaA (_:Unit)=>c34_6 (aK p n) aA nd) (0:Int) (λ_=>oB (A5 nd&&lR nd)):=by
    refine It.allB nd.acked.length _ _ (λi hi aA a rec=>?_) (It.stopE (T:=λaA _=>c34_6 (aK p n) aA nd (λ_=>none) (nd.acked.length:Int)) (λaA a rec=>?_) ⟨M,λaA hf a=>?_⟩)
    ·have hb:=cB hi hz.acked
     show c34_6 (aK p n) aA nd rec (i:Int)=_
     unfold c34_6;rw[aM hb];refine(aE (by show(i:Int)<nd.2.1;omega)).trans ?_;refine bif_nn.trans ?_;refine(aJ hi).trans ?_;refine(aB (f68 nd.log hz.list hz.logs n (by omega))).trans ?_;exact II
    ·show c34_6 (aK p n) aA nd rec (nd.acked.length:Int)=c34_6 (aK p n) aA nd (λ_=>none) (nd.acked.length:Int)
     unfold c34_6;refine(aI (by show ¬ ((nd.acked.length:Int)<nd.2.1);omega)).trans ?_;exact(aI (by show ¬ ((nd.acked.length:Int)<nd.2.1);omega)).symm
    ·show c34_6 (aK p n) aA nd (λ_=>none) (nd.acked.length:Int)=oB (lR nd)
     unfold c34_6 lR;refine(aI (by show ¬ ((nd.acked.length:Int)<nd.2.1);omega)).trans ?_
     refine(aB (f33 nd.num 0 100000 n (by omega))).trans ?_;refine eQ λ_=>?_;refine(aB (f33 nd.clock 0 100000 n (by omega))).trans ?_;refine eQ λ_=>?_;refine(aB (f33 nd.slots 1 4 n (by omega))).trans ?_;refine eQ λ_=>?_;refine(aB (f33 nd.wait 1 20 n (by omega))).trans ?_;refine eQ λ_=>?_;refine(aB (f33 nd.limit 1 50 n (by omega))).trans ?_;refine eQ λ_=>?_;refine eQ λh5=>?_;exact hM aA hf h5
   obtain⟨N,hN⟩:=lp.all_i
   exact⟨N,λaA hf _=>hN aA hf ()⟩
 obtain⟨N,hN⟩:=ak
 refine⟨N,λaA hf=>?_⟩
 show T34 (aK p n) aA nd=oB (dY nd)
 unfold T34 dY;refine(aB (f33 nd.2.1 1 5 n (by omega))).trans ?_;refine eQ λh1=>?_;refine(aB (f33 nd.1 0 (i64.wrap (nd.2.1 - 1)) n (by omega))).trans ?_;refine eQ λh2=>?_;refine(aB (f25 nd.state (aZ hz.state.a) (aZ hz.state.b) n (by omega))).trans ?_;refine eQ λ_=>?_;refine(aB (f65 nd.state hz.state n (by omega))).trans ?_;refine(aB (f64 nd.tree (cJ nd.state) (aZ hz.leaves) n (by omega))).trans ?_;refine eQ λ_=>?_
 refine(aB (f66 nd.log hz.list hz.logs n (by omega))).trans ?_;refine eQ λ_=>?_;refine(aB (f67 nd.got nd.2.1 hz.got n (by omega))).trans ?_;refine eQ λh3=>?_;refine(aB (f67 nd.acked nd.2.1 hz.acked n (by omega))).trans ?_;refine eQ λh4=>?_
 obtain⟨k,hk,hlt⟩:=SR h1 h2 h3
 show(bif decide (0<=nd.1)then((at? nd.got (nd.1).toNat).bind _)else none)=_
 rw[hk];refine bif_nn.trans ?_;refine(aJ hlt).trans ?_;refine(aB (f68 nd.log hz.list hz.logs n (by omega))).trans ?_;refine eQ λ_=>?_;refine(aB (f69 nd.seen nd.2.1 hz.seen hz.lines n (by omega))).trans ?_;refine eQ λ_=>?_;exact hN aA hf h4
theorem f45(w:a9)(x:Int):Ran p 2 45 [va K28 w, vf K3 (x,())] (rO K4 (inB x 0 (i64.wrap ((w.1.length:Int) - 1)),())):=go45 λn hn=>Ev.now λaA=>by
 unfold T45;refine(aB (f43 x 0 (i64.wrap ((w.1.length:Int) - 1)) n (by omega))).trans ?_;rfl
theorem f11(w:a9)(hz:SzW w):Ran p 8 11 [va K28 w] (rO K4 (bJ w,())):=go11 λn hn=>by
 have said:It (λaA (_:Unit)=>c11_15 (aK p n) aA w) (0:Int) (λ_=>oB (bR w.2.2.1.length (gT w))):=by
  refine cN (It.allB w.2.2.1.length _ true (λi hi aA a rec=>?_) (It.stop λaA a rec=>?_))
  ·have hb:=cB hi hz.said
   show c11_15 (aK p n) aA w rec (i:Int)=_
   unfold c11_15 gT;rw[aM hb];refine(aE (Int.ofNat_lt.2 hi)).trans ?_;refine bif_nn.trans ?_;refine(aJ hi).trans ?_;refine(aB (f33 (gt w.2.2.1 i).1 0 (i64.wrap ((w.1.length:Int) - 1)) n (by omega))).trans ?_;refine chk λ_=>?_;refine bif_nn.trans ?_;refine(aJ hi).trans ?_;refine(aB (f25 (gt w.2.2.1 i).2 (aZ (hz.part i hi).a) (aZ (hz.part i hi).b) n (by omega))).trans ?_;exact fin
  ·show c11_15 (aK p n) aA w rec (w.2.2.1.length:Int)=_
   unfold c11_15;refine(aI (Int.lt_irrefl _)).trans ?_;rfl
 have net:It (λaA (_:Unit)=>c11_10 (aK p n) aA w) (0:Int) (λ_=>oB (bR w.2.1.length (λi=>inB (gt w.2.1 i).1 0 (i64.wrap ((w.1.length:Int) - 1)))&&bR w.2.2.1.length (gT w))):=by
  refine It.allB w.2.1.length _ _ (λi hi aA a rec=>?_) (It.stopE (T:=λaA _=>iter (c11_15 (aK p n) aA w) aA (0:Int)) (λaA a rec=>?_) said.all_i)
  ·have hb:=cB hi hz.net
   show c11_10 (aK p n) aA w rec (i:Int)=_
   unfold c11_10;rw[aM hb];refine(aE (Int.ofNat_lt.2 hi)).trans ?_;refine bif_nn.trans ?_;refine(aJ hi).trans ?_;refine(aB (f33 (gt w.2.1 i).1 0 (i64.wrap ((w.1.length:Int) - 1)) n (by omega))).trans ?_;exact fin
  ·show c11_10 (aK p n) aA w rec (w.2.1.length:Int)=_
   unfold c11_10;refine(aI (Int.lt_irrefl _)).trans ?_;rfl
 have nodes:It (λaA (_:Unit)=>c11_5 (aK p n) aA w) (0:Int) (λ_=>oB (bR w.1.length (lT w)&&(bR w.2.1.length (λi=>inB (gt w.2.1 i).1 0 (i64.wrap ((w.1.length:Int) - 1)))&&bR w.2.2.1.length (gT w)))):=by
  refine It.allB w.1.length _ _ (λi hi aA a rec=>?_) (It.stopE (T:=λaA _=>iter (c11_10 (aK p n) aA w) aA (0:Int)) (λaA a rec=>?_) net.all_i)
  ·have hb:=cB hi hz.nodes
   show c11_5 (aK p n) aA w rec (i:Int)=_
   unfold c11_5 lT;rw[aM hb];refine(aE (Int.ofNat_lt.2 hi)).trans ?_;refine bif_nn.trans ?_;refine(aJ hi).trans ?_;refine(aB (f34 (gt w.1 i) (hz.node i hi) n (by omega))).trans ?_;refine chk λ_=>?_;refine bif_nn.trans ?_;refine(aJ hi).trans ?_;refine chk λ_=>?_;refine bif_nn.trans ?_;refine(aJ hi).trans ?_;exact fin
  ·show c11_5 (aK p n) aA w rec (w.1.length:Int)=_
   unfold c11_5;refine(aI (Int.lt_irrefl _)).trans ?_;rfl
 obtain⟨N,hN⟩:=nodes.all_i
 refine⟨N,λaA hf=>?_⟩
 show T11 (aK p n) aA w=oB (bJ w)
 unfold T11 bJ;refine(aB (f33 (w.1.length:Int) 1 5 n (by omega))).trans ?_;refine eQ λ_=>?_;refine uX λ_=>?_;refine uX λ_=>?_;exact hN aA hf ()
theorem f20(w:a9)(hz:SzW w):Ran p 8 20 [va K28 w] (rO K4 (bJ w,())):=go20 λn hn=>by
 have said:It (λaA (_:Unit)=>c20_16 (aK p n) aA w) (0:Int) (λ_=>oB (bR w.2.2.1.length (gT w))):=by
  refine cN (It.allB w.2.2.1.length _ true (λi hi aA a rec=>?_) (It.stop λaA a rec=>?_))
  ·have hb:=cB hi hz.said
   show c20_16 (aK p n) aA w rec (i:Int)=_
   unfold c20_16 gT;rw[aM hb];refine(aE (Int.ofNat_lt.2 hi)).trans ?_;refine bif_nn.trans ?_;refine(aJ hi).trans ?_;refine(aB (f45 w (gt w.2.2.1 i).1 n (by omega))).trans ?_;refine chk λ_=>?_;refine(aB (f35 (gt w.2.2.1 i).2 (aZ (hz.part i hi).a) (aZ (hz.part i hi).b) n (by omega))).trans ?_;exact fin
  ·show c20_16 (aK p n) aA w rec (w.2.2.1.length:Int)=_
   unfold c20_16;refine(aI (Int.lt_irrefl _)).trans ?_;rfl
 have net:It (λaA (_:Unit)=>c20_10 (aK p n) aA w) (0:Int) (λ_=>oB (bR w.2.1.length (λi=>inB (gt w.2.1 i).1 0 (i64.wrap ((w.1.length:Int) - 1)))&&bR w.2.2.1.length (gT w))):=by
  refine It.allB w.2.1.length _ _ (λi hi aA a rec=>?_) (It.stopE (T:=λaA _=>iter (c20_16 (aK p n) aA w) aA (0:Int)) (λaA a rec=>?_) said.all_i)
  ·have hb:=cB hi hz.net
   show c20_10 (aK p n) aA w rec (i:Int)=_
   unfold c20_10;rw[aM hb];refine(aE (Int.ofNat_lt.2 hi)).trans ?_;refine bif_nn.trans ?_;refine(aJ hi).trans ?_;refine(aB (f45 w (gt w.2.1 i).1 n (by omega))).trans ?_;exact fin
  ·show c20_10 (aK p n) aA w rec (w.2.1.length:Int)=_
   unfold c20_10;refine(aI (Int.lt_irrefl _)).trans ?_;rfl
 have nodes:It (λaA (_:Unit)=>c20_4 (aK p n) aA w) (0:Int) (λ_=>oB (bR w.1.length (lT w)&&(bR w.2.1.length (λi=>inB (gt w.2.1 i).1 0 (i64.wrap ((w.1.length:Int) - 1)))&&bR w.2.2.1.length (gT w)))):=by
  refine It.allB w.1.length _ _ (λi hi aA a rec=>?_) (It.stopE (T:=λaA _=>iter (c20_10 (aK p n) aA w) aA (0:Int)) (λaA a rec=>?_) net.all_i)
  ·have hb:=cB hi hz.nodes
   show c20_4 (aK p n) aA w rec (i:Int)=_
   unfold c20_4 lT;rw[aM hb];refine(aE (Int.ofNat_lt.2 hi)).trans ?_;refine bif_nn.trans ?_;refine(aJ hi).trans ?_;refine(aB (f44 (gt w.1 i) (hz.node i hi) n (by omega))).trans ?_;refine chk λ_=>?_;refine chk λ_=>?_;exact fin
  ·show c20_4 (aK p n) aA w rec (w.1.length:Int)=_
   unfold c20_4;refine(aI (Int.lt_irrefl _)).trans ?_;rfl
 obtain⟨N,hN⟩:=nodes.all_i
 refine⟨N,λaA hf=>?_⟩
 show T20 (aK p n) aA w=oB (bJ w)
 unfold T20 bJ;refine(aB (f43 (w.1.length:Int) 1 5 n (by omega))).trans ?_;refine eQ λ_=>?_;refine uX λ_=>?_;refine uX λ_=>?_;exact hN aA hf ()
end Go.Abs.Wz
namespace Go.Abs.Wz
open Go Go.Abs
end Go.Abs.Wz
namespace Go.Abs.Wz
open Go Go.Abs
theorem f49(s:aH)(hz:SzS s):Ran p 4 49 [va K34 s] (rO K31 (rR s,())):=go49 λn hn=>by
 cases hs:aP s with
 | false=>
  refine Ev.now λaA=>?_
  unfold T49 rR;refine(aB (f25 s (aZ hz.a) (aZ hz.b) n (by omega))).trans ?_;rw[hs];rfl
 | true=>
  have lp:It (λaA (_:Unit)=>c49_5 (aK p n) aA s) ((0:Int),([]:List bM)) (λ_=>rV K31 (s.1.filter (λx:bM=>x.2.2.1==0),())):=by
   refine It.accu (α:=bM) [] (λi=>bif(gt s.1 i).2.2.1==0 then[gt s.1 i] else[]) s.1.length 1 (λi hi=>by cases (gt s.1 i).2.2.1==0<;>simp) (λi hi acc ha aA a rec=>?_) (It.stop λaA a rec=>?_)
   ·have hb:=cB hi hz.a
    have hl:s.1.length<=1048576:=hz.a
    show c49_5 (aK p n) aA s rec ((i:Int),acc)=_
    unfold c49_5;dsimp only;rw[aM hb];refine(aE (Int.ofNat_lt.2 hi)).trans ?_;refine bif_nn.trans ?_;refine(aJ hi).trans ?_
    cases hq:(gt s.1 i).2.2.1==0 with
    | false=>refine(aF rfl).trans ?_;exact(congrArg (λl:List bM=>rec (((i+1:Nat):Int),l)) (List.append_nil acc).symm:_)
    | true=>refine(aL rfl).trans ?_;refine bif_nn.trans ?_;refine(aJ hi).trans ?_;refine(aE (by rw[hq] at ha;have:acc.length+1<=0+s.1.length*1:=ha;show acc.length+1<=4294967296;omega)).trans ?_;rfl
   ·show c49_5 (aK p n) aA s rec ((s.1.length:Int),bN (α:=bM) s.1.length (λi=>bif(gt s.1 i).2.2.1==0 then[gt s.1 i] else[]))=_
    unfold c49_5;refine(aI (Int.lt_irrefl _)).trans ?_;exact congrArg (λl:List bM=>(rV K31 (l,()):Option Out)) ((cI (λx:bM=>bif x.2.2.1==0 then[x] else[]) s.1).trans (iX _ _))
  have e:rR s=s.1.filter (λx:bM=>x.2.2.1==0):=by unfold rR;rw[hs];rfl
  rw[e]
  exact Ev.eq (λaA=>by unfold T49;refine(aB (f25 s (aZ hz.a) (aZ hz.b) n (by omega))).trans ?_;rw[hs];rfl) (lp.ev (i:=()) rfl)
theorem f36(a b:List bM)(ha:a.length<=maxLen):Ran p 1 36 [vf K31 (a,()), vf K31 (b,())] (rO K4 (jU a b,())):=go36 λn hn=>by
 have lp:∃ N,∀ aA,N<=aA->((a.length:Int)==(b.length:Int))=true->iter (c36_4 (aK p n) aA a b) aA (0:Int)=oB (bR a.length λi=>qK (gt a i) (gt b i)):=by
  cases he:(a.length:Int)==(b.length:Int)with
  | false=>exact⟨0,λ_ _ h=>by cases h⟩
  | true=>
   have e:a.length=b.length:=by have:=eq_of_beq he;omega
   have lp:It (λaA (_:Unit)=>c36_4 (aK p n) aA a b) (0:Int) (λ_=>oB (bR a.length λi=>qK (gt a i) (gt b i))):=by
    refine cN (It.allB a.length _ true (λi hi aA a' rec=>?_) (It.stop λaA a' rec=>?_))
    ·have hb:i<9223372036854775807:=Nat.lt_of_lt_of_le hi ha
     show c36_4 (aK p n) aA a b rec (i:Int)=_
     unfold c36_4;rw[aM hb];refine(aE (Int.ofNat_lt.2 hi)).trans ?_;refine bif_nn.trans ?_;refine(aJ hi).trans ?_;refine bif_nn.trans ?_;refine(aJ (show i<b.length by omega)).trans ?_;exact fin
    ·show c36_4 (aK p n) aA a b rec (a.length:Int)=_
     unfold c36_4;refine(aI (Int.lt_irrefl _)).trans ?_;rfl
   obtain⟨N,hN⟩:=lp.all_i
   exact⟨N,λaA hf _=>hN aA hf ()⟩
 obtain⟨N,hN⟩:=lp
 refine⟨N,λaA hf=>?_⟩
 show T36 (aK p n) aA a b=oB (jU a b)
 unfold T36 jU;refine eQ λh=>?_;exact hN aA hf h
theorem f9(a b:aH)(ha:SzS a):Ran p 1 9 [va K34 a, va K34 b] (rO K4 (gC a b,())):=go9 λn hn=>by
 have fl:∃ N,∀ aA,N<=aA->((a.2.1.length:Int)==(b.2.1.length:Int))=true->iter (c9_9 (aK p n) aA a b) aA (0:Int)=oB (bR a.2.1.length λi=>j6 (gt a.2.1 i) (gt b.2.1 i)):=by
  cases he:(a.2.1.length:Int)==(b.2.1.length:Int)with
  | false=>exact⟨0,λ_ _ h=>by cases h⟩
  | true=>
   have e:a.2.1.length=b.2.1.length:=by have:=eq_of_beq he;omega
   have lp:It (λaA (_:Unit)=>c9_9 (aK p n) aA a b) (0:Int) (λ_=>oB (bR a.2.1.length λi=>j6 (gt a.2.1 i) (gt b.2.1 i))):=by
    refine cN (It.allB a.2.1.length _ true (λi hi aA a' rec=>?_) (It.stop λaA a' rec=>?_))
    ·have hb:=cB hi ha.b
     show c9_9 (aK p n) aA a b rec (i:Int)=_
     unfold c9_9;rw[aM hb];refine(aE (Int.ofNat_lt.2 hi)).trans ?_;refine bif_nn.trans ?_;refine(aJ hi).trans ?_;refine bif_nn.trans ?_;refine(aJ (show i<b.2.1.length by omega)).trans ?_;exact fin
    ·show c9_9 (aK p n) aA a b rec (a.2.1.length:Int)=_
     unfold c9_9;refine(aI (Int.lt_irrefl _)).trans ?_;rfl
   obtain⟨N,hN⟩:=lp.all_i
   exact⟨N,λaA hf _=>hN aA hf ()⟩
 have it:∃ N,∀ aA,N<=aA->((a.1.length:Int)==(b.1.length:Int))=true->((a.2.1.length:Int)==(b.2.1.length:Int))=true->iter (c9_4 (aK p n) aA a b) aA (0:Int)=oB (bR a.1.length (λi=>qK (gt a.1 i) (gt b.1 i))&&bR a.2.1.length λi=>j6 (gt a.2.1 i) (gt b.2.1 i)):=by
  cases he:(a.1.length:Int)==(b.1.length:Int)with
  | false=>exact⟨0,λ_ _ h=>by cases h⟩
  | true=>
   cases he2:(a.2.1.length:Int)==(b.2.1.length:Int)with
   | false=>exact⟨0,λ_ _ _ h=>by cases h⟩
   | true=>
    have e:a.1.length=b.1.length:=by have:=eq_of_beq he;omega
    obtain⟨M,hM⟩:=fl
    have lp:It (λaA (_:Unit)=>c9_4 (aK p n) aA a b) (0:Int) (λ_=>oB (bR a.1.length (λi=>qK (gt a.1 i) (gt b.1 i))&&bR a.2.1.length λi=>j6 (gt a.2.1 i) (gt b.2.1 i))):=by
     refine It.allB a.1.length _ _ (λi hi aA a' rec=>?_) (It.stopE (T:=λaA _=>iter (c9_9 (aK p n) aA a b) aA (0:Int)) (λaA a' rec=>?_) ⟨M,λaA hf _=>hM aA hf he2⟩)
     ·have hb:=cB hi ha.a
      show c9_4 (aK p n) aA a b rec (i:Int)=_
      unfold c9_4;rw[aM hb];refine(aE (Int.ofNat_lt.2 hi)).trans ?_;refine bif_nn.trans ?_;refine(aJ hi).trans ?_;refine bif_nn.trans ?_;refine(aJ (show i<b.1.length by omega)).trans ?_;exact fin
     ·show c9_4 (aK p n) aA a b rec (a.1.length:Int)=_
      unfold c9_4;refine(aI (Int.lt_irrefl _)).trans ?_;rfl
    obtain⟨N,hN⟩:=lp.all_i
    exact⟨N,λaA hf _ _=>hN aA hf ()⟩
 obtain⟨N,hN⟩:=it
 refine⟨N,λaA hf=>?_⟩
 show T9 (aK p n) aA a b=oB (gC a b)
 unfold T9 gC;refine eQ λh=>?_;refine eQ λh'=>?_;exact hN aA hf h h'
end Go.Abs.Wz
namespace Go.Abs.Wz
open Go Go.Abs
theorem f62(s:aH)(id:Int)(hl:s.1.length<=maxLen):Ran p 1 62 [va K34 s, vf K3 (id,())] ⟨[⟨K69,(bG s id).1⟩,⟨K4,((bG s id).2,())⟩],[]⟩:=go62 λn hn=>by
 have lp:It (λaA (_:Unit)=>c62_2 (aK p n) aA s id) (0:Int) (λ_=>some ⟨[⟨K69,(bG s id).1⟩,⟨K4,((bG s id).2,())⟩],[]⟩):=by
  have:=It.first (c:=λaA (_:Unit)=>c62_2 (aK p n) aA s id) (λi=>(i:Int)) s.1.length (λi=>(gt s.1 i).1==id) (λi _=>some ⟨[⟨K69,(gt (α:=bM) s.1 i).2⟩,⟨K4,(true,())⟩],[]⟩) (λ_=>some ⟨[⟨K69,c6⟩,⟨K4,(false,())⟩],[]⟩) (λi hi hp aA a rec=>?_) (λi hi hp=>It.stop λaA a rec=>?_) (It.stop λaA a rec=>?_)
  ·revert this;unfold bG
   cases (List.range s.1.length).find? (λi=>(gt s.1 i).1==id)<;>exact λh=>h
  ·have hb:i<9223372036854775807:=Nat.lt_of_lt_of_le hi hl
   show c62_2 (aK p n) aA s id rec (i:Int)=_
   unfold c62_2;rw[aM hb];refine(aE (Int.ofNat_lt.2 hi)).trans ?_;refine bif_nn.trans ?_;refine(aJ hi).trans ?_;exact aF hp
  ·show c62_2 (aK p n) aA s id rec (i:Int)=_
   unfold c62_2;refine(aE (Int.ofNat_lt.2 hi)).trans ?_;refine bif_nn.trans ?_;refine(aJ hi).trans ?_;refine(aL hp).trans ?_;refine bif_nn.trans ?_;refine(aJ hi).trans ?_;rfl
  ·show c62_2 (aK p n) aA s id rec (s.1.length:Int)=_
   unfold c62_2;refine(aI (Int.lt_irrefl _)).trans ?_;rfl
 exact Ev.eq (λaA=>by unfold T62;rfl) (lp.ev (i:=()) rfl)
theorem f58(s:aH)(id:Int)(hl:s.1.length<=maxLen):Ran p 1 58 [va K34 s, vf K3 (id,())] ⟨[⟨K69,(bG s id).1⟩,⟨K4,((bG s id).2,())⟩],[]⟩:=go58 λn hn=>by
 have lp:It (λaA (_:Unit)=>c58_2 (aK p n) aA s id) (0:Int) (λ_=>some ⟨[⟨K69,(bG s id).1⟩,⟨K4,((bG s id).2,())⟩],[]⟩):=by
  have:=It.first (c:=λaA (_:Unit)=>c58_2 (aK p n) aA s id) (λi=>(i:Int)) s.1.length (λi=>(gt s.1 i).1==id) (λi _=>some ⟨[⟨K69,(gt (α:=bM) s.1 i).2⟩,⟨K4,(true,())⟩],[]⟩) (λ_=>some ⟨[⟨K69,c6⟩,⟨K4,(false,())⟩],[]⟩) (λi hi hp aA a rec=>?_) (λi hi hp=>It.stop λaA a rec=>?_) (It.stop λaA a rec=>?_)
  ·revert this;unfold bG
   cases (List.range s.1.length).find? (λi=>(gt s.1 i).1==id)<;>exact λh=>h
  ·have hb:i<9223372036854775807:=Nat.lt_of_lt_of_le hi hl
   show c58_2 (aK p n) aA s id rec (i:Int)=_
   unfold c58_2;rw[aM hb];refine(aE (Int.ofNat_lt.2 hi)).trans ?_;refine bif_nn.trans ?_;refine(aJ hi).trans ?_;exact aF hp
  ·show c58_2 (aK p n) aA s id rec (i:Int)=_
   unfold c58_2;refine(aE (Int.ofNat_lt.2 hi)).trans ?_;refine bif_nn.trans ?_;refine(aJ hi).trans ?_;refine(aL hp).trans ?_;rfl
  ·show c58_2 (aK p n) aA s id rec (s.1.length:Int)=_
   unfold c58_2;refine(aI (Int.lt_irrefl _)).trans ?_;rfl
 exact Ev.eq (λaA=>by unfold T58;rfl) (lp.ev (i:=()) rfl)
theorem f61(a b:Int):Ran p 1 61 [vf K3 (a,()), vf K3 (b,())] (rO K3 (mxI true a b,())):=go61 λn hn=>Ev.now λaA=>by
 unfold T61 mxI
 simp only[if_true]
 by_cases h:a>b
 ·refine(aE h).trans ?_;rw[if_neg (by omega:¬ b>a)]
 ·refine(aI h).trans ?_;by_cases h':b>a
  ·rw[if_pos h']
  ·rw[if_neg h',show a=b from by omega]
theorem f101(b:Bool):Ran p 1 101 [vf K4 (b,())] (rO K3 (MK b,())):=go101 λn hn=>Ev.now λaA=>by
 unfold T101;cases b<;>rfl
theorem f100(a b:Int):Ran p 2 100 [vf K3 (a,()), vf K3 (b,())] (rO K3 (l2 a b,())):=go100 λn hn=>Ev.now λaA=>by
 unfold T100 l2
 cases decide (a<b)with
 | true=>rfl
 | false=>refine(aF rfl).trans ?_;refine(aB (f101 (decide (a>b)) n (by omega))).trans ?_;rfl
theorem f155(a:Int):Ran p 1 155 [vf K3 (a,())] (rO K4 (false,())):=go155 λn hn=>Ev.now λaA=>by
 unfold T155;exact congrArg (λb:Bool=>(rV K4 (b,()):Option Out)) (by simp:(a != a)=false)
theorem f132(a b:Int):Ran p 2 132 [vf K3 (a,()), vf K3 (b,())] (rO K3 (l2 a b,())):=go132 λn hn=>Ev.now λaA=>by
 unfold T132 l2;refine(aB (f155 a n (by omega))).trans ?_;refine(aB (f155 b n (by omega))).trans ?_;refine(aF rfl).trans ?_;refine(aF rfl).trans ?_;cases decide (a<b)<;>cases decide (a>b)<;>rfl
theorem f131(ls:List aO)(hl:ls.length<=maxLen):Ran p 1 131 [vf K44 (ls,())] (rO K3 (orN ls,())):=go131 λn hn=>by
 have lp:It (λaA (_:Unit)=>c131_3 (aK p n) aA ls) (0:Int) (λ_=>oI (orN ls)):=by
  have:=It.first (c:=λaA (_:Unit)=>c131_3 (aK p n) aA ls) (λi=>(i:Int)) ls.length (λi=>(gt ls i).1 != 0) (λi _=>oI (gt ls i).1) (λ_=>oI 0) (λi hi hp aA a rec=>?_) (λi hi hp=>It.stop λaA a rec=>?_) (It.stop λaA a rec=>?_)
  ·revert this;unfold orN
   cases (List.range ls.length).find? (λi=>(gt ls i).1 != 0)<;>exact λh=>h
  ·have hb:i<9223372036854775807:=Nat.lt_of_lt_of_le hi hl
   show c131_3 (aK p n) aA ls rec (i:Int)=_
   unfold c131_3;rw[aM hb];refine(aE (Int.ofNat_lt.2 hi)).trans ?_;refine bif_nn.trans ?_;refine(aJ hi).trans ?_;exact aF hp
  ·show c131_3 (aK p n) aA ls rec (i:Int)=_
   unfold c131_3;refine(aE (Int.ofNat_lt.2 hi)).trans ?_;refine bif_nn.trans ?_;refine(aJ hi).trans ?_;exact aL hp
  ·show c131_3 (aK p n) aA ls rec (ls.length:Int)=_
   unfold c131_3;refine(aI (Int.lt_irrefl _)).trans ?_;rfl
 exact Ev.eq (λaA=>by unfold T131;rfl) (lp.ev (i:=()) rfl)
theorem f133(a b:ByteArray):Ran p 1 133 [vf K9 (a,()), vf K9 (b,())] (rO K3 (uR a b,())):=λn hn=>by
 cases n with
 | zero=>omega
 | succ n=>rfl
theorem f99(a b:bH):Ran p 3 99 [va K69 a, va K69 b] (rO K3 (gI a b,())):=go99 λn hn=>Ev.now λaA=>by
 unfold T99;refine(aB (f132 a.1 b.1 n (by omega))).trans ?_;refine(aB (f132 a.2.1 b.2.1 n (by omega))).trans ?_;refine(aB (f132 a.2.2.1 b.2.2.1 n (by omega))).trans ?_;refine(aB (f132 a.2.2.2.1 b.2.2.2.1 n (by omega))).trans ?_;refine(aB (f133 a.2.2.2.2.1 b.2.2.2.2.1 n (by omega))).trans ?_
 refine(aB (f131 [(l2 a.1 b.1,()),(l2 a.2.1 b.2.1,()),(l2 a.2.2.1 b.2.2.1,()),(l2 a.2.2.2.1 b.2.2.2.1,()),(uR a.2.2.2.2.1 b.2.2.2.2.1,())] (by show 5<=9223372036854775807;omega) n (by omega))).trans ?_
 exact congrArg (λx:Int=>(rV K3 (x,()):Option Out)) (RM a b)
theorem f63(a b:bH):Ran p 3 63 [va K69 a, va K69 b] (rO K3 (gI a b,())):=go63 λn hn=>by
 have lp:It (λaA (_:Unit)=>c63_3 (aK p n) aA a b (((l2 a.1 b.1,()),()),()) (((l2 a.2.1 b.2.1,()),()),()) (((l2 a.2.2.1 b.2.2.1,()),()),()) (((l2 a.2.2.2.1 b.2.2.2.1,()),()),())) (0:Int) (λ_=>oI (gI a b)):=by
  have:=It.first (c:=λaA (_:Unit)=>c63_3 (aK p n) aA a b (((l2 a.1 b.1,()),()),()) (((l2 a.2.1 b.2.1,()),()),()) (((l2 a.2.2.1 b.2.2.1,()),()),()) (((l2 a.2.2.2.1 b.2.2.2.1,()),()),())) (λi=>(i:Int)) (F4 a b).length (λi=>(gt (F4 a b) i).1 != 0) (λi _=>oI (gt (F4 a b) i).1) (λ_=>oI (uR a.2.2.2.2.1 b.2.2.2.2.1)) (λi hi hp aA a' rec=>?_) (λi hi hp=>It.stop λaA a' rec=>?_) (It.stop λaA a' rec=>?_)
  ·rw[<- N7];revert this;unfold orZ
   cases (List.range (F4 a b).length).find? (λi=>(gt (F4 a b) i).1 != 0)<;>exact λh=>h
  ·have hb:i<9223372036854775807:=Nat.lt_of_lt_of_le hi (by show 4<=9223372036854775807;omega)
   show c63_3 (aK p n) aA a b (((l2 a.1 b.1,()),()),()) (((l2 a.2.1 b.2.1,()),()),()) (((l2 a.2.2.1 b.2.2.1,()),()),()) (((l2 a.2.2.2.1 b.2.2.2.1,()),()),()) rec (i:Int)=_
   unfold c63_3;rw[aM hb];refine(aE (Int.ofNat_lt.2 hi)).trans ?_;refine bif_nn.trans ?_;refine(aJ hi).trans ?_;refine(aJ hi).trans ?_;exact aF hp
  ·show c63_3 (aK p n) aA a b (((l2 a.1 b.1,()),()),()) (((l2 a.2.1 b.2.1,()),()),()) (((l2 a.2.2.1 b.2.2.1,()),()),()) (((l2 a.2.2.2.1 b.2.2.2.1,()),()),()) rec (i:Int)=_
   unfold c63_3;refine(aE (Int.ofNat_lt.2 hi)).trans ?_;refine bif_nn.trans ?_;refine(aJ hi).trans ?_;refine(aJ hi).trans ?_;refine(aL hp).trans ?_;refine bif_nn.trans ?_;refine(aJ hi).trans ?_;refine(aJ hi).trans ?_;rfl
  ·show c63_3 (aK p n) aA a b (((l2 a.1 b.1,()),()),()) (((l2 a.2.1 b.2.1,()),()),()) (((l2 a.2.2.1 b.2.2.1,()),()),()) (((l2 a.2.2.2.1 b.2.2.2.1,()),()),()) rec (((F4 a b).length:Nat):Int)=_
   unfold c63_3;refine(aI (Int.lt_irrefl _)).trans ?_
   rw[<- MD]
   cases Op.bytesLess (ByteArray.toList a.2.2.2.2.1) (ByteArray.toList b.2.2.2.2.1)with
   | true=>rfl
   | false=>refine(aF rfl).trans ?_;refine(aB (f101 (!(false||ByteArray.toList a.2.2.2.2.1==ByteArray.toList b.2.2.2.2.1)) n (by omega))).trans ?_;rfl
 exact Ev.eq (λaA=>by unfold T63;refine(aB (f100 a.1 b.1 n (by omega))).trans ?_;refine(aB (f100 a.2.1 b.2.1 n (by omega))).trans ?_;refine(aB (f100 a.2.2.1 b.2.2.1 n (by omega))).trans ?_;refine(aB (f100 a.2.2.2.1 b.2.2.2.1 n (by omega))).trans ?_;rfl) (lp.ev (i:=()) rfl)
theorem f59(a b:bH):Ran p 4 59 [va K69 a, va K69 b] (rO K69 (mxE a b)):=go59 λn hn=>Ev.now λaA=>by
 unfold T59 mxE;refine(aB (f99 a b n (by omega))).trans ?_;cases decide (gI a b<0)<;>rfl
theorem f32(a b:aH)(ha:SzS a)(hb':SzS b)(hpa:Pos a)(hpb:Pos b):Ran p 4 32 [va K34 a, va K34 b] (rO K34 (cF a b)):=go32 λn hn=>by
 have lp:It (λaA (_:Unit)=>c32_3 (aK p n) aA a b) ((0:Int),([]:List aR),([]:List bM)) (λ_=>rV K34 (cF a b)):=by
  refine It.run (λi=>((i:Int),bN i (cP a b),bN i (c9 a b))) 5 (λi hi aA u rec=>?_) (It.stop λaA u rec=>?_)
  ·have l1:(bN i (cP a b)).length<=i*1:=dE λj _=>oZ a b j
   have l2':(bN i (c9 a b)).length<=i*1:=dE λj _=>rJ a b j
   have hb:i<9223372036854775807:=by omega
   have fin3:∀ {F:List aR} {J:List bM},cP a b i=F->c9 a b i=J->rec (((i+1:Nat):Int),bN i (cP a b)++F,bN i (c9 a b)++J)=rec (((i+1:Nat):Int),bN (i+1) (cP a b),bN (i+1) (c9 a b)):=by
    intro F J h1 h2;rw[dS,dS,h1,h2]
   have fin0:∀ {F:List aR},cP a b i=F->c9 a b i=[]->rec (((i+1:Nat):Int),bN i (cP a b)++F,bN i (c9 a b))=rec (((i+1:Nat):Int),bN (i+1) (cP a b),bN (i+1) (c9 a b)):=by
    intro F h1 h2;rw[dS,dS,h1,h2,List.append_nil]
   have fin1:∀ {J:List bM},cP a b i=[]->c9 a b i=J->rec (((i+1:Nat):Int),bN i (cP a b),bN i (c9 a b)++J)=rec (((i+1:Nat):Int),bN (i+1) (cP a b),bN (i+1) (c9 a b)):=by
    intro J h1 h2;rw[dS,dS,h1,h2,List.append_nil]
   have fin2:cP a b i=[]->c9 a b i=[]->rec (((i+1:Nat):Int),bN i (cP a b),bN i (c9 a b))=rec (((i+1:Nat):Int),bN (i+1) (cP a b),bN (i+1) (c9 a b)):=by
    intro h1 h2;rw[dS,dS,h1,h2,List.append_nil,List.append_nil]
   show c32_3 (aK p n) aA a b rec ((i:Int),bN i (cP a b),bN i (c9 a b))=rec (((i+1:Nat):Int),bN (i+1) (cP a b),bN (i+1) (c9 a b))
   unfold c32_3;dsimp only;rw[aM hb];refine(aE (by show(i:Int)<5;omega)).trans ?_;refine(aB (f54 a (i:Int) (aZ ha.b) n (by omega))).trans ?_;refine(aB (f54 b (i:Int) (aZ hb'.b) n (by omega))).trans ?_;refine(aB (f61 (cL a.2.1 (i:Int)) (cL b.2.1 (i:Int)) n (by omega))).trans ?_
   have zi:bG a (i:Int)=(c6,false)->bG b (i:Int)=(c6,false)->c9 a b i=[]:=λea eb=>gE (RK ea eb) (by show ¬ (0:Int)>_;have:=D0 (b:=b) hpa (i:Int);omega)
   by_cases hf:flr a b (i:Int)>0
   ·refine(aE hf).trans ?_;refine(aE (by show(bN i (cP a b)).length+1<=4294967296;omega)).trans ?_
    have gF:=oX hf
    refine(bA (f62 a (i:Int) (aZ ha.a) n (by omega))).trans ?_;refine(bA (f62 b (i:Int) (aZ hb'.a) n (by omega))).trans ?_
    rcases qL hpa (i:Int)with ⟨x,hx,ea⟩ | ea<;>rcases qL hpb (i:Int)with ⟨y,hy,eb⟩ | eb<;>rw[ea,eb]
    ·refine(aF rfl).trans ?_;refine(aF rfl).trans ?_;refine(aL rfl).trans ?_;refine(aB (f63 y x n (by omega))).trans ?_
     have pk:=JH ea eb
     by_cases hc:gI y x>0
     ·rw[decide_eq_true hc] at pk
      replace pk:eB a b (i:Int)=y:=pk
      refine(aE hc).trans ?_
      by_cases hi':y.1>flr a b i
      ·refine(aE hi').trans ?_;refine(aE (by show(bN i (c9 a b)).length+1<=4294967296;omega)).trans ?_;exact fin3 gF (gD pk hi')
      ·refine(aI hi').trans ?_;exact fin0 gF (gE pk hi')
     ·rw[decide_eq_false hc] at pk
      replace pk:eB a b (i:Int)=x:=pk
      refine(aI hc).trans ?_
      by_cases hi':x.1>flr a b i
      ·refine(aE hi').trans ?_;refine(aE (by show(bN i (c9 a b)).length+1<=4294967296;omega)).trans ?_;exact fin3 gF (gD pk hi')
      ·refine(aI hi').trans ?_;exact fin0 gF (gE pk hi')
    ·refine(aF rfl).trans ?_;refine(aF rfl).trans ?_;refine(aF rfl).trans ?_
     by_cases hi':x.1>flr a b i
     ·refine(aE hi').trans ?_;refine(aE (by show(bN i (c9 a b)).length+1<=4294967296;omega)).trans ?_;exact fin3 gF (gD (xS ea eb hx) hi')
     ·refine(aI hi').trans ?_;exact fin0 gF (gE (xS ea eb hx) hi')
    ·refine(aL rfl).trans ?_;refine(aF rfl).trans ?_;refine(aL rfl).trans ?_
     by_cases hi':y.1>flr a b i
     ·refine(aE hi').trans ?_;refine(aE (by show(bN i (c9 a b)).length+1<=4294967296;omega)).trans ?_;exact fin3 gF (gD (xT ea eb hy) hi')
     ·refine(aI hi').trans ?_;exact fin0 gF (gE (xT ea eb hy) hi')
    ·refine(aL rfl).trans ?_;refine(aL rfl).trans ?_;exact fin0 gF (zi ea eb)
   ·refine(aI hf).trans ?_
    have gF:=sX hf
    refine(bA (f62 a (i:Int) (aZ ha.a) n (by omega))).trans ?_;refine(bA (f62 b (i:Int) (aZ hb'.a) n (by omega))).trans ?_
    rcases qL hpa (i:Int)with ⟨x,hx,ea⟩ | ea<;>rcases qL hpb (i:Int)with ⟨y,hy,eb⟩ | eb<;>rw[ea,eb]
    ·refine(aF rfl).trans ?_;refine(aF rfl).trans ?_;refine(aL rfl).trans ?_;refine(aB (f63 y x n (by omega))).trans ?_
     have pk:=JH ea eb
     by_cases hc:gI y x>0
     ·rw[decide_eq_true hc] at pk
      replace pk:eB a b (i:Int)=y:=pk
      refine(aE hc).trans ?_
      by_cases hi':y.1>flr a b i
      ·refine(aE hi').trans ?_;refine(aE (by show(bN i (c9 a b)).length+1<=4294967296;omega)).trans ?_;exact fin1 gF (gD pk hi')
      ·refine(aI hi').trans ?_;exact fin2 gF (gE pk hi')
     ·rw[decide_eq_false hc] at pk
      replace pk:eB a b (i:Int)=x:=pk
      refine(aI hc).trans ?_
      by_cases hi':x.1>flr a b i
      ·refine(aE hi').trans ?_;refine(aE (by show(bN i (c9 a b)).length+1<=4294967296;omega)).trans ?_;exact fin1 gF (gD pk hi')
      ·refine(aI hi').trans ?_;exact fin2 gF (gE pk hi')
    ·refine(aF rfl).trans ?_;refine(aF rfl).trans ?_;refine(aF rfl).trans ?_
     by_cases hi':x.1>flr a b i
     ·refine(aE hi').trans ?_;refine(aE (by show(bN i (c9 a b)).length+1<=4294967296;omega)).trans ?_;exact fin1 gF (gD (xS ea eb hx) hi')
     ·refine(aI hi').trans ?_;exact fin2 gF (gE (xS ea eb hx) hi')
    ·refine(aL rfl).trans ?_;refine(aF rfl).trans ?_;refine(aL rfl).trans ?_
     by_cases hi':y.1>flr a b i
     ·refine(aE hi').trans ?_;refine(aE (by show(bN i (c9 a b)).length+1<=4294967296;omega)).trans ?_;exact fin1 gF (gD (xT ea eb hy) hi')
     ·refine(aI hi').trans ?_;exact fin2 gF (gE (xT ea eb hy) hi')
    ·refine(aL rfl).trans ?_;refine(aL rfl).trans ?_;exact fin2 gF (zi ea eb)
  ·show c32_3 (aK p n) aA a b rec (((5:Nat):Int),bN 5 (cP a b),bN 5 (c9 a b))=_
   unfold c32_3;exact aI (by show ¬ ((5:Int)<5);decide)
 exact Ev.eq (λaA=>by unfold T32;rfl) (lp.ev (i:=()) rfl)
theorem f31(a b:aH)(ha:SzS a)(hb':SzS b):Ran p 5 31 [va K34 a, va K34 b] (rO K34 (cF a b)):=go31 λn hn=>by
 have lp:It (λaA (_:Unit)=>c31_3 (aK p n) aA a b) ((0:Int),([]:List bM),([]:List aR)) (λ_=>rV K34 (cF a b)):=by
  refine It.run (λi=>((i:Int),bN i (c9 a b),bN i (cP a b))) 5 (λi hi aA u rec=>?_) (It.stop λaA u rec=>?_)
  ·have l1:(bN i (cP a b)).length<=i*1:=dE λj _=>oZ a b j
   have l2':(bN i (c9 a b)).length<=i*1:=dE λj _=>rJ a b j
   have hb:i<9223372036854775807:=by omega
   show c31_3 (aK p n) aA a b rec ((i:Int),bN i (c9 a b),bN i (cP a b))=rec (((i+1:Nat):Int),bN (i+1) (c9 a b),bN (i+1) (cP a b))
   unfold c31_3;dsimp only;rw[aM hb];refine(aE (by show(i:Int)<5;omega)).trans ?_;refine(bA (f58 a (i:Int) (aZ ha.a) n (by omega))).trans ?_;refine(bA (f58 b (i:Int) (aZ hb'.a) n (by omega))).trans ?_;refine(aB (f59 (bG a (i:Int)).1 (bG b (i:Int)).1 n (by omega))).trans ?_;refine(aB (f60 a (i:Int) (aZ ha.b) n (by omega))).trans ?_;refine(aB (f60 b (i:Int) (aZ hb'.b) n (by omega))).trans ?_
   rw[dS,dS]
   by_cases hp:(eB a b (i:Int)).1>flr a b (i:Int)
   ·refine(aE hp).trans ?_;refine(aE (by show(bN i (c9 a b)).length+1<=4294967296;omega)).trans ?_;rw[gD rfl hp]
    by_cases hf:flr a b (i:Int)>0
    ·refine(aE hf).trans ?_;refine(aE (by show(bN i (cP a b)).length+1<=4294967296;omega)).trans ?_;rw[oX hf];rfl
    ·refine(aI hf).trans ?_;rw[sX hf,List.append_nil];rfl
   ·refine(aI hp).trans ?_;rw[gE rfl hp,List.append_nil]
    by_cases hf:flr a b (i:Int)>0
    ·refine(aE hf).trans ?_;refine(aE (by show(bN i (cP a b)).length+1<=4294967296;omega)).trans ?_;rw[oX hf];rfl
    ·refine(aI hf).trans ?_;rw[sX hf,List.append_nil];rfl
  ·show c31_3 (aK p n) aA a b rec (((5:Nat):Int),bN 5 (c9 a b),bN 5 (cP a b))=_
   unfold c31_3;exact aI (by show ¬ ((5:Int)<5);decide)
 exact Ev.eq (λaA=>by unfold T31;rfl) (lp.ev (i:=()) rfl)
theorem f12(a b:aH)(ha:SzS a)(hb':SzS b):Ran p 6 12 [va K34 a, va K34 b] ⟨[⟨K34,bif aP a&&aP b then cF a b else f4⟩,⟨K4,(aP a&&aP b,())⟩],[]⟩:=go12 λn hn=>Ev.now λaA=>by
 unfold T12;refine(aB (f35 a (aZ ha.a) (aZ ha.b) n (by omega))).trans ?_
 cases aP a with
 | false=>rfl
 | true=>
  refine(aF rfl).trans ?_;refine(aB (f35 b (aZ hb'.a) (aZ hb'.b) n (by omega))).trans ?_
  cases aP b with
  | false=>rfl
  | true=>refine(aF rfl).trans ?_;refine(aB (f31 a b ha hb' n (by omega))).trans ?_;rfl
theorem f37(a b:List aR)(ha:a.length<=maxLen):Ran p 1 37 [vf K32 (a,()), vf K32 (b,())] (rO K4 (jV a b,())):=go37 λn hn=>by
 have lp:∃ N,∀ aA,N<=aA->((a.length:Int)==(b.length:Int))=true->iter (c37_4 (aK p n) aA a b) aA (0:Int)=oB (bR a.length λi=>j6 (gt a i) (gt b i)):=by
  cases he:(a.length:Int)==(b.length:Int)with
  | false=>exact⟨0,λ_ _ h=>by cases h⟩
  | true=>
   have e:a.length=b.length:=by have:=eq_of_beq he;omega
   have lp:It (λaA (_:Unit)=>c37_4 (aK p n) aA a b) (0:Int) (λ_=>oB (bR a.length λi=>j6 (gt a i) (gt b i))):=by
    refine cN (It.allB a.length _ true (λi hi aA a' rec=>?_) (It.stop λaA a' rec=>?_))
    ·have hb:i<9223372036854775807:=Nat.lt_of_lt_of_le hi ha
     show c37_4 (aK p n) aA a b rec (i:Int)=_
     unfold c37_4;rw[aM hb];refine(aE (Int.ofNat_lt.2 hi)).trans ?_;refine bif_nn.trans ?_;refine(aJ hi).trans ?_;refine bif_nn.trans ?_;refine(aJ (show i<b.length by omega)).trans ?_;exact fin
    ·show c37_4 (aK p n) aA a b rec (a.length:Int)=_
     unfold c37_4;refine(aI (Int.lt_irrefl _)).trans ?_;rfl
   obtain⟨N,hN⟩:=lp.all_i
   exact⟨N,λaA hf _=>hN aA hf ()⟩
 obtain⟨N,hN⟩:=lp
 refine⟨N,λaA hf=>?_⟩
 show T37 (aK p n) aA a b=oB (jV a b)
 unfold T37 jV;refine eQ λh=>?_;exact hN aA hf h
theorem f14(a b:aH)(ha:SzS a):Ran p 2 14 [va K34 a, va K34 b] (rO K4 (gC a b,())):=go14 λn hn=>Ev.now λaA=>by
 rw[<- EW]
 show T14 (aK p n) aA a b=oB (jU a.1 b.1&&jV a.2.1 b.2.1)
 unfold T14;refine(aB (f36 a.1 b.1 (aZ ha.a) n (by omega))).trans ?_;refine hS λ_=>?_;refine(aB (f37 a.2.1 b.2.1 (aZ ha.b) n (by omega))).trans ?_;rfl
theorem f13(a b:aH)(ha:SzS a)(hb':SzS b):Ran p 7 13 [va K34 a, va K34 b] (rO K4 (HT a b,())):=go13 λn hn=>Ev.now λaA=>by
 show T13 (aK p n) aA a b=oB (HT a b)
 unfold T13 HT;refine(bA (f12 a b ha hb' n (by omega))).trans ?_
 cases aP a with
 | false=>rfl
 | true=>cases aP b with
  | false=>rfl
  | true=>refine(aL rfl).trans ?_;refine(aB (f14 (cF a b) b (jK a b) n (by omega))).trans ?_;rfl
theorem f149(s:aH)(id:Int)(hz:SzS s):Ran p 4 149 [va K34 s, vf K3 (id,())] (rO K3 (gone s id,())):=go149 λn hn=>Ev.now λaA=>by
 unfold T149 gone;refine(aB (f25 s (aZ hz.a) (aZ hz.b) n (by omega))).trans ?_
 cases hs:aP s with
 | false=>rfl
 | true=>
  refine(aF rfl).trans ?_;refine(bA (f62 s id (aZ hz.a) n (by omega))).trans ?_
  rcases qL ((aS s).1 hs).pos id with ⟨x,_,e⟩ | e<;>rw[e]
  ·refine(aF rfl).trans ?_;show(bif x.2.1==0 then _ else _)=(some ((rO K3 (bif true then(bif true then(bif x.2.1==0 then _ else _)else _)else _,())):Out):Option Out)
   cases x.2.1==0<;>rfl
  ·refine(aL rfl).trans ?_;refine(aB (f54 s id (aZ hz.b) n (by omega))).trans ?_;rfl
theorem f181(s:aH)(id:Int)(hz:SzS s):Ran p 5 181 [va K34 s, vf K3 (id,())] ⟨[⟨K69,(oT s id).1⟩,⟨K4,((oT s id).2,())⟩],[]⟩:=go181 λn hn=>Ev.now λaA=>by
 unfold T181;refine(aB (f49 s hz n (by omega))).trans ?_;refine(bA (f62 (rR s,[],()) id (aZ (KB hz)) n (by omega))).trans ?_;rfl
theorem f15(w:a9)(hz:SzW w):Ran p 9 15 [va K28 w] (rO K34 (A1 w)):=go15 λn hn=>by
 cases hw:bJ w with
 | false=>
  refine Ev.now λaA=>?_
  unfold T15 A1;refine(aB (f20 w hz n (by omega))).trans ?_;rw[hw];rfl
 | true=>
  have lp:It (λaA (_:Unit)=>c15_5 (aK p n) aA w) ((0:Int),([]:List bM),([]:List aR)) (λ_=>rV K34 (g9 (dP w) w.2.2.1.length)):=by
   refine It.run (λi=>((i:Int),(g9 (dP w) i).1,(g9 (dP w) i).2.1)) w.2.2.1.length (λi hi aA u rec=>?_) (It.stop λaA u rec=>?_)
   ·have hb:=cB hi hz.said
    show c15_5 (aK p n) aA w rec ((i:Int),(g9 (dP w) i).1,(g9 (dP w) i).2.1)=_
    unfold c15_5;dsimp only;rw[aM hb];refine(aE (Int.ofNat_lt.2 hi)).trans ?_;refine bif_nn.trans ?_;refine(aJ hi).trans ?_;refine(aB (f31 (g9 (dP w) i) (dP w i) (LV _ i) (hz.part i hi) n (by omega))).trans ?_;rfl
   ·show c15_5 (aK p n) aA w rec ((w.2.2.1.length:Int),(g9 (dP w) w.2.2.1.length).1,(g9 (dP w) w.2.2.1.length).2.1)=_
    unfold c15_5;refine(aI (Int.lt_irrefl _)).trans ?_;rfl
  have e:A1 w=g9 (dP w) w.2.2.1.length:=by unfold A1;rw[hw];rfl
  rw[e]
  exact Ev.eq (λaA=>by unfold T15;refine(aB (f20 w hz n (by omega))).trans ?_;rw[hw];rfl) (lp.ev (i:=()) rfl)
theorem f8(w:a9)(x m:Int)(hz:SzW w):Ran p 9 8 [va K28 w, vf K3 (x,()), vf K3 (m,())] (rO K34 (dL w x m)):=go8 λn hn=>by
 cases hw:bJ w with
 | false=>
  refine Ev.now λaA=>?_
  unfold T8 dL;refine(aB (f20 w hz n (by omega))).trans ?_;rw[hw];rfl
 | true=>
  have lp:It (λaA (_:Unit)=>c8_6 (aK p n) aA w x m) ((0:Int),(0:Int),([]:List bM),([]:List aR)) (λ_=>rV K34 ((bC w x m w.2.2.1.length).2)):=by
   refine It.run (λi=>((bC w x m i).1,(i:Int),(bC w x m i).2.1,(bC w x m i).2.2.1)) w.2.2.1.length (λi hi aA u rec=>?_) (It.stop λaA u rec=>?_)
   ·have hb:=cB hi hz.said
    have hv:=lM w x m i
    have hl:w.2.2.1.length<=1048576:=hz.said
    show c8_6 (aK p n) aA w x m rec ((bC w x m i).1,(i:Int),(bC w x m i).2.1,(bC w x m i).2.2.1)=rec ((bC w x m (i+1)).1,((i+1:Nat):Int),(bC w x m (i+1)).2.1,(bC w x m (i+1)).2.2.1)
    have hs:bC w x m (i+1)=bif(gt w.2.2.1 i).1==x&&decide ((bC w x m i).1<m)then((bC w x m i).1+1,cF (bC w x m i).2 (dP w i))else bC w x m i:=rfl
    rw[hs]
    unfold c8_6;dsimp only;rw[aM hb];refine(aE (Int.ofNat_lt.2 hi)).trans ?_;refine bif_nn.trans ?_;refine(aJ hi).trans ?_
    show(bif(gt w.2.2.1 i).1==x then _ else _)=_
    cases (gt w.2.2.1 i).1==x with
    | false=>rfl
    | true=>
     refine(aL rfl).trans ?_
     by_cases hc:(bC w x m i).1<m
     ·refine(aE hc).trans ?_;rw[decide_eq_true hc];refine(aB (f31 (bC w x m i).2 (dP w i) hv.2.2.1 (hz.part i hi) n (by omega))).trans ?_;rw[u4 (by omega) (by omega)];rfl
     ·refine(aI hc).trans ?_;rw[decide_eq_false hc];rfl
   ·show c8_6 (aK p n) aA w x m rec ((bC w x m w.2.2.1.length).1,(w.2.2.1.length:Int),(bC w x m w.2.2.1.length).2.1,(bC w x m w.2.2.1.length).2.2.1)=_
    unfold c8_6;refine(aI (Int.lt_irrefl _)).trans ?_;rfl
  have e:dL w x m=(bC w x m w.2.2.1.length).2:=by unfold dL;rw[hw];rfl
  rw[e]
  exact Ev.eq (λaA=>by unfold T8;refine(aB (f20 w hz n (by omega))).trans ?_;rw[hw];rfl) (lp.ev (i:=()) rfl)
theorem f10(w:a9)(x m:Int)(hz:SzW w):Ran p 9 10 [va K28 w, vf K3 (x,()), vf K3 (m,())] (rO K34 (dL w x m)):=go10 λn hn=>by
 cases hw:bJ w with
 | false=>
  refine Ev.now λaA=>?_
  unfold T10 dL;refine(aB (f11 w hz n (by omega))).trans ?_;rw[hw];rfl
 | true=>
  have key:∀ d i,i+d=w.2.2.1.length->It (λaA (_:Unit)=>c10_6 (aK p n) aA w x m) ((bC w x m i).1,(i:Int),(bC w x m i).2.1,(bC w x m i).2.2.1) (λ_=>rV K34 ((bC w x m w.2.2.1.length).2)):=by
   intro d
   induction d with
   | zero=>
    intro i hi
    have:i=w.2.2.1.length:=by omega
    subst this
    refine It.stop λaA u rec=>?_
    show c10_6 (aK p n) aA w x m rec ((bC w x m w.2.2.1.length).1,(w.2.2.1.length:Int),(bC w x m w.2.2.1.length).2.1,(bC w x m w.2.2.1.length).2.2.1)=_
    unfold c10_6;refine(aI (Int.lt_irrefl _)).trans ?_;rfl
   | succ d ih=>
    intro i hi'
    have hi:i<w.2.2.1.length:=by omega
    have hb:=cB hi hz.said
    have hv:=lM w x m i
    have hl:w.2.2.1.length<=1048576:=hz.said
    by_cases hc:(bC w x m i).1<m
    ·refine It.next (λaA u rec=>?_) (ih (i+1) (by omega))
     show c10_6 (aK p n) aA w x m rec ((bC w x m i).1,(i:Int),(bC w x m i).2.1,(bC w x m i).2.2.1)=rec ((bC w x m (i+1)).1,((i+1:Nat):Int),(bC w x m (i+1)).2.1,(bC w x m (i+1)).2.2.1)
     have hs:bC w x m (i+1)=bif(gt w.2.2.1 i).1==x&&decide ((bC w x m i).1<m)then((bC w x m i).1+1,cF (bC w x m i).2 (dP w i))else bC w x m i:=rfl
     rw[hs,decide_eq_true hc]
     unfold c10_6;dsimp only;rw[aM hb];refine(aE (Int.ofNat_lt.2 hi)).trans ?_;refine(aE hc).trans ?_;refine bif_nn.trans ?_;refine(aJ hi).trans ?_
     show(bif(gt w.2.2.1 i).1==x then _ else _)=_
     cases (gt w.2.2.1 i).1==x with
     | false=>rfl
     | true=>refine(aL rfl).trans ?_;refine bif_nn.trans ?_;refine(aJ hi).trans ?_;refine(aB (f32 (bC w x m i).2 (dP w i) hv.2.2.1 (hz.part i hi) hv.2.2.2 ((aS _).1 (tH hw hi)).pos n (by omega))).trans ?_;rw[u4 (by omega) (by omega)];rfl
    ·refine It.stop λaA u rec=>?_
     have e:=wM hc (d+1)
     rw[show i+(d+1)=w.2.2.1.length from hi'] at e
     rw[e]
     show c10_6 (aK p n) aA w x m rec ((bC w x m i).1,(i:Int),(bC w x m i).2.1,(bC w x m i).2.2.1)=_
     unfold c10_6;refine(aE (Int.ofNat_lt.2 hi)).trans ?_;refine(aI hc).trans ?_;rfl
  have e:dL w x m=(bC w x m w.2.2.1.length).2:=by unfold dL;rw[hw];rfl
  rw[e]
  exact Ev.eq (λaA=>by unfold T10;refine(aB (f11 w hz n (by omega))).trans ?_;rw[hw];rfl) ((key _ 0 (Nat.zero_add _)).ev (i:=()) rfl)
end Go.Abs.Wz
namespace Go.Abs.Wz
open Go Go.Abs
end Go.Abs.Wz
namespace Go.Abs.Wz
open Go Go.Abs
theorem O5(xs:List bM):cnT (.sl K71) xs=6*(xs.length:Int):=jS (c:=cnR K71) (n:=6) (λx=>rfl) xs
theorem MA(xs:List aR):cnT (.sl K73) xs=2*(xs.length:Int):=jS (c:=cnR K73) (n:=2) (λx=>rfl) xs
theorem xW(xs:List aO):cnT (.sl K3) xs=1*(xs.length:Int):=jS (c:=cnR K3) (n:=1) (λx=>rfl) xs
end Go.Abs.Wz
namespace Go.Abs.Wz
open Go Go.Abs
def DG:bT:=(List.replicate ((5:Int)).toNat (eV K3),())
def dU(n:Int):List bT:=bif inB n 1 5 then List.replicate n.toNat DG else[]
theorem f146(a:Int):Ran p 2 146 [vf K3 (a,())] (rO K50 (dU a,())):=go146 λn hn=>by
 cases h:inB a 1 5 with
 | false=>exact Ev.now λaA=>by unfold T146 dU;refine(aB (f33 a 1 5 n (by omega))).trans ?_;rw[h];rfl
 | true=>
  have ha:=aV.1 h
  have lp:It (λaA (_:Unit)=>c146_5 (aK p n) aA a) ((0:Int),([]:List (Row K44))) (λ_=>rV K50 (dU a,())):=by
   refine It.run (λi=>((i:Int),List.replicate i DG)) a.toNat (λi hi aA u rec=>?_) (It.stop λaA u rec=>?_)
   ·show c146_5 (aK p n) aA a rec ((i:Int),List.replicate i DG)=rec (((i+1:Nat):Int),List.replicate (i+1) DG)
    unfold c146_5;dsimp only;rw[aM (by omega)];refine(aE (by omega)).trans ?_;refine(aL (by decide)).trans ?_;refine(aE ?_).trans ?_
    ·show List.length (List.replicate i DG)+1<=bound;rw[List.length_replicate];unfold bound;omega
    ·rw[List.replicate_succ'];rfl
   ·show c146_5 (aK p n) aA a rec ((a.toNat:Int),List.replicate a.toNat DG)=_
    unfold c146_5;dsimp only;refine(aI (by omega)).trans ?_;unfold dU;rw[h];rfl
  exact Ev.eq (λaA=>by unfold T146;refine(aB (f33 a 1 5 n (by omega))).trans ?_;rw[h];rfl) (lp.ev (i:=()) rfl)
def SM:NodeT:=((0:Int),(0:Int),[],[],[],(0:Int),(0:Int),(0:Int),[],[],[],[],(0:Int),(0:Int),[],(0:Int),(0:Int),(0:Int),[],())
def gK(id n cap slots wait lim:Int):NodeT:=(id,n,[],[],(cJ ([],[],())).1,(cJ ([],[],())).2.1,cap,(0:Int),[],List.replicate n.toNat (eV K3),List.replicate n.toNat (eV K3),dU n,
 (0:Int),slots,[],wait,lim,(0:Int),List.replicate ((5:Int)).toNat (eV K103),())
theorem yL(s:aH):(cJ s).1.length<=4:=by
 unfold cJ;cases aP s with
 | true=>exact Nat.le_refl 4
 | false=>exact Nat.zero_le _
theorem OE:SzN SM:=⟨⟨Nat.zero_le _,Nat.zero_le _⟩,Nat.zero_le _,Nat.zero_le _,(λi hi=>absurd hi (Nat.not_lt_zero _)),Nat.zero_le _,Nat.zero_le _,Nat.zero_le _,(λi hi=>absurd hi (Nat.not_lt_zero _)),Nat.zero_le _,Nat.zero_le _⟩
theorem C3{n:Int}(h:inB n 1 5=true):(dU n).length<=5:=by
 have:=aV.1 h
 unfold dU;rw[h];show(List.replicate n.toNat DG).length<=5;rw[List.length_replicate];omega
theorem n8{n:Int}(h:inB n 1 5=true){i:Nat}(hi:i<(dU n).length):gt (dU n) i=DG:=by
 rw[cY hi];unfold dU;simp[h]
theorem sR(id n cap slots wait lim:Int)(h:inB n 1 5=true):SzN (gK id n cap slots wait lim):=by
 have hh:=aV.1 h
 have e:List.length (List.replicate n.toNat (eV K3))<=aW:=by rw[List.length_replicate];unfold aW;omega
 refine⟨⟨Nat.zero_le _,Nat.zero_le _⟩,Nat.le_trans (yL _) (by decide),Nat.zero_le _,(λi hi=>absurd hi (Nat.not_lt_zero _)),e,e,Nat.le_trans (C3 h) (by decide),λi hi=>?_,Nat.zero_le _,?_⟩
 ·rw[show gt (gK id n cap slots wait lim).seen i=DG from n8 h hi];decide
 ·show List.length (List.replicate ((5:Int)).toNat (eV K103))<=aW
  rw[List.length_replicate];decide
def pN(id n cap slots wait lim:Int):Bool:=inB n 1 5&&dY (gK id n cap slots wait lim)
def qB(id n cap slots wait lim:Int):NodeT:=bif pN id n cap slots wait lim then gK id n cap slots wait lim else SM
theorem s00:SzS ([],[],()):=⟨Nat.zero_le _,Nat.zero_le _⟩
theorem dd{n:Int}(h:inB n 1 5=true):(decide (0<=n)&&decide (n<=(bound:Int))&&decide (n=n))=true:=by
 have:=aV.1 h
 unfold bound;simp;omega
theorem f122(id m cap slots wait lim:Int):Ran p 8 122 [vf K3 (id,()), vf K3 (m,()), vf K3 (cap,()), vf K3 (slots,()), vf K3 (wait,()), vf K3 (lim,())] ⟨[⟨K54,qB id m cap slots wait lim⟩,⟨K4,(pN id m cap slots wait lim,())⟩],[]⟩:=go122 λn hn=>Ev.now λaA=>by
 show T122 (aK p n) aA id m cap slots wait lim=some ⟨[⟨K54,qB id m cap slots wait lim⟩,⟨K4,(pN id m cap slots wait lim,())⟩],[]⟩
 unfold T122 qB pN
 refine(aB (f33 m 1 5 n (by omega))).trans ?_
 cases h:inB m 1 5 with
 | false=>rfl
 | true=>
  refine(aF rfl).trans ?_
  refine(aB (f65 ([],[],()) s00 n (by omega))).trans ?_
  refine(aL (dd h)).trans ?_;refine(aL (dd h)).trans ?_
  refine(aB (f146 m n (by omega))).trans ?_
  refine(aL (by decide)).trans ?_
  refine(aB (f34 (gK id m cap slots wait lim) (sR _ _ _ _ _ _ h) n (by omega))).trans ?_
  cases dY (gK id m cap slots wait lim)<;>rfl
theorem OG(id n cap slots wait lim:Int):SzN (qB id n cap slots wait lim):=by
 unfold qB
 cases h:pN id n cap slots wait lim with
 | false=>exact OE
 | true=>exact sR _ _ _ _ _ _ (by unfold pN at h;simp only[Bool.and_eq_true] at h;exact h.1)
def eK(n cap slots wait lim:Int)(k:Nat):List NodeT:=(List.range k).map fun(i:Nat)=>qB (i:Int) n cap slots wait lim
theorem DP(n cap slots wait lim:Int)(k:Nat):eK n cap slots wait lim (k+1)=eK n cap slots wait lim k++[qB (k:Int) n cap slots wait lim]:=by
 unfold eK;rw[List.range_succ,List.map_append];rfl
theorem gX(n cap slots wait lim:Int)(k:Nat):(eK n cap slots wait lim k).length=k:=by unfold eK;simp
theorem sQ(n cap slots wait lim:Int){k i:Nat}(h:i<k):gt (eK n cap slots wait lim k) i=qB (i:Int) n cap slots wait lim:=by
 rw[cY (by rw[gX];exact h)];unfold eK;simp
def dF(n:Int):Nat:=min n.toNat 6
def wnW(n cap slots wait lim:Int):a9:=(eK n cap slots wait lim (dF n),[],[],())
def A9(n cap slots wait lim:Int):Bool:=bJ (wnW n cap slots wait lim)
def wF(n cap slots wait lim:Int):a9:=bif A9 n cap slots wait lim then wnW n cap slots wait lim else([],[],[],())
theorem yH(n:Int):dF n<=6:=Nat.min_le_right _ _
theorem MS(n cap slots wait lim:Int):SzW (wnW n cap slots wait lim):=by
 have hc:=yH n
 refine⟨?_,λi hi=>?_,Nat.zero_le _,Nat.zero_le _,λi hi=>absurd hi (Nat.not_lt_zero _)⟩
 ·show(eK n cap slots wait lim (dF n)).length<=aW
  rw[gX];unfold aW;omega
 ·have hi':i<dF n:=by rw[<- gX n cap slots wait lim (dF n)];exact hi
  rw[show gt (wnW n cap slots wait lim).1 i=_ from sQ n cap slots wait lim hi']
  exact OG _ _ _ _ _ _
theorem MR{n cap slots wait lim:Int}(h:bR (dF n) (λi=>pN (i:Int) n cap slots wait lim)=false):A9 n cap slots wait lim=false:=by
 cases hw:A9 n cap slots wait lim with
 | false=>rfl
 | true=>
  have:bR (dF n) (λi=>pN (i:Int) n cap slots wait lim)=true:=by
   rw[bL]
   intro i hi
   have hn:=CX (w:=wnW n cap slots wait lim) hw (i:=i) (by show i<(eK n cap slots wait lim (dF n)).length;rw[gX];exact hi)
   rw[show gt (wnW n cap slots wait lim).1 i=_ from sQ n cap slots wait lim hi] at hn
   cases hx:pN (i:Int) n cap slots wait lim with
   | true=>rfl
   | false=>unfold qB at hn;rw[hx] at hn;exact hn
  rw[this] at h;cases h
theorem f119(m cap slots wait lim:Int):Ran p 9 119 [vf K3 (m,()), vf K3 (cap,()), vf K3 (slots,()), vf K3 (wait,()), vf K3 (lim,())] ⟨[⟨K28,wF m cap slots wait lim⟩,⟨K4,(A9 m cap slots wait lim,())⟩],[]⟩:=go119 λn hn=>by
 have hc:=yH m
 have hrest:∀ β,β=(((aK p n 11 [va K28 (wnW m cap slots wait lim)]).bind (dQ [K4] [])).bind λo2=>(bif(!(vB o2.1.1.1))then(some (⟨[⟨K28,(([],[],[],()):a9)⟩,⟨K4,(false,())⟩],[]⟩:Out))else(some ⟨[⟨K28,wnW m cap slots wait lim⟩,⟨K4,(true,())⟩],[]⟩)))->
   β=some ⟨[⟨K28,wF m cap slots wait lim⟩,⟨K4,(A9 m cap slots wait lim,())⟩],[]⟩:=by
  intro β h
  rw[h]
  refine(aB (f11 (wnW m cap slots wait lim) (MS _ _ _ _ _) n (by omega))).trans ?_
  unfold wF A9
  cases bJ (wnW m cap slots wait lim)<;>rfl
 have lp:It (λaA (_:Unit)=>c119_3 (aK p n) aA m cap slots wait lim) ((0:Int),([]:List (Row K54)))
   (λ_=>bif bR (dF m) (λi=>pN (i:Int) m cap slots wait lim)then some ⟨[⟨K28,wF m cap slots wait lim⟩,⟨K4,(A9 m cap slots wait lim,())⟩],[]⟩else some ⟨[⟨K28,(([],[],[],()):a9)⟩,⟨K4,(false,())⟩],[]⟩):=by
  refine It.all (λi=>((i:Int),eK m cap slots wait lim i)) (dF m) (λi=>pN (i:Int) m cap slots wait lim) (rA:=λ_=>(some ⟨[⟨K28,wF m cap slots wait lim⟩,⟨K4,(A9 m cap slots wait lim,())⟩],[]⟩:Option Out)) (rB:=λ_=>(some ⟨[⟨K28,(([],[],[],()):a9)⟩,⟨K4,(false,())⟩],[]⟩:Option Out)) (λi hi aA u rec=>?_) (It.stop λaA u rec=>?_)
  ·show c119_3 (aK p n) aA m cap slots wait lim rec ((i:Int),eK m cap slots wait lim i)=bif pN (i:Int) m cap slots wait lim then rec (((i+1:Nat):Int),eK m cap slots wait lim (i+1))else _
   have hi':i<m.toNat/\i<6:=by unfold dF at hi;omega
   unfold c119_3;dsimp only;rw[aM (by omega)];refine(aE (by omega)).trans ?_;refine(aE (by omega)).trans ?_
   refine(bA (f122 (i:Int) m cap slots wait lim n (by omega))).trans ?_
   cases hx:pN (i:Int) m cap slots wait lim with
   | false=>rfl
   | true=>
    refine(aF rfl).trans ?_
    refine(aE ?_).trans ?_
    ·show List.length (eK m cap slots wait lim i)+1<=bound;rw[gX];unfold bound;omega
    ·rw[DP];rfl
  ·show c119_3 (aK p n) aA m cap slots wait lim rec ((dF m:Int),eK m cap slots wait lim (dF m))=_
   refine hrest _ ?_
   unfold c119_3;dsimp only
   by_cases h:((dF m:Nat):Int)<m
   ·refine(aE h).trans ?_
    refine(aI (by unfold dF at h ⊢;omega)).trans ?_
    rfl
   ·refine(aI h).trans ?_
    rfl
 refine Ev.eq (λaA=>by unfold T119;rfl) (lp.ev (i:=()) ?_)
 cases hx:bR (dF m) (λi=>pN (i:Int) m cap slots wait lim)with
 | true=>rfl
 | false=>
  show some _=some _
  unfold wF
  rw[MR hx];rfl
end Go.Abs.Wz
