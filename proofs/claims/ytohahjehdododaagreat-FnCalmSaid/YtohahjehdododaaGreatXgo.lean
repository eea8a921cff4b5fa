/- What the functions of this program answer, part go. -/
import Derived.Test.YtohahjehdododaaGreatXep
import Derived.Test.YtohahjehdododaaGreatW3
import Derived.Test.YtohahjehdododaaGreatW2
import Derived.Test.YtohahjehdododaaGreatXa
set_option linter.unusedVariables false
open Go.IntKind (i64)
namespace Go.Abs.Wz
open Go Go.Abs
theorem SH{α:Type}{a b:Bool}{F R:α}:(bif a then(bif !b then F else R)else F)=bif a&&b then R else F:=by cases a<;>cases b<;>rfl
theorem two{α:Type}{a b:Bool}{X R:α}:(bif a then(bif b then X else R)else R)=bif a&&b then X else R:=by cases a<;>cases b<;>rfl
theorem aZ{k:Nat}(h:k<=aW):k<=maxLen:=Nat.le_trans h (by decide)
theorem bU{i k:Nat}(hi:i<k)(h:k<=aW):i<9223372036854775807:=Nat.lt_of_lt_of_le hi (Nat.le_trans h (by decide))

theorem f66(l:f8)(hl:l.2.2.1.length<=aW)(hs:∀ i,i<l.2.2.1.length->SzS (gt l.2.2.1 i)):Ran p 4 66 [va K49 l] (rO K4 (gR l,())):=go66 λn hn=>by
 have lp:It (λaA (_:Unit)=>c66_4 (aK p n) aA l) (0:Int) (λ_=>oB (bL l.2.2.1.length λi=>aS (gt l.2.2.1 i))):=by
  refine cO (It.allB l.2.2.1.length _ true (λi hi aA a rec=>?_) (It.stop λaA a rec=>?_))
  ·have hb:=bU hi hl
   show c66_4 (aK p n) aA l rec (i:Int)=_
   unfold c66_4;rw[aL hb];refine(aE (Int.ofNat_lt.2 hi)).trans ?_;refine bif_nn.trans ?_;refine(aH hi).trans ?_;refine(aB (f25 (gt l.2.2.1 i) (aZ (hs i hi).a) (aZ (hs i hi).b) n (by omega))).trans ?_;exact fin
  ·show c66_4 (aK p n) aA l rec (l.2.2.1.length:Int)=_
   unfold c66_4;refine(aI (Int.lt_irrefl _)).trans ?_;rfl
 obtain⟨N,hN⟩:=lp.all_i
 refine⟨N,λaA hf=>?_⟩
 show T66 (aK p n) aA l=oB (gR l)
 unfold T66 gR;refine(aB (f33 l.1 1 8 n (by omega))).trans ?_;refine dE λ_=>?_;refine uU λ_=>?_;refine(aB (f33 l.2.1 0 100000 n (by omega))).trans ?_;refine dE λ_=>?_;refine uU λ_=>?_;exact hN aA hf ()
theorem f84(l:f8)(hl:l.2.2.1.length<=aW)(hs:∀ i,i<l.2.2.1.length->SzS (gt l.2.2.1 i)):Ran p 4 84 [va K49 l] (rO K4 (gR l,())):=go84 λn hn=>by
 have lp:It (λaA (_:Unit)=>c84_2 (aK p n) aA l) (0:Int) (λ_=>oB (HS l)):=by
  refine It.allB l.2.2.1.length _ _ (λi hi aA a rec=>?_) (It.stop λaA a rec=>?_)
  ·have hb:=bU hi hl
   show c84_2 (aK p n) aA l rec (i:Int)=_
   unfold c84_2;rw[aL hb];refine(aE (Int.ofNat_lt.2 hi)).trans ?_;refine bif_nn.trans ?_;refine(aH hi).trans ?_;refine(aB (f35 (gt l.2.2.1 i) (aZ (hs i hi).a) (aZ (hs i hi).b) n (by omega))).trans ?_;exact fin
  ·show c84_2 (aK p n) aA l rec (l.2.2.1.length:Int)=_
   unfold c84_2;refine(aI (Int.lt_irrefl _)).trans ?_;refine(aB (f43 l.1 1 8 n (by omega))).trans ?_;refine iK λ_=>?_;refine iK λ_=>?_;refine(aB (f43 l.2.1 0 100000 n (by omega))).trans ?_;refine iK λ_=>?_;rfl
 rw[RU] at lp
 exact Ev.eq (λaA=>by unfold T84;rfl) (lp.ev (i:=()) rfl)
theorem f68(l:f8)(hl:l.2.2.1.length<=aW)(hs:∀ i,i<l.2.2.1.length->SzS (gt l.2.2.1 i)):Ran p 5 68 [va K49 l] (rO K3 (cE l,())):=go68 λn hn=>Ev.now λaA=>by
 unfold T68 cE;refine(aB (f66 l hl hs n (by omega))).trans ?_;cases gR l<;>rfl
theorem f83(l:f8)(hl:l.2.2.1.length<=aW)(hs:∀ i,i<l.2.2.1.length->SzS (gt l.2.2.1 i)):Ran p 5 83 [va K49 l] (rO K3 (cE l,())):=go83 λn hn=>Ev.now λaA=>by
 unfold T83 cE;refine(aB (f84 l hl hs n (by omega))).trans ?_;cases gR l<;>rfl
theorem f67(v:List aO)(m:Int)(hv:v.length<=aW):Ran p 2 67 [vf K44 (v,()), vf K3 (m,())] (rO K4 (eG v m,())):=go67 λn hn=>by
 have lp:∃ N,∀ aA,N<=aA->((v.length:Int)==m)=true->iter (c67_4 (aK p n) aA v m) aA (0:Int)=oB (bL v.length λi=>inB (gt v i).1 0 100000):=by
  cases he:(v.length:Int)==m with
  | false=>exact⟨0,λ_ _ h=>by cases h⟩
  | true=>
   have e:m=(v.length:Int):=(eq_of_beq he).symm
   subst e
   have lp:It (λaA (_:Unit)=>c67_4 (aK p n) aA v (v.length:Int)) (0:Int) (λ_=>oB (bL v.length λi=>inB (gt v i).1 0 100000)):=by
    refine cO (It.allB v.length _ true (λi hi aA a rec=>?_) (It.stop λaA a rec=>?_))
    ·have hb:=bU hi hv
     show c67_4 (aK p n) aA v (v.length:Int) rec (i:Int)=_
     unfold c67_4;rw[aL hb];refine(aE (Int.ofNat_lt.2 hi)).trans ?_;refine bif_nn.trans ?_;refine(aH hi).trans ?_;refine(aB (f33 (gt v i).1 0 100000 n (by omega))).trans ?_;exact fin
    ·show c67_4 (aK p n) aA v (v.length:Int) rec (v.length:Int)=_
     unfold c67_4;refine(aI (Int.lt_irrefl _)).trans ?_;rfl
   obtain⟨N,hN⟩:=lp.all_i
   exact⟨N,λaA hf _=>hN aA hf ()⟩
 obtain⟨N,hN⟩:=lp
 refine⟨N,λaA hf=>?_⟩
 show T67 (aK p n) aA v m=oB (eG v m)
 unfold T67 eG;refine(aB (f33 m 1 5 n (by omega))).trans ?_;refine dE λ_=>?_;refine dE λh=>?_;exact hN aA hf h
theorem f85(v:List aO)(m:Int)(hv:v.length<=aW):Ran p 2 85 [vf K44 (v,()), vf K3 (m,())] (rO K4 (eG v m,())):=go85 λn hn=>by
 have lp:It (λaA (_:Unit)=>c85_2 (aK p n) aA v m) (0:Int) (λ_=>oB (GR v m)):=by
  refine It.allB v.length _ _ (λi hi aA a rec=>?_) (It.stop λaA a rec=>?_)
  ·have hb:=bU hi hv
   show c85_2 (aK p n) aA v m rec (i:Int)=_
   unfold c85_2;rw[aL hb];refine(aE (Int.ofNat_lt.2 hi)).trans ?_;refine bif_nn.trans ?_;refine(aH hi).trans ?_;refine(aB (f43 (gt v i).1 0 100000 n (by omega))).trans ?_;exact fin
  ·show c85_2 (aK p n) aA v m rec (v.length:Int)=_
   unfold c85_2;refine(aI (Int.lt_irrefl _)).trans ?_;refine(aB (f43 m 1 5 n (by omega))).trans ?_;refine iK λ_=>?_;rfl
 rw[QJ] at lp
 exact Ev.eq (λaA=>by unfold T85;rfl) (lp.ev (i:=()) rfl)
theorem f69(t:List bQ)(m:Int)(hv:t.length<=aW)(hr:∀ k,k<t.length->(gt t k).1.length<=aW):Ran p 2 69 [vf K50 (t,()), vf K3 (m,())] (rO K4 (gN t m,())):=go69 λn hn=>by
 have inner:∀ k,k<t.length->It (λaA rec4=>c69_9 (aK p n) aA t m (k:Int) rec4) (0:Int) (fun(rec4:Int->Option Out)=>bif(bL (gt t k).1.length λi=>inB (gt (gt t k).1 i).1 0 1000)then rec4 ((k+1:Nat):Int)else oB false):=by
  intro k hk
  have hkb:=bU hk hv
  refine It.all (λi=>(i:Int)) (gt t k).1.length _ (rA:=fun(rec4:Int->Option Out)=>rec4 ((k+1:Nat):Int)) (rB:=λ_=>oB false) (λi hi aA rec4 rec=>?_) (It.stop λaA rec4 rec=>?_)
  ·have hb:=bU hi (hr k hk)
   show c69_9 (aK p n) aA t m (k:Int) rec4 rec (i:Int)=_
   unfold c69_9;rw[aL hb];refine bif_nn.trans ?_;refine(aH hk).trans ?_;refine(aE (Int.ofNat_lt.2 hi)).trans ?_;refine bif_nn.trans ?_;refine(aH hk).trans ?_;refine bif_nn.trans ?_;refine(aH hi).trans ?_;refine(aB (f33 (gt (gt t k).1 i).1 0 1000 n (by omega))).trans ?_;exact fin
  ·show c69_9 (aK p n) aA t m (k:Int) rec4 rec (((gt t k).1.length:Nat):Int)=_
   unfold c69_9;rw[aL hkb];refine bif_nn.trans ?_;refine(aH hk).trans ?_;refine(aI (Int.lt_irrefl _)).trans ?_;rfl
 have lp:∃ N,∀ aA,N<=aA->((t.length:Int)==m)=true->iter (c69_4 (aK p n) aA t m) aA (0:Int)=oB (bL t.length λk=>sP (gt t k)):=by
  cases he:(t.length:Int)==m with
  | false=>exact⟨0,λ_ _ h=>by cases h⟩
  | true=>
   have e:m=(t.length:Int):=(eq_of_beq he).symm
   subst e
   have lp:It (λaA (_:Unit)=>c69_4 (aK p n) aA t (t.length:Int)) (0:Int) (λ_=>oB (bL t.length λk=>sP (gt t k))):=by
    refine cO (It.allBE t.length _ true (λk hk=>?_) (It.stop λaA a rec=>?_))
    ·obtain⟨N,hN⟩:=(inner k hk).all_i
     refine⟨N,λaA hf a rec=>?_⟩
     show c69_4 (aK p n) aA t (t.length:Int) rec (k:Int)=_
     unfold c69_4 sP;refine(aE (Int.ofNat_lt.2 hk)).trans ?_;refine bif_nn.trans ?_;refine(aH hk).trans ?_;refine chk λ_=>?_;exact hN aA hf rec
    ·show c69_4 (aK p n) aA t (t.length:Int) rec (t.length:Int)=_
     unfold c69_4;refine(aI (Int.lt_irrefl _)).trans ?_;rfl
   obtain⟨N,hN⟩:=lp.all_i
   exact⟨N,λaA hf _=>hN aA hf ()⟩
 obtain⟨N,hN⟩:=lp
 refine⟨N,λaA hf=>?_⟩
 show T69 (aK p n) aA t m=oB (gN t m)
 unfold T69 gN;refine(aB (f33 m 1 5 n (by omega))).trans ?_;refine dE λ_=>?_;refine dE λh=>?_;exact hN aA hf h
theorem f87(t:List bQ)(m:Int)(hv:t.length<=aW)(hr:∀ k,k<t.length->(gt t k).1.length<=aW):Ran p 2 87 [vf K50 (t,()), vf K3 (m,())] (rO K4 (gN t m,())):=go87 λn hn=>by
 have inner:∀ k,k<t.length->It (λaA rec2=>c87_5 (aK p n) aA t m (gt (α:=bQ) t k) (k:Int) rec2) (0:Int) (fun(rec2:Int->Option Out)=>bif(bL (gt t k).1.length λi=>inB (gt (gt t k).1 i).1 0 1000)then(bif !(((gt t k).1.length:Nat):Int)==5 then oB false else rec2 ((k+1:Nat):Int))else oB false):=by
  intro k hk
  have hkb:=bU hk hv
  refine It.all (λi=>(i:Int)) (gt t k).1.length _ (rA:=fun(rec2:Int->Option Out)=>bif !(((gt t k).1.length:Nat):Int)==5 then oB false else rec2 ((k+1:Nat):Int)) (rB:=λ_=>oB false) (λi hi aA rec2 rec=>?_) (It.stop λaA rec2 rec=>?_)
  ·have hb:=bU hi (hr k hk)
   show c87_5 (aK p n) aA t m (gt (α:=bQ) t k) (k:Int) rec2 rec (i:Int)=_
   unfold c87_5;rw[aL hb];refine(aE (Int.ofNat_lt.2 hi)).trans ?_;refine bif_nn.trans ?_;refine(aH hi).trans ?_;refine(aB (f43 (gt (gt t k).1 i).1 0 1000 n (by omega))).trans ?_;exact fin
  ·show c87_5 (aK p n) aA t m (gt (α:=bQ) t k) (k:Int) rec2 rec (((gt t k).1.length:Nat):Int)=_
   unfold c87_5;rw[aL hkb];refine(aI (Int.lt_irrefl _)).trans ?_;rfl
 have lp:It (λaA (_:Unit)=>c87_2 (aK p n) aA t m) (0:Int) (λ_=>oB (yW t m)):=by
  refine It.allBE t.length _ _ (λk hk=>?_) (It.stop λaA a rec=>?_)
  ·obtain⟨N,hN⟩:=(inner k hk).all_i
   refine⟨N,λaA hf a rec=>?_⟩
   show c87_2 (aK p n) aA t m rec (k:Int)=_
   unfold c87_2 yF;refine(aE (Int.ofNat_lt.2 hk)).trans ?_;refine bif_nn.trans ?_;refine(aH hk).trans ?_;exact(hN aA hf rec).trans SH
  ·show c87_2 (aK p n) aA t m rec (t.length:Int)=_
   unfold c87_2;refine(aI (Int.lt_irrefl _)).trans ?_;refine(aB (f43 m 1 5 n (by omega))).trans ?_;refine iK λ_=>?_;rfl
 rw[KI] at lp
 exact Ev.eq (λaA=>by unfold T87;rfl) (lp.ev (i:=()) rfl)
theorem f86(v:List aO)(hv:v.length<=aW)(h0:0<v.length):Ran p 1 86 [vf K44 (v,())] (rO K3 (LM v,())):=go86 λn hn=>by
 obtain⟨k,hk⟩:∃ k,v.length=k+1:=⟨v.length - 1,by omega⟩
 have em:LM v=uC v k:=by unfold LM;rw[hk];rfl
 rw[em]
 have lp:It (λaA (_:Unit)=>c86_5 (aK p n) aA v) ((gt (α:=aO) v 0).1,(1:Int)) (λ_=>oI (uC v k)):=by
  refine It.run (λj=>(uC v j,((j+1:Nat):Int))) k (λj hj aA a rec=>?_) (It.stop λaA a rec=>?_)
  ·have hj1:j+1<v.length:=by omega
   have hb:=bU hj1 hv
   show c86_5 (aK p n) aA v rec (uC v j,((j+1:Nat):Int))=_
   unfold c86_5;dsimp only;rw[aL hb];refine(aE (Int.ofNat_lt.2 hj1)).trans ?_;refine bif_nn.trans ?_;refine(aH hj1).trans ?_;rfl
  ·show c86_5 (aK p n) aA v rec (uC v k,((k+1:Nat):Int))=_
   unfold c86_5;rw[<- hk];refine(aI (Int.lt_irrefl _)).trans ?_;rfl
 refine Ev.eq (λaA=>?_) (lp.ev (i:=()) rfl)
 unfold T86;refine(aI (by show ¬ ((v.length:Int)<1);omega)).trans ?_;refine(aE (by decide)).trans ?_;exact(aH (α:=aO) (xs:=v) (i:=0) h0)
theorem f115(nd:NodeT)(x:Int):Ran p 2 115 [va K54 nd, vf K3 (x,())] (rO K4 (mG nd x,())):=go115 λn hn=>Ev.now λaA=>by
 unfold T115 mG;refine(aB (f43 x 0 (i64.wrap (nd.2.1 - 1)) n (by omega))).trans ?_;refine iK λ_=>?_;rfl
theorem f116(nd:NodeT)(x:Int)(b:Bool)(hv:nd.sess.length<=aW):Ran p 1 116 [va K54 nd, vf K3 (x,()), vf K4 (b,())] (rO K3 (c6 nd.sess x b,())):=go116 λn hn=>by
 have lp:It (λaA (_:Unit)=>c116_2 (aK p n) aA nd x b) (0:Int) (λ_=>oI (c6 nd.sess x b)):=by
  have:=It.first (c:=λaA (_:Unit)=>c116_2 (aK p n) aA nd x b) (λi=>(i:Int)) nd.sess.length (λi=>dQ nd.sess i x b) (λi _=>oI (i:Int)) (λ_=>oI (-1)) (λi hi hp aA a rec=>?_) (λi hi hp=>It.stop λaA a rec=>?_) (It.stop λaA a rec=>?_)
  ·revert this;unfold c6
   cases (List.range nd.sess.length).find? (λi=>dQ nd.sess i x b)<;>exact λh=>h
  ·have hb:=bU hi hv
   show c116_2 (aK p n) aA nd x b rec (i:Int)=_
   unfold c116_2;rw[aL hb];refine(aE (Int.ofNat_lt.2 hi)).trans ?_;refine bif_nn.trans ?_;refine(aH hi).trans ?_;exact two.trans (aF hp)
  ·show c116_2 (aK p n) aA nd x b rec (i:Int)=_
   unfold c116_2;refine(aE (Int.ofNat_lt.2 hi)).trans ?_;refine bif_nn.trans ?_;refine(aH hi).trans ?_;exact two.trans (aM hp)
  ·show c116_2 (aK p n) aA nd x b rec (nd.sess.length:Int)=_
   unfold c116_2;refine(aI (Int.lt_irrefl _)).trans ?_;rfl
 exact Ev.eq (λaA=>by unfold T116;rfl) (lp.ev (i:=()) rfl)
theorem f88(nd:NodeT)(hv:nd.sess.length<=aW):Ran p 3 88 [va K54 nd] (rO K4 (tN nd,())):=go88 λn hn=>by
 have lp:It (λaA (_:Unit)=>c88_2 (aK p n) aA nd) (0:Int) (λ_=>oB (tN nd)):=by
  refine It.allB nd.sess.length _ _ (λi hi aA a rec=>?_) (It.stop λaA a rec=>?_)
  ·have hb:=bU hi hv
   show c88_2 (aK p n) aA nd rec (i:Int)=_
   unfold c88_2 qQ;rw[aL hb];refine(aE (Int.ofNat_lt.2 hi)).trans ?_;refine bif_nn.trans ?_;refine(aH hi).trans ?_;refine(aB (f115 nd (gt nd.sess i).1 n (by omega))).trans ?_;refine chk λ_=>?_;refine(aB (f43 (gt nd.sess i).2.1 0 100000 n (by omega))).trans ?_;refine chk λ_=>?_;refine(aB (f43 (gt nd.sess i).2.2.2.1 0 nd.wait n (by omega))).trans ?_;refine chk λ_=>?_;refine(aB (f116 nd (gt nd.sess i).1 (gt nd.sess i).2.2.1 hv n (by omega))).trans ?_;exact fin
  ·show c88_2 (aK p n) aA nd rec (nd.sess.length:Int)=_
   unfold c88_2;refine(aI (Int.lt_irrefl _)).trans ?_;refine(aB (f43 nd.slots 1 4 n (by omega))).trans ?_;refine iK λ_=>?_;rfl
 exact Ev.eq (λaA=>by unfold T88;rfl) (lp.ev (i:=()) rfl)
theorem f89(nd:NodeT)(hv:nd.rises.length<=aW):Ran p 2 89 [va K54 nd] (rO K4 (tQ nd,())):=go89 λn hn=>by
 have lp:It (λaA (_:Unit)=>c89_2 (aK p n) aA nd) (0:Int) (λ_=>oB (tQ nd)):=by
  refine It.allB nd.rises.length _ _ (λi hi aA a rec=>?_) (It.stop λaA a rec=>?_)
  ·have hb:=bU hi hv
   show c89_2 (aK p n) aA nd rec (i:Int)=_
   unfold c89_2 kH;rw[aL hb];refine(aE (Int.ofNat_lt.2 hi)).trans ?_;refine bif_nn.trans ?_;refine(aH hi).trans ?_;refine(aB (f43 (gt nd.rises i).1 0 1000 n (by omega))).trans ?_;refine chk λ_=>?_;refine(aB (f43 (gt nd.rises i).2.1 0 100000 n (by omega))).trans ?_;refine chk λ_=>?_;refine(aB (f43 (gt nd.rises i).2.2.1 0 nd.clock n (by omega))).trans ?_;exact fin
  ·show c89_2 (aK p n) aA nd rec (nd.rises.length:Int)=_
   unfold c89_2;refine(aI (Int.lt_irrefl _)).trans ?_;rfl
 exact Ev.eq (λaA=>by unfold T89;rfl) (lp.ev (i:=()) rfl)
theorem f70(nd:NodeT)(hv:nd.sess.length<=aW):Ran p 2 70 [va K54 nd] (rO K4 (lU nd,())):=go70 λn hn=>by
 have inner:∀ (o3 o4:Rows [K4]×Rows []) (i:Nat),i<nd.sess.length->It (λaA rec4=>c70_10 (aK p n) aA nd o3 o4 (gt (α:=dM) nd.sess i) (i:Int) rec4) (0:Int) (fun(rec4:Int->Option Out)=>bif B3 nd.sess i then rec4 ((i+1:Nat):Int)else oB false):=by
  intro o3 o4 i hi
  have hib:=bU hi hv
  refine It.all (λk=>(k:Int)) i (λk=> !dQ nd.sess k (gt nd.sess i).1 (gt nd.sess i).2.2.1) (rA:=fun(rec4:Int->Option Out)=>rec4 ((i+1:Nat):Int)) (rB:=λ_=>oB false) (λk hk aA rec4 rec=>?_) (It.stop λaA rec4 rec=>?_)
  ·have hk':k<nd.sess.length:=by omega
   have hb:=bU hk' hv
   show c70_10 (aK p n) aA nd o3 o4 (gt (α:=dM) nd.sess i) (i:Int) rec4 rec (k:Int)=_
   unfold c70_10 dQ;rw[aL hb];refine(aE (Int.ofNat_lt.2 hk)).trans ?_;refine bif_nn.trans ?_;refine(aH hk').trans ?_
   show(bif(gt nd.sess k).1==(gt nd.sess i).1 then _ else _)=bif !((gt nd.sess k).1==(gt nd.sess i).1&&_)then _ else _
   cases (gt nd.sess k).1==(gt nd.sess i).1 with
   | false=>rfl
   | true=>refine(aM rfl).trans ?_;refine bif_nn.trans ?_;refine(aH hk').trans ?_;exact II
  ·show c70_10 (aK p n) aA nd o3 o4 (gt (α:=dM) nd.sess i) (i:Int) rec4 rec (i:Int)=_
   unfold c70_10;rw[aL hib];exact aI (Int.lt_irrefl _)
 have lp:It (λaA (_:Unit)=>c70_4 (aK p n) aA nd) (0:Int) (λ_=>oB (bL nd.sess.length (m7 nd nd.sess))):=by
  refine cO (It.allBE nd.sess.length _ true (λi hi=>?_) (It.stop λaA a rec=>?_))
  ·obtain⟨N,hN⟩:=(inner (((inB (gt nd.sess i).2.1 0 100000,()),()),()) (((inB (gt nd.sess i).2.2.2.1 0 nd.wait,()),()),()) i hi).all_i
   refine⟨N,λaA hf a rec=>?_⟩
   show c70_4 (aK p n) aA nd rec (i:Int)=_
   unfold c70_4 m7;refine(aE (Int.ofNat_lt.2 hi)).trans ?_;refine bif_nn.trans ?_;refine(aH hi).trans ?_;refine(aB (f33 (gt nd.sess i).1 0 (i64.wrap (nd.2.1 - 1)) n (by omega))).trans ?_;refine chk λ_=>?_;refine PY λ_=>?_;refine(aB (f33 (gt nd.sess i).2.1 0 100000 n (by omega))).trans ?_;refine chk λ_=>?_;refine(aB (f33 (gt nd.sess i).2.2.2.1 0 nd.wait n (by omega))).trans ?_;refine chk λ_=>?_;exact hN aA hf rec
  ·show c70_4 (aK p n) aA nd rec (nd.sess.length:Int)=_
   unfold c70_4;refine(aI (Int.lt_irrefl _)).trans ?_;rfl
 obtain⟨N,hN⟩:=lp.all_i
 refine⟨N,λaA hf=>?_⟩
 show T70 (aK p n) aA nd=oB (lU nd)
 unfold T70 lU;refine uU λ_=>?_;exact hN aA hf ()
theorem SU{nd:NodeT}(h1:inB nd.2.1 1 5=true)(h2:inB nd.1 0 (i64.wrap (nd.2.1 - 1))=true)(h3:eG nd.got nd.2.1=true):∃ k:Nat,nd.1=(k:Int)/\k<nd.got.length:=by
 rw[aP] at h1 h2
 rw[uY (by omega) (by omega)] at h2
 unfold eG at h3;simp only[Bool.and_eq_true,beq_iff_eq] at h3
 exact⟨nd.1.toNat,by omega,by omega⟩
theorem f44(nd:NodeT)(hz:SzN nd):Ran p 7 44 [va K54 nd] (rO K4 (dJ nd,())):=go44 λn hn=>Ev.now λaA=>by
 rw[<- N5]
 show T44 (aK p n) aA nd=oB (yB nd)
 unfold T44 yB;refine(aB (f43 nd.2.1 1 5 n (by omega))).trans ?_;refine dE λh1=>?_;refine(aB (f43 nd.1 0 (i64.wrap (nd.2.1 - 1)) n (by omega))).trans ?_;refine dE λh2=>?_;refine(aB (f35 nd.state (aZ hz.state.a) (aZ hz.state.b) n (by omega))).trans ?_;refine dE λ_=>?_;refine(aB (f82 nd.state hz.state n (by omega))).trans ?_;refine(aB (f81 nd.tree (cI nd.state) (aZ hz.leaves) n (by omega))).trans ?_;refine dE λ_=>?_
 refine(aB (f83 nd.log hz.list hz.logs n (by omega))).trans ?_;refine(aB (f84 nd.log hz.list hz.logs n (by omega))).trans ?_;refine dE λ_=>?_;refine(aB (f85 nd.got nd.2.1 hz.got n (by omega))).trans ?_;refine dE λh3=>?_;refine(aB (f85 nd.acked nd.2.1 hz.acked n (by omega))).trans ?_;refine dE λh4=>?_
 obtain⟨k,hk,hlt⟩:=SU h1 h2 h3
 show(bif decide (0<=nd.1)then((at? nd.got (nd.1).toNat).bind _)else none)=_
 rw[hk];refine bif_nn.trans ?_;refine(aH hlt).trans ?_;refine dE λ_=>?_;refine(aB (f86 nd.acked hz.acked (BJ h4) n (by omega))).trans ?_;refine uU λ_=>?_;refine(aB (f87 nd.seen nd.2.1 hz.seen hz.lines n (by omega))).trans ?_;refine dE λ_=>?_;refine(aB (f43 nd.num 0 100000 n (by omega))).trans ?_;refine dE λ_=>?_;refine(aB (f43 nd.clock 0 100000 n (by omega))).trans ?_;refine dE λ_=>?_;refine(aB (f43 nd.wait 1 20 n (by omega))).trans ?_;refine iK λ_=>?_;refine(aB (f43 nd.limit 1 50 n (by omega))).trans ?_;refine iK λ_=>?_;refine(aB (f88 nd hz.sess n (by omega))).trans ?_;refine iK λ_=>?_;refine(aB (f89 nd hz.rises n (by omega))).trans ?_;rfl
theorem f34(nd:NodeT)(hz:SzN nd):Ran p 7 34 [va K54 nd] (rO K4 (dJ nd,())):=go34 λn hn=>by
 have ri:∃ N,∀ aA,N<=aA->((nd.rises.length:Int)==5)=true->iter (c34_13 (aK p n) aA nd) aA (0:Int)=oB (bL nd.rises.length (kH nd)&&lU nd):=by
  cases he:(nd.rises.length:Int)==5 with
  | false=>exact⟨0,λ_ _ h=>by cases h⟩
  | true=>
   have e:nd.rises.length=5:=by have:=eq_of_beq he;omega
   have lp:It (λaA (_:Unit)=>c34_13 (aK p n) aA nd) (0:Int) (λ_=>oB (bL 5 (kH nd)&&lU nd)):=by
    refine It.allB 5 _ _ (λi hi aA a rec=>?_) (It.stop λaA a rec=>?_)
    ·have hb:i<9223372036854775807:=by omega
     have hi':i<nd.rises.length:=by omega
     show c34_13 (aK p n) aA nd rec (i:Int)=_
     unfold c34_13 kH;rw[aL hb];refine(aE (by show(i:Int)<5;omega)).trans ?_;refine bif_nn.trans ?_;refine(aH hi').trans ?_;refine(aB (f33 (gt nd.rises i).1 0 1000 n (by omega))).trans ?_;refine chk λ_=>?_;refine(aB (f33 (gt nd.rises i).2.1 0 100000 n (by omega))).trans ?_;refine chk λ_=>?_;refine(aB (f33 (gt nd.rises i).2.2.1 0 nd.clock n (by omega))).trans ?_;exact fin
    ·show c34_13 (aK p n) aA nd rec (5:Int)=_
     unfold c34_13;refine(aI (by decide)).trans ?_;refine(aB (f70 nd hz.sess n (by omega))).trans ?_;rfl
   rw[e]
   obtain⟨N,hN⟩:=lp.all_i
   exact⟨N,λaA hf _=>hN aA hf ()⟩
 have ak:∃ N,∀ aA,N<=aA->eG nd.acked nd.2.1=true->iter (c34_6 (aK p n) aA nd) aA (0:Int)=oB (A7 nd&&kK nd):=by
  cases he:eG nd.acked nd.2.1 with
  | false=>exact⟨0,λ_ _ h=>by cases h⟩
  | true=>
   have e:nd.2.1=(nd.acked.length:Int):=by unfold eG at he;simp only[Bool.and_eq_true,beq_iff_eq] at he;omega
   obtain⟨M,hM⟩:=ri
   have lp:It (λaA (_:Unit)=>c34_6 (aK p n) aA nd) (0:Int) (λ_=>oB (A7 nd&&kK nd)):=by
    refine It.allB nd.acked.length _ _ (λi hi aA a rec=>?_) (It.stopE (T:=λaA _=>c34_6 (aK p n) aA nd (λ_=>none) (nd.acked.length:Int)) (λaA a rec=>?_) ⟨M,λaA hf a=>?_⟩)
    ·have hb:=bU hi hz.acked
     show c34_6 (aK p n) aA nd rec (i:Int)=_
     unfold c34_6;rw[aL hb];refine(aE (by show(i:Int)<nd.2.1;omega)).trans ?_;refine bif_nn.trans ?_;refine(aH hi).trans ?_;refine(aB (f68 nd.log hz.list hz.logs n (by omega))).trans ?_;exact II
    ·show c34_6 (aK p n) aA nd rec (nd.acked.length:Int)=c34_6 (aK p n) aA nd (λ_=>none) (nd.acked.length:Int)
     unfold c34_6;refine(aI (by show ¬ ((nd.acked.length:Int)<nd.2.1);omega)).trans ?_;exact(aI (by show ¬ ((nd.acked.length:Int)<nd.2.1);omega)).symm
    ·show c34_6 (aK p n) aA nd (λ_=>none) (nd.acked.length:Int)=oB (kK nd)
     unfold c34_6 kK;refine(aI (by show ¬ ((nd.acked.length:Int)<nd.2.1);omega)).trans ?_
     refine(aB (f33 nd.num 0 100000 n (by omega))).trans ?_;refine dE λ_=>?_;refine(aB (f33 nd.clock 0 100000 n (by omega))).trans ?_;refine dE λ_=>?_;refine(aB (f33 nd.slots 1 4 n (by omega))).trans ?_;refine dE λ_=>?_;refine(aB (f33 nd.wait 1 20 n (by omega))).trans ?_;refine dE λ_=>?_;refine(aB (f33 nd.limit 1 50 n (by omega))).trans ?_;refine dE λ_=>?_;refine dE λh5=>?_;exact hM aA hf h5
   obtain⟨N,hN⟩:=lp.all_i
   exact⟨N,λaA hf _=>hN aA hf ()⟩
 obtain⟨N,hN⟩:=ak
 refine⟨N,λaA hf=>?_⟩
 show T34 (aK p n) aA nd=oB (dJ nd)
 unfold T34 dJ;refine(aB (f33 nd.2.1 1 5 n (by omega))).trans ?_;refine dE λh1=>?_;refine(aB (f33 nd.1 0 (i64.wrap (nd.2.1 - 1)) n (by omega))).trans ?_;refine dE λh2=>?_;refine(aB (f25 nd.state (aZ hz.state.a) (aZ hz.state.b) n (by omega))).trans ?_;refine dE λ_=>?_;refine(aB (f65 nd.state hz.state n (by omega))).trans ?_;refine(aB (f64 nd.tree (cI nd.state) (aZ hz.leaves) n (by omega))).trans ?_;refine dE λ_=>?_
 refine(aB (f66 nd.log hz.list hz.logs n (by omega))).trans ?_;refine dE λ_=>?_;refine(aB (f67 nd.got nd.2.1 hz.got n (by omega))).trans ?_;refine dE λh3=>?_;refine(aB (f67 nd.acked nd.2.1 hz.acked n (by omega))).trans ?_;refine dE λh4=>?_
 obtain⟨k,hk,hlt⟩:=SU h1 h2 h3
 show(bif decide (0<=nd.1)then((at? nd.got (nd.1).toNat).bind _)else none)=_
 rw[hk];refine bif_nn.trans ?_;refine(aH hlt).trans ?_;refine(aB (f68 nd.log hz.list hz.logs n (by omega))).trans ?_;refine dE λ_=>?_;refine(aB (f69 nd.seen nd.2.1 hz.seen hz.lines n (by omega))).trans ?_;refine dE λ_=>?_;exact hN aA hf h4
theorem f45(w:a9)(x:Int):Ran p 2 45 [va K28 w, vf K3 (x,())] (rO K4 (inB x 0 (i64.wrap ((w.1.length:Int) - 1)),())):=go45 λn hn=>Ev.now λaA=>by
 unfold T45;refine(aB (f43 x 0 (i64.wrap ((w.1.length:Int) - 1)) n (by omega))).trans ?_;rfl
theorem f11(w:a9)(hz:SzW w):Ran p 8 11 [va K28 w] (rO K4 (bT w,())):=go11 λn hn=>by
 have said:It (λaA (_:Unit)=>c11_15 (aK p n) aA w) (0:Int) (λ_=>oB (bL w.2.2.1.length (iR w))):=by
  refine cO (It.allB w.2.2.1.length _ true (λi hi aA a rec=>?_) (It.stop λaA a rec=>?_))
  ·have hb:=bU hi hz.said
   show c11_15 (aK p n) aA w rec (i:Int)=_
   unfold c11_15 iR;rw[aL hb];refine(aE (Int.ofNat_lt.2 hi)).trans ?_;refine bif_nn.trans ?_;refine(aH hi).trans ?_;refine(aB (f33 (gt w.2.2.1 i).1 0 (i64.wrap ((w.1.length:Int) - 1)) n (by omega))).trans ?_;refine chk λ_=>?_;refine bif_nn.trans ?_;refine(aH hi).trans ?_;refine(aB (f25 (gt w.2.2.1 i).2 (aZ (hz.part i hi).a) (aZ (hz.part i hi).b) n (by omega))).trans ?_;exact fin
  ·show c11_15 (aK p n) aA w rec (w.2.2.1.length:Int)=_
   unfold c11_15;refine(aI (Int.lt_irrefl _)).trans ?_;rfl
 have net:It (λaA (_:Unit)=>c11_10 (aK p n) aA w) (0:Int) (λ_=>oB (bL w.2.1.length (λi=>inB (gt w.2.1 i).1 0 (i64.wrap ((w.1.length:Int) - 1)))&&bL w.2.2.1.length (iR w))):=by
  refine It.allB w.2.1.length _ _ (λi hi aA a rec=>?_) (It.stopE (T:=λaA _=>iter (c11_15 (aK p n) aA w) aA (0:Int)) (λaA a rec=>?_) said.all_i)
  ·have hb:=bU hi hz.net
   show c11_10 (aK p n) aA w rec (i:Int)=_
   unfold c11_10;rw[aL hb];refine(aE (Int.ofNat_lt.2 hi)).trans ?_;refine bif_nn.trans ?_;refine(aH hi).trans ?_;refine(aB (f33 (gt w.2.1 i).1 0 (i64.wrap ((w.1.length:Int) - 1)) n (by omega))).trans ?_;exact fin
  ·show c11_10 (aK p n) aA w rec (w.2.1.length:Int)=_
   unfold c11_10;refine(aI (Int.lt_irrefl _)).trans ?_;rfl
 have nodes:It (λaA (_:Unit)=>c11_5 (aK p n) aA w) (0:Int) (λ_=>oB (bL w.1.length (kL w)&&(bL w.2.1.length (λi=>inB (gt w.2.1 i).1 0 (i64.wrap ((w.1.length:Int) - 1)))&&bL w.2.2.1.length (iR w)))):=by
  refine It.allB w.1.length _ _ (λi hi aA a rec=>?_) (It.stopE (T:=λaA _=>iter (c11_10 (aK p n) aA w) aA (0:Int)) (λaA a rec=>?_) net.all_i)
  ·have hb:=bU hi hz.nodes
   show c11_5 (aK p n) aA w rec (i:Int)=_
   unfold c11_5 kL;rw[aL hb];refine(aE (Int.ofNat_lt.2 hi)).trans ?_;refine bif_nn.trans ?_;refine(aH hi).trans ?_;refine(aB (f34 (gt w.1 i) (hz.node i hi) n (by omega))).trans ?_;refine chk λ_=>?_;refine bif_nn.trans ?_;refine(aH hi).trans ?_;refine chk λ_=>?_;refine bif_nn.trans ?_;refine(aH hi).trans ?_;exact fin
  ·show c11_5 (aK p n) aA w rec (w.1.length:Int)=_
   unfold c11_5;refine(aI (Int.lt_irrefl _)).trans ?_;rfl
 obtain⟨N,hN⟩:=nodes.all_i
 refine⟨N,λaA hf=>?_⟩
 show T11 (aK p n) aA w=oB (bT w)
 unfold T11 bT;refine(aB (f33 (w.1.length:Int) 1 5 n (by omega))).trans ?_;refine dE λ_=>?_;refine uU λ_=>?_;refine uU λ_=>?_;exact hN aA hf ()
theorem f20(w:a9)(hz:SzW w):Ran p 8 20 [va K28 w] (rO K4 (bT w,())):=go20 λn hn=>by
 have said:It (λaA (_:Unit)=>c20_16 (aK p n) aA w) (0:Int) (λ_=>oB (bL w.2.2.1.length (iR w))):=by
  refine cO (It.allB w.2.2.1.length _ true (λi hi aA a rec=>?_) (It.stop λaA a rec=>?_))
  ·have hb:=bU hi hz.said
   show c20_16 (aK p n) aA w rec (i:Int)=_
   unfold c20_16 iR;rw[aL hb];refine(aE (Int.ofNat_lt.2 hi)).trans ?_;refine bif_nn.trans ?_;refine(aH hi).trans ?_;refine(aB (f45 w (gt w.2.2.1 i).1 n (by omega))).trans ?_;refine chk λ_=>?_;refine(aB (f35 (gt w.2.2.1 i).2 (aZ (hz.part i hi).a) (aZ (hz.part i hi).b) n (by omega))).trans ?_;exact fin
  ·show c20_16 (aK p n) aA w rec (w.2.2.1.length:Int)=_
   unfold c20_16;refine(aI (Int.lt_irrefl _)).trans ?_;rfl
 have net:It (λaA (_:Unit)=>c20_10 (aK p n) aA w) (0:Int) (λ_=>oB (bL w.2.1.length (λi=>inB (gt w.2.1 i).1 0 (i64.wrap ((w.1.length:Int) - 1)))&&bL w.2.2.1.length (iR w))):=by
  refine It.allB w.2.1.length _ _ (λi hi aA a rec=>?_) (It.stopE (T:=λaA _=>iter (c20_16 (aK p n) aA w) aA (0:Int)) (λaA a rec=>?_) said.all_i)
  ·have hb:=bU hi hz.net
   show c20_10 (aK p n) aA w rec (i:Int)=_
   unfold c20_10;rw[aL hb];refine(aE (Int.ofNat_lt.2 hi)).trans ?_;refine bif_nn.trans ?_;refine(aH hi).trans ?_;refine(aB (f45 w (gt w.2.1 i).1 n (by omega))).trans ?_;exact fin
  ·show c20_10 (aK p n) aA w rec (w.2.1.length:Int)=_
   unfold c20_10;refine(aI (Int.lt_irrefl _)).trans ?_;rfl
 have nodes:It (λaA (_:Unit)=>c20_4 (aK p n) aA w) (0:Int) (λ_=>oB (bL w.1.length (kL w)&&(bL w.2.1.length (λi=>inB (gt w.2.1 i).1 0 (i64.wrap ((w.1.length:Int) - 1)))&&bL w.2.2.1.length (iR w)))):=by
  refine It.allB w.1.length _ _ (λi hi aA a rec=>?_) (It.stopE (T:=λaA _=>iter (c20_10 (aK p n) aA w) aA (0:Int)) (λaA a rec=>?_) net.all_i)
  ·have hb:=bU hi hz.nodes
   show c20_4 (aK p n) aA w rec (i:Int)=_
   unfold c20_4 kL;rw[aL hb];refine(aE (Int.ofNat_lt.2 hi)).trans ?_;refine bif_nn.trans ?_;refine(aH hi).trans ?_;refine(aB (f44 (gt w.1 i) (hz.node i hi) n (by omega))).trans ?_;refine chk λ_=>?_;refine chk λ_=>?_;exact fin
  ·show c20_4 (aK p n) aA w rec (w.1.length:Int)=_
   unfold c20_4;refine(aI (Int.lt_irrefl _)).trans ?_;rfl
 obtain⟨N,hN⟩:=nodes.all_i
 refine⟨N,λaA hf=>?_⟩
 show T20 (aK p n) aA w=oB (bT w)
 unfold T20 bT;refine(aB (f43 (w.1.length:Int) 1 5 n (by omega))).trans ?_;refine dE λ_=>?_;refine uU λ_=>?_;refine uU λ_=>?_;exact hN aA hf ()
end Go.Abs.Wz
namespace Go.Abs.Wz
open Go Go.Abs
end Go.Abs.Wz
namespace Go.Abs.Wz
open Go Go.Abs
theorem f49(s:aJ)(hz:SzS s):Ran p 4 49 [va K34 s] (rO K31 (rH s,())):=go49 λn hn=>by
 cases hs:aS s with
 | false=>
  refine Ev.now λaA=>?_
  unfold T49 rH;refine(aB (f25 s (aZ hz.a) (aZ hz.b) n (by omega))).trans ?_;rw[hs];rfl
 | true=>
  have lp:It (λaA (_:Unit)=>c49_5 (aK p n) aA s) ((0:Int),([]:List bK)) (λ_=>rV K31 (s.1.filter (λx:bK=>x.2.2.1==0),())):=by
   refine It.accu (α:=bK) [] (λi=>bif(gt s.1 i).2.2.1==0 then[gt s.1 i] else[]) s.1.length 1 (λi hi=>by cases (gt s.1 i).2.2.1==0<;>simp) (λi hi acc ha aA a rec=>?_) (It.stop λaA a rec=>?_)
   ·have hb:=bU hi hz.a
    have hl:s.1.length<=1048576:=hz.a
    show c49_5 (aK p n) aA s rec ((i:Int),acc)=_
    unfold c49_5;dsimp only;rw[aL hb];refine(aE (Int.ofNat_lt.2 hi)).trans ?_;refine bif_nn.trans ?_;refine(aH hi).trans ?_
    cases hq:(gt s.1 i).2.2.1==0 with
    | false=>refine(aF rfl).trans ?_;exact(congrArg (λl:List bK=>rec (((i+1:Nat):Int),l)) (List.append_nil acc).symm:_)
    | true=>refine(aM rfl).trans ?_;refine bif_nn.trans ?_;refine(aH hi).trans ?_;refine(aE (by rw[hq] at ha;have:acc.length+1<=0+s.1.length*1:=ha;show acc.length+1<=4294967296;omega)).trans ?_;rfl
   ·show c49_5 (aK p n) aA s rec ((s.1.length:Int),bR (α:=bK) s.1.length (λi=>bif(gt s.1 i).2.2.1==0 then[gt s.1 i] else[]))=_
    unfold c49_5;refine(aI (Int.lt_irrefl _)).trans ?_;exact congrArg (λl:List bK=>(rV K31 (l,()):Option Out)) ((cF (λx:bK=>bif x.2.2.1==0 then[x] else[]) s.1).trans (i9 _ _))
  have e:rH s=s.1.filter (λx:bK=>x.2.2.1==0):=by unfold rH;rw[hs];rfl
  rw[e]
  exact Ev.eq (λaA=>by unfold T49;refine(aB (f25 s (aZ hz.a) (aZ hz.b) n (by omega))).trans ?_;rw[hs];rfl) (lp.ev (i:=()) rfl)
theorem f9(a b:aJ)(ha:SzS a):Ran p 1 9 [va K34 a, va K34 b] (rO K4 (eY a b,())):=go9 λn hn=>by
 have fl:∃ N,∀ aA,N<=aA->((a.2.1.length:Int)==(b.2.1.length:Int))=true->iter (c9_9 (aK p n) aA a b) aA (0:Int)=oB (bL a.2.1.length λi=>oY (gt a.2.1 i) (gt b.2.1 i)):=by
  cases he:(a.2.1.length:Int)==(b.2.1.length:Int)with
  | false=>exact⟨0,λ_ _ h=>by cases h⟩
  | true=>
   have e:a.2.1.length=b.2.1.length:=by have:=eq_of_beq he;omega
   have lp:It (λaA (_:Unit)=>c9_9 (aK p n) aA a b) (0:Int) (λ_=>oB (bL a.2.1.length λi=>oY (gt a.2.1 i) (gt b.2.1 i))):=by
    refine cO (It.allB a.2.1.length _ true (λi hi aA a' rec=>?_) (It.stop λaA a' rec=>?_))
    ·have hb:=bU hi ha.b
     show c9_9 (aK p n) aA a b rec (i:Int)=_
     unfold c9_9;rw[aL hb];refine(aE (Int.ofNat_lt.2 hi)).trans ?_;refine bif_nn.trans ?_;refine(aH hi).trans ?_;refine bif_nn.trans ?_;refine(aH (show i<b.2.1.length by omega)).trans ?_;exact fin
    ·show c9_9 (aK p n) aA a b rec (a.2.1.length:Int)=_
     unfold c9_9;refine(aI (Int.lt_irrefl _)).trans ?_;rfl
   obtain⟨N,hN⟩:=lp.all_i
   exact⟨N,λaA hf _=>hN aA hf ()⟩
 have it:∃ N,∀ aA,N<=aA->((a.1.length:Int)==(b.1.length:Int))=true->((a.2.1.length:Int)==(b.2.1.length:Int))=true->iter (c9_4 (aK p n) aA a b) aA (0:Int)=oB (bL a.1.length (λi=>vV (gt a.1 i) (gt b.1 i))&&bL a.2.1.length λi=>oY (gt a.2.1 i) (gt b.2.1 i)):=by
  cases he:(a.1.length:Int)==(b.1.length:Int)with
  | false=>exact⟨0,λ_ _ h=>by cases h⟩
  | true=>
   cases he2:(a.2.1.length:Int)==(b.2.1.length:Int)with
   | false=>exact⟨0,λ_ _ _ h=>by cases h⟩
   | true=>
    have e:a.1.length=b.1.length:=by have:=eq_of_beq he;omega
    obtain⟨M,hM⟩:=fl
    have lp:It (λaA (_:Unit)=>c9_4 (aK p n) aA a b) (0:Int) (λ_=>oB (bL a.1.length (λi=>vV (gt a.1 i) (gt b.1 i))&&bL a.2.1.length λi=>oY (gt a.2.1 i) (gt b.2.1 i))):=by
     refine It.allB a.1.length _ _ (λi hi aA a' rec=>?_) (It.stopE (T:=λaA _=>iter (c9_9 (aK p n) aA a b) aA (0:Int)) (λaA a' rec=>?_) ⟨M,λaA hf _=>hM aA hf he2⟩)
     ·have hb:=bU hi ha.a
      show c9_4 (aK p n) aA a b rec (i:Int)=_
      unfold c9_4;rw[aL hb];refine(aE (Int.ofNat_lt.2 hi)).trans ?_;refine bif_nn.trans ?_;refine(aH hi).trans ?_;refine bif_nn.trans ?_;refine(aH (show i<b.1.length by omega)).trans ?_;exact fin
     ·show c9_4 (aK p n) aA a b rec (a.1.length:Int)=_
      unfold c9_4;refine(aI (Int.lt_irrefl _)).trans ?_;rfl
    obtain⟨N,hN⟩:=lp.all_i
    exact⟨N,λaA hf _ _=>hN aA hf ()⟩
 obtain⟨N,hN⟩:=it
 refine⟨N,λaA hf=>?_⟩
 show T9 (aK p n) aA a b=oB (eY a b)
 unfold T9 eY;refine dE λh=>?_;refine dE λh'=>?_;exact hN aA hf h h'
end Go.Abs.Wz
namespace Go.Abs.Wz
open Go Go.Abs
theorem f62(s:aJ)(id:Int)(hl:s.1.length<=maxLen):Ran p 1 62 [va K34 s, vf K3 (id,())] ⟨[⟨K69,(bJ s id).1⟩,⟨K4,((bJ s id).2,())⟩],[]⟩:=go62 λn hn=>by
 have lp:It (λaA (_:Unit)=>c62_2 (aK p n) aA s id) (0:Int) (λ_=>some ⟨[⟨K69,(bJ s id).1⟩,⟨K4,((bJ s id).2,())⟩],[]⟩):=by
  have:=It.first (c:=λaA (_:Unit)=>c62_2 (aK p n) aA s id) (λi=>(i:Int)) s.1.length (λi=>(gt s.1 i).1==id) (λi _=>some ⟨[⟨K69,(gt (α:=bK) s.1 i).2⟩,⟨K4,(true,())⟩],[]⟩) (λ_=>some ⟨[⟨K69,dF⟩,⟨K4,(false,())⟩],[]⟩) (λi hi hp aA a rec=>?_) (λi hi hp=>It.stop λaA a rec=>?_) (It.stop λaA a rec=>?_)
  ·revert this;unfold bJ
   cases (List.range s.1.length).find? (λi=>(gt s.1 i).1==id)<;>exact λh=>h
  ·have hb:i<9223372036854775807:=Nat.lt_of_lt_of_le hi hl
   show c62_2 (aK p n) aA s id rec (i:Int)=_
   unfold c62_2;rw[aL hb];refine(aE (Int.ofNat_lt.2 hi)).trans ?_;refine bif_nn.trans ?_;refine(aH hi).trans ?_;exact aF hp
  ·show c62_2 (aK p n) aA s id rec (i:Int)=_
   unfold c62_2;refine(aE (Int.ofNat_lt.2 hi)).trans ?_;refine bif_nn.trans ?_;refine(aH hi).trans ?_;refine(aM hp).trans ?_;refine bif_nn.trans ?_;refine(aH hi).trans ?_;rfl
  ·show c62_2 (aK p n) aA s id rec (s.1.length:Int)=_
   unfold c62_2;refine(aI (Int.lt_irrefl _)).trans ?_;rfl
 exact Ev.eq (λaA=>by unfold T62;rfl) (lp.ev (i:=()) rfl)
theorem f61(a b:Int):Ran p 1 61 [vf K3 (a,()), vf K3 (b,())] (rO K3 (mxI true a b,())):=go61 λn hn=>Ev.now λaA=>by
 unfold T61 mxI
 simp only[if_true]
 by_cases h:a>b
 ·refine(aE h).trans ?_;rw[if_neg (by omega:¬ b>a)]
 ·refine(aI h).trans ?_;by_cases h':b>a
  ·rw[if_pos h']
  ·rw[if_neg h',show a=b from by omega]
theorem f101(b:Bool):Ran p 1 101 [vf K4 (b,())] (rO K3 (MG b,())):=go101 λn hn=>Ev.now λaA=>by
 unfold T101;cases b<;>rfl
theorem f100(a b:Int):Ran p 2 100 [vf K3 (a,()), vf K3 (b,())] (rO K3 (l2 a b,())):=go100 λn hn=>Ev.now λaA=>by
 unfold T100 l2
 cases decide (a<b)with
 | true=>rfl
 | false=>refine(aF rfl).trans ?_;refine(aB (f101 (decide (a>b)) n (by omega))).trans ?_;rfl
theorem f63(a b:bF):Ran p 3 63 [va K69 a, va K69 b] (rO K3 (iQ a b,())):=go63 λn hn=>by
 have lp:It (λaA (_:Unit)=>c63_3 (aK p n) aA a b (((l2 a.1 b.1,()),()),()) (((l2 a.2.1 b.2.1,()),()),()) (((l2 a.2.2.1 b.2.2.1,()),()),()) (((l2 a.2.2.2.1 b.2.2.2.1,()),()),())) (0:Int) (λ_=>oI (iQ a b)):=by
  have:=It.first (c:=λaA (_:Unit)=>c63_3 (aK p n) aA a b (((l2 a.1 b.1,()),()),()) (((l2 a.2.1 b.2.1,()),()),()) (((l2 a.2.2.1 b.2.2.1,()),()),()) (((l2 a.2.2.2.1 b.2.2.2.1,()),()),())) (λi=>(i:Int)) (F4 a b).length (λi=>(gt (F4 a b) i).1 != 0) (λi _=>oI (gt (F4 a b) i).1) (λ_=>oI (IP a.2.2.2.2.1 b.2.2.2.2.1)) (λi hi hp aA a' rec=>?_) (λi hi hp=>It.stop λaA a' rec=>?_) (It.stop λaA a' rec=>?_)
  ·rw[<- NZ];revert this;unfold orZ
   cases (List.range (F4 a b).length).find? (λi=>(gt (F4 a b) i).1 != 0)<;>exact λh=>h
  ·have hb:i<9223372036854775807:=Nat.lt_of_lt_of_le hi (by show 4<=9223372036854775807;omega)
   show c63_3 (aK p n) aA a b (((l2 a.1 b.1,()),()),()) (((l2 a.2.1 b.2.1,()),()),()) (((l2 a.2.2.1 b.2.2.1,()),()),()) (((l2 a.2.2.2.1 b.2.2.2.1,()),()),()) rec (i:Int)=_
   unfold c63_3;rw[aL hb];refine(aE (Int.ofNat_lt.2 hi)).trans ?_;refine bif_nn.trans ?_;refine(aH hi).trans ?_;refine(aH hi).trans ?_;exact aF hp
  ·show c63_3 (aK p n) aA a b (((l2 a.1 b.1,()),()),()) (((l2 a.2.1 b.2.1,()),()),()) (((l2 a.2.2.1 b.2.2.1,()),()),()) (((l2 a.2.2.2.1 b.2.2.2.1,()),()),()) rec (i:Int)=_
   unfold c63_3;refine(aE (Int.ofNat_lt.2 hi)).trans ?_;refine bif_nn.trans ?_;refine(aH hi).trans ?_;refine(aH hi).trans ?_;refine(aM hp).trans ?_;refine bif_nn.trans ?_;refine(aH hi).trans ?_;refine(aH hi).trans ?_;rfl
  ·show c63_3 (aK p n) aA a b (((l2 a.1 b.1,()),()),()) (((l2 a.2.1 b.2.1,()),()),()) (((l2 a.2.2.1 b.2.2.1,()),()),()) (((l2 a.2.2.2.1 b.2.2.2.1,()),()),()) rec (((F4 a b).length:Nat):Int)=_
   unfold c63_3;refine(aI (Int.lt_irrefl _)).trans ?_
   rw[<- MA]
   cases Op.bytesLess (ByteArray.toList a.2.2.2.2.1) (ByteArray.toList b.2.2.2.2.1)with
   | true=>rfl
   | false=>refine(aF rfl).trans ?_;refine(aB (f101 (!(false||ByteArray.toList a.2.2.2.2.1==ByteArray.toList b.2.2.2.2.1)) n (by omega))).trans ?_;rfl
 exact Ev.eq (λaA=>by unfold T63;refine(aB (f100 a.1 b.1 n (by omega))).trans ?_;refine(aB (f100 a.2.1 b.2.1 n (by omega))).trans ?_;refine(aB (f100 a.2.2.1 b.2.2.1 n (by omega))).trans ?_;refine(aB (f100 a.2.2.2.1 b.2.2.2.1 n (by omega))).trans ?_;rfl) (lp.ev (i:=()) rfl)
theorem f32(a b:aJ)(ha:SzS a)(hb':SzS b)(hpa:Pos a)(hpb:Pos b):Ran p 4 32 [va K34 a, va K34 b] (rO K34 (dG a b)):=go32 λn hn=>by
 have lp:It (λaA (_:Unit)=>c32_3 (aK p n) aA a b) ((0:Int),([]:List aU),([]:List bK)) (λ_=>rV K34 (dG a b)):=by
  refine It.run (λi=>((i:Int),bR i (dY a b),bR i (dZ a b))) 5 (λi hi aA u rec=>?_) (It.stop λaA u rec=>?_)
  ·have l1:(bR i (dY a b)).length<=i*1:=dT λj _=>sQ a b j
   have l2':(bR i (dZ a b)).length<=i*1:=dT λj _=>vR a b j
   have hb:i<9223372036854775807:=by omega
   have fin3:∀ {F:List aU} {J:List bK},dY a b i=F->dZ a b i=J->rec (((i+1:Nat):Int),bR i (dY a b)++F,bR i (dZ a b)++J)=rec (((i+1:Nat):Int),bR (i+1) (dY a b),bR (i+1) (dZ a b)):=by
    intro F J h1 h2;rw[eE,eE,h1,h2]
   have fin0:∀ {F:List aU},dY a b i=F->dZ a b i=[]->rec (((i+1:Nat):Int),bR i (dY a b)++F,bR i (dZ a b))=rec (((i+1:Nat):Int),bR (i+1) (dY a b),bR (i+1) (dZ a b)):=by
    intro F h1 h2;rw[eE,eE,h1,h2,List.append_nil]
   have fin1:∀ {J:List bK},dY a b i=[]->dZ a b i=J->rec (((i+1:Nat):Int),bR i (dY a b),bR i (dZ a b)++J)=rec (((i+1:Nat):Int),bR (i+1) (dY a b),bR (i+1) (dZ a b)):=by
    intro J h1 h2;rw[eE,eE,h1,h2,List.append_nil]
   have fin2:dY a b i=[]->dZ a b i=[]->rec (((i+1:Nat):Int),bR i (dY a b),bR i (dZ a b))=rec (((i+1:Nat):Int),bR (i+1) (dY a b),bR (i+1) (dZ a b)):=by
    intro h1 h2;rw[eE,eE,h1,h2,List.append_nil,List.append_nil]
   show c32_3 (aK p n) aA a b rec ((i:Int),bR i (dY a b),bR i (dZ a b))=rec (((i+1:Nat):Int),bR (i+1) (dY a b),bR (i+1) (dZ a b))
   unfold c32_3;dsimp only;rw[aL hb];refine(aE (by show(i:Int)<5;omega)).trans ?_;refine(aB (f54 a (i:Int) (aZ ha.b) n (by omega))).trans ?_;refine(aB (f54 b (i:Int) (aZ hb'.b) n (by omega))).trans ?_;refine(aB (f61 (cM a.2.1 (i:Int)) (cM b.2.1 (i:Int)) n (by omega))).trans ?_
   have zi:bJ a (i:Int)=(dF,false)->bJ b (i:Int)=(dF,false)->dZ a b i=[]:=λea eb=>iE (RK ea eb) (by show ¬ (0:Int)>_;have:=PH (b:=b) hpa (i:Int);omega)
   by_cases hf:flr a b (i:Int)>0
   ·refine(aE hf).trans ?_;refine(aE (by show(bR i (dY a b)).length+1<=4294967296;omega)).trans ?_
    have gF:=AC hf
    refine(bE (f62 a (i:Int) (aZ ha.a) n (by omega))).trans ?_;refine(bE (f62 b (i:Int) (aZ hb'.a) n (by omega))).trans ?_
    rcases qG hpa (i:Int)with ⟨x,hx,ea⟩ | ea<;>rcases qG hpb (i:Int)with ⟨y,hy,eb⟩ | eb<;>rw[ea,eb]
    ·refine(aF rfl).trans ?_;refine(aF rfl).trans ?_;refine(aM rfl).trans ?_;refine(aB (f63 y x n (by omega))).trans ?_
     have pk:=JG ea eb
     by_cases hc:iQ y x>0
     ·rw[decide_eq_true hc] at pk
      replace pk:eL a b (i:Int)=y:=pk
      refine(aE hc).trans ?_
      by_cases hi':y.1>flr a b i
      ·refine(aE hi').trans ?_;refine(aE (by show(bR i (dZ a b)).length+1<=4294967296;omega)).trans ?_;exact fin3 gF (iC pk hi')
      ·refine(aI hi').trans ?_;exact fin0 gF (iE pk hi')
     ·rw[decide_eq_false hc] at pk
      replace pk:eL a b (i:Int)=x:=pk
      refine(aI hc).trans ?_
      by_cases hi':x.1>flr a b i
      ·refine(aE hi').trans ?_;refine(aE (by show(bR i (dZ a b)).length+1<=4294967296;omega)).trans ?_;exact fin3 gF (iC pk hi')
      ·refine(aI hi').trans ?_;exact fin0 gF (iE pk hi')
    ·refine(aF rfl).trans ?_;refine(aF rfl).trans ?_;refine(aF rfl).trans ?_
     by_cases hi':x.1>flr a b i
     ·refine(aE hi').trans ?_;refine(aE (by show(bR i (dZ a b)).length+1<=4294967296;omega)).trans ?_;exact fin3 gF (iC (xW ea eb hx) hi')
     ·refine(aI hi').trans ?_;exact fin0 gF (iE (xW ea eb hx) hi')
    ·refine(aM rfl).trans ?_;refine(aF rfl).trans ?_;refine(aM rfl).trans ?_
     by_cases hi':y.1>flr a b i
     ·refine(aE hi').trans ?_;refine(aE (by show(bR i (dZ a b)).length+1<=4294967296;omega)).trans ?_;exact fin3 gF (iC (xX ea eb hy) hi')
     ·refine(aI hi').trans ?_;exact fin0 gF (iE (xX ea eb hy) hi')
    ·refine(aM rfl).trans ?_;refine(aM rfl).trans ?_;exact fin0 gF (zi ea eb)
   ·refine(aI hf).trans ?_
    have gF:=IA hf
    refine(bE (f62 a (i:Int) (aZ ha.a) n (by omega))).trans ?_;refine(bE (f62 b (i:Int) (aZ hb'.a) n (by omega))).trans ?_
    rcases qG hpa (i:Int)with ⟨x,hx,ea⟩ | ea<;>rcases qG hpb (i:Int)with ⟨y,hy,eb⟩ | eb<;>rw[ea,eb]
    ·refine(aF rfl).trans ?_;refine(aF rfl).trans ?_;refine(aM rfl).trans ?_;refine(aB (f63 y x n (by omega))).trans ?_
     have pk:=JG ea eb
     by_cases hc:iQ y x>0
     ·rw[decide_eq_true hc] at pk
      replace pk:eL a b (i:Int)=y:=pk
      refine(aE hc).trans ?_
      by_cases hi':y.1>flr a b i
      ·refine(aE hi').trans ?_;refine(aE (by show(bR i (dZ a b)).length+1<=4294967296;omega)).trans ?_;exact fin1 gF (iC pk hi')
      ·refine(aI hi').trans ?_;exact fin2 gF (iE pk hi')
     ·rw[decide_eq_false hc] at pk
      replace pk:eL a b (i:Int)=x:=pk
      refine(aI hc).trans ?_
      by_cases hi':x.1>flr a b i
      ·refine(aE hi').trans ?_;refine(aE (by show(bR i (dZ a b)).length+1<=4294967296;omega)).trans ?_;exact fin1 gF (iC pk hi')
      ·refine(aI hi').trans ?_;exact fin2 gF (iE pk hi')
    ·refine(aF rfl).trans ?_;refine(aF rfl).trans ?_;refine(aF rfl).trans ?_
     by_cases hi':x.1>flr a b i
     ·refine(aE hi').trans ?_;refine(aE (by show(bR i (dZ a b)).length+1<=4294967296;omega)).trans ?_;exact fin1 gF (iC (xW ea eb hx) hi')
     ·refine(aI hi').trans ?_;exact fin2 gF (iE (xW ea eb hx) hi')
    ·refine(aM rfl).trans ?_;refine(aF rfl).trans ?_;refine(aM rfl).trans ?_
     by_cases hi':y.1>flr a b i
     ·refine(aE hi').trans ?_;refine(aE (by show(bR i (dZ a b)).length+1<=4294967296;omega)).trans ?_;exact fin1 gF (iC (xX ea eb hy) hi')
     ·refine(aI hi').trans ?_;exact fin2 gF (iE (xX ea eb hy) hi')
    ·refine(aM rfl).trans ?_;refine(aM rfl).trans ?_;exact fin2 gF (zi ea eb)
  ·show c32_3 (aK p n) aA a b rec (((5:Nat):Int),bR 5 (dY a b),bR 5 (dZ a b))=_
   unfold c32_3;exact aI (by show ¬ ((5:Int)<5);decide)
 exact Ev.eq (λaA=>by unfold T32;rfl) (lp.ev (i:=()) rfl)
theorem f149(s:aJ)(id:Int)(hz:SzS s):Ran p 4 149 [va K34 s, vf K3 (id,())] (rO K3 (gone s id,())):=go149 λn hn=>Ev.now λaA=>by
 unfold T149 gone;refine(aB (f25 s (aZ hz.a) (aZ hz.b) n (by omega))).trans ?_
 cases hs:aS s with
 | false=>rfl
 | true=>
  refine(aF rfl).trans ?_;refine(bE (f62 s id (aZ hz.a) n (by omega))).trans ?_
  rcases qG ((aV s).1 hs).pos id with ⟨x,_,e⟩ | e<;>rw[e]
  ·refine(aF rfl).trans ?_;show(bif x.2.1==0 then _ else _)=(some ((rO K3 (bif true then(bif true then(bif x.2.1==0 then _ else _)else _)else _,())):Out):Option Out)
   cases x.2.1==0<;>rfl
  ·refine(aM rfl).trans ?_;refine(aB (f54 s id (aZ hz.b) n (by omega))).trans ?_;rfl
theorem f181(s:aJ)(id:Int)(hz:SzS s):Ran p 5 181 [va K34 s, vf K3 (id,())] ⟨[⟨K69,(oP s id).1⟩,⟨K4,((oP s id).2,())⟩],[]⟩:=go181 λn hn=>Ev.now λaA=>by
 unfold T181;refine(aB (f49 s hz n (by omega))).trans ?_;refine(bE (f62 (rH s,[],()) id (aZ (KA hz)) n (by omega))).trans ?_;rfl
end Go.Abs.Wz
namespace Go.Abs.Wz
open Go Go.Abs
end Go.Abs.Wz
namespace Go.Abs.Wz
open Go Go.Abs
theorem O0(xs:List bK):cnT (.sl K71) xs=6*(xs.length:Int):=jW (c:=cnR K71) (n:=6) (λx=>rfl) xs
theorem L7(xs:List aU):cnT (.sl K73) xs=2*(xs.length:Int):=jW (c:=cnR K73) (n:=2) (λx=>rfl) xs
theorem yA(xs:List aO):cnT (.sl K3) xs=1*(xs.length:Int):=jW (c:=cnR K3) (n:=1) (λx=>rfl) xs
end Go.Abs.Wz
namespace Go.Abs.Wz
open Go Go.Abs
def DH:bQ:=(List.replicate ((5:Int)).toNat (eV K3),())
def dV(n:Int):List bQ:=bif inB n 1 5 then List.replicate n.toNat DH else[]
theorem f146(a:Int):Ran p 2 146 [vf K3 (a,())] (rO K50 (dV a,())):=go146 λn hn=>by
 cases h:inB a 1 5 with
 | false=>exact Ev.now λaA=>by unfold T146 dV;refine(aB (f33 a 1 5 n (by omega))).trans ?_;rw[h];rfl
 | true=>
  have ha:=aP.1 h
  have lp:It (λaA (_:Unit)=>c146_5 (aK p n) aA a) ((0:Int),([]:List (Row K44))) (λ_=>rV K50 (dV a,())):=by
   refine It.run (λi=>((i:Int),List.replicate i DH)) a.toNat (λi hi aA u rec=>?_) (It.stop λaA u rec=>?_)
   ·show c146_5 (aK p n) aA a rec ((i:Int),List.replicate i DH)=rec (((i+1:Nat):Int),List.replicate (i+1) DH)
    unfold c146_5;dsimp only;rw[aL (by omega)];refine(aE (by omega)).trans ?_;refine(aM (by decide)).trans ?_;refine(aE ?_).trans ?_
    ·show List.length (List.replicate i DH)+1<=bound;rw[List.length_replicate];unfold bound;omega
    ·rw[List.replicate_succ'];rfl
   ·show c146_5 (aK p n) aA a rec ((a.toNat:Int),List.replicate a.toNat DH)=_
    unfold c146_5;dsimp only;refine(aI (by omega)).trans ?_;unfold dV;rw[h];rfl
  exact Ev.eq (λaA=>by unfold T146;refine(aB (f33 a 1 5 n (by omega))).trans ?_;rw[h];rfl) (lp.ev (i:=()) rfl)
def SO:NodeT:=((0:Int),(0:Int),[],[],[],(0:Int),(0:Int),(0:Int),[],[],[],[],(0:Int),(0:Int),[],(0:Int),(0:Int),(0:Int),[],())
def gP(id n cap slots wait lim:Int):NodeT:=(id,n,[],[],(cI ([],[],())).1,(cI ([],[],())).2.1,cap,(0:Int),[],List.replicate n.toNat (eV K3),List.replicate n.toNat (eV K3),dV n,
 (0:Int),slots,[],wait,lim,(0:Int),List.replicate ((5:Int)).toNat (eV K103),())
theorem yQ(s:aJ):(cI s).1.length<=4:=by
 unfold cI;cases aS s with
 | true=>exact Nat.le_refl 4
 | false=>exact Nat.zero_le _
theorem N7:SzN SO:=⟨⟨Nat.zero_le _,Nat.zero_le _⟩,Nat.zero_le _,Nat.zero_le _,(λi hi=>absurd hi (Nat.not_lt_zero _)),Nat.zero_le _,Nat.zero_le _,Nat.zero_le _,(λi hi=>absurd hi (Nat.not_lt_zero _)),Nat.zero_le _,Nat.zero_le _⟩
theorem C4{n:Int}(h:inB n 1 5=true):(dV n).length<=5:=by
 have:=aP.1 h
 unfold dV;rw[h];show(List.replicate n.toNat DH).length<=5;rw[List.length_replicate];omega
theorem nZ{n:Int}(h:inB n 1 5=true){i:Nat}(hi:i<(dV n).length):gt (dV n) i=DH:=by
 rw[cK hi];unfold dV;simp[h]
theorem sM(id n cap slots wait lim:Int)(h:inB n 1 5=true):SzN (gP id n cap slots wait lim):=by
 have hh:=aP.1 h
 have e:List.length (List.replicate n.toNat (eV K3))<=aW:=by rw[List.length_replicate];unfold aW;omega
 refine⟨⟨Nat.zero_le _,Nat.zero_le _⟩,Nat.le_trans (yQ _) (by decide),Nat.zero_le _,(λi hi=>absurd hi (Nat.not_lt_zero _)),e,e,Nat.le_trans (C4 h) (by decide),λi hi=>?_,Nat.zero_le _,?_⟩
 ·rw[show gt (gP id n cap slots wait lim).seen i=DH from nZ h hi];decide
 ·show List.length (List.replicate ((5:Int)).toNat (eV K103))<=aW
  rw[List.length_replicate];decide
def pJ(id n cap slots wait lim:Int):Bool:=inB n 1 5&&dJ (gP id n cap slots wait lim)
def p7(id n cap slots wait lim:Int):NodeT:=bif pJ id n cap slots wait lim then gP id n cap slots wait lim else SO
theorem s00:SzS ([],[],()):=⟨Nat.zero_le _,Nat.zero_le _⟩
theorem dd{n:Int}(h:inB n 1 5=true):(decide (0<=n)&&decide (n<=(bound:Int))&&decide (n=n))=true:=by
 have:=aP.1 h
 unfold bound;simp;omega
theorem f122(id m cap slots wait lim:Int):Ran p 8 122 [vf K3 (id,()), vf K3 (m,()), vf K3 (cap,()), vf K3 (slots,()), vf K3 (wait,()), vf K3 (lim,())] ⟨[⟨K54,p7 id m cap slots wait lim⟩,⟨K4,(pJ id m cap slots wait lim,())⟩],[]⟩:=go122 λn hn=>Ev.now λaA=>by
 show T122 (aK p n) aA id m cap slots wait lim=some ⟨[⟨K54,p7 id m cap slots wait lim⟩,⟨K4,(pJ id m cap slots wait lim,())⟩],[]⟩
 unfold T122 p7 pJ
 refine(aB (f33 m 1 5 n (by omega))).trans ?_
 cases h:inB m 1 5 with
 | false=>rfl
 | true=>
  refine(aF rfl).trans ?_
  refine(aB (f65 ([],[],()) s00 n (by omega))).trans ?_
  refine(aM (dd h)).trans ?_;refine(aM (dd h)).trans ?_
  refine(aB (f146 m n (by omega))).trans ?_
  refine(aM (by decide)).trans ?_
  refine(aB (f34 (gP id m cap slots wait lim) (sM _ _ _ _ _ _ h) n (by omega))).trans ?_
  cases dJ (gP id m cap slots wait lim)<;>rfl
theorem N8(id n cap slots wait lim:Int):SzN (p7 id n cap slots wait lim):=by
 unfold p7
 cases h:pJ id n cap slots wait lim with
 | false=>exact N7
 | true=>exact sM _ _ _ _ _ _ (by unfold pJ at h;simp only[Bool.and_eq_true] at h;exact h.1)
def eJ(n cap slots wait lim:Int)(k:Nat):List NodeT:=(List.range k).map fun(i:Nat)=>p7 (i:Int) n cap slots wait lim
theorem DQ(n cap slots wait lim:Int)(k:Nat):eJ n cap slots wait lim (k+1)=eJ n cap slots wait lim k++[p7 (k:Int) n cap slots wait lim]:=by
 unfold eJ;rw[List.range_succ,List.map_append];rfl
theorem g9(n cap slots wait lim:Int)(k:Nat):(eJ n cap slots wait lim k).length=k:=by unfold eJ;simp
theorem sK(n cap slots wait lim:Int){k i:Nat}(h:i<k):gt (eJ n cap slots wait lim k) i=p7 (i:Int) n cap slots wait lim:=by
 rw[cK (by rw[g9];exact h)];unfold eJ;simp
def c9(n:Int):Nat:=min n.toNat 6
def wnW(n cap slots wait lim:Int):a9:=(eJ n cap slots wait lim (c9 n),[],[],())
def BB(n cap slots wait lim:Int):Bool:=bT (wnW n cap slots wait lim)
def wI(n cap slots wait lim:Int):a9:=bif BB n cap slots wait lim then wnW n cap slots wait lim else([],[],[],())
theorem yM(n:Int):c9 n<=6:=Nat.min_le_right _ _
theorem MM(n cap slots wait lim:Int):SzW (wnW n cap slots wait lim):=by
 have hc:=yM n
 refine⟨?_,λi hi=>?_,Nat.zero_le _,Nat.zero_le _,λi hi=>absurd hi (Nat.not_lt_zero _)⟩
 ·show(eJ n cap slots wait lim (c9 n)).length<=aW
  rw[g9];unfold aW;omega
 ·have hi':i<c9 n:=by rw[<- g9 n cap slots wait lim (c9 n)];exact hi
  rw[show gt (wnW n cap slots wait lim).1 i=_ from sK n cap slots wait lim hi']
  exact N8 _ _ _ _ _ _
theorem ML{n cap slots wait lim:Int}(h:bL (c9 n) (λi=>pJ (i:Int) n cap slots wait lim)=false):BB n cap slots wait lim=false:=by
 cases hw:BB n cap slots wait lim with
 | false=>rfl
 | true=>
  have:bL (c9 n) (λi=>pJ (i:Int) n cap slots wait lim)=true:=by
   rw[bI]
   intro i hi
   have hn:=tE (w:=wnW n cap slots wait lim) hw (i:=i) (by show i<(eJ n cap slots wait lim (c9 n)).length;rw[g9];exact hi)
   rw[show gt (wnW n cap slots wait lim).1 i=_ from sK n cap slots wait lim hi] at hn
   cases hx:pJ (i:Int) n cap slots wait lim with
   | true=>rfl
   | false=>unfold p7 at hn;rw[hx] at hn;exact hn
  rw[this] at h;cases h
theorem f119(m cap slots wait lim:Int):Ran p 9 119 [vf K3 (m,()), vf K3 (cap,()), vf K3 (slots,()), vf K3 (wait,()), vf K3 (lim,())] ⟨[⟨K28,wI m cap slots wait lim⟩,⟨K4,(BB m cap slots wait lim,())⟩],[]⟩:=go119 λn hn=>by
 have hc:=yM m
 have hrest:∀ β,β=(((aK p n 11 [va K28 (wnW m cap slots wait lim)]).bind (dR [K4] [])).bind λo2=>(bif(!(vB o2.1.1.1))then(some (⟨[⟨K28,(([],[],[],()):a9)⟩,⟨K4,(false,())⟩],[]⟩:Out))else(some ⟨[⟨K28,wnW m cap slots wait lim⟩,⟨K4,(true,())⟩],[]⟩)))->
   β=some ⟨[⟨K28,wI m cap slots wait lim⟩,⟨K4,(BB m cap slots wait lim,())⟩],[]⟩:=by
  intro β h
  rw[h]
  refine(aB (f11 (wnW m cap slots wait lim) (MM _ _ _ _ _) n (by omega))).trans ?_
  unfold wI BB
  cases bT (wnW m cap slots wait lim)<;>rfl
 have lp:It (λaA (_:Unit)=>c119_3 (aK p n) aA m cap slots wait lim) ((0:Int),([]:List (Row K54)))
   (λ_=>bif bL (c9 m) (λi=>pJ (i:Int) m cap slots wait lim)then some ⟨[⟨K28,wI m cap slots wait lim⟩,⟨K4,(BB m cap slots wait lim,())⟩],[]⟩else some ⟨[⟨K28,(([],[],[],()):a9)⟩,⟨K4,(false,())⟩],[]⟩):=by
  refine It.all (λi=>((i:Int),eJ m cap slots wait lim i)) (c9 m) (λi=>pJ (i:Int) m cap slots wait lim) (rA:=λ_=>(some ⟨[⟨K28,wI m cap slots wait lim⟩,⟨K4,(BB m cap slots wait lim,())⟩],[]⟩:Option Out)) (rB:=λ_=>(some ⟨[⟨K28,(([],[],[],()):a9)⟩,⟨K4,(false,())⟩],[]⟩:Option Out)) (λi hi aA u rec=>?_) (It.stop λaA u rec=>?_)
  ·show c119_3 (aK p n) aA m cap slots wait lim rec ((i:Int),eJ m cap slots wait lim i)=bif pJ (i:Int) m cap slots wait lim then rec (((i+1:Nat):Int),eJ m cap slots wait lim (i+1))else _
   have hi':i<m.toNat/\i<6:=by unfold c9 at hi;omega
   unfold c119_3;dsimp only;rw[aL (by omega)];refine(aE (by omega)).trans ?_;refine(aE (by omega)).trans ?_
   refine(bE (f122 (i:Int) m cap slots wait lim n (by omega))).trans ?_
   cases hx:pJ (i:Int) m cap slots wait lim with
   | false=>rfl
   | true=>
    refine(aF rfl).trans ?_
    refine(aE ?_).trans ?_
    ·show List.length (eJ m cap slots wait lim i)+1<=bound;rw[g9];unfold bound;omega
    ·rw[DQ];rfl
  ·show c119_3 (aK p n) aA m cap slots wait lim rec ((c9 m:Int),eJ m cap slots wait lim (c9 m))=_
   refine hrest _ ?_
   unfold c119_3;dsimp only
   by_cases h:((c9 m:Nat):Int)<m
   ·refine(aE h).trans ?_
    refine(aI (by unfold c9 at h ⊢;omega)).trans ?_
    rfl
   ·refine(aI h).trans ?_
    rfl
 refine Ev.eq (λaA=>by unfold T119;rfl) (lp.ev (i:=()) ?_)
 cases hx:bL (c9 m) (λi=>pJ (i:Int) m cap slots wait lim)with
 | true=>rfl
 | false=>
  show some _=some _
  unfold wI
  rw[ML hx];rfl
end Go.Abs.Wz
namespace Go.Abs.Wz
open Go Go.Abs
theorem gJ{α:Type}[Inhabited α]{xs:List α}{i:Nat}(h:i<xs.length):xs.take i++[gt xs i]=xs.take (i+1):=by
 rw[cK h];exact List.take_append_getElem h
theorem hI{α β:Type}{xs:List β}(h:xs.length<=aW):List.length ([]:List α)+xs.length<=bound:=by
 show 0+xs.length<=bound;unfold aW at h;unfold bound;omega
theorem j9{α:Type}{xs:List α}(h:xs.length<=aW)(i:Nat):(xs.take i).length+1<=bound:=by
 rw[List.length_take];unfold aW at h;unfold bound;omega
theorem i63{i k:Nat}(h:i<k)(hk:k<=aW):i<9223372036854775807:=by unfold aW at hk;omega
theorem f80(s:aJ)(hz:SzS s):Ran p 1 80 [va K34 s] (rO K34 s):=go80 λn hn=>Ev.now λaA=>by
 show T80 (aK p n) aA s=rV K34 s
 unfold T80;refine(aE (hI hz.a)).trans ?_;refine(aE (hI hz.b)).trans ?_;rfl
theorem f75(s:aJ)(hz:SzS s):Ran p 1 75 [va K34 s] (rO K34 s):=go75 λn hn=>Ev.now λaA=>by
 show T75 (aK p n) aA s=rV K34 s
 unfold T75;refine(aE (hI hz.a)).trans ?_;refine(aE (hI hz.b)).trans ?_;rfl
theorem f106(xs:List aO)(h:xs.length<=aW):Ran p 1 106 [vf K44 (xs,())] (rO K44 (xs,())):=go106 λn hn=>Ev.now λaA=>by
 show T106 (aK p n) aA xs=rV K44 (xs,())
 unfold T106;refine(aE (hI h)).trans ?_;rfl
theorem f109(t:kX)(h:t.1.length<=aW):Ran p 1 109 [va K46 t] (rO K46 t):=go109 λn hn=>Ev.now λaA=>by
 show T109 (aK p n) aA t=rV K46 t
 unfold T109;refine(aE (hI h)).trans ?_;rfl
theorem f104(t:kX)(h:t.1.length<=aW):Ran p 2 104 [va K46 t] (rO K46 t):=go104 λn hn=>Ev.now λaA=>by
 show T104 (aK p n) aA t=rV K46 t
 unfold T104;refine(aB (f106 t.1 h n (by omega))).trans ?_;rfl
theorem f111(ts:List bQ)(h1:ts.length<=aW)(h2:∀ i,i<ts.length->(gt ts i).1.length<=aW):Ran p 1 111 [vf K50 (ts,())] (rO K50 (ts,())):=go111 λn hn=>by
 have lp:It (λaA (_:Unit)=>c111_3 (aK p n) aA ts) ((0:Int),([]:List bQ)) (λ_=>rV K50 (ts,())):=by
  refine It.run (λi=>((i:Int),ts.take i)) ts.length (λi hi aA u rec=>?_) (It.stop λaA u rec=>?_)
  ·show c111_3 (aK p n) aA ts rec ((i:Int),ts.take i)=rec (((i+1:Nat):Int),ts.take (i+1))
   unfold c111_3;dsimp only;rw[aL (i63 hi h1)];refine(aE (Int.ofNat_lt.2 hi)).trans ?_;refine bif_nn.trans ?_;refine(aH hi).trans ?_
   refine(aE (hI (h2 i hi))).trans ?_;refine(aE (j9 h1 i)).trans ?_;rw[<- gJ hi];rfl
  ·show c111_3 (aK p n) aA ts rec ((ts.length:Int),ts.take ts.length)=_
   refine(congrArg (λl=>c111_3 (aK p n) aA ts rec ((ts.length:Int),l)) (List.take_length (l:=ts))).trans ?_
   unfold c111_3;dsimp only;refine(aI (Int.lt_irrefl _)).trans ?_;rfl
 exact Ev.eq (λaA=>by unfold T111;rfl) (lp.ev (i:=()) rfl)
theorem f107(ts:List bQ)(h1:ts.length<=aW)(h2:∀ i,i<ts.length->(gt ts i).1.length<=aW):Ran p 2 107 [vf K50 (ts,())] (rO K50 (ts,())):=go107 λn hn=>by
 have lp:It (λaA (_:Unit)=>c107_3 (aK p n) aA ts) ((0:Int),([]:List bQ)) (λ_=>rV K50 (ts,())):=by
  refine It.run (λi=>((i:Int),ts.take i)) ts.length (λi hi aA u rec=>?_) (It.stop λaA u rec=>?_)
  ·show c107_3 (aK p n) aA ts rec ((i:Int),ts.take i)=rec (((i+1:Nat):Int),ts.take (i+1))
   unfold c107_3;dsimp only;rw[aL (i63 hi h1)];refine(aE (Int.ofNat_lt.2 hi)).trans ?_;refine bif_nn.trans ?_;refine(aH hi).trans ?_
   refine(aB (f106 (gt ts i).1 (h2 i hi) n (by omega))).trans ?_;refine(aE (j9 h1 i)).trans ?_;rw[<- gJ hi];rfl
  ·show c107_3 (aK p n) aA ts rec ((ts.length:Int),ts.take ts.length)=_
   refine(congrArg (λl=>c107_3 (aK p n) aA ts rec ((ts.length:Int),l)) (List.take_length (l:=ts))).trans ?_
   unfold c107_3;dsimp only;refine(aI (Int.lt_irrefl _)).trans ?_;rfl
 exact Ev.eq (λaA=>by unfold T107;rfl) (lp.ev (i:=()) rfl)
theorem f110(l:f8)(h1:l.2.2.1.length<=aW)(h2:∀ i,i<l.2.2.1.length->SzS (gt l.2.2.1 i)):Ran p 2 110 [va K49 l] (rO K49 l):=go110 λn hn=>by
 have lp:It (λaA (_:Unit)=>c110_3 (aK p n) aA l) ((0:Int),([]:List aJ)) (λ_=>rV K49 l):=by
  refine It.run (λi=>((i:Int),l.2.2.1.take i)) l.2.2.1.length (λi hi aA u rec=>?_) (It.stop λaA u rec=>?_)
  ·show c110_3 (aK p n) aA l rec ((i:Int),l.2.2.1.take i)=rec (((i+1:Nat):Int),l.2.2.1.take (i+1))
   unfold c110_3;dsimp only;rw[aL (i63 hi h1)];refine(aE (Int.ofNat_lt.2 hi)).trans ?_;refine bif_nn.trans ?_;refine(aH hi).trans ?_
   refine(aB (f80 (gt l.2.2.1 i) (h2 i hi) n (by omega))).trans ?_;refine(aE (j9 h1 i)).trans ?_;rw[<- gJ hi];rfl
  ·show c110_3 (aK p n) aA l rec ((l.2.2.1.length:Int),l.2.2.1.take l.2.2.1.length)=_
   refine(congrArg (λq=>c110_3 (aK p n) aA l rec ((l.2.2.1.length:Int),q)) (List.take_length (l:=l.2.2.1))).trans ?_
   unfold c110_3;dsimp only;refine(aI (Int.lt_irrefl _)).trans ?_;rfl
 exact Ev.eq (λaA=>by unfold T110;rfl) (lp.ev (i:=()) rfl)
theorem f105(l:f8)(h1:l.2.2.1.length<=aW)(h2:∀ i,i<l.2.2.1.length->SzS (gt l.2.2.1 i)):Ran p 2 105 [va K49 l] (rO K49 l):=go105 λn hn=>by
 have lp:It (λaA (_:Unit)=>c105_3 (aK p n) aA l) ((0:Int),([]:List aJ)) (λ_=>rV K49 l):=by
  refine It.run (λi=>((i:Int),l.2.2.1.take i)) l.2.2.1.length (λi hi aA u rec=>?_) (It.stop λaA u rec=>?_)
  ·show c105_3 (aK p n) aA l rec ((i:Int),l.2.2.1.take i)=rec (((i+1:Nat):Int),l.2.2.1.take (i+1))
   unfold c105_3;dsimp only;rw[aL (i63 hi h1)];refine(aE (Int.ofNat_lt.2 hi)).trans ?_;refine bif_nn.trans ?_;refine(aH hi).trans ?_
   refine(aB (f75 (gt l.2.2.1 i) (h2 i hi) n (by omega))).trans ?_;refine(aE (j9 h1 i)).trans ?_;rw[<- gJ hi];rfl
  ·show c105_3 (aK p n) aA l rec ((l.2.2.1.length:Int),l.2.2.1.take l.2.2.1.length)=_
   refine(congrArg (λq=>c105_3 (aK p n) aA l rec ((l.2.2.1.length:Int),q)) (List.take_length (l:=l.2.2.1))).trans ?_
   unfold c105_3;dsimp only;refine(aI (Int.lt_irrefl _)).trans ?_;rfl
 exact Ev.eq (λaA=>by unfold T105;rfl) (lp.ev (i:=()) rfl)
theorem f79(k:dN)(h:k.2.1.length<=aW):Ran p 1 79 [va K77 k] (rO K77 k):=go79 λn hn=>Ev.now λaA=>by
 show T79 (aK p n) aA k=rV K77 k
 unfold T79;refine(aE (hI h)).trans ?_;rfl
theorem f74(k:dN)(h:k.2.1.length<=aW):Ran p 2 74 [va K77 k] (rO K77 k):=go74 λn hn=>Ev.now λaA=>by
 show T74 (aK p n) aA k=rV K77 k
 have hb:k.2.1.length<=bound:=by unfold aW at h;unfold bound;omega
 unfold T74;refine(aB (f108 [(k.2.1,())] k.2.1.length (λi hi=>by
  have:i=0:=by simpa using hi
  subst this;exact Nat.le_refl _) (by simpa using hb) (show 1<=maxLen by decide) n (by omega))).trans ?_
 have e:([(k.2.1,())]:List bQ).flatMap (λr=>r.1)=k.2.1:=by simp
 exact congrArg (λl:List aO=>(rV K77 ((k.1,l,k.2.2.1,()):dN):Option Out)) e
theorem f78(x:NodeT)(hz:SzN x):Ran p 3 78 [va K54 x] (rO K54 x):=go78 λn hn=>Ev.now λaA=>by
 show T78 (aK p n) aA x=rV K54 x
 unfold T78
 refine(aB (f80 x.state hz.state n (by omega))).trans ?_
 refine(aB (f109 x.tree hz.leaves n (by omega))).trans ?_
 refine(aB (f110 x.log hz.list hz.logs n (by omega))).trans ?_
 refine(aE (hI hz.got)).trans ?_;refine(aE (hI hz.acked)).trans ?_
 refine(aB (f111 x.seen hz.seen hz.lines n (by omega))).trans ?_
 refine(aE (hI hz.sess)).trans ?_;refine(aE (hI hz.rises)).trans ?_
 rfl
theorem f73(x:NodeT)(hz:SzN x):Ran p 3 73 [va K54 x] (rO K54 x):=go73 λn hn=>Ev.now λaA=>by
 show T73 (aK p n) aA x=rV K54 x
 unfold T73
 refine(aB (f75 x.state hz.state n (by omega))).trans ?_
 refine(aB (f104 x.tree hz.leaves n (by omega))).trans ?_
 refine(aB (f105 x.log hz.list hz.logs n (by omega))).trans ?_
 refine(aB (f106 x.got hz.got n (by omega))).trans ?_
 refine(aB (f106 x.acked hz.acked n (by omega))).trans ?_
 refine(aB (f107 x.seen hz.seen hz.lines n (by omega))).trans ?_
 refine(aE (hI hz.sess)).trans ?_;refine(aE (hI hz.rises)).trans ?_
 rfl
structure SzX (w:a9):Prop extends SzW w where
 bytes:∀ i,i<w.2.1.length->(gt w.2.1 i).2.1.length<=aW
theorem f41(w:a9)(hz:SzX w):Ran p 4 41 [va K28 w] (rO K28 w):=go41 λn hn=>by
 have said:It (λaA (_:Unit)=>c41_11 (aK p n) aA w w.1 w.2.1) ((0:Int),([]:List xO)) (λ_=>rV K28 w):=by
  refine It.run (λi=>((i:Int),w.2.2.1.take i)) w.2.2.1.length (λi hi aA u rec=>?_) (It.stop λaA u rec=>?_)
  ·show c41_11 (aK p n) aA w w.1 w.2.1 rec ((i:Int),w.2.2.1.take i)=rec (((i+1:Nat):Int),w.2.2.1.take (i+1))
   unfold c41_11;dsimp only;rw[aL (i63 hi hz.said)];refine(aE (Int.ofNat_lt.2 hi)).trans ?_;refine bif_nn.trans ?_;refine(aH hi).trans ?_
   refine bif_nn.trans ?_;refine(aH hi).trans ?_
   refine(aB (f80 (gt w.2.2.1 i).2 (hz.part i hi) n (by omega))).trans ?_;refine(aE (j9 hz.said i)).trans ?_;rw[<- gJ hi];rfl
  ·show c41_11 (aK p n) aA w w.1 w.2.1 rec ((w.2.2.1.length:Int),w.2.2.1.take w.2.2.1.length)=_
   refine(congrArg (λl=>c41_11 (aK p n) aA w w.1 w.2.1 rec ((w.2.2.1.length:Int),l)) (List.take_length (l:=w.2.2.1))).trans ?_
   unfold c41_11;dsimp only;refine(aI (Int.lt_irrefl _)).trans ?_;rfl
 have net:It (λaA (_:Unit)=>c41_7 (aK p n) aA w w.1) ((0:Int),([]:List dN)) (λ_=>rV K28 w):=by
  refine It.run (λi=>((i:Int),w.2.1.take i)) w.2.1.length (λi hi aA u rec=>?_) (It.stopE (T:=λaA _=>iter (c41_11 (aK p n) aA w w.1 w.2.1) aA ((0:Int),([]:List xO))) (λaA u rec=>?_) said.all_i)
  ·show c41_7 (aK p n) aA w w.1 rec ((i:Int),w.2.1.take i)=rec (((i+1:Nat):Int),w.2.1.take (i+1))
   unfold c41_7;dsimp only;rw[aL (i63 hi hz.net)];refine(aE (Int.ofNat_lt.2 hi)).trans ?_;refine bif_nn.trans ?_;refine(aH hi).trans ?_
   refine(aB (f79 (gt w.2.1 i) (hz.bytes i hi) n (by omega))).trans ?_;refine(aE (j9 hz.net i)).trans ?_;rw[<- gJ hi];rfl
  ·show c41_7 (aK p n) aA w w.1 rec ((w.2.1.length:Int),w.2.1.take w.2.1.length)=_
   refine(congrArg (λl=>c41_7 (aK p n) aA w w.1 rec ((w.2.1.length:Int),l)) (List.take_length (l:=w.2.1))).trans ?_
   unfold c41_7;dsimp only;refine(aI (Int.lt_irrefl _)).trans ?_;rfl
 have nodes:It (λaA (_:Unit)=>c41_3 (aK p n) aA w) ((0:Int),([]:List NodeT)) (λ_=>rV K28 w):=by
  refine It.run (λi=>((i:Int),w.1.take i)) w.1.length (λi hi aA u rec=>?_) (It.stopE (T:=λaA _=>iter (c41_7 (aK p n) aA w w.1) aA ((0:Int),([]:List dN))) (λaA u rec=>?_) net.all_i)
  ·show c41_3 (aK p n) aA w rec ((i:Int),w.1.take i)=rec (((i+1:Nat):Int),w.1.take (i+1))
   unfold c41_3;dsimp only;rw[aL (i63 hi hz.nodes)];refine(aE (Int.ofNat_lt.2 hi)).trans ?_;refine bif_nn.trans ?_;refine(aH hi).trans ?_
   refine(aB (f78 (gt w.1 i) (hz.node i hi) n (by omega))).trans ?_;refine(aE (j9 hz.nodes i)).trans ?_;rw[<- gJ hi];rfl
  ·show c41_3 (aK p n) aA w rec ((w.1.length:Int),w.1.take w.1.length)=_
   refine(congrArg (λl=>c41_3 (aK p n) aA w rec ((w.1.length:Int),l)) (List.take_length (l:=w.1))).trans ?_
   unfold c41_3;dsimp only;refine(aI (Int.lt_irrefl _)).trans ?_;rfl
 exact Ev.eq (λaA=>by unfold T41;rfl) (nodes.ev (i:=()) rfl)
theorem f38(w:a9)(hz:SzX w):Ran p 4 38 [va K28 w] (rO K28 w):=go38 λn hn=>by
 have said:It (λaA (_:Unit)=>c38_13 (aK p n) aA w w.1 w.2.1) ((0:Int),([]:List xO)) (λ_=>rV K28 w):=by
  refine It.run (λi=>((i:Int),w.2.2.1.take i)) w.2.2.1.length (λi hi aA u rec=>?_) (It.stop λaA u rec=>?_)
  ·show c38_13 (aK p n) aA w w.1 w.2.1 rec ((i:Int),w.2.2.1.take i)=rec (((i+1:Nat):Int),w.2.2.1.take (i+1))
   unfold c38_13;dsimp only;rw[aL (i63 hi hz.said)];refine(aE (Int.ofNat_lt.2 hi)).trans ?_;refine bif_nn.trans ?_;refine(aH hi).trans ?_
   refine(aB (f75 (gt w.2.2.1 i).2 (hz.part i hi) n (by omega))).trans ?_;refine(aE (j9 hz.said i)).trans ?_;rw[<- gJ hi];rfl
  ·show c38_13 (aK p n) aA w w.1 w.2.1 rec ((w.2.2.1.length:Int),w.2.2.1.take w.2.2.1.length)=_
   refine(congrArg (λl=>c38_13 (aK p n) aA w w.1 w.2.1 rec ((w.2.2.1.length:Int),l)) (List.take_length (l:=w.2.2.1))).trans ?_
   unfold c38_13;dsimp only;refine(aI (Int.lt_irrefl _)).trans ?_;rfl
 have net:It (λaA (_:Unit)=>c38_8 (aK p n) aA w w.1) ((0:Int),([]:List dN)) (λ_=>rV K28 w):=by
  refine It.run (λi=>((i:Int),w.2.1.take i)) w.2.1.length (λi hi aA u rec=>?_) (It.stopE (T:=λaA _=>iter (c38_13 (aK p n) aA w w.1 w.2.1) aA ((0:Int),([]:List xO))) (λaA u rec=>?_) said.all_i)
  ·show c38_8 (aK p n) aA w w.1 rec ((i:Int),w.2.1.take i)=rec (((i+1:Nat):Int),w.2.1.take (i+1))
   unfold c38_8;dsimp only;rw[aL (i63 hi hz.net)];refine(aE (Int.ofNat_lt.2 hi)).trans ?_;refine bif_nn.trans ?_;refine(aH hi).trans ?_
   refine(aB (f74 (gt w.2.1 i) (hz.bytes i hi) n (by omega))).trans ?_;refine(aE (j9 hz.net i)).trans ?_;rw[<- gJ hi];rfl
  ·show c38_8 (aK p n) aA w w.1 rec ((w.2.1.length:Int),w.2.1.take w.2.1.length)=_
   refine(congrArg (λl=>c38_8 (aK p n) aA w w.1 rec ((w.2.1.length:Int),l)) (List.take_length (l:=w.2.1))).trans ?_
   unfold c38_8;dsimp only;refine(aI (Int.lt_irrefl _)).trans ?_;rfl
 have nodes:It (λaA (_:Unit)=>c38_3 (aK p n) aA w) ((0:Int),([]:List NodeT)) (λ_=>rV K28 w):=by
  refine It.run (λi=>((i:Int),w.1.take i)) w.1.length (λi hi aA u rec=>?_) (It.stopE (T:=λaA _=>iter (c38_8 (aK p n) aA w w.1) aA ((0:Int),([]:List dN))) (λaA u rec=>?_) net.all_i)
  ·show c38_3 (aK p n) aA w rec ((i:Int),w.1.take i)=rec (((i+1:Nat):Int),w.1.take (i+1))
   unfold c38_3;dsimp only;rw[aL (i63 hi hz.nodes)];refine(aE (Int.ofNat_lt.2 hi)).trans ?_;refine bif_nn.trans ?_;refine(aH hi).trans ?_
   refine(aB (f73 (gt w.1 i) (hz.node i hi) n (by omega))).trans ?_;refine(aE (j9 hz.nodes i)).trans ?_;rw[<- gJ hi];rfl
  ·show c38_3 (aK p n) aA w rec ((w.1.length:Int),w.1.take w.1.length)=_
   refine(congrArg (λl=>c38_3 (aK p n) aA w rec ((w.1.length:Int),l)) (List.take_length (l:=w.1))).trans ?_
   unfold c38_3;dsimp only;refine(aI (Int.lt_irrefl _)).trans ?_;rfl
 exact Ev.eq (λaA=>by unfold T38;rfl) (nodes.ev (i:=()) rfl)
end Go.Abs.Wz
