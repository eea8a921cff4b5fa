/- What the functions of this program answer, part e. -/
import Derived.Test.YtmamlgjbendjhaaGreatXd
set_option linter.unusedVariables false
open Go.IntKind (i64)
namespace Go.Abs.Xz
open Go Go.Abs
theorem IX{α:Type}{a b:Bool}{F R:α}:(bif a then(bif !b then F else R)else F)=bif a&&b then R else F:=by cases a<;>cases b<;>rfl
theorem two{α:Type}{a b:Bool}{X R:α}:(bif a then(bif b then X else R)else R)=bif a&&b then X else R:=by cases a<;>cases b<;>rfl
theorem aU{k:Nat}(h:k≤aX):k≤maxLen:=Nat.le_trans h (by decide)
theorem cN{i k:Nat}(hi:i<k)(h:k≤aX):i<9223372036854775807:=Nat.lt_of_lt_of_le hi (Nat.le_trans h (by decide))

theorem f229(l:lV)(hl:l.2.2.1.length≤aX)(hs:∀ i,i<l.2.2.1.length→SzS (gt l.2.2.1 i)):Ran p 4 229 [va K33 l] (rO K4 (gR l,())):=go229 fun n hn=>by
 have lp:It (fun aA (_:Unit)=>c229_4 (aG p n) aA l) (0:Int) (fun _=>oB (bZ l.2.2.1.length fun i=>bA (gt l.2.2.1 i))):=by
  refine cZ (It.allB l.2.2.1.length _ true (fun i hi aA a rec=>?_) (It.stop fun aA a rec=>?_))
  ·have hb:=cN hi hl
   show c229_4 (aG p n) aA l rec (i:Int)=_
   unfold c229_4;rw[aI hb];refine(aE (Int.ofNat_lt.2 hi)).trans ?_;refine bif_nn.trans ?_;refine(aK hi).trans ?_;refine(aC (f227 (gt l.2.2.1 i) (aU (hs i hi).a) (aU (hs i hi).b) n (by omega))).trans ?_;exact fin
  ·show c229_4 (aG p n) aA l rec (l.2.2.1.length:Int)=_
   unfold c229_4;refine(aF (Int.lt_irrefl _)).trans ?_;rfl
 obtain⟨N,hN⟩:=lp.all_i
 refine⟨N,fun aA hf=>?_⟩
 show T229 (aG p n) aA l=oB (gR l)
 unfold T229 gR;refine(aC (f211 l.1 1 8 n (by omega))).trans ?_;refine eA fun _=>?_;refine pA fun _=>?_;refine(aC (f211 l.2.1 0 100000 n (by omega))).trans ?_;refine eA fun _=>?_;refine pA fun _=>?_;exact hN aA hf ()
theorem f105(l:lV)(hl:l.2.2.1.length≤aX)(hs:∀ i,i<l.2.2.1.length→SzS (gt l.2.2.1 i)):Ran p 4 105 [va K33 l] (rO K4 (gR l,())):=go105 fun n hn=>by
 have lp:It (fun aA (_:Unit)=>c105_2 (aG p n) aA l) (0:Int) (fun _=>oB (B4 l)):=by
  refine It.allB l.2.2.1.length _ _ (fun i hi aA a rec=>?_) (It.stop fun aA a rec=>?_)
  ·have hb:=cN hi hl
   show c105_2 (aG p n) aA l rec (i:Int)=_
   unfold c105_2;rw[aI hb];refine(aE (Int.ofNat_lt.2 hi)).trans ?_;refine bif_nn.trans ?_;refine(aK hi).trans ?_;refine(aC (f101 (gt l.2.2.1 i) (aU (hs i hi).a) (aU (hs i hi).b) n (by omega))).trans ?_;exact fin
  ·show c105_2 (aG p n) aA l rec (l.2.2.1.length:Int)=_
   unfold c105_2;refine(aF (Int.lt_irrefl _)).trans ?_;refine(aC (f100 l.1 1 8 n (by omega))).trans ?_;refine eH fun _=>?_;refine eH fun _=>?_;refine(aC (f100 l.2.1 0 100000 n (by omega))).trans ?_;refine eH fun _=>?_;rfl
 rw[IE] at lp
 exact Ev.eq (fun aA=>by unfold T105;rfl) (lp.ev (i:=()) rfl)
theorem f231(l:lV)(hl:l.2.2.1.length≤aX)(hs:∀ i,i<l.2.2.1.length→SzS (gt l.2.2.1 i)):Ran p 5 231 [va K33 l] (rO K3 (dU l,())):=go231 fun n hn=>Ev.now fun aA=>by
 unfold T231 dU;refine(aC (f229 l hl hs n (by omega))).trans ?_;cases gR l<;>rfl
theorem f104(l:lV)(hl:l.2.2.1.length≤aX)(hs:∀ i,i<l.2.2.1.length→SzS (gt l.2.2.1 i)):Ran p 5 104 [va K33 l] (rO K3 (dU l,())):=go104 fun n hn=>Ev.now fun aA=>by
 unfold T104 dU;refine(aC (f105 l hl hs n (by omega))).trans ?_;cases gR l<;>rfl
theorem f230(v:List bB)(m:Int)(hv:v.length≤aX):Ran p 2 230 [vf K28 (v,()), vf K3 (m,())] (rO K4 (fT v m,())):=go230 fun n hn=>by
 have lp:∃ N,∀ aA,N≤aA→((v.length:Int)==m)=true→iter (c230_4 (aG p n) aA v m) aA (0:Int)=oB (bZ v.length fun i=>inB (gt v i).1 0 100000):=by
  cases he:(v.length:Int)==m with
  | false=>exact⟨0,fun _ _ h=>by cases h⟩
  | true=>
   have e:m=(v.length:Int):=(eq_of_beq he).symm
   subst e
   have lp:It (fun aA (_:Unit)=>c230_4 (aG p n) aA v (v.length:Int)) (0:Int) (fun _=>oB (bZ v.length fun i=>inB (gt v i).1 0 100000)):=by
    refine cZ (It.allB v.length _ true (fun i hi aA a rec=>?_) (It.stop fun aA a rec=>?_))
    ·have hb:=cN hi hv
     show c230_4 (aG p n) aA v (v.length:Int) rec (i:Int)=_
     unfold c230_4;rw[aI hb];refine(aE (Int.ofNat_lt.2 hi)).trans ?_;refine bif_nn.trans ?_;refine(aK hi).trans ?_;refine(aC (f211 (gt v i).1 0 100000 n (by omega))).trans ?_;exact fin
    ·show c230_4 (aG p n) aA v (v.length:Int) rec (v.length:Int)=_
     unfold c230_4;refine(aF (Int.lt_irrefl _)).trans ?_;rfl
   obtain⟨N,hN⟩:=lp.all_i
   exact⟨N,fun aA hf _=>hN aA hf ()⟩
 obtain⟨N,hN⟩:=lp
 refine⟨N,fun aA hf=>?_⟩
 show T230 (aG p n) aA v m=oB (fT v m)
 unfold T230 fT;refine(aC (f211 m 1 5 n (by omega))).trans ?_;refine eA fun _=>?_;refine eA fun h=>?_;exact hN aA hf h
theorem f106(v:List bB)(m:Int)(hv:v.length≤aX):Ran p 2 106 [vf K28 (v,()), vf K3 (m,())] (rO K4 (fT v m,())):=go106 fun n hn=>by
 have lp:It (fun aA (_:Unit)=>c106_2 (aG p n) aA v m) (0:Int) (fun _=>oB (BJ v m)):=by
  refine It.allB v.length _ _ (fun i hi aA a rec=>?_) (It.stop fun aA a rec=>?_)
  ·have hb:=cN hi hv
   show c106_2 (aG p n) aA v m rec (i:Int)=_
   unfold c106_2;rw[aI hb];refine(aE (Int.ofNat_lt.2 hi)).trans ?_;refine bif_nn.trans ?_;refine(aK hi).trans ?_;refine(aC (f100 (gt v i).1 0 100000 n (by omega))).trans ?_;exact fin
  ·show c106_2 (aG p n) aA v m rec (v.length:Int)=_
   unfold c106_2;refine(aF (Int.lt_irrefl _)).trans ?_;refine(aC (f100 m 1 5 n (by omega))).trans ?_;refine eH fun _=>?_;rfl
 rw[HQ] at lp
 exact Ev.eq (fun aA=>by unfold T106;rfl) (lp.ev (i:=()) rfl)
theorem f232(t:List cV)(m:Int)(hv:t.length≤aX)(hr:∀ k,k<t.length→(gt t k).1.length≤aX):Ran p 2 232 [vf K34 (t,()), vf K3 (m,())] (rO K4 (gY t m,())):=go232 fun n hn=>by
 have inner:∀ k,k<t.length→It (fun aA rec4=>c232_9 (aG p n) aA t m (k:Int) rec4) (0:Int) (fun(rec4:Int→Option Out)=>bif(bZ (gt t k).1.length fun i=>inB (gt (gt t k).1 i).1 0 1000)then rec4 ((k+1:Nat):Int)else oB false):=by
  intro k hk
  have hkb:=cN hk hv
  refine It.all (fun i=>(i:Int)) (gt t k).1.length _ (rA:=fun(rec4:Int→Option Out)=>rec4 ((k+1:Nat):Int)) (rB:=fun _=>oB false) (fun i hi aA rec4 rec=>?_) (It.stop fun aA rec4 rec=>?_)
  ·have hb:=cN hi (hr k hk)
   show c232_9 (aG p n) aA t m (k:Int) rec4 rec (i:Int)=_
   unfold c232_9;rw[aI hb];refine bif_nn.trans ?_;refine(aK hk).trans ?_;refine(aE (Int.ofNat_lt.2 hi)).trans ?_;refine bif_nn.trans ?_;refine(aK hk).trans ?_;refine bif_nn.trans ?_;refine(aK hi).trans ?_;refine(aC (f211 (gt (gt t k).1 i).1 0 1000 n (by omega))).trans ?_;exact fin
  ·show c232_9 (aG p n) aA t m (k:Int) rec4 rec (((gt t k).1.length:Nat):Int)=_
   unfold c232_9;rw[aI hkb];refine bif_nn.trans ?_;refine(aK hk).trans ?_;refine(aF (Int.lt_irrefl _)).trans ?_;rfl
 have lp:∃ N,∀ aA,N≤aA→((t.length:Int)==m)=true→iter (c232_4 (aG p n) aA t m) aA (0:Int)=oB (bZ t.length fun k=>pJ (gt t k)):=by
  cases he:(t.length:Int)==m with
  | false=>exact⟨0,fun _ _ h=>by cases h⟩
  | true=>
   have e:m=(t.length:Int):=(eq_of_beq he).symm
   subst e
   have lp:It (fun aA (_:Unit)=>c232_4 (aG p n) aA t (t.length:Int)) (0:Int) (fun _=>oB (bZ t.length fun k=>pJ (gt t k))):=by
    refine cZ (It.allBE t.length _ true (fun k hk=>?_) (It.stop fun aA a rec=>?_))
    ·obtain⟨N,hN⟩:=(inner k hk).all_i
     refine⟨N,fun aA hf a rec=>?_⟩
     show c232_4 (aG p n) aA t (t.length:Int) rec (k:Int)=_
     unfold c232_4 pJ;refine(aE (Int.ofNat_lt.2 hk)).trans ?_;refine bif_nn.trans ?_;refine(aK hk).trans ?_;refine chk fun _=>?_;exact hN aA hf rec
    ·show c232_4 (aG p n) aA t (t.length:Int) rec (t.length:Int)=_
     unfold c232_4;refine(aF (Int.lt_irrefl _)).trans ?_;rfl
   obtain⟨N,hN⟩:=lp.all_i
   exact⟨N,fun aA hf _=>hN aA hf ()⟩
 obtain⟨N,hN⟩:=lp
 refine⟨N,fun aA hf=>?_⟩
 show T232 (aG p n) aA t m=oB (gY t m)
 unfold T232 gY;refine(aC (f211 m 1 5 n (by omega))).trans ?_;refine eA fun _=>?_;refine eA fun h=>?_;exact hN aA hf h
theorem f108(t:List cV)(m:Int)(hv:t.length≤aX)(hr:∀ k,k<t.length→(gt t k).1.length≤aX):Ran p 2 108 [vf K34 (t,()), vf K3 (m,())] (rO K4 (gY t m,())):=go108 fun n hn=>by
 have inner:∀ k,k<t.length→It (fun aA rec2=>c108_5 (aG p n) aA t m (gt (α:=cV) t k) (k:Int) rec2) (0:Int) (fun(rec2:Int→Option Out)=>bif(bZ (gt t k).1.length fun i=>inB (gt (gt t k).1 i).1 0 1000)then(bif !(((gt t k).1.length:Nat):Int)==5 then oB false else rec2 ((k+1:Nat):Int))else oB false):=by
  intro k hk
  have hkb:=cN hk hv
  refine It.all (fun i=>(i:Int)) (gt t k).1.length _ (rA:=fun(rec2:Int→Option Out)=>bif !(((gt t k).1.length:Nat):Int)==5 then oB false else rec2 ((k+1:Nat):Int)) (rB:=fun _=>oB false) (fun i hi aA rec2 rec=>?_) (It.stop fun aA rec2 rec=>?_)
  ·have hb:=cN hi (hr k hk)
   show c108_5 (aG p n) aA t m (gt (α:=cV) t k) (k:Int) rec2 rec (i:Int)=_
   unfold c108_5;rw[aI hb];refine(aE (Int.ofNat_lt.2 hi)).trans ?_;refine bif_nn.trans ?_;refine(aK hi).trans ?_;refine(aC (f100 (gt (gt t k).1 i).1 0 1000 n (by omega))).trans ?_;exact fin
  ·show c108_5 (aG p n) aA t m (gt (α:=cV) t k) (k:Int) rec2 rec (((gt t k).1.length:Nat):Int)=_
   unfold c108_5;rw[aI hkb];refine(aF (Int.lt_irrefl _)).trans ?_;rfl
 have lp:It (fun aA (_:Unit)=>c108_2 (aG p n) aA t m) (0:Int) (fun _=>oB (uT t m)):=by
  refine It.allBE t.length _ _ (fun k hk=>?_) (It.stop fun aA a rec=>?_)
  ·obtain⟨N,hN⟩:=(inner k hk).all_i
   refine⟨N,fun aA hf a rec=>?_⟩
   show c108_2 (aG p n) aA t m rec (k:Int)=_
   unfold c108_2 uK;refine(aE (Int.ofNat_lt.2 hk)).trans ?_;refine bif_nn.trans ?_;refine(aK hk).trans ?_;exact(hN aA hf rec).trans IX
  ·show c108_2 (aG p n) aA t m rec (t.length:Int)=_
   unfold c108_2;refine(aF (Int.lt_irrefl _)).trans ?_;refine(aC (f100 m 1 5 n (by omega))).trans ?_;refine eH fun _=>?_;rfl
 rw[DS] at lp
 exact Ev.eq (fun aA=>by unfold T108;rfl) (lp.ev (i:=()) rfl)
theorem f107(v:List bB)(hv:v.length≤aX)(h0:0<v.length):Ran p 1 107 [vf K28 (v,())] (rO K3 (EG v,())):=go107 fun n hn=>by
 obtain⟨k,hk⟩:∃ k,v.length=k+1:=⟨v.length - 1,by omega⟩
 have em:EG v=qO v k:=by unfold EG;rw[hk];rfl
 rw[em]
 have lp:It (fun aA (_:Unit)=>c107_5 (aG p n) aA v) ((gt (α:=bB) v 0).1,(1:Int)) (fun _=>oI (qO v k)):=by
  refine It.run (fun j=>(qO v j,((j+1:Nat):Int))) k (fun j hj aA a rec=>?_) (It.stop fun aA a rec=>?_)
  ·have hj1:j+1<v.length:=by omega
   have hb:=cN hj1 hv
   show c107_5 (aG p n) aA v rec (qO v j,((j+1:Nat):Int))=_
   unfold c107_5;dsimp only;rw[aI hb];refine(aE (Int.ofNat_lt.2 hj1)).trans ?_;refine bif_nn.trans ?_;refine(aK hj1).trans ?_;rfl
  ·show c107_5 (aG p n) aA v rec (qO v k,((k+1:Nat):Int))=_
   unfold c107_5;rw[← hk];refine(aF (Int.lt_irrefl _)).trans ?_;rfl
 refine Ev.eq (fun aA=>?_) (lp.ev (i:=()) rfl)
 unfold T107;refine(aF (by show ¬ ((v.length:Int)<1);omega)).trans ?_;refine(aE (by decide)).trans ?_;exact(aK (α:=bB) (xs:=v) (i:=0) h0)
theorem f82(nd:NodeT)(x:Int):Ran p 2 82 [va K38 nd, vf K3 (x,())] (rO K4 (oV nd x,())):=go82 fun n hn=>Ev.now fun aA=>by
 unfold T82 oV;refine(aC (f100 x 0 (i64.wrap (nd.2.1 - 1)) n (by omega))).trans ?_;refine eH fun _=>?_;rfl
theorem f21(nd:NodeT)(x:Int)(b:Bool)(hv:nd.sess.length≤aX):Ran p 1 21 [va K38 nd, vf K3 (x,()), vf K4 (b,())] (rO K3 (cP nd.sess x b,())):=go21 fun n hn=>by
 have lp:It (fun aA (_:Unit)=>c21_2 (aG p n) aA nd x b) (0:Int) (fun _=>oI (cP nd.sess x b)):=by
  have:=It.first (c:=fun aA (_:Unit)=>c21_2 (aG p n) aA nd x b) (fun i=>(i:Int)) nd.sess.length (fun i=>dC nd.sess i x b) (fun i _=>oI (i:Int)) (fun _=>oI (-1)) (fun i hi hp aA a rec=>?_) (fun i hi hp=>It.stop fun aA a rec=>?_) (It.stop fun aA a rec=>?_)
  ·revert this;unfold cP
   cases (List.range nd.sess.length).find? (fun i=>dC nd.sess i x b)<;>exact fun h=>h
  ·have hb:=cN hi hv
   show c21_2 (aG p n) aA nd x b rec (i:Int)=_
   unfold c21_2;rw[aI hb];refine(aE (Int.ofNat_lt.2 hi)).trans ?_;refine bif_nn.trans ?_;refine(aK hi).trans ?_;exact two.trans (aL hp)
  ·show c21_2 (aG p n) aA nd x b rec (i:Int)=_
   unfold c21_2;refine(aE (Int.ofNat_lt.2 hi)).trans ?_;refine bif_nn.trans ?_;refine(aK hi).trans ?_;exact two.trans (aN hp)
  ·show c21_2 (aG p n) aA nd x b rec (nd.sess.length:Int)=_
   unfold c21_2;refine(aF (Int.lt_irrefl _)).trans ?_;rfl
 exact Ev.eq (fun aA=>by unfold T21;rfl) (lp.ev (i:=()) rfl)
theorem f109(nd:NodeT)(hv:nd.sess.length≤aX):Ran p 3 109 [va K38 nd] (rO K4 (p9 nd,())):=go109 fun n hn=>by
 have lp:It (fun aA (_:Unit)=>c109_2 (aG p n) aA nd) (0:Int) (fun _=>oB (p9 nd)):=by
  refine It.allB nd.sess.length _ _ (fun i hi aA a rec=>?_) (It.stop fun aA a rec=>?_)
  ·have hb:=cN hi hv
   show c109_2 (aG p n) aA nd rec (i:Int)=_
   unfold c109_2 oA;rw[aI hb];refine(aE (Int.ofNat_lt.2 hi)).trans ?_;refine bif_nn.trans ?_;refine(aK hi).trans ?_;refine(aC (f82 nd (gt nd.sess i).1 n (by omega))).trans ?_;refine chk fun _=>?_;refine(aC (f100 (gt nd.sess i).2.1 0 100000 n (by omega))).trans ?_;refine chk fun _=>?_;refine(aC (f100 (gt nd.sess i).2.2.2.1 0 nd.wait n (by omega))).trans ?_;refine chk fun _=>?_;refine(aC (f21 nd (gt nd.sess i).1 (gt nd.sess i).2.2.1 hv n (by omega))).trans ?_;exact fin
  ·show c109_2 (aG p n) aA nd rec (nd.sess.length:Int)=_
   unfold c109_2;refine(aF (Int.lt_irrefl _)).trans ?_;refine(aC (f100 nd.slots 1 4 n (by omega))).trans ?_;refine eH fun _=>?_;rfl
 exact Ev.eq (fun aA=>by unfold T109;rfl) (lp.ev (i:=()) rfl)
theorem f110(nd:NodeT)(hv:nd.rises.length≤aX):Ran p 2 110 [va K38 nd] (rO K4 (qB nd,())):=go110 fun n hn=>by
 have lp:It (fun aA (_:Unit)=>c110_2 (aG p n) aA nd) (0:Int) (fun _=>oB (qB nd)):=by
  refine It.allB nd.rises.length _ _ (fun i hi aA a rec=>?_) (It.stop fun aA a rec=>?_)
  ·have hb:=cN hi hv
   show c110_2 (aG p n) aA nd rec (i:Int)=_
   unfold c110_2 kG;rw[aI hb];refine(aE (Int.ofNat_lt.2 hi)).trans ?_;refine bif_nn.trans ?_;refine(aK hi).trans ?_;refine(aC (f100 (gt nd.rises i).1 0 1000 n (by omega))).trans ?_;refine chk fun _=>?_;refine(aC (f100 (gt nd.rises i).2.1 0 100000 n (by omega))).trans ?_;refine chk fun _=>?_;refine(aC (f100 (gt nd.rises i).2.2.1 0 nd.clock n (by omega))).trans ?_;exact fin
  ·show c110_2 (aG p n) aA nd rec (nd.rises.length:Int)=_
   unfold c110_2;refine(aF (Int.lt_irrefl _)).trans ?_;rfl
 exact Ev.eq (fun aA=>by unfold T110;rfl) (lp.ev (i:=()) rfl)
theorem f233(nd:NodeT)(hv:nd.sess.length≤aX):Ran p 2 233 [va K38 nd] (rO K4 (kF nd,())):=go233 fun n hn=>by
 have inner:∀ (o3 o4:Rows [K4]×Rows []) (i:Nat),i<nd.sess.length→It (fun aA rec4=>c233_10 (aG p n) aA nd o3 o4 (gt (α:=dS) nd.sess i) (i:Int) rec4) (0:Int) (fun(rec4:Int→Option Out)=>bif xC nd.sess i then rec4 ((i+1:Nat):Int)else oB false):=by
  intro o3 o4 i hi
  have hib:=cN hi hv
  refine It.all (fun k=>(k:Int)) i (fun k=> !dC nd.sess k (gt nd.sess i).1 (gt nd.sess i).2.2.1) (rA:=fun(rec4:Int→Option Out)=>rec4 ((i+1:Nat):Int)) (rB:=fun _=>oB false) (fun k hk aA rec4 rec=>?_) (It.stop fun aA rec4 rec=>?_)
  ·have hk':k<nd.sess.length:=by omega
   have hb:=cN hk' hv
   show c233_10 (aG p n) aA nd o3 o4 (gt (α:=dS) nd.sess i) (i:Int) rec4 rec (k:Int)=_
   unfold c233_10 dC;rw[aI hb];refine(aE (Int.ofNat_lt.2 hk)).trans ?_;refine bif_nn.trans ?_;refine(aK hk').trans ?_
   show(bif(gt nd.sess k).1==(gt nd.sess i).1 then _ else _)=bif !((gt nd.sess k).1==(gt nd.sess i).1&&_)then _ else _
   cases (gt nd.sess k).1==(gt nd.sess i).1 with
   | false=>rfl
   | true=>refine(aN rfl).trans ?_;refine bif_nn.trans ?_;refine(aK hk').trans ?_;exact zD
  ·show c233_10 (aG p n) aA nd o3 o4 (gt (α:=dS) nd.sess i) (i:Int) rec4 rec (i:Int)=_
   unfold c233_10;rw[aI hib];exact aF (Int.lt_irrefl _)
 have lp:It (fun aA (_:Unit)=>c233_4 (aG p n) aA nd) (0:Int) (fun _=>oB (bZ nd.sess.length (lH nd nd.sess))):=by
  refine cZ (It.allBE nd.sess.length _ true (fun i hi=>?_) (It.stop fun aA a rec=>?_))
  ·obtain⟨N,hN⟩:=(inner (((inB (gt nd.sess i).2.1 0 100000,()),()),()) (((inB (gt nd.sess i).2.2.2.1 0 nd.wait,()),()),()) i hi).all_i
   refine⟨N,fun aA hf a rec=>?_⟩
   show c233_4 (aG p n) aA nd rec (i:Int)=_
   unfold c233_4 lH;refine(aE (Int.ofNat_lt.2 hi)).trans ?_;refine bif_nn.trans ?_;refine(aK hi).trans ?_;refine(aC (f211 (gt nd.sess i).1 0 (i64.wrap (nd.2.1 - 1)) n (by omega))).trans ?_;refine chk fun _=>?_;refine HF fun _=>?_;refine(aC (f211 (gt nd.sess i).2.1 0 100000 n (by omega))).trans ?_;refine chk fun _=>?_;refine(aC (f211 (gt nd.sess i).2.2.2.1 0 nd.wait n (by omega))).trans ?_;refine chk fun _=>?_;exact hN aA hf rec
  ·show c233_4 (aG p n) aA nd rec (nd.sess.length:Int)=_
   unfold c233_4;refine(aF (Int.lt_irrefl _)).trans ?_;rfl
 obtain⟨N,hN⟩:=lp.all_i
 refine⟨N,fun aA hf=>?_⟩
 show T233 (aG p n) aA nd=oB (kF nd)
 unfold T233 kF;refine pA fun _=>?_;exact hN aA hf ()
theorem JA{nd:NodeT}(h1:inB nd.2.1 1 5=true)(h2:inB nd.1 0 (i64.wrap (nd.2.1 - 1))=true)(h3:fT nd.got nd.2.1=true):∃ k:Nat,nd.1=(k:Int)∧k<nd.got.length:=by
 rw[bH] at h1 h2
 rw[eY (by omega) (by omega)] at h2
 unfold fT at h3;simp only[Bool.and_eq_true,beq_iff_eq] at h3
 exact⟨nd.1.toNat,by omega,by omega⟩
theorem f23(nd:NodeT)(hz:SzN nd):Ran p 7 23 [va K38 nd] (rO K4 (eC nd,())):=go23 fun n hn=>Ev.now fun aA=>by
 rw[← F9]
 show T23 (aG p n) aA nd=oB (uI nd)
 unfold T23 uI;refine(aC (f100 nd.2.1 1 5 n (by omega))).trans ?_;refine eA fun h1=>?_;refine(aC (f100 nd.1 0 (i64.wrap (nd.2.1 - 1)) n (by omega))).trans ?_;refine eA fun h2=>?_;refine(aC (f101 nd.state (aU hz.state.a) (aU hz.state.b) n (by omega))).trans ?_;refine eA fun _=>?_;refine(aC (f103 nd.state hz.state n (by omega))).trans ?_;refine(aC (f102 nd.tree (c9 nd.state) (aU hz.leaves) n (by omega))).trans ?_;refine eA fun _=>?_
 refine(aC (f104 nd.log hz.list hz.logs n (by omega))).trans ?_;refine(aC (f105 nd.log hz.list hz.logs n (by omega))).trans ?_;refine eA fun _=>?_;refine(aC (f106 nd.got nd.2.1 hz.got n (by omega))).trans ?_;refine eA fun h3=>?_;refine(aC (f106 nd.acked nd.2.1 hz.acked n (by omega))).trans ?_;refine eA fun h4=>?_
 obtain⟨k,hk,hlt⟩:=JA h1 h2 h3
 show(bif decide (0≤nd.1)then((at? nd.got (nd.1).toNat).bind _)else none)=_
 rw[hk];refine bif_nn.trans ?_;refine(aK hlt).trans ?_;refine eA fun _=>?_;refine(aC (f107 nd.acked hz.acked (wT h4) n (by omega))).trans ?_;refine pA fun _=>?_;refine(aC (f108 nd.seen nd.2.1 hz.seen hz.lines n (by omega))).trans ?_;refine eA fun _=>?_;refine(aC (f100 nd.num 0 100000 n (by omega))).trans ?_;refine eA fun _=>?_;refine(aC (f100 nd.clock 0 100000 n (by omega))).trans ?_;refine eA fun _=>?_;refine(aC (f100 nd.wait 1 20 n (by omega))).trans ?_;refine eH fun _=>?_;refine(aC (f100 nd.limit 1 50 n (by omega))).trans ?_;refine eH fun _=>?_;refine(aC (f109 nd hz.sess n (by omega))).trans ?_;refine eH fun _=>?_;refine(aC (f110 nd hz.rises n (by omega))).trans ?_;rfl
theorem f86(nd:NodeT)(hz:SzN nd):Ran p 7 86 [va K38 nd] (rO K4 (eC nd,())):=go86 fun n hn=>by
 have ri:∃ N,∀ aA,N≤aA→((nd.rises.length:Int)==5)=true→iter (c86_13 (aG p n) aA nd) aA (0:Int)=oB (bZ nd.rises.length (kG nd)&&kF nd):=by
  cases he:(nd.rises.length:Int)==5 with
  | false=>exact⟨0,fun _ _ h=>by cases h⟩
  | true=>
   have e:nd.rises.length=5:=by have:=eq_of_beq he;omega
   have lp:It (fun aA (_:Unit)=>c86_13 (aG p n) aA nd) (0:Int) (fun _=>oB (bZ 5 (kG nd)&&kF nd)):=by
    refine It.allB 5 _ _ (fun i hi aA a rec=>?_) (It.stop fun aA a rec=>?_)
    ·have hb:i<9223372036854775807:=by omega
     have hi':i<nd.rises.length:=by omega
     show c86_13 (aG p n) aA nd rec (i:Int)=_
     unfold c86_13 kG;rw[aI hb];refine(aE (by show(i:Int)<5;omega)).trans ?_;refine bif_nn.trans ?_;refine(aK hi').trans ?_;refine(aC (f211 (gt nd.rises i).1 0 1000 n (by omega))).trans ?_;refine chk fun _=>?_;refine(aC (f211 (gt nd.rises i).2.1 0 100000 n (by omega))).trans ?_;refine chk fun _=>?_;refine(aC (f211 (gt nd.rises i).2.2.1 0 nd.clock n (by omega))).trans ?_;exact fin
    ·show c86_13 (aG p n) aA nd rec (5:Int)=_
     unfold c86_13;refine(aF (by decide)).trans ?_;refine(aC (f233 nd hz.sess n (by omega))).trans ?_;rfl
   rw[e]
   obtain⟨N,hN⟩:=lp.all_i
   exact⟨N,fun aA hf _=>hN aA hf ()⟩
 have ak:∃ N,∀ aA,N≤aA→fT nd.acked nd.2.1=true→iter (c86_6 (aG p n) aA nd) aA (0:Int)=oB (x7 nd&&jL nd):=by
  cases he:fT nd.acked nd.2.1 with
  | false=>exact⟨0,fun _ _ h=>by cases h⟩
  | true=>
   have e:nd.2.1=(nd.acked.length:Int):=by unfold fT at he;simp only[Bool.and_eq_true,beq_iff_eq] at he;omega
   obtain⟨M,hM⟩:=ri
   have lp:It (fun aA (_:Unit)=>c86_6 (aG p n) aA nd) (0:Int) (fun _=>oB (x7 nd&&jL nd)):=by
    refine It.allB nd.acked.length _ _ (fun i hi aA a rec=>?_) (It.stopE (T:=fun aA _=>c86_6 (aG p n) aA nd (fun _=>none) (nd.acked.length:Int)) (fun aA a rec=>?_) ⟨M,fun aA hf a=>?_⟩)
    ·have hb:=cN hi hz.acked
     show c86_6 (aG p n) aA nd rec (i:Int)=_
     unfold c86_6;rw[aI hb];refine(aE (by show(i:Int)<nd.2.1;omega)).trans ?_;refine bif_nn.trans ?_;refine(aK hi).trans ?_;refine(aC (f231 nd.log hz.list hz.logs n (by omega))).trans ?_;exact zD
    ·show c86_6 (aG p n) aA nd rec (nd.acked.length:Int)=c86_6 (aG p n) aA nd (fun _=>none) (nd.acked.length:Int)
     unfold c86_6;refine(aF (by show ¬ ((nd.acked.length:Int)<nd.2.1);omega)).trans ?_;exact(aF (by show ¬ ((nd.acked.length:Int)<nd.2.1);omega)).symm
    ·show c86_6 (aG p n) aA nd (fun _=>none) (nd.acked.length:Int)=oB (jL nd)
     unfold c86_6 jL;refine(aF (by show ¬ ((nd.acked.length:Int)<nd.2.1);omega)).trans ?_
     refine(aC (f211 nd.num 0 100000 n (by omega))).trans ?_;refine eA fun _=>?_;refine(aC (f211 nd.clock 0 100000 n (by omega))).trans ?_;refine eA fun _=>?_;refine(aC (f211 nd.slots 1 4 n (by omega))).trans ?_;refine eA fun _=>?_;refine(aC (f211 nd.wait 1 20 n (by omega))).trans ?_;refine eA fun _=>?_;refine(aC (f211 nd.limit 1 50 n (by omega))).trans ?_;refine eA fun _=>?_;refine eA fun h5=>?_;exact hM aA hf h5
   obtain⟨N,hN⟩:=lp.all_i
   exact⟨N,fun aA hf _=>hN aA hf ()⟩
 obtain⟨N,hN⟩:=ak
 refine⟨N,fun aA hf=>?_⟩
 show T86 (aG p n) aA nd=oB (eC nd)
 unfold T86 eC;refine(aC (f211 nd.2.1 1 5 n (by omega))).trans ?_;refine eA fun h1=>?_;refine(aC (f211 nd.1 0 (i64.wrap (nd.2.1 - 1)) n (by omega))).trans ?_;refine eA fun h2=>?_;refine(aC (f227 nd.state (aU hz.state.a) (aU hz.state.b) n (by omega))).trans ?_;refine eA fun _=>?_;refine(aC (f228 nd.state hz.state n (by omega))).trans ?_;refine(aC (f91 nd.tree (c9 nd.state) (aU hz.leaves) n (by omega))).trans ?_;refine eA fun _=>?_
 refine(aC (f229 nd.log hz.list hz.logs n (by omega))).trans ?_;refine eA fun _=>?_;refine(aC (f230 nd.got nd.2.1 hz.got n (by omega))).trans ?_;refine eA fun h3=>?_;refine(aC (f230 nd.acked nd.2.1 hz.acked n (by omega))).trans ?_;refine eA fun h4=>?_
 obtain⟨k,hk,hlt⟩:=JA h1 h2 h3
 show(bif decide (0≤nd.1)then((at? nd.got (nd.1).toNat).bind _)else none)=_
 rw[hk];refine bif_nn.trans ?_;refine(aK hlt).trans ?_;refine(aC (f231 nd.log hz.list hz.logs n (by omega))).trans ?_;refine eA fun _=>?_;refine(aC (f232 nd.seen nd.2.1 hz.seen hz.lines n (by omega))).trans ?_;refine eA fun _=>?_;exact hN aA hf h4
theorem f152(w:aW)(x:Int):Ran p 2 152 [va K78 w, vf K3 (x,())] (rO K4 (inB x 0 (i64.wrap ((w.1.length:Int) - 1)),())):=go152 fun n hn=>Ev.now fun aA=>by
 unfold T152;refine(aC (f100 x 0 (i64.wrap ((w.1.length:Int) - 1)) n (by omega))).trans ?_;rfl
theorem f210(w:aW)(hz:SzW w):Ran p 8 210 [va K78 w] (rO K4 (cW w,())):=go210 fun n hn=>by
 have said:It (fun aA (_:Unit)=>c210_15 (aG p n) aA w) (0:Int) (fun _=>oB (bZ w.2.2.1.length (iL w))):=by
  refine cZ (It.allB w.2.2.1.length _ true (fun i hi aA a rec=>?_) (It.stop fun aA a rec=>?_))
  ·have hb:=cN hi hz.said
   show c210_15 (aG p n) aA w rec (i:Int)=_
   unfold c210_15 iL;rw[aI hb];refine(aE (Int.ofNat_lt.2 hi)).trans ?_;refine bif_nn.trans ?_;refine(aK hi).trans ?_;refine(aC (f211 (gt w.2.2.1 i).1 0 (i64.wrap ((w.1.length:Int) - 1)) n (by omega))).trans ?_;refine chk fun _=>?_;refine bif_nn.trans ?_;refine(aK hi).trans ?_;refine(aC (f227 (gt w.2.2.1 i).2 (aU (hz.part i hi).a) (aU (hz.part i hi).b) n (by omega))).trans ?_;exact fin
  ·show c210_15 (aG p n) aA w rec (w.2.2.1.length:Int)=_
   unfold c210_15;refine(aF (Int.lt_irrefl _)).trans ?_;rfl
 have net:It (fun aA (_:Unit)=>c210_10 (aG p n) aA w) (0:Int) (fun _=>oB (bZ w.2.1.length (fun i=>inB (gt w.2.1 i).1 0 (i64.wrap ((w.1.length:Int) - 1)))&&bZ w.2.2.1.length (iL w))):=by
  refine It.allB w.2.1.length _ _ (fun i hi aA a rec=>?_) (It.stopE (T:=fun aA _=>iter (c210_15 (aG p n) aA w) aA (0:Int)) (fun aA a rec=>?_) said.all_i)
  ·have hb:=cN hi hz.net
   show c210_10 (aG p n) aA w rec (i:Int)=_
   unfold c210_10;rw[aI hb];refine(aE (Int.ofNat_lt.2 hi)).trans ?_;refine bif_nn.trans ?_;refine(aK hi).trans ?_;refine(aC (f211 (gt w.2.1 i).1 0 (i64.wrap ((w.1.length:Int) - 1)) n (by omega))).trans ?_;exact fin
  ·show c210_10 (aG p n) aA w rec (w.2.1.length:Int)=_
   unfold c210_10;refine(aF (Int.lt_irrefl _)).trans ?_;rfl
 have nodes:It (fun aA (_:Unit)=>c210_5 (aG p n) aA w) (0:Int) (fun _=>oB (bZ w.1.length (kI w)&&(bZ w.2.1.length (fun i=>inB (gt w.2.1 i).1 0 (i64.wrap ((w.1.length:Int) - 1)))&&bZ w.2.2.1.length (iL w)))):=by
  refine It.allB w.1.length _ _ (fun i hi aA a rec=>?_) (It.stopE (T:=fun aA _=>iter (c210_10 (aG p n) aA w) aA (0:Int)) (fun aA a rec=>?_) net.all_i)
  ·have hb:=cN hi hz.nodes
   show c210_5 (aG p n) aA w rec (i:Int)=_
   unfold c210_5 kI;rw[aI hb];refine(aE (Int.ofNat_lt.2 hi)).trans ?_;refine bif_nn.trans ?_;refine(aK hi).trans ?_;refine(aC (f86 (gt w.1 i) (hz.node i hi) n (by omega))).trans ?_;refine chk fun _=>?_;refine bif_nn.trans ?_;refine(aK hi).trans ?_;refine chk fun _=>?_;refine bif_nn.trans ?_;refine(aK hi).trans ?_;exact fin
  ·show c210_5 (aG p n) aA w rec (w.1.length:Int)=_
   unfold c210_5;refine(aF (Int.lt_irrefl _)).trans ?_;rfl
 obtain⟨N,hN⟩:=nodes.all_i
 refine⟨N,fun aA hf=>?_⟩
 show T210 (aG p n) aA w=oB (cW w)
 unfold T210 cW;refine(aC (f211 (w.1.length:Int) 1 5 n (by omega))).trans ?_;refine eA fun _=>?_;refine pA fun _=>?_;refine pA fun _=>?_;exact hN aA hf ()
theorem f204(w:aW)(hz:SzW w):Ran p 8 204 [va K78 w] (rO K4 (cW w,())):=go204 fun n hn=>by
 have said:It (fun aA (_:Unit)=>c204_16 (aG p n) aA w) (0:Int) (fun _=>oB (bZ w.2.2.1.length (iL w))):=by
  refine cZ (It.allB w.2.2.1.length _ true (fun i hi aA a rec=>?_) (It.stop fun aA a rec=>?_))
  ·have hb:=cN hi hz.said
   show c204_16 (aG p n) aA w rec (i:Int)=_
   unfold c204_16 iL;rw[aI hb];refine(aE (Int.ofNat_lt.2 hi)).trans ?_;refine bif_nn.trans ?_;refine(aK hi).trans ?_;refine(aC (f152 w (gt w.2.2.1 i).1 n (by omega))).trans ?_;refine chk fun _=>?_;refine(aC (f101 (gt w.2.2.1 i).2 (aU (hz.part i hi).a) (aU (hz.part i hi).b) n (by omega))).trans ?_;exact fin
  ·show c204_16 (aG p n) aA w rec (w.2.2.1.length:Int)=_
   unfold c204_16;refine(aF (Int.lt_irrefl _)).trans ?_;rfl
 have net:It (fun aA (_:Unit)=>c204_10 (aG p n) aA w) (0:Int) (fun _=>oB (bZ w.2.1.length (fun i=>inB (gt w.2.1 i).1 0 (i64.wrap ((w.1.length:Int) - 1)))&&bZ w.2.2.1.length (iL w))):=by
  refine It.allB w.2.1.length _ _ (fun i hi aA a rec=>?_) (It.stopE (T:=fun aA _=>iter (c204_16 (aG p n) aA w) aA (0:Int)) (fun aA a rec=>?_) said.all_i)
  ·have hb:=cN hi hz.net
   show c204_10 (aG p n) aA w rec (i:Int)=_
   unfold c204_10;rw[aI hb];refine(aE (Int.ofNat_lt.2 hi)).trans ?_;refine bif_nn.trans ?_;refine(aK hi).trans ?_;refine(aC (f152 w (gt w.2.1 i).1 n (by omega))).trans ?_;exact fin
  ·show c204_10 (aG p n) aA w rec (w.2.1.length:Int)=_
   unfold c204_10;refine(aF (Int.lt_irrefl _)).trans ?_;rfl
 have nodes:It (fun aA (_:Unit)=>c204_4 (aG p n) aA w) (0:Int) (fun _=>oB (bZ w.1.length (kI w)&&(bZ w.2.1.length (fun i=>inB (gt w.2.1 i).1 0 (i64.wrap ((w.1.length:Int) - 1)))&&bZ w.2.2.1.length (iL w)))):=by
  refine It.allB w.1.length _ _ (fun i hi aA a rec=>?_) (It.stopE (T:=fun aA _=>iter (c204_10 (aG p n) aA w) aA (0:Int)) (fun aA a rec=>?_) net.all_i)
  ·have hb:=cN hi hz.nodes
   show c204_4 (aG p n) aA w rec (i:Int)=_
   unfold c204_4 kI;rw[aI hb];refine(aE (Int.ofNat_lt.2 hi)).trans ?_;refine bif_nn.trans ?_;refine(aK hi).trans ?_;refine(aC (f23 (gt w.1 i) (hz.node i hi) n (by omega))).trans ?_;refine chk fun _=>?_;refine chk fun _=>?_;exact fin
  ·show c204_4 (aG p n) aA w rec (w.1.length:Int)=_
   unfold c204_4;refine(aF (Int.lt_irrefl _)).trans ?_;rfl
 obtain⟨N,hN⟩:=nodes.all_i
 refine⟨N,fun aA hf=>?_⟩
 show T204 (aG p n) aA w=oB (cW w)
 unfold T204 cW;refine(aC (f100 (w.1.length:Int) 1 5 n (by omega))).trans ?_;refine eA fun _=>?_;refine pA fun _=>?_;refine pA fun _=>?_;exact hN aA hf ()
end Go.Abs.Xz
