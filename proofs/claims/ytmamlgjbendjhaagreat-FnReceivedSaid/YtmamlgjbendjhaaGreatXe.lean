/- What the functions of this program answer, part e. -/
import Derived.Test.YtmamlgjbendjhaaGreatXd
set_option linter.unusedVariables false
open Go.IntKind (i64)
namespace Go.Abs.Xz
open Go Go.Abs
theorem LZ{α:Type}{a b:Bool}{F R:α}:(bif a then(bif !b then F else R)else F)=bif a&&b then R else F:=by cases a<;>cases b<;>rfl
theorem two{α:Type}{a b:Bool}{X R:α}:(bif a then(bif b then X else R)else R)=bif a&&b then X else R:=by cases a<;>cases b<;>rfl
theorem aP{k:Nat}(h:k≤aU):k≤maxLen:=Nat.le_trans h (by decide)
theorem cL{i k:Nat}(hi:i<k)(h:k≤aU):i<9223372036854775807:=Nat.lt_of_lt_of_le hi (Nat.le_trans h (by decide))

theorem f229(l:fA)(hl:l.2.2.1.length≤aU)(hs:∀ i,i<l.2.2.1.length→SzS (gt l.2.2.1 i)):Ran p 4 229 [.val true ⟨K33,l⟩] ⟨[⟨K4,(fC l,())⟩],[]⟩:=go229 fun n hn=>by
 have lp:It (fun aA (_:Unit)=>c229_4 (aK p n) aA l) (0:Int) (fun _=>oB (bI l.2.2.1.length fun i=>aO (gt l.2.2.1 i))):=by
  refine bZ (It.allB l.2.2.1.length _ true (fun i hi aA a rec=>?_) (It.stop fun aA a rec=>?_))
  ·have hb:=cL hi hl
   show c229_4 (aK p n) aA l rec (i:Int)=_
   unfold c229_4;rw[aL hb];refine(aE (Int.ofNat_lt.2 hi)).trans ?_;refine bif_nn.trans ?_;refine(aJ hi).trans ?_;refine(aB (f227 (gt l.2.2.1 i) (aP (hs i hi).a) (aP (hs i hi).b) n (by omega))).trans ?_;exact fin
  ·show c229_4 (aK p n) aA l rec (l.2.2.1.length:Int)=_
   unfold c229_4;refine(aI (Int.lt_irrefl _)).trans ?_;rfl
 obtain⟨N,hN⟩:=lp.all_i
 refine⟨N,fun aA hf=>?_⟩
 show T229 (aK p n) aA l=oB (fC l)
 unfold T229 fC;refine(aB (f211 l.1 1 8 n (by omega))).trans ?_;refine cQ fun _=>?_;refine yT fun _=>?_;refine(aB (f211 l.2.1 0 100000 n (by omega))).trans ?_;refine cQ fun _=>?_;refine yT fun _=>?_;exact hN aA hf ()
theorem f105(l:fA)(hl:l.2.2.1.length≤aU)(hs:∀ i,i<l.2.2.1.length→SzS (gt l.2.2.1 i)):Ran p 4 105 [.val true ⟨K33,l⟩] ⟨[⟨K4,(fC l,())⟩],[]⟩:=go105 fun n hn=>by
 have lp:It (fun aA (_:Unit)=>c105_2 (aK p n) aA l) (0:Int) (fun _=>oB (C8 l)):=by
  refine It.allB l.2.2.1.length _ _ (fun i hi aA a rec=>?_) (It.stop fun aA a rec=>?_)
  ·have hb:=cL hi hl
   show c105_2 (aK p n) aA l rec (i:Int)=_
   unfold c105_2;rw[aL hb];refine(aE (Int.ofNat_lt.2 hi)).trans ?_;refine bif_nn.trans ?_;refine(aJ hi).trans ?_;refine(aB (f101 (gt l.2.2.1 i) (aP (hs i hi).a) (aP (hs i hi).b) n (by omega))).trans ?_;exact fin
  ·show c105_2 (aK p n) aA l rec (l.2.2.1.length:Int)=_
   unfold c105_2;refine(aI (Int.lt_irrefl _)).trans ?_;refine(aB (f100 l.1 1 8 n (by omega))).trans ?_;refine eU fun _=>?_;refine eU fun _=>?_;refine(aB (f100 l.2.1 0 100000 n (by omega))).trans ?_;refine eU fun _=>?_;rfl
 rw[LO] at lp
 exact Ev.eq (fun aA=>by unfold T105;rfl) (lp.ev (i:=()) rfl)
theorem f231(l:fA)(hl:l.2.2.1.length≤aU)(hs:∀ i,i<l.2.2.1.length→SzS (gt l.2.2.1 i)):Ran p 5 231 [.val true ⟨K33,l⟩] ⟨[⟨K3,(cA l,())⟩],[]⟩:=go231 fun n hn=>Ev.now fun aA=>by
 unfold T231 cA;refine(aB (f229 l hl hs n (by omega))).trans ?_;cases fC l<;>rfl
theorem f104(l:fA)(hl:l.2.2.1.length≤aU)(hs:∀ i,i<l.2.2.1.length→SzS (gt l.2.2.1 i)):Ran p 5 104 [.val true ⟨K33,l⟩] ⟨[⟨K3,(cA l,())⟩],[]⟩:=go104 fun n hn=>Ev.now fun aA=>by
 unfold T104 cA;refine(aB (f105 l hl hs n (by omega))).trans ?_;cases fC l<;>rfl
theorem f230(v:List aX)(m:Int)(hv:v.length≤aU):Ran p 2 230 [.val false ⟨K28,(v,())⟩, .val false ⟨K3,(m,())⟩] ⟨[⟨K4,(dX v m,())⟩],[]⟩:=go230 fun n hn=>by
 have lp:∃ N,∀ aA,N≤aA→(((v.length:Nat):Int)==m)=true→iter (c230_4 (aK p n) aA v m) aA (0:Int)=oB (bI v.length fun i=>inB (gt v i).1 0 100000):=by
  cases he:((v.length:Nat):Int)==m with
  | false=>exact⟨0,fun _ _ h=>by cases h⟩
  | true=>
   have e:m=((v.length:Nat):Int):=(eq_of_beq he).symm
   subst e
   have lp:It (fun aA (_:Unit)=>c230_4 (aK p n) aA v ((v.length:Nat):Int)) (0:Int) (fun _=>oB (bI v.length fun i=>inB (gt v i).1 0 100000)):=by
    refine bZ (It.allB v.length _ true (fun i hi aA a rec=>?_) (It.stop fun aA a rec=>?_))
    ·have hb:=cL hi hv
     show c230_4 (aK p n) aA v ((v.length:Nat):Int) rec (i:Int)=_
     unfold c230_4;rw[aL hb];refine(aE (Int.ofNat_lt.2 hi)).trans ?_;refine bif_nn.trans ?_;refine(aJ hi).trans ?_;refine(aB (f211 (gt v i).1 0 100000 n (by omega))).trans ?_;exact fin
    ·show c230_4 (aK p n) aA v ((v.length:Nat):Int) rec (v.length:Int)=_
     unfold c230_4;refine(aI (Int.lt_irrefl _)).trans ?_;rfl
   obtain⟨N,hN⟩:=lp.all_i
   exact⟨N,fun aA hf _=>hN aA hf ()⟩
 obtain⟨N,hN⟩:=lp
 refine⟨N,fun aA hf=>?_⟩
 show T230 (aK p n) aA v m=oB (dX v m)
 unfold T230 dX;refine(aB (f211 m 1 5 n (by omega))).trans ?_;refine cQ fun _=>?_;refine cQ fun h=>?_;exact hN aA hf h
theorem f106(v:List aX)(m:Int)(hv:v.length≤aU):Ran p 2 106 [.val false ⟨K28,(v,())⟩, .val false ⟨K3,(m,())⟩] ⟨[⟨K4,(dX v m,())⟩],[]⟩:=go106 fun n hn=>by
 have lp:It (fun aA (_:Unit)=>c106_2 (aK p n) aA v m) (0:Int) (fun _=>oB (CH v m)):=by
  refine It.allB v.length _ _ (fun i hi aA a rec=>?_) (It.stop fun aA a rec=>?_)
  ·have hb:=cL hi hv
   show c106_2 (aK p n) aA v m rec (i:Int)=_
   unfold c106_2;rw[aL hb];refine(aE (Int.ofNat_lt.2 hi)).trans ?_;refine bif_nn.trans ?_;refine(aJ hi).trans ?_;refine(aB (f100 (gt v i).1 0 100000 n (by omega))).trans ?_;exact fin
  ·show c106_2 (aK p n) aA v m rec (v.length:Int)=_
   unfold c106_2;refine(aI (Int.lt_irrefl _)).trans ?_;refine(aB (f100 m 1 5 n (by omega))).trans ?_;refine eU fun _=>?_;rfl
 rw[KG] at lp
 exact Ev.eq (fun aA=>by unfold T106;rfl) (lp.ev (i:=()) rfl)
theorem f232(t:List bQ)(m:Int)(hv:t.length≤aU)(hr:∀ k,k<t.length→(gt t k).1.length≤aU):Ran p 2 232 [.val false ⟨K34,(t,())⟩, .val false ⟨K3,(m,())⟩] ⟨[⟨K4,(fV t m,())⟩],[]⟩:=go232 fun n hn=>by
 have inner:∀ k,k<t.length→It (fun aA rec4=>c232_9 (aK p n) aA t m (k:Int) rec4) (0:Int) (fun(rec4:Int→Option Out)=>bif(bI (gt t k).1.length fun i=>inB (gt (gt t k).1 i).1 0 1000)then rec4 ((k+1:Nat):Int)else oB false):=by
  intro k hk
  have hkb:=cL hk hv
  refine It.all (fun i=>(i:Int)) (gt t k).1.length _ (rA:=fun(rec4:Int→Option Out)=>rec4 ((k+1:Nat):Int)) (rB:=fun _=>oB false) (fun i hi aA rec4 rec=>?_) (It.stop fun aA rec4 rec=>?_)
  ·have hb:=cL hi (hr k hk)
   show c232_9 (aK p n) aA t m (k:Int) rec4 rec (i:Int)=_
   unfold c232_9;rw[aL hb];refine bif_nn.trans ?_;refine(aJ hk).trans ?_;refine(aE (Int.ofNat_lt.2 hi)).trans ?_;refine bif_nn.trans ?_;refine(aJ hk).trans ?_;refine bif_nn.trans ?_;refine(aJ hi).trans ?_;refine(aB (f211 (gt (gt t k).1 i).1 0 1000 n (by omega))).trans ?_;exact fin
  ·show c232_9 (aK p n) aA t m (k:Int) rec4 rec (((gt t k).1.length:Nat):Int)=_
   unfold c232_9;rw[aL hkb];refine bif_nn.trans ?_;refine(aJ hk).trans ?_;refine(aI (Int.lt_irrefl _)).trans ?_;rfl
 have lp:∃ N,∀ aA,N≤aA→(((t.length:Nat):Int)==m)=true→iter (c232_4 (aK p n) aA t m) aA (0:Int)=oB (bI t.length fun k=>pN (gt t k)):=by
  cases he:((t.length:Nat):Int)==m with
  | false=>exact⟨0,fun _ _ h=>by cases h⟩
  | true=>
   have e:m=((t.length:Nat):Int):=(eq_of_beq he).symm
   subst e
   have lp:It (fun aA (_:Unit)=>c232_4 (aK p n) aA t ((t.length:Nat):Int)) (0:Int) (fun _=>oB (bI t.length fun k=>pN (gt t k))):=by
    refine bZ (It.allBE t.length _ true (fun k hk=>?_) (It.stop fun aA a rec=>?_))
    ·obtain⟨N,hN⟩:=(inner k hk).all_i
     refine⟨N,fun aA hf a rec=>?_⟩
     show c232_4 (aK p n) aA t ((t.length:Nat):Int) rec (k:Int)=_
     unfold c232_4 pN;refine(aE (Int.ofNat_lt.2 hk)).trans ?_;refine bif_nn.trans ?_;refine(aJ hk).trans ?_;refine chk fun _=>?_;exact hN aA hf rec
    ·show c232_4 (aK p n) aA t ((t.length:Nat):Int) rec (t.length:Int)=_
     unfold c232_4;refine(aI (Int.lt_irrefl _)).trans ?_;rfl
   obtain⟨N,hN⟩:=lp.all_i
   exact⟨N,fun aA hf _=>hN aA hf ()⟩
 obtain⟨N,hN⟩:=lp
 refine⟨N,fun aA hf=>?_⟩
 show T232 (aK p n) aA t m=oB (fV t m)
 unfold T232 fV;refine(aB (f211 m 1 5 n (by omega))).trans ?_;refine cQ fun _=>?_;refine cQ fun h=>?_;exact hN aA hf h
theorem f108(t:List bQ)(m:Int)(hv:t.length≤aU)(hr:∀ k,k<t.length→(gt t k).1.length≤aU):Ran p 2 108 [.val false ⟨K34,(t,())⟩, .val false ⟨K3,(m,())⟩] ⟨[⟨K4,(fV t m,())⟩],[]⟩:=go108 fun n hn=>by
 have inner:∀ k,k<t.length→It (fun aA rec2=>c108_5 (aK p n) aA t m (gt (α:=bQ) t k) (k:Int) rec2) (0:Int) (fun(rec2:Int→Option Out)=>bif(bI (gt t k).1.length fun i=>inB (gt (gt t k).1 i).1 0 1000)then(bif !(((gt t k).1.length:Nat):Int)==5 then oB false else rec2 ((k+1:Nat):Int))else oB false):=by
  intro k hk
  have hkb:=cL hk hv
  refine It.all (fun i=>(i:Int)) (gt t k).1.length _ (rA:=fun(rec2:Int→Option Out)=>bif !(((gt t k).1.length:Nat):Int)==5 then oB false else rec2 ((k+1:Nat):Int)) (rB:=fun _=>oB false) (fun i hi aA rec2 rec=>?_) (It.stop fun aA rec2 rec=>?_)
  ·have hb:=cL hi (hr k hk)
   show c108_5 (aK p n) aA t m (gt (α:=bQ) t k) (k:Int) rec2 rec (i:Int)=_
   unfold c108_5;rw[aL hb];refine(aE (Int.ofNat_lt.2 hi)).trans ?_;refine bif_nn.trans ?_;refine(aJ hi).trans ?_;refine(aB (f100 (gt (gt t k).1 i).1 0 1000 n (by omega))).trans ?_;exact fin
  ·show c108_5 (aK p n) aA t m (gt (α:=bQ) t k) (k:Int) rec2 rec (((gt t k).1.length:Nat):Int)=_
   unfold c108_5;rw[aL hkb];refine(aI (Int.lt_irrefl _)).trans ?_;rfl
 have lp:It (fun aA (_:Unit)=>c108_2 (aK p n) aA t m) (0:Int) (fun _=>oB (uY t m)):=by
  refine It.allBE t.length _ _ (fun k hk=>?_) (It.stop fun aA a rec=>?_)
  ·obtain⟨N,hN⟩:=(inner k hk).all_i
   refine⟨N,fun aA hf a rec=>?_⟩
   show c108_2 (aK p n) aA t m rec (k:Int)=_
   unfold c108_2 uO;refine(aE (Int.ofNat_lt.2 hk)).trans ?_;refine bif_nn.trans ?_;refine(aJ hk).trans ?_;exact(hN aA hf rec).trans LZ
  ·show c108_2 (aK p n) aA t m rec (t.length:Int)=_
   unfold c108_2;refine(aI (Int.lt_irrefl _)).trans ?_;refine(aB (f100 m 1 5 n (by omega))).trans ?_;refine eU fun _=>?_;rfl
 rw[FD] at lp
 exact Ev.eq (fun aA=>by unfold T108;rfl) (lp.ev (i:=()) rfl)
theorem f107(v:List aX)(hv:v.length≤aU)(h0:0<v.length):Ran p 1 107 [.val false ⟨K28,(v,())⟩] ⟨[⟨K3,(F9 v,())⟩],[]⟩:=go107 fun n hn=>by
 obtain⟨k,hk⟩:∃ k,v.length=k+1:=⟨v.length - 1,by omega⟩
 have em:F9 v=qZ v k:=by unfold F9;rw[hk];rfl
 rw[em]
 have lp:It (fun aA (_:Unit)=>c107_5 (aK p n) aA v) ((gt (α:=aX) v 0).1,(1:Int)) (fun _=>oI (qZ v k)):=by
  refine It.run (fun j=>(qZ v j,((j+1:Nat):Int))) k (fun j hj aA a rec=>?_) (It.stop fun aA a rec=>?_)
  ·have hj1:j+1<v.length:=by omega
   have hb:=cL hj1 hv
   show c107_5 (aK p n) aA v rec (qZ v j,((j+1:Nat):Int))=_
   unfold c107_5;dsimp only;rw[aL hb];refine(aE (Int.ofNat_lt.2 hj1)).trans ?_;refine bif_nn.trans ?_;refine(aJ hj1).trans ?_;rfl
  ·show c107_5 (aK p n) aA v rec (qZ v k,((k+1:Nat):Int))=_
   unfold c107_5;rw[← hk];refine(aI (Int.lt_irrefl _)).trans ?_;rfl
 refine Ev.eq (fun aA=>?_) (lp.ev (i:=()) rfl)
 unfold T107;refine(aI (by show ¬ ((v.length:Int)<1);omega)).trans ?_;refine(aE (by decide)).trans ?_;exact(aJ (α:=aX) (xs:=v) (i:=0) h0)
theorem f82(nd:NodeT)(x:Int):Ran p 2 82 [.val true ⟨K38,nd⟩, .val false ⟨K3,(x,())⟩] ⟨[⟨K4,(qT nd x,())⟩],[]⟩:=go82 fun n hn=>Ev.now fun aA=>by
 unfold T82 qT;refine(aB (f100 x 0 (i64.wrap (nd.2.1 - 1)) n (by omega))).trans ?_;refine eU fun _=>?_;rfl
theorem f21(nd:NodeT)(x:Int)(b:Bool)(hv:nd.sess.length≤aU):Ran p 1 21 [.val true ⟨K38,nd⟩, .val false ⟨K3,(x,())⟩, .val false ⟨K4,(b,())⟩] ⟨[⟨K3,(bW nd.sess x b,())⟩],[]⟩:=go21 fun n hn=>by
 have lp:It (fun aA (_:Unit)=>c21_2 (aK p n) aA nd x b) (0:Int) (fun _=>oI (bW nd.sess x b)):=by
  have:=It.first (c:=fun aA (_:Unit)=>c21_2 (aK p n) aA nd x b) (fun i=>(i:Int)) nd.sess.length (fun i=>dC nd.sess i x b) (fun i _=>oI (i:Int)) (fun _=>oI (-1)) (fun i hi hp aA a rec=>?_) (fun i hi hp=>It.stop fun aA a rec=>?_) (It.stop fun aA a rec=>?_)
  ·revert this;unfold bW
   cases (List.range nd.sess.length).find? (fun i=>dC nd.sess i x b)<;>exact fun h=>h
  ·have hb:=cL hi hv
   show c21_2 (aK p n) aA nd x b rec (i:Int)=_
   unfold c21_2;rw[aL hb];refine(aE (Int.ofNat_lt.2 hi)).trans ?_;refine bif_nn.trans ?_;refine(aJ hi).trans ?_;exact two.trans (aF hp)
  ·show c21_2 (aK p n) aA nd x b rec (i:Int)=_
   unfold c21_2;refine(aE (Int.ofNat_lt.2 hi)).trans ?_;refine bif_nn.trans ?_;refine(aJ hi).trans ?_;exact two.trans (aN hp)
  ·show c21_2 (aK p n) aA nd x b rec (nd.sess.length:Int)=_
   unfold c21_2;refine(aI (Int.lt_irrefl _)).trans ?_;rfl
 exact Ev.eq (fun aA=>by unfold T21;rfl) (lp.ev (i:=()) rfl)
theorem f109(nd:NodeT)(hv:nd.sess.length≤aU):Ran p 3 109 [.val true ⟨K38,nd⟩] ⟨[⟨K4,(qG nd,())⟩],[]⟩:=go109 fun n hn=>by
 have lp:It (fun aA (_:Unit)=>c109_2 (aK p n) aA nd) (0:Int) (fun _=>oB (qG nd)):=by
  refine It.allB nd.sess.length _ _ (fun i hi aA a rec=>?_) (It.stop fun aA a rec=>?_)
  ·have hb:=cL hi hv
   show c109_2 (aK p n) aA nd rec (i:Int)=_
   unfold c109_2 oC;rw[aL hb];refine(aE (Int.ofNat_lt.2 hi)).trans ?_;refine bif_nn.trans ?_;refine(aJ hi).trans ?_;refine(aB (f82 nd (gt nd.sess i).1 n (by omega))).trans ?_;refine chk fun _=>?_;refine(aB (f100 (gt nd.sess i).2.1 0 100000 n (by omega))).trans ?_;refine chk fun _=>?_;refine(aB (f100 (gt nd.sess i).2.2.2.1 0 nd.wait n (by omega))).trans ?_;refine chk fun _=>?_;refine(aB (f21 nd (gt nd.sess i).1 (gt nd.sess i).2.2.1 hv n (by omega))).trans ?_;exact fin
  ·show c109_2 (aK p n) aA nd rec (nd.sess.length:Int)=_
   unfold c109_2;refine(aI (Int.lt_irrefl _)).trans ?_;refine(aB (f100 nd.slots 1 4 n (by omega))).trans ?_;refine eU fun _=>?_;rfl
 exact Ev.eq (fun aA=>by unfold T109;rfl) (lp.ev (i:=()) rfl)
theorem f110(nd:NodeT)(hv:nd.rises.length≤aU):Ran p 2 110 [.val true ⟨K38,nd⟩] ⟨[⟨K4,(qJ nd,())⟩],[]⟩:=go110 fun n hn=>by
 have lp:It (fun aA (_:Unit)=>c110_2 (aK p n) aA nd) (0:Int) (fun _=>oB (qJ nd)):=by
  refine It.allB nd.rises.length _ _ (fun i hi aA a rec=>?_) (It.stop fun aA a rec=>?_)
  ·have hb:=cL hi hv
   show c110_2 (aK p n) aA nd rec (i:Int)=_
   unfold c110_2 jD;rw[aL hb];refine(aE (Int.ofNat_lt.2 hi)).trans ?_;refine bif_nn.trans ?_;refine(aJ hi).trans ?_;refine(aB (f100 (gt nd.rises i).1 0 1000 n (by omega))).trans ?_;refine chk fun _=>?_;refine(aB (f100 (gt nd.rises i).2.1 0 100000 n (by omega))).trans ?_;refine chk fun _=>?_;refine(aB (f100 (gt nd.rises i).2.2.1 0 nd.clock n (by omega))).trans ?_;exact fin
  ·show c110_2 (aK p n) aA nd rec (nd.rises.length:Int)=_
   unfold c110_2;refine(aI (Int.lt_irrefl _)).trans ?_;rfl
 exact Ev.eq (fun aA=>by unfold T110;rfl) (lp.ev (i:=()) rfl)
theorem f233(nd:NodeT)(hv:nd.sess.length≤aU):Ran p 2 233 [.val true ⟨K38,nd⟩] ⟨[⟨K4,(jY nd,())⟩],[]⟩:=go233 fun n hn=>by
 have inner:∀ (o3 o4:Rows [K4]×Rows []) (i:Nat),i<nd.sess.length→It (fun aA rec4=>c233_10 (aK p n) aA nd o3 o4 (gt (α:=c7) nd.sess i) (i:Int) rec4) (0:Int) (fun(rec4:Int→Option Out)=>bif xW nd.sess i then rec4 ((i+1:Nat):Int)else oB false):=by
  intro o3 o4 i hi
  have hib:=cL hi hv
  refine It.all (fun k=>(k:Int)) i (fun k=> !dC nd.sess k (gt nd.sess i).1 (gt nd.sess i).2.2.1) (rA:=fun(rec4:Int→Option Out)=>rec4 ((i+1:Nat):Int)) (rB:=fun _=>oB false) (fun k hk aA rec4 rec=>?_) (It.stop fun aA rec4 rec=>?_)
  ·have hk':k<nd.sess.length:=by omega
   have hb:=cL hk' hv
   show c233_10 (aK p n) aA nd o3 o4 (gt (α:=c7) nd.sess i) (i:Int) rec4 rec (k:Int)=_
   unfold c233_10 dC;rw[aL hb];refine(aE (Int.ofNat_lt.2 hk)).trans ?_;refine bif_nn.trans ?_;refine(aJ hk').trans ?_
   show(bif(gt nd.sess k).1==(gt nd.sess i).1 then _ else _)=bif !((gt nd.sess k).1==(gt nd.sess i).1&&_)then _ else _
   cases (gt nd.sess k).1==(gt nd.sess i).1 with
   | false=>rfl
   | true=>refine(aN rfl).trans ?_;refine bif_nn.trans ?_;refine(aJ hk').trans ?_;exact zX
  ·show c233_10 (aK p n) aA nd o3 o4 (gt (α:=c7) nd.sess i) (i:Int) rec4 rec (i:Int)=_
   unfold c233_10;rw[aL hib];exact aI (Int.lt_irrefl _)
 have lp:It (fun aA (_:Unit)=>c233_4 (aK p n) aA nd) (0:Int) (fun _=>oB (bI nd.sess.length (lC nd nd.sess))):=by
  refine bZ (It.allBE nd.sess.length _ true (fun i hi=>?_) (It.stop fun aA a rec=>?_))
  ·obtain⟨N,hN⟩:=(inner (((inB (gt nd.sess i).2.1 0 100000,()),()),()) (((inB (gt nd.sess i).2.2.2.1 0 nd.wait,()),()),()) i hi).all_i
   refine⟨N,fun aA hf a rec=>?_⟩
   show c233_4 (aK p n) aA nd rec (i:Int)=_
   unfold c233_4 lC;refine(aE (Int.ofNat_lt.2 hi)).trans ?_;refine bif_nn.trans ?_;refine(aJ hi).trans ?_;refine(aB (f211 (gt nd.sess i).1 0 (i64.wrap (nd.2.1 - 1)) n (by omega))).trans ?_;refine chk fun _=>?_;refine JY fun _=>?_;refine(aB (f211 (gt nd.sess i).2.1 0 100000 n (by omega))).trans ?_;refine chk fun _=>?_;refine(aB (f211 (gt nd.sess i).2.2.2.1 0 nd.wait n (by omega))).trans ?_;refine chk fun _=>?_;exact hN aA hf rec
  ·show c233_4 (aK p n) aA nd rec (nd.sess.length:Int)=_
   unfold c233_4;refine(aI (Int.lt_irrefl _)).trans ?_;rfl
 obtain⟨N,hN⟩:=lp.all_i
 refine⟨N,fun aA hf=>?_⟩
 show T233 (aK p n) aA nd=oB (jY nd)
 unfold T233 jY;refine yT fun _=>?_;exact hN aA hf ()
theorem L7{nd:NodeT}(h1:inB nd.2.1 1 5=true)(h2:inB nd.1 0 (i64.wrap (nd.2.1 - 1))=true)(h3:dX nd.got nd.2.1=true):∃ k:Nat,nd.1=(k:Int)∧k<nd.got.length:=by
 rw[aS] at h1 h2
 rw[y2 (by omega) (by omega)] at h2
 unfold dX at h3;simp only[Bool.and_eq_true,beq_iff_eq] at h3
 exact⟨nd.1.toNat,by omega,by omega⟩
theorem f23(nd:NodeT)(hz:SzN nd):Ran p 7 23 [.val true ⟨K38,nd⟩] ⟨[⟨K4,(eF nd,())⟩],[]⟩:=go23 fun n hn=>Ev.now fun aA=>by
 rw[← IB]
 show T23 (aK p n) aA nd=oB (uM nd)
 unfold T23 uM;refine(aB (f100 nd.2.1 1 5 n (by omega))).trans ?_;refine cQ fun h1=>?_;refine(aB (f100 nd.1 0 (i64.wrap (nd.2.1 - 1)) n (by omega))).trans ?_;refine cQ fun h2=>?_;refine(aB (f101 nd.state (aP hz.state.a) (aP hz.state.b) n (by omega))).trans ?_;refine cQ fun _=>?_;refine(aB (f103 nd.state hz.state n (by omega))).trans ?_;refine(aB (f102 nd.tree (bX nd.state) (aP hz.leaves) n (by omega))).trans ?_;refine cQ fun _=>?_
 refine(aB (f104 nd.log hz.list hz.logs n (by omega))).trans ?_;refine(aB (f105 nd.log hz.list hz.logs n (by omega))).trans ?_;refine cQ fun _=>?_;refine(aB (f106 nd.got nd.2.1 hz.got n (by omega))).trans ?_;refine cQ fun h3=>?_;refine(aB (f106 nd.acked nd.2.1 hz.acked n (by omega))).trans ?_;refine cQ fun h4=>?_
 obtain⟨k,hk,hlt⟩:=L7 h1 h2 h3
 show(bif decide (0≤nd.1)then((at? nd.got (nd.1).toNat).bind _)else none)=_
 rw[hk];refine bif_nn.trans ?_;refine(aJ hlt).trans ?_;refine cQ fun _=>?_;refine(aB (f107 nd.acked hz.acked (xK h4) n (by omega))).trans ?_;refine yT fun _=>?_;refine(aB (f108 nd.seen nd.2.1 hz.seen hz.lines n (by omega))).trans ?_;refine cQ fun _=>?_;refine(aB (f100 nd.num 0 100000 n (by omega))).trans ?_;refine cQ fun _=>?_;refine(aB (f100 nd.clock 0 100000 n (by omega))).trans ?_;refine cQ fun _=>?_;refine(aB (f100 nd.wait 1 20 n (by omega))).trans ?_;refine eU fun _=>?_;refine(aB (f100 nd.limit 1 50 n (by omega))).trans ?_;refine eU fun _=>?_;refine(aB (f109 nd hz.sess n (by omega))).trans ?_;refine eU fun _=>?_;refine(aB (f110 nd hz.rises n (by omega))).trans ?_;rfl
theorem f86(nd:NodeT)(hz:SzN nd):Ran p 7 86 [.val true ⟨K38,nd⟩] ⟨[⟨K4,(eF nd,())⟩],[]⟩:=go86 fun n hn=>by
 have ri:∃ N,∀ aA,N≤aA→(((nd.rises.length:Nat):Int)==5)=true→iter (c86_13 (aK p n) aA nd) aA (0:Int)=oB (bI nd.rises.length (jD nd)&&jY nd):=by
  cases he:((nd.rises.length:Nat):Int)==5 with
  | false=>exact⟨0,fun _ _ h=>by cases h⟩
  | true=>
   have e:nd.rises.length=5:=by have:=eq_of_beq he;omega
   have lp:It (fun aA (_:Unit)=>c86_13 (aK p n) aA nd) (0:Int) (fun _=>oB (bI 5 (jD nd)&&jY nd)):=by
    refine It.allB 5 _ _ (fun i hi aA a rec=>?_) (It.stop fun aA a rec=>?_)
    ·have hb:i<9223372036854775807:=by omega
     have hi':i<nd.rises.length:=by omega
     show c86_13 (aK p n) aA nd rec (i:Int)=_
     unfold c86_13 jD;rw[aL hb];refine(aE (by show(i:Int)<5;omega)).trans ?_;refine bif_nn.trans ?_;refine(aJ hi').trans ?_;refine(aB (f211 (gt nd.rises i).1 0 1000 n (by omega))).trans ?_;refine chk fun _=>?_;refine(aB (f211 (gt nd.rises i).2.1 0 100000 n (by omega))).trans ?_;refine chk fun _=>?_;refine(aB (f211 (gt nd.rises i).2.2.1 0 nd.clock n (by omega))).trans ?_;exact fin
    ·show c86_13 (aK p n) aA nd rec (5:Int)=_
     unfold c86_13;refine(aI (by decide)).trans ?_;refine(aB (f233 nd hz.sess n (by omega))).trans ?_;rfl
   rw[e]
   obtain⟨N,hN⟩:=lp.all_i
   exact⟨N,fun aA hf _=>hN aA hf ()⟩
 have ak:∃ N,∀ aA,N≤aA→dX nd.acked nd.2.1=true→iter (c86_6 (aK p n) aA nd) aA (0:Int)=oB (wZ nd&&j6 nd):=by
  cases he:dX nd.acked nd.2.1 with
  | false=>exact⟨0,fun _ _ h=>by cases h⟩
  | true=>
   have e:nd.2.1=((nd.acked.length:Nat):Int):=by unfold dX at he;simp only[Bool.and_eq_true,beq_iff_eq] at he;omega
   obtain⟨M,hM⟩:=ri
   have lp:It (fun aA (_:Unit)=>c86_6 (aK p n) aA nd) (0:Int) (fun _=>oB (wZ nd&&j6 nd)):=by
    refine It.allB nd.acked.length _ _ (fun i hi aA a rec=>?_) (It.stopE (T:=fun aA _=>c86_6 (aK p n) aA nd (fun _=>none) (nd.acked.length:Int)) (fun aA a rec=>?_) ⟨M,fun aA hf a=>?_⟩)
    ·have hb:=cL hi hz.acked
     show c86_6 (aK p n) aA nd rec (i:Int)=_
     unfold c86_6;rw[aL hb];refine(aE (by show(i:Int)<nd.2.1;omega)).trans ?_;refine bif_nn.trans ?_;refine(aJ hi).trans ?_;refine(aB (f231 nd.log hz.list hz.logs n (by omega))).trans ?_;exact zX
    ·show c86_6 (aK p n) aA nd rec (nd.acked.length:Int)=c86_6 (aK p n) aA nd (fun _=>none) (nd.acked.length:Int)
     unfold c86_6;refine(aI (by show ¬ ((nd.acked.length:Int)<nd.2.1);omega)).trans ?_;exact(aI (by show ¬ ((nd.acked.length:Int)<nd.2.1);omega)).symm
    ·show c86_6 (aK p n) aA nd (fun _=>none) (nd.acked.length:Int)=oB (j6 nd)
     unfold c86_6 j6;refine(aI (by show ¬ ((nd.acked.length:Int)<nd.2.1);omega)).trans ?_
     refine(aB (f211 nd.num 0 100000 n (by omega))).trans ?_;refine cQ fun _=>?_;refine(aB (f211 nd.clock 0 100000 n (by omega))).trans ?_;refine cQ fun _=>?_;refine(aB (f211 nd.slots 1 4 n (by omega))).trans ?_;refine cQ fun _=>?_;refine(aB (f211 nd.wait 1 20 n (by omega))).trans ?_;refine cQ fun _=>?_;refine(aB (f211 nd.limit 1 50 n (by omega))).trans ?_;refine cQ fun _=>?_;refine cQ fun h5=>?_;exact hM aA hf h5
   obtain⟨N,hN⟩:=lp.all_i
   exact⟨N,fun aA hf _=>hN aA hf ()⟩
 obtain⟨N,hN⟩:=ak
 refine⟨N,fun aA hf=>?_⟩
 show T86 (aK p n) aA nd=oB (eF nd)
 unfold T86 eF;refine(aB (f211 nd.2.1 1 5 n (by omega))).trans ?_;refine cQ fun h1=>?_;refine(aB (f211 nd.1 0 (i64.wrap (nd.2.1 - 1)) n (by omega))).trans ?_;refine cQ fun h2=>?_;refine(aB (f227 nd.state (aP hz.state.a) (aP hz.state.b) n (by omega))).trans ?_;refine cQ fun _=>?_;refine(aB (f228 nd.state hz.state n (by omega))).trans ?_;refine(aB (f91 nd.tree (bX nd.state) (aP hz.leaves) n (by omega))).trans ?_;refine cQ fun _=>?_
 refine(aB (f229 nd.log hz.list hz.logs n (by omega))).trans ?_;refine cQ fun _=>?_;refine(aB (f230 nd.got nd.2.1 hz.got n (by omega))).trans ?_;refine cQ fun h3=>?_;refine(aB (f230 nd.acked nd.2.1 hz.acked n (by omega))).trans ?_;refine cQ fun h4=>?_
 obtain⟨k,hk,hlt⟩:=L7 h1 h2 h3
 show(bif decide (0≤nd.1)then((at? nd.got (nd.1).toNat).bind _)else none)=_
 rw[hk];refine bif_nn.trans ?_;refine(aJ hlt).trans ?_;refine(aB (f231 nd.log hz.list hz.logs n (by omega))).trans ?_;refine cQ fun _=>?_;refine(aB (f232 nd.seen nd.2.1 hz.seen hz.lines n (by omega))).trans ?_;refine cQ fun _=>?_;exact hN aA hf h4
end Go.Abs.Xz
