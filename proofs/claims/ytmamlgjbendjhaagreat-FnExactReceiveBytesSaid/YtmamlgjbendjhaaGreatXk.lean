/- What the functions of this program answer, part k. -/
import Derived.Test.YtmamlgjbendjhaaGreatW3
import Derived.Test.YtmamlgjbendjhaaGreatXep
import Derived.Test.YtmamlgjbendjhaaGreatW2
set_option linter.unusedVariables false
open Go.IntKind (i64)
namespace Go.Abs.Xz
open Go Go.Abs
theorem PA{α:Type}{a b:Bool}{F R:α}:(bif a then(bif !b then F else R)else F)=bif a&&b then R else F:=by cases a<;>cases b<;>rfl
theorem two{α:Type}{a b:Bool}{X R:α}:(bif a then(bif b then X else R)else R)=bif a&&b then X else R:=by cases a<;>cases b<;>rfl
theorem aV{k:Nat}(h:k<=aQ):k<=maxLen:=Nat.le_trans h (by decide)
theorem eC{i k:Nat}(hi:i<k)(h:k<=aQ):i<9223372036854775807:=Nat.lt_of_lt_of_le hi (Nat.le_trans h (by decide))

theorem f229(l:mV)(hl:l.2.2.1.length<=aQ)(hs:∀ i,i<l.2.2.1.length->SzS (gt l.2.2.1 i)):Ran p 4 229 [.val true ⟨K33,l⟩] ⟨[⟨K4,(iC l,())⟩],[]⟩:=go229 fun n hn=>by
 have lp:It (fun aA (_:Unit)=>c229_4 (aI p n) aA l) (0:Int) (fun _=>oB (cE l.2.2.1.length fun i=>aN (gt l.2.2.1 i))):=by
  refine d7 (It.allB l.2.2.1.length _ true (fun i hi aA a rec=>?_) (It.stop fun aA a rec=>?_))
  ·have hb:=eC hi hl
   unfold c229_4;rw[aD hb];refine ql hi ?_;refine qz ?_;refine(aG hi).trans ?_;refine qC (f227 (gt l.2.2.1 i) (aV (hs i hi).a) (aV (hs i hi).b)) ?_;exact fin
  ·unfold c229_4;refine qe ?_;rfl
 obtain⟨N,hN⟩:=lp.all_i
 refine⟨N,fun aA hf=>?_⟩
 show T229 (aI p n) aA l=oB (iC l)
 unfold T229 iC;refine qC (f211 l.1 1 8) ?_;refine eR fun _=>?_;refine BR fun _=>?_;refine qC (f211 l.2.1 0 100000) ?_;refine eR fun _=>?_;refine BR fun _=>?_;exact hN aA hf ()
theorem f105(l:mV)(hl:l.2.2.1.length<=aQ)(hs:∀ i,i<l.2.2.1.length->SzS (gt l.2.2.1 i)):Ran p 4 105 [.val true ⟨K33,l⟩] ⟨[⟨K4,(iC l,())⟩],[]⟩:=go105 fun n hn=>by
 have lp:It (fun aA (_:Unit)=>c105_2 (aI p n) aA l) (0:Int) (fun _=>oB (GB l)):=by
  refine It.allB l.2.2.1.length _ _ (fun i hi aA a rec=>?_) (It.stop fun aA a rec=>?_)
  ·have hb:=eC hi hl
   unfold c105_2;rw[aD hb];refine ql hi ?_;refine qz ?_;refine(aG hi).trans ?_;refine qC (f101 (gt l.2.2.1 i) (aV (hs i hi).a) (aV (hs i hi).b)) ?_;exact fin
  ·unfold c105_2;refine qe ?_;refine qC (f100 l.1 1 8) ?_;refine fL fun _=>?_;refine fL fun _=>?_;refine qC (f100 l.2.1 0 100000) ?_;refine fL fun _=>?_;rfl
 rw[OU] at lp
 exact Ev.eq (fun aA=>by unfold T105;rfl) (lp.ev (i:=()) rfl)
theorem f231(l:mV)(hl:l.2.2.1.length<=aQ)(hs:∀ i,i<l.2.2.1.length->SzS (gt l.2.2.1 i)):Ran p 5 231 [.val true ⟨K33,l⟩] ⟨[⟨K3,(dZ l,())⟩],[]⟩:=go231 fun n hn=>Ev.now fun aA=>by
 unfold T231 dZ;refine qC (f229 l hl hs) ?_;cases iC l<;>rfl
theorem f104(l:mV)(hl:l.2.2.1.length<=aQ)(hs:∀ i,i<l.2.2.1.length->SzS (gt l.2.2.1 i)):Ran p 5 104 [.val true ⟨K33,l⟩] ⟨[⟨K3,(dZ l,())⟩],[]⟩:=go104 fun n hn=>Ev.now fun aA=>by
 unfold T104 dZ;refine qC (f105 l hl hs) ?_;cases iC l<;>rfl
theorem f230(v:List aH)(m:Int)(hv:v.length<=aQ):Ran p 2 230 [.val false ⟨K28,(v,())⟩,.val false ⟨K3,(m,())⟩] ⟨[⟨K4,(fX v m,())⟩],[]⟩:=go230 fun n hn=>by
 have lp:∃ N,∀ aA,N<=aA->((v.length:Int)==m)=true->iter (c230_4 (aI p n) aA v m) aA (0:Int)=oB (cE v.length fun i=>inB (gt v i).1 0 100000):=by
  cases he:(v.length:Int)==m with
  | false=>exact⟨0,fun _ _ h=>by cases h⟩
  | true=>
   have e:m=(v.length:Int):=(eq_of_beq he).symm
   subst e
   have lp:It (fun aA (_:Unit)=>c230_4 (aI p n) aA v (v.length:Int)) (0:Int) (fun _=>oB (cE v.length fun i=>inB (gt v i).1 0 100000)):=by
    refine d7 (It.allB v.length _ true (fun i hi aA a rec=>?_) (It.stop fun aA a rec=>?_))
    ·have hb:=eC hi hv
     unfold c230_4;rw[aD hb];refine ql hi ?_;refine qz ?_;refine(aG hi).trans ?_;refine qC (f211 (gt v i).1 0 100000) ?_;exact fin
    ·unfold c230_4;refine qe ?_;rfl
   obtain⟨N,hN⟩:=lp.all_i
   exact⟨N,fun aA hf _=>hN aA hf ()⟩
 obtain⟨N,hN⟩:=lp
 refine⟨N,fun aA hf=>?_⟩
 show T230 (aI p n) aA v m=oB (fX v m)
 unfold T230 fX;refine qC (f211 m 1 5) ?_;refine eR fun _=>?_;refine eR fun h=>?_;exact hN aA hf h
theorem f106(v:List aH)(m:Int)(hv:v.length<=aQ):Ran p 2 106 [.val false ⟨K28,(v,())⟩,.val false ⟨K3,(m,())⟩] ⟨[⟨K4,(fX v m,())⟩],[]⟩:=go106 fun n hn=>by
 have lp:It (fun aA (_:Unit)=>c106_2 (aI p n) aA v m) (0:Int) (fun _=>oB (FH v m)):=by
  refine It.allB v.length _ _ (fun i hi aA a rec=>?_) (It.stop fun aA a rec=>?_)
  ·have hb:=eC hi hv
   unfold c106_2;rw[aD hb];refine ql hi ?_;refine qz ?_;refine(aG hi).trans ?_;refine qC (f100 (gt v i).1 0 100000) ?_;exact fin
  ·unfold c106_2;refine qe ?_;refine qC (f100 m 1 5) ?_;refine fL fun _=>?_;rfl
 rw[NV] at lp
 exact Ev.eq (fun aA=>by unfold T106;rfl) (lp.ev (i:=()) rfl)
theorem f232(t:List bK)(m:Int)(hv:t.length<=aQ)(hr:∀ k,k<t.length->(gt t k).1.length<=aQ):Ran p 2 232 [.val false ⟨K34,(t,())⟩,.val false ⟨K3,(m,())⟩] ⟨[⟨K4,(iP t m,())⟩],[]⟩:=go232 fun n hn=>by
 have inner:∀ k,k<t.length->It (fun aA rec4=>c232_9 (aI p n) aA t m (k:Int) rec4) (0:Int) (fun(rec4:Int->Option Out)=>bif(cE (gt t k).1.length fun i=>inB (gt (gt t k).1 i).1 0 1000)then rec4 ((k+1:Nat):Int)else oB false):=by
  intro k hk
  have hkb:=eC hk hv
  refine It.all (fun i=>(i:Int)) (gt t k).1.length _ (rA:=fun(rec4:Int->Option Out)=>rec4 ((k+1:Nat):Int)) (rB:=fun _=>oB false) (fun i hi aA rec4 rec=>?_) (It.stop fun aA rec4 rec=>?_)
  ·have hb:=eC hi (hr k hk)
   unfold c232_9;rw[aD hb];refine qz ?_;refine(aG hk).trans ?_;refine ql hi ?_;refine qz ?_;refine(aG hk).trans ?_;refine qz ?_;refine(aG hi).trans ?_;refine qC (f211 (gt (gt t k).1 i).1 0 1000) ?_;exact fin
  ·unfold c232_9;rw[aD hkb];refine qz ?_;refine(aG hk).trans ?_;refine qe ?_;rfl
 have lp:∃ N,∀ aA,N<=aA->((t.length:Int)==m)=true->iter (c232_4 (aI p n) aA t m) aA (0:Int)=oB (cE t.length fun k=>sD (gt t k)):=by
  cases he:(t.length:Int)==m with
  | false=>exact⟨0,fun _ _ h=>by cases h⟩
  | true=>
   have e:m=(t.length:Int):=(eq_of_beq he).symm
   subst e
   have lp:It (fun aA (_:Unit)=>c232_4 (aI p n) aA t (t.length:Int)) (0:Int) (fun _=>oB (cE t.length fun k=>sD (gt t k))):=by
    refine d7 (It.allBE t.length _ true (fun k hk=>?_) (It.stop fun aA a rec=>?_))
    ·obtain⟨N,hN⟩:=(inner k hk).all_i
     refine⟨N,fun aA hf a rec=>?_⟩
     unfold c232_4 sD;refine ql hk ?_;refine qz ?_;refine(aG hk).trans ?_;refine chk fun _=>?_;exact hN aA hf rec
    ·unfold c232_4;refine qe ?_;rfl
   obtain⟨N,hN⟩:=lp.all_i
   exact⟨N,fun aA hf _=>hN aA hf ()⟩
 obtain⟨N,hN⟩:=lp
 refine⟨N,fun aA hf=>?_⟩
 show T232 (aI p n) aA t m=oB (iP t m)
 unfold T232 iP;refine qC (f211 m 1 5) ?_;refine eR fun _=>?_;refine eR fun h=>?_;exact hN aA hf h
theorem f108(t:List bK)(m:Int)(hv:t.length<=aQ)(hr:∀ k,k<t.length->(gt t k).1.length<=aQ):Ran p 2 108 [.val false ⟨K34,(t,())⟩,.val false ⟨K3,(m,())⟩] ⟨[⟨K4,(iP t m,())⟩],[]⟩:=go108 fun n hn=>by
 have inner:∀ k,k<t.length->It (fun aA rec2=>c108_5 (aI p n) aA t m (gt (α:=bK) t k) (k:Int) rec2) (0:Int) (fun(rec2:Int->Option Out)=>bif(cE (gt t k).1.length fun i=>inB (gt (gt t k).1 i).1 0 1000)then(bif !(((gt t k).1.length:Nat):Int)==5 then oB false else rec2 ((k+1:Nat):Int))else oB false):=by
  intro k hk
  have hkb:=eC hk hv
  refine It.all (fun i=>(i:Int)) (gt t k).1.length _ (rA:=fun(rec2:Int->Option Out)=>bif !(((gt t k).1.length:Nat):Int)==5 then oB false else rec2 ((k+1:Nat):Int)) (rB:=fun _=>oB false) (fun i hi aA rec2 rec=>?_) (It.stop fun aA rec2 rec=>?_)
  ·have hb:=eC hi (hr k hk)
   unfold c108_5;rw[aD hb];refine ql hi ?_;refine qz ?_;refine(aG hi).trans ?_;refine qC (f100 (gt (gt t k).1 i).1 0 1000) ?_;exact fin
  ·unfold c108_5;rw[aD hkb];refine qe ?_;rfl
 have lp:It (fun aA (_:Unit)=>c108_2 (aI p n) aA t m) (0:Int) (fun _=>oB (x4 t m)):=by
  refine It.allBE t.length _ _ (fun k hk=>?_) (It.stop fun aA a rec=>?_)
  ·obtain⟨N,hN⟩:=(inner k hk).all_i
   refine⟨N,fun aA hf a rec=>?_⟩
   unfold c108_2 xQ;refine ql hk ?_;refine qz ?_;refine(aG hk).trans ?_;exact(hN aA hf rec).trans PA
  ·unfold c108_2;refine qe ?_;refine qC (f100 m 1 5) ?_;refine fL fun _=>?_;rfl
 rw[IO] at lp
 exact Ev.eq (fun aA=>by unfold T108;rfl) (lp.ev (i:=()) rfl)
theorem f107(v:List aH)(hv:v.length<=aQ)(h0:0<v.length):Ran p 1 107 [.val false ⟨K28,(v,())⟩] ⟨[⟨K3,(JG v,())⟩],[]⟩:=go107 fun n hn=>by
 obtain⟨k,hk⟩:∃ k,v.length=k+1:=⟨v.length - 1,by omega⟩
 have em:JG v=yR v k:=by unfold JG;rw[hk];rfl
 rw[em]
 have lp:It (fun aA (_:Unit)=>c107_5 (aI p n) aA v) ((gt (α:=aH) v 0).1,(1:Int)) (fun _=>oI (yR v k)):=by
  refine It.run (fun j=>(yR v j,((j+1:Nat):Int))) k (fun j hj aA a rec=>?_) (It.stop fun aA a rec=>?_)
  ·have hj1:j+1<v.length:=by omega
   have hb:=eC hj1 hv
   unfold c107_5;dsimp only;rw[aD hb];refine ql hj1 ?_;refine qz ?_;refine(aG hj1).trans ?_;rfl
  ·unfold c107_5;rw[<- hk];refine qe ?_;rfl
 refine Ev.eq (fun aA=>?_) (lp.ev (i:=()) rfl)
 unfold T107;refine qN (by show ¬ ((v.length:Int)<1);omega) ?_;refine qP (by decide) ?_;exact(aG (α:=aH) (xs:=v) (i:=0) h0)
theorem f82(nd:NodeT)(x:Int):Ran p 2 82 [.val true ⟨K38,nd⟩,.val false ⟨K3,(x,())⟩] ⟨[⟨K4,(HR nd x,())⟩],[]⟩:=go82 fun n hn=>Ev.now fun aA=>by
 unfold T82 HR;refine qC (f100 x 0 (i64.wrap (nd.2.1 - 1))) ?_;refine fL fun _=>?_;rfl
theorem f21(nd:NodeT)(x:Int)(b:Bool)(hv:nd.sess.length<=aQ):Ran p 1 21 [.val true ⟨K38,nd⟩,.val false ⟨K3,(x,())⟩,.val false ⟨K4,(b,())⟩] ⟨[⟨K3,(dF nd.sess x b,())⟩],[]⟩:=go21 fun n hn=>by
 have lp:It (fun aA (_:Unit)=>c21_2 (aI p n) aA nd x b) (0:Int) (fun _=>oI (dF nd.sess x b)):=by
  have:=It.first (c:=fun aA (_:Unit)=>c21_2 (aI p n) aA nd x b) (fun i=>(i:Int)) nd.sess.length (fun i=>dJ nd.sess i x b) (fun i _=>oI (i:Int)) (fun _=>oI (-1)) (fun i hi hp aA a rec=>?_) (fun i hi hp=>It.stop fun aA a rec=>?_) (It.stop fun aA a rec=>?_)
  ·revert this;unfold dF
   cases (List.range nd.sess.length).find? (fun i=>dJ nd.sess i x b)<;>exact fun h=>h
  ·have hb:=eC hi hv
   unfold c21_2;rw[aD hb];refine ql hi ?_;refine qz ?_;refine(aG hi).trans ?_;exact two.trans (dH hp)
  ·unfold c21_2;refine ql hi ?_;refine qz ?_;refine(aG hi).trans ?_;exact two.trans (jU hp)
  ·unfold c21_2;refine qe ?_;rfl
 exact Ev.eq (fun aA=>by unfold T21;rfl) (lp.ev (i:=()) rfl)
theorem f109(nd:NodeT)(hv:nd.sess.length<=aQ):Ran p 3 109 [.val true ⟨K38,nd⟩] ⟨[⟨K4,(tI nd,())⟩],[]⟩:=go109 fun n hn=>by
 have lp:It (fun aA (_:Unit)=>c109_2 (aI p n) aA nd) (0:Int) (fun _=>oB (tI nd)):=by
  refine It.allB nd.sess.length _ _ (fun i hi aA a rec=>?_) (It.stop fun aA a rec=>?_)
  ·have hb:=eC hi hv
   unfold c109_2 qJ;rw[aD hb];refine ql hi ?_;refine qz ?_;refine(aG hi).trans ?_;refine qC (f82 nd (gt nd.sess i).1) ?_;refine chk fun _=>?_;refine qC (f100 (gt nd.sess i).2.1 0 100000) ?_;refine chk fun _=>?_;refine qC (f100 (gt nd.sess i).2.2.2.1 0 nd.wait) ?_;refine chk fun _=>?_;refine qC (f21 nd (gt nd.sess i).1 (gt nd.sess i).2.2.1 hv) ?_;exact fin
  ·unfold c109_2;refine qe ?_;refine qC (f100 nd.slots 1 4) ?_;refine fL fun _=>?_;rfl
 exact Ev.eq (fun aA=>by unfold T109;rfl) (lp.ev (i:=()) rfl)
theorem f110(nd:NodeT)(hv:nd.rises.length<=aQ):Ran p 2 110 [.val true ⟨K38,nd⟩] ⟨[⟨K4,(tK nd,())⟩],[]⟩:=go110 fun n hn=>by
 have lp:It (fun aA (_:Unit)=>c110_2 (aI p n) aA nd) (0:Int) (fun _=>oB (tK nd)):=by
  refine It.allB nd.rises.length _ _ (fun i hi aA a rec=>?_) (It.stop fun aA a rec=>?_)
  ·have hb:=eC hi hv
   unfold c110_2 lC;rw[aD hb];refine ql hi ?_;refine qz ?_;refine(aG hi).trans ?_;refine qC (f100 (gt nd.rises i).1 0 1000) ?_;refine chk fun _=>?_;refine qC (f100 (gt nd.rises i).2.1 0 100000) ?_;refine chk fun _=>?_;refine qC (f100 (gt nd.rises i).2.2.1 0 nd.clock) ?_;exact fin
  ·unfold c110_2;refine qe ?_;rfl
 exact Ev.eq (fun aA=>by unfold T110;rfl) (lp.ev (i:=()) rfl)
theorem f233(nd:NodeT)(hv:nd.sess.length<=aQ):Ran p 2 233 [.val true ⟨K38,nd⟩] ⟨[⟨K4,(lA nd,())⟩],[]⟩:=go233 fun n hn=>by
 have inner:∀ (o3 o4:Rows [K4]×Rows []) (i:Nat),i<nd.sess.length->It (fun aA rec4=>c233_10 (aI p n) aA nd o3 o4 (gt (α:=gC) nd.sess i) (i:Int) rec4) (0:Int) (fun(rec4:Int->Option Out)=>bif A0 nd.sess i then rec4 ((i+1:Nat):Int)else oB false):=by
  intro o3 o4 i hi
  have hib:=eC hi hv
  refine It.all (fun k=>(k:Int)) i (fun k=> !dJ nd.sess k (gt nd.sess i).1 (gt nd.sess i).2.2.1) (rA:=fun(rec4:Int->Option Out)=>rec4 ((i+1:Nat):Int)) (rB:=fun _=>oB false) (fun k hk aA rec4 rec=>?_) (It.stop fun aA rec4 rec=>?_)
  ·have hk':k<nd.sess.length:=by omega
   have hb:=eC hk' hv
   unfold c233_10 dJ;rw[aD hb];refine ql hk ?_;refine qz ?_;refine(aG hk').trans ?_
   show(bif(gt nd.sess k).1==(gt nd.sess i).1 then _ else _)=bif !((gt nd.sess k).1==(gt nd.sess i).1&&_)then _ else _
   cases (gt nd.sess k).1==(gt nd.sess i).1 with
   | false=>rfl
   | true=>refine qt ?_;refine qz ?_;refine(aG hk').trans ?_;exact C3
  ·unfold c233_10;rw[aD hib];exact aW (Int.lt_irrefl _)
 have lp:It (fun aA (_:Unit)=>c233_4 (aI p n) aA nd) (0:Int) (fun _=>oB (cE nd.sess.length (mY nd nd.sess))):=by
  refine d7 (It.allBE nd.sess.length _ true (fun i hi=>?_) (It.stop fun aA a rec=>?_))
  ·obtain⟨N,hN⟩:=(inner (((inB (gt nd.sess i).2.1 0 100000,()),()),()) (((inB (gt nd.sess i).2.2.2.1 0 nd.wait,()),()),()) i hi).all_i
   refine⟨N,fun aA hf a rec=>?_⟩
   unfold c233_4 mY;refine ql hi ?_;refine qz ?_;refine(aG hi).trans ?_;refine qC (f211 (gt nd.sess i).1 0 (i64.wrap (nd.2.1 - 1))) ?_;refine chk fun _=>?_;refine M8 fun _=>?_;refine qC (f211 (gt nd.sess i).2.1 0 100000) ?_;refine chk fun _=>?_;refine qC (f211 (gt nd.sess i).2.2.2.1 0 nd.wait) ?_;refine chk fun _=>?_;exact hN aA hf rec
  ·unfold c233_4;refine qe ?_;rfl
 obtain⟨N,hN⟩:=lp.all_i
 refine⟨N,fun aA hf=>?_⟩
 show T233 (aI p n) aA nd=oB (lA nd)
 unfold T233 lA;refine BR fun _=>?_;exact hN aA hf ()
theorem PN{nd:NodeT}(h1:inB nd.2.1 1 5=true)(h2:inB nd.1 0 (i64.wrap (nd.2.1 - 1))=true)(h3:fX nd.got nd.2.1=true):∃ k:Nat,nd.1=(k:Int)/\k<nd.got.length:=by
 rw[bA] at h1 h2
 rw[jB (by omega) (by omega)] at h2
 unfold fX at h3;simp only[Bool.and_eq_true,beq_iff_eq] at h3
 exact⟨nd.1.toNat,by omega,by omega⟩
theorem f23(nd:NodeT)(hz:SzN nd):Ran p 7 23 [.val true ⟨K38,nd⟩] ⟨[⟨K4,(kL nd,())⟩],[]⟩:=go23 fun n hn=>Ev.now fun aA=>by
 rw[<- LQ]
 show T23 (aI p n) aA nd=oB (xP nd)
 unfold T23 xP;refine qC (f100 nd.2.1 1 5) ?_;refine eR fun h1=>?_;refine qC (f100 nd.1 0 (i64.wrap (nd.2.1 - 1))) ?_;refine eR fun h2=>?_;refine qC (f101 nd.state (aV hz.state.a) (aV hz.state.b)) ?_;refine eR fun _=>?_;refine qC (f103 nd.state hz.state) ?_;refine qC (f102 nd.tree (cT nd.state) (aV hz.leaves)) ?_;refine eR fun _=>?_
 refine qC (f104 nd.log hz.list hz.logs) ?_;refine qC (f105 nd.log hz.list hz.logs) ?_;refine eR fun _=>?_;refine qC (f106 nd.got nd.2.1 hz.got) ?_;refine eR fun h3=>?_;refine qC (f106 nd.acked nd.2.1 hz.acked) ?_;refine eR fun h4=>?_
 obtain⟨k,hk,hlt⟩:=PN h1 h2 h3
 show(bif decide (0<=nd.1)then((at? nd.got (nd.1).toNat).bind _)else none)=_
 rw[hk];refine qz ?_;refine(aG hlt).trans ?_;refine eR fun _=>?_;refine qC (f107 nd.acked hz.acked (AK h4)) ?_;refine BR fun _=>?_;refine qC (f108 nd.seen nd.2.1 hz.seen hz.lines) ?_;refine eR fun _=>?_;refine qC (f100 nd.num 0 100000) ?_;refine eR fun _=>?_;refine qC (f100 nd.clock 0 100000) ?_;refine eR fun _=>?_;refine qC (f100 nd.wait 1 20) ?_;refine fL fun _=>?_;refine qC (f100 nd.limit 1 50) ?_;refine fL fun _=>?_;refine qC (f109 nd hz.sess) ?_;refine fL fun _=>?_;refine qC (f110 nd hz.rises) ?_;rfl
theorem f86(nd:NodeT)(hz:SzN nd):Ran p 7 86 [.val true ⟨K38,nd⟩] ⟨[⟨K4,(kL nd,())⟩],[]⟩:=go86 fun n hn=>by
 have ri:∃ N,∀ aA,N<=aA->((nd.rises.length:Int)==5)=true->iter (c86_13 (aI p n) aA nd) aA (0:Int)=oB (cE nd.rises.length (lC nd)&&lA nd):=by
  cases he:(nd.rises.length:Int)==5 with
  | false=>exact⟨0,fun _ _ h=>by cases h⟩
  | true=>
   have e:nd.rises.length=5:=by have:=eq_of_beq he;omega
   have lp:It (fun aA (_:Unit)=>c86_13 (aI p n) aA nd) (0:Int) (fun _=>oB (cE 5 (lC nd)&&lA nd)):=by
    refine It.allB 5 _ _ (fun i hi aA a rec=>?_) (It.stop fun aA a rec=>?_)
    ·have hb:i<9223372036854775807:=by omega
     have hi':i<nd.rises.length:=by omega
     unfold c86_13 lC;rw[aD hb];refine qP (by show(i:Int)<5;omega) ?_;refine qz ?_;refine(aG hi').trans ?_;refine qC (f211 (gt nd.rises i).1 0 1000) ?_;refine chk fun _=>?_;refine qC (f211 (gt nd.rises i).2.1 0 100000) ?_;refine chk fun _=>?_;refine qC (f211 (gt nd.rises i).2.2.1 0 nd.clock) ?_;exact fin
    ·unfold c86_13;refine qN (by decide) ?_;refine qC (f233 nd hz.sess) ?_;rfl
   rw[e]
   obtain⟨N,hN⟩:=lp.all_i
   exact⟨N,fun aA hf _=>hN aA hf ()⟩
 have ak:∃ N,∀ aA,N<=aA->fX nd.acked nd.2.1=true->iter (c86_6 (aI p n) aA nd) aA (0:Int)=oB (BW nd&&m7 nd):=by
  cases he:fX nd.acked nd.2.1 with
  | false=>exact⟨0,fun _ _ h=>by cases h⟩
  | true=>
   have e:nd.2.1=(nd.acked.length:Int):=by unfold fX at he;simp only[Bool.and_eq_true,beq_iff_eq] at he;omega
   obtain⟨M,hM⟩:=ri
   have lp:It (fun aA (_:Unit)=>c86_6 (aI p n) aA nd) (0:Int) (fun _=>oB (BW nd&&m7 nd)):=by
    refine It.allB nd.acked.length _ _ (fun i hi aA a rec=>?_) (It.stopE (T:=fun aA _=>c86_6 (aI p n) aA nd (fun _=>none) (nd.acked.length:Int)) (fun aA a rec=>?_) ⟨M,fun aA hf a=>?_⟩)
    ·have hb:=eC hi hz.acked
     unfold c86_6;rw[aD hb];refine qP (by show(i:Int)<nd.2.1;omega) ?_;refine qz ?_;refine(aG hi).trans ?_;refine qC (f231 nd.log hz.list hz.logs) ?_;exact C3
    ·unfold c86_6;refine qN (by show ¬ ((nd.acked.length:Int)<nd.2.1);omega) ?_;exact(aW (by show ¬ ((nd.acked.length:Int)<nd.2.1);omega)).symm
    ·unfold c86_6 m7;refine qN (by show ¬ ((nd.acked.length:Int)<nd.2.1);omega) ?_
     refine qC (f211 nd.num 0 100000) ?_;refine eR fun _=>?_;refine qC (f211 nd.clock 0 100000) ?_;refine eR fun _=>?_;refine qC (f211 nd.slots 1 4) ?_;refine eR fun _=>?_;refine qC (f211 nd.wait 1 20) ?_;refine eR fun _=>?_;refine qC (f211 nd.limit 1 50) ?_;refine eR fun _=>?_;refine eR fun h5=>?_;exact hM aA hf h5
   obtain⟨N,hN⟩:=lp.all_i
   exact⟨N,fun aA hf _=>hN aA hf ()⟩
 obtain⟨N,hN⟩:=ak
 refine⟨N,fun aA hf=>?_⟩
 show T86 (aI p n) aA nd=oB (kL nd)
 unfold T86 kL;refine qC (f211 nd.2.1 1 5) ?_;refine eR fun h1=>?_;refine qC (f211 nd.1 0 (i64.wrap (nd.2.1 - 1))) ?_;refine eR fun h2=>?_;refine qC (f227 nd.state (aV hz.state.a) (aV hz.state.b)) ?_;refine eR fun _=>?_;refine qC (f228 nd.state hz.state) ?_;refine qC (f91 nd.tree (cT nd.state) (aV hz.leaves)) ?_;refine eR fun _=>?_
 refine qC (f229 nd.log hz.list hz.logs) ?_;refine eR fun _=>?_;refine qC (f230 nd.got nd.2.1 hz.got) ?_;refine eR fun h3=>?_;refine qC (f230 nd.acked nd.2.1 hz.acked) ?_;refine eR fun h4=>?_
 obtain⟨k,hk,hlt⟩:=PN h1 h2 h3
 show(bif decide (0<=nd.1)then((at? nd.got (nd.1).toNat).bind _)else none)=_
 rw[hk];refine qz ?_;refine(aG hlt).trans ?_;refine qC (f231 nd.log hz.list hz.logs) ?_;refine eR fun _=>?_;refine qC (f232 nd.seen nd.2.1 hz.seen hz.lines) ?_;refine eR fun _=>?_;exact hN aA hf h4
end Go.Abs.Xz
namespace Go.Abs.Xz
open Go Go.Abs
end Go.Abs.Xz
namespace Go.Abs.Xz
open Go Go.Abs
end Go.Abs.Xz
namespace Go.Abs.Xz
open Go Go.Abs
theorem f327(s:aE)(id:Int)(hl:s.1.length<=maxLen):Ran p 1 327 [.val true ⟨K27,s⟩,.val false ⟨K3,(id,())⟩] ⟨[⟨K161,(bD s id).1⟩,⟨K4,((bD s id).2,())⟩],[]⟩:=go327 fun n hn=>by
 have lp:It (fun aA (_:Unit)=>c327_2 (aI p n) aA s id) (0:Int) (fun _=>some ⟨[⟨K161,(bD s id).1⟩,⟨K4,((bD s id).2,())⟩],[]⟩):=by
  have:=It.first (c:=fun aA (_:Unit)=>c327_2 (aI p n) aA s id) (fun i=>(i:Int)) s.1.length (fun i=>(gt s.1 i).1==id) (fun i _=>some ⟨[⟨K161,(gt (α:=bL) s.1 i).2⟩,⟨K4,(true,())⟩],[]⟩) (fun _=>some ⟨[⟨K161,dW⟩,⟨K4,(false,())⟩],[]⟩) (fun i hi hp aA a rec=>?_) (fun i hi hp=>It.stop fun aA a rec=>?_) (It.stop fun aA a rec=>?_)
  ·revert this;unfold bD
   cases (List.range s.1.length).find? (fun i=>(gt s.1 i).1==id)<;>exact fun h=>h
  ·have hb:i<9223372036854775807:=Nat.lt_of_lt_of_le hi hl
   unfold c327_2;rw[aD hb];refine ql hi ?_;refine qz ?_;refine(aG hi).trans ?_;exact dH hp
  ·unfold c327_2;refine ql hi ?_;refine qz ?_;refine(aG hi).trans ?_;refine qT hp ?_;refine qz ?_;refine(aG hi).trans ?_;rfl
  ·unfold c327_2;refine qe ?_;rfl
 exact Ev.eq (fun aA=>by unfold T327;rfl) (lp.ev (i:=()) rfl)
theorem f319(s:aE)(id:Int)(hl:s.1.length<=maxLen):Ran p 1 319 [.val true ⟨K27,s⟩,.val false ⟨K3,(id,())⟩] ⟨[⟨K161,(bD s id).1⟩,⟨K4,((bD s id).2,())⟩],[]⟩:=go319 fun n hn=>by
 have lp:It (fun aA (_:Unit)=>c319_2 (aI p n) aA s id) (0:Int) (fun _=>some ⟨[⟨K161,(bD s id).1⟩,⟨K4,((bD s id).2,())⟩],[]⟩):=by
  have:=It.first (c:=fun aA (_:Unit)=>c319_2 (aI p n) aA s id) (fun i=>(i:Int)) s.1.length (fun i=>(gt s.1 i).1==id) (fun i _=>some ⟨[⟨K161,(gt (α:=bL) s.1 i).2⟩,⟨K4,(true,())⟩],[]⟩) (fun _=>some ⟨[⟨K161,dW⟩,⟨K4,(false,())⟩],[]⟩) (fun i hi hp aA a rec=>?_) (fun i hi hp=>It.stop fun aA a rec=>?_) (It.stop fun aA a rec=>?_)
  ·revert this;unfold bD
   cases (List.range s.1.length).find? (fun i=>(gt s.1 i).1==id)<;>exact fun h=>h
  ·have hb:i<9223372036854775807:=Nat.lt_of_lt_of_le hi hl
   unfold c319_2;rw[aD hb];refine ql hi ?_;refine qz ?_;refine(aG hi).trans ?_;exact dH hp
  ·unfold c319_2;refine ql hi ?_;refine qz ?_;refine(aG hi).trans ?_;refine qT hp ?_;rfl
  ·unfold c319_2;refine qe ?_;rfl
 exact Ev.eq (fun aA=>by unfold T319;rfl) (lp.ev (i:=()) rfl)
theorem f248(a b:Int):Ran p 1 248 [.val false ⟨K3,(a,())⟩,.val false ⟨K3,(b,())⟩] ⟨[⟨K3,(mxI true a b,())⟩],[]⟩:=go248 fun n hn=>Ev.now fun aA=>by
 unfold T248 mxI
 simp only[if_true]
 by_cases h:a>b
 ·refine qP h ?_;rw[if_neg (by omega:¬ b>a)]
 ·refine qN h ?_;by_cases h':b>a
  ·rw[if_pos h']
  ·rw[if_neg h',show a=b from by omega]
theorem f359(b:Bool):Ran p 1 359 [.val false ⟨K4,(b,())⟩] ⟨[⟨K3,(KA b,())⟩],[]⟩:=go359 fun n hn=>Ev.now fun aA=>by
 unfold T359;cases b<;>rfl
theorem f358(a b:Int):Ran p 2 358 [.val false ⟨K3,(a,())⟩,.val false ⟨K3,(b,())⟩] ⟨[⟨K3,(l2 a b,())⟩],[]⟩:=go358 fun n hn=>Ev.now fun aA=>by
 unfold T358 l2
 cases decide (a<b)with
 | true=>rfl
 | false=>refine qf ?_;refine qC (f359 (decide (a>b))) ?_;rfl
theorem f383(a:Int):Ran p 1 383 [.val false ⟨K3,(a,())⟩] ⟨[⟨K4,(false,())⟩],[]⟩:=go383 fun n hn=>Ev.now fun aA=>by
 unfold T383;exact congrArg (fun b:Bool=>(some ⟨[⟨K4,(b,())⟩],[]⟩:Option Out)) (by simp:(a != a)=false)
theorem f376(a b:Int):Ran p 2 376 [.val false ⟨K3,(a,())⟩,.val false ⟨K3,(b,())⟩] ⟨[⟨K3,(l2 a b,())⟩],[]⟩:=go376 fun n hn=>Ev.now fun aA=>by
 unfold T376 l2;refine qC (f383 a) ?_;refine qC (f383 b) ?_;refine qf ?_;refine qf ?_;cases decide (a<b)<;>cases decide (a>b)<;>rfl
theorem f375(ls:List aH)(hl:ls.length<=maxLen):Ran p 1 375 [.val false ⟨K28,(ls,())⟩] ⟨[⟨K3,(orN ls,())⟩],[]⟩:=go375 fun n hn=>by
 have lp:It (fun aA (_:Unit)=>c375_3 (aI p n) aA ls) (0:Int) (fun _=>oI (orN ls)):=by
  have:=It.first (c:=fun aA (_:Unit)=>c375_3 (aI p n) aA ls) (fun i=>(i:Int)) ls.length (fun i=>(gt ls i).1 != 0) (fun i _=>oI (gt ls i).1) (fun _=>oI 0) (fun i hi hp aA a rec=>?_) (fun i hi hp=>It.stop fun aA a rec=>?_) (It.stop fun aA a rec=>?_)
  ·revert this;unfold orN
   cases (List.range ls.length).find? (fun i=>(gt ls i).1 != 0)<;>exact fun h=>h
  ·have hb:i<9223372036854775807:=Nat.lt_of_lt_of_le hi hl
   unfold c375_3;rw[aD hb];refine ql hi ?_;refine qz ?_;refine(aG hi).trans ?_;exact dH hp
  ·unfold c375_3;refine ql hi ?_;refine qz ?_;refine(aG hi).trans ?_;exact jU hp
  ·unfold c375_3;refine qe ?_;rfl
 exact Ev.eq (fun aA=>by unfold T375;rfl) (lp.ev (i:=()) rfl)
theorem f377(a b:ByteArray):Ran p 1 377 [.val false ⟨K9,(a,())⟩,.val false ⟨K9,(b,())⟩] ⟨[⟨K3,(uF a b,())⟩],[]⟩:=fun n hn=>by
 cases n with
 | zero=>omega
 | succ n=>rfl
theorem f355(a b:bJ):Ran p 3 355 [.val true ⟨K161,a⟩,.val true ⟨K161,b⟩] ⟨[⟨K3,(gM a b,())⟩],[]⟩:=go355 fun n hn=>Ev.now fun aA=>by
 unfold T355;refine qC (f376 a.1 b.1) ?_;refine qC (f376 a.2.1 b.2.1) ?_;refine qC (f376 a.2.2.1 b.2.2.1) ?_;refine qC (f376 a.2.2.2.1 b.2.2.2.1) ?_;refine qC (f377 a.2.2.2.2.1 b.2.2.2.2.1) ?_
 refine qC (f375 [(l2 a.1 b.1,()),(l2 a.2.1 b.2.1,()),(l2 a.2.2.1 b.2.2.1,()),(l2 a.2.2.2.1 b.2.2.2.1,()),(uF a.2.2.2.2.1 b.2.2.2.2.1,())] (by show 5<=9223372036854775807;omega)) ?_
 exact congrArg (fun x:Int=>(some ⟨[⟨K3,(x,())⟩],[]⟩:Option Out)) (OK a b)
theorem f328(a b:bJ):Ran p 3 328 [.val true ⟨K161,a⟩,.val true ⟨K161,b⟩] ⟨[⟨K3,(gM a b,())⟩],[]⟩:=go328 fun n hn=>by
 have lp:It (fun aA (_:Unit)=>c328_3 (aI p n) aA a b (((l2 a.1 b.1,()),()),()) (((l2 a.2.1 b.2.1,()),()),()) (((l2 a.2.2.1 b.2.2.1,()),()),()) (((l2 a.2.2.2.1 b.2.2.2.1,()),()),())) (0:Int) (fun _=>oI (gM a b)):=by
  have:=It.first (c:=fun aA (_:Unit)=>c328_3 (aI p n) aA a b (((l2 a.1 b.1,()),()),()) (((l2 a.2.1 b.2.1,()),()),()) (((l2 a.2.2.1 b.2.2.1,()),()),()) (((l2 a.2.2.2.1 b.2.2.2.1,()),()),())) (fun i=>(i:Int)) (GR a b).length (fun i=>(gt (GR a b) i).1 != 0) (fun i _=>oI (gt (GR a b) i).1) (fun _=>oI (uF a.2.2.2.2.1 b.2.2.2.2.1)) (fun i hi hp aA a' rec=>?_) (fun i hi hp=>It.stop fun aA a' rec=>?_) (It.stop fun aA a' rec=>?_)
  ·rw[<- LK];revert this;unfold orZ
   cases (List.range (GR a b).length).find? (fun i=>(gt (GR a b) i).1 != 0)<;>exact fun h=>h
  ·have hb:i<9223372036854775807:=Nat.lt_of_lt_of_le hi (by show 4<=9223372036854775807;omega)
   unfold c328_3;rw[aD hb];refine ql hi ?_;refine qz ?_;refine(aG hi).trans ?_;refine(aG hi).trans ?_;exact dH hp
  ·unfold c328_3;refine ql hi ?_;refine qz ?_;refine(aG hi).trans ?_;refine(aG hi).trans ?_;refine qT hp ?_;refine qz ?_;refine(aG hi).trans ?_;refine(aG hi).trans ?_;rfl
  ·unfold c328_3;refine qe ?_
   rw[<- J3]
   cases Op.bytesLess (ByteArray.toList a.2.2.2.2.1) (ByteArray.toList b.2.2.2.2.1)with
   | true=>rfl
   | false=>refine qf ?_;refine qC (f359 (!(false||ByteArray.toList a.2.2.2.2.1==ByteArray.toList b.2.2.2.2.1))) ?_;rfl
 exact Ev.eq (fun aA=>by unfold T328;refine qC (f358 a.1 b.1) ?_;refine qC (f358 a.2.1 b.2.1) ?_;refine qC (f358 a.2.2.1 b.2.2.1) ?_;refine qC (f358 a.2.2.2.1 b.2.2.2.1) ?_;rfl) (lp.ev (i:=()) rfl)
theorem f320(a b:bJ):Ran p 4 320 [.val true ⟨K161,a⟩,.val true ⟨K161,b⟩] ⟨[⟨K161,mxE a b⟩],[]⟩:=go320 fun n hn=>Ev.now fun aA=>by
 unfold T320 mxE;refine qC (f355 a b) ?_;cases decide (gM a b<0)<;>rfl
theorem f260(a b:aE)(ha:SzS a)(hb':SzS b)(hpa:Pos a)(hpb:Pos b):Ran p 4 260 [.val true ⟨K27,a⟩,.val true ⟨K27,b⟩] ⟨[⟨K27,cU a b⟩],[]⟩:=go260 fun n hn=>by
 have lp:It (fun aA (_:Unit)=>c260_3 (aI p n) aA a b) ((0:Int),([]:List aL),([]:List bL)) (fun _=>some ⟨[⟨K27,cU a b⟩],[]⟩):=by
  refine It.run (fun i=>((i:Int),bQ i (dS a b),bQ i (d9 a b))) 5 (fun i hi aA u rec=>?_) (It.stop fun aA u rec=>?_)
  ·have l1:(bQ i (dS a b)).length<=i*1:=c7 fun j _=>oP a b j
   have l2':(bQ i (d9 a b)).length<=i*1:=c7 fun j _=>qU a b j
   have hb:i<9223372036854775807:=by omega
   have fin3:∀ {F:List aL} {J:List bL},dS a b i=F->d9 a b i=J->rec (((i+1:Nat):Int),bQ i (dS a b)++F,bQ i (d9 a b)++J)=rec (((i+1:Nat):Int),bQ (i+1) (dS a b),bQ (i+1) (d9 a b)):=by
    intro F J h1 h2;rw[dE,dE,h1,h2]
   have fin0:∀ {F:List aL},dS a b i=F->d9 a b i=[]->rec (((i+1:Nat):Int),bQ i (dS a b)++F,bQ i (d9 a b))=rec (((i+1:Nat):Int),bQ (i+1) (dS a b),bQ (i+1) (d9 a b)):=by
    intro F h1 h2;rw[dE,dE,h1,h2,List.append_nil]
   have fin1:∀ {J:List bL},dS a b i=[]->d9 a b i=J->rec (((i+1:Nat):Int),bQ i (dS a b),bQ i (d9 a b)++J)=rec (((i+1:Nat):Int),bQ (i+1) (dS a b),bQ (i+1) (d9 a b)):=by
    intro J h1 h2;rw[dE,dE,h1,h2,List.append_nil]
   have fin2:dS a b i=[]->d9 a b i=[]->rec (((i+1:Nat):Int),bQ i (dS a b),bQ i (d9 a b))=rec (((i+1:Nat):Int),bQ (i+1) (dS a b),bQ (i+1) (d9 a b)):=by
    intro h1 h2;rw[dE,dE,h1,h2,List.append_nil,List.append_nil]
   unfold c260_3;dsimp only;rw[aD hb];refine qP (by show(i:Int)<5;omega) ?_;refine qC (f313 a (i:Int) (aV ha.b)) ?_;refine qC (f313 b (i:Int) (aV hb'.b)) ?_;refine qC (f248 (cO a.2.1 (i:Int)) (cO b.2.1 (i:Int))) ?_
   have zi:bD a (i:Int)=(dW,false)->bD b (i:Int)=(dW,false)->d9 a b i=[]:=fun ea eb=>gH (OJ ea eb) (by show ¬ (0:Int)>_;have:=MU (b:=b) hpa (i:Int);omega)
   by_cases hf:flr a b (i:Int)>0
   ·refine qP hf ?_;refine qP (by show(bQ i (dS a b)).length+1<=4294967296;omega) ?_
    have gF:=oM hf
    refine qD (f327 a (i:Int) (aV ha.a)) ?_;refine qD (f327 b (i:Int) (aV hb'.a)) ?_
    rcases nF hpa (i:Int)with ⟨x,hx,ea⟩ | ea<;>rcases nF hpb (i:Int)with ⟨y,hy,eb⟩ | eb<;>rw[ea,eb]
    ·refine qf ?_;refine qf ?_;refine qt ?_;refine qC (f328 y x) ?_
     have pk:=HQ ea eb
     by_cases hc:gM y x>0
     ·rw[decide_eq_true hc] at pk
      replace pk:eS a b (i:Int)=y:=pk
      refine qP hc ?_
      by_cases hi':y.1>flr a b i
      ·refine qP hi' ?_;refine qP (by show(bQ i (d9 a b)).length+1<=4294967296;omega) ?_;exact fin3 gF (gG pk hi')
      ·refine qN hi' ?_;exact fin0 gF (gH pk hi')
     ·rw[decide_eq_false hc] at pk
      replace pk:eS a b (i:Int)=x:=pk
      refine qN hc ?_
      by_cases hi':x.1>flr a b i
      ·refine qP hi' ?_;refine qP (by show(bQ i (d9 a b)).length+1<=4294967296;omega) ?_;exact fin3 gF (gG pk hi')
      ·refine qN hi' ?_;exact fin0 gF (gH pk hi')
    ·refine qf ?_;refine qf ?_;refine qf ?_
     by_cases hi':x.1>flr a b i
     ·refine qP hi' ?_;refine qP (by show(bQ i (d9 a b)).length+1<=4294967296;omega) ?_;exact fin3 gF (gG (xI ea eb hx) hi')
     ·refine qN hi' ?_;exact fin0 gF (gH (xI ea eb hx) hi')
    ·refine qt ?_;refine qf ?_;refine qt ?_
     by_cases hi':y.1>flr a b i
     ·refine qP hi' ?_;refine qP (by show(bQ i (d9 a b)).length+1<=4294967296;omega) ?_;exact fin3 gF (gG (xJ ea eb hy) hi')
     ·refine qN hi' ?_;exact fin0 gF (gH (xJ ea eb hy) hi')
    ·refine qt ?_;refine qt ?_;exact fin0 gF (zi ea eb)
   ·refine qN hf ?_
    have gF:=sF hf
    refine qD (f327 a (i:Int) (aV ha.a)) ?_;refine qD (f327 b (i:Int) (aV hb'.a)) ?_
    rcases nF hpa (i:Int)with ⟨x,hx,ea⟩ | ea<;>rcases nF hpb (i:Int)with ⟨y,hy,eb⟩ | eb<;>rw[ea,eb]
    ·refine qf ?_;refine qf ?_;refine qt ?_;refine qC (f328 y x) ?_
     have pk:=HQ ea eb
     by_cases hc:gM y x>0
     ·rw[decide_eq_true hc] at pk
      replace pk:eS a b (i:Int)=y:=pk
      refine qP hc ?_
      by_cases hi':y.1>flr a b i
      ·refine qP hi' ?_;refine qP (by show(bQ i (d9 a b)).length+1<=4294967296;omega) ?_;exact fin1 gF (gG pk hi')
      ·refine qN hi' ?_;exact fin2 gF (gH pk hi')
     ·rw[decide_eq_false hc] at pk
      replace pk:eS a b (i:Int)=x:=pk
      refine qN hc ?_
      by_cases hi':x.1>flr a b i
      ·refine qP hi' ?_;refine qP (by show(bQ i (d9 a b)).length+1<=4294967296;omega) ?_;exact fin1 gF (gG pk hi')
      ·refine qN hi' ?_;exact fin2 gF (gH pk hi')
    ·refine qf ?_;refine qf ?_;refine qf ?_
     by_cases hi':x.1>flr a b i
     ·refine qP hi' ?_;refine qP (by show(bQ i (d9 a b)).length+1<=4294967296;omega) ?_;exact fin1 gF (gG (xI ea eb hx) hi')
     ·refine qN hi' ?_;exact fin2 gF (gH (xI ea eb hx) hi')
    ·refine qt ?_;refine qf ?_;refine qt ?_
     by_cases hi':y.1>flr a b i
     ·refine qP hi' ?_;refine qP (by show(bQ i (d9 a b)).length+1<=4294967296;omega) ?_;exact fin1 gF (gG (xJ ea eb hy) hi')
     ·refine qN hi' ?_;exact fin2 gF (gH (xJ ea eb hy) hi')
    ·refine qt ?_;refine qt ?_;exact fin2 gF (zi ea eb)
  ·unfold c260_3;exact aW (by show ¬ ((5:Int)<5);decide)
 exact Ev.eq (fun aA=>by unfold T260;rfl) (lp.ev (i:=()) rfl)
theorem f240(a b:aE)(ha:SzS a)(hb':SzS b):Ran p 5 240 [.val true ⟨K27,a⟩,.val true ⟨K27,b⟩] ⟨[⟨K27,cU a b⟩],[]⟩:=go240 fun n hn=>by
 have lp:It (fun aA (_:Unit)=>c240_3 (aI p n) aA a b) ((0:Int),([]:List bL),([]:List aL)) (fun _=>some ⟨[⟨K27,cU a b⟩],[]⟩):=by
  refine It.run (fun i=>((i:Int),bQ i (d9 a b),bQ i (dS a b))) 5 (fun i hi aA u rec=>?_) (It.stop fun aA u rec=>?_)
  ·have l1:(bQ i (dS a b)).length<=i*1:=c7 fun j _=>oP a b j
   have l2':(bQ i (d9 a b)).length<=i*1:=c7 fun j _=>qU a b j
   have hb:i<9223372036854775807:=by omega
   unfold c240_3;dsimp only;rw[aD hb];refine qP (by show(i:Int)<5;omega) ?_;refine qD (f319 a (i:Int) (aV ha.a)) ?_;refine qD (f319 b (i:Int) (aV hb'.a)) ?_;refine qC (f320 (bD a (i:Int)).1 (bD b (i:Int)).1) ?_;refine qC (f243 a (i:Int) (aV ha.b)) ?_;refine qC (f243 b (i:Int) (aV hb'.b)) ?_
   rw[dE,dE]
   by_cases hp:(eS a b (i:Int)).1>flr a b (i:Int)
   ·refine qP hp ?_;refine qP (by show(bQ i (d9 a b)).length+1<=4294967296;omega) ?_;rw[gG rfl hp]
    by_cases hf:flr a b (i:Int)>0
    ·refine qP hf ?_;refine qP (by show(bQ i (dS a b)).length+1<=4294967296;omega) ?_;rw[oM hf];rfl
    ·refine qN hf ?_;rw[sF hf,List.append_nil];rfl
   ·refine qN hp ?_;rw[gH rfl hp,List.append_nil]
    by_cases hf:flr a b (i:Int)>0
    ·refine qP hf ?_;refine qP (by show(bQ i (dS a b)).length+1<=4294967296;omega) ?_;rw[oM hf];rfl
    ·refine qN hf ?_;rw[sF hf,List.append_nil];rfl
  ·unfold c240_3;exact aW (by show ¬ ((5:Int)<5);decide)
 exact Ev.eq (fun aA=>by unfold T240;rfl) (lp.ev (i:=()) rfl)
theorem f316(s:aE)(id:Int)(hz:SzS s):Ran p 4 316 [.val true ⟨K27,s⟩,.val false ⟨K3,(id,())⟩] ⟨[⟨K3,(gone s id,())⟩],[]⟩:=go316 fun n hn=>Ev.now fun aA=>by
 unfold T316 gone;refine qC (f227 s (aV hz.a) (aV hz.b)) ?_
 cases hs:aN s with
 | false=>rfl
 | true=>
  refine qf ?_;refine qD (f327 s id (aV hz.a)) ?_
  rcases nF ((aM s).1 hs).pos id with ⟨x,_,e⟩ | e<;>rw[e]
  ·refine qf ?_;show(bif x.2.1==0 then _ else _)=(some (⟨[⟨K3,(bif true then(bif true then(bif x.2.1==0 then _ else _)else _)else _,())⟩],[]⟩:Out):Option Out)
   cases x.2.1==0<;>rfl
  ·refine qt ?_;refine qC (f313 s id (aV hz.b)) ?_;rfl
theorem f311(s:aE)(id:Int)(hz:SzS s):Ran p 4 311 [.val true ⟨K27,s⟩,.val false ⟨K3,(id,())⟩] ⟨[⟨K3,(gone s id,())⟩],[]⟩:=go311 fun n hn=>Ev.now fun aA=>by
 unfold T311;refine qC (f101 s (aV hz.a) (aV hz.b)) ?_
 cases hs:aN s with
 | false=>rw[EQ hs];rfl
 | true=>
  rw[QK hs]
  refine qf ?_;refine qD (f319 s id (aV hz.a)) ?_
  rcases nF ((aM s).1 hs).pos id with ⟨x,_,e⟩ | e<;>rw[e]
  ·refine qf ?_;show(bif x.2.1==1 then _ else _)=(some (⟨[⟨K3,(bif true then(bif x.2.1==1 then _ else _)else _,())⟩],[]⟩:Out):Option Out)
   cases x.2.1==1<;>rfl
  ·refine qt ?_;refine qC (f243 s id (aV hz.b)) ?_;rfl
end Go.Abs.Xz
namespace Go.Abs.Xz
open Go Go.Abs
end Go.Abs.Xz
