/- What the functions of this program answer, part k. -/
import Derived.Test.YtfhgecdbldmekaaGreatW3
import Derived.Test.YtfhgecdbldmekaaGreatXep
import Derived.Test.YtfhgecdbldmekaaGreatW2
set_option linter.unusedVariables false
open Go.IntKind (i64)
namespace Go.Abs.Pz
open Go Go.Abs
theorem TZ{α:Type}{a b:Bool}{F R:α}:(bif a then(bif !b then F else R)else F)=bif a&&b then R else F:=by cases a<;>cases b<;>rfl
theorem two{α:Type}{a b:Bool}{X R:α}:(bif a then(bif b then X else R)else R)=bif a&&b then X else R:=by cases a<;>cases b<;>rfl
theorem aK{k:Nat}(h:k<=aV):k<=maxLen:=Nat.le_trans h (by decide)
theorem bW{i k:Nat}(hi:i<k)(h:k<=aV):i<9223372036854775807:=Nat.lt_of_lt_of_le hi (Nat.le_trans h (by decide))

theorem f113(l:iE)(hl:l.2.2.1.length<=aV)(hs:∀ i,i<l.2.2.1.length->SzS (gt l.2.2.1 i)):Ran p 4 113 [.val true ⟨K61,l⟩] ⟨[⟨K4,(fB l,())⟩],[]⟩:=go113 λn hn=>by
 have lp:It (λaA (_:Unit)=>c113_4 (aJ p n) aA l) (0:Int) (λ_=>oB (bP l.2.2.1.length λi=>aM (gt l.2.2.1 i))):=by
  refine cV (It.allB l.2.2.1.length _ true (λi hi aA a rec=>?_) (It.stop λaA a rec=>?_))
  ·have hb:=bW hi hl
   unfold c113_4;rw[aF hb];refine ql hi ?_;refine qz ?_;refine(aD hi).trans ?_;refine qC (f49 (gt l.2.2.1 i) (aK (hs i hi).a) (aK (hs i hi).b)) ?_;exact fin
  ·unfold c113_4;refine qe ?_;rfl
 obtain⟨N,hN⟩:=lp.all_i
 refine⟨N,λaA hf=>?_⟩
 show T113 (aJ p n) aA l=oB (fB l)
 unfold T113 fB;refine qC (f47 l.1 1 8) ?_;refine dJ λ_=>?_;refine tZ λ_=>?_;refine qC (f47 l.2.1 0 100000) ?_;refine dJ λ_=>?_;refine tZ λ_=>?_;exact hN aA hf ()
theorem f103(l:iE)(hl:l.2.2.1.length<=aV)(hs:∀ i,i<l.2.2.1.length->SzS (gt l.2.2.1 i)):Ran p 4 103 [.val true ⟨K61,l⟩] ⟨[⟨K4,(fB l,())⟩],[]⟩:=go103 λn hn=>by
 have lp:It (λaA (_:Unit)=>c103_2 (aJ p n) aA l) (0:Int) (λ_=>oB (JF l)):=by
  refine It.allB l.2.2.1.length _ _ (λi hi aA a rec=>?_) (It.stop λaA a rec=>?_)
  ·have hb:=bW hi hl
   unfold c103_2;rw[aF hb];refine ql hi ?_;refine qz ?_;refine(aD hi).trans ?_;refine qC (f46 (gt l.2.2.1 i) (aK (hs i hi).a) (aK (hs i hi).b)) ?_;exact fin
  ·unfold c103_2;refine qe ?_;refine qC (f43 l.1 1 8) ?_;refine gB λ_=>?_;refine gB λ_=>?_;refine qC (f43 l.2.1 0 100000) ?_;refine gB λ_=>?_;rfl
 rw[TH] at lp
 exact Ev.eq (λaA=>by unfold T103;rfl) (lp.ev (i:=()) rfl)
theorem f115(l:iE)(hl:l.2.2.1.length<=aV)(hs:∀ i,i<l.2.2.1.length->SzS (gt l.2.2.1 i)):Ran p 5 115 [.val true ⟨K61,l⟩] ⟨[⟨K3,(cJ l,())⟩],[]⟩:=go115 λn hn=>Ev.now λaA=>by
 unfold T115 cJ;refine qC (f113 l hl hs) ?_;cases fB l<;>rfl
theorem f102(l:iE)(hl:l.2.2.1.length<=aV)(hs:∀ i,i<l.2.2.1.length->SzS (gt l.2.2.1 i)):Ran p 5 102 [.val true ⟨K61,l⟩] ⟨[⟨K3,(cJ l,())⟩],[]⟩:=go102 λn hn=>Ev.now λaA=>by
 unfold T102 cJ;refine qC (f103 l hl hs) ?_;cases fB l<;>rfl
theorem f114(v:List aH)(m:Int)(hv:v.length<=aV):Ran p 2 114 [.val false ⟨K38,(v,())⟩,.val false ⟨K3,(m,())⟩] ⟨[⟨K4,(eQ v m,())⟩],[]⟩:=go114 λn hn=>by
 have lp:∃ N,∀ aA,N<=aA->((v.length:Int)==m)=true->iter (c114_4 (aJ p n) aA v m) aA (0:Int)=oB (bP v.length λi=>inB (gt v i).1 0 100000):=by
  cases he:(v.length:Int)==m with
  | false=>exact⟨0,λ_ _ h=>by cases h⟩
  | true=>
   have e:m=(v.length:Int):=(eq_of_beq he).symm
   subst e
   have lp:It (λaA (_:Unit)=>c114_4 (aJ p n) aA v (v.length:Int)) (0:Int) (λ_=>oB (bP v.length λi=>inB (gt v i).1 0 100000)):=by
    refine cV (It.allB v.length _ true (λi hi aA a rec=>?_) (It.stop λaA a rec=>?_))
    ·have hb:=bW hi hv
     unfold c114_4;rw[aF hb];refine ql hi ?_;refine qz ?_;refine(aD hi).trans ?_;refine qC (f47 (gt v i).1 0 100000) ?_;exact fin
    ·unfold c114_4;refine qe ?_;rfl
   obtain⟨N,hN⟩:=lp.all_i
   exact⟨N,λaA hf _=>hN aA hf ()⟩
 obtain⟨N,hN⟩:=lp
 refine⟨N,λaA hf=>?_⟩
 show T114 (aJ p n) aA v m=oB (eQ v m)
 unfold T114 eQ;refine qC (f47 m 1 5) ?_;refine dJ λ_=>?_;refine dJ λh=>?_;exact hN aA hf h
theorem f104(v:List aH)(m:Int)(hv:v.length<=aV):Ran p 2 104 [.val false ⟨K38,(v,())⟩,.val false ⟨K3,(m,())⟩] ⟨[⟨K4,(eQ v m,())⟩],[]⟩:=go104 λn hn=>by
 have lp:It (λaA (_:Unit)=>c104_2 (aJ p n) aA v m) (0:Int) (λ_=>oB (IB v m)):=by
  refine It.allB v.length _ _ (λi hi aA a rec=>?_) (It.stop λaA a rec=>?_)
  ·have hb:=bW hi hv
   unfold c104_2;rw[aF hb];refine ql hi ?_;refine qz ?_;refine(aD hi).trans ?_;refine qC (f43 (gt v i).1 0 100000) ?_;exact fin
  ·unfold c104_2;refine qe ?_;refine qC (f43 m 1 5) ?_;refine gB λ_=>?_;rfl
 rw[SG] at lp
 exact Ev.eq (λaA=>by unfold T104;rfl) (lp.ev (i:=()) rfl)
theorem f116(t:List bT)(m:Int)(hv:t.length<=aV)(hr:∀ k,k<t.length->(gt t k).1.length<=aV):Ran p 2 116 [.val false ⟨K62,(t,())⟩,.val false ⟨K3,(m,())⟩] ⟨[⟨K4,(hX t m,())⟩],[]⟩:=go116 λn hn=>by
 have inner:∀ k,k<t.length->It (λaA rec4=>c116_9 (aJ p n) aA t m (k:Int) rec4) (0:Int) (fun(rec4:Int->Option Out)=>bif(bP (gt t k).1.length λi=>inB (gt (gt t k).1 i).1 0 1000)then rec4 ((k+1:Nat):Int)else oB false):=by
  intro k hk
  have hkb:=bW hk hv
  refine It.all (λi=>(i:Int)) (gt t k).1.length _ (rA:=fun(rec4:Int->Option Out)=>rec4 ((k+1:Nat):Int)) (rB:=λ_=>oB false) (λi hi aA rec4 rec=>?_) (It.stop λaA rec4 rec=>?_)
  ·have hb:=bW hi (hr k hk)
   unfold c116_9;rw[aF hb];refine qz ?_;refine(aD hk).trans ?_;refine ql hi ?_;refine qz ?_;refine(aD hk).trans ?_;refine qz ?_;refine(aD hi).trans ?_;refine qC (f47 (gt (gt t k).1 i).1 0 1000) ?_;exact fin
  ·unfold c116_9;rw[aF hkb];refine qz ?_;refine(aD hk).trans ?_;refine qe ?_;rfl
 have lp:∃ N,∀ aA,N<=aA->((t.length:Int)==m)=true->iter (c116_4 (aJ p n) aA t m) aA (0:Int)=oB (bP t.length λk=>uH (gt t k)):=by
  cases he:(t.length:Int)==m with
  | false=>exact⟨0,λ_ _ h=>by cases h⟩
  | true=>
   have e:m=(t.length:Int):=(eq_of_beq he).symm
   subst e
   have lp:It (λaA (_:Unit)=>c116_4 (aJ p n) aA t (t.length:Int)) (0:Int) (λ_=>oB (bP t.length λk=>uH (gt t k))):=by
    refine cV (It.allBE t.length _ true (λk hk=>?_) (It.stop λaA a rec=>?_))
    ·obtain⟨N,hN⟩:=(inner k hk).all_i
     refine⟨N,λaA hf a rec=>?_⟩
     unfold c116_4 uH;refine ql hk ?_;refine qz ?_;refine(aD hk).trans ?_;refine chk λ_=>?_;exact hN aA hf rec
    ·unfold c116_4;refine qe ?_;rfl
   obtain⟨N,hN⟩:=lp.all_i
   exact⟨N,λaA hf _=>hN aA hf ()⟩
 obtain⟨N,hN⟩:=lp
 refine⟨N,λaA hf=>?_⟩
 show T116 (aJ p n) aA t m=oB (hX t m)
 unfold T116 hX;refine qC (f47 m 1 5) ?_;refine dJ λ_=>?_;refine dJ λh=>?_;exact hN aA hf h
theorem f106(t:List bT)(m:Int)(hv:t.length<=aV)(hr:∀ k,k<t.length->(gt t k).1.length<=aV):Ran p 2 106 [.val false ⟨K62,(t,())⟩,.val false ⟨K3,(m,())⟩] ⟨[⟨K4,(hX t m,())⟩],[]⟩:=go106 λn hn=>by
 have inner:∀ k,k<t.length->It (λaA rec2=>c106_5 (aJ p n) aA t m (gt (α:=bT) t k) (k:Int) rec2) (0:Int) (fun(rec2:Int->Option Out)=>bif(bP (gt t k).1.length λi=>inB (gt (gt t k).1 i).1 0 1000)then(bif !(((gt t k).1.length:Nat):Int)==5 then oB false else rec2 ((k+1:Nat):Int))else oB false):=by
  intro k hk
  have hkb:=bW hk hv
  refine It.all (λi=>(i:Int)) (gt t k).1.length _ (rA:=fun(rec2:Int->Option Out)=>bif !(((gt t k).1.length:Nat):Int)==5 then oB false else rec2 ((k+1:Nat):Int)) (rB:=λ_=>oB false) (λi hi aA rec2 rec=>?_) (It.stop λaA rec2 rec=>?_)
  ·have hb:=bW hi (hr k hk)
   unfold c106_5;rw[aF hb];refine ql hi ?_;refine qz ?_;refine(aD hi).trans ?_;refine qC (f43 (gt (gt t k).1 i).1 0 1000) ?_;exact fin
  ·unfold c106_5;rw[aF hkb];refine qe ?_;rfl
 have lp:It (λaA (_:Unit)=>c106_2 (aJ p n) aA t m) (0:Int) (λ_=>oB (z5 t m)):=by
  refine It.allBE t.length _ _ (λk hk=>?_) (It.stop λaA a rec=>?_)
  ·obtain⟨N,hN⟩:=(inner k hk).all_i
   refine⟨N,λaA hf a rec=>?_⟩
   unfold c106_2 zP;refine ql hk ?_;refine qz ?_;refine(aD hk).trans ?_;exact(hN aA hf rec).trans TZ
  ·unfold c106_2;refine qe ?_;refine qC (f43 m 1 5) ?_;refine gB λ_=>?_;rfl
 rw[MI] at lp
 exact Ev.eq (λaA=>by unfold T106;rfl) (lp.ev (i:=()) rfl)
theorem f105(v:List aH)(hv:v.length<=aV)(h0:0<v.length):Ran p 1 105 [.val false ⟨K38,(v,())⟩] ⟨[⟨K3,(NH v,())⟩],[]⟩:=go105 λn hn=>by
 obtain⟨k,hk⟩:∃ k,v.length=k+1:=⟨v.length - 1,by omega⟩
 have em:NH v=A7 v k:=by unfold NH;rw[hk];rfl
 rw[em]
 have lp:It (λaA (_:Unit)=>c105_5 (aJ p n) aA v) ((gt (α:=aH) v 0).1,(1:Int)) (λ_=>oI (A7 v k)):=by
  refine It.run (λj=>(A7 v j,((j+1:Nat):Int))) k (λj hj aA a rec=>?_) (It.stop λaA a rec=>?_)
  ·have hj1:j+1<v.length:=by omega
   have hb:=bW hj1 hv
   unfold c105_5;dsimp only;rw[aF hb];refine ql hj1 ?_;refine qz ?_;refine(aD hj1).trans ?_;rfl
  ·unfold c105_5;rw[<- hk];refine qe ?_;rfl
 refine Ev.eq (λaA=>?_) (lp.ev (i:=()) rfl)
 unfold T105;refine qN (by show ¬ ((v.length:Int)<1);omega) ?_;refine qP (by decide) ?_;exact(aD (α:=aH) (xs:=v) (i:=0) h0)
theorem f196(nd:NodeT)(x:Int):Ran p 2 196 [.val true ⟨K66,nd⟩,.val false ⟨K3,(x,())⟩] ⟨[⟨K4,(i9 nd x,())⟩],[]⟩:=go196 λn hn=>Ev.now λaA=>by
 unfold T196 i9;refine qC (f43 x 0 (i64.wrap (nd.2.1 - 1))) ?_;refine gB λ_=>?_;rfl
theorem f197(nd:NodeT)(x:Int)(b:Bool)(hv:nd.sess.length<=aV):Ran p 1 197 [.val true ⟨K66,nd⟩,.val false ⟨K3,(x,())⟩,.val false ⟨K4,(b,())⟩] ⟨[⟨K3,(dL nd.sess x b,())⟩],[]⟩:=go197 λn hn=>by
 have lp:It (λaA (_:Unit)=>c197_2 (aJ p n) aA nd x b) (0:Int) (λ_=>oI (dL nd.sess x b)):=by
  have:=It.first (c:=λaA (_:Unit)=>c197_2 (aJ p n) aA nd x b) (λi=>(i:Int)) nd.sess.length (λi=>d9 nd.sess i x b) (λi _=>oI (i:Int)) (λ_=>oI (-1)) (λi hi hp aA a rec=>?_) (λi hi hp=>It.stop λaA a rec=>?_) (It.stop λaA a rec=>?_)
  ·revert this;unfold dL
   cases (List.range nd.sess.length).find? (λi=>d9 nd.sess i x b)<;>exact λh=>h
  ·have hb:=bW hi hv
   unfold c197_2;rw[aF hb];refine ql hi ?_;refine qz ?_;refine(aD hi).trans ?_;exact two.trans (gR hp)
  ·unfold c197_2;refine ql hi ?_;refine qz ?_;refine(aD hi).trans ?_;exact two.trans (jW hp)
  ·unfold c197_2;refine qe ?_;rfl
 exact Ev.eq (λaA=>by unfold T197;rfl) (lp.ev (i:=()) rfl)
theorem f107(nd:NodeT)(hv:nd.sess.length<=aV):Ran p 3 107 [.val true ⟨K66,nd⟩] ⟨[⟨K4,(vG nd,())⟩],[]⟩:=go107 λn hn=>by
 have lp:It (λaA (_:Unit)=>c107_2 (aJ p n) aA nd) (0:Int) (λ_=>oB (vG nd)):=by
  refine It.allB nd.sess.length _ _ (λi hi aA a rec=>?_) (It.stop λaA a rec=>?_)
  ·have hb:=bW hi hv
   unfold c107_2 tE;rw[aF hb];refine ql hi ?_;refine qz ?_;refine(aD hi).trans ?_;refine qC (f196 nd (gt nd.sess i).1) ?_;refine chk λ_=>?_;refine qC (f43 (gt nd.sess i).2.1 0 100000) ?_;refine chk λ_=>?_;refine qC (f43 (gt nd.sess i).2.2.2.1 0 nd.wait) ?_;refine chk λ_=>?_;refine qC (f197 nd (gt nd.sess i).1 (gt nd.sess i).2.2.1 hv) ?_;exact fin
  ·unfold c107_2;refine qe ?_;refine qC (f43 nd.slots 1 4) ?_;refine gB λ_=>?_;rfl
 exact Ev.eq (λaA=>by unfold T107;rfl) (lp.ev (i:=()) rfl)
theorem f108(nd:NodeT)(hv:nd.rises.length<=aV):Ran p 2 108 [.val true ⟨K66,nd⟩] ⟨[⟨K4,(vN nd,())⟩],[]⟩:=go108 λn hn=>by
 have lp:It (λaA (_:Unit)=>c108_2 (aJ p n) aA nd) (0:Int) (λ_=>oB (vN nd)):=by
  refine It.allB nd.rises.length _ _ (λi hi aA a rec=>?_) (It.stop λaA a rec=>?_)
  ·have hb:=bW hi hv
   unfold c108_2 lJ;rw[aF hb];refine ql hi ?_;refine qz ?_;refine(aD hi).trans ?_;refine qC (f43 (gt nd.rises i).1 0 1000) ?_;refine chk λ_=>?_;refine qC (f43 (gt nd.rises i).2.1 0 100000) ?_;refine chk λ_=>?_;refine qC (f43 (gt nd.rises i).2.2.1 0 nd.clock) ?_;exact fin
  ·unfold c108_2;refine qe ?_;rfl
 exact Ev.eq (λaA=>by unfold T108;rfl) (lp.ev (i:=()) rfl)
theorem f117(nd:NodeT)(hv:nd.sess.length<=aV):Ran p 2 117 [.val true ⟨K66,nd⟩] ⟨[⟨K4,(mW nd,())⟩],[]⟩:=go117 λn hn=>by
 have inner:∀ (o3 o4:Rows [K4]×Rows []) (i:Nat),i<nd.sess.length->It (λaA rec4=>c117_10 (aJ p n) aA nd o3 o4 (gt (α:=eI) nd.sess i) (i:Int) rec4) (0:Int) (fun(rec4:Int->Option Out)=>bif DB nd.sess i then rec4 ((i+1:Nat):Int)else oB false):=by
  intro o3 o4 i hi
  have hib:=bW hi hv
  refine It.all (λk=>(k:Int)) i (λk=> !d9 nd.sess k (gt nd.sess i).1 (gt nd.sess i).2.2.1) (rA:=fun(rec4:Int->Option Out)=>rec4 ((i+1:Nat):Int)) (rB:=λ_=>oB false) (λk hk aA rec4 rec=>?_) (It.stop λaA rec4 rec=>?_)
  ·have hk':k<nd.sess.length:=by omega
   have hb:=bW hk' hv
   unfold c117_10 d9;rw[aF hb];refine ql hk ?_;refine qz ?_;refine(aD hk').trans ?_
   show(bif(gt nd.sess k).1==(gt nd.sess i).1 then _ else _)=bif !((gt nd.sess k).1==(gt nd.sess i).1&&_)then _ else _
   cases (gt nd.sess k).1==(gt nd.sess i).1 with
   | false=>rfl
   | true=>refine qt ?_;refine qz ?_;refine(aD hk').trans ?_;exact FL
  ·unfold c117_10;rw[aF hib];exact jP (Int.lt_irrefl _)
 have lp:It (λaA (_:Unit)=>c117_4 (aJ p n) aA nd) (0:Int) (λ_=>oB (bP nd.sess.length (oM nd nd.sess))):=by
  refine cV (It.allBE nd.sess.length _ true (λi hi=>?_) (It.stop λaA a rec=>?_))
  ·obtain⟨N,hN⟩:=(inner (((inB (gt nd.sess i).2.1 0 100000,()),()),()) (((inB (gt nd.sess i).2.2.2.1 0 nd.wait,()),()),()) i hi).all_i
   refine⟨N,λaA hf a rec=>?_⟩
   unfold c117_4 oM;refine ql hi ?_;refine qz ?_;refine(aD hi).trans ?_;refine qC (f47 (gt nd.sess i).1 0 (i64.wrap (nd.2.1 - 1))) ?_;refine chk λ_=>?_;refine RQ λ_=>?_;refine qC (f47 (gt nd.sess i).2.1 0 100000) ?_;refine chk λ_=>?_;refine qC (f47 (gt nd.sess i).2.2.2.1 0 nd.wait) ?_;refine chk λ_=>?_;exact hN aA hf rec
  ·unfold c117_4;refine qe ?_;rfl
 obtain⟨N,hN⟩:=lp.all_i
 refine⟨N,λaA hf=>?_⟩
 show T117 (aJ p n) aA nd=oB (mW nd)
 unfold T117 mW;refine tZ λ_=>?_;exact hN aA hf ()
theorem UH{nd:NodeT}(h1:inB nd.2.1 1 5=true)(h2:inB nd.1 0 (i64.wrap (nd.2.1 - 1))=true)(h3:eQ nd.got nd.2.1=true):∃ k:Nat,nd.1=(k:Int)/\k<nd.got.length:=by
 rw[aQ] at h1 h2
 rw[D7 (by omega) (by omega)] at h2
 unfold eQ at h3;simp only[Bool.and_eq_true,beq_iff_eq] at h3
 exact⟨nd.1.toNat,by omega,by omega⟩
theorem f44(nd:NodeT)(hz:SzN nd):Ran p 7 44 [.val true ⟨K66,nd⟩] ⟨[⟨K4,(dD nd,())⟩],[]⟩:=go44 λn hn=>Ev.now λaA=>by
 rw[<- P1]
 show T44 (aJ p n) aA nd=oB (zN nd)
 unfold T44 zN;refine qC (f43 nd.2.1 1 5) ?_;refine dJ λh1=>?_;refine qC (f43 nd.1 0 (i64.wrap (nd.2.1 - 1))) ?_;refine dJ λh2=>?_;refine qC (f46 nd.state (aK hz.state.a) (aK hz.state.b)) ?_;refine dJ λ_=>?_;refine qC (f101 nd.state hz.state) ?_;refine qC (f100 nd.tree (cM nd.state) (aK hz.leaves)) ?_;refine dJ λ_=>?_
 refine qC (f102 nd.log hz.list hz.logs) ?_;refine qC (f103 nd.log hz.list hz.logs) ?_;refine dJ λ_=>?_;refine qC (f104 nd.got nd.2.1 hz.got) ?_;refine dJ λh3=>?_;refine qC (f104 nd.acked nd.2.1 hz.acked) ?_;refine dJ λh4=>?_
 obtain⟨k,hk,hlt⟩:=UH h1 h2 h3
 show(bif decide (0<=nd.1)then((at? nd.got (nd.1).toNat).bind _)else none)=_
 rw[hk];refine qz ?_;refine(aD hlt).trans ?_;refine dJ λ_=>?_;refine qC (f105 nd.acked hz.acked (CX h4)) ?_;refine tZ λ_=>?_;refine qC (f106 nd.seen nd.2.1 hz.seen hz.lines) ?_;refine dJ λ_=>?_;refine qC (f43 nd.num 0 100000) ?_;refine dJ λ_=>?_;refine qC (f43 nd.clock 0 100000) ?_;refine dJ λ_=>?_;refine qC (f43 nd.wait 1 20) ?_;refine gB λ_=>?_;refine qC (f43 nd.limit 1 50) ?_;refine gB λ_=>?_;refine qC (f107 nd hz.sess) ?_;refine gB λ_=>?_;refine qC (f108 nd hz.rises) ?_;rfl
theorem f48(nd:NodeT)(hz:SzN nd):Ran p 7 48 [.val true ⟨K66,nd⟩] ⟨[⟨K4,(dD nd,())⟩],[]⟩:=go48 λn hn=>by
 have ri:∃ N,∀ aA,N<=aA->((nd.rises.length:Int)==5)=true->iter (c48_13 (aJ p n) aA nd) aA (0:Int)=oB (bP nd.rises.length (lJ nd)&&mW nd):=by
  cases he:(nd.rises.length:Int)==5 with
  | false=>exact⟨0,λ_ _ h=>by cases h⟩
  | true=>
   have e:nd.rises.length=5:=by have:=eq_of_beq he;omega
   have lp:It (λaA (_:Unit)=>c48_13 (aJ p n) aA nd) (0:Int) (λ_=>oB (bP 5 (lJ nd)&&mW nd)):=by
    refine It.allB 5 _ _ (λi hi aA a rec=>?_) (It.stop λaA a rec=>?_)
    ·have hb:i<9223372036854775807:=by omega
     have hi':i<nd.rises.length:=by omega
     unfold c48_13 lJ;rw[aF hb];refine qP (by show(i:Int)<5;omega) ?_;refine qz ?_;refine(aD hi').trans ?_;refine qC (f47 (gt nd.rises i).1 0 1000) ?_;refine chk λ_=>?_;refine qC (f47 (gt nd.rises i).2.1 0 100000) ?_;refine chk λ_=>?_;refine qC (f47 (gt nd.rises i).2.2.1 0 nd.clock) ?_;exact fin
    ·unfold c48_13;refine qN (by decide) ?_;refine qC (f117 nd hz.sess) ?_;rfl
   rw[e]
   obtain⟨N,hN⟩:=lp.all_i
   exact⟨N,λaA hf _=>hN aA hf ()⟩
 have ak:∃ N,∀ aA,N<=aA->eQ nd.acked nd.2.1=true->iter (c48_6 (aJ p n) aA nd) aA (0:Int)=oB (CH nd&&oT nd):=by
  cases he:eQ nd.acked nd.2.1 with
  | false=>exact⟨0,λ_ _ h=>by cases h⟩
  | true=>
   have e:nd.2.1=(nd.acked.length:Int):=by unfold eQ at he;simp only[Bool.and_eq_true,beq_iff_eq] at he;omega
   obtain⟨M,hM⟩:=ri
   have lp:It (λaA (_:Unit)=>c48_6 (aJ p n) aA nd) (0:Int) (λ_=>oB (CH nd&&oT nd)):=by
    refine It.allB nd.acked.length _ _ (λi hi aA a rec=>?_) (It.stopE (T:=λaA _=>c48_6 (aJ p n) aA nd (λ_=>none) (nd.acked.length:Int)) (λaA a rec=>?_) ⟨M,λaA hf a=>?_⟩)
    ·have hb:=bW hi hz.acked
     unfold c48_6;rw[aF hb];refine qP (by show(i:Int)<nd.2.1;omega) ?_;refine qz ?_;refine(aD hi).trans ?_;refine qC (f115 nd.log hz.list hz.logs) ?_;exact FL
    ·unfold c48_6;refine qN (by show ¬ ((nd.acked.length:Int)<nd.2.1);omega) ?_;exact(jP (by show ¬ ((nd.acked.length:Int)<nd.2.1);omega)).symm
    ·unfold c48_6 oT;refine qN (by show ¬ ((nd.acked.length:Int)<nd.2.1);omega) ?_
     refine qC (f47 nd.num 0 100000) ?_;refine dJ λ_=>?_;refine qC (f47 nd.clock 0 100000) ?_;refine dJ λ_=>?_;refine qC (f47 nd.slots 1 4) ?_;refine dJ λ_=>?_;refine qC (f47 nd.wait 1 20) ?_;refine dJ λ_=>?_;refine qC (f47 nd.limit 1 50) ?_;refine dJ λ_=>?_;refine dJ λh5=>?_;exact hM aA hf h5
   obtain⟨N,hN⟩:=lp.all_i
   exact⟨N,λaA hf _=>hN aA hf ()⟩
 obtain⟨N,hN⟩:=ak
 refine⟨N,λaA hf=>?_⟩
 show T48 (aJ p n) aA nd=oB (dD nd)
 unfold T48 dD;refine qC (f47 nd.2.1 1 5) ?_;refine dJ λh1=>?_;refine qC (f47 nd.1 0 (i64.wrap (nd.2.1 - 1))) ?_;refine dJ λh2=>?_;refine qC (f49 nd.state (aK hz.state.a) (aK hz.state.b)) ?_;refine dJ λ_=>?_;refine qC (f112 nd.state hz.state) ?_;refine qC (f77 nd.tree (cM nd.state) (aK hz.leaves)) ?_;refine dJ λ_=>?_
 refine qC (f113 nd.log hz.list hz.logs) ?_;refine dJ λ_=>?_;refine qC (f114 nd.got nd.2.1 hz.got) ?_;refine dJ λh3=>?_;refine qC (f114 nd.acked nd.2.1 hz.acked) ?_;refine dJ λh4=>?_
 obtain⟨k,hk,hlt⟩:=UH h1 h2 h3
 show(bif decide (0<=nd.1)then((at? nd.got (nd.1).toNat).bind _)else none)=_
 rw[hk];refine qz ?_;refine(aD hlt).trans ?_;refine qC (f115 nd.log hz.list hz.logs) ?_;refine dJ λ_=>?_;refine qC (f116 nd.seen nd.2.1 hz.seen hz.lines) ?_;refine dJ λ_=>?_;exact hN aA hf h4
theorem f45(w:aZ)(x:Int):Ran p 2 45 [.val true ⟨K28,w⟩,.val false ⟨K3,(x,())⟩] ⟨[⟨K4,(inB x 0 (i64.wrap ((w.1.length:Int) - 1)),())⟩],[]⟩:=go45 λn hn=>Ev.now λaA=>by
 unfold T45;refine qC (f43 x 0 (i64.wrap ((w.1.length:Int) - 1))) ?_;rfl
theorem f11(w:aZ)(hz:SzW w):Ran p 8 11 [.val true ⟨K28,w⟩] ⟨[⟨K4,(bS w,())⟩],[]⟩:=go11 λn hn=>by
 have said:It (λaA (_:Unit)=>c11_15 (aJ p n) aA w) (0:Int) (λ_=>oB (bP w.2.2.1.length (jF w))):=by
  refine cV (It.allB w.2.2.1.length _ true (λi hi aA a rec=>?_) (It.stop λaA a rec=>?_))
  ·have hb:=bW hi hz.said
   unfold c11_15 jF;rw[aF hb];refine ql hi ?_;refine qz ?_;refine(aD hi).trans ?_;refine qC (f47 (gt w.2.2.1 i).1 0 (i64.wrap ((w.1.length:Int) - 1))) ?_;refine chk λ_=>?_;refine qz ?_;refine(aD hi).trans ?_;refine qC (f49 (gt w.2.2.1 i).2 (aK (hz.part i hi).a) (aK (hz.part i hi).b)) ?_;exact fin
  ·unfold c11_15;refine qe ?_;rfl
 have net:It (λaA (_:Unit)=>c11_10 (aJ p n) aA w) (0:Int) (λ_=>oB (bP w.2.1.length (λi=>inB (gt w.2.1 i).1 0 (i64.wrap ((w.1.length:Int) - 1)))&&bP w.2.2.1.length (jF w))):=by
  refine It.allB w.2.1.length _ _ (λi hi aA a rec=>?_) (It.stopE (T:=λaA _=>iter (c11_15 (aJ p n) aA w) aA (0:Int)) (λaA a rec=>?_) said.all_i)
  ·have hb:=bW hi hz.net
   unfold c11_10;rw[aF hb];refine ql hi ?_;refine qz ?_;refine(aD hi).trans ?_;refine qC (f47 (gt w.2.1 i).1 0 (i64.wrap ((w.1.length:Int) - 1))) ?_;exact fin
  ·unfold c11_10;refine qe ?_;rfl
 have nodes:It (λaA (_:Unit)=>c11_5 (aJ p n) aA w) (0:Int) (λ_=>oB (bP w.1.length (lP w)&&(bP w.2.1.length (λi=>inB (gt w.2.1 i).1 0 (i64.wrap ((w.1.length:Int) - 1)))&&bP w.2.2.1.length (jF w)))):=by
  refine It.allB w.1.length _ _ (λi hi aA a rec=>?_) (It.stopE (T:=λaA _=>iter (c11_10 (aJ p n) aA w) aA (0:Int)) (λaA a rec=>?_) net.all_i)
  ·have hb:=bW hi hz.nodes
   unfold c11_5 lP;rw[aF hb];refine ql hi ?_;refine qz ?_;refine(aD hi).trans ?_;refine qC (f48 (gt w.1 i) (hz.node i hi)) ?_;refine chk λ_=>?_;refine qz ?_;refine(aD hi).trans ?_;refine chk λ_=>?_;refine qz ?_;refine(aD hi).trans ?_;exact fin
  ·unfold c11_5;refine qe ?_;rfl
 obtain⟨N,hN⟩:=nodes.all_i
 refine⟨N,λaA hf=>?_⟩
 show T11 (aJ p n) aA w=oB (bS w)
 unfold T11 bS;refine qC (f47 (w.1.length:Int) 1 5) ?_;refine dJ λ_=>?_;refine tZ λ_=>?_;refine tZ λ_=>?_;exact hN aA hf ()
theorem f10(w:aZ)(hz:SzW w):Ran p 8 10 [.val true ⟨K28,w⟩] ⟨[⟨K4,(bS w,())⟩],[]⟩:=go10 λn hn=>by
 have said:It (λaA (_:Unit)=>c10_16 (aJ p n) aA w) (0:Int) (λ_=>oB (bP w.2.2.1.length (jF w))):=by
  refine cV (It.allB w.2.2.1.length _ true (λi hi aA a rec=>?_) (It.stop λaA a rec=>?_))
  ·have hb:=bW hi hz.said
   unfold c10_16 jF;rw[aF hb];refine ql hi ?_;refine qz ?_;refine(aD hi).trans ?_;refine qC (f45 w (gt w.2.2.1 i).1) ?_;refine chk λ_=>?_;refine qC (f46 (gt w.2.2.1 i).2 (aK (hz.part i hi).a) (aK (hz.part i hi).b)) ?_;exact fin
  ·unfold c10_16;refine qe ?_;rfl
 have net:It (λaA (_:Unit)=>c10_10 (aJ p n) aA w) (0:Int) (λ_=>oB (bP w.2.1.length (λi=>inB (gt w.2.1 i).1 0 (i64.wrap ((w.1.length:Int) - 1)))&&bP w.2.2.1.length (jF w))):=by
  refine It.allB w.2.1.length _ _ (λi hi aA a rec=>?_) (It.stopE (T:=λaA _=>iter (c10_16 (aJ p n) aA w) aA (0:Int)) (λaA a rec=>?_) said.all_i)
  ·have hb:=bW hi hz.net
   unfold c10_10;rw[aF hb];refine ql hi ?_;refine qz ?_;refine(aD hi).trans ?_;refine qC (f45 w (gt w.2.1 i).1) ?_;exact fin
  ·unfold c10_10;refine qe ?_;rfl
 have nodes:It (λaA (_:Unit)=>c10_4 (aJ p n) aA w) (0:Int) (λ_=>oB (bP w.1.length (lP w)&&(bP w.2.1.length (λi=>inB (gt w.2.1 i).1 0 (i64.wrap ((w.1.length:Int) - 1)))&&bP w.2.2.1.length (jF w)))):=by
  refine It.allB w.1.length _ _ (λi hi aA a rec=>?_) (It.stopE (T:=λaA _=>iter (c10_10 (aJ p n) aA w) aA (0:Int)) (λaA a rec=>?_) net.all_i)
  ·have hb:=bW hi hz.nodes
   unfold c10_4 lP;rw[aF hb];refine ql hi ?_;refine qz ?_;refine(aD hi).trans ?_;refine qC (f44 (gt w.1 i) (hz.node i hi)) ?_;refine chk λ_=>?_;refine chk λ_=>?_;exact fin
  ·unfold c10_4;refine qe ?_;rfl
 obtain⟨N,hN⟩:=nodes.all_i
 refine⟨N,λaA hf=>?_⟩
 show T10 (aJ p n) aA w=oB (bS w)
 unfold T10 bS;refine qC (f43 (w.1.length:Int) 1 5) ?_;refine dJ λ_=>?_;refine tZ λ_=>?_;refine tZ λ_=>?_;exact hN aA hf ()
end Go.Abs.Pz
namespace Go.Abs.Pz
open Go Go.Abs
end Go.Abs.Pz
namespace Go.Abs.Pz
open Go Go.Abs
theorem f156(s:aE)(hz:SzS s):Ran p 4 156 [.val true ⟨K50,s⟩] ⟨[⟨K47,(kQ s,())⟩],[]⟩:=go156 λn hn=>by
 cases hs:aM s with
 | false=>
  refine Ev.now λaA=>?_
  unfold T156 kQ;refine qC (f49 s (aK hz.a) (aK hz.b)) ?_;rw[hs];rfl
 | true=>
  have lp:It (λaA (_:Unit)=>c156_5 (aJ p n) aA s) ((0:Int),([]:List bN)) (λ_=>some ⟨[⟨K47,(s.1.filter (λx:bN=>x.2.2.1==0),())⟩],[]⟩):=by
   refine It.accu (α:=bN) [] (λi=>bif(gt s.1 i).2.2.1==0 then[gt s.1 i] else[]) s.1.length 1 (λi hi=>by cases (gt s.1 i).2.2.1==0<;>simp) (λi hi acc ha aA a rec=>?_) (It.stop λaA a rec=>?_)
   ·have hb:=bW hi hz.a
    have hl:s.1.length<=1048576:=hz.a
    unfold c156_5;dsimp only;rw[aF hb];refine ql hi ?_;refine qz ?_;refine(aD hi).trans ?_
    cases hq:(gt s.1 i).2.2.1==0 with
    | false=>refine qf ?_;exact(congrArg (λl:List bN=>rec (((i+1:Nat):Int),l)) (List.append_nil acc).symm:_)
    | true=>refine qt ?_;refine qz ?_;refine(aD hi).trans ?_;refine qP (by rw[hq] at ha;have:acc.length+1<=0+s.1.length*1:=ha;show acc.length+1<=4294967296;omega) ?_;rfl
   ·unfold c156_5;refine qe ?_;exact congrArg (λl:List bN=>(some ⟨[⟨K47,(l,())⟩],[]⟩:Option Out)) ((cI (λx:bN=>bif x.2.2.1==0 then[x] else[]) s.1).trans (iP _ _))
  have e:kQ s=s.1.filter (λx:bN=>x.2.2.1==0):=by unfold kQ;rw[hs];rfl
  rw[e]
  exact Ev.eq (λaA=>by unfold T156;refine qC (f49 s (aK hz.a) (aK hz.b)) ?_;rw[hs];rfl) (lp.ev (i:=()) rfl)
theorem f62(s:aE)(hz:SzS s):Ran p 4 62 [.val true ⟨K50,s⟩] ⟨[⟨K47,(kQ s,())⟩],[]⟩:=go62 λn hn=>by
 cases hs:aM s with
 | false=>
  refine Ev.now λaA=>?_
  unfold T62 kQ;refine qC (f46 s (aK hz.a) (aK hz.b)) ?_;rw[hs];rfl
 | true=>
  have lp:It (λaA (_:Unit)=>c62_5 (aJ p n) aA s) ((0:Int),([]:List bN)) (λ_=>some ⟨[⟨K47,(s.1.filter (λx:bN=>x.2.2.1==0),())⟩],[]⟩):=by
   refine It.accu (α:=bN) [] (λi=>bif(gt s.1 i).2.2.1==0 then[gt s.1 i] else[]) s.1.length 1 (λi hi=>by cases (gt s.1 i).2.2.1==0<;>simp) (λi hi acc ha aA a rec=>?_) (It.stop λaA a rec=>?_)
   ·have hb:=bW hi hz.a
    have hl:s.1.length<=1048576:=hz.a
    unfold c62_5;dsimp only;rw[aF hb];refine ql hi ?_;refine qz ?_;refine(aD hi).trans ?_
    cases hq:(gt s.1 i).2.2.1==0 with
    | false=>refine qf ?_;exact(congrArg (λl:List bN=>rec (((i+1:Nat):Int),l)) (List.append_nil acc).symm:_)
    | true=>refine qt ?_;refine qP (by rw[hq] at ha;have:acc.length+1<=0+s.1.length*1:=ha;show acc.length+1<=4294967296;omega) ?_;rfl
   ·unfold c62_5;refine qe ?_;exact congrArg (λl:List bN=>(some ⟨[⟨K47,(l,())⟩],[]⟩:Option Out)) ((cI (λx:bN=>bif x.2.2.1==0 then[x] else[]) s.1).trans (iP _ _))
  have e:kQ s=s.1.filter (λx:bN=>x.2.2.1==0):=by unfold kQ;rw[hs];rfl
  rw[e]
  exact Ev.eq (λaA=>by unfold T62;refine qC (f46 s (aK hz.a) (aK hz.b)) ?_;rw[hs];rfl) (lp.ev (i:=()) rfl)
theorem f63(a b:aE)(ha:SzS a):Ran p 1 63 [.val true ⟨K50,a⟩,.val true ⟨K50,b⟩] ⟨[⟨K4,(fL a b,())⟩],[]⟩:=go63 λn hn=>by
 have fl:∃ N,∀ aA,N<=aA->((a.2.1.length:Int)==(b.2.1.length:Int))=true->iter (c63_9 (aJ p n) aA a b) aA (0:Int)=oB (bP a.2.1.length λi=>qY (gt a.2.1 i) (gt b.2.1 i)):=by
  cases he:(a.2.1.length:Int)==(b.2.1.length:Int)with
  | false=>exact⟨0,λ_ _ h=>by cases h⟩
  | true=>
   have e:a.2.1.length=b.2.1.length:=by have:=eq_of_beq he;omega
   have lp:It (λaA (_:Unit)=>c63_9 (aJ p n) aA a b) (0:Int) (λ_=>oB (bP a.2.1.length λi=>qY (gt a.2.1 i) (gt b.2.1 i))):=by
    refine cV (It.allB a.2.1.length _ true (λi hi aA a' rec=>?_) (It.stop λaA a' rec=>?_))
    ·have hb:=bW hi ha.b
     unfold c63_9;rw[aF hb];refine ql hi ?_;refine qz ?_;refine(aD hi).trans ?_;refine qz ?_;refine(aD (show i<b.2.1.length by omega)).trans ?_;exact fin
    ·unfold c63_9;refine qe ?_;rfl
   obtain⟨N,hN⟩:=lp.all_i
   exact⟨N,λaA hf _=>hN aA hf ()⟩
 have it:∃ N,∀ aA,N<=aA->((a.1.length:Int)==(b.1.length:Int))=true->((a.2.1.length:Int)==(b.2.1.length:Int))=true->iter (c63_4 (aJ p n) aA a b) aA (0:Int)=oB (bP a.1.length (λi=>xB (gt a.1 i) (gt b.1 i))&&bP a.2.1.length λi=>qY (gt a.2.1 i) (gt b.2.1 i)):=by
  cases he:(a.1.length:Int)==(b.1.length:Int)with
  | false=>exact⟨0,λ_ _ h=>by cases h⟩
  | true=>
   cases he2:(a.2.1.length:Int)==(b.2.1.length:Int)with
   | false=>exact⟨0,λ_ _ _ h=>by cases h⟩
   | true=>
    have e:a.1.length=b.1.length:=by have:=eq_of_beq he;omega
    obtain⟨M,hM⟩:=fl
    have lp:It (λaA (_:Unit)=>c63_4 (aJ p n) aA a b) (0:Int) (λ_=>oB (bP a.1.length (λi=>xB (gt a.1 i) (gt b.1 i))&&bP a.2.1.length λi=>qY (gt a.2.1 i) (gt b.2.1 i))):=by
     refine It.allB a.1.length _ _ (λi hi aA a' rec=>?_) (It.stopE (T:=λaA _=>iter (c63_9 (aJ p n) aA a b) aA (0:Int)) (λaA a' rec=>?_) ⟨M,λaA hf _=>hM aA hf he2⟩)
     ·have hb:=bW hi ha.a
      unfold c63_4;rw[aF hb];refine ql hi ?_;refine qz ?_;refine(aD hi).trans ?_;refine qz ?_;refine(aD (show i<b.1.length by omega)).trans ?_;exact fin
     ·unfold c63_4;refine qe ?_;rfl
    obtain⟨N,hN⟩:=lp.all_i
    exact⟨N,λaA hf _ _=>hN aA hf ()⟩
 obtain⟨N,hN⟩:=it
 refine⟨N,λaA hf=>?_⟩
 show T63 (aJ p n) aA a b=oB (fL a b)
 unfold T63 fL;refine dJ λh=>?_;refine dJ λh'=>?_;exact hN aA hf h h'
end Go.Abs.Pz
namespace Go.Abs.Pz
open Go Go.Abs
theorem f240(s:aE)(id:Int)(hl:s.1.length<=maxLen):Ran p 1 240 [.val true ⟨K50,s⟩,.val false ⟨K3,(id,())⟩] ⟨[⟨K104,(bH s id).1⟩,⟨K4,((bH s id).2,())⟩],[]⟩:=go240 λn hn=>by
 have lp:It (λaA (_:Unit)=>c240_2 (aJ p n) aA s id) (0:Int) (λ_=>some ⟨[⟨K104,(bH s id).1⟩,⟨K4,((bH s id).2,())⟩],[]⟩):=by
  have:=It.first (c:=λaA (_:Unit)=>c240_2 (aJ p n) aA s id) (λi=>(i:Int)) s.1.length (λi=>(gt s.1 i).1==id) (λi _=>some ⟨[⟨K104,(gt (α:=bN) s.1 i).2⟩,⟨K4,(true,())⟩],[]⟩) (λ_=>some ⟨[⟨K104,eM⟩,⟨K4,(false,())⟩],[]⟩) (λi hi hp aA a rec=>?_) (λi hi hp=>It.stop λaA a rec=>?_) (It.stop λaA a rec=>?_)
  ·revert this;unfold bH
   cases (List.range s.1.length).find? (λi=>(gt s.1 i).1==id)<;>exact λh=>h
  ·have hb:i<9223372036854775807:=Nat.lt_of_lt_of_le hi hl
   unfold c240_2;rw[aF hb];refine ql hi ?_;refine qz ?_;refine(aD hi).trans ?_;exact gR hp
  ·unfold c240_2;refine ql hi ?_;refine qz ?_;refine(aD hi).trans ?_;refine qT hp ?_;refine qz ?_;refine(aD hi).trans ?_;rfl
  ·unfold c240_2;refine qe ?_;rfl
 exact Ev.eq (λaA=>by unfold T240;rfl) (lp.ev (i:=()) rfl)
theorem f149(s:aE)(id:Int)(hl:s.1.length<=maxLen):Ran p 1 149 [.val true ⟨K50,s⟩,.val false ⟨K3,(id,())⟩] ⟨[⟨K104,(bH s id).1⟩,⟨K4,((bH s id).2,())⟩],[]⟩:=go149 λn hn=>by
 have lp:It (λaA (_:Unit)=>c149_2 (aJ p n) aA s id) (0:Int) (λ_=>some ⟨[⟨K104,(bH s id).1⟩,⟨K4,((bH s id).2,())⟩],[]⟩):=by
  have:=It.first (c:=λaA (_:Unit)=>c149_2 (aJ p n) aA s id) (λi=>(i:Int)) s.1.length (λi=>(gt s.1 i).1==id) (λi _=>some ⟨[⟨K104,(gt (α:=bN) s.1 i).2⟩,⟨K4,(true,())⟩],[]⟩) (λ_=>some ⟨[⟨K104,eM⟩,⟨K4,(false,())⟩],[]⟩) (λi hi hp aA a rec=>?_) (λi hi hp=>It.stop λaA a rec=>?_) (It.stop λaA a rec=>?_)
  ·revert this;unfold bH
   cases (List.range s.1.length).find? (λi=>(gt s.1 i).1==id)<;>exact λh=>h
  ·have hb:i<9223372036854775807:=Nat.lt_of_lt_of_le hi hl
   unfold c149_2;rw[aF hb];refine ql hi ?_;refine qz ?_;refine(aD hi).trans ?_;exact gR hp
  ·unfold c149_2;refine ql hi ?_;refine qz ?_;refine(aD hi).trans ?_;refine qT hp ?_;rfl
  ·unfold c149_2;refine qe ?_;rfl
 exact Ev.eq (λaA=>by unfold T149;rfl) (lp.ev (i:=()) rfl)
theorem f161(a b:Int):Ran p 1 161 [.val false ⟨K3,(a,())⟩,.val false ⟨K3,(b,())⟩] ⟨[⟨K3,(mxI true a b,())⟩],[]⟩:=go161 λn hn=>Ev.now λaA=>by
 unfold T161 mxI
 simp only[if_true]
 by_cases h:a>b
 ·refine qP h ?_;rw[if_neg (by omega:¬ b>a)]
 ·refine qN h ?_;by_cases h':b>a
  ·rw[if_pos h']
  ·rw[if_neg h',show a=b from by omega]
theorem f237(b:Bool):Ran p 1 237 [.val false ⟨K4,(b,())⟩] ⟨[⟨K3,(OH b,())⟩],[]⟩:=go237 λn hn=>Ev.now λaA=>by
 unfold T237;cases b<;>rfl
theorem f342(a b:Int):Ran p 2 342 [.val false ⟨K3,(a,())⟩,.val false ⟨K3,(b,())⟩] ⟨[⟨K3,(l2 a b,())⟩],[]⟩:=go342 λn hn=>Ev.now λaA=>by
 unfold T342 l2
 cases decide (a<b)with
 | true=>rfl
 | false=>refine qf ?_;refine qC (f237 (decide (a>b))) ?_;rfl
theorem f360(a:Int):Ran p 1 360 [.val false ⟨K3,(a,())⟩] ⟨[⟨K4,(false,())⟩],[]⟩:=go360 λn hn=>Ev.now λaA=>by
 unfold T360;exact congrArg (λb:Bool=>(some ⟨[⟨K4,(b,())⟩],[]⟩:Option Out)) (by simp:(a != a)=false)
theorem f355(a b:Int):Ran p 2 355 [.val false ⟨K3,(a,())⟩,.val false ⟨K3,(b,())⟩] ⟨[⟨K3,(l2 a b,())⟩],[]⟩:=go355 λn hn=>Ev.now λaA=>by
 unfold T355 l2;refine qC (f360 a) ?_;refine qC (f360 b) ?_;refine qf ?_;refine qf ?_;cases decide (a<b)<;>cases decide (a>b)<;>rfl
theorem f354(ls:List aH)(hl:ls.length<=maxLen):Ran p 1 354 [.val false ⟨K38,(ls,())⟩] ⟨[⟨K3,(orN ls,())⟩],[]⟩:=go354 λn hn=>by
 have lp:It (λaA (_:Unit)=>c354_3 (aJ p n) aA ls) (0:Int) (λ_=>oI (orN ls)):=by
  have:=It.first (c:=λaA (_:Unit)=>c354_3 (aJ p n) aA ls) (λi=>(i:Int)) ls.length (λi=>(gt ls i).1 != 0) (λi _=>oI (gt ls i).1) (λ_=>oI 0) (λi hi hp aA a rec=>?_) (λi hi hp=>It.stop λaA a rec=>?_) (It.stop λaA a rec=>?_)
  ·revert this;unfold orN
   cases (List.range ls.length).find? (λi=>(gt ls i).1 != 0)<;>exact λh=>h
  ·have hb:i<9223372036854775807:=Nat.lt_of_lt_of_le hi hl
   unfold c354_3;rw[aF hb];refine ql hi ?_;refine qz ?_;refine(aD hi).trans ?_;exact gR hp
  ·unfold c354_3;refine ql hi ?_;refine qz ?_;refine(aD hi).trans ?_;exact jW hp
  ·unfold c354_3;refine qe ?_;rfl
 exact Ev.eq (λaA=>by unfold T354;rfl) (lp.ev (i:=()) rfl)
theorem f356(a b:ByteArray):Ran p 1 356 [.val false ⟨K9,(a,())⟩,.val false ⟨K9,(b,())⟩] ⟨[⟨K3,(wF a b,())⟩],[]⟩:=λn hn=>by
 cases n with
 | zero=>omega
 | succ n=>rfl
theorem f341(a b:bI):Ran p 3 341 [.val true ⟨K104,a⟩,.val true ⟨K104,b⟩] ⟨[⟨K3,(jC a b,())⟩],[]⟩:=go341 λn hn=>Ev.now λaA=>by
 unfold T341;refine qC (f355 a.1 b.1) ?_;refine qC (f355 a.2.1 b.2.1) ?_;refine qC (f355 a.2.2.1 b.2.2.1) ?_;refine qC (f355 a.2.2.2.1 b.2.2.2.1) ?_;refine qC (f356 a.2.2.2.2.1 b.2.2.2.2.1) ?_
 refine qC (f354 [(l2 a.1 b.1,()),(l2 a.2.1 b.2.1,()),(l2 a.2.2.1 b.2.2.1,()),(l2 a.2.2.2.1 b.2.2.2.1,()),(wF a.2.2.2.2.1 b.2.2.2.2.1,())] (by show 5<=9223372036854775807;omega)) ?_
 exact congrArg (λx:Int=>(some ⟨[⟨K3,(x,())⟩],[]⟩:Option Out)) (TB a b)
theorem f303(a b:bI):Ran p 3 303 [.val true ⟨K104,a⟩,.val true ⟨K104,b⟩] ⟨[⟨K3,(jC a b,())⟩],[]⟩:=go303 λn hn=>by
 have lp:It (λaA (_:Unit)=>c303_3 (aJ p n) aA a b (((l2 a.1 b.1,()),()),()) (((l2 a.2.1 b.2.1,()),()),()) (((l2 a.2.2.1 b.2.2.1,()),()),()) (((l2 a.2.2.2.1 b.2.2.2.1,()),()),())) (0:Int) (λ_=>oI (jC a b)):=by
  have:=It.first (c:=λaA (_:Unit)=>c303_3 (aJ p n) aA a b (((l2 a.1 b.1,()),()),()) (((l2 a.2.1 b.2.1,()),()),()) (((l2 a.2.2.1 b.2.2.1,()),()),()) (((l2 a.2.2.2.1 b.2.2.2.1,()),()),())) (λi=>(i:Int)) (JZ a b).length (λi=>(gt (JZ a b) i).1 != 0) (λi _=>oI (gt (JZ a b) i).1) (λ_=>oI (wF a.2.2.2.2.1 b.2.2.2.2.1)) (λi hi hp aA a' rec=>?_) (λi hi hp=>It.stop λaA a' rec=>?_) (It.stop λaA a' rec=>?_)
  ·rw[<- PU];revert this;unfold orZ
   cases (List.range (JZ a b).length).find? (λi=>(gt (JZ a b) i).1 != 0)<;>exact λh=>h
  ·have hb:i<9223372036854775807:=Nat.lt_of_lt_of_le hi (by show 4<=9223372036854775807;omega)
   unfold c303_3;rw[aF hb];refine ql hi ?_;refine qz ?_;refine(aD hi).trans ?_;refine(aD hi).trans ?_;exact gR hp
  ·unfold c303_3;refine ql hi ?_;refine qz ?_;refine(aD hi).trans ?_;refine(aD hi).trans ?_;refine qT hp ?_;refine qz ?_;refine(aD hi).trans ?_;refine(aD hi).trans ?_;rfl
  ·unfold c303_3;refine qe ?_
   rw[<- N8]
   cases Op.bytesLess (ByteArray.toList a.2.2.2.2.1) (ByteArray.toList b.2.2.2.2.1)with
   | true=>rfl
   | false=>refine qf ?_;refine qC (f237 (!(false||ByteArray.toList a.2.2.2.2.1==ByteArray.toList b.2.2.2.2.1))) ?_;rfl
 exact Ev.eq (λaA=>by unfold T303;refine qC (f342 a.1 b.1) ?_;refine qC (f342 a.2.1 b.2.1) ?_;refine qC (f342 a.2.2.1 b.2.2.1) ?_;refine qC (f342 a.2.2.2.1 b.2.2.2.1) ?_;rfl) (lp.ev (i:=()) rfl)
theorem f302(a b:bI):Ran p 4 302 [.val true ⟨K104,a⟩,.val true ⟨K104,b⟩] ⟨[⟨K104,mxE a b⟩],[]⟩:=go302 λn hn=>Ev.now λaA=>by
 unfold T302 mxE;refine qC (f341 a b) ?_;cases decide (jC a b<0)<;>rfl
theorem f238(a b:aE)(ha:SzS a)(hb':SzS b)(hpa:Pos a)(hpb:Pos b):Ran p 4 238 [.val true ⟨K50,a⟩,.val true ⟨K50,b⟩] ⟨[⟨K50,dK a b⟩],[]⟩:=go238 λn hn=>by
 have lp:It (λaA (_:Unit)=>c238_3 (aJ p n) aA a b) ((0:Int),([]:List aR),([]:List bN)) (λ_=>some ⟨[⟨K50,dK a b⟩],[]⟩):=by
  refine It.run (λi=>((i:Int),bX i (eD a b),bX i (eO a b))) 5 (λi hi aA u rec=>?_) (It.stop λaA u rec=>?_)
  ·have l1:(bX i (eD a b)).length<=i*1:=dH λj _=>qQ a b j
   have l2':(bX i (eO a b)).length<=i*1:=dH λj _=>tO a b j
   have hb:i<9223372036854775807:=by omega
   have fin3:∀ {F:List aR} {J:List bN},eD a b i=F->eO a b i=J->rec (((i+1:Nat):Int),bX i (eD a b)++F,bX i (eO a b)++J)=rec (((i+1:Nat):Int),bX (i+1) (eD a b),bX (i+1) (eO a b)):=by
    intro F J h1 h2;rw[d7,d7,h1,h2]
   have fin0:∀ {F:List aR},eD a b i=F->eO a b i=[]->rec (((i+1:Nat):Int),bX i (eD a b)++F,bX i (eO a b))=rec (((i+1:Nat):Int),bX (i+1) (eD a b),bX (i+1) (eO a b)):=by
    intro F h1 h2;rw[d7,d7,h1,h2,List.append_nil]
   have fin1:∀ {J:List bN},eD a b i=[]->eO a b i=J->rec (((i+1:Nat):Int),bX i (eD a b),bX i (eO a b)++J)=rec (((i+1:Nat):Int),bX (i+1) (eD a b),bX (i+1) (eO a b)):=by
    intro J h1 h2;rw[d7,d7,h1,h2,List.append_nil]
   have fin2:eD a b i=[]->eO a b i=[]->rec (((i+1:Nat):Int),bX i (eD a b),bX i (eO a b))=rec (((i+1:Nat):Int),bX (i+1) (eD a b),bX (i+1) (eO a b)):=by
    intro h1 h2;rw[d7,d7,h1,h2,List.append_nil,List.append_nil]
   unfold c238_3;dsimp only;rw[aF hb];refine qP (by show(i:Int)<5;omega) ?_;refine qC (f120 a (i:Int) (aK ha.b)) ?_;refine qC (f120 b (i:Int) (aK hb'.b)) ?_;refine qC (f161 (bV a.2.1 (i:Int)) (bV b.2.1 (i:Int))) ?_
   have zi:bH a (i:Int)=(eM,false)->bH b (i:Int)=(eM,false)->eO a b i=[]:=λea eb=>g9 (TA ea eb) (by show ¬ (0:Int)>_;have:=Q8 (b:=b) hpa (i:Int);omega)
   by_cases hf:flr a b (i:Int)>0
   ·refine qP hf ?_;refine qP (by show(bX i (eD a b)).length+1<=4294967296;omega) ?_
    have gF:=qM hf
    refine qD (f240 a (i:Int) (aK ha.a)) ?_;refine qD (f240 b (i:Int) (aK hb'.a)) ?_
    rcases pE hpa (i:Int)with ⟨x,hx,ea⟩ | ea<;>rcases pE hpb (i:Int)with ⟨y,hy,eb⟩ | eb<;>rw[ea,eb]
    ·refine qf ?_;refine qf ?_;refine qt ?_;refine qC (f303 y x) ?_
     have pk:=LC ea eb
     by_cases hc:jC y x>0
     ·rw[decide_eq_true hc] at pk
      replace pk:fZ a b (i:Int)=y:=pk
      refine qP hc ?_
      by_cases hi':y.1>flr a b i
      ·refine qP hi' ?_;refine qP (by show(bX i (eO a b)).length+1<=4294967296;omega) ?_;exact fin3 gF (gZ pk hi')
      ·refine qN hi' ?_;exact fin0 gF (g9 pk hi')
     ·rw[decide_eq_false hc] at pk
      replace pk:fZ a b (i:Int)=x:=pk
      refine qN hc ?_
      by_cases hi':x.1>flr a b i
      ·refine qP hi' ?_;refine qP (by show(bX i (eO a b)).length+1<=4294967296;omega) ?_;exact fin3 gF (gZ pk hi')
      ·refine qN hi' ?_;exact fin0 gF (g9 pk hi')
    ·refine qf ?_;refine qf ?_;refine qf ?_
     by_cases hi':x.1>flr a b i
     ·refine qP hi' ?_;refine qP (by show(bX i (eO a b)).length+1<=4294967296;omega) ?_;exact fin3 gF (gZ (zH ea eb hx) hi')
     ·refine qN hi' ?_;exact fin0 gF (g9 (zH ea eb hx) hi')
    ·refine qt ?_;refine qf ?_;refine qt ?_
     by_cases hi':y.1>flr a b i
     ·refine qP hi' ?_;refine qP (by show(bX i (eO a b)).length+1<=4294967296;omega) ?_;exact fin3 gF (gZ (zI ea eb hy) hi')
     ·refine qN hi' ?_;exact fin0 gF (g9 (zI ea eb hy) hi')
    ·refine qt ?_;refine qt ?_;exact fin0 gF (zi ea eb)
   ·refine qN hf ?_
    have gF:=uJ hf
    refine qD (f240 a (i:Int) (aK ha.a)) ?_;refine qD (f240 b (i:Int) (aK hb'.a)) ?_
    rcases pE hpa (i:Int)with ⟨x,hx,ea⟩ | ea<;>rcases pE hpb (i:Int)with ⟨y,hy,eb⟩ | eb<;>rw[ea,eb]
    ·refine qf ?_;refine qf ?_;refine qt ?_;refine qC (f303 y x) ?_
     have pk:=LC ea eb
     by_cases hc:jC y x>0
     ·rw[decide_eq_true hc] at pk
      replace pk:fZ a b (i:Int)=y:=pk
      refine qP hc ?_
      by_cases hi':y.1>flr a b i
      ·refine qP hi' ?_;refine qP (by show(bX i (eO a b)).length+1<=4294967296;omega) ?_;exact fin1 gF (gZ pk hi')
      ·refine qN hi' ?_;exact fin2 gF (g9 pk hi')
     ·rw[decide_eq_false hc] at pk
      replace pk:fZ a b (i:Int)=x:=pk
      refine qN hc ?_
      by_cases hi':x.1>flr a b i
      ·refine qP hi' ?_;refine qP (by show(bX i (eO a b)).length+1<=4294967296;omega) ?_;exact fin1 gF (gZ pk hi')
      ·refine qN hi' ?_;exact fin2 gF (g9 pk hi')
    ·refine qf ?_;refine qf ?_;refine qf ?_
     by_cases hi':x.1>flr a b i
     ·refine qP hi' ?_;refine qP (by show(bX i (eO a b)).length+1<=4294967296;omega) ?_;exact fin1 gF (gZ (zH ea eb hx) hi')
     ·refine qN hi' ?_;exact fin2 gF (g9 (zH ea eb hx) hi')
    ·refine qt ?_;refine qf ?_;refine qt ?_
     by_cases hi':y.1>flr a b i
     ·refine qP hi' ?_;refine qP (by show(bX i (eO a b)).length+1<=4294967296;omega) ?_;exact fin1 gF (gZ (zI ea eb hy) hi')
     ·refine qN hi' ?_;exact fin2 gF (g9 (zI ea eb hy) hi')
    ·refine qt ?_;refine qt ?_;exact fin2 gF (zi ea eb)
  ·unfold c238_3;exact jP (by show ¬ ((5:Int)<5);decide)
 exact Ev.eq (λaA=>by unfold T238;rfl) (lp.ev (i:=()) rfl)
theorem f233(a b:aE)(ha:SzS a)(hb':SzS b):Ran p 5 233 [.val true ⟨K50,a⟩,.val true ⟨K50,b⟩] ⟨[⟨K50,dK a b⟩],[]⟩:=go233 λn hn=>by
 have lp:It (λaA (_:Unit)=>c233_3 (aJ p n) aA a b) ((0:Int),([]:List bN),([]:List aR)) (λ_=>some ⟨[⟨K50,dK a b⟩],[]⟩):=by
  refine It.run (λi=>((i:Int),bX i (eO a b),bX i (eD a b))) 5 (λi hi aA u rec=>?_) (It.stop λaA u rec=>?_)
  ·have l1:(bX i (eD a b)).length<=i*1:=dH λj _=>qQ a b j
   have l2':(bX i (eO a b)).length<=i*1:=dH λj _=>tO a b j
   have hb:i<9223372036854775807:=by omega
   unfold c233_3;dsimp only;rw[aF hb];refine qP (by show(i:Int)<5;omega) ?_;refine qD (f149 a (i:Int) (aK ha.a)) ?_;refine qD (f149 b (i:Int) (aK hb'.a)) ?_;refine qC (f302 (bH a (i:Int)).1 (bH b (i:Int)).1) ?_;refine qC (f111 a (i:Int) (aK ha.b)) ?_;refine qC (f111 b (i:Int) (aK hb'.b)) ?_
   rw[d7,d7]
   by_cases hp:(fZ a b (i:Int)).1>flr a b (i:Int)
   ·refine qP hp ?_;refine qP (by show(bX i (eO a b)).length+1<=4294967296;omega) ?_;rw[gZ rfl hp]
    by_cases hf:flr a b (i:Int)>0
    ·refine qP hf ?_;refine qP (by show(bX i (eD a b)).length+1<=4294967296;omega) ?_;rw[qM hf];rfl
    ·refine qN hf ?_;rw[uJ hf,List.append_nil];rfl
   ·refine qN hp ?_;rw[g9 rfl hp,List.append_nil]
    by_cases hf:flr a b (i:Int)>0
    ·refine qP hf ?_;refine qP (by show(bX i (eD a b)).length+1<=4294967296;omega) ?_;rw[qM hf];rfl
    ·refine qN hf ?_;rw[uJ hf,List.append_nil];rfl
  ·unfold c233_3;exact jP (by show ¬ ((5:Int)<5);decide)
 exact Ev.eq (λaA=>by unfold T233;rfl) (lp.ev (i:=()) rfl)
theorem f157(s:aE)(id:Int)(hz:SzS s):Ran p 4 157 [.val true ⟨K50,s⟩,.val false ⟨K3,(id,())⟩] ⟨[⟨K3,(gone s id,())⟩],[]⟩:=go157 λn hn=>Ev.now λaA=>by
 unfold T157 gone;refine qC (f49 s (aK hz.a) (aK hz.b)) ?_
 cases hs:aM s with
 | false=>rfl
 | true=>
  refine qf ?_;refine qD (f240 s id (aK hz.a)) ?_
  rcases pE ((aP s).1 hs).pos id with ⟨x,_,e⟩ | e<;>rw[e]
  ·refine qf ?_;show(bif x.2.1==0 then _ else _)=(some (⟨[⟨K3,(bif true then(bif true then(bif x.2.1==0 then _ else _)else _)else _,())⟩],[]⟩:Out):Option Out)
   cases x.2.1==0<;>rfl
  ·refine qt ?_;refine qC (f120 s id (aK hz.b)) ?_;rfl
theorem f61(s:aE)(id:Int)(hz:SzS s):Ran p 4 61 [.val true ⟨K50,s⟩,.val false ⟨K3,(id,())⟩] ⟨[⟨K3,(gone s id,())⟩],[]⟩:=go61 λn hn=>Ev.now λaA=>by
 unfold T61;refine qC (f46 s (aK hz.a) (aK hz.b)) ?_
 cases hs:aM s with
 | false=>rw[HL hs];rfl
 | true=>
  rw[VF hs]
  refine qf ?_;refine qD (f149 s id (aK hz.a)) ?_
  rcases pE ((aP s).1 hs).pos id with ⟨x,_,e⟩ | e<;>rw[e]
  ·refine qf ?_;show(bif x.2.1==1 then _ else _)=(some (⟨[⟨K3,(bif true then(bif x.2.1==1 then _ else _)else _,())⟩],[]⟩:Out):Option Out)
   cases x.2.1==1<;>rfl
  ·refine qt ?_;refine qC (f111 s id (aK hz.b)) ?_;rfl
theorem f330(s:aE)(id:Int)(hz:SzS s):Ran p 5 330 [.val true ⟨K50,s⟩,.val false ⟨K3,(id,())⟩] ⟨[⟨K104,(jB s id).1⟩,⟨K4,((jB s id).2,())⟩],[]⟩:=go330 λn hn=>Ev.now λaA=>by
 unfold T330;refine qC (f156 s hz) ?_;refine qD (f240 (kQ s,[],()) id (aK (CW hz))) ?_;rfl
end Go.Abs.Pz
namespace Go.Abs.Pz
open Go Go.Abs
end Go.Abs.Pz
