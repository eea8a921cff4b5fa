/- What the functions of this program answer, part fb. -/
import Derived.Test.YtohahjehdododaaGreatXda
import Derived.Test.YtohahjehdododaaGreatXeb
import Derived.Test.YtohahjehdododaaGreatW4
set_option linter.unusedVariables false
/- Two equal worlds are the same. -/
set_option maxHeartbeats 4000000
namespace Go.Abs.Wz
open Go Go.Abs
theorem uR(x:Int):(x != x)=false:=by simp
theorem f18(w:a9)(hz:SzX w):Ran p 4 18 [va K28 w, va K28 w] lB:=go18 λn hn=>by
 have l3:It (λaA (_:Unit)=>c18_14 (aK p n) aA w w) (0:Int) (λ_=>some lB):=by
  refine It.run (λi=>(i:Int)) w.2.2.1.length (λi hi aA u rec=>?_) (It.stop λaA u rec=>?_)
  ·have hb:=bU hi hz.said
   have hs:=f9 (gt w.2.2.1 i).2 (gt w.2.2.1 i).2 (hz.part i hi)
   rw[gK.2 rfl] at hs
   show c18_14 (aK p n) aA w w rec (i:Int)=rec ((i+1:Nat):Int)
   unfold c18_14;rw[aL hb];refine(aE (Int.ofNat_lt.2 hi)).trans ?_;refine bif_nn.trans ?_;refine(aH hi).trans ?_;refine bif_nn.trans ?_;refine(aH hi).trans ?_;refine(aF (uR _)).trans ?_;refine bif_nn.trans ?_;refine(aH hi).trans ?_;refine bif_nn.trans ?_;refine(aH hi).trans ?_;refine(aB (hs n (by omega))).trans ?_;rfl
  ·show c18_14 (aK p n) aA w w rec (w.2.2.1.length:Int)=_
   unfold c18_14;refine(aI (Int.lt_irrefl _)).trans ?_;rfl
 have l2:It (λaA (_:Unit)=>c18_9 (aK p n) aA w w) (0:Int) (λ_=>some lB):=by
  refine It.run (λi=>(i:Int)) w.2.1.length (λi hi aA u rec=>?_) (It.stopE (T:=λaA _=>iter (c18_14 (aK p n) aA w w) aA (0:Int)) (λaA u rec=>?_) l3.all_i)
  ·have hb:=bU hi hz.net
   show c18_9 (aK p n) aA w w rec (i:Int)=rec ((i+1:Nat):Int)
   unfold c18_9;rw[aL hb];refine(aE (Int.ofNat_lt.2 hi)).trans ?_;refine bif_nn.trans ?_;refine(aH hi).trans ?_;refine bif_nn.trans ?_;refine(aH hi).trans ?_;refine(aF (uR _)).trans ?_;refine bif_nn.trans ?_;refine(aH hi).trans ?_;refine bif_nn.trans ?_;refine(aH hi).trans ?_;refine(aF (by rw[wC];rfl)).trans ?_;refine bif_nn.trans ?_;refine(aH hi).trans ?_;refine bif_nn.trans ?_;refine(aH hi).trans ?_;refine(aF (by simp)).trans ?_;rfl
  ·show c18_9 (aK p n) aA w w rec (w.2.1.length:Int)=_
   unfold c18_9;refine(aI (Int.lt_irrefl _)).trans ?_;rfl
 have l1:It (λaA (_:Unit)=>c18_4 (aK p n) aA w w) (0:Int) (λ_=>some lB):=by
  refine It.run (λi=>(i:Int)) w.1.length (λi hi aA u rec=>?_) (It.stopE (T:=λaA _=>iter (c18_9 (aK p n) aA w w) aA (0:Int)) (λaA u rec=>?_) l2.all_i)
  ·have hb:=bU hi hz.nodes
   have hs:=f40 (gt w.1 i) (gt w.1 i) (hz.node i hi)
   rw[FE] at hs
   show c18_4 (aK p n) aA w w rec (i:Int)=rec ((i+1:Nat):Int)
   unfold c18_4;rw[aL hb];refine(aE (Int.ofNat_lt.2 hi)).trans ?_;refine bif_nn.trans ?_;refine(aH hi).trans ?_;refine bif_nn.trans ?_;refine(aH hi).trans ?_;refine(aB (hs n (by omega))).trans ?_;rfl
  ·show c18_4 (aK p n) aA w w rec (w.1.length:Int)=_
   unfold c18_4;refine(aI (Int.lt_irrefl _)).trans ?_;rfl
 exact Ev.eq (λaA=>by unfold T18;refine(aF (uR _)).trans ?_;refine(aF (uR _)).trans ?_;refine(aF (uR _)).trans ?_;rfl) (l1.ev (i:=()) rfl)
end Go.Abs.Wz
/- FnCalm. -/
set_option maxHeartbeats 4000000
namespace Go.Abs.Wz
open Go Go.Abs
theorem SD{w:a9}(hz:SzX w):SzX (fE w):=by
 unfold fE
 cases bT w with
 | false=>exact hz
 | true=>
  have hl:=dS w w.1.length
  refine⟨⟨by show(bX w w.1.length).length<=aW;rw[hl];exact hz.nodes,λi hi=>?_,hz.net,hz.said,hz.part⟩,hz.bytes⟩
  have h5:i<w.1.length:=by rw[<- hl];exact hi
  show SzN (gt (bX w w.1.length) i)
  rw[j0 w h5]
  cases Nat.blt i w.1.length with
  | true=>exact tK (hz.node i h5) _
  | false=>exact hz.node i h5
theorem J1(w:a9):(fE w).1.length=w.1.length:=by
 unfold fE
 cases bT w with
 | false=>rfl
 | true=>exact dS w _
theorem GW(x:NodeT):(eZ x).state=x.state/\(eZ x).1=x.1/\(eZ x).2.1=x.2.1:=by
 unfold eZ
 cases dJ x<;>cases x.clock==100000<;>exact⟨rfl,rfl,rfl⟩
theorem sA(x:NodeT):∀ k,(fM x k).state=x.state/\(fM x k).1=x.1/\(fM x k).2.1=x.2.1
 | 0=>⟨rfl,rfl,rfl⟩
 | k+1=>by
  have h1:=GW (fM x k)
  have h2:=sA x k
  exact⟨h1.1.trans h2.1,h1.2.1.trans h2.2.1,h1.2.2.trans h2.2.2⟩
theorem BM{x:NodeT}(h:NodeOk x):∀ k,NodeOk (fM x k)
 | 0=>h
 | k+1=>yU (BM h k)
theorem GX{y:NodeT}(h:y.clock=100000):eZ y=y:=by
 unfold eZ;rw[show(y.clock==100000)=true from beq_iff_eq.2 h];cases dJ y<;>rfl
theorem BL{x:NodeT}(h:NodeOk x):∀ k,Ticked x k (fM x k)\/(fM x k).clock=100000
 | 0=> .inl (QM h)
 | k+1=>by
  show Ticked x (k+1) (eZ (fM x k))\/(eZ (fM x k)).clock=100000
  by_cases hc:(fM x k).clock=100000
  ·rw[GX hc];exact .inr hc
  ·rcases BL h k with ht | ht
   ·have h1:=ht.ok.clock
    have h2:=ht.clock
    rw[aP] at h1
    exact .inl (EK ht (by omega))
   ·exact absurd ht hc
theorem D6{w:a9}(h:bT w=true){i:Nat}(hi:i<w.1.length):gt (fE w).1 i=s8 w i:=by
 unfold fE;rw[h]
 show gt (bX w w.1.length) i=_
 rw[j0 w hi,show Nat.blt i w.1.length=true from Nat.blt_eq▸hi];rfl
theorem P0{w:a9}(h:bT w=true){i:Nat}(hi:i<w.1.length):(gt (fE w).1 i).sess=[]\/¬ (gt (fE w).1 i).clock<100000:=by
 rw[D6 h hi]
 have hw:=v6 h hi
 have hk:=((CX w).1 h).node i hi
 unfold s8
 rcases BL hk.1 ((gt w.1 i).wait+1).toNat with ht | ht
 ·exact .inl (GV ht (by omega))
 ·exact .inr (by rw[ht];omega)
theorem IS{w:a9}(h:bT w=true){i:Nat}(hi:i<w.1.length):(gt (fE w).1 i).state=(gt w.1 i).state:=by
 rw[D6 h hi];exact(sA _ _).1
theorem SE(w:a9):bT (fE w)=bT w:=by
 cases h:bT w with
 | false=>unfold fE;rw[h];exact h
 | true=>
  have hw:=(CX w).1 h
  have hl:(fE w).1.length=w.1.length:=J1 w
  have e2:(fE w).2=w.2:=by unfold fE;rw[h];rfl
  refine(CX _).2 ⟨by rw[hl];exact hw.n,by rw[e2];exact hw.net,by rw[e2];exact hw.said,λi hi=>?_,by rw[e2,hl];exact hw.to,by rw[e2,hl];exact hw.part⟩
  rw[hl] at hi ⊢
  have hk:=hw.node i hi
  rw[D6 h hi]
  have h3:=sA (gt w.1 i) ((gt w.1 i).wait+1).toNat
  exact⟨BM hk.1 _,h3.2.2.trans hk.2.1,h3.2.1.trans hk.2.2⟩
theorem f16(b:List aO)(hb:b.length<=1048576):∃ (w:a9),Ran p 18 16 [vf K22 (b,())] (rO K28 w)/\SzY w:=by
 obtain⟨o,⟨w,rfl,hw⟩,hL⟩:=It.new (lvl:=18 - 1) (c:=λn aA (_:Unit)=>c16_10003 (aK p n) aA b) (λo=>∃ (w:a9),o=(rO K28 w)/\SzY w) b hb (λi h hi h4=>⟨_,λn hn aA a rec=>by
   show c16_10003 (aK p n) aA b rec (h,(i:Int))=_
   unfold c16_10003;dsimp only;rw[aL (show i<9223372036854775807 by omega)];refine(aE (Int.ofNat_lt.2 hi)).trans ?_;refine(aE (show(i:Int)<4000 by omega)).trans ?_;refine bif_nn.trans ?_;refine(aH hi).trans ?_;rfl⟩) (λh i hc hi=>by
   obtain⟨w,d1,h1,k1,hw⟩:=f29 _ hc
   exact⟨_,⟨w,rfl,hw⟩,λn hn=>⟨0,λaA _ a rec=>by
    show c16_10003 (aK p n) aA b rec (h,i)=_
    unfold c16_10003;refine(O6 hi).trans ?_;refine(aG (h1 n (by omega))).trans ?_;rfl⟩⟩) (IntKind.i64.wrap (26583+(b.length:Int)))
 exact⟨w,go16 λn hn=>Ev.eq (λaA=>by unfold T16;rfl) ((hL n (by omega)).ev (i:=()) rfl),hw⟩
theorem law_calm(b:List aO)(ho:pI K22 (b,())):Ran p 19 4 [vf K22 (b,())] lB:=by
 have h1:=f6 b
 by_cases hb:(b.length:Int)>1048576
 ·rw[decide_eq_true hb] at h1
  exact go4 λn hn=>Ev.now λaA=>by unfold T4;refine(aB (h1 n (by omega))).trans ?_;rfl
 rw[decide_eq_false hb] at h1
 obtain⟨w,h2,hw⟩:=f16 b (by omega)
 have hz:=hw.toSzX
 have hx:=SD hz
 have h3:=f17 w hz
 have h4:=f19 w hz
 have h5:=f18 (fE w) hx
 have h6:=f11 w hz.toSzW
 have h7:=f20 (fE w) hx.toSzW
 have hb2:∀ x:Bool,nU x x=true:=λx=>by cases x<;>rfl
 rw[SE] at h7
 have hl:=J1 w
 refine go4 λn hn=>?_
 have lp:It (λaA (_:Unit)=>c4_8 (aK p n) aA ((w,()),()) ((fE w,()),())) (0:Int) (λ_=>some lB):=by
  cases ok:bT w with
  | false=>
   rw[ok] at h6 h7
   refine It.stop λaA u rec=>?_
   show c4_8 (aK p n) aA ((w,()),()) ((fE w,()),()) rec (0:Int)=_
   unfold c4_8
   by_cases h0:(0:Int)<(((fE w).1.length:Nat):Int)
   ·refine(aE h0).trans ?_;refine(aB (h6 n (by omega))).trans ?_;refine(aF rfl).trans ?_;refine(aB (h7 n (by omega))).trans ?_;refine(aB (h6 n (by omega))).trans ?_;rfl
   ·refine(aI h0).trans ?_;refine(aB (h7 n (by omega))).trans ?_;refine(aB (h6 n (by omega))).trans ?_;rfl
  | true=>
  rw[ok] at h6 h7
  have hwl:=tD ok
  refine It.run (λi=>(i:Int)) w.1.length (λk hk aA u rec=>?_) (It.stop λaA u rec=>?_)
  ·have hk2:k<(fE w).1.length:=by rw[hl];exact hk
   have he:=P0 ok hk
   have hst:=IS ok hk
   have h8:=f9 (gt (fE w).1 k).state (gt w.1 k).state (hx.node k hk2).state
   rw[gK.2 hst] at h8
   show c4_8 (aK p n) aA ((w,()),()) ((fE w,()),()) rec (k:Int)=rec ((k+1:Nat):Int)
   unfold c4_8;rw[aL (show k<9223372036854775807 by omega)];refine(aE (Int.ofNat_lt.2 hk2)).trans ?_;refine(aB (h6 n (by omega))).trans ?_;refine(aM rfl).trans ?_;refine bif_nn.trans ?_;refine(aH hk2).trans ?_;refine(aH hk2).trans ?_
   by_cases hs:(((gt (fE w).1 k).sess.length:Nat):Int)>0
   ·refine(aE hs).trans ?_;refine bif_nn.trans ?_;refine(aH hk2).trans ?_;refine(aH hk2).trans ?_
    have hc:¬ (gt (fE w).1 k).clock<100000:=he.resolve_left λe=>by rw[e] at hs;exact absurd hs (by decide)
    refine(aI hc).trans ?_;refine bif_nn.trans ?_;refine(aH hk2).trans ?_;refine(aH hk2).trans ?_;refine bif_nn.trans ?_;refine(aH hk).trans ?_;refine(aB (h8 n (by omega))).trans ?_;rfl
   ·refine(aI hs).trans ?_;refine bif_nn.trans ?_;refine(aH hk2).trans ?_;refine(aH hk2).trans ?_;refine bif_nn.trans ?_;refine(aH hk).trans ?_;refine(aB (h8 n (by omega))).trans ?_;rfl
  ·show c4_8 (aK p n) aA ((w,()),()) ((fE w,()),()) rec (w.1.length:Int)=_
   rw[<- hl]
   unfold c4_8;refine(aI (Int.lt_irrefl _)).trans ?_;refine(aB (h7 n (by omega))).trans ?_;refine(aB (h6 n (by omega))).trans ?_;rfl
 exact Ev.eq (λaA=>by
  unfold T4;refine(aB (h1 n (by omega))).trans ?_;refine(aF rfl).trans ?_;refine(aB (h2 n (by omega))).trans ?_;refine(aB (h3 n (by omega))).trans ?_;refine(aB (h4 n (by omega))).trans ?_;refine(aB (h5 n (by omega))).trans ?_;refine(aF rfl).trans ?_;rfl) (lp.ev (i:=()) rfl)
end Go.Abs.Wz
