/- What the functions of this program answer, part ek. -/
import Derived.Test.YtmamlgjbendjhaaGreatXsc
import Derived.Test.YtmamlgjbendjhaaGreatXgu
set_option linter.unusedVariables false
set_option maxHeartbeats 2000000
namespace Go.Abs.Xz
open Go Go.Abs
-- a round: all calm, then everyone with everyone
def jJ(w:aW)(a:Nat):Nat→aW
 | 0=>w
 | b+1=>bif((a:Int) != (b:Int))then exN (jJ w a b) (a:Int) (b:Int)else jJ w a b
def fU(w:aW)(N:Nat):Nat→aW
 | 0=>w
 | a+1=>jJ (fU w N a) a N
def eJ(w:aW):aW:=fU (cF w) w.1.length w.1.length
theorem IL(w:aW)(a b:Int):(exN w a b).1.length=w.1.length:=by
 cases h:eV w a b with
 | false=>rw[xE h]
 | true=>rw[q0 h];exact zE w a b
theorem u7{P:aW→Prop}{w:aW}(h:P w)(a:Nat)(hs:∀ (y:aW) (b:Nat),P y→P (exN y (a:Int) (b:Int))):∀ b,P (jJ w a b)
 | 0=>h
 | b+1=>by
  have ih:=u7 h a hs b
  show P (bif((a:Int) != (b:Int))then exN (jJ w a b) (a:Int) (b:Int)else jJ w a b)
  cases ((a:Int) != (b:Int))with
  | true=>exact hs _ _ ih
  | false=>exact ih
theorem nD{P:aW→Prop}{w:aW}(h:P w)(N:Nat)(hs:∀ (y:aW) (a b:Nat),P y→P (exN y (a:Int) (b:Int))):∀ a,P (fU w N a)
 | 0=>h
 | a+1=>u7 (nD h N hs a) a (fun y b hy=>hs y a b hy) N
theorem FV(w:aW)(N a:Nat):(fU w N a).1.length=w.1.length:=nD (P:=fun y=>y.1.length=w.1.length) rfl N (fun y a b h=>(IL y _ _).trans h) a
theorem yQ{w:aW}(hz:SzX w)(a b:Nat):SzX (jJ w a b):=u7 (P:=SzX) hz a (fun y b h=>CG _ _ h) b
theorem yS{w:aW}(hz:SzX w)(N a:Nat):SzX (fU w N a):=nD (P:=SzX) hz N (fun y a b h=>CG _ _ h) a
theorem qW{w:aW}(hz:SzX w):SzX (cF w):=by
 unfold cF
 cases cW w with
 | false=>exact hz
 | true=>
  have hl:=cL w w.1.length
  refine⟨⟨by show(bM w w.1.length).length≤aX;rw[hl];exact hz.nodes,fun i hi=>?_,hz.net,hz.said,hz.part⟩,hz.bytes⟩
  have h5:i<w.1.length:=by rw[← hl];exact hi
  show SzN (gt (bM w w.1.length) i)
  rw[iA w h5]
  cases Nat.blt i w.1.length with
  | true=>exact m6 (hz.node i h5) _
  | false=>exact hz.node i h5
theorem BC(w:aW):(cF w).1.length=w.1.length:=by
 unfold cF
 cases cW w with
 | false=>rfl
 | true=>exact cL w _
theorem FT(w:aW)(hz:SzX w)(h:LmR K78 w):LmR K78 (eJ w):=
 (nD (P:=fun y=>SzX y∧LmR K78 y) ⟨qW hz,IQ w hz.toSzW h⟩ w.1.length (fun y a b hy=>⟨CG _ _ hy.1,J5 y _ _ hy.1 hy.2⟩) w.1.length).2
-- how EI cells lie in what comes back
theorem rC{α:Type}[Inhabited α]{c:α→Int}:∀ (xs:List α) (i:Nat) (x:α),i<xs.length→bV c (xs.set i x)=bV c xs+c x - c (gt xs i)
 | [],i,x,h=>absurd h (Nat.not_lt_zero _)
 | y::ys,0,x,_=>by show c x+bV c ys=c y+bV c ys+c x - c y;omega
 | y::ys,i+1,x,h=>by
  have:=rC (c:=c) ys i x (Nat.lt_of_succ_lt_succ h)
  rw[zC];show c y+bV c (ys.set i x)=c y+bV c ys+c x - c (gt ys i);omega
theorem DE(w:aW)(a b:Int)(hz:SzX w):cnS K78 (exN w a b)≤cnS K78 w+1000∧(5<w.1.length→exN w a b=w):=by
 have hw:0≤cnS K78 w:=nU _ _
 cases h:eV w a b with
 | false=>rw[xE h];exact⟨by omega,fun _=>rfl⟩
 | true=>
  obtain⟨E,H⟩:=JB hz.toSzW h
  have hne:a.toNat≠b.toNat:=by have h1:=H.ne;have h2:=H.pn.2;have h3:=H.qn.2;omega
  rw[q0 h]
  have s1:bV (cnR K38) (w.1.set a.toNat (dY w a b).1)=bV (cnR K38) w.1+cnR K38 (dY w a b).1 - cnR K38 (gt (α:=NodeT) w.1 a.toNat):=rC (α:=NodeT) _ _ _ H.pn.1
  have s2:bV (cnR K38) ((w.1.set a.toNat (dY w a b).1).set b.toNat (iU w a b).1)=bV (cnR K38) (w.1.set a.toNat (dY w a b).1)+cnR K38 (iU w a b).1 - cnR K38 (gt (α:=NodeT) w.1 b.toNat):=by
   refine(rC (α:=NodeT) (c:=cnR K38) _ _ _ (by rw[List.length_set];exact H.qn.1)).trans ?_
   rw[eD hne];rfl
  have a1:=qM (gt (α:=NodeT) w.1 a.toNat);have a2:=qM (gt (α:=NodeT) w.1 b.toNat)
  have a3:=qM (dY w a b).1;have a4:=qM (iU w a b).1
  have c2:=E.c2;have c3:=E.c3
  have e1:cnS K78 (exW w a b)=bV (cnR K38) ((w.1.set a.toNat (dY w a b).1).set b.toNat (iU w a b).1)+(cnT (.sl K195) w.2.1+(cnT (.sl K282) w.2.2.1+0)):=rfl
  have e2:cnS K78 w=bV (cnR K38) w.1+(cnT (.sl K195) w.2.1+(cnT (.sl K282) w.2.2.1+0)):=rfl
  refine⟨by omega,fun h5=>?_⟩
  unfold eV exB cW at h
  simp only[Bool.and_eq_true,bH] at h
  exfalso;omega
theorem CY{w:aW}(hz:SzX w)(a:Nat):∀ b,cnS K78 (jJ w a b)≤cnS K78 w+1000*(b:Int)
 | 0=>by show cnS K78 w≤_;omega
 | b+1=>by
  have ih:=CY hz a b
  have hx:=(DE (jJ w a b) (a:Int) (b:Int) (yQ hz a b)).1
  show cnS K78 (bif((a:Int) != (b:Int))then exN (jJ w a b) (a:Int) (b:Int)else jJ w a b)≤_
  cases ((a:Int) != (b:Int))with
  | true=>show cnS K78 (exN (jJ w a b) (a:Int) (b:Int))≤_;omega
  | false=>show cnS K78 (jJ w a b)≤_;omega
theorem CZ{w:aW}(hz:SzX w){N:Nat}(hN:N≤5):∀ a,cnS K78 (fU w N a)≤cnS K78 w+5000*(a:Int)
 | 0=>by show cnS K78 w≤_;omega
 | a+1=>by
  have ih:=CZ hz hN a
  have hx:=CY (yS hz N a) a N
  show cnS K78 (jJ (fU w N a) a N)≤_
  omega
theorem FU(w:aW)(hz:SzX w):cnS K78 (eJ w)≤cnS K78 w+25000:=by
 have h0:=IR w
 have hz':=qW hz
 by_cases h5:w.1.length≤5
 ·have:=CZ hz' h5 w.1.length
  unfold eJ;omega
 ·have e:eJ w=cF w:=by
   have hl:=BC w
   refine(nD (P:=fun y=>y=cF w) rfl w.1.length (fun y a b hy=>?_) w.1.length)
   subst hy
   exact(DE _ _ _ hz').2 (by omega)
  rw[e];omega
def wSt(k:Nat)(y:aW):Int×List NodeT×List m4×List qZ:=((k:Int),y.1,y.2.1,y.2.2.1)
theorem f67(w:aW)(hz:SzX w):Ran p 12 67 [va K78 w] (rO K78 (eJ w)):=go67 fun n hn=>by
 have hc:=qW hz
 have lp:It (fun aA (_:Unit)=>c67_3 (aG p n) aA w) (wSt 0 (fU (cF w) w.1.length 0)) (fun _=>rV K78 (eJ w)):=by
  refine It.runE (fun i=>wSt i (fU (cF w) w.1.length i)) w.1.length (fun i hi=>?_) (It.stop fun aA u rec=>?_)
  ·have hb:=i63 hi hz.nodes
   have hd:=yS hc w.1.length i
   have inner:It (fun aA (rec:Int×List NodeT×List m4×List qZ→Option Out)=>c67_6 (aG p n) aA w (i:Int) rec) (wSt 0 (jJ (fU (cF w) w.1.length i) i 0)) (fun rec=>rec (wSt (i+1) (fU (cF w) w.1.length (i+1)))):=by
    refine It.run (fun k=>wSt k (jJ (fU (cF w) w.1.length i) i k)) w.1.length (fun k hk aA rec rec6=>?_) (It.stop fun aA rec rec6=>?_)
    ·have hb2:=i63 hk hz.nodes
     show c67_6 (aG p n) aA w (i:Int) rec rec6 (wSt k (jJ (fU (cF w) w.1.length i) i k))=rec6 (wSt (k+1) (bif((i:Int) != (k:Int))then exN (jJ (fU (cF w) w.1.length i) i k) (i:Int) (k:Int)else jJ (fU (cF w) w.1.length i) i k))
     unfold c67_6 wSt;dsimp only;rw[aI hb2];refine(aE (Int.ofNat_lt.2 hk)).trans ?_
     cases ((i:Int) != (k:Int))with
     | true=>refine(aN rfl).trans ?_;refine(cR (f65 (jJ (fU (cF w) w.1.length i) i k) (i:Int) (k:Int) (yQ hd i k) n (by omega))).trans ?_;rfl
     | false=>refine(aL rfl).trans ?_;rfl
    ·show c67_6 (aG p n) aA w (i:Int) rec rec6 (wSt w.1.length (fU (cF w) w.1.length (i+1)))=_
     unfold c67_6 wSt;dsimp only;rw[aI hb];refine(aF (Int.lt_irrefl _)).trans ?_;rfl
   obtain⟨N,hN⟩:=inner.all_i
   refine⟨N,fun aA hf u rec=>?_⟩
   show c67_3 (aG p n) aA w rec (wSt i (fU (cF w) w.1.length i))=_
   unfold c67_3 wSt;dsimp only;refine(aE (Int.ofNat_lt.2 hi)).trans ?_;exact hN aA hf rec
  ·show c67_3 (aG p n) aA w rec (wSt w.1.length (eJ w))=_
   unfold c67_3 wSt;dsimp only;refine(aF (Int.lt_irrefl _)).trans ?_;rfl
 exact Ev.eq (fun aA=>by unfold T67;refine(aC (f206 w hz n (by omega))).trans ?_;rfl) (lp.ev (i:=()) rfl)
theorem f209(a b:Int):Ran p 1 209 [vf K3 (a,()), vf K3 (b,())] (rO K4 (true,())):=go209 fun n hn=>Ev.now fun aA=>by
 unfold T209;rfl
theorem f68(w:aW)(hz:SzX w):Ran p 15 68 [va K78 w] (rO K78 (eJ w)):=go68 fun n hn=>by
 have hc:=qW hz
 have hcl:=BC w
 have lp:It (fun aA (_:Unit)=>c68_10002 (aG p n) aA w ((cF w,()),())) (wSt 0 (fU (cF w) w.1.length 0)) (fun _=>rV K78 (eJ w)):=by
  refine It.runE (fun i=>wSt i (fU (cF w) w.1.length i)) w.1.length (fun i hi=>?_) (It.stop fun aA u rec=>?_)
  ·have hb:=i63 hi hz.nodes
   have hd:=yS hc w.1.length i
   have hl:(fU (cF w) w.1.length i).1.length=w.1.length:=(FV _ _ _).trans hcl
   have inner:It (fun aA (rec:Int×List NodeT×List m4×List qZ→Option Out)=>c68_10005 (aG p n) aA w ((cF w,()),()) (i:Int) (fU (cF w) w.1.length i).1 rec) (wSt 0 (jJ (fU (cF w) w.1.length i) i 0)) (fun rec=>rec (wSt (i+1) (fU (cF w) w.1.length (i+1)))):=by
    refine It.run (fun k=>wSt k (jJ (fU (cF w) w.1.length i) i k)) w.1.length (fun k hk aA rec rec6=>?_) (It.stop fun aA rec rec6=>?_)
    ·have hb2:=i63 hk hz.nodes
     show c68_10005 (aG p n) aA w ((cF w,()),()) (i:Int) (fU (cF w) w.1.length i).1 rec rec6 (wSt k (jJ (fU (cF w) w.1.length i) i k))=rec6 (wSt (k+1) (bif((i:Int) != (k:Int))then exN (jJ (fU (cF w) w.1.length i) i k) (i:Int) (k:Int)else jJ (fU (cF w) w.1.length i) i k))
     unfold c68_10005 wSt;dsimp only;rw[aI hb2];refine(aE (by show((k:Int)<(((fU (cF w) w.1.length i).1.length:Nat):Int));rw[hl];exact Int.ofNat_lt.2 hk)).trans ?_
     cases ((i:Int) != (k:Int))with
     | true=>refine(aN rfl).trans ?_;refine(aC (f209 (i:Int) (k:Int) n (by omega))).trans ?_;refine(aN rfl).trans ?_;refine(cR (f66 (jJ (fU (cF w) w.1.length i) i k) (i:Int) (k:Int) (yQ hd i k) n (by omega))).trans ?_;rfl
     | false=>refine(aL rfl).trans ?_;rfl
    ·show c68_10005 (aG p n) aA w ((cF w,()),()) (i:Int) (fU (cF w) w.1.length i).1 rec rec6 (wSt w.1.length (fU (cF w) w.1.length (i+1)))=_
     unfold c68_10005 wSt;dsimp only;rw[aI hb];refine(aF (by show ¬ ((w.1.length:Int)<(((fU (cF w) w.1.length i).1.length:Nat):Int));rw[hl];exact Int.lt_irrefl _)).trans ?_;rfl
   obtain⟨N,hN⟩:=inner.all_i
   refine⟨N,fun aA hf u rec=>?_⟩
   show c68_10002 (aG p n) aA w ((cF w,()),()) rec (wSt i (fU (cF w) w.1.length i))=_
   unfold c68_10002 wSt;dsimp only;refine(aE (by show((i:Int)<(((cF w).1.length:Nat):Int));rw[hcl];exact Int.ofNat_lt.2 hi)).trans ?_;exact hN aA hf rec
  ·show c68_10002 (aG p n) aA w ((cF w,()),()) rec (wSt w.1.length (eJ w))=_
   unfold c68_10002 wSt;dsimp only;refine(aF (by show ¬ ((w.1.length:Int)<(((cF w).1.length:Nat):Int));rw[hcl];exact Int.lt_irrefl _)).trans ?_;rfl
 exact Ev.eq (fun aA=>by unfold T68;refine(aC (f208 w hz n (by omega))).trans ?_;rfl) (lp.ev (i:=()) rfl)
end Go.Abs.Xz
