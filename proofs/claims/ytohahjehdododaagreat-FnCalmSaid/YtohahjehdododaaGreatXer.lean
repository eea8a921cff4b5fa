/- What the functions of this program answer, part er. -/
import Derived.Test.YtohahjehdododaaGreatXgo
import Derived.Test.YtohahjehdododaaGreatW3
import Derived.Test.YtohahjehdododaaGreatXep
import Derived.Test.YtohahjehdododaaGreatW4
set_option linter.unusedVariables false
open Go.IntKind (i64)
namespace Go.Abs.Wz
open Go Go.Abs
def tJ(x:dM):dM:=(x.1,x.2.1,x.2.2.1,i64.wrap (x.2.2.2.1+1),())
def kG(x:NodeT)(i:Nat):List dM:=bif decide (i64.wrap ((gt x.sess i).2.2.2.1+1)<=x.wait)then[tJ (gt x.sess i)] else[]
theorem u4(x:NodeT)(i:Nat):(kG x i).length<=1:=by
 unfold kG;cases decide (i64.wrap ((gt x.sess i).2.2.2.1+1)<=x.wait)<;>simp
def rI(y:NodeT):NodeT:=(y.1,y.2.1,y.2.2.1,y.2.2.2.1,y.2.2.2.2.1,y.2.2.2.2.2.1,y.2.2.2.2.2.2.1,y.2.2.2.2.2.2.2.1,y.2.2.2.2.2.2.2.2.1,y.2.2.2.2.2.2.2.2.2.1,y.2.2.2.2.2.2.2.2.2.2.1,y.2.2.2.2.2.2.2.2.2.2.2.1,y.2.2.2.2.2.2.2.2.2.2.2.2.1,y.2.2.2.2.2.2.2.2.2.2.2.2.2.1,bR y.sess.length (kG y),y.wait,y.limit,i64.wrap (y.clock+1),y.rises,())
def eZ(x:NodeT):NodeT:=bif dJ x then(bif x.clock==100000 then x else rI x)else x
theorem BN(x:NodeT):(rI x).sess.length<=x.sess.length:=by
 have:=dT (g:=kG x) (L:=1) (n:=x.sess.length) λi _=>u4 x i
 show(bR x.sess.length (kG x)).length<=x.sess.length
 omega
theorem yT{x:NodeT}(h:SzN x):SzN (eZ x):=by
 unfold eZ
 cases dJ x with
 | false=>exact h
 | true=>
  cases x.clock==100000 with
  | true=>exact h
  | false=>exact⟨h.state,h.leaves,h.list,h.logs,h.got,h.acked,h.seen,h.lines,Nat.le_trans (BN x) h.sess,h.rises⟩

theorem f42(x:NodeT)(hz:SzN x):Ran p 8 42 [va K54 x] (rO K54 (eZ x)):=go42 λn hn=>by
 unfold eZ
 cases ho:dJ x with
 | false=>exact Ev.now λaA=>by show T42 (aK p n) aA x=rV K54 x;unfold T42;refine(aB (f78 x hz n (by omega))).trans ?_;refine(aB (f34 x hz n (by omega))).trans ?_;rw[ho];rfl
 | true=>
  cases hc:x.clock==100000 with
  | true=>exact Ev.now λaA=>by show T42 (aK p n) aA x=rV K54 x;unfold T42;refine(aB (f78 x hz n (by omega))).trans ?_;refine(aB (f34 x hz n (by omega))).trans ?_;rw[ho];refine(aF rfl).trans ?_;exact aM hc
  | false=>
   have lp:It (λaA (_:Unit)=>c42_7 (aK p n) aA x ((x,()),())) ((0:Int),([]:List dM)) (λ_=>rV K54 (rI x)):=by
    refine It.accu (α:=dM) [] (kG x) x.sess.length 1 (λi _=>u4 x i) (λi hi acc ha aA u rec=>?_) (It.stop λaA u rec=>?_)
    ·show c42_7 (aK p n) aA x ((x,()),()) rec ((i:Int),acc)=rec (((i+1:Nat):Int),acc++kG x i)
     unfold c42_7 kG;dsimp only;rw[aL (i63 hi hz.sess)];refine(aE (Int.ofNat_lt.2 hi)).trans ?_;refine bif_nn.trans ?_;refine(aH hi).trans ?_
     by_cases h:i64.wrap ((gt x.sess i).2.2.2.1+1)<=x.wait
     ·refine(aE h).trans ?_;refine(aE ?_).trans ?_
      ·have h1:(kG x i).length=1:=by unfold kG;rw[decide_eq_true h];rfl
       have h2:=hz.sess
       rw[h1] at ha
       show acc.length+1<=bound
       unfold aW at h2;unfold bound;simp at ha;omega
      ·rw[decide_eq_true h];rfl
     ·refine(aI h).trans ?_;rw[decide_eq_false h];show rec _=rec _;rw[show(bif false then[tJ (gt x.sess i)] else[])=([]:List dM)from rfl,List.append_nil];rfl
    ·show c42_7 (aK p n) aA x ((x,()),()) rec ((x.sess.length:Int),bR x.sess.length (kG x))=_
     unfold c42_7;dsimp only;refine(aI (Int.lt_irrefl _)).trans ?_;rfl
   exact Ev.eq (λaA=>by
    unfold T42;refine(aB (f78 x hz n (by omega))).trans ?_;refine(aB (f34 x hz n (by omega))).trans ?_;rw[ho];refine(aF rfl).trans ?_;exact aF hc) (lp.ev (i:=()) rfl)
theorem f39(x:NodeT)(hz:SzN x):Ran p 8 39 [va K54 x] (rO K54 (eZ x)):=go39 λn hn=>by
 unfold eZ
 cases ho:dJ x with
 | false=>exact Ev.now λaA=>by show T39 (aK p n) aA x=rV K54 x;unfold T39;refine(aB (f73 x hz n (by omega))).trans ?_;refine(aB (f44 x hz n (by omega))).trans ?_;rw[ho];rfl
 | true=>
  cases hc:x.clock==100000 with
  | true=>exact Ev.now λaA=>by show T39 (aK p n) aA x=rV K54 x;unfold T39;refine(aB (f73 x hz n (by omega))).trans ?_;refine(aB (f44 x hz n (by omega))).trans ?_;rw[ho];refine(aF rfl).trans ?_;exact aM hc
  | false=>
   have lp:It (λaA (_:Unit)=>c39_7 (aK p n) aA x ((x,()),())) ((0:Int),([]:List dM)) (λ_=>rV K54 (rI x)):=by
    refine It.accu (α:=dM) [] (kG x) x.sess.length 1 (λi _=>u4 x i) (λi hi acc ha aA u rec=>?_) (It.stop λaA u rec=>?_)
    ·show c39_7 (aK p n) aA x ((x,()),()) rec ((i:Int),acc)=rec (((i+1:Nat):Int),acc++kG x i)
     unfold c39_7 kG;dsimp only;rw[aL (i63 hi hz.sess)];refine(aE (Int.ofNat_lt.2 hi)).trans ?_;refine bif_nn.trans ?_;refine(aH hi).trans ?_
     by_cases h:i64.wrap ((gt x.sess i).2.2.2.1+1)<=x.wait
     ·refine(aE h).trans ?_;refine(aE ?_).trans ?_
      ·have h1:(kG x i).length=1:=by unfold kG;rw[decide_eq_true h];rfl
       have h2:=hz.sess
       rw[h1] at ha
       show acc.length+1<=bound
       unfold aW at h2;unfold bound;simp at ha;omega
      ·rw[decide_eq_true h];rfl
     ·refine(aI h).trans ?_;rw[decide_eq_false h];show rec _=rec _;rw[show(bif false then[tJ (gt x.sess i)] else[])=([]:List dM)from rfl,List.append_nil];rfl
    ·show c39_7 (aK p n) aA x ((x,()),()) rec ((x.sess.length:Int),bR x.sess.length (kG x))=_
     unfold c39_7;dsimp only;refine(aI (Int.lt_irrefl _)).trans ?_;rfl
   exact Ev.eq (λaA=>by
    unfold T39;refine(aB (f73 x hz n (by omega))).trans ?_;refine(aB (f44 x hz n (by omega))).trans ?_;rw[ho];refine(aF rfl).trans ?_;exact aF hc) (lp.ev (i:=()) rfl)
def fM(x:NodeT):Nat->NodeT
 | 0=>x
 | k+1=>eZ (fM x k)
theorem tK{x:NodeT}(h:SzN x):∀ k,SzN (fM x k)
 | 0=>h
 | k+1=>yT (tK h k)
def s8(w:a9)(j:Nat):NodeT:=fM (gt w.1 j) ((gt w.1 j).wait+1).toNat
def bX(w:a9)(i:Nat):List NodeT:=(List.range w.1.length).map fun(j:Nat)=>bif Nat.blt j i then s8 w j else gt w.1 j
theorem dS(w:a9)(i:Nat):(bX w i).length=w.1.length:=by unfold bX;simp
theorem j0(w:a9){i j:Nat}(h:j<w.1.length):gt (bX w i) j=bif Nat.blt j i then s8 w j else gt w.1 j:=by
 rw[cK (by rw[dS];exact h)];unfold bX;simp
theorem O7{xs ys:List NodeT}(h:xs.length=ys.length)(h2:∀ j,j<xs.length->gt xs j=gt ys j):xs=ys:=by
 refine List.ext_getElem h λj h3 h4=>?_
 have:=h2 j h3
 rwa [cK h3,cK h4] at this
theorem xK(w:a9):bX w 0=w.1:=O7 (dS w 0) λj hj=>by
 rw[dS] at hj
 rw[j0 w hj]
 cases h:Nat.blt j 0 with
 | true=>have:j<0:=Nat.blt_eq▸h;omega
 | false=>rfl
theorem AQ(w:a9){i:Nat}(hi:i<w.1.length):(bX w i).set i (s8 w i)=bX w (i+1):=by
 refine O7 (by rw[List.length_set,dS,dS]) λj hj=>?_
 rw[List.length_set,dS] at hj
 rw[j0 w hj,cK (by rw[List.length_set,dS];exact hj)]
 by_cases e:j=i
 ·subst e
  rw[List.getElem_set_self,show Nat.blt j (j+1)=true from Nat.blt_eq▸Nat.lt_succ_self j];rfl
 ·rw[List.getElem_set_ne (λh=>e h.symm),<- cK (by rw[dS];exact hj),j0 w hj]
  have:Nat.blt j i=Nat.blt j (i+1):=by
   cases h1:Nat.blt j i<;>cases h2:Nat.blt j (i+1)
   ·rfl
   ·have h3:j<i+1:=Nat.blt_eq▸h2
    have h4:¬ j<i:=λh=>by rw[show Nat.blt j i=true from Nat.blt_eq▸h] at h1;cases h1
    omega
   ·have h3:j<i:=Nat.blt_eq▸h1
    have h4:¬ j<i+1:=λh=>by rw[show Nat.blt j (i+1)=true from Nat.blt_eq▸h] at h2;cases h2
    omega
   ·rfl
  rw[this]
def fE(w:a9):a9:=bif bT w then(bX w w.1.length,w.2.1,w.2.2.1,())else w
theorem v6{w:a9}(h:bT w=true){i:Nat}(hi:i<w.1.length):1<=(gt w.1 i).wait/\(gt w.1 i).wait<=20:=by
 have:=tE h hi
 unfold dJ kK at this
 simp only[Bool.and_eq_true,aP] at this
 omega
def sL(k:Int)(y:NodeT):Int×Int×Int×List bK×List aU×List aO×Int×Int×Int×List aJ×List aO×List aO×List bQ×Int×Int×List dM×Int×Int×Int×List jQ:=(k,y.1,y.2.1,y.2.2.1,y.2.2.2.1,y.2.2.2.2.1,y.2.2.2.2.2.1,y.2.2.2.2.2.2.1,y.2.2.2.2.2.2.2.1,y.2.2.2.2.2.2.2.2.1,y.2.2.2.2.2.2.2.2.2.1,y.2.2.2.2.2.2.2.2.2.2.1,y.2.2.2.2.2.2.2.2.2.2.2.1,y.2.2.2.2.2.2.2.2.2.2.2.2.1,y.2.2.2.2.2.2.2.2.2.2.2.2.2.1,y.2.2.2.2.2.2.2.2.2.2.2.2.2.2.1,y.2.2.2.2.2.2.2.2.2.2.2.2.2.2.2.1,y.2.2.2.2.2.2.2.2.2.2.2.2.2.2.2.2.1,y.2.2.2.2.2.2.2.2.2.2.2.2.2.2.2.2.2.1,y.2.2.2.2.2.2.2.2.2.2.2.2.2.2.2.2.2.2.1)
theorem f19(w:a9)(hz:SzX w):Ran p 9 19 [va K28 w] (rO K28 (fE w)):=go19 λn hn=>by
 unfold fE
 cases ho:bT w with
 | false=>exact Ev.now λaA=>by show T19 (aK p n) aA w=rV K28 w;unfold T19;refine(aB (f41 w hz n (by omega))).trans ?_;refine(aB (f11 w hz.toSzW n (by omega))).trans ?_;rw[ho];rfl
 | true=>
  have lp:It (λaA (_:Unit)=>c19_5 (aK p n) aA w ((w,()),())) ((0:Int),bX w 0) (λ_=>rV K28 ((bX w w.1.length,w.2.1,w.2.2.1,()):a9)):=by
   refine It.runE (λi=>((i:Int),bX w i)) w.1.length (λi hi=>?_) (It.stop λaA u rec=>?_)
   ·have hw:=v6 ho hi
    have hb:=i63 hi hz.nodes
    have inner:It (λaA (rec:Int×List NodeT->Option Out)=>c19_9 (aK p n) aA w ((w,()),()) (i:Int) (bX w i) rec) (sL 0 (gt w.1 i)) (λrec=>rec (((i+1:Nat):Int),bX w (i+1))):=by
     refine It.run (λk=>sL (k:Int) (fM (gt w.1 i) k)) ((gt w.1 i).wait+1).toNat (λk hk aA rec rec9=>?_) (It.stop λaA rec rec9=>?_)
     ·show c19_9 (aK p n) aA w ((w,()),()) (i:Int) (bX w i) rec rec9 (sL (k:Int) (fM (gt w.1 i) k))=rec9 (sL ((k+1:Nat):Int) (fM (gt w.1 i) (k+1)))
      unfold c19_9 sL;dsimp only;rw[aL (by omega)];refine bif_nn.trans ?_;refine(aH hi).trans ?_;refine(aE (by show(k:Int)<=(gt w.1 i).wait;omega)).trans ?_
      refine(aB (f42 (fM (gt w.1 i) k) (tK (hz.node i hi) k) n (by omega))).trans ?_
      rfl
     ·show c19_9 (aK p n) aA w ((w,()),()) (i:Int) (bX w i) rec rec9 (sL ((((gt w.1 i).wait+1).toNat:Nat):Int) (s8 w i))=_
      have hl:i<(bX w i).length:=by rw[dS];exact hi
      rw[<- AQ w hi]
      unfold c19_9 sL;dsimp only;rw[aL hb];refine bif_nn.trans ?_;refine(aH hi).trans ?_;refine(aI (by show ¬ ((((gt w.1 i).wait+1).toNat:Nat):Int)<=(gt w.1 i).wait;omega)).trans ?_
      refine bif_nn.trans ?_;refine(aH hl).trans ?_;refine(aH hl).trans ?_
      rfl
    obtain⟨N,hN⟩:=inner.all_i
    refine⟨N,λaA hf u rec=>?_⟩
    have hl:i<(bX w i).length:=by rw[dS];exact hi
    show c19_5 (aK p n) aA w ((w,()),()) rec ((i:Int),bX w i)=rec (((i+1:Nat):Int),bX w (i+1))
    have hg:gt (bX w i) i=gt w.1 i:=by
     rw[j0 w hi]
     cases h:Nat.blt i i with
     | true=>have:i<i:=Nat.blt_eq▸h;omega
     | false=>rfl
    unfold c19_5;dsimp only;refine(aE (by show(i:Int)<((bX w i).length:Int);omega)).trans ?_;refine bif_nn.trans ?_;refine(aH hl).trans ?_;refine(aH hl).trans ?_
    rw[hg];exact hN aA hf rec
   ·show c19_5 (aK p n) aA w ((w,()),()) rec ((w.1.length:Int),bX w w.1.length)=_
    unfold c19_5;dsimp only;refine(aI (by show ¬ ((w.1.length:Int)<((bX w w.1.length).length:Int));rw[dS];omega)).trans ?_;rfl
  exact Ev.eq (λaA=>by rw[xK];unfold T19;refine(aB (f41 w hz n (by omega))).trans ?_;refine(aB (f11 w hz.toSzW n (by omega))).trans ?_;rw[ho];rfl) (lp.ev (i:=()) rfl)
theorem f17(w:a9)(hz:SzX w):Ran p 9 17 [va K28 w] (rO K28 (fE w)):=go17 λn hn=>by
 unfold fE
 cases ho:bT w with
 | false=>exact Ev.now λaA=>by show T17 (aK p n) aA w=rV K28 w;unfold T17;refine(aB (f38 w hz n (by omega))).trans ?_;refine(aB (f20 w hz.toSzW n (by omega))).trans ?_;rw[ho];rfl
 | true=>
  have lp:It (λaA (_:Unit)=>c17_5 (aK p n) aA w ((w,()),())) ((0:Int),bX w 0) (λ_=>rV K28 ((bX w w.1.length,w.2.1,w.2.2.1,()):a9)):=by
   refine It.runE (λi=>((i:Int),bX w i)) w.1.length (λi hi=>?_) (It.stop λaA u rec=>?_)
   ·have hw:=v6 ho hi
    have hb:=i63 hi hz.nodes
    have hl:i<(bX w i).length:=by rw[dS];exact hi
    have hg:gt (bX w i) i=gt w.1 i:=by
     rw[j0 w hi]
     cases h:Nat.blt i i with
     | true=>have:i<i:=Nat.blt_eq▸h;omega
     | false=>rfl
    have inner:It (λaA (rec:Int×List NodeT->Option Out)=>c17_8 (aK p n) aA w ((w,()),()) (gt (α:=NodeT) w.1 i) (i:Int) rec) ((0:Int),bX w i) (λrec=>rec (((i+1:Nat):Int),bX w (i+1))):=by
     have e0:bX w i=(bX w i).set i (fM (gt w.1 i) 0):=by
      show bX w i=(bX w i).set i (gt w.1 i)
      rw[<- hg,cK hl,List.set_getElem_self]
     rw[e0]
     refine It.run (λk=>((k:Int),(bX w i).set i (fM (gt w.1 i) k))) ((gt w.1 i).wait+1).toNat (λk hk aA rec rec8=>?_) (It.stop λaA rec rec8=>?_)
     ·show c17_8 (aK p n) aA w ((w,()),()) (gt (α:=NodeT) w.1 i) (i:Int) rec rec8 ((k:Int),(bX w i).set i (fM (gt w.1 i) k))=rec8 (((k+1:Nat):Int),(bX w i).set i (fM (gt w.1 i) (k+1)))
      have hl2:i<((bX w i).set i (fM (gt w.1 i) k)).length:=by rw[List.length_set];exact hl
      have hg2:gt ((bX w i).set i (fM (gt w.1 i) k)) i=fM (gt w.1 i) k:=by rw[cK hl2,List.getElem_set_self]
      unfold c17_8;dsimp only;rw[aL (by omega)]
      refine(aE (by show(k:Int)<i64.wrap ((gt w.1 i).wait+1);rw[uY (by omega) (by omega)];omega)).trans ?_;refine bif_nn.trans ?_;refine(aH hl2).trans ?_;refine(aH hl2).trans ?_
      rw[hg2]
      refine(aB (f39 (fM (gt w.1 i) k) (tK (hz.node i hi) k) n (by omega))).trans ?_
      refine bif_nn.trans ?_;refine(aH hl2).trans ?_;refine(aH hl2).trans ?_
      show rec8 (_,List.set (List.set (bX w i) i (fM (gt w.1 i) k)) i (eZ (fM (gt w.1 i) k)))=_
      rw[List.set_set];rfl
     ·show c17_8 (aK p n) aA w ((w,()),()) (gt (α:=NodeT) w.1 i) (i:Int) rec rec8 (((((gt w.1 i).wait+1).toNat:Nat):Int),(bX w i).set i (s8 w i))=_
      rw[AQ w hi]
      unfold c17_8;dsimp only;rw[aL hb];refine(aI (by show ¬ ((((gt w.1 i).wait+1).toNat:Nat):Int)<i64.wrap ((gt w.1 i).wait+1);rw[uY (by omega) (by omega)];omega)).trans ?_
      rfl
    obtain⟨N,hN⟩:=inner.all_i
    refine⟨N,λaA hf u rec=>?_⟩
    show c17_5 (aK p n) aA w ((w,()),()) rec ((i:Int),bX w i)=rec (((i+1:Nat):Int),bX w (i+1))
    unfold c17_5;dsimp only;refine(aE (Int.ofNat_lt.2 hi)).trans ?_;refine bif_nn.trans ?_;refine(aH hi).trans ?_
    exact hN aA hf rec
   ·show c17_5 (aK p n) aA w ((w,()),()) rec ((w.1.length:Int),bX w w.1.length)=_
    unfold c17_5;dsimp only;refine(aI (Int.lt_irrefl _)).trans ?_;rfl
  exact Ev.eq (λaA=>by rw[xK];unfold T17;refine(aB (f38 w hz n (by omega))).trans ?_;refine(aB (f20 w hz.toSzW n (by omega))).trans ?_;rw[ho];rfl) (lp.ev (i:=()) rfl)
theorem BP{α:Type}[Inhabited α]{c:α->Int}:∀ (xs ys:List α),xs.length=ys.length->(∀ j,j<xs.length->c (gt xs j)<=c (gt ys j))->gT c xs<=gT c ys
 | [],[],_,_=>Int.le_refl _
 | x::xs,y::ys,h,h2=>by
  have h3:c x<=c y:=h2 0 (Nat.zero_lt_succ _)
  have h4:=BP xs ys (by simpa using h) λj hj=>h2 (j+1) (Nat.succ_lt_succ hj)
  show c x+gT c xs<=c y+gT c ys
  omega
 | [],_::_,h,_=>by cases h
 | _::_,[],h,_=>by cases h
theorem Q1(xs:List dM):cnT (.sl K107) xs=4*(xs.length:Int):=jW (c:=cnR K107) (n:=4) (λx=>rfl) xs
end Go.Abs.Wz
namespace Go.Abs.Wz
open Go Go.Abs
theorem f167(a b:Int):Ran p 1 167 [vf K3 (a,()), vf K3 (b,())] (rO K3 (mxI false a b,())):=go167 λn hn=>Ev.now λaA=>by
 unfold T167;rw[FH]
 by_cases h:a<b
 ·refine(aE h).trans ?_;rw[show min a b=a by omega]
 ·refine(aI h).trans ?_;rw[show min a b=b by omega]
theorem f148(ms:List aU)(h2:ms.length<=maxLen):Ran p 3 148 [vf K140 (ms,())] (rO K4 (fJ ms,())):=go148 λn hn=>by
 have inner:It (λaA (_:Unit)=>c148_2 (aK p n) aA ms) (0:Int) (λ_=>oB (fJ ms)):=by
  refine cO (It.allB ms.length (gE ms) true (λi hi aA a rec=>?_) (It.stop λaA a rec=>?_))
  ·have hb:i<9223372036854775807:=Nat.lt_of_lt_of_le hi h2
   show c148_2 (aK p n) aA ms rec (i:Int)=_
   unfold c148_2 gE;rw[aL hb];refine(aE (Int.ofNat_lt.2 hi)).trans ?_;refine bif_nn.trans ?_;refine(aH hi).trans ?_;refine(aB (f52 (gt ms i).1 n (by omega))).trans ?_;refine chk λ_=>?_
   cases i with
   | zero=>refine(aI (by decide)).trans ?_;refine bif_nn.trans ?_;refine(aH hi).trans ?_;refine(aB (f33 (gt ms 0).2.1 1 1000 n (by omega))).trans ?_;exact fin
   | succ j=>
    refine(aE (by omega)).trans ?_;refine bif_nn.trans ?_;refine(aH hi).trans ?_;rw[lL hb (by omega)];refine bif_nn.trans ?_;refine(aH (show j<ms.length by omega)).trans ?_;refine PY λ_=>?_
    refine bif_nn.trans ?_;refine(aH hi).trans ?_;refine(aB (f33 (gt ms (j+1)).2.1 1 1000 n (by omega))).trans ?_;exact fin
  ·show c148_2 (aK p n) aA ms rec (ms.length:Int)=_
   unfold c148_2;refine(aI (Int.lt_irrefl _)).trans ?_;rfl
 exact Ev.eq (λaA=>by unfold T148;rfl) (inner.ev (i:=()) rfl)
theorem f125(s:aJ)(hz:SzS s):Ran p 5 125 [va K34 s] (rO K140 (cX s,())):=go125 λn hn=>by
 have lp:It (λaA (_:Unit)=>c125_3 (aK p n) aA s) ((0:Int),([]:List aU)) (λ_=>rV K140 (cX s,())):=by
  refine It.accu (α:=aU) [] (kU s) 5 1 (λi _=>sN s i) (λi hi acc ha aA u rec=>?_) (It.stop λaA u rec=>?_)
  ·show c125_3 (aK p n) aA s rec ((i:Int),acc)=rec (((i+1:Nat):Int),acc++kU s i)
   have hb:acc.length+1<=bound+(1 - (kU s i).length):=by simp at ha;unfold bound;omega
   unfold c125_3 kU;dsimp only;rw[aL (show i<9223372036854775807 by omega)];refine(aE (show(i:Int)<5 by omega)).trans ?_;refine(aB (f149 s (i:Int) hz n (by omega))).trans ?_
   by_cases h:gone s i>0
   ·refine(aE h).trans ?_;refine(aE (by
     unfold kU at hb;rw[decide_eq_true h] at hb;exact hb)).trans ?_;rw[decide_eq_true h];rfl
   ·refine(aI h).trans ?_;rw[decide_eq_false h];show rec _=rec _;rw[show(bif false then[((i:Int),gone s i,())] else[])=([]:List aU)from rfl,List.append_nil];rfl
  ·show c125_3 (aK p n) aA s rec ((5:Int),cX s)=_
   unfold c125_3;dsimp only;refine(aI (Int.lt_irrefl _)).trans ?_;rfl
 exact Ev.eq (λaA=>by unfold T125;rfl) (lp.ev (i:=()) rfl)
theorem bH{α β:Type}[Inhabited α]{xs:List α}{i:Nat}{f:α->Option β}(h:i<xs.length):(at? xs i).bind f=f (gt xs i):=by
 rw[P6 h,cK h];rfl
theorem f200(v:List aO)(k m:Int)(hv:v.length<=aW):Ran p 2 200 [vf K44 (v,()), vf K3 (k,()), vf K3 (m,())] (rO K44 (cZ v k m,())):=go200 λn hn=>Ev.now λaA=>by
 unfold T200 cZ;refine(aE (hI hv)).trans ?_;refine(aB (f33 k 0 (i64.wrap ((v.length:Int) - 1)) n (by omega))).trans ?_
 cases hb:inB k 0 (i64.wrap ((v.length:Int) - 1))with
 | false=>rfl
 | true=>
  obtain⟨hk,e⟩:=yG hv hb
  refine(aM rfl).trans ?_;refine(aE (show(0:Int)<=k by omega)).trans ?_;refine(bH hk).trans ?_
  by_cases h:m>(gt v k.toNat).1
  ·refine(aE h).trans ?_;refine(aE (show(0:Int)<=k by omega)).trans ?_;refine(bH hk).trans ?_;refine(bH hk).trans ?_
   rw[rR,show max (gt v k.toNat).1 m=m by omega];rfl
  ·refine(aI h).trans ?_;rw[rR,show max (gt v k.toNat).1 m=(gt v k.toNat).1 by omega]
   show(rV K44 (v,()):Option Out)=rV K44 (v.set k.toNat (gt v k.toNat),())
   rw[sE]
theorem BQ{α:Type}(xs:List α)(i:Nat)(a b:α):(xs.set i a).set i b=xs.set i b:=by simp
theorem f124(t:List bQ)(k:Int)(ms:List aU)(h1:t.length<=aW)(h2:∀ i,i<t.length->(gt t i).1.length<=aW)(h3:ms.length<=aW):Ran p 4 124 [vf K50 (t,()), vf K3 (k,()), vf K140 (ms,())] (rO K50 (bO t k ms,())):=go124 λn hn=>by
 cases hb:inB k 0 (i64.wrap ((t.length:Int) - 1))with
 | false=>exact Ev.now λaA=>by show T124 (aK p n) aA t k ms=_;unfold T124;refine(aB (f111 t h1 h2 n (by omega))).trans ?_;refine(aB (f33 k 0 (i64.wrap ((t.length:Int) - 1)) n (by omega))).trans ?_;rw[hb,show bO t k ms=t by unfold bO pB;rw[hb];rfl];rfl
 | true=>
  obtain⟨hk,e⟩:=yG h1 hb
  cases hm:fJ ms with
  | false=>exact Ev.now λaA=>by show T124 (aK p n) aA t k ms=_;unfold T124;refine(aB (f111 t h1 h2 n (by omega))).trans ?_;refine(aB (f33 k 0 (i64.wrap ((t.length:Int) - 1)) n (by omega))).trans ?_;rw[hb];refine(aF rfl).trans ?_;refine(aB (f148 ms (aZ h3) n (by omega))).trans ?_;rw[hm,show bO t k ms=t by unfold bO pB;rw[hb,hm];rfl];rfl
  | true=>
   by_cases h5:(((gt t k.toNat).1.length:Nat):Int)<5
   ·exact Ev.now λaA=>by show T124 (aK p n) aA t k ms=_;unfold T124;refine(aB (f111 t h1 h2 n (by omega))).trans ?_;refine(aB (f33 k 0 (i64.wrap ((t.length:Int) - 1)) n (by omega))).trans ?_;rw[hb];refine(aF rfl).trans ?_;refine(aB (f148 ms (aZ h3) n (by omega))).trans ?_;rw[hm];refine(aF rfl).trans ?_;refine(aE (show(0:Int)<=k by omega)).trans ?_;refine(bH hk).trans ?_;refine(aE h5).trans ?_;rw[show bO t k ms=t by unfold bO pB;rw[hb,hm,decide_eq_true h5];rfl]
   ·have lp:It (λaA (_:Unit)=>c124_5 (aK p n) aA k ms) ((0:Int),t) (λ_=>rV K50 (bO t k ms,())):=by
     have h0:=C3 t k.toNat ms
     refine cast (congrArg (λz=>It (λaA (_:Unit)=>c124_5 (aK p n) aA k ms) ((0:Int),z) (λ_=>rV K50 (bO t k ms,()))) h0) ?_
     refine It.run (λi=>((i:Int),cP t k.toNat ms i)) ms.length (λi hi aA u rec=>?_) (It.stop λaA u rec=>?_)
     ·show c124_5 (aK p n) aA k ms rec ((i:Int),cP t k.toNat ms i)=rec (((i+1:Nat):Int),cP t k.toNat ms (i+1))
      have hd:=uD hm hi
      have hl:k.toNat<(cP t k.toNat ms i).length:=by unfold cP;rw[List.length_set];exact hk
      have hg:gt (cP t k.toNat ms i) k.toNat=kQ (gt t k.toNat) ms i:=cC hk _
      have hr:(gt ms i).1.toNat<(gt (cP t k.toNat ms i) k.toNat).1.length:=by rw[hg,nW];omega
      have hp:(0:Int)<=k:=by omega
      unfold c124_5;dsimp only;rw[aL (i63 hi h3)];refine(aE (Int.ofNat_lt.2 hi)).trans ?_;refine(aE hp).trans ?_;refine(bH hl).trans ?_;refine(bH hl).trans ?_;refine bif_nn.trans ?_;refine(aH hi).trans ?_;refine(aE hp).trans ?_;refine(bH hl).trans ?_;refine(bH hl).trans ?_;refine bif_nn.trans ?_;refine(aH hi).trans ?_;refine(aE hd.1).trans ?_;refine(bH hl).trans ?_;refine(bH hr).trans ?_;refine(bH hl).trans ?_;refine(bH hr).trans ?_;refine bif_nn.trans ?_;refine(aH hi).trans ?_
      refine(aB (f61 (gt (gt (cP t k.toNat ms i) k.toNat).1 (gt ms i).1.toNat).1 (gt ms i).2.1 n (by omega))).trans ?_;refine(aE hd.1).trans ?_;refine(bH hl).trans ?_;refine(bH hr).trans ?_;refine(bH hl).trans ?_;refine(bH hr).trans ?_
      refine congrArg (λz=>rec (((i+1:Nat):Int),z)) ?_
      show(cP t k.toNat ms i).set k.toNat (DD (gt (cP t k.toNat ms i) k.toNat) (gt ms i))=cP t k.toNat ms (i+1)
      rw[hg];exact BQ ..
     ·show c124_5 (aK p n) aA k ms rec ((ms.length:Int),cP t k.toNat ms ms.length)=_
      unfold c124_5;dsimp only;refine(aI (Int.lt_irrefl _)).trans ?_;rw[show bO t k ms=cP t k.toNat ms ms.length by unfold bO pB;rw[hb,hm,decide_eq_false h5];rfl]
    exact Ev.eq (λaA=>by unfold T124;refine(aB (f111 t h1 h2 n (by omega))).trans ?_;refine(aB (f33 k 0 (i64.wrap ((t.length:Int) - 1)) n (by omega))).trans ?_;rw[hb];refine(aF rfl).trans ?_;refine(aB (f148 ms (aZ h3) n (by omega))).trans ?_;rw[hm];refine(aF rfl).trans ?_;refine(aE (show(0:Int)<=k by omega)).trans ?_;refine(bH hk).trans ?_;exact aI h5) (lp.ev (i:=()) rfl)
end Go.Abs.Wz
namespace Go.Abs.Wz
open Go Go.Abs
theorem f168(t:List bQ)(id:Int)(h1:t.length<=aW)(h2:∀ i,i<t.length->(gt t i).1.length<=aW):Ran p 2 168 [vf K50 (t,()), vf K3 (id,())] (rO K3 (f7 t id,())):=go168 λn hn=>by
 have lp:It (λaA (_:Unit)=>c168_5 (aK p n) aA t id) ((0:Int),(0:Int)) (λ_=>oI (f7 t id)):=by
  refine cast ?_ (It.all (c:=λaA (_:Unit)=>c168_5 (aK p n) aA t id) (rA:=λ_=>oI (kC t id t.length)) (rB:=λ_=>oI 0) (λi=>(kC t id i,(i:Int))) t.length (qI t id) (λi hi aA u rec=>?_) (It.stop λaA u rec=>?_))
  ·congr 1;funext u;unfold f7;cases bL t.length (qI t id)<;>rfl
  ·show c168_5 (aK p n) aA t id rec (kC t id i,(i:Int))=bif qI t id i then rec (kC t id (i+1),((i+1:Nat):Int))else oI 0
   unfold c168_5 qI;dsimp only;rw[aL (i63 hi h1)];refine(aE (Int.ofNat_lt.2 hi)).trans ?_;refine bif_nn.trans ?_;refine(aH hi).trans ?_;refine(aB (f33 id 0 (i64.wrap ((((gt t i).1.length:Nat):Int) - 1)) n (by omega))).trans ?_
   cases hb:inB id 0 (i64.wrap ((((gt t i).1.length:Nat):Int) - 1))with
   | false=>rfl
   | true=>
    obtain⟨hk,e⟩:=yG (h2 i hi) hb
    have hp:(0:Int)<=id:=by omega
    refine(aF rfl).trans ?_
    show _=rec (bif(i:Int)==0 then _ else bif decide ((gt (gt t i).1 id.toNat).1<kC t id i)then _ else _,_)
    cases h0:(i:Int)==0 with
    | true=>refine(aM rfl).trans ?_;refine bif_nn.trans ?_;refine(aH hi).trans ?_;refine(aE hp).trans ?_;refine(bH hk).trans ?_;rfl
    | false=>
     refine(aF rfl).trans ?_;refine bif_nn.trans ?_;refine(aH hi).trans ?_;refine(aE hp).trans ?_;refine(bH hk).trans ?_
     by_cases hc:(gt (gt t i).1 id.toNat).1<kC t id i
     ·refine(aE hc).trans ?_;refine bif_nn.trans ?_;refine(aH hi).trans ?_;refine(aE hp).trans ?_;refine(bH hk).trans ?_;rw[decide_eq_true hc];rfl
     ·refine(aI hc).trans ?_;rw[decide_eq_false hc];rfl
  ·show c168_5 (aK p n) aA t id rec (kC t id t.length,(t.length:Int))=_
   unfold c168_5;dsimp only;refine(aI (Int.lt_irrefl _)).trans ?_;rfl
 cases h0:(t.length:Int)==0 with
 | false=>exact Ev.eq (λaA=>by unfold T168;exact aF h0) (lp.ev (i:=()) rfl)
 | true=>
  have e:f7 t id=0:=by
   have:t=[]:=List.length_eq_zero_iff.1 (by have:=eq_of_beq h0;omega)
   rw[this];rfl
  exact Ev.now λaA=>by rw[e];unfold T168;exact aM h0
theorem IC(s:aJ)(t:List bQ):Pos (fC s t):=((aV _).1 (qB s t)).pos
theorem f147(s:aJ)(t:List bQ)(hz:SzS s)(h1:t.length<=aW)(h2:∀ i,i<t.length->(gt t i).1.length<=aW):Ran p 5 147 [va K34 s, vf K50 (t,())] (rO K34 (prune s t)):=go147 λn hn=>by
 cases hs:aS s with
 | false=>exact Ev.now λaA=>by unfold T147;refine(aB (f25 s (aZ hz.a) (aZ hz.b) n (by omega))).trans ?_;rw[hs];refine(aM rfl).trans ?_;refine(aB (f80 s hz n (by omega))).trans ?_;unfold prune;rw[hs];rfl
 | true=>
  have lp:It (λaA (_:Unit)=>c147_5 (aK p n) aA s t) ((0:Int),([]:List aU)) (λ_=>rV K34 (prune s t)):=by
   refine It.accu (α:=aU) [] (iL s t) 5 1 (λi _=>sH s t i) (λi hi acc ha aA u rec=>?_) (It.stop λaA u rec=>?_)
   ·show c147_5 (aK p n) aA s t rec ((i:Int),acc)=rec (((i+1:Nat):Int),acc++iL s t i)
    have hb:acc.length+1<=bound+(1 - (iL s t i).length):=by simp at ha;unfold bound;omega
    unfold c147_5 iL;dsimp only;rw[aL (show i<9223372036854775807 by omega)];refine(aE (show(i:Int)<5 by omega)).trans ?_;refine(aB (f168 t (i:Int) h1 h2 n (by omega))).trans ?_;refine(aB (f149 s (i:Int) hz n (by omega))).trans ?_;refine(aB (f167 (f7 t i) (gone s i) n (by omega))).trans ?_
    by_cases h:mxI false (f7 t i) (gone s i)>0
    ·refine(aE h).trans ?_;refine(aE (by unfold iL at hb;rw[decide_eq_true h] at hb;exact hb)).trans ?_;rw[decide_eq_true h];rfl
    ·refine(aI h).trans ?_;rw[decide_eq_false h];show rec _=rec _;rw[show(bif false then[((i:Int),mxI false (f7 t i) (gone s i),())] else[])=([]:List aU)from rfl,List.append_nil];rfl
   ·show c147_5 (aK p n) aA s t rec ((5:Int),bR 5 (iL s t))=_
    unfold c147_5;dsimp only;refine(aI (Int.lt_irrefl _)).trans ?_;refine(aB (f32 s (fC s t) hz (F6 s t) ((aV s).1 hs).pos (IC s t) n (by omega))).trans ?_;unfold prune;rw[hs];rfl
  exact Ev.eq (λaA=>by unfold T147;refine(aB (f25 s (aZ hz.a) (aZ hz.b) n (by omega))).trans ?_;rw[hs];rfl) (lp.ev (i:=()) rfl)
theorem S2{x:NodeT}(hz:SzN x)(s:aJ):(tkS x s).length<=aW/\∀ i,i<(tkS x s).length->(gt (tkS x s) i).1.length<=aW:=⟨(lT hz s).seen,(lT hz s).lines⟩
structure TakeOk (x:NodeT):Prop where
 state:aS x.state=true
 rises:((x.rises.length:Int)==5)=true
theorem C2{x:NodeT}(h:NodeOk x):TakeOk x:=⟨h.state,h.rises⟩
theorem Q4{x:NodeT}{s:aJ}(h:TakeOk x)(hs:aS s=true){i:Nat}(hi:i<(tkP x s).1.length):0<=(gt (tkP x s).1 i).1/\(gt (tkP x s).1 i).1.toNat<(dI x.clock x.rises (tkP x s).1 i).length:=by
 have h1:=(((aV (tkP x s)).1 (zI (nK h.state hs) (tkS x s))).item _ (cJ hi)).1
 unfold eM at h1;rw[aP] at h1
 have h2:=eq_of_beq h.rises
 rw[gX];omega
theorem NH(c:Int)(rs:List jQ)(xs:List bK)(i:Nat):dI c rs xs (i+1)=bif pV (gt (dI c rs xs i) (gt xs i).1.toNat) (gt xs i).2 then(dI c rs xs i).set (gt xs i).1.toNat ((gt xs i).2.1,(gt xs i).2.2.2.1,c,())else dI c rs xs i:=by
 show(dI c rs xs i).set _ (mT c _ _)=_
 unfold mT
 cases pV (gt (dI c rs xs i) (gt xs i).1.toNat) (gt xs i).2 with
 | true=>rfl
 | false=>exact sE
theorem f123(x:NodeT)(s:aJ)(hz:SzN x)(hs':SzS s)(h:TakeOk x)(hs:aS s=true):Ran p 7 123 [va K54 x, va K34 s] (rO K54 (jG x s)):=go123 λn hn=>by
 have hj:=nJ x.state s
 have ht:=S2 hz s
 have hp:=MS x s
 have lp:It (λaA (_:Unit)=>c123_7 (aK p n) aA x ((x,()),()) (((tkS x s,()),()),()) ((tkP x s,()),()) ((cI (tkP x s),()),())) ((0:Int),x.rises) (λ_=>rV K54 (jG x s)):=by
  refine It.run (λi=>((i:Int),dI x.clock x.rises (tkP x s).1 i)) (tkP x s).1.length (λi hi aA u rec=>?_) (It.stop λaA u rec=>?_)
  ·show c123_7 (aK p n) aA x ((x,()),()) (((tkS x s,()),()),()) ((tkP x s,()),()) ((cI (tkP x s),()),()) rec ((i:Int),dI x.clock x.rises (tkP x s).1 i)=rec (((i+1:Nat):Int),dI x.clock x.rises (tkP x s).1 (i+1))
   obtain⟨h0,hl⟩:=Q4 h hs hi
   unfold c123_7;dsimp only;rw[aL (i63 hi hp.a),NH];unfold pV;refine(aE (Int.ofNat_lt.2 hi)).trans ?_;refine bif_nn.trans ?_;refine(aH hi).trans ?_;refine(aH hi).trans ?_;refine(aE h0).trans ?_;refine(bH hl).trans ?_;refine(bH hl).trans ?_
   by_cases h1:(gt (tkP x s).1 i).2.1>(gt (dI x.clock x.rises (tkP x s).1 i) (gt (tkP x s).1 i).1.toNat).1
   ·refine(aE h1).trans ?_;refine(aE h0).trans ?_;refine(bH hl).trans ?_;refine(bH hl).trans ?_;rw[decide_eq_true h1];rfl
   ·refine(aI h1).trans ?_;rw[decide_eq_false h1]
    cases h2:(gt (tkP x s).1 i).2.1==(gt (dI x.clock x.rises (tkP x s).1 i) (gt (tkP x s).1 i).1.toNat).1 with
    | false=>rfl
    | true=>
     refine(aM rfl).trans ?_
     by_cases h3:(gt (tkP x s).1 i).2.2.2.1>(gt (dI x.clock x.rises (tkP x s).1 i) (gt (tkP x s).1 i).1.toNat).2.1
     ·refine(aE h3).trans ?_;refine(aE h0).trans ?_;refine(bH hl).trans ?_;refine(bH hl).trans ?_;rw[decide_eq_true h3];rfl
     ·refine(aI h3).trans ?_;rw[decide_eq_false h3];rfl
  ·show c123_7 (aK p n) aA x ((x,()),()) (((tkS x s,()),()),()) ((tkP x s,()),()) ((cI (tkP x s),()),()) rec (((tkP x s).1.length:Int),dI x.clock x.rises (tkP x s).1 (tkP x s).1.length)=_
   unfold c123_7;dsimp only;refine(aI (Int.lt_irrefl _)).trans ?_;rfl
 exact Ev.eq (λaA=>by
  unfold T123;refine(aB (f78 x hz n (by omega))).trans ?_;refine(aB (f32 x.state s hz.state hs' ((aV _).1 h.state).pos ((aV _).1 hs).pos n (by omega))).trans ?_;refine(aB (f125 (dG x.state s) hj n (by omega))).trans ?_
  refine(aB (f124 x.seen x.1 (cX (dG x.state s)) hz.seen hz.lines (Nat.le_trans (fU _) (by decide)) n (by omega))).trans ?_;refine(aB (f147 (dG x.state s) (tkS x s) hj ht.1 ht.2 n (by omega))).trans ?_;refine(aB (f65 (tkP x s) hp n (by omega))).trans ?_;rfl) (lp.ev (i:=()) rfl)
end Go.Abs.Wz
namespace Go.Abs.Wz
open Go Go.Abs
theorem f186(v:List aO)(a b:Int)(hv:v.length<=aW):Ran p 2 186 [vf K44 (v,()), vf K3 (a,()), vf K3 (b,())] (rO K4 (pE v a b,())):=go186 λn hn=>by
 by_cases h:(v.length:Int)>a
 ·exact Ev.now λaA=>by unfold T186 pE;rw[decide_eq_true h];exact aE h
 ·have lp:It (λaA (_:Unit)=>c186_4 (aK p n) aA v b) (0:Int) (λ_=>oB (nC v b)):=by
   refine cO (It.allB v.length (λi=>inB (gt v i).1 0 b) true (λi hi aA u rec=>?_) (It.stop λaA u rec=>?_))
   ·show c186_4 (aK p n) aA v b rec (i:Int)=_
    unfold c186_4;rw[aL (i63 hi hv)];refine(aE (Int.ofNat_lt.2 hi)).trans ?_;refine bif_nn.trans ?_;refine(aH hi).trans ?_;refine(aB (f33 (gt v i).1 0 b n (by omega))).trans ?_;exact fin
   ·show c186_4 (aK p n) aA v b rec (v.length:Int)=_
    unfold c186_4;refine(aI (Int.lt_irrefl _)).trans ?_;rfl
  have e:pE v a b=nC v b:=by unfold pE;rw[decide_eq_false h];rfl
  rw[e]
  exact Ev.eq (λaA=>by unfold T186;exact aI h) (lp.ev (i:=()) rfl)
theorem f185(t:kX)(ht:t.1.length<=aW):Ran p 3 185 [va K46 t] (rO K4 (treeB t,())):=go185 λn hn=>Ev.now λaA=>by
 unfold T185 treeB
 cases h0:(t.1.length:Int)==0 with
 | true=>exact aM h0
 | false=>
  refine(aF h0).trans ?_
  cases h4:(t.1.length:Int)==4 with
  | false=>exact aF h4
  | true=>
   refine(aM h4).trans ?_;refine(aB (f186 t.1 4 1023 ht n (by omega))).trans ?_
   have e:pE t.1 4 1023=nC t.1 1023:=by unfold pE;rw[decide_eq_false (by have:=eq_of_beq h4;omega)];rfl
   rw[e]
   cases nC t.1 1023 with
   | false=>rfl
   | true=>refine(aM rfl).trans ?_;refine(aB (f33 t.2.1 0 1023 n (by omega))).trans ?_;rfl
theorem f176(m:MsgT)(hz:SzM m):Ran p 4 176 [va K143 m] (rO K4 (eX m,())):=go176 λn hn=>by
 have lp:It (λaA (_:Unit)=>c176_6 (aK p n) aA m) (1:Int) (λ_=>oB (bL (m.leaves.length - 1) (FQ m.leaves))):=by
  have:=It.all (c:=λaA (_:Unit)=>c176_6 (aK p n) aA m) (rA:=λ_=>oB true) (rB:=λ_=>oB false) (λi=>(((i+1:Nat)):Int)) (m.leaves.length - 1) (FQ m.leaves) (λi hi aA u rec=>by
   have hi1:i+1<m.leaves.length:=by omega
   have hl:=hz.list
   show c176_6 (aK p n) aA m rec (((i+1:Nat)):Int)=_
   unfold c176_6;rw[aL (i63 hi1 hl)];refine(aE (Int.ofNat_lt.2 hi1)).trans ?_;refine bif_nn.trans ?_;refine(aH hi1).trans ?_;rw[lL (i63 hi1 hl) (by omega)];refine bif_nn.trans ?_;refine(aH (show i<m.leaves.length by omega)).trans ?_;exact II) (It.stop λaA u rec=>by
   show c176_6 (aK p n) aA m rec (((m.leaves.length - 1+1:Nat)):Int)=_
   unfold c176_6;refine(aI (show ¬ (((m.leaves.length - 1+1:Nat)):Int)<(m.leaves.length:Int) by omega)).trans ?_;rfl)
  refine cast ?_ this
  congr 1;funext u;exact TJ
 rw[<- JK]
 have key:∃ N,∀ aA,N<=aA->T176 (aK p n) aA m=oB (zS m):=by
  obtain⟨N,hN⟩:=lp.all_i
  refine⟨N,λaA hf=>?_⟩
  unfold T176 zS
  refine(aB (f33 m.1 0 5 n (by omega))).trans ?_;refine dE λ_=>?_;refine(aB (f52 m.2.1 n (by omega))).trans ?_;refine dE λ_=>?_;refine(aB (f52 m.2.2.1 n (by omega))).trans ?_;refine dE λ_=>?_;refine uU λ_=>?_;refine(aB (f33 m.2.2.2.1 0 100000 n (by omega))).trans ?_;refine dE λ_=>?_;refine(aB (f33 m.hi 0 100000 n (by omega))).trans ?_;refine dE λ_=>?_
  refine(aB (f185 m.tree hz.leaves n (by omega))).trans ?_;refine dE λ_=>?_;refine(aB (f186 m.vec 5 100000 hz.vec n (by omega))).trans ?_;refine dE λ_=>?_;refine(aB (f186 m.leaves 4 3 hz.list n (by omega))).trans ?_;refine dE λ_=>?_;refine(aB (f25 m.part (aZ hz.part.a) (aZ hz.part.b) n (by omega))).trans ?_;refine dE λ_=>?_;refine(aB (f148 m.marks (aZ hz.marks) n (by omega))).trans ?_;refine dE λ_=>?_
  exact hN aA hf ()
 exact key
theorem G3{n:Nat}{seq:Int}{l:f8}(h:jX l seq=true):i64.wrap (seq - l.2.1)=((dW l seq:Nat):Int):=by
 have:=y7 h;rw[IntKind.wrap_i64];omega
theorem f184(l:f8)(seq:Int)(hl:l.2.2.1.length<=aW)(hs:∀ i,i<l.2.2.1.length->SzS (gt l.2.2.1 i)):Ran p 5 184 [va K49 l, vf K3 (seq,())] ⟨[⟨K34,lY l seq⟩,⟨K4,(jX l seq,())⟩],[]⟩:=go184 λn hn=>by
 cases hb:jX l seq with
 | false=>
  exact Ev.now λaA=>by
   unfold T184 lY;rw[hb];refine(aB (f66 l hl hs n (by omega))).trans ?_
   cases h1:gR l with
   | false=>rfl
   | true=>refine(aF rfl).trans ?_;refine(aB (f33 seq l.2.1 (i64.wrap (l.2.1+(l.2.2.1.length:Int))) n (by omega))).trans ?_;unfold jX at hb;rw[h1] at hb;rw[show inB seq l.2.1 (i64.wrap (l.2.1+(l.2.2.1.length:Int)))=false from hb];rfl
 | true=>
  have hk:=y7 hb
  have hb':=hb
  unfold jX at hb';rw[Bool.and_eq_true] at hb'
  have lp:It (λaA (_:Unit)=>c184_5 (aK p n) aA l) (((dW l seq:Nat):Int),([]:List bK),([]:List aU)) (λ_=>some ⟨[⟨K34,lY l seq⟩,⟨K4,(true,())⟩],[]⟩):=by
   refine It.run (λi=>(((dW l seq+i:Nat):Int),(jI l.2.2.1 (dW l seq) i).1,(jI l.2.2.1 (dW l seq) i).2.1)) (l.2.2.1.length - dW l seq) (λi hi aA u rec=>?_) (It.stop λaA u rec=>?_)
   ·have hi1:dW l seq+i<l.2.2.1.length:=by omega
    have o1:=(aV _).1 (sD hb'.1 (dW l seq) i (by omega))
    have o2:=(aV _).1 (show aS (gt l.2.2.1 (dW l seq+i))=true by have h1:=hb'.1;unfold gR at h1;simp only[Bool.and_eq_true] at h1;exact bI.1 h1.2.2.2.2 _ hi1)
    show c184_5 (aK p n) aA l rec (((dW l seq+i:Nat):Int),(jI l.2.2.1 (dW l seq) i).1,(jI l.2.2.1 (dW l seq) i).2.1)=_
    unfold c184_5;dsimp only;rw[aL (i63 hi1 hl)];refine(aE (Int.ofNat_lt.2 hi1)).trans ?_;refine bif_nn.trans ?_;refine(aH hi1).trans ?_;refine(aB (f32 (jI l.2.2.1 (dW l seq) i) (gt l.2.2.1 (dW l seq+i)) (y8 _ _ _) (hs _ hi1) o1.pos o2.pos n (by omega))).trans ?_;rfl
   ·show c184_5 (aK p n) aA l rec (((dW l seq+(l.2.2.1.length - dW l seq):Nat):Int),(jI l.2.2.1 (dW l seq) (l.2.2.1.length - dW l seq)).1,(jI l.2.2.1 (dW l seq) (l.2.2.1.length - dW l seq)).2.1)=_
    unfold c184_5;dsimp only;refine(aI (show ¬ ((dW l seq+(l.2.2.1.length - dW l seq):Nat):Int)<(l.2.2.1.length:Int) by omega)).trans ?_;unfold lY;rw[hb];rfl
  exact Ev.eq (λaA=>by unfold T184;refine(aB (f66 l hl hs n (by omega))).trans ?_;rw[hb'.1];refine(aF rfl).trans ?_;refine(aB (f33 seq l.2.1 (i64.wrap (l.2.1+(l.2.2.1.length:Int))) n (by omega))).trans ?_;rw[hb'.2];refine(aF rfl).trans ?_;rw[G3 (n:=0) hb];rfl) (lp.ev (i:=()) rfl)
theorem f175(x:NodeT)(seq:Int)(hz:SzN x):Ran p 6 175 [va K54 x, vf K3 (seq,())] ⟨[⟨K34,rK x seq⟩,⟨K4,(jX x.log seq,())⟩],[]⟩:=go175 λn hn=>Ev.now λaA=>by
 unfold T175 rK;refine(bE (f184 x.log seq hz.list hz.logs n (by omega))).trans ?_
 cases jX x.log seq with
 | true=>rfl
 | false=>refine(aF rfl).trans ?_;refine(aB (f80 x.state hz.state n (by omega))).trans ?_;rfl
theorem M4{s:aJ}(h:aS s=true):s.1.length<=1000/\s.2.1.length<=1000:=by have:=((aV s).1 h).len;omega
theorem f197(x:NodeT)(ls:List aO)(seq:Int)(hz:SzN x)(h:NodeOk x)(hl:ls.length<=aW):Ran p 7 197 [va K54 x, vf K44 (ls,()), vf K3 (seq,())] (rO K34 (FB x ls seq)):=go197 λn hn=>Ev.now λaA=>by
 have hm:=M4 h.state
 unfold T197;refine(bE (f175 x seq hz n (by omega))).trans ?_;refine(aB (f136 x.state ls (aZ hl) hm.1 hm.2 n (by omega))).trans ?_;refine(aB (f32 (jH x.state ls) (rK x seq) (M5 hz.state ls) (ET hz seq) ((aV _).1 (M6 h.state ls)).pos ((aV _).1 (M9 h seq)).pos n (by omega))).trans ?_;rfl
end Go.Abs.Wz
set_option maxHeartbeats 2000000
namespace Go.Abs.Wz
open Go Go.Abs
theorem LP(ls:List aO):(aN (ls.length:Int)++bR ls.length λi=>aN (gt ls i).1)=eN ls:=by
 unfold eN cU;rw[cF (λx:aO=>aN x.1) ls]
theorem f187(ls:List aO)(hl:ls.length<=100):Ran p 3 187 [vf K44 (ls,())] (rO K22 (eN ls,())):=go187 λn hn=>by
 have hp:=bC (ls.length:Int)
 have lp:It (λaA (_:Unit)=>c187_3 (aK p n) aA ls) ((0:Int),aN (ls.length:Int)) (λ_=>oL (eN ls)):=by
  refine It.accu (α:=aO) (aN (ls.length:Int)) (λi=>aN (gt ls i).1) ls.length 5 (λi hi=>bC _) (λi hi acc ha aA a rec=>?_) (It.stop λaA a rec=>?_)
  ·replace ha:acc.length+(aN (gt ls i).1).length<=(aN (ls.length:Int)).length+ls.length*5:=ha
   show c187_3 (aK p n) aA ls rec ((i:Int),acc)=_
   unfold c187_3;dsimp only;rw[aL (show i<9223372036854775807 by omega)];refine(aE (Int.ofNat_lt.2 hi)).trans ?_;refine bif_nn.trans ?_;refine(aH hi).trans ?_;refine(aB (f137 (gt ls i).1 n (by omega))).trans ?_;refine(aE (by show acc.length+(aN (gt ls i).1).length<=4294967296;omega)).trans ?_;rfl
  ·show c187_3 (aK p n) aA ls rec ((ls.length:Int),aN (ls.length:Int)++bR ls.length λi=>aN (gt ls i).1)=_
   unfold c187_3;refine(aI (Int.lt_irrefl _)).trans ?_;exact congrArg oL (LP ls)
 exact Ev.eq (λaA=>by unfold T187;refine(aB (f137 (ls.length:Int) n (by omega))).trans ?_;rfl) (lp.ev (i:=()) rfl)
theorem f178(b:List aO)(hb:ByL b)(hl:b.length<=aW):Ran p 2 178 [vf K22 (b,())] (rO K22 (y3 b,())):=go178 λn hn=>Ev.now λaA=>by
 have h:=PR hb
 unfold T178;refine(aB (f134 b (Nat.le_trans hl (by decide)) n (by omega))).trans ?_;refine(aI (by decide)).trans ?_;refine(aI (by decide)).trans ?_;refine(aI (by decide)).trans ?_;refine(aI (by decide)).trans ?_;refine(aI (by decide)).trans ?_;refine(aI (by decide)).trans ?_;exact congrArg oL (MZ h.2 h.1)
-- the body of a message, as both write it
def uQ(m:MsgT):List aO:=rk2++cU (fP m)++eN m.tree.1++aN m.tree.2.1++eN m.vec++eN m.leaves++aN (((bS m.part).length:Nat):Int)
theorem P3(m:MsgT):uQ m++bS m.part++aN (m.marks.length:Int)++m.marks.flatMap bD=fI m:=by
 unfold uQ fI rS;simp only[List.append_assoc]
structure BodyL (m:MsgT):Prop where
 h5:(cU (fP m)).length<=25
 a:(eN m.tree.1).length<=25
 b:(aN m.tree.2.1).length<=5
 c:(eN m.vec).length<=30
 d:(eN m.leaves).length<=25
 e:(aN (((bS m.part).length:Nat):Int)).length<=5
 f:(bS m.part).length<=250
 g:(aN (m.marks.length:Int)).length<=5
 k:m.marks.length<=5
theorem vK(ls:List aO):(eN ls).length<=5+ls.length*5:=by
 have h1:=bC (ls.length:Int);have h2:=lQ ls
 unfold eN;rw[List.length_append];omega
theorem UW{m:MsgT}(h:MsgR m):BodyL m:=by
 have h1:=vK m.tree.1;have h2:=vK m.vec;have h3:=vK m.leaves
 have l1:=h.tree.1;have l2:=h.vec.1;have l3:=h.leaves.1
 exact⟨lQ (fP m),by omega,bC _,by omega,by omega,bC _,nS ((aV _).1 h.part),bC _,h.marks.1⟩
theorem f177(m:MsgT)(h:eX m=true):Ran p 5 177 [va K143 m] (rO K22 (fI m,())):=go177 λn hn=>by
 have hr:=qX h
 have L:=UW hr
 have l1:=L.h5;have l2:=L.a;have l3:=L.b;have l4:=L.c;have l5:=L.d;have l6:=L.e;have l7:=L.f;have l8:=L.g;have l9:=L.k
 have t1:=hr.tree.1;have t2:=hr.vec.1;have t3:=hr.leaves.1
 have l0:rk2.length=2:=rfl
 have hok:StateOk m.part:=(aV _).1 hr.part
 have mk:∀ pre:List aO,pre.length<=1000->It (λaA (_:Unit)=>c177_16 (aK p n) aA m) ((0:Int),pre) (λ_=>oL (pre++m.marks.flatMap bD)):=by
  intro pre hp
  refine It.accu (α:=aO) pre (λi=>bD (gt m.marks i)) m.marks.length 10 (λi hi=>hO _) (λi hi acc ha aA a rec=>?_) (It.stop λaA a rec=>?_)
  ·have ha':acc.length+(bD (gt m.marks i)).length<=1050:=by omega
   unfold bD at ha';rw[List.length_append] at ha'
   show c177_16 (aK p n) aA m rec ((i:Int),acc)=_
   unfold c177_16;dsimp only;rw[aL (show i<9223372036854775807 by omega)];refine(aE (Int.ofNat_lt.2 hi)).trans ?_;refine bif_nn.trans ?_;refine(aH hi).trans ?_;refine(aB (f137 (gt m.marks i).1 n (by omega))).trans ?_;refine(aE (by show acc.length+(aN (gt m.marks i).1).length<=4294967296;omega)).trans ?_;refine bif_nn.trans ?_;refine(aH hi).trans ?_;refine(aB (f137 (gt m.marks i).2.1 n (by omega))).trans ?_
   refine(aE (by show(acc++aN (gt m.marks i).1).length+(aN (gt m.marks i).2.1).length<=4294967296;rw[List.length_append];omega)).trans ?_
   exact congrArg (λl:List aO=>rec (((i+1:Nat):Int),l)) (List.append_assoc _ _ _)
  ·show c177_16 (aK p n) aA m rec ((m.marks.length:Int),pre++bR m.marks.length λi=>bD (gt m.marks i))=_
   unfold c177_16;refine(aI (Int.lt_irrefl _)).trans ?_;exact congrArg (λl:List aO=>oL (pre++l)) (cF bD m.marks)
 have body0:=mk (uQ m++bS m.part++aN (m.marks.length:Int)) (by unfold uQ;simp only[List.length_append];dsimp only[MsgT.tree] at*;omega)
 rw[P3] at body0
 have lp:It (λaA (_:Unit)=>c177_4 (aK p n) aA m) ((0:Int),rk2) (λ_=>oL (fI m)):=by
  refine It.accu (α:=aO) rk2 (λi=>aN (gt (fP m) i).1) 5 5 (λi hi=>bC _) (λi hi acc ha aA a rec=>?_)
   (It.stopE (T:=λaA _=>iter (c177_16 (aK p n) aA m) aA ((0:Int),uQ m++bS m.part++aN (m.marks.length:Int))) (λaA a rec=>?_) body0.all_i)
  ·replace ha:acc.length+(aN (gt (fP m) i).1).length<=2+5*5:=ha
   have hi5:i<(fP m).length:=hi
   show c177_4 (aK p n) aA m rec ((i:Int),acc)=_
   unfold c177_4;dsimp only;rw[aL (show i<9223372036854775807 by omega)];refine(aE (Int.ofNat_lt.2 hi5)).trans ?_;refine bif_nn.trans ?_;refine(aH hi5).trans ?_;refine(aH hi5).trans ?_;refine(aB (f137 (gt (fP m) i).1 n (by omega))).trans ?_;refine(aE (by show acc.length+(aN (gt (fP m) i).1).length<=4294967296;omega)).trans ?_;rfl
  ·have e0:(rk2++bR 5 λi=>aN (gt (fP m) i).1)=rk2++cU (fP m):=congrArg (λl=>rk2++l) (cF (λx:aO=>aN x.1) (fP m))
   show c177_4 (aK p n) aA m rec (((5:Nat):Int),rk2++bR 5 λi=>aN (gt (fP m) i).1)=_
   rw[e0]
   have b1:(rk2++cU (fP m)).length+(eN m.tree.1).length<=bound:=by unfold bound;simp only[List.length_append];dsimp only[MsgT.tree] at*;omega
   have b2:(rk2++cU (fP m)++eN m.tree.1).length+(aN m.tree.2.1).length<=bound:=by unfold bound;simp only[List.length_append];dsimp only[MsgT.tree] at*;omega
   have b3:(rk2++cU (fP m)++eN m.tree.1++aN m.tree.2.1).length+(eN m.vec).length<=bound:=by unfold bound;simp only[List.length_append];dsimp only[MsgT.tree] at*;omega
   have b4:(rk2++cU (fP m)++eN m.tree.1++aN m.tree.2.1++eN m.vec).length+(eN m.leaves).length<=bound:=by unfold bound;simp only[List.length_append];dsimp only[MsgT.tree] at*;omega
   have b5:(rk2++cU (fP m)++eN m.tree.1++aN m.tree.2.1++eN m.vec++eN m.leaves).length+(aN (((bS m.part).length:Nat):Int)).length<=bound:=by unfold bound;simp only[List.length_append];dsimp only[MsgT.tree] at*;omega
   have b6:(uQ m).length+(bS m.part).length<=bound:=by unfold bound uQ;simp only[List.length_append];dsimp only[MsgT.tree] at*;omega
   have b7:(uQ m++bS m.part).length+(aN (m.marks.length:Int)).length<=bound:=by unfold bound uQ;simp only[List.length_append];dsimp only[MsgT.tree] at*;omega
   unfold c177_4;dsimp only;refine(aI (show ¬ ((5:Int)<5) by decide)).trans ?_;refine(aB (f187 m.tree.1 (by omega) n (by omega))).trans ?_;refine(aE b1).trans ?_;refine(aB (f137 m.tree.2.1 n (by omega))).trans ?_;refine(aE b2).trans ?_;refine(aB (f187 m.vec (by omega) n (by omega))).trans ?_;refine(aE b3).trans ?_;refine(aB (f187 m.leaves (by omega) n (by omega))).trans ?_;refine(aE b4).trans ?_;refine(aB (f135 m.part hok n (by omega))).trans ?_;refine(aB (f137 (((bS m.part).length:Nat):Int) n (by omega))).trans ?_;refine(aE b5).trans ?_;refine(aE b6).trans ?_;refine(aB (f137 (m.marks.length:Int) n (by omega))).trans ?_;refine(aE b7).trans ?_;rfl
 exact Ev.eq (λaA=>by unfold T177;rfl) (lp.ev (i:=()) rfl)
theorem FK{m:MsgT}(h:eX m=false):bP m=[]:=by unfold bP;rw[h];rfl
theorem f164(m:MsgT)(hz:SzM m):Ran p 6 164 [va K143 m] (rO K22 (bP m,())):=go164 λn hn=>Ev.now λaA=>by
 unfold T164;refine(aB (f176 m hz n (by omega))).trans ?_
 cases h:eX m with
 | false=>refine(aM rfl).trans ?_;rw[FK h];rfl
 | true=>
  have hl:=GH (qX h)
  have hb:(fI m).length+(y3 (fI m)).length<=bound:=by rw[y2];unfold bound;omega
  rw[p8 h];refine(aF rfl).trans ?_;refine(aB (f177 m h n (by omega))).trans ?_;refine(aB (f178 (fI m) (AW m) (Nat.le_trans hl (by decide)) n (by omega))).trans ?_;refine(aE hb).trans ?_;rfl
end Go.Abs.Wz
namespace Go.Abs.Wz
open Go Go.Abs
theorem f201(a b:kX):Ran p 1 201 [va K46 a, va K46 b] (rO K44 (lZ a b,())):=go201 λn hn=>by
 cases h0:a.2.1==b.2.1 with
 | true=>exact Ev.now λaA=>by unfold T201 lZ;rw[h0];exact aM rfl
 | false=>
  have lp:It (λaA (_:Unit)=>c201_5 (aK p n) aA a b) ((0:Int),([]:List aO)) (λ_=>rV K44 (bR 4 (kD a b),())):=by
   refine It.accu (α:=aO) [] (kD a b) 4 1 (λi _=>xJ a b i) (λi hi acc ha aA u rec=>?_) (It.stop λaA u rec=>?_)
   ·show c201_5 (aK p n) aA a b rec ((i:Int),acc)=rec (((i+1:Nat):Int),acc++kD a b i)
    have hb:acc.length+1<=bound+(1 - (kD a b i).length):=by simp at ha;unfold bound;omega
    unfold c201_5;dsimp only;rw[aL (show i<9223372036854775807 by omega)];refine(aE (show(i:Int)<4 by omega)).trans ?_
    unfold kD at hb ⊢
    cases h1:(a.1.length:Int) != 4 with
    | true=>refine(aM h1).trans ?_;refine(aE (by rw[h1] at hb;exact hb)).trans ?_;rfl
    | false=>
     refine(aF h1).trans ?_
     cases h2:(b.1.length:Int) != 4 with
     | true=>refine(aM h2).trans ?_;refine(aE (by rw[h1,h2] at hb;exact hb)).trans ?_;rfl
     | false=>
      have e1:a.1.length=4:=by rw[bne_eq_false_iff_eq] at h1;omega
      have e2:b.1.length=4:=by rw[bne_eq_false_iff_eq] at h2;omega
      refine(aF h2).trans ?_;refine bif_nn.trans ?_;refine(aH (show i<a.1.length by omega)).trans ?_;refine bif_nn.trans ?_;refine(aH (show i<b.1.length by omega)).trans ?_
      cases h3:(gt a.1 i).1 != (gt b.1 i).1 with
      | true=>refine(aM rfl).trans ?_;refine(aE (by rw[h1,h2,h3] at hb;exact hb)).trans ?_;rfl
      | false=>refine(aF rfl).trans ?_;show rec _=rec _;rw[show(bif false then[((i:Int),())] else bif false then[((i:Int),())] else bif false then[((i:Int),())] else[])=([]:List aO)from rfl,List.append_nil];rfl
   ·show c201_5 (aK p n) aA a b rec ((4:Int),bR 4 (kD a b))=_
    unfold c201_5;dsimp only;refine(aI (Int.lt_irrefl _)).trans ?_;rfl
  have e:lZ a b=bR 4 (kD a b):=by unfold lZ;rw[h0];rfl
  rw[e]
  exact Ev.eq (λaA=>by unfold T201;exact aF h0) (lp.ev (i:=()) rfl)
theorem f151(nd:NodeT)(x:Int)(b:Bool)(hv:nd.sess.length<=aW):Ran p 1 151 [va K54 nd, vf K3 (x,()), vf K4 (b,())] (rO K3 (c6 nd.sess x b,())):=go151 λn hn=>by
 have key:∀ {i:Nat} {α:Type} {X R:α},(bif(gt nd.sess i).1==x then(bif nU (gt nd.sess i).2.2.1 b then X else R)else R)=bif dQ nd.sess i x b then X else R:=two
 have lp:It (λaA (_:Unit)=>c151_2 (aK p n) aA nd x b) (0:Int) (λ_=>oI (c6 nd.sess x b)):=by
  have:=It.first (c:=λaA (_:Unit)=>c151_2 (aK p n) aA nd x b) (λi=>(i:Int)) nd.sess.length (λi=>dQ nd.sess i x b) (λi _=>oI (i:Int)) (λ_=>oI (-1)) (λi hi hp aA a rec=>?_) (λi hi hp=>It.stop λaA a rec=>?_) (It.stop λaA a rec=>?_)
  ·revert this;unfold c6
   cases (List.range nd.sess.length).find? (λi=>dQ nd.sess i x b)<;>exact λh=>h
  ·have hb:=bU hi hv
   show c151_2 (aK p n) aA nd x b rec (i:Int)=_
   unfold c151_2;rw[aL hb];refine(aE (Int.ofNat_lt.2 hi)).trans ?_;refine bif_nn.trans ?_;refine(aH hi).trans ?_
   unfold dQ at hp
   cases h1:(gt nd.sess i).1==x with
   | false=>exact aF rfl
   | true=>refine(aM rfl).trans ?_;refine bif_nn.trans ?_;refine(aH hi).trans ?_;rw[h1] at hp;exact aF hp
  ·show c151_2 (aK p n) aA nd x b rec (i:Int)=_
   unfold c151_2;refine(aE (Int.ofNat_lt.2 hi)).trans ?_;refine bif_nn.trans ?_;refine(aH hi).trans ?_
   unfold dQ at hp;rw[Bool.and_eq_true] at hp
   refine(aM hp.1).trans ?_;refine bif_nn.trans ?_;refine(aH hi).trans ?_;exact aM hp.2
  ·show c151_2 (aK p n) aA nd x b rec (nd.sess.length:Int)=_
   unfold c151_2;refine(aI (Int.lt_irrefl _)).trans ?_;rfl
 exact Ev.eq (λaA=>by unfold T151;rfl) (lp.ev (i:=()) rfl)
theorem f152(x:NodeT)(k to num:Int)(hz:SzN x):Ran p 6 152 [va K54 x, vf K3 (k,()), vf K3 (to,()), vf K3 (num,())] (rO K143 (RQ x k to num)):=go152 λn hn=>Ev.now λaA=>by
 unfold T152;refine(aB (f68 x.log hz.list hz.logs n (by omega))).trans ?_;refine(aE (hI hz.got)).trans ?_;refine(aB (f125 x.state hz.state n (by omega))).trans ?_;rfl
structure Hears (x:NodeT) (m:MsgT):Prop where
 szn:SzN x
 szm:SzM m
 node:NodeOk x
 id:0<=x.1
 vec:x.1.toNat<m.vec.length
theorem f193(x:NodeT)(m:MsgT)(h:Hears x m):Ran p 8 193 [va K54 x, va K143 m] (rO K54 (eF x m)):=go193 λn hn=>Ev.now λaA=>by
 unfold T193;refine(aB (f78 x h.szn n (by omega))).trans ?_;refine(aE h.id).trans ?_;refine(bH h.vec).trans ?_;refine(aB (f68 x.log h.szn.list h.szn.logs n (by omega))).trans ?_;refine(aB (f167 (gt m.vec x.1.toNat).1 (cE x.log) n (by omega))).trans ?_;refine(aB (f200 x.acked m.2.1 (mxI false (gt m.vec x.1.toNat).1 (cE x.log)) h.szn.acked n (by omega))).trans ?_;refine(aB (f124 x.seen m.2.1 m.marks h.szn.seen h.szn.lines h.szm.marks n (by omega))).trans ?_;refine(aB (f123 (heard0 x m) iM (CF h.szn m) kA (C2 (h.node.heard0 m)) yD n (by omega))).trans ?_;rfl
theorem f192(x:NodeT)(m:MsgT)(h:Hears x m)(hp:aS m.part=true):Ran p 9 192 [va K54 x, va K143 m] (rO K54 (eB x m)):=go192 λn hn=>Ev.now λaA=>by
 have hs:=lT (lP h.szn m) m.part
 unfold T192;refine(aB (f193 x m h n (by omega))).trans ?_;refine(aB (f123 (eF x m) m.part (lP h.szn m) h.szm.part (C2 (h.node.heard m)) hp n (by omega))).trans ?_;refine(aB (f200 (jG (eF x m) m.part).got m.2.1 m.hi hs.got n (by omega))).trans ?_;rfl
end Go.Abs.Wz
namespace Go.Abs.Wz
open Go Go.Abs
theorem f195(x:NodeT)(m:MsgT)(b:Bool)(hv:x.sess.length<=aW):Ran p 2 195 [va K54 x, va K143 m, vf K4 (b,())] (rO K3 (rU x m b,())):=go195 λn hn=>Ev.now λaA=>by
 unfold T195 rU;refine(aB (f151 x m.2.1 b hv n (by omega))).trans ?_
 rcases hX x.sess m.2.1 b with ⟨k,hk,e,_⟩ | ⟨e,_⟩<;>rw[e]
 ·refine bif_nn.trans ?_;refine bif_nn.trans ?_;refine(aH hk).trans ?_;rw[decide_eq_true (show((k:Nat):Int)>=0 by omega),Int.toNat_natCast]
  cases (gt x.sess k).2.1 != m.2.2.2.1<;>rfl
 ·rfl
theorem f196(x:NodeT)(k:Nat)(hz:SzN x)(hk:k<x.sess.length):Ran p 4 196 [va K54 x, vf K3 ((k:Int),())] (rO K54 (kN x k)):=go196 λn hn=>Ev.now λaA=>by
 rw[<- NO hk hz.sess]
 unfold T196;refine(aB (f78 x hz n (by omega))).trans ?_;exact PO hk hz.sess
theorem Hears.of{x:NodeT}{m:MsgT}(hz:SzN x)(hm:SzM m)(h:RecOk x m):Hears x m:=
 ⟨hz,hm,h.node,h.idn.1,by have h1:=h.idn;have h2:=h.vec;omega⟩
theorem QP{x:NodeT}{k:Nat}(hk:k<x.sess.length)(num:Int):(x.sess.set k ((gt x.sess k).1,num,(gt x.sess k).2.2)).set k ((gt (x.sess.set k ((gt x.sess k).1,num,(gt x.sess k).2.2)) k).1,(gt (x.sess.set k ((gt x.sess k).1,num,(gt x.sess k).2.2)) k).2.1,(gt (x.sess.set k ((gt x.sess k).1,num,(gt x.sess k).2.2)) k).2.2.1,(0:Int),(gt (x.sess.set k ((gt x.sess k).1,num,(gt x.sess k).2.2)) k).2.2.2.2)=oJ x k num:=by
 rw[cC hk,BQ];rfl
theorem UH{x:NodeT}{m:MsgT}{k:Nat}(e:c6 x.sess m.2.1 true=(k:Int)):lC x m=false/\hU x m=oJ x k m.2.2.2.1:=by
 unfold lC hU;rw[e,decide_eq_true (show((k:Nat):Int)>=0 by omega)];exact⟨rfl,by rw[Int.toNat_natCast];rfl⟩
theorem UG{x:NodeT}{m:MsgT}(e:c6 x.sess m.2.1 true= -1):lC x m=((x.sess.length:Int)==x.slots)/\hU x m=lH x m:=by
 unfold lC hU;rw[e];exact⟨rfl,rfl⟩
theorem f194(x:NodeT)(m:MsgT)(hz:SzN x)(hm:SzM m)(R:RecOk x m):Ran p 9 194 [va K54 x, va K143 m] ⟨[⟨K54,(oG x m).1⟩,⟨K191,((oG x m).2.1,())⟩,⟨K3,((oG x m).2.2,())⟩],[]⟩:=go194 λn hn=>Ev.now λaA=>by
 have h0:=R.idn.1
 have hv:x.1.toNat<m.vec.length:=(Hears.of hz hm R).vec
 have go:lC x m=false->∀ {y:NodeT},withS x (hU x m)=y->Hears y m/\NodeOk (eF y m)/\SzN (eF y m)/\oG x m=(eF y m,[G8 (eF y m) x m],0):=by
  intro hf y e
  have hr:=R.syn hf
  have hs:=tF hz (wL R.node m)
  rw[e] at hr hs
  refine⟨Hears.of hs hm hr,hr.node.heard m,lP hs m,?_⟩
  unfold oG KJ;rw[hf,e];rfl
 unfold T194;refine(aB (f78 x hz n (by omega))).trans ?_;refine(aB (f151 x m.2.1 true hz.sess n (by omega))).trans ?_
 rcases hX x.sess m.2.1 true with ⟨k,hk,e,_⟩ | ⟨e,_⟩
 ·obtain⟨hf,hs⟩:=UH e
  have hk2:k<(x.sess.set k ((gt x.sess k).1,m.2.2.2.1,(gt x.sess k).2.2)).length:=by rw[List.length_set];exact hk
  obtain⟨hh,ho,hz2,he⟩:=go hf (y:=withS x ((x.sess.set k ((gt x.sess k).1,m.2.2.2.1,(gt x.sess k).2.2)).set k ((gt (x.sess.set k ((gt x.sess k).1,m.2.2.2.1,(gt x.sess k).2.2)) k).1,(gt (x.sess.set k ((gt x.sess k).1,m.2.2.2.1,(gt x.sess k).2.2)) k).2.1,(gt (x.sess.set k ((gt x.sess k).1,m.2.2.2.1,(gt x.sess k).2.2)) k).2.2.1,(0:Int),(gt (x.sess.set k ((gt x.sess k).1,m.2.2.2.1,(gt x.sess k).2.2)) k).2.2.2.2))) (by rw[hs,QP hk])
  rw[he,e];refine bif_nn.trans ?_;refine bif_nn.trans ?_;refine(aH hk).trans ?_;refine(aH hk).trans ?_;refine bif_nn.trans ?_;refine(aH hk2).trans ?_;refine(aH hk2).trans ?_
  refine(aB (f193 _ m hh n (by omega))).trans ?_;refine(aB (f152 _ 3 m.2.1 m.2.2.2.1 hz2 n (by omega))).trans ?_;refine(aB (f109 (eF _ m).tree hz2.leaves n (by omega))).trans ?_;refine(aB (f201 (eF _ m).tree m.tree n (by omega))).trans ?_;refine(aE h0).trans ?_;refine(bH hv).trans ?_;refine(aB (f197 _ (lZ (eF _ m).tree m.tree) (gt m.vec x.1.toNat).1 hz2 ho (Nat.le_trans (sW _ _) (by decide)) n (by omega))).trans ?_;rfl
 ·obtain⟨hf,hs⟩:=UG e
  rw[e];refine(aF rfl).trans ?_
  cases hl:(x.sess.length:Int)==x.slots with
  | true=>
   rw[hl] at hf
   refine(aM hl).trans ?_;refine(aB (f152 x 5 m.2.1 m.2.2.2.1 hz n (by omega))).trans ?_;unfold oG;rw[hf];rfl
  | false=>
   rw[hl] at hf
   obtain⟨hh,ho,hz2,he⟩:=go hf (y:=withS x (lH x m)) (by rw[hs])
   have hb:x.sess.length+1<=bound:=by have:=hz.sess;unfold aW at this;unfold bound;omega
   rw[he];refine(aF hl).trans ?_;refine(aE hb).trans ?_
   refine(aB (f193 (withS x (lH x m)) m hh n (by omega))).trans ?_;refine(aB (f152 _ 3 m.2.1 m.2.2.2.1 hz2 n (by omega))).trans ?_;refine(aB (f109 (eF _ m).tree hz2.leaves n (by omega))).trans ?_;refine(aB (f201 (eF _ m).tree m.tree n (by omega))).trans ?_;refine(aE h0).trans ?_;refine(bH hv).trans ?_;refine(aB (f197 _ (lZ (eF _ m).tree m.tree) (gt m.vec x.1.toNat).1 hz2 ho (Nat.le_trans (sW _ _) (by decide)) n (by omega))).trans ?_;rfl
end Go.Abs.Wz
namespace Go.Abs.Wz
open Go Go.Abs
def NK(r:I5):Out:=⟨[⟨K54,r.1⟩,⟨K191,(r.2.1,())⟩,⟨K3,(r.2.2,())⟩],[]⟩
theorem IG(x:NodeT)(m:MsgT)(b:Bool):(rU x m b<0/\(c6 x.sess m.2.1 b= -1\/∃ k:Nat,k<x.sess.length/\c6 x.sess m.2.1 b=(k:Int)/\((gt x.sess k).2.1 != m.2.2.2.1)=true))\/∃ k:Nat,k<x.sess.length/\c6 x.sess m.2.1 b=(k:Int)/\((gt x.sess k).2.1 != m.2.2.2.1)=false/\rU x m b=(k:Int):=by
 unfold rU
 rcases hX x.sess m.2.1 b with ⟨k,hk,e,_⟩ | ⟨e,_⟩<;>rw[e]
 ·rw[decide_eq_true (show((k:Nat):Int)>=0 by omega),Int.toNat_natCast]
  cases h:(gt x.sess k).2.1 != m.2.2.2.1 with
  | true=>exact .inl ⟨by show(-1:Int)<0;omega,.inr ⟨k,hk,rfl,h⟩⟩
  | false=>exact .inr ⟨k,hk,rfl,h,rfl⟩
 ·exact .inl ⟨by show(-1:Int)<0;omega,.inl rfl⟩
theorem KX{x:NodeT}{m:MsgT}(h0:(m.1==0)=false)(h1:(m.1==1)=false)(h2:(m.1==2)=false){b:Bool}(h4:(m.1==4)=b)(hf:rU x m b<0):zE x m=(x,[],2):=by
 unfold zE;rw[h0,h1,h2,h4,decide_eq_true hf];rfl
theorem NL{x:NodeT}{m:MsgT}(h0:(m.1==0)=false)(h1:(m.1==1)=false)(h2:(m.1==2)=false){b:Bool}(h4:(m.1==4)=b){k:Nat}(hf:rU x m b=(k:Int)):zE x m=sG x m k:=by
 unfold zE;rw[h0,h1,h2,h4,hf,decide_eq_false (show ¬ (k:Int)<0 by omega)];rfl
theorem f188(x:NodeT)(m:MsgT)(hz:SzN x)(hm:SzM m):Ran p 10 188 [va K54 x, va K143 m] (NK (gY x m)):=go188 λn hn=>Ev.now λaA=>by
 have bad:mF x m=false->(some ⟨[⟨K54,x⟩,⟨K191,(([]:List MsgT),())⟩,⟨K3,((1:Int),())⟩],[]⟩:Option Out)=some (NK (gY x m)):=λh=>by rw[Q5 h];rfl
 unfold T188;refine(aB (f34 x hz n (by omega))).trans ?_
 cases g1:dJ x with
 | false=>refine(aM rfl).trans ?_;refine(aB (f78 x hz n (by omega))).trans ?_;exact bad (by unfold mF;rw[g1];rfl)
 | true=>
 refine(aF rfl).trans ?_;refine(aB (f176 m hm n (by omega))).trans ?_
 cases g2:eX m with
 | false=>refine(aM rfl).trans ?_;refine(aB (f78 x hz n (by omega))).trans ?_;exact bad (by unfold mF;rw[g1,g2];rfl)
 | true=>
 refine(aF rfl).trans ?_
 cases g3:m.2.2.1==x.1 with
 | false=>refine(aM (show(m.2.2.1 != x.1)=true by unfold bne;rw[g3];rfl)).trans ?_;refine(aB (f78 x hz n (by omega))).trans ?_;exact bad (by unfold mF;rw[g1,g2,g3];rfl)
 | true=>
 refine(aF (show(m.2.2.1 != x.1)=false by unfold bne;rw[g3];rfl)).trans ?_
 by_cases g4:m.2.1>=x.2.1
 ·refine(aE g4).trans ?_;refine(aB (f78 x hz n (by omega))).trans ?_;exact bad (by unfold mF;rw[g1,g2,g3,decide_eq_true g4];rfl)
 refine(aI g4).trans ?_
 cases g5:(m.vec.length:Int)==x.2.1 with
 | false=>refine(aM (show((m.vec.length:Int) != x.2.1)=true by unfold bne;rw[g5];rfl)).trans ?_;refine(aB (f78 x hz n (by omega))).trans ?_;exact bad (by unfold mF;rw[g1,g2,g3,decide_eq_false g4,g5];rfl)
 | true=>
 refine(aF (show((m.vec.length:Int) != x.2.1)=false by unfold bne;rw[g5];rfl)).trans ?_
 have ok:mF x m=true:=by unfold mF;rw[g1,g2,g3,decide_eq_false g4,g5];rfl
 have R:=EZ ok
 have H:=Hears.of hz hm R
 rw[NJ ok]
 cases k0:m.1==0 with
 | true=>
  have hz2:=mM hz m
  (first | refine(aM k0).trans ?_ | refine(aM rfl).trans ?_);refine(aB (f192 x m H R.part n (by omega))).trans ?_;refine(aB (f152 (eB x m) 1 m.2.1 m.2.2.2.1 hz2 n (by omega))).trans ?_;unfold zE;rw[k0];rfl
 | false=>
 (first | refine(aF k0).trans ?_ | refine(aF rfl).trans ?_)
 cases k1:m.1==1 with
 | true=>(first | refine(aM k1).trans ?_ | refine(aM rfl).trans ?_);refine(aB (f193 x m H n (by omega))).trans ?_;unfold zE;rw[k0,k1];rfl
 | false=>
 (first | refine(aF k1).trans ?_ | refine(aF rfl).trans ?_)
 cases k2:m.1==2 with
 | true=>(first | refine(aM k2).trans ?_ | refine(aM rfl).trans ?_);refine(dK (f194 x m hz hm R n (by omega))).trans ?_;unfold zE;rw[k0,k1,k2];rfl
 | false=>
 (first | refine(aF k2).trans ?_ | refine(aF rfl).trans ?_);refine(aB (f195 x m (m.1==4) hz.sess n (by omega))).trans ?_
 rcases IG x m (m.1==4)with ⟨hf,_⟩ | ⟨k,hk,_,_,hf⟩
 ·refine(aE hf).trans ?_;refine(aB (f78 x hz n (by omega))).trans ?_;rw[KX k0 k1 k2 rfl hf];rfl
 ·rw[NL k0 k1 k2 rfl hf,hf];refine(aI (show ¬ (k:Int)<0 by omega)).trans ?_;refine(aB (f196 x k hz hk n (by omega))).trans ?_
  have hg:=F0 hz k
  have Rg:=R.gone k
  have Hg:=Hears.of hg hm Rg
  have hz2:=mM hg m
  cases k5:m.1==5 with
  | true=>(first | refine(aM k5).trans ?_ | refine(aM rfl).trans ?_);unfold sG;rw[k5];rfl
  | false=>
   (first | refine(aF k5).trans ?_ | refine(aF rfl).trans ?_);refine(aB (f192 (kN x k) m Hg Rg.part n (by omega))).trans ?_
   cases k4:m.1==4 with
   | true=>(first | refine(aM k4).trans ?_ | refine(aM rfl).trans ?_);unfold sG;rw[k5,k4];rfl
   | false=>
    (first | refine(aF k4).trans ?_ | refine(aF rfl).trans ?_);refine(aB (f152 (eB (kN x k) m) 4 m.2.1 m.2.2.2.1 hz2 n (by omega))).trans ?_;refine(aE (hI hm.list)).trans ?_;refine(aE R.idn.1).trans ?_;refine(bH H.vec).trans ?_
    refine(aB (f197 (eB (kN x k) m) m.leaves (gt m.vec x.1.toNat).1 hz2 Rg.brought hm.list n (by omega))).trans ?_;unfold sG;rw[k5,k4];rfl
end Go.Abs.Wz
set_option maxHeartbeats 2000000
namespace Go.Abs.Wz
open Go Go.Abs
end Go.Abs.Wz
namespace Go.Abs.Wz
open Go Go.Abs
-- how many cells lie in what comes back
theorem NG(xs:List jQ):cnT (.sl K103) xs=3*(xs.length:Int):=jW (c:=cnR K103) (n:=3) (λx=>rfl) xs
theorem kJ(x:NodeT):cnS K54 x=6*(x.2.2.1.length:Int)+(2*(x.2.2.2.1.length:Int)+(1*(x.2.2.2.2.1.length:Int)+(cnT (.sl K34) x.log.2.2.1+(1*(x.got.length:Int)+(1*(x.acked.length:Int)+(cnT (.sl K44) x.seen+(4*(x.sess.length:Int)+(3*(x.rises.length:Int)+0)))))))):=by
 rw[<- O0,<- L7,<- yA,<- yA,<- yA,<- Q1,<- NG];rfl
theorem JE{t u:List bQ}(h:u.length=t.length)(h2:∀ i,(gt u i).1.length=(gt t i).1.length):cnT (.sl K44) u<=cnT (.sl K44) t:=
 BP (α:=bQ) (c:=cnR K44) u t h λj hj=>by
  have e:∀ r:bQ,cnR K44 r=1*(r.1.length:Int)+0:=λr=>by rw[<- yA];rfl
  rw[e,e,h2 j];omega
theorem LF(x:NodeT)(s:aJ):(tkP x s).1.length<=5/\(tkP x s).2.1.length<=5:=by
 unfold tkP prune
 cases aS (dG x.state s)with
 | true=>exact lO _ _
 | false=>exact lO _ _
theorem EL(x:NodeT)(s:aJ):cnS K54 (jG x s)<=cnS K54 x+100:=by
 rw[kJ,kJ]
 have h1:=LF x s
 have h2:(cI (tkP x s)).1.length<=4:=yQ _
 have h3:cnT (.sl K44) (tkS x s)<=cnT (.sl K44) x.seen:=JE (dD _ _ _) (fA _ _ _)
 have h4:(tkR x s).length=x.rises.length:=gX _ _ _ _
 show 6*(((tkP x s).1.length:Nat):Int)+(2*(((tkP x s).2.1.length:Nat):Int)+(1*(((cI (tkP x s)).1.length:Nat):Int)+(cnT (.sl K34) x.log.2.2.1+(1*(x.got.length:Int)+(1*(x.acked.length:Int)+(cnT (.sl K44) (tkS x s)+(4*(x.sess.length:Int)+(3*(((tkR x s).length:Nat):Int)+0))))))))<=_
 omega
theorem vO(x:NodeT)(m:MsgT):cnS K54 (eF x m)<=cnS K54 x+100:=by
 have h:=EL (heard0 x m) iM
 have h3:cnT (.sl K44) (bO x.seen m.2.1 m.marks)<=cnT (.sl K44) x.seen:=JE (dD _ _ _) (fA _ _ _)
 have h4:cnS K54 (heard0 x m)<=cnS K54 x:=by
  rw[kJ,kJ]
  show 6*(x.2.2.1.length:Int)+(2*(x.2.2.2.1.length:Int)+(1*(x.2.2.2.2.1.length:Int)+(cnT (.sl K34) x.log.2.2.1+(1*(x.got.length:Int)+(1*(((cZ x.acked m.2.1 (mxI false (gt m.vec x.1.toNat).1 (cE x.log))).length:Nat):Int)+(cnT (.sl K44) (bO x.seen m.2.1 m.marks)+(4*(x.sess.length:Int)+(3*(x.rises.length:Int)+0))))))))<=_
  rw[fW];omega
 unfold eF;omega
theorem xM(x:NodeT)(m:MsgT):cnS K54 (eB x m)<=cnS K54 x+200:=by
 have h1:=vO x m
 have h2:=EL (eF x m) m.part
 have h3:∀ y:NodeT,cnS K54 (gotUp y m)=cnS K54 y:=λy=>by
  rw[kJ,kJ]
  show 6*(y.2.2.1.length:Int)+(2*(y.2.2.2.1.length:Int)+(1*(y.2.2.2.2.1.length:Int)+(cnT (.sl K34) y.log.2.2.1+(1*(((cZ y.got m.2.1 m.hi).length:Nat):Int)+(1*(y.acked.length:Int)+(cnT (.sl K44) y.seen+(4*(y.sess.length:Int)+(3*(y.rises.length:Int)+0))))))))=_
  rw[fW]
 unfold eB;rw[h3];omega
theorem ED(x:NodeT){ss:List dM}(h:ss.length<=x.sess.length+1):cnS K54 (withS x ss)<=cnS K54 x+4:=by
 rw[kJ,kJ]
 show 6*(x.2.2.1.length:Int)+(2*(x.2.2.2.1.length:Int)+(1*(x.2.2.2.2.1.length:Int)+(cnT (.sl K34) x.log.2.2.1+(1*(x.got.length:Int)+(1*(x.acked.length:Int)+(cnT (.sl K44) x.seen+(4*(ss.length:Int)+(3*(x.rises.length:Int)+0))))))))<=_
 omega
theorem PC(x:NodeT)(k:Nat):cnS K54 (kN x k)<=cnS K54 x+4:=ED x (by rw[List.length_append,List.length_take,List.length_drop];omega)
structure RecSz (x:NodeT) (r:I5):Prop where
 node:SzN r.1
 cn:cnS K54 r.1<=cnS K54 x+300
 len:r.2.1.length<=1
 msg:∀ q∈r.2.1,SzM q
theorem xY{q:MsgT}(h:SzM q):∀ y∈[q],SzM y:=λy hy=>by rw[List.mem_singleton.1 hy];exact h
theorem zQ:∀ y∈([]:List MsgT),SzM y:=λy hy=>by cases hy
theorem JL{x:NodeT}(h:SzN x)(a b c:Int):SzM (RQ x a b c):=⟨Nat.zero_le _,h.got,Nat.zero_le _,kA,Nat.le_trans (fU _) (by decide)⟩
theorem KV{o x:NodeT}(h:SzN o)(m:MsgT):SzM (G8 o x m):=⟨h.leaves,h.got,Nat.le_trans (sW _ _) (by decide),nJ _ _,Nat.le_trans (fU _) (by decide)⟩
theorem OW{o x:NodeT}(h:SzN o){m:MsgT}(hm:SzM m):SzM (ST o x m):=⟨Nat.zero_le _,h.got,hm.list,nJ _ _,Nat.le_trans (fU _) (by decide)⟩
theorem KW{x:NodeT}{m:MsgT}(hz:SzN x)(hm:SzM m)(R:RecOk x m):RecSz x (oG x m):=by
 unfold oG
 cases hf:lC x m with
 | true=>exact⟨hz,by show cnS K54 x<=_;omega,Nat.le_refl _,xY (JL hz _ _ _)⟩
 | false=>
  have h1:=QS hz R.node m
  have h2:=vO (withS x (hU x m)) m
  have h3:=ED x (ss:=hU x m) (by
   unfold hU oJ lH
   cases decide (c6 x.sess m.2.1 true>=0)with
   | true=>show(List.set _ _ _).length<=_;rw[List.length_set];omega
   | false=>show(x.sess++[_]).length<=_;rw[List.length_append];exact Nat.le_refl _)
  exact⟨h1,by show cnS K54 (KJ x m)<=_;unfold KJ;omega,Nat.le_refl _,xY (KV h1 m)⟩
theorem KY{x:NodeT}{m:MsgT}(hz:SzN x)(hm:SzM m)(k:Nat):RecSz x (sG x m k):=by
 have h1:=F0 hz k
 have h2:=PC x k
 have h3:=mM h1 m
 have h4:=xM (kN x k) m
 unfold sG
 cases m.1==5 with
 | true=>exact⟨h1,by show cnS K54 (kN x k)<=_;omega,Nat.zero_le _,zQ⟩
 | false=>
  cases m.1==4 with
  | true=>exact⟨h3,by show cnS K54 (eB (kN x k) m)<=_;omega,Nat.zero_le _,zQ⟩
  | false=>exact⟨h3,by show cnS K54 (eB (kN x k) m)<=_;omega,Nat.le_refl _,xY (OW h3 hm)⟩
theorem JF{x:NodeT}{m:MsgT}(hz:SzN x)(hm:SzM m):RecSz x (gY x m):=by
 unfold gY
 cases ho:mF x m with
 | false=>exact⟨hz,by show cnS K54 x<=_;omega,Nat.zero_le _,zQ⟩
 | true=>
  have R:=EZ ho
  show RecSz x (zE x m)
  unfold zE
  have h3:=mM hz m
  have h4:=xM x m
  have h5:=lP hz m
  have h6:=vO x m
  cases m.1==0 with
  | true=>exact⟨h3,by show cnS K54 (eB x m)<=_;omega,Nat.le_refl _,xY (JL h3 _ _ _)⟩
  | false=>
   cases m.1==1 with
   | true=>exact⟨h5,by show cnS K54 (eF x m)<=_;omega,Nat.zero_le _,zQ⟩
   | false=>
    cases m.1==2 with
    | true=>exact KW hz hm R
    | false=>
     cases decide (rU x m (m.1==4)<0)with
     | true=>exact⟨hz,by show cnS K54 x<=_;omega,Nat.zero_le _,zQ⟩
     | false=>exact KY hz hm _
end Go.Abs.Wz
set_option maxHeartbeats 4000000
namespace Go.Abs.Wz
open Go Go.Abs
def zR:Option MsgT->Out
 | none=>⟨[⟨K143,BF⟩,⟨K4,(false,())⟩],[]⟩
 | some m=>⟨[⟨K143,m⟩,⟨K4,(true,())⟩],[]⟩
def lF(x:Int×RdT):Rows [K3]×Rows [K196]:=(((x.1,()),()),(x.2,()))
def sI(x:List aO×RdT):Rows [K44]×Rows [K196]:=(((x.1,()),()),(x.2,()))
def TE(s:aJ)(k:Bool):Rows [K34,K4]×Rows []:=((s,(k,()),()),())
theorem M3(o:Option aJ):rJ o=⟨[⟨K34,o.getD iM⟩,⟨K4,(o.isSome,())⟩],[]⟩:=by cases o<;>rfl
theorem R8(b:List aO):SzS ((cT b).getD iM):=by
 cases h:cT b with
 | none=>exact kA
 | some s=>exact HE (DA h)
theorem rng{a b c d:Prop}[Decidable a][Decidable b](h1:a)(h2:b):(decide a&&decide b)=true:=by rw[decide_eq_true h1,decide_eq_true h2];rfl
end Go.Abs.Wz
