/- What the functions of this program answer, part gu. -/
import Derived.Test.YtmamlgjbendjhaaGreatXgo
set_option linter.unusedVariables false
open Go.IntKind (i64)
namespace Go.Abs.Xz
open Go Go.Abs
def FB(x:dS):dS:=(x.1,x.2.1,x.2.2.1,i64.wrap (x.2.2.2.1+1),())
def jI(x:NodeT)(i:Nat):List dS:=bif decide (i64.wrap ((gt x.sess i).2.2.2.1+1)≤x.wait)then[FB (gt x.sess i)] else[]
theorem q9(x:NodeT)(i:Nat):(jI x i).length≤1:=by
 unfold jI;cases decide (i64.wrap ((gt x.sess i).2.2.2.1+1)≤x.wait)<;>simp
def sQ(y:NodeT):NodeT:=(y.1,y.2.1,y.2.2.1,y.2.2.2.1,y.2.2.2.2.1,y.2.2.2.2.2.1,y.2.2.2.2.2.2.1,y.2.2.2.2.2.2.2.1,y.2.2.2.2.2.2.2.2.1,y.2.2.2.2.2.2.2.2.2.1,y.2.2.2.2.2.2.2.2.2.2.1,y.2.2.2.2.2.2.2.2.2.2.2.1,y.2.2.2.2.2.2.2.2.2.2.2.2.1,y.2.2.2.2.2.2.2.2.2.2.2.2.2.1,bI y.sess.length (jI y),y.wait,y.limit,i64.wrap (y.clock+1),y.rises,())
def oU(x:NodeT):NodeT:=bif eC x then(bif x.clock==100000 then x else sQ x)else x
theorem wU(x:NodeT):(sQ x).sess.length≤x.sess.length:=by
 have:=c8 (g:=jI x) (L:=1) (n:=x.sess.length) fun i _=>q9 x i
 show(bI x.sess.length (jI x)).length≤x.sess.length
 omega
theorem FC{x:NodeT}(h:SzN x):SzN (oU x):=by
 unfold oU
 cases eC x with
 | false=>exact h
 | true=>
  cases x.clock==100000 with
  | true=>exact h
  | false=>exact⟨h.state,h.leaves,h.list,h.logs,h.got,h.acked,h.seen,h.lines,Nat.le_trans (wU x) h.sess,h.rises⟩

theorem f297(x:NodeT)(hz:SzN x):Ran p 8 297 [va K38 x] (rO K38 (oU x)):=go297 fun n hn=>by
 unfold oU
 cases ho:eC x with
 | false=>exact Ev.now fun aA=>by show T297 (aG p n) aA x=rV K38 x;unfold T297;refine(aC (f85 x hz n (by omega))).trans ?_;refine(aC (f86 x hz n (by omega))).trans ?_;rw[ho];rfl
 | true=>
  cases hc:x.clock==100000 with
  | true=>exact Ev.now fun aA=>by show T297 (aG p n) aA x=rV K38 x;unfold T297;refine(aC (f85 x hz n (by omega))).trans ?_;refine(aC (f86 x hz n (by omega))).trans ?_;rw[ho];refine(aL rfl).trans ?_;exact aN hc
  | false=>
   have lp:It (fun aA (_:Unit)=>c297_7 (aG p n) aA x ((x,()),())) ((0:Int),([]:List dS)) (fun _=>rV K38 (sQ x)):=by
    refine It.accu (α:=dS) [] (jI x) x.sess.length 1 (fun i _=>q9 x i) (fun i hi acc ha aA u rec=>?_) (It.stop fun aA u rec=>?_)
    ·show c297_7 (aG p n) aA x ((x,()),()) rec ((i:Int),acc)=rec (((i+1:Nat):Int),acc++jI x i)
     unfold c297_7 jI;dsimp only;rw[aI (i63 hi hz.sess)];refine(aE (Int.ofNat_lt.2 hi)).trans ?_;refine bif_nn.trans ?_;refine(aK hi).trans ?_
     by_cases h:i64.wrap ((gt x.sess i).2.2.2.1+1)≤x.wait
     ·refine(aE h).trans ?_;refine(aE ?_).trans ?_
      ·have h1:(jI x i).length=1:=by unfold jI;rw[decide_eq_true h];rfl
       have h2:=hz.sess
       rw[h1] at ha
       show acc.length+1≤bound
       unfold aX at h2;unfold bound;simp at ha;omega
      ·rw[decide_eq_true h];rfl
     ·refine(aF h).trans ?_;rw[decide_eq_false h];show rec _=rec _;rw[show(bif false then[FB (gt x.sess i)] else[])=([]:List dS)from rfl,List.append_nil];rfl
    ·show c297_7 (aG p n) aA x ((x,()),()) rec ((x.sess.length:Int),bI x.sess.length (jI x))=_
     unfold c297_7;dsimp only;refine(aF (Int.lt_irrefl _)).trans ?_;rfl
   exact Ev.eq (fun aA=>by
    unfold T297;refine(aC (f85 x hz n (by omega))).trans ?_;refine(aC (f86 x hz n (by omega))).trans ?_;rw[ho];refine(aL rfl).trans ?_;exact aL hc) (lp.ev (i:=()) rfl)
theorem f20(x:NodeT)(hz:SzN x):Ran p 8 20 [va K38 x] (rO K38 (oU x)):=go20 fun n hn=>by
 unfold oU
 cases ho:eC x with
 | false=>exact Ev.now fun aA=>by show T20 (aG p n) aA x=rV K38 x;unfold T20;refine(aC (f81 x hz n (by omega))).trans ?_;refine(aC (f23 x hz n (by omega))).trans ?_;rw[ho];rfl
 | true=>
  cases hc:x.clock==100000 with
  | true=>exact Ev.now fun aA=>by show T20 (aG p n) aA x=rV K38 x;unfold T20;refine(aC (f81 x hz n (by omega))).trans ?_;refine(aC (f23 x hz n (by omega))).trans ?_;rw[ho];refine(aL rfl).trans ?_;exact aN hc
  | false=>
   have lp:It (fun aA (_:Unit)=>c20_7 (aG p n) aA x ((x,()),())) ((0:Int),([]:List dS)) (fun _=>rV K38 (sQ x)):=by
    refine It.accu (α:=dS) [] (jI x) x.sess.length 1 (fun i _=>q9 x i) (fun i hi acc ha aA u rec=>?_) (It.stop fun aA u rec=>?_)
    ·show c20_7 (aG p n) aA x ((x,()),()) rec ((i:Int),acc)=rec (((i+1:Nat):Int),acc++jI x i)
     unfold c20_7 jI;dsimp only;rw[aI (i63 hi hz.sess)];refine(aE (Int.ofNat_lt.2 hi)).trans ?_;refine bif_nn.trans ?_;refine(aK hi).trans ?_
     by_cases h:i64.wrap ((gt x.sess i).2.2.2.1+1)≤x.wait
     ·refine(aE h).trans ?_;refine(aE ?_).trans ?_
      ·have h1:(jI x i).length=1:=by unfold jI;rw[decide_eq_true h];rfl
       have h2:=hz.sess
       rw[h1] at ha
       show acc.length+1≤bound
       unfold aX at h2;unfold bound;simp at ha;omega
      ·rw[decide_eq_true h];rfl
     ·refine(aF h).trans ?_;rw[decide_eq_false h];show rec _=rec _;rw[show(bif false then[FB (gt x.sess i)] else[])=([]:List dS)from rfl,List.append_nil];rfl
    ·show c20_7 (aG p n) aA x ((x,()),()) rec ((x.sess.length:Int),bI x.sess.length (jI x))=_
     unfold c20_7;dsimp only;refine(aF (Int.lt_irrefl _)).trans ?_;rfl
   exact Ev.eq (fun aA=>by
    unfold T20;refine(aC (f81 x hz n (by omega))).trans ?_;refine(aC (f23 x hz n (by omega))).trans ?_;rw[ho];refine(aL rfl).trans ?_;exact aL hc) (lp.ev (i:=()) rfl)
def iW(x:NodeT):Nat→NodeT
 | 0=>x
 | k+1=>oU (iW x k)
theorem m6{x:NodeT}(h:SzN x):∀ k,SzN (iW x k)
 | 0=>h
 | k+1=>FC (m6 h k)
def wA(w:aW)(j:Nat):NodeT:=iW (gt w.1 j) ((gt w.1 j).wait+1).toNat
def bM(w:aW)(i:Nat):List NodeT:=(List.range w.1.length).map fun(j:Nat)=>bif Nat.blt j i then wA w j else gt w.1 j
theorem cL(w:aW)(i:Nat):(bM w i).length=w.1.length:=by unfold bM;simp
theorem iA(w:aW){i j:Nat}(h:j<w.1.length):gt (bM w i) j=bif Nat.blt j i then wA w j else gt w.1 j:=by
 rw[eX (by rw[cL];exact h)];unfold bM;simp
theorem GY{xs ys:List NodeT}(h:xs.length=ys.length)(h2:∀ j,j<xs.length→gt xs j=gt ys j):xs=ys:=by
 refine List.ext_getElem h fun j h3 h4=>?_
 have:=h2 j h3
 rwa [eX h3,eX h4] at this
theorem tP(w:aW):bM w 0=w.1:=GY (cL w 0) fun j hj=>by
 rw[cL] at hj
 rw[iA w hj]
 cases h:Nat.blt j 0 with
 | true=>have:j<0:=Nat.blt_eq▸h;omega
 | false=>rfl
theorem v9(w:aW){i:Nat}(hi:i<w.1.length):(bM w i).set i (wA w i)=bM w (i+1):=by
 refine GY (by rw[List.length_set,cL,cL]) fun j hj=>?_
 rw[List.length_set,cL] at hj
 rw[iA w hj,eX (by rw[List.length_set,cL];exact hj)]
 by_cases e:j=i
 ·subst e
  rw[List.getElem_set_self,show Nat.blt j (j+1)=true from Nat.blt_eq▸Nat.lt_succ_self j];rfl
 ·rw[List.getElem_set_ne (fun h=>e h.symm),← eX (by rw[cL];exact hj),iA w hj]
  have:Nat.blt j i=Nat.blt j (i+1):=by
   cases h1:Nat.blt j i<;>cases h2:Nat.blt j (i+1)
   ·rfl
   ·have h3:j<i+1:=Nat.blt_eq▸h2
    have h4:¬ j<i:=fun h=>by rw[show Nat.blt j i=true from Nat.blt_eq▸h] at h1;cases h1
    omega
   ·have h3:j<i:=Nat.blt_eq▸h1
    have h4:¬ j<i+1:=fun h=>by rw[show Nat.blt j (i+1)=true from Nat.blt_eq▸h] at h2;cases h2
    omega
   ·rfl
  rw[this]
def cF(w:aW):aW:=bif cW w then(bM w w.1.length,w.2.1,w.2.2.1,())else w
theorem xY{w:aW}(h:cW w=true){i:Nat}(hi:i<w.1.length):1≤(gt w.1 i).wait∧(gt w.1 i).wait≤20:=by
 have:=yB h hi
 unfold eC jL at this
 simp only[Bool.and_eq_true,bH] at this
 omega
def pH(k:Int)(y:NodeT):Int×Int×Int×List cE×List aY×List bB×Int×Int×Int×List aM×List bB×List bB×List cV×Int×Int×List dS×Int×Int×Int×List kP:=(k,y.1,y.2.1,y.2.2.1,y.2.2.2.1,y.2.2.2.2.1,y.2.2.2.2.2.1,y.2.2.2.2.2.2.1,y.2.2.2.2.2.2.2.1,y.2.2.2.2.2.2.2.2.1,y.2.2.2.2.2.2.2.2.2.1,y.2.2.2.2.2.2.2.2.2.2.1,y.2.2.2.2.2.2.2.2.2.2.2.1,y.2.2.2.2.2.2.2.2.2.2.2.2.1,y.2.2.2.2.2.2.2.2.2.2.2.2.2.1,y.2.2.2.2.2.2.2.2.2.2.2.2.2.2.1,y.2.2.2.2.2.2.2.2.2.2.2.2.2.2.2.1,y.2.2.2.2.2.2.2.2.2.2.2.2.2.2.2.2.1,y.2.2.2.2.2.2.2.2.2.2.2.2.2.2.2.2.2.1,y.2.2.2.2.2.2.2.2.2.2.2.2.2.2.2.2.2.2.1)
theorem f206(w:aW)(hz:SzX w):Ran p 9 206 [va K78 w] (rO K78 (cF w)):=go206 fun n hn=>by
 unfold cF
 cases ho:cW w with
 | false=>exact Ev.now fun aA=>by show T206 (aG p n) aA w=rV K78 w;unfold T206;refine(aC (f144 w hz n (by omega))).trans ?_;refine(aC (f210 w hz.toSzW n (by omega))).trans ?_;rw[ho];rfl
 | true=>
  have lp:It (fun aA (_:Unit)=>c206_5 (aG p n) aA w ((w,()),())) ((0:Int),bM w 0) (fun _=>rV K78 ((bM w w.1.length,w.2.1,w.2.2.1,()):aW)):=by
   refine It.runE (fun i=>((i:Int),bM w i)) w.1.length (fun i hi=>?_) (It.stop fun aA u rec=>?_)
   ·have hw:=xY ho hi
    have hb:=i63 hi hz.nodes
    have inner:It (fun aA (rec:Int×List NodeT→Option Out)=>c206_9 (aG p n) aA w ((w,()),()) (i:Int) (bM w i) rec) (pH 0 (gt w.1 i)) (fun rec=>rec (((i+1:Nat):Int),bM w (i+1))):=by
     refine It.run (fun k=>pH (k:Int) (iW (gt w.1 i) k)) ((gt w.1 i).wait+1).toNat (fun k hk aA rec rec9=>?_) (It.stop fun aA rec rec9=>?_)
     ·show c206_9 (aG p n) aA w ((w,()),()) (i:Int) (bM w i) rec rec9 (pH (k:Int) (iW (gt w.1 i) k))=rec9 (pH ((k+1:Nat):Int) (iW (gt w.1 i) (k+1)))
      unfold c206_9 pH;dsimp only;rw[aI (by omega)];refine bif_nn.trans ?_;refine(aK hi).trans ?_;refine(aE (by show(k:Int)≤(gt w.1 i).wait;omega)).trans ?_
      refine(aC (f297 (iW (gt w.1 i) k) (m6 (hz.node i hi) k) n (by omega))).trans ?_
      rfl
     ·show c206_9 (aG p n) aA w ((w,()),()) (i:Int) (bM w i) rec rec9 (pH ((((gt w.1 i).wait+1).toNat:Nat):Int) (wA w i))=_
      have hl:i<(bM w i).length:=by rw[cL];exact hi
      rw[← v9 w hi]
      unfold c206_9 pH;dsimp only;rw[aI hb];refine bif_nn.trans ?_;refine(aK hi).trans ?_;refine(aF (by show ¬ ((((gt w.1 i).wait+1).toNat:Nat):Int)≤(gt w.1 i).wait;omega)).trans ?_
      refine bif_nn.trans ?_;refine(aK hl).trans ?_;refine(aK hl).trans ?_
      rfl
    obtain⟨N,hN⟩:=inner.all_i
    refine⟨N,fun aA hf u rec=>?_⟩
    have hl:i<(bM w i).length:=by rw[cL];exact hi
    show c206_5 (aG p n) aA w ((w,()),()) rec ((i:Int),bM w i)=rec (((i+1:Nat):Int),bM w (i+1))
    have hg:gt (bM w i) i=gt w.1 i:=by
     rw[iA w hi]
     cases h:Nat.blt i i with
     | true=>have:i<i:=Nat.blt_eq▸h;omega
     | false=>rfl
    unfold c206_5;dsimp only;refine(aE (by show(i:Int)<((bM w i).length:Int);omega)).trans ?_;refine bif_nn.trans ?_;refine(aK hl).trans ?_;refine(aK hl).trans ?_
    rw[hg];exact hN aA hf rec
   ·show c206_5 (aG p n) aA w ((w,()),()) rec ((w.1.length:Int),bM w w.1.length)=_
    unfold c206_5;dsimp only;refine(aF (by show ¬ ((w.1.length:Int)<((bM w w.1.length).length:Int));rw[cL];omega)).trans ?_;rfl
  exact Ev.eq (fun aA=>by rw[tP];unfold T206;refine(aC (f144 w hz n (by omega))).trans ?_;refine(aC (f210 w hz.toSzW n (by omega))).trans ?_;rw[ho];rfl) (lp.ev (i:=()) rfl)
theorem f208(w:aW)(hz:SzX w):Ran p 9 208 [va K78 w] (rO K78 (cF w)):=go208 fun n hn=>by
 unfold cF
 cases ho:cW w with
 | false=>exact Ev.now fun aA=>by show T208 (aG p n) aA w=rV K78 w;unfold T208;refine(aC (f150 w hz n (by omega))).trans ?_;refine(aC (f204 w hz.toSzW n (by omega))).trans ?_;rw[ho];rfl
 | true=>
  have lp:It (fun aA (_:Unit)=>c208_5 (aG p n) aA w ((w,()),())) ((0:Int),bM w 0) (fun _=>rV K78 ((bM w w.1.length,w.2.1,w.2.2.1,()):aW)):=by
   refine It.runE (fun i=>((i:Int),bM w i)) w.1.length (fun i hi=>?_) (It.stop fun aA u rec=>?_)
   ·have hw:=xY ho hi
    have hb:=i63 hi hz.nodes
    have hl:i<(bM w i).length:=by rw[cL];exact hi
    have hg:gt (bM w i) i=gt w.1 i:=by
     rw[iA w hi]
     cases h:Nat.blt i i with
     | true=>have:i<i:=Nat.blt_eq▸h;omega
     | false=>rfl
    have inner:It (fun aA (rec:Int×List NodeT→Option Out)=>c208_8 (aG p n) aA w ((w,()),()) (gt (α:=NodeT) w.1 i) (i:Int) rec) ((0:Int),bM w i) (fun rec=>rec (((i+1:Nat):Int),bM w (i+1))):=by
     have e0:bM w i=(bM w i).set i (iW (gt w.1 i) 0):=by
      show bM w i=(bM w i).set i (gt w.1 i)
      rw[← hg,eX hl,List.set_getElem_self]
     rw[e0]
     refine It.run (fun k=>((k:Int),(bM w i).set i (iW (gt w.1 i) k))) ((gt w.1 i).wait+1).toNat (fun k hk aA rec rec8=>?_) (It.stop fun aA rec rec8=>?_)
     ·show c208_8 (aG p n) aA w ((w,()),()) (gt (α:=NodeT) w.1 i) (i:Int) rec rec8 ((k:Int),(bM w i).set i (iW (gt w.1 i) k))=rec8 (((k+1:Nat):Int),(bM w i).set i (iW (gt w.1 i) (k+1)))
      have hl2:i<((bM w i).set i (iW (gt w.1 i) k)).length:=by rw[List.length_set];exact hl
      have hg2:gt ((bM w i).set i (iW (gt w.1 i) k)) i=iW (gt w.1 i) k:=by rw[eX hl2,List.getElem_set_self]
      unfold c208_8;dsimp only;rw[aI (by omega)]
      refine(aE (by show(k:Int)<i64.wrap ((gt w.1 i).wait+1);rw[eY (by omega) (by omega)];omega)).trans ?_;refine bif_nn.trans ?_;refine(aK hl2).trans ?_;refine(aK hl2).trans ?_
      rw[hg2]
      refine(aC (f20 (iW (gt w.1 i) k) (m6 (hz.node i hi) k) n (by omega))).trans ?_
      refine bif_nn.trans ?_;refine(aK hl2).trans ?_;refine(aK hl2).trans ?_
      show rec8 (_,List.set (List.set (bM w i) i (iW (gt w.1 i) k)) i (oU (iW (gt w.1 i) k)))=_
      rw[List.set_set];rfl
     ·show c208_8 (aG p n) aA w ((w,()),()) (gt (α:=NodeT) w.1 i) (i:Int) rec rec8 (((((gt w.1 i).wait+1).toNat:Nat):Int),(bM w i).set i (wA w i))=_
      rw[v9 w hi]
      unfold c208_8;dsimp only;rw[aI hb];refine(aF (by show ¬ ((((gt w.1 i).wait+1).toNat:Nat):Int)<i64.wrap ((gt w.1 i).wait+1);rw[eY (by omega) (by omega)];omega)).trans ?_
      rfl
    obtain⟨N,hN⟩:=inner.all_i
    refine⟨N,fun aA hf u rec=>?_⟩
    show c208_5 (aG p n) aA w ((w,()),()) rec ((i:Int),bM w i)=rec (((i+1:Nat):Int),bM w (i+1))
    unfold c208_5;dsimp only;refine(aE (Int.ofNat_lt.2 hi)).trans ?_;refine bif_nn.trans ?_;refine(aK hi).trans ?_
    exact hN aA hf rec
   ·show c208_5 (aG p n) aA w ((w,()),()) rec ((w.1.length:Int),bM w w.1.length)=_
    unfold c208_5;dsimp only;refine(aF (Int.lt_irrefl _)).trans ?_;rfl
  exact Ev.eq (fun aA=>by rw[tP];unfold T208;refine(aC (f150 w hz n (by omega))).trans ?_;refine(aC (f204 w hz.toSzW n (by omega))).trans ?_;rw[ho];rfl) (lp.ev (i:=()) rfl)
theorem rD{α:Type}[Inhabited α]{c:α→Int}:∀ (xs ys:List α),xs.length=ys.length→(∀ j,j<xs.length→c (gt xs j)≤c (gt ys j))→bV c xs≤bV c ys
 | [],[],_,_=>Int.le_refl _
 | x::xs,y::ys,h,h2=>by
  have h3:c x≤c y:=h2 0 (Nat.zero_lt_succ _)
  have h4:=rD xs ys (by simpa using h) fun j hj=>h2 (j+1) (Nat.succ_lt_succ hj)
  show c x+bV c xs≤c y+bV c ys
  omega
 | [],_::_,h,_=>by cases h
 | _::_,[],h,_=>by cases h
theorem yO(xs:List dS):cnT (.sl K141) xs=4*(xs.length:Int):=iY (c:=cnR K141) (n:=4) (fun x=>rfl) xs
theorem FD(x:NodeT):cnR K38 (oU x)≤cnR K38 x:=by
 unfold oU
 cases eC x with
 | false=>exact Int.le_refl _
 | true=>
  cases x.clock==100000 with
  | true=>exact Int.le_refl _
  | false=>
   show cnR K38 (sQ x)≤cnR K38 x
   have e1:cnR K38 (sQ x)=1+(1+(cnT (.sl K163) x.2.2.1+(cnT (.sl K165) x.2.2.2.1+(cnT (.sl K3) x.2.2.2.2.1+(1+(1+(1+(cnT (.sl K27) x.2.2.2.2.2.2.2.2.1+(cnT (.sl K3) x.got+(cnT (.sl K3) x.acked+(cnT (.sl K28) x.seen+(1+(1+(cnT (.sl K141) (sQ x).sess+(1+(1+(1+(cnT (.sl K147) x.rises+0)))))))))))))))))):=rfl
   have e2:cnR K38 x=1+(1+(cnT (.sl K163) x.2.2.1+(cnT (.sl K165) x.2.2.2.1+(cnT (.sl K3) x.2.2.2.2.1+(1+(1+(1+(cnT (.sl K27) x.2.2.2.2.2.2.2.2.1+(cnT (.sl K3) x.got+(cnT (.sl K3) x.acked+(cnT (.sl K28) x.seen+(1+(1+(cnT (.sl K141) x.sess+(1+(1+(1+(cnT (.sl K147) x.rises+0)))))))))))))))))):=rfl
   have h1:=wU x
   have h2:=yO (sQ x).sess
   have h3:=yO x.sess
   omega
theorem zP(x:NodeT):∀ k,cnR K38 (iW x k)≤cnR K38 x
 | 0=>Int.le_refl _
 | k+1=>Int.le_trans (FD _) (zP x k)
theorem E4(w:aW)(i:Nat):bV (cnR K38) (bM w i)≤bV (cnR K38) w.1:=
 rD (α:=NodeT) (c:=cnR K38) _ _ (cL w i) fun j hj=>by
  rw[cL] at hj
  rw[iA w hj]
  cases Nat.blt j i with
  | true=>exact zP _ _
  | false=>exact Int.le_refl _
theorem IR(w:aW):cnS K78 (cF w)≤cnS K78 w:=by
 unfold cF
 cases cW w with
 | false=>exact Int.le_refl _
 | true=>
  have h:=E4 w w.1.length
  have e1:cnS K78 ((bM w w.1.length,w.2.1,w.2.2.1,()):aW)=bV (cnR K38) (bM w w.1.length)+(cnT (.sl K195) w.2.1+(cnT (.sl K282) w.2.2.1+0)):=rfl
  have e2:cnS K78 w=bV (cnR K38) w.1+(cnT (.sl K195) w.2.1+(cnT (.sl K282) w.2.2.1+0)):=rfl
  show cnS K78 ((bM w w.1.length,w.2.1,w.2.2.1,()):aW)≤cnS K78 w
  omega
theorem IQ(w:aW)(hz:SzW w)(h:LmR K78 w):LmR K78 (cF w):=by
 unfold cF
 cases cW w with
 | false=>exact h
 | true=>
  obtain⟨_,h2⟩:=h
  have hl:=cL w w.1.length
  have key:LmT (.sl K38) (bM w w.1.length):=by
   refine⟨?_,fun i r hr=>?_⟩
   ·have h6:(bM w w.1.length).length≤aX:=by rw[hl];exact hz.nodes
    exact jT h6
   ·obtain⟨h3,h4⟩:=DH (α:=NodeT) (xs:=bM w w.1.length) hr
    have h5:i<w.1.length:=by rw[← hl];exact h3
    have h6:=iA w (i:=w.1.length) h5
    have h7:gt (bM w w.1.length) i=r:=h4
    rw[← h7,h6]
    cases Nat.blt i w.1.length with
    | true=>exact y3 _ (m6 (hz.node i h5) _)
    | false=>exact y3 _ (hz.node i h5)
  exact⟨key,h2⟩
theorem JK{w:aW}(h:Small GO w):SzX w:=⟨JL h,AZ (P:=fun x:m4=>x.2.1.length≤aX) fun i hi=>(tsl (shd (stl ((tsl (shd (stl h))).2 i hi)))).1⟩
end Go.Abs.Xz
