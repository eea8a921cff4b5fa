/- What the functions of this program answer, part sa. -/
import Derived.Test.YthhpkmbhjghidaaGreatW3
import Derived.Test.YthhpkmbhjghidaaGreatXra
import Derived.Test.YthhpkmbhjghidaaGreatXep
set_option linter.unusedVariables false
open Go.IntKind (i64)
namespace Go.Abs.Uz
open Go Go.Abs
theorem f257(t:List bM)(id:Int)(h1:t.length<=aP)(h2:∀ i,i<t.length->(gt t i).1.length<=aP):Ran p 2 257 [vf K69 (t,()), vf K3 (id,())] (rO K3 (hI t id,())):=go257 λn hn=>by
 have lp:It (λaA (_:Unit)=>c257_5 (aI p n) aA t id) ((0:Int),(0:Int)) (λ_=>oI (hI t id)):=by
  refine cast ?_ (It.all (c:=λaA (_:Unit)=>c257_5 (aI p n) aA t id) (rA:=λ_=>oI (pG t id t.length)) (rB:=λ_=>oI 0) (λi=>(pG t id i,(i:Int))) t.length (vK t id) (λi hi aA u rec=>?_) (It.stop λaA u rec=>?_))
  ·congr 1;funext u;unfold hI;cases bJ t.length (vK t id)<;>rfl
  ·unfold c257_5 vK;dsimp only;rw[aF (i63 hi h1)];refine ql hi ?_;refine qz ?_;refine(aD hi).trans ?_;refine qC (f85 id 0 (i64.wrap ((((gt t i).1.length:Nat):Int) - 1))) ?_
   cases hb:inB id 0 (i64.wrap ((((gt t i).1.length:Nat):Int) - 1))with
   | false=>rfl
   | true=>
    obtain⟨hk,e⟩:=y8 (h2 i hi) hb
    have hp:(0:Int)<=id:=by omega
    refine qf ?_
    show _=rec (bif(i:Int)==0 then _ else bif decide ((gt (gt t i).1 id.toNat).1<pG t id i)then _ else _,_)
    cases h0:(i:Int)==0 with
    | true=>refine qt ?_;refine qz ?_;refine(aD hi).trans ?_;refine qP hp ?_;refine(aZ hk).trans ?_;rfl
    | false=>
     refine qf ?_;refine qz ?_;refine(aD hi).trans ?_;refine qP hp ?_;refine(aZ hk).trans ?_
     by_cases hc:(gt (gt t i).1 id.toNat).1<pG t id i
     ·refine qP hc ?_;refine qz ?_;refine(aD hi).trans ?_;refine qP hp ?_;refine(aZ hk).trans ?_;rw[decide_eq_true hc];rfl
     ·refine qN hc ?_;rw[decide_eq_false hc];rfl
  ·unfold c257_5;dsimp only;refine qe ?_;rfl
 cases h0:(t.length:Int)==0 with
 | false=>exact Ev.eq (λaA=>by unfold T257;exact iM h0) (lp.ev (i:=()) rfl)
 | true=>
  have e:hI t id=0:=by
   have:t=[]:=List.length_eq_zero_iff.1 (by have:=eq_of_beq h0;omega)
   rw[this];rfl
  exact Ev.now λaA=>by rw[e];unfold T257;exact mG h0
theorem IZ(s:aE)(t:List bM):Pos (fK s t):=((aN _).1 (qZ s t)).pos
theorem f235(s:aE)(t:List bM)(hz:SzS s)(h1:t.length<=aP)(h2:∀ i,i<t.length->(gt t i).1.length<=aP):Ran p 5 235 [va K43 s, vf K69 (t,())] (rO K43 (prune s t)):=go235 λn hn=>by
 cases hs:aL s with
 | false=>exact Ev.now λaA=>by unfold T235;refine qC (f87 s (aR hz.a) (aR hz.b)) ?_;rw[hs];refine qt ?_;refine qC (f73 s hz) ?_;unfold prune;rw[hs];rfl
 | true=>
  have lp:It (λaA (_:Unit)=>c235_5 (aI p n) aA s t) ((0:Int),([]:List aO)) (λ_=>rV K43 (prune s t)):=by
   refine It.accu (α:=aO) [] (i7 s t) 5 1 (λi _=>tF s t i) (λi hi acc ha aA u rec=>?_) (It.stop λaA u rec=>?_)
   ·show c235_5 (aI p n) aA s t rec ((i:Int),acc)=rec (((i+1:Nat):Int),acc++i7 s t i)
    have hb:acc.length+1<=bound+(1 - (i7 s t i).length):=by simp at ha;unfold bound;omega
    unfold c235_5 i7;dsimp only;rw[aF (show i<9223372036854775807 by omega)];refine qP (show(i:Int)<5 by omega) ?_;refine qC (f257 t (i:Int) h1 h2) ?_;refine qC (f238 s (i:Int) hz) ?_;refine qC (f256 (hI t i) (gone s i)) ?_
    by_cases h:mxI false (hI t i) (gone s i)>0
    ·refine qP h ?_;refine qP (by unfold i7 at hb;rw[decide_eq_true h] at hb;exact hb) ?_;rw[decide_eq_true h];rfl
    ·refine qN h ?_;rw[decide_eq_false h];show rec _=rec _;rw[show(bif false then[((i:Int),mxI false (hI t i) (gone s i),())] else[])=([]:List aO)from rfl,List.append_nil];rfl
   ·unfold c235_5;dsimp only;refine qe ?_;refine qC (f234 s (fK s t) hz (GP s t) ((aN s).1 hs).pos (IZ s t)) ?_;unfold prune;rw[hs];rfl
  exact Ev.eq (λaA=>by unfold T235;refine qC (f87 s (aR hz.a) (aR hz.b)) ?_;rw[hs];rfl) (lp.ev (i:=()) rfl)
theorem TU{x:NodeT}(hz:SzN x)(s:aE):(tkS x s).length<=aP/\∀ i,i<(tkS x s).length->(gt (tkS x s) i).1.length<=aP:=⟨(lV hz s).seen,(lV hz s).lines⟩
structure TakeOk (x:NodeT):Prop where
 state:aL x.state=true
 rises:((x.rises.length:Int)==5)=true
theorem DN{x:NodeT}(h:NodeOk x):TakeOk x:=⟨h.state,h.rises⟩
theorem RY{x:NodeT}{s:aE}(h:TakeOk x)(hs:aL s=true){i:Nat}(hi:i<(tkP x s).1.length):0<=(gt (tkP x s).1 i).1/\(gt (tkP x s).1 i).1.toNat<(dI x.clock x.rises (tkP x s).1 i).length:=by
 have h1:=(((aN (tkP x s)).1 (z5 (nX h.state hs) (tkS x s))).item _ (cB hi)).1
 unfold eF at h1;rw[aM] at h1
 have h2:=eq_of_beq h.rises
 rw[gT];omega
theorem OA(c:Int)(rs:List jZ)(xs:List bE)(i:Nat):dI c rs xs (i+1)=bif qK (gt (dI c rs xs i) (gt xs i).1.toNat) (gt xs i).2 then(dI c rs xs i).set (gt xs i).1.toNat ((gt xs i).2.1,(gt xs i).2.2.2.1,c,())else dI c rs xs i:=by
 show(dI c rs xs i).set _ (m7 c _ _)=_
 unfold m7
 cases qK (gt (dI c rs xs i) (gt xs i).1.toNat) (gt xs i).2 with
 | true=>rfl
 | false=>exact tB
theorem f203(x:NodeT)(s:aE)(hz:SzN x)(hs':SzS s)(h:TakeOk x)(hs:aL s=true):Ran p 7 203 [va K73 x, va K43 s] (rO K73 (jM x s)):=go203 λn hn=>by
 have hj:=nW x.state s
 have ht:=TU hz s
 have hp:=NH x s
 have lp:It (λaA (_:Unit)=>c203_7 (aI p n) aA x ((x,()),()) (((tkS x s,()),()),()) ((tkP x s,()),()) ((cG (tkP x s),()),())) ((0:Int),x.rises) (λ_=>rV K73 (jM x s)):=by
  refine It.run (λi=>((i:Int),dI x.clock x.rises (tkP x s).1 i)) (tkP x s).1.length (λi hi aA u rec=>?_) (It.stop λaA u rec=>?_)
  ·show c203_7 (aI p n) aA x ((x,()),()) (((tkS x s,()),()),()) ((tkP x s,()),()) ((cG (tkP x s),()),()) rec ((i:Int),dI x.clock x.rises (tkP x s).1 i)=rec (((i+1:Nat):Int),dI x.clock x.rises (tkP x s).1 (i+1))
   obtain⟨h0,hl⟩:=RY h hs hi
   unfold c203_7;dsimp only;rw[aF (i63 hi hp.a),OA];unfold qK;refine ql hi ?_;refine qz ?_;refine(aD hi).trans ?_;refine(aD hi).trans ?_;refine qP h0 ?_;refine(aZ hl).trans ?_;refine(aZ hl).trans ?_
   by_cases h1:(gt (tkP x s).1 i).2.1>(gt (dI x.clock x.rises (tkP x s).1 i) (gt (tkP x s).1 i).1.toNat).1
   ·refine qP h1 ?_;refine qP h0 ?_;refine(aZ hl).trans ?_;refine(aZ hl).trans ?_;rw[decide_eq_true h1];rfl
   ·refine qN h1 ?_;rw[decide_eq_false h1]
    cases h2:(gt (tkP x s).1 i).2.1==(gt (dI x.clock x.rises (tkP x s).1 i) (gt (tkP x s).1 i).1.toNat).1 with
    | false=>rfl
    | true=>
     refine qt ?_
     by_cases h3:(gt (tkP x s).1 i).2.2.2.1>(gt (dI x.clock x.rises (tkP x s).1 i) (gt (tkP x s).1 i).1.toNat).2.1
     ·refine qP h3 ?_;refine qP h0 ?_;refine(aZ hl).trans ?_;refine(aZ hl).trans ?_;rw[decide_eq_true h3];rfl
     ·refine qN h3 ?_;rw[decide_eq_false h3];rfl
  ·unfold c203_7;dsimp only;refine qe ?_;rfl
 exact Ev.eq (λaA=>by
  unfold T203;refine qC (f72 x hz) ?_;refine qC (f234 x.state s hz.state hs' ((aN _).1 h.state).pos ((aN _).1 hs).pos) ?_;refine qC (f207 (c9 x.state s) hj) ?_
  refine qC (f206 x.seen x.1 (c8 (c9 x.state s)) hz.seen hz.lines (Nat.le_trans (fR _) (by decide))) ?_;refine qC (f235 (c9 x.state s) (tkS x s) hj ht.1 ht.2) ?_;refine qC (f157 (tkP x s) hp) ?_;rfl) (lp.ev (i:=()) rfl)
end Go.Abs.Uz
namespace Go.Abs.Uz
open Go Go.Abs
theorem f148(v:List aH)(a b:Int)(hv:v.length<=aP):Ran p 2 148 [vf K29 (v,()), vf K3 (a,()), vf K3 (b,())] (rO K4 (pV v a b,())):=go148 λn hn=>by
 by_cases h:(v.length:Int)>a
 ·exact Ev.now λaA=>by unfold T148 pV;rw[decide_eq_true h];exact mX h
 ·have lp:It (λaA (_:Unit)=>c148_4 (aI p n) aA v b) (0:Int) (λ_=>oB (kL v b)):=by
   refine cH (It.allB v.length (λi=>inB (gt v i).1 0 b) true (λi hi aA u rec=>?_) (It.stop λaA u rec=>?_))
   ·unfold c148_4;rw[aF (i63 hi hv)];refine ql hi ?_;refine qz ?_;refine(aD hi).trans ?_;refine qC (f85 (gt v i).1 0 b) ?_;exact fin
   ·unfold c148_4;refine qe ?_;rfl
  have e:pV v a b=kL v b:=by unfold pV;rw[decide_eq_false h];rfl
  rw[e]
  exact Ev.eq (λaA=>by unfold T148;exact kE h) (lp.ev (i:=()) rfl)
theorem f147(t:kS)(ht:t.1.length<=aP):Ran p 3 147 [va K39 t] (rO K4 (treeB t,())):=go147 λn hn=>Ev.now λaA=>by
 unfold T147 treeB
 cases h0:(t.1.length:Int)==0 with
 | true=>exact mG h0
 | false=>
  refine qF h0 ?_
  cases h4:(t.1.length:Int)==4 with
  | false=>exact iM h4
  | true=>
   refine qT h4 ?_;refine qC (f148 t.1 4 1023 ht) ?_
   have e:pV t.1 4 1023=kL t.1 1023:=by unfold pV;rw[decide_eq_false (by have:=eq_of_beq h4;omega)];rfl
   rw[e]
   cases kL t.1 1023 with
   | false=>rfl
   | true=>refine qt ?_;refine qC (f85 t.2.1 0 1023) ?_;rfl
theorem f94(t:kS)(ht:t.1.length<=aP):Ran p 2 94 [va K39 t] (rO K4 (treeB t,())):=go94 λn hn=>by
 cases h0:(t.1.length:Int)==0 with
 | true=>exact Ev.now λaA=>by unfold T94 treeB;rw[h0];exact mG h0
 | false=>
  have lp:It (λaA (_:Unit)=>c94_4 (aI p n) aA t) (0:Int) (λ_=>oB (kL t.1 1023&&((t.1.length:Int)==4&&inB t.2.1 0 1023))):=by
   refine It.allB t.1.length (λi=>inB (gt t.1 i).1 0 1023) _ (λi hi aA u rec=>?_) (It.stop λaA u rec=>?_)
   ·unfold c94_4;rw[aF (i63 hi ht)];refine ql hi ?_;refine qz ?_;refine(aD hi).trans ?_;refine qC (f47 (gt t.1 i).1 0 1023) ?_;exact fin
   ·unfold c94_4;refine qe ?_
    cases h4:(t.1.length:Int)==4 with
    | false=>exact iM h4
    | true=>refine qT h4 ?_;refine qC (f47 t.2.1 0 1023) ?_;rfl
  have e:treeB t=(kL t.1 1023&&((t.1.length:Int)==4&&inB t.2.1 0 1023)):=by unfold treeB;rw[h0];show(_&&(_&&_))=_;ac_rfl
  rw[e]
  exact Ev.eq (λaA=>by unfold T94;exact iM h0) (lp.ev (i:=()) rfl)
theorem f78(m:MsgT)(hz:SzM m):Ran p 4 78 [va K46 m] (rO K4 (dR m,())):=go78 λn hn=>by
 have lp:It (λaA (_:Unit)=>c78_6 (aI p n) aA m) (1:Int) (λ_=>oB (bJ (m.leaves.length - 1) (GA m.leaves))):=by
  have:=It.all (c:=λaA (_:Unit)=>c78_6 (aI p n) aA m) (rA:=λ_=>oB true) (rB:=λ_=>oB false) (λi=>(((i+1:Nat)):Int)) (m.leaves.length - 1) (GA m.leaves) (λi hi aA u rec=>by
   have hi1:i+1<m.leaves.length:=by omega
   have hl:=hz.list
   unfold c78_6;rw[aF (i63 hi1 hl)];refine ql hi1 ?_;refine qz ?_;refine(aD hi1).trans ?_;rw[jB (i63 hi1 hl) (by omega)];refine qz ?_;refine(aD (show i<m.leaves.length by omega)).trans ?_;exact EM) (It.stop λaA u rec=>by
   unfold c78_6;refine qN (show ¬ (((m.leaves.length - 1+1:Nat)):Int)<(m.leaves.length:Int) by omega) ?_;rfl)
  refine cast ?_ this
  congr 1;funext u;exact UH
 rw[<- J6]
 have key:∃ N,∀ aA,N<=aA->T78 (aI p n) aA m=oB (AF m):=by
  obtain⟨N,hN⟩:=lp.all_i
  refine⟨N,λaA hf=>?_⟩
  unfold T78 AF
  refine qC (f85 m.1 0 5) ?_;refine cS λ_=>?_;refine qC (f146 m.2.1) ?_;refine cS λ_=>?_;refine qC (f146 m.2.2.1) ?_;refine cS λ_=>?_;refine sZ λ_=>?_;refine qC (f85 m.2.2.2.1 0 100000) ?_;refine cS λ_=>?_;refine qC (f85 m.hi 0 100000) ?_;refine cS λ_=>?_
  refine qC (f147 m.tree hz.leaves) ?_;refine cS λ_=>?_;refine qC (f148 m.vec 5 100000 hz.vec) ?_;refine cS λ_=>?_;refine qC (f148 m.leaves 4 3 hz.list) ?_;refine cS λ_=>?_;refine qC (f87 m.part (aR hz.part.a) (aR hz.part.b)) ?_;refine cS λ_=>?_;refine qC (f149 m.marks (aR hz.marks)) ?_;refine cS λ_=>?_
  exact hN aA hf ()
 exact key
theorem f44(m:MsgT)(hz:SzM m):Ran p 4 44 [va K46 m] (rO K4 (dR m,())):=go44 λn hn=>by
 have inner:It (λaA (_:Unit)=>c44_10 (aI p n) aA m) (0:Int) (λ_=>oB (kL m.vec 100000&&(inB m.2.2.2.1 0 100000&&(inB m.hi 0 100000&&(treeB m.tree&&(decide ((m.vec.length:Int)<=5)&&(aL m.part&&eM m.marks))))))):=by
  refine It.allB m.vec.length (λi=>inB (gt m.vec i).1 0 100000) _ (λi hi aA u rec=>?_) (It.stop λaA u rec=>?_)
  ·unfold c44_10;rw[aF (i63 hi hz.vec)];refine ql hi ?_;refine qz ?_;refine(aD hi).trans ?_;refine qC (f47 (gt m.vec i).1 0 100000) ?_;exact fin
  ·unfold c44_10;refine qe ?_;refine qC (f47 m.2.2.2.1 0 100000) ?_;refine fC λ_=>?_;refine qC (f47 m.hi 0 100000) ?_;refine fC λ_=>?_;refine qC (f94 m.tree hz.leaves) ?_;refine fC λ_=>?_;refine fC λ_=>?_;refine qC (f49 m.part (aR hz.part.a) (aR hz.part.b)) ?_;refine fC λ_=>?_;refine qC (f95 m.marks (aR hz.marks)) ?_;rfl
 have lp:It (λaA (_:Unit)=>c44_4 (aI p n) aA m) (0:Int) (λ_=>oB (bJ m.leaves.length (xV m.leaves)&&(kL m.vec 100000&&(inB m.2.2.2.1 0 100000&&(inB m.hi 0 100000&&(treeB m.tree&&(decide ((m.vec.length:Int)<=5)&&(aL m.part&&eM m.marks)))))))):=by
  refine It.allB m.leaves.length (xV m.leaves) _ (λi hi aA u rec=>?_) (It.stopE (T:=λaA _=>iter (c44_10 (aI p n) aA m) aA (0:Int)) (λaA u rec=>?_) inner.all_i)
  ·have hl:=hz.list
   unfold c44_4 xV;rw[aF (i63 hi hl)];refine ql hi ?_;refine qz ?_;refine(aD hi).trans ?_;refine qC (f47 (gt m.leaves i).1 0 3) ?_;refine chk λ_=>?_
   cases i with
   | zero=>refine qN (by decide) ?_;rfl
   | succ j=>refine qP (by omega) ?_;rw[jB (i63 hi hl) (by omega)];refine qz ?_;refine(aD (show j<m.leaves.length by omega)).trans ?_;exact EM
  ·unfold c44_4;refine qe ?_;rfl
 have key:∃ N,∀ aA,N<=aA->T44 (aI p n) aA m=oB (dR m):=by
  obtain⟨N,hN⟩:=lp.all_i
  refine⟨N,λaA hf=>?_⟩
  unfold T44 dR pF
  rw[Bool.and_assoc,Bool.and_assoc,Bool.and_assoc]
  refine qC (f47 m.1 0 5) ?_;refine cS λ_=>?_;refine qC (f93 m.2.1) ?_;refine cS λ_=>?_;refine qC (f93 m.2.2.1) ?_;refine cS λ_=>?_;refine sZ λ_=>?_
  exact hN aA hf ()
 exact key
-- what is shipped
theorem HL{n:Nat}{seq:Int}{l:fZ}(h:j6 l seq=true):i64.wrap (seq - l.2.1)=((gH l seq:Nat):Int):=by
 have:=zS h;rw[IntKind.wrap_i64];omega
theorem f273(l:fZ)(seq:Int)(hl:l.2.2.1.length<=aP)(hs:∀ i,i<l.2.2.1.length->SzS (gt l.2.2.1 i)):Ran p 5 273 [va K68 l, vf K3 (seq,())] ⟨[⟨K43,mC l seq⟩,⟨K4,(j6 l seq,())⟩],[]⟩:=go273 λn hn=>by
 cases hb:j6 l seq with
 | false=>
  exact Ev.now λaA=>by
   unfold T273 mC;rw[hb];refine qC (f158 l hl hs) ?_
   cases h1:gM l with
   | false=>rfl
   | true=>refine qf ?_;refine qC (f85 seq l.2.1 (i64.wrap (l.2.1+(l.2.2.1.length:Int)))) ?_;unfold j6 at hb;rw[h1] at hb;rw[show inB seq l.2.1 (i64.wrap (l.2.1+(l.2.2.1.length:Int)))=false from hb];rfl
 | true=>
  have hk:=zS hb
  have hb':=hb
  unfold j6 at hb';rw[Bool.and_eq_true] at hb'
  have lp:It (λaA (_:Unit)=>c273_5 (aI p n) aA l) (((gH l seq:Nat):Int),([]:List bE),([]:List aO)) (λ_=>some ⟨[⟨K43,mC l seq⟩,⟨K4,(true,())⟩],[]⟩):=by
   refine It.run (λi=>(((gH l seq+i:Nat):Int),(oO l.2.2.1 (gH l seq) i).1,(oO l.2.2.1 (gH l seq) i).2.1)) (l.2.2.1.length - gH l seq) (λi hi aA u rec=>?_) (It.stop λaA u rec=>?_)
   ·have hi1:gH l seq+i<l.2.2.1.length:=by omega
    have o1:=(aN _).1 (s9 hb'.1 (gH l seq) i (by omega))
    have o2:=(aN _).1 (show aL (gt l.2.2.1 (gH l seq+i))=true by have h1:=hb'.1;unfold gM at h1;simp only[Bool.and_eq_true] at h1;exact bD.1 h1.2.2.2.2 _ hi1)
    unfold c273_5;dsimp only;rw[aF (i63 hi1 hl)];refine ql hi1 ?_;refine qz ?_;refine(aD hi1).trans ?_;refine qC (f234 (oO l.2.2.1 (gH l seq) i) (gt l.2.2.1 (gH l seq+i)) (zT _ _ _) (hs _ hi1) o1.pos o2.pos) ?_;rfl
   ·unfold c273_5;dsimp only;refine qN (show ¬ ((gH l seq+(l.2.2.1.length - gH l seq):Nat):Int)<(l.2.2.1.length:Int) by omega) ?_;unfold mC;rw[hb];rfl
  exact Ev.eq (λaA=>by unfold T273;refine qC (f158 l hl hs) ?_;rw[hb'.1];refine qf ?_;refine qC (f85 seq l.2.1 (i64.wrap (l.2.1+(l.2.2.1.length:Int)))) ?_;rw[hb'.2];refine qf ?_;rw[HL (n:=0) hb];rfl) (lp.ev (i:=()) rfl)
theorem f268(x:NodeT)(seq:Int)(hz:SzN x):Ran p 6 268 [va K73 x, vf K3 (seq,())] ⟨[⟨K43,sM x seq⟩,⟨K4,(j6 x.log seq,())⟩],[]⟩:=go268 λn hn=>Ev.now λaA=>by
 unfold T268 sM;refine qD (f273 x.log seq hz.list hz.logs) ?_
 cases j6 x.log seq with
 | true=>rfl
 | false=>refine qf ?_;refine qC (f73 x.state hz.state) ?_;rfl
theorem NW{s:aE}(h:aL s=true):s.1.length<=1000/\s.2.1.length<=1000:=by have:=((aN s).1 h).len;omega
theorem f280(x:NodeT)(ls:List aH)(seq:Int)(hz:SzN x)(h:NodeOk x)(hl:ls.length<=aP):Ran p 7 280 [va K73 x, vf K29 (ls,()), vf K3 (seq,())] (rO K43 (FV x ls seq)):=go280 λn hn=>Ev.now λaA=>by
 have hm:=NW h.state
 unfold T280;refine qD (f268 x seq hz) ?_;refine qC (f244 x.state ls (aR hl) hm.1 hm.2) ?_;refine qC (f234 (jO x.state ls) (sM x seq) (NX hz.state ls) (FE hz seq) ((aN _).1 (NY h.state ls)).pos ((aN _).1 (N1 h seq)).pos) ?_;rfl
end Go.Abs.Uz
set_option maxHeartbeats 2000000
namespace Go.Abs.Uz
open Go Go.Abs
theorem CW(ls:List aH):(aG (ls.length:Int)++bW ls.length λi=>aG (gt ls i).1)=cX ls:=by
 unfold cX cR;rw[bV (λx:aH=>aG x.1) ls]
theorem f98(ls:List aH)(hl:ls.length<=100):Ran p 3 98 [vf K29 (ls,())] (rO K22 (cX ls,())):=go98 λn hn=>by
 have hp:=aX (ls.length:Int)
 have lp:It (λaA (_:Unit)=>c98_3 (aI p n) aA ls) ((0:Int),aG (ls.length:Int)) (λ_=>oL (cX ls)):=by
  refine It.accu (α:=aH) (aG (ls.length:Int)) (λi=>aG (gt ls i).1) ls.length 5 (λi hi=>aX _) (λi hi acc ha aA a rec=>?_) (It.stop λaA a rec=>?_)
  ·unfold c98_3;dsimp only;rw[aF (show i<9223372036854775807 by omega)];refine ql hi ?_;refine qz ?_;refine(aD hi).trans ?_;refine qC (f97 (gt ls i).1) ?_
   refine qC (f96 [(acc,()),(aG (gt ls i).1,())] 2000 (kK (by
    intro r hr;simp only[List.mem_cons,List.not_mem_nil,or_false] at hr
    rcases hr with rfl | rfl
    ·show acc.length<=2000;omega
    ·exact dH (by decide))) (by show 2*2000<=4294967296;omega) (by show 2<=9223372036854775807;omega)) ?_
   exact congrArg (λl:List aH=>rec (((i+1:Nat):Int),l)) (by simp:List.flatMap (λr:bM=>r.1) [(acc,()),(aG (gt ls i).1,())]=acc++aG (gt ls i).1)
  ·unfold c98_3;refine qe ?_;exact congrArg oL (CW ls)
 exact Ev.eq (λaA=>by unfold T98;refine qC (f97 (ls.length:Int)) ?_;rfl) (lp.ev (i:=()) rfl)
theorem f198(ls:List aH)(hl:ls.length<=100):Ran p 3 198 [vf K29 (ls,())] (rO K22 (cX ls,())):=go198 λn hn=>by
 have hp:=aX (ls.length:Int)
 have lp:It (λaA (_:Unit)=>c198_3 (aI p n) aA ls) ((0:Int),aG (ls.length:Int)) (λ_=>oL (cX ls)):=by
  refine It.accu (α:=aH) (aG (ls.length:Int)) (λi=>aG (gt ls i).1) ls.length 5 (λi hi=>aX _) (λi hi acc ha aA a rec=>?_) (It.stop λaA a rec=>?_)
  ·replace ha:acc.length+(aG (gt ls i).1).length<=(aG (ls.length:Int)).length+ls.length*5:=ha
   unfold c198_3;dsimp only;rw[aF (show i<9223372036854775807 by omega)];refine ql hi ?_;refine qz ?_;refine(aD hi).trans ?_;refine qC (f196 (gt ls i).1) ?_;refine qP (by show acc.length+(aG (gt ls i).1).length<=4294967296;omega) ?_;rfl
  ·unfold c198_3;refine qe ?_;exact congrArg oL (CW ls)
 exact Ev.eq (λaA=>by unfold T198;refine qC (f196 (ls.length:Int)) ?_;rfl) (lp.ev (i:=()) rfl)
theorem f99(b:List aH)(hb:ByL b)(hl:b.length<=aP):Ran p 2 99 [vf K22 (b,())] (rO K22 (uK b,())):=go99 λn hn=>Ev.now λaA=>by
 have h:=I7 hb
 unfold T99;refine qC (f167 b (Nat.le_trans hl (by decide))) ?_;refine qN (by decide) ?_;refine qN (by decide) ?_;refine qN (by decide) ?_;exact congrArg oL (NR h.2 h.1)
theorem f74(b:List aH)(hb:ByL b)(hl:b.length<=aP):Ran p 2 74 [vf K22 (b,())] (rO K22 (uK b,())):=go74 λn hn=>Ev.now λaA=>by
 have h:=I7 hb
 unfold T74;refine qC (f142 b (Nat.le_trans hl (by decide))) ?_;refine qN (by decide) ?_;refine qN (by decide) ?_;refine qN (by decide) ?_;refine qN (by decide) ?_;refine qN (by decide) ?_;refine qN (by decide) ?_;exact congrArg oL (NQ h.2 h.1)
-- the body of a message, as both write it
def oD(m:MsgT):List aH:=rk2++cR (fG m)++cX m.tree.1++aG m.tree.2.1++cX m.vec++cX m.leaves++aG (((bI m.part).length:Nat):Int)
theorem G0(m:MsgT):oD m++bI m.part++aG (m.marks.length:Int)++m.marks.flatMap aV=dV m:=by
 unfold oD dV sR;simp only[List.append_assoc]
structure BodyL (m:MsgT):Prop where
 h5:(cR (fG m)).length<=25
 a:(cX m.tree.1).length<=25
 b:(aG m.tree.2.1).length<=5
 c:(cX m.vec).length<=30
 d:(cX m.leaves).length<=25
 e:(aG (((bI m.part).length:Nat):Int)).length<=5
 f:(bI m.part).length<=250
 g:(aG (m.marks.length:Int)).length<=5
 k:m.marks.length<=5
theorem wC(ls:List aH):(cX ls).length<=5+ls.length*5:=by
 have h1:=aX (ls.length:Int);have h2:=lT ls
 unfold cX;rw[List.length_append];omega
theorem TL{m:MsgT}(h:MsgR m):BodyL m:=by
 have h1:=wC m.tree.1;have h2:=wC m.vec;have h3:=wC m.leaves
 have l1:=h.tree.1;have l2:=h.vec.1;have l3:=h.leaves.1
 exact⟨lT (fG m),by omega,aX _,by omega,by omega,aX _,oC ((aN _).1 h.part),aX _,h.marks.1⟩
theorem f150(m:MsgT)(h:dR m=true):Ran p 5 150 [va K46 m] (rO K22 (dV m,())):=go150 λn hn=>by
 have hr:=pE h
 have L:=TL hr
 have l1:=L.h5;have l2:=L.a;have l3:=L.b;have l4:=L.c;have l5:=L.d;have l6:=L.e;have l7:=L.f;have l8:=L.g;have l9:=L.k
 have t1:=hr.tree.1;have t2:=hr.vec.1;have t3:=hr.leaves.1
 have l0:rk2.length=2:=rfl
 have hok:StateOk m.part:=(aN _).1 hr.part
 have mk:∀ pre:List aH,pre.length<=1000->It (λaA (_:Unit)=>c150_16 (aI p n) aA m) ((0:Int),pre) (λ_=>oL (pre++m.marks.flatMap aV)):=by
  intro pre hp
  refine It.accu (α:=aH) pre (λi=>aV (gt m.marks i)) m.marks.length 10 (λi hi=>fM _) (λi hi acc ha aA a rec=>?_) (It.stop λaA a rec=>?_)
  ·have ha':acc.length+(aV (gt m.marks i)).length<=1050:=by omega
   unfold aV at ha';rw[List.length_append] at ha'
   unfold c150_16;dsimp only;rw[aF (show i<9223372036854775807 by omega)];refine ql hi ?_;refine qz ?_;refine(aD hi).trans ?_;refine qC (f196 (gt m.marks i).1) ?_;refine qP (by show acc.length+(aG (gt m.marks i).1).length<=4294967296;omega) ?_;refine qz ?_;refine(aD hi).trans ?_;refine qC (f196 (gt m.marks i).2.1) ?_
   refine qP (by show(acc++aG (gt m.marks i).1).length+(aG (gt m.marks i).2.1).length<=4294967296;rw[List.length_append];omega) ?_
   exact congrArg (λl:List aH=>rec (((i+1:Nat):Int),l)) (List.append_assoc _ _ _)
  ·unfold c150_16;refine qe ?_;exact congrArg (λl:List aH=>oL (pre++l)) (bV aV m.marks)
 have body0:=mk (oD m++bI m.part++aG (m.marks.length:Int)) (by unfold oD;simp only[List.length_append];dsimp only[MsgT.tree] at*;omega)
 rw[G0] at body0
 have lp:It (λaA (_:Unit)=>c150_4 (aI p n) aA m) ((0:Int),rk2) (λ_=>oL (dV m)):=by
  refine It.accu (α:=aH) rk2 (λi=>aG (gt (fG m) i).1) 5 5 (λi hi=>aX _) (λi hi acc ha aA a rec=>?_)
   (It.stopE (T:=λaA _=>iter (c150_16 (aI p n) aA m) aA ((0:Int),oD m++bI m.part++aG (m.marks.length:Int))) (λaA a rec=>?_) body0.all_i)
  ·replace ha:acc.length+(aG (gt (fG m) i).1).length<=2+5*5:=ha
   have hi5:i<(fG m).length:=hi
   unfold c150_4;dsimp only;rw[aF (show i<9223372036854775807 by omega)];refine ql hi5 ?_;refine qz ?_;refine(aD hi5).trans ?_;refine(aD hi5).trans ?_;refine qC (f196 (gt (fG m) i).1) ?_;refine qP (by show acc.length+(aG (gt (fG m) i).1).length<=4294967296;omega) ?_;rfl
  ·have e0:(rk2++bW 5 λi=>aG (gt (fG m) i).1)=rk2++cR (fG m):=congrArg (λl=>rk2++l) (bV (λx:aH=>aG x.1) (fG m))
   show c150_4 (aI p n) aA m rec (((5:Nat):Int),rk2++bW 5 λi=>aG (gt (fG m) i).1)=_
   rw[e0]
   have b1:(rk2++cR (fG m)).length+(cX m.tree.1).length<=bound:=by unfold bound;simp only[List.length_append];dsimp only[MsgT.tree] at*;omega
   have b2:(rk2++cR (fG m)++cX m.tree.1).length+(aG m.tree.2.1).length<=bound:=by unfold bound;simp only[List.length_append];dsimp only[MsgT.tree] at*;omega
   have b3:(rk2++cR (fG m)++cX m.tree.1++aG m.tree.2.1).length+(cX m.vec).length<=bound:=by unfold bound;simp only[List.length_append];dsimp only[MsgT.tree] at*;omega
   have b4:(rk2++cR (fG m)++cX m.tree.1++aG m.tree.2.1++cX m.vec).length+(cX m.leaves).length<=bound:=by unfold bound;simp only[List.length_append];dsimp only[MsgT.tree] at*;omega
   have b5:(rk2++cR (fG m)++cX m.tree.1++aG m.tree.2.1++cX m.vec++cX m.leaves).length+(aG (((bI m.part).length:Nat):Int)).length<=bound:=by unfold bound;simp only[List.length_append];dsimp only[MsgT.tree] at*;omega
   have b6:(oD m).length+(bI m.part).length<=bound:=by unfold bound oD;simp only[List.length_append];dsimp only[MsgT.tree] at*;omega
   have b7:(oD m++bI m.part).length+(aG (m.marks.length:Int)).length<=bound:=by unfold bound oD;simp only[List.length_append];dsimp only[MsgT.tree] at*;omega
   unfold c150_4;dsimp only;refine qN (show ¬ ((5:Int)<5) by decide) ?_;refine qC (f198 m.tree.1 (by omega)) ?_;refine qP b1 ?_;refine qC (f196 m.tree.2.1) ?_;refine qP b2 ?_;refine qC (f198 m.vec (by omega)) ?_;refine qP b3 ?_;refine qC (f198 m.leaves (by omega)) ?_;refine qP b4 ?_;refine qC (f145 m.part hok) ?_;refine qC (f196 (((bI m.part).length:Nat):Int)) ?_;refine qP b5 ?_;refine qP b6 ?_;refine qC (f196 (m.marks.length:Int)) ?_;refine qP b7 ?_;rfl
 exact Ev.eq (λaA=>by unfold T150;rfl) (lp.ev (i:=()) rfl)
theorem xU{m:MsgT}(h:dR m=false):bG m=[]:=by unfold bG;rw[h];rfl
theorem f79(m:MsgT)(hz:SzM m):Ran p 6 79 [va K46 m] (rO K22 (bG m,())):=go79 λn hn=>Ev.now λaA=>by
 unfold T79;refine qC (f78 m hz) ?_
 cases h:dR m with
 | false=>refine qt ?_;rw[xU h];rfl
 | true=>
  have hl:=BI (pE h)
  have hb:(dV m).length+(uK (dV m)).length<=bound:=by rw[uJ];unfold bound;omega
  rw[mO h];refine qf ?_;refine qC (f150 m h) ?_;refine qC (f74 (dV m) (vN m) (Nat.le_trans hl (by decide))) ?_;refine qP hb ?_;rfl
theorem f46(m:MsgT)(hz:SzM m):Ran p 5 46 [va K46 m] (rO K22 (bG m,())):=go46 λn hn=>by
 cases h:dR m with
 | false=>exact Ev.now λaA=>by unfold T46;refine qC (f44 m hz) ?_;rw[h];refine qt ?_;rw[xU h];rfl
 | true=>
  have hr:=pE h
  have L:=TL hr
  have l1:=L.h5;have l2:=L.a;have l3:=L.b;have l4:=L.c;have l5:=L.d;have l6:=L.e;have l7:=L.f;have l8:=L.g;have l9:=L.k
  have t1:=hr.tree.1;have t2:=hr.vec.1;have t3:=hr.leaves.1
  have l0:rk2.length=2:=rfl
  have hok:StateOk m.part:=(aN _).1 hr.part
  have hl:=BI hr
  have mk:∀ pre:List aH,pre.length<=1000->pre++m.marks.flatMap aV=dV m->It (λaA (_:Unit)=>c46_6 (aI p n) aA m) ((0:Int),pre) (λ_=>oL (cM m)):=by
   intro pre hp he
   refine It.accu (α:=aH) pre (λi=>aV (gt m.marks i)) m.marks.length 10 (λi hi=>fM _) (λi hi acc ha aA a rec=>?_) (It.stop λaA a rec=>?_)
   ·unfold c46_6;dsimp only;rw[aF (show i<9223372036854775807 by omega)];refine ql hi ?_;refine qz ?_;refine(aD hi).trans ?_;refine qC (f97 (gt m.marks i).1) ?_;refine qC (f97 (gt m.marks i).2.1) ?_
    refine qC (f96 [(acc,()),(aG (gt m.marks i).1,()),(aG (gt m.marks i).2.1,())] 2000 (kK (by
     intro r hr;simp only[List.mem_cons,List.not_mem_nil,or_false] at hr
     rcases hr with rfl | rfl | rfl
     ·show acc.length<=2000;omega
     ·exact dH (by decide)
     ·exact dH (by decide))) (by show 3*2000<=4294967296;omega) (by show 3<=9223372036854775807;omega)) ?_
    exact congrArg (λl:List aH=>rec (((i+1:Nat):Int),l)) (by simp[aV]:List.flatMap (λr:bM=>r.1) [(acc,()),(aG (gt m.marks i).1,()),(aG (gt m.marks i).2.1,())]=acc++aV (gt m.marks i))
   ·have e1:(pre++bW m.marks.length λi=>aV (gt m.marks i))=dV m:=(congrArg (λl=>pre++l) (bV aV m.marks)).trans he
    show c46_6 (aI p n) aA m rec ((m.marks.length:Int),pre++bW m.marks.length λi=>aV (gt m.marks i))=_
    rw[e1]
    unfold c46_6;refine qe ?_;refine qC (f99 (dV m) (vN m) (Nat.le_trans hl (by decide))) ?_
    refine qC (f96 [(dV m,()),(uK (dV m),())] 2000 (kK (by
     intro r hr;simp only[List.mem_cons,List.not_mem_nil,or_false] at hr
     rcases hr with rfl | rfl
     ·show(dV m).length<=2000;omega
     ·show(uK (dV m)).length<=2000;rw[uJ];omega)) (by show 2*2000<=4294967296;omega) (by show 2<=9223372036854775807;omega)) ?_
    exact congrArg oL (by simp[cM]:List.flatMap (λr:bM=>r.1) [(dV m,()),(uK (dV m),())]=cM m)
  have hP:(List.flatMap (λr:bM=>r.1) [(rk2,()),(aG m.1,()),(aG m.2.1,()),(aG m.2.2.1,()),(aG m.2.2.2.1,()),(aG m.hi,()),(cX m.tree.1,()),(aG m.tree.2.1,()),(cX m.vec,()),(cX m.leaves,()),(aG (((bI m.part).length:Nat):Int),()),(bI m.part,()),(aG (m.marks.length:Int),())])=oD m++bI m.part++aG (m.marks.length:Int):=by
   unfold oD cR fG;simp only[List.flatMap_cons,List.flatMap_nil,List.append_assoc,List.append_nil]
  have body0:=mk (oD m++bI m.part++aG (m.marks.length:Int)) (by unfold oD;simp only[List.length_append];dsimp only[MsgT.tree] at*;omega) (G0 m)
  rw[mO h]
  exact Ev.eq (λaA=>by
   unfold T46;refine qC (f44 m hz) ?_;rw[h];refine qf ?_;refine qC (f92 m.part hok) ?_;refine qP (show 0<2 by decide) ?_
   refine qC (f97 m.1) ?_;refine qC (f97 m.2.1) ?_;refine qC (f97 m.2.2.1) ?_;refine qC (f97 m.2.2.2.1) ?_;refine qC (f97 m.hi) ?_;refine qC (f98 m.tree.1 (by omega)) ?_;refine qC (f97 m.tree.2.1) ?_;refine qC (f98 m.vec (by omega)) ?_;refine qC (f98 m.leaves (by omega)) ?_;refine qC (f97 (((bI m.part).length:Nat):Int)) ?_;refine qC (f97 (m.marks.length:Int)) ?_
   refine qC (f96 [(rk2,()),(aG m.1,()),(aG m.2.1,()),(aG m.2.2.1,()),(aG m.2.2.2.1,()),(aG m.hi,()),(cX m.tree.1,()),(aG m.tree.2.1,()),(cX m.vec,()),(cX m.leaves,()),(aG (((bI m.part).length:Nat):Int),()),(bI m.part,()),(aG (m.marks.length:Int),())] 2000 (kK (by
    intro r hr;simp only[List.mem_cons,List.not_mem_nil,or_false] at hr
    rcases hr with rfl | rfl | rfl | rfl | rfl | rfl | rfl | rfl | rfl | rfl | rfl | rfl | rfl
    ·show rk2.length<=2000;omega
    ·exact dH (by decide)
    ·exact dH (by decide)
    ·exact dH (by decide)
    ·exact dH (by decide)
    ·exact dH (by decide)
    ·show(cX m.tree.1).length<=2000;omega
    ·exact dH (by decide)
    ·show(cX m.vec).length<=2000;omega
    ·show(cX m.leaves).length<=2000;omega
    ·exact dH (by decide)
    ·show(bI m.part).length<=2000;omega
    ·exact dH (by decide))) (by show 13*2000<=4294967296;omega) (by show 13<=9223372036854775807;omega)) ?_
   exact congrArg (λl:List aH=>iter (c46_6 (aI p n) aA m) aA ((0:Int),l)) hP) (body0.ev (i:=()) rfl)
end Go.Abs.Uz
namespace Go.Abs.Uz
open Go Go.Abs
theorem f282(a b:kS):Ran p 1 282 [va K39 a, va K39 b] (rO K29 (mE a b,())):=go282 λn hn=>by
 cases h0:a.2.1==b.2.1 with
 | true=>exact Ev.now λaA=>by unfold T282 mE;rw[h0];exact mG rfl
 | false=>
  have lp:It (λaA (_:Unit)=>c282_5 (aI p n) aA a b) ((0:Int),([]:List aH)) (λ_=>rV K29 (bW 4 (lJ a b),())):=by
   refine It.accu (α:=aH) [] (lJ a b) 4 1 (λi _=>yG a b i) (λi hi acc ha aA u rec=>?_) (It.stop λaA u rec=>?_)
   ·show c282_5 (aI p n) aA a b rec ((i:Int),acc)=rec (((i+1:Nat):Int),acc++lJ a b i)
    have hb:acc.length+1<=bound+(1 - (lJ a b i).length):=by simp at ha;unfold bound;omega
    unfold c282_5;dsimp only;rw[aF (show i<9223372036854775807 by omega)];refine qP (show(i:Int)<4 by omega) ?_
    unfold lJ at hb ⊢
    cases h1:(a.1.length:Int) != 4 with
    | true=>refine qT h1 ?_;refine qP (by rw[h1] at hb;exact hb) ?_;rfl
    | false=>
     refine qF h1 ?_
     cases h2:(b.1.length:Int) != 4 with
     | true=>refine qT h2 ?_;refine qP (by rw[h1,h2] at hb;exact hb) ?_;rfl
     | false=>
      have e1:a.1.length=4:=by rw[bne_eq_false_iff_eq] at h1;omega
      have e2:b.1.length=4:=by rw[bne_eq_false_iff_eq] at h2;omega
      refine qF h2 ?_;refine qz ?_;refine(aD (show i<a.1.length by omega)).trans ?_;refine qz ?_;refine(aD (show i<b.1.length by omega)).trans ?_
      cases h3:(gt a.1 i).1 != (gt b.1 i).1 with
      | true=>refine qt ?_;refine qP (by rw[h1,h2,h3] at hb;exact hb) ?_;rfl
      | false=>refine qf ?_;show rec _=rec _;rw[show(bif false then[((i:Int),())] else bif false then[((i:Int),())] else bif false then[((i:Int),())] else[])=([]:List aH)from rfl,List.append_nil];rfl
   ·unfold c282_5;dsimp only;refine qe ?_;rfl
  have e:mE a b=bW 4 (lJ a b):=by unfold mE;rw[h0];rfl
  rw[e]
  exact Ev.eq (λaA=>by unfold T282;exact iM h0) (lp.ev (i:=()) rfl)
theorem f240(nd:NodeT)(x:Int)(b:Bool)(hv:nd.sess.length<=aP):Ran p 1 240 [va K73 nd, vf K3 (x,()), vf K4 (b,())] (rO K3 (dE nd.sess x b,())):=go240 λn hn=>by
 have key:∀ {i:Nat} {α:Type} {X R:α},(bif(gt nd.sess i).1==x then(bif rP (gt nd.sess i).2.2.1 b then X else R)else R)=bif dJ nd.sess i x b then X else R:=two
 have lp:It (λaA (_:Unit)=>c240_2 (aI p n) aA nd x b) (0:Int) (λ_=>oI (dE nd.sess x b)):=by
  have:=It.first (c:=λaA (_:Unit)=>c240_2 (aI p n) aA nd x b) (λi=>(i:Int)) nd.sess.length (λi=>dJ nd.sess i x b) (λi _=>oI (i:Int)) (λ_=>oI (-1)) (λi hi hp aA a rec=>?_) (λi hi hp=>It.stop λaA a rec=>?_) (It.stop λaA a rec=>?_)
  ·revert this;unfold dE
   cases (List.range nd.sess.length).find? (λi=>dJ nd.sess i x b)<;>exact λh=>h
  ·have hb:=bN hi hv
   unfold c240_2;rw[aF hb];refine ql hi ?_;refine qz ?_;refine(aD hi).trans ?_
   unfold dJ at hp
   cases h1:(gt nd.sess i).1==x with
   | false=>exact iM rfl
   | true=>refine qt ?_;refine qz ?_;refine(aD hi).trans ?_;rw[h1] at hp;exact iM hp
  ·unfold c240_2;refine ql hi ?_;refine qz ?_;refine(aD hi).trans ?_
   unfold dJ at hp;rw[Bool.and_eq_true] at hp
   refine qT hp.1 ?_;refine qz ?_;refine(aD hi).trans ?_;exact mG hp.2
  ·unfold c240_2;refine qe ?_;rfl
 exact Ev.eq (λaA=>by unfold T240;rfl) (lp.ev (i:=()) rfl)
theorem f241(x:NodeT)(k to num:Int)(hz:SzN x):Ran p 6 241 [va K73 x, vf K3 (k,()), vf K3 (to,()), vf K3 (num,())] (rO K46 (SM x k to num)):=go241 λn hn=>Ev.now λaA=>by
 unfold T241;refine qC (f160 x.log hz.list hz.logs) ?_;refine qP (gX hz.got) ?_;refine qC (f207 x.state hz.state) ?_;rfl
structure Hears (x:NodeT) (m:MsgT):Prop where
 szn:SzN x
 szm:SzM m
 node:NodeOk x
 id:0<=x.1
 vec:x.1.toNat<m.vec.length
theorem f276(x:NodeT)(m:MsgT)(h:Hears x m):Ran p 8 276 [va K73 x, va K46 m] (rO K73 (eC x m)):=go276 λn hn=>Ev.now λaA=>by
 unfold T276;refine qC (f72 x h.szn) ?_;refine qP h.id ?_;refine(aZ h.vec).trans ?_;refine qC (f160 x.log h.szn.list h.szn.logs) ?_;refine qC (f256 (gt m.vec x.1.toNat).1 (cA x.log)) ?_;refine qC (f281 x.acked m.2.1 (mxI false (gt m.vec x.1.toNat).1 (cA x.log)) h.szn.acked) ?_;refine qC (f206 x.seen m.2.1 m.marks h.szn.seen h.szn.lines h.szm.marks) ?_;refine qC (f203 (heard0 x m) i9 (CY h.szn m) kC (DN (h.node.heard0 m)) y4) ?_;rfl
theorem f275(x:NodeT)(m:MsgT)(h:Hears x m)(hp:aL m.part=true):Ran p 9 275 [va K73 x, va K46 m] (rO K73 (dY x m)):=go275 λn hn=>Ev.now λaA=>by
 have hs:=lV (lR h.szn m) m.part
 unfold T275;refine qC (f276 x m h) ?_;refine qC (f203 (eC x m) m.part (lR h.szn m) h.szm.part (DN (h.node.heard m)) hp) ?_;refine qC (f281 (jM (eC x m) m.part).got m.2.1 m.hi hs.got) ?_;rfl
end Go.Abs.Uz
namespace Go.Abs.Uz
open Go Go.Abs
theorem f278(x:NodeT)(m:MsgT)(b:Bool)(hv:x.sess.length<=aP):Ran p 2 278 [va K73 x, va K46 m, vf K4 (b,())] (rO K3 (sV x m b,())):=go278 λn hn=>Ev.now λaA=>by
 unfold T278 sV;refine qC (f240 x m.2.1 b hv) ?_
 rcases hX x.sess m.2.1 b with ⟨k,hk,e,_⟩ | ⟨e,_⟩<;>rw[e]
 ·refine qz ?_;refine qz ?_;refine(aD hk).trans ?_;rw[decide_eq_true (show((k:Nat):Int)>=0 by omega),Int.toNat_natCast]
  cases (gt x.sess k).2.1 != m.2.2.2.1<;>rfl
 ·rfl
theorem f279(x:NodeT)(k:Nat)(hz:SzN x)(hk:k<x.sess.length):Ran p 4 279 [va K73 x, vf K3 ((k:Int),())] (rO K73 (kP x k)):=go279 λn hn=>Ev.now λaA=>by
 rw[<- OH hk hz.sess]
 unfold T279;refine qC (f72 x hz) ?_;exact QE hk hz.sess
theorem Hears.of{x:NodeT}{m:MsgT}(hz:SzN x)(hm:SzM m)(h:RecOk x m):Hears x m:=
 ⟨hz,hm,h.node,h.idn.1,by have h1:=h.idn;have h2:=h.vec;omega⟩
theorem RI{x:NodeT}{k:Nat}(hk:k<x.sess.length)(num:Int):(x.sess.set k ((gt x.sess k).1,num,(gt x.sess k).2.2)).set k ((gt (x.sess.set k ((gt x.sess k).1,num,(gt x.sess k).2.2)) k).1,(gt (x.sess.set k ((gt x.sess k).1,num,(gt x.sess k).2.2)) k).2.1,(gt (x.sess.set k ((gt x.sess k).1,num,(gt x.sess k).2.2)) k).2.2.1,(0:Int),(gt (x.sess.set k ((gt x.sess k).1,num,(gt x.sess k).2.2)) k).2.2.2.2)=pA x k num:=by
 rw[bX hk,CE];rfl
theorem U9{x:NodeT}{m:MsgT}{k:Nat}(e:dE x.sess m.2.1 true=(k:Int)):lD x m=false/\hU x m=pA x k m.2.2.2.1:=by
 unfold lD hU;rw[e,decide_eq_true (show((k:Nat):Int)>=0 by omega)];exact⟨rfl,by rw[Int.toNat_natCast];rfl⟩
theorem U8{x:NodeT}{m:MsgT}(e:dE x.sess m.2.1 true= -1):lD x m=((x.sess.length:Int)==x.slots)/\hU x m=lK x m:=by
 unfold lD hU;rw[e];exact⟨rfl,rfl⟩
theorem f277(x:NodeT)(m:MsgT)(hz:SzN x)(hm:SzM m)(R:RecOk x m):Ran p 9 277 [va K73 x, va K46 m] ⟨[⟨K73,(oY x m).1⟩,⟨K288,((oY x m).2.1,())⟩,⟨K3,((oY x m).2.2,())⟩],[]⟩:=go277 λn hn=>Ev.now λaA=>by
 have h0:=R.idn.1
 have hv:x.1.toNat<m.vec.length:=(Hears.of hz hm R).vec
 have go:lD x m=false->∀ {y:NodeT},withS x (hU x m)=y->Hears y m/\NodeOk (eC y m)/\SzN (eC y m)/\oY x m=(eC y m,[HQ (eC y m) x m],0):=by
  intro hf y e
  have hr:=R.syn hf
  have hs:=uB hz (xE R.node m)
  rw[e] at hr hs
  refine⟨Hears.of hs hm hr,hr.node.heard m,lR hs m,?_⟩
  unfold oY LC;rw[hf,e];rfl
 unfold T277;refine qC (f72 x hz) ?_;refine qC (f240 x m.2.1 true hz.sess) ?_
 rcases hX x.sess m.2.1 true with ⟨k,hk,e,_⟩ | ⟨e,_⟩
 ·obtain⟨hf,hs⟩:=U9 e
  have hk2:k<(x.sess.set k ((gt x.sess k).1,m.2.2.2.1,(gt x.sess k).2.2)).length:=by rw[List.length_set];exact hk
  obtain⟨hh,ho,hz2,he⟩:=go hf (y:=withS x ((x.sess.set k ((gt x.sess k).1,m.2.2.2.1,(gt x.sess k).2.2)).set k ((gt (x.sess.set k ((gt x.sess k).1,m.2.2.2.1,(gt x.sess k).2.2)) k).1,(gt (x.sess.set k ((gt x.sess k).1,m.2.2.2.1,(gt x.sess k).2.2)) k).2.1,(gt (x.sess.set k ((gt x.sess k).1,m.2.2.2.1,(gt x.sess k).2.2)) k).2.2.1,(0:Int),(gt (x.sess.set k ((gt x.sess k).1,m.2.2.2.1,(gt x.sess k).2.2)) k).2.2.2.2))) (by rw[hs,RI hk])
  rw[he,e];refine qz ?_;refine qz ?_;refine(aD hk).trans ?_;refine(aD hk).trans ?_;refine qz ?_;refine(aD hk2).trans ?_;refine(aD hk2).trans ?_
  refine qC (f276 _ m hh) ?_;refine qC (f241 _ 3 m.2.1 m.2.2.2.1 hz2) ?_;refine qC (f139 (eC _ m).tree hz2.leaves) ?_;refine qC (f282 (eC _ m).tree m.tree) ?_;refine qP h0 ?_;refine(aZ hv).trans ?_;refine qC (f280 _ (mE (eC _ m).tree m.tree) (gt m.vec x.1.toNat).1 hz2 ho (Nat.le_trans (tU _ _) (by decide))) ?_;rfl
 ·obtain⟨hf,hs⟩:=U8 e
  rw[e];refine qf ?_
  cases hl:(x.sess.length:Int)==x.slots with
  | true=>
   rw[hl] at hf
   refine qT hl ?_;refine qC (f241 x 5 m.2.1 m.2.2.2.1 hz) ?_;unfold oY;rw[hf];rfl
  | false=>
   rw[hl] at hf
   obtain⟨hh,ho,hz2,he⟩:=go hf (y:=withS x (lK x m)) (by rw[hs])
   have hb:x.sess.length+1<=bound:=by have:=hz.sess;unfold aP at this;unfold bound;omega
   rw[he];refine qF hl ?_;refine qP hb ?_
   refine qC (f276 (withS x (lK x m)) m hh) ?_;refine qC (f241 _ 3 m.2.1 m.2.2.2.1 hz2) ?_;refine qC (f139 (eC _ m).tree hz2.leaves) ?_;refine qC (f282 (eC _ m).tree m.tree) ?_;refine qP h0 ?_;refine(aZ hv).trans ?_;refine qC (f280 _ (mE (eC _ m).tree m.tree) (gt m.vec x.1.toNat).1 hz2 ho (Nat.le_trans (tU _ _) (by decide))) ?_;rfl
end Go.Abs.Uz
namespace Go.Abs.Uz
open Go Go.Abs
def OC(r:JO):Out:=⟨[⟨K73,r.1⟩,⟨K288,(r.2.1,())⟩,⟨K3,(r.2.2,())⟩],[]⟩
theorem I1(x:NodeT)(m:MsgT)(b:Bool):(sV x m b<0/\(dE x.sess m.2.1 b= -1\/∃ k:Nat,k<x.sess.length/\dE x.sess m.2.1 b=(k:Int)/\((gt x.sess k).2.1 != m.2.2.2.1)=true))\/∃ k:Nat,k<x.sess.length/\dE x.sess m.2.1 b=(k:Int)/\((gt x.sess k).2.1 != m.2.2.2.1)=false/\sV x m b=(k:Int):=by
 unfold sV
 rcases hX x.sess m.2.1 b with ⟨k,hk,e,_⟩ | ⟨e,_⟩<;>rw[e]
 ·rw[decide_eq_true (show((k:Nat):Int)>=0 by omega),Int.toNat_natCast]
  cases h:(gt x.sess k).2.1 != m.2.2.2.1 with
  | true=>exact .inl ⟨by show(-1:Int)<0;omega,.inr ⟨k,hk,rfl,h⟩⟩
  | false=>exact .inr ⟨k,hk,rfl,h,rfl⟩
 ·exact .inl ⟨by show(-1:Int)<0;omega,.inl rfl⟩
theorem LS{x:NodeT}{m:MsgT}(h0:(m.1==0)=false)(h1:(m.1==1)=false)(h2:(m.1==2)=false){b:Bool}(h4:(m.1==4)=b)(hf:sV x m b<0):zZ x m=(x,[],2):=by
 unfold zZ;rw[h0,h1,h2,h4,decide_eq_true hf];rfl
theorem OD{x:NodeT}{m:MsgT}(h0:(m.1==0)=false)(h1:(m.1==1)=false)(h2:(m.1==2)=false){b:Bool}(h4:(m.1==4)=b){k:Nat}(hf:sV x m b=(k:Int)):zZ x m=tE x m k:=by
 unfold zZ;rw[h0,h1,h2,h4,hf,decide_eq_false (show ¬ (k:Int)<0 by omega)];rfl
theorem f274(x:NodeT)(m:MsgT)(hz:SzN x)(hm:SzM m):Ran p 10 274 [va K73 x, va K46 m] (OC (gU x m)):=go274 λn hn=>Ev.now λaA=>by
 have bad:mM x m=false->(some ⟨[⟨K73,x⟩,⟨K288,(([]:List MsgT),())⟩,⟨K3,((1:Int),())⟩],[]⟩:Option Out)=some (OC (gU x m)):=λh=>by rw[RZ h];rfl
 unfold T274;refine qC (f86 x hz) ?_
 cases g1:dU x with
 | false=>refine qt ?_;refine qC (f72 x hz) ?_;exact bad (by unfold mM;rw[g1];rfl)
 | true=>
 refine qf ?_;refine qC (f78 m hm) ?_
 cases g2:dR m with
 | false=>refine qt ?_;refine qC (f72 x hz) ?_;exact bad (by unfold mM;rw[g1,g2];rfl)
 | true=>
 refine qf ?_
 cases g3:m.2.2.1==x.1 with
 | false=>refine qT (show(m.2.2.1 != x.1)=true by unfold bne;rw[g3];rfl) ?_;refine qC (f72 x hz) ?_;exact bad (by unfold mM;rw[g1,g2,g3];rfl)
 | true=>
 refine qF (show(m.2.2.1 != x.1)=false by unfold bne;rw[g3];rfl) ?_
 by_cases g4:m.2.1>=x.2.1
 ·refine qP g4 ?_;refine qC (f72 x hz) ?_;exact bad (by unfold mM;rw[g1,g2,g3,decide_eq_true g4];rfl)
 refine qN g4 ?_
 cases g5:(m.vec.length:Int)==x.2.1 with
 | false=>refine qT (show((m.vec.length:Int) != x.2.1)=true by unfold bne;rw[g5];rfl) ?_;refine qC (f72 x hz) ?_;exact bad (by unfold mM;rw[g1,g2,g3,decide_eq_false g4,g5];rfl)
 | true=>
 refine qF (show((m.vec.length:Int) != x.2.1)=false by unfold bne;rw[g5];rfl) ?_
 have ok:mM x m=true:=by unfold mM;rw[g1,g2,g3,decide_eq_false g4,g5];rfl
 have R:=FK ok
 have H:=Hears.of hz hm R
 rw[OB ok]
 cases k0:m.1==0 with
 | true=>
  have hz2:=mV hz m
  (first | refine qT k0 ?_ | refine qt ?_);refine qC (f275 x m H R.part) ?_;refine qC (f241 (dY x m) 1 m.2.1 m.2.2.2.1 hz2) ?_;unfold zZ;rw[k0];rfl
 | false=>
 (first | refine qF k0 ?_ | refine qf ?_)
 cases k1:m.1==1 with
 | true=>(first | refine qT k1 ?_ | refine qt ?_);refine qC (f276 x m H) ?_;unfold zZ;rw[k0,k1];rfl
 | false=>
 (first | refine qF k1 ?_ | refine qf ?_)
 cases k2:m.1==2 with
 | true=>(first | refine qT k2 ?_ | refine qt ?_);refine qE (f277 x m hz hm R) ?_;unfold zZ;rw[k0,k1,k2];rfl
 | false=>
 (first | refine qF k2 ?_ | refine qf ?_);refine qC (f278 x m (m.1==4) hz.sess) ?_
 rcases I1 x m (m.1==4)with ⟨hf,_⟩ | ⟨k,hk,_,_,hf⟩
 ·refine qP hf ?_;refine qC (f72 x hz) ?_;rw[LS k0 k1 k2 rfl hf];rfl
 ·rw[OD k0 k1 k2 rfl hf,hf];refine qN (show ¬ (k:Int)<0 by omega) ?_;refine qC (f279 x k hz hk) ?_
  have hg:=GK hz k
  have Rg:=R.gone k
  have Hg:=Hears.of hg hm Rg
  have hz2:=mV hg m
  cases k5:m.1==5 with
  | true=>(first | refine qT k5 ?_ | refine qt ?_);unfold tE;rw[k5];rfl
  | false=>
   (first | refine qF k5 ?_ | refine qf ?_);refine qC (f275 (kP x k) m Hg Rg.part) ?_
   cases k4:m.1==4 with
   | true=>(first | refine qT k4 ?_ | refine qt ?_);unfold tE;rw[k5,k4];rfl
   | false=>
    (first | refine qF k4 ?_ | refine qf ?_);refine qC (f241 (dY (kP x k) m) 4 m.2.1 m.2.2.2.1 hz2) ?_;refine qP (gX hm.list) ?_;refine qP R.idn.1 ?_;refine(aZ H.vec).trans ?_
    refine qC (f280 (dY (kP x k) m) m.leaves (gt m.vec x.1.toNat).1 hz2 Rg.brought hm.list) ?_;unfold tE;rw[k5,k4];rfl
end Go.Abs.Uz
set_option maxHeartbeats 2000000
namespace Go.Abs.Uz
open Go Go.Abs
end Go.Abs.Uz
namespace Go.Abs.Uz
open Go Go.Abs
-- how many cells lie in what comes back
theorem N9(xs:List jZ):cnT (.sl K123) xs=3*(xs.length:Int):=j0 (c:=cnR K123) (n:=3) (λx=>rfl) xs
theorem kM(x:NodeT):cnS K73 x=6*(x.2.2.1.length:Int)+(2*(x.2.2.2.1.length:Int)+(1*(x.2.2.2.2.1.length:Int)+(cnT (.sl K43) x.log.2.2.1+(1*(x.got.length:Int)+(1*(x.acked.length:Int)+(cnT (.sl K29) x.seen+(4*(x.sess.length:Int)+(3*(x.rises.length:Int)+0)))))))):=by
 rw[<- PR,<- MT,<- yZ,<- yZ,<- yZ,<- RU,<- N9];rfl
theorem J0{t u:List bM}(h:u.length=t.length)(h2:∀ i,(gt u i).1.length=(gt t i).1.length):cnT (.sl K29) u<=cnT (.sl K29) t:=
 CC (α:=bM) (c:=cnR K29) u t h λj hj=>by
  have e:∀ r:bM,cnR K29 r=1*(r.1.length:Int)+0:=λr=>by rw[<- yZ];rfl
  rw[e,e,h2 j];omega
theorem L2(x:NodeT)(s:aE):(tkP x s).1.length<=5/\(tkP x s).2.1.length<=5:=by
 unfold tkP prune
 cases aL (c9 x.state s)with
 | true=>exact lQ _ _
 | false=>exact lQ _ _
theorem E6(x:NodeT)(s:aE):cnS K73 (jM x s)<=cnS K73 x+100:=by
 rw[kM,kM]
 have h1:=L2 x s
 have h2:(cG (tkP x s)).1.length<=4:=zH _
 have h3:cnT (.sl K29) (tkS x s)<=cnT (.sl K29) x.seen:=J0 (c7 _ _ _) (eX _ _ _)
 have h4:(tkR x s).length=x.rises.length:=gT _ _ _ _
 show 6*(((tkP x s).1.length:Nat):Int)+(2*(((tkP x s).2.1.length:Nat):Int)+(1*(((cG (tkP x s)).1.length:Nat):Int)+(cnT (.sl K43) x.log.2.2.1+(1*(x.got.length:Int)+(1*(x.acked.length:Int)+(cnT (.sl K29) (tkS x s)+(4*(x.sess.length:Int)+(3*(((tkR x s).length:Nat):Int)+0))))))))<=_
 omega
theorem wF(x:NodeT)(m:MsgT):cnS K73 (eC x m)<=cnS K73 x+100:=by
 have h:=E6 (heard0 x m) i9
 have h3:cnT (.sl K29) (bL x.seen m.2.1 m.marks)<=cnT (.sl K29) x.seen:=J0 (c7 _ _ _) (eX _ _ _)
 have h4:cnS K73 (heard0 x m)<=cnS K73 x:=by
  rw[kM,kM]
  show 6*(x.2.2.1.length:Int)+(2*(x.2.2.2.1.length:Int)+(1*(x.2.2.2.2.1.length:Int)+(cnT (.sl K43) x.log.2.2.1+(1*(x.got.length:Int)+(1*(((cV x.acked m.2.1 (mxI false (gt m.vec x.1.toNat).1 (cA x.log))).length:Nat):Int)+(cnT (.sl K29) (bL x.seen m.2.1 m.marks)+(4*(x.sess.length:Int)+(3*(x.rises.length:Int)+0))))))))<=_
  rw[fT];omega
 unfold eC;omega
theorem yJ(x:NodeT)(m:MsgT):cnS K73 (dY x m)<=cnS K73 x+200:=by
 have h1:=wF x m
 have h2:=E6 (eC x m) m.part
 have h3:∀ y:NodeT,cnS K73 (gotUp y m)=cnS K73 y:=λy=>by
  rw[kM,kM]
  show 6*(y.2.2.1.length:Int)+(2*(y.2.2.2.1.length:Int)+(1*(y.2.2.2.2.1.length:Int)+(cnT (.sl K43) y.log.2.2.1+(1*(((cV y.got m.2.1 m.hi).length:Nat):Int)+(1*(y.acked.length:Int)+(cnT (.sl K29) y.seen+(4*(y.sess.length:Int)+(3*(y.rises.length:Int)+0))))))))=_
  rw[fT]
 unfold dY;rw[h3];omega
theorem EW(x:NodeT){ss:List eI}(h:ss.length<=x.sess.length+1):cnS K73 (withS x ss)<=cnS K73 x+4:=by
 rw[kM,kM]
 show 6*(x.2.2.1.length:Int)+(2*(x.2.2.2.1.length:Int)+(1*(x.2.2.2.2.1.length:Int)+(cnT (.sl K43) x.log.2.2.1+(1*(x.got.length:Int)+(1*(x.acked.length:Int)+(cnT (.sl K29) x.seen+(4*(ss.length:Int)+(3*(x.rises.length:Int)+0))))))))<=_
 omega
theorem P2(x:NodeT)(k:Nat):cnS K73 (kP x k)<=cnS K73 x+4:=EW x (by rw[List.length_append,List.length_take,List.length_drop];omega)
structure RecSz (x:NodeT) (r:JO):Prop where
 node:SzN r.1
 cn:cnS K73 r.1<=cnS K73 x+300
 len:r.2.1.length<=1
 msg:∀ q∈r.2.1,SzM q
theorem yX{q:MsgT}(h:SzM q):∀ y∈[q],SzM y:=λy hy=>by rw[List.mem_singleton.1 hy];exact h
theorem AE:∀ y∈([]:List MsgT),SzM y:=λy hy=>by cases hy
theorem J7{x:NodeT}(h:SzN x)(a b c:Int):SzM (SM x a b c):=⟨Nat.zero_le _,h.got,Nat.zero_le _,kC,Nat.le_trans (fR _) (by decide)⟩
theorem LP{o x:NodeT}(h:SzN o)(m:MsgT):SzM (HQ o x m):=⟨h.leaves,h.got,Nat.le_trans (tU _ _) (by decide),nW _ _,Nat.le_trans (fR _) (by decide)⟩
theorem PN{o x:NodeT}(h:SzN o){m:MsgT}(hm:SzM m):SzM (TI o x m):=⟨Nat.zero_le _,h.got,hm.list,nW _ _,Nat.le_trans (fR _) (by decide)⟩
theorem LQ{x:NodeT}{m:MsgT}(hz:SzN x)(hm:SzM m)(R:RecOk x m):RecSz x (oY x m):=by
 unfold oY
 cases hf:lD x m with
 | true=>exact⟨hz,by show cnS K73 x<=_;omega,Nat.le_refl _,yX (J7 hz _ _ _)⟩
 | false=>
  have h1:=RL hz R.node m
  have h2:=wF (withS x (hU x m)) m
  have h3:=EW x (ss:=hU x m) (by
   unfold hU pA lK
   cases decide (dE x.sess m.2.1 true>=0)with
   | true=>show(List.set _ _ _).length<=_;rw[List.length_set];omega
   | false=>show(x.sess++[_]).length<=_;rw[List.length_append];exact Nat.le_refl _)
  exact⟨h1,by show cnS K73 (LC x m)<=_;unfold LC;omega,Nat.le_refl _,yX (LP h1 m)⟩
theorem LT{x:NodeT}{m:MsgT}(hz:SzN x)(hm:SzM m)(k:Nat):RecSz x (tE x m k):=by
 have h1:=GK hz k
 have h2:=P2 x k
 have h3:=mV h1 m
 have h4:=yJ (kP x k) m
 unfold tE
 cases m.1==5 with
 | true=>exact⟨h1,by show cnS K73 (kP x k)<=_;omega,Nat.zero_le _,AE⟩
 | false=>
  cases m.1==4 with
  | true=>exact⟨h3,by show cnS K73 (dY (kP x k) m)<=_;omega,Nat.zero_le _,AE⟩
  | false=>exact⟨h3,by show cnS K73 (dY (kP x k) m)<=_;omega,Nat.le_refl _,yX (PN h3 hm)⟩
theorem J1{x:NodeT}{m:MsgT}(hz:SzN x)(hm:SzM m):RecSz x (gU x m):=by
 unfold gU
 cases ho:mM x m with
 | false=>exact⟨hz,by show cnS K73 x<=_;omega,Nat.zero_le _,AE⟩
 | true=>
  have R:=FK ho
  show RecSz x (zZ x m)
  unfold zZ
  have h3:=mV hz m
  have h4:=yJ x m
  have h5:=lR hz m
  have h6:=wF x m
  cases m.1==0 with
  | true=>exact⟨h3,by show cnS K73 (dY x m)<=_;omega,Nat.le_refl _,yX (J7 h3 _ _ _)⟩
  | false=>
   cases m.1==1 with
   | true=>exact⟨h5,by show cnS K73 (eC x m)<=_;omega,Nat.zero_le _,AE⟩
   | false=>
    cases m.1==2 with
    | true=>exact LQ hz hm R
    | false=>
     cases decide (sV x m (m.1==4)<0)with
     | true=>exact⟨hz,by show cnS K73 x<=_;omega,Nat.zero_le _,AE⟩
     | false=>exact LT hz hm _
end Go.Abs.Uz
set_option maxHeartbeats 4000000
namespace Go.Abs.Uz
open Go Go.Abs
def nC:Option MsgT->Out
 | none=>⟨[⟨K46,BX⟩,⟨K4,(false,())⟩],[]⟩
 | some m=>⟨[⟨K46,m⟩,⟨K4,(true,())⟩],[]⟩
def prA(x:Int×RdT):Rows [K3]×Rows [K89]:=(((x.1,()),()),(x.2,()))
def prN(x:List aH×RdT):Rows [K29]×Rows [K89]:=(((x.1,()),()),(x.2,()))
def yO(x:Int×RdT):Rows [K3]×Rows [K130]:=(((x.1,()),()),(x.2,()))
def HV(x:List aH×RdT):Rows [K29]×Rows [K130]:=(((x.1,()),()),(x.2,()))
def SD(s:aE)(k:Bool):Rows [K43,K4]×Rows []:=((s,(k,()),()),())
theorem NV(o:Option aE):nI o=⟨[⟨K43,o.getD i9⟩,⟨K4,(o.isSome,())⟩],[]⟩:=by cases o<;>rfl
theorem SY(b:List aH):SzS ((bT b).getD i9):=by
 cases h:bT b with
 | none=>exact kC
 | some s=>exact D6 (uL h)
theorem rng{a b c d:Prop}[Decidable a][Decidable b](h1:a)(h2:b):(decide a&&decide b)=true:=by rw[decide_eq_true h1,decide_eq_true h2];rfl
theorem f14(b:List aH)(hb:B8 b)(hl:b.length<=aP):Ran p 6 14 [vf K22 (b,())] (nC (cI b)):=go14 λn hn=>by
 have hs:b.length<=1048576:=hl
 by_cases h2:i64.wrap ((b.length:Int) - 4)<2
 ·exact Ev.now λaA=>by unfold T14;refine qP h2 ?_;rw[show cI b=none by unfold cI;rw[decide_eq_true h2];rfl];rfl
 have h6:6<=b.length:=by rw[IntKind.wrap_i64] at h2;omega
 have e4:i64.wrap ((b.length:Int) - 4)=((b.length - 4:Nat):Int):=by rw[IntKind.wrap_i64];omega
 have hlen2:decide (i64.wrap ((b.length:Int) - 4)<2)=false:=decide_eq_false h2
 have ha:(decide ((0:Int)<=2)&&decide ((2:Int)<=(b.length:Int)))=true:=rng (c:=True) (d:=True) (by omega) (by omega)
 have hc4:(decide ((0:Int)<=((b.length - 4:Nat):Int))&&decide (((b.length - 4:Nat):Int)<=(b.length:Int)))=true:=rng (c:=True) (d:=True) (by omega) (by omega)
 cases hk:bU (b.take 2) rk2 with
 | false=>
  exact Ev.now λaA=>by
   unfold T14;refine qN h2 ?_;refine qT ha ?_;refine qT (show(!bU (b.take 2) rk2)=true by rw[hk];rfl) ?_
   rw[show cI b=none by unfold cI;rw[hlen2,hk];rfl];rfl
 | true=>
 have hr:=TH hb hl h6
 have G:=TG VO hr
 have lo:=G.e.lo;have hi:=G.e.hi;have nn:=G.nn
 rw[G.list] at hi
 have hlen:(mR b).1.length=b.length - 4:=by show(b.take (b.length - 4)).length=_;rw[List.length_take];omega
 rw[hlen] at hi
 have head:∀ {R:Option Out} (aA:Nat),(bif(mgE NI (mR b)).2.2.2.1 then some (nC none)else bif decide ((mgE NI (mR b)).1>i64.wrap (((b.length - 4:Nat):Int) - (mgE NI (mR b)).2.2.1))then some (nC none)else
   bif decide (0<=i64.wrap ((mgE NI (mR b)).2.2.1+(mgE NI (mR b)).1))&&decide (i64.wrap ((mgE NI (mR b)).2.2.1+(mgE NI (mR b)).1)<=(b.length:Int))then
   bif decide (0<=(mgE NI (mR b)).2.2.1)&&decide ((mgE NI (mR b)).2.2.1<=(((i64.wrap ((mgE NI (mR b)).2.2.1+(mgE NI (mR b)).1)).toNat:Nat):Int))then
   (((aI p n) 42 [vf K22 (((b.take (i64.wrap ((mgE NI (mR b)).2.2.1+(mgE NI (mR b)).1)).toNat).drop (mgE NI (mR b)).2.2.1.toNat),())]).bind (cL [K43,K4] [])).bind λo11=>(bif !(vB o11.1.2.1.1)then some (nC none)else
   (((aI p n) 43 [.ref ⟨K89,((mgE NI (mR b)).2.1,i64.wrap ((mgE NI (mR b)).2.2.1+(mgE NI (mR b)).1),(mgE NI (mR b)).2.2.2.1,())⟩, vf K3 ((5:Int),())]).bind (cL [K3] [K89])).bind λo12=>
    iter (c14_25 (aI p n) aA b (prA (aK (rdK (mR b) 0))) o11 o12 (prA (aK (rdK (mR b) 1))) (prA (aK (rdK (mR b) 2))) (prA (aK (rdK (mR b) 3))) (prA (aK (rdK (mR b) 4))) (prN (mgA NI (mR b))) (prA (mgB NI (mR b))) (prN (mgC NI (mR b))) (prN (mgD NI (mR b)))) aA ((0:Int),(@vL K5 o12.2.1.1),(vI o12.2.1.2.1),(vB o12.2.1.2.2.1),([]:List aO)))
   else none else none)=R->T14 (aI p n) aA b=R:=by
  intro R aA hR
  unfold T14;refine qN h2 ?_;refine qT ha ?_;refine qF (show(!bU (b.take 2) rk2)=false by rw[hk];rfl) ?_
  rw[show i64.wrap (((List.length (α:=Row K5) b:Nat):Int) - 4)=((b.length - 4:Nat):Int)from e4];refine qT hc4 ?_
  refine qR (f40 (rdK (mR b) 0) (hr.k 0)) ?_;refine qR (f40 (rdK (mR b) 1) (hr.k 1)) ?_;refine qR (f40 (rdK (mR b) 2) (hr.k 2)) ?_;refine qR (f40 (rdK (mR b) 3) (hr.k 3)) ?_;refine qR (f40 (rdK (mR b) 4) (hr.k 4)) ?_
  refine qR (f41 (rdK (mR b) 5) 4 (hr.k 5) (by omega)) ?_;refine qR (f40 (mgA NI (mR b)).2 G.a) ?_;refine qR (f41 (mgB NI (mR b)).2 5 G.b (by omega)) ?_;refine qR (f41 (mgC NI (mR b)).2 4 G.c (by omega)) ?_;refine qR (f40 (mgD NI (mR b)).2 G.d) ?_
  exact hR
 have un:nP NI (mR b)=true->cI b=none:=λh=>by unfold cI;rw[hlen2,hk,h];rfl
 have hbadE:nP NI (mR b)=((mgE NI (mR b)).2.2.2.1||decide ((mgE NI (mR b)).1>((b.length - 4:Nat):Int) - (mgE NI (mR b)).2.2.1)):=by unfold nP;rw[G.list,hlen]
 have ew:i64.wrap (((b.length - 4:Nat):Int) - (mgE NI (mR b)).2.2.1)=((b.length - 4:Nat):Int) - (mgE NI (mR b)).2.2.1:=by rw[IntKind.wrap_i64];omega
 have ep:i64.wrap ((mgE NI (mR b)).2.2.1+(mgE NI (mR b)).1)=(mgE NI (mR b)).2.2.1+(mgE NI (mR b)).1:=by rw[IntKind.wrap_i64];omega
 cases hE:(mgE NI (mR b)).2.2.2.1 with
 | true=>
  have:=un (by rw[hbadE,hE];rfl)
  exact Ev.now λaA=>head aA (by rw[hE,this];rfl)
 | false=>
 by_cases hgt:(mgE NI (mR b)).1>((b.length - 4:Nat):Int) - (mgE NI (mR b)).2.2.1
 ·have:=un (by rw[hbadE,hE,decide_eq_true hgt];rfl)
  exact Ev.now λaA=>head aA (by rw[hE,ew,decide_eq_true hgt,this];rfl)
 have hbad:nP NI (mR b)=false:=by rw[hbadE,hE,decide_eq_false hgt];rfl
 have hR:=PB G hbad
 have hp:(b.take ((mgE NI (mR b)).2.2.1+(mgE NI (mR b)).1).toNat).drop (mgE NI (mR b)).2.2.1.toNat=eV NI (mR b):=by
  unfold eV;rw[G.list]
  show _=((b.take (b.length - 4)).take _).drop _
  rw[List.take_take,Nat.min_eq_left (by omega)]
 have hpb:ByL (eV NI (mR b)):=by rw[<- hp];exact hb.byL.sub λx hx=>List.mem_of_mem_take (List.mem_of_mem_drop hx)
 have hpl:(eV NI (mR b)).length<=aP:=by rw[<- hp,List.length_drop,List.length_take];show _<=1048576;omega
 have i1:(decide (0<=(mgE NI (mR b)).2.2.1+(mgE NI (mR b)).1)&&decide ((mgE NI (mR b)).2.2.1+(mgE NI (mR b)).1<=(b.length:Int)))=true:=rng (c:=True) (d:=True) (by omega) (by omega)
 have i2:(decide (0<=(mgE NI (mR b)).2.2.1)&&decide ((mgE NI (mR b)).2.2.1<=((((mgE NI (mR b)).2.2.1+(mgE NI (mR b)).1).toNat:Nat):Int)))=true:=rng (c:=True) (d:=True) (by omega) (by omega)
 have hg:=f42 (eV NI (mR b)) hpb.b8 hpl
 cases hst:bT (eV NI (mR b))with
 | none=>
  have e:cI b=none:=by unfold cI;rw[hlen2,hk,hbad,hst];rfl
  rw[hst,<- hp] at hg
  exact Ev.now λaA=>head aA (by
   rw[hE,ew,ep,decide_eq_false hgt,e];refine qf ?_;refine qf ?_;refine qT i1 ?_;refine qT i2 ?_;refine qD hg ?_;rfl)
 | some s=>
 rw[hst,<- hp] at hg
 have hso:=uL hst
 have e:cI b=bif(miF b).2.2.2.1||(!dR (miM b s)|| !bU (bG (miM b s)) b)then none else some (miM b s):=by unfold cI;rw[hlen2,hk,hbad,hst];rfl
 have rC:RdOk (miC b).2:=hR.cnt 5
 have rG:∀ k,RdOk (cC dK (miC b).2 k).2:=nR (f:=dK) (λr h=>RdOk.floor h) rC
 have bC:0<=(miC b).1/\(miC b).1<=5:=qO _ (by decide)
 have lF:(miF b).1.length<=5:=by unfold miF;rw[iA];omega
 have hz:SzM (miM b s):=PC G (D6 hso) (by omega)
 have inn:It (λaA (_:Unit)=>c14_25 (aI p n) aA b (prA (aK (rdK (mR b) 0))) (SD s true) (prA (miC b)) (prA (aK (rdK (mR b) 1))) (prA (aK (rdK (mR b) 2))) (prA (aK (rdK (mR b) 3))) (prA (aK (rdK (mR b) 4))) (prN (mgA NI (mR b))) (prA (mgB NI (mR b))) (prN (mgC NI (mR b))) (prN (mgD NI (mR b)))) (rdF 0 (cC dK (miC b).2 0)) (λ_=>some (nC (cI b))):=by
  refine It.run (λk=>rdF k (cC dK (miC b).2 k)) (miC b).1.toNat (λk hk aA u rec=>?_) (It.stop λaA u rec=>?_)
  ·have hln:=iA dK (miC b).2 k
   have hbd:(cC dK (miC b).2 k).1.length+1<=bound:=by unfold bound;omega
   show c14_25 (aI p n) aA b (prA (aK (rdK (mR b) 0))) (SD s true) (prA (miC b)) (prA (aK (rdK (mR b) 1))) (prA (aK (rdK (mR b) 2))) (prA (aK (rdK (mR b) 3))) (prA (aK (rdK (mR b) 4))) (prN (mgA NI (mR b))) (prA (mgB NI (mR b))) (prN (mgC NI (mR b))) (prN (mgD NI (mR b))) rec (rdF k (cC dK (miC b).2 k))=rec (rdF (k+1) (cC dK (miC b).2 (k+1)))
   unfold c14_25 rdF;dsimp only;rw[aF (show k<9223372036854775807 by omega)];refine qP (show(k:Int)<(miC b).1 by omega) ?_;refine qR (f40 (cC dK (miC b).2 k).2 (rG k)) ?_;refine qR (f40 (aK (cC dK (miC b).2 k).2).2 (rG k).num) ?_;refine qP hbd ?_;rfl
  ·show c14_25 (aI p n) aA b (prA (aK (rdK (mR b) 0))) (SD s true) (prA (miC b)) (prA (aK (rdK (mR b) 1))) (prA (aK (rdK (mR b) 2))) (prA (aK (rdK (mR b) 3))) (prA (aK (rdK (mR b) 4))) (prN (mgA NI (mR b))) (prA (mgB NI (mR b))) (prN (mgC NI (mR b))) (prN (mgD NI (mR b))) rec (rdF (miC b).1.toNat (miF b))=_
   unfold c14_25 rdF;dsimp only;refine qN (show ¬ ((((miC b).1.toNat:Nat):Int)<(miC b).1) by omega) ?_
   cases hbd:(miF b).2.2.2.1 with
   | true=>refine qt ?_;rw[show cI b=none by rw[e,hbd];rfl];rfl
   | false=>
    refine qf ?_;refine qC (f44 (miM b s) hz) ?_
    cases hm:dR (miM b s)with
    | false=>refine qt ?_;rw[show cI b=none by rw[e,hbd,hm];rfl];rfl
    | true=>
     refine qf ?_;refine qC (f46 (miM b s) hz) ?_;refine qC (f45 (bG (miM b s)) b) ?_
     cases he:bU (bG (miM b s)) b with
     | false=>refine qt ?_;rw[show cI b=none by rw[e,hbd,hm,he];rfl];rfl
     | true=>refine qf ?_;rw[show cI b=some (miM b s) by rw[e,hbd,hm,he];rfl];rfl
 have hcn:Ran p 3 43 [.ref ⟨K89,((mgE NI (mR b)).2.1,(mgE NI (mR b)).2.2.1+(mgE NI (mR b)).1,false,())⟩, vf K3 ((5:Int),())] ⟨[⟨K3,((miC b).1,())⟩],[⟨K89,(miC b).2⟩]⟩:=by
  have h:=f43 (mgR NI (mR b)) 5 hR
  rw[show mgR NI (mR b)=((mgE NI (mR b)).2.1,(mgE NI (mR b)).2.2.1+(mgE NI (mR b)).1,false,()) by unfold mgR;rw[hE]] at h
  rw[show miC b=eE ((mgE NI (mR b)).2.1,(mgE NI (mR b)).2.2.1+(mgE NI (mR b)).1,false,()) 5 by unfold miC mgR;rw[hE]]
  exact h
 exact Ev.eq (λaA=>head aA (by
  rw[hE,ew,ep,decide_eq_false hgt];refine qf ?_;refine qf ?_;refine qT i1 ?_;refine qT i2 ?_;refine qD hg ?_;refine qf ?_
  refine qR hcn ?_;rfl)) (inn.ev (i:=()) rfl)
end Go.Abs.Uz
set_option maxHeartbeats 4000000
namespace Go.Abs.Uz
open Go Go.Abs
theorem f31(b:List aH)(hb:B8 b)(hl:b.length<=aP):Ran p 7 31 [vf K22 (b,())] (nC (cI b)):=go31 λn hn=>by
 rw[<- SL hb.byL]
 have hs:b.length<=1048576:=hl
 by_cases h2:(b.length:Int)<6
 ·exact Ev.now λaA=>by unfold T31;refine qP h2 ?_;rw[show fJ b=none by unfold fJ;rw[decide_eq_true h2];rfl];rfl
 have h6:6<=b.length:=by omega
 have e4:i64.wrap ((b.length:Int) - 4)=((b.length - 4:Nat):Int):=by rw[IntKind.wrap_i64];omega
 have hlen2:decide ((b.length:Int)<6)=false:=decide_eq_false h2
 have hc4:(decide ((0:Int)<=((b.length - 4:Nat):Int))&&decide (((b.length - 4:Nat):Int)<=(b.length:Int)))=true:=rng (c:=True) (d:=True) (by omega) (by omega)
 have hr:=TH hb hl h6
 have hbt:ByL (b.take (b.length - 4)):=hb.byL.sub λx hx=>List.mem_of_mem_take hx
 have hlt:(b.take (b.length - 4)).length<=aP:=by rw[List.length_take];show _<=1048576;omega
 have hsum:=f74 (b.take (b.length - 4)) hbt hlt
 have eT:List.drop (α:=Row K5) ((b.length - 4:Nat):Int).toNat (List.take (α:=Row K5) b.length b)=b.drop (b.length - 4):=by
  show List.drop ((b.length - 4:Nat):Int).toNat (List.take b.length b)=b.drop (b.length - 4)
  rw[List.take_length,Int.toNat_natCast]
 cases hk:bU (uK (b.take (b.length - 4))) (b.drop (b.length - 4))with
 | false=>
  exact Ev.now λaA=>by
   unfold T31;refine qN h2 ?_;rw[show i64.wrap (((List.length (α:=Row K5) b:Nat):Int) - 4)=((b.length - 4:Nat):Int)from e4];refine qT hc4 ?_;refine qC hsum ?_;refine qT hc4 ?_
   refine qT (show(!bU (uK (b.take (b.length - 4))) (List.drop (α:=Row K5) ((b.length - 4:Nat):Int).toNat (List.take (α:=Row K5) b.length b)))=true by rw[eT,hk];rfl) ?_
   rw[show fJ b=none by unfold fJ;rw[hlen2,hk];rfl];rfl
 | true=>
 have G:=TG VN hr
 have lo:=G.e.lo;have hi:=G.e.hi;have nn:=G.nn
 have hlen:(mR b).1.length=b.length - 4:=by show(b.take (b.length - 4)).length=_;rw[List.length_take];omega
 have hle:(mgE NS (mR b)).2.1.length=b.length - 4:=by rw[G.list];exact hlen
 have head:∀ {R:Option Out} (aA:Nat),(bif(mgE NS (mR b)).2.2.2.1 then some (nC none)else bif decide ((mgE NS (mR b)).1>i64.wrap ((((mgE NS (mR b)).2.1.length:Nat):Int) - (mgE NS (mR b)).2.2.1))then some (nC none)else
   bif decide (0<=i64.wrap ((mgE NS (mR b)).2.2.1+(mgE NS (mR b)).1))&&decide (i64.wrap ((mgE NS (mR b)).2.2.1+(mgE NS (mR b)).1)<=(((mgE NS (mR b)).2.1.length:Nat):Int))then
   bif decide (0<=(mgE NS (mR b)).2.2.1)&&decide ((mgE NS (mR b)).2.2.1<=(((i64.wrap ((mgE NS (mR b)).2.2.1+(mgE NS (mR b)).1)).toNat:Nat):Int))then
   (((aI p n) 77 [vf K22 ((((mgE NS (mR b)).2.1.take (i64.wrap ((mgE NS (mR b)).2.2.1+(mgE NS (mR b)).1)).toNat).drop (mgE NS (mR b)).2.2.1.toNat),())]).bind (cL [K43,K4] [])).bind λo12=>
   (((aI p n) 76 [.ref ⟨K130,((mgE NS (mR b)).2.1,i64.wrap ((mgE NS (mR b)).2.2.1+(mgE NS (mR b)).1),(mgE NS (mR b)).2.2.2.1,())⟩, vf K3 ((2:Int),())]).bind (cL [K29] [K130])).bind λo13=>
    iter (c31_22 (aI p n) aA b (HV (mgD NS (mR b))) o12 o13 (yO (aK (rdK (mR b) 0))) (yO (aK (rdK (mR b) 1))) (yO (aK (rdK (mR b) 2))) (yO (aK (rdK (mR b) 3))) (yO (aK (rdK (mR b) 4))) (HV (mgA NS (mR b))) (yO (mgB NS (mR b))) (HV (mgC NS (mR b)))) aA ((0:Int),([]:List aO))
   else none else none)=R->T31 (aI p n) aA b=R:=by
  intro R aA hR
  unfold T31;refine qN h2 ?_;rw[show i64.wrap (((List.length (α:=Row K5) b:Nat):Int) - 4)=((b.length - 4:Nat):Int)from e4];refine qT hc4 ?_;refine qC hsum ?_;refine qT hc4 ?_
  refine qF (show(!bU (uK (b.take (b.length - 4))) (List.drop (α:=Row K5) ((b.length - 4:Nat):Int).toNat (List.take (α:=Row K5) b.length b)))=false by rw[eT,hk];rfl) ?_
  refine qT hc4 ?_
  refine qR (f75 (rdK (mR b) 0) (hr.k 0)) ?_;refine qR (f75 (rdK (mR b) 1) (hr.k 1)) ?_;refine qR (f75 (rdK (mR b) 2) (hr.k 2)) ?_;refine qR (f75 (rdK (mR b) 3) (hr.k 3)) ?_;refine qR (f75 (rdK (mR b) 4) (hr.k 4)) ?_
  refine qR (f76 (rdK (mR b) 5) 1 1 rfl (hr.k 5) (by omega)) ?_;refine qR (f75 (mgA NS (mR b)).2 G.a) ?_;refine qR (f76 (mgB NS (mR b)).2 1 1 rfl G.b (by omega)) ?_;refine qR (f76 (mgC NS (mR b)).2 1 1 rfl G.c (by omega)) ?_;refine qR (f75 (mgD NS (mR b)).2 G.d) ?_
  exact hR
 have un:nP NS (mR b)=true->fJ b=none:=λh=>by unfold fJ;rw[hlen2,hk,h];rfl
 have hbadE:nP NS (mR b)=((mgE NS (mR b)).2.2.2.1||decide ((mgE NS (mR b)).1>(((mgE NS (mR b)).2.1.length:Nat):Int) - (mgE NS (mR b)).2.2.1)):=rfl
 have ew:i64.wrap ((((mgE NS (mR b)).2.1.length:Nat):Int) - (mgE NS (mR b)).2.2.1)=(((mgE NS (mR b)).2.1.length:Nat):Int) - (mgE NS (mR b)).2.2.1:=by rw[IntKind.wrap_i64];omega
 have ep:i64.wrap ((mgE NS (mR b)).2.2.1+(mgE NS (mR b)).1)=(mgE NS (mR b)).2.2.1+(mgE NS (mR b)).1:=by rw[IntKind.wrap_i64];omega
 cases hE:(mgE NS (mR b)).2.2.2.1 with
 | true=>
  have:=un (by rw[hbadE,hE];rfl)
  exact Ev.now λaA=>head aA (by rw[hE,this];rfl)
 | false=>
 by_cases hgt:(mgE NS (mR b)).1>(((mgE NS (mR b)).2.1.length:Nat):Int) - (mgE NS (mR b)).2.2.1
 ·have:=un (by rw[hbadE,hE,decide_eq_true hgt];rfl)
  exact Ev.now λaA=>head aA (by rw[hE,ew,decide_eq_true hgt,this];rfl)
 have hbad:nP NS (mR b)=false:=by rw[hbadE,hE,decide_eq_false hgt];rfl
 have hR:=PB G hbad
 have hpb:ByL (eV NS (mR b)):=G.e.b8.byL.sub λx hx=>List.mem_of_mem_take (List.mem_of_mem_drop hx)
 have hpl:(eV NS (mR b)).length<=aP:=by unfold eV;rw[List.length_drop,List.length_take];show _<=1048576;omega
 have i1:(decide (0<=(mgE NS (mR b)).2.2.1+(mgE NS (mR b)).1)&&decide ((mgE NS (mR b)).2.2.1+(mgE NS (mR b)).1<=(((mgE NS (mR b)).2.1.length:Nat):Int)))=true:=rng (c:=True) (d:=True) (by omega) (by omega)
 have i2:(decide (0<=(mgE NS (mR b)).2.2.1)&&decide ((mgE NS (mR b)).2.2.1<=((((mgE NS (mR b)).2.2.1+(mgE NS (mR b)).1).toNat:Nat):Int)))=true:=rng (c:=True) (d:=True) (by omega) (by omega)
 have hg:=f77 (eV NS (mR b)) hpb.b8 hpl
 rw[LF hpb,NV] at hg
 have hz0:=SY (eV NS (mR b))
 have e:fJ b=bif(bT (eV NS (mR b))).isNone||((msF b).2.2.2.1||(!dR (msM b)|| !bU (bG (msM b)) b))then none else some (msM b):=by unfold fJ;rw[hlen2,hk,hbad];rfl
 have hz:SzM (msM b):=PC G hz0 (KJ _)
 have hm2:=sF (mgR NS (mR b)) 2
 have inn:It (λaA (_:Unit)=>c31_22 (aI p n) aA b (HV (mgD NS (mR b))) (SD ((bT (eV NS (mR b))).getD i9) (bT (eV NS (mR b))).isSome) (HV (cJ (mgR NS (mR b)) 2)) (yO (aK (rdK (mR b) 0))) (yO (aK (rdK (mR b) 1))) (yO (aK (rdK (mR b) 2))) (yO (aK (rdK (mR b) 3))) (yO (aK (rdK (mR b) 4))) (HV (mgA NS (mR b))) (yO (mgB NS (mR b))) (HV (mgC NS (mR b)))) ((0:Int),([]:List aO)) (λ_=>some (nC (fJ b))):=by
  refine It.run (λk=>(((2*k:Nat):Int),i8 (cJ (mgR NS (mR b)) 2).1 k)) ((cJ (mgR NS (mR b)) 2).1.length / 2) (λk hk aA u rec=>?_) (It.stop λaA u rec=>?_)
  ·have h1:2*k<(cJ (mgR NS (mR b)) 2).1.length:=by omega
   have h2:2*k+1<(cJ (mgR NS (mR b)) 2).1.length:=by omega
   have e1:i64.wrap (((2*k:Nat):Int)+1)=((2*k+1:Nat):Int):=by rw[IntKind.wrap_i64];omega
   have e2:i64.wrap (((2*k:Nat):Int)+2)=((2*(k+1):Nat):Int):=by rw[IntKind.wrap_i64];omega
   have hbd:(i8 (cJ (mgR NS (mR b)) 2).1 k).length+1<=bound:=by rw[tG];unfold bound;omega
   unfold c31_22;dsimp only;rw[e1,e2,xR];refine ql h2 ?_;refine qz ?_;refine(aD h1).trans ?_;refine(aD h1).trans ?_;refine qz ?_;refine(aD h2).trans ?_;refine(aD h2).trans ?_;refine qP hbd ?_;rfl
  ·have e1:i64.wrap ((((2*((cJ (mgR NS (mR b)) 2).1.length / 2):Nat)):Int)+1)=((2*((cJ (mgR NS (mR b)) 2).1.length / 2)+1:Nat):Int):=by rw[IntKind.wrap_i64];omega
   unfold c31_22;dsimp only;rw[e1];refine qN (show ¬ (((2*((cJ (mgR NS (mR b)) 2).1.length / 2)+1:Nat):Int)<(((cJ (mgR NS (mR b)) 2).1.length:Nat):Int)) by omega) ?_
   cases hso:(bT (eV NS (mR b))).isSome with
   | false=>refine qt ?_;rw[show fJ b=none by rw[e,show(bT (eV NS (mR b))).isNone=true by rw[<- Option.not_isSome,hso];rfl];rfl];rfl
   | true=>
    have hno:(bT (eV NS (mR b))).isNone=false:=by rw[<- Option.not_isSome,hso];rfl
    refine qf ?_
    cases hbd:(msF b).2.2.2.1 with
    | true=>refine qT hbd ?_;rw[show fJ b=none by rw[e,hno,hbd];rfl];rfl
    | false=>
     refine qF hbd ?_;refine qC (f78 (msM b) hz) ?_
     cases hm:dR (msM b)with
     | false=>refine qt ?_;rw[show fJ b=none by rw[e,hno,hbd,hm];rfl];rfl
     | true=>
      refine qf ?_;refine qC (f79 (msM b) hz) ?_
      cases he:bU (bG (msM b)) b with
      | false=>refine qT (show(!bU (bG (msM b)) b)=true by rw[he];rfl) ?_;rw[show fJ b=none by rw[e,hno,hbd,hm,he];rfl];rfl
      | true=>refine qF (show(!bU (bG (msM b)) b)=false by rw[he];rfl) ?_;rw[show fJ b=some (msM b) by rw[e,hno,hbd,hm,he];rfl];rfl
 have hcn:Ran p 3 76 [.ref ⟨K130,((mgE NS (mR b)).2.1,(mgE NS (mR b)).2.2.1+(mgE NS (mR b)).1,false,())⟩, vf K3 ((2:Int),())] (sG (cJ (mgR NS (mR b)) 2)):=by
  have h:=f76 (mgR NS (mR b)) 2 2 rfl hR (by omega)
  rw[show mgR NS (mR b)=((mgE NS (mR b)).2.1,(mgE NS (mR b)).2.2.1+(mgE NS (mR b)).1,false,()) by unfold mgR;rw[hE]] at h ⊢
  exact h
 exact Ev.eq (λaA=>head aA (by
  rw[hE,ew,ep,decide_eq_false hgt];refine qf ?_;refine qf ?_;refine qT i1 ?_;refine qT i2 ?_;refine qD hg ?_;refine qR hcn ?_;rfl)) (inn.ev (i:=()) rfl)
-- receiving bytes
def eR(x:NodeT)(b:List aH):NodeT×List bM×Int:=match cI b with
 | none=>(x,[],1)
 | some m=>((gU x m).1,(gU x m).2.1.map (λa=>(bG a,())),(gU x m).2.2)
def S9(r:NodeT×List bM×Int):Out:=⟨[⟨K73,r.1⟩,⟨K202,(r.2.1,())⟩,⟨K3,(r.2.2,())⟩],[]⟩
theorem sO{x:NodeT}{b:List aH}(h:cI b=none):eR x b=(x,[],1):=by unfold eR;rw[h]
theorem sN{x:NodeT}{b:List aH}{m:MsgT}(h:cI b=some m):eR x b=((gU x m).1,(gU x m).2.1.map (λa=>(bG a,())),(gU x m).2.2):=by unfold eR;rw[h]
theorem f269(x:NodeT)(b:List aH)(hz:SzN x)(hb:B8 b)(hl:b.length<=aP):Ran p 11 269 [va K73 x, vf K22 (b,())] (S9 (eR x b)):=go269 λn hn=>by
 have hg:=f31 b hb hl
 cases hm:cI b with
 | none=>
  rw[hm] at hg
  exact Ev.now λaA=>by unfold T269;refine qD hg ?_;refine qt ?_;refine qC (f72 x hz) ?_;rw[sO hm];rfl
 | some m=>
  rw[hm] at hg
  have zm:=F3 hm
  have rs:=J1 hz zm
  have hrc:=f274 x m hz zm
  have lp:It (λaA (_:Unit)=>c269_7 (aI p n) aA (((gU x m).1,((gU x m).2.1,()),((gU x m).2.2,()),()),())) ((0:Int),([]:List bM)) (λ_=>some (S9 (eR x b))):=by
   refine It.run (λi=>((i:Int),((gU x m).2.1.take i).map (λa=>((bG a,()):bM)))) (gU x m).2.1.length (λi hi aA u rec=>?_) (It.stop λaA u rec=>?_)
   ·have hbd:(((gU x m).2.1.take i).map (λa=>((bG a,()):bM))).length+1<=bound:=by have:=rs.len;rw[List.length_map,List.length_take];unfold bound;omega
    have e:((gU x m).2.1.take (i+1)).map (λa=>((bG a,()):bM))=((gU x m).2.1.take i).map (λa=>((bG a,()):bM))++[(bG (gt (gU x m).2.1 i),())]:=by rw[oK hi,List.map_append];rfl
    show c269_7 (aI p n) aA (((gU x m).1,((gU x m).2.1,()),((gU x m).2.2,()),()),()) rec ((i:Int),((gU x m).2.1.take i).map (λa=>((bG a,()):bM)))=rec (((i+1:Nat):Int),((gU x m).2.1.take (i+1)).map (λa=>((bG a,()):bM)))
    rw[e]
    unfold c269_7;dsimp only;rw[aF (show i<9223372036854775807 by have:=rs.len;omega)];refine ql hi ?_;refine qz ?_;refine(aD hi).trans ?_;refine(aD hi).trans ?_;refine qC (f79 (gt (gU x m).2.1 i) (rs.msg _ (cB hi))) ?_;refine qP hbd ?_;rfl
   ·show c269_7 (aI p n) aA (((gU x m).1,((gU x m).2.1,()),((gU x m).2.2,()),()),()) rec (((gU x m).2.1.length:Int),((gU x m).2.1.take (gU x m).2.1.length).map (λa=>((bG a,()):bM)))=_
    rw[List.take_length,sN hm]
    unfold c269_7;dsimp only;refine qe ?_;rfl
  exact Ev.eq (λaA=>by unfold T269;refine qD hg ?_;refine qf ?_;refine qE hrc ?_;rfl) (lp.ev (i:=()) rfl)
end Go.Abs.Uz
namespace Go.Abs.Uz
open Go Go.Abs
def NP(r:VL):Out:=⟨[⟨K73,r.1⟩,⟨K46,r.2.1⟩,⟨K4,(r.2.2,())⟩],[]⟩
theorem f239(x:NodeT)(i:Int):Ran p 2 239 [va K73 x, vf K3 (i,())] (rO K4 (mN x i,())):=go239 λn hn=>Ev.now λaA=>by
 unfold T239 mN;refine qC (f85 i 0 (i64.wrap (x.2.1 - 1))) ?_
 cases inB i 0 (i64.wrap (x.2.1 - 1))<;>rfl
theorem f208(x:NodeT)(i:Int)(hz:SzN x):Ran p 8 208 [va K73 x, vf K3 (i,())] (NP (iZ x i)):=go208 λn hn=>Ev.now λaA=>by
 have bad:qA x i=false->(some ⟨[⟨K73,x⟩,⟨K46,BX⟩,⟨K4,(false,())⟩],[]⟩:Option Out)=some (NP (iZ x i)):=λh=>by rw[RK h];rfl
 unfold T208;refine qC (f72 x hz) ?_;refine qC (f86 x hz) ?_
 cases g1:dU x with
 | false=>refine qt ?_;exact bad (by unfold qA;rw[g1];rfl)
 | true=>
 refine qf ?_;refine qC (f239 x i) ?_
 cases g2:mN x i with
 | false=>refine qt ?_;exact bad (by unfold qA;rw[g1,g2];rfl)
 | true=>
 refine qf ?_;refine qC (f240 x i false hz.sess) ?_
 by_cases g3:dE x.sess i false>=0
 ·refine qP g3 ?_;exact bad (by unfold qA;rw[g1,g2,decide_eq_true g3];rfl)
 refine qN g3 ?_
 have hle:=((dS x).1 ((fE x).1 g1).sess).1
 cases g4:(x.sess.length:Int)==x.slots with
 | true=>
  have e:=eq_of_beq g4
  (first | refine qT g4 ?_ | refine qP (show(x.sess.length:Int)>=x.slots by omega) ?_);exact bad (by unfold qA;rw[g1,g2,decide_eq_false g3,g4];rfl)
 | false=>
 have e:(x.sess.length:Int)≠x.slots:=by rw[beq_eq_false_iff_ne] at g4;exact g4
 (first | refine qF g4 ?_ | refine qN (show ¬ (x.sess.length:Int)>=x.slots by omega) ?_)
 cases g5:x.num==100000 with
 | true=>(first | refine qT g5 ?_ | refine qt ?_);exact bad (by unfold qA;rw[g1,g2,decide_eq_false g3,g4,g5];rfl)
 | false=>
 (first | refine qF g5 ?_ | refine qf ?_)
 have ok:qA x i=true:=by unfold qA;rw[g1,g2,decide_eq_false g3,g4,g5];rfl
 have hb:x.sess.length+1<=bound:=by have:=hz.sess;unfold aP at this;unfold bound;omega
 have hz2:=E8 hz (uI ok)
 rw[NN ok];refine qP hb ?_;refine qC (f241 (E9 x i) 2 i (i64.wrap (x.num+1)) hz2) ?_;refine qC (f139 x.tree hz.leaves) ?_;rfl
end Go.Abs.Uz
