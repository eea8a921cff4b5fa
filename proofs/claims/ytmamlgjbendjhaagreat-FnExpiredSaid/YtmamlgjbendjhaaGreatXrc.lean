/- What the functions of this program answer, part rc. -/
import Derived.Test.YtmamlgjbendjhaaGreatXrb
set_option linter.unusedVariables false
namespace Go.Abs.Xz
open Go Go.Abs
theorem f124(t:iV)(ht:t.1.length≤aS):Ran p 2 124 [.val true ⟨K30,t⟩] ⟨[⟨K4,(qE t,())⟩],[]⟩:=go124 fun n hn=>by
 cases h0:((t.1.length:Nat):Int)==0 with
 | true=>exact Ev.now fun aA=>by unfold T124 qE;rw[h0];exact aN h0
 | false=>
  have lp:It (fun aA (_:Unit)=>c124_4 (aJ p n) aA t) (0:Int) (fun _=>oB (mZ t.1 1023&&(((t.1.length:Nat):Int)==4&&inB t.2.1 0 1023))):=by
   refine It.allB t.1.length (fun i=>inB (gt t.1 i).1 0 1023) _ (fun i hi aA u rec=>?_) (It.stop fun aA u rec=>?_)
   ·show c124_4 (aJ p n) aA t rec (i:Int)=_
    unfold c124_4;rw[aL (i63 hi ht)];refine(aE (Int.ofNat_lt.2 hi)).trans ?_;refine(aE (Int.natCast_nonneg _)).trans ?_;refine(aI hi).trans ?_;refine(aB (f100 (gt t.1 i).1 0 1023 n (by omega))).trans ?_;exact fin
   ·show c124_4 (aJ p n) aA t rec (t.1.length:Int)=_
    unfold c124_4;refine(aG (Int.lt_irrefl _)).trans ?_
    cases h4:((t.1.length:Nat):Int)==4 with
    | false=>exact aF h4
    | true=>refine(aN h4).trans ?_;refine(aB (f100 t.2.1 0 1023 n (by omega))).trans ?_;rfl
  have e:qE t=(mZ t.1 1023&&(((t.1.length:Nat):Int)==4&&inB t.2.1 0 1023)):=by unfold qE;rw[h0];show(_&&(_&&_))=_;ac_rfl
  rw[e]
  exact Ev.eq (fun aA=>by unfold T124;exact aF h0) (lp.ev (i:=()) rfl)
theorem f30(m:MsgT)(hz:SzM m):Ran p 4 30 [.val true ⟨K43,m⟩] ⟨[⟨K4,(jQ m,())⟩],[]⟩:=go30 fun n hn=>by
 have inner:It (fun aA (_:Unit)=>c30_10 (aJ p n) aA m) (0:Int) (fun _=>oB (mZ m.vec 100000&&(inB m.2.2.2.1 0 100000&&(inB m.hi 0 100000&&(qE m.tree&&(decide (((m.vec.length:Nat):Int)≤5)&&(aP m.part&&dR m.marks))))))):=by
  refine It.allB m.vec.length (fun i=>inB (gt m.vec i).1 0 100000) _ (fun i hi aA u rec=>?_) (It.stop fun aA u rec=>?_)
  ·show c30_10 (aJ p n) aA m rec (i:Int)=_
   unfold c30_10;rw[aL (i63 hi hz.vec)];refine(aE (Int.ofNat_lt.2 hi)).trans ?_;refine(aE (Int.natCast_nonneg _)).trans ?_;refine(aI hi).trans ?_;refine(aB (f100 (gt m.vec i).1 0 100000 n (by omega))).trans ?_;exact fin
  ·show c30_10 (aJ p n) aA m rec (m.vec.length:Int)=_
   unfold c30_10;refine(aG (Int.lt_irrefl _)).trans ?_;refine(aB (f100 m.2.2.2.1 0 100000 n (by omega))).trans ?_;refine dV fun _=>?_;refine(aB (f100 m.hi 0 100000 n (by omega))).trans ?_;refine dV fun _=>?_;refine(aB (f124 m.tree hz.leaves n (by omega))).trans ?_;refine dV fun _=>?_;refine dV fun _=>?_;refine(aB (f101 m.part (aO hz.part.a) (aO hz.part.b) n (by omega))).trans ?_;refine dV fun _=>?_;refine(aB (f125 m.marks (aO hz.marks) n (by omega))).trans ?_;rfl
 have lp:It (fun aA (_:Unit)=>c30_4 (aJ p n) aA m) (0:Int) (fun _=>oB (bH m.leaves.length (vK m.leaves)&&(mZ m.vec 100000&&(inB m.2.2.2.1 0 100000&&(inB m.hi 0 100000&&(qE m.tree&&(decide (((m.vec.length:Nat):Int)≤5)&&(aP m.part&&dR m.marks)))))))):=by
  refine It.allB m.leaves.length (vK m.leaves) _ (fun i hi aA u rec=>?_) (It.stopE (T:=fun aA _=>iter (c30_10 (aJ p n) aA m) aA (0:Int)) (fun aA u rec=>?_) inner.all_i)
  ·have hl:=hz.list
   show c30_4 (aJ p n) aA m rec (i:Int)=_
   unfold c30_4 vK;rw[aL (i63 hi hl)];refine(aE (Int.ofNat_lt.2 hi)).trans ?_;refine(aE (Int.natCast_nonneg _)).trans ?_;refine(aI hi).trans ?_;refine(aB (f100 (gt m.leaves i).1 0 3 n (by omega))).trans ?_;refine chk fun _=>?_
   cases i with
   | zero=>refine(aG (by decide)).trans ?_;rfl
   | succ j=>refine(aE (by omega)).trans ?_;rw[gK (i63 hi hl) (by omega)];refine(aE (Int.natCast_nonneg _)).trans ?_;refine(aI (show j<m.leaves.length by omega)).trans ?_;exact yR
  ·show c30_4 (aJ p n) aA m rec (m.leaves.length:Int)=_
   unfold c30_4;refine(aG (Int.lt_irrefl _)).trans ?_;rfl
 have key:∃ N,∀ aA,N≤aA→T30 (aJ p n) aA m=oB (jQ m):=by
  obtain⟨N,hN⟩:=lp.all_i
  refine⟨N,fun aA hf=>?_⟩
  unfold T30 jQ mK
  rw[Bool.and_assoc,Bool.and_assoc,Bool.and_assoc]
  refine(aB (f100 m.1 0 5 n (by omega))).trans ?_;refine cU fun _=>?_;refine(aB (f123 m.2.1 n (by omega))).trans ?_;refine cU fun _=>?_;refine(aB (f123 m.2.2.1 n (by omega))).trans ?_;refine cU fun _=>?_;refine yZ fun _=>?_
  exact hN aA hf ()
 exact key
-- what is shipped
theorem zI{n:Nat}{seq:Int}{l:eG}(h:g9 l seq=true):IntKind.i64.wrap (seq - l.2.1)=((cZ l seq:Nat):Int):=by
 have:=xN h;rw[IntKind.wrap_i64];omega
theorem f318(l:eG)(seq:Int)(hl:l.2.2.1.length≤aS)(hs:∀ i,i<l.2.2.1.length→SzS (gt l.2.2.1 i)):Ran p 6 318 [.val true ⟨K33,l⟩, .val false ⟨K3,(seq,())⟩] ⟨[⟨K27,jR l seq⟩,⟨K4,(g9 l seq,())⟩],[]⟩:=go318 fun n hn=>by
 have hq:fH l=true→bT l=IntKind.i64.wrap (l.2.1+((l.2.2.1.length:Nat):Int)):=fun h=>by unfold bT;rw[h];rfl
 cases hb:g9 l seq with
 | false=>
  exact Ev.now fun aA=>by
   unfold T318 jR;rw[hb];refine(aB (f105 l hl hs n (by omega))).trans ?_
   cases h1:fH l with
   | false=>rfl
   | true=>refine(aF rfl).trans ?_;refine(aB (f104 l hl hs n (by omega))).trans ?_;rw[hq h1];refine(aB (f100 seq l.2.1 (IntKind.i64.wrap (l.2.1+((l.2.2.1.length:Nat):Int))) n (by omega))).trans ?_;unfold g9 at hb;rw[h1] at hb;rw[show inB seq l.2.1 (IntKind.i64.wrap (l.2.1+((l.2.2.1.length:Nat):Int)))=false from hb];rfl
 | true=>
  have hk:=xN hb
  have hb':=hb
  unfold g9 at hb';rw[Bool.and_eq_true] at hb'
  have hw:=zI (n:=0) hb
  have e:((l.2.2.1.take l.2.2.1.length).drop ((IntKind.i64.wrap (seq - l.2.1))).toNat)=l.2.2.1.drop (cZ l seq):=by rw[hw,List.take_length];rfl
  have lp:It (fun aA (_:Unit)=>c318_5 (aJ p n) aA l seq) ((0:Int),([]:List bM),([]:List aX)) (fun _=>some ⟨[⟨K27,jR l seq⟩,⟨K4,(true,())⟩],[]⟩):=by
   refine It.run (fun i=>((i:Int),(eM l.2.2.1 (cZ l seq) i).1,(eM l.2.2.1 (cZ l seq) i).2.1)) (l.2.2.1.length - cZ l seq) (fun i hi aA u rec=>?_) (It.stop fun aA u rec=>?_)
   ·have hi1:cZ l seq+i<l.2.2.1.length:=by omega
    have hi2:i<((l.2.2.1.take l.2.2.1.length).drop ((IntKind.i64.wrap (seq - l.2.1))).toNat).length:=by rw[e,List.length_drop];omega
    have hg:gt ((l.2.2.1.take l.2.2.1.length).drop ((IntKind.i64.wrap (seq - l.2.1))).toNat) i=gt l.2.2.1 (cZ l seq+i):=by
     rw[e,dY (by rw[List.length_drop];omega),dY hi1,List.getElem_drop]
    have hj:eM l.2.2.1 (cZ l seq) (i+1)=dI (eM l.2.2.1 (cZ l seq) i) (gt ((l.2.2.1.take l.2.2.1.length).drop ((IntKind.i64.wrap (seq - l.2.1))).toNat) i):=by rw[hg];rfl
    have hz2:=hs _ hi1
    rw[← hg] at hz2
    show c318_5 (aJ p n) aA l seq rec ((i:Int),(eM l.2.2.1 (cZ l seq) i).1,(eM l.2.2.1 (cZ l seq) i).2.1)=rec (((i+1:Nat):Int),(eM l.2.2.1 (cZ l seq) (i+1)).1,(eM l.2.2.1 (cZ l seq) (i+1)).2.1)
    rw[hj];unfold c318_5;dsimp only;rw[aL (show i<9223372036854775807 by have:=i63 hi1 hl;omega)];refine(aE (Int.ofNat_lt.2 hi2)).trans ?_;refine(aE (Int.natCast_nonneg _)).trans ?_;refine(aI hi2).trans ?_;refine(aB (f240 (eM l.2.2.1 (cZ l seq) i) _ (sN _ _ _) hz2 n (by omega))).trans ?_;rfl
   ·show c318_5 (aJ p n) aA l seq rec (((l.2.2.1.length - cZ l seq:Nat):Int),(eM l.2.2.1 (cZ l seq) (l.2.2.1.length - cZ l seq)).1,(eM l.2.2.1 (cZ l seq) (l.2.2.1.length - cZ l seq)).2.1)=_
    unfold c318_5;dsimp only;refine(aG (show ¬ ((l.2.2.1.length - cZ l seq:Nat):Int)<((((l.2.2.1.take l.2.2.1.length).drop ((IntKind.i64.wrap (seq - l.2.1))).toNat).length:Nat):Int) by rw[e,List.length_drop];omega)).trans ?_;unfold jR;rw[hb];rfl
  exact Ev.eq (fun aA=>by unfold T318;refine(aB (f105 l hl hs n (by omega))).trans ?_;rw[hb'.1];refine(aF rfl).trans ?_;refine(aB (f104 l hl hs n (by omega))).trans ?_;rw[hq hb'.1];refine(aB (f100 seq l.2.1 (IntKind.i64.wrap (l.2.1+((l.2.2.1.length:Nat):Int))) n (by omega))).trans ?_;rw[hb'.2];refine(aF rfl).trans ?_;exact l5 (show(0:Int)≤IntKind.i64.wrap (seq - l.2.1) by rw[hw];omega) (show IntKind.i64.wrap (seq - l.2.1)≤((l.2.2.1.length:Nat):Int) by rw[hw];omega)) (lp.ev (i:=()) rfl)
theorem f239(x:NodeT)(seq:Int)(hz:SzN x)(h:NodeOk x):Ran p 8 239 [.val true ⟨K38,x⟩, .val false ⟨K3,(seq,())⟩] ⟨[⟨K27,uW x seq⟩,⟨K4,(g9 x.log seq,())⟩],[]⟩:=go239 fun n hn=>Ev.now fun aA=>by
 unfold T239 uW;refine(aB (f23 x hz n (by omega))).trans ?_;rw[(cN x).2 h];refine(aF rfl).trans ?_;refine(bA (f318 x.log seq hz.list hz.logs n (by omega))).trans ?_
 cases g9 x.log seq with
 | true=>rfl
 | false=>refine(aN rfl).trans ?_;refine(aB (f220 x.state hz.state n (by omega))).trans ?_;rfl
theorem CZ{s:aK}(h:aP s=true):s.1.length≤1000∧s.2.1.length≤1000:=by have:=((bF s).1 h).len;omega
theorem f99(x:NodeT)(ls:List aZ)(m:MsgT)(hz:SzN x)(h:NodeOk x)(hl:ls.length≤aS)(h0:0≤x.1)(hv:x.1.toNat<m.vec.length):Ran p 9 99 [.val true ⟨K38,x⟩, .val false ⟨K28,(ls,())⟩, .val true ⟨K43,m⟩] ⟨[⟨K27,yB x ls (gt m.vec x.1.toNat).1⟩],[]⟩:=go99 fun n hn=>Ev.now fun aA=>by
 have hm:=CZ h.state
 unfold T99;refine(aE h0).trans ?_;refine(aW hv).trans ?_;refine(bA (f239 x (gt m.vec x.1.toNat).1 hz h n (by omega))).trans ?_;refine(aB (f241 x.state ls (aO hl) hm.1 hm.2 h.state n (by omega))).trans ?_;refine(aB (f240 (gH x.state ls) (uW x (gt m.vec x.1.toNat).1) (C0 hz.state ls) (C3 hz _) n (by omega))).trans ?_;rfl
end Go.Abs.Xz
