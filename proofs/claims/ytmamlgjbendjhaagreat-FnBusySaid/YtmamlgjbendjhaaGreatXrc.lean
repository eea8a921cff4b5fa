/- What the functions of this program answer, part rc. -/
import Derived.Test.YtmamlgjbendjhaaGreatXrb
set_option linter.unusedVariables false
namespace Go.Abs.Xz
open Go Go.Abs
theorem f124(t:hZ)(ht:t.1.length≤aW):Ran p 2 124 [.val true ⟨K30,t⟩] ⟨[⟨K4,(jT t,())⟩],[]⟩:=go124 fun n hn=>by
 cases h0:((t.1.length:Nat):Int)==0 with
 | true=>exact Ev.now fun aA=>by unfold T124 jT;rw[h0];exact aN h0
 | false=>
  have lp:It (fun aA (_:Unit)=>c124_4 (aK p n) aA t) (0:Int) (fun _=>oB (nG t.1 1023&&(((t.1.length:Nat):Int)==4&&inB t.2.1 0 1023))):=by
   refine It.allB t.1.length (fun i=>inB (gt t.1 i).1 0 1023) _ (fun i hi aA u rec=>?_) (It.stop fun aA u rec=>?_)
   ·show c124_4 (aK p n) aA t rec (i:Int)=_
    unfold c124_4;rw[aL (i63 hi ht)];refine(aE (Int.ofNat_lt.2 hi)).trans ?_;refine(aE (Int.natCast_nonneg _)).trans ?_;refine(aJ hi).trans ?_;refine(aB (f100 (gt t.1 i).1 0 1023 n (by omega))).trans ?_;exact fin
   ·show c124_4 (aK p n) aA t rec (t.1.length:Int)=_
    unfold c124_4;refine(aG (Int.lt_irrefl _)).trans ?_
    cases h4:((t.1.length:Nat):Int)==4 with
    | false=>exact aF h4
    | true=>refine(aN h4).trans ?_;refine(aB (f100 t.2.1 0 1023 n (by omega))).trans ?_;rfl
  have e:jT t=(nG t.1 1023&&(((t.1.length:Nat):Int)==4&&inB t.2.1 0 1023)):=by unfold jT;rw[h0];show(_&&(_&&_))=_;ac_rfl
  rw[e]
  exact Ev.eq (fun aA=>by unfold T124;exact aF h0) (lp.ev (i:=()) rfl)
theorem f30(m:MsgT)(hz:SzM m):Ran p 4 30 [.val true ⟨K43,m⟩] ⟨[⟨K4,(iS m,())⟩],[]⟩:=go30 fun n hn=>by
 have inner:It (fun aA (_:Unit)=>c30_10 (aK p n) aA m) (0:Int) (fun _=>oB (nG m.vec 100000&&(inB m.2.2.2.1 0 100000&&(inB m.hi 0 100000&&(jT m.tree&&(decide (((m.vec.length:Nat):Int)≤5)&&(aO m.part&&dD m.marks))))))):=by
  refine It.allB m.vec.length (fun i=>inB (gt m.vec i).1 0 100000) _ (fun i hi aA u rec=>?_) (It.stop fun aA u rec=>?_)
  ·show c30_10 (aK p n) aA m rec (i:Int)=_
   unfold c30_10;rw[aL (i63 hi hz.vec)];refine(aE (Int.ofNat_lt.2 hi)).trans ?_;refine(aE (Int.natCast_nonneg _)).trans ?_;refine(aJ hi).trans ?_;refine(aB (f100 (gt m.vec i).1 0 100000 n (by omega))).trans ?_;exact fin
  ·show c30_10 (aK p n) aA m rec (m.vec.length:Int)=_
   unfold c30_10;refine(aG (Int.lt_irrefl _)).trans ?_;refine(aB (f100 m.2.2.2.1 0 100000 n (by omega))).trans ?_;refine eA fun _=>?_;refine(aB (f100 m.hi 0 100000 n (by omega))).trans ?_;refine eA fun _=>?_;refine(aB (f124 m.tree hz.leaves n (by omega))).trans ?_;refine eA fun _=>?_;refine eA fun _=>?_;refine(aB (f101 m.part (aP hz.part.a) (aP hz.part.b) n (by omega))).trans ?_;refine eA fun _=>?_;refine(aB (f125 m.marks (aP hz.marks) n (by omega))).trans ?_;rfl
 have lp:It (fun aA (_:Unit)=>c30_4 (aK p n) aA m) (0:Int) (fun _=>oB (bI m.leaves.length (vZ m.leaves)&&(nG m.vec 100000&&(inB m.2.2.2.1 0 100000&&(inB m.hi 0 100000&&(jT m.tree&&(decide (((m.vec.length:Nat):Int)≤5)&&(aO m.part&&dD m.marks)))))))):=by
  refine It.allB m.leaves.length (vZ m.leaves) _ (fun i hi aA u rec=>?_) (It.stopE (T:=fun aA _=>iter (c30_10 (aK p n) aA m) aA (0:Int)) (fun aA u rec=>?_) inner.all_i)
  ·have hl:=hz.list
   show c30_4 (aK p n) aA m rec (i:Int)=_
   unfold c30_4 vZ;rw[aL (i63 hi hl)];refine(aE (Int.ofNat_lt.2 hi)).trans ?_;refine(aE (Int.natCast_nonneg _)).trans ?_;refine(aJ hi).trans ?_;refine(aB (f100 (gt m.leaves i).1 0 3 n (by omega))).trans ?_;refine chk fun _=>?_
   cases i with
   | zero=>refine(aG (by decide)).trans ?_;rfl
   | succ j=>refine(aE (by omega)).trans ?_;rw[gP (i63 hi hl) (by omega)];refine(aE (Int.natCast_nonneg _)).trans ?_;refine(aJ (show j<m.leaves.length by omega)).trans ?_;exact y3
  ·show c30_4 (aK p n) aA m rec (m.leaves.length:Int)=_
   unfold c30_4;refine(aG (Int.lt_irrefl _)).trans ?_;rfl
 have key:∃ N,∀ aA,N≤aA→T30 (aK p n) aA m=oB (iS m):=by
  obtain⟨N,hN⟩:=lp.all_i
  refine⟨N,fun aA hf=>?_⟩
  unfold T30 iS mW
  rw[Bool.and_assoc,Bool.and_assoc,Bool.and_assoc]
  refine(aB (f100 m.1 0 5 n (by omega))).trans ?_;refine cV fun _=>?_;refine(aB (f123 m.2.1 n (by omega))).trans ?_;refine cV fun _=>?_;refine(aB (f123 m.2.2.1 n (by omega))).trans ?_;refine cV fun _=>?_;refine zC fun _=>?_
  exact hN aA hf ()
 exact key
-- what is shipped
theorem zR{n:Nat}{seq:Int}{l:eL}(h:hS l seq=true):IntKind.i64.wrap (seq - l.2.1)=((c6 l seq:Nat):Int):=by
 have:=xX h;rw[IntKind.wrap_i64];omega
theorem f318(l:eL)(seq:Int)(hl:l.2.2.1.length≤aW)(hs:∀ i,i<l.2.2.1.length→SzS (gt l.2.2.1 i)):Ran p 6 318 [.val true ⟨K33,l⟩, .val false ⟨K3,(seq,())⟩] ⟨[⟨K27,jZ l seq⟩,⟨K4,(hS l seq,())⟩],[]⟩:=go318 fun n hn=>by
 have hq:fK l=true→bU l=IntKind.i64.wrap (l.2.1+((l.2.2.1.length:Nat):Int)):=fun h=>by unfold bU;rw[h];rfl
 cases hb:hS l seq with
 | false=>
  exact Ev.now fun aA=>by
   unfold T318 jZ;rw[hb];refine(aB (f105 l hl hs n (by omega))).trans ?_
   cases h1:fK l with
   | false=>rfl
   | true=>refine(aF rfl).trans ?_;refine(aB (f104 l hl hs n (by omega))).trans ?_;rw[hq h1];refine(aB (f100 seq l.2.1 (IntKind.i64.wrap (l.2.1+((l.2.2.1.length:Nat):Int))) n (by omega))).trans ?_;unfold hS at hb;rw[h1] at hb;rw[show inB seq l.2.1 (IntKind.i64.wrap (l.2.1+((l.2.2.1.length:Nat):Int)))=false from hb];rfl
 | true=>
  have hk:=xX hb
  have hb':=hb
  unfold hS at hb';rw[Bool.and_eq_true] at hb'
  have hw:=zR (n:=0) hb
  have e:((l.2.2.1.take l.2.2.1.length).drop ((IntKind.i64.wrap (seq - l.2.1))).toNat)=l.2.2.1.drop (c6 l seq):=by rw[hw,List.take_length];rfl
  have lp:It (fun aA (_:Unit)=>c318_5 (aK p n) aA l seq) ((0:Int),([]:List bM),([]:List aX)) (fun _=>some ⟨[⟨K27,jZ l seq⟩,⟨K4,(true,())⟩],[]⟩):=by
   refine It.run (fun i=>((i:Int),(eQ l.2.2.1 (c6 l seq) i).1,(eQ l.2.2.1 (c6 l seq) i).2.1)) (l.2.2.1.length - c6 l seq) (fun i hi aA u rec=>?_) (It.stop fun aA u rec=>?_)
   ·have hi1:c6 l seq+i<l.2.2.1.length:=by omega
    have hi2:i<((l.2.2.1.take l.2.2.1.length).drop ((IntKind.i64.wrap (seq - l.2.1))).toNat).length:=by rw[e,List.length_drop];omega
    have hg:gt ((l.2.2.1.take l.2.2.1.length).drop ((IntKind.i64.wrap (seq - l.2.1))).toNat) i=gt l.2.2.1 (c6 l seq+i):=by
     rw[e,dQ (by rw[List.length_drop];omega),dQ hi1,List.getElem_drop]
    have hj:eQ l.2.2.1 (c6 l seq) (i+1)=dL (eQ l.2.2.1 (c6 l seq) i) (gt ((l.2.2.1.take l.2.2.1.length).drop ((IntKind.i64.wrap (seq - l.2.1))).toNat) i):=by rw[hg];rfl
    have hz2:=hs _ hi1
    rw[← hg] at hz2
    show c318_5 (aK p n) aA l seq rec ((i:Int),(eQ l.2.2.1 (c6 l seq) i).1,(eQ l.2.2.1 (c6 l seq) i).2.1)=rec (((i+1:Nat):Int),(eQ l.2.2.1 (c6 l seq) (i+1)).1,(eQ l.2.2.1 (c6 l seq) (i+1)).2.1)
    rw[hj];unfold c318_5;dsimp only;rw[aL (show i<9223372036854775807 by have:=i63 hi1 hl;omega)];refine(aE (Int.ofNat_lt.2 hi2)).trans ?_;refine(aE (Int.natCast_nonneg _)).trans ?_;refine(aJ hi2).trans ?_;refine(aB (f240 (eQ l.2.2.1 (c6 l seq) i) _ (tA _ _ _) hz2 n (by omega))).trans ?_;rfl
   ·show c318_5 (aK p n) aA l seq rec (((l.2.2.1.length - c6 l seq:Nat):Int),(eQ l.2.2.1 (c6 l seq) (l.2.2.1.length - c6 l seq)).1,(eQ l.2.2.1 (c6 l seq) (l.2.2.1.length - c6 l seq)).2.1)=_
    unfold c318_5;dsimp only;refine(aG (show ¬ ((l.2.2.1.length - c6 l seq:Nat):Int)<((((l.2.2.1.take l.2.2.1.length).drop ((IntKind.i64.wrap (seq - l.2.1))).toNat).length:Nat):Int) by rw[e,List.length_drop];omega)).trans ?_;unfold jZ;rw[hb];rfl
  exact Ev.eq (fun aA=>by unfold T318;refine(aB (f105 l hl hs n (by omega))).trans ?_;rw[hb'.1];refine(aF rfl).trans ?_;refine(aB (f104 l hl hs n (by omega))).trans ?_;rw[hq hb'.1];refine(aB (f100 seq l.2.1 (IntKind.i64.wrap (l.2.1+((l.2.2.1.length:Nat):Int))) n (by omega))).trans ?_;rw[hb'.2];refine(aF rfl).trans ?_;exact mH (show(0:Int)≤IntKind.i64.wrap (seq - l.2.1) by rw[hw];omega) (show IntKind.i64.wrap (seq - l.2.1)≤((l.2.2.1.length:Nat):Int) by rw[hw];omega)) (lp.ev (i:=()) rfl)
theorem f239(x:NodeT)(seq:Int)(hz:SzN x)(h:NodeOk x):Ran p 8 239 [.val true ⟨K38,x⟩, .val false ⟨K3,(seq,())⟩] ⟨[⟨K27,vD x seq⟩,⟨K4,(hS x.log seq,())⟩],[]⟩:=go239 fun n hn=>Ev.now fun aA=>by
 unfold T239 vD;refine(aB (f23 x hz n (by omega))).trans ?_;rw[(c7 x).2 h];refine(aF rfl).trans ?_;refine(bB (f318 x.log seq hz.list hz.logs n (by omega))).trans ?_
 cases hS x.log seq with
 | true=>rfl
 | false=>refine(aN rfl).trans ?_;refine(aB (f220 x.state hz.state n (by omega))).trans ?_;rfl
theorem DN{s:aI}(h:aO s=true):s.1.length≤1000∧s.2.1.length≤1000:=by have:=((bF s).1 h).len;omega
theorem f99(x:NodeT)(ls:List aY)(m:MsgT)(hz:SzN x)(h:NodeOk x)(hl:ls.length≤aW)(h0:0≤x.1)(hv:x.1.toNat<m.vec.length):Ran p 9 99 [.val true ⟨K38,x⟩, .val false ⟨K28,(ls,())⟩, .val true ⟨K43,m⟩] ⟨[⟨K27,yL x ls (gt m.vec x.1.toNat).1⟩],[]⟩:=go99 fun n hn=>Ev.now fun aA=>by
 have hm:=DN h.state
 unfold T99;refine(aE h0).trans ?_;refine(aS hv).trans ?_;refine(bB (f239 x (gt m.vec x.1.toNat).1 hz h n (by omega))).trans ?_;refine(aB (f241 x.state ls (aP hl) hm.1 hm.2 h.state n (by omega))).trans ?_;refine(aB (f240 (gL x.state ls) (vD x (gt m.vec x.1.toNat).1) (DP hz.state ls) (DS hz _) n (by omega))).trans ?_;rfl
end Go.Abs.Xz
