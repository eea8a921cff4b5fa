/- What the functions of this program answer, part rc. -/
import Derived.Test.YtmamlgjbendjhaaGreatXrb
set_option linter.unusedVariables false
open Go.IntKind (i64)
namespace Go.Abs.Xz
open Go Go.Abs
theorem f252(v:List bB)(a b:Int)(hv:v.length≤aX):Ran p 2 252 [vf K28 (v,()), vf K3 (a,()), vf K3 (b,())] (rO K4 (mX v a b,())):=go252 fun n hn=>by
 by_cases h:(v.length:Int)>a
 ·exact Ev.now fun aA=>by unfold T252 mX;rw[decide_eq_true h];exact aE h
 ·have lp:It (fun aA (_:Unit)=>c252_4 (aG p n) aA v b) (0:Int) (fun _=>oB (mY v b)):=by
   refine cZ (It.allB v.length (fun i=>inB (gt v i).1 0 b) true (fun i hi aA u rec=>?_) (It.stop fun aA u rec=>?_))
   ·show c252_4 (aG p n) aA v b rec (i:Int)=_
    unfold c252_4;rw[aI (i63 hi hv)];refine(aE (Int.ofNat_lt.2 hi)).trans ?_;refine bif_nn.trans ?_;refine(aK hi).trans ?_;refine(aC (f211 (gt v i).1 0 b n (by omega))).trans ?_;exact fin
   ·show c252_4 (aG p n) aA v b rec (v.length:Int)=_
    unfold c252_4;refine(aF (Int.lt_irrefl _)).trans ?_;rfl
  have e:mX v a b=mY v b:=by unfold mX;rw[decide_eq_false h];rfl
  rw[e]
  exact Ev.eq (fun aA=>by unfold T252;exact aF h) (lp.ev (i:=()) rfl)
theorem f251(t:jZ)(ht:t.1.length≤aX):Ran p 3 251 [va K30 t] (rO K4 (oT t,())):=go251 fun n hn=>Ev.now fun aA=>by
 unfold T251 oT
 cases h0:(t.1.length:Int)==0 with
 | true=>exact aN h0
 | false=>
  refine(aL h0).trans ?_
  cases h4:(t.1.length:Int)==4 with
  | false=>exact aL h4
  | true=>
   refine(aN h4).trans ?_;refine(aC (f252 t.1 4 1023 ht n (by omega))).trans ?_
   have e:mX t.1 4 1023=mY t.1 1023:=by unfold mX;rw[decide_eq_false (by have:=eq_of_beq h4;omega)];rfl
   rw[e]
   cases mY t.1 1023 with
   | false=>rfl
   | true=>refine(aN rfl).trans ?_;refine(aC (f211 t.2.1 0 1023 n (by omega))).trans ?_;rfl
theorem f124(t:jZ)(ht:t.1.length≤aX):Ran p 2 124 [va K30 t] (rO K4 (oT t,())):=go124 fun n hn=>by
 cases h0:(t.1.length:Int)==0 with
 | true=>exact Ev.now fun aA=>by unfold T124 oT;rw[h0];exact aN h0
 | false=>
  have lp:It (fun aA (_:Unit)=>c124_4 (aG p n) aA t) (0:Int) (fun _=>oB (mY t.1 1023&&((t.1.length:Int)==4&&inB t.2.1 0 1023))):=by
   refine It.allB t.1.length (fun i=>inB (gt t.1 i).1 0 1023) _ (fun i hi aA u rec=>?_) (It.stop fun aA u rec=>?_)
   ·show c124_4 (aG p n) aA t rec (i:Int)=_
    unfold c124_4;rw[aI (i63 hi ht)];refine(aE (Int.ofNat_lt.2 hi)).trans ?_;refine bif_nn.trans ?_;refine(aK hi).trans ?_;refine(aC (f100 (gt t.1 i).1 0 1023 n (by omega))).trans ?_;exact fin
   ·show c124_4 (aG p n) aA t rec (t.1.length:Int)=_
    unfold c124_4;refine(aF (Int.lt_irrefl _)).trans ?_
    cases h4:(t.1.length:Int)==4 with
    | false=>exact aL h4
    | true=>refine(aN h4).trans ?_;refine(aC (f100 t.2.1 0 1023 n (by omega))).trans ?_;rfl
  have e:oT t=(mY t.1 1023&&((t.1.length:Int)==4&&inB t.2.1 0 1023)):=by unfold oT;rw[h0];show(_&&(_&&_))=_;ac_rfl
  rw[e]
  exact Ev.eq (fun aA=>by unfold T124;exact aL h0) (lp.ev (i:=()) rfl)
theorem f113(m:MsgT)(hz:SzM m):Ran p 4 113 [va K43 m] (rO K4 (lL m,())):=go113 fun n hn=>by
 have lp:It (fun aA (_:Unit)=>c113_6 (aG p n) aA m) (1:Int) (fun _=>oB (bZ (m.leaves.length - 1) (AV m.leaves))):=by
  have:=It.all (c:=fun aA (_:Unit)=>c113_6 (aG p n) aA m) (rA:=fun _=>oB true) (rB:=fun _=>oB false) (fun i=>(((i+1:Nat)):Int)) (m.leaves.length - 1) (AV m.leaves) (fun i hi aA u rec=>by
   have hi1:i+1<m.leaves.length:=by omega
   have hl:=hz.list
   show c113_6 (aG p n) aA m rec (((i+1:Nat)):Int)=_
   unfold c113_6;rw[aI (i63 hi1 hl)];refine(aE (Int.ofNat_lt.2 hi1)).trans ?_;refine bif_nn.trans ?_;refine(aK hi1).trans ?_;rw[hX (i63 hi1 hl) (by omega)];refine bif_nn.trans ?_;refine(aK (show i<m.leaves.length by omega)).trans ?_;exact zD) (It.stop fun aA u rec=>by
   show c113_6 (aG p n) aA m rec (((m.leaves.length - 1+1:Nat)):Int)=_
   unfold c113_6;refine(aF (show ¬ (((m.leaves.length - 1+1:Nat)):Int)<(m.leaves.length:Int) by omega)).trans ?_;rfl)
  refine cast ?_ this
  congr 1;funext u;exact JT
 rw[← C6]
 have key:∃ N,∀ aA,N≤aA→T113 (aG p n) aA m=oB (vK m):=by
  obtain⟨N,hN⟩:=lp.all_i
  refine⟨N,fun aA hf=>?_⟩
  unfold T113 vK
  refine(aC (f211 m.1 0 5 n (by omega))).trans ?_;refine eA fun _=>?_;refine(aC (f250 m.2.1 n (by omega))).trans ?_;refine eA fun _=>?_;refine(aC (f250 m.2.2.1 n (by omega))).trans ?_;refine eA fun _=>?_;refine pA fun _=>?_;refine(aC (f211 m.2.2.2.1 0 100000 n (by omega))).trans ?_;refine eA fun _=>?_;refine(aC (f211 m.hi 0 100000 n (by omega))).trans ?_;refine eA fun _=>?_
  refine(aC (f251 m.tree hz.leaves n (by omega))).trans ?_;refine eA fun _=>?_;refine(aC (f252 m.vec 5 100000 hz.vec n (by omega))).trans ?_;refine eA fun _=>?_;refine(aC (f252 m.leaves 4 3 hz.list n (by omega))).trans ?_;refine eA fun _=>?_;refine(aC (f227 m.part (aU hz.part.a) (aU hz.part.b) n (by omega))).trans ?_;refine eA fun _=>?_;refine(aC (f253 m.marks (aU hz.marks) n (by omega))).trans ?_;refine eA fun _=>?_
  exact hN aA hf ()
 exact key
theorem f30(m:MsgT)(hz:SzM m):Ran p 4 30 [va K43 m] (rO K4 (lL m,())):=go30 fun n hn=>by
 have inner:It (fun aA (_:Unit)=>c30_10 (aG p n) aA m) (0:Int) (fun _=>oB (mY m.vec 100000&&(inB m.2.2.2.1 0 100000&&(inB m.hi 0 100000&&(oT m.tree&&(decide ((m.vec.length:Int)≤5)&&(bA m.part&&eK m.marks))))))):=by
  refine It.allB m.vec.length (fun i=>inB (gt m.vec i).1 0 100000) _ (fun i hi aA u rec=>?_) (It.stop fun aA u rec=>?_)
  ·show c30_10 (aG p n) aA m rec (i:Int)=_
   unfold c30_10;rw[aI (i63 hi hz.vec)];refine(aE (Int.ofNat_lt.2 hi)).trans ?_;refine bif_nn.trans ?_;refine(aK hi).trans ?_;refine(aC (f100 (gt m.vec i).1 0 100000 n (by omega))).trans ?_;exact fin
  ·show c30_10 (aG p n) aA m rec (m.vec.length:Int)=_
   unfold c30_10;refine(aF (Int.lt_irrefl _)).trans ?_;refine(aC (f100 m.2.2.2.1 0 100000 n (by omega))).trans ?_;refine eH fun _=>?_;refine(aC (f100 m.hi 0 100000 n (by omega))).trans ?_;refine eH fun _=>?_;refine(aC (f124 m.tree hz.leaves n (by omega))).trans ?_;refine eH fun _=>?_;refine eH fun _=>?_;refine(aC (f101 m.part (aU hz.part.a) (aU hz.part.b) n (by omega))).trans ?_;refine eH fun _=>?_;refine(aC (f125 m.marks (aU hz.marks) n (by omega))).trans ?_;rfl
 have lp:It (fun aA (_:Unit)=>c30_4 (aG p n) aA m) (0:Int) (fun _=>oB (bZ m.leaves.length (xL m.leaves)&&(mY m.vec 100000&&(inB m.2.2.2.1 0 100000&&(inB m.hi 0 100000&&(oT m.tree&&(decide ((m.vec.length:Int)≤5)&&(bA m.part&&eK m.marks)))))))):=by
  refine It.allB m.leaves.length (xL m.leaves) _ (fun i hi aA u rec=>?_) (It.stopE (T:=fun aA _=>iter (c30_10 (aG p n) aA m) aA (0:Int)) (fun aA u rec=>?_) inner.all_i)
  ·have hl:=hz.list
   show c30_4 (aG p n) aA m rec (i:Int)=_
   unfold c30_4 xL;rw[aI (i63 hi hl)];refine(aE (Int.ofNat_lt.2 hi)).trans ?_;refine bif_nn.trans ?_;refine(aK hi).trans ?_;refine(aC (f100 (gt m.leaves i).1 0 3 n (by omega))).trans ?_;refine chk fun _=>?_
   cases i with
   | zero=>refine(aF (by decide)).trans ?_;rfl
   | succ j=>refine(aE (by omega)).trans ?_;rw[hX (i63 hi hl) (by omega)];refine bif_nn.trans ?_;refine(aK (show j<m.leaves.length by omega)).trans ?_;exact zD
  ·show c30_4 (aG p n) aA m rec (m.leaves.length:Int)=_
   unfold c30_4;refine(aF (Int.lt_irrefl _)).trans ?_;rfl
 have key:∃ N,∀ aA,N≤aA→T30 (aG p n) aA m=oB (lL m):=by
  obtain⟨N,hN⟩:=lp.all_i
  refine⟨N,fun aA hf=>?_⟩
  unfold T30 lL qN
  rw[Bool.and_assoc,Bool.and_assoc,Bool.and_assoc]
  refine(aC (f100 m.1 0 5 n (by omega))).trans ?_;refine eA fun _=>?_;refine(aC (f123 m.2.1 n (by omega))).trans ?_;refine eA fun _=>?_;refine(aC (f123 m.2.2.1 n (by omega))).trans ?_;refine eA fun _=>?_;refine pA fun _=>?_
  exact hN aA hf ()
 exact key
-- what is shipped
theorem u4{n:Nat}{seq:Int}{l:lV}(h:fA l seq=true):i64.wrap (seq - l.2.1)=((bT l seq:Nat):Int):=by
 have:=p6 h;rw[IntKind.wrap_i64];omega
theorem f326(l:lV)(seq:Int)(hl:l.2.2.1.length≤aX)(hs:∀ i,i<l.2.2.1.length→SzS (gt l.2.2.1 i)):Ran p 5 326 [va K33 l, vf K3 (seq,())] ⟨[⟨K27,fZ l seq⟩,⟨K4,(fA l seq,())⟩],[]⟩:=go326 fun n hn=>by
 cases hb:fA l seq with
 | false=>
  exact Ev.now fun aA=>by
   unfold T326 fZ;rw[hb];refine(aC (f229 l hl hs n (by omega))).trans ?_
   cases h1:gR l with
   | false=>rfl
   | true=>refine(aL rfl).trans ?_;refine(aC (f211 seq l.2.1 (i64.wrap (l.2.1+(l.2.2.1.length:Int))) n (by omega))).trans ?_;unfold fA at hb;rw[h1] at hb;rw[show inB seq l.2.1 (i64.wrap (l.2.1+(l.2.2.1.length:Int)))=false from hb];rfl
 | true=>
  have hk:=p6 hb
  have hb':=hb
  unfold fA at hb';rw[Bool.and_eq_true] at hb'
  have lp:It (fun aA (_:Unit)=>c326_5 (aG p n) aA l) (((bT l seq:Nat):Int),([]:List cE),([]:List aY)) (fun _=>some ⟨[⟨K27,fZ l seq⟩,⟨K4,(true,())⟩],[]⟩):=by
   refine It.run (fun i=>(((bT l seq+i:Nat):Int),(dM l.2.2.1 (bT l seq) i).1,(dM l.2.2.1 (bT l seq) i).2.1)) (l.2.2.1.length - bT l seq) (fun i hi aA u rec=>?_) (It.stop fun aA u rec=>?_)
   ·have hi1:bT l seq+i<l.2.2.1.length:=by omega
    have o1:=(bK _).1 (pD hb'.1 (bT l seq) i (by omega))
    have o2:=(bK _).1 (show bA (gt l.2.2.1 (bT l seq+i))=true by have h1:=hb'.1;unfold gR at h1;simp only[Bool.and_eq_true] at h1;exact cG.1 h1.2.2.2.2 _ hi1)
    show c326_5 (aG p n) aA l rec (((bT l seq+i:Nat):Int),(dM l.2.2.1 (bT l seq) i).1,(dM l.2.2.1 (bT l seq) i).2.1)=_
    unfold c326_5;dsimp only;rw[aI (i63 hi1 hl)];refine(aE (Int.ofNat_lt.2 hi1)).trans ?_;refine bif_nn.trans ?_;refine(aK hi1).trans ?_;refine(aC (f260 (dM l.2.2.1 (bT l seq) i) (gt l.2.2.1 (bT l seq+i)) (pC _ _ _) (hs _ hi1) o1.pos o2.pos n (by omega))).trans ?_;rfl
   ·show c326_5 (aG p n) aA l rec (((bT l seq+(l.2.2.1.length - bT l seq):Nat):Int),(dM l.2.2.1 (bT l seq) (l.2.2.1.length - bT l seq)).1,(dM l.2.2.1 (bT l seq) (l.2.2.1.length - bT l seq)).2.1)=_
    unfold c326_5;dsimp only;refine(aF (show ¬ ((bT l seq+(l.2.2.1.length - bT l seq):Nat):Int)<(l.2.2.1.length:Int) by omega)).trans ?_;unfold fZ;rw[hb];rfl
  exact Ev.eq (fun aA=>by unfold T326;refine(aC (f229 l hl hs n (by omega))).trans ?_;rw[hb'.1];refine(aL rfl).trans ?_;refine(aC (f211 seq l.2.1 (i64.wrap (l.2.1+(l.2.2.1.length:Int))) n (by omega))).trans ?_;rw[hb'.2];refine(aL rfl).trans ?_;rw[u4 (n:=0) hb];rfl) (lp.ev (i:=()) rfl)
theorem f318(l:lV)(seq:Int)(hl:l.2.2.1.length≤aX)(hs:∀ i,i<l.2.2.1.length→SzS (gt l.2.2.1 i)):Ran p 6 318 [va K33 l, vf K3 (seq,())] ⟨[⟨K27,fZ l seq⟩,⟨K4,(fA l seq,())⟩],[]⟩:=go318 fun n hn=>by
 have hq:gR l=true→dU l=i64.wrap (l.2.1+(l.2.2.1.length:Int)):=fun h=>by unfold dU;rw[h];rfl
 cases hb:fA l seq with
 | false=>
  exact Ev.now fun aA=>by
   unfold T318 fZ;rw[hb];refine(aC (f105 l hl hs n (by omega))).trans ?_
   cases h1:gR l with
   | false=>rfl
   | true=>refine(aL rfl).trans ?_;refine(aC (f104 l hl hs n (by omega))).trans ?_;rw[hq h1];refine(aC (f100 seq l.2.1 (i64.wrap (l.2.1+(l.2.2.1.length:Int))) n (by omega))).trans ?_;unfold fA at hb;rw[h1] at hb;rw[show inB seq l.2.1 (i64.wrap (l.2.1+(l.2.2.1.length:Int)))=false from hb];rfl
 | true=>
  have hk:=p6 hb
  have hb':=hb
  unfold fA at hb';rw[Bool.and_eq_true] at hb'
  have hw:=u4 (n:=0) hb
  have e:((l.2.2.1.take l.2.2.1.length).drop ((i64.wrap (seq - l.2.1))).toNat)=l.2.2.1.drop (bT l seq):=by rw[hw,List.take_length];rfl
  have lp:It (fun aA (_:Unit)=>c318_5 (aG p n) aA l seq) ((0:Int),([]:List cE),([]:List aY)) (fun _=>some ⟨[⟨K27,fZ l seq⟩,⟨K4,(true,())⟩],[]⟩):=by
   refine It.run (fun i=>((i:Int),(dM l.2.2.1 (bT l seq) i).1,(dM l.2.2.1 (bT l seq) i).2.1)) (l.2.2.1.length - bT l seq) (fun i hi aA u rec=>?_) (It.stop fun aA u rec=>?_)
   ·have hi1:bT l seq+i<l.2.2.1.length:=by omega
    have hi2:i<((l.2.2.1.take l.2.2.1.length).drop ((i64.wrap (seq - l.2.1))).toNat).length:=by rw[e,List.length_drop];omega
    have hg:gt ((l.2.2.1.take l.2.2.1.length).drop ((i64.wrap (seq - l.2.1))).toNat) i=gt l.2.2.1 (bT l seq+i):=by
     rw[e,eX (by rw[List.length_drop];omega),eX hi1,List.getElem_drop]
    have hj:dM l.2.2.1 (bT l seq) (i+1)=eQ (dM l.2.2.1 (bT l seq) i) (gt ((l.2.2.1.take l.2.2.1.length).drop ((i64.wrap (seq - l.2.1))).toNat) i):=by rw[hg];rfl
    have hz2:=hs _ hi1
    rw[← hg] at hz2
    show c318_5 (aG p n) aA l seq rec ((i:Int),(dM l.2.2.1 (bT l seq) i).1,(dM l.2.2.1 (bT l seq) i).2.1)=rec (((i+1:Nat):Int),(dM l.2.2.1 (bT l seq) (i+1)).1,(dM l.2.2.1 (bT l seq) (i+1)).2.1)
    rw[hj];unfold c318_5;dsimp only;rw[aI (show i<9223372036854775807 by have:=i63 hi1 hl;omega)];refine(aE (Int.ofNat_lt.2 hi2)).trans ?_;refine bif_nn.trans ?_;refine(aK hi2).trans ?_;refine(aC (f240 (dM l.2.2.1 (bT l seq) i) _ (pC _ _ _) hz2 n (by omega))).trans ?_;rfl
   ·show c318_5 (aG p n) aA l seq rec (((l.2.2.1.length - bT l seq:Nat):Int),(dM l.2.2.1 (bT l seq) (l.2.2.1.length - bT l seq)).1,(dM l.2.2.1 (bT l seq) (l.2.2.1.length - bT l seq)).2.1)=_
    unfold c318_5;dsimp only;refine(aF (show ¬ ((l.2.2.1.length - bT l seq:Nat):Int)<((((l.2.2.1.take l.2.2.1.length).drop ((i64.wrap (seq - l.2.1))).toNat).length:Nat):Int) by rw[e,List.length_drop];omega)).trans ?_;unfold fZ;rw[hb];rfl
  exact Ev.eq (fun aA=>by unfold T318;refine(aC (f105 l hl hs n (by omega))).trans ?_;rw[hb'.1];refine(aL rfl).trans ?_;refine(aC (f104 l hl hs n (by omega))).trans ?_;rw[hq hb'.1];refine(aC (f100 seq l.2.1 (i64.wrap (l.2.1+(l.2.2.1.length:Int))) n (by omega))).trans ?_;rw[hb'.2];refine(aL rfl).trans ?_;exact wD (show(0:Int)≤i64.wrap (seq - l.2.1) by rw[hw];omega) (show i64.wrap (seq - l.2.1)≤(l.2.2.1.length:Int) by rw[hw];omega)) (lp.ev (i:=()) rfl)
theorem f259(x:NodeT)(seq:Int)(hz:SzN x):Ran p 6 259 [va K38 x, vf K3 (seq,())] ⟨[⟨K27,nA x seq⟩,⟨K4,(fA x.log seq,())⟩],[]⟩:=go259 fun n hn=>Ev.now fun aA=>by
 unfold T259 nA;refine(cR (f326 x.log seq hz.list hz.logs n (by omega))).trans ?_
 cases fA x.log seq with
 | true=>rfl
 | false=>refine(aL rfl).trans ?_;refine(aC (f224 x.state hz.state n (by omega))).trans ?_;rfl
theorem f239(x:NodeT)(seq:Int)(hz:SzN x)(h:NodeOk x):Ran p 8 239 [va K38 x, vf K3 (seq,())] ⟨[⟨K27,nA x seq⟩,⟨K4,(fA x.log seq,())⟩],[]⟩:=go239 fun n hn=>Ev.now fun aA=>by
 unfold T239 nA;refine(aC (f23 x hz n (by omega))).trans ?_;rw[(i7 x).2 h];refine(aL rfl).trans ?_;refine(cR (f318 x.log seq hz.list hz.logs n (by omega))).trans ?_
 cases fA x.log seq with
 | true=>rfl
 | false=>refine(aN rfl).trans ?_;refine(aC (f220 x.state hz.state n (by omega))).trans ?_;rfl
theorem zT{s:aM}(h:bA s=true):s.1.length≤1000∧s.2.1.length≤1000:=by have:=((bK s).1 h).len;omega
theorem f119(x:NodeT)(ls:List bB)(seq:Int)(hz:SzN x)(h:NodeOk x)(hl:ls.length≤aX):Ran p 7 119 [va K38 x, vf K28 (ls,()), vf K3 (seq,())] (rO K27 (xB x ls seq)):=go119 fun n hn=>Ev.now fun aA=>by
 have hm:=zT h.state
 unfold T119;refine(cR (f259 x seq hz n (by omega))).trans ?_;refine(aC (f261 x.state ls (aU hl) hm.1 hm.2 n (by omega))).trans ?_;refine(aC (f260 (g9 x.state ls) (nA x seq) (zV hz.state ls) (zW hz seq) ((bK _).1 (FL h.state ls)).pos ((bK _).1 (FN h seq)).pos n (by omega))).trans ?_;rfl
theorem f99(x:NodeT)(ls:List bB)(m:MsgT)(hz:SzN x)(h:NodeOk x)(hl:ls.length≤aX)(h0:0≤x.1)(hv:x.1.toNat<m.vec.length):Ran p 9 99 [va K38 x, vf K28 (ls,()), va K43 m] (rO K27 (xB x ls (gt m.vec x.1.toNat).1)):=go99 fun n hn=>Ev.now fun aA=>by
 have hm:=zT h.state
 unfold T99;refine(aE h0).trans ?_;refine(aR hv).trans ?_;refine(cR (f239 x (gt m.vec x.1.toNat).1 hz h n (by omega))).trans ?_;refine(aC (f241 x.state ls (aU hl) hm.1 hm.2 h.state n (by omega))).trans ?_;refine(aC (f240 (g9 x.state ls) (nA x (gt m.vec x.1.toNat).1) (zV hz.state ls) (zW hz _) n (by omega))).trans ?_;rfl
end Go.Abs.Xz
