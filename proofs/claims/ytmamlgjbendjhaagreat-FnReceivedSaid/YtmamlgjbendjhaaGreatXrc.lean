/- What the functions of this program answer, part rc. -/
import Derived.Test.YtmamlgjbendjhaaGreatXrb
set_option linter.unusedVariables false
open Go.IntKind (i64)
namespace Go.Abs.Xz
open Go Go.Abs
theorem f252(v:List aX)(a b:Int)(hv:v.length≤aU):Ran p 2 252 [.val false ⟨K28,(v,())⟩, .val false ⟨K3,(a,())⟩, .val false ⟨K3,(b,())⟩] ⟨[⟨K4,(mT v a b,())⟩],[]⟩:=go252 fun n hn=>by
 by_cases h:((v.length:Nat):Int)>a
 ·exact Ev.now fun aA=>by unfold T252 mT;rw[decide_eq_true h];exact aE h
 ·have lp:It (fun aA (_:Unit)=>c252_4 (aK p n) aA v b) (0:Int) (fun _=>oB (kL v b)):=by
   refine bZ (It.allB v.length (fun i=>inB (gt v i).1 0 b) true (fun i hi aA u rec=>?_) (It.stop fun aA u rec=>?_))
   ·show c252_4 (aK p n) aA v b rec (i:Int)=_
    unfold c252_4;rw[aL (i63 hi hv)];refine(aE (Int.ofNat_lt.2 hi)).trans ?_;refine bif_nn.trans ?_;refine(aJ hi).trans ?_;refine(aB (f211 (gt v i).1 0 b n (by omega))).trans ?_;exact fin
   ·show c252_4 (aK p n) aA v b rec (v.length:Int)=_
    unfold c252_4;refine(aI (Int.lt_irrefl _)).trans ?_;rfl
  have e:mT v a b=kL v b:=by unfold mT;rw[decide_eq_false h];rfl
  rw[e]
  exact Ev.eq (fun aA=>by unfold T252;exact aI h) (lp.ev (i:=()) rfl)
theorem f251(t:iP)(ht:t.1.length≤aU):Ran p 3 251 [.val true ⟨K30,t⟩] ⟨[⟨K4,(treeB t,())⟩],[]⟩:=go251 fun n hn=>Ev.now fun aA=>by
 unfold T251 treeB
 cases h0:((t.1.length:Nat):Int)==0 with
 | true=>exact aN h0
 | false=>
  refine(aF h0).trans ?_
  cases h4:((t.1.length:Nat):Int)==4 with
  | false=>exact aF h4
  | true=>
   refine(aN h4).trans ?_;refine(aB (f252 t.1 4 1023 ht n (by omega))).trans ?_
   have e:mT t.1 4 1023=kL t.1 1023:=by unfold mT;rw[decide_eq_false (by have:=eq_of_beq h4;omega)];rfl
   rw[e]
   cases kL t.1 1023 with
   | false=>rfl
   | true=>refine(aN rfl).trans ?_;refine(aB (f211 t.2.1 0 1023 n (by omega))).trans ?_;rfl
theorem f124(t:iP)(ht:t.1.length≤aU):Ran p 2 124 [.val true ⟨K30,t⟩] ⟨[⟨K4,(treeB t,())⟩],[]⟩:=go124 fun n hn=>by
 cases h0:((t.1.length:Nat):Int)==0 with
 | true=>exact Ev.now fun aA=>by unfold T124 treeB;rw[h0];exact aN h0
 | false=>
  have lp:It (fun aA (_:Unit)=>c124_4 (aK p n) aA t) (0:Int) (fun _=>oB (kL t.1 1023&&(((t.1.length:Nat):Int)==4&&inB t.2.1 0 1023))):=by
   refine It.allB t.1.length (fun i=>inB (gt t.1 i).1 0 1023) _ (fun i hi aA u rec=>?_) (It.stop fun aA u rec=>?_)
   ·show c124_4 (aK p n) aA t rec (i:Int)=_
    unfold c124_4;rw[aL (i63 hi ht)];refine(aE (Int.ofNat_lt.2 hi)).trans ?_;refine bif_nn.trans ?_;refine(aJ hi).trans ?_;refine(aB (f100 (gt t.1 i).1 0 1023 n (by omega))).trans ?_;exact fin
   ·show c124_4 (aK p n) aA t rec (t.1.length:Int)=_
    unfold c124_4;refine(aI (Int.lt_irrefl _)).trans ?_
    cases h4:((t.1.length:Nat):Int)==4 with
    | false=>exact aF h4
    | true=>refine(aN h4).trans ?_;refine(aB (f100 t.2.1 0 1023 n (by omega))).trans ?_;rfl
  have e:treeB t=(kL t.1 1023&&(((t.1.length:Nat):Int)==4&&inB t.2.1 0 1023)):=by unfold treeB;rw[h0];show(_&&(_&&_))=_;ac_rfl
  rw[e]
  exact Ev.eq (fun aA=>by unfold T124;exact aF h0) (lp.ev (i:=()) rfl)
theorem f113(m:MsgT)(hz:SzM m):Ran p 4 113 [.val true ⟨K43,m⟩] ⟨[⟨K4,(iH m,())⟩],[]⟩:=go113 fun n hn=>by
 have lp:It (fun aA (_:Unit)=>c113_6 (aK p n) aA m) (1:Int) (fun _=>oB (bI (m.leaves.length - 1) (BK m.leaves))):=by
  have:=It.all (c:=fun aA (_:Unit)=>c113_6 (aK p n) aA m) (rA:=fun _=>oB true) (rB:=fun _=>oB false) (fun i=>(((i+1:Nat)):Int)) (m.leaves.length - 1) (BK m.leaves) (fun i hi aA u rec=>by
   have hi1:i+1<m.leaves.length:=by omega
   have hl:=hz.list
   show c113_6 (aK p n) aA m rec (((i+1:Nat)):Int)=_
   unfold c113_6;rw[aL (i63 hi1 hl)];refine(aE (Int.ofNat_lt.2 hi1)).trans ?_;refine bif_nn.trans ?_;refine(aJ hi1).trans ?_;rw[gY (i63 hi1 hl) (by omega)];refine bif_nn.trans ?_;refine(aJ (show i<m.leaves.length by omega)).trans ?_;exact zX) (It.stop fun aA u rec=>by
   show c113_6 (aK p n) aA m rec (((m.leaves.length - 1+1:Nat)):Int)=_
   unfold c113_6;refine(aI (show ¬ (((m.leaves.length - 1+1:Nat)):Int)<((m.leaves.length:Nat):Int) by omega)).trans ?_;rfl)
  refine cast ?_ this
  congr 1;funext u;exact MV
 rw[← EL]
 have key:∃ N,∀ aA,N≤aA→T113 (aK p n) aA m=oB (vW m):=by
  obtain⟨N,hN⟩:=lp.all_i
  refine⟨N,fun aA hf=>?_⟩
  unfold T113 vW
  refine(aB (f211 m.1 0 5 n (by omega))).trans ?_;refine cQ fun _=>?_;refine(aB (f250 m.2.1 n (by omega))).trans ?_;refine cQ fun _=>?_;refine(aB (f250 m.2.2.1 n (by omega))).trans ?_;refine cQ fun _=>?_;refine yT fun _=>?_;refine(aB (f211 m.2.2.2.1 0 100000 n (by omega))).trans ?_;refine cQ fun _=>?_;refine(aB (f211 m.hi 0 100000 n (by omega))).trans ?_;refine cQ fun _=>?_
  refine(aB (f251 m.tree hz.leaves n (by omega))).trans ?_;refine cQ fun _=>?_;refine(aB (f252 m.vec 5 100000 hz.vec n (by omega))).trans ?_;refine cQ fun _=>?_;refine(aB (f252 m.leaves 4 3 hz.list n (by omega))).trans ?_;refine cQ fun _=>?_;refine(aB (f227 m.part (aP hz.part.a) (aP hz.part.b) n (by omega))).trans ?_;refine cQ fun _=>?_;refine(aB (f253 m.marks (aP hz.marks) n (by omega))).trans ?_;refine cQ fun _=>?_
  exact hN aA hf ()
 exact key
theorem f30(m:MsgT)(hz:SzM m):Ran p 4 30 [.val true ⟨K43,m⟩] ⟨[⟨K4,(iH m,())⟩],[]⟩:=go30 fun n hn=>by
 have inner:It (fun aA (_:Unit)=>c30_10 (aK p n) aA m) (0:Int) (fun _=>oB (kL m.vec 100000&&(inB m.2.2.2.1 0 100000&&(inB m.hi 0 100000&&(treeB m.tree&&(decide (((m.vec.length:Nat):Int)≤5)&&(aO m.part&&dQ m.marks))))))):=by
  refine It.allB m.vec.length (fun i=>inB (gt m.vec i).1 0 100000) _ (fun i hi aA u rec=>?_) (It.stop fun aA u rec=>?_)
  ·show c30_10 (aK p n) aA m rec (i:Int)=_
   unfold c30_10;rw[aL (i63 hi hz.vec)];refine(aE (Int.ofNat_lt.2 hi)).trans ?_;refine bif_nn.trans ?_;refine(aJ hi).trans ?_;refine(aB (f100 (gt m.vec i).1 0 100000 n (by omega))).trans ?_;exact fin
  ·show c30_10 (aK p n) aA m rec (m.vec.length:Int)=_
   unfold c30_10;refine(aI (Int.lt_irrefl _)).trans ?_;refine(aB (f100 m.2.2.2.1 0 100000 n (by omega))).trans ?_;refine eU fun _=>?_;refine(aB (f100 m.hi 0 100000 n (by omega))).trans ?_;refine eU fun _=>?_;refine(aB (f124 m.tree hz.leaves n (by omega))).trans ?_;refine eU fun _=>?_;refine eU fun _=>?_;refine(aB (f101 m.part (aP hz.part.a) (aP hz.part.b) n (by omega))).trans ?_;refine eU fun _=>?_;refine(aB (f125 m.marks (aP hz.marks) n (by omega))).trans ?_;rfl
 have lp:It (fun aA (_:Unit)=>c30_4 (aK p n) aA m) (0:Int) (fun _=>oB (bI m.leaves.length (tN m.leaves)&&(kL m.vec 100000&&(inB m.2.2.2.1 0 100000&&(inB m.hi 0 100000&&(treeB m.tree&&(decide (((m.vec.length:Nat):Int)≤5)&&(aO m.part&&dQ m.marks)))))))):=by
  refine It.allB m.leaves.length (tN m.leaves) _ (fun i hi aA u rec=>?_) (It.stopE (T:=fun aA _=>iter (c30_10 (aK p n) aA m) aA (0:Int)) (fun aA u rec=>?_) inner.all_i)
  ·have hl:=hz.list
   show c30_4 (aK p n) aA m rec (i:Int)=_
   unfold c30_4 tN;rw[aL (i63 hi hl)];refine(aE (Int.ofNat_lt.2 hi)).trans ?_;refine bif_nn.trans ?_;refine(aJ hi).trans ?_;refine(aB (f100 (gt m.leaves i).1 0 3 n (by omega))).trans ?_;refine chk fun _=>?_
   cases i with
   | zero=>refine(aI (by decide)).trans ?_;rfl
   | succ j=>refine(aE (by omega)).trans ?_;rw[gY (i63 hi hl) (by omega)];refine bif_nn.trans ?_;refine(aJ (show j<m.leaves.length by omega)).trans ?_;exact zX
  ·show c30_4 (aK p n) aA m rec (m.leaves.length:Int)=_
   unfold c30_4;refine(aI (Int.lt_irrefl _)).trans ?_;rfl
 have key:∃ N,∀ aA,N≤aA→T30 (aK p n) aA m=oB (iH m):=by
  obtain⟨N,hN⟩:=lp.all_i
  refine⟨N,fun aA hf=>?_⟩
  unfold T30 iH l7
  rw[Bool.and_assoc,Bool.and_assoc,Bool.and_assoc]
  refine(aB (f100 m.1 0 5 n (by omega))).trans ?_;refine cQ fun _=>?_;refine(aB (f123 m.2.1 n (by omega))).trans ?_;refine cQ fun _=>?_;refine(aB (f123 m.2.2.1 n (by omega))).trans ?_;refine cQ fun _=>?_;refine yT fun _=>?_
  exact hN aA hf ()
 exact key
-- what is shipped
theorem vA{n:Nat}{seq:Int}{l:fA}(h:fE l seq=true):i64.wrap (seq - l.2.1)=((bT l seq:Nat):Int):=by
 have:=qD h;rw[IntKind.wrap_i64];omega
theorem f326(l:fA)(seq:Int)(hl:l.2.2.1.length≤aU)(hs:∀ i,i<l.2.2.1.length→SzS (gt l.2.2.1 i)):Ran p 5 326 [.val true ⟨K33,l⟩, .val false ⟨K3,(seq,())⟩] ⟨[⟨K27,f8 l seq⟩,⟨K4,(fE l seq,())⟩],[]⟩:=go326 fun n hn=>by
 cases hb:fE l seq with
 | false=>
  exact Ev.now fun aA=>by
   unfold T326 f8;rw[hb];refine(aB (f229 l hl hs n (by omega))).trans ?_
   cases h1:fC l with
   | false=>rfl
   | true=>refine(aF rfl).trans ?_;refine(aB (f211 seq l.2.1 (i64.wrap (l.2.1+((l.2.2.1.length:Nat):Int))) n (by omega))).trans ?_;unfold fE at hb;rw[h1] at hb;rw[show inB seq l.2.1 (i64.wrap (l.2.1+((l.2.2.1.length:Nat):Int)))=false from hb];rfl
 | true=>
  have hk:=qD hb
  have hb':=hb
  unfold fE at hb';rw[Bool.and_eq_true] at hb'
  have lp:It (fun aA (_:Unit)=>c326_5 (aK p n) aA l) (((bT l seq:Nat):Int),([]:List bM),([]:List aR)) (fun _=>some ⟨[⟨K27,f8 l seq⟩,⟨K4,(true,())⟩],[]⟩):=by
   refine It.run (fun i=>(((bT l seq+i:Nat):Int),(dH l.2.2.1 (bT l seq) i).1,(dH l.2.2.1 (bT l seq) i).2.1)) (l.2.2.1.length - bT l seq) (fun i hi aA u rec=>?_) (It.stop fun aA u rec=>?_)
   ·have hi1:bT l seq+i<l.2.2.1.length:=by omega
    have o1:=(aV _).1 (pI hb'.1 (bT l seq) i (by omega))
    have o2:=(aV _).1 (show aO (gt l.2.2.1 (bT l seq+i))=true by have h1:=hb'.1;unfold fC at h1;simp only[Bool.and_eq_true] at h1;exact bJ.1 h1.2.2.2.2 _ hi1)
    show c326_5 (aK p n) aA l rec (((bT l seq+i:Nat):Int),(dH l.2.2.1 (bT l seq) i).1,(dH l.2.2.1 (bT l seq) i).2.1)=_
    unfold c326_5;dsimp only;rw[aL (i63 hi1 hl)];refine(aE (Int.ofNat_lt.2 hi1)).trans ?_;refine bif_nn.trans ?_;refine(aJ hi1).trans ?_;refine(aB (f260 (dH l.2.2.1 (bT l seq) i) (gt l.2.2.1 (bT l seq+i)) (pH _ _ _) (hs _ hi1) o1.pos o2.pos n (by omega))).trans ?_;rfl
   ·show c326_5 (aK p n) aA l rec (((bT l seq+(l.2.2.1.length - bT l seq):Nat):Int),(dH l.2.2.1 (bT l seq) (l.2.2.1.length - bT l seq)).1,(dH l.2.2.1 (bT l seq) (l.2.2.1.length - bT l seq)).2.1)=_
    unfold c326_5;dsimp only;refine(aI (show ¬ ((bT l seq+(l.2.2.1.length - bT l seq):Nat):Int)<((l.2.2.1.length:Nat):Int) by omega)).trans ?_;unfold f8;rw[hb];rfl
  exact Ev.eq (fun aA=>by unfold T326;refine(aB (f229 l hl hs n (by omega))).trans ?_;rw[hb'.1];refine(aF rfl).trans ?_;refine(aB (f211 seq l.2.1 (i64.wrap (l.2.1+((l.2.2.1.length:Nat):Int))) n (by omega))).trans ?_;rw[hb'.2];refine(aF rfl).trans ?_;rw[vA (n:=0) hb];rfl) (lp.ev (i:=()) rfl)
theorem f318(l:fA)(seq:Int)(hl:l.2.2.1.length≤aU)(hs:∀ i,i<l.2.2.1.length→SzS (gt l.2.2.1 i)):Ran p 6 318 [.val true ⟨K33,l⟩, .val false ⟨K3,(seq,())⟩] ⟨[⟨K27,f8 l seq⟩,⟨K4,(fE l seq,())⟩],[]⟩:=go318 fun n hn=>by
 have hq:fC l=true→cA l=i64.wrap (l.2.1+((l.2.2.1.length:Nat):Int)):=fun h=>by unfold cA;rw[h];rfl
 cases hb:fE l seq with
 | false=>
  exact Ev.now fun aA=>by
   unfold T318 f8;rw[hb];refine(aB (f105 l hl hs n (by omega))).trans ?_
   cases h1:fC l with
   | false=>rfl
   | true=>refine(aF rfl).trans ?_;refine(aB (f104 l hl hs n (by omega))).trans ?_;rw[hq h1];refine(aB (f100 seq l.2.1 (i64.wrap (l.2.1+((l.2.2.1.length:Nat):Int))) n (by omega))).trans ?_;unfold fE at hb;rw[h1] at hb;rw[show inB seq l.2.1 (i64.wrap (l.2.1+((l.2.2.1.length:Nat):Int)))=false from hb];rfl
 | true=>
  have hk:=qD hb
  have hb':=hb
  unfold fE at hb';rw[Bool.and_eq_true] at hb'
  have hw:=vA (n:=0) hb
  have e:((l.2.2.1.take l.2.2.1.length).drop ((i64.wrap (seq - l.2.1))).toNat)=l.2.2.1.drop (bT l seq):=by rw[hw,List.take_length];rfl
  have lp:It (fun aA (_:Unit)=>c318_5 (aK p n) aA l seq) ((0:Int),([]:List bM),([]:List aR)) (fun _=>some ⟨[⟨K27,f8 l seq⟩,⟨K4,(true,())⟩],[]⟩):=by
   refine It.run (fun i=>((i:Int),(dH l.2.2.1 (bT l seq) i).1,(dH l.2.2.1 (bT l seq) i).2.1)) (l.2.2.1.length - bT l seq) (fun i hi aA u rec=>?_) (It.stop fun aA u rec=>?_)
   ·have hi1:bT l seq+i<l.2.2.1.length:=by omega
    have hi2:i<((l.2.2.1.take l.2.2.1.length).drop ((i64.wrap (seq - l.2.1))).toNat).length:=by rw[e,List.length_drop];omega
    have hg:gt ((l.2.2.1.take l.2.2.1.length).drop ((i64.wrap (seq - l.2.1))).toNat) i=gt l.2.2.1 (bT l seq+i):=by
     rw[e,cV (by rw[List.length_drop];omega),cV hi1,List.getElem_drop]
    have hj:dH l.2.2.1 (bT l seq) (i+1)=cJ (dH l.2.2.1 (bT l seq) i) (gt ((l.2.2.1.take l.2.2.1.length).drop ((i64.wrap (seq - l.2.1))).toNat) i):=by rw[hg];rfl
    have hz2:=hs _ hi1
    rw[← hg] at hz2
    show c318_5 (aK p n) aA l seq rec ((i:Int),(dH l.2.2.1 (bT l seq) i).1,(dH l.2.2.1 (bT l seq) i).2.1)=rec (((i+1:Nat):Int),(dH l.2.2.1 (bT l seq) (i+1)).1,(dH l.2.2.1 (bT l seq) (i+1)).2.1)
    rw[hj];unfold c318_5;dsimp only;rw[aL (show i<9223372036854775807 by have:=i63 hi1 hl;omega)];refine(aE (Int.ofNat_lt.2 hi2)).trans ?_;refine bif_nn.trans ?_;refine(aJ hi2).trans ?_;refine(aB (f240 (dH l.2.2.1 (bT l seq) i) _ (pH _ _ _) hz2 n (by omega))).trans ?_;rfl
   ·show c318_5 (aK p n) aA l seq rec (((l.2.2.1.length - bT l seq:Nat):Int),(dH l.2.2.1 (bT l seq) (l.2.2.1.length - bT l seq)).1,(dH l.2.2.1 (bT l seq) (l.2.2.1.length - bT l seq)).2.1)=_
    unfold c318_5;dsimp only;refine(aI (show ¬ ((l.2.2.1.length - bT l seq:Nat):Int)<((((l.2.2.1.take l.2.2.1.length).drop ((i64.wrap (seq - l.2.1))).toNat).length:Nat):Int) by rw[e,List.length_drop];omega)).trans ?_;unfold f8;rw[hb];rfl
  exact Ev.eq (fun aA=>by unfold T318;refine(aB (f105 l hl hs n (by omega))).trans ?_;rw[hb'.1];refine(aF rfl).trans ?_;refine(aB (f104 l hl hs n (by omega))).trans ?_;rw[hq hb'.1];refine(aB (f100 seq l.2.1 (i64.wrap (l.2.1+((l.2.2.1.length:Nat):Int))) n (by omega))).trans ?_;rw[hb'.2];refine(aF rfl).trans ?_;exact n4 (show(0:Int)≤i64.wrap (seq - l.2.1) by rw[hw];omega) (show i64.wrap (seq - l.2.1)≤((l.2.2.1.length:Nat):Int) by rw[hw];omega)) (lp.ev (i:=()) rfl)
theorem f259(x:NodeT)(seq:Int)(hz:SzN x):Ran p 6 259 [.val true ⟨K38,x⟩, .val false ⟨K3,(seq,())⟩] ⟨[⟨K27,nC x seq⟩,⟨K4,(fE x.log seq,())⟩],[]⟩:=go259 fun n hn=>Ev.now fun aA=>by
 unfold T259 nC;refine(bD (f326 x.log seq hz.list hz.logs n (by omega))).trans ?_
 cases fE x.log seq with
 | true=>rfl
 | false=>refine(aF rfl).trans ?_;refine(aB (f224 x.state hz.state n (by omega))).trans ?_;rfl
theorem f239(x:NodeT)(seq:Int)(hz:SzN x)(h:NodeOk x):Ran p 8 239 [.val true ⟨K38,x⟩, .val false ⟨K3,(seq,())⟩] ⟨[⟨K27,nC x seq⟩,⟨K4,(fE x.log seq,())⟩],[]⟩:=go239 fun n hn=>Ev.now fun aA=>by
 unfold T239 nC;refine(aB (f23 x hz n (by omega))).trans ?_;rw[(eE x).2 h];refine(aF rfl).trans ?_;refine(bD (f318 x.log seq hz.list hz.logs n (by omega))).trans ?_
 cases fE x.log seq with
 | true=>rfl
 | false=>refine(aN rfl).trans ?_;refine(aB (f220 x.state hz.state n (by omega))).trans ?_;rfl
theorem u6{s:aH}(h:aO s=true):s.1.length≤1000∧s.2.1.length≤1000:=by have:=((aV s).1 h).len;omega
theorem f119(x:NodeT)(ls:List aX)(seq:Int)(hz:SzN x)(h:NodeOk x)(hl:ls.length≤aU):Ran p 7 119 [.val true ⟨K38,x⟩, .val false ⟨K28,(ls,())⟩, .val false ⟨K3,(seq,())⟩] ⟨[⟨K27,qV x ls seq⟩],[]⟩:=go119 fun n hn=>Ev.now fun aA=>by
 have hm:=u6 h.state
 unfold T119;refine(bD (f259 x seq hz n (by omega))).trans ?_;refine(aB (f261 x.state ls (aP hl) hm.1 hm.2 n (by omega))).trans ?_;refine(aB (f260 (f0 x.state ls) (nC x seq) (u7 hz.state ls) (AL hz seq) ((aV _).1 (AK h.state ls)).pos ((aV _).1 (AM h seq)).pos n (by omega))).trans ?_;rfl
theorem f99(x:NodeT)(ls:List aX)(m:MsgT)(hz:SzN x)(h:NodeOk x)(hl:ls.length≤aU)(h0:0≤x.1)(hv:x.1.toNat<m.vec.length):Ran p 9 99 [.val true ⟨K38,x⟩, .val false ⟨K28,(ls,())⟩, .val true ⟨K43,m⟩] ⟨[⟨K27,qV x ls (gt m.vec x.1.toNat).1⟩],[]⟩:=go99 fun n hn=>Ev.now fun aA=>by
 have hm:=u6 h.state
 unfold T99;refine(aE h0).trans ?_;refine(aZ hv).trans ?_;refine(bD (f239 x (gt m.vec x.1.toNat).1 hz h n (by omega))).trans ?_;refine(aB (f241 x.state ls (aP hl) hm.1 hm.2 h.state n (by omega))).trans ?_;refine(aB (f240 (f0 x.state ls) (nC x (gt m.vec x.1.toNat).1) (u7 hz.state ls) (AL hz _) n (by omega))).trans ?_;rfl
end Go.Abs.Xz
