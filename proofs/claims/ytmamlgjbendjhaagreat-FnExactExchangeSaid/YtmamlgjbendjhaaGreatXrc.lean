/- What the functions of this program answer, part rc. -/
import Derived.Test.YtmamlgjbendjhaaGreatXrb
set_option linter.unusedVariables false
open Go.IntKind (i64)
namespace Go.Abs.Xz
open Go Go.Abs
theorem f252(v:List aZ)(a b:Int)(hv:v.length≤aW):Ran p 2 252 [.val false ⟨K28,(v,())⟩, .val false ⟨K3,(a,())⟩, .val false ⟨K3,(b,())⟩] ⟨[⟨K4,(mH v a b,())⟩],[]⟩:=go252 fun n hn=>by
 by_cases h:((v.length:Nat):Int)>a
 ·exact Ev.now fun aA=>by unfold T252 mH;rw[decide_eq_true h];exact aE h
 ·have lp:It (fun aA (_:Unit)=>c252_4 (aG p n) aA v b) (0:Int) (fun _=>oB (mI v b)):=by
   refine cU (It.allB v.length (fun i=>inB (gt v i).1 0 b) true (fun i hi aA u rec=>?_) (It.stop fun aA u rec=>?_))
   ·show c252_4 (aG p n) aA v b rec (i:Int)=_
    unfold c252_4;rw[aJ (i63 hi hv)];refine(aE (Int.ofNat_lt.2 hi)).trans ?_;refine bif_nn.trans ?_;refine(aL hi).trans ?_;refine(aD (f211 (gt v i).1 0 b n (by omega))).trans ?_;exact fin
   ·show c252_4 (aG p n) aA v b rec (v.length:Int)=_
    unfold c252_4;refine(aF (Int.lt_irrefl _)).trans ?_;rfl
  have e:mH v a b=mI v b:=by unfold mH;rw[decide_eq_false h];rfl
  rw[e]
  exact Ev.eq (fun aA=>by unfold T252;exact aF h) (lp.ev (i:=()) rfl)
theorem f251(t:jL)(ht:t.1.length≤aW):Ran p 3 251 [.val true ⟨K30,t⟩] ⟨[⟨K4,(nX t,())⟩],[]⟩:=go251 fun n hn=>Ev.now fun aA=>by
 unfold T251 nX
 cases h0:((t.1.length:Nat):Int)==0 with
 | true=>exact aO h0
 | false=>
  refine(aK h0).trans ?_
  cases h4:((t.1.length:Nat):Int)==4 with
  | false=>exact aK h4
  | true=>
   refine(aO h4).trans ?_;refine(aD (f252 t.1 4 1023 ht n (by omega))).trans ?_
   have e:mH t.1 4 1023=mI t.1 1023:=by unfold mH;rw[decide_eq_false (by have:=eq_of_beq h4;omega)];rfl
   rw[e]
   cases mI t.1 1023 with
   | false=>rfl
   | true=>refine(aO rfl).trans ?_;refine(aD (f211 t.2.1 0 1023 n (by omega))).trans ?_;rfl
theorem f124(t:jL)(ht:t.1.length≤aW):Ran p 2 124 [.val true ⟨K30,t⟩] ⟨[⟨K4,(nX t,())⟩],[]⟩:=go124 fun n hn=>by
 cases h0:((t.1.length:Nat):Int)==0 with
 | true=>exact Ev.now fun aA=>by unfold T124 nX;rw[h0];exact aO h0
 | false=>
  have lp:It (fun aA (_:Unit)=>c124_4 (aG p n) aA t) (0:Int) (fun _=>oB (mI t.1 1023&&(((t.1.length:Nat):Int)==4&&inB t.2.1 0 1023))):=by
   refine It.allB t.1.length (fun i=>inB (gt t.1 i).1 0 1023) _ (fun i hi aA u rec=>?_) (It.stop fun aA u rec=>?_)
   ·show c124_4 (aG p n) aA t rec (i:Int)=_
    unfold c124_4;rw[aJ (i63 hi ht)];refine(aE (Int.ofNat_lt.2 hi)).trans ?_;refine bif_nn.trans ?_;refine(aL hi).trans ?_;refine(aD (f100 (gt t.1 i).1 0 1023 n (by omega))).trans ?_;exact fin
   ·show c124_4 (aG p n) aA t rec (t.1.length:Int)=_
    unfold c124_4;refine(aF (Int.lt_irrefl _)).trans ?_
    cases h4:((t.1.length:Nat):Int)==4 with
    | false=>exact aK h4
    | true=>refine(aO h4).trans ?_;refine(aD (f100 t.2.1 0 1023 n (by omega))).trans ?_;rfl
  have e:nX t=(mI t.1 1023&&(((t.1.length:Nat):Int)==4&&inB t.2.1 0 1023)):=by unfold nX;rw[h0];show(_&&(_&&_))=_;ac_rfl
  rw[e]
  exact Ev.eq (fun aA=>by unfold T124;exact aK h0) (lp.ev (i:=()) rfl)
theorem f113(m:MsgT)(hz:SzM m):Ran p 4 113 [.val true ⟨K43,m⟩] ⟨[⟨K4,(k9 m,())⟩],[]⟩:=go113 fun n hn=>by
 have lp:It (fun aA (_:Unit)=>c113_6 (aG p n) aA m) (1:Int) (fun _=>oB (bW (m.leaves.length - 1) (zF m.leaves))):=by
  have:=It.all (c:=fun aA (_:Unit)=>c113_6 (aG p n) aA m) (rA:=fun _=>oB true) (rB:=fun _=>oB false) (fun i=>(((i+1:Nat)):Int)) (m.leaves.length - 1) (zF m.leaves) (fun i hi aA u rec=>by
   have hi1:i+1<m.leaves.length:=by omega
   have hl:=hz.list
   show c113_6 (aG p n) aA m rec (((i+1:Nat)):Int)=_
   unfold c113_6;rw[aJ (i63 hi1 hl)];refine(aE (Int.ofNat_lt.2 hi1)).trans ?_;refine bif_nn.trans ?_;refine(aL hi1).trans ?_;rw[gX (i63 hi1 hl) (by omega)];refine bif_nn.trans ?_;refine(aL (show i<m.leaves.length by omega)).trans ?_;exact yA) (It.stop fun aA u rec=>by
   show c113_6 (aG p n) aA m rec (((m.leaves.length - 1+1:Nat)):Int)=_
   unfold c113_6;refine(aF (show ¬ (((m.leaves.length - 1+1:Nat)):Int)<((m.leaves.length:Nat):Int) by omega)).trans ?_;rfl)
  refine cast ?_ this
  congr 1;funext u;exact H3
 rw[← BZ]
 have key:∃ N,∀ aA,N≤aA→T113 (aG p n) aA m=oB (uJ m):=by
  obtain⟨N,hN⟩:=lp.all_i
  refine⟨N,fun aA hf=>?_⟩
  unfold T113 uJ
  refine(aD (f211 m.1 0 5 n (by omega))).trans ?_;refine d4 fun _=>?_;refine(aD (f250 m.2.1 n (by omega))).trans ?_;refine d4 fun _=>?_;refine(aD (f250 m.2.2.1 n (by omega))).trans ?_;refine d4 fun _=>?_;refine oD fun _=>?_;refine(aD (f211 m.2.2.2.1 0 100000 n (by omega))).trans ?_;refine d4 fun _=>?_;refine(aD (f211 m.hi 0 100000 n (by omega))).trans ?_;refine d4 fun _=>?_
  refine(aD (f251 m.tree hz.leaves n (by omega))).trans ?_;refine d4 fun _=>?_;refine(aD (f252 m.vec 5 100000 hz.vec n (by omega))).trans ?_;refine d4 fun _=>?_;refine(aD (f252 m.leaves 4 3 hz.list n (by omega))).trans ?_;refine d4 fun _=>?_;refine(aD (f227 m.part (aS hz.part.a) (aS hz.part.b) n (by omega))).trans ?_;refine d4 fun _=>?_;refine(aD (f253 m.marks (aS hz.marks) n (by omega))).trans ?_;refine d4 fun _=>?_
  exact hN aA hf ()
 exact key
theorem f30(m:MsgT)(hz:SzM m):Ran p 4 30 [.val true ⟨K43,m⟩] ⟨[⟨K4,(k9 m,())⟩],[]⟩:=go30 fun n hn=>by
 have inner:It (fun aA (_:Unit)=>c30_10 (aG p n) aA m) (0:Int) (fun _=>oB (mI m.vec 100000&&(inB m.2.2.2.1 0 100000&&(inB m.hi 0 100000&&(nX m.tree&&(decide (((m.vec.length:Nat):Int)≤5)&&(aY m.part&&eB m.marks))))))):=by
  refine It.allB m.vec.length (fun i=>inB (gt m.vec i).1 0 100000) _ (fun i hi aA u rec=>?_) (It.stop fun aA u rec=>?_)
  ·show c30_10 (aG p n) aA m rec (i:Int)=_
   unfold c30_10;rw[aJ (i63 hi hz.vec)];refine(aE (Int.ofNat_lt.2 hi)).trans ?_;refine bif_nn.trans ?_;refine(aL hi).trans ?_;refine(aD (f100 (gt m.vec i).1 0 100000 n (by omega))).trans ?_;exact fin
  ·show c30_10 (aG p n) aA m rec (m.vec.length:Int)=_
   unfold c30_10;refine(aF (Int.lt_irrefl _)).trans ?_;refine(aD (f100 m.2.2.2.1 0 100000 n (by omega))).trans ?_;refine d9 fun _=>?_;refine(aD (f100 m.hi 0 100000 n (by omega))).trans ?_;refine d9 fun _=>?_;refine(aD (f124 m.tree hz.leaves n (by omega))).trans ?_;refine d9 fun _=>?_;refine d9 fun _=>?_;refine(aD (f101 m.part (aS hz.part.a) (aS hz.part.b) n (by omega))).trans ?_;refine d9 fun _=>?_;refine(aD (f125 m.marks (aS hz.marks) n (by omega))).trans ?_;rfl
 have lp:It (fun aA (_:Unit)=>c30_4 (aG p n) aA m) (0:Int) (fun _=>oB (bW m.leaves.length (wF m.leaves)&&(mI m.vec 100000&&(inB m.2.2.2.1 0 100000&&(inB m.hi 0 100000&&(nX m.tree&&(decide (((m.vec.length:Nat):Int)≤5)&&(aY m.part&&eB m.marks)))))))):=by
  refine It.allB m.leaves.length (wF m.leaves) _ (fun i hi aA u rec=>?_) (It.stopE (T:=fun aA _=>iter (c30_10 (aG p n) aA m) aA (0:Int)) (fun aA u rec=>?_) inner.all_i)
  ·have hl:=hz.list
   show c30_4 (aG p n) aA m rec (i:Int)=_
   unfold c30_4 wF;rw[aJ (i63 hi hl)];refine(aE (Int.ofNat_lt.2 hi)).trans ?_;refine bif_nn.trans ?_;refine(aL hi).trans ?_;refine(aD (f100 (gt m.leaves i).1 0 3 n (by omega))).trans ?_;refine chk fun _=>?_
   cases i with
   | zero=>refine(aF (by decide)).trans ?_;rfl
   | succ j=>refine(aE (by omega)).trans ?_;rw[gX (i63 hi hl) (by omega)];refine bif_nn.trans ?_;refine(aL (show j<m.leaves.length by omega)).trans ?_;exact yA
  ·show c30_4 (aG p n) aA m rec (m.leaves.length:Int)=_
   unfold c30_4;refine(aF (Int.lt_irrefl _)).trans ?_;rfl
 have key:∃ N,∀ aA,N≤aA→T30 (aG p n) aA m=oB (k9 m):=by
  obtain⟨N,hN⟩:=lp.all_i
  refine⟨N,fun aA hf=>?_⟩
  unfold T30 k9 pZ
  rw[Bool.and_assoc,Bool.and_assoc,Bool.and_assoc]
  refine(aD (f100 m.1 0 5 n (by omega))).trans ?_;refine d4 fun _=>?_;refine(aD (f123 m.2.1 n (by omega))).trans ?_;refine d4 fun _=>?_;refine(aD (f123 m.2.2.1 n (by omega))).trans ?_;refine d4 fun _=>?_;refine oD fun _=>?_
  exact hN aA hf ()
 exact key
-- what is shipped
theorem t7{n:Nat}{seq:Int}{l:lI}(h:eQ l seq=true):i64.wrap (seq - l.2.1)=((bR l seq:Nat):Int):=by
 have:=pJ h;rw[IntKind.wrap_i64];omega
theorem f326(l:lI)(seq:Int)(hl:l.2.2.1.length≤aW)(hs:∀ i,i<l.2.2.1.length→SzS (gt l.2.2.1 i)):Ran p 5 326 [.val true ⟨K33,l⟩, .val false ⟨K3,(seq,())⟩] ⟨[⟨K27,fR l seq⟩,⟨K4,(eQ l seq,())⟩],[]⟩:=go326 fun n hn=>by
 cases hb:eQ l seq with
 | false=>
  exact Ev.now fun aA=>by
   unfold T326 fR;rw[hb];refine(aD (f229 l hl hs n (by omega))).trans ?_
   cases h1:gI l with
   | false=>rfl
   | true=>refine(aK rfl).trans ?_;refine(aD (f211 seq l.2.1 (i64.wrap (l.2.1+((l.2.2.1.length:Nat):Int))) n (by omega))).trans ?_;unfold eQ at hb;rw[h1] at hb;rw[show inB seq l.2.1 (i64.wrap (l.2.1+((l.2.2.1.length:Nat):Int)))=false from hb];rfl
 | true=>
  have hk:=pJ hb
  have hb':=hb
  unfold eQ at hb';rw[Bool.and_eq_true] at hb'
  have lp:It (fun aA (_:Unit)=>c326_5 (aG p n) aA l) (((bR l seq:Nat):Int),([]:List cB),([]:List aV)) (fun _=>some ⟨[⟨K27,fR l seq⟩,⟨K4,(true,())⟩],[]⟩):=by
   refine It.run (fun i=>(((bR l seq+i:Nat):Int),(dH l.2.2.1 (bR l seq) i).1,(dH l.2.2.1 (bR l seq) i).2.1)) (l.2.2.1.length - bR l seq) (fun i hi aA u rec=>?_) (It.stop fun aA u rec=>?_)
   ·have hi1:bR l seq+i<l.2.2.1.length:=by omega
    have o1:=(bI _).1 (oH hb'.1 (bR l seq) i (by omega))
    have o2:=(bI _).1 (show aY (gt l.2.2.1 (bR l seq+i))=true by have h1:=hb'.1;unfold gI at h1;simp only[Bool.and_eq_true] at h1;exact cE.1 h1.2.2.2.2 _ hi1)
    show c326_5 (aG p n) aA l rec (((bR l seq+i:Nat):Int),(dH l.2.2.1 (bR l seq) i).1,(dH l.2.2.1 (bR l seq) i).2.1)=_
    unfold c326_5;dsimp only;rw[aJ (i63 hi1 hl)];refine(aE (Int.ofNat_lt.2 hi1)).trans ?_;refine bif_nn.trans ?_;refine(aL hi1).trans ?_;refine(aD (f260 (dH l.2.2.1 (bR l seq) i) (gt l.2.2.1 (bR l seq+i)) (oG _ _ _) (hs _ hi1) o1.pos o2.pos n (by omega))).trans ?_;rfl
   ·show c326_5 (aG p n) aA l rec (((bR l seq+(l.2.2.1.length - bR l seq):Nat):Int),(dH l.2.2.1 (bR l seq) (l.2.2.1.length - bR l seq)).1,(dH l.2.2.1 (bR l seq) (l.2.2.1.length - bR l seq)).2.1)=_
    unfold c326_5;dsimp only;refine(aF (show ¬ ((bR l seq+(l.2.2.1.length - bR l seq):Nat):Int)<((l.2.2.1.length:Nat):Int) by omega)).trans ?_;unfold fR;rw[hb];rfl
  exact Ev.eq (fun aA=>by unfold T326;refine(aD (f229 l hl hs n (by omega))).trans ?_;rw[hb'.1];refine(aK rfl).trans ?_;refine(aD (f211 seq l.2.1 (i64.wrap (l.2.1+((l.2.2.1.length:Nat):Int))) n (by omega))).trans ?_;rw[hb'.2];refine(aK rfl).trans ?_;rw[t7 (n:=0) hb];rfl) (lp.ev (i:=()) rfl)
theorem f318(l:lI)(seq:Int)(hl:l.2.2.1.length≤aW)(hs:∀ i,i<l.2.2.1.length→SzS (gt l.2.2.1 i)):Ran p 6 318 [.val true ⟨K33,l⟩, .val false ⟨K3,(seq,())⟩] ⟨[⟨K27,fR l seq⟩,⟨K4,(eQ l seq,())⟩],[]⟩:=go318 fun n hn=>by
 have hq:gI l=true→dM l=i64.wrap (l.2.1+((l.2.2.1.length:Nat):Int)):=fun h=>by unfold dM;rw[h];rfl
 cases hb:eQ l seq with
 | false=>
  exact Ev.now fun aA=>by
   unfold T318 fR;rw[hb];refine(aD (f105 l hl hs n (by omega))).trans ?_
   cases h1:gI l with
   | false=>rfl
   | true=>refine(aK rfl).trans ?_;refine(aD (f104 l hl hs n (by omega))).trans ?_;rw[hq h1];refine(aD (f100 seq l.2.1 (i64.wrap (l.2.1+((l.2.2.1.length:Nat):Int))) n (by omega))).trans ?_;unfold eQ at hb;rw[h1] at hb;rw[show inB seq l.2.1 (i64.wrap (l.2.1+((l.2.2.1.length:Nat):Int)))=false from hb];rfl
 | true=>
  have hk:=pJ hb
  have hb':=hb
  unfold eQ at hb';rw[Bool.and_eq_true] at hb'
  have hw:=t7 (n:=0) hb
  have e:((l.2.2.1.take l.2.2.1.length).drop ((i64.wrap (seq - l.2.1))).toNat)=l.2.2.1.drop (bR l seq):=by rw[hw,List.take_length];rfl
  have lp:It (fun aA (_:Unit)=>c318_5 (aG p n) aA l seq) ((0:Int),([]:List cB),([]:List aV)) (fun _=>some ⟨[⟨K27,fR l seq⟩,⟨K4,(true,())⟩],[]⟩):=by
   refine It.run (fun i=>((i:Int),(dH l.2.2.1 (bR l seq) i).1,(dH l.2.2.1 (bR l seq) i).2.1)) (l.2.2.1.length - bR l seq) (fun i hi aA u rec=>?_) (It.stop fun aA u rec=>?_)
   ·have hi1:bR l seq+i<l.2.2.1.length:=by omega
    have hi2:i<((l.2.2.1.take l.2.2.1.length).drop ((i64.wrap (seq - l.2.1))).toNat).length:=by rw[e,List.length_drop];omega
    have hg:gt ((l.2.2.1.take l.2.2.1.length).drop ((i64.wrap (seq - l.2.1))).toNat) i=gt l.2.2.1 (bR l seq+i):=by
     rw[e,iG (by rw[List.length_drop];omega),iG hi1,List.getElem_drop]
    have hj:dH l.2.2.1 (bR l seq) (i+1)=eH (dH l.2.2.1 (bR l seq) i) (gt ((l.2.2.1.take l.2.2.1.length).drop ((i64.wrap (seq - l.2.1))).toNat) i):=by rw[hg];rfl
    have hz2:=hs _ hi1
    rw[← hg] at hz2
    show c318_5 (aG p n) aA l seq rec ((i:Int),(dH l.2.2.1 (bR l seq) i).1,(dH l.2.2.1 (bR l seq) i).2.1)=rec (((i+1:Nat):Int),(dH l.2.2.1 (bR l seq) (i+1)).1,(dH l.2.2.1 (bR l seq) (i+1)).2.1)
    rw[hj];unfold c318_5;dsimp only;rw[aJ (show i<9223372036854775807 by have:=i63 hi1 hl;omega)];refine(aE (Int.ofNat_lt.2 hi2)).trans ?_;refine bif_nn.trans ?_;refine(aL hi2).trans ?_;refine(aD (f240 (dH l.2.2.1 (bR l seq) i) _ (oG _ _ _) hz2 n (by omega))).trans ?_;rfl
   ·show c318_5 (aG p n) aA l seq rec (((l.2.2.1.length - bR l seq:Nat):Int),(dH l.2.2.1 (bR l seq) (l.2.2.1.length - bR l seq)).1,(dH l.2.2.1 (bR l seq) (l.2.2.1.length - bR l seq)).2.1)=_
    unfold c318_5;dsimp only;refine(aF (show ¬ ((l.2.2.1.length - bR l seq:Nat):Int)<((((l.2.2.1.take l.2.2.1.length).drop ((i64.wrap (seq - l.2.1))).toNat).length:Nat):Int) by rw[e,List.length_drop];omega)).trans ?_;unfold fR;rw[hb];rfl
  exact Ev.eq (fun aA=>by unfold T318;refine(aD (f105 l hl hs n (by omega))).trans ?_;rw[hb'.1];refine(aK rfl).trans ?_;refine(aD (f104 l hl hs n (by omega))).trans ?_;rw[hq hb'.1];refine(aD (f100 seq l.2.1 (i64.wrap (l.2.1+((l.2.2.1.length:Nat):Int))) n (by omega))).trans ?_;rw[hb'.2];refine(aK rfl).trans ?_;exact u9 (show(0:Int)≤i64.wrap (seq - l.2.1) by rw[hw];omega) (show i64.wrap (seq - l.2.1)≤((l.2.2.1.length:Nat):Int) by rw[hw];omega)) (lp.ev (i:=()) rfl)
theorem f259(x:NodeT)(seq:Int)(hz:SzN x):Ran p 6 259 [.val true ⟨K38,x⟩, .val false ⟨K3,(seq,())⟩] ⟨[⟨K27,mO x seq⟩,⟨K4,(eQ x.log seq,())⟩],[]⟩:=go259 fun n hn=>Ev.now fun aA=>by
 unfold T259 mO;refine(cH (f326 x.log seq hz.list hz.logs n (by omega))).trans ?_
 cases eQ x.log seq with
 | true=>rfl
 | false=>refine(aK rfl).trans ?_;refine(aD (f224 x.state hz.state n (by omega))).trans ?_;rfl
theorem f239(x:NodeT)(seq:Int)(hz:SzN x)(h:NodeOk x):Ran p 8 239 [.val true ⟨K38,x⟩, .val false ⟨K3,(seq,())⟩] ⟨[⟨K27,mO x seq⟩,⟨K4,(eQ x.log seq,())⟩],[]⟩:=go239 fun n hn=>Ev.now fun aA=>by
 unfold T239 mO;refine(aD (f23 x hz n (by omega))).trans ?_;rw[(iP x).2 h];refine(aK rfl).trans ?_;refine(cH (f318 x.log seq hz.list hz.logs n (by omega))).trans ?_
 cases eQ x.log seq with
 | true=>rfl
 | false=>refine(aO rfl).trans ?_;refine(aD (f220 x.state hz.state n (by omega))).trans ?_;rfl
theorem yN{s:aM}(h:aY s=true):s.1.length≤1000∧s.2.1.length≤1000:=by have:=((bI s).1 h).len;omega
theorem f119(x:NodeT)(ls:List aZ)(seq:Int)(hz:SzN x)(h:NodeOk x)(hl:ls.length≤aW):Ran p 7 119 [.val true ⟨K38,x⟩, .val false ⟨K28,(ls,())⟩, .val false ⟨K3,(seq,())⟩] ⟨[⟨K27,v6 x ls seq⟩],[]⟩:=go119 fun n hn=>Ev.now fun aA=>by
 have hm:=yN h.state
 unfold T119;refine(cH (f259 x seq hz n (by omega))).trans ?_;refine(aD (f261 x.state ls (aS hl) hm.1 hm.2 n (by omega))).trans ?_;refine(aD (f260 (gS x.state ls) (mO x seq) (yP hz.state ls) (yQ hz seq) ((bI _).1 (D5 h.state ls)).pos ((bI _).1 (D7 h seq)).pos n (by omega))).trans ?_;rfl
theorem f99(x:NodeT)(ls:List aZ)(m:MsgT)(hz:SzN x)(h:NodeOk x)(hl:ls.length≤aW)(h0:0≤x.1)(hv:x.1.toNat<m.vec.length):Ran p 9 99 [.val true ⟨K38,x⟩, .val false ⟨K28,(ls,())⟩, .val true ⟨K43,m⟩] ⟨[⟨K27,v6 x ls (gt m.vec x.1.toNat).1⟩],[]⟩:=go99 fun n hn=>Ev.now fun aA=>by
 have hm:=yN h.state
 unfold T99;refine(aE h0).trans ?_;refine(aQ hv).trans ?_;refine(cH (f239 x (gt m.vec x.1.toNat).1 hz h n (by omega))).trans ?_;refine(aD (f241 x.state ls (aS hl) hm.1 hm.2 h.state n (by omega))).trans ?_;refine(aD (f240 (gS x.state ls) (mO x (gt m.vec x.1.toNat).1) (yP hz.state ls) (yQ hz _) n (by omega))).trans ?_;rfl
end Go.Abs.Xz
