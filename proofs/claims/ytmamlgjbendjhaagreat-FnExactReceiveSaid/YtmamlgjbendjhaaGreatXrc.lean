/- What the functions of this program answer, part rc. -/
import Derived.Test.YtmamlgjbendjhaaGreatXrb
set_option linter.unusedVariables false
namespace Go.Abs.Xz
open Go Go.Abs
theorem f252(v:List bC)(a b:Int)(hv:v.length≤bA):Ran p 2 252 [.val false ⟨K28,(v,())⟩, .val false ⟨K3,(a,())⟩, .val false ⟨K3,(b,())⟩] ⟨[⟨K4,(lS v a b,())⟩],[]⟩:=go252 fun n hn=>by
 by_cases h:((v.length:Nat):Int)>a
 ·exact Ev.now fun aA=>by unfold T252 lS;rw[decide_eq_true h];exact aF h
 ·have lp:It (fun aA (_:Unit)=>c252_4 (aG p n) aA v b) (0:Int) (fun _=>oB (lT v b)):=by
   refine dH (It.allB v.length (fun i=>inB (gt v i).1 0 b) true (fun i hi aA u rec=>?_) (It.stop fun aA u rec=>?_))
   ·show c252_4 (aG p n) aA v b rec (i:Int)=_
    unfold c252_4;rw[aJ (i63 hi hv)];refine(aF (Int.ofNat_lt.2 hi)).trans ?_;refine(aF (Int.natCast_nonneg _)).trans ?_;refine(aM hi).trans ?_;refine(aD (f211 (gt v i).1 0 b n (by omega))).trans ?_;exact fin
   ·show c252_4 (aG p n) aA v b rec (v.length:Int)=_
    unfold c252_4;refine(aH (Int.lt_irrefl _)).trans ?_;rfl
  have e:lS v a b=lT v b:=by unfold lS;rw[decide_eq_false h];rfl
  rw[e]
  exact Ev.eq (fun aA=>by unfold T252;exact aH h) (lp.ev (i:=()) rfl)
theorem f251(t:iV)(ht:t.1.length≤bA):Ran p 3 251 [.val true ⟨K30,t⟩] ⟨[⟨K4,(nF t,())⟩],[]⟩:=go251 fun n hn=>Ev.now fun aA=>by
 unfold T251 nF
 cases h0:((t.1.length:Nat):Int)==0 with
 | true=>exact aX h0
 | false=>
  refine(aN h0).trans ?_
  cases h4:((t.1.length:Nat):Int)==4 with
  | false=>exact aN h4
  | true=>
   refine(aX h4).trans ?_;refine(aD (f252 t.1 4 1023 ht n (by omega))).trans ?_
   have e:lS t.1 4 1023=lT t.1 1023:=by unfold lS;rw[decide_eq_false (by have:=eq_of_beq h4;omega)];rfl
   rw[e]
   cases lT t.1 1023 with
   | false=>rfl
   | true=>refine(aX rfl).trans ?_;refine(aD (f211 t.2.1 0 1023 n (by omega))).trans ?_;rfl
theorem f124(t:iV)(ht:t.1.length≤bA):Ran p 2 124 [.val true ⟨K30,t⟩] ⟨[⟨K4,(nF t,())⟩],[]⟩:=go124 fun n hn=>by
 cases h0:((t.1.length:Nat):Int)==0 with
 | true=>exact Ev.now fun aA=>by unfold T124 nF;rw[h0];exact aX h0
 | false=>
  have lp:It (fun aA (_:Unit)=>c124_4 (aG p n) aA t) (0:Int) (fun _=>oB (lT t.1 1023&&(((t.1.length:Nat):Int)==4&&inB t.2.1 0 1023))):=by
   refine It.allB t.1.length (fun i=>inB (gt t.1 i).1 0 1023) _ (fun i hi aA u rec=>?_) (It.stop fun aA u rec=>?_)
   ·show c124_4 (aG p n) aA t rec (i:Int)=_
    unfold c124_4;rw[aJ (i63 hi ht)];refine(aF (Int.ofNat_lt.2 hi)).trans ?_;refine(aF (Int.natCast_nonneg _)).trans ?_;refine(aM hi).trans ?_;refine(aD (f100 (gt t.1 i).1 0 1023 n (by omega))).trans ?_;exact fin
   ·show c124_4 (aG p n) aA t rec (t.1.length:Int)=_
    unfold c124_4;refine(aH (Int.lt_irrefl _)).trans ?_
    cases h4:((t.1.length:Nat):Int)==4 with
    | false=>exact aN h4
    | true=>refine(aX h4).trans ?_;refine(aD (f100 t.2.1 0 1023 n (by omega))).trans ?_;rfl
  have e:nF t=(lT t.1 1023&&(((t.1.length:Nat):Int)==4&&inB t.2.1 0 1023)):=by unfold nF;rw[h0];show(_&&(_&&_))=_;ac_rfl
  rw[e]
  exact Ev.eq (fun aA=>by unfold T124;exact aN h0) (lp.ev (i:=()) rfl)
theorem f113(m:MsgT)(hz:SzM m):Ran p 4 113 [.val true ⟨K43,m⟩] ⟨[⟨K4,(kL m,())⟩],[]⟩:=go113 fun n hn=>by
 have lp:It (fun aA (_:Unit)=>c113_6 (aG p n) aA m) (1:Int) (fun _=>oB (cD (m.leaves.length - 1) (yB m.leaves))):=by
  have:=It.all (c:=fun aA (_:Unit)=>c113_6 (aG p n) aA m) (rA:=fun _=>oB true) (rB:=fun _=>oB false) (fun i=>(((i+1:Nat)):Int)) (m.leaves.length - 1) (yB m.leaves) (fun i hi aA u rec=>by
   have hi1:i+1<m.leaves.length:=by omega
   have hl:=hz.list
   show c113_6 (aG p n) aA m rec (((i+1:Nat)):Int)=_
   unfold c113_6;rw[aJ (i63 hi1 hl)];refine(aF (Int.ofNat_lt.2 hi1)).trans ?_;refine(aF (Int.natCast_nonneg _)).trans ?_;refine(aM hi1).trans ?_;rw[gJ (i63 hi1 hl) (by omega)];refine(aF (Int.natCast_nonneg _)).trans ?_;refine(aM (show i<m.leaves.length by omega)).trans ?_;exact w7) (It.stop fun aA u rec=>by
   show c113_6 (aG p n) aA m rec (((m.leaves.length - 1+1:Nat)):Int)=_
   unfold c113_6;refine(aH (show ¬ (((m.leaves.length - 1+1:Nat)):Int)<((m.leaves.length:Nat):Int) by omega)).trans ?_;rfl)
  refine cast ?_ this
  congr 1;funext u;exact G4
 rw[← AL]
 have key:∃ N,∀ aA,N≤aA→T113 (aG p n) aA m=oB (tI m):=by
  obtain⟨N,hN⟩:=lp.all_i
  refine⟨N,fun aA hf=>?_⟩
  unfold T113 tI
  refine(aD (f211 m.1 0 5 n (by omega))).trans ?_;refine dS fun _=>?_;refine(aD (f250 m.2.1 n (by omega))).trans ?_;refine dS fun _=>?_;refine(aD (f250 m.2.2.1 n (by omega))).trans ?_;refine dS fun _=>?_;refine vZ fun _=>?_;refine(aD (f211 m.2.2.2.1 0 100000 n (by omega))).trans ?_;refine dS fun _=>?_;refine(aD (f211 m.hi 0 100000 n (by omega))).trans ?_;refine dS fun _=>?_
  refine(aD (f251 m.tree hz.leaves n (by omega))).trans ?_;refine dS fun _=>?_;refine(aD (f252 m.vec 5 100000 hz.vec n (by omega))).trans ?_;refine dS fun _=>?_;refine(aD (f252 m.leaves 4 3 hz.list n (by omega))).trans ?_;refine dS fun _=>?_;refine(aD (f227 m.part (aW hz.part.a) (aW hz.part.b) n (by omega))).trans ?_;refine dS fun _=>?_;refine(aD (f253 m.marks (aW hz.marks) n (by omega))).trans ?_;refine dS fun _=>?_
  exact hN aA hf ()
 exact key
theorem f30(m:MsgT)(hz:SzM m):Ran p 4 30 [.val true ⟨K43,m⟩] ⟨[⟨K4,(kL m,())⟩],[]⟩:=go30 fun n hn=>by
 have inner:It (fun aA (_:Unit)=>c30_10 (aG p n) aA m) (0:Int) (fun _=>oB (lT m.vec 100000&&(inB m.2.2.2.1 0 100000&&(inB m.hi 0 100000&&(nF m.tree&&(decide (((m.vec.length:Nat):Int)≤5)&&(aZ m.part&&dY m.marks))))))):=by
  refine It.allB m.vec.length (fun i=>inB (gt m.vec i).1 0 100000) _ (fun i hi aA u rec=>?_) (It.stop fun aA u rec=>?_)
  ·show c30_10 (aG p n) aA m rec (i:Int)=_
   unfold c30_10;rw[aJ (i63 hi hz.vec)];refine(aF (Int.ofNat_lt.2 hi)).trans ?_;refine(aF (Int.natCast_nonneg _)).trans ?_;refine(aM hi).trans ?_;refine(aD (f100 (gt m.vec i).1 0 100000 n (by omega))).trans ?_;exact fin
  ·show c30_10 (aG p n) aA m rec (m.vec.length:Int)=_
   unfold c30_10;refine(aH (Int.lt_irrefl _)).trans ?_;refine(aD (f100 m.2.2.2.1 0 100000 n (by omega))).trans ?_;refine eG fun _=>?_;refine(aD (f100 m.hi 0 100000 n (by omega))).trans ?_;refine eG fun _=>?_;refine(aD (f124 m.tree hz.leaves n (by omega))).trans ?_;refine eG fun _=>?_;refine eG fun _=>?_;refine(aD (f101 m.part (aW hz.part.a) (aW hz.part.b) n (by omega))).trans ?_;refine eG fun _=>?_;refine(aD (f125 m.marks (aW hz.marks) n (by omega))).trans ?_;rfl
 have lp:It (fun aA (_:Unit)=>c30_4 (aG p n) aA m) (0:Int) (fun _=>oB (cD m.leaves.length (vK m.leaves)&&(lT m.vec 100000&&(inB m.2.2.2.1 0 100000&&(inB m.hi 0 100000&&(nF m.tree&&(decide (((m.vec.length:Nat):Int)≤5)&&(aZ m.part&&dY m.marks)))))))):=by
  refine It.allB m.leaves.length (vK m.leaves) _ (fun i hi aA u rec=>?_) (It.stopE (T:=fun aA _=>iter (c30_10 (aG p n) aA m) aA (0:Int)) (fun aA u rec=>?_) inner.all_i)
  ·have hl:=hz.list
   show c30_4 (aG p n) aA m rec (i:Int)=_
   unfold c30_4 vK;rw[aJ (i63 hi hl)];refine(aF (Int.ofNat_lt.2 hi)).trans ?_;refine(aF (Int.natCast_nonneg _)).trans ?_;refine(aM hi).trans ?_;refine(aD (f100 (gt m.leaves i).1 0 3 n (by omega))).trans ?_;refine chk fun _=>?_
   cases i with
   | zero=>refine(aH (by decide)).trans ?_;rfl
   | succ j=>refine(aF (by omega)).trans ?_;rw[gJ (i63 hi hl) (by omega)];refine(aF (Int.natCast_nonneg _)).trans ?_;refine(aM (show j<m.leaves.length by omega)).trans ?_;exact w7
  ·show c30_4 (aG p n) aA m rec (m.leaves.length:Int)=_
   unfold c30_4;refine(aH (Int.lt_irrefl _)).trans ?_;rfl
 have key:∃ N,∀ aA,N≤aA→T30 (aG p n) aA m=oB (kL m):=by
  obtain⟨N,hN⟩:=lp.all_i
  refine⟨N,fun aA hf=>?_⟩
  unfold T30 kL pF
  rw[Bool.and_assoc,Bool.and_assoc,Bool.and_assoc]
  refine(aD (f100 m.1 0 5 n (by omega))).trans ?_;refine dS fun _=>?_;refine(aD (f123 m.2.1 n (by omega))).trans ?_;refine dS fun _=>?_;refine(aD (f123 m.2.2.1 n (by omega))).trans ?_;refine dS fun _=>?_;refine vZ fun _=>?_
  exact hN aA hf ()
 exact key
-- what is shipped
theorem sV{n:Nat}{seq:Int}{l:kU}(h:eK l seq=true):IntKind.i64.wrap (seq - l.2.1)=((bT l seq:Nat):Int):=by
 have:=oO h;rw[IntKind.wrap_i64];omega
theorem f326(l:kU)(seq:Int)(hl:l.2.2.1.length≤bA)(hs:∀ i,i<l.2.2.1.length→SzS (gt l.2.2.1 i)):Ran p 5 326 [.val true ⟨K33,l⟩, .val false ⟨K3,(seq,())⟩] ⟨[⟨K27,fD l seq⟩,⟨K4,(eK l seq,())⟩],[]⟩:=go326 fun n hn=>by
 cases hb:eK l seq with
 | false=>
  exact Ev.now fun aA=>by
   unfold T326 fD;rw[hb];refine(aD (f229 l hl hs n (by omega))).trans ?_
   cases h1:fV l with
   | false=>rfl
   | true=>refine(aN rfl).trans ?_;refine(aD (f211 seq l.2.1 (IntKind.i64.wrap (l.2.1+((l.2.2.1.length:Nat):Int))) n (by omega))).trans ?_;unfold eK at hb;rw[h1] at hb;rw[show inB seq l.2.1 (IntKind.i64.wrap (l.2.1+((l.2.2.1.length:Nat):Int)))=false from hb];rfl
 | true=>
  have hk:=oO hb
  have hb':=hb
  unfold eK at hb';rw[Bool.and_eq_true] at hb'
  have lp:It (fun aA (_:Unit)=>c326_5 (aG p n) aA l) (((bT l seq:Nat):Int),([]:List cE),([]:List aY)) (fun _=>some ⟨[⟨K27,fD l seq⟩,⟨K4,(true,())⟩],[]⟩):=by
   refine It.run (fun i=>(((bT l seq+i:Nat):Int),(dD l.2.2.1 (bT l seq) i).1,(dD l.2.2.1 (bT l seq) i).2.1)) (l.2.2.1.length - bT l seq) (fun i hi aA u rec=>?_) (It.stop fun aA u rec=>?_)
   ·have hi1:bT l seq+i<l.2.2.1.length:=by omega
    have o1:=(bI _).1 (nN hb'.1 (bT l seq) i (by omega))
    have o2:=(bI _).1 (show aZ (gt l.2.2.1 (bT l seq+i))=true by have h1:=hb'.1;unfold fV at h1;simp only[Bool.and_eq_true] at h1;exact cL.1 h1.2.2.2.2 _ hi1)
    show c326_5 (aG p n) aA l rec (((bT l seq+i:Nat):Int),(dD l.2.2.1 (bT l seq) i).1,(dD l.2.2.1 (bT l seq) i).2.1)=_
    unfold c326_5;dsimp only;rw[aJ (i63 hi1 hl)];refine(aF (Int.ofNat_lt.2 hi1)).trans ?_;refine(aF (Int.natCast_nonneg _)).trans ?_;refine(aM hi1).trans ?_;refine(aD (f260 (dD l.2.2.1 (bT l seq) i) (gt l.2.2.1 (bT l seq+i)) (nM _ _ _) (hs _ hi1) o1.pos o2.pos n (by omega))).trans ?_;rfl
   ·show c326_5 (aG p n) aA l rec (((bT l seq+(l.2.2.1.length - bT l seq):Nat):Int),(dD l.2.2.1 (bT l seq) (l.2.2.1.length - bT l seq)).1,(dD l.2.2.1 (bT l seq) (l.2.2.1.length - bT l seq)).2.1)=_
    unfold c326_5;dsimp only;refine(aH (show ¬ ((bT l seq+(l.2.2.1.length - bT l seq):Nat):Int)<((l.2.2.1.length:Nat):Int) by omega)).trans ?_;unfold fD;rw[hb];rfl
  exact Ev.eq (fun aA=>by unfold T326;refine(aD (f229 l hl hs n (by omega))).trans ?_;rw[hb'.1];refine(aN rfl).trans ?_;refine(aD (f211 seq l.2.1 (IntKind.i64.wrap (l.2.1+((l.2.2.1.length:Nat):Int))) n (by omega))).trans ?_;rw[hb'.2];refine(aN rfl).trans ?_;rw[sV (n:=0) hb];rfl) (lp.ev (i:=()) rfl)
theorem f318(l:kU)(seq:Int)(hl:l.2.2.1.length≤bA)(hs:∀ i,i<l.2.2.1.length→SzS (gt l.2.2.1 i)):Ran p 6 318 [.val true ⟨K33,l⟩, .val false ⟨K3,(seq,())⟩] ⟨[⟨K27,fD l seq⟩,⟨K4,(eK l seq,())⟩],[]⟩:=go318 fun n hn=>by
 have hq:fV l=true→dL l=IntKind.i64.wrap (l.2.1+((l.2.2.1.length:Nat):Int)):=fun h=>by unfold dL;rw[h];rfl
 cases hb:eK l seq with
 | false=>
  exact Ev.now fun aA=>by
   unfold T318 fD;rw[hb];refine(aD (f105 l hl hs n (by omega))).trans ?_
   cases h1:fV l with
   | false=>rfl
   | true=>refine(aN rfl).trans ?_;refine(aD (f104 l hl hs n (by omega))).trans ?_;rw[hq h1];refine(aD (f100 seq l.2.1 (IntKind.i64.wrap (l.2.1+((l.2.2.1.length:Nat):Int))) n (by omega))).trans ?_;unfold eK at hb;rw[h1] at hb;rw[show inB seq l.2.1 (IntKind.i64.wrap (l.2.1+((l.2.2.1.length:Nat):Int)))=false from hb];rfl
 | true=>
  have hk:=oO hb
  have hb':=hb
  unfold eK at hb';rw[Bool.and_eq_true] at hb'
  have hw:=sV (n:=0) hb
  have e:((l.2.2.1.take l.2.2.1.length).drop ((IntKind.i64.wrap (seq - l.2.1))).toNat)=l.2.2.1.drop (bT l seq):=by rw[hw,List.take_length];rfl
  have lp:It (fun aA (_:Unit)=>c318_5 (aG p n) aA l seq) ((0:Int),([]:List cE),([]:List aY)) (fun _=>some ⟨[⟨K27,fD l seq⟩,⟨K4,(true,())⟩],[]⟩):=by
   refine It.run (fun i=>((i:Int),(dD l.2.2.1 (bT l seq) i).1,(dD l.2.2.1 (bT l seq) i).2.1)) (l.2.2.1.length - bT l seq) (fun i hi aA u rec=>?_) (It.stop fun aA u rec=>?_)
   ·have hi1:bT l seq+i<l.2.2.1.length:=by omega
    have hi2:i<((l.2.2.1.take l.2.2.1.length).drop ((IntKind.i64.wrap (seq - l.2.1))).toNat).length:=by rw[e,List.length_drop];omega
    have hg:gt ((l.2.2.1.take l.2.2.1.length).drop ((IntKind.i64.wrap (seq - l.2.1))).toNat) i=gt l.2.2.1 (bT l seq+i):=by
     rw[e,gS (by rw[List.length_drop];omega),gS hi1,List.getElem_drop]
    have hj:dD l.2.2.1 (bT l seq) (i+1)=eA (dD l.2.2.1 (bT l seq) i) (gt ((l.2.2.1.take l.2.2.1.length).drop ((IntKind.i64.wrap (seq - l.2.1))).toNat) i):=by rw[hg];rfl
    have hz2:=hs _ hi1
    rw[← hg] at hz2
    show c318_5 (aG p n) aA l seq rec ((i:Int),(dD l.2.2.1 (bT l seq) i).1,(dD l.2.2.1 (bT l seq) i).2.1)=rec (((i+1:Nat):Int),(dD l.2.2.1 (bT l seq) (i+1)).1,(dD l.2.2.1 (bT l seq) (i+1)).2.1)
    rw[hj];unfold c318_5;dsimp only;rw[aJ (show i<9223372036854775807 by have:=i63 hi1 hl;omega)];refine(aF (Int.ofNat_lt.2 hi2)).trans ?_;refine(aF (Int.natCast_nonneg _)).trans ?_;refine(aM hi2).trans ?_;refine(aD (f240 (dD l.2.2.1 (bT l seq) i) _ (nM _ _ _) hz2 n (by omega))).trans ?_;rfl
   ·show c318_5 (aG p n) aA l seq rec (((l.2.2.1.length - bT l seq:Nat):Int),(dD l.2.2.1 (bT l seq) (l.2.2.1.length - bT l seq)).1,(dD l.2.2.1 (bT l seq) (l.2.2.1.length - bT l seq)).2.1)=_
    unfold c318_5;dsimp only;refine(aH (show ¬ ((l.2.2.1.length - bT l seq:Nat):Int)<((((l.2.2.1.take l.2.2.1.length).drop ((IntKind.i64.wrap (seq - l.2.1))).toNat).length:Nat):Int) by rw[e,List.length_drop];omega)).trans ?_;unfold fD;rw[hb];rfl
  exact Ev.eq (fun aA=>by unfold T318;refine(aD (f105 l hl hs n (by omega))).trans ?_;rw[hb'.1];refine(aN rfl).trans ?_;refine(aD (f104 l hl hs n (by omega))).trans ?_;rw[hq hb'.1];refine(aD (f100 seq l.2.1 (IntKind.i64.wrap (l.2.1+((l.2.2.1.length:Nat):Int))) n (by omega))).trans ?_;rw[hb'.2];refine(aN rfl).trans ?_;exact uD (show(0:Int)≤IntKind.i64.wrap (seq - l.2.1) by rw[hw];omega) (show IntKind.i64.wrap (seq - l.2.1)≤((l.2.2.1.length:Nat):Int) by rw[hw];omega)) (lp.ev (i:=()) rfl)
theorem f259(x:NodeT)(seq:Int)(hz:SzN x):Ran p 6 259 [.val true ⟨K38,x⟩, .val false ⟨K3,(seq,())⟩] ⟨[⟨K27,l8 x seq⟩,⟨K4,(eK x.log seq,())⟩],[]⟩:=go259 fun n hn=>Ev.now fun aA=>by
 unfold T259 l8;refine(cZ (f326 x.log seq hz.list hz.logs n (by omega))).trans ?_
 cases eK x.log seq with
 | true=>rfl
 | false=>refine(aN rfl).trans ?_;refine(aD (f224 x.state hz.state n (by omega))).trans ?_;rfl
theorem f239(x:NodeT)(seq:Int)(hz:SzN x)(h:NodeOk x):Ran p 8 239 [.val true ⟨K38,x⟩, .val false ⟨K3,(seq,())⟩] ⟨[⟨K27,l8 x seq⟩,⟨K4,(eK x.log seq,())⟩],[]⟩:=go239 fun n hn=>Ev.now fun aA=>by
 unfold T239 l8;refine(aD (f23 x hz n (by omega))).trans ?_;rw[(nQ x).2 h];refine(aN rfl).trans ?_;refine(cZ (f318 x.log seq hz.list hz.logs n (by omega))).trans ?_
 cases eK x.log seq with
 | true=>rfl
 | false=>refine(aX rfl).trans ?_;refine(aD (f220 x.state hz.state n (by omega))).trans ?_;rfl
theorem xK{s:aO}(h:aZ s=true):s.1.length≤1000∧s.2.1.length≤1000:=by have:=((bI s).1 h).len;omega
theorem f119(x:NodeT)(ls:List bC)(seq:Int)(hz:SzN x)(h:NodeOk x)(hl:ls.length≤bA):Ran p 7 119 [.val true ⟨K38,x⟩, .val false ⟨K28,(ls,())⟩, .val false ⟨K3,(seq,())⟩] ⟨[⟨K27,u7 x ls seq⟩],[]⟩:=go119 fun n hn=>Ev.now fun aA=>by
 have hm:=xK h.state
 unfold T119;refine(cZ (f259 x seq hz n (by omega))).trans ?_;refine(aD (f261 x.state ls (aW hl) hm.1 hm.2 n (by omega))).trans ?_;refine(aD (f260 (gG x.state ls) (l8 x seq) (xM hz.state ls) (xN hz seq) ((bI _).1 (CK h.state ls)).pos ((bI _).1 (CM h seq)).pos n (by omega))).trans ?_;rfl
theorem f99(x:NodeT)(ls:List bC)(m:MsgT)(hz:SzN x)(h:NodeOk x)(hl:ls.length≤bA)(h0:0≤x.1)(hv:x.1.toNat<m.vec.length):Ran p 9 99 [.val true ⟨K38,x⟩, .val false ⟨K28,(ls,())⟩, .val true ⟨K43,m⟩] ⟨[⟨K27,u7 x ls (gt m.vec x.1.toNat).1⟩],[]⟩:=go99 fun n hn=>Ev.now fun aA=>by
 have hm:=xK h.state
 unfold T99;refine(aF h0).trans ?_;refine(bD hv).trans ?_;refine(cZ (f239 x (gt m.vec x.1.toNat).1 hz h n (by omega))).trans ?_;refine(aD (f241 x.state ls (aW hl) hm.1 hm.2 h.state n (by omega))).trans ?_;refine(aD (f240 (gG x.state ls) (l8 x (gt m.vec x.1.toNat).1) (xM hz.state ls) (xN hz _) n (by omega))).trans ?_;rfl
end Go.Abs.Xz
