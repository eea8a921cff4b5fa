/- What the functions of this program answer, part rb. -/
import Derived.Test.YtmamlgjbendjhaaGreatXra
set_option linter.unusedVariables false
namespace Go.Abs.Xz
open Go Go.Abs
theorem f357(t:List cD)(id:Int)(h1:t.length≤aS)(h2:∀ i,i<t.length→(gt t i).1.length≤aS):Ran p 2 357 [.val false ⟨K34,(t,())⟩, .val false ⟨K3,(id,())⟩] ⟨[⟨K3,(eY t id,())⟩],[]⟩:=go357 fun n hn=>by
 have lp:It (fun aA (_:Unit)=>c357_5 (aJ p n) aA t id) ((0:Int),(0:Int)) (fun _=>oI (eY t id)):=by
  refine cast ?_ (It.all (c:=fun aA (_:Unit)=>c357_5 (aJ p n) aA t id) (rA:=fun _=>oI (dM t id t.length)) (rB:=fun _=>oI 0) (fun i=>(dM t id i,(i:Int))) t.length (f7 t id) (fun i hi aA u rec=>?_) (It.stop fun aA u rec=>?_))
  ·congr 1;funext u;unfold eY;cases bH t.length (f7 t id)<;>rfl
  ·show c357_5 (aJ p n) aA t id rec (dM t id i,(i:Int))=bif f7 t id i then rec (dM t id (i+1),((i+1:Nat):Int))else oI 0
   unfold c357_5 f7;dsimp only;rw[aL (i63 hi h1)];refine(aE (Int.ofNat_lt.2 hi)).trans ?_;refine(aE (Int.natCast_nonneg _)).trans ?_;refine(aI hi).trans ?_;refine(aB (f211 id 0 (IntKind.i64.wrap ((((gt t i).1.length:Nat):Int) - 1)) n (by omega))).trans ?_
   cases hb:inB id 0 (IntKind.i64.wrap ((((gt t i).1.length:Nat):Int) - 1))with
   | false=>rfl
   | true=>
    obtain⟨hk,e⟩:=oS (h2 i hi) hb
    have hp:(0:Int)≤id:=by omega
    refine(aF rfl).trans ?_
    show _=rec (bif(i:Int)==0 then _ else bif decide ((gt (gt t i).1 id.toNat).1<dM t id i)then _ else _,_)
    cases h0:(i:Int)==0 with
    | true=>refine(aN rfl).trans ?_;refine(aE (Int.natCast_nonneg _)).trans ?_;refine(aI hi).trans ?_;refine(aE hp).trans ?_;refine(aW hk).trans ?_;rfl
    | false=>
     refine(aF rfl).trans ?_;refine(aE (Int.natCast_nonneg _)).trans ?_;refine(aI hi).trans ?_;refine(aE hp).trans ?_;refine(aW hk).trans ?_
     by_cases hc:(gt (gt t i).1 id.toNat).1<dM t id i
     ·refine(aE hc).trans ?_;refine(aE (Int.natCast_nonneg _)).trans ?_;refine(aI hi).trans ?_;refine(aE hp).trans ?_;refine(aW hk).trans ?_;rw[decide_eq_true hc];rfl
     ·refine(aG hc).trans ?_;rw[decide_eq_false hc];rfl
  ·show c357_5 (aJ p n) aA t id rec (dM t id t.length,(t.length:Int))=_
   unfold c357_5;dsimp only;refine(aG (Int.lt_irrefl _)).trans ?_;rfl
 cases h0:((t.length:Nat):Int)==0 with
 | false=>exact Ev.eq (fun aA=>by unfold T357;exact aF h0) (lp.ev (i:=()) rfl)
 | true=>
  have e:eY t id=0:=by
   have:t=[]:=List.length_eq_zero_iff.1 (by have:=eq_of_beq h0;omega)
   rw[this];rfl
  exact Ev.now fun aA=>by rw[e];unfold T357;exact aN h0
theorem f354(t:List cD)(id:Int)(h1:t.length≤aS)(h2:∀ i,i<t.length→(gt t i).1.length≤aS):Ran p 2 354 [.val false ⟨K34,(t,())⟩, .val false ⟨K3,(id,())⟩] ⟨[⟨K3,(eY t id,())⟩],[]⟩:=go354 fun n hn=>by
 have lp:It (fun aA (_:Unit)=>c354_3 (aJ p n) aA t id) ((0:Int),(0:Int)) (fun _=>oI (eY t id)):=by
  refine cast ?_ (It.all (c:=fun aA (_:Unit)=>c354_3 (aJ p n) aA t id) (rA:=fun _=>oI (dM t id t.length)) (rB:=fun _=>oI 0) (fun i=>(dM t id i,(i:Int))) t.length (f7 t id) (fun i hi aA u rec=>?_) (It.stop fun aA u rec=>?_))
  ·congr 1;funext u;unfold eY;cases bH t.length (f7 t id)<;>rfl
  ·show c354_3 (aJ p n) aA t id rec (dM t id i,(i:Int))=bif f7 t id i then rec (dM t id (i+1),((i+1:Nat):Int))else oI 0
   unfold c354_3 f7;dsimp only;rw[aL (i63 hi h1)];refine(aE (Int.ofNat_lt.2 hi)).trans ?_;refine(aE (Int.natCast_nonneg _)).trans ?_;refine(aI hi).trans ?_;refine(aB (f100 id 0 (IntKind.i64.wrap ((((gt t i).1.length:Nat):Int) - 1)) n (by omega))).trans ?_
   cases hb:inB id 0 (IntKind.i64.wrap ((((gt t i).1.length:Nat):Int) - 1))with
   | false=>rfl
   | true=>
    obtain⟨hk,e⟩:=oS (h2 i hi) hb
    have hp:(0:Int)≤id:=by omega
    refine(aF rfl).trans ?_
    show _=rec (bif(i:Int)==0 then _ else bif decide ((gt (gt t i).1 id.toNat).1<dM t id i)then _ else _,_)
    cases h0:(i:Int)==0 with
    | true=>refine(aN rfl).trans ?_;refine(aE hp).trans ?_;refine(aW hk).trans ?_;rfl
    | false=>
     refine(aF rfl).trans ?_;refine(aE hp).trans ?_;refine(aW hk).trans ?_
     by_cases hc:(gt (gt t i).1 id.toNat).1<dM t id i
     ·refine(aE hc).trans ?_;refine(aE hp).trans ?_;refine(aW hk).trans ?_;rw[decide_eq_true hc];rfl
     ·refine(aG hc).trans ?_;rw[decide_eq_false hc];rfl
  ·show c354_3 (aJ p n) aA t id rec (dM t id t.length,(t.length:Int))=_
   unfold c354_3;dsimp only;refine(aG (Int.lt_irrefl _)).trans ?_;rfl
 exact Ev.eq (fun aA=>by unfold T354;rfl) (lp.ev (i:=()) rfl)
theorem AA(s:aK)(t:List cD):Pos (jV s t):=((bF _).1 (qW s t)).pos
theorem f325(s:aK)(t:List cD)(hz:SzS s)(h1:t.length≤aS)(h2:∀ i,i<t.length→(gt t i).1.length≤aS):Ran p 5 325 [.val true ⟨K27,s⟩, .val false ⟨K34,(t,())⟩] ⟨[⟨K27,jN s t⟩],[]⟩:=go325 fun n hn=>by
 cases hs:aP s with
 | false=>exact Ev.now fun aA=>by unfold T325;refine(aB (f227 s (aO hz.a) (aO hz.b) n (by omega))).trans ?_;rw[hs];refine(aN rfl).trans ?_;refine(aB (f224 s hz n (by omega))).trans ?_;unfold jN;rw[hs];rfl
 | true=>
  have lp:It (fun aA (_:Unit)=>c325_5 (aJ p n) aA s t) ((0:Int),([]:List aX)) (fun _=>some ⟨[⟨K27,jN s t⟩],[]⟩):=by
   refine It.accu (α:=aX) [] (eU s t) 5 1 (fun i _=>kJ s t i) (fun i hi acc ha aA u rec=>?_) (It.stop fun aA u rec=>?_)
   ·show c325_5 (aJ p n) aA s t rec ((i:Int),acc)=rec (((i+1:Nat):Int),acc++eU s t i)
    have hb:acc.length+1≤bound+(1 - (eU s t i).length):=by simp at ha;unfold bound;omega
    unfold c325_5 eU;dsimp only;rw[aL (show i<9223372036854775807 by omega)];refine(aE (show(i:Int)<5 by omega)).trans ?_;refine(aB (f357 t (i:Int) h1 h2 n (by omega))).trans ?_;refine(aB (f316 s (i:Int) hz n (by omega))).trans ?_;refine(aB (f256 (eY t i) (gone s i) n (by omega))).trans ?_
    by_cases h:mxI false (eY t i) (gone s i)>0
    ·refine(aE h).trans ?_;refine(aE (by unfold eU at hb;rw[decide_eq_true h] at hb;exact hb)).trans ?_;rw[decide_eq_true h];rfl
    ·refine(aG h).trans ?_;rw[decide_eq_false h];show rec _=rec _;rw[show(bif false then[((i:Int),mxI false (eY t i) (gone s i),())] else[])=([]:List aX)from rfl,List.append_nil];rfl
   ·show c325_5 (aJ p n) aA s t rec ((5:Int),bD 5 (eU s t))=_
    unfold c325_5;dsimp only;refine(aG (Int.lt_irrefl _)).trans ?_;refine(aB (f260 s (jV s t) hz (qV s t) ((bF s).1 hs).pos (AA s t) n (by omega))).trans ?_;unfold jN;rw[hs];rfl
  exact Ev.eq (fun aA=>by unfold T325;refine(aB (f227 s (aO hz.a) (aO hz.b) n (by omega))).trans ?_;rw[hs];rfl) (lp.ev (i:=()) rfl)
theorem f317(s:aK)(t:List cD)(hz:SzS s)(h1:t.length≤aS)(h2:∀ i,i<t.length→(gt t i).1.length≤aS):Ran p 6 317 [.val true ⟨K27,s⟩, .val false ⟨K34,(t,())⟩] ⟨[⟨K27,jN s t⟩],[]⟩:=go317 fun n hn=>by
 cases hs:aP s with
 | false=>exact Ev.now fun aA=>by unfold T317;refine(aB (f101 s (aO hz.a) (aO hz.b) n (by omega))).trans ?_;rw[hs];refine(aN rfl).trans ?_;refine(aB (f220 s hz n (by omega))).trans ?_;unfold jN;rw[hs];rfl
 | true=>
  have lp:It (fun aA (_:Unit)=>c317_5 (aJ p n) aA s t) ((0:Int),([]:List aX)) (fun _=>some ⟨[⟨K27,jN s t⟩],[]⟩):=by
   refine It.accu (α:=aX) [] (eU s t) 5 1 (fun i _=>kJ s t i) (fun i hi acc ha aA u rec=>?_) (It.stop fun aA u rec=>?_)
   ·show c317_5 (aJ p n) aA s t rec ((i:Int),acc)=rec (((i+1:Nat):Int),acc++eU s t i)
    have hb:acc.length+1≤bound+(1 - (eU s t i).length):=by simp at ha;unfold bound;omega
    unfold c317_5 eU;dsimp only;rw[aL (show i<9223372036854775807 by omega)];refine(aE (show(i:Int)<5 by omega)).trans ?_;refine(aB (f354 t (i:Int) h1 h2 n (by omega))).trans ?_;refine(aB (f311 s (i:Int) hz n (by omega))).trans ?_
    by_cases h:mxI false (eY t i) (gone s i)>0
    ·refine(aE h).trans ?_;refine(aE (by unfold eU at hb;rw[decide_eq_true h] at hb;exact hb)).trans ?_;rw[decide_eq_true h];rfl
    ·refine(aG h).trans ?_;rw[decide_eq_false h];show rec _=rec _;rw[show(bif false then[((i:Int),mxI false (eY t i) (gone s i),())] else[])=([]:List aX)from rfl,List.append_nil];rfl
   ·show c317_5 (aJ p n) aA s t rec ((5:Int),bD 5 (eU s t))=_
    unfold c317_5;dsimp only;refine(aG (Int.lt_irrefl _)).trans ?_;refine(aB (f240 s (jV s t) hz (qV s t) n (by omega))).trans ?_;unfold jN;rw[hs];rfl
  exact Ev.eq (fun aA=>by unfold T317;refine(aB (f101 s (aO hz.a) (aO hz.b) n (by omega))).trans ?_;rw[hs];rfl) (lp.ev (i:=()) rfl)
-- taking
theorem CT{x:NodeT}(hz:SzN x)(s:aK):(tkS x s).length≤aS∧∀ i,i<(tkS x s).length→(gt (tkS x s) i).1.length≤aS:=⟨(iH hz s).seen,(iH hz s).lines⟩
structure TakeOk (x:NodeT):Prop where
 state:aP x.state=true
 rises:(((x.rises.length:Nat):Int)==5)=true
theorem zD{x:NodeT}(h:NodeOk x):TakeOk x:=⟨h.state,h.rises⟩
theorem AV{x:NodeT}{s:aK}(h:TakeOk x)(hs:aP s=true){i:Nat}(hi:i<(tkP x s).1.length):0≤(gt (tkP x s).1 i).1∧(gt (tkP x s).1 i).1.toNat<(cH x.clock x.rises (tkP x s).1 i).length:=by
 have h1:=(((bF (tkP x s)).1 (xZ (lV h.state hs) (tkS x s))).item _ (dD hi)).1
 unfold dH at h1;rw[aQ] at h1
 have h2:=eq_of_beq h.rises
 rw[gJ];omega
theorem xR(c:Int)(rs:List j8)(xs:List bM)(i:Nat):cH c rs xs (i+1)=bif uY (gt (cH c rs xs i) (gt xs i).1.toNat) (gt xs i).2 then(cH c rs xs i).set (gt xs i).1.toNat ((gt xs i).2.1,(gt xs i).2.2.2.1,c,())else cH c rs xs i:=by
 show(cH c rs xs i).set _ (sU c _ _)=_
 unfold sU
 cases uY (gt (cH c rs xs i) (gt xs i).1.toNat) (gt xs i).2 with
 | true=>rfl
 | false=>exact zJ
theorem f254(x:NodeT)(s:aK)(hz:SzN x)(hs':SzS s)(h:TakeOk x)(hs:aP s=true):Ran p 7 254 [.val true ⟨K38,x⟩, .val true ⟨K27,s⟩] ⟨[⟨K38,lD x s⟩],[]⟩:=go254 fun n hn=>by
 have hj:=lU x.state s
 have ht:=CT hz s
 have hp:=zA x s
 have lp:It (fun aA (_:Unit)=>c254_7 (aJ p n) aA x ((x,()),()) (((tkS x s,()),()),()) ((tkP x s,()),()) ((cA (tkP x s),()),())) ((0:Int),x.rises) (fun _=>some ⟨[⟨K38,lD x s⟩],[]⟩):=by
  refine It.run (fun i=>((i:Int),cH x.clock x.rises (tkP x s).1 i)) (tkP x s).1.length (fun i hi aA u rec=>?_) (It.stop fun aA u rec=>?_)
  ·show c254_7 (aJ p n) aA x ((x,()),()) (((tkS x s,()),()),()) ((tkP x s,()),()) ((cA (tkP x s),()),()) rec ((i:Int),cH x.clock x.rises (tkP x s).1 i)=rec (((i+1:Nat):Int),cH x.clock x.rises (tkP x s).1 (i+1))
   obtain⟨h0,hl⟩:=AV h hs hi
   unfold c254_7;dsimp only;rw[aL (i63 hi hp.a),xR];unfold uY;refine(aE (Int.ofNat_lt.2 hi)).trans ?_;refine(aE (Int.natCast_nonneg _)).trans ?_;refine(aI hi).trans ?_;refine(aI hi).trans ?_;refine(aE h0).trans ?_;refine(aW hl).trans ?_;refine(aW hl).trans ?_
   by_cases h1:(gt (tkP x s).1 i).2.1>(gt (cH x.clock x.rises (tkP x s).1 i) (gt (tkP x s).1 i).1.toNat).1
   ·refine(aE h1).trans ?_;refine(aE h0).trans ?_;refine(aW hl).trans ?_;refine(aW hl).trans ?_;rw[decide_eq_true h1];rfl
   ·refine(aG h1).trans ?_;rw[decide_eq_false h1]
    cases h2:(gt (tkP x s).1 i).2.1==(gt (cH x.clock x.rises (tkP x s).1 i) (gt (tkP x s).1 i).1.toNat).1 with
    | false=>rfl
    | true=>
     refine(aN rfl).trans ?_
     by_cases h3:(gt (tkP x s).1 i).2.2.2.1>(gt (cH x.clock x.rises (tkP x s).1 i) (gt (tkP x s).1 i).1.toNat).2.1
     ·refine(aE h3).trans ?_;refine(aE h0).trans ?_;refine(aW hl).trans ?_;refine(aW hl).trans ?_;rw[decide_eq_true h3];rfl
     ·refine(aG h3).trans ?_;rw[decide_eq_false h3];rfl
  ·show c254_7 (aJ p n) aA x ((x,()),()) (((tkS x s,()),()),()) ((tkP x s,()),()) ((cA (tkP x s),()),()) rec (((tkP x s).1.length:Int),cH x.clock x.rises (tkP x s).1 (tkP x s).1.length)=_
   unfold c254_7;dsimp only;refine(aG (Int.lt_irrefl _)).trans ?_;rfl
 exact Ev.eq (fun aA=>by
  unfold T254;refine(aB (f85 x hz n (by omega))).trans ?_;refine(aB (f260 x.state s hz.state hs' ((bF _).1 h.state).pos ((bF _).1 hs).pos n (by omega))).trans ?_;refine(aB (f234 (dI x.state s) hj n (by omega))).trans ?_
  refine(aB (f257 x.seen x.1 (dE (dI x.state s)) hz.seen hz.lines (Nat.le_trans (gY _) (by decide)) n (by omega))).trans ?_;refine(aB (f325 (dI x.state s) (tkS x s) hj ht.1 ht.2 n (by omega))).trans ?_;refine(aB (f228 (tkP x s) hp n (by omega))).trans ?_;rfl) (lp.ev (i:=()) rfl)
theorem f235(x:NodeT)(s:aK)(hz:SzN x)(hs':SzS s)(h:NodeOk x)(hs:aP s=true):Ran p 8 235 [.val true ⟨K38,x⟩, .val true ⟨K27,s⟩] ⟨[⟨K38,lD x s⟩,⟨K4,(true,())⟩],[]⟩:=go235 fun n hn=>by
 have hj:=lU x.state s
 have ht:=CT hz s
 have hp:=zA x s
 have lp:It (fun aA (_:Unit)=>c235_9 (aJ p n) aA x ((x,()),()) (((tkS x s,()),()),()) ((tkP x s,()),()) ((cA (tkP x s),()),())) ((0:Int),x.rises) (fun _=>some ⟨[⟨K38,lD x s⟩,⟨K4,(true,())⟩],[]⟩):=by
  refine It.run (fun i=>((i:Int),cH x.clock x.rises (tkP x s).1 i)) (tkP x s).1.length (fun i hi aA u rec=>?_) (It.stop fun aA u rec=>?_)
  ·show c235_9 (aJ p n) aA x ((x,()),()) (((tkS x s,()),()),()) ((tkP x s,()),()) ((cA (tkP x s),()),()) rec ((i:Int),cH x.clock x.rises (tkP x s).1 i)=rec (((i+1:Nat):Int),cH x.clock x.rises (tkP x s).1 (i+1))
   obtain⟨h0,hl⟩:=AV (zD h) hs hi
   unfold c235_9;dsimp only;rw[aL (i63 hi hp.a),xR];unfold uY;refine(aE (Int.ofNat_lt.2 hi)).trans ?_;refine(aE (Int.natCast_nonneg _)).trans ?_;refine(aI hi).trans ?_;refine(aI hi).trans ?_;refine(aE h0).trans ?_;refine(aW hl).trans ?_;refine(aW hl).trans ?_
   by_cases h1:(gt (tkP x s).1 i).2.1>(gt (cH x.clock x.rises (tkP x s).1 i) (gt (tkP x s).1 i).1.toNat).1
   ·refine(aE h1).trans ?_;refine(aW hl).trans ?_;rw[decide_eq_true h1];rfl
   ·refine(aG h1).trans ?_;refine(aW hl).trans ?_;rw[decide_eq_false h1]
    cases h2:(gt (tkP x s).1 i).2.1==(gt (cH x.clock x.rises (tkP x s).1 i) (gt (tkP x s).1 i).1.toNat).1 with
    | false=>rfl
    | true=>
     refine(aN rfl).trans ?_;refine(aW hl).trans ?_
     by_cases h3:(gt (tkP x s).1 i).2.2.2.1>(gt (cH x.clock x.rises (tkP x s).1 i) (gt (tkP x s).1 i).1.toNat).2.1
     ·refine(aE h3).trans ?_;refine(aW hl).trans ?_;rw[decide_eq_true h3];rfl
     ·refine(aG h3).trans ?_;rw[decide_eq_false h3];rfl
  ·show c235_9 (aJ p n) aA x ((x,()),()) (((tkS x s,()),()),()) ((tkP x s,()),()) ((cA (tkP x s),()),()) rec (((tkP x s).1.length:Int),cH x.clock x.rises (tkP x s).1 (tkP x s).1.length)=_
   unfold c235_9;dsimp only;refine(aG (Int.lt_irrefl _)).trans ?_;rfl
 exact Ev.eq (fun aA=>by
  unfold T235;refine(aB (f81 x hz n (by omega))).trans ?_;refine(aB (f23 x hz n (by omega))).trans ?_;rw[(cN x).2 h];refine(aF rfl).trans ?_;refine(aB (f101 s (aO hs'.a) (aO hs'.b) n (by omega))).trans ?_;rw[hs];refine(aF rfl).trans ?_;refine(aB (f240 x.state s hz.state hs' n (by omega))).trans ?_;refine(aB (f223 (dI x.state s) hj n (by omega))).trans ?_
  refine(aB (f237 x.seen x.1 (dE (dI x.state s)) hz.seen hz.lines (Nat.le_trans (gY _) (by decide)) n (by omega))).trans ?_;refine(aB (f317 (dI x.state s) (tkS x s) hj ht.1 ht.2 n (by omega))).trans ?_;refine(aB (f103 (tkP x s) hp n (by omega))).trans ?_;rfl) (lp.ev (i:=()) rfl)
end Go.Abs.Xz
