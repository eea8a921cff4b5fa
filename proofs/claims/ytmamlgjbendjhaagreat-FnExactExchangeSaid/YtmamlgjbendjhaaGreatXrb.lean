/- What the functions of this program answer, part rb. -/
import Derived.Test.YtmamlgjbendjhaaGreatXra
set_option linter.unusedVariables false
open Go.IntKind (i64)
namespace Go.Abs.Xz
open Go Go.Abs
theorem f357(t:List cS)(id:Int)(h1:t.length≤aW)(h2:∀ i,i<t.length→(gt t i).1.length≤aW):Ran p 2 357 [.val false ⟨K34,(t,())⟩, .val false ⟨K3,(id,())⟩] ⟨[⟨K3,(fV t id,())⟩],[]⟩:=go357 fun n hn=>by
 have lp:It (fun aA (_:Unit)=>c357_5 (aG p n) aA t id) ((0:Int),(0:Int)) (fun _=>oI (fV t id)):=by
  refine cast ?_ (It.all (c:=fun aA (_:Unit)=>c357_5 (aG p n) aA t id) (rA:=fun _=>oI (d8 t id t.length)) (rB:=fun _=>oI 0) (fun i=>(d8 t id i,(i:Int))) t.length (iI t id) (fun i hi aA u rec=>?_) (It.stop fun aA u rec=>?_))
  ·congr 1;funext u;unfold fV;cases bW t.length (iI t id)<;>rfl
  ·show c357_5 (aG p n) aA t id rec (d8 t id i,(i:Int))=bif iI t id i then rec (d8 t id (i+1),((i+1:Nat):Int))else oI 0
   unfold c357_5 iI;dsimp only;rw[aJ (i63 hi h1)];refine(aE (Int.ofNat_lt.2 hi)).trans ?_;refine bif_nn.trans ?_;refine(aL hi).trans ?_;refine(aD (f211 id 0 (i64.wrap ((((gt t i).1.length:Nat):Int) - 1)) n (by omega))).trans ?_
   cases hb:inB id 0 (i64.wrap ((((gt t i).1.length:Nat):Int) - 1))with
   | false=>rfl
   | true=>
    obtain⟨hk,e⟩:=nP (h2 i hi) hb
    have hp:(0:Int)≤id:=by omega
    refine(aK rfl).trans ?_
    show _=rec (bif(i:Int)==0 then _ else bif decide ((gt (gt t i).1 id.toNat).1<d8 t id i)then _ else _,_)
    cases h0:(i:Int)==0 with
    | true=>refine(aO rfl).trans ?_;refine bif_nn.trans ?_;refine(aL hi).trans ?_;refine(aE hp).trans ?_;refine(aQ hk).trans ?_;rfl
    | false=>
     refine(aK rfl).trans ?_;refine bif_nn.trans ?_;refine(aL hi).trans ?_;refine(aE hp).trans ?_;refine(aQ hk).trans ?_
     by_cases hc:(gt (gt t i).1 id.toNat).1<d8 t id i
     ·refine(aE hc).trans ?_;refine bif_nn.trans ?_;refine(aL hi).trans ?_;refine(aE hp).trans ?_;refine(aQ hk).trans ?_;rw[decide_eq_true hc];rfl
     ·refine(aF hc).trans ?_;rw[decide_eq_false hc];rfl
  ·show c357_5 (aG p n) aA t id rec (d8 t id t.length,(t.length:Int))=_
   unfold c357_5;dsimp only;refine(aF (Int.lt_irrefl _)).trans ?_;rfl
 cases h0:((t.length:Nat):Int)==0 with
 | false=>exact Ev.eq (fun aA=>by unfold T357;exact aK h0) (lp.ev (i:=()) rfl)
 | true=>
  have e:fV t id=0:=by
   have:t=[]:=List.length_eq_zero_iff.1 (by have:=eq_of_beq h0;omega)
   rw[this];rfl
  exact Ev.now fun aA=>by rw[e];unfold T357;exact aO h0
theorem f354(t:List cS)(id:Int)(h1:t.length≤aW)(h2:∀ i,i<t.length→(gt t i).1.length≤aW):Ran p 2 354 [.val false ⟨K34,(t,())⟩, .val false ⟨K3,(id,())⟩] ⟨[⟨K3,(fV t id,())⟩],[]⟩:=go354 fun n hn=>by
 have lp:It (fun aA (_:Unit)=>c354_3 (aG p n) aA t id) ((0:Int),(0:Int)) (fun _=>oI (fV t id)):=by
  refine cast ?_ (It.all (c:=fun aA (_:Unit)=>c354_3 (aG p n) aA t id) (rA:=fun _=>oI (d8 t id t.length)) (rB:=fun _=>oI 0) (fun i=>(d8 t id i,(i:Int))) t.length (iI t id) (fun i hi aA u rec=>?_) (It.stop fun aA u rec=>?_))
  ·congr 1;funext u;unfold fV;cases bW t.length (iI t id)<;>rfl
  ·show c354_3 (aG p n) aA t id rec (d8 t id i,(i:Int))=bif iI t id i then rec (d8 t id (i+1),((i+1:Nat):Int))else oI 0
   unfold c354_3 iI;dsimp only;rw[aJ (i63 hi h1)];refine(aE (Int.ofNat_lt.2 hi)).trans ?_;refine bif_nn.trans ?_;refine(aL hi).trans ?_;refine(aD (f100 id 0 (i64.wrap ((((gt t i).1.length:Nat):Int) - 1)) n (by omega))).trans ?_
   cases hb:inB id 0 (i64.wrap ((((gt t i).1.length:Nat):Int) - 1))with
   | false=>rfl
   | true=>
    obtain⟨hk,e⟩:=nP (h2 i hi) hb
    have hp:(0:Int)≤id:=by omega
    refine(aK rfl).trans ?_
    show _=rec (bif(i:Int)==0 then _ else bif decide ((gt (gt t i).1 id.toNat).1<d8 t id i)then _ else _,_)
    cases h0:(i:Int)==0 with
    | true=>refine(aO rfl).trans ?_;refine(aE hp).trans ?_;refine(aQ hk).trans ?_;rfl
    | false=>
     refine(aK rfl).trans ?_;refine(aE hp).trans ?_;refine(aQ hk).trans ?_
     by_cases hc:(gt (gt t i).1 id.toNat).1<d8 t id i
     ·refine(aE hc).trans ?_;refine(aE hp).trans ?_;refine(aQ hk).trans ?_;rw[decide_eq_true hc];rfl
     ·refine(aF hc).trans ?_;rw[decide_eq_false hc];rfl
  ·show c354_3 (aG p n) aA t id rec (d8 t id t.length,(t.length:Int))=_
   unfold c354_3;dsimp only;refine(aF (Int.lt_irrefl _)).trans ?_;rfl
 exact Ev.eq (fun aA=>by unfold T354;rfl) (lp.ev (i:=()) rfl)
theorem A6(s:aM)(t:List cS):Pos (lC s t):=((bI _).1 (sG s t)).pos
theorem f325(s:aM)(t:List cS)(hz:SzS s)(h1:t.length≤aW)(h2:∀ i,i<t.length→(gt t i).1.length≤aW):Ran p 5 325 [.val true ⟨K27,s⟩, .val false ⟨K34,(t,())⟩] ⟨[⟨K27,kJ s t⟩],[]⟩:=go325 fun n hn=>by
 cases hs:aY s with
 | false=>exact Ev.now fun aA=>by unfold T325;refine(aD (f227 s (aS hz.a) (aS hz.b) n (by omega))).trans ?_;rw[hs];refine(aO rfl).trans ?_;refine(aD (f224 s hz n (by omega))).trans ?_;unfold kJ;rw[hs];rfl
 | true=>
  have lp:It (fun aA (_:Unit)=>c325_5 (aG p n) aA s t) ((0:Int),([]:List aV)) (fun _=>some ⟨[⟨K27,kJ s t⟩],[]⟩):=by
   refine It.accu (α:=aV) [] (fO s t) 5 1 (fun i _=>lT s t i) (fun i hi acc ha aA u rec=>?_) (It.stop fun aA u rec=>?_)
   ·show c325_5 (aG p n) aA s t rec ((i:Int),acc)=rec (((i+1:Nat):Int),acc++fO s t i)
    have hb:acc.length+1≤bound+(1 - (fO s t i).length):=by simp at ha;unfold bound;omega
    unfold c325_5 fO;dsimp only;rw[aJ (show i<9223372036854775807 by omega)];refine(aE (show(i:Int)<5 by omega)).trans ?_;refine(aD (f357 t (i:Int) h1 h2 n (by omega))).trans ?_;refine(aD (f316 s (i:Int) hz n (by omega))).trans ?_;refine(aD (f256 (fV t i) (gone s i) n (by omega))).trans ?_
    by_cases h:mxI false (fV t i) (gone s i)>0
    ·refine(aE h).trans ?_;refine(aE (by unfold fO at hb;rw[decide_eq_true h] at hb;exact hb)).trans ?_;rw[decide_eq_true h];rfl
    ·refine(aF h).trans ?_;rw[decide_eq_false h];show rec _=rec _;rw[show(bif false then[((i:Int),mxI false (fV t i) (gone s i),())] else[])=([]:List aV)from rfl,List.append_nil];rfl
   ·show c325_5 (aG p n) aA s t rec ((5:Int),bF 5 (fO s t))=_
    unfold c325_5;dsimp only;refine(aF (Int.lt_irrefl _)).trans ?_;refine(aD (f260 s (lC s t) hz (sF s t) ((bI s).1 hs).pos (A6 s t) n (by omega))).trans ?_;unfold kJ;rw[hs];rfl
  exact Ev.eq (fun aA=>by unfold T325;refine(aD (f227 s (aS hz.a) (aS hz.b) n (by omega))).trans ?_;rw[hs];rfl) (lp.ev (i:=()) rfl)
theorem f317(s:aM)(t:List cS)(hz:SzS s)(h1:t.length≤aW)(h2:∀ i,i<t.length→(gt t i).1.length≤aW):Ran p 6 317 [.val true ⟨K27,s⟩, .val false ⟨K34,(t,())⟩] ⟨[⟨K27,kJ s t⟩],[]⟩:=go317 fun n hn=>by
 cases hs:aY s with
 | false=>exact Ev.now fun aA=>by unfold T317;refine(aD (f101 s (aS hz.a) (aS hz.b) n (by omega))).trans ?_;rw[hs];refine(aO rfl).trans ?_;refine(aD (f220 s hz n (by omega))).trans ?_;unfold kJ;rw[hs];rfl
 | true=>
  have lp:It (fun aA (_:Unit)=>c317_5 (aG p n) aA s t) ((0:Int),([]:List aV)) (fun _=>some ⟨[⟨K27,kJ s t⟩],[]⟩):=by
   refine It.accu (α:=aV) [] (fO s t) 5 1 (fun i _=>lT s t i) (fun i hi acc ha aA u rec=>?_) (It.stop fun aA u rec=>?_)
   ·show c317_5 (aG p n) aA s t rec ((i:Int),acc)=rec (((i+1:Nat):Int),acc++fO s t i)
    have hb:acc.length+1≤bound+(1 - (fO s t i).length):=by simp at ha;unfold bound;omega
    unfold c317_5 fO;dsimp only;rw[aJ (show i<9223372036854775807 by omega)];refine(aE (show(i:Int)<5 by omega)).trans ?_;refine(aD (f354 t (i:Int) h1 h2 n (by omega))).trans ?_;refine(aD (f311 s (i:Int) hz n (by omega))).trans ?_
    by_cases h:mxI false (fV t i) (gone s i)>0
    ·refine(aE h).trans ?_;refine(aE (by unfold fO at hb;rw[decide_eq_true h] at hb;exact hb)).trans ?_;rw[decide_eq_true h];rfl
    ·refine(aF h).trans ?_;rw[decide_eq_false h];show rec _=rec _;rw[show(bif false then[((i:Int),mxI false (fV t i) (gone s i),())] else[])=([]:List aV)from rfl,List.append_nil];rfl
   ·show c317_5 (aG p n) aA s t rec ((5:Int),bF 5 (fO s t))=_
    unfold c317_5;dsimp only;refine(aF (Int.lt_irrefl _)).trans ?_;refine(aD (f240 s (lC s t) hz (sF s t) n (by omega))).trans ?_;unfold kJ;rw[hs];rfl
  exact Ev.eq (fun aA=>by unfold T317;refine(aD (f101 s (aS hz.a) (aS hz.b) n (by omega))).trans ?_;rw[hs];rfl) (lp.ev (i:=()) rfl)
-- taking
theorem DW{x:NodeT}(hz:SzN x)(s:aM):(tkS x s).length≤aW∧∀ i,i<(tkS x s).length→(gt (tkS x s) i).1.length≤aW:=⟨(kW hz s).seen,(kW hz s).lines⟩
structure TakeOk (x:NodeT):Prop where
 state:aY x.state=true
 rises:(((x.rises.length:Nat):Int)==5)=true
theorem AJ{x:NodeT}(h:NodeOk x):TakeOk x:=⟨h.state,h.rises⟩
theorem BP{x:NodeT}{s:aM}(h:TakeOk x)(hs:aY s=true){i:Nat}(hi:i<(tkP x s).1.length):0≤(gt (tkP x s).1 i).1∧(gt (tkP x s).1 i).1.toNat<(cP x.clock x.rises (tkP x s).1 i).length:=by
 have h1:=(((bI (tkP x s)).1 (y4 (p5 h.state hs) (tkS x s))).item _ (dZ hi)).1
 unfold fP at h1;rw[bH] at h1
 have h2:=eq_of_beq h.rises
 rw[gU];omega
theorem yS(c:Int)(rs:List kN)(xs:List cB)(i:Nat):cP c rs xs (i+1)=bif vY (gt (cP c rs xs i) (gt xs i).1.toNat) (gt xs i).2 then(cP c rs xs i).set (gt xs i).1.toNat ((gt xs i).2.1,(gt xs i).2.2.2.1,c,())else cP c rs xs i:=by
 show(cP c rs xs i).set _ (uB c _ _)=_
 unfold uB
 cases vY (gt (cP c rs xs i) (gt xs i).1.toNat) (gt xs i).2 with
 | true=>rfl
 | false=>exact xM
theorem f254(x:NodeT)(s:aM)(hz:SzN x)(hs':SzS s)(h:TakeOk x)(hs:aY s=true):Ran p 7 254 [.val true ⟨K38,x⟩, .val true ⟨K27,s⟩] ⟨[⟨K38,mL x s⟩],[]⟩:=go254 fun n hn=>by
 have hj:=j8 x.state s
 have ht:=DW hz s
 have hp:=AG x s
 have lp:It (fun aA (_:Unit)=>c254_7 (aG p n) aA x ((x,()),()) (((tkS x s,()),()),()) ((tkP x s,()),()) ((cZ (tkP x s),()),())) ((0:Int),x.rises) (fun _=>some ⟨[⟨K38,mL x s⟩],[]⟩):=by
  refine It.run (fun i=>((i:Int),cP x.clock x.rises (tkP x s).1 i)) (tkP x s).1.length (fun i hi aA u rec=>?_) (It.stop fun aA u rec=>?_)
  ·show c254_7 (aG p n) aA x ((x,()),()) (((tkS x s,()),()),()) ((tkP x s,()),()) ((cZ (tkP x s),()),()) rec ((i:Int),cP x.clock x.rises (tkP x s).1 i)=rec (((i+1:Nat):Int),cP x.clock x.rises (tkP x s).1 (i+1))
   obtain⟨h0,hl⟩:=BP h hs hi
   unfold c254_7;dsimp only;rw[aJ (i63 hi hp.a),yS];unfold vY;refine(aE (Int.ofNat_lt.2 hi)).trans ?_;refine bif_nn.trans ?_;refine(aL hi).trans ?_;refine(aL hi).trans ?_;refine(aE h0).trans ?_;refine(aQ hl).trans ?_;refine(aQ hl).trans ?_
   by_cases h1:(gt (tkP x s).1 i).2.1>(gt (cP x.clock x.rises (tkP x s).1 i) (gt (tkP x s).1 i).1.toNat).1
   ·refine(aE h1).trans ?_;refine(aE h0).trans ?_;refine(aQ hl).trans ?_;refine(aQ hl).trans ?_;rw[decide_eq_true h1];rfl
   ·refine(aF h1).trans ?_;rw[decide_eq_false h1]
    cases h2:(gt (tkP x s).1 i).2.1==(gt (cP x.clock x.rises (tkP x s).1 i) (gt (tkP x s).1 i).1.toNat).1 with
    | false=>rfl
    | true=>
     refine(aO rfl).trans ?_
     by_cases h3:(gt (tkP x s).1 i).2.2.2.1>(gt (cP x.clock x.rises (tkP x s).1 i) (gt (tkP x s).1 i).1.toNat).2.1
     ·refine(aE h3).trans ?_;refine(aE h0).trans ?_;refine(aQ hl).trans ?_;refine(aQ hl).trans ?_;rw[decide_eq_true h3];rfl
     ·refine(aF h3).trans ?_;rw[decide_eq_false h3];rfl
  ·show c254_7 (aG p n) aA x ((x,()),()) (((tkS x s,()),()),()) ((tkP x s,()),()) ((cZ (tkP x s),()),()) rec (((tkP x s).1.length:Int),cP x.clock x.rises (tkP x s).1 (tkP x s).1.length)=_
   unfold c254_7;dsimp only;refine(aF (Int.lt_irrefl _)).trans ?_;rfl
 exact Ev.eq (fun aA=>by
  unfold T254;refine(aD (f85 x hz n (by omega))).trans ?_;refine(aD (f260 x.state s hz.state hs' ((bI _).1 h.state).pos ((bI _).1 hs).pos n (by omega))).trans ?_;refine(aD (f234 (eH x.state s) hj n (by omega))).trans ?_
  refine(aD (f257 x.seen x.1 (fI (eH x.state s)) hz.seen hz.lines (Nat.le_trans (gY _) (by decide)) n (by omega))).trans ?_;refine(aD (f325 (eH x.state s) (tkS x s) hj ht.1 ht.2 n (by omega))).trans ?_;refine(aD (f228 (tkP x s) hp n (by omega))).trans ?_;rfl) (lp.ev (i:=()) rfl)
theorem f235(x:NodeT)(s:aM)(hz:SzN x)(hs':SzS s)(h:NodeOk x)(hs:aY s=true):Ran p 8 235 [.val true ⟨K38,x⟩, .val true ⟨K27,s⟩] ⟨[⟨K38,mL x s⟩,⟨K4,(true,())⟩],[]⟩:=go235 fun n hn=>by
 have hj:=j8 x.state s
 have ht:=DW hz s
 have hp:=AG x s
 have lp:It (fun aA (_:Unit)=>c235_9 (aG p n) aA x ((x,()),()) (((tkS x s,()),()),()) ((tkP x s,()),()) ((cZ (tkP x s),()),())) ((0:Int),x.rises) (fun _=>some ⟨[⟨K38,mL x s⟩,⟨K4,(true,())⟩],[]⟩):=by
  refine It.run (fun i=>((i:Int),cP x.clock x.rises (tkP x s).1 i)) (tkP x s).1.length (fun i hi aA u rec=>?_) (It.stop fun aA u rec=>?_)
  ·show c235_9 (aG p n) aA x ((x,()),()) (((tkS x s,()),()),()) ((tkP x s,()),()) ((cZ (tkP x s),()),()) rec ((i:Int),cP x.clock x.rises (tkP x s).1 i)=rec (((i+1:Nat):Int),cP x.clock x.rises (tkP x s).1 (i+1))
   obtain⟨h0,hl⟩:=BP (AJ h) hs hi
   unfold c235_9;dsimp only;rw[aJ (i63 hi hp.a),yS];unfold vY;refine(aE (Int.ofNat_lt.2 hi)).trans ?_;refine bif_nn.trans ?_;refine(aL hi).trans ?_;refine(aL hi).trans ?_;refine(aE h0).trans ?_;refine(aQ hl).trans ?_;refine(aQ hl).trans ?_
   by_cases h1:(gt (tkP x s).1 i).2.1>(gt (cP x.clock x.rises (tkP x s).1 i) (gt (tkP x s).1 i).1.toNat).1
   ·refine(aE h1).trans ?_;refine(aQ hl).trans ?_;rw[decide_eq_true h1];rfl
   ·refine(aF h1).trans ?_;refine(aQ hl).trans ?_;rw[decide_eq_false h1]
    cases h2:(gt (tkP x s).1 i).2.1==(gt (cP x.clock x.rises (tkP x s).1 i) (gt (tkP x s).1 i).1.toNat).1 with
    | false=>rfl
    | true=>
     refine(aO rfl).trans ?_;refine(aQ hl).trans ?_
     by_cases h3:(gt (tkP x s).1 i).2.2.2.1>(gt (cP x.clock x.rises (tkP x s).1 i) (gt (tkP x s).1 i).1.toNat).2.1
     ·refine(aE h3).trans ?_;refine(aQ hl).trans ?_;rw[decide_eq_true h3];rfl
     ·refine(aF h3).trans ?_;rw[decide_eq_false h3];rfl
  ·show c235_9 (aG p n) aA x ((x,()),()) (((tkS x s,()),()),()) ((tkP x s,()),()) ((cZ (tkP x s),()),()) rec (((tkP x s).1.length:Int),cP x.clock x.rises (tkP x s).1 (tkP x s).1.length)=_
   unfold c235_9;dsimp only;refine(aF (Int.lt_irrefl _)).trans ?_;rfl
 exact Ev.eq (fun aA=>by
  unfold T235;refine(aD (f81 x hz n (by omega))).trans ?_;refine(aD (f23 x hz n (by omega))).trans ?_;rw[(iP x).2 h];refine(aK rfl).trans ?_;refine(aD (f101 s (aS hs'.a) (aS hs'.b) n (by omega))).trans ?_;rw[hs];refine(aK rfl).trans ?_;refine(aD (f240 x.state s hz.state hs' n (by omega))).trans ?_;refine(aD (f223 (eH x.state s) hj n (by omega))).trans ?_
  refine(aD (f237 x.seen x.1 (fI (eH x.state s)) hz.seen hz.lines (Nat.le_trans (gY _) (by decide)) n (by omega))).trans ?_;refine(aD (f317 (eH x.state s) (tkS x s) hj ht.1 ht.2 n (by omega))).trans ?_;refine(aD (f103 (tkP x s) hp n (by omega))).trans ?_;rfl) (lp.ev (i:=()) rfl)
end Go.Abs.Xz
