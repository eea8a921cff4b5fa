/- What the functions of this program answer, part rb. -/
import Derived.Test.YtmamlgjbendjhaaGreatXra
set_option linter.unusedVariables false
namespace Go.Abs.Xz
open Go Go.Abs
theorem f357(t:List cS)(id:Int)(h1:t.length≤bA)(h2:∀ i,i<t.length→(gt t i).1.length≤bA):Ran p 2 357 [.val false ⟨K34,(t,())⟩, .val false ⟨K3,(id,())⟩] ⟨[⟨K3,(fI t id,())⟩],[]⟩:=go357 fun n hn=>by
 have lp:It (fun aA (_:Unit)=>c357_5 (aG p n) aA t id) ((0:Int),(0:Int)) (fun _=>oI (fI t id)):=by
  refine cast ?_ (It.all (c:=fun aA (_:Unit)=>c357_5 (aG p n) aA t id) (rA:=fun _=>oI (dV t id t.length)) (rB:=fun _=>oI 0) (fun i=>(dV t id i,(i:Int))) t.length (gT t id) (fun i hi aA u rec=>?_) (It.stop fun aA u rec=>?_))
  ·congr 1;funext u;unfold fI;cases cD t.length (gT t id)<;>rfl
  ·show c357_5 (aG p n) aA t id rec (dV t id i,(i:Int))=bif gT t id i then rec (dV t id (i+1),((i+1:Nat):Int))else oI 0
   unfold c357_5 gT;dsimp only;rw[aJ (i63 hi h1)];refine(aF (Int.ofNat_lt.2 hi)).trans ?_;refine(aF (Int.natCast_nonneg _)).trans ?_;refine(aM hi).trans ?_;refine(aD (f211 id 0 (IntKind.i64.wrap ((((gt t i).1.length:Nat):Int) - 1)) n (by omega))).trans ?_
   cases hb:inB id 0 (IntKind.i64.wrap ((((gt t i).1.length:Nat):Int) - 1))with
   | false=>rfl
   | true=>
    obtain⟨hk,e⟩:=m9 (h2 i hi) hb
    have hp:(0:Int)≤id:=by omega
    refine(aN rfl).trans ?_
    show _=rec (bif(i:Int)==0 then _ else bif decide ((gt (gt t i).1 id.toNat).1<dV t id i)then _ else _,_)
    cases h0:(i:Int)==0 with
    | true=>refine(aX rfl).trans ?_;refine(aF (Int.natCast_nonneg _)).trans ?_;refine(aM hi).trans ?_;refine(aF hp).trans ?_;refine(bD hk).trans ?_;rfl
    | false=>
     refine(aN rfl).trans ?_;refine(aF (Int.natCast_nonneg _)).trans ?_;refine(aM hi).trans ?_;refine(aF hp).trans ?_;refine(bD hk).trans ?_
     by_cases hc:(gt (gt t i).1 id.toNat).1<dV t id i
     ·refine(aF hc).trans ?_;refine(aF (Int.natCast_nonneg _)).trans ?_;refine(aM hi).trans ?_;refine(aF hp).trans ?_;refine(bD hk).trans ?_;rw[decide_eq_true hc];rfl
     ·refine(aH hc).trans ?_;rw[decide_eq_false hc];rfl
  ·show c357_5 (aG p n) aA t id rec (dV t id t.length,(t.length:Int))=_
   unfold c357_5;dsimp only;refine(aH (Int.lt_irrefl _)).trans ?_;rfl
 cases h0:((t.length:Nat):Int)==0 with
 | false=>exact Ev.eq (fun aA=>by unfold T357;exact aN h0) (lp.ev (i:=()) rfl)
 | true=>
  have e:fI t id=0:=by
   have:t=[]:=List.length_eq_zero_iff.1 (by have:=eq_of_beq h0;omega)
   rw[this];rfl
  exact Ev.now fun aA=>by rw[e];unfold T357;exact aX h0
theorem f354(t:List cS)(id:Int)(h1:t.length≤bA)(h2:∀ i,i<t.length→(gt t i).1.length≤bA):Ran p 2 354 [.val false ⟨K34,(t,())⟩, .val false ⟨K3,(id,())⟩] ⟨[⟨K3,(fI t id,())⟩],[]⟩:=go354 fun n hn=>by
 have lp:It (fun aA (_:Unit)=>c354_3 (aG p n) aA t id) ((0:Int),(0:Int)) (fun _=>oI (fI t id)):=by
  refine cast ?_ (It.all (c:=fun aA (_:Unit)=>c354_3 (aG p n) aA t id) (rA:=fun _=>oI (dV t id t.length)) (rB:=fun _=>oI 0) (fun i=>(dV t id i,(i:Int))) t.length (gT t id) (fun i hi aA u rec=>?_) (It.stop fun aA u rec=>?_))
  ·congr 1;funext u;unfold fI;cases cD t.length (gT t id)<;>rfl
  ·show c354_3 (aG p n) aA t id rec (dV t id i,(i:Int))=bif gT t id i then rec (dV t id (i+1),((i+1:Nat):Int))else oI 0
   unfold c354_3 gT;dsimp only;rw[aJ (i63 hi h1)];refine(aF (Int.ofNat_lt.2 hi)).trans ?_;refine(aF (Int.natCast_nonneg _)).trans ?_;refine(aM hi).trans ?_;refine(aD (f100 id 0 (IntKind.i64.wrap ((((gt t i).1.length:Nat):Int) - 1)) n (by omega))).trans ?_
   cases hb:inB id 0 (IntKind.i64.wrap ((((gt t i).1.length:Nat):Int) - 1))with
   | false=>rfl
   | true=>
    obtain⟨hk,e⟩:=m9 (h2 i hi) hb
    have hp:(0:Int)≤id:=by omega
    refine(aN rfl).trans ?_
    show _=rec (bif(i:Int)==0 then _ else bif decide ((gt (gt t i).1 id.toNat).1<dV t id i)then _ else _,_)
    cases h0:(i:Int)==0 with
    | true=>refine(aX rfl).trans ?_;refine(aF hp).trans ?_;refine(bD hk).trans ?_;rfl
    | false=>
     refine(aN rfl).trans ?_;refine(aF hp).trans ?_;refine(bD hk).trans ?_
     by_cases hc:(gt (gt t i).1 id.toNat).1<dV t id i
     ·refine(aF hc).trans ?_;refine(aF hp).trans ?_;refine(bD hk).trans ?_;rw[decide_eq_true hc];rfl
     ·refine(aH hc).trans ?_;rw[decide_eq_false hc];rfl
  ·show c354_3 (aG p n) aA t id rec (dV t id t.length,(t.length:Int))=_
   unfold c354_3;dsimp only;refine(aH (Int.lt_irrefl _)).trans ?_;rfl
 exact Ev.eq (fun aA=>by unfold T354;rfl) (lp.ev (i:=()) rfl)
theorem zL(s:aO)(t:List cS):Pos (kO s t):=((bI _).1 (rJ s t)).pos
theorem f325(s:aO)(t:List cS)(hz:SzS s)(h1:t.length≤bA)(h2:∀ i,i<t.length→(gt t i).1.length≤bA):Ran p 5 325 [.val true ⟨K27,s⟩, .val false ⟨K34,(t,())⟩] ⟨[⟨K27,jX s t⟩],[]⟩:=go325 fun n hn=>by
 cases hs:aZ s with
 | false=>exact Ev.now fun aA=>by unfold T325;refine(aD (f227 s (aW hz.a) (aW hz.b) n (by omega))).trans ?_;rw[hs];refine(aX rfl).trans ?_;refine(aD (f224 s hz n (by omega))).trans ?_;unfold jX;rw[hs];rfl
 | true=>
  have lp:It (fun aA (_:Unit)=>c325_5 (aG p n) aA s t) ((0:Int),([]:List aY)) (fun _=>some ⟨[⟨K27,jX s t⟩],[]⟩):=by
   refine It.accu (α:=aY) [] (fB s t) 5 1 (fun i _=>lB s t i) (fun i hi acc ha aA u rec=>?_) (It.stop fun aA u rec=>?_)
   ·show c325_5 (aG p n) aA s t rec ((i:Int),acc)=rec (((i+1:Nat):Int),acc++fB s t i)
    have hb:acc.length+1≤bound+(1 - (fB s t i).length):=by simp at ha;unfold bound;omega
    unfold c325_5 fB;dsimp only;rw[aJ (show i<9223372036854775807 by omega)];refine(aF (show(i:Int)<5 by omega)).trans ?_;refine(aD (f357 t (i:Int) h1 h2 n (by omega))).trans ?_;refine(aD (f316 s (i:Int) hz n (by omega))).trans ?_;refine(aD (f256 (fI t i) (gone s i) n (by omega))).trans ?_
    by_cases h:mxI false (fI t i) (gone s i)>0
    ·refine(aF h).trans ?_;refine(aF (by unfold fB at hb;rw[decide_eq_true h] at hb;exact hb)).trans ?_;rw[decide_eq_true h];rfl
    ·refine(aH h).trans ?_;rw[decide_eq_false h];show rec _=rec _;rw[show(bif false then[((i:Int),mxI false (fI t i) (gone s i),())] else[])=([]:List aY)from rfl,List.append_nil];rfl
   ·show c325_5 (aG p n) aA s t rec ((5:Int),bH 5 (fB s t))=_
    unfold c325_5;dsimp only;refine(aH (Int.lt_irrefl _)).trans ?_;refine(aD (f260 s (kO s t) hz (rI s t) ((bI s).1 hs).pos (zL s t) n (by omega))).trans ?_;unfold jX;rw[hs];rfl
  exact Ev.eq (fun aA=>by unfold T325;refine(aD (f227 s (aW hz.a) (aW hz.b) n (by omega))).trans ?_;rw[hs];rfl) (lp.ev (i:=()) rfl)
theorem f317(s:aO)(t:List cS)(hz:SzS s)(h1:t.length≤bA)(h2:∀ i,i<t.length→(gt t i).1.length≤bA):Ran p 6 317 [.val true ⟨K27,s⟩, .val false ⟨K34,(t,())⟩] ⟨[⟨K27,jX s t⟩],[]⟩:=go317 fun n hn=>by
 cases hs:aZ s with
 | false=>exact Ev.now fun aA=>by unfold T317;refine(aD (f101 s (aW hz.a) (aW hz.b) n (by omega))).trans ?_;rw[hs];refine(aX rfl).trans ?_;refine(aD (f220 s hz n (by omega))).trans ?_;unfold jX;rw[hs];rfl
 | true=>
  have lp:It (fun aA (_:Unit)=>c317_5 (aG p n) aA s t) ((0:Int),([]:List aY)) (fun _=>some ⟨[⟨K27,jX s t⟩],[]⟩):=by
   refine It.accu (α:=aY) [] (fB s t) 5 1 (fun i _=>lB s t i) (fun i hi acc ha aA u rec=>?_) (It.stop fun aA u rec=>?_)
   ·show c317_5 (aG p n) aA s t rec ((i:Int),acc)=rec (((i+1:Nat):Int),acc++fB s t i)
    have hb:acc.length+1≤bound+(1 - (fB s t i).length):=by simp at ha;unfold bound;omega
    unfold c317_5 fB;dsimp only;rw[aJ (show i<9223372036854775807 by omega)];refine(aF (show(i:Int)<5 by omega)).trans ?_;refine(aD (f354 t (i:Int) h1 h2 n (by omega))).trans ?_;refine(aD (f311 s (i:Int) hz n (by omega))).trans ?_
    by_cases h:mxI false (fI t i) (gone s i)>0
    ·refine(aF h).trans ?_;refine(aF (by unfold fB at hb;rw[decide_eq_true h] at hb;exact hb)).trans ?_;rw[decide_eq_true h];rfl
    ·refine(aH h).trans ?_;rw[decide_eq_false h];show rec _=rec _;rw[show(bif false then[((i:Int),mxI false (fI t i) (gone s i),())] else[])=([]:List aY)from rfl,List.append_nil];rfl
   ·show c317_5 (aG p n) aA s t rec ((5:Int),bH 5 (fB s t))=_
    unfold c317_5;dsimp only;refine(aH (Int.lt_irrefl _)).trans ?_;refine(aD (f240 s (kO s t) hz (rI s t) n (by omega))).trans ?_;unfold jX;rw[hs];rfl
  exact Ev.eq (fun aA=>by unfold T317;refine(aD (f101 s (aW hz.a) (aW hz.b) n (by omega))).trans ?_;rw[hs];rfl) (lp.ev (i:=()) rfl)
-- taking
theorem CE{x:NodeT}(hz:SzN x)(s:aO):(tkS x s).length≤bA∧∀ i,i<(tkS x s).length→(gt (tkS x s) i).1.length≤bA:=⟨(kH hz s).seen,(kH hz s).lines⟩
theorem AC{x:NodeT}{s:aO}(h:NodeOk x)(hs:aZ s=true){i:Nat}(hi:i<(tkP x s).1.length):0≤(gt (tkP x s).1 i).1∧(gt (tkP x s).1 i).1.toNat<(cP x.clock x.rises (tkP x s).1 i).length:=by
 have h1:=(((bI _).1 (yY h hs)).item _ (dX hi)).1
 unfold fC at h1;rw[bV] at h1
 have h2:=eq_of_beq h.rises
 rw[gH];omega
theorem xP(c:Int)(rs:List j7)(xs:List cE)(i:Nat):cP c rs xs (i+1)=bif uZ (gt (cP c rs xs i) (gt xs i).1.toNat) (gt xs i).2 then(cP c rs xs i).set (gt xs i).1.toNat ((gt xs i).2.1,(gt xs i).2.2.2.1,c,())else cP c rs xs i:=by
 show(cP c rs xs i).set _ (tA c _ _)=_
 unfold tA
 cases uZ (gt (cP c rs xs i) (gt xs i).1.toNat) (gt xs i).2 with
 | true=>rfl
 | false=>exact wG
theorem f254(x:NodeT)(s:aO)(hz:SzN x)(hs':SzS s)(h:NodeOk x)(hs:aZ s=true):Ran p 7 254 [.val true ⟨K38,x⟩, .val true ⟨K27,s⟩] ⟨[⟨K38,lX x s⟩],[]⟩:=go254 fun n hn=>by
 have hj:=jL x.state s
 have ht:=CE hz s
 have hp:=yX x s
 have lp:It (fun aA (_:Unit)=>c254_7 (aG p n) aA x ((x,()),()) (((tkS x s,()),()),()) ((tkP x s,()),()) ((cW (tkP x s),()),())) ((0:Int),x.rises) (fun _=>some ⟨[⟨K38,lX x s⟩],[]⟩):=by
  refine It.run (fun i=>((i:Int),cP x.clock x.rises (tkP x s).1 i)) (tkP x s).1.length (fun i hi aA u rec=>?_) (It.stop fun aA u rec=>?_)
  ·show c254_7 (aG p n) aA x ((x,()),()) (((tkS x s,()),()),()) ((tkP x s,()),()) ((cW (tkP x s),()),()) rec ((i:Int),cP x.clock x.rises (tkP x s).1 i)=rec (((i+1:Nat):Int),cP x.clock x.rises (tkP x s).1 (i+1))
   obtain⟨h0,hl⟩:=AC h hs hi
   unfold c254_7;dsimp only;rw[aJ (i63 hi hp.a),xP];unfold uZ;refine(aF (Int.ofNat_lt.2 hi)).trans ?_;refine(aF (Int.natCast_nonneg _)).trans ?_;refine(aM hi).trans ?_;refine(aM hi).trans ?_;refine(aF h0).trans ?_;refine(bD hl).trans ?_;refine(bD hl).trans ?_
   by_cases h1:(gt (tkP x s).1 i).2.1>(gt (cP x.clock x.rises (tkP x s).1 i) (gt (tkP x s).1 i).1.toNat).1
   ·refine(aF h1).trans ?_;refine(aF h0).trans ?_;refine(bD hl).trans ?_;refine(bD hl).trans ?_;rw[decide_eq_true h1];rfl
   ·refine(aH h1).trans ?_;rw[decide_eq_false h1]
    cases h2:(gt (tkP x s).1 i).2.1==(gt (cP x.clock x.rises (tkP x s).1 i) (gt (tkP x s).1 i).1.toNat).1 with
    | false=>rfl
    | true=>
     refine(aX rfl).trans ?_
     by_cases h3:(gt (tkP x s).1 i).2.2.2.1>(gt (cP x.clock x.rises (tkP x s).1 i) (gt (tkP x s).1 i).1.toNat).2.1
     ·refine(aF h3).trans ?_;refine(aF h0).trans ?_;refine(bD hl).trans ?_;refine(bD hl).trans ?_;rw[decide_eq_true h3];rfl
     ·refine(aH h3).trans ?_;rw[decide_eq_false h3];rfl
  ·show c254_7 (aG p n) aA x ((x,()),()) (((tkS x s,()),()),()) ((tkP x s,()),()) ((cW (tkP x s),()),()) rec (((tkP x s).1.length:Int),cP x.clock x.rises (tkP x s).1 (tkP x s).1.length)=_
   unfold c254_7;dsimp only;refine(aH (Int.lt_irrefl _)).trans ?_;rfl
 exact Ev.eq (fun aA=>by
  unfold T254;refine(aD (f85 x hz n (by omega))).trans ?_;refine(aD (f260 x.state s hz.state hs' ((bI _).1 h.state).pos ((bI _).1 hs).pos n (by omega))).trans ?_;refine(aD (f234 (eA x.state s) hj n (by omega))).trans ?_
  refine(aD (f257 x.seen x.1 (fM (eA x.state s)) hz.seen hz.lines (Nat.le_trans (iK _) (by decide)) n (by omega))).trans ?_;refine(aD (f325 (eA x.state s) (tkS x s) hj ht.1 ht.2 n (by omega))).trans ?_;refine(aD (f228 (tkP x s) hp n (by omega))).trans ?_;rfl) (lp.ev (i:=()) rfl)
theorem f235(x:NodeT)(s:aO)(hz:SzN x)(hs':SzS s)(h:NodeOk x)(hs:aZ s=true):Ran p 8 235 [.val true ⟨K38,x⟩, .val true ⟨K27,s⟩] ⟨[⟨K38,lX x s⟩,⟨K4,(true,())⟩],[]⟩:=go235 fun n hn=>by
 have hj:=jL x.state s
 have ht:=CE hz s
 have hp:=yX x s
 have lp:It (fun aA (_:Unit)=>c235_9 (aG p n) aA x ((x,()),()) (((tkS x s,()),()),()) ((tkP x s,()),()) ((cW (tkP x s),()),())) ((0:Int),x.rises) (fun _=>some ⟨[⟨K38,lX x s⟩,⟨K4,(true,())⟩],[]⟩):=by
  refine It.run (fun i=>((i:Int),cP x.clock x.rises (tkP x s).1 i)) (tkP x s).1.length (fun i hi aA u rec=>?_) (It.stop fun aA u rec=>?_)
  ·show c235_9 (aG p n) aA x ((x,()),()) (((tkS x s,()),()),()) ((tkP x s,()),()) ((cW (tkP x s),()),()) rec ((i:Int),cP x.clock x.rises (tkP x s).1 i)=rec (((i+1:Nat):Int),cP x.clock x.rises (tkP x s).1 (i+1))
   obtain⟨h0,hl⟩:=AC h hs hi
   unfold c235_9;dsimp only;rw[aJ (i63 hi hp.a),xP];unfold uZ;refine(aF (Int.ofNat_lt.2 hi)).trans ?_;refine(aF (Int.natCast_nonneg _)).trans ?_;refine(aM hi).trans ?_;refine(aM hi).trans ?_;refine(aF h0).trans ?_;refine(bD hl).trans ?_;refine(bD hl).trans ?_
   by_cases h1:(gt (tkP x s).1 i).2.1>(gt (cP x.clock x.rises (tkP x s).1 i) (gt (tkP x s).1 i).1.toNat).1
   ·refine(aF h1).trans ?_;refine(bD hl).trans ?_;rw[decide_eq_true h1];rfl
   ·refine(aH h1).trans ?_;refine(bD hl).trans ?_;rw[decide_eq_false h1]
    cases h2:(gt (tkP x s).1 i).2.1==(gt (cP x.clock x.rises (tkP x s).1 i) (gt (tkP x s).1 i).1.toNat).1 with
    | false=>rfl
    | true=>
     refine(aX rfl).trans ?_;refine(bD hl).trans ?_
     by_cases h3:(gt (tkP x s).1 i).2.2.2.1>(gt (cP x.clock x.rises (tkP x s).1 i) (gt (tkP x s).1 i).1.toNat).2.1
     ·refine(aF h3).trans ?_;refine(bD hl).trans ?_;rw[decide_eq_true h3];rfl
     ·refine(aH h3).trans ?_;rw[decide_eq_false h3];rfl
  ·show c235_9 (aG p n) aA x ((x,()),()) (((tkS x s,()),()),()) ((tkP x s,()),()) ((cW (tkP x s),()),()) rec (((tkP x s).1.length:Int),cP x.clock x.rises (tkP x s).1 (tkP x s).1.length)=_
   unfold c235_9;dsimp only;refine(aH (Int.lt_irrefl _)).trans ?_;rfl
 exact Ev.eq (fun aA=>by
  unfold T235;refine(aD (f81 x hz n (by omega))).trans ?_;refine(aD (f23 x hz n (by omega))).trans ?_;rw[(nQ x).2 h];refine(aN rfl).trans ?_;refine(aD (f101 s (aW hs'.a) (aW hs'.b) n (by omega))).trans ?_;rw[hs];refine(aN rfl).trans ?_;refine(aD (f240 x.state s hz.state hs' n (by omega))).trans ?_;refine(aD (f223 (eA x.state s) hj n (by omega))).trans ?_
  refine(aD (f237 x.seen x.1 (fM (eA x.state s)) hz.seen hz.lines (Nat.le_trans (iK _) (by decide)) n (by omega))).trans ?_;refine(aD (f317 (eA x.state s) (tkS x s) hj ht.1 ht.2 n (by omega))).trans ?_;refine(aD (f103 (tkP x s) hp n (by omega))).trans ?_;rfl) (lp.ev (i:=()) rfl)
end Go.Abs.Xz
