/- What the functions of this program answer, part rb. -/
import Derived.Test.YtmamlgjbendjhaaGreatXra
set_option linter.unusedVariables false
open Go.IntKind (i64)
namespace Go.Abs.Xz
open Go Go.Abs
theorem f357(t:List bQ)(id:Int)(h1:t.length≤aU)(h2:∀ i,i<t.length→(gt t i).1.length≤aU):Ran p 2 357 [.val false ⟨K34,(t,())⟩, .val false ⟨K3,(id,())⟩] ⟨[⟨K3,(dW t id,())⟩],[]⟩:=go357 fun n hn=>by
 have lp:It (fun aA (_:Unit)=>c357_5 (aK p n) aA t id) ((0:Int),(0:Int)) (fun _=>oI (dW t id)):=by
  refine cast ?_ (It.all (c:=fun aA (_:Unit)=>c357_5 (aK p n) aA t id) (rA:=fun _=>oI (eP t id t.length)) (rB:=fun _=>oI 0) (fun i=>(eP t id i,(i:Int))) t.length (iL t id) (fun i hi aA u rec=>?_) (It.stop fun aA u rec=>?_))
  ·congr 1;funext u;unfold dW;cases bI t.length (iL t id)<;>rfl
  ·show c357_5 (aK p n) aA t id rec (eP t id i,(i:Int))=bif iL t id i then rec (eP t id (i+1),((i+1:Nat):Int))else oI 0
   unfold c357_5 iL;dsimp only;rw[aL (i63 hi h1)];refine(aE (Int.ofNat_lt.2 hi)).trans ?_;refine bif_nn.trans ?_;refine(aJ hi).trans ?_;refine(aB (f211 id 0 (i64.wrap ((((gt t i).1.length:Nat):Int) - 1)) n (by omega))).trans ?_
   cases hb:inB id 0 (i64.wrap ((((gt t i).1.length:Nat):Int) - 1))with
   | false=>rfl
   | true=>
    obtain⟨hk,e⟩:=kO (h2 i hi) hb
    have hp:(0:Int)≤id:=by omega
    refine(aF rfl).trans ?_
    show _=rec (bif(i:Int)==0 then _ else bif decide ((gt (gt t i).1 id.toNat).1<eP t id i)then _ else _,_)
    cases h0:(i:Int)==0 with
    | true=>refine(aN rfl).trans ?_;refine bif_nn.trans ?_;refine(aJ hi).trans ?_;refine(aE hp).trans ?_;refine(aZ hk).trans ?_;rfl
    | false=>
     refine(aF rfl).trans ?_;refine bif_nn.trans ?_;refine(aJ hi).trans ?_;refine(aE hp).trans ?_;refine(aZ hk).trans ?_
     by_cases hc:(gt (gt t i).1 id.toNat).1<eP t id i
     ·refine(aE hc).trans ?_;refine bif_nn.trans ?_;refine(aJ hi).trans ?_;refine(aE hp).trans ?_;refine(aZ hk).trans ?_;rw[decide_eq_true hc];rfl
     ·refine(aI hc).trans ?_;rw[decide_eq_false hc];rfl
  ·show c357_5 (aK p n) aA t id rec (eP t id t.length,(t.length:Int))=_
   unfold c357_5;dsimp only;refine(aI (Int.lt_irrefl _)).trans ?_;rfl
 cases h0:((t.length:Nat):Int)==0 with
 | false=>exact Ev.eq (fun aA=>by unfold T357;exact aF h0) (lp.ev (i:=()) rfl)
 | true=>
  have e:dW t id=0:=by
   have:t=[]:=List.length_eq_zero_iff.1 (by have:=eq_of_beq h0;omega)
   rw[this];rfl
  exact Ev.now fun aA=>by rw[e];unfold T357;exact aN h0
theorem f354(t:List bQ)(id:Int)(h1:t.length≤aU)(h2:∀ i,i<t.length→(gt t i).1.length≤aU):Ran p 2 354 [.val false ⟨K34,(t,())⟩, .val false ⟨K3,(id,())⟩] ⟨[⟨K3,(dW t id,())⟩],[]⟩:=go354 fun n hn=>by
 have lp:It (fun aA (_:Unit)=>c354_3 (aK p n) aA t id) ((0:Int),(0:Int)) (fun _=>oI (dW t id)):=by
  refine cast ?_ (It.all (c:=fun aA (_:Unit)=>c354_3 (aK p n) aA t id) (rA:=fun _=>oI (eP t id t.length)) (rB:=fun _=>oI 0) (fun i=>(eP t id i,(i:Int))) t.length (iL t id) (fun i hi aA u rec=>?_) (It.stop fun aA u rec=>?_))
  ·congr 1;funext u;unfold dW;cases bI t.length (iL t id)<;>rfl
  ·show c354_3 (aK p n) aA t id rec (eP t id i,(i:Int))=bif iL t id i then rec (eP t id (i+1),((i+1:Nat):Int))else oI 0
   unfold c354_3 iL;dsimp only;rw[aL (i63 hi h1)];refine(aE (Int.ofNat_lt.2 hi)).trans ?_;refine bif_nn.trans ?_;refine(aJ hi).trans ?_;refine(aB (f100 id 0 (i64.wrap ((((gt t i).1.length:Nat):Int) - 1)) n (by omega))).trans ?_
   cases hb:inB id 0 (i64.wrap ((((gt t i).1.length:Nat):Int) - 1))with
   | false=>rfl
   | true=>
    obtain⟨hk,e⟩:=kO (h2 i hi) hb
    have hp:(0:Int)≤id:=by omega
    refine(aF rfl).trans ?_
    show _=rec (bif(i:Int)==0 then _ else bif decide ((gt (gt t i).1 id.toNat).1<eP t id i)then _ else _,_)
    cases h0:(i:Int)==0 with
    | true=>refine(aN rfl).trans ?_;refine(aE hp).trans ?_;refine(aZ hk).trans ?_;rfl
    | false=>
     refine(aF rfl).trans ?_;refine(aE hp).trans ?_;refine(aZ hk).trans ?_
     by_cases hc:(gt (gt t i).1 id.toNat).1<eP t id i
     ·refine(aE hc).trans ?_;refine(aE hp).trans ?_;refine(aZ hk).trans ?_;rw[decide_eq_true hc];rfl
     ·refine(aI hc).trans ?_;rw[decide_eq_false hc];rfl
  ·show c354_3 (aK p n) aA t id rec (eP t id t.length,(t.length:Int))=_
   unfold c354_3;dsimp only;refine(aI (Int.lt_irrefl _)).trans ?_;rfl
 exact Ev.eq (fun aA=>by unfold T354;rfl) (lp.ev (i:=()) rfl)
theorem DQ(s:aH)(t:List bQ):Pos (eG s t):=((aV _).1 (nR s t)).pos
theorem f325(s:aH)(t:List bQ)(hz:SzS s)(h1:t.length≤aU)(h2:∀ i,i<t.length→(gt t i).1.length≤aU):Ran p 5 325 [.val true ⟨K27,s⟩, .val false ⟨K34,(t,())⟩] ⟨[⟨K27,prune s t⟩],[]⟩:=go325 fun n hn=>by
 cases hs:aO s with
 | false=>exact Ev.now fun aA=>by unfold T325;refine(aB (f227 s (aP hz.a) (aP hz.b) n (by omega))).trans ?_;rw[hs];refine(aN rfl).trans ?_;refine(aB (f224 s hz n (by omega))).trans ?_;unfold prune;rw[hs];rfl
 | true=>
  have lp:It (fun aA (_:Unit)=>c325_5 (aK p n) aA s t) ((0:Int),([]:List aR)) (fun _=>some ⟨[⟨K27,prune s t⟩],[]⟩):=by
   refine It.accu (α:=aR) [] (eL s t) 5 1 (fun i _=>l3 s t i) (fun i hi acc ha aA u rec=>?_) (It.stop fun aA u rec=>?_)
   ·show c325_5 (aK p n) aA s t rec ((i:Int),acc)=rec (((i+1:Nat):Int),acc++eL s t i)
    have hb:acc.length+1≤bound+(1 - (eL s t i).length):=by simp at ha;unfold bound;omega
    unfold c325_5 eL;dsimp only;rw[aL (show i<9223372036854775807 by omega)];refine(aE (show(i:Int)<5 by omega)).trans ?_;refine(aB (f357 t (i:Int) h1 h2 n (by omega))).trans ?_;refine(aB (f316 s (i:Int) hz n (by omega))).trans ?_;refine(aB (f256 (dW t i) (gone s i) n (by omega))).trans ?_
    by_cases h:mxI false (dW t i) (gone s i)>0
    ·refine(aE h).trans ?_;refine(aE (by unfold eL at hb;rw[decide_eq_true h] at hb;exact hb)).trans ?_;rw[decide_eq_true h];rfl
    ·refine(aI h).trans ?_;rw[decide_eq_false h];show rec _=rec _;rw[show(bif false then[((i:Int),mxI false (dW t i) (gone s i),())] else[])=([]:List aR)from rfl,List.append_nil];rfl
   ·show c325_5 (aK p n) aA s t rec ((5:Int),bH 5 (eL s t))=_
    unfold c325_5;dsimp only;refine(aI (Int.lt_irrefl _)).trans ?_;refine(aB (f260 s (eG s t) hz (tT s t) ((aV s).1 hs).pos (DQ s t) n (by omega))).trans ?_;unfold prune;rw[hs];rfl
  exact Ev.eq (fun aA=>by unfold T325;refine(aB (f227 s (aP hz.a) (aP hz.b) n (by omega))).trans ?_;rw[hs];rfl) (lp.ev (i:=()) rfl)
theorem f317(s:aH)(t:List bQ)(hz:SzS s)(h1:t.length≤aU)(h2:∀ i,i<t.length→(gt t i).1.length≤aU):Ran p 6 317 [.val true ⟨K27,s⟩, .val false ⟨K34,(t,())⟩] ⟨[⟨K27,prune s t⟩],[]⟩:=go317 fun n hn=>by
 cases hs:aO s with
 | false=>exact Ev.now fun aA=>by unfold T317;refine(aB (f101 s (aP hz.a) (aP hz.b) n (by omega))).trans ?_;rw[hs];refine(aN rfl).trans ?_;refine(aB (f220 s hz n (by omega))).trans ?_;unfold prune;rw[hs];rfl
 | true=>
  have lp:It (fun aA (_:Unit)=>c317_5 (aK p n) aA s t) ((0:Int),([]:List aR)) (fun _=>some ⟨[⟨K27,prune s t⟩],[]⟩):=by
   refine It.accu (α:=aR) [] (eL s t) 5 1 (fun i _=>l3 s t i) (fun i hi acc ha aA u rec=>?_) (It.stop fun aA u rec=>?_)
   ·show c317_5 (aK p n) aA s t rec ((i:Int),acc)=rec (((i+1:Nat):Int),acc++eL s t i)
    have hb:acc.length+1≤bound+(1 - (eL s t i).length):=by simp at ha;unfold bound;omega
    unfold c317_5 eL;dsimp only;rw[aL (show i<9223372036854775807 by omega)];refine(aE (show(i:Int)<5 by omega)).trans ?_;refine(aB (f354 t (i:Int) h1 h2 n (by omega))).trans ?_;refine(aB (f311 s (i:Int) hz n (by omega))).trans ?_
    by_cases h:mxI false (dW t i) (gone s i)>0
    ·refine(aE h).trans ?_;refine(aE (by unfold eL at hb;rw[decide_eq_true h] at hb;exact hb)).trans ?_;rw[decide_eq_true h];rfl
    ·refine(aI h).trans ?_;rw[decide_eq_false h];show rec _=rec _;rw[show(bif false then[((i:Int),mxI false (dW t i) (gone s i),())] else[])=([]:List aR)from rfl,List.append_nil];rfl
   ·show c317_5 (aK p n) aA s t rec ((5:Int),bH 5 (eL s t))=_
    unfold c317_5;dsimp only;refine(aI (Int.lt_irrefl _)).trans ?_;refine(aB (f240 s (eG s t) hz (tT s t) n (by omega))).trans ?_;unfold prune;rw[hs];rfl
  exact Ev.eq (fun aA=>by unfold T317;refine(aB (f101 s (aP hz.a) (aP hz.b) n (by omega))).trans ?_;rw[hs];rfl) (lp.ev (i:=()) rfl)
-- taking
theorem G9{x:NodeT}(hz:SzN x)(s:aH):(tkS x s).length≤aU∧∀ i,i<(tkS x s).length→(gt (tkS x s) i).1.length≤aU:=⟨(jC hz s).seen,(jC hz s).lines⟩
structure TakeOk (x:NodeT):Prop where
 state:aO x.state=true
 rises:(((x.rises.length:Nat):Int)==5)=true
theorem uW{x:NodeT}(h:NodeOk x):TakeOk x:=⟨h.state,h.rises⟩
theorem EG{x:NodeT}{s:aH}(h:TakeOk x)(hs:aO s=true){i:Nat}(hi:i<(tkP x s).1.length):0≤(gt (tkP x s).1 i).1∧(gt (tkP x s).1 i).1.toNat<(cG x.clock x.rises (tkP x s).1 i).length:=by
 have h1:=(((aV (tkP x s)).1 (vK (j8 h.state hs) (tkS x s))).item _ (c6 hi)).1
 unfold dY at h1;rw[aS] at h1
 have h2:=eq_of_beq h.rises
 rw[f4];omega
theorem AR(c:Int)(rs:List iT)(xs:List bM)(i:Nat):cG c rs xs (i+1)=bif mQ (gt (cG c rs xs i) (gt xs i).1.toNat) (gt xs i).2 then(cG c rs xs i).set (gt xs i).1.toNat ((gt xs i).2.1,(gt xs i).2.2.2.1,c,())else cG c rs xs i:=by
 show(cG c rs xs i).set _ (kU c _ _)=_
 unfold kU
 cases mQ (gt (cG c rs xs i) (gt xs i).1.toNat) (gt xs i).2 with
 | true=>rfl
 | false=>exact nD
theorem f254(x:NodeT)(s:aH)(hz:SzN x)(hs':SzS s)(h:TakeOk x)(hs:aO s=true):Ran p 7 254 [.val true ⟨K38,x⟩, .val true ⟨K27,s⟩] ⟨[⟨K38,fI x s⟩],[]⟩:=go254 fun n hn=>by
 have hj:=jI x.state s
 have ht:=G9 hz s
 have hp:=CL x s
 have lp:It (fun aA (_:Unit)=>c254_7 (aK p n) aA x ((x,()),()) (((tkS x s,()),()),()) ((tkP x s,()),()) ((bX (tkP x s),()),())) ((0:Int),x.rises) (fun _=>some ⟨[⟨K38,fI x s⟩],[]⟩):=by
  refine It.run (fun i=>((i:Int),cG x.clock x.rises (tkP x s).1 i)) (tkP x s).1.length (fun i hi aA u rec=>?_) (It.stop fun aA u rec=>?_)
  ·show c254_7 (aK p n) aA x ((x,()),()) (((tkS x s,()),()),()) ((tkP x s,()),()) ((bX (tkP x s),()),()) rec ((i:Int),cG x.clock x.rises (tkP x s).1 i)=rec (((i+1:Nat):Int),cG x.clock x.rises (tkP x s).1 (i+1))
   obtain⟨h0,hl⟩:=EG h hs hi
   unfold c254_7;dsimp only;rw[aL (i63 hi hp.a),AR];unfold mQ;refine(aE (Int.ofNat_lt.2 hi)).trans ?_;refine bif_nn.trans ?_;refine(aJ hi).trans ?_;refine(aJ hi).trans ?_;refine(aE h0).trans ?_;refine(aZ hl).trans ?_;refine(aZ hl).trans ?_
   by_cases h1:(gt (tkP x s).1 i).2.1>(gt (cG x.clock x.rises (tkP x s).1 i) (gt (tkP x s).1 i).1.toNat).1
   ·refine(aE h1).trans ?_;refine(aE h0).trans ?_;refine(aZ hl).trans ?_;refine(aZ hl).trans ?_;rw[decide_eq_true h1];rfl
   ·refine(aI h1).trans ?_;rw[decide_eq_false h1]
    cases h2:(gt (tkP x s).1 i).2.1==(gt (cG x.clock x.rises (tkP x s).1 i) (gt (tkP x s).1 i).1.toNat).1 with
    | false=>rfl
    | true=>
     refine(aN rfl).trans ?_
     by_cases h3:(gt (tkP x s).1 i).2.2.2.1>(gt (cG x.clock x.rises (tkP x s).1 i) (gt (tkP x s).1 i).1.toNat).2.1
     ·refine(aE h3).trans ?_;refine(aE h0).trans ?_;refine(aZ hl).trans ?_;refine(aZ hl).trans ?_;rw[decide_eq_true h3];rfl
     ·refine(aI h3).trans ?_;rw[decide_eq_false h3];rfl
  ·show c254_7 (aK p n) aA x ((x,()),()) (((tkS x s,()),()),()) ((tkP x s,()),()) ((bX (tkP x s),()),()) rec (((tkP x s).1.length:Int),cG x.clock x.rises (tkP x s).1 (tkP x s).1.length)=_
   unfold c254_7;dsimp only;refine(aI (Int.lt_irrefl _)).trans ?_;rfl
 exact Ev.eq (fun aA=>by
  unfold T254;refine(aB (f85 x hz n (by omega))).trans ?_;refine(aB (f260 x.state s hz.state hs' ((aV _).1 h.state).pos ((aV _).1 hs).pos n (by omega))).trans ?_;refine(aB (f234 (cJ x.state s) hj n (by omega))).trans ?_
  refine(aB (f257 x.seen x.1 (cB (cJ x.state s)) hz.seen hz.lines (Nat.le_trans (dZ _) (by decide)) n (by omega))).trans ?_;refine(aB (f325 (cJ x.state s) (tkS x s) hj ht.1 ht.2 n (by omega))).trans ?_;refine(aB (f228 (tkP x s) hp n (by omega))).trans ?_;rfl) (lp.ev (i:=()) rfl)
theorem f235(x:NodeT)(s:aH)(hz:SzN x)(hs':SzS s)(h:NodeOk x)(hs:aO s=true):Ran p 8 235 [.val true ⟨K38,x⟩, .val true ⟨K27,s⟩] ⟨[⟨K38,fI x s⟩,⟨K4,(true,())⟩],[]⟩:=go235 fun n hn=>by
 have hj:=jI x.state s
 have ht:=G9 hz s
 have hp:=CL x s
 have lp:It (fun aA (_:Unit)=>c235_9 (aK p n) aA x ((x,()),()) (((tkS x s,()),()),()) ((tkP x s,()),()) ((bX (tkP x s),()),())) ((0:Int),x.rises) (fun _=>some ⟨[⟨K38,fI x s⟩,⟨K4,(true,())⟩],[]⟩):=by
  refine It.run (fun i=>((i:Int),cG x.clock x.rises (tkP x s).1 i)) (tkP x s).1.length (fun i hi aA u rec=>?_) (It.stop fun aA u rec=>?_)
  ·show c235_9 (aK p n) aA x ((x,()),()) (((tkS x s,()),()),()) ((tkP x s,()),()) ((bX (tkP x s),()),()) rec ((i:Int),cG x.clock x.rises (tkP x s).1 i)=rec (((i+1:Nat):Int),cG x.clock x.rises (tkP x s).1 (i+1))
   obtain⟨h0,hl⟩:=EG (uW h) hs hi
   unfold c235_9;dsimp only;rw[aL (i63 hi hp.a),AR];unfold mQ;refine(aE (Int.ofNat_lt.2 hi)).trans ?_;refine bif_nn.trans ?_;refine(aJ hi).trans ?_;refine(aJ hi).trans ?_;refine(aE h0).trans ?_;refine(aZ hl).trans ?_;refine(aZ hl).trans ?_
   by_cases h1:(gt (tkP x s).1 i).2.1>(gt (cG x.clock x.rises (tkP x s).1 i) (gt (tkP x s).1 i).1.toNat).1
   ·refine(aE h1).trans ?_;refine(aZ hl).trans ?_;rw[decide_eq_true h1];rfl
   ·refine(aI h1).trans ?_;refine(aZ hl).trans ?_;rw[decide_eq_false h1]
    cases h2:(gt (tkP x s).1 i).2.1==(gt (cG x.clock x.rises (tkP x s).1 i) (gt (tkP x s).1 i).1.toNat).1 with
    | false=>rfl
    | true=>
     refine(aN rfl).trans ?_;refine(aZ hl).trans ?_
     by_cases h3:(gt (tkP x s).1 i).2.2.2.1>(gt (cG x.clock x.rises (tkP x s).1 i) (gt (tkP x s).1 i).1.toNat).2.1
     ·refine(aE h3).trans ?_;refine(aZ hl).trans ?_;rw[decide_eq_true h3];rfl
     ·refine(aI h3).trans ?_;rw[decide_eq_false h3];rfl
  ·show c235_9 (aK p n) aA x ((x,()),()) (((tkS x s,()),()),()) ((tkP x s,()),()) ((bX (tkP x s),()),()) rec (((tkP x s).1.length:Int),cG x.clock x.rises (tkP x s).1 (tkP x s).1.length)=_
   unfold c235_9;dsimp only;refine(aI (Int.lt_irrefl _)).trans ?_;rfl
 exact Ev.eq (fun aA=>by
  unfold T235;refine(aB (f81 x hz n (by omega))).trans ?_;refine(aB (f23 x hz n (by omega))).trans ?_;rw[(eE x).2 h];refine(aF rfl).trans ?_;refine(aB (f101 s (aP hs'.a) (aP hs'.b) n (by omega))).trans ?_;rw[hs];refine(aF rfl).trans ?_;refine(aB (f240 x.state s hz.state hs' n (by omega))).trans ?_;refine(aB (f223 (cJ x.state s) hj n (by omega))).trans ?_
  refine(aB (f237 x.seen x.1 (cB (cJ x.state s)) hz.seen hz.lines (Nat.le_trans (dZ _) (by decide)) n (by omega))).trans ?_;refine(aB (f317 (cJ x.state s) (tkS x s) hj ht.1 ht.2 n (by omega))).trans ?_;refine(aB (f103 (tkP x s) hp n (by omega))).trans ?_;rfl) (lp.ev (i:=()) rfl)
end Go.Abs.Xz
