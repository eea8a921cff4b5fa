/- What the functions of this program answer, part rb. -/
import Derived.Test.YtmamlgjbendjhaaGreatXra
set_option linter.unusedVariables false
open Go.IntKind (i64)
namespace Go.Abs.Xz
open Go Go.Abs
theorem f357(t:List cV)(id:Int)(h1:t.length≤aX)(h2:∀ i,i<t.length→(gt t i).1.length≤aX):Ran p 2 357 [vf K34 (t,()), vf K3 (id,())] (rO K3 (gD t id,())):=go357 fun n hn=>by
 have lp:It (fun aA (_:Unit)=>c357_5 (aG p n) aA t id) ((0:Int),(0:Int)) (fun _=>oI (gD t id)):=by
  refine cast ?_ (It.all (c:=fun aA (_:Unit)=>c357_5 (aG p n) aA t id) (rA:=fun _=>oI (eG t id t.length)) (rB:=fun _=>oI 0) (fun i=>(eG t id i,(i:Int))) t.length (iR t id) (fun i hi aA u rec=>?_) (It.stop fun aA u rec=>?_))
  ·congr 1;funext u;unfold gD;cases bZ t.length (iR t id)<;>rfl
  ·show c357_5 (aG p n) aA t id rec (eG t id i,(i:Int))=bif iR t id i then rec (eG t id (i+1),((i+1:Nat):Int))else oI 0
   unfold c357_5 iR;dsimp only;rw[aI (i63 hi h1)];refine(aE (Int.ofNat_lt.2 hi)).trans ?_;refine bif_nn.trans ?_;refine(aK hi).trans ?_;refine(aC (f211 id 0 (i64.wrap ((((gt t i).1.length:Nat):Int) - 1)) n (by omega))).trans ?_
   cases hb:inB id 0 (i64.wrap ((((gt t i).1.length:Nat):Int) - 1))with
   | false=>rfl
   | true=>
    obtain⟨hk,e⟩:=oG (h2 i hi) hb
    have hp:(0:Int)≤id:=by omega
    refine(aL rfl).trans ?_
    show _=rec (bif(i:Int)==0 then _ else bif decide ((gt (gt t i).1 id.toNat).1<eG t id i)then _ else _,_)
    cases h0:(i:Int)==0 with
    | true=>refine(aN rfl).trans ?_;refine bif_nn.trans ?_;refine(aK hi).trans ?_;refine(aE hp).trans ?_;refine(aR hk).trans ?_;rfl
    | false=>
     refine(aL rfl).trans ?_;refine bif_nn.trans ?_;refine(aK hi).trans ?_;refine(aE hp).trans ?_;refine(aR hk).trans ?_
     by_cases hc:(gt (gt t i).1 id.toNat).1<eG t id i
     ·refine(aE hc).trans ?_;refine bif_nn.trans ?_;refine(aK hi).trans ?_;refine(aE hp).trans ?_;refine(aR hk).trans ?_;rw[decide_eq_true hc];rfl
     ·refine(aF hc).trans ?_;rw[decide_eq_false hc];rfl
  ·show c357_5 (aG p n) aA t id rec (eG t id t.length,(t.length:Int))=_
   unfold c357_5;dsimp only;refine(aF (Int.lt_irrefl _)).trans ?_;rfl
 cases h0:(t.length:Int)==0 with
 | false=>exact Ev.eq (fun aA=>by unfold T357;exact aL h0) (lp.ev (i:=()) rfl)
 | true=>
  have e:gD t id=0:=by
   have:t=[]:=List.length_eq_zero_iff.1 (by have:=eq_of_beq h0;omega)
   rw[this];rfl
  exact Ev.now fun aA=>by rw[e];unfold T357;exact aN h0
theorem f354(t:List cV)(id:Int)(h1:t.length≤aX)(h2:∀ i,i<t.length→(gt t i).1.length≤aX):Ran p 2 354 [vf K34 (t,()), vf K3 (id,())] (rO K3 (gD t id,())):=go354 fun n hn=>by
 have lp:It (fun aA (_:Unit)=>c354_3 (aG p n) aA t id) ((0:Int),(0:Int)) (fun _=>oI (gD t id)):=by
  refine cast ?_ (It.all (c:=fun aA (_:Unit)=>c354_3 (aG p n) aA t id) (rA:=fun _=>oI (eG t id t.length)) (rB:=fun _=>oI 0) (fun i=>(eG t id i,(i:Int))) t.length (iR t id) (fun i hi aA u rec=>?_) (It.stop fun aA u rec=>?_))
  ·congr 1;funext u;unfold gD;cases bZ t.length (iR t id)<;>rfl
  ·show c354_3 (aG p n) aA t id rec (eG t id i,(i:Int))=bif iR t id i then rec (eG t id (i+1),((i+1:Nat):Int))else oI 0
   unfold c354_3 iR;dsimp only;rw[aI (i63 hi h1)];refine(aE (Int.ofNat_lt.2 hi)).trans ?_;refine bif_nn.trans ?_;refine(aK hi).trans ?_;refine(aC (f100 id 0 (i64.wrap ((((gt t i).1.length:Nat):Int) - 1)) n (by omega))).trans ?_
   cases hb:inB id 0 (i64.wrap ((((gt t i).1.length:Nat):Int) - 1))with
   | false=>rfl
   | true=>
    obtain⟨hk,e⟩:=oG (h2 i hi) hb
    have hp:(0:Int)≤id:=by omega
    refine(aL rfl).trans ?_
    show _=rec (bif(i:Int)==0 then _ else bif decide ((gt (gt t i).1 id.toNat).1<eG t id i)then _ else _,_)
    cases h0:(i:Int)==0 with
    | true=>refine(aN rfl).trans ?_;refine(aE hp).trans ?_;refine(aR hk).trans ?_;rfl
    | false=>
     refine(aL rfl).trans ?_;refine(aE hp).trans ?_;refine(aR hk).trans ?_
     by_cases hc:(gt (gt t i).1 id.toNat).1<eG t id i
     ·refine(aE hc).trans ?_;refine(aE hp).trans ?_;refine(aR hk).trans ?_;rw[decide_eq_true hc];rfl
     ·refine(aF hc).trans ?_;rw[decide_eq_false hc];rfl
  ·show c354_3 (aG p n) aA t id rec (eG t id t.length,(t.length:Int))=_
   unfold c354_3;dsimp only;refine(aF (Int.lt_irrefl _)).trans ?_;rfl
 exact Ev.eq (fun aA=>by unfold T354;rfl) (lp.ev (i:=()) rfl)
theorem CF(s:aM)(t:List cV):Pos (lP s t):=((bK _).1 (tK s t)).pos
theorem f325(s:aM)(t:List cV)(hz:SzS s)(h1:t.length≤aX)(h2:∀ i,i<t.length→(gt t i).1.length≤aX):Ran p 5 325 [va K27 s, vf K34 (t,())] (rO K27 (kU s t)):=go325 fun n hn=>by
 cases hs:bA s with
 | false=>exact Ev.now fun aA=>by unfold T325;refine(aC (f227 s (aU hz.a) (aU hz.b) n (by omega))).trans ?_;rw[hs];refine(aN rfl).trans ?_;refine(aC (f224 s hz n (by omega))).trans ?_;unfold kU;rw[hs];rfl
 | true=>
  have lp:It (fun aA (_:Unit)=>c325_5 (aG p n) aA s t) ((0:Int),([]:List aY)) (fun _=>rV K27 (kU s t)):=by
   refine It.accu (α:=aY) [] (fW s t) 5 1 (fun i _=>mF s t i) (fun i hi acc ha aA u rec=>?_) (It.stop fun aA u rec=>?_)
   ·show c325_5 (aG p n) aA s t rec ((i:Int),acc)=rec (((i+1:Nat):Int),acc++fW s t i)
    have hb:acc.length+1≤bound+(1 - (fW s t i).length):=by simp at ha;unfold bound;omega
    unfold c325_5 fW;dsimp only;rw[aI (show i<9223372036854775807 by omega)];refine(aE (show(i:Int)<5 by omega)).trans ?_;refine(aC (f357 t (i:Int) h1 h2 n (by omega))).trans ?_;refine(aC (f316 s (i:Int) hz n (by omega))).trans ?_;refine(aC (f256 (gD t i) (gone s i) n (by omega))).trans ?_
    by_cases h:mxI false (gD t i) (gone s i)>0
    ·refine(aE h).trans ?_;refine(aE (by unfold fW at hb;rw[decide_eq_true h] at hb;exact hb)).trans ?_;rw[decide_eq_true h];rfl
    ·refine(aF h).trans ?_;rw[decide_eq_false h];show rec _=rec _;rw[show(bif false then[((i:Int),mxI false (gD t i) (gone s i),())] else[])=([]:List aY)from rfl,List.append_nil];rfl
   ·show c325_5 (aG p n) aA s t rec ((5:Int),bI 5 (fW s t))=_
    unfold c325_5;dsimp only;refine(aF (Int.lt_irrefl _)).trans ?_;refine(aC (f260 s (lP s t) hz (tJ s t) ((bK s).1 hs).pos (CF s t) n (by omega))).trans ?_;unfold kU;rw[hs];rfl
  exact Ev.eq (fun aA=>by unfold T325;refine(aC (f227 s (aU hz.a) (aU hz.b) n (by omega))).trans ?_;rw[hs];rfl) (lp.ev (i:=()) rfl)
theorem f317(s:aM)(t:List cV)(hz:SzS s)(h1:t.length≤aX)(h2:∀ i,i<t.length→(gt t i).1.length≤aX):Ran p 6 317 [va K27 s, vf K34 (t,())] (rO K27 (kU s t)):=go317 fun n hn=>by
 cases hs:bA s with
 | false=>exact Ev.now fun aA=>by unfold T317;refine(aC (f101 s (aU hz.a) (aU hz.b) n (by omega))).trans ?_;rw[hs];refine(aN rfl).trans ?_;refine(aC (f220 s hz n (by omega))).trans ?_;unfold kU;rw[hs];rfl
 | true=>
  have lp:It (fun aA (_:Unit)=>c317_5 (aG p n) aA s t) ((0:Int),([]:List aY)) (fun _=>rV K27 (kU s t)):=by
   refine It.accu (α:=aY) [] (fW s t) 5 1 (fun i _=>mF s t i) (fun i hi acc ha aA u rec=>?_) (It.stop fun aA u rec=>?_)
   ·show c317_5 (aG p n) aA s t rec ((i:Int),acc)=rec (((i+1:Nat):Int),acc++fW s t i)
    have hb:acc.length+1≤bound+(1 - (fW s t i).length):=by simp at ha;unfold bound;omega
    unfold c317_5 fW;dsimp only;rw[aI (show i<9223372036854775807 by omega)];refine(aE (show(i:Int)<5 by omega)).trans ?_;refine(aC (f354 t (i:Int) h1 h2 n (by omega))).trans ?_;refine(aC (f311 s (i:Int) hz n (by omega))).trans ?_
    by_cases h:mxI false (gD t i) (gone s i)>0
    ·refine(aE h).trans ?_;refine(aE (by unfold fW at hb;rw[decide_eq_true h] at hb;exact hb)).trans ?_;rw[decide_eq_true h];rfl
    ·refine(aF h).trans ?_;rw[decide_eq_false h];show rec _=rec _;rw[show(bif false then[((i:Int),mxI false (gD t i) (gone s i),())] else[])=([]:List aY)from rfl,List.append_nil];rfl
   ·show c317_5 (aG p n) aA s t rec ((5:Int),bI 5 (fW s t))=_
    unfold c317_5;dsimp only;refine(aF (Int.lt_irrefl _)).trans ?_;refine(aC (f240 s (lP s t) hz (tJ s t) n (by omega))).trans ?_;unfold kU;rw[hs];rfl
  exact Ev.eq (fun aA=>by unfold T317;refine(aC (f101 s (aU hz.a) (aU hz.b) n (by omega))).trans ?_;rw[hs];rfl) (lp.ev (i:=()) rfl)
-- taking
theorem E9{x:NodeT}(hz:SzN x)(s:aM):(tkS x s).length≤aX∧∀ i,i<(tkS x s).length→(gt (tkS x s) i).1.length≤aX:=⟨(lG hz s).seen,(lG hz s).lines⟩
structure TakeOk (x:NodeT):Prop where
 state:bA x.state=true
 rises:((x.rises.length:Int)==5)=true
theorem BQ{x:NodeT}(h:NodeOk x):TakeOk x:=⟨h.state,h.rises⟩
theorem C0{x:NodeT}{s:aM}(h:TakeOk x)(hs:bA s=true){i:Nat}(hi:i<(tkP x s).1.length):0≤(gt (tkP x s).1 i).1∧(gt (tkP x s).1 i).1.toNat<(cT x.clock x.rises (tkP x s).1 i).length:=by
 have h1:=(((bK (tkP x s)).1 (AH (qP h.state hs) (tkS x s))).item _ (d9 hi)).1
 unfold fX at h1;rw[bH] at h1
 have h2:=eq_of_beq h.rises
 rw[hO];omega
theorem zY(c:Int)(rs:List kP)(xs:List cE)(i:Nat):cT c rs xs (i+1)=bif wY (gt (cT c rs xs i) (gt xs i).1.toNat) (gt xs i).2 then(cT c rs xs i).set (gt xs i).1.toNat ((gt xs i).2.1,(gt xs i).2.2.2.1,c,())else cT c rs xs i:=by
 show(cT c rs xs i).set _ (vA c _ _)=_
 unfold vA
 cases wY (gt (cT c rs xs i) (gt xs i).1.toNat) (gt xs i).2 with
 | true=>rfl
 | false=>exact yM
theorem f254(x:NodeT)(s:aM)(hz:SzN x)(hs':SzS s)(h:TakeOk x)(hs:bA s=true):Ran p 7 254 [va K38 x, va K27 s] (rO K38 (m7 x s)):=go254 fun n hn=>by
 have hj:=kK x.state s
 have ht:=E9 hz s
 have hp:=BO x s
 have lp:It (fun aA (_:Unit)=>c254_7 (aG p n) aA x ((x,()),()) (((tkS x s,()),()),()) ((tkP x s,()),()) ((c9 (tkP x s),()),())) ((0:Int),x.rises) (fun _=>rV K38 (m7 x s)):=by
  refine It.run (fun i=>((i:Int),cT x.clock x.rises (tkP x s).1 i)) (tkP x s).1.length (fun i hi aA u rec=>?_) (It.stop fun aA u rec=>?_)
  ·show c254_7 (aG p n) aA x ((x,()),()) (((tkS x s,()),()),()) ((tkP x s,()),()) ((c9 (tkP x s),()),()) rec ((i:Int),cT x.clock x.rises (tkP x s).1 i)=rec (((i+1:Nat):Int),cT x.clock x.rises (tkP x s).1 (i+1))
   obtain⟨h0,hl⟩:=C0 h hs hi
   unfold c254_7;dsimp only;rw[aI (i63 hi hp.a),zY];unfold wY;refine(aE (Int.ofNat_lt.2 hi)).trans ?_;refine bif_nn.trans ?_;refine(aK hi).trans ?_;refine(aK hi).trans ?_;refine(aE h0).trans ?_;refine(aR hl).trans ?_;refine(aR hl).trans ?_
   by_cases h1:(gt (tkP x s).1 i).2.1>(gt (cT x.clock x.rises (tkP x s).1 i) (gt (tkP x s).1 i).1.toNat).1
   ·refine(aE h1).trans ?_;refine(aE h0).trans ?_;refine(aR hl).trans ?_;refine(aR hl).trans ?_;rw[decide_eq_true h1];rfl
   ·refine(aF h1).trans ?_;rw[decide_eq_false h1]
    cases h2:(gt (tkP x s).1 i).2.1==(gt (cT x.clock x.rises (tkP x s).1 i) (gt (tkP x s).1 i).1.toNat).1 with
    | false=>rfl
    | true=>
     refine(aN rfl).trans ?_
     by_cases h3:(gt (tkP x s).1 i).2.2.2.1>(gt (cT x.clock x.rises (tkP x s).1 i) (gt (tkP x s).1 i).1.toNat).2.1
     ·refine(aE h3).trans ?_;refine(aE h0).trans ?_;refine(aR hl).trans ?_;refine(aR hl).trans ?_;rw[decide_eq_true h3];rfl
     ·refine(aF h3).trans ?_;rw[decide_eq_false h3];rfl
  ·show c254_7 (aG p n) aA x ((x,()),()) (((tkS x s,()),()),()) ((tkP x s,()),()) ((c9 (tkP x s),()),()) rec (((tkP x s).1.length:Int),cT x.clock x.rises (tkP x s).1 (tkP x s).1.length)=_
   unfold c254_7;dsimp only;refine(aF (Int.lt_irrefl _)).trans ?_;rfl
 exact Ev.eq (fun aA=>by
  unfold T254;refine(aC (f85 x hz n (by omega))).trans ?_;refine(aC (f260 x.state s hz.state hs' ((bK _).1 h.state).pos ((bK _).1 hs).pos n (by omega))).trans ?_;refine(aC (f234 (eQ x.state s) hj n (by omega))).trans ?_
  refine(aC (f257 x.seen x.1 (fQ (eQ x.state s)) hz.seen hz.lines (Nat.le_trans (hY _) (by decide)) n (by omega))).trans ?_;refine(aC (f325 (eQ x.state s) (tkS x s) hj ht.1 ht.2 n (by omega))).trans ?_;refine(aC (f228 (tkP x s) hp n (by omega))).trans ?_;rfl) (lp.ev (i:=()) rfl)
theorem f235(x:NodeT)(s:aM)(hz:SzN x)(hs':SzS s)(h:NodeOk x)(hs:bA s=true):Ran p 8 235 [va K38 x, va K27 s] ⟨[⟨K38,m7 x s⟩,⟨K4,(true,())⟩],[]⟩:=go235 fun n hn=>by
 have hj:=kK x.state s
 have ht:=E9 hz s
 have hp:=BO x s
 have lp:It (fun aA (_:Unit)=>c235_9 (aG p n) aA x ((x,()),()) (((tkS x s,()),()),()) ((tkP x s,()),()) ((c9 (tkP x s),()),())) ((0:Int),x.rises) (fun _=>some ⟨[⟨K38,m7 x s⟩,⟨K4,(true,())⟩],[]⟩):=by
  refine It.run (fun i=>((i:Int),cT x.clock x.rises (tkP x s).1 i)) (tkP x s).1.length (fun i hi aA u rec=>?_) (It.stop fun aA u rec=>?_)
  ·show c235_9 (aG p n) aA x ((x,()),()) (((tkS x s,()),()),()) ((tkP x s,()),()) ((c9 (tkP x s),()),()) rec ((i:Int),cT x.clock x.rises (tkP x s).1 i)=rec (((i+1:Nat):Int),cT x.clock x.rises (tkP x s).1 (i+1))
   obtain⟨h0,hl⟩:=C0 (BQ h) hs hi
   unfold c235_9;dsimp only;rw[aI (i63 hi hp.a),zY];unfold wY;refine(aE (Int.ofNat_lt.2 hi)).trans ?_;refine bif_nn.trans ?_;refine(aK hi).trans ?_;refine(aK hi).trans ?_;refine(aE h0).trans ?_;refine(aR hl).trans ?_;refine(aR hl).trans ?_
   by_cases h1:(gt (tkP x s).1 i).2.1>(gt (cT x.clock x.rises (tkP x s).1 i) (gt (tkP x s).1 i).1.toNat).1
   ·refine(aE h1).trans ?_;refine(aR hl).trans ?_;rw[decide_eq_true h1];rfl
   ·refine(aF h1).trans ?_;refine(aR hl).trans ?_;rw[decide_eq_false h1]
    cases h2:(gt (tkP x s).1 i).2.1==(gt (cT x.clock x.rises (tkP x s).1 i) (gt (tkP x s).1 i).1.toNat).1 with
    | false=>rfl
    | true=>
     refine(aN rfl).trans ?_;refine(aR hl).trans ?_
     by_cases h3:(gt (tkP x s).1 i).2.2.2.1>(gt (cT x.clock x.rises (tkP x s).1 i) (gt (tkP x s).1 i).1.toNat).2.1
     ·refine(aE h3).trans ?_;refine(aR hl).trans ?_;rw[decide_eq_true h3];rfl
     ·refine(aF h3).trans ?_;rw[decide_eq_false h3];rfl
  ·show c235_9 (aG p n) aA x ((x,()),()) (((tkS x s,()),()),()) ((tkP x s,()),()) ((c9 (tkP x s),()),()) rec (((tkP x s).1.length:Int),cT x.clock x.rises (tkP x s).1 (tkP x s).1.length)=_
   unfold c235_9;dsimp only;refine(aF (Int.lt_irrefl _)).trans ?_;rfl
 exact Ev.eq (fun aA=>by
  unfold T235;refine(aC (f81 x hz n (by omega))).trans ?_;refine(aC (f23 x hz n (by omega))).trans ?_;rw[(i7 x).2 h];refine(aL rfl).trans ?_;refine(aC (f101 s (aU hs'.a) (aU hs'.b) n (by omega))).trans ?_;rw[hs];refine(aL rfl).trans ?_;refine(aC (f240 x.state s hz.state hs' n (by omega))).trans ?_;refine(aC (f223 (eQ x.state s) hj n (by omega))).trans ?_
  refine(aC (f237 x.seen x.1 (fQ (eQ x.state s)) hz.seen hz.lines (Nat.le_trans (hY _) (by decide)) n (by omega))).trans ?_;refine(aC (f317 (eQ x.state s) (tkS x s) hj ht.1 ht.2 n (by omega))).trans ?_;refine(aC (f103 (tkP x s) hp n (by omega))).trans ?_;rfl) (lp.ev (i:=()) rfl)
end Go.Abs.Xz
