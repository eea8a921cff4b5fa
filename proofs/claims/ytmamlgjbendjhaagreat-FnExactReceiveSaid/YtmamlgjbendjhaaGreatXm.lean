/- What the functions of this program answer, part m. -/
import Derived.Test.YtmamlgjbendjhaaGreatXr0
import Derived.Test.YtmamlgjbendjhaaGreatXr1
import Derived.Test.YtmamlgjbendjhaaGreatW2
set_option linter.unusedVariables false
set_option linter.unusedSimpArgs false
namespace Go.Abs.Xz
open Go Go.Abs
theorem wB(k:Int)(h0:0≤k)(h1:k≤9223372036854775807):∃ s:ByteArray,Ran p 1 217 [.val false ⟨K3,(k,())⟩] ⟨[⟨K9,(s,())⟩],[]⟩:=by
 by_cases hk:k≤0
 ·exact⟨⟨#[109,48]⟩,go217 fun n hn=>Ev.now fun aA=>by unfold T217;exact aF hk⟩
 ·have key:∀ n:Nat,∃ r:ByteArray,It (fun aA (_:Unit)=>c217_4 (aG p n) aA) (k,(⟨#[]⟩:ByteArray)) (fun _=>some ⟨[⟨K9,((r,()):Row K9)⟩],[]⟩):=fun n=>by
   refine uU (c:=fun aA (_:Unit)=>c217_4 (aG p n) aA) (A:=K9) (fun s=>((s,()):Row K9)) (fun k=>i9 [(IntKind.u8.wrap (IntKind.i64.wrap (48+k.tmod 10)),())]) (fun k=>rfl) ⟨#[109]⟩ rfl (fun k s hk hs aA a rec=>?_) (fun s hs aA a rec=>?_) 19 k ⟨#[]⟩ h0 (by omega) h1 (by decide)
   ·show c217_4 (aG p n) aA rec (k,s)=_
    unfold c217_4
    refine(aF hk).trans ?_
    refine(aH (by decide)).trans ?_
    refine(aF hs).trans ?_
    exact aH (by decide)
   ·show c217_4 (aG p n) aA rec (0,s)=_
    unfold c217_4
    refine(aH (Int.lt_irrefl 0)).trans ?_
    exact aF hs
  obtain⟨r,hr⟩:=key 0
  have hr':∀ n,It (fun aA (_:Unit)=>c217_4 (aG p n) aA) (k,(⟨#[]⟩:ByteArray)) (fun _=>some ⟨[⟨K9,((r,()):Row K9)⟩],[]⟩):=fun n=>hr
  exact⟨r,go217 fun n hn=>by
   refine Ev.eq (g:=fun aA=>iter (c217_4 (aG p n) aA) aA (k,(⟨#[]⟩:ByteArray))) (fun aA=>by unfold T217;exact aH hk) ?_
   exact It.ev (i:=()) (hr' n) rfl⟩
open Classical in
noncomputable def txt(k:Int):ByteArray:=if h:0≤k∧k≤9223372036854775807 then(wB k h.1 h.2).choose else⟨#[]⟩
theorem CF(k:Int)(h0:0≤k)(h1:k≤9223372036854775807):Ran p 1 217 [.val false ⟨K3,(k,())⟩] ⟨[⟨K9,(txt k,())⟩],[]⟩:=by
 have e:txt k=(wB k h0 h1).choose:=dif_pos ⟨h0,h1⟩
 rw[e]
 exact(wB k h0 h1).choose_spec
noncomputable def GQ(x:Row K3)(k:Int):Row K3:=(k,x.2)
theorem mk45(aB:List (Row K3))(k:Int)(h0:0≤k)(h1:k+cnT (.sl K3) aB≤4611686018427387904)(hL:LmT (.sl K3) aB):Ran p 1 45 [.own false ⟨K28,(aB,())⟩, .val false ⟨K3,(k,())⟩] ⟨[⟨K3,(k+cnT (.sl K3) aB,())⟩],[⟨K28,(mkT txt (.sl K3) aB k,())⟩]⟩:=go45 fun n hn=>by
 refine Ev.eq (fun aA=>by unfold T45;rfl) ?_
 refine It.ev (c:=fun aA (_:Unit)=>c45_2 (aG p n) aA) (i:=()) (r:=fun _=>some ⟨[⟨K3,(k+cnT (.sl K3) aB,())⟩],[⟨K28,(mkT txt (.sl K3) aB k,())⟩]⟩) ?_ rfl
 have hlen:List.length aB≤4611686018427387904:=hL.1
 refine fN (mkR txt K3) (cnR K3) (eE K3) aB k 4611686018427387904 h0 h1 (fun i k ys=>(k,((i:Int),ys))) (fun i hi ys k hy ha hk hB aA a rec=>?_) (fun aA a rec=>?_)
 ·have hb:i<9223372036854775807:=by omega
  have hx:=hL.2 i aB[i] (bP hi)
  generalize aB[i]=x at*
  have hc:cnR K3 x=(1+0):=rfl
  have hr:mkR txt K3 x k=((k,()):Row K3):=rfl
  rw[hc] at hB ⊢
  rw[hr]
  have w0:IntKind.i64.wrap (k+1)=k+1:=bG (by omega) (by omega)
  have hy2:i<ys.length:=by rw[hy];exact hi
  show c45_2 (aG p n) aA rec (k,((i:Int),ys))=rec (k+(1+0),(((i+1:Nat):Int),ys.set i (k,())))
  unfold c45_2;dsimp only;rw[aJ hb]
  have a0:=cO hy2 (GQ x k)
  rw[w0]
  refine(aF (Int.ofNat_lt.2 hy2)).trans ?_
  refine(aF (Int.natCast_nonneg _)).trans ?_
  refine(aL ha).trans ?_
  refine(aL ha).trans ?_
  refine(cA (List.set ys i (GQ x k)) iX).trans ?_
  have hfin:k+(1+0)=k+1:=by omega
  rw[hfin]
  first | done | rfl
 ·show c45_2 (aG p n) aA rec (k+cnT (.sl K3) aB,(((List.length aB:Nat):Int),mkT txt (.sl K3) aB k))=_
  have hlm:List.length (mkT txt (.sl K3) aB k)=List.length aB:=bK _ _
  unfold c45_2;simp only[hlm,bR,cond_false]
theorem hd79(aB:List (Row K3))(k:Int)(h0:0≤k)(h1:k+cnT (.sl K3) aB≤4611686018427387904)(hL:LmT (.sl K3) aB):Ran p 1 79 [.val false ⟨K28,(mkT txt (.sl K3) aB k,())⟩, .val false ⟨K3,(k,())⟩] ⟨[⟨K3,(k+cnT (.sl K3) aB,())⟩],[]⟩:=go79 fun n hn=>by
 refine Ev.eq (fun aA=>by unfold T79;rfl) ?_
 refine It.ev (c:=fun aA (_:Unit)=>c79_2 (aG p n) aA (mkT txt (.sl K3) aB k)) (i:=()) (r:=fun _=>some ⟨[⟨K3,(k+cnT (.sl K3) aB,())⟩],[]⟩) ?_ rfl
 have hlen:List.length aB≤4611686018427387904:=hL.1
 refine fO (mkR txt K3) (cnR K3) (eE K3) aB k 4611686018427387904 h0 h1 (fun i k=>(k,(i:Int))) (fun i hi q hi2 ha hk hB aA a rec=>?_) (fun aA a rec=>?_)
 ·have hb:i<9223372036854775807:=by omega
  have hx:=hL.2 i aB[i] (bP hi)
  generalize aB[i]=x at*
  have hc:cnR K3 x=(1+0):=rfl
  have hr:mkR txt K3 x q=((q,()):Row K3):=rfl
  rw[hc] at hB ⊢
  rw[hr] at ha
  have w0:IntKind.i64.wrap (q+1)=q+1:=bG (by omega) (by omega)
  show c79_2 (aG p n) aA (mkT txt (.sl K3) aB k) rec (q,(i:Int))=rec (q+(1+0),((i+1:Nat):Int))
  replace hi2:i<List.length (mkT txt (.sl K3) aB k):=hi2
  replace ha:at? (mkT txt (.sl K3) aB k) i=some ((q,()):Row K3):=ha
  generalize mkT txt (.sl K3) aB k=L at*
  unfold c79_2;dsimp only;rw[aJ hb]
  rw[w0]
  refine(aF (Int.ofNat_lt.2 hi2)).trans ?_
  refine(aF (Int.natCast_nonneg _)).trans ?_
  refine(aL ha).trans ?_
  refine(aN (bne_self_eq_false _)).trans ?_
  have hfin:q+(1+0)=q+1:=by omega
  rw[hfin]
  first | done | rfl
 ·show c79_2 (aG p n) aA (mkT txt (.sl K3) aB k) rec (k+cnT (.sl K3) aB,((List.length (mkT txt (.sl K3) aB k):Nat):Int))=_
  unfold c79_2;simp only[bR,cond_false]
noncomputable def EY(x:Row K141)(k:Int):Row K141:=(k,x.2)
noncomputable def EX(x:Row K141)(k:Int):Row K141:=(k,k+1,x.2.2)
noncomputable def EW(x:Row K141)(k:Int):Row K141:=(k,k+1,((k+1+1).tmod 3==0),x.2.2.2)
noncomputable def EV(x:Row K141)(k:Int):Row K141:=(k,k+1,((k+1+1).tmod 3==0),k+1+1+1,x.2.2.2.2)
theorem mk188(aB:List (Row K141))(k:Int)(h0:0≤k)(h1:k+cnT (.sl K141) aB≤4611686018427387904)(hL:LmT (.sl K141) aB):Ran p 1 188 [.own false ⟨K35,(aB,())⟩, .val false ⟨K3,(k,())⟩] ⟨[⟨K3,(k+cnT (.sl K141) aB,())⟩],[⟨K35,(mkT txt (.sl K141) aB k,())⟩]⟩:=go188 fun n hn=>by
 refine Ev.eq (fun aA=>by unfold T188;rfl) ?_
 refine It.ev (c:=fun aA (_:Unit)=>c188_2 (aG p n) aA) (i:=()) (r:=fun _=>some ⟨[⟨K3,(k+cnT (.sl K141) aB,())⟩],[⟨K35,(mkT txt (.sl K141) aB k,())⟩]⟩) ?_ rfl
 have hlen:List.length aB≤4611686018427387904:=hL.1
 refine fN (mkR txt K141) (cnR K141) (eE K141) aB k 4611686018427387904 h0 h1 (fun i k ys=>(k,((i:Int),ys))) (fun i hi ys k hy ha hk hB aA a rec=>?_) (fun aA a rec=>?_)
 ·have hb:i<9223372036854775807:=by omega
  have hx:=hL.2 i aB[i] (bP hi)
  generalize aB[i]=x at*
  have hc:cnR K141 x=(1+(1+(1+(1+0)))):=rfl
  have hr:mkR txt K141 x k=((k,k+1,((k+1+1).tmod 3==0),k+1+1+1,()):Row K141):=rfl
  rw[hc] at hB ⊢
  rw[hr]
  have w0:IntKind.i64.wrap (k+1)=k+1:=bG (by omega) (by omega)
  have w1:IntKind.i64.wrap (k+1+1)=k+1+1:=bG (by omega) (by omega)
  have w2:IntKind.i64.wrap (k+1+1+1)=k+1+1+1:=bG (by omega) (by omega)
  have w3:IntKind.i64.wrap (k+1+1+1+1)=k+1+1+1+1:=bG (by omega) (by omega)
  have hy2:i<ys.length:=by rw[hy];exact hi
  show c188_2 (aG p n) aA rec (k,((i:Int),ys))=rec (k+(1+(1+(1+(1+0)))),(((i+1:Nat):Int),ys.set i (k,k+1,((k+1+1).tmod 3==0),k+1+1+1,())))
  unfold c188_2;dsimp only;rw[aJ hb]
  have a0:=cO hy2 (EY x k)
  have a1:=cO hy2 (EX x k)
  have a2:=cO hy2 (EW x k)
  have a3:=cO hy2 (EV x k)
  rw[w0]
  rw[w1]
  rw[w2]
  rw[w3]
  refine(aF (Int.ofNat_lt.2 hy2)).trans ?_
  refine(aF (Int.natCast_nonneg _)).trans ?_
  refine(aL ha).trans ?_
  refine(aL ha).trans ?_
  refine(cA (List.set ys i (EY x k)) iX).trans ?_
  refine(aF (Int.natCast_nonneg _)).trans ?_
  refine(aL a0).trans ?_
  refine(aL a0).trans ?_
  refine(cA (List.set ys i (EX x k)) cH).trans ?_
  refine(aH (by decide)).trans ?_
  refine(aF (Int.natCast_nonneg _)).trans ?_
  refine(aL a1).trans ?_
  refine(aL a1).trans ?_
  refine(cA (List.set ys i (EW x k)) cH).trans ?_
  refine(aF (Int.natCast_nonneg _)).trans ?_
  refine(aL a2).trans ?_
  refine(aL a2).trans ?_
  refine(cA (List.set ys i (EV x k)) cH).trans ?_
  have hfin:k+(1+(1+(1+(1+0))))=k+1+1+1+1:=by omega
  rw[hfin]
  first | done | rfl
 ·show c188_2 (aG p n) aA rec (k+cnT (.sl K141) aB,(((List.length aB:Nat):Int),mkT txt (.sl K141) aB k))=_
  have hlm:List.length (mkT txt (.sl K141) aB k)=List.length aB:=bK _ _
  unfold c188_2;simp only[hlm,bR,cond_false]
noncomputable def EU(x:Row K147)(k:Int):Row K147:=(k,x.2)
noncomputable def ET(x:Row K147)(k:Int):Row K147:=(k,k+1,x.2.2)
noncomputable def ES(x:Row K147)(k:Int):Row K147:=(k,k+1,k+1+1,x.2.2.2)
theorem mk189(aB:List (Row K147))(k:Int)(h0:0≤k)(h1:k+cnT (.sl K147) aB≤4611686018427387904)(hL:LmT (.sl K147) aB):Ran p 1 189 [.own false ⟨K36,(aB,())⟩, .val false ⟨K3,(k,())⟩] ⟨[⟨K3,(k+cnT (.sl K147) aB,())⟩],[⟨K36,(mkT txt (.sl K147) aB k,())⟩]⟩:=go189 fun n hn=>by
 refine Ev.eq (fun aA=>by unfold T189;rfl) ?_
 refine It.ev (c:=fun aA (_:Unit)=>c189_2 (aG p n) aA) (i:=()) (r:=fun _=>some ⟨[⟨K3,(k+cnT (.sl K147) aB,())⟩],[⟨K36,(mkT txt (.sl K147) aB k,())⟩]⟩) ?_ rfl
 have hlen:List.length aB≤4611686018427387904:=hL.1
 refine fN (mkR txt K147) (cnR K147) (eE K147) aB k 4611686018427387904 h0 h1 (fun i k ys=>(k,((i:Int),ys))) (fun i hi ys k hy ha hk hB aA a rec=>?_) (fun aA a rec=>?_)
 ·have hb:i<9223372036854775807:=by omega
  have hx:=hL.2 i aB[i] (bP hi)
  generalize aB[i]=x at*
  have hc:cnR K147 x=(1+(1+(1+0))):=rfl
  have hr:mkR txt K147 x k=((k,k+1,k+1+1,()):Row K147):=rfl
  rw[hc] at hB ⊢
  rw[hr]
  have w0:IntKind.i64.wrap (k+1)=k+1:=bG (by omega) (by omega)
  have w1:IntKind.i64.wrap (k+1+1)=k+1+1:=bG (by omega) (by omega)
  have w2:IntKind.i64.wrap (k+1+1+1)=k+1+1+1:=bG (by omega) (by omega)
  have hy2:i<ys.length:=by rw[hy];exact hi
  show c189_2 (aG p n) aA rec (k,((i:Int),ys))=rec (k+(1+(1+(1+0))),(((i+1:Nat):Int),ys.set i (k,k+1,k+1+1,())))
  unfold c189_2;dsimp only;rw[aJ hb]
  have a0:=cO hy2 (EU x k)
  have a1:=cO hy2 (ET x k)
  have a2:=cO hy2 (ES x k)
  rw[w0]
  rw[w1]
  rw[w2]
  refine(aF (Int.ofNat_lt.2 hy2)).trans ?_
  refine(aF (Int.natCast_nonneg _)).trans ?_
  refine(aL ha).trans ?_
  refine(aL ha).trans ?_
  refine(cA (List.set ys i (EU x k)) iX).trans ?_
  refine(aF (Int.natCast_nonneg _)).trans ?_
  refine(aL a0).trans ?_
  refine(aL a0).trans ?_
  refine(cA (List.set ys i (ET x k)) cH).trans ?_
  refine(aF (Int.natCast_nonneg _)).trans ?_
  refine(aL a1).trans ?_
  refine(aL a1).trans ?_
  refine(cA (List.set ys i (ES x k)) cH).trans ?_
  have hfin:k+(1+(1+(1+0)))=k+1+1+1:=by omega
  rw[hfin]
  first | done | rfl
 ·show c189_2 (aG p n) aA rec (k+cnT (.sl K147) aB,(((List.length aB:Nat):Int),mkT txt (.sl K147) aB k))=_
  have hlm:List.length (mkT txt (.sl K147) aB k)=List.length aB:=bK _ _
  unfold c189_2;simp only[hlm,bR,cond_false]
noncomputable def ER(x:Row K185)(k:Int):Row K185:=(k,x.2)
noncomputable def EQ(x:Row K185)(k:Int):Row K185:=(k,k+1,x.2.2)
theorem mk190(aB:List (Row K185))(k:Int)(h0:0≤k)(h1:k+cnT (.sl K185) aB≤4611686018427387904)(hL:LmT (.sl K185) aB):Ran p 1 190 [.own false ⟨K41,(aB,())⟩, .val false ⟨K3,(k,())⟩] ⟨[⟨K3,(k+cnT (.sl K185) aB,())⟩],[⟨K41,(mkT txt (.sl K185) aB k,())⟩]⟩:=go190 fun n hn=>by
 refine Ev.eq (fun aA=>by unfold T190;rfl) ?_
 refine It.ev (c:=fun aA (_:Unit)=>c190_2 (aG p n) aA) (i:=()) (r:=fun _=>some ⟨[⟨K3,(k+cnT (.sl K185) aB,())⟩],[⟨K41,(mkT txt (.sl K185) aB k,())⟩]⟩) ?_ rfl
 have hlen:List.length aB≤4611686018427387904:=hL.1
 refine fN (mkR txt K185) (cnR K185) (eE K185) aB k 4611686018427387904 h0 h1 (fun i k ys=>(k,((i:Int),ys))) (fun i hi ys k hy ha hk hB aA a rec=>?_) (fun aA a rec=>?_)
 ·have hb:i<9223372036854775807:=by omega
  have hx:=hL.2 i aB[i] (bP hi)
  generalize aB[i]=x at*
  have hc:cnR K185 x=(1+(1+0)):=rfl
  have hr:mkR txt K185 x k=((k,k+1,()):Row K185):=rfl
  rw[hc] at hB ⊢
  rw[hr]
  have w0:IntKind.i64.wrap (k+1)=k+1:=bG (by omega) (by omega)
  have w1:IntKind.i64.wrap (k+1+1)=k+1+1:=bG (by omega) (by omega)
  have hy2:i<ys.length:=by rw[hy];exact hi
  show c190_2 (aG p n) aA rec (k,((i:Int),ys))=rec (k+(1+(1+0)),(((i+1:Nat):Int),ys.set i (k,k+1,())))
  unfold c190_2;dsimp only;rw[aJ hb]
  have a0:=cO hy2 (ER x k)
  have a1:=cO hy2 (EQ x k)
  rw[w0]
  rw[w1]
  refine(aF (Int.ofNat_lt.2 hy2)).trans ?_
  refine(aF (Int.natCast_nonneg _)).trans ?_
  refine(aL ha).trans ?_
  refine(aL ha).trans ?_
  refine(cA (List.set ys i (ER x k)) iX).trans ?_
  refine(aF (Int.natCast_nonneg _)).trans ?_
  refine(aL a0).trans ?_
  refine(aL a0).trans ?_
  refine(cA (List.set ys i (EQ x k)) cH).trans ?_
  have hfin:k+(1+(1+0))=k+1+1:=by omega
  rw[hfin]
  first | done | rfl
 ·show c190_2 (aG p n) aA rec (k+cnT (.sl K185) aB,(((List.length aB:Nat):Int),mkT txt (.sl K185) aB k))=_
  have hlm:List.length (mkT txt (.sl K185) aB k)=List.length aB:=bK _ _
  unfold c190_2;simp only[hlm,bR,cond_false]
noncomputable def EJ(x:Row K165)(k:Int):Row K165:=(k,x.2)
noncomputable def EI(x:Row K165)(k:Int):Row K165:=(k,k+1,x.2.2)
theorem mk192(aB:List (Row K165))(k:Int)(h0:0≤k)(h1:k+cnT (.sl K165) aB≤4611686018427387904)(hL:LmT (.sl K165) aB):Ran p 1 192 [.own false ⟨K25,(aB,())⟩, .val false ⟨K3,(k,())⟩] ⟨[⟨K3,(k+cnT (.sl K165) aB,())⟩],[⟨K25,(mkT txt (.sl K165) aB k,())⟩]⟩:=go192 fun n hn=>by
 refine Ev.eq (fun aA=>by unfold T192;rfl) ?_
 refine It.ev (c:=fun aA (_:Unit)=>c192_2 (aG p n) aA) (i:=()) (r:=fun _=>some ⟨[⟨K3,(k+cnT (.sl K165) aB,())⟩],[⟨K25,(mkT txt (.sl K165) aB k,())⟩]⟩) ?_ rfl
 have hlen:List.length aB≤4611686018427387904:=hL.1
 refine fN (mkR txt K165) (cnR K165) (eE K165) aB k 4611686018427387904 h0 h1 (fun i k ys=>(k,((i:Int),ys))) (fun i hi ys k hy ha hk hB aA a rec=>?_) (fun aA a rec=>?_)
 ·have hb:i<9223372036854775807:=by omega
  have hx:=hL.2 i aB[i] (bP hi)
  generalize aB[i]=x at*
  have hc:cnR K165 x=(1+(1+0)):=rfl
  have hr:mkR txt K165 x k=((k,k+1,()):Row K165):=rfl
  rw[hc] at hB ⊢
  rw[hr]
  have w0:IntKind.i64.wrap (k+1)=k+1:=bG (by omega) (by omega)
  have w1:IntKind.i64.wrap (k+1+1)=k+1+1:=bG (by omega) (by omega)
  have hy2:i<ys.length:=by rw[hy];exact hi
  show c192_2 (aG p n) aA rec (k,((i:Int),ys))=rec (k+(1+(1+0)),(((i+1:Nat):Int),ys.set i (k,k+1,())))
  unfold c192_2;dsimp only;rw[aJ hb]
  have a0:=cO hy2 (EJ x k)
  have a1:=cO hy2 (EI x k)
  rw[w0]
  rw[w1]
  refine(aF (Int.ofNat_lt.2 hy2)).trans ?_
  refine(aF (Int.natCast_nonneg _)).trans ?_
  refine(aL ha).trans ?_
  refine(aL ha).trans ?_
  refine(cA (List.set ys i (EJ x k)) iX).trans ?_
  refine(aF (Int.natCast_nonneg _)).trans ?_
  refine(aL a0).trans ?_
  refine(aL a0).trans ?_
  refine(cA (List.set ys i (EI x k)) cH).trans ?_
  have hfin:k+(1+(1+0))=k+1+1:=by omega
  rw[hfin]
  first | done | rfl
 ·show c192_2 (aG p n) aA rec (k+cnT (.sl K165) aB,(((List.length aB:Nat):Int),mkT txt (.sl K165) aB k))=_
  have hlm:List.length (mkT txt (.sl K165) aB k)=List.length aB:=bK _ _
  unfold c192_2;simp only[hlm,bR,cond_false]
theorem hd197(aB:List (Row K141))(k:Int)(h0:0≤k)(h1:k+cnT (.sl K141) aB≤4611686018427387904)(hL:LmT (.sl K141) aB):Ran p 1 197 [.val false ⟨K35,(mkT txt (.sl K141) aB k,())⟩, .val false ⟨K3,(k,())⟩] ⟨[⟨K3,(k+cnT (.sl K141) aB,())⟩],[]⟩:=go197 fun n hn=>by
 refine Ev.eq (fun aA=>by unfold T197;rfl) ?_
 refine It.ev (c:=fun aA (_:Unit)=>c197_2 (aG p n) aA (mkT txt (.sl K141) aB k)) (i:=()) (r:=fun _=>some ⟨[⟨K3,(k+cnT (.sl K141) aB,())⟩],[]⟩) ?_ rfl
 have hlen:List.length aB≤4611686018427387904:=hL.1
 refine fO (mkR txt K141) (cnR K141) (eE K141) aB k 4611686018427387904 h0 h1 (fun i k=>(k,(i:Int))) (fun i hi q hi2 ha hk hB aA a rec=>?_) (fun aA a rec=>?_)
 ·have hb:i<9223372036854775807:=by omega
  have hx:=hL.2 i aB[i] (bP hi)
  generalize aB[i]=x at*
  have hc:cnR K141 x=(1+(1+(1+(1+0)))):=rfl
  have hr:mkR txt K141 x q=((q,q+1,((q+1+1).tmod 3==0),q+1+1+1,()):Row K141):=rfl
  rw[hc] at hB ⊢
  rw[hr] at ha
  have w0:IntKind.i64.wrap (q+1)=q+1:=bG (by omega) (by omega)
  have w1:IntKind.i64.wrap (q+1+1)=q+1+1:=bG (by omega) (by omega)
  have w2:IntKind.i64.wrap (q+1+1+1)=q+1+1+1:=bG (by omega) (by omega)
  have w3:IntKind.i64.wrap (q+1+1+1+1)=q+1+1+1+1:=bG (by omega) (by omega)
  show c197_2 (aG p n) aA (mkT txt (.sl K141) aB k) rec (q,(i:Int))=rec (q+(1+(1+(1+(1+0)))),((i+1:Nat):Int))
  replace hi2:i<List.length (mkT txt (.sl K141) aB k):=hi2
  replace ha:at? (mkT txt (.sl K141) aB k) i=some ((q,q+1,((q+1+1).tmod 3==0),q+1+1+1,()):Row K141):=ha
  generalize mkT txt (.sl K141) aB k=L at*
  unfold c197_2;dsimp only;rw[aJ hb]
  rw[w0]
  rw[w1]
  rw[w2]
  rw[w3]
  refine(aF (Int.ofNat_lt.2 hi2)).trans ?_
  refine(aF (Int.natCast_nonneg _)).trans ?_
  refine(aL ha).trans ?_
  refine(aN (bne_self_eq_false _)).trans ?_
  refine(aF (Int.natCast_nonneg _)).trans ?_
  refine(aL ha).trans ?_
  refine(aN (bne_self_eq_false _)).trans ?_
  refine(aF (Int.natCast_nonneg _)).trans ?_
  refine(aL ha).trans ?_
  refine(aH (by decide)).trans ?_
  refine(aN (show(!(pP ((q+1+1).tmod 3==0) ((q+1+1).tmod 3==0)))=false by rw[dP];rfl)).trans ?_
  refine(aF (Int.natCast_nonneg _)).trans ?_
  refine(aL ha).trans ?_
  refine(aN (bne_self_eq_false _)).trans ?_
  have hfin:q+(1+(1+(1+(1+0))))=q+1+1+1+1:=by omega
  rw[hfin]
  first | done | rfl
 ·show c197_2 (aG p n) aA (mkT txt (.sl K141) aB k) rec (k+cnT (.sl K141) aB,((List.length (mkT txt (.sl K141) aB k):Nat):Int))=_
  unfold c197_2;simp only[bR,cond_false]
theorem hd198(aB:List (Row K147))(k:Int)(h0:0≤k)(h1:k+cnT (.sl K147) aB≤4611686018427387904)(hL:LmT (.sl K147) aB):Ran p 1 198 [.val false ⟨K36,(mkT txt (.sl K147) aB k,())⟩, .val false ⟨K3,(k,())⟩] ⟨[⟨K3,(k+cnT (.sl K147) aB,())⟩],[]⟩:=go198 fun n hn=>by
 refine Ev.eq (fun aA=>by unfold T198;rfl) ?_
 refine It.ev (c:=fun aA (_:Unit)=>c198_2 (aG p n) aA (mkT txt (.sl K147) aB k)) (i:=()) (r:=fun _=>some ⟨[⟨K3,(k+cnT (.sl K147) aB,())⟩],[]⟩) ?_ rfl
 have hlen:List.length aB≤4611686018427387904:=hL.1
 refine fO (mkR txt K147) (cnR K147) (eE K147) aB k 4611686018427387904 h0 h1 (fun i k=>(k,(i:Int))) (fun i hi q hi2 ha hk hB aA a rec=>?_) (fun aA a rec=>?_)
 ·have hb:i<9223372036854775807:=by omega
  have hx:=hL.2 i aB[i] (bP hi)
  generalize aB[i]=x at*
  have hc:cnR K147 x=(1+(1+(1+0))):=rfl
  have hr:mkR txt K147 x q=((q,q+1,q+1+1,()):Row K147):=rfl
  rw[hc] at hB ⊢
  rw[hr] at ha
  have w0:IntKind.i64.wrap (q+1)=q+1:=bG (by omega) (by omega)
  have w1:IntKind.i64.wrap (q+1+1)=q+1+1:=bG (by omega) (by omega)
  have w2:IntKind.i64.wrap (q+1+1+1)=q+1+1+1:=bG (by omega) (by omega)
  show c198_2 (aG p n) aA (mkT txt (.sl K147) aB k) rec (q,(i:Int))=rec (q+(1+(1+(1+0))),((i+1:Nat):Int))
  replace hi2:i<List.length (mkT txt (.sl K147) aB k):=hi2
  replace ha:at? (mkT txt (.sl K147) aB k) i=some ((q,q+1,q+1+1,()):Row K147):=ha
  generalize mkT txt (.sl K147) aB k=L at*
  unfold c198_2;dsimp only;rw[aJ hb]
  rw[w0]
  rw[w1]
  rw[w2]
  refine(aF (Int.ofNat_lt.2 hi2)).trans ?_
  refine(aF (Int.natCast_nonneg _)).trans ?_
  refine(aL ha).trans ?_
  refine(aN (bne_self_eq_false _)).trans ?_
  refine(aF (Int.natCast_nonneg _)).trans ?_
  refine(aL ha).trans ?_
  refine(aN (bne_self_eq_false _)).trans ?_
  refine(aF (Int.natCast_nonneg _)).trans ?_
  refine(aL ha).trans ?_
  refine(aN (bne_self_eq_false _)).trans ?_
  have hfin:q+(1+(1+(1+0)))=q+1+1+1:=by omega
  rw[hfin]
  first | done | rfl
 ·show c198_2 (aG p n) aA (mkT txt (.sl K147) aB k) rec (k+cnT (.sl K147) aB,((List.length (mkT txt (.sl K147) aB k):Nat):Int))=_
  unfold c198_2;simp only[bR,cond_false]
theorem hd200(aB:List (Row K165))(k:Int)(h0:0≤k)(h1:k+cnT (.sl K165) aB≤4611686018427387904)(hL:LmT (.sl K165) aB):Ran p 1 200 [.val false ⟨K25,(mkT txt (.sl K165) aB k,())⟩, .val false ⟨K3,(k,())⟩] ⟨[⟨K3,(k+cnT (.sl K165) aB,())⟩],[]⟩:=go200 fun n hn=>by
 refine Ev.eq (fun aA=>by unfold T200;rfl) ?_
 refine It.ev (c:=fun aA (_:Unit)=>c200_2 (aG p n) aA (mkT txt (.sl K165) aB k)) (i:=()) (r:=fun _=>some ⟨[⟨K3,(k+cnT (.sl K165) aB,())⟩],[]⟩) ?_ rfl
 have hlen:List.length aB≤4611686018427387904:=hL.1
 refine fO (mkR txt K165) (cnR K165) (eE K165) aB k 4611686018427387904 h0 h1 (fun i k=>(k,(i:Int))) (fun i hi q hi2 ha hk hB aA a rec=>?_) (fun aA a rec=>?_)
 ·have hb:i<9223372036854775807:=by omega
  have hx:=hL.2 i aB[i] (bP hi)
  generalize aB[i]=x at*
  have hc:cnR K165 x=(1+(1+0)):=rfl
  have hr:mkR txt K165 x q=((q,q+1,()):Row K165):=rfl
  rw[hc] at hB ⊢
  rw[hr] at ha
  have w0:IntKind.i64.wrap (q+1)=q+1:=bG (by omega) (by omega)
  have w1:IntKind.i64.wrap (q+1+1)=q+1+1:=bG (by omega) (by omega)
  show c200_2 (aG p n) aA (mkT txt (.sl K165) aB k) rec (q,(i:Int))=rec (q+(1+(1+0)),((i+1:Nat):Int))
  replace hi2:i<List.length (mkT txt (.sl K165) aB k):=hi2
  replace ha:at? (mkT txt (.sl K165) aB k) i=some ((q,q+1,()):Row K165):=ha
  generalize mkT txt (.sl K165) aB k=L at*
  unfold c200_2;dsimp only;rw[aJ hb]
  rw[w0]
  rw[w1]
  refine(aF (Int.ofNat_lt.2 hi2)).trans ?_
  refine(aF (Int.natCast_nonneg _)).trans ?_
  refine(aL ha).trans ?_
  refine(aN (bne_self_eq_false _)).trans ?_
  refine(aF (Int.natCast_nonneg _)).trans ?_
  refine(aL ha).trans ?_
  refine(aN (bne_self_eq_false _)).trans ?_
  have hfin:q+(1+(1+0))=q+1+1:=by omega
  rw[hfin]
  first | done | rfl
 ·show c200_2 (aG p n) aA (mkT txt (.sl K165) aB k) rec (k+cnT (.sl K165) aB,((List.length (mkT txt (.sl K165) aB k):Nat):Int))=_
  unfold c200_2;simp only[bR,cond_false]
theorem hd201(aB:List (Row K185))(k:Int)(h0:0≤k)(h1:k+cnT (.sl K185) aB≤4611686018427387904)(hL:LmT (.sl K185) aB):Ran p 1 201 [.val false ⟨K41,(mkT txt (.sl K185) aB k,())⟩, .val false ⟨K3,(k,())⟩] ⟨[⟨K3,(k+cnT (.sl K185) aB,())⟩],[]⟩:=go201 fun n hn=>by
 refine Ev.eq (fun aA=>by unfold T201;rfl) ?_
 refine It.ev (c:=fun aA (_:Unit)=>c201_2 (aG p n) aA (mkT txt (.sl K185) aB k)) (i:=()) (r:=fun _=>some ⟨[⟨K3,(k+cnT (.sl K185) aB,())⟩],[]⟩) ?_ rfl
 have hlen:List.length aB≤4611686018427387904:=hL.1
 refine fO (mkR txt K185) (cnR K185) (eE K185) aB k 4611686018427387904 h0 h1 (fun i k=>(k,(i:Int))) (fun i hi q hi2 ha hk hB aA a rec=>?_) (fun aA a rec=>?_)
 ·have hb:i<9223372036854775807:=by omega
  have hx:=hL.2 i aB[i] (bP hi)
  generalize aB[i]=x at*
  have hc:cnR K185 x=(1+(1+0)):=rfl
  have hr:mkR txt K185 x q=((q,q+1,()):Row K185):=rfl
  rw[hc] at hB ⊢
  rw[hr] at ha
  have w0:IntKind.i64.wrap (q+1)=q+1:=bG (by omega) (by omega)
  have w1:IntKind.i64.wrap (q+1+1)=q+1+1:=bG (by omega) (by omega)
  show c201_2 (aG p n) aA (mkT txt (.sl K185) aB k) rec (q,(i:Int))=rec (q+(1+(1+0)),((i+1:Nat):Int))
  replace hi2:i<List.length (mkT txt (.sl K185) aB k):=hi2
  replace ha:at? (mkT txt (.sl K185) aB k) i=some ((q,q+1,()):Row K185):=ha
  generalize mkT txt (.sl K185) aB k=L at*
  unfold c201_2;dsimp only;rw[aJ hb]
  rw[w0]
  rw[w1]
  refine(aF (Int.ofNat_lt.2 hi2)).trans ?_
  refine(aF (Int.natCast_nonneg _)).trans ?_
  refine(aL ha).trans ?_
  refine(aN (bne_self_eq_false _)).trans ?_
  refine(aF (Int.natCast_nonneg _)).trans ?_
  refine(aL ha).trans ?_
  refine(aN (bne_self_eq_false _)).trans ?_
  have hfin:q+(1+(1+0))=q+1+1:=by omega
  rw[hfin]
  first | done | rfl
 ·show c201_2 (aG p n) aA (mkT txt (.sl K185) aB k) rec (k+cnT (.sl K185) aB,((List.length (mkT txt (.sl K185) aB k):Nat):Int))=_
  unfold c201_2;simp only[bR,cond_false]
theorem mk185(a0:Row K30)(k:Int)(h0:0≤k)(h1:k+cnS K30 a0≤4611686018427387904)(hL:LmR K30 a0):Ran p 2 185 [.own true ⟨K30,a0⟩, .val false ⟨K3,(k,())⟩] ⟨[⟨K3,(k+cnS K30 a0,())⟩],[⟨K30,mkS txt K30 a0 k⟩]⟩:=go185 fun n hn=>Ev.now fun aA=>by
 have hc:cnS K30 a0=(cnT (.sl K3) a0.1+0):=rfl
 rw[hc] at h1 ⊢
 have n0:=bM (.sl K3) a0.1
 have f0:=mk45 a0.1 (k) (by omega) (by omega) (show LmT (.sl K3) a0.1 from hL.1) n (by omega)
 unfold T185
 refine(bU f0 _).trans ?_
 rw[show k+(cnT (.sl K3) a0.1+0)=k+cnT (.sl K3) a0.1 by omega]
 first | done | rfl
noncomputable def EZ(x:Row K28)(k:Int):Row K28:=(mkT txt (.sl K3) x.1 (k),x.2)
theorem mk187(aB:List (Row K28))(k:Int)(h0:0≤k)(h1:k+cnT (.sl K28) aB≤4611686018427387904)(hL:LmT (.sl K28) aB):Ran p 2 187 [.own false ⟨K34,(aB,())⟩, .val false ⟨K3,(k,())⟩] ⟨[⟨K3,(k+cnT (.sl K28) aB,())⟩],[⟨K34,(mkT txt (.sl K28) aB k,())⟩]⟩:=go187 fun n hn=>by
 refine Ev.eq (fun aA=>by unfold T187;rfl) ?_
 refine It.ev (c:=fun aA (_:Unit)=>c187_2 (aG p n) aA) (i:=()) (r:=fun _=>some ⟨[⟨K3,(k+cnT (.sl K28) aB,())⟩],[⟨K34,(mkT txt (.sl K28) aB k,())⟩]⟩) ?_ rfl
 have hlen:List.length aB≤4611686018427387904:=hL.1
 refine fN (mkR txt K28) (cnR K28) (eE K28) aB k 4611686018427387904 h0 h1 (fun i k ys=>(k,((i:Int),ys))) (fun i hi ys k hy ha hk hB aA a rec=>?_) (fun aA a rec=>?_)
 ·have hb:i<9223372036854775807:=by omega
  have hx:=hL.2 i aB[i] (bP hi)
  generalize aB[i]=x at*
  have hc:cnR K28 x=(cnT (.sl K3) x.1+0):=rfl
  have hr:mkR txt K28 x k=((mkT txt (.sl K3) x.1 (k),()):Row K28):=rfl
  rw[hc] at hB ⊢
  rw[hr]
  have n0:=bM (.sl K3) x.1
  have f0:=mk45 x.1 (k) (by omega) (by omega) (show LmT (.sl K3) x.1 from hx.1) n (by omega)
  have hy2:i<ys.length:=by rw[hy];exact hi
  show c187_2 (aG p n) aA rec (k,((i:Int),ys))=rec (k+(cnT (.sl K3) x.1+0),(((i+1:Nat):Int),ys.set i (mkT txt (.sl K3) x.1 (k),())))
  unfold c187_2;dsimp only;rw[aJ hb]
  have a0:=cO hy2 (EZ x k)
  refine(aF (Int.ofNat_lt.2 hy2)).trans ?_
  refine(aF (Int.natCast_nonneg _)).trans ?_
  refine(aL ha).trans ?_
  refine(aL ha).trans ?_
  refine(aL ha).trans ?_
  refine(bU f0 _).trans ?_
  refine(aL ha).trans ?_
  refine(cA (List.set ys i (EZ x k)) iX).trans ?_
  have hfin:k+(cnT (.sl K3) x.1+0)=k+cnT (.sl K3) x.1:=by omega
  rw[hfin]
  first | done | rfl
 ·show c187_2 (aG p n) aA rec (k+cnT (.sl K28) aB,(((List.length aB:Nat):Int),mkT txt (.sl K28) aB k))=_
  have hlm:List.length (mkT txt (.sl K28) aB k)=List.length aB:=bK _ _
  unfold c187_2;simp only[hlm,bR,cond_false]
noncomputable def EP(x:Row K163)(k:Int):Row K163:=(k,x.2)
noncomputable def EO(x:Row K163)(k:Int):Row K163:=(k,k+1,x.2.2)
noncomputable def EN(x:Row K163)(k:Int):Row K163:=(k,k+1,k+1+1,x.2.2.2)
noncomputable def EM(x:Row K163)(k:Int):Row K163:=(k,k+1,k+1+1,k+1+1+1,x.2.2.2.2)
noncomputable def EL(x:Row K163)(k:Int):Row K163:=(k,k+1,k+1+1,k+1+1+1,k+1+1+1+1,x.2.2.2.2.2)
noncomputable def EK(x:Row K163)(k:Int):Row K163:=(k,k+1,k+1+1,k+1+1+1,k+1+1+1+1,txt (k+1+1+1+1+1),x.2.2.2.2.2.2)
theorem mk191(aB:List (Row K163))(k:Int)(h0:0≤k)(h1:k+cnT (.sl K163) aB≤4611686018427387904)(hL:LmT (.sl K163) aB):Ran p 2 191 [.own false ⟨K24,(aB,())⟩, .val false ⟨K3,(k,())⟩] ⟨[⟨K3,(k+cnT (.sl K163) aB,())⟩],[⟨K24,(mkT txt (.sl K163) aB k,())⟩]⟩:=go191 fun n hn=>by
 refine Ev.eq (fun aA=>by unfold T191;rfl) ?_
 refine It.ev (c:=fun aA (_:Unit)=>c191_2 (aG p n) aA) (i:=()) (r:=fun _=>some ⟨[⟨K3,(k+cnT (.sl K163) aB,())⟩],[⟨K24,(mkT txt (.sl K163) aB k,())⟩]⟩) ?_ rfl
 have hlen:List.length aB≤4611686018427387904:=hL.1
 refine fN (mkR txt K163) (cnR K163) (eE K163) aB k 4611686018427387904 h0 h1 (fun i k ys=>(k,((i:Int),ys))) (fun i hi ys k hy ha hk hB aA a rec=>?_) (fun aA a rec=>?_)
 ·have hb:i<9223372036854775807:=by omega
  have hx:=hL.2 i aB[i] (bP hi)
  generalize aB[i]=x at*
  have hc:cnR K163 x=(1+(1+(1+(1+(1+(1+0)))))):=rfl
  have hr:mkR txt K163 x k=((k,k+1,k+1+1,k+1+1+1,k+1+1+1+1,txt (k+1+1+1+1+1),()):Row K163):=rfl
  rw[hc] at hB ⊢
  rw[hr]
  have f5:=CF (k+1+1+1+1+1) (by omega) (by omega) n (by omega)
  have w0:IntKind.i64.wrap (k+1)=k+1:=bG (by omega) (by omega)
  have w1:IntKind.i64.wrap (k+1+1)=k+1+1:=bG (by omega) (by omega)
  have w2:IntKind.i64.wrap (k+1+1+1)=k+1+1+1:=bG (by omega) (by omega)
  have w3:IntKind.i64.wrap (k+1+1+1+1)=k+1+1+1+1:=bG (by omega) (by omega)
  have w4:IntKind.i64.wrap (k+1+1+1+1+1)=k+1+1+1+1+1:=bG (by omega) (by omega)
  have w5:IntKind.i64.wrap (k+1+1+1+1+1+1)=k+1+1+1+1+1+1:=bG (by omega) (by omega)
  have hy2:i<ys.length:=by rw[hy];exact hi
  show c191_2 (aG p n) aA rec (k,((i:Int),ys))=rec (k+(1+(1+(1+(1+(1+(1+0)))))),(((i+1:Nat):Int),ys.set i (k,k+1,k+1+1,k+1+1+1,k+1+1+1+1,txt (k+1+1+1+1+1),())))
  unfold c191_2;dsimp only;rw[aJ hb]
  have a0:=cO hy2 (EP x k)
  have a1:=cO hy2 (EO x k)
  have a2:=cO hy2 (EN x k)
  have a3:=cO hy2 (EM x k)
  have a4:=cO hy2 (EL x k)
  have a5:=cO hy2 (EK x k)
  rw[w0]
  rw[w1]
  rw[w2]
  rw[w3]
  rw[w4]
  rw[w5]
  refine(aF (Int.ofNat_lt.2 hy2)).trans ?_
  refine(aF (Int.natCast_nonneg _)).trans ?_
  refine(aL ha).trans ?_
  refine(aL ha).trans ?_
  refine(cA (List.set ys i (EP x k)) iX).trans ?_
  refine(aF (Int.natCast_nonneg _)).trans ?_
  refine(aL a0).trans ?_
  refine(aL a0).trans ?_
  refine(cA (List.set ys i (EO x k)) cH).trans ?_
  refine(aF (Int.natCast_nonneg _)).trans ?_
  refine(aL a1).trans ?_
  refine(aL a1).trans ?_
  refine(cA (List.set ys i (EN x k)) cH).trans ?_
  refine(aF (Int.natCast_nonneg _)).trans ?_
  refine(aL a2).trans ?_
  refine(aL a2).trans ?_
  refine(cA (List.set ys i (EM x k)) cH).trans ?_
  refine(aF (Int.natCast_nonneg _)).trans ?_
  refine(aL a3).trans ?_
  refine(aL a3).trans ?_
  refine(cA (List.set ys i (EL x k)) cH).trans ?_
  refine(aQ f5 _).trans ?_
  refine(aF (Int.natCast_nonneg _)).trans ?_
  refine(aL a4).trans ?_
  refine(aL a4).trans ?_
  refine(cA (List.set ys i (EK x k)) cH).trans ?_
  have hfin:k+(1+(1+(1+(1+(1+(1+0))))))=k+1+1+1+1+1+1:=by omega
  rw[hfin]
  first | done | rfl
 ·show c191_2 (aG p n) aA rec (k+cnT (.sl K163) aB,(((List.length aB:Nat):Int),mkT txt (.sl K163) aB k))=_
  have hlm:List.length (mkT txt (.sl K163) aB k)=List.length aB:=bK _ _
  unfold c191_2;simp only[hlm,bR,cond_false]
theorem hd194(a0:Row K30)(k:Int)(h0:0≤k)(h1:k+cnS K30 a0≤4611686018427387904)(hL:LmR K30 a0):Ran p 2 194 [.val true ⟨K30,mkS txt K30 a0 k⟩, .val false ⟨K3,(k,())⟩] ⟨[⟨K3,(k+cnS K30 a0,())⟩],[]⟩:=go194 fun n hn=>Ev.now fun aA=>by
 have hc:cnS K30 a0=(cnT (.sl K3) a0.1+0):=rfl
 rw[hc] at h1 ⊢
 have n0:=bM (.sl K3) a0.1
 have f0:=hd79 a0.1 (k) (by omega) (by omega) (show LmT (.sl K3) a0.1 from hL.1) n (by omega)
 unfold T194
 refine(aQ f0 _).trans ?_
 refine(aH (show ¬ (k+cnT (.sl K3) a0.1<0) by omega)).trans ?_
 rw[show k+(cnT (.sl K3) a0.1+0)=k+cnT (.sl K3) a0.1 by omega]
 first | done | rfl
theorem hd196(aB:List (Row K28))(k:Int)(h0:0≤k)(h1:k+cnT (.sl K28) aB≤4611686018427387904)(hL:LmT (.sl K28) aB):Ran p 2 196 [.val false ⟨K34,(mkT txt (.sl K28) aB k,())⟩, .val false ⟨K3,(k,())⟩] ⟨[⟨K3,(k+cnT (.sl K28) aB,())⟩],[]⟩:=go196 fun n hn=>by
 refine Ev.eq (fun aA=>by unfold T196;rfl) ?_
 refine It.ev (c:=fun aA (_:Unit)=>c196_2 (aG p n) aA (mkT txt (.sl K28) aB k)) (i:=()) (r:=fun _=>some ⟨[⟨K3,(k+cnT (.sl K28) aB,())⟩],[]⟩) ?_ rfl
 have hlen:List.length aB≤4611686018427387904:=hL.1
 refine fO (mkR txt K28) (cnR K28) (eE K28) aB k 4611686018427387904 h0 h1 (fun i k=>(k,(i:Int))) (fun i hi q hi2 ha hk hB aA a rec=>?_) (fun aA a rec=>?_)
 ·have hb:i<9223372036854775807:=by omega
  have hx:=hL.2 i aB[i] (bP hi)
  generalize aB[i]=x at*
  have hc:cnR K28 x=(cnT (.sl K3) x.1+0):=rfl
  have hr:mkR txt K28 x q=((mkT txt (.sl K3) x.1 (q),()):Row K28):=rfl
  rw[hc] at hB ⊢
  rw[hr] at ha
  have n0:=bM (.sl K3) x.1
  have f0:=hd79 x.1 (q) (by omega) (by omega) (show LmT (.sl K3) x.1 from hx.1) n (by omega)
  have d0:decide (q+cnT (.sl K3) x.1<0)=false:=decide_eq_false (by omega)
  show c196_2 (aG p n) aA (mkT txt (.sl K28) aB k) rec (q,(i:Int))=rec (q+(cnT (.sl K3) x.1+0),((i+1:Nat):Int))
  replace hi2:i<List.length (mkT txt (.sl K28) aB k):=hi2
  replace ha:at? (mkT txt (.sl K28) aB k) i=some ((mkT txt (.sl K3) x.1 (q),()):Row K28):=ha
  generalize mkT txt (.sl K28) aB k=L at*
  unfold c196_2;dsimp only;rw[aJ hb]
  refine(aF (Int.ofNat_lt.2 hi2)).trans ?_
  refine(aF (Int.natCast_nonneg _)).trans ?_
  refine(aL ha).trans ?_
  refine(aQ f0 _).trans ?_
  refine(aN d0).trans ?_
  have hfin:q+(cnT (.sl K3) x.1+0)=q+cnT (.sl K3) x.1:=by omega
  rw[hfin]
  first | done | rfl
 ·show c196_2 (aG p n) aA (mkT txt (.sl K28) aB k) rec (k+cnT (.sl K28) aB,((List.length (mkT txt (.sl K28) aB k):Nat):Int))=_
  unfold c196_2;simp only[bR,cond_false]
theorem hd199(aB:List (Row K163))(k:Int)(h0:0≤k)(h1:k+cnT (.sl K163) aB≤4611686018427387904)(hL:LmT (.sl K163) aB):Ran p 2 199 [.val false ⟨K24,(mkT txt (.sl K163) aB k,())⟩, .val false ⟨K3,(k,())⟩] ⟨[⟨K3,(k+cnT (.sl K163) aB,())⟩],[]⟩:=go199 fun n hn=>by
 refine Ev.eq (fun aA=>by unfold T199;rfl) ?_
 refine It.ev (c:=fun aA (_:Unit)=>c199_2 (aG p n) aA (mkT txt (.sl K163) aB k)) (i:=()) (r:=fun _=>some ⟨[⟨K3,(k+cnT (.sl K163) aB,())⟩],[]⟩) ?_ rfl
 have hlen:List.length aB≤4611686018427387904:=hL.1
 refine fO (mkR txt K163) (cnR K163) (eE K163) aB k 4611686018427387904 h0 h1 (fun i k=>(k,(i:Int))) (fun i hi q hi2 ha hk hB aA a rec=>?_) (fun aA a rec=>?_)
 ·have hb:i<9223372036854775807:=by omega
  have hx:=hL.2 i aB[i] (bP hi)
  generalize aB[i]=x at*
  have hc:cnR K163 x=(1+(1+(1+(1+(1+(1+0)))))):=rfl
  have hr:mkR txt K163 x q=((q,q+1,q+1+1,q+1+1+1,q+1+1+1+1,txt (q+1+1+1+1+1),()):Row K163):=rfl
  rw[hc] at hB ⊢
  rw[hr] at ha
  have f5:=CF (q+1+1+1+1+1) (by omega) (by omega) n (by omega)
  have w0:IntKind.i64.wrap (q+1)=q+1:=bG (by omega) (by omega)
  have w1:IntKind.i64.wrap (q+1+1)=q+1+1:=bG (by omega) (by omega)
  have w2:IntKind.i64.wrap (q+1+1+1)=q+1+1+1:=bG (by omega) (by omega)
  have w3:IntKind.i64.wrap (q+1+1+1+1)=q+1+1+1+1:=bG (by omega) (by omega)
  have w4:IntKind.i64.wrap (q+1+1+1+1+1)=q+1+1+1+1+1:=bG (by omega) (by omega)
  have w5:IntKind.i64.wrap (q+1+1+1+1+1+1)=q+1+1+1+1+1+1:=bG (by omega) (by omega)
  show c199_2 (aG p n) aA (mkT txt (.sl K163) aB k) rec (q,(i:Int))=rec (q+(1+(1+(1+(1+(1+(1+0)))))),((i+1:Nat):Int))
  replace hi2:i<List.length (mkT txt (.sl K163) aB k):=hi2
  replace ha:at? (mkT txt (.sl K163) aB k) i=some ((q,q+1,q+1+1,q+1+1+1,q+1+1+1+1,txt (q+1+1+1+1+1),()):Row K163):=ha
  generalize mkT txt (.sl K163) aB k=L at*
  unfold c199_2;dsimp only;rw[aJ hb]
  rw[w0]
  rw[w1]
  rw[w2]
  rw[w3]
  rw[w4]
  rw[w5]
  refine(aF (Int.ofNat_lt.2 hi2)).trans ?_
  refine(aF (Int.natCast_nonneg _)).trans ?_
  refine(aL ha).trans ?_
  refine(aN (bne_self_eq_false _)).trans ?_
  refine(aF (Int.natCast_nonneg _)).trans ?_
  refine(aL ha).trans ?_
  refine(aN (bne_self_eq_false _)).trans ?_
  refine(aF (Int.natCast_nonneg _)).trans ?_
  refine(aL ha).trans ?_
  refine(aN (bne_self_eq_false _)).trans ?_
  refine(aF (Int.natCast_nonneg _)).trans ?_
  refine(aL ha).trans ?_
  refine(aN (bne_self_eq_false _)).trans ?_
  refine(aF (Int.natCast_nonneg _)).trans ?_
  refine(aL ha).trans ?_
  refine(aN (bne_self_eq_false _)).trans ?_
  refine(aF (Int.natCast_nonneg _)).trans ?_
  refine(aL ha).trans ?_
  refine(aQ f5 _).trans ?_
  refine(aN (show(!(ByteArray.toList (txt (q+1+1+1+1+1))==ByteArray.toList (txt (q+1+1+1+1+1))))=false by rw[beq_self_eq_true];rfl)).trans ?_
  have hfin:q+(1+(1+(1+(1+(1+(1+0))))))=q+1+1+1+1+1+1:=by omega
  rw[hfin]
  first | done | rfl
 ·show c199_2 (aG p n) aA (mkT txt (.sl K163) aB k) rec (k+cnT (.sl K163) aB,((List.length (mkT txt (.sl K163) aB k):Nat):Int))=_
  unfold c199_2;simp only[bR,cond_false]
noncomputable def GP(x:Row K43)(k:Int):Row K43:=(k,x.2)
noncomputable def GO(x:Row K43)(k:Int):Row K43:=(k,k+1,x.2.2)
noncomputable def GN(x:Row K43)(k:Int):Row K43:=(k,k+1,k+1+1,x.2.2.2)
noncomputable def GM(x:Row K43)(k:Int):Row K43:=(k,k+1,k+1+1,k+1+1+1,x.2.2.2.2)
noncomputable def GL(x:Row K43)(k:Int):Row K43:=(k,k+1,k+1+1,k+1+1+1,k+1+1+1+1,x.2.2.2.2.2)
noncomputable def GK(x:Row K43)(k:Int):Row K43:=(k,k+1,k+1+1,k+1+1+1,k+1+1+1+1,mkT txt (.sl K3) x.2.2.2.2.2.1 (k+1+1+1+1+1),x.2.2.2.2.2.2)
noncomputable def GJ(x:Row K43)(k:Int):Row K43:=(k,k+1,k+1+1,k+1+1+1,k+1+1+1+1,mkT txt (.sl K3) x.2.2.2.2.2.1 (k+1+1+1+1+1),k+1+1+1+1+1+cnT (.sl K3) x.2.2.2.2.2.1,x.2.2.2.2.2.2.2)
noncomputable def GI(x:Row K43)(k:Int):Row K43:=(k,k+1,k+1+1,k+1+1+1,k+1+1+1+1,mkT txt (.sl K3) x.2.2.2.2.2.1 (k+1+1+1+1+1),k+1+1+1+1+1+cnT (.sl K3) x.2.2.2.2.2.1,mkT txt (.sl K3) x.2.2.2.2.2.2.2.1 (k+1+1+1+1+1+cnT (.sl K3) x.2.2.2.2.2.1+1),x.2.2.2.2.2.2.2.2)
noncomputable def GH(x:Row K43)(k:Int):Row K43:=(k,k+1,k+1+1,k+1+1+1,k+1+1+1+1,mkT txt (.sl K3) x.2.2.2.2.2.1 (k+1+1+1+1+1),k+1+1+1+1+1+cnT (.sl K3) x.2.2.2.2.2.1,mkT txt (.sl K3) x.2.2.2.2.2.2.2.1 (k+1+1+1+1+1+cnT (.sl K3) x.2.2.2.2.2.1+1),mkT txt (.sl K3) x.2.2.2.2.2.2.2.2.1 (k+1+1+1+1+1+cnT (.sl K3) x.2.2.2.2.2.1+1+cnT (.sl K3) x.2.2.2.2.2.2.2.1),x.2.2.2.2.2.2.2.2.2)
noncomputable def GG(x:Row K43)(k:Int):Row K43:=(k,k+1,k+1+1,k+1+1+1,k+1+1+1+1,mkT txt (.sl K3) x.2.2.2.2.2.1 (k+1+1+1+1+1),k+1+1+1+1+1+cnT (.sl K3) x.2.2.2.2.2.1,mkT txt (.sl K3) x.2.2.2.2.2.2.2.1 (k+1+1+1+1+1+cnT (.sl K3) x.2.2.2.2.2.1+1),mkT txt (.sl K3) x.2.2.2.2.2.2.2.2.1 (k+1+1+1+1+1+cnT (.sl K3) x.2.2.2.2.2.1+1+cnT (.sl K3) x.2.2.2.2.2.2.2.1),mkT txt (.sl K163) x.2.2.2.2.2.2.2.2.2.1 (k+1+1+1+1+1+cnT (.sl K3) x.2.2.2.2.2.1+1+cnT (.sl K3) x.2.2.2.2.2.2.2.1+cnT (.sl K3) x.2.2.2.2.2.2.2.2.1),x.2.2.2.2.2.2.2.2.2.2)
noncomputable def EF(x:Row K43)(k:Int):Row K43:=(k,k+1,k+1+1,k+1+1+1,k+1+1+1+1,mkT txt (.sl K3) x.2.2.2.2.2.1 (k+1+1+1+1+1),k+1+1+1+1+1+cnT (.sl K3) x.2.2.2.2.2.1,mkT txt (.sl K3) x.2.2.2.2.2.2.2.1 (k+1+1+1+1+1+cnT (.sl K3) x.2.2.2.2.2.1+1),mkT txt (.sl K3) x.2.2.2.2.2.2.2.2.1 (k+1+1+1+1+1+cnT (.sl K3) x.2.2.2.2.2.1+1+cnT (.sl K3) x.2.2.2.2.2.2.2.1),mkT txt (.sl K163) x.2.2.2.2.2.2.2.2.2.1 (k+1+1+1+1+1+cnT (.sl K3) x.2.2.2.2.2.1+1+cnT (.sl K3) x.2.2.2.2.2.2.2.1+cnT (.sl K3) x.2.2.2.2.2.2.2.2.1),mkT txt (.sl K165) x.2.2.2.2.2.2.2.2.2.2.1 (k+1+1+1+1+1+cnT (.sl K3) x.2.2.2.2.2.1+1+cnT (.sl K3) x.2.2.2.2.2.2.2.1+cnT (.sl K3) x.2.2.2.2.2.2.2.2.1+cnT (.sl K163) x.2.2.2.2.2.2.2.2.2.1),x.2.2.2.2.2.2.2.2.2.2.2)
noncomputable def EE(x:Row K43)(k:Int):Row K43:=(k,k+1,k+1+1,k+1+1+1,k+1+1+1+1,mkT txt (.sl K3) x.2.2.2.2.2.1 (k+1+1+1+1+1),k+1+1+1+1+1+cnT (.sl K3) x.2.2.2.2.2.1,mkT txt (.sl K3) x.2.2.2.2.2.2.2.1 (k+1+1+1+1+1+cnT (.sl K3) x.2.2.2.2.2.1+1),mkT txt (.sl K3) x.2.2.2.2.2.2.2.2.1 (k+1+1+1+1+1+cnT (.sl K3) x.2.2.2.2.2.1+1+cnT (.sl K3) x.2.2.2.2.2.2.2.1),mkT txt (.sl K163) x.2.2.2.2.2.2.2.2.2.1 (k+1+1+1+1+1+cnT (.sl K3) x.2.2.2.2.2.1+1+cnT (.sl K3) x.2.2.2.2.2.2.2.1+cnT (.sl K3) x.2.2.2.2.2.2.2.2.1),mkT txt (.sl K165) x.2.2.2.2.2.2.2.2.2.2.1 (k+1+1+1+1+1+cnT (.sl K3) x.2.2.2.2.2.1+1+cnT (.sl K3) x.2.2.2.2.2.2.2.1+cnT (.sl K3) x.2.2.2.2.2.2.2.2.1+cnT (.sl K163) x.2.2.2.2.2.2.2.2.2.1),mkT txt (.sl K185) x.2.2.2.2.2.2.2.2.2.2.2.1 (k+1+1+1+1+1+cnT (.sl K3) x.2.2.2.2.2.1+1+cnT (.sl K3) x.2.2.2.2.2.2.2.1+cnT (.sl K3) x.2.2.2.2.2.2.2.2.1+cnT (.sl K163) x.2.2.2.2.2.2.2.2.2.1+cnT (.sl K165) x.2.2.2.2.2.2.2.2.2.2.1),x.2.2.2.2.2.2.2.2.2.2.2.2)
theorem mk56(aB:List (Row K43))(k:Int)(h0:0≤k)(h1:k+cnT (.sl K43) aB≤4611686018427387904)(hL:LmT (.sl K43) aB):Ran p 3 56 [.own false ⟨K49,(aB,())⟩, .val false ⟨K3,(k,())⟩] ⟨[⟨K3,(k+cnT (.sl K43) aB,())⟩],[⟨K49,(mkT txt (.sl K43) aB k,())⟩]⟩:=go56 fun n hn=>by
 refine Ev.eq (fun aA=>by unfold T56;rfl) ?_
 refine It.ev (c:=fun aA (_:Unit)=>c56_2 (aG p n) aA) (i:=()) (r:=fun _=>some ⟨[⟨K3,(k+cnT (.sl K43) aB,())⟩],[⟨K49,(mkT txt (.sl K43) aB k,())⟩]⟩) ?_ rfl
 have hlen:List.length aB≤4611686018427387904:=hL.1
 refine fN (mkR txt K43) (cnR K43) (eE K43) aB k 4611686018427387904 h0 h1 (fun i k ys=>(k,((i:Int),ys))) (fun i hi ys k hy ha hk hB aA a rec=>?_) (fun aA a rec=>?_)
 ·have hb:i<9223372036854775807:=by omega
  have hx:=hL.2 i aB[i] (bP hi)
  generalize aB[i]=x at*
  have hc:cnR K43 x=(1+(1+(1+(1+(1+(cnT (.sl K3) x.2.2.2.2.2.1+(1+(cnT (.sl K3) x.2.2.2.2.2.2.2.1+(cnT (.sl K3) x.2.2.2.2.2.2.2.2.1+(cnT (.sl K163) x.2.2.2.2.2.2.2.2.2.1+(cnT (.sl K165) x.2.2.2.2.2.2.2.2.2.2.1+(cnT (.sl K185) x.2.2.2.2.2.2.2.2.2.2.2.1+0)))))))))))):=rfl
  have hr:mkR txt K43 x k=((k,k+1,k+1+1,k+1+1+1,k+1+1+1+1,mkT txt (.sl K3) x.2.2.2.2.2.1 (k+1+1+1+1+1),k+1+1+1+1+1+cnT (.sl K3) x.2.2.2.2.2.1,mkT txt (.sl K3) x.2.2.2.2.2.2.2.1 (k+1+1+1+1+1+cnT (.sl K3) x.2.2.2.2.2.1+1),mkT txt (.sl K3) x.2.2.2.2.2.2.2.2.1 (k+1+1+1+1+1+cnT (.sl K3) x.2.2.2.2.2.1+1+cnT (.sl K3) x.2.2.2.2.2.2.2.1),mkT txt (.sl K163) x.2.2.2.2.2.2.2.2.2.1 (k+1+1+1+1+1+cnT (.sl K3) x.2.2.2.2.2.1+1+cnT (.sl K3) x.2.2.2.2.2.2.2.1+cnT (.sl K3) x.2.2.2.2.2.2.2.2.1),mkT txt (.sl K165) x.2.2.2.2.2.2.2.2.2.2.1 (k+1+1+1+1+1+cnT (.sl K3) x.2.2.2.2.2.1+1+cnT (.sl K3) x.2.2.2.2.2.2.2.1+cnT (.sl K3) x.2.2.2.2.2.2.2.2.1+cnT (.sl K163) x.2.2.2.2.2.2.2.2.2.1),mkT txt (.sl K185) x.2.2.2.2.2.2.2.2.2.2.2.1 (k+1+1+1+1+1+cnT (.sl K3) x.2.2.2.2.2.1+1+cnT (.sl K3) x.2.2.2.2.2.2.2.1+cnT (.sl K3) x.2.2.2.2.2.2.2.2.1+cnT (.sl K163) x.2.2.2.2.2.2.2.2.2.1+cnT (.sl K165) x.2.2.2.2.2.2.2.2.2.2.1),()):Row K43):=rfl
  rw[hc] at hB ⊢
  rw[hr]
  have n5:=bM (.sl K3) x.2.2.2.2.2.1
  have n7:=bM (.sl K3) x.2.2.2.2.2.2.2.1
  have n8:=bM (.sl K3) x.2.2.2.2.2.2.2.2.1
  have n9:=bM (.sl K163) x.2.2.2.2.2.2.2.2.2.1
  have n10:=bM (.sl K165) x.2.2.2.2.2.2.2.2.2.2.1
  have n11:=bM (.sl K185) x.2.2.2.2.2.2.2.2.2.2.2.1
  have f5:=mk45 x.2.2.2.2.2.1 (k+1+1+1+1+1) (by omega) (by omega) (show LmT (.sl K3) x.2.2.2.2.2.1 from hx.2.2.2.2.2.1) n (by omega)
  have f7:=mk45 x.2.2.2.2.2.2.2.1 (k+1+1+1+1+1+cnT (.sl K3) x.2.2.2.2.2.1+1) (by omega) (by omega) (show LmT (.sl K3) x.2.2.2.2.2.2.2.1 from hx.2.2.2.2.2.2.2.1) n (by omega)
  have f8:=mk45 x.2.2.2.2.2.2.2.2.1 (k+1+1+1+1+1+cnT (.sl K3) x.2.2.2.2.2.1+1+cnT (.sl K3) x.2.2.2.2.2.2.2.1) (by omega) (by omega) (show LmT (.sl K3) x.2.2.2.2.2.2.2.2.1 from hx.2.2.2.2.2.2.2.2.1) n (by omega)
  have f9:=mk191 x.2.2.2.2.2.2.2.2.2.1 (k+1+1+1+1+1+cnT (.sl K3) x.2.2.2.2.2.1+1+cnT (.sl K3) x.2.2.2.2.2.2.2.1+cnT (.sl K3) x.2.2.2.2.2.2.2.2.1) (by omega) (by omega) (show LmT (.sl K163) x.2.2.2.2.2.2.2.2.2.1 from hx.2.2.2.2.2.2.2.2.2.1) n (by omega)
  have f10:=mk192 x.2.2.2.2.2.2.2.2.2.2.1 (k+1+1+1+1+1+cnT (.sl K3) x.2.2.2.2.2.1+1+cnT (.sl K3) x.2.2.2.2.2.2.2.1+cnT (.sl K3) x.2.2.2.2.2.2.2.2.1+cnT (.sl K163) x.2.2.2.2.2.2.2.2.2.1) (by omega) (by omega) (show LmT (.sl K165) x.2.2.2.2.2.2.2.2.2.2.1 from hx.2.2.2.2.2.2.2.2.2.2.1) n (by omega)
  have f11:=mk190 x.2.2.2.2.2.2.2.2.2.2.2.1 (k+1+1+1+1+1+cnT (.sl K3) x.2.2.2.2.2.1+1+cnT (.sl K3) x.2.2.2.2.2.2.2.1+cnT (.sl K3) x.2.2.2.2.2.2.2.2.1+cnT (.sl K163) x.2.2.2.2.2.2.2.2.2.1+cnT (.sl K165) x.2.2.2.2.2.2.2.2.2.2.1) (by omega) (by omega) (show LmT (.sl K185) x.2.2.2.2.2.2.2.2.2.2.2.1 from hx.2.2.2.2.2.2.2.2.2.2.2.1) n (by omega)
  have w0:IntKind.i64.wrap (k+1)=k+1:=bG (by omega) (by omega)
  have w1:IntKind.i64.wrap (k+1+1)=k+1+1:=bG (by omega) (by omega)
  have w2:IntKind.i64.wrap (k+1+1+1)=k+1+1+1:=bG (by omega) (by omega)
  have w3:IntKind.i64.wrap (k+1+1+1+1)=k+1+1+1+1:=bG (by omega) (by omega)
  have w4:IntKind.i64.wrap (k+1+1+1+1+1)=k+1+1+1+1+1:=bG (by omega) (by omega)
  have w6:IntKind.i64.wrap (k+1+1+1+1+1+cnT (.sl K3) x.2.2.2.2.2.1+1)=k+1+1+1+1+1+cnT (.sl K3) x.2.2.2.2.2.1+1:=bG (by omega) (by omega)
  have hy2:i<ys.length:=by rw[hy];exact hi
  show c56_2 (aG p n) aA rec (k,((i:Int),ys))=rec (k+(1+(1+(1+(1+(1+(cnT (.sl K3) x.2.2.2.2.2.1+(1+(cnT (.sl K3) x.2.2.2.2.2.2.2.1+(cnT (.sl K3) x.2.2.2.2.2.2.2.2.1+(cnT (.sl K163) x.2.2.2.2.2.2.2.2.2.1+(cnT (.sl K165) x.2.2.2.2.2.2.2.2.2.2.1+(cnT (.sl K185) x.2.2.2.2.2.2.2.2.2.2.2.1+0)))))))))))),(((i+1:Nat):Int),ys.set i (k,k+1,k+1+1,k+1+1+1,k+1+1+1+1,mkT txt (.sl K3) x.2.2.2.2.2.1 (k+1+1+1+1+1),k+1+1+1+1+1+cnT (.sl K3) x.2.2.2.2.2.1,mkT txt (.sl K3) x.2.2.2.2.2.2.2.1 (k+1+1+1+1+1+cnT (.sl K3) x.2.2.2.2.2.1+1),mkT txt (.sl K3) x.2.2.2.2.2.2.2.2.1 (k+1+1+1+1+1+cnT (.sl K3) x.2.2.2.2.2.1+1+cnT (.sl K3) x.2.2.2.2.2.2.2.1),mkT txt (.sl K163) x.2.2.2.2.2.2.2.2.2.1 (k+1+1+1+1+1+cnT (.sl K3) x.2.2.2.2.2.1+1+cnT (.sl K3) x.2.2.2.2.2.2.2.1+cnT (.sl K3) x.2.2.2.2.2.2.2.2.1),mkT txt (.sl K165) x.2.2.2.2.2.2.2.2.2.2.1 (k+1+1+1+1+1+cnT (.sl K3) x.2.2.2.2.2.1+1+cnT (.sl K3) x.2.2.2.2.2.2.2.1+cnT (.sl K3) x.2.2.2.2.2.2.2.2.1+cnT (.sl K163) x.2.2.2.2.2.2.2.2.2.1),mkT txt (.sl K185) x.2.2.2.2.2.2.2.2.2.2.2.1 (k+1+1+1+1+1+cnT (.sl K3) x.2.2.2.2.2.1+1+cnT (.sl K3) x.2.2.2.2.2.2.2.1+cnT (.sl K3) x.2.2.2.2.2.2.2.2.1+cnT (.sl K163) x.2.2.2.2.2.2.2.2.2.1+cnT (.sl K165) x.2.2.2.2.2.2.2.2.2.2.1),())))
  unfold c56_2;dsimp only;rw[aJ hb]
  have a0:=cO hy2 (GP x k)
  have a1:=cO hy2 (GO x k)
  have a2:=cO hy2 (GN x k)
  have a3:=cO hy2 (GM x k)
  have a4:=cO hy2 (GL x k)
  have a5:=cO hy2 (GK x k)
  have a6:=cO hy2 (GJ x k)
  have a7:=cO hy2 (GI x k)
  have a8:=cO hy2 (GH x k)
  have a9:=cO hy2 (GG x k)
  have a10:=cO hy2 (EF x k)
  have a11:=cO hy2 (EE x k)
  rw[w0]
  rw[w1]
  rw[w2]
  rw[w3]
  rw[w4]
  refine(aF (Int.ofNat_lt.2 hy2)).trans ?_
  refine(aF (Int.natCast_nonneg _)).trans ?_
  refine(aL ha).trans ?_
  refine(aL ha).trans ?_
  refine(cA (List.set ys i (GP x k)) iX).trans ?_
  refine(aF (Int.natCast_nonneg _)).trans ?_
  refine(aL a0).trans ?_
  refine(aL a0).trans ?_
  refine(cA (List.set ys i (GO x k)) cH).trans ?_
  refine(aF (Int.natCast_nonneg _)).trans ?_
  refine(aL a1).trans ?_
  refine(aL a1).trans ?_
  refine(cA (List.set ys i (GN x k)) cH).trans ?_
  refine(aF (Int.natCast_nonneg _)).trans ?_
  refine(aL a2).trans ?_
  refine(aL a2).trans ?_
  refine(cA (List.set ys i (GM x k)) cH).trans ?_
  refine(aF (Int.natCast_nonneg _)).trans ?_
  refine(aL a3).trans ?_
  refine(aL a3).trans ?_
  refine(cA (List.set ys i (GL x k)) cH).trans ?_
  refine(aF (Int.natCast_nonneg _)).trans ?_
  refine(aL a4).trans ?_
  refine(aL a4).trans ?_
  refine(aL a4).trans ?_
  refine(bU f5 _).trans ?_
  rw[w6]
  refine(aL a4).trans ?_
  refine(cA (List.set ys i (GK x k)) cH).trans ?_
  refine(aF (Int.natCast_nonneg _)).trans ?_
  refine(aL a5).trans ?_
  refine(aL a5).trans ?_
  refine(cA (List.set ys i (GJ x k)) cH).trans ?_
  refine(aF (Int.natCast_nonneg _)).trans ?_
  refine(aL a6).trans ?_
  refine(aL a6).trans ?_
  refine(aL a6).trans ?_
  refine(bU f7 _).trans ?_
  refine(aL a6).trans ?_
  refine(cA (List.set ys i (GI x k)) cH).trans ?_
  refine(aF (Int.natCast_nonneg _)).trans ?_
  refine(aL a7).trans ?_
  refine(aL a7).trans ?_
  refine(aL a7).trans ?_
  refine(bU f8 _).trans ?_
  refine(aL a7).trans ?_
  refine(cA (List.set ys i (GH x k)) cH).trans ?_
  refine(aF (Int.natCast_nonneg _)).trans ?_
  refine(aL a8).trans ?_
  refine(aL a8).trans ?_
  refine(aL a8).trans ?_
  refine(bU f9 _).trans ?_
  refine(aL a8).trans ?_
  refine(cA (List.set ys i (GG x k)) cH).trans ?_
  refine(aF (Int.natCast_nonneg _)).trans ?_
  refine(aL a9).trans ?_
  refine(aL a9).trans ?_
  refine(aL a9).trans ?_
  refine(bU f10 _).trans ?_
  refine(aL a9).trans ?_
  refine(cA (List.set ys i (EF x k)) cH).trans ?_
  refine(aF (Int.natCast_nonneg _)).trans ?_
  refine(aL a10).trans ?_
  refine(aL a10).trans ?_
  refine(aL a10).trans ?_
  refine(bU f11 _).trans ?_
  refine(aL a10).trans ?_
  refine(cA (List.set ys i (EE x k)) cH).trans ?_
  have hfin:k+(1+(1+(1+(1+(1+(cnT (.sl K3) x.2.2.2.2.2.1+(1+(cnT (.sl K3) x.2.2.2.2.2.2.2.1+(cnT (.sl K3) x.2.2.2.2.2.2.2.2.1+(cnT (.sl K163) x.2.2.2.2.2.2.2.2.2.1+(cnT (.sl K165) x.2.2.2.2.2.2.2.2.2.2.1+(cnT (.sl K185) x.2.2.2.2.2.2.2.2.2.2.2.1+0))))))))))))=k+1+1+1+1+1+cnT (.sl K3) x.2.2.2.2.2.1+1+cnT (.sl K3) x.2.2.2.2.2.2.2.1+cnT (.sl K3) x.2.2.2.2.2.2.2.2.1+cnT (.sl K163) x.2.2.2.2.2.2.2.2.2.1+cnT (.sl K165) x.2.2.2.2.2.2.2.2.2.2.1+cnT (.sl K185) x.2.2.2.2.2.2.2.2.2.2.2.1:=by omega
  rw[hfin]
  first | done | rfl
 ·show c56_2 (aG p n) aA rec (k+cnT (.sl K43) aB,(((List.length aB:Nat):Int),mkT txt (.sl K43) aB k))=_
  have hlm:List.length (mkT txt (.sl K43) aB k)=List.length aB:=bK _ _
  unfold c56_2;simp only[hlm,bR,cond_false]
theorem hd58(aB:List (Row K43))(k:Int)(h0:0≤k)(h1:k+cnT (.sl K43) aB≤4611686018427387904)(hL:LmT (.sl K43) aB):Ran p 3 58 [.val false ⟨K49,(mkT txt (.sl K43) aB k,())⟩, .val false ⟨K3,(k,())⟩] ⟨[⟨K3,(k+cnT (.sl K43) aB,())⟩],[]⟩:=go58 fun n hn=>by
 refine Ev.eq (fun aA=>by unfold T58;rfl) ?_
 refine It.ev (c:=fun aA (_:Unit)=>c58_2 (aG p n) aA (mkT txt (.sl K43) aB k)) (i:=()) (r:=fun _=>some ⟨[⟨K3,(k+cnT (.sl K43) aB,())⟩],[]⟩) ?_ rfl
 have hlen:List.length aB≤4611686018427387904:=hL.1
 refine fO (mkR txt K43) (cnR K43) (eE K43) aB k 4611686018427387904 h0 h1 (fun i k=>(k,(i:Int))) (fun i hi q hi2 ha hk hB aA a rec=>?_) (fun aA a rec=>?_)
 ·have hb:i<9223372036854775807:=by omega
  have hx:=hL.2 i aB[i] (bP hi)
  generalize aB[i]=x at*
  have hc:cnR K43 x=(1+(1+(1+(1+(1+(cnT (.sl K3) x.2.2.2.2.2.1+(1+(cnT (.sl K3) x.2.2.2.2.2.2.2.1+(cnT (.sl K3) x.2.2.2.2.2.2.2.2.1+(cnT (.sl K163) x.2.2.2.2.2.2.2.2.2.1+(cnT (.sl K165) x.2.2.2.2.2.2.2.2.2.2.1+(cnT (.sl K185) x.2.2.2.2.2.2.2.2.2.2.2.1+0)))))))))))):=rfl
  have hr:mkR txt K43 x q=((q,q+1,q+1+1,q+1+1+1,q+1+1+1+1,mkT txt (.sl K3) x.2.2.2.2.2.1 (q+1+1+1+1+1),q+1+1+1+1+1+cnT (.sl K3) x.2.2.2.2.2.1,mkT txt (.sl K3) x.2.2.2.2.2.2.2.1 (q+1+1+1+1+1+cnT (.sl K3) x.2.2.2.2.2.1+1),mkT txt (.sl K3) x.2.2.2.2.2.2.2.2.1 (q+1+1+1+1+1+cnT (.sl K3) x.2.2.2.2.2.1+1+cnT (.sl K3) x.2.2.2.2.2.2.2.1),mkT txt (.sl K163) x.2.2.2.2.2.2.2.2.2.1 (q+1+1+1+1+1+cnT (.sl K3) x.2.2.2.2.2.1+1+cnT (.sl K3) x.2.2.2.2.2.2.2.1+cnT (.sl K3) x.2.2.2.2.2.2.2.2.1),mkT txt (.sl K165) x.2.2.2.2.2.2.2.2.2.2.1 (q+1+1+1+1+1+cnT (.sl K3) x.2.2.2.2.2.1+1+cnT (.sl K3) x.2.2.2.2.2.2.2.1+cnT (.sl K3) x.2.2.2.2.2.2.2.2.1+cnT (.sl K163) x.2.2.2.2.2.2.2.2.2.1),mkT txt (.sl K185) x.2.2.2.2.2.2.2.2.2.2.2.1 (q+1+1+1+1+1+cnT (.sl K3) x.2.2.2.2.2.1+1+cnT (.sl K3) x.2.2.2.2.2.2.2.1+cnT (.sl K3) x.2.2.2.2.2.2.2.2.1+cnT (.sl K163) x.2.2.2.2.2.2.2.2.2.1+cnT (.sl K165) x.2.2.2.2.2.2.2.2.2.2.1),()):Row K43):=rfl
  rw[hc] at hB ⊢
  rw[hr] at ha
  have n5:=bM (.sl K3) x.2.2.2.2.2.1
  have n7:=bM (.sl K3) x.2.2.2.2.2.2.2.1
  have n8:=bM (.sl K3) x.2.2.2.2.2.2.2.2.1
  have n9:=bM (.sl K163) x.2.2.2.2.2.2.2.2.2.1
  have n10:=bM (.sl K165) x.2.2.2.2.2.2.2.2.2.2.1
  have n11:=bM (.sl K185) x.2.2.2.2.2.2.2.2.2.2.2.1
  have f5:=hd79 x.2.2.2.2.2.1 (q+1+1+1+1+1) (by omega) (by omega) (show LmT (.sl K3) x.2.2.2.2.2.1 from hx.2.2.2.2.2.1) n (by omega)
  have d5:decide (q+1+1+1+1+1+cnT (.sl K3) x.2.2.2.2.2.1<0)=false:=decide_eq_false (by omega)
  have f7:=hd79 x.2.2.2.2.2.2.2.1 (q+1+1+1+1+1+cnT (.sl K3) x.2.2.2.2.2.1+1) (by omega) (by omega) (show LmT (.sl K3) x.2.2.2.2.2.2.2.1 from hx.2.2.2.2.2.2.2.1) n (by omega)
  have d7:decide (q+1+1+1+1+1+cnT (.sl K3) x.2.2.2.2.2.1+1+cnT (.sl K3) x.2.2.2.2.2.2.2.1<0)=false:=decide_eq_false (by omega)
  have f8:=hd79 x.2.2.2.2.2.2.2.2.1 (q+1+1+1+1+1+cnT (.sl K3) x.2.2.2.2.2.1+1+cnT (.sl K3) x.2.2.2.2.2.2.2.1) (by omega) (by omega) (show LmT (.sl K3) x.2.2.2.2.2.2.2.2.1 from hx.2.2.2.2.2.2.2.2.1) n (by omega)
  have d8:decide (q+1+1+1+1+1+cnT (.sl K3) x.2.2.2.2.2.1+1+cnT (.sl K3) x.2.2.2.2.2.2.2.1+cnT (.sl K3) x.2.2.2.2.2.2.2.2.1<0)=false:=decide_eq_false (by omega)
  have f9:=hd199 x.2.2.2.2.2.2.2.2.2.1 (q+1+1+1+1+1+cnT (.sl K3) x.2.2.2.2.2.1+1+cnT (.sl K3) x.2.2.2.2.2.2.2.1+cnT (.sl K3) x.2.2.2.2.2.2.2.2.1) (by omega) (by omega) (show LmT (.sl K163) x.2.2.2.2.2.2.2.2.2.1 from hx.2.2.2.2.2.2.2.2.2.1) n (by omega)
  have d9:decide (q+1+1+1+1+1+cnT (.sl K3) x.2.2.2.2.2.1+1+cnT (.sl K3) x.2.2.2.2.2.2.2.1+cnT (.sl K3) x.2.2.2.2.2.2.2.2.1+cnT (.sl K163) x.2.2.2.2.2.2.2.2.2.1<0)=false:=decide_eq_false (by omega)
  have f10:=hd200 x.2.2.2.2.2.2.2.2.2.2.1 (q+1+1+1+1+1+cnT (.sl K3) x.2.2.2.2.2.1+1+cnT (.sl K3) x.2.2.2.2.2.2.2.1+cnT (.sl K3) x.2.2.2.2.2.2.2.2.1+cnT (.sl K163) x.2.2.2.2.2.2.2.2.2.1) (by omega) (by omega) (show LmT (.sl K165) x.2.2.2.2.2.2.2.2.2.2.1 from hx.2.2.2.2.2.2.2.2.2.2.1) n (by omega)
  have d10:decide (q+1+1+1+1+1+cnT (.sl K3) x.2.2.2.2.2.1+1+cnT (.sl K3) x.2.2.2.2.2.2.2.1+cnT (.sl K3) x.2.2.2.2.2.2.2.2.1+cnT (.sl K163) x.2.2.2.2.2.2.2.2.2.1+cnT (.sl K165) x.2.2.2.2.2.2.2.2.2.2.1<0)=false:=decide_eq_false (by omega)
  have f11:=hd201 x.2.2.2.2.2.2.2.2.2.2.2.1 (q+1+1+1+1+1+cnT (.sl K3) x.2.2.2.2.2.1+1+cnT (.sl K3) x.2.2.2.2.2.2.2.1+cnT (.sl K3) x.2.2.2.2.2.2.2.2.1+cnT (.sl K163) x.2.2.2.2.2.2.2.2.2.1+cnT (.sl K165) x.2.2.2.2.2.2.2.2.2.2.1) (by omega) (by omega) (show LmT (.sl K185) x.2.2.2.2.2.2.2.2.2.2.2.1 from hx.2.2.2.2.2.2.2.2.2.2.2.1) n (by omega)
  have d11:decide (q+1+1+1+1+1+cnT (.sl K3) x.2.2.2.2.2.1+1+cnT (.sl K3) x.2.2.2.2.2.2.2.1+cnT (.sl K3) x.2.2.2.2.2.2.2.2.1+cnT (.sl K163) x.2.2.2.2.2.2.2.2.2.1+cnT (.sl K165) x.2.2.2.2.2.2.2.2.2.2.1+cnT (.sl K185) x.2.2.2.2.2.2.2.2.2.2.2.1<0)=false:=decide_eq_false (by omega)
  have w0:IntKind.i64.wrap (q+1)=q+1:=bG (by omega) (by omega)
  have w1:IntKind.i64.wrap (q+1+1)=q+1+1:=bG (by omega) (by omega)
  have w2:IntKind.i64.wrap (q+1+1+1)=q+1+1+1:=bG (by omega) (by omega)
  have w3:IntKind.i64.wrap (q+1+1+1+1)=q+1+1+1+1:=bG (by omega) (by omega)
  have w4:IntKind.i64.wrap (q+1+1+1+1+1)=q+1+1+1+1+1:=bG (by omega) (by omega)
  have w6:IntKind.i64.wrap (q+1+1+1+1+1+cnT (.sl K3) x.2.2.2.2.2.1+1)=q+1+1+1+1+1+cnT (.sl K3) x.2.2.2.2.2.1+1:=bG (by omega) (by omega)
  show c58_2 (aG p n) aA (mkT txt (.sl K43) aB k) rec (q,(i:Int))=rec (q+(1+(1+(1+(1+(1+(cnT (.sl K3) x.2.2.2.2.2.1+(1+(cnT (.sl K3) x.2.2.2.2.2.2.2.1+(cnT (.sl K3) x.2.2.2.2.2.2.2.2.1+(cnT (.sl K163) x.2.2.2.2.2.2.2.2.2.1+(cnT (.sl K165) x.2.2.2.2.2.2.2.2.2.2.1+(cnT (.sl K185) x.2.2.2.2.2.2.2.2.2.2.2.1+0)))))))))))),((i+1:Nat):Int))
  replace hi2:i<List.length (mkT txt (.sl K43) aB k):=hi2
  replace ha:at? (mkT txt (.sl K43) aB k) i=some ((q,q+1,q+1+1,q+1+1+1,q+1+1+1+1,mkT txt (.sl K3) x.2.2.2.2.2.1 (q+1+1+1+1+1),q+1+1+1+1+1+cnT (.sl K3) x.2.2.2.2.2.1,mkT txt (.sl K3) x.2.2.2.2.2.2.2.1 (q+1+1+1+1+1+cnT (.sl K3) x.2.2.2.2.2.1+1),mkT txt (.sl K3) x.2.2.2.2.2.2.2.2.1 (q+1+1+1+1+1+cnT (.sl K3) x.2.2.2.2.2.1+1+cnT (.sl K3) x.2.2.2.2.2.2.2.1),mkT txt (.sl K163) x.2.2.2.2.2.2.2.2.2.1 (q+1+1+1+1+1+cnT (.sl K3) x.2.2.2.2.2.1+1+cnT (.sl K3) x.2.2.2.2.2.2.2.1+cnT (.sl K3) x.2.2.2.2.2.2.2.2.1),mkT txt (.sl K165) x.2.2.2.2.2.2.2.2.2.2.1 (q+1+1+1+1+1+cnT (.sl K3) x.2.2.2.2.2.1+1+cnT (.sl K3) x.2.2.2.2.2.2.2.1+cnT (.sl K3) x.2.2.2.2.2.2.2.2.1+cnT (.sl K163) x.2.2.2.2.2.2.2.2.2.1),mkT txt (.sl K185) x.2.2.2.2.2.2.2.2.2.2.2.1 (q+1+1+1+1+1+cnT (.sl K3) x.2.2.2.2.2.1+1+cnT (.sl K3) x.2.2.2.2.2.2.2.1+cnT (.sl K3) x.2.2.2.2.2.2.2.2.1+cnT (.sl K163) x.2.2.2.2.2.2.2.2.2.1+cnT (.sl K165) x.2.2.2.2.2.2.2.2.2.2.1),()):Row K43):=ha
  generalize mkT txt (.sl K43) aB k=L at*
  unfold c58_2;dsimp only;rw[aJ hb]
  rw[w0]
  rw[w1]
  rw[w2]
  rw[w3]
  rw[w4]
  refine(aF (Int.ofNat_lt.2 hi2)).trans ?_
  refine(aF (Int.natCast_nonneg _)).trans ?_
  refine(aL ha).trans ?_
  refine(aN (bne_self_eq_false _)).trans ?_
  refine(aF (Int.natCast_nonneg _)).trans ?_
  refine(aL ha).trans ?_
  refine(aN (bne_self_eq_false _)).trans ?_
  refine(aF (Int.natCast_nonneg _)).trans ?_
  refine(aL ha).trans ?_
  refine(aN (bne_self_eq_false _)).trans ?_
  refine(aF (Int.natCast_nonneg _)).trans ?_
  refine(aL ha).trans ?_
  refine(aN (bne_self_eq_false _)).trans ?_
  refine(aF (Int.natCast_nonneg _)).trans ?_
  refine(aL ha).trans ?_
  refine(aN (bne_self_eq_false _)).trans ?_
  refine(aF (Int.natCast_nonneg _)).trans ?_
  refine(aL ha).trans ?_
  refine(aQ f5 _).trans ?_
  rw[w6]
  refine(aN d5).trans ?_
  refine(aF (Int.natCast_nonneg _)).trans ?_
  refine(aL ha).trans ?_
  refine(aN (bne_self_eq_false _)).trans ?_
  refine(aF (Int.natCast_nonneg _)).trans ?_
  refine(aL ha).trans ?_
  refine(aQ f7 _).trans ?_
  refine(aN d7).trans ?_
  refine(aF (Int.natCast_nonneg _)).trans ?_
  refine(aL ha).trans ?_
  refine(aQ f8 _).trans ?_
  refine(aN d8).trans ?_
  refine(aF (Int.natCast_nonneg _)).trans ?_
  refine(aL ha).trans ?_
  refine(aQ f9 _).trans ?_
  refine(aN d9).trans ?_
  refine(aF (Int.natCast_nonneg _)).trans ?_
  refine(aL ha).trans ?_
  refine(aQ f10 _).trans ?_
  refine(aN d10).trans ?_
  refine(aF (Int.natCast_nonneg _)).trans ?_
  refine(aL ha).trans ?_
  refine(aQ f11 _).trans ?_
  refine(aN d11).trans ?_
  have hfin:q+(1+(1+(1+(1+(1+(cnT (.sl K3) x.2.2.2.2.2.1+(1+(cnT (.sl K3) x.2.2.2.2.2.2.2.1+(cnT (.sl K3) x.2.2.2.2.2.2.2.2.1+(cnT (.sl K163) x.2.2.2.2.2.2.2.2.2.1+(cnT (.sl K165) x.2.2.2.2.2.2.2.2.2.2.1+(cnT (.sl K185) x.2.2.2.2.2.2.2.2.2.2.2.1+0))))))))))))=q+1+1+1+1+1+cnT (.sl K3) x.2.2.2.2.2.1+1+cnT (.sl K3) x.2.2.2.2.2.2.2.1+cnT (.sl K3) x.2.2.2.2.2.2.2.2.1+cnT (.sl K163) x.2.2.2.2.2.2.2.2.2.1+cnT (.sl K165) x.2.2.2.2.2.2.2.2.2.2.1+cnT (.sl K185) x.2.2.2.2.2.2.2.2.2.2.2.1:=by omega
  rw[hfin]
  first | done | rfl
 ·show c58_2 (aG p n) aA (mkT txt (.sl K43) aB k) rec (k+cnT (.sl K43) aB,((List.length (mkT txt (.sl K43) aB k):Nat):Int))=_
  unfold c58_2;simp only[bR,cond_false]
theorem mk184(a0:Row K27)(k:Int)(h0:0≤k)(h1:k+cnS K27 a0≤4611686018427387904)(hL:LmR K27 a0):Ran p 3 184 [.own true ⟨K27,a0⟩, .val false ⟨K3,(k,())⟩] ⟨[⟨K3,(k+cnS K27 a0,())⟩],[⟨K27,mkS txt K27 a0 k⟩]⟩:=go184 fun n hn=>Ev.now fun aA=>by
 have hc:cnS K27 a0=(cnT (.sl K163) a0.1+(cnT (.sl K165) a0.2.1+0)):=rfl
 rw[hc] at h1 ⊢
 have n0:=bM (.sl K163) a0.1
 have n1:=bM (.sl K165) a0.2.1
 have f0:=mk191 a0.1 (k) (by omega) (by omega) (show LmT (.sl K163) a0.1 from hL.1) n (by omega)
 have f1:=mk192 a0.2.1 (k+cnT (.sl K163) a0.1) (by omega) (by omega) (show LmT (.sl K165) a0.2.1 from hL.2.1) n (by omega)
 unfold T184
 refine(bU f0 _).trans ?_
 refine(bU f1 _).trans ?_
 rw[show k+(cnT (.sl K163) a0.1+(cnT (.sl K165) a0.2.1+0))=k+cnT (.sl K163) a0.1+cnT (.sl K165) a0.2.1 by omega]
 first | done | rfl
theorem hd193(a0:Row K27)(k:Int)(h0:0≤k)(h1:k+cnS K27 a0≤4611686018427387904)(hL:LmR K27 a0):Ran p 3 193 [.val true ⟨K27,mkS txt K27 a0 k⟩, .val false ⟨K3,(k,())⟩] ⟨[⟨K3,(k+cnS K27 a0,())⟩],[]⟩:=go193 fun n hn=>Ev.now fun aA=>by
 have hc:cnS K27 a0=(cnT (.sl K163) a0.1+(cnT (.sl K165) a0.2.1+0)):=rfl
 rw[hc] at h1 ⊢
 have n0:=bM (.sl K163) a0.1
 have n1:=bM (.sl K165) a0.2.1
 have f0:=hd199 a0.1 (k) (by omega) (by omega) (show LmT (.sl K163) a0.1 from hL.1) n (by omega)
 have f1:=hd200 a0.2.1 (k+cnT (.sl K163) a0.1) (by omega) (by omega) (show LmT (.sl K165) a0.2.1 from hL.2.1) n (by omega)
 unfold T193
 refine(aQ f0 _).trans ?_
 refine(aH (show ¬ (k+cnT (.sl K163) a0.1<0) by omega)).trans ?_
 refine(aQ f1 _).trans ?_
 refine(aH (show ¬ (k+cnT (.sl K163) a0.1+cnT (.sl K165) a0.2.1<0) by omega)).trans ?_
 rw[show k+(cnT (.sl K163) a0.1+(cnT (.sl K165) a0.2.1+0))=k+cnT (.sl K163) a0.1+cnT (.sl K165) a0.2.1 by omega]
 first | done | rfl
noncomputable def EH(x:Row K27)(k:Int):Row K27:=(mkT txt (.sl K163) x.1 (k),x.2)
noncomputable def EG(x:Row K27)(k:Int):Row K27:=(mkT txt (.sl K163) x.1 (k),mkT txt (.sl K165) x.2.1 (k+cnT (.sl K163) x.1),x.2.2)
theorem mk280(aB:List (Row K27))(k:Int)(h0:0≤k)(h1:k+cnT (.sl K27) aB≤4611686018427387904)(hL:LmT (.sl K27) aB):Ran p 3 280 [.own false ⟨K31,(aB,())⟩, .val false ⟨K3,(k,())⟩] ⟨[⟨K3,(k+cnT (.sl K27) aB,())⟩],[⟨K31,(mkT txt (.sl K27) aB k,())⟩]⟩:=go280 fun n hn=>by
 refine Ev.eq (fun aA=>by unfold T280;rfl) ?_
 refine It.ev (c:=fun aA (_:Unit)=>c280_2 (aG p n) aA) (i:=()) (r:=fun _=>some ⟨[⟨K3,(k+cnT (.sl K27) aB,())⟩],[⟨K31,(mkT txt (.sl K27) aB k,())⟩]⟩) ?_ rfl
 have hlen:List.length aB≤4611686018427387904:=hL.1
 refine fN (mkR txt K27) (cnR K27) (eE K27) aB k 4611686018427387904 h0 h1 (fun i k ys=>(k,((i:Int),ys))) (fun i hi ys k hy ha hk hB aA a rec=>?_) (fun aA a rec=>?_)
 ·have hb:i<9223372036854775807:=by omega
  have hx:=hL.2 i aB[i] (bP hi)
  generalize aB[i]=x at*
  have hc:cnR K27 x=(cnT (.sl K163) x.1+(cnT (.sl K165) x.2.1+0)):=rfl
  have hr:mkR txt K27 x k=((mkT txt (.sl K163) x.1 (k),mkT txt (.sl K165) x.2.1 (k+cnT (.sl K163) x.1),()):Row K27):=rfl
  rw[hc] at hB ⊢
  rw[hr]
  have n0:=bM (.sl K163) x.1
  have n1:=bM (.sl K165) x.2.1
  have f0:=mk191 x.1 (k) (by omega) (by omega) (show LmT (.sl K163) x.1 from hx.1) n (by omega)
  have f1:=mk192 x.2.1 (k+cnT (.sl K163) x.1) (by omega) (by omega) (show LmT (.sl K165) x.2.1 from hx.2.1) n (by omega)
  have hy2:i<ys.length:=by rw[hy];exact hi
  show c280_2 (aG p n) aA rec (k,((i:Int),ys))=rec (k+(cnT (.sl K163) x.1+(cnT (.sl K165) x.2.1+0)),(((i+1:Nat):Int),ys.set i (mkT txt (.sl K163) x.1 (k),mkT txt (.sl K165) x.2.1 (k+cnT (.sl K163) x.1),())))
  unfold c280_2;dsimp only;rw[aJ hb]
  have a0:=cO hy2 (EH x k)
  have a1:=cO hy2 (EG x k)
  refine(aF (Int.ofNat_lt.2 hy2)).trans ?_
  refine(aF (Int.natCast_nonneg _)).trans ?_
  refine(aL ha).trans ?_
  refine(aL ha).trans ?_
  refine(aL ha).trans ?_
  refine(bU f0 _).trans ?_
  refine(aL ha).trans ?_
  refine(cA (List.set ys i (EH x k)) iX).trans ?_
  refine(aF (Int.natCast_nonneg _)).trans ?_
  refine(aL a0).trans ?_
  refine(aL a0).trans ?_
  refine(aL a0).trans ?_
  refine(bU f1 _).trans ?_
  refine(aL a0).trans ?_
  refine(cA (List.set ys i (EG x k)) cH).trans ?_
  have hfin:k+(cnT (.sl K163) x.1+(cnT (.sl K165) x.2.1+0))=k+cnT (.sl K163) x.1+cnT (.sl K165) x.2.1:=by omega
  rw[hfin]
  first | done | rfl
 ·show c280_2 (aG p n) aA rec (k+cnT (.sl K27) aB,(((List.length aB:Nat):Int),mkT txt (.sl K27) aB k))=_
  have hlm:List.length (mkT txt (.sl K27) aB k)=List.length aB:=bK _ _
  unfold c280_2;simp only[hlm,bR,cond_false]
theorem hd281(aB:List (Row K27))(k:Int)(h0:0≤k)(h1:k+cnT (.sl K27) aB≤4611686018427387904)(hL:LmT (.sl K27) aB):Ran p 3 281 [.val false ⟨K31,(mkT txt (.sl K27) aB k,())⟩, .val false ⟨K3,(k,())⟩] ⟨[⟨K3,(k+cnT (.sl K27) aB,())⟩],[]⟩:=go281 fun n hn=>by
 refine Ev.eq (fun aA=>by unfold T281;rfl) ?_
 refine It.ev (c:=fun aA (_:Unit)=>c281_2 (aG p n) aA (mkT txt (.sl K27) aB k)) (i:=()) (r:=fun _=>some ⟨[⟨K3,(k+cnT (.sl K27) aB,())⟩],[]⟩) ?_ rfl
 have hlen:List.length aB≤4611686018427387904:=hL.1
 refine fO (mkR txt K27) (cnR K27) (eE K27) aB k 4611686018427387904 h0 h1 (fun i k=>(k,(i:Int))) (fun i hi q hi2 ha hk hB aA a rec=>?_) (fun aA a rec=>?_)
 ·have hb:i<9223372036854775807:=by omega
  have hx:=hL.2 i aB[i] (bP hi)
  generalize aB[i]=x at*
  have hc:cnR K27 x=(cnT (.sl K163) x.1+(cnT (.sl K165) x.2.1+0)):=rfl
  have hr:mkR txt K27 x q=((mkT txt (.sl K163) x.1 (q),mkT txt (.sl K165) x.2.1 (q+cnT (.sl K163) x.1),()):Row K27):=rfl
  rw[hc] at hB ⊢
  rw[hr] at ha
  have n0:=bM (.sl K163) x.1
  have n1:=bM (.sl K165) x.2.1
  have f0:=hd199 x.1 (q) (by omega) (by omega) (show LmT (.sl K163) x.1 from hx.1) n (by omega)
  have d0:decide (q+cnT (.sl K163) x.1<0)=false:=decide_eq_false (by omega)
  have f1:=hd200 x.2.1 (q+cnT (.sl K163) x.1) (by omega) (by omega) (show LmT (.sl K165) x.2.1 from hx.2.1) n (by omega)
  have d1:decide (q+cnT (.sl K163) x.1+cnT (.sl K165) x.2.1<0)=false:=decide_eq_false (by omega)
  show c281_2 (aG p n) aA (mkT txt (.sl K27) aB k) rec (q,(i:Int))=rec (q+(cnT (.sl K163) x.1+(cnT (.sl K165) x.2.1+0)),((i+1:Nat):Int))
  replace hi2:i<List.length (mkT txt (.sl K27) aB k):=hi2
  replace ha:at? (mkT txt (.sl K27) aB k) i=some ((mkT txt (.sl K163) x.1 (q),mkT txt (.sl K165) x.2.1 (q+cnT (.sl K163) x.1),()):Row K27):=ha
  generalize mkT txt (.sl K27) aB k=L at*
  unfold c281_2;dsimp only;rw[aJ hb]
  refine(aF (Int.ofNat_lt.2 hi2)).trans ?_
  refine(aF (Int.natCast_nonneg _)).trans ?_
  refine(aL ha).trans ?_
  refine(aQ f0 _).trans ?_
  refine(aN d0).trans ?_
  refine(aF (Int.natCast_nonneg _)).trans ?_
  refine(aL ha).trans ?_
  refine(aQ f1 _).trans ?_
  refine(aN d1).trans ?_
  have hfin:q+(cnT (.sl K163) x.1+(cnT (.sl K165) x.2.1+0))=q+cnT (.sl K163) x.1+cnT (.sl K165) x.2.1:=by omega
  rw[hfin]
  first | done | rfl
 ·show c281_2 (aG p n) aA (mkT txt (.sl K27) aB k) rec (k+cnT (.sl K27) aB,((List.length (mkT txt (.sl K27) aB k):Nat):Int))=_
  unfold c281_2;simp only[bR,cond_false]
theorem mk55(a0:Row K43)(k:Int)(h0:0≤k)(h1:k+cnS K43 a0≤4611686018427387904)(hL:LmR K43 a0):Ran p 4 55 [.own true ⟨K43,a0⟩, .val false ⟨K3,(k,())⟩] ⟨[⟨K3,(k+cnS K43 a0,())⟩],[⟨K43,mkS txt K43 a0 k⟩]⟩:=go55 fun n hn=>Ev.now fun aA=>by
 have hc:cnS K43 a0=(cnT (.sl K3) a0.2.2.2.2.2.1+(cnT (.sl K3) a0.2.2.2.2.2.2.2.1+(cnT (.sl K3) a0.2.2.2.2.2.2.2.2.1+(cnT (.sl K163) a0.2.2.2.2.2.2.2.2.2.1+(cnT (.sl K165) a0.2.2.2.2.2.2.2.2.2.2.1+(cnT (.sl K185) a0.2.2.2.2.2.2.2.2.2.2.2.1+0)))))):=rfl
 rw[hc] at h1 ⊢
 have n5:=bM (.sl K3) a0.2.2.2.2.2.1
 have n7:=bM (.sl K3) a0.2.2.2.2.2.2.2.1
 have n8:=bM (.sl K3) a0.2.2.2.2.2.2.2.2.1
 have n9:=bM (.sl K163) a0.2.2.2.2.2.2.2.2.2.1
 have n10:=bM (.sl K165) a0.2.2.2.2.2.2.2.2.2.2.1
 have n11:=bM (.sl K185) a0.2.2.2.2.2.2.2.2.2.2.2.1
 have c0:cnS K30 (a0.2.2.2.2.2.1,a0.2.2.2.2.2.2.1,())=(cnT (.sl K3) a0.2.2.2.2.2.1+0):=rfl
 have f0:=mk185 (a0.2.2.2.2.2.1,a0.2.2.2.2.2.2.1,()) (k) (by omega) (by rw[c0];omega) (show LmR K30 (a0.2.2.2.2.2.1,a0.2.2.2.2.2.2.1,())from⟨hL.2.2.2.2.2.1,hL.2.2.2.2.2.2.1,trivial⟩) n (by omega)
 simp only[c0,Int.add_zero,← Int.add_assoc] at f0
 have f1:=mk45 a0.2.2.2.2.2.2.2.1 (k+cnT (.sl K3) a0.2.2.2.2.2.1) (by omega) (by omega) (show LmT (.sl K3) a0.2.2.2.2.2.2.2.1 from hL.2.2.2.2.2.2.2.1) n (by omega)
 have f2:=mk45 a0.2.2.2.2.2.2.2.2.1 (k+cnT (.sl K3) a0.2.2.2.2.2.1+cnT (.sl K3) a0.2.2.2.2.2.2.2.1) (by omega) (by omega) (show LmT (.sl K3) a0.2.2.2.2.2.2.2.2.1 from hL.2.2.2.2.2.2.2.2.1) n (by omega)
 have c3:cnS K27 (a0.2.2.2.2.2.2.2.2.2.1,a0.2.2.2.2.2.2.2.2.2.2.1,())=(cnT (.sl K163) a0.2.2.2.2.2.2.2.2.2.1+(cnT (.sl K165) a0.2.2.2.2.2.2.2.2.2.2.1+0)):=rfl
 have f3:=mk184 (a0.2.2.2.2.2.2.2.2.2.1,a0.2.2.2.2.2.2.2.2.2.2.1,()) (k+cnT (.sl K3) a0.2.2.2.2.2.1+cnT (.sl K3) a0.2.2.2.2.2.2.2.1+cnT (.sl K3) a0.2.2.2.2.2.2.2.2.1) (by omega) (by rw[c3];omega) (show LmR K27 (a0.2.2.2.2.2.2.2.2.2.1,a0.2.2.2.2.2.2.2.2.2.2.1,())from⟨hL.2.2.2.2.2.2.2.2.2.1,hL.2.2.2.2.2.2.2.2.2.2.1,trivial⟩) n (by omega)
 simp only[c3,Int.add_zero,← Int.add_assoc] at f3
 have f4:=mk190 a0.2.2.2.2.2.2.2.2.2.2.2.1 (k+cnT (.sl K3) a0.2.2.2.2.2.1+cnT (.sl K3) a0.2.2.2.2.2.2.2.1+cnT (.sl K3) a0.2.2.2.2.2.2.2.2.1+cnT (.sl K163) a0.2.2.2.2.2.2.2.2.2.1+cnT (.sl K165) a0.2.2.2.2.2.2.2.2.2.2.1) (by omega) (by omega) (show LmT (.sl K185) a0.2.2.2.2.2.2.2.2.2.2.2.1 from hL.2.2.2.2.2.2.2.2.2.2.2.1) n (by omega)
 unfold T55
 refine(bU f0 _).trans ?_
 refine(bU f1 _).trans ?_
 refine(bU f2 _).trans ?_
 refine(bU f3 _).trans ?_
 refine(bU f4 _).trans ?_
 rw[show k+(cnT (.sl K3) a0.2.2.2.2.2.1+(cnT (.sl K3) a0.2.2.2.2.2.2.2.1+(cnT (.sl K3) a0.2.2.2.2.2.2.2.2.1+(cnT (.sl K163) a0.2.2.2.2.2.2.2.2.2.1+(cnT (.sl K165) a0.2.2.2.2.2.2.2.2.2.2.1+(cnT (.sl K185) a0.2.2.2.2.2.2.2.2.2.2.2.1+0))))))=k+cnT (.sl K3) a0.2.2.2.2.2.1+cnT (.sl K3) a0.2.2.2.2.2.2.2.1+cnT (.sl K3) a0.2.2.2.2.2.2.2.2.1+cnT (.sl K163) a0.2.2.2.2.2.2.2.2.2.1+cnT (.sl K165) a0.2.2.2.2.2.2.2.2.2.2.1+cnT (.sl K185) a0.2.2.2.2.2.2.2.2.2.2.2.1 by omega]
 first | done | rfl
theorem mk186(a0:Row K33)(k:Int)(h0:0≤k)(h1:k+cnS K33 a0≤4611686018427387904)(hL:LmR K33 a0):Ran p 4 186 [.own true ⟨K33,a0⟩, .val false ⟨K3,(k,())⟩] ⟨[⟨K3,(k+cnS K33 a0,())⟩],[⟨K33,mkS txt K33 a0 k⟩]⟩:=go186 fun n hn=>Ev.now fun aA=>by
 have hc:cnS K33 a0=(cnT (.sl K27) a0.2.2.1+0):=rfl
 rw[hc] at h1 ⊢
 have n2:=bM (.sl K27) a0.2.2.1
 have f0:=mk280 a0.2.2.1 (k) (by omega) (by omega) (show LmT (.sl K27) a0.2.2.1 from hL.2.2.1) n (by omega)
 unfold T186
 refine(bU f0 _).trans ?_
 rw[show k+(cnT (.sl K27) a0.2.2.1+0)=k+cnT (.sl K27) a0.2.2.1 by omega]
 first | done | rfl
theorem hd195(a0:Row K33)(k:Int)(h0:0≤k)(h1:k+cnS K33 a0≤4611686018427387904)(hL:LmR K33 a0):Ran p 4 195 [.val true ⟨K33,mkS txt K33 a0 k⟩, .val false ⟨K3,(k,())⟩] ⟨[⟨K3,(k+cnS K33 a0,())⟩],[]⟩:=go195 fun n hn=>Ev.now fun aA=>by
 have hc:cnS K33 a0=(cnT (.sl K27) a0.2.2.1+0):=rfl
 rw[hc] at h1 ⊢
 have n2:=bM (.sl K27) a0.2.2.1
 have f0:=hd281 a0.2.2.1 (k) (by omega) (by omega) (show LmT (.sl K27) a0.2.2.1 from hL.2.2.1) n (by omega)
 unfold T195
 refine(aQ f0 _).trans ?_
 refine(aH (show ¬ (k+cnT (.sl K27) a0.2.2.1<0) by omega)).trans ?_
 rw[show k+(cnT (.sl K27) a0.2.2.1+0)=k+cnT (.sl K27) a0.2.2.1 by omega]
 first | done | rfl
theorem mk54(a0:Row K38)(k:Int)(h0:0≤k)(h1:k+cnS K38 a0≤4611686018427387904)(hL:LmR K38 a0):Ran p 5 54 [.own true ⟨K38,a0⟩, .val false ⟨K3,(k,())⟩] ⟨[⟨K3,(k+cnS K38 a0,())⟩],[⟨K38,mkS txt K38 a0 k⟩]⟩:=go54 fun n hn=>Ev.now fun aA=>by
 have hc:cnS K38 a0=(cnT (.sl K163) a0.2.2.1+(cnT (.sl K165) a0.2.2.2.1+(cnT (.sl K3) a0.2.2.2.2.1+(cnT (.sl K27) a0.2.2.2.2.2.2.2.2.1+(cnT (.sl K3) a0.2.2.2.2.2.2.2.2.2.1+(cnT (.sl K3) a0.2.2.2.2.2.2.2.2.2.2.1+(cnT (.sl K28) a0.2.2.2.2.2.2.2.2.2.2.2.1+(cnT (.sl K141) a0.2.2.2.2.2.2.2.2.2.2.2.2.2.2.1+(cnT (.sl K147) a0.2.2.2.2.2.2.2.2.2.2.2.2.2.2.2.2.2.2.1+0))))))))):=rfl
 rw[hc] at h1 ⊢
 have n2:=bM (.sl K163) a0.2.2.1
 have n3:=bM (.sl K165) a0.2.2.2.1
 have n4:=bM (.sl K3) a0.2.2.2.2.1
 have n8:=bM (.sl K27) a0.2.2.2.2.2.2.2.2.1
 have n9:=bM (.sl K3) a0.2.2.2.2.2.2.2.2.2.1
 have n10:=bM (.sl K3) a0.2.2.2.2.2.2.2.2.2.2.1
 have n11:=bM (.sl K28) a0.2.2.2.2.2.2.2.2.2.2.2.1
 have n14:=bM (.sl K141) a0.2.2.2.2.2.2.2.2.2.2.2.2.2.2.1
 have n18:=bM (.sl K147) a0.2.2.2.2.2.2.2.2.2.2.2.2.2.2.2.2.2.2.1
 have c0:cnS K27 (a0.2.2.1,a0.2.2.2.1,())=(cnT (.sl K163) a0.2.2.1+(cnT (.sl K165) a0.2.2.2.1+0)):=rfl
 have f0:=mk184 (a0.2.2.1,a0.2.2.2.1,()) (k) (by omega) (by rw[c0];omega) (show LmR K27 (a0.2.2.1,a0.2.2.2.1,())from⟨hL.2.2.1,hL.2.2.2.1,trivial⟩) n (by omega)
 simp only[c0,Int.add_zero,← Int.add_assoc] at f0
 have c1:cnS K30 (a0.2.2.2.2.1,a0.2.2.2.2.2.1,())=(cnT (.sl K3) a0.2.2.2.2.1+0):=rfl
 have f1:=mk185 (a0.2.2.2.2.1,a0.2.2.2.2.2.1,()) (k+cnT (.sl K163) a0.2.2.1+cnT (.sl K165) a0.2.2.2.1) (by omega) (by rw[c1];omega) (show LmR K30 (a0.2.2.2.2.1,a0.2.2.2.2.2.1,())from⟨hL.2.2.2.2.1,hL.2.2.2.2.2.1,trivial⟩) n (by omega)
 simp only[c1,Int.add_zero,← Int.add_assoc] at f1
 have c2:cnS K33 (a0.2.2.2.2.2.2.1,a0.2.2.2.2.2.2.2.1,a0.2.2.2.2.2.2.2.2.1,())=(cnT (.sl K27) a0.2.2.2.2.2.2.2.2.1+0):=rfl
 have f2:=mk186 (a0.2.2.2.2.2.2.1,a0.2.2.2.2.2.2.2.1,a0.2.2.2.2.2.2.2.2.1,()) (k+cnT (.sl K163) a0.2.2.1+cnT (.sl K165) a0.2.2.2.1+cnT (.sl K3) a0.2.2.2.2.1) (by omega) (by rw[c2];omega) (show LmR K33 (a0.2.2.2.2.2.2.1,a0.2.2.2.2.2.2.2.1,a0.2.2.2.2.2.2.2.2.1,())from⟨hL.2.2.2.2.2.2.1,hL.2.2.2.2.2.2.2.1,hL.2.2.2.2.2.2.2.2.1,trivial⟩) n (by omega)
 simp only[c2,Int.add_zero,← Int.add_assoc] at f2
 have f3:=mk45 a0.2.2.2.2.2.2.2.2.2.1 (k+cnT (.sl K163) a0.2.2.1+cnT (.sl K165) a0.2.2.2.1+cnT (.sl K3) a0.2.2.2.2.1+cnT (.sl K27) a0.2.2.2.2.2.2.2.2.1) (by omega) (by omega) (show LmT (.sl K3) a0.2.2.2.2.2.2.2.2.2.1 from hL.2.2.2.2.2.2.2.2.2.1) n (by omega)
 have f4:=mk45 a0.2.2.2.2.2.2.2.2.2.2.1 (k+cnT (.sl K163) a0.2.2.1+cnT (.sl K165) a0.2.2.2.1+cnT (.sl K3) a0.2.2.2.2.1+cnT (.sl K27) a0.2.2.2.2.2.2.2.2.1+cnT (.sl K3) a0.2.2.2.2.2.2.2.2.2.1) (by omega) (by omega) (show LmT (.sl K3) a0.2.2.2.2.2.2.2.2.2.2.1 from hL.2.2.2.2.2.2.2.2.2.2.1) n (by omega)
 have f5:=mk187 a0.2.2.2.2.2.2.2.2.2.2.2.1 (k+cnT (.sl K163) a0.2.2.1+cnT (.sl K165) a0.2.2.2.1+cnT (.sl K3) a0.2.2.2.2.1+cnT (.sl K27) a0.2.2.2.2.2.2.2.2.1+cnT (.sl K3) a0.2.2.2.2.2.2.2.2.2.1+cnT (.sl K3) a0.2.2.2.2.2.2.2.2.2.2.1) (by omega) (by omega) (show LmT (.sl K28) a0.2.2.2.2.2.2.2.2.2.2.2.1 from hL.2.2.2.2.2.2.2.2.2.2.2.1) n (by omega)
 have f6:=mk188 a0.2.2.2.2.2.2.2.2.2.2.2.2.2.2.1 (k+cnT (.sl K163) a0.2.2.1+cnT (.sl K165) a0.2.2.2.1+cnT (.sl K3) a0.2.2.2.2.1+cnT (.sl K27) a0.2.2.2.2.2.2.2.2.1+cnT (.sl K3) a0.2.2.2.2.2.2.2.2.2.1+cnT (.sl K3) a0.2.2.2.2.2.2.2.2.2.2.1+cnT (.sl K28) a0.2.2.2.2.2.2.2.2.2.2.2.1) (by omega) (by omega) (show LmT (.sl K141) a0.2.2.2.2.2.2.2.2.2.2.2.2.2.2.1 from hL.2.2.2.2.2.2.2.2.2.2.2.2.2.2.1) n (by omega)
 have f7:=mk189 a0.2.2.2.2.2.2.2.2.2.2.2.2.2.2.2.2.2.2.1 (k+cnT (.sl K163) a0.2.2.1+cnT (.sl K165) a0.2.2.2.1+cnT (.sl K3) a0.2.2.2.2.1+cnT (.sl K27) a0.2.2.2.2.2.2.2.2.1+cnT (.sl K3) a0.2.2.2.2.2.2.2.2.2.1+cnT (.sl K3) a0.2.2.2.2.2.2.2.2.2.2.1+cnT (.sl K28) a0.2.2.2.2.2.2.2.2.2.2.2.1+cnT (.sl K141) a0.2.2.2.2.2.2.2.2.2.2.2.2.2.2.1) (by omega) (by omega) (show LmT (.sl K147) a0.2.2.2.2.2.2.2.2.2.2.2.2.2.2.2.2.2.2.1 from hL.2.2.2.2.2.2.2.2.2.2.2.2.2.2.2.2.2.2.1) n (by omega)
 unfold T54
 refine(bU f0 _).trans ?_
 refine(bU f1 _).trans ?_
 refine(bU f2 _).trans ?_
 refine(bU f3 _).trans ?_
 refine(bU f4 _).trans ?_
 refine(bU f5 _).trans ?_
 refine(bU f6 _).trans ?_
 refine(bU f7 _).trans ?_
 rw[show k+(cnT (.sl K163) a0.2.2.1+(cnT (.sl K165) a0.2.2.2.1+(cnT (.sl K3) a0.2.2.2.2.1+(cnT (.sl K27) a0.2.2.2.2.2.2.2.2.1+(cnT (.sl K3) a0.2.2.2.2.2.2.2.2.2.1+(cnT (.sl K3) a0.2.2.2.2.2.2.2.2.2.2.1+(cnT (.sl K28) a0.2.2.2.2.2.2.2.2.2.2.2.1+(cnT (.sl K141) a0.2.2.2.2.2.2.2.2.2.2.2.2.2.2.1+(cnT (.sl K147) a0.2.2.2.2.2.2.2.2.2.2.2.2.2.2.2.2.2.2.1+0)))))))))=k+cnT (.sl K163) a0.2.2.1+cnT (.sl K165) a0.2.2.2.1+cnT (.sl K3) a0.2.2.2.2.1+cnT (.sl K27) a0.2.2.2.2.2.2.2.2.1+cnT (.sl K3) a0.2.2.2.2.2.2.2.2.2.1+cnT (.sl K3) a0.2.2.2.2.2.2.2.2.2.2.1+cnT (.sl K28) a0.2.2.2.2.2.2.2.2.2.2.2.1+cnT (.sl K141) a0.2.2.2.2.2.2.2.2.2.2.2.2.2.2.1+cnT (.sl K147) a0.2.2.2.2.2.2.2.2.2.2.2.2.2.2.2.2.2.2.1 by omega]
 first | done | rfl
theorem hd57(a0:Row K38)(k:Int)(h0:0≤k)(h1:k+cnS K38 a0≤4611686018427387904)(hL:LmR K38 a0):Ran p 5 57 [.val true ⟨K38,mkS txt K38 a0 k⟩, .val false ⟨K3,(k,())⟩] ⟨[⟨K3,(k+cnS K38 a0,())⟩],[]⟩:=go57 fun n hn=>Ev.now fun aA=>by
 have hc:cnS K38 a0=(cnT (.sl K163) a0.2.2.1+(cnT (.sl K165) a0.2.2.2.1+(cnT (.sl K3) a0.2.2.2.2.1+(cnT (.sl K27) a0.2.2.2.2.2.2.2.2.1+(cnT (.sl K3) a0.2.2.2.2.2.2.2.2.2.1+(cnT (.sl K3) a0.2.2.2.2.2.2.2.2.2.2.1+(cnT (.sl K28) a0.2.2.2.2.2.2.2.2.2.2.2.1+(cnT (.sl K141) a0.2.2.2.2.2.2.2.2.2.2.2.2.2.2.1+(cnT (.sl K147) a0.2.2.2.2.2.2.2.2.2.2.2.2.2.2.2.2.2.2.1+0))))))))):=rfl
 rw[hc] at h1 ⊢
 have n2:=bM (.sl K163) a0.2.2.1
 have n3:=bM (.sl K165) a0.2.2.2.1
 have n4:=bM (.sl K3) a0.2.2.2.2.1
 have n8:=bM (.sl K27) a0.2.2.2.2.2.2.2.2.1
 have n9:=bM (.sl K3) a0.2.2.2.2.2.2.2.2.2.1
 have n10:=bM (.sl K3) a0.2.2.2.2.2.2.2.2.2.2.1
 have n11:=bM (.sl K28) a0.2.2.2.2.2.2.2.2.2.2.2.1
 have n14:=bM (.sl K141) a0.2.2.2.2.2.2.2.2.2.2.2.2.2.2.1
 have n18:=bM (.sl K147) a0.2.2.2.2.2.2.2.2.2.2.2.2.2.2.2.2.2.2.1
 have c0:cnS K27 (a0.2.2.1,a0.2.2.2.1,())=(cnT (.sl K163) a0.2.2.1+(cnT (.sl K165) a0.2.2.2.1+0)):=rfl
 have f0:=hd193 (a0.2.2.1,a0.2.2.2.1,()) (k) (by omega) (by rw[c0];omega) (show LmR K27 (a0.2.2.1,a0.2.2.2.1,())from⟨hL.2.2.1,hL.2.2.2.1,trivial⟩) n (by omega)
 simp only[c0,Int.add_zero,← Int.add_assoc] at f0
 have c1:cnS K30 (a0.2.2.2.2.1,a0.2.2.2.2.2.1,())=(cnT (.sl K3) a0.2.2.2.2.1+0):=rfl
 have f1:=hd194 (a0.2.2.2.2.1,a0.2.2.2.2.2.1,()) (k+cnT (.sl K163) a0.2.2.1+cnT (.sl K165) a0.2.2.2.1) (by omega) (by rw[c1];omega) (show LmR K30 (a0.2.2.2.2.1,a0.2.2.2.2.2.1,())from⟨hL.2.2.2.2.1,hL.2.2.2.2.2.1,trivial⟩) n (by omega)
 simp only[c1,Int.add_zero,← Int.add_assoc] at f1
 have c2:cnS K33 (a0.2.2.2.2.2.2.1,a0.2.2.2.2.2.2.2.1,a0.2.2.2.2.2.2.2.2.1,())=(cnT (.sl K27) a0.2.2.2.2.2.2.2.2.1+0):=rfl
 have f2:=hd195 (a0.2.2.2.2.2.2.1,a0.2.2.2.2.2.2.2.1,a0.2.2.2.2.2.2.2.2.1,()) (k+cnT (.sl K163) a0.2.2.1+cnT (.sl K165) a0.2.2.2.1+cnT (.sl K3) a0.2.2.2.2.1) (by omega) (by rw[c2];omega) (show LmR K33 (a0.2.2.2.2.2.2.1,a0.2.2.2.2.2.2.2.1,a0.2.2.2.2.2.2.2.2.1,())from⟨hL.2.2.2.2.2.2.1,hL.2.2.2.2.2.2.2.1,hL.2.2.2.2.2.2.2.2.1,trivial⟩) n (by omega)
 simp only[c2,Int.add_zero,← Int.add_assoc] at f2
 have f3:=hd79 a0.2.2.2.2.2.2.2.2.2.1 (k+cnT (.sl K163) a0.2.2.1+cnT (.sl K165) a0.2.2.2.1+cnT (.sl K3) a0.2.2.2.2.1+cnT (.sl K27) a0.2.2.2.2.2.2.2.2.1) (by omega) (by omega) (show LmT (.sl K3) a0.2.2.2.2.2.2.2.2.2.1 from hL.2.2.2.2.2.2.2.2.2.1) n (by omega)
 have f4:=hd79 a0.2.2.2.2.2.2.2.2.2.2.1 (k+cnT (.sl K163) a0.2.2.1+cnT (.sl K165) a0.2.2.2.1+cnT (.sl K3) a0.2.2.2.2.1+cnT (.sl K27) a0.2.2.2.2.2.2.2.2.1+cnT (.sl K3) a0.2.2.2.2.2.2.2.2.2.1) (by omega) (by omega) (show LmT (.sl K3) a0.2.2.2.2.2.2.2.2.2.2.1 from hL.2.2.2.2.2.2.2.2.2.2.1) n (by omega)
 have f5:=hd196 a0.2.2.2.2.2.2.2.2.2.2.2.1 (k+cnT (.sl K163) a0.2.2.1+cnT (.sl K165) a0.2.2.2.1+cnT (.sl K3) a0.2.2.2.2.1+cnT (.sl K27) a0.2.2.2.2.2.2.2.2.1+cnT (.sl K3) a0.2.2.2.2.2.2.2.2.2.1+cnT (.sl K3) a0.2.2.2.2.2.2.2.2.2.2.1) (by omega) (by omega) (show LmT (.sl K28) a0.2.2.2.2.2.2.2.2.2.2.2.1 from hL.2.2.2.2.2.2.2.2.2.2.2.1) n (by omega)
 have f6:=hd197 a0.2.2.2.2.2.2.2.2.2.2.2.2.2.2.1 (k+cnT (.sl K163) a0.2.2.1+cnT (.sl K165) a0.2.2.2.1+cnT (.sl K3) a0.2.2.2.2.1+cnT (.sl K27) a0.2.2.2.2.2.2.2.2.1+cnT (.sl K3) a0.2.2.2.2.2.2.2.2.2.1+cnT (.sl K3) a0.2.2.2.2.2.2.2.2.2.2.1+cnT (.sl K28) a0.2.2.2.2.2.2.2.2.2.2.2.1) (by omega) (by omega) (show LmT (.sl K141) a0.2.2.2.2.2.2.2.2.2.2.2.2.2.2.1 from hL.2.2.2.2.2.2.2.2.2.2.2.2.2.2.1) n (by omega)
 have f7:=hd198 a0.2.2.2.2.2.2.2.2.2.2.2.2.2.2.2.2.2.2.1 (k+cnT (.sl K163) a0.2.2.1+cnT (.sl K165) a0.2.2.2.1+cnT (.sl K3) a0.2.2.2.2.1+cnT (.sl K27) a0.2.2.2.2.2.2.2.2.1+cnT (.sl K3) a0.2.2.2.2.2.2.2.2.2.1+cnT (.sl K3) a0.2.2.2.2.2.2.2.2.2.2.1+cnT (.sl K28) a0.2.2.2.2.2.2.2.2.2.2.2.1+cnT (.sl K141) a0.2.2.2.2.2.2.2.2.2.2.2.2.2.2.1) (by omega) (by omega) (show LmT (.sl K147) a0.2.2.2.2.2.2.2.2.2.2.2.2.2.2.2.2.2.2.1 from hL.2.2.2.2.2.2.2.2.2.2.2.2.2.2.2.2.2.2.1) n (by omega)
 unfold T57
 refine(aQ f0 _).trans ?_
 refine(aH (show ¬ (k+cnT (.sl K163) a0.2.2.1+cnT (.sl K165) a0.2.2.2.1<0) by omega)).trans ?_
 refine(aQ f1 _).trans ?_
 refine(aH (show ¬ (k+cnT (.sl K163) a0.2.2.1+cnT (.sl K165) a0.2.2.2.1+cnT (.sl K3) a0.2.2.2.2.1<0) by omega)).trans ?_
 refine(aQ f2 _).trans ?_
 refine(aH (show ¬ (k+cnT (.sl K163) a0.2.2.1+cnT (.sl K165) a0.2.2.2.1+cnT (.sl K3) a0.2.2.2.2.1+cnT (.sl K27) a0.2.2.2.2.2.2.2.2.1<0) by omega)).trans ?_
 refine(aQ f3 _).trans ?_
 refine(aH (show ¬ (k+cnT (.sl K163) a0.2.2.1+cnT (.sl K165) a0.2.2.2.1+cnT (.sl K3) a0.2.2.2.2.1+cnT (.sl K27) a0.2.2.2.2.2.2.2.2.1+cnT (.sl K3) a0.2.2.2.2.2.2.2.2.2.1<0) by omega)).trans ?_
 refine(aQ f4 _).trans ?_
 refine(aH (show ¬ (k+cnT (.sl K163) a0.2.2.1+cnT (.sl K165) a0.2.2.2.1+cnT (.sl K3) a0.2.2.2.2.1+cnT (.sl K27) a0.2.2.2.2.2.2.2.2.1+cnT (.sl K3) a0.2.2.2.2.2.2.2.2.2.1+cnT (.sl K3) a0.2.2.2.2.2.2.2.2.2.2.1<0) by omega)).trans ?_
 refine(aQ f5 _).trans ?_
 refine(aH (show ¬ (k+cnT (.sl K163) a0.2.2.1+cnT (.sl K165) a0.2.2.2.1+cnT (.sl K3) a0.2.2.2.2.1+cnT (.sl K27) a0.2.2.2.2.2.2.2.2.1+cnT (.sl K3) a0.2.2.2.2.2.2.2.2.2.1+cnT (.sl K3) a0.2.2.2.2.2.2.2.2.2.2.1+cnT (.sl K28) a0.2.2.2.2.2.2.2.2.2.2.2.1<0) by omega)).trans ?_
 refine(aQ f6 _).trans ?_
 refine(aH (show ¬ (k+cnT (.sl K163) a0.2.2.1+cnT (.sl K165) a0.2.2.2.1+cnT (.sl K3) a0.2.2.2.2.1+cnT (.sl K27) a0.2.2.2.2.2.2.2.2.1+cnT (.sl K3) a0.2.2.2.2.2.2.2.2.2.1+cnT (.sl K3) a0.2.2.2.2.2.2.2.2.2.2.1+cnT (.sl K28) a0.2.2.2.2.2.2.2.2.2.2.2.1+cnT (.sl K141) a0.2.2.2.2.2.2.2.2.2.2.2.2.2.2.1<0) by omega)).trans ?_
 refine(aQ f7 _).trans ?_
 refine(aH (show ¬ (k+cnT (.sl K163) a0.2.2.1+cnT (.sl K165) a0.2.2.2.1+cnT (.sl K3) a0.2.2.2.2.1+cnT (.sl K27) a0.2.2.2.2.2.2.2.2.1+cnT (.sl K3) a0.2.2.2.2.2.2.2.2.2.1+cnT (.sl K3) a0.2.2.2.2.2.2.2.2.2.2.1+cnT (.sl K28) a0.2.2.2.2.2.2.2.2.2.2.2.1+cnT (.sl K141) a0.2.2.2.2.2.2.2.2.2.2.2.2.2.2.1+cnT (.sl K147) a0.2.2.2.2.2.2.2.2.2.2.2.2.2.2.2.2.2.2.1<0) by omega)).trans ?_
 rw[show k+(cnT (.sl K163) a0.2.2.1+(cnT (.sl K165) a0.2.2.2.1+(cnT (.sl K3) a0.2.2.2.2.1+(cnT (.sl K27) a0.2.2.2.2.2.2.2.2.1+(cnT (.sl K3) a0.2.2.2.2.2.2.2.2.2.1+(cnT (.sl K3) a0.2.2.2.2.2.2.2.2.2.2.1+(cnT (.sl K28) a0.2.2.2.2.2.2.2.2.2.2.2.1+(cnT (.sl K141) a0.2.2.2.2.2.2.2.2.2.2.2.2.2.2.1+(cnT (.sl K147) a0.2.2.2.2.2.2.2.2.2.2.2.2.2.2.2.2.2.2.1+0)))))))))=k+cnT (.sl K163) a0.2.2.1+cnT (.sl K165) a0.2.2.2.1+cnT (.sl K3) a0.2.2.2.2.1+cnT (.sl K27) a0.2.2.2.2.2.2.2.2.1+cnT (.sl K3) a0.2.2.2.2.2.2.2.2.2.1+cnT (.sl K3) a0.2.2.2.2.2.2.2.2.2.2.1+cnT (.sl K28) a0.2.2.2.2.2.2.2.2.2.2.2.1+cnT (.sl K141) a0.2.2.2.2.2.2.2.2.2.2.2.2.2.2.1+cnT (.sl K147) a0.2.2.2.2.2.2.2.2.2.2.2.2.2.2.2.2.2.2.1 by omega]
 first | done | rfl
end Go.Abs.Xz
