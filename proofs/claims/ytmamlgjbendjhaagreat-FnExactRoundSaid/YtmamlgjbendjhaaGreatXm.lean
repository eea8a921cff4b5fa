/- What the functions of this program answer, part m. -/
import Derived.Test.YtmamlgjbendjhaaGreatXr0
import Derived.Test.YtmamlgjbendjhaaGreatXr1
import Derived.Test.YtmamlgjbendjhaaGreatW2
set_option linter.unusedVariables false
set_option linter.unusedSimpArgs false
open Go.IntKind (i64)
namespace Go.Abs.Xz
open Go Go.Abs
theorem yE(k:Int)(h0:0≤k)(h1:k≤9223372036854775807):∃ s:ByteArray,Ran p 1 217 [vf K3 (k,())] (rO K9 (s,())):=by
 by_cases hk:k≤0
 ·exact⟨⟨#[109,48]⟩,go217 fun n hn=>Ev.now fun aA=>by unfold T217;exact aE hk⟩
 ·have key:∀ n:Nat,∃ r:ByteArray,It (fun aA (_:Unit)=>c217_4 (aG p n) aA) (k,(⟨#[]⟩:ByteArray)) (fun _=>rV K9 ((r,()):Row K9)):=fun n=>by
   refine wV (c:=fun aA (_:Unit)=>c217_4 (aG p n) aA) (A:=K9) (fun s=>((s,()):Row K9)) (fun k=>j9 [(IntKind.u8.wrap (i64.wrap (48+k.tmod 10)),())]) (fun k=>rfl) ⟨#[109]⟩ rfl (fun k s hk hs aA a rec=>?_) (fun s hs aA a rec=>?_) 19 k ⟨#[]⟩ h0 (by omega) h1 (by decide)
   ·show c217_4 (aG p n) aA rec (k,s)=_
    unfold c217_4
    refine(aE hk).trans ?_
    refine(aF (by decide)).trans ?_
    refine(aE hs).trans ?_
    exact aF (by decide)
   ·show c217_4 (aG p n) aA rec (0,s)=_
    unfold c217_4
    refine(aF (Int.lt_irrefl 0)).trans ?_
    exact aE hs
  obtain⟨r,hr⟩:=key 0
  have hr':∀ n,It (fun aA (_:Unit)=>c217_4 (aG p n) aA) (k,(⟨#[]⟩:ByteArray)) (fun _=>rV K9 ((r,()):Row K9)):=fun n=>hr
  exact⟨r,go217 fun n hn=>by
   refine Ev.eq (g:=fun aA=>iter (c217_4 (aG p n) aA) aA (k,(⟨#[]⟩:ByteArray))) (fun aA=>by unfold T217;exact aF hk) ?_
   exact It.ev (i:=()) (hr' n) rfl⟩
open Classical in
noncomputable def txt(k:Int):ByteArray:=if h:0≤k∧k≤9223372036854775807 then(yE k h.1 h.2).choose else⟨#[]⟩
theorem FE(k:Int)(h0:0≤k)(h1:k≤9223372036854775807):Ran p 1 217 [vf K3 (k,())] (rO K9 (txt k,())):=by
 have e:txt k=(yE k h0 h1).choose:=dif_pos ⟨h0,h1⟩
 rw[e]
 exact(yE k h0 h1).choose_spec
theorem mk45(aB:List (Row K3))(k:Int)(h0:0≤k)(h1:k+cnT (.sl K3) aB≤4611686018427387904)(hL:LmT (.sl K3) aB):Ran p 1 45 [.own false ⟨K28,(aB,())⟩, vf K3 (k,())] ⟨[⟨K3,(k+cnT (.sl K3) aB,())⟩],[⟨K28,(mkT txt (.sl K3) aB k,())⟩]⟩:=go45 fun n hn=>by
 refine Ev.eq (fun aA=>by unfold T45;rfl) ?_
 refine It.ev (c:=fun aA (_:Unit)=>c45_2 (aG p n) aA) (i:=()) (r:=fun _=>some ⟨[⟨K3,(k+cnT (.sl K3) aB,())⟩],[⟨K28,(mkT txt (.sl K3) aB k,())⟩]⟩) ?_ rfl
 have hlen:List.length aB≤4611686018427387904:=hL.1
 refine eP (mkR txt K3) (cnR K3) (dW K3) aB k 4611686018427387904 h0 h1 (fun i k ys=>(k,((i:Int),ys))) (fun i hi ys k hy ha hk hB aA a rec=>?_) (fun aA a rec=>?_)
 ·have hb:i<9223372036854775807:=by omega
  have hx:=hL.2 i aB[i] (bC hi)
  generalize aB[i]=x at*
  have g0:=gP K3 x hk
  have g1:=gQ K3 x hB
  have gw:=dN g0 g1
  have w0:i64.wrap ((sR K3 x k 0)+1)=(sR K3 x k 1):=gw 1
  have hy2:i<ys.length:=by rw[hy];exact hi
  show c45_2 (aG p n) aA rec ((sR K3 x k 0),((i:Int),ys))=rec (k+cnR K3 x,(((i+1:Nat):Int),ys.set i (mkR txt K3 x k)))
  rw[← d8 K3 x k];unfold c45_2;dsimp only;rw[aI hb]
  have a0:=bX hy2 (bW K3 1 (mkR txt K3 x k) x)
  rw[w0]
  refine(aE (Int.ofNat_lt.2 hy2)).trans ?_
  refine bif_nn.trans ?_
  refine(aJ ha).trans ?_
  refine(aJ ha).trans ?_
  refine(bJ (List.set ys i (bW K3 1 (mkR txt K3 x k) x)) iK).trans ?_
  first | done | rfl
 ·show c45_2 (aG p n) aA rec (k+cnT (.sl K3) aB,((aB.length:Int),mkT txt (.sl K3) aB k))=_
  have hlm:List.length (mkT txt (.sl K3) aB k)=List.length aB:=bG _ _
  unfold c45_2;simp only[hlm,bF,cond_false]
theorem mk62(aB:List (Row K5))(k:Int)(h0:0≤k)(h1:k+cnT (.sl K5) aB≤4611686018427387904)(hL:LmT (.sl K5) aB):Ran p 1 62 [.own false ⟨K22,(aB,())⟩, vf K3 (k,())] ⟨[⟨K3,(k+cnT (.sl K5) aB,())⟩],[⟨K22,(mkT txt (.sl K5) aB k,())⟩]⟩:=go62 fun n hn=>by
 refine Ev.eq (fun aA=>by unfold T62;rfl) ?_
 refine It.ev (c:=fun aA (_:Unit)=>c62_2 (aG p n) aA) (i:=()) (r:=fun _=>some ⟨[⟨K3,(k+cnT (.sl K5) aB,())⟩],[⟨K22,(mkT txt (.sl K5) aB k,())⟩]⟩) ?_ rfl
 have hlen:List.length aB≤4611686018427387904:=hL.1
 refine eP (mkR txt K5) (cnR K5) (dW K5) aB k 4611686018427387904 h0 h1 (fun i k ys=>(k,((i:Int),ys))) (fun i hi ys k hy ha hk hB aA a rec=>?_) (fun aA a rec=>?_)
 ·have hb:i<9223372036854775807:=by omega
  have hx:=hL.2 i aB[i] (bC hi)
  generalize aB[i]=x at*
  have g0:=gP K5 x hk
  have g1:=gQ K5 x hB
  have gw:=dN g0 g1
  have w0:i64.wrap ((sR K5 x k 0)+1)=(sR K5 x k 1):=gw 1
  have hy2:i<ys.length:=by rw[hy];exact hi
  show c62_2 (aG p n) aA rec ((sR K5 x k 0),((i:Int),ys))=rec (k+cnR K5 x,(((i+1:Nat):Int),ys.set i (mkR txt K5 x k)))
  rw[← d8 K5 x k];unfold c62_2;dsimp only;rw[aI hb]
  have a0:=bX hy2 (bW K5 1 (mkR txt K5 x k) x)
  rw[w0]
  refine(aE (Int.ofNat_lt.2 hy2)).trans ?_
  refine bif_nn.trans ?_
  refine(aJ ha).trans ?_
  refine(aJ ha).trans ?_
  refine(bJ (List.set ys i (bW K5 1 (mkR txt K5 x k) x)) iK).trans ?_
  first | done | rfl
 ·show c62_2 (aG p n) aA rec (k+cnT (.sl K5) aB,((aB.length:Int),mkT txt (.sl K5) aB k))=_
  have hlm:List.length (mkT txt (.sl K5) aB k)=List.length aB:=bG _ _
  unfold c62_2;simp only[hlm,bF,cond_false]
theorem hd79(aB:List (Row K3))(k:Int)(h0:0≤k)(h1:k+cnT (.sl K3) aB≤4611686018427387904)(hL:LmT (.sl K3) aB):Ran p 1 79 [vf K28 (mkT txt (.sl K3) aB k,()), vf K3 (k,())] (rO K3 (k+cnT (.sl K3) aB,())):=go79 fun n hn=>by
 refine Ev.eq (fun aA=>by unfold T79;rfl) ?_
 refine It.ev (c:=fun aA (_:Unit)=>c79_2 (aG p n) aA (mkT txt (.sl K3) aB k)) (i:=()) (r:=fun _=>rV K3 (k+cnT (.sl K3) aB,())) ?_ rfl
 have hlen:List.length aB≤4611686018427387904:=hL.1
 refine eR (mkR txt K3) (cnR K3) (dW K3) aB k 4611686018427387904 h0 h1 (fun i k=>(k,(i:Int))) (fun i hi q hi2 ha hk hB aA a rec=>?_) (fun aA a rec=>?_)
 ·have hb:i<9223372036854775807:=by omega
  have hx:=hL.2 i aB[i] (bC hi)
  generalize aB[i]=x at*
  have g0:=gP K3 x hk
  have g1:=gQ K3 x hB
  have gw:=dN g0 g1
  have w0:i64.wrap ((sR K3 x q 0)+1)=(sR K3 x q 1):=gw 1
  show c79_2 (aG p n) aA (mkT txt (.sl K3) aB k) rec ((sR K3 x q 0),(i:Int))=rec (q+cnR K3 x,((i+1:Nat):Int))
  replace hi2:i<List.length (mkT txt (.sl K3) aB k):=hi2
  replace ha:at? (mkT txt (.sl K3) aB k) i=some (mkR txt K3 x q):=ha
  generalize mkT txt (.sl K3) aB k=L at*
  rw[← d8 K3 x q];unfold c79_2;dsimp only;rw[aI hb]
  rw[w0]
  refine(aE (Int.ofNat_lt.2 hi2)).trans ?_
  refine bif_nn.trans ?_
  refine(aJ ha).trans ?_
  refine(aL (bne_self_eq_false _)).trans ?_
  first | done | rfl
 ·show c79_2 (aG p n) aA (mkT txt (.sl K3) aB k) rec (k+cnT (.sl K3) aB,((List.length (mkT txt (.sl K3) aB k):Nat):Int))=_
  unfold c79_2;simp only[bF,cond_false]
theorem mk188(aB:List (Row K141))(k:Int)(h0:0≤k)(h1:k+cnT (.sl K141) aB≤4611686018427387904)(hL:LmT (.sl K141) aB):Ran p 1 188 [.own false ⟨K35,(aB,())⟩, vf K3 (k,())] ⟨[⟨K3,(k+cnT (.sl K141) aB,())⟩],[⟨K35,(mkT txt (.sl K141) aB k,())⟩]⟩:=go188 fun n hn=>by
 refine Ev.eq (fun aA=>by unfold T188;rfl) ?_
 refine It.ev (c:=fun aA (_:Unit)=>c188_2 (aG p n) aA) (i:=()) (r:=fun _=>some ⟨[⟨K3,(k+cnT (.sl K141) aB,())⟩],[⟨K35,(mkT txt (.sl K141) aB k,())⟩]⟩) ?_ rfl
 have hlen:List.length aB≤4611686018427387904:=hL.1
 refine eP (mkR txt K141) (cnR K141) (dW K141) aB k 4611686018427387904 h0 h1 (fun i k ys=>(k,((i:Int),ys))) (fun i hi ys k hy ha hk hB aA a rec=>?_) (fun aA a rec=>?_)
 ·have hb:i<9223372036854775807:=by omega
  have hx:=hL.2 i aB[i] (bC hi)
  generalize aB[i]=x at*
  have g0:=gP K141 x hk
  have g1:=gQ K141 x hB
  have gw:=dN g0 g1
  have w0:i64.wrap ((sR K141 x k 0)+1)=(sR K141 x k 1):=gw 1
  have w1:i64.wrap ((sR K141 x k 1)+1)=(sR K141 x k 2):=gw 2
  have w2:i64.wrap ((sR K141 x k 2)+1)=(sR K141 x k 3):=gw 3
  have w3:i64.wrap ((sR K141 x k 3)+1)=(sR K141 x k 4):=gw 4
  have hy2:i<ys.length:=by rw[hy];exact hi
  show c188_2 (aG p n) aA rec ((sR K141 x k 0),((i:Int),ys))=rec (k+cnR K141 x,(((i+1:Nat):Int),ys.set i (mkR txt K141 x k)))
  rw[← d8 K141 x k];unfold c188_2;dsimp only;rw[aI hb]
  have a0:=bX hy2 (bW K141 1 (mkR txt K141 x k) x)
  have a1:=bX hy2 (bW K141 2 (mkR txt K141 x k) x)
  have a2:=bX hy2 (bW K141 3 (mkR txt K141 x k) x)
  have a3:=bX hy2 (bW K141 4 (mkR txt K141 x k) x)
  rw[w0]
  rw[w1]
  rw[w2]
  rw[w3]
  refine(aE (Int.ofNat_lt.2 hy2)).trans ?_
  refine bif_nn.trans ?_
  refine(aJ ha).trans ?_
  refine(aJ ha).trans ?_
  refine(bJ (List.set ys i (bW K141 1 (mkR txt K141 x k) x)) iK).trans ?_
  refine bif_nn.trans ?_
  refine(aJ a0).trans ?_
  refine(aJ a0).trans ?_
  refine(bJ (List.set ys i (bW K141 2 (mkR txt K141 x k) x)) bO).trans ?_
  refine(aF (by decide)).trans ?_
  refine bif_nn.trans ?_
  refine(aJ a1).trans ?_
  refine(aJ a1).trans ?_
  refine(bJ (List.set ys i (bW K141 3 (mkR txt K141 x k) x)) bO).trans ?_
  refine bif_nn.trans ?_
  refine(aJ a2).trans ?_
  refine(aJ a2).trans ?_
  refine(bJ (List.set ys i (bW K141 4 (mkR txt K141 x k) x)) bO).trans ?_
  first | done | rfl
 ·show c188_2 (aG p n) aA rec (k+cnT (.sl K141) aB,((aB.length:Int),mkT txt (.sl K141) aB k))=_
  have hlm:List.length (mkT txt (.sl K141) aB k)=List.length aB:=bG _ _
  unfold c188_2;simp only[hlm,bF,cond_false]
theorem mk189(aB:List (Row K147))(k:Int)(h0:0≤k)(h1:k+cnT (.sl K147) aB≤4611686018427387904)(hL:LmT (.sl K147) aB):Ran p 1 189 [.own false ⟨K36,(aB,())⟩, vf K3 (k,())] ⟨[⟨K3,(k+cnT (.sl K147) aB,())⟩],[⟨K36,(mkT txt (.sl K147) aB k,())⟩]⟩:=go189 fun n hn=>by
 refine Ev.eq (fun aA=>by unfold T189;rfl) ?_
 refine It.ev (c:=fun aA (_:Unit)=>c189_2 (aG p n) aA) (i:=()) (r:=fun _=>some ⟨[⟨K3,(k+cnT (.sl K147) aB,())⟩],[⟨K36,(mkT txt (.sl K147) aB k,())⟩]⟩) ?_ rfl
 have hlen:List.length aB≤4611686018427387904:=hL.1
 refine eP (mkR txt K147) (cnR K147) (dW K147) aB k 4611686018427387904 h0 h1 (fun i k ys=>(k,((i:Int),ys))) (fun i hi ys k hy ha hk hB aA a rec=>?_) (fun aA a rec=>?_)
 ·have hb:i<9223372036854775807:=by omega
  have hx:=hL.2 i aB[i] (bC hi)
  generalize aB[i]=x at*
  have g0:=gP K147 x hk
  have g1:=gQ K147 x hB
  have gw:=dN g0 g1
  have w0:i64.wrap ((sR K147 x k 0)+1)=(sR K147 x k 1):=gw 1
  have w1:i64.wrap ((sR K147 x k 1)+1)=(sR K147 x k 2):=gw 2
  have w2:i64.wrap ((sR K147 x k 2)+1)=(sR K147 x k 3):=gw 3
  have hy2:i<ys.length:=by rw[hy];exact hi
  show c189_2 (aG p n) aA rec ((sR K147 x k 0),((i:Int),ys))=rec (k+cnR K147 x,(((i+1:Nat):Int),ys.set i (mkR txt K147 x k)))
  rw[← d8 K147 x k];unfold c189_2;dsimp only;rw[aI hb]
  have a0:=bX hy2 (bW K147 1 (mkR txt K147 x k) x)
  have a1:=bX hy2 (bW K147 2 (mkR txt K147 x k) x)
  have a2:=bX hy2 (bW K147 3 (mkR txt K147 x k) x)
  rw[w0]
  rw[w1]
  rw[w2]
  refine(aE (Int.ofNat_lt.2 hy2)).trans ?_
  refine bif_nn.trans ?_
  refine(aJ ha).trans ?_
  refine(aJ ha).trans ?_
  refine(bJ (List.set ys i (bW K147 1 (mkR txt K147 x k) x)) iK).trans ?_
  refine bif_nn.trans ?_
  refine(aJ a0).trans ?_
  refine(aJ a0).trans ?_
  refine(bJ (List.set ys i (bW K147 2 (mkR txt K147 x k) x)) bO).trans ?_
  refine bif_nn.trans ?_
  refine(aJ a1).trans ?_
  refine(aJ a1).trans ?_
  refine(bJ (List.set ys i (bW K147 3 (mkR txt K147 x k) x)) bO).trans ?_
  first | done | rfl
 ·show c189_2 (aG p n) aA rec (k+cnT (.sl K147) aB,((aB.length:Int),mkT txt (.sl K147) aB k))=_
  have hlm:List.length (mkT txt (.sl K147) aB k)=List.length aB:=bG _ _
  unfold c189_2;simp only[hlm,bF,cond_false]
theorem mk192(aB:List (Row K165))(k:Int)(h0:0≤k)(h1:k+cnT (.sl K165) aB≤4611686018427387904)(hL:LmT (.sl K165) aB):Ran p 1 192 [.own false ⟨K25,(aB,())⟩, vf K3 (k,())] ⟨[⟨K3,(k+cnT (.sl K165) aB,())⟩],[⟨K25,(mkT txt (.sl K165) aB k,())⟩]⟩:=go192 fun n hn=>by
 refine Ev.eq (fun aA=>by unfold T192;rfl) ?_
 refine It.ev (c:=fun aA (_:Unit)=>c192_2 (aG p n) aA) (i:=()) (r:=fun _=>some ⟨[⟨K3,(k+cnT (.sl K165) aB,())⟩],[⟨K25,(mkT txt (.sl K165) aB k,())⟩]⟩) ?_ rfl
 have hlen:List.length aB≤4611686018427387904:=hL.1
 refine eP (mkR txt K165) (cnR K165) (dW K165) aB k 4611686018427387904 h0 h1 (fun i k ys=>(k,((i:Int),ys))) (fun i hi ys k hy ha hk hB aA a rec=>?_) (fun aA a rec=>?_)
 ·have hb:i<9223372036854775807:=by omega
  have hx:=hL.2 i aB[i] (bC hi)
  generalize aB[i]=x at*
  have g0:=gP K165 x hk
  have g1:=gQ K165 x hB
  have gw:=dN g0 g1
  have w0:i64.wrap ((sR K165 x k 0)+1)=(sR K165 x k 1):=gw 1
  have w1:i64.wrap ((sR K165 x k 1)+1)=(sR K165 x k 2):=gw 2
  have hy2:i<ys.length:=by rw[hy];exact hi
  show c192_2 (aG p n) aA rec ((sR K165 x k 0),((i:Int),ys))=rec (k+cnR K165 x,(((i+1:Nat):Int),ys.set i (mkR txt K165 x k)))
  rw[← d8 K165 x k];unfold c192_2;dsimp only;rw[aI hb]
  have a0:=bX hy2 (bW K165 1 (mkR txt K165 x k) x)
  have a1:=bX hy2 (bW K165 2 (mkR txt K165 x k) x)
  rw[w0]
  rw[w1]
  refine(aE (Int.ofNat_lt.2 hy2)).trans ?_
  refine bif_nn.trans ?_
  refine(aJ ha).trans ?_
  refine(aJ ha).trans ?_
  refine(bJ (List.set ys i (bW K165 1 (mkR txt K165 x k) x)) iK).trans ?_
  refine bif_nn.trans ?_
  refine(aJ a0).trans ?_
  refine(aJ a0).trans ?_
  refine(bJ (List.set ys i (bW K165 2 (mkR txt K165 x k) x)) bO).trans ?_
  first | done | rfl
 ·show c192_2 (aG p n) aA rec (k+cnT (.sl K165) aB,((aB.length:Int),mkT txt (.sl K165) aB k))=_
  have hlm:List.length (mkT txt (.sl K165) aB k)=List.length aB:=bG _ _
  unfold c192_2;simp only[hlm,bF,cond_false]
theorem hd197(aB:List (Row K141))(k:Int)(h0:0≤k)(h1:k+cnT (.sl K141) aB≤4611686018427387904)(hL:LmT (.sl K141) aB):Ran p 1 197 [vf K35 (mkT txt (.sl K141) aB k,()), vf K3 (k,())] (rO K3 (k+cnT (.sl K141) aB,())):=go197 fun n hn=>by
 refine Ev.eq (fun aA=>by unfold T197;rfl) ?_
 refine It.ev (c:=fun aA (_:Unit)=>c197_2 (aG p n) aA (mkT txt (.sl K141) aB k)) (i:=()) (r:=fun _=>rV K3 (k+cnT (.sl K141) aB,())) ?_ rfl
 have hlen:List.length aB≤4611686018427387904:=hL.1
 refine eR (mkR txt K141) (cnR K141) (dW K141) aB k 4611686018427387904 h0 h1 (fun i k=>(k,(i:Int))) (fun i hi q hi2 ha hk hB aA a rec=>?_) (fun aA a rec=>?_)
 ·have hb:i<9223372036854775807:=by omega
  have hx:=hL.2 i aB[i] (bC hi)
  generalize aB[i]=x at*
  have g0:=gP K141 x hk
  have g1:=gQ K141 x hB
  have gw:=dN g0 g1
  have w0:i64.wrap ((sR K141 x q 0)+1)=(sR K141 x q 1):=gw 1
  have w1:i64.wrap ((sR K141 x q 1)+1)=(sR K141 x q 2):=gw 2
  have w2:i64.wrap ((sR K141 x q 2)+1)=(sR K141 x q 3):=gw 3
  have w3:i64.wrap ((sR K141 x q 3)+1)=(sR K141 x q 4):=gw 4
  show c197_2 (aG p n) aA (mkT txt (.sl K141) aB k) rec ((sR K141 x q 0),(i:Int))=rec (q+cnR K141 x,((i+1:Nat):Int))
  replace hi2:i<List.length (mkT txt (.sl K141) aB k):=hi2
  replace ha:at? (mkT txt (.sl K141) aB k) i=some (mkR txt K141 x q):=ha
  generalize mkT txt (.sl K141) aB k=L at*
  rw[← d8 K141 x q];unfold c197_2;dsimp only;rw[aI hb]
  rw[w0]
  rw[w1]
  rw[w2]
  rw[w3]
  refine(aE (Int.ofNat_lt.2 hi2)).trans ?_
  refine bif_nn.trans ?_
  refine(aJ ha).trans ?_
  refine(aL (bne_self_eq_false _)).trans ?_
  refine bif_nn.trans ?_
  refine(aJ ha).trans ?_
  refine(aL (bne_self_eq_false _)).trans ?_
  refine bif_nn.trans ?_
  refine(aJ ha).trans ?_
  refine(aF (by decide)).trans ?_
  refine(aL (BF _)).trans ?_
  refine bif_nn.trans ?_
  refine(aJ ha).trans ?_
  refine(aL (bne_self_eq_false _)).trans ?_
  first | done | rfl
 ·show c197_2 (aG p n) aA (mkT txt (.sl K141) aB k) rec (k+cnT (.sl K141) aB,((List.length (mkT txt (.sl K141) aB k):Nat):Int))=_
  unfold c197_2;simp only[bF,cond_false]
theorem hd198(aB:List (Row K147))(k:Int)(h0:0≤k)(h1:k+cnT (.sl K147) aB≤4611686018427387904)(hL:LmT (.sl K147) aB):Ran p 1 198 [vf K36 (mkT txt (.sl K147) aB k,()), vf K3 (k,())] (rO K3 (k+cnT (.sl K147) aB,())):=go198 fun n hn=>by
 refine Ev.eq (fun aA=>by unfold T198;rfl) ?_
 refine It.ev (c:=fun aA (_:Unit)=>c198_2 (aG p n) aA (mkT txt (.sl K147) aB k)) (i:=()) (r:=fun _=>rV K3 (k+cnT (.sl K147) aB,())) ?_ rfl
 have hlen:List.length aB≤4611686018427387904:=hL.1
 refine eR (mkR txt K147) (cnR K147) (dW K147) aB k 4611686018427387904 h0 h1 (fun i k=>(k,(i:Int))) (fun i hi q hi2 ha hk hB aA a rec=>?_) (fun aA a rec=>?_)
 ·have hb:i<9223372036854775807:=by omega
  have hx:=hL.2 i aB[i] (bC hi)
  generalize aB[i]=x at*
  have g0:=gP K147 x hk
  have g1:=gQ K147 x hB
  have gw:=dN g0 g1
  have w0:i64.wrap ((sR K147 x q 0)+1)=(sR K147 x q 1):=gw 1
  have w1:i64.wrap ((sR K147 x q 1)+1)=(sR K147 x q 2):=gw 2
  have w2:i64.wrap ((sR K147 x q 2)+1)=(sR K147 x q 3):=gw 3
  show c198_2 (aG p n) aA (mkT txt (.sl K147) aB k) rec ((sR K147 x q 0),(i:Int))=rec (q+cnR K147 x,((i+1:Nat):Int))
  replace hi2:i<List.length (mkT txt (.sl K147) aB k):=hi2
  replace ha:at? (mkT txt (.sl K147) aB k) i=some (mkR txt K147 x q):=ha
  generalize mkT txt (.sl K147) aB k=L at*
  rw[← d8 K147 x q];unfold c198_2;dsimp only;rw[aI hb]
  rw[w0]
  rw[w1]
  rw[w2]
  refine(aE (Int.ofNat_lt.2 hi2)).trans ?_
  refine bif_nn.trans ?_
  refine(aJ ha).trans ?_
  refine(aL (bne_self_eq_false _)).trans ?_
  refine bif_nn.trans ?_
  refine(aJ ha).trans ?_
  refine(aL (bne_self_eq_false _)).trans ?_
  refine bif_nn.trans ?_
  refine(aJ ha).trans ?_
  refine(aL (bne_self_eq_false _)).trans ?_
  first | done | rfl
 ·show c198_2 (aG p n) aA (mkT txt (.sl K147) aB k) rec (k+cnT (.sl K147) aB,((List.length (mkT txt (.sl K147) aB k):Nat):Int))=_
  unfold c198_2;simp only[bF,cond_false]
theorem hd200(aB:List (Row K165))(k:Int)(h0:0≤k)(h1:k+cnT (.sl K165) aB≤4611686018427387904)(hL:LmT (.sl K165) aB):Ran p 1 200 [vf K25 (mkT txt (.sl K165) aB k,()), vf K3 (k,())] (rO K3 (k+cnT (.sl K165) aB,())):=go200 fun n hn=>by
 refine Ev.eq (fun aA=>by unfold T200;rfl) ?_
 refine It.ev (c:=fun aA (_:Unit)=>c200_2 (aG p n) aA (mkT txt (.sl K165) aB k)) (i:=()) (r:=fun _=>rV K3 (k+cnT (.sl K165) aB,())) ?_ rfl
 have hlen:List.length aB≤4611686018427387904:=hL.1
 refine eR (mkR txt K165) (cnR K165) (dW K165) aB k 4611686018427387904 h0 h1 (fun i k=>(k,(i:Int))) (fun i hi q hi2 ha hk hB aA a rec=>?_) (fun aA a rec=>?_)
 ·have hb:i<9223372036854775807:=by omega
  have hx:=hL.2 i aB[i] (bC hi)
  generalize aB[i]=x at*
  have g0:=gP K165 x hk
  have g1:=gQ K165 x hB
  have gw:=dN g0 g1
  have w0:i64.wrap ((sR K165 x q 0)+1)=(sR K165 x q 1):=gw 1
  have w1:i64.wrap ((sR K165 x q 1)+1)=(sR K165 x q 2):=gw 2
  show c200_2 (aG p n) aA (mkT txt (.sl K165) aB k) rec ((sR K165 x q 0),(i:Int))=rec (q+cnR K165 x,((i+1:Nat):Int))
  replace hi2:i<List.length (mkT txt (.sl K165) aB k):=hi2
  replace ha:at? (mkT txt (.sl K165) aB k) i=some (mkR txt K165 x q):=ha
  generalize mkT txt (.sl K165) aB k=L at*
  rw[← d8 K165 x q];unfold c200_2;dsimp only;rw[aI hb]
  rw[w0]
  rw[w1]
  refine(aE (Int.ofNat_lt.2 hi2)).trans ?_
  refine bif_nn.trans ?_
  refine(aJ ha).trans ?_
  refine(aL (bne_self_eq_false _)).trans ?_
  refine bif_nn.trans ?_
  refine(aJ ha).trans ?_
  refine(aL (bne_self_eq_false _)).trans ?_
  first | done | rfl
 ·show c200_2 (aG p n) aA (mkT txt (.sl K165) aB k) rec (k+cnT (.sl K165) aB,((List.length (mkT txt (.sl K165) aB k):Nat):Int))=_
  unfold c200_2;simp only[bF,cond_false]
theorem hd202(aB:List (Row K5))(k:Int)(h0:0≤k)(h1:k+cnT (.sl K5) aB≤4611686018427387904)(hL:LmT (.sl K5) aB):Ran p 1 202 [vf K22 (mkT txt (.sl K5) aB k,()), vf K3 (k,())] (rO K3 (k+cnT (.sl K5) aB,())):=go202 fun n hn=>by
 refine Ev.eq (fun aA=>by unfold T202;rfl) ?_
 refine It.ev (c:=fun aA (_:Unit)=>c202_2 (aG p n) aA (mkT txt (.sl K5) aB k)) (i:=()) (r:=fun _=>rV K3 (k+cnT (.sl K5) aB,())) ?_ rfl
 have hlen:List.length aB≤4611686018427387904:=hL.1
 refine eR (mkR txt K5) (cnR K5) (dW K5) aB k 4611686018427387904 h0 h1 (fun i k=>(k,(i:Int))) (fun i hi q hi2 ha hk hB aA a rec=>?_) (fun aA a rec=>?_)
 ·have hb:i<9223372036854775807:=by omega
  have hx:=hL.2 i aB[i] (bC hi)
  generalize aB[i]=x at*
  have g0:=gP K5 x hk
  have g1:=gQ K5 x hB
  have gw:=dN g0 g1
  have w0:i64.wrap ((sR K5 x q 0)+1)=(sR K5 x q 1):=gw 1
  show c202_2 (aG p n) aA (mkT txt (.sl K5) aB k) rec ((sR K5 x q 0),(i:Int))=rec (q+cnR K5 x,((i+1:Nat):Int))
  replace hi2:i<List.length (mkT txt (.sl K5) aB k):=hi2
  replace ha:at? (mkT txt (.sl K5) aB k) i=some (mkR txt K5 x q):=ha
  generalize mkT txt (.sl K5) aB k=L at*
  rw[← d8 K5 x q];unfold c202_2;dsimp only;rw[aI hb]
  rw[w0]
  refine(aE (Int.ofNat_lt.2 hi2)).trans ?_
  refine bif_nn.trans ?_
  refine(aJ ha).trans ?_
  refine(aL (bne_self_eq_false _)).trans ?_
  first | done | rfl
 ·show c202_2 (aG p n) aA (mkT txt (.sl K5) aB k) rec (k+cnT (.sl K5) aB,((List.length (mkT txt (.sl K5) aB k):Nat):Int))=_
  unfold c202_2;simp only[bF,cond_false]
theorem mk157(aB:List (Row K195))(k:Int)(h0:0≤k)(h1:k+cnT (.sl K195) aB≤4611686018427387904)(hL:LmT (.sl K195) aB):Ran p 2 157 [.own false ⟨K75,(aB,())⟩, vf K3 (k,())] ⟨[⟨K3,(k+cnT (.sl K195) aB,())⟩],[⟨K75,(mkT txt (.sl K195) aB k,())⟩]⟩:=go157 fun n hn=>by
 refine Ev.eq (fun aA=>by unfold T157;rfl) ?_
 refine It.ev (c:=fun aA (_:Unit)=>c157_2 (aG p n) aA) (i:=()) (r:=fun _=>some ⟨[⟨K3,(k+cnT (.sl K195) aB,())⟩],[⟨K75,(mkT txt (.sl K195) aB k,())⟩]⟩) ?_ rfl
 have hlen:List.length aB≤4611686018427387904:=hL.1
 refine eP (mkR txt K195) (cnR K195) (dW K195) aB k 4611686018427387904 h0 h1 (fun i k ys=>(k,((i:Int),ys))) (fun i hi ys k hy ha hk hB aA a rec=>?_) (fun aA a rec=>?_)
 ·have hb:i<9223372036854775807:=by omega
  have hx:=hL.2 i aB[i] (bC hi)
  generalize aB[i]=x at*
  have g0:=gP K195 x hk
  have g1:=gQ K195 x hB
  have gw:=dN g0 g1
  have f1:=mk62 x.2.1 (sR K195 x k 1) (g0 1) (g1 2) hx.2.1 n (by omega)
  rw[show(sR K195 x k 1)+cnT (.sl K5) x.2.1=(sR K195 x k 2)from rfl] at f1
  have w0:i64.wrap ((sR K195 x k 0)+1)=(sR K195 x k 1):=gw 1
  have w2:i64.wrap ((sR K195 x k 2)+1)=(sR K195 x k 3):=gw 3
  have hy2:i<ys.length:=by rw[hy];exact hi
  show c157_2 (aG p n) aA rec ((sR K195 x k 0),((i:Int),ys))=rec (k+cnR K195 x,(((i+1:Nat):Int),ys.set i (mkR txt K195 x k)))
  rw[← d8 K195 x k];unfold c157_2;dsimp only;rw[aI hb]
  have a0:=bX hy2 (bW K195 1 (mkR txt K195 x k) x)
  have a1:=bX hy2 (bW K195 2 (mkR txt K195 x k) x)
  have a2:=bX hy2 (bW K195 3 (mkR txt K195 x k) x)
  rw[w0]
  refine(aE (Int.ofNat_lt.2 hy2)).trans ?_
  refine bif_nn.trans ?_
  refine(aJ ha).trans ?_
  refine(aJ ha).trans ?_
  refine(bJ (List.set ys i (bW K195 1 (mkR txt K195 x k) x)) iK).trans ?_
  refine bif_nn.trans ?_
  refine(aJ a0).trans ?_
  refine(aJ a0).trans ?_
  refine(aJ a0).trans ?_
  refine(c6 f1 _).trans ?_
  rw[w2]
  refine(aJ a0).trans ?_
  refine(bJ (List.set ys i (bW K195 2 (mkR txt K195 x k) x)) bO).trans ?_
  refine(aF (by decide)).trans ?_
  refine bif_nn.trans ?_
  refine(aJ a1).trans ?_
  refine(aJ a1).trans ?_
  refine(bJ (List.set ys i (bW K195 3 (mkR txt K195 x k) x)) bO).trans ?_
  first | done | rfl
 ·show c157_2 (aG p n) aA rec (k+cnT (.sl K195) aB,((aB.length:Int),mkT txt (.sl K195) aB k))=_
  have hlm:List.length (mkT txt (.sl K195) aB k)=List.length aB:=bG _ _
  unfold c157_2;simp only[hlm,bF,cond_false]
theorem hd160(aB:List (Row K195))(k:Int)(h0:0≤k)(h1:k+cnT (.sl K195) aB≤4611686018427387904)(hL:LmT (.sl K195) aB):Ran p 2 160 [vf K75 (mkT txt (.sl K195) aB k,()), vf K3 (k,())] (rO K3 (k+cnT (.sl K195) aB,())):=go160 fun n hn=>by
 refine Ev.eq (fun aA=>by unfold T160;rfl) ?_
 refine It.ev (c:=fun aA (_:Unit)=>c160_2 (aG p n) aA (mkT txt (.sl K195) aB k)) (i:=()) (r:=fun _=>rV K3 (k+cnT (.sl K195) aB,())) ?_ rfl
 have hlen:List.length aB≤4611686018427387904:=hL.1
 refine eR (mkR txt K195) (cnR K195) (dW K195) aB k 4611686018427387904 h0 h1 (fun i k=>(k,(i:Int))) (fun i hi q hi2 ha hk hB aA a rec=>?_) (fun aA a rec=>?_)
 ·have hb:i<9223372036854775807:=by omega
  have hx:=hL.2 i aB[i] (bC hi)
  generalize aB[i]=x at*
  have g0:=gP K195 x hk
  have g1:=gQ K195 x hB
  have gw:=dN g0 g1
  have f1:=hd202 x.2.1 (sR K195 x q 1) (g0 1) (g1 2) hx.2.1 n (by omega)
  rw[show(sR K195 x q 1)+cnT (.sl K5) x.2.1=(sR K195 x q 2)from rfl] at f1
  have w0:i64.wrap ((sR K195 x q 0)+1)=(sR K195 x q 1):=gw 1
  have w2:i64.wrap ((sR K195 x q 2)+1)=(sR K195 x q 3):=gw 3
  show c160_2 (aG p n) aA (mkT txt (.sl K195) aB k) rec ((sR K195 x q 0),(i:Int))=rec (q+cnR K195 x,((i+1:Nat):Int))
  replace hi2:i<List.length (mkT txt (.sl K195) aB k):=hi2
  replace ha:at? (mkT txt (.sl K195) aB k) i=some (mkR txt K195 x q):=ha
  generalize mkT txt (.sl K195) aB k=L at*
  rw[← d8 K195 x q];unfold c160_2;dsimp only;rw[aI hb]
  rw[w0]
  refine(aE (Int.ofNat_lt.2 hi2)).trans ?_
  refine bif_nn.trans ?_
  refine(aJ ha).trans ?_
  refine(aL (bne_self_eq_false _)).trans ?_
  refine bif_nn.trans ?_
  refine(aJ ha).trans ?_
  refine(aO f1 _).trans ?_
  rw[w2]
  refine(aL (hI g0 2)).trans ?_
  refine bif_nn.trans ?_
  refine(aJ ha).trans ?_
  refine(aF (by decide)).trans ?_
  refine(aL (BF _)).trans ?_
  first | done | rfl
 ·show c160_2 (aG p n) aA (mkT txt (.sl K195) aB k) rec (k+cnT (.sl K195) aB,((List.length (mkT txt (.sl K195) aB k):Nat):Int))=_
  unfold c160_2;simp only[bF,cond_false]
theorem mk187(aB:List (Row K28))(k:Int)(h0:0≤k)(h1:k+cnT (.sl K28) aB≤4611686018427387904)(hL:LmT (.sl K28) aB):Ran p 2 187 [.own false ⟨K34,(aB,())⟩, vf K3 (k,())] ⟨[⟨K3,(k+cnT (.sl K28) aB,())⟩],[⟨K34,(mkT txt (.sl K28) aB k,())⟩]⟩:=go187 fun n hn=>by
 refine Ev.eq (fun aA=>by unfold T187;rfl) ?_
 refine It.ev (c:=fun aA (_:Unit)=>c187_2 (aG p n) aA) (i:=()) (r:=fun _=>some ⟨[⟨K3,(k+cnT (.sl K28) aB,())⟩],[⟨K34,(mkT txt (.sl K28) aB k,())⟩]⟩) ?_ rfl
 have hlen:List.length aB≤4611686018427387904:=hL.1
 refine eP (mkR txt K28) (cnR K28) (dW K28) aB k 4611686018427387904 h0 h1 (fun i k ys=>(k,((i:Int),ys))) (fun i hi ys k hy ha hk hB aA a rec=>?_) (fun aA a rec=>?_)
 ·have hb:i<9223372036854775807:=by omega
  have hx:=hL.2 i aB[i] (bC hi)
  generalize aB[i]=x at*
  have g0:=gP K28 x hk
  have g1:=gQ K28 x hB
  have gw:=dN g0 g1
  have f0:=mk45 x.1 (sR K28 x k 0) (g0 0) (g1 1) hx.1 n (by omega)
  rw[show(sR K28 x k 0)+cnT (.sl K3) x.1=(sR K28 x k 1)from rfl] at f0
  have hy2:i<ys.length:=by rw[hy];exact hi
  show c187_2 (aG p n) aA rec ((sR K28 x k 0),((i:Int),ys))=rec (k+cnR K28 x,(((i+1:Nat):Int),ys.set i (mkR txt K28 x k)))
  rw[← d8 K28 x k];unfold c187_2;dsimp only;rw[aI hb]
  have a0:=bX hy2 (bW K28 1 (mkR txt K28 x k) x)
  refine(aE (Int.ofNat_lt.2 hy2)).trans ?_
  refine bif_nn.trans ?_
  refine(aJ ha).trans ?_
  refine(aJ ha).trans ?_
  refine(aJ ha).trans ?_
  refine(c6 f0 _).trans ?_
  refine(aJ ha).trans ?_
  refine(bJ (List.set ys i (bW K28 1 (mkR txt K28 x k) x)) iK).trans ?_
  first | done | rfl
 ·show c187_2 (aG p n) aA rec (k+cnT (.sl K28) aB,((aB.length:Int),mkT txt (.sl K28) aB k))=_
  have hlm:List.length (mkT txt (.sl K28) aB k)=List.length aB:=bG _ _
  unfold c187_2;simp only[hlm,bF,cond_false]
theorem mk191(aB:List (Row K163))(k:Int)(h0:0≤k)(h1:k+cnT (.sl K163) aB≤4611686018427387904)(hL:LmT (.sl K163) aB):Ran p 2 191 [.own false ⟨K24,(aB,())⟩, vf K3 (k,())] ⟨[⟨K3,(k+cnT (.sl K163) aB,())⟩],[⟨K24,(mkT txt (.sl K163) aB k,())⟩]⟩:=go191 fun n hn=>by
 refine Ev.eq (fun aA=>by unfold T191;rfl) ?_
 refine It.ev (c:=fun aA (_:Unit)=>c191_2 (aG p n) aA) (i:=()) (r:=fun _=>some ⟨[⟨K3,(k+cnT (.sl K163) aB,())⟩],[⟨K24,(mkT txt (.sl K163) aB k,())⟩]⟩) ?_ rfl
 have hlen:List.length aB≤4611686018427387904:=hL.1
 refine eP (mkR txt K163) (cnR K163) (dW K163) aB k 4611686018427387904 h0 h1 (fun i k ys=>(k,((i:Int),ys))) (fun i hi ys k hy ha hk hB aA a rec=>?_) (fun aA a rec=>?_)
 ·have hb:i<9223372036854775807:=by omega
  have hx:=hL.2 i aB[i] (bC hi)
  generalize aB[i]=x at*
  have g0:=gP K163 x hk
  have g1:=gQ K163 x hB
  have gw:=dN g0 g1
  have f5:=FE (sR K163 x k 5) (g0 5) (by have:=g1 5;omega) n (by omega)
  have w0:i64.wrap ((sR K163 x k 0)+1)=(sR K163 x k 1):=gw 1
  have w1:i64.wrap ((sR K163 x k 1)+1)=(sR K163 x k 2):=gw 2
  have w2:i64.wrap ((sR K163 x k 2)+1)=(sR K163 x k 3):=gw 3
  have w3:i64.wrap ((sR K163 x k 3)+1)=(sR K163 x k 4):=gw 4
  have w4:i64.wrap ((sR K163 x k 4)+1)=(sR K163 x k 5):=gw 5
  have w5:i64.wrap ((sR K163 x k 5)+1)=(sR K163 x k 6):=gw 6
  have hy2:i<ys.length:=by rw[hy];exact hi
  show c191_2 (aG p n) aA rec ((sR K163 x k 0),((i:Int),ys))=rec (k+cnR K163 x,(((i+1:Nat):Int),ys.set i (mkR txt K163 x k)))
  rw[← d8 K163 x k];unfold c191_2;dsimp only;rw[aI hb]
  have a0:=bX hy2 (bW K163 1 (mkR txt K163 x k) x)
  have a1:=bX hy2 (bW K163 2 (mkR txt K163 x k) x)
  have a2:=bX hy2 (bW K163 3 (mkR txt K163 x k) x)
  have a3:=bX hy2 (bW K163 4 (mkR txt K163 x k) x)
  have a4:=bX hy2 (bW K163 5 (mkR txt K163 x k) x)
  have a5:=bX hy2 (bW K163 6 (mkR txt K163 x k) x)
  rw[w0]
  rw[w1]
  rw[w2]
  rw[w3]
  rw[w4]
  rw[w5]
  refine(aE (Int.ofNat_lt.2 hy2)).trans ?_
  refine bif_nn.trans ?_
  refine(aJ ha).trans ?_
  refine(aJ ha).trans ?_
  refine(bJ (List.set ys i (bW K163 1 (mkR txt K163 x k) x)) iK).trans ?_
  refine bif_nn.trans ?_
  refine(aJ a0).trans ?_
  refine(aJ a0).trans ?_
  refine(bJ (List.set ys i (bW K163 2 (mkR txt K163 x k) x)) bO).trans ?_
  refine bif_nn.trans ?_
  refine(aJ a1).trans ?_
  refine(aJ a1).trans ?_
  refine(bJ (List.set ys i (bW K163 3 (mkR txt K163 x k) x)) bO).trans ?_
  refine bif_nn.trans ?_
  refine(aJ a2).trans ?_
  refine(aJ a2).trans ?_
  refine(bJ (List.set ys i (bW K163 4 (mkR txt K163 x k) x)) bO).trans ?_
  refine bif_nn.trans ?_
  refine(aJ a3).trans ?_
  refine(aJ a3).trans ?_
  refine(bJ (List.set ys i (bW K163 5 (mkR txt K163 x k) x)) bO).trans ?_
  refine(aO f5 _).trans ?_
  refine bif_nn.trans ?_
  refine(aJ a4).trans ?_
  refine(aJ a4).trans ?_
  refine(bJ (List.set ys i (bW K163 6 (mkR txt K163 x k) x)) bO).trans ?_
  first | done | rfl
 ·show c191_2 (aG p n) aA rec (k+cnT (.sl K163) aB,((aB.length:Int),mkT txt (.sl K163) aB k))=_
  have hlm:List.length (mkT txt (.sl K163) aB k)=List.length aB:=bG _ _
  unfold c191_2;simp only[hlm,bF,cond_false]
theorem hd196(aB:List (Row K28))(k:Int)(h0:0≤k)(h1:k+cnT (.sl K28) aB≤4611686018427387904)(hL:LmT (.sl K28) aB):Ran p 2 196 [vf K34 (mkT txt (.sl K28) aB k,()), vf K3 (k,())] (rO K3 (k+cnT (.sl K28) aB,())):=go196 fun n hn=>by
 refine Ev.eq (fun aA=>by unfold T196;rfl) ?_
 refine It.ev (c:=fun aA (_:Unit)=>c196_2 (aG p n) aA (mkT txt (.sl K28) aB k)) (i:=()) (r:=fun _=>rV K3 (k+cnT (.sl K28) aB,())) ?_ rfl
 have hlen:List.length aB≤4611686018427387904:=hL.1
 refine eR (mkR txt K28) (cnR K28) (dW K28) aB k 4611686018427387904 h0 h1 (fun i k=>(k,(i:Int))) (fun i hi q hi2 ha hk hB aA a rec=>?_) (fun aA a rec=>?_)
 ·have hb:i<9223372036854775807:=by omega
  have hx:=hL.2 i aB[i] (bC hi)
  generalize aB[i]=x at*
  have g0:=gP K28 x hk
  have g1:=gQ K28 x hB
  have gw:=dN g0 g1
  have f0:=hd79 x.1 (sR K28 x q 0) (g0 0) (g1 1) hx.1 n (by omega)
  rw[show(sR K28 x q 0)+cnT (.sl K3) x.1=(sR K28 x q 1)from rfl] at f0
  show c196_2 (aG p n) aA (mkT txt (.sl K28) aB k) rec ((sR K28 x q 0),(i:Int))=rec (q+cnR K28 x,((i+1:Nat):Int))
  replace hi2:i<List.length (mkT txt (.sl K28) aB k):=hi2
  replace ha:at? (mkT txt (.sl K28) aB k) i=some (mkR txt K28 x q):=ha
  generalize mkT txt (.sl K28) aB k=L at*
  rw[← d8 K28 x q];unfold c196_2;dsimp only;rw[aI hb]
  refine(aE (Int.ofNat_lt.2 hi2)).trans ?_
  refine bif_nn.trans ?_
  refine(aJ ha).trans ?_
  refine(aO f0 _).trans ?_
  refine(aL (hI g0 1)).trans ?_
  first | done | rfl
 ·show c196_2 (aG p n) aA (mkT txt (.sl K28) aB k) rec (k+cnT (.sl K28) aB,((List.length (mkT txt (.sl K28) aB k):Nat):Int))=_
  unfold c196_2;simp only[bF,cond_false]
theorem hd199(aB:List (Row K163))(k:Int)(h0:0≤k)(h1:k+cnT (.sl K163) aB≤4611686018427387904)(hL:LmT (.sl K163) aB):Ran p 2 199 [vf K24 (mkT txt (.sl K163) aB k,()), vf K3 (k,())] (rO K3 (k+cnT (.sl K163) aB,())):=go199 fun n hn=>by
 refine Ev.eq (fun aA=>by unfold T199;rfl) ?_
 refine It.ev (c:=fun aA (_:Unit)=>c199_2 (aG p n) aA (mkT txt (.sl K163) aB k)) (i:=()) (r:=fun _=>rV K3 (k+cnT (.sl K163) aB,())) ?_ rfl
 have hlen:List.length aB≤4611686018427387904:=hL.1
 refine eR (mkR txt K163) (cnR K163) (dW K163) aB k 4611686018427387904 h0 h1 (fun i k=>(k,(i:Int))) (fun i hi q hi2 ha hk hB aA a rec=>?_) (fun aA a rec=>?_)
 ·have hb:i<9223372036854775807:=by omega
  have hx:=hL.2 i aB[i] (bC hi)
  generalize aB[i]=x at*
  have g0:=gP K163 x hk
  have g1:=gQ K163 x hB
  have gw:=dN g0 g1
  have f5:=FE (sR K163 x q 5) (g0 5) (by have:=g1 5;omega) n (by omega)
  have w0:i64.wrap ((sR K163 x q 0)+1)=(sR K163 x q 1):=gw 1
  have w1:i64.wrap ((sR K163 x q 1)+1)=(sR K163 x q 2):=gw 2
  have w2:i64.wrap ((sR K163 x q 2)+1)=(sR K163 x q 3):=gw 3
  have w3:i64.wrap ((sR K163 x q 3)+1)=(sR K163 x q 4):=gw 4
  have w4:i64.wrap ((sR K163 x q 4)+1)=(sR K163 x q 5):=gw 5
  have w5:i64.wrap ((sR K163 x q 5)+1)=(sR K163 x q 6):=gw 6
  show c199_2 (aG p n) aA (mkT txt (.sl K163) aB k) rec ((sR K163 x q 0),(i:Int))=rec (q+cnR K163 x,((i+1:Nat):Int))
  replace hi2:i<List.length (mkT txt (.sl K163) aB k):=hi2
  replace ha:at? (mkT txt (.sl K163) aB k) i=some (mkR txt K163 x q):=ha
  generalize mkT txt (.sl K163) aB k=L at*
  rw[← d8 K163 x q];unfold c199_2;dsimp only;rw[aI hb]
  rw[w0]
  rw[w1]
  rw[w2]
  rw[w3]
  rw[w4]
  rw[w5]
  refine(aE (Int.ofNat_lt.2 hi2)).trans ?_
  refine bif_nn.trans ?_
  refine(aJ ha).trans ?_
  refine(aL (bne_self_eq_false _)).trans ?_
  refine bif_nn.trans ?_
  refine(aJ ha).trans ?_
  refine(aL (bne_self_eq_false _)).trans ?_
  refine bif_nn.trans ?_
  refine(aJ ha).trans ?_
  refine(aL (bne_self_eq_false _)).trans ?_
  refine bif_nn.trans ?_
  refine(aJ ha).trans ?_
  refine(aL (bne_self_eq_false _)).trans ?_
  refine bif_nn.trans ?_
  refine(aJ ha).trans ?_
  refine(aL (bne_self_eq_false _)).trans ?_
  refine bif_nn.trans ?_
  refine(aJ ha).trans ?_
  refine(aO f5 _).trans ?_
  refine(aL (IU _)).trans ?_
  first | done | rfl
 ·show c199_2 (aG p n) aA (mkT txt (.sl K163) aB k) rec (k+cnT (.sl K163) aB,((List.length (mkT txt (.sl K163) aB k):Nat):Int))=_
  unfold c199_2;simp only[bF,cond_false]
theorem mk158(aB:List (Row K282))(k:Int)(h0:0≤k)(h1:k+cnT (.sl K282) aB≤4611686018427387904)(hL:LmT (.sl K282) aB):Ran p 3 158 [.own false ⟨K76,(aB,())⟩, vf K3 (k,())] ⟨[⟨K3,(k+cnT (.sl K282) aB,())⟩],[⟨K76,(mkT txt (.sl K282) aB k,())⟩]⟩:=go158 fun n hn=>by
 refine Ev.eq (fun aA=>by unfold T158;rfl) ?_
 refine It.ev (c:=fun aA (_:Unit)=>c158_2 (aG p n) aA) (i:=()) (r:=fun _=>some ⟨[⟨K3,(k+cnT (.sl K282) aB,())⟩],[⟨K76,(mkT txt (.sl K282) aB k,())⟩]⟩) ?_ rfl
 have hlen:List.length aB≤4611686018427387904:=hL.1
 refine eP (mkR txt K282) (cnR K282) (dW K282) aB k 4611686018427387904 h0 h1 (fun i k ys=>(k,((i:Int),ys))) (fun i hi ys k hy ha hk hB aA a rec=>?_) (fun aA a rec=>?_)
 ·have hb:i<9223372036854775807:=by omega
  have hx:=hL.2 i aB[i] (bC hi)
  generalize aB[i]=x at*
  have g0:=gP K282 x hk
  have g1:=gQ K282 x hB
  have gw:=dN g0 g1
  have f1:=mk191 x.2.1 (sR K282 x k 1) (g0 1) (g1 2) hx.2.1 n (by omega)
  rw[show(sR K282 x k 1)+cnT (.sl K163) x.2.1=(sR K282 x k 2)from rfl] at f1
  have f2:=mk192 x.2.2.1 (sR K282 x k 2) (g0 2) (g1 3) hx.2.2.1 n (by omega)
  rw[show(sR K282 x k 2)+cnT (.sl K165) x.2.2.1=(sR K282 x k 3)from rfl] at f2
  have w0:i64.wrap ((sR K282 x k 0)+1)=(sR K282 x k 1):=gw 1
  have hy2:i<ys.length:=by rw[hy];exact hi
  show c158_2 (aG p n) aA rec ((sR K282 x k 0),((i:Int),ys))=rec (k+cnR K282 x,(((i+1:Nat):Int),ys.set i (mkR txt K282 x k)))
  rw[← d8 K282 x k];unfold c158_2;dsimp only;rw[aI hb]
  have a0:=bX hy2 (bW K282 1 (mkR txt K282 x k) x)
  have a1:=bX hy2 (bW K282 2 (mkR txt K282 x k) x)
  have a2:=bX hy2 (bW K282 3 (mkR txt K282 x k) x)
  rw[w0]
  refine(aE (Int.ofNat_lt.2 hy2)).trans ?_
  refine bif_nn.trans ?_
  refine(aJ ha).trans ?_
  refine(aJ ha).trans ?_
  refine(bJ (List.set ys i (bW K282 1 (mkR txt K282 x k) x)) iK).trans ?_
  refine bif_nn.trans ?_
  refine(aJ a0).trans ?_
  refine(aJ a0).trans ?_
  refine(aJ a0).trans ?_
  refine(c6 f1 _).trans ?_
  refine(aJ a0).trans ?_
  refine(bJ (List.set ys i (bW K282 2 (mkR txt K282 x k) x)) bO).trans ?_
  refine bif_nn.trans ?_
  refine(aJ a1).trans ?_
  refine(aJ a1).trans ?_
  refine(aJ a1).trans ?_
  refine(c6 f2 _).trans ?_
  refine(aJ a1).trans ?_
  refine(bJ (List.set ys i (bW K282 3 (mkR txt K282 x k) x)) bO).trans ?_
  first | done | rfl
 ·show c158_2 (aG p n) aA rec (k+cnT (.sl K282) aB,((aB.length:Int),mkT txt (.sl K282) aB k))=_
  have hlm:List.length (mkT txt (.sl K282) aB k)=List.length aB:=bG _ _
  unfold c158_2;simp only[hlm,bF,cond_false]
theorem hd161(aB:List (Row K282))(k:Int)(h0:0≤k)(h1:k+cnT (.sl K282) aB≤4611686018427387904)(hL:LmT (.sl K282) aB):Ran p 3 161 [vf K76 (mkT txt (.sl K282) aB k,()), vf K3 (k,())] (rO K3 (k+cnT (.sl K282) aB,())):=go161 fun n hn=>by
 refine Ev.eq (fun aA=>by unfold T161;rfl) ?_
 refine It.ev (c:=fun aA (_:Unit)=>c161_2 (aG p n) aA (mkT txt (.sl K282) aB k)) (i:=()) (r:=fun _=>rV K3 (k+cnT (.sl K282) aB,())) ?_ rfl
 have hlen:List.length aB≤4611686018427387904:=hL.1
 refine eR (mkR txt K282) (cnR K282) (dW K282) aB k 4611686018427387904 h0 h1 (fun i k=>(k,(i:Int))) (fun i hi q hi2 ha hk hB aA a rec=>?_) (fun aA a rec=>?_)
 ·have hb:i<9223372036854775807:=by omega
  have hx:=hL.2 i aB[i] (bC hi)
  generalize aB[i]=x at*
  have g0:=gP K282 x hk
  have g1:=gQ K282 x hB
  have gw:=dN g0 g1
  have f1:=hd199 x.2.1 (sR K282 x q 1) (g0 1) (g1 2) hx.2.1 n (by omega)
  rw[show(sR K282 x q 1)+cnT (.sl K163) x.2.1=(sR K282 x q 2)from rfl] at f1
  have f2:=hd200 x.2.2.1 (sR K282 x q 2) (g0 2) (g1 3) hx.2.2.1 n (by omega)
  rw[show(sR K282 x q 2)+cnT (.sl K165) x.2.2.1=(sR K282 x q 3)from rfl] at f2
  have w0:i64.wrap ((sR K282 x q 0)+1)=(sR K282 x q 1):=gw 1
  show c161_2 (aG p n) aA (mkT txt (.sl K282) aB k) rec ((sR K282 x q 0),(i:Int))=rec (q+cnR K282 x,((i+1:Nat):Int))
  replace hi2:i<List.length (mkT txt (.sl K282) aB k):=hi2
  replace ha:at? (mkT txt (.sl K282) aB k) i=some (mkR txt K282 x q):=ha
  generalize mkT txt (.sl K282) aB k=L at*
  rw[← d8 K282 x q];unfold c161_2;dsimp only;rw[aI hb]
  rw[w0]
  refine(aE (Int.ofNat_lt.2 hi2)).trans ?_
  refine bif_nn.trans ?_
  refine(aJ ha).trans ?_
  refine(aL (bne_self_eq_false _)).trans ?_
  refine bif_nn.trans ?_
  refine(aJ ha).trans ?_
  refine(aO f1 _).trans ?_
  refine(aL (hI g0 2)).trans ?_
  refine bif_nn.trans ?_
  refine(aJ ha).trans ?_
  refine(aO f2 _).trans ?_
  refine(aL (hI g0 3)).trans ?_
  first | done | rfl
 ·show c161_2 (aG p n) aA (mkT txt (.sl K282) aB k) rec (k+cnT (.sl K282) aB,((List.length (mkT txt (.sl K282) aB k):Nat):Int))=_
  unfold c161_2;simp only[bF,cond_false]
theorem mk280(aB:List (Row K27))(k:Int)(h0:0≤k)(h1:k+cnT (.sl K27) aB≤4611686018427387904)(hL:LmT (.sl K27) aB):Ran p 3 280 [.own false ⟨K31,(aB,())⟩, vf K3 (k,())] ⟨[⟨K3,(k+cnT (.sl K27) aB,())⟩],[⟨K31,(mkT txt (.sl K27) aB k,())⟩]⟩:=go280 fun n hn=>by
 refine Ev.eq (fun aA=>by unfold T280;rfl) ?_
 refine It.ev (c:=fun aA (_:Unit)=>c280_2 (aG p n) aA) (i:=()) (r:=fun _=>some ⟨[⟨K3,(k+cnT (.sl K27) aB,())⟩],[⟨K31,(mkT txt (.sl K27) aB k,())⟩]⟩) ?_ rfl
 have hlen:List.length aB≤4611686018427387904:=hL.1
 refine eP (mkR txt K27) (cnR K27) (dW K27) aB k 4611686018427387904 h0 h1 (fun i k ys=>(k,((i:Int),ys))) (fun i hi ys k hy ha hk hB aA a rec=>?_) (fun aA a rec=>?_)
 ·have hb:i<9223372036854775807:=by omega
  have hx:=hL.2 i aB[i] (bC hi)
  generalize aB[i]=x at*
  have g0:=gP K27 x hk
  have g1:=gQ K27 x hB
  have gw:=dN g0 g1
  have f0:=mk191 x.1 (sR K27 x k 0) (g0 0) (g1 1) hx.1 n (by omega)
  rw[show(sR K27 x k 0)+cnT (.sl K163) x.1=(sR K27 x k 1)from rfl] at f0
  have f1:=mk192 x.2.1 (sR K27 x k 1) (g0 1) (g1 2) hx.2.1 n (by omega)
  rw[show(sR K27 x k 1)+cnT (.sl K165) x.2.1=(sR K27 x k 2)from rfl] at f1
  have hy2:i<ys.length:=by rw[hy];exact hi
  show c280_2 (aG p n) aA rec ((sR K27 x k 0),((i:Int),ys))=rec (k+cnR K27 x,(((i+1:Nat):Int),ys.set i (mkR txt K27 x k)))
  rw[← d8 K27 x k];unfold c280_2;dsimp only;rw[aI hb]
  have a0:=bX hy2 (bW K27 1 (mkR txt K27 x k) x)
  have a1:=bX hy2 (bW K27 2 (mkR txt K27 x k) x)
  refine(aE (Int.ofNat_lt.2 hy2)).trans ?_
  refine bif_nn.trans ?_
  refine(aJ ha).trans ?_
  refine(aJ ha).trans ?_
  refine(aJ ha).trans ?_
  refine(c6 f0 _).trans ?_
  refine(aJ ha).trans ?_
  refine(bJ (List.set ys i (bW K27 1 (mkR txt K27 x k) x)) iK).trans ?_
  refine bif_nn.trans ?_
  refine(aJ a0).trans ?_
  refine(aJ a0).trans ?_
  refine(aJ a0).trans ?_
  refine(c6 f1 _).trans ?_
  refine(aJ a0).trans ?_
  refine(bJ (List.set ys i (bW K27 2 (mkR txt K27 x k) x)) bO).trans ?_
  first | done | rfl
 ·show c280_2 (aG p n) aA rec (k+cnT (.sl K27) aB,((aB.length:Int),mkT txt (.sl K27) aB k))=_
  have hlm:List.length (mkT txt (.sl K27) aB k)=List.length aB:=bG _ _
  unfold c280_2;simp only[hlm,bF,cond_false]
theorem hd281(aB:List (Row K27))(k:Int)(h0:0≤k)(h1:k+cnT (.sl K27) aB≤4611686018427387904)(hL:LmT (.sl K27) aB):Ran p 3 281 [vf K31 (mkT txt (.sl K27) aB k,()), vf K3 (k,())] (rO K3 (k+cnT (.sl K27) aB,())):=go281 fun n hn=>by
 refine Ev.eq (fun aA=>by unfold T281;rfl) ?_
 refine It.ev (c:=fun aA (_:Unit)=>c281_2 (aG p n) aA (mkT txt (.sl K27) aB k)) (i:=()) (r:=fun _=>rV K3 (k+cnT (.sl K27) aB,())) ?_ rfl
 have hlen:List.length aB≤4611686018427387904:=hL.1
 refine eR (mkR txt K27) (cnR K27) (dW K27) aB k 4611686018427387904 h0 h1 (fun i k=>(k,(i:Int))) (fun i hi q hi2 ha hk hB aA a rec=>?_) (fun aA a rec=>?_)
 ·have hb:i<9223372036854775807:=by omega
  have hx:=hL.2 i aB[i] (bC hi)
  generalize aB[i]=x at*
  have g0:=gP K27 x hk
  have g1:=gQ K27 x hB
  have gw:=dN g0 g1
  have f0:=hd199 x.1 (sR K27 x q 0) (g0 0) (g1 1) hx.1 n (by omega)
  rw[show(sR K27 x q 0)+cnT (.sl K163) x.1=(sR K27 x q 1)from rfl] at f0
  have f1:=hd200 x.2.1 (sR K27 x q 1) (g0 1) (g1 2) hx.2.1 n (by omega)
  rw[show(sR K27 x q 1)+cnT (.sl K165) x.2.1=(sR K27 x q 2)from rfl] at f1
  show c281_2 (aG p n) aA (mkT txt (.sl K27) aB k) rec ((sR K27 x q 0),(i:Int))=rec (q+cnR K27 x,((i+1:Nat):Int))
  replace hi2:i<List.length (mkT txt (.sl K27) aB k):=hi2
  replace ha:at? (mkT txt (.sl K27) aB k) i=some (mkR txt K27 x q):=ha
  generalize mkT txt (.sl K27) aB k=L at*
  rw[← d8 K27 x q];unfold c281_2;dsimp only;rw[aI hb]
  refine(aE (Int.ofNat_lt.2 hi2)).trans ?_
  refine bif_nn.trans ?_
  refine(aJ ha).trans ?_
  refine(aO f0 _).trans ?_
  refine(aL (hI g0 1)).trans ?_
  refine bif_nn.trans ?_
  refine(aJ ha).trans ?_
  refine(aO f1 _).trans ?_
  refine(aL (hI g0 2)).trans ?_
  first | done | rfl
 ·show c281_2 (aG p n) aA (mkT txt (.sl K27) aB k) rec (k+cnT (.sl K27) aB,((List.length (mkT txt (.sl K27) aB k):Nat):Int))=_
  unfold c281_2;simp only[bF,cond_false]
theorem mk156(aB:List (Row K38))(k:Int)(h0:0≤k)(h1:k+cnT (.sl K38) aB≤4611686018427387904)(hL:LmT (.sl K38) aB):Ran p 4 156 [.own false ⟨K74,(aB,())⟩, vf K3 (k,())] ⟨[⟨K3,(k+cnT (.sl K38) aB,())⟩],[⟨K74,(mkT txt (.sl K38) aB k,())⟩]⟩:=go156 fun n hn=>by
 refine Ev.eq (fun aA=>by unfold T156;rfl) ?_
 refine It.ev (c:=fun aA (_:Unit)=>c156_2 (aG p n) aA) (i:=()) (r:=fun _=>some ⟨[⟨K3,(k+cnT (.sl K38) aB,())⟩],[⟨K74,(mkT txt (.sl K38) aB k,())⟩]⟩) ?_ rfl
 have hlen:List.length aB≤4611686018427387904:=hL.1
 refine eP (mkR txt K38) (cnR K38) (dW K38) aB k 4611686018427387904 h0 h1 (fun i k ys=>(k,((i:Int),ys))) (fun i hi ys k hy ha hk hB aA a rec=>?_) (fun aA a rec=>?_)
 ·have hb:i<9223372036854775807:=by omega
  have hx:=hL.2 i aB[i] (bC hi)
  generalize aB[i]=x at*
  have g0:=gP K38 x hk
  have g1:=gQ K38 x hB
  have gw:=dN g0 g1
  have f2:=mk191 x.2.2.1 (sR K38 x k 2) (g0 2) (g1 3) hx.2.2.1 n (by omega)
  rw[show(sR K38 x k 2)+cnT (.sl K163) x.2.2.1=(sR K38 x k 3)from rfl] at f2
  have f3:=mk192 x.2.2.2.1 (sR K38 x k 3) (g0 3) (g1 4) hx.2.2.2.1 n (by omega)
  rw[show(sR K38 x k 3)+cnT (.sl K165) x.2.2.2.1=(sR K38 x k 4)from rfl] at f3
  have f4:=mk45 x.2.2.2.2.1 (sR K38 x k 4) (g0 4) (g1 5) hx.2.2.2.2.1 n (by omega)
  rw[show(sR K38 x k 4)+cnT (.sl K3) x.2.2.2.2.1=(sR K38 x k 5)from rfl] at f4
  have f8:=mk280 x.2.2.2.2.2.2.2.2.1 (sR K38 x k 8) (g0 8) (g1 9) hx.2.2.2.2.2.2.2.2.1 n (by omega)
  rw[show(sR K38 x k 8)+cnT (.sl K27) x.2.2.2.2.2.2.2.2.1=(sR K38 x k 9)from rfl] at f8
  have f9:=mk45 x.2.2.2.2.2.2.2.2.2.1 (sR K38 x k 9) (g0 9) (g1 10) hx.2.2.2.2.2.2.2.2.2.1 n (by omega)
  rw[show(sR K38 x k 9)+cnT (.sl K3) x.2.2.2.2.2.2.2.2.2.1=(sR K38 x k 10)from rfl] at f9
  have f10:=mk45 x.2.2.2.2.2.2.2.2.2.2.1 (sR K38 x k 10) (g0 10) (g1 11) hx.2.2.2.2.2.2.2.2.2.2.1 n (by omega)
  rw[show(sR K38 x k 10)+cnT (.sl K3) x.2.2.2.2.2.2.2.2.2.2.1=(sR K38 x k 11)from rfl] at f10
  have f11:=mk187 x.2.2.2.2.2.2.2.2.2.2.2.1 (sR K38 x k 11) (g0 11) (g1 12) hx.2.2.2.2.2.2.2.2.2.2.2.1 n (by omega)
  rw[show(sR K38 x k 11)+cnT (.sl K28) x.2.2.2.2.2.2.2.2.2.2.2.1=(sR K38 x k 12)from rfl] at f11
  have f14:=mk188 x.2.2.2.2.2.2.2.2.2.2.2.2.2.2.1 (sR K38 x k 14) (g0 14) (g1 15) hx.2.2.2.2.2.2.2.2.2.2.2.2.2.2.1 n (by omega)
  rw[show(sR K38 x k 14)+cnT (.sl K141) x.2.2.2.2.2.2.2.2.2.2.2.2.2.2.1=(sR K38 x k 15)from rfl] at f14
  have f18:=mk189 x.2.2.2.2.2.2.2.2.2.2.2.2.2.2.2.2.2.2.1 (sR K38 x k 18) (g0 18) (g1 19) hx.2.2.2.2.2.2.2.2.2.2.2.2.2.2.2.2.2.2.1 n (by omega)
  rw[show(sR K38 x k 18)+cnT (.sl K147) x.2.2.2.2.2.2.2.2.2.2.2.2.2.2.2.2.2.2.1=(sR K38 x k 19)from rfl] at f18
  have w0:i64.wrap ((sR K38 x k 0)+1)=(sR K38 x k 1):=gw 1
  have w1:i64.wrap ((sR K38 x k 1)+1)=(sR K38 x k 2):=gw 2
  have w5:i64.wrap ((sR K38 x k 5)+1)=(sR K38 x k 6):=gw 6
  have w6:i64.wrap ((sR K38 x k 6)+1)=(sR K38 x k 7):=gw 7
  have w7:i64.wrap ((sR K38 x k 7)+1)=(sR K38 x k 8):=gw 8
  have w12:i64.wrap ((sR K38 x k 12)+1)=(sR K38 x k 13):=gw 13
  have w13:i64.wrap ((sR K38 x k 13)+1)=(sR K38 x k 14):=gw 14
  have w15:i64.wrap ((sR K38 x k 15)+1)=(sR K38 x k 16):=gw 16
  have w16:i64.wrap ((sR K38 x k 16)+1)=(sR K38 x k 17):=gw 17
  have w17:i64.wrap ((sR K38 x k 17)+1)=(sR K38 x k 18):=gw 18
  have hy2:i<ys.length:=by rw[hy];exact hi
  show c156_2 (aG p n) aA rec ((sR K38 x k 0),((i:Int),ys))=rec (k+cnR K38 x,(((i+1:Nat):Int),ys.set i (mkR txt K38 x k)))
  rw[← d8 K38 x k];unfold c156_2;dsimp only;rw[aI hb]
  have a0:=bX hy2 (bW K38 1 (mkR txt K38 x k) x)
  have a1:=bX hy2 (bW K38 2 (mkR txt K38 x k) x)
  have a2:=bX hy2 (bW K38 3 (mkR txt K38 x k) x)
  have a3:=bX hy2 (bW K38 4 (mkR txt K38 x k) x)
  have a4:=bX hy2 (bW K38 5 (mkR txt K38 x k) x)
  have a5:=bX hy2 (bW K38 6 (mkR txt K38 x k) x)
  have a6:=bX hy2 (bW K38 7 (mkR txt K38 x k) x)
  have a7:=bX hy2 (bW K38 8 (mkR txt K38 x k) x)
  have a8:=bX hy2 (bW K38 9 (mkR txt K38 x k) x)
  have a9:=bX hy2 (bW K38 10 (mkR txt K38 x k) x)
  have a10:=bX hy2 (bW K38 11 (mkR txt K38 x k) x)
  have a11:=bX hy2 (bW K38 12 (mkR txt K38 x k) x)
  have a12:=bX hy2 (bW K38 13 (mkR txt K38 x k) x)
  have a13:=bX hy2 (bW K38 14 (mkR txt K38 x k) x)
  have a14:=bX hy2 (bW K38 15 (mkR txt K38 x k) x)
  have a15:=bX hy2 (bW K38 16 (mkR txt K38 x k) x)
  have a16:=bX hy2 (bW K38 17 (mkR txt K38 x k) x)
  have a17:=bX hy2 (bW K38 18 (mkR txt K38 x k) x)
  have a18:=bX hy2 (bW K38 19 (mkR txt K38 x k) x)
  rw[w0]
  rw[w1]
  refine(aE (Int.ofNat_lt.2 hy2)).trans ?_
  refine bif_nn.trans ?_
  refine(aJ ha).trans ?_
  refine(aJ ha).trans ?_
  refine(bJ (List.set ys i (bW K38 1 (mkR txt K38 x k) x)) iK).trans ?_
  refine bif_nn.trans ?_
  refine(aJ a0).trans ?_
  refine(aJ a0).trans ?_
  refine(bJ (List.set ys i (bW K38 2 (mkR txt K38 x k) x)) bO).trans ?_
  refine bif_nn.trans ?_
  refine(aJ a1).trans ?_
  refine(aJ a1).trans ?_
  refine(aJ a1).trans ?_
  refine(c6 f2 _).trans ?_
  refine(aJ a1).trans ?_
  refine(bJ (List.set ys i (bW K38 3 (mkR txt K38 x k) x)) bO).trans ?_
  refine bif_nn.trans ?_
  refine(aJ a2).trans ?_
  refine(aJ a2).trans ?_
  refine(aJ a2).trans ?_
  refine(c6 f3 _).trans ?_
  refine(aJ a2).trans ?_
  refine(bJ (List.set ys i (bW K38 4 (mkR txt K38 x k) x)) bO).trans ?_
  refine bif_nn.trans ?_
  refine(aJ a3).trans ?_
  refine(aJ a3).trans ?_
  refine(aJ a3).trans ?_
  refine(c6 f4 _).trans ?_
  rw[w5]
  rw[w6]
  rw[w7]
  refine(aJ a3).trans ?_
  refine(bJ (List.set ys i (bW K38 5 (mkR txt K38 x k) x)) bO).trans ?_
  refine bif_nn.trans ?_
  refine(aJ a4).trans ?_
  refine(aJ a4).trans ?_
  refine(bJ (List.set ys i (bW K38 6 (mkR txt K38 x k) x)) bO).trans ?_
  refine bif_nn.trans ?_
  refine(aJ a5).trans ?_
  refine(aJ a5).trans ?_
  refine(bJ (List.set ys i (bW K38 7 (mkR txt K38 x k) x)) bO).trans ?_
  refine bif_nn.trans ?_
  refine(aJ a6).trans ?_
  refine(aJ a6).trans ?_
  refine(bJ (List.set ys i (bW K38 8 (mkR txt K38 x k) x)) bO).trans ?_
  refine bif_nn.trans ?_
  refine(aJ a7).trans ?_
  refine(aJ a7).trans ?_
  refine(aJ a7).trans ?_
  refine(c6 f8 _).trans ?_
  refine(aJ a7).trans ?_
  refine(bJ (List.set ys i (bW K38 9 (mkR txt K38 x k) x)) bO).trans ?_
  refine bif_nn.trans ?_
  refine(aJ a8).trans ?_
  refine(aJ a8).trans ?_
  refine(aJ a8).trans ?_
  refine(c6 f9 _).trans ?_
  refine(aJ a8).trans ?_
  refine(bJ (List.set ys i (bW K38 10 (mkR txt K38 x k) x)) bO).trans ?_
  refine bif_nn.trans ?_
  refine(aJ a9).trans ?_
  refine(aJ a9).trans ?_
  refine(aJ a9).trans ?_
  refine(c6 f10 _).trans ?_
  refine(aJ a9).trans ?_
  refine(bJ (List.set ys i (bW K38 11 (mkR txt K38 x k) x)) bO).trans ?_
  refine bif_nn.trans ?_
  refine(aJ a10).trans ?_
  refine(aJ a10).trans ?_
  refine(aJ a10).trans ?_
  refine(c6 f11 _).trans ?_
  rw[w12]
  rw[w13]
  refine(aJ a10).trans ?_
  refine(bJ (List.set ys i (bW K38 12 (mkR txt K38 x k) x)) bO).trans ?_
  refine bif_nn.trans ?_
  refine(aJ a11).trans ?_
  refine(aJ a11).trans ?_
  refine(bJ (List.set ys i (bW K38 13 (mkR txt K38 x k) x)) bO).trans ?_
  refine bif_nn.trans ?_
  refine(aJ a12).trans ?_
  refine(aJ a12).trans ?_
  refine(bJ (List.set ys i (bW K38 14 (mkR txt K38 x k) x)) bO).trans ?_
  refine bif_nn.trans ?_
  refine(aJ a13).trans ?_
  refine(aJ a13).trans ?_
  refine(aJ a13).trans ?_
  refine(c6 f14 _).trans ?_
  rw[w15]
  rw[w16]
  rw[w17]
  refine(aJ a13).trans ?_
  refine(bJ (List.set ys i (bW K38 15 (mkR txt K38 x k) x)) bO).trans ?_
  refine bif_nn.trans ?_
  refine(aJ a14).trans ?_
  refine(aJ a14).trans ?_
  refine(bJ (List.set ys i (bW K38 16 (mkR txt K38 x k) x)) bO).trans ?_
  refine bif_nn.trans ?_
  refine(aJ a15).trans ?_
  refine(aJ a15).trans ?_
  refine(bJ (List.set ys i (bW K38 17 (mkR txt K38 x k) x)) bO).trans ?_
  refine bif_nn.trans ?_
  refine(aJ a16).trans ?_
  refine(aJ a16).trans ?_
  refine(bJ (List.set ys i (bW K38 18 (mkR txt K38 x k) x)) bO).trans ?_
  refine bif_nn.trans ?_
  refine(aJ a17).trans ?_
  refine(aJ a17).trans ?_
  refine(aJ a17).trans ?_
  refine(c6 f18 _).trans ?_
  refine(aJ a17).trans ?_
  refine(bJ (List.set ys i (bW K38 19 (mkR txt K38 x k) x)) bO).trans ?_
  first | done | rfl
 ·show c156_2 (aG p n) aA rec (k+cnT (.sl K38) aB,((aB.length:Int),mkT txt (.sl K38) aB k))=_
  have hlm:List.length (mkT txt (.sl K38) aB k)=List.length aB:=bG _ _
  unfold c156_2;simp only[hlm,bF,cond_false]
theorem hd159(aB:List (Row K38))(k:Int)(h0:0≤k)(h1:k+cnT (.sl K38) aB≤4611686018427387904)(hL:LmT (.sl K38) aB):Ran p 4 159 [vf K74 (mkT txt (.sl K38) aB k,()), vf K3 (k,())] (rO K3 (k+cnT (.sl K38) aB,())):=go159 fun n hn=>by
 refine Ev.eq (fun aA=>by unfold T159;rfl) ?_
 refine It.ev (c:=fun aA (_:Unit)=>c159_2 (aG p n) aA (mkT txt (.sl K38) aB k)) (i:=()) (r:=fun _=>rV K3 (k+cnT (.sl K38) aB,())) ?_ rfl
 have hlen:List.length aB≤4611686018427387904:=hL.1
 refine eR (mkR txt K38) (cnR K38) (dW K38) aB k 4611686018427387904 h0 h1 (fun i k=>(k,(i:Int))) (fun i hi q hi2 ha hk hB aA a rec=>?_) (fun aA a rec=>?_)
 ·have hb:i<9223372036854775807:=by omega
  have hx:=hL.2 i aB[i] (bC hi)
  generalize aB[i]=x at*
  have g0:=gP K38 x hk
  have g1:=gQ K38 x hB
  have gw:=dN g0 g1
  have f2:=hd199 x.2.2.1 (sR K38 x q 2) (g0 2) (g1 3) hx.2.2.1 n (by omega)
  rw[show(sR K38 x q 2)+cnT (.sl K163) x.2.2.1=(sR K38 x q 3)from rfl] at f2
  have f3:=hd200 x.2.2.2.1 (sR K38 x q 3) (g0 3) (g1 4) hx.2.2.2.1 n (by omega)
  rw[show(sR K38 x q 3)+cnT (.sl K165) x.2.2.2.1=(sR K38 x q 4)from rfl] at f3
  have f4:=hd79 x.2.2.2.2.1 (sR K38 x q 4) (g0 4) (g1 5) hx.2.2.2.2.1 n (by omega)
  rw[show(sR K38 x q 4)+cnT (.sl K3) x.2.2.2.2.1=(sR K38 x q 5)from rfl] at f4
  have f8:=hd281 x.2.2.2.2.2.2.2.2.1 (sR K38 x q 8) (g0 8) (g1 9) hx.2.2.2.2.2.2.2.2.1 n (by omega)
  rw[show(sR K38 x q 8)+cnT (.sl K27) x.2.2.2.2.2.2.2.2.1=(sR K38 x q 9)from rfl] at f8
  have f9:=hd79 x.2.2.2.2.2.2.2.2.2.1 (sR K38 x q 9) (g0 9) (g1 10) hx.2.2.2.2.2.2.2.2.2.1 n (by omega)
  rw[show(sR K38 x q 9)+cnT (.sl K3) x.2.2.2.2.2.2.2.2.2.1=(sR K38 x q 10)from rfl] at f9
  have f10:=hd79 x.2.2.2.2.2.2.2.2.2.2.1 (sR K38 x q 10) (g0 10) (g1 11) hx.2.2.2.2.2.2.2.2.2.2.1 n (by omega)
  rw[show(sR K38 x q 10)+cnT (.sl K3) x.2.2.2.2.2.2.2.2.2.2.1=(sR K38 x q 11)from rfl] at f10
  have f11:=hd196 x.2.2.2.2.2.2.2.2.2.2.2.1 (sR K38 x q 11) (g0 11) (g1 12) hx.2.2.2.2.2.2.2.2.2.2.2.1 n (by omega)
  rw[show(sR K38 x q 11)+cnT (.sl K28) x.2.2.2.2.2.2.2.2.2.2.2.1=(sR K38 x q 12)from rfl] at f11
  have f14:=hd197 x.2.2.2.2.2.2.2.2.2.2.2.2.2.2.1 (sR K38 x q 14) (g0 14) (g1 15) hx.2.2.2.2.2.2.2.2.2.2.2.2.2.2.1 n (by omega)
  rw[show(sR K38 x q 14)+cnT (.sl K141) x.2.2.2.2.2.2.2.2.2.2.2.2.2.2.1=(sR K38 x q 15)from rfl] at f14
  have f18:=hd198 x.2.2.2.2.2.2.2.2.2.2.2.2.2.2.2.2.2.2.1 (sR K38 x q 18) (g0 18) (g1 19) hx.2.2.2.2.2.2.2.2.2.2.2.2.2.2.2.2.2.2.1 n (by omega)
  rw[show(sR K38 x q 18)+cnT (.sl K147) x.2.2.2.2.2.2.2.2.2.2.2.2.2.2.2.2.2.2.1=(sR K38 x q 19)from rfl] at f18
  have w0:i64.wrap ((sR K38 x q 0)+1)=(sR K38 x q 1):=gw 1
  have w1:i64.wrap ((sR K38 x q 1)+1)=(sR K38 x q 2):=gw 2
  have w5:i64.wrap ((sR K38 x q 5)+1)=(sR K38 x q 6):=gw 6
  have w6:i64.wrap ((sR K38 x q 6)+1)=(sR K38 x q 7):=gw 7
  have w7:i64.wrap ((sR K38 x q 7)+1)=(sR K38 x q 8):=gw 8
  have w12:i64.wrap ((sR K38 x q 12)+1)=(sR K38 x q 13):=gw 13
  have w13:i64.wrap ((sR K38 x q 13)+1)=(sR K38 x q 14):=gw 14
  have w15:i64.wrap ((sR K38 x q 15)+1)=(sR K38 x q 16):=gw 16
  have w16:i64.wrap ((sR K38 x q 16)+1)=(sR K38 x q 17):=gw 17
  have w17:i64.wrap ((sR K38 x q 17)+1)=(sR K38 x q 18):=gw 18
  show c159_2 (aG p n) aA (mkT txt (.sl K38) aB k) rec ((sR K38 x q 0),(i:Int))=rec (q+cnR K38 x,((i+1:Nat):Int))
  replace hi2:i<List.length (mkT txt (.sl K38) aB k):=hi2
  replace ha:at? (mkT txt (.sl K38) aB k) i=some (mkR txt K38 x q):=ha
  generalize mkT txt (.sl K38) aB k=L at*
  rw[← d8 K38 x q];unfold c159_2;dsimp only;rw[aI hb]
  rw[w0]
  rw[w1]
  refine(aE (Int.ofNat_lt.2 hi2)).trans ?_
  refine bif_nn.trans ?_
  refine(aJ ha).trans ?_
  refine(aL (bne_self_eq_false _)).trans ?_
  refine bif_nn.trans ?_
  refine(aJ ha).trans ?_
  refine(aL (bne_self_eq_false _)).trans ?_
  refine bif_nn.trans ?_
  refine(aJ ha).trans ?_
  refine(aO f2 _).trans ?_
  refine(aL (hI g0 3)).trans ?_
  refine bif_nn.trans ?_
  refine(aJ ha).trans ?_
  refine(aO f3 _).trans ?_
  refine(aL (hI g0 4)).trans ?_
  refine bif_nn.trans ?_
  refine(aJ ha).trans ?_
  refine(aO f4 _).trans ?_
  rw[w5]
  rw[w6]
  rw[w7]
  refine(aL (hI g0 5)).trans ?_
  refine bif_nn.trans ?_
  refine(aJ ha).trans ?_
  refine(aL (bne_self_eq_false _)).trans ?_
  refine bif_nn.trans ?_
  refine(aJ ha).trans ?_
  refine(aL (bne_self_eq_false _)).trans ?_
  refine bif_nn.trans ?_
  refine(aJ ha).trans ?_
  refine(aL (bne_self_eq_false _)).trans ?_
  refine bif_nn.trans ?_
  refine(aJ ha).trans ?_
  refine(aO f8 _).trans ?_
  refine(aL (hI g0 9)).trans ?_
  refine bif_nn.trans ?_
  refine(aJ ha).trans ?_
  refine(aO f9 _).trans ?_
  refine(aL (hI g0 10)).trans ?_
  refine bif_nn.trans ?_
  refine(aJ ha).trans ?_
  refine(aO f10 _).trans ?_
  refine(aL (hI g0 11)).trans ?_
  refine bif_nn.trans ?_
  refine(aJ ha).trans ?_
  refine(aO f11 _).trans ?_
  rw[w12]
  rw[w13]
  refine(aL (hI g0 12)).trans ?_
  refine bif_nn.trans ?_
  refine(aJ ha).trans ?_
  refine(aL (bne_self_eq_false _)).trans ?_
  refine bif_nn.trans ?_
  refine(aJ ha).trans ?_
  refine(aL (bne_self_eq_false _)).trans ?_
  refine bif_nn.trans ?_
  refine(aJ ha).trans ?_
  refine(aO f14 _).trans ?_
  rw[w15]
  rw[w16]
  rw[w17]
  refine(aL (hI g0 15)).trans ?_
  refine bif_nn.trans ?_
  refine(aJ ha).trans ?_
  refine(aL (bne_self_eq_false _)).trans ?_
  refine bif_nn.trans ?_
  refine(aJ ha).trans ?_
  refine(aL (bne_self_eq_false _)).trans ?_
  refine bif_nn.trans ?_
  refine(aJ ha).trans ?_
  refine(aL (bne_self_eq_false _)).trans ?_
  refine bif_nn.trans ?_
  refine(aJ ha).trans ?_
  refine(aO f18 _).trans ?_
  refine(aL (hI g0 19)).trans ?_
  first | done | rfl
 ·show c159_2 (aG p n) aA (mkT txt (.sl K38) aB k) rec (k+cnT (.sl K38) aB,((List.length (mkT txt (.sl K38) aB k):Nat):Int))=_
  unfold c159_2;simp only[bF,cond_false]
theorem mk44(a0:Row K78)(k:Int)(h0:0≤k)(h1:k+cnS K78 a0≤4611686018427387904)(hL:LmR K78 a0):Ran p 5 44 [.own true ⟨K78,a0⟩, vf K3 (k,())] ⟨[⟨K3,(k+cnS K78 a0,())⟩],[⟨K78,mkS txt K78 a0 k⟩]⟩:=go44 fun n hn=>Ev.now fun aA=>by
 have hc:cnS K78 a0=(cnT (.sl K38) a0.1+(cnT (.sl K195) a0.2.1+(cnT (.sl K282) a0.2.2.1+0))):=rfl
 rw[hc] at h1 ⊢
 have n0:=mT (.sl K38) a0.1
 have n1:=mT (.sl K195) a0.2.1
 have n2:=mT (.sl K282) a0.2.2.1
 have f0:=mk156 a0.1 (k) (by omega) (by omega) (show LmT (.sl K38) a0.1 from hL.1) n (by omega)
 have f1:=mk157 a0.2.1 (k+cnT (.sl K38) a0.1) (by omega) (by omega) (show LmT (.sl K195) a0.2.1 from hL.2.1) n (by omega)
 have f2:=mk158 a0.2.2.1 (k+cnT (.sl K38) a0.1+cnT (.sl K195) a0.2.1) (by omega) (by omega) (show LmT (.sl K282) a0.2.2.1 from hL.2.2.1) n (by omega)
 unfold T44
 refine(c6 f0 _).trans ?_
 refine(c6 f1 _).trans ?_
 refine(c6 f2 _).trans ?_
 rw[show k+(cnT (.sl K38) a0.1+(cnT (.sl K195) a0.2.1+(cnT (.sl K282) a0.2.2.1+0)))=k+cnT (.sl K38) a0.1+cnT (.sl K195) a0.2.1+cnT (.sl K282) a0.2.2.1 by omega]
 first | done | rfl
theorem hd46(a0:Row K78)(k:Int)(h0:0≤k)(h1:k+cnS K78 a0≤4611686018427387904)(hL:LmR K78 a0):Ran p 5 46 [va K78 (mkS txt K78 a0 k), vf K3 (k,())] (rO K3 (k+cnS K78 a0,())):=go46 fun n hn=>Ev.now fun aA=>by
 have hc:cnS K78 a0=(cnT (.sl K38) a0.1+(cnT (.sl K195) a0.2.1+(cnT (.sl K282) a0.2.2.1+0))):=rfl
 rw[hc] at h1 ⊢
 have n0:=mT (.sl K38) a0.1
 have n1:=mT (.sl K195) a0.2.1
 have n2:=mT (.sl K282) a0.2.2.1
 have f0:=hd159 a0.1 (k) (by omega) (by omega) (show LmT (.sl K38) a0.1 from hL.1) n (by omega)
 have f1:=hd160 a0.2.1 (k+cnT (.sl K38) a0.1) (by omega) (by omega) (show LmT (.sl K195) a0.2.1 from hL.2.1) n (by omega)
 have f2:=hd161 a0.2.2.1 (k+cnT (.sl K38) a0.1+cnT (.sl K195) a0.2.1) (by omega) (by omega) (show LmT (.sl K282) a0.2.2.1 from hL.2.2.1) n (by omega)
 unfold T46
 refine(aO f0 _).trans ?_
 refine(aF (show ¬ (k+cnT (.sl K38) a0.1<0) by omega)).trans ?_
 refine(aO f1 _).trans ?_
 refine(aF (show ¬ (k+cnT (.sl K38) a0.1+cnT (.sl K195) a0.2.1<0) by omega)).trans ?_
 refine(aO f2 _).trans ?_
 refine(aF (show ¬ (k+cnT (.sl K38) a0.1+cnT (.sl K195) a0.2.1+cnT (.sl K282) a0.2.2.1<0) by omega)).trans ?_
 rw[show k+(cnT (.sl K38) a0.1+(cnT (.sl K195) a0.2.1+(cnT (.sl K282) a0.2.2.1+0)))=k+cnT (.sl K38) a0.1+cnT (.sl K195) a0.2.1+cnT (.sl K282) a0.2.2.1 by omega]
 first | done | rfl
end Go.Abs.Xz
