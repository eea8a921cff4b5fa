/- What the functions of this program answer, part m. -/
import Derived.Test.YtmamlgjbendjhaaGreatW3
import Derived.Test.YtmamlgjbendjhaaGreatXr0
import Derived.Test.YtmamlgjbendjhaaGreatXr1
set_option linter.unusedVariables false
set_option linter.unusedSimpArgs false
open Go.IntKind (i64)
namespace Go.Abs.Xz
open Go Go.Abs
theorem B5(k:Int)(h0:0<=k)(h1:k<=9223372036854775807):∃ s:ByteArray,Ran p 1 217 [vf K3 (k,())] (rO K9 (s,())):=by
 by_cases hk:k<=0
 ·exact⟨⟨#[109,48]⟩,go217 fun n hn=>Ev.now fun aA=>by unfold T217;exact cB hk⟩
 ·have key:∀ n:Nat,∃ r:ByteArray,It (fun aA (_:Unit)=>c217_4 (aI p n) aA) (k,(⟨#[]⟩:ByteArray)) (fun _=>rV K9 ((r,()):Row K9)):=fun n=>by
   refine AM (c:=fun aA (_:Unit)=>c217_4 (aI p n) aA) (A:=K9) (fun s=>((s,()):Row K9)) (fun k=>cA [(IntKind.u8.wrap (i64.wrap (48+k.tmod 10)),())]) (fun k=>rfl) ⟨#[109]⟩ rfl (fun k s hk hs aA a rec=>?_) (fun s hs aA a rec=>?_) 19 k ⟨#[]⟩ h0 (by omega) h1 (by decide)
   ·unfold c217_4
    refine qP hk ?_
    refine qN (by decide) ?_
    refine qP hs ?_
    exact aW (by decide)
   ·unfold c217_4
    refine qN (Int.lt_irrefl 0) ?_
    exact cB hs
  obtain⟨r,hr⟩:=key 0
  have hr':∀ n,It (fun aA (_:Unit)=>c217_4 (aI p n) aA) (k,(⟨#[]⟩:ByteArray)) (fun _=>rV K9 ((r,()):Row K9)):=fun n=>hr
  exact⟨r,go217 fun n hn=>by
   refine Ev.eq (g:=fun aA=>iter (c217_4 (aI p n) aA) aA (k,(⟨#[]⟩:ByteArray))) (fun aA=>by unfold T217;exact aW hk) ?_
   exact It.ev (i:=()) (hr' n) rfl⟩
open Classical in
noncomputable def txt(k:Int):ByteArray:=if h:0<=k/\k<=9223372036854775807 then(B5 k h.1 h.2).choose else⟨#[]⟩
theorem KL(k:Int)(h0:0<=k)(h1:k<=9223372036854775807):Ran p 1 217 [vf K3 (k,())] (rO K9 (txt k,())):=by
 have e:txt k=(B5 k h0 h1).choose:=dif_pos ⟨h0,h1⟩
 rw[e]
 exact(B5 k h0 h1).choose_spec
theorem mk45(aB:List (Row K3))(k:Int)(h0:0<=k)(h1:k+cnT (.sl K3) aB<=4611686018427387904)(hL:LmT (.sl K3) aB):Ran p 1 45 [.own false ⟨K28,(aB,())⟩, vf K3 (k,())] ⟨[⟨K3,(k+cnT (.sl K3) aB,())⟩],[⟨K28,(mkT txt (.sl K3) aB k,())⟩]⟩:=go45 fun n hn=>by
 refine Ev.eq (fun aA=>by unfold T45;rfl) ?_
 refine It.ev (c:=fun aA (_:Unit)=>c45_2 (aI p n) aA) (i:=()) (r:=fun _=>some ⟨[⟨K3,(k+cnT (.sl K3) aB,())⟩],[⟨K28,(mkT txt (.sl K3) aB k,())⟩]⟩) ?_ rfl
 have hlen:List.length aB<=4611686018427387904:=hL.1
 refine hI (mkR txt K3) (cnR K3) (eZ K3) aB k 4611686018427387904 h0 h1 (fun i k ys=>(k,((i:Int),ys))) (fun i hi ys k hy ha hk hB aA a rec=>?_) (fun aA a rec=>?_)
 ·have hb:i<9223372036854775807:=by omega
  have hx:=hL.2 i aB[i] (bP hi)
  generalize aB[i]=x at*
  have g0:=jJ K3 x hk
  have g1:=jK K3 x hB
  have gw:=eO g0 g1
  have w0:i64.wrap ((sR K3 x k 0)+1)=(sR K3 x k 1):=gw 1
  have hy2:i<ys.length:=by rw[hy];exact hi
  show c45_2 (aI p n) aA rec ((sR K3 x k 0),((i:Int),ys))=rec (k+cnR K3 x,(((i+1:Nat):Int),ys.set i (mkR txt K3 x k)))
  rw[<- fS K3 x k];unfold c45_2;dsimp only;rw[aD hb]
  have a0:=fA hy2 (eY K3 1 (mkR txt K3 x k) x)
  rw[w0]
  refine ql hy2 ?_
  refine qz ?_
  refine(aO ha).trans ?_
  refine(aO ha).trans ?_
  refine(d4 (List.set ys i (eY K3 1 (mkR txt K3 x k) x)) kR).trans ?_
  first | done | rfl
 ·show c45_2 (aI p n) aA rec (k+cnT (.sl K3) aB,((aB.length:Int),mkT txt (.sl K3) aB k))=_
  have hlm:List.length (mkT txt (.sl K3) aB k)=List.length aB:=bO _ _
  unfold c45_2;simp only[hlm,bR,cond_false]
theorem mk62(aB:List (Row K5))(k:Int)(h0:0<=k)(h1:k+cnT (.sl K5) aB<=4611686018427387904)(hL:LmT (.sl K5) aB):Ran p 1 62 [.own false ⟨K22,(aB,())⟩, vf K3 (k,())] ⟨[⟨K3,(k+cnT (.sl K5) aB,())⟩],[⟨K22,(mkT txt (.sl K5) aB k,())⟩]⟩:=go62 fun n hn=>by
 refine Ev.eq (fun aA=>by unfold T62;rfl) ?_
 refine It.ev (c:=fun aA (_:Unit)=>c62_2 (aI p n) aA) (i:=()) (r:=fun _=>some ⟨[⟨K3,(k+cnT (.sl K5) aB,())⟩],[⟨K22,(mkT txt (.sl K5) aB k,())⟩]⟩) ?_ rfl
 have hlen:List.length aB<=4611686018427387904:=hL.1
 refine hI (mkR txt K5) (cnR K5) (eZ K5) aB k 4611686018427387904 h0 h1 (fun i k ys=>(k,((i:Int),ys))) (fun i hi ys k hy ha hk hB aA a rec=>?_) (fun aA a rec=>?_)
 ·have hb:i<9223372036854775807:=by omega
  have hx:=hL.2 i aB[i] (bP hi)
  generalize aB[i]=x at*
  have g0:=jJ K5 x hk
  have g1:=jK K5 x hB
  have gw:=eO g0 g1
  have w0:i64.wrap ((sR K5 x k 0)+1)=(sR K5 x k 1):=gw 1
  have hy2:i<ys.length:=by rw[hy];exact hi
  show c62_2 (aI p n) aA rec ((sR K5 x k 0),((i:Int),ys))=rec (k+cnR K5 x,(((i+1:Nat):Int),ys.set i (mkR txt K5 x k)))
  rw[<- fS K5 x k];unfold c62_2;dsimp only;rw[aD hb]
  have a0:=fA hy2 (eY K5 1 (mkR txt K5 x k) x)
  rw[w0]
  refine ql hy2 ?_
  refine qz ?_
  refine(aO ha).trans ?_
  refine(aO ha).trans ?_
  refine(d4 (List.set ys i (eY K5 1 (mkR txt K5 x k) x)) kR).trans ?_
  first | done | rfl
 ·show c62_2 (aI p n) aA rec (k+cnT (.sl K5) aB,((aB.length:Int),mkT txt (.sl K5) aB k))=_
  have hlm:List.length (mkT txt (.sl K5) aB k)=List.length aB:=bO _ _
  unfold c62_2;simp only[hlm,bR,cond_false]
theorem hd79(aB:List (Row K3))(k:Int)(h0:0<=k)(h1:k+cnT (.sl K3) aB<=4611686018427387904)(hL:LmT (.sl K3) aB):Ran p 1 79 [vf K28 (mkT txt (.sl K3) aB k,()), vf K3 (k,())] (rO K3 (k+cnT (.sl K3) aB,())):=go79 fun n hn=>by
 refine Ev.eq (fun aA=>by unfold T79;rfl) ?_
 refine It.ev (c:=fun aA (_:Unit)=>c79_2 (aI p n) aA (mkT txt (.sl K3) aB k)) (i:=()) (r:=fun _=>rV K3 (k+cnT (.sl K3) aB,())) ?_ rfl
 have hlen:List.length aB<=4611686018427387904:=hL.1
 refine hS (mkR txt K3) (cnR K3) (eZ K3) aB k 4611686018427387904 h0 h1 (fun i k=>(k,(i:Int))) (fun i hi q hi2 ha hk hB aA a rec=>?_) (fun aA a rec=>?_)
 ·have hb:i<9223372036854775807:=by omega
  have hx:=hL.2 i aB[i] (bP hi)
  generalize aB[i]=x at*
  have g0:=jJ K3 x hk
  have g1:=jK K3 x hB
  have gw:=eO g0 g1
  have w0:i64.wrap ((sR K3 x q 0)+1)=(sR K3 x q 1):=gw 1
  show c79_2 (aI p n) aA (mkT txt (.sl K3) aB k) rec ((sR K3 x q 0),(i:Int))=rec (q+cnR K3 x,((i+1:Nat):Int))
  replace hi2:i<List.length (mkT txt (.sl K3) aB k):=hi2
  replace ha:at? (mkT txt (.sl K3) aB k) i=some (mkR txt K3 x q):=ha
  generalize mkT txt (.sl K3) aB k=L at*
  rw[<- fS K3 x q];unfold c79_2;dsimp only;rw[aD hb]
  rw[w0]
  refine ql hi2 ?_
  refine qz ?_
  refine(aO ha).trans ?_
  refine qF (bne_self_eq_false _) ?_
  first | done | rfl
 ·show c79_2 (aI p n) aA (mkT txt (.sl K3) aB k) rec (k+cnT (.sl K3) aB,((List.length (mkT txt (.sl K3) aB k):Nat):Int))=_
  unfold c79_2;simp only[bR,cond_false]
theorem mk188(aB:List (Row K141))(k:Int)(h0:0<=k)(h1:k+cnT (.sl K141) aB<=4611686018427387904)(hL:LmT (.sl K141) aB):Ran p 1 188 [.own false ⟨K35,(aB,())⟩, vf K3 (k,())] ⟨[⟨K3,(k+cnT (.sl K141) aB,())⟩],[⟨K35,(mkT txt (.sl K141) aB k,())⟩]⟩:=go188 fun n hn=>by
 refine Ev.eq (fun aA=>by unfold T188;rfl) ?_
 refine It.ev (c:=fun aA (_:Unit)=>c188_2 (aI p n) aA) (i:=()) (r:=fun _=>some ⟨[⟨K3,(k+cnT (.sl K141) aB,())⟩],[⟨K35,(mkT txt (.sl K141) aB k,())⟩]⟩) ?_ rfl
 have hlen:List.length aB<=4611686018427387904:=hL.1
 refine hI (mkR txt K141) (cnR K141) (eZ K141) aB k 4611686018427387904 h0 h1 (fun i k ys=>(k,((i:Int),ys))) (fun i hi ys k hy ha hk hB aA a rec=>?_) (fun aA a rec=>?_)
 ·have hb:i<9223372036854775807:=by omega
  have hx:=hL.2 i aB[i] (bP hi)
  generalize aB[i]=x at*
  have g0:=jJ K141 x hk
  have g1:=jK K141 x hB
  have gw:=eO g0 g1
  have w0:i64.wrap ((sR K141 x k 0)+1)=(sR K141 x k 1):=gw 1
  have w1:i64.wrap ((sR K141 x k 1)+1)=(sR K141 x k 2):=gw 2
  have w2:i64.wrap ((sR K141 x k 2)+1)=(sR K141 x k 3):=gw 3
  have w3:i64.wrap ((sR K141 x k 3)+1)=(sR K141 x k 4):=gw 4
  have hy2:i<ys.length:=by rw[hy];exact hi
  show c188_2 (aI p n) aA rec ((sR K141 x k 0),((i:Int),ys))=rec (k+cnR K141 x,(((i+1:Nat):Int),ys.set i (mkR txt K141 x k)))
  rw[<- fS K141 x k];unfold c188_2;dsimp only;rw[aD hb]
  have a0:=fA hy2 (eY K141 1 (mkR txt K141 x k) x)
  have a1:=fA hy2 (eY K141 2 (mkR txt K141 x k) x)
  have a2:=fA hy2 (eY K141 3 (mkR txt K141 x k) x)
  have a3:=fA hy2 (eY K141 4 (mkR txt K141 x k) x)
  rw[w0]
  rw[w1]
  rw[w2]
  rw[w3]
  refine ql hy2 ?_
  refine qz ?_
  refine(aO ha).trans ?_
  refine(aO ha).trans ?_
  refine(d4 (List.set ys i (eY K141 1 (mkR txt K141 x k) x)) kR).trans ?_
  refine qz ?_
  refine(aO a0).trans ?_
  refine(aO a0).trans ?_
  refine(d4 (List.set ys i (eY K141 2 (mkR txt K141 x k) x)) fZ).trans ?_
  refine qN (by decide) ?_
  refine qz ?_
  refine(aO a1).trans ?_
  refine(aO a1).trans ?_
  refine(d4 (List.set ys i (eY K141 3 (mkR txt K141 x k) x)) fZ).trans ?_
  refine qz ?_
  refine(aO a2).trans ?_
  refine(aO a2).trans ?_
  refine(d4 (List.set ys i (eY K141 4 (mkR txt K141 x k) x)) fZ).trans ?_
  first | done | rfl
 ·show c188_2 (aI p n) aA rec (k+cnT (.sl K141) aB,((aB.length:Int),mkT txt (.sl K141) aB k))=_
  have hlm:List.length (mkT txt (.sl K141) aB k)=List.length aB:=bO _ _
  unfold c188_2;simp only[hlm,bR,cond_false]
theorem mk189(aB:List (Row K147))(k:Int)(h0:0<=k)(h1:k+cnT (.sl K147) aB<=4611686018427387904)(hL:LmT (.sl K147) aB):Ran p 1 189 [.own false ⟨K36,(aB,())⟩, vf K3 (k,())] ⟨[⟨K3,(k+cnT (.sl K147) aB,())⟩],[⟨K36,(mkT txt (.sl K147) aB k,())⟩]⟩:=go189 fun n hn=>by
 refine Ev.eq (fun aA=>by unfold T189;rfl) ?_
 refine It.ev (c:=fun aA (_:Unit)=>c189_2 (aI p n) aA) (i:=()) (r:=fun _=>some ⟨[⟨K3,(k+cnT (.sl K147) aB,())⟩],[⟨K36,(mkT txt (.sl K147) aB k,())⟩]⟩) ?_ rfl
 have hlen:List.length aB<=4611686018427387904:=hL.1
 refine hI (mkR txt K147) (cnR K147) (eZ K147) aB k 4611686018427387904 h0 h1 (fun i k ys=>(k,((i:Int),ys))) (fun i hi ys k hy ha hk hB aA a rec=>?_) (fun aA a rec=>?_)
 ·have hb:i<9223372036854775807:=by omega
  have hx:=hL.2 i aB[i] (bP hi)
  generalize aB[i]=x at*
  have g0:=jJ K147 x hk
  have g1:=jK K147 x hB
  have gw:=eO g0 g1
  have w0:i64.wrap ((sR K147 x k 0)+1)=(sR K147 x k 1):=gw 1
  have w1:i64.wrap ((sR K147 x k 1)+1)=(sR K147 x k 2):=gw 2
  have w2:i64.wrap ((sR K147 x k 2)+1)=(sR K147 x k 3):=gw 3
  have hy2:i<ys.length:=by rw[hy];exact hi
  show c189_2 (aI p n) aA rec ((sR K147 x k 0),((i:Int),ys))=rec (k+cnR K147 x,(((i+1:Nat):Int),ys.set i (mkR txt K147 x k)))
  rw[<- fS K147 x k];unfold c189_2;dsimp only;rw[aD hb]
  have a0:=fA hy2 (eY K147 1 (mkR txt K147 x k) x)
  have a1:=fA hy2 (eY K147 2 (mkR txt K147 x k) x)
  have a2:=fA hy2 (eY K147 3 (mkR txt K147 x k) x)
  rw[w0]
  rw[w1]
  rw[w2]
  refine ql hy2 ?_
  refine qz ?_
  refine(aO ha).trans ?_
  refine(aO ha).trans ?_
  refine(d4 (List.set ys i (eY K147 1 (mkR txt K147 x k) x)) kR).trans ?_
  refine qz ?_
  refine(aO a0).trans ?_
  refine(aO a0).trans ?_
  refine(d4 (List.set ys i (eY K147 2 (mkR txt K147 x k) x)) fZ).trans ?_
  refine qz ?_
  refine(aO a1).trans ?_
  refine(aO a1).trans ?_
  refine(d4 (List.set ys i (eY K147 3 (mkR txt K147 x k) x)) fZ).trans ?_
  first | done | rfl
 ·show c189_2 (aI p n) aA rec (k+cnT (.sl K147) aB,((aB.length:Int),mkT txt (.sl K147) aB k))=_
  have hlm:List.length (mkT txt (.sl K147) aB k)=List.length aB:=bO _ _
  unfold c189_2;simp only[hlm,bR,cond_false]
theorem mk192(aB:List (Row K165))(k:Int)(h0:0<=k)(h1:k+cnT (.sl K165) aB<=4611686018427387904)(hL:LmT (.sl K165) aB):Ran p 1 192 [.own false ⟨K25,(aB,())⟩, vf K3 (k,())] ⟨[⟨K3,(k+cnT (.sl K165) aB,())⟩],[⟨K25,(mkT txt (.sl K165) aB k,())⟩]⟩:=go192 fun n hn=>by
 refine Ev.eq (fun aA=>by unfold T192;rfl) ?_
 refine It.ev (c:=fun aA (_:Unit)=>c192_2 (aI p n) aA) (i:=()) (r:=fun _=>some ⟨[⟨K3,(k+cnT (.sl K165) aB,())⟩],[⟨K25,(mkT txt (.sl K165) aB k,())⟩]⟩) ?_ rfl
 have hlen:List.length aB<=4611686018427387904:=hL.1
 refine hI (mkR txt K165) (cnR K165) (eZ K165) aB k 4611686018427387904 h0 h1 (fun i k ys=>(k,((i:Int),ys))) (fun i hi ys k hy ha hk hB aA a rec=>?_) (fun aA a rec=>?_)
 ·have hb:i<9223372036854775807:=by omega
  have hx:=hL.2 i aB[i] (bP hi)
  generalize aB[i]=x at*
  have g0:=jJ K165 x hk
  have g1:=jK K165 x hB
  have gw:=eO g0 g1
  have w0:i64.wrap ((sR K165 x k 0)+1)=(sR K165 x k 1):=gw 1
  have w1:i64.wrap ((sR K165 x k 1)+1)=(sR K165 x k 2):=gw 2
  have hy2:i<ys.length:=by rw[hy];exact hi
  show c192_2 (aI p n) aA rec ((sR K165 x k 0),((i:Int),ys))=rec (k+cnR K165 x,(((i+1:Nat):Int),ys.set i (mkR txt K165 x k)))
  rw[<- fS K165 x k];unfold c192_2;dsimp only;rw[aD hb]
  have a0:=fA hy2 (eY K165 1 (mkR txt K165 x k) x)
  have a1:=fA hy2 (eY K165 2 (mkR txt K165 x k) x)
  rw[w0]
  rw[w1]
  refine ql hy2 ?_
  refine qz ?_
  refine(aO ha).trans ?_
  refine(aO ha).trans ?_
  refine(d4 (List.set ys i (eY K165 1 (mkR txt K165 x k) x)) kR).trans ?_
  refine qz ?_
  refine(aO a0).trans ?_
  refine(aO a0).trans ?_
  refine(d4 (List.set ys i (eY K165 2 (mkR txt K165 x k) x)) fZ).trans ?_
  first | done | rfl
 ·show c192_2 (aI p n) aA rec (k+cnT (.sl K165) aB,((aB.length:Int),mkT txt (.sl K165) aB k))=_
  have hlm:List.length (mkT txt (.sl K165) aB k)=List.length aB:=bO _ _
  unfold c192_2;simp only[hlm,bR,cond_false]
theorem hd197(aB:List (Row K141))(k:Int)(h0:0<=k)(h1:k+cnT (.sl K141) aB<=4611686018427387904)(hL:LmT (.sl K141) aB):Ran p 1 197 [vf K35 (mkT txt (.sl K141) aB k,()), vf K3 (k,())] (rO K3 (k+cnT (.sl K141) aB,())):=go197 fun n hn=>by
 refine Ev.eq (fun aA=>by unfold T197;rfl) ?_
 refine It.ev (c:=fun aA (_:Unit)=>c197_2 (aI p n) aA (mkT txt (.sl K141) aB k)) (i:=()) (r:=fun _=>rV K3 (k+cnT (.sl K141) aB,())) ?_ rfl
 have hlen:List.length aB<=4611686018427387904:=hL.1
 refine hS (mkR txt K141) (cnR K141) (eZ K141) aB k 4611686018427387904 h0 h1 (fun i k=>(k,(i:Int))) (fun i hi q hi2 ha hk hB aA a rec=>?_) (fun aA a rec=>?_)
 ·have hb:i<9223372036854775807:=by omega
  have hx:=hL.2 i aB[i] (bP hi)
  generalize aB[i]=x at*
  have g0:=jJ K141 x hk
  have g1:=jK K141 x hB
  have gw:=eO g0 g1
  have w0:i64.wrap ((sR K141 x q 0)+1)=(sR K141 x q 1):=gw 1
  have w1:i64.wrap ((sR K141 x q 1)+1)=(sR K141 x q 2):=gw 2
  have w2:i64.wrap ((sR K141 x q 2)+1)=(sR K141 x q 3):=gw 3
  have w3:i64.wrap ((sR K141 x q 3)+1)=(sR K141 x q 4):=gw 4
  show c197_2 (aI p n) aA (mkT txt (.sl K141) aB k) rec ((sR K141 x q 0),(i:Int))=rec (q+cnR K141 x,((i+1:Nat):Int))
  replace hi2:i<List.length (mkT txt (.sl K141) aB k):=hi2
  replace ha:at? (mkT txt (.sl K141) aB k) i=some (mkR txt K141 x q):=ha
  generalize mkT txt (.sl K141) aB k=L at*
  rw[<- fS K141 x q];unfold c197_2;dsimp only;rw[aD hb]
  rw[w0]
  rw[w1]
  rw[w2]
  rw[w3]
  refine ql hi2 ?_
  refine qz ?_
  refine(aO ha).trans ?_
  refine qF (bne_self_eq_false _) ?_
  refine qz ?_
  refine(aO ha).trans ?_
  refine qF (bne_self_eq_false _) ?_
  refine qz ?_
  refine(aO ha).trans ?_
  refine qN (by decide) ?_
  refine qF (NF _) ?_
  refine qz ?_
  refine(aO ha).trans ?_
  refine qF (bne_self_eq_false _) ?_
  first | done | rfl
 ·show c197_2 (aI p n) aA (mkT txt (.sl K141) aB k) rec (k+cnT (.sl K141) aB,((List.length (mkT txt (.sl K141) aB k):Nat):Int))=_
  unfold c197_2;simp only[bR,cond_false]
theorem hd198(aB:List (Row K147))(k:Int)(h0:0<=k)(h1:k+cnT (.sl K147) aB<=4611686018427387904)(hL:LmT (.sl K147) aB):Ran p 1 198 [vf K36 (mkT txt (.sl K147) aB k,()), vf K3 (k,())] (rO K3 (k+cnT (.sl K147) aB,())):=go198 fun n hn=>by
 refine Ev.eq (fun aA=>by unfold T198;rfl) ?_
 refine It.ev (c:=fun aA (_:Unit)=>c198_2 (aI p n) aA (mkT txt (.sl K147) aB k)) (i:=()) (r:=fun _=>rV K3 (k+cnT (.sl K147) aB,())) ?_ rfl
 have hlen:List.length aB<=4611686018427387904:=hL.1
 refine hS (mkR txt K147) (cnR K147) (eZ K147) aB k 4611686018427387904 h0 h1 (fun i k=>(k,(i:Int))) (fun i hi q hi2 ha hk hB aA a rec=>?_) (fun aA a rec=>?_)
 ·have hb:i<9223372036854775807:=by omega
  have hx:=hL.2 i aB[i] (bP hi)
  generalize aB[i]=x at*
  have g0:=jJ K147 x hk
  have g1:=jK K147 x hB
  have gw:=eO g0 g1
  have w0:i64.wrap ((sR K147 x q 0)+1)=(sR K147 x q 1):=gw 1
  have w1:i64.wrap ((sR K147 x q 1)+1)=(sR K147 x q 2):=gw 2
  have w2:i64.wrap ((sR K147 x q 2)+1)=(sR K147 x q 3):=gw 3
  show c198_2 (aI p n) aA (mkT txt (.sl K147) aB k) rec ((sR K147 x q 0),(i:Int))=rec (q+cnR K147 x,((i+1:Nat):Int))
  replace hi2:i<List.length (mkT txt (.sl K147) aB k):=hi2
  replace ha:at? (mkT txt (.sl K147) aB k) i=some (mkR txt K147 x q):=ha
  generalize mkT txt (.sl K147) aB k=L at*
  rw[<- fS K147 x q];unfold c198_2;dsimp only;rw[aD hb]
  rw[w0]
  rw[w1]
  rw[w2]
  refine ql hi2 ?_
  refine qz ?_
  refine(aO ha).trans ?_
  refine qF (bne_self_eq_false _) ?_
  refine qz ?_
  refine(aO ha).trans ?_
  refine qF (bne_self_eq_false _) ?_
  refine qz ?_
  refine(aO ha).trans ?_
  refine qF (bne_self_eq_false _) ?_
  first | done | rfl
 ·show c198_2 (aI p n) aA (mkT txt (.sl K147) aB k) rec (k+cnT (.sl K147) aB,((List.length (mkT txt (.sl K147) aB k):Nat):Int))=_
  unfold c198_2;simp only[bR,cond_false]
theorem hd200(aB:List (Row K165))(k:Int)(h0:0<=k)(h1:k+cnT (.sl K165) aB<=4611686018427387904)(hL:LmT (.sl K165) aB):Ran p 1 200 [vf K25 (mkT txt (.sl K165) aB k,()), vf K3 (k,())] (rO K3 (k+cnT (.sl K165) aB,())):=go200 fun n hn=>by
 refine Ev.eq (fun aA=>by unfold T200;rfl) ?_
 refine It.ev (c:=fun aA (_:Unit)=>c200_2 (aI p n) aA (mkT txt (.sl K165) aB k)) (i:=()) (r:=fun _=>rV K3 (k+cnT (.sl K165) aB,())) ?_ rfl
 have hlen:List.length aB<=4611686018427387904:=hL.1
 refine hS (mkR txt K165) (cnR K165) (eZ K165) aB k 4611686018427387904 h0 h1 (fun i k=>(k,(i:Int))) (fun i hi q hi2 ha hk hB aA a rec=>?_) (fun aA a rec=>?_)
 ·have hb:i<9223372036854775807:=by omega
  have hx:=hL.2 i aB[i] (bP hi)
  generalize aB[i]=x at*
  have g0:=jJ K165 x hk
  have g1:=jK K165 x hB
  have gw:=eO g0 g1
  have w0:i64.wrap ((sR K165 x q 0)+1)=(sR K165 x q 1):=gw 1
  have w1:i64.wrap ((sR K165 x q 1)+1)=(sR K165 x q 2):=gw 2
  show c200_2 (aI p n) aA (mkT txt (.sl K165) aB k) rec ((sR K165 x q 0),(i:Int))=rec (q+cnR K165 x,((i+1:Nat):Int))
  replace hi2:i<List.length (mkT txt (.sl K165) aB k):=hi2
  replace ha:at? (mkT txt (.sl K165) aB k) i=some (mkR txt K165 x q):=ha
  generalize mkT txt (.sl K165) aB k=L at*
  rw[<- fS K165 x q];unfold c200_2;dsimp only;rw[aD hb]
  rw[w0]
  rw[w1]
  refine ql hi2 ?_
  refine qz ?_
  refine(aO ha).trans ?_
  refine qF (bne_self_eq_false _) ?_
  refine qz ?_
  refine(aO ha).trans ?_
  refine qF (bne_self_eq_false _) ?_
  first | done | rfl
 ·show c200_2 (aI p n) aA (mkT txt (.sl K165) aB k) rec (k+cnT (.sl K165) aB,((List.length (mkT txt (.sl K165) aB k):Nat):Int))=_
  unfold c200_2;simp only[bR,cond_false]
theorem hd202(aB:List (Row K5))(k:Int)(h0:0<=k)(h1:k+cnT (.sl K5) aB<=4611686018427387904)(hL:LmT (.sl K5) aB):Ran p 1 202 [vf K22 (mkT txt (.sl K5) aB k,()), vf K3 (k,())] (rO K3 (k+cnT (.sl K5) aB,())):=go202 fun n hn=>by
 refine Ev.eq (fun aA=>by unfold T202;rfl) ?_
 refine It.ev (c:=fun aA (_:Unit)=>c202_2 (aI p n) aA (mkT txt (.sl K5) aB k)) (i:=()) (r:=fun _=>rV K3 (k+cnT (.sl K5) aB,())) ?_ rfl
 have hlen:List.length aB<=4611686018427387904:=hL.1
 refine hS (mkR txt K5) (cnR K5) (eZ K5) aB k 4611686018427387904 h0 h1 (fun i k=>(k,(i:Int))) (fun i hi q hi2 ha hk hB aA a rec=>?_) (fun aA a rec=>?_)
 ·have hb:i<9223372036854775807:=by omega
  have hx:=hL.2 i aB[i] (bP hi)
  generalize aB[i]=x at*
  have g0:=jJ K5 x hk
  have g1:=jK K5 x hB
  have gw:=eO g0 g1
  have w0:i64.wrap ((sR K5 x q 0)+1)=(sR K5 x q 1):=gw 1
  show c202_2 (aI p n) aA (mkT txt (.sl K5) aB k) rec ((sR K5 x q 0),(i:Int))=rec (q+cnR K5 x,((i+1:Nat):Int))
  replace hi2:i<List.length (mkT txt (.sl K5) aB k):=hi2
  replace ha:at? (mkT txt (.sl K5) aB k) i=some (mkR txt K5 x q):=ha
  generalize mkT txt (.sl K5) aB k=L at*
  rw[<- fS K5 x q];unfold c202_2;dsimp only;rw[aD hb]
  rw[w0]
  refine ql hi2 ?_
  refine qz ?_
  refine(aO ha).trans ?_
  refine qF (bne_self_eq_false _) ?_
  first | done | rfl
 ·show c202_2 (aI p n) aA (mkT txt (.sl K5) aB k) rec (k+cnT (.sl K5) aB,((List.length (mkT txt (.sl K5) aB k):Nat):Int))=_
  unfold c202_2;simp only[bR,cond_false]
theorem mk63(aB:List (Row K22))(k:Int)(h0:0<=k)(h1:k+cnT (.sl K22) aB<=4611686018427387904)(hL:LmT (.sl K22) aB):Ran p 2 63 [.own false ⟨K62,(aB,())⟩, vf K3 (k,())] ⟨[⟨K3,(k+cnT (.sl K22) aB,())⟩],[⟨K62,(mkT txt (.sl K22) aB k,())⟩]⟩:=go63 fun n hn=>by
 refine Ev.eq (fun aA=>by unfold T63;rfl) ?_
 refine It.ev (c:=fun aA (_:Unit)=>c63_2 (aI p n) aA) (i:=()) (r:=fun _=>some ⟨[⟨K3,(k+cnT (.sl K22) aB,())⟩],[⟨K62,(mkT txt (.sl K22) aB k,())⟩]⟩) ?_ rfl
 have hlen:List.length aB<=4611686018427387904:=hL.1
 refine hI (mkR txt K22) (cnR K22) (eZ K22) aB k 4611686018427387904 h0 h1 (fun i k ys=>(k,((i:Int),ys))) (fun i hi ys k hy ha hk hB aA a rec=>?_) (fun aA a rec=>?_)
 ·have hb:i<9223372036854775807:=by omega
  have hx:=hL.2 i aB[i] (bP hi)
  generalize aB[i]=x at*
  have g0:=jJ K22 x hk
  have g1:=jK K22 x hB
  have gw:=eO g0 g1
  have f0:=mk62 x.1 (sR K22 x k 0) (g0 0) (g1 1) hx.1 n (by omega)
  rw[show(sR K22 x k 0)+cnT (.sl K5) x.1=(sR K22 x k 1)from rfl] at f0
  have hy2:i<ys.length:=by rw[hy];exact hi
  show c63_2 (aI p n) aA rec ((sR K22 x k 0),((i:Int),ys))=rec (k+cnR K22 x,(((i+1:Nat):Int),ys.set i (mkR txt K22 x k)))
  rw[<- fS K22 x k];unfold c63_2;dsimp only;rw[aD hb]
  have a0:=fA hy2 (eY K22 1 (mkR txt K22 x k) x)
  refine ql hy2 ?_
  refine qz ?_
  refine(aO ha).trans ?_
  refine(aO ha).trans ?_
  refine(aO ha).trans ?_
  refine(dD f0 _).trans ?_
  refine(aO ha).trans ?_
  refine(d4 (List.set ys i (eY K22 1 (mkR txt K22 x k) x)) kR).trans ?_
  first | done | rfl
 ·show c63_2 (aI p n) aA rec (k+cnT (.sl K22) aB,((aB.length:Int),mkT txt (.sl K22) aB k))=_
  have hlm:List.length (mkT txt (.sl K22) aB k)=List.length aB:=bO _ _
  unfold c63_2;simp only[hlm,bR,cond_false]
theorem hd64(aB:List (Row K22))(k:Int)(h0:0<=k)(h1:k+cnT (.sl K22) aB<=4611686018427387904)(hL:LmT (.sl K22) aB):Ran p 2 64 [vf K62 (mkT txt (.sl K22) aB k,()), vf K3 (k,())] (rO K3 (k+cnT (.sl K22) aB,())):=go64 fun n hn=>by
 refine Ev.eq (fun aA=>by unfold T64;rfl) ?_
 refine It.ev (c:=fun aA (_:Unit)=>c64_2 (aI p n) aA (mkT txt (.sl K22) aB k)) (i:=()) (r:=fun _=>rV K3 (k+cnT (.sl K22) aB,())) ?_ rfl
 have hlen:List.length aB<=4611686018427387904:=hL.1
 refine hS (mkR txt K22) (cnR K22) (eZ K22) aB k 4611686018427387904 h0 h1 (fun i k=>(k,(i:Int))) (fun i hi q hi2 ha hk hB aA a rec=>?_) (fun aA a rec=>?_)
 ·have hb:i<9223372036854775807:=by omega
  have hx:=hL.2 i aB[i] (bP hi)
  generalize aB[i]=x at*
  have g0:=jJ K22 x hk
  have g1:=jK K22 x hB
  have gw:=eO g0 g1
  have f0:=hd202 x.1 (sR K22 x q 0) (g0 0) (g1 1) hx.1 n (by omega)
  rw[show(sR K22 x q 0)+cnT (.sl K5) x.1=(sR K22 x q 1)from rfl] at f0
  show c64_2 (aI p n) aA (mkT txt (.sl K22) aB k) rec ((sR K22 x q 0),(i:Int))=rec (q+cnR K22 x,((i+1:Nat):Int))
  replace hi2:i<List.length (mkT txt (.sl K22) aB k):=hi2
  replace ha:at? (mkT txt (.sl K22) aB k) i=some (mkR txt K22 x q):=ha
  generalize mkT txt (.sl K22) aB k=L at*
  rw[<- fS K22 x q];unfold c64_2;dsimp only;rw[aD hb]
  refine ql hi2 ?_
  refine qz ?_
  refine(aO ha).trans ?_
  refine(aR f0 _).trans ?_
  refine qF (CE g0 1) ?_
  first | done | rfl
 ·show c64_2 (aI p n) aA (mkT txt (.sl K22) aB k) rec (k+cnT (.sl K22) aB,((List.length (mkT txt (.sl K22) aB k):Nat):Int))=_
  unfold c64_2;simp only[bR,cond_false]
theorem mk185(a0:Row K30)(k:Int)(h0:0<=k)(h1:k+cnS K30 a0<=4611686018427387904)(hL:LmR K30 a0):Ran p 2 185 [.own true ⟨K30,a0⟩, vf K3 (k,())] ⟨[⟨K3,(k+cnS K30 a0,())⟩],[⟨K30,mkS txt K30 a0 k⟩]⟩:=go185 fun n hn=>Ev.now fun aA=>by
 have hc:cnS K30 a0=(cnT (.sl K3) a0.1+0):=rfl
 rw[hc] at h1 ⊢
 have n0:=c9 (.sl K3) a0.1
 have f0:=mk45 a0.1 (k) (by omega) (by omega) (show LmT (.sl K3) a0.1 from hL.1) n (by omega)
 unfold T185
 refine(dD f0 _).trans ?_
 rw[show k+(cnT (.sl K3) a0.1+0)=k+cnT (.sl K3) a0.1 by omega]
 first | done | rfl
theorem mk187(aB:List (Row K28))(k:Int)(h0:0<=k)(h1:k+cnT (.sl K28) aB<=4611686018427387904)(hL:LmT (.sl K28) aB):Ran p 2 187 [.own false ⟨K34,(aB,())⟩, vf K3 (k,())] ⟨[⟨K3,(k+cnT (.sl K28) aB,())⟩],[⟨K34,(mkT txt (.sl K28) aB k,())⟩]⟩:=go187 fun n hn=>by
 refine Ev.eq (fun aA=>by unfold T187;rfl) ?_
 refine It.ev (c:=fun aA (_:Unit)=>c187_2 (aI p n) aA) (i:=()) (r:=fun _=>some ⟨[⟨K3,(k+cnT (.sl K28) aB,())⟩],[⟨K34,(mkT txt (.sl K28) aB k,())⟩]⟩) ?_ rfl
 have hlen:List.length aB<=4611686018427387904:=hL.1
 refine hI (mkR txt K28) (cnR K28) (eZ K28) aB k 4611686018427387904 h0 h1 (fun i k ys=>(k,((i:Int),ys))) (fun i hi ys k hy ha hk hB aA a rec=>?_) (fun aA a rec=>?_)
 ·have hb:i<9223372036854775807:=by omega
  have hx:=hL.2 i aB[i] (bP hi)
  generalize aB[i]=x at*
  have g0:=jJ K28 x hk
  have g1:=jK K28 x hB
  have gw:=eO g0 g1
  have f0:=mk45 x.1 (sR K28 x k 0) (g0 0) (g1 1) hx.1 n (by omega)
  rw[show(sR K28 x k 0)+cnT (.sl K3) x.1=(sR K28 x k 1)from rfl] at f0
  have hy2:i<ys.length:=by rw[hy];exact hi
  show c187_2 (aI p n) aA rec ((sR K28 x k 0),((i:Int),ys))=rec (k+cnR K28 x,(((i+1:Nat):Int),ys.set i (mkR txt K28 x k)))
  rw[<- fS K28 x k];unfold c187_2;dsimp only;rw[aD hb]
  have a0:=fA hy2 (eY K28 1 (mkR txt K28 x k) x)
  refine ql hy2 ?_
  refine qz ?_
  refine(aO ha).trans ?_
  refine(aO ha).trans ?_
  refine(aO ha).trans ?_
  refine(dD f0 _).trans ?_
  refine(aO ha).trans ?_
  refine(d4 (List.set ys i (eY K28 1 (mkR txt K28 x k) x)) kR).trans ?_
  first | done | rfl
 ·show c187_2 (aI p n) aA rec (k+cnT (.sl K28) aB,((aB.length:Int),mkT txt (.sl K28) aB k))=_
  have hlm:List.length (mkT txt (.sl K28) aB k)=List.length aB:=bO _ _
  unfold c187_2;simp only[hlm,bR,cond_false]
theorem mk191(aB:List (Row K163))(k:Int)(h0:0<=k)(h1:k+cnT (.sl K163) aB<=4611686018427387904)(hL:LmT (.sl K163) aB):Ran p 2 191 [.own false ⟨K24,(aB,())⟩, vf K3 (k,())] ⟨[⟨K3,(k+cnT (.sl K163) aB,())⟩],[⟨K24,(mkT txt (.sl K163) aB k,())⟩]⟩:=go191 fun n hn=>by
 refine Ev.eq (fun aA=>by unfold T191;rfl) ?_
 refine It.ev (c:=fun aA (_:Unit)=>c191_2 (aI p n) aA) (i:=()) (r:=fun _=>some ⟨[⟨K3,(k+cnT (.sl K163) aB,())⟩],[⟨K24,(mkT txt (.sl K163) aB k,())⟩]⟩) ?_ rfl
 have hlen:List.length aB<=4611686018427387904:=hL.1
 refine hI (mkR txt K163) (cnR K163) (eZ K163) aB k 4611686018427387904 h0 h1 (fun i k ys=>(k,((i:Int),ys))) (fun i hi ys k hy ha hk hB aA a rec=>?_) (fun aA a rec=>?_)
 ·have hb:i<9223372036854775807:=by omega
  have hx:=hL.2 i aB[i] (bP hi)
  generalize aB[i]=x at*
  have g0:=jJ K163 x hk
  have g1:=jK K163 x hB
  have gw:=eO g0 g1
  have f5:=KL (sR K163 x k 5) (g0 5) (by have:=g1 5;omega) n (by omega)
  have w0:i64.wrap ((sR K163 x k 0)+1)=(sR K163 x k 1):=gw 1
  have w1:i64.wrap ((sR K163 x k 1)+1)=(sR K163 x k 2):=gw 2
  have w2:i64.wrap ((sR K163 x k 2)+1)=(sR K163 x k 3):=gw 3
  have w3:i64.wrap ((sR K163 x k 3)+1)=(sR K163 x k 4):=gw 4
  have w4:i64.wrap ((sR K163 x k 4)+1)=(sR K163 x k 5):=gw 5
  have w5:i64.wrap ((sR K163 x k 5)+1)=(sR K163 x k 6):=gw 6
  have hy2:i<ys.length:=by rw[hy];exact hi
  show c191_2 (aI p n) aA rec ((sR K163 x k 0),((i:Int),ys))=rec (k+cnR K163 x,(((i+1:Nat):Int),ys.set i (mkR txt K163 x k)))
  rw[<- fS K163 x k];unfold c191_2;dsimp only;rw[aD hb]
  have a0:=fA hy2 (eY K163 1 (mkR txt K163 x k) x)
  have a1:=fA hy2 (eY K163 2 (mkR txt K163 x k) x)
  have a2:=fA hy2 (eY K163 3 (mkR txt K163 x k) x)
  have a3:=fA hy2 (eY K163 4 (mkR txt K163 x k) x)
  have a4:=fA hy2 (eY K163 5 (mkR txt K163 x k) x)
  have a5:=fA hy2 (eY K163 6 (mkR txt K163 x k) x)
  rw[w0]
  rw[w1]
  rw[w2]
  rw[w3]
  rw[w4]
  rw[w5]
  refine ql hy2 ?_
  refine qz ?_
  refine(aO ha).trans ?_
  refine(aO ha).trans ?_
  refine(d4 (List.set ys i (eY K163 1 (mkR txt K163 x k) x)) kR).trans ?_
  refine qz ?_
  refine(aO a0).trans ?_
  refine(aO a0).trans ?_
  refine(d4 (List.set ys i (eY K163 2 (mkR txt K163 x k) x)) fZ).trans ?_
  refine qz ?_
  refine(aO a1).trans ?_
  refine(aO a1).trans ?_
  refine(d4 (List.set ys i (eY K163 3 (mkR txt K163 x k) x)) fZ).trans ?_
  refine qz ?_
  refine(aO a2).trans ?_
  refine(aO a2).trans ?_
  refine(d4 (List.set ys i (eY K163 4 (mkR txt K163 x k) x)) fZ).trans ?_
  refine qz ?_
  refine(aO a3).trans ?_
  refine(aO a3).trans ?_
  refine(d4 (List.set ys i (eY K163 5 (mkR txt K163 x k) x)) fZ).trans ?_
  refine(aR f5 _).trans ?_
  refine qz ?_
  refine(aO a4).trans ?_
  refine(aO a4).trans ?_
  refine(d4 (List.set ys i (eY K163 6 (mkR txt K163 x k) x)) fZ).trans ?_
  first | done | rfl
 ·show c191_2 (aI p n) aA rec (k+cnT (.sl K163) aB,((aB.length:Int),mkT txt (.sl K163) aB k))=_
  have hlm:List.length (mkT txt (.sl K163) aB k)=List.length aB:=bO _ _
  unfold c191_2;simp only[hlm,bR,cond_false]
theorem hd194(a0:Row K30)(k:Int)(h0:0<=k)(h1:k+cnS K30 a0<=4611686018427387904)(hL:LmR K30 a0):Ran p 2 194 [va K30 (mkS txt K30 a0 k), vf K3 (k,())] (rO K3 (k+cnS K30 a0,())):=go194 fun n hn=>Ev.now fun aA=>by
 have hc:cnS K30 a0=(cnT (.sl K3) a0.1+0):=rfl
 rw[hc] at h1 ⊢
 have n0:=c9 (.sl K3) a0.1
 have f0:=hd79 a0.1 (k) (by omega) (by omega) (show LmT (.sl K3) a0.1 from hL.1) n (by omega)
 unfold T194
 refine(aR f0 _).trans ?_
 refine qN (show ¬ (k+cnT (.sl K3) a0.1<0) by omega) ?_
 rw[show k+(cnT (.sl K3) a0.1+0)=k+cnT (.sl K3) a0.1 by omega]
 first | done | rfl
theorem hd196(aB:List (Row K28))(k:Int)(h0:0<=k)(h1:k+cnT (.sl K28) aB<=4611686018427387904)(hL:LmT (.sl K28) aB):Ran p 2 196 [vf K34 (mkT txt (.sl K28) aB k,()), vf K3 (k,())] (rO K3 (k+cnT (.sl K28) aB,())):=go196 fun n hn=>by
 refine Ev.eq (fun aA=>by unfold T196;rfl) ?_
 refine It.ev (c:=fun aA (_:Unit)=>c196_2 (aI p n) aA (mkT txt (.sl K28) aB k)) (i:=()) (r:=fun _=>rV K3 (k+cnT (.sl K28) aB,())) ?_ rfl
 have hlen:List.length aB<=4611686018427387904:=hL.1
 refine hS (mkR txt K28) (cnR K28) (eZ K28) aB k 4611686018427387904 h0 h1 (fun i k=>(k,(i:Int))) (fun i hi q hi2 ha hk hB aA a rec=>?_) (fun aA a rec=>?_)
 ·have hb:i<9223372036854775807:=by omega
  have hx:=hL.2 i aB[i] (bP hi)
  generalize aB[i]=x at*
  have g0:=jJ K28 x hk
  have g1:=jK K28 x hB
  have gw:=eO g0 g1
  have f0:=hd79 x.1 (sR K28 x q 0) (g0 0) (g1 1) hx.1 n (by omega)
  rw[show(sR K28 x q 0)+cnT (.sl K3) x.1=(sR K28 x q 1)from rfl] at f0
  show c196_2 (aI p n) aA (mkT txt (.sl K28) aB k) rec ((sR K28 x q 0),(i:Int))=rec (q+cnR K28 x,((i+1:Nat):Int))
  replace hi2:i<List.length (mkT txt (.sl K28) aB k):=hi2
  replace ha:at? (mkT txt (.sl K28) aB k) i=some (mkR txt K28 x q):=ha
  generalize mkT txt (.sl K28) aB k=L at*
  rw[<- fS K28 x q];unfold c196_2;dsimp only;rw[aD hb]
  refine ql hi2 ?_
  refine qz ?_
  refine(aO ha).trans ?_
  refine(aR f0 _).trans ?_
  refine qF (CE g0 1) ?_
  first | done | rfl
 ·show c196_2 (aI p n) aA (mkT txt (.sl K28) aB k) rec (k+cnT (.sl K28) aB,((List.length (mkT txt (.sl K28) aB k):Nat):Int))=_
  unfold c196_2;simp only[bR,cond_false]
theorem hd199(aB:List (Row K163))(k:Int)(h0:0<=k)(h1:k+cnT (.sl K163) aB<=4611686018427387904)(hL:LmT (.sl K163) aB):Ran p 2 199 [vf K24 (mkT txt (.sl K163) aB k,()), vf K3 (k,())] (rO K3 (k+cnT (.sl K163) aB,())):=go199 fun n hn=>by
 refine Ev.eq (fun aA=>by unfold T199;rfl) ?_
 refine It.ev (c:=fun aA (_:Unit)=>c199_2 (aI p n) aA (mkT txt (.sl K163) aB k)) (i:=()) (r:=fun _=>rV K3 (k+cnT (.sl K163) aB,())) ?_ rfl
 have hlen:List.length aB<=4611686018427387904:=hL.1
 refine hS (mkR txt K163) (cnR K163) (eZ K163) aB k 4611686018427387904 h0 h1 (fun i k=>(k,(i:Int))) (fun i hi q hi2 ha hk hB aA a rec=>?_) (fun aA a rec=>?_)
 ·have hb:i<9223372036854775807:=by omega
  have hx:=hL.2 i aB[i] (bP hi)
  generalize aB[i]=x at*
  have g0:=jJ K163 x hk
  have g1:=jK K163 x hB
  have gw:=eO g0 g1
  have f5:=KL (sR K163 x q 5) (g0 5) (by have:=g1 5;omega) n (by omega)
  have w0:i64.wrap ((sR K163 x q 0)+1)=(sR K163 x q 1):=gw 1
  have w1:i64.wrap ((sR K163 x q 1)+1)=(sR K163 x q 2):=gw 2
  have w2:i64.wrap ((sR K163 x q 2)+1)=(sR K163 x q 3):=gw 3
  have w3:i64.wrap ((sR K163 x q 3)+1)=(sR K163 x q 4):=gw 4
  have w4:i64.wrap ((sR K163 x q 4)+1)=(sR K163 x q 5):=gw 5
  have w5:i64.wrap ((sR K163 x q 5)+1)=(sR K163 x q 6):=gw 6
  show c199_2 (aI p n) aA (mkT txt (.sl K163) aB k) rec ((sR K163 x q 0),(i:Int))=rec (q+cnR K163 x,((i+1:Nat):Int))
  replace hi2:i<List.length (mkT txt (.sl K163) aB k):=hi2
  replace ha:at? (mkT txt (.sl K163) aB k) i=some (mkR txt K163 x q):=ha
  generalize mkT txt (.sl K163) aB k=L at*
  rw[<- fS K163 x q];unfold c199_2;dsimp only;rw[aD hb]
  rw[w0]
  rw[w1]
  rw[w2]
  rw[w3]
  rw[w4]
  rw[w5]
  refine ql hi2 ?_
  refine qz ?_
  refine(aO ha).trans ?_
  refine qF (bne_self_eq_false _) ?_
  refine qz ?_
  refine(aO ha).trans ?_
  refine qF (bne_self_eq_false _) ?_
  refine qz ?_
  refine(aO ha).trans ?_
  refine qF (bne_self_eq_false _) ?_
  refine qz ?_
  refine(aO ha).trans ?_
  refine qF (bne_self_eq_false _) ?_
  refine qz ?_
  refine(aO ha).trans ?_
  refine qF (bne_self_eq_false _) ?_
  refine qz ?_
  refine(aO ha).trans ?_
  refine(aR f5 _).trans ?_
  refine qF (O6 _) ?_
  first | done | rfl
 ·show c199_2 (aI p n) aA (mkT txt (.sl K163) aB k) rec (k+cnT (.sl K163) aB,((List.length (mkT txt (.sl K163) aB k):Nat):Int))=_
  unfold c199_2;simp only[bR,cond_false]
theorem mk184(a0:Row K27)(k:Int)(h0:0<=k)(h1:k+cnS K27 a0<=4611686018427387904)(hL:LmR K27 a0):Ran p 3 184 [.own true ⟨K27,a0⟩, vf K3 (k,())] ⟨[⟨K3,(k+cnS K27 a0,())⟩],[⟨K27,mkS txt K27 a0 k⟩]⟩:=go184 fun n hn=>Ev.now fun aA=>by
 have hc:cnS K27 a0=(cnT (.sl K163) a0.1+(cnT (.sl K165) a0.2.1+0)):=rfl
 rw[hc] at h1 ⊢
 have n0:=c9 (.sl K163) a0.1
 have n1:=c9 (.sl K165) a0.2.1
 have f0:=mk191 a0.1 (k) (by omega) (by omega) (show LmT (.sl K163) a0.1 from hL.1) n (by omega)
 have f1:=mk192 a0.2.1 (k+cnT (.sl K163) a0.1) (by omega) (by omega) (show LmT (.sl K165) a0.2.1 from hL.2.1) n (by omega)
 unfold T184
 refine(dD f0 _).trans ?_
 refine(dD f1 _).trans ?_
 rw[show k+(cnT (.sl K163) a0.1+(cnT (.sl K165) a0.2.1+0))=k+cnT (.sl K163) a0.1+cnT (.sl K165) a0.2.1 by omega]
 first | done | rfl
theorem hd193(a0:Row K27)(k:Int)(h0:0<=k)(h1:k+cnS K27 a0<=4611686018427387904)(hL:LmR K27 a0):Ran p 3 193 [va K27 (mkS txt K27 a0 k), vf K3 (k,())] (rO K3 (k+cnS K27 a0,())):=go193 fun n hn=>Ev.now fun aA=>by
 have hc:cnS K27 a0=(cnT (.sl K163) a0.1+(cnT (.sl K165) a0.2.1+0)):=rfl
 rw[hc] at h1 ⊢
 have n0:=c9 (.sl K163) a0.1
 have n1:=c9 (.sl K165) a0.2.1
 have f0:=hd199 a0.1 (k) (by omega) (by omega) (show LmT (.sl K163) a0.1 from hL.1) n (by omega)
 have f1:=hd200 a0.2.1 (k+cnT (.sl K163) a0.1) (by omega) (by omega) (show LmT (.sl K165) a0.2.1 from hL.2.1) n (by omega)
 unfold T193
 refine(aR f0 _).trans ?_
 refine qN (show ¬ (k+cnT (.sl K163) a0.1<0) by omega) ?_
 refine(aR f1 _).trans ?_
 refine qN (show ¬ (k+cnT (.sl K163) a0.1+cnT (.sl K165) a0.2.1<0) by omega) ?_
 rw[show k+(cnT (.sl K163) a0.1+(cnT (.sl K165) a0.2.1+0))=k+cnT (.sl K163) a0.1+cnT (.sl K165) a0.2.1 by omega]
 first | done | rfl
theorem mk280(aB:List (Row K27))(k:Int)(h0:0<=k)(h1:k+cnT (.sl K27) aB<=4611686018427387904)(hL:LmT (.sl K27) aB):Ran p 3 280 [.own false ⟨K31,(aB,())⟩, vf K3 (k,())] ⟨[⟨K3,(k+cnT (.sl K27) aB,())⟩],[⟨K31,(mkT txt (.sl K27) aB k,())⟩]⟩:=go280 fun n hn=>by
 refine Ev.eq (fun aA=>by unfold T280;rfl) ?_
 refine It.ev (c:=fun aA (_:Unit)=>c280_2 (aI p n) aA) (i:=()) (r:=fun _=>some ⟨[⟨K3,(k+cnT (.sl K27) aB,())⟩],[⟨K31,(mkT txt (.sl K27) aB k,())⟩]⟩) ?_ rfl
 have hlen:List.length aB<=4611686018427387904:=hL.1
 refine hI (mkR txt K27) (cnR K27) (eZ K27) aB k 4611686018427387904 h0 h1 (fun i k ys=>(k,((i:Int),ys))) (fun i hi ys k hy ha hk hB aA a rec=>?_) (fun aA a rec=>?_)
 ·have hb:i<9223372036854775807:=by omega
  have hx:=hL.2 i aB[i] (bP hi)
  generalize aB[i]=x at*
  have g0:=jJ K27 x hk
  have g1:=jK K27 x hB
  have gw:=eO g0 g1
  have f0:=mk191 x.1 (sR K27 x k 0) (g0 0) (g1 1) hx.1 n (by omega)
  rw[show(sR K27 x k 0)+cnT (.sl K163) x.1=(sR K27 x k 1)from rfl] at f0
  have f1:=mk192 x.2.1 (sR K27 x k 1) (g0 1) (g1 2) hx.2.1 n (by omega)
  rw[show(sR K27 x k 1)+cnT (.sl K165) x.2.1=(sR K27 x k 2)from rfl] at f1
  have hy2:i<ys.length:=by rw[hy];exact hi
  show c280_2 (aI p n) aA rec ((sR K27 x k 0),((i:Int),ys))=rec (k+cnR K27 x,(((i+1:Nat):Int),ys.set i (mkR txt K27 x k)))
  rw[<- fS K27 x k];unfold c280_2;dsimp only;rw[aD hb]
  have a0:=fA hy2 (eY K27 1 (mkR txt K27 x k) x)
  have a1:=fA hy2 (eY K27 2 (mkR txt K27 x k) x)
  refine ql hy2 ?_
  refine qz ?_
  refine(aO ha).trans ?_
  refine(aO ha).trans ?_
  refine(aO ha).trans ?_
  refine(dD f0 _).trans ?_
  refine(aO ha).trans ?_
  refine(d4 (List.set ys i (eY K27 1 (mkR txt K27 x k) x)) kR).trans ?_
  refine qz ?_
  refine(aO a0).trans ?_
  refine(aO a0).trans ?_
  refine(aO a0).trans ?_
  refine(dD f1 _).trans ?_
  refine(aO a0).trans ?_
  refine(d4 (List.set ys i (eY K27 2 (mkR txt K27 x k) x)) fZ).trans ?_
  first | done | rfl
 ·show c280_2 (aI p n) aA rec (k+cnT (.sl K27) aB,((aB.length:Int),mkT txt (.sl K27) aB k))=_
  have hlm:List.length (mkT txt (.sl K27) aB k)=List.length aB:=bO _ _
  unfold c280_2;simp only[hlm,bR,cond_false]
theorem hd281(aB:List (Row K27))(k:Int)(h0:0<=k)(h1:k+cnT (.sl K27) aB<=4611686018427387904)(hL:LmT (.sl K27) aB):Ran p 3 281 [vf K31 (mkT txt (.sl K27) aB k,()), vf K3 (k,())] (rO K3 (k+cnT (.sl K27) aB,())):=go281 fun n hn=>by
 refine Ev.eq (fun aA=>by unfold T281;rfl) ?_
 refine It.ev (c:=fun aA (_:Unit)=>c281_2 (aI p n) aA (mkT txt (.sl K27) aB k)) (i:=()) (r:=fun _=>rV K3 (k+cnT (.sl K27) aB,())) ?_ rfl
 have hlen:List.length aB<=4611686018427387904:=hL.1
 refine hS (mkR txt K27) (cnR K27) (eZ K27) aB k 4611686018427387904 h0 h1 (fun i k=>(k,(i:Int))) (fun i hi q hi2 ha hk hB aA a rec=>?_) (fun aA a rec=>?_)
 ·have hb:i<9223372036854775807:=by omega
  have hx:=hL.2 i aB[i] (bP hi)
  generalize aB[i]=x at*
  have g0:=jJ K27 x hk
  have g1:=jK K27 x hB
  have gw:=eO g0 g1
  have f0:=hd199 x.1 (sR K27 x q 0) (g0 0) (g1 1) hx.1 n (by omega)
  rw[show(sR K27 x q 0)+cnT (.sl K163) x.1=(sR K27 x q 1)from rfl] at f0
  have f1:=hd200 x.2.1 (sR K27 x q 1) (g0 1) (g1 2) hx.2.1 n (by omega)
  rw[show(sR K27 x q 1)+cnT (.sl K165) x.2.1=(sR K27 x q 2)from rfl] at f1
  show c281_2 (aI p n) aA (mkT txt (.sl K27) aB k) rec ((sR K27 x q 0),(i:Int))=rec (q+cnR K27 x,((i+1:Nat):Int))
  replace hi2:i<List.length (mkT txt (.sl K27) aB k):=hi2
  replace ha:at? (mkT txt (.sl K27) aB k) i=some (mkR txt K27 x q):=ha
  generalize mkT txt (.sl K27) aB k=L at*
  rw[<- fS K27 x q];unfold c281_2;dsimp only;rw[aD hb]
  refine ql hi2 ?_
  refine qz ?_
  refine(aO ha).trans ?_
  refine(aR f0 _).trans ?_
  refine qF (CE g0 1) ?_
  refine qz ?_
  refine(aO ha).trans ?_
  refine(aR f1 _).trans ?_
  refine qF (CE g0 2) ?_
  first | done | rfl
 ·show c281_2 (aI p n) aA (mkT txt (.sl K27) aB k) rec (k+cnT (.sl K27) aB,((List.length (mkT txt (.sl K27) aB k):Nat):Int))=_
  unfold c281_2;simp only[bR,cond_false]
theorem mk186(a0:Row K33)(k:Int)(h0:0<=k)(h1:k+cnS K33 a0<=4611686018427387904)(hL:LmR K33 a0):Ran p 4 186 [.own true ⟨K33,a0⟩, vf K3 (k,())] ⟨[⟨K3,(k+cnS K33 a0,())⟩],[⟨K33,mkS txt K33 a0 k⟩]⟩:=go186 fun n hn=>Ev.now fun aA=>by
 have hc:cnS K33 a0=(cnT (.sl K27) a0.2.2.1+0):=rfl
 rw[hc] at h1 ⊢
 have n2:=c9 (.sl K27) a0.2.2.1
 have f0:=mk280 a0.2.2.1 (k) (by omega) (by omega) (show LmT (.sl K27) a0.2.2.1 from hL.2.2.1) n (by omega)
 unfold T186
 refine(dD f0 _).trans ?_
 rw[show k+(cnT (.sl K27) a0.2.2.1+0)=k+cnT (.sl K27) a0.2.2.1 by omega]
 first | done | rfl
theorem hd195(a0:Row K33)(k:Int)(h0:0<=k)(h1:k+cnS K33 a0<=4611686018427387904)(hL:LmR K33 a0):Ran p 4 195 [va K33 (mkS txt K33 a0 k), vf K3 (k,())] (rO K3 (k+cnS K33 a0,())):=go195 fun n hn=>Ev.now fun aA=>by
 have hc:cnS K33 a0=(cnT (.sl K27) a0.2.2.1+0):=rfl
 rw[hc] at h1 ⊢
 have n2:=c9 (.sl K27) a0.2.2.1
 have f0:=hd281 a0.2.2.1 (k) (by omega) (by omega) (show LmT (.sl K27) a0.2.2.1 from hL.2.2.1) n (by omega)
 unfold T195
 refine(aR f0 _).trans ?_
 refine qN (show ¬ (k+cnT (.sl K27) a0.2.2.1<0) by omega) ?_
 rw[show k+(cnT (.sl K27) a0.2.2.1+0)=k+cnT (.sl K27) a0.2.2.1 by omega]
 first | done | rfl
theorem mk54(a0:Row K38)(k:Int)(h0:0<=k)(h1:k+cnS K38 a0<=4611686018427387904)(hL:LmR K38 a0):Ran p 5 54 [.own true ⟨K38,a0⟩, vf K3 (k,())] ⟨[⟨K3,(k+cnS K38 a0,())⟩],[⟨K38,mkS txt K38 a0 k⟩]⟩:=go54 fun n hn=>Ev.now fun aA=>by
 have hc:cnS K38 a0=(cnT (.sl K163) a0.2.2.1+(cnT (.sl K165) a0.2.2.2.1+(cnT (.sl K3) a0.2.2.2.2.1+(cnT (.sl K27) a0.2.2.2.2.2.2.2.2.1+(cnT (.sl K3) a0.2.2.2.2.2.2.2.2.2.1+(cnT (.sl K3) a0.2.2.2.2.2.2.2.2.2.2.1+(cnT (.sl K28) a0.2.2.2.2.2.2.2.2.2.2.2.1+(cnT (.sl K141) a0.2.2.2.2.2.2.2.2.2.2.2.2.2.2.1+(cnT (.sl K147) a0.2.2.2.2.2.2.2.2.2.2.2.2.2.2.2.2.2.2.1+0))))))))):=rfl
 rw[hc] at h1 ⊢
 have n2:=c9 (.sl K163) a0.2.2.1
 have n3:=c9 (.sl K165) a0.2.2.2.1
 have n4:=c9 (.sl K3) a0.2.2.2.2.1
 have n8:=c9 (.sl K27) a0.2.2.2.2.2.2.2.2.1
 have n9:=c9 (.sl K3) a0.2.2.2.2.2.2.2.2.2.1
 have n10:=c9 (.sl K3) a0.2.2.2.2.2.2.2.2.2.2.1
 have n11:=c9 (.sl K28) a0.2.2.2.2.2.2.2.2.2.2.2.1
 have n14:=c9 (.sl K141) a0.2.2.2.2.2.2.2.2.2.2.2.2.2.2.1
 have n18:=c9 (.sl K147) a0.2.2.2.2.2.2.2.2.2.2.2.2.2.2.2.2.2.2.1
 have c0:cnS K27 (a0.2.2.1,a0.2.2.2.1,())=(cnT (.sl K163) a0.2.2.1+(cnT (.sl K165) a0.2.2.2.1+0)):=rfl
 have f0:=mk184 (a0.2.2.1,a0.2.2.2.1,()) (k) (by omega) (by rw[c0];omega) (show LmR K27 (a0.2.2.1,a0.2.2.2.1,())from⟨hL.2.2.1,hL.2.2.2.1,trivial⟩) n (by omega)
 simp only[c0,Int.add_zero,<- Int.add_assoc] at f0
 have c1:cnS K30 (a0.2.2.2.2.1,a0.2.2.2.2.2.1,())=(cnT (.sl K3) a0.2.2.2.2.1+0):=rfl
 have f1:=mk185 (a0.2.2.2.2.1,a0.2.2.2.2.2.1,()) (k+cnT (.sl K163) a0.2.2.1+cnT (.sl K165) a0.2.2.2.1) (by omega) (by rw[c1];omega) (show LmR K30 (a0.2.2.2.2.1,a0.2.2.2.2.2.1,())from⟨hL.2.2.2.2.1,hL.2.2.2.2.2.1,trivial⟩) n (by omega)
 simp only[c1,Int.add_zero,<- Int.add_assoc] at f1
 have c2:cnS K33 (a0.2.2.2.2.2.2.1,a0.2.2.2.2.2.2.2.1,a0.2.2.2.2.2.2.2.2.1,())=(cnT (.sl K27) a0.2.2.2.2.2.2.2.2.1+0):=rfl
 have f2:=mk186 (a0.2.2.2.2.2.2.1,a0.2.2.2.2.2.2.2.1,a0.2.2.2.2.2.2.2.2.1,()) (k+cnT (.sl K163) a0.2.2.1+cnT (.sl K165) a0.2.2.2.1+cnT (.sl K3) a0.2.2.2.2.1) (by omega) (by rw[c2];omega) (show LmR K33 (a0.2.2.2.2.2.2.1,a0.2.2.2.2.2.2.2.1,a0.2.2.2.2.2.2.2.2.1,())from⟨hL.2.2.2.2.2.2.1,hL.2.2.2.2.2.2.2.1,hL.2.2.2.2.2.2.2.2.1,trivial⟩) n (by omega)
 simp only[c2,Int.add_zero,<- Int.add_assoc] at f2
 have f3:=mk45 a0.2.2.2.2.2.2.2.2.2.1 (k+cnT (.sl K163) a0.2.2.1+cnT (.sl K165) a0.2.2.2.1+cnT (.sl K3) a0.2.2.2.2.1+cnT (.sl K27) a0.2.2.2.2.2.2.2.2.1) (by omega) (by omega) (show LmT (.sl K3) a0.2.2.2.2.2.2.2.2.2.1 from hL.2.2.2.2.2.2.2.2.2.1) n (by omega)
 have f4:=mk45 a0.2.2.2.2.2.2.2.2.2.2.1 (k+cnT (.sl K163) a0.2.2.1+cnT (.sl K165) a0.2.2.2.1+cnT (.sl K3) a0.2.2.2.2.1+cnT (.sl K27) a0.2.2.2.2.2.2.2.2.1+cnT (.sl K3) a0.2.2.2.2.2.2.2.2.2.1) (by omega) (by omega) (show LmT (.sl K3) a0.2.2.2.2.2.2.2.2.2.2.1 from hL.2.2.2.2.2.2.2.2.2.2.1) n (by omega)
 have f5:=mk187 a0.2.2.2.2.2.2.2.2.2.2.2.1 (k+cnT (.sl K163) a0.2.2.1+cnT (.sl K165) a0.2.2.2.1+cnT (.sl K3) a0.2.2.2.2.1+cnT (.sl K27) a0.2.2.2.2.2.2.2.2.1+cnT (.sl K3) a0.2.2.2.2.2.2.2.2.2.1+cnT (.sl K3) a0.2.2.2.2.2.2.2.2.2.2.1) (by omega) (by omega) (show LmT (.sl K28) a0.2.2.2.2.2.2.2.2.2.2.2.1 from hL.2.2.2.2.2.2.2.2.2.2.2.1) n (by omega)
 have f6:=mk188 a0.2.2.2.2.2.2.2.2.2.2.2.2.2.2.1 (k+cnT (.sl K163) a0.2.2.1+cnT (.sl K165) a0.2.2.2.1+cnT (.sl K3) a0.2.2.2.2.1+cnT (.sl K27) a0.2.2.2.2.2.2.2.2.1+cnT (.sl K3) a0.2.2.2.2.2.2.2.2.2.1+cnT (.sl K3) a0.2.2.2.2.2.2.2.2.2.2.1+cnT (.sl K28) a0.2.2.2.2.2.2.2.2.2.2.2.1) (by omega) (by omega) (show LmT (.sl K141) a0.2.2.2.2.2.2.2.2.2.2.2.2.2.2.1 from hL.2.2.2.2.2.2.2.2.2.2.2.2.2.2.1) n (by omega)
 have f7:=mk189 a0.2.2.2.2.2.2.2.2.2.2.2.2.2.2.2.2.2.2.1 (k+cnT (.sl K163) a0.2.2.1+cnT (.sl K165) a0.2.2.2.1+cnT (.sl K3) a0.2.2.2.2.1+cnT (.sl K27) a0.2.2.2.2.2.2.2.2.1+cnT (.sl K3) a0.2.2.2.2.2.2.2.2.2.1+cnT (.sl K3) a0.2.2.2.2.2.2.2.2.2.2.1+cnT (.sl K28) a0.2.2.2.2.2.2.2.2.2.2.2.1+cnT (.sl K141) a0.2.2.2.2.2.2.2.2.2.2.2.2.2.2.1) (by omega) (by omega) (show LmT (.sl K147) a0.2.2.2.2.2.2.2.2.2.2.2.2.2.2.2.2.2.2.1 from hL.2.2.2.2.2.2.2.2.2.2.2.2.2.2.2.2.2.2.1) n (by omega)
 unfold T54
 refine(dD f0 _).trans ?_
 refine(dD f1 _).trans ?_
 refine(dD f2 _).trans ?_
 refine(dD f3 _).trans ?_
 refine(dD f4 _).trans ?_
 refine(dD f5 _).trans ?_
 refine(dD f6 _).trans ?_
 refine(dD f7 _).trans ?_
 rw[show k+(cnT (.sl K163) a0.2.2.1+(cnT (.sl K165) a0.2.2.2.1+(cnT (.sl K3) a0.2.2.2.2.1+(cnT (.sl K27) a0.2.2.2.2.2.2.2.2.1+(cnT (.sl K3) a0.2.2.2.2.2.2.2.2.2.1+(cnT (.sl K3) a0.2.2.2.2.2.2.2.2.2.2.1+(cnT (.sl K28) a0.2.2.2.2.2.2.2.2.2.2.2.1+(cnT (.sl K141) a0.2.2.2.2.2.2.2.2.2.2.2.2.2.2.1+(cnT (.sl K147) a0.2.2.2.2.2.2.2.2.2.2.2.2.2.2.2.2.2.2.1+0)))))))))=k+cnT (.sl K163) a0.2.2.1+cnT (.sl K165) a0.2.2.2.1+cnT (.sl K3) a0.2.2.2.2.1+cnT (.sl K27) a0.2.2.2.2.2.2.2.2.1+cnT (.sl K3) a0.2.2.2.2.2.2.2.2.2.1+cnT (.sl K3) a0.2.2.2.2.2.2.2.2.2.2.1+cnT (.sl K28) a0.2.2.2.2.2.2.2.2.2.2.2.1+cnT (.sl K141) a0.2.2.2.2.2.2.2.2.2.2.2.2.2.2.1+cnT (.sl K147) a0.2.2.2.2.2.2.2.2.2.2.2.2.2.2.2.2.2.2.1 by omega]
 first | done | rfl
theorem hd57(a0:Row K38)(k:Int)(h0:0<=k)(h1:k+cnS K38 a0<=4611686018427387904)(hL:LmR K38 a0):Ran p 5 57 [va K38 (mkS txt K38 a0 k), vf K3 (k,())] (rO K3 (k+cnS K38 a0,())):=go57 fun n hn=>Ev.now fun aA=>by
 have hc:cnS K38 a0=(cnT (.sl K163) a0.2.2.1+(cnT (.sl K165) a0.2.2.2.1+(cnT (.sl K3) a0.2.2.2.2.1+(cnT (.sl K27) a0.2.2.2.2.2.2.2.2.1+(cnT (.sl K3) a0.2.2.2.2.2.2.2.2.2.1+(cnT (.sl K3) a0.2.2.2.2.2.2.2.2.2.2.1+(cnT (.sl K28) a0.2.2.2.2.2.2.2.2.2.2.2.1+(cnT (.sl K141) a0.2.2.2.2.2.2.2.2.2.2.2.2.2.2.1+(cnT (.sl K147) a0.2.2.2.2.2.2.2.2.2.2.2.2.2.2.2.2.2.2.1+0))))))))):=rfl
 rw[hc] at h1 ⊢
 have n2:=c9 (.sl K163) a0.2.2.1
 have n3:=c9 (.sl K165) a0.2.2.2.1
 have n4:=c9 (.sl K3) a0.2.2.2.2.1
 have n8:=c9 (.sl K27) a0.2.2.2.2.2.2.2.2.1
 have n9:=c9 (.sl K3) a0.2.2.2.2.2.2.2.2.2.1
 have n10:=c9 (.sl K3) a0.2.2.2.2.2.2.2.2.2.2.1
 have n11:=c9 (.sl K28) a0.2.2.2.2.2.2.2.2.2.2.2.1
 have n14:=c9 (.sl K141) a0.2.2.2.2.2.2.2.2.2.2.2.2.2.2.1
 have n18:=c9 (.sl K147) a0.2.2.2.2.2.2.2.2.2.2.2.2.2.2.2.2.2.2.1
 have c0:cnS K27 (a0.2.2.1,a0.2.2.2.1,())=(cnT (.sl K163) a0.2.2.1+(cnT (.sl K165) a0.2.2.2.1+0)):=rfl
 have f0:=hd193 (a0.2.2.1,a0.2.2.2.1,()) (k) (by omega) (by rw[c0];omega) (show LmR K27 (a0.2.2.1,a0.2.2.2.1,())from⟨hL.2.2.1,hL.2.2.2.1,trivial⟩) n (by omega)
 simp only[c0,Int.add_zero,<- Int.add_assoc] at f0
 have c1:cnS K30 (a0.2.2.2.2.1,a0.2.2.2.2.2.1,())=(cnT (.sl K3) a0.2.2.2.2.1+0):=rfl
 have f1:=hd194 (a0.2.2.2.2.1,a0.2.2.2.2.2.1,()) (k+cnT (.sl K163) a0.2.2.1+cnT (.sl K165) a0.2.2.2.1) (by omega) (by rw[c1];omega) (show LmR K30 (a0.2.2.2.2.1,a0.2.2.2.2.2.1,())from⟨hL.2.2.2.2.1,hL.2.2.2.2.2.1,trivial⟩) n (by omega)
 simp only[c1,Int.add_zero,<- Int.add_assoc] at f1
 have c2:cnS K33 (a0.2.2.2.2.2.2.1,a0.2.2.2.2.2.2.2.1,a0.2.2.2.2.2.2.2.2.1,())=(cnT (.sl K27) a0.2.2.2.2.2.2.2.2.1+0):=rfl
 have f2:=hd195 (a0.2.2.2.2.2.2.1,a0.2.2.2.2.2.2.2.1,a0.2.2.2.2.2.2.2.2.1,()) (k+cnT (.sl K163) a0.2.2.1+cnT (.sl K165) a0.2.2.2.1+cnT (.sl K3) a0.2.2.2.2.1) (by omega) (by rw[c2];omega) (show LmR K33 (a0.2.2.2.2.2.2.1,a0.2.2.2.2.2.2.2.1,a0.2.2.2.2.2.2.2.2.1,())from⟨hL.2.2.2.2.2.2.1,hL.2.2.2.2.2.2.2.1,hL.2.2.2.2.2.2.2.2.1,trivial⟩) n (by omega)
 simp only[c2,Int.add_zero,<- Int.add_assoc] at f2
 have f3:=hd79 a0.2.2.2.2.2.2.2.2.2.1 (k+cnT (.sl K163) a0.2.2.1+cnT (.sl K165) a0.2.2.2.1+cnT (.sl K3) a0.2.2.2.2.1+cnT (.sl K27) a0.2.2.2.2.2.2.2.2.1) (by omega) (by omega) (show LmT (.sl K3) a0.2.2.2.2.2.2.2.2.2.1 from hL.2.2.2.2.2.2.2.2.2.1) n (by omega)
 have f4:=hd79 a0.2.2.2.2.2.2.2.2.2.2.1 (k+cnT (.sl K163) a0.2.2.1+cnT (.sl K165) a0.2.2.2.1+cnT (.sl K3) a0.2.2.2.2.1+cnT (.sl K27) a0.2.2.2.2.2.2.2.2.1+cnT (.sl K3) a0.2.2.2.2.2.2.2.2.2.1) (by omega) (by omega) (show LmT (.sl K3) a0.2.2.2.2.2.2.2.2.2.2.1 from hL.2.2.2.2.2.2.2.2.2.2.1) n (by omega)
 have f5:=hd196 a0.2.2.2.2.2.2.2.2.2.2.2.1 (k+cnT (.sl K163) a0.2.2.1+cnT (.sl K165) a0.2.2.2.1+cnT (.sl K3) a0.2.2.2.2.1+cnT (.sl K27) a0.2.2.2.2.2.2.2.2.1+cnT (.sl K3) a0.2.2.2.2.2.2.2.2.2.1+cnT (.sl K3) a0.2.2.2.2.2.2.2.2.2.2.1) (by omega) (by omega) (show LmT (.sl K28) a0.2.2.2.2.2.2.2.2.2.2.2.1 from hL.2.2.2.2.2.2.2.2.2.2.2.1) n (by omega)
 have f6:=hd197 a0.2.2.2.2.2.2.2.2.2.2.2.2.2.2.1 (k+cnT (.sl K163) a0.2.2.1+cnT (.sl K165) a0.2.2.2.1+cnT (.sl K3) a0.2.2.2.2.1+cnT (.sl K27) a0.2.2.2.2.2.2.2.2.1+cnT (.sl K3) a0.2.2.2.2.2.2.2.2.2.1+cnT (.sl K3) a0.2.2.2.2.2.2.2.2.2.2.1+cnT (.sl K28) a0.2.2.2.2.2.2.2.2.2.2.2.1) (by omega) (by omega) (show LmT (.sl K141) a0.2.2.2.2.2.2.2.2.2.2.2.2.2.2.1 from hL.2.2.2.2.2.2.2.2.2.2.2.2.2.2.1) n (by omega)
 have f7:=hd198 a0.2.2.2.2.2.2.2.2.2.2.2.2.2.2.2.2.2.2.1 (k+cnT (.sl K163) a0.2.2.1+cnT (.sl K165) a0.2.2.2.1+cnT (.sl K3) a0.2.2.2.2.1+cnT (.sl K27) a0.2.2.2.2.2.2.2.2.1+cnT (.sl K3) a0.2.2.2.2.2.2.2.2.2.1+cnT (.sl K3) a0.2.2.2.2.2.2.2.2.2.2.1+cnT (.sl K28) a0.2.2.2.2.2.2.2.2.2.2.2.1+cnT (.sl K141) a0.2.2.2.2.2.2.2.2.2.2.2.2.2.2.1) (by omega) (by omega) (show LmT (.sl K147) a0.2.2.2.2.2.2.2.2.2.2.2.2.2.2.2.2.2.2.1 from hL.2.2.2.2.2.2.2.2.2.2.2.2.2.2.2.2.2.2.1) n (by omega)
 unfold T57
 refine(aR f0 _).trans ?_
 refine qN (show ¬ (k+cnT (.sl K163) a0.2.2.1+cnT (.sl K165) a0.2.2.2.1<0) by omega) ?_
 refine(aR f1 _).trans ?_
 refine qN (show ¬ (k+cnT (.sl K163) a0.2.2.1+cnT (.sl K165) a0.2.2.2.1+cnT (.sl K3) a0.2.2.2.2.1<0) by omega) ?_
 refine(aR f2 _).trans ?_
 refine qN (show ¬ (k+cnT (.sl K163) a0.2.2.1+cnT (.sl K165) a0.2.2.2.1+cnT (.sl K3) a0.2.2.2.2.1+cnT (.sl K27) a0.2.2.2.2.2.2.2.2.1<0) by omega) ?_
 refine(aR f3 _).trans ?_
 refine qN (show ¬ (k+cnT (.sl K163) a0.2.2.1+cnT (.sl K165) a0.2.2.2.1+cnT (.sl K3) a0.2.2.2.2.1+cnT (.sl K27) a0.2.2.2.2.2.2.2.2.1+cnT (.sl K3) a0.2.2.2.2.2.2.2.2.2.1<0) by omega) ?_
 refine(aR f4 _).trans ?_
 refine qN (show ¬ (k+cnT (.sl K163) a0.2.2.1+cnT (.sl K165) a0.2.2.2.1+cnT (.sl K3) a0.2.2.2.2.1+cnT (.sl K27) a0.2.2.2.2.2.2.2.2.1+cnT (.sl K3) a0.2.2.2.2.2.2.2.2.2.1+cnT (.sl K3) a0.2.2.2.2.2.2.2.2.2.2.1<0) by omega) ?_
 refine(aR f5 _).trans ?_
 refine qN (show ¬ (k+cnT (.sl K163) a0.2.2.1+cnT (.sl K165) a0.2.2.2.1+cnT (.sl K3) a0.2.2.2.2.1+cnT (.sl K27) a0.2.2.2.2.2.2.2.2.1+cnT (.sl K3) a0.2.2.2.2.2.2.2.2.2.1+cnT (.sl K3) a0.2.2.2.2.2.2.2.2.2.2.1+cnT (.sl K28) a0.2.2.2.2.2.2.2.2.2.2.2.1<0) by omega) ?_
 refine(aR f6 _).trans ?_
 refine qN (show ¬ (k+cnT (.sl K163) a0.2.2.1+cnT (.sl K165) a0.2.2.2.1+cnT (.sl K3) a0.2.2.2.2.1+cnT (.sl K27) a0.2.2.2.2.2.2.2.2.1+cnT (.sl K3) a0.2.2.2.2.2.2.2.2.2.1+cnT (.sl K3) a0.2.2.2.2.2.2.2.2.2.2.1+cnT (.sl K28) a0.2.2.2.2.2.2.2.2.2.2.2.1+cnT (.sl K141) a0.2.2.2.2.2.2.2.2.2.2.2.2.2.2.1<0) by omega) ?_
 refine(aR f7 _).trans ?_
 refine qN (show ¬ (k+cnT (.sl K163) a0.2.2.1+cnT (.sl K165) a0.2.2.2.1+cnT (.sl K3) a0.2.2.2.2.1+cnT (.sl K27) a0.2.2.2.2.2.2.2.2.1+cnT (.sl K3) a0.2.2.2.2.2.2.2.2.2.1+cnT (.sl K3) a0.2.2.2.2.2.2.2.2.2.2.1+cnT (.sl K28) a0.2.2.2.2.2.2.2.2.2.2.2.1+cnT (.sl K141) a0.2.2.2.2.2.2.2.2.2.2.2.2.2.2.1+cnT (.sl K147) a0.2.2.2.2.2.2.2.2.2.2.2.2.2.2.2.2.2.2.1<0) by omega) ?_
 rw[show k+(cnT (.sl K163) a0.2.2.1+(cnT (.sl K165) a0.2.2.2.1+(cnT (.sl K3) a0.2.2.2.2.1+(cnT (.sl K27) a0.2.2.2.2.2.2.2.2.1+(cnT (.sl K3) a0.2.2.2.2.2.2.2.2.2.1+(cnT (.sl K3) a0.2.2.2.2.2.2.2.2.2.2.1+(cnT (.sl K28) a0.2.2.2.2.2.2.2.2.2.2.2.1+(cnT (.sl K141) a0.2.2.2.2.2.2.2.2.2.2.2.2.2.2.1+(cnT (.sl K147) a0.2.2.2.2.2.2.2.2.2.2.2.2.2.2.2.2.2.2.1+0)))))))))=k+cnT (.sl K163) a0.2.2.1+cnT (.sl K165) a0.2.2.2.1+cnT (.sl K3) a0.2.2.2.2.1+cnT (.sl K27) a0.2.2.2.2.2.2.2.2.1+cnT (.sl K3) a0.2.2.2.2.2.2.2.2.2.1+cnT (.sl K3) a0.2.2.2.2.2.2.2.2.2.2.1+cnT (.sl K28) a0.2.2.2.2.2.2.2.2.2.2.2.1+cnT (.sl K141) a0.2.2.2.2.2.2.2.2.2.2.2.2.2.2.1+cnT (.sl K147) a0.2.2.2.2.2.2.2.2.2.2.2.2.2.2.2.2.2.2.1 by omega]
 first | done | rfl
end Go.Abs.Xz
