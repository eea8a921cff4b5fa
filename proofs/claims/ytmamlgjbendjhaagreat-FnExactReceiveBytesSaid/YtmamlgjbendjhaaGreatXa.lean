/- What the functions of this program answer, part a. -/
import Derived.Test.YtmamlgjbendjhaaGreatW3
import Derived.Test.YtmamlgjbendjhaaGreatXr0
import Derived.Test.YtmamlgjbendjhaaGreatXr1
set_option linter.unusedVariables false
set_option linter.unusedSimpArgs false
open Go.IntKind (i64)
namespace Go.Abs.Xz
open Go Go.Abs
theorem to40(aB:List (Row K3))(hs:Small K28 (aB,())):Ran p 1 40 [vf K28 (aB,())] (rO K28 (aB,())):=go40 fun n hn=>by
 have hl:List.length aB<=1048576:=(ssl hs).1
 refine Ev.eq (fun aA=>by unfold T40;exact kE (Int.natCast_nonneg _) (Int.ofNat_le.2 (Nat.le_trans hl (by decide))) rfl) ?_
 refine It.ev (c:=fun aA (_:Unit)=>c40_3 (aI p n) aA aB) (i:=()) (r:=fun _=>rV K28 (aB,())) ?_ rfl
 refine mA (α:=Row K3) aB (eA K3) (fun i ys=>((i:Int),ys)) (fun i hi ys hy aA a rec=>?_) (fun aA a rec=>?_)
 ·have hy':i<ys.length:=by rw[hy];exact hi
  have hi1:i<List.length (α:=Row K3) aB:=hi
  have hb:i<9223372036854775807:=Nat.lt_of_lt_of_le hi (Nat.le_trans hl (by decide))
  unfold c40_3;simp only[fJ hi1,fI,Int.toNat_natCast,bP hi1,bP hy',Option.bind_some,cond_true,aD hb]<;>rfl
 ·unfold c40_3;simp only[bR,cond_false]<;>rfl
theorem eq43(aB:List (Row K3))(hs:LmR K28 (aB,())):Ran p 1 43 [vf K28 (aB,()), vf K28 (aB,())] (rO K4 (true,())):=go43 fun n hn=>by
 have hl:List.length aB<=4611686018427387904:=(lsl hs).1
 refine Ev.eq (fun aA=>by unfold T43;simp only[bne_self_eq_false,cond_false];rfl) ?_
 refine It.ev (c:=fun aA (_:Unit)=>c43_4 (aI p n) aA aB aB) (i:=()) (r:=fun _=>rV K4 (true,())) ?_ rfl
 refine kV aB.length (fun i=>(i:Int)) (fun i hi aA a rec=>?_) (fun aA a rec=>?_)
 ·skip
  unfold c43_4;simp only[fJ hi,fI,Int.toNat_natCast,bP hi,Option.bind_some,cond_true,cond_false,bne_self_eq_false,Bool.not_true,aD (show i<9223372036854775807 by omega)]
 ·unfold c43_4;simp only[bR,cond_false]
theorem to59(aB:List (Row K5))(hs:Small K22 (aB,())):Ran p 1 59 [vf K22 (aB,())] (rO K22 (aB,())):=go59 fun n hn=>by
 have hl:List.length aB<=1048576:=(ssl hs).1
 refine Ev.eq (fun aA=>by unfold T59;exact kE (Int.natCast_nonneg _) (Int.ofNat_le.2 (Nat.le_trans hl (by decide))) rfl) ?_
 refine It.ev (c:=fun aA (_:Unit)=>c59_3 (aI p n) aA aB) (i:=()) (r:=fun _=>rV K22 (aB,())) ?_ rfl
 refine mA (α:=Row K5) aB (eA K5) (fun i ys=>((i:Int),ys)) (fun i hi ys hy aA a rec=>?_) (fun aA a rec=>?_)
 ·have hy':i<ys.length:=by rw[hy];exact hi
  have hi1:i<List.length (α:=Row K5) aB:=hi
  have hb:i<9223372036854775807:=Nat.lt_of_lt_of_le hi (Nat.le_trans hl (by decide))
  unfold c59_3;simp only[fJ hi1,fI,Int.toNat_natCast,bP hi1,bP hy',Option.bind_some,cond_true,aD hb]<;>rfl
 ·unfold c59_3;simp only[bR,cond_false]<;>rfl
theorem eq61(aB:List (Row K5))(hs:LmR K22 (aB,())):Ran p 1 61 [vf K22 (aB,()), vf K22 (aB,())] (rO K4 (true,())):=go61 fun n hn=>by
 have hl:List.length aB<=4611686018427387904:=(lsl hs).1
 refine Ev.eq (fun aA=>by unfold T61;simp only[bne_self_eq_false,cond_false];rfl) ?_
 refine It.ev (c:=fun aA (_:Unit)=>c61_4 (aI p n) aA aB aB) (i:=()) (r:=fun _=>rV K4 (true,())) ?_ rfl
 refine kV aB.length (fun i=>(i:Int)) (fun i hi aA a rec=>?_) (fun aA a rec=>?_)
 ·skip
  unfold c61_4;simp only[fJ hi,fI,Int.toNat_natCast,bP hi,Option.bind_some,cond_true,cond_false,bne_self_eq_false,Bool.not_true,aD (show i<9223372036854775807 by omega)]
 ·unfold c61_4;simp only[bR,cond_false]
theorem sz165(aB:List (Row K3))(left:Int)(hok:eB K28 (aB,()))(h0:0<=left)(h1:left<=1048576):∃ r:Int,Ran p 1 165 [vf K28 (aB,()), vf K3 (left,())] (rO K3 (r,()))/\(0<=r->r+szR K28 (aB,())<=left/\Small K28 (aB,())):=by
 have hl:(aB.length:Int)<=9223372036854775807:=by have:=(rsl hok).1;exact Int.ofNat_le.2 this
 have hw:i64.wrap (left - (aB.length:Int))=left - (aB.length:Int):=jB (by omega) (by omega)
 by_cases hn:left - (aB.length:Int)<0
 ·exact⟨-1,go165 fun n hn'=>Ev.now fun aA=>by unfold T165;rw[hw];exact cB hn,by omega⟩
 ·refine⟨left - (aB.length:Int),go165 fun n hn'=>Ev.now fun aA=>by unfold T165;rw[hw];exact aW hn,fun _=>⟨by show _+((aB.length:Int)+cJ (szR K3) aB+0)<=left;rw[kX (c:=szR K3) (fun x=>rfl) aB];omega,ssm (Int.ofNat_le.1 (by show _<=(1048576:Int);omega)) fun i r _=>?_⟩⟩
  exact(smk trivial trivial)
theorem sz167(aB:List (Row K295))(left:Int)(hok:eB K94 (aB,()))(h0:0<=left)(h1:left<=1048576):∃ r:Int,Ran p 1 167 [vf K94 (aB,()), vf K3 (left,())] (rO K3 (r,()))/\(0<=r->r+szR K94 (aB,())<=left/\Small K94 (aB,())):=by
 have hl:(aB.length:Int)<=9223372036854775807:=by have:=(rsl hok).1;exact Int.ofNat_le.2 this
 have hw:i64.wrap (left - (aB.length:Int))=left - (aB.length:Int):=jB (by omega) (by omega)
 by_cases hn:left - (aB.length:Int)<0
 ·exact⟨-1,go167 fun n hn'=>Ev.now fun aA=>by unfold T167;rw[hw];exact cB hn,by omega⟩
 ·refine⟨left - (aB.length:Int),go167 fun n hn'=>Ev.now fun aA=>by unfold T167;rw[hw];exact aW hn,fun _=>⟨by show _+((aB.length:Int)+cJ (szR K295) aB+0)<=left;rw[kX (c:=szR K295) (fun x=>rfl) aB];omega,ssm (Int.ofNat_le.1 (by show _<=(1048576:Int);omega)) fun i r _=>?_⟩⟩
  exact(smk trivial (smk trivial (smk trivial (smk trivial trivial))))
theorem sz168(aB:List (Row K297))(left:Int)(hok:eB K95 (aB,()))(h0:0<=left)(h1:left<=1048576):∃ r:Int,Ran p 1 168 [vf K95 (aB,()), vf K3 (left,())] (rO K3 (r,()))/\(0<=r->r+szR K95 (aB,())<=left/\Small K95 (aB,())):=by
 have hl:(aB.length:Int)<=9223372036854775807:=by have:=(rsl hok).1;exact Int.ofNat_le.2 this
 have hw:i64.wrap (left - (aB.length:Int))=left - (aB.length:Int):=jB (by omega) (by omega)
 by_cases hn:left - (aB.length:Int)<0
 ·exact⟨-1,go168 fun n hn'=>Ev.now fun aA=>by unfold T168;rw[hw];exact cB hn,by omega⟩
 ·refine⟨left - (aB.length:Int),go168 fun n hn'=>Ev.now fun aA=>by unfold T168;rw[hw];exact aW hn,fun _=>⟨by show _+((aB.length:Int)+cJ (szR K297) aB+0)<=left;rw[kX (c:=szR K297) (fun x=>rfl) aB];omega,ssm (Int.ofNat_le.1 (by show _<=(1048576:Int);omega)) fun i r _=>?_⟩⟩
  exact(smk trivial (smk trivial (smk trivial trivial)))
theorem sz283(aB:List (Row K332))(left:Int)(hok:eB K87 (aB,()))(h0:0<=left)(h1:left<=1048576):∃ r:Int,Ran p 1 283 [vf K87 (aB,()), vf K3 (left,())] (rO K3 (r,()))/\(0<=r->r+szR K87 (aB,())<=left/\Small K87 (aB,())):=by
 have hl:(aB.length:Int)<=9223372036854775807:=by have:=(rsl hok).1;exact Int.ofNat_le.2 this
 have hw:i64.wrap (left - (aB.length:Int))=left - (aB.length:Int):=jB (by omega) (by omega)
 by_cases hn:left - (aB.length:Int)<0
 ·exact⟨-1,go283 fun n hn'=>Ev.now fun aA=>by unfold T283;rw[hw];exact cB hn,by omega⟩
 ·refine⟨left - (aB.length:Int),go283 fun n hn'=>Ev.now fun aA=>by unfold T283;rw[hw];exact aW hn,fun _=>⟨by show _+((aB.length:Int)+cJ (szR K332) aB+0)<=left;rw[kX (c:=szR K332) (fun x=>rfl) aB];omega,ssm (Int.ofNat_le.1 (by show _<=(1048576:Int);omega)) fun i r _=>?_⟩⟩
  exact(smk trivial (smk trivial trivial))
theorem to288(a0:Row K295)(hs:Small K295 a0):Ran p 1 288 [va K295 a0] (rO K141 a0):=go288 fun n hn=>Ev.now fun aA=>by
 unfold T288;exact  rfl
theorem to289(a0:Row K297)(hs:Small K297 a0):Ran p 1 289 [va K297 a0] (rO K147 a0):=go289 fun n hn=>Ev.now fun aA=>by
 unfold T289;exact  rfl
theorem eq294(a0:Row K141)(hs:LmR K141 a0):Ran p 1 294 [va K141 a0, va K141 a0] (rO K4 (true,())):=go294 fun n hn=>Ev.now fun aA=>by
 unfold T294;simp only[bne_self_eq_false,beq_self_eq_true,gI,Bool.not_true,cond_false,cond_true]
theorem eq295(a0:Row K147)(hs:LmR K147 a0):Ran p 1 295 [va K147 a0, va K147 a0] (rO K4 (true,())):=go295 fun n hn=>Ev.now fun aA=>by
 unfold T295;simp only[bne_self_eq_false,beq_self_eq_true,gI,Bool.not_true,cond_false,cond_true]
theorem to341(a0:Row K332)(hs:Small K332 a0):Ran p 1 341 [va K332 a0] (rO K165 a0):=go341 fun n hn=>Ev.now fun aA=>by
 unfold T341;exact  rfl
theorem eq343(a0:Row K165)(hs:LmR K165 a0):Ran p 1 343 [va K165 a0, va K165 a0] (rO K4 (true,())):=go343 fun n hn=>Ev.now fun aA=>by
 unfold T343;simp only[bne_self_eq_false,beq_self_eq_true,gI,Bool.not_true,cond_false,cond_true]
theorem sz361(a0:Row K327)(left:Int)(hok:eB K327 a0)(h0:0<=left)(h1:left<=1048576):∃ r:Int,Ran p 1 361 [va K327 a0, vf K3 (left,())] (rO K3 (r,()))/\(0<=r->r+szR K327 a0<=left/\Small K327 a0):=by
 have hl:((ByteArray.size (vS a0.2.2.2.2.1):Nat):Int)<=9223372036854775807:=by have:=(rhd (rtl (rtl (rtl (rtl hok)))));exact Int.ofNat_le.2 this
 have hw:i64.wrap (left - ((ByteArray.size (vS a0.2.2.2.2.1):Nat):Int))=left - ((ByteArray.size (vS a0.2.2.2.2.1):Nat):Int):=jB (by omega) (by omega)
 by_cases hn:left - ((ByteArray.size (vS a0.2.2.2.2.1):Nat):Int)<0
 ·exact⟨-1,go361 fun n hn'=>Ev.now fun aA=>by unfold T361;rw[hw];exact cB hn,by omega⟩
 ·have hz:ByteArray.size (vS a0.2.2.2.2.1)<=aQ:=Int.ofNat_le.1 (by show((ByteArray.size (vS a0.2.2.2.2.1):Nat):Int)<=(1048576:Int);omega)
  exact⟨left - ((ByteArray.size (vS a0.2.2.2.2.1):Nat):Int),go361 fun n hn'=>Ev.now fun aA=>by unfold T361;rw[hw];exact aW hn,fun _=>⟨by show _+(0+(0+(0+(0+(((ByteArray.size (vS a0.2.2.2.2.1):Nat):Int)+0)))))<=left;omega,(smk trivial (smk trivial (smk trivial (smk trivial (smk hz trivial)))))⟩⟩
theorem to362(a0:Row K327)(hs:Small K327 a0):Ran p 1 362 [va K327 a0] (rO K161 a0):=go362 fun n hn=>Ev.now fun aA=>by
 unfold T362;exact  rfl
theorem eq363(a0:Row K161)(hs:LmR K161 a0):Ran p 1 363 [va K161 a0, va K161 a0] (rO K4 (true,())):=go363 fun n hn=>Ev.now fun aA=>by
 unfold T363;simp only[bne_self_eq_false,beq_self_eq_true,gI,Bool.not_true,cond_false,cond_true]
theorem eq60(aB:List (Row K22))(hs:LmR K62 (aB,())):Ran p 2 60 [vf K62 (aB,()), vf K62 (aB,())] (rO K4 (true,())):=go60 fun n hn=>by
 have hl:List.length aB<=4611686018427387904:=(lsl hs).1
 refine Ev.eq (fun aA=>by unfold T60;simp only[bne_self_eq_false,cond_false];rfl) ?_
 refine It.ev (c:=fun aA (_:Unit)=>c60_4 (aI p n) aA aB aB) (i:=()) (r:=fun _=>rV K4 (true,())) ?_ rfl
 refine kV aB.length (fun i=>(i:Int)) (fun i hi aA a rec=>?_) (fun aA a rec=>?_)
 ·have f:=eq61 aB[i].1 ((lsl hs).2 i aB[i] (bP hi)) n (by omega)
  unfold c60_4;simp only[fJ hi,fI,Int.toNat_natCast,bP hi,Option.bind_some,cond_true,cond_false,bne_self_eq_false,Bool.not_true,aR f,aD (show i<9223372036854775807 by omega)]
 ·unfold c60_4;simp only[bR,cond_false]
theorem sz163(a0:Row K90)(left:Int)(hok:eB K90 a0)(h0:0<=left)(h1:left<=1048576):∃ r:Int,Ran p 2 163 [va K90 a0, vf K3 (left,())] (rO K3 (r,()))/\(0<=r->r+szR K90 a0<=left/\Small K90 a0):=by
 obtain⟨r0,f0,g0⟩:=sz165 (@vL K3 a0.1) left (rmk (rhd hok) trivial) (by omega) (by omega)
 by_cases n0:r0<0
 ·exact⟨-1,go163 fun n hn=>Ev.now fun aA=>by unfold T163;exact(aJ (f0 n (by omega))).trans <| (cB n0),by omega⟩
 have l0:=(g0 (by omega)).1
 replace l0:r0+(szT (.sl K3) a0.1+0)<=left:=l0
 have z0:0<=szR K28 ((@vL K3 a0.1),()):=eQ _ _
 replace z0:0<=(szT (.sl K3) a0.1+0):=z0
 have s0:=shd (g0 (by omega)).2
 exact⟨r0,go163 fun n hn=>Ev.now fun aA=>by unfold T163;exact(aJ (f0 n (by omega))).trans <| (aW n0).trans <|  rfl,fun _=>⟨by show _+(szT (.sl K3) a0.1+(0+0))<=_;omega,(smk s0 (smk trivial trivial))⟩⟩
theorem sz166(aB:List (Row K28))(left:Int)(hok:eB K34 (aB,()))(h0:0<=left)(h1:left<=1048576):∃ r:Int,Ran p 2 166 [vf K34 (aB,()), vf K3 (left,())] (rO K3 (r,()))/\(0<=r->r+szR K34 (aB,())<=left/\Small K34 (aB,())):=by
 have hl:(aB.length:Int)<=9223372036854775807:=by have:=(rsl hok).1;exact Int.ofNat_le.2 this
 have hw:i64.wrap (left - (aB.length:Int))=left - (aB.length:Int):=jB (by omega) (by omega)
 by_cases hn:left - (aB.length:Int)<0
 ·exact⟨-1,go166 fun n hn'=>Ev.now fun aA=>by unfold T166;rw[hw];exact cB hn,by omega⟩
 ·refine uQ (p:=p) (lvl:=1) (xs:=aB) (S:=fun r=>Small K28 (r.1,())) (M:=fun r=>szR K28 (r.1,())) (fun r=>eQ _ _) (st:=fun(i:Nat) (l:Int)=>(l,(i:Int))) (W:=fun n aA=>T166 (aI p n) aA aB left) (c:=fun n aA (_:Unit)=>c166_5 (aI p n) aA aB) (l0:=left - (aB.length:Int)) (f:=fun x l=>[vf K28 (x.1,()), vf K3 (l,())]) (q:=165) (r0:=fun r=>(rO K3 (r,()))) ?_ ?_ ?_ ?_ (by omega) (by omega) (fun r hr hp=>⟨r,go166 fun n hn=>hr n hn,fun h=>⟨by have:=(hp h).1;show r+((aB.length:Int)+cJ (szR K28) aB+0)<=left;replace this:r+cJ (szR K28) aB<=_:=this;omega,ssm (Int.ofNat_le.1 (by show _<=(1048576:Int);omega)) fun i r hr=>?_⟩⟩)
  ·intro i hi l h2 h3;obtain⟨r,f,g⟩:=sz165 aB[i].1 l ((rsl hok).2 i aB[i] (bP hi)) h2 h3;exact⟨r,g,fun n hn=>f n (by omega)⟩
  ·intro n _ aA;show T166 (aI p n) aA aB left=_;unfold T166;rw[hw];exact aW hn
  ·intro n aA a rec i hi l r hr;replace hr:aI p n 165 [vf K28 (aB[i].1,()), vf K3 (l,())]=rV K3 (r,()):=hr;unfold c166_5;simp only[fJ hi,fI,Int.toNat_natCast,bP hi,Option.bind_some,cond_true,aR hr,aD (show i<9223372036854775807 by omega)]
  ·intro n aA a rec l;unfold c166_5;simp only[bR,cond_false]
  ·obtain⟨hi,rfl⟩:=xU hr;have:=(hp h).2 i hi;exact smk (shd this) trivial
theorem to171(a0:Row K90)(hs:Small K90 a0):Ran p 2 171 [va K90 a0] (rO K30 a0):=go171 fun n hn=>Ev.now fun aA=>by
 unfold T171;exact(aJ (to40 (@vL K3 a0.1) (smk (shd hs) trivial) n (by omega))).trans <|  rfl
theorem to173(aB:List (Row K28))(hs:Small K34 (aB,())):Ran p 2 173 [vf K34 (aB,())] (rO K34 (aB,())):=go173 fun n hn=>by
 have hl:List.length aB<=1048576:=(ssl hs).1
 refine Ev.eq (fun aA=>by unfold T173;exact kE (Int.natCast_nonneg _) (Int.ofNat_le.2 (Nat.le_trans hl (by decide))) rfl) ?_
 refine It.ev (c:=fun aA (_:Unit)=>c173_3 (aI p n) aA aB) (i:=()) (r:=fun _=>rV K34 (aB,())) ?_ rfl
 refine mA (α:=Row K28) aB (eA K28) (fun i ys=>((i:Int),ys)) (fun i hi ys hy aA a rec=>?_) (fun aA a rec=>?_)
 ·have hy':i<ys.length:=by rw[hy];exact hi
  have hi1:i<List.length (α:=Row K28) aB:=hi
  have hb:i<9223372036854775807:=Nat.lt_of_lt_of_le hi (Nat.le_trans hl (by decide))
  have f:=to40 aB[i].1 ((ssl hs).2 i aB[i] (bP hi)) n (by omega)
  unfold c173_3;simp only[fJ hi1,fI,Int.toNat_natCast,bP hi1,bP hy',Option.bind_some,cond_true,aR f,aD hb]<;>rfl
 ·unfold c173_3;simp only[bR,cond_false]<;>rfl
theorem to174(aB:List (Row K295))(hs:Small K94 (aB,())):Ran p 2 174 [vf K94 (aB,())] (rO K35 (aB,())):=go174 fun n hn=>by
 have hl:List.length aB<=1048576:=(ssl hs).1
 refine Ev.eq (fun aA=>by unfold T174;exact kE (Int.natCast_nonneg _) (Int.ofNat_le.2 (Nat.le_trans hl (by decide))) rfl) ?_
 refine It.ev (c:=fun aA (_:Unit)=>c174_3 (aI p n) aA aB) (i:=()) (r:=fun _=>rV K35 (aB,())) ?_ rfl
 refine mA (α:=Row K141) aB (eA K141) (fun i ys=>((i:Int),ys)) (fun i hi ys hy aA a rec=>?_) (fun aA a rec=>?_)
 ·have hy':i<ys.length:=by rw[hy];exact hi
  have hi1:i<List.length (α:=Row K295) aB:=hi
  have hb:i<9223372036854775807:=Nat.lt_of_lt_of_le hi (Nat.le_trans hl (by decide))
  have f:=to288 aB[i] ((ssl hs).2 i aB[i] (bP hi)) n (by omega)
  show c174_3 (aI p n) aA aB rec ((i:Int),ys)=_;unfold c174_3;simp only[fJ hi1,fI,Int.toNat_natCast,bP hi1,bP hy',Option.bind_some,cond_true,aR f,aD hb]<;>rfl
 ·show c174_3 (aI p n) aA aB rec ((aB.length:Int),aB)=_;unfold c174_3;simp only[bR,cond_false]<;>rfl
theorem to175(aB:List (Row K297))(hs:Small K95 (aB,())):Ran p 2 175 [vf K95 (aB,())] (rO K36 (aB,())):=go175 fun n hn=>by
 have hl:List.length aB<=1048576:=(ssl hs).1
 refine Ev.eq (fun aA=>by unfold T175;exact kE (Int.natCast_nonneg _) (Int.ofNat_le.2 (Nat.le_trans hl (by decide))) rfl) ?_
 refine It.ev (c:=fun aA (_:Unit)=>c175_3 (aI p n) aA aB) (i:=()) (r:=fun _=>rV K36 (aB,())) ?_ rfl
 refine mA (α:=Row K147) aB (eA K147) (fun i ys=>((i:Int),ys)) (fun i hi ys hy aA a rec=>?_) (fun aA a rec=>?_)
 ·have hy':i<ys.length:=by rw[hy];exact hi
  have hi1:i<List.length (α:=Row K297) aB:=hi
  have hb:i<9223372036854775807:=Nat.lt_of_lt_of_le hi (Nat.le_trans hl (by decide))
  have f:=to289 aB[i] ((ssl hs).2 i aB[i] (bP hi)) n (by omega)
  show c175_3 (aI p n) aA aB rec ((i:Int),ys)=_;unfold c175_3;simp only[fJ hi1,fI,Int.toNat_natCast,bP hi1,bP hy',Option.bind_some,cond_true,aR f,aD hb]<;>rfl
 ·show c175_3 (aI p n) aA aB rec ((aB.length:Int),aB)=_;unfold c175_3;simp only[bR,cond_false]<;>rfl
theorem eq178(a0:Row K30)(hs:LmR K30 a0):Ran p 2 178 [va K30 a0, va K30 a0] (rO K4 (true,())):=go178 fun n hn=>Ev.now fun aA=>by
 have f0:=eq43 (@vL K3 a0.1) (lmk (lhd hs) trivial) n (by omega)
 unfold T178;simp only[aR f0,bne_self_eq_false,beq_self_eq_true,gI,Bool.not_true,cond_false,cond_true]
theorem eq180(aB:List (Row K28))(hs:LmR K34 (aB,())):Ran p 2 180 [vf K34 (aB,()), vf K34 (aB,())] (rO K4 (true,())):=go180 fun n hn=>by
 have hl:List.length aB<=4611686018427387904:=(lsl hs).1
 refine Ev.eq (fun aA=>by unfold T180;simp only[bne_self_eq_false,cond_false];rfl) ?_
 refine It.ev (c:=fun aA (_:Unit)=>c180_4 (aI p n) aA aB aB) (i:=()) (r:=fun _=>rV K4 (true,())) ?_ rfl
 refine kV aB.length (fun i=>(i:Int)) (fun i hi aA a rec=>?_) (fun aA a rec=>?_)
 ·have f:=eq43 aB[i].1 ((lsl hs).2 i aB[i] (bP hi)) n (by omega)
  unfold c180_4;simp only[fJ hi,fI,Int.toNat_natCast,bP hi,Option.bind_some,cond_true,cond_false,bne_self_eq_false,Bool.not_true,aR f,aD (show i<9223372036854775807 by omega)]
 ·unfold c180_4;simp only[bR,cond_false]
theorem eq181(aB:List (Row K141))(hs:LmR K35 (aB,())):Ran p 2 181 [vf K35 (aB,()), vf K35 (aB,())] (rO K4 (true,())):=go181 fun n hn=>by
 have hl:List.length aB<=4611686018427387904:=(lsl hs).1
 refine Ev.eq (fun aA=>by unfold T181;simp only[bne_self_eq_false,cond_false];rfl) ?_
 refine It.ev (c:=fun aA (_:Unit)=>c181_4 (aI p n) aA aB aB) (i:=()) (r:=fun _=>rV K4 (true,())) ?_ rfl
 refine kV aB.length (fun i=>(i:Int)) (fun i hi aA a rec=>?_) (fun aA a rec=>?_)
 ·have f:=eq294 aB[i] ((lsl hs).2 i aB[i] (bP hi)) n (by omega)
  unfold c181_4;simp only[fJ hi,fI,Int.toNat_natCast,bP hi,Option.bind_some,cond_true,cond_false,bne_self_eq_false,Bool.not_true,aR f,aD (show i<9223372036854775807 by omega)]
 ·unfold c181_4;simp only[bR,cond_false]
theorem eq182(aB:List (Row K147))(hs:LmR K36 (aB,())):Ran p 2 182 [vf K36 (aB,()), vf K36 (aB,())] (rO K4 (true,())):=go182 fun n hn=>by
 have hl:List.length aB<=4611686018427387904:=(lsl hs).1
 refine Ev.eq (fun aA=>by unfold T182;simp only[bne_self_eq_false,cond_false];rfl) ?_
 refine It.ev (c:=fun aA (_:Unit)=>c182_4 (aI p n) aA aB aB) (i:=()) (r:=fun _=>rV K4 (true,())) ?_ rfl
 refine kV aB.length (fun i=>(i:Int)) (fun i hi aA a rec=>?_) (fun aA a rec=>?_)
 ·have f:=eq295 aB[i] ((lsl hs).2 i aB[i] (bP hi)) n (by omega)
  unfold c182_4;simp only[fJ hi,fI,Int.toNat_natCast,bP hi,Option.bind_some,cond_true,cond_false,bne_self_eq_false,Bool.not_true,aR f,aD (show i<9223372036854775807 by omega)]
 ·unfold c182_4;simp only[bR,cond_false]
theorem to286(aB:List (Row K332))(hs:Small K87 (aB,())):Ran p 2 286 [vf K87 (aB,())] (rO K25 (aB,())):=go286 fun n hn=>by
 have hl:List.length aB<=1048576:=(ssl hs).1
 refine Ev.eq (fun aA=>by unfold T286;exact kE (Int.natCast_nonneg _) (Int.ofNat_le.2 (Nat.le_trans hl (by decide))) rfl) ?_
 refine It.ev (c:=fun aA (_:Unit)=>c286_3 (aI p n) aA aB) (i:=()) (r:=fun _=>rV K25 (aB,())) ?_ rfl
 refine mA (α:=Row K165) aB (eA K165) (fun i ys=>((i:Int),ys)) (fun i hi ys hy aA a rec=>?_) (fun aA a rec=>?_)
 ·have hy':i<ys.length:=by rw[hy];exact hi
  have hi1:i<List.length (α:=Row K332) aB:=hi
  have hb:i<9223372036854775807:=Nat.lt_of_lt_of_le hi (Nat.le_trans hl (by decide))
  have f:=to341 aB[i] ((ssl hs).2 i aB[i] (bP hi)) n (by omega)
  show c286_3 (aI p n) aA aB rec ((i:Int),ys)=_;unfold c286_3;simp only[fJ hi1,fI,Int.toNat_natCast,bP hi1,bP hy',Option.bind_some,cond_true,aR f,aD hb]<;>rfl
 ·show c286_3 (aI p n) aA aB rec ((aB.length:Int),aB)=_;unfold c286_3;simp only[bR,cond_false]<;>rfl
theorem eq292(aB:List (Row K165))(hs:LmR K25 (aB,())):Ran p 2 292 [vf K25 (aB,()), vf K25 (aB,())] (rO K4 (true,())):=go292 fun n hn=>by
 have hl:List.length aB<=4611686018427387904:=(lsl hs).1
 refine Ev.eq (fun aA=>by unfold T292;simp only[bne_self_eq_false,cond_false];rfl) ?_
 refine It.ev (c:=fun aA (_:Unit)=>c292_4 (aI p n) aA aB aB) (i:=()) (r:=fun _=>rV K4 (true,())) ?_ rfl
 refine kV aB.length (fun i=>(i:Int)) (fun i hi aA a rec=>?_) (fun aA a rec=>?_)
 ·have f:=eq343 aB[i] ((lsl hs).2 i aB[i] (bP hi)) n (by omega)
  unfold c292_4;simp only[fJ hi,fI,Int.toNat_natCast,bP hi,Option.bind_some,cond_true,cond_false,bne_self_eq_false,Bool.not_true,aR f,aD (show i<9223372036854775807 by omega)]
 ·unfold c292_4;simp only[bR,cond_false]
theorem sz339(a0:Row K329)(left:Int)(hok:eB K329 a0)(h0:0<=left)(h1:left<=1048576):∃ r:Int,Ran p 2 339 [va K329 a0, vf K3 (left,())] (rO K3 (r,()))/\(0<=r->r+szR K329 a0<=left/\Small K329 a0):=by
 obtain⟨r0,f0,g0⟩:=sz361 a0.2 left (rtl hok) (by omega) (by omega)
 by_cases n0:r0<0
 ·exact⟨-1,go339 fun n hn=>Ev.now fun aA=>by unfold T339;exact(aJ (f0 n (by omega))).trans <| (cB n0),by omega⟩
 have l0:=(g0 (by omega)).1
 replace l0:r0+(0+(0+(0+(0+(((ByteArray.size (vS a0.2.2.2.2.2.1):Nat):Int)+0)))))<=left:=l0
 have z0:0<=szR K327 a0.2:=eQ _ _
 replace z0:0<=(0+(0+(0+(0+(((ByteArray.size (vS a0.2.2.2.2.2.1):Nat):Int)+0))))):=z0
 have s1:=shd (g0 (by omega)).2
 have s2:=shd (stl (g0 (by omega)).2)
 have s3:=shd (stl (stl (g0 (by omega)).2))
 have s4:=shd (stl (stl (stl (g0 (by omega)).2)))
 have s5:=shd (stl (stl (stl (stl (g0 (by omega)).2))))
 exact⟨r0,go339 fun n hn=>Ev.now fun aA=>by unfold T339;exact(aJ (f0 n (by omega))).trans <| (aW n0).trans <|  rfl,fun _=>⟨by show _+(0+(0+(0+(0+(0+(((ByteArray.size (vS a0.2.2.2.2.2.1):Nat):Int)+0))))))<=_;omega,(smk trivial (smk s1 (smk s2 (smk s3 (smk s4 (smk s5 trivial))))))⟩⟩
theorem to340(a0:Row K329)(hs:Small K329 a0):Ran p 2 340 [va K329 a0] (rO K163 a0):=go340 fun n hn=>Ev.now fun aA=>by
 unfold T340;exact(aJ (to362 a0.2 (stl hs) n (by omega))).trans <|  rfl
theorem eq342(a0:Row K163)(hs:LmR K163 a0):Ran p 2 342 [va K163 a0, va K163 a0] (rO K4 (true,())):=go342 fun n hn=>Ev.now fun aA=>by
 have f0:=eq363 a0.2 (ltl hs) n (by omega)
 unfold T342;simp only[aR f0,bne_self_eq_false,beq_self_eq_true,gI,Bool.not_true,cond_false,cond_true]
theorem sz282(aB:List (Row K329))(left:Int)(hok:eB K86 (aB,()))(h0:0<=left)(h1:left<=1048576):∃ r:Int,Ran p 3 282 [vf K86 (aB,()), vf K3 (left,())] (rO K3 (r,()))/\(0<=r->r+szR K86 (aB,())<=left/\Small K86 (aB,())):=by
 have hl:(aB.length:Int)<=9223372036854775807:=by have:=(rsl hok).1;exact Int.ofNat_le.2 this
 have hw:i64.wrap (left - (aB.length:Int))=left - (aB.length:Int):=jB (by omega) (by omega)
 by_cases hn:left - (aB.length:Int)<0
 ·exact⟨-1,go282 fun n hn'=>Ev.now fun aA=>by unfold T282;rw[hw];exact cB hn,by omega⟩
 ·refine uQ (p:=p) (lvl:=2) (xs:=aB) (S:=fun r=>Small K329 r) (M:=fun r=>szR K329 r) (fun r=>eQ _ _) (st:=fun(i:Nat) (l:Int)=>(l,(i:Int))) (W:=fun n aA=>T282 (aI p n) aA aB left) (c:=fun n aA (_:Unit)=>c282_5 (aI p n) aA aB) (l0:=left - (aB.length:Int)) (f:=fun x l=>[va K329 x, vf K3 (l,())]) (q:=339) (r0:=fun r=>(rO K3 (r,()))) ?_ ?_ ?_ ?_ (by omega) (by omega) (fun r hr hp=>⟨r,go282 fun n hn=>hr n hn,fun h=>⟨by have:=(hp h).1;show r+((aB.length:Int)+cJ (szR K329) aB+0)<=left;replace this:r+cJ (szR K329) aB<=_:=this;omega,ssm (Int.ofNat_le.1 (by show _<=(1048576:Int);omega)) fun i r hr=>?_⟩⟩)
  ·intro i hi l h2 h3;obtain⟨r,f,g⟩:=sz339 aB[i] l ((rsl hok).2 i aB[i] (bP hi)) h2 h3;exact⟨r,g,fun n hn=>f n (by omega)⟩
  ·intro n _ aA;show T282 (aI p n) aA aB left=_;unfold T282;rw[hw];exact aW hn
  ·intro n aA a rec i hi l r hr;replace hr:aI p n 339 [va K329 (aB[i]), vf K3 (l,())]=rV K3 (r,()):=hr;unfold c282_5;simp only[fJ hi,fI,Int.toNat_natCast,bP hi,Option.bind_some,cond_true,aR hr,aD (show i<9223372036854775807 by omega)]
  ·intro n aA a rec l;unfold c282_5;simp only[bR,cond_false]
  ·obtain⟨hi,rfl⟩:=xU hr;have:=(hp h).2 i hi;exact this
theorem to285(aB:List (Row K329))(hs:Small K86 (aB,())):Ran p 3 285 [vf K86 (aB,())] (rO K24 (aB,())):=go285 fun n hn=>by
 have hl:List.length aB<=1048576:=(ssl hs).1
 refine Ev.eq (fun aA=>by unfold T285;exact kE (Int.natCast_nonneg _) (Int.ofNat_le.2 (Nat.le_trans hl (by decide))) rfl) ?_
 refine It.ev (c:=fun aA (_:Unit)=>c285_3 (aI p n) aA aB) (i:=()) (r:=fun _=>rV K24 (aB,())) ?_ rfl
 refine mA (α:=Row K163) aB (eA K163) (fun i ys=>((i:Int),ys)) (fun i hi ys hy aA a rec=>?_) (fun aA a rec=>?_)
 ·have hy':i<ys.length:=by rw[hy];exact hi
  have hi1:i<List.length (α:=Row K329) aB:=hi
  have hb:i<9223372036854775807:=Nat.lt_of_lt_of_le hi (Nat.le_trans hl (by decide))
  have f:=to340 aB[i] ((ssl hs).2 i aB[i] (bP hi)) n (by omega)
  show c285_3 (aI p n) aA aB rec ((i:Int),ys)=_;unfold c285_3;simp only[fJ hi1,fI,Int.toNat_natCast,bP hi1,bP hy',Option.bind_some,cond_true,aR f,aD hb]<;>rfl
 ·show c285_3 (aI p n) aA aB rec ((aB.length:Int),aB)=_;unfold c285_3;simp only[bR,cond_false]<;>rfl
theorem eq291(aB:List (Row K163))(hs:LmR K24 (aB,())):Ran p 3 291 [vf K24 (aB,()), vf K24 (aB,())] (rO K4 (true,())):=go291 fun n hn=>by
 have hl:List.length aB<=4611686018427387904:=(lsl hs).1
 refine Ev.eq (fun aA=>by unfold T291;simp only[bne_self_eq_false,cond_false];rfl) ?_
 refine It.ev (c:=fun aA (_:Unit)=>c291_4 (aI p n) aA aB aB) (i:=()) (r:=fun _=>rV K4 (true,())) ?_ rfl
 refine kV aB.length (fun i=>(i:Int)) (fun i hi aA a rec=>?_) (fun aA a rec=>?_)
 ·have f:=eq342 aB[i] ((lsl hs).2 i aB[i] (bP hi)) n (by omega)
  unfold c291_4;simp only[fJ hi,fI,Int.toNat_natCast,bP hi,Option.bind_some,cond_true,cond_false,bne_self_eq_false,Bool.not_true,aR f,aD (show i<9223372036854775807 by omega)]
 ·unfold c291_4;simp only[bR,cond_false]
theorem sz162(a0:Row K89)(left:Int)(hok:eB K89 a0)(h0:0<=left)(h1:left<=1048576):∃ r:Int,Ran p 4 162 [va K89 a0, vf K3 (left,())] (rO K3 (r,()))/\(0<=r->r+szR K89 a0<=left/\Small K89 a0):=by
 obtain⟨r0,f0,g0⟩:=sz282 (@vL K329 a0.1) left (rmk (rhd hok) trivial) (by omega) (by omega)
 by_cases n0:r0<0
 ·exact⟨-1,go162 fun n hn=>Ev.now fun aA=>by unfold T162;exact(aJ (f0 n (by omega))).trans <| (cB n0),by omega⟩
 have l0:=(g0 (by omega)).1
 replace l0:r0+(szT (.sl K329) a0.1+0)<=left:=l0
 have z0:0<=szR K86 ((@vL K329 a0.1),()):=eQ _ _
 replace z0:0<=(szT (.sl K329) a0.1+0):=z0
 have s0:=shd (g0 (by omega)).2
 obtain⟨r1,f1,g1⟩:=sz283 (@vL K332 a0.2.1) r0 (rmk (rhd (rtl hok)) trivial) (by omega) (by omega)
 by_cases n1:r1<0
 ·exact⟨-1,go162 fun n hn=>Ev.now fun aA=>by unfold T162;exact(aJ (f0 n (by omega))).trans <| (aW n0).trans <| (aJ (f1 n (by omega))).trans <| (cB n1),by omega⟩
 have l1:=(g1 (by omega)).1
 replace l1:r1+(szT (.sl K332) a0.2.1+0)<=r0:=l1
 have z1:0<=szR K87 ((@vL K332 a0.2.1),()):=eQ _ _
 replace z1:0<=(szT (.sl K332) a0.2.1+0):=z1
 have s1:=shd (g1 (by omega)).2
 exact⟨r1,go162 fun n hn=>Ev.now fun aA=>by unfold T162;exact(aJ (f0 n (by omega))).trans <| (aW n0).trans <| (aJ (f1 n (by omega))).trans <| (aW n1).trans <|  rfl,fun _=>⟨by show _+(szT (.sl K329) a0.1+(szT (.sl K332) a0.2.1+0))<=_;omega,(smk s0 (smk s1 trivial))⟩⟩
theorem to170(a0:Row K89)(hs:Small K89 a0):Ran p 4 170 [va K89 a0] (rO K27 a0):=go170 fun n hn=>Ev.now fun aA=>by
 unfold T170;exact(aJ (to285 (@vL K329 a0.1) (smk (shd hs) trivial) n (by omega))).trans <| (aJ (to286 (@vL K332 a0.2.1) (smk (shd (stl hs)) trivial) n (by omega))).trans <|  rfl
theorem eq177(a0:Row K27)(hs:LmR K27 a0):Ran p 4 177 [va K27 a0, va K27 a0] (rO K4 (true,())):=go177 fun n hn=>Ev.now fun aA=>by
 have f0:=eq291 (@vL K163 a0.1) (lmk (lhd hs) trivial) n (by omega)
 have f1:=eq292 (@vL K165 a0.2.1) (lmk (lhd (ltl hs)) trivial) n (by omega)
 unfold T177;simp only[aR f0,aR f1,bne_self_eq_false,beq_self_eq_true,gI,Bool.not_true,cond_false,cond_true]
theorem sz284(aB:List (Row K89))(left:Int)(hok:eB K91 (aB,()))(h0:0<=left)(h1:left<=1048576):∃ r:Int,Ran p 5 284 [vf K91 (aB,()), vf K3 (left,())] (rO K3 (r,()))/\(0<=r->r+szR K91 (aB,())<=left/\Small K91 (aB,())):=by
 have hl:(aB.length:Int)<=9223372036854775807:=by have:=(rsl hok).1;exact Int.ofNat_le.2 this
 have hw:i64.wrap (left - (aB.length:Int))=left - (aB.length:Int):=jB (by omega) (by omega)
 by_cases hn:left - (aB.length:Int)<0
 ·exact⟨-1,go284 fun n hn'=>Ev.now fun aA=>by unfold T284;rw[hw];exact cB hn,by omega⟩
 ·refine uQ (p:=p) (lvl:=4) (xs:=aB) (S:=fun r=>Small K89 r) (M:=fun r=>szR K89 r) (fun r=>eQ _ _) (st:=fun(i:Nat) (l:Int)=>(l,(i:Int))) (W:=fun n aA=>T284 (aI p n) aA aB left) (c:=fun n aA (_:Unit)=>c284_5 (aI p n) aA aB) (l0:=left - (aB.length:Int)) (f:=fun x l=>[va K89 x, vf K3 (l,())]) (q:=162) (r0:=fun r=>(rO K3 (r,()))) ?_ ?_ ?_ ?_ (by omega) (by omega) (fun r hr hp=>⟨r,go284 fun n hn=>hr n hn,fun h=>⟨by have:=(hp h).1;show r+((aB.length:Int)+cJ (szR K89) aB+0)<=left;replace this:r+cJ (szR K89) aB<=_:=this;omega,ssm (Int.ofNat_le.1 (by show _<=(1048576:Int);omega)) fun i r hr=>?_⟩⟩)
  ·intro i hi l h2 h3;obtain⟨r,f,g⟩:=sz162 aB[i] l ((rsl hok).2 i aB[i] (bP hi)) h2 h3;exact⟨r,g,fun n hn=>f n (by omega)⟩
  ·intro n _ aA;show T284 (aI p n) aA aB left=_;unfold T284;rw[hw];exact aW hn
  ·intro n aA a rec i hi l r hr;replace hr:aI p n 162 [va K89 (aB[i]), vf K3 (l,())]=rV K3 (r,()):=hr;unfold c284_5;simp only[fJ hi,fI,Int.toNat_natCast,bP hi,Option.bind_some,cond_true,aR hr,aD (show i<9223372036854775807 by omega)]
  ·intro n aA a rec l;unfold c284_5;simp only[bR,cond_false]
  ·obtain⟨hi,rfl⟩:=xU hr;have:=(hp h).2 i hi;exact this
theorem to287(aB:List (Row K89))(hs:Small K91 (aB,())):Ran p 5 287 [vf K91 (aB,())] (rO K31 (aB,())):=go287 fun n hn=>by
 have hl:List.length aB<=1048576:=(ssl hs).1
 refine Ev.eq (fun aA=>by unfold T287;exact kE (Int.natCast_nonneg _) (Int.ofNat_le.2 (Nat.le_trans hl (by decide))) rfl) ?_
 refine It.ev (c:=fun aA (_:Unit)=>c287_3 (aI p n) aA aB) (i:=()) (r:=fun _=>rV K31 (aB,())) ?_ rfl
 refine mA (α:=Row K27) aB (eA K27) (fun i ys=>((i:Int),ys)) (fun i hi ys hy aA a rec=>?_) (fun aA a rec=>?_)
 ·have hy':i<ys.length:=by rw[hy];exact hi
  have hi1:i<List.length (α:=Row K89) aB:=hi
  have hb:i<9223372036854775807:=Nat.lt_of_lt_of_le hi (Nat.le_trans hl (by decide))
  have f:=to170 aB[i] ((ssl hs).2 i aB[i] (bP hi)) n (by omega)
  show c287_3 (aI p n) aA aB rec ((i:Int),ys)=_;unfold c287_3;simp only[fJ hi1,fI,Int.toNat_natCast,bP hi1,bP hy',Option.bind_some,cond_true,aR f,aD hb]<;>rfl
 ·show c287_3 (aI p n) aA aB rec ((aB.length:Int),aB)=_;unfold c287_3;simp only[bR,cond_false]<;>rfl
theorem eq293(aB:List (Row K27))(hs:LmR K31 (aB,())):Ran p 5 293 [vf K31 (aB,()), vf K31 (aB,())] (rO K4 (true,())):=go293 fun n hn=>by
 have hl:List.length aB<=4611686018427387904:=(lsl hs).1
 refine Ev.eq (fun aA=>by unfold T293;simp only[bne_self_eq_false,cond_false];rfl) ?_
 refine It.ev (c:=fun aA (_:Unit)=>c293_4 (aI p n) aA aB aB) (i:=()) (r:=fun _=>rV K4 (true,())) ?_ rfl
 refine kV aB.length (fun i=>(i:Int)) (fun i hi aA a rec=>?_) (fun aA a rec=>?_)
 ·have f:=eq177 aB[i] ((lsl hs).2 i aB[i] (bP hi)) n (by omega)
  unfold c293_4;simp only[fJ hi,fI,Int.toNat_natCast,bP hi,Option.bind_some,cond_true,cond_false,bne_self_eq_false,Bool.not_true,aR f,aD (show i<9223372036854775807 by omega)]
 ·unfold c293_4;simp only[bR,cond_false]
theorem sz164(a0:Row K93)(left:Int)(hok:eB K93 a0)(h0:0<=left)(h1:left<=1048576):∃ r:Int,Ran p 6 164 [va K93 a0, vf K3 (left,())] (rO K3 (r,()))/\(0<=r->r+szR K93 a0<=left/\Small K93 a0):=by
 obtain⟨r0,f0,g0⟩:=sz284 (@vL K89 a0.2.2.1) left (rmk (rhd (rtl (rtl hok))) trivial) (by omega) (by omega)
 by_cases n0:r0<0
 ·exact⟨-1,go164 fun n hn=>Ev.now fun aA=>by unfold T164;exact(aJ (f0 n (by omega))).trans <| (cB n0),by omega⟩
 have l0:=(g0 (by omega)).1
 replace l0:r0+(szT (.sl K89) a0.2.2.1+0)<=left:=l0
 have z0:0<=szR K91 ((@vL K89 a0.2.2.1),()):=eQ _ _
 replace z0:0<=(szT (.sl K89) a0.2.2.1+0):=z0
 have s2:=shd (g0 (by omega)).2
 exact⟨r0,go164 fun n hn=>Ev.now fun aA=>by unfold T164;exact(aJ (f0 n (by omega))).trans <| (aW n0).trans <|  rfl,fun _=>⟨by show _+(0+(0+(szT (.sl K89) a0.2.2.1+0)))<=_;omega,(smk trivial (smk trivial (smk s2 trivial)))⟩⟩
theorem to172(a0:Row K93)(hs:Small K93 a0):Ran p 6 172 [va K93 a0] (rO K33 a0):=go172 fun n hn=>Ev.now fun aA=>by
 unfold T172;exact(aJ (to287 (@vL K89 a0.2.2.1) (smk (shd (stl (stl hs))) trivial) n (by omega))).trans <|  rfl
theorem eq179(a0:Row K33)(hs:LmR K33 a0):Ran p 6 179 [va K33 a0, va K33 a0] (rO K4 (true,())):=go179 fun n hn=>Ev.now fun aA=>by
 have f0:=eq293 (@vL K27 a0.2.2.1) (lmk (lhd (ltl (ltl hs))) trivial) n (by omega)
 unfold T179;simp only[aR f0,bne_self_eq_false,beq_self_eq_true,gI,Bool.not_true,cond_false,cond_true]
theorem sz47(a0:Row K97)(left:Int)(hok:eB K97 a0)(h0:0<=left)(h1:left<=1048576):∃ r:Int,Ran p 7 47 [va K97 a0, vf K3 (left,())] (rO K3 (r,()))/\(0<=r->r+szR K97 a0<=left/\Small K97 a0):=by
 obtain⟨r0,f0,g0⟩:=sz162 ((@vL K329 a0.2.2.1),(@vL K332 a0.2.2.2.1),()) left (rmk (rhd (rtl (rtl hok))) (rmk (rhd (rtl (rtl (rtl hok)))) trivial)) (by omega) (by omega)
 by_cases n0:r0<0
 ·exact⟨-1,go47 fun n hn=>Ev.now fun aA=>by unfold T47;exact(aJ (f0 n (by omega))).trans <| (cB n0),by omega⟩
 have l0:=(g0 (by omega)).1
 replace l0:r0+(szT (.sl K329) a0.2.2.1+(szT (.sl K332) a0.2.2.2.1+0))<=left:=l0
 have z0:0<=szR K89 ((@vL K329 a0.2.2.1),(@vL K332 a0.2.2.2.1),()):=eQ _ _
 replace z0:0<=(szT (.sl K329) a0.2.2.1+(szT (.sl K332) a0.2.2.2.1+0)):=z0
 have s2:=shd (g0 (by omega)).2
 have s3:=shd (stl (g0 (by omega)).2)
 obtain⟨r1,f1,g1⟩:=sz163 ((@vL K3 a0.2.2.2.2.1),(vI a0.2.2.2.2.2.1),()) r0 (rmk (rhd (rtl (rtl (rtl (rtl hok))))) (rmk (rhd (rtl (rtl (rtl (rtl (rtl hok)))))) trivial)) (by omega) (by omega)
 by_cases n1:r1<0
 ·exact⟨-1,go47 fun n hn=>Ev.now fun aA=>by unfold T47;exact(aJ (f0 n (by omega))).trans <| (aW n0).trans <| (aJ (f1 n (by omega))).trans <| (cB n1),by omega⟩
 have l1:=(g1 (by omega)).1
 replace l1:r1+(szT (.sl K3) a0.2.2.2.2.1+(0+0))<=r0:=l1
 have z1:0<=szR K90 ((@vL K3 a0.2.2.2.2.1),(vI a0.2.2.2.2.2.1),()):=eQ _ _
 replace z1:0<=(szT (.sl K3) a0.2.2.2.2.1+(0+0)):=z1
 have s4:=shd (g1 (by omega)).2
 have s5:=shd (stl (g1 (by omega)).2)
 obtain⟨r2,f2,g2⟩:=sz164 ((vI a0.2.2.2.2.2.2.1),(vI a0.2.2.2.2.2.2.2.1),(@vL K89 a0.2.2.2.2.2.2.2.2.1),()) r1 (rmk (rhd (rtl (rtl (rtl (rtl (rtl (rtl hok))))))) (rmk (rhd (rtl (rtl (rtl (rtl (rtl (rtl (rtl hok)))))))) (rmk (rhd (rtl (rtl (rtl (rtl (rtl (rtl (rtl (rtl hok))))))))) trivial))) (by omega) (by omega)
 by_cases n2:r2<0
 ·exact⟨-1,go47 fun n hn=>Ev.now fun aA=>by unfold T47;exact(aJ (f0 n (by omega))).trans <| (aW n0).trans <| (aJ (f1 n (by omega))).trans <| (aW n1).trans <| (aJ (f2 n (by omega))).trans <| (cB n2),by omega⟩
 have l2:=(g2 (by omega)).1
 replace l2:r2+(0+(0+(szT (.sl K89) a0.2.2.2.2.2.2.2.2.1+0)))<=r1:=l2
 have z2:0<=szR K93 ((vI a0.2.2.2.2.2.2.1),(vI a0.2.2.2.2.2.2.2.1),(@vL K89 a0.2.2.2.2.2.2.2.2.1),()):=eQ _ _
 replace z2:0<=(0+(0+(szT (.sl K89) a0.2.2.2.2.2.2.2.2.1+0))):=z2
 have s6:=shd (g2 (by omega)).2
 have s7:=shd (stl (g2 (by omega)).2)
 have s8:=shd (stl (stl (g2 (by omega)).2))
 obtain⟨r3,f3,g3⟩:=sz165 (@vL K3 a0.2.2.2.2.2.2.2.2.2.1) r2 (rmk (rhd (rtl (rtl (rtl (rtl (rtl (rtl (rtl (rtl (rtl hok)))))))))) trivial) (by omega) (by omega)
 by_cases n3:r3<0
 ·exact⟨-1,go47 fun n hn=>Ev.now fun aA=>by unfold T47;exact(aJ (f0 n (by omega))).trans <| (aW n0).trans <| (aJ (f1 n (by omega))).trans <| (aW n1).trans <| (aJ (f2 n (by omega))).trans <| (aW n2).trans <| (aJ (f3 n (by omega))).trans <| (cB n3),by omega⟩
 have l3:=(g3 (by omega)).1
 replace l3:r3+(szT (.sl K3) a0.2.2.2.2.2.2.2.2.2.1+0)<=r2:=l3
 have z3:0<=szR K28 ((@vL K3 a0.2.2.2.2.2.2.2.2.2.1),()):=eQ _ _
 replace z3:0<=(szT (.sl K3) a0.2.2.2.2.2.2.2.2.2.1+0):=z3
 have s9:=shd (g3 (by omega)).2
 obtain⟨r4,f4,g4⟩:=sz165 (@vL K3 a0.2.2.2.2.2.2.2.2.2.2.1) r3 (rmk (rhd (rtl (rtl (rtl (rtl (rtl (rtl (rtl (rtl (rtl (rtl hok))))))))))) trivial) (by omega) (by omega)
 by_cases n4:r4<0
 ·exact⟨-1,go47 fun n hn=>Ev.now fun aA=>by unfold T47;exact(aJ (f0 n (by omega))).trans <| (aW n0).trans <| (aJ (f1 n (by omega))).trans <| (aW n1).trans <| (aJ (f2 n (by omega))).trans <| (aW n2).trans <| (aJ (f3 n (by omega))).trans <| (aW n3).trans <| (aJ (f4 n (by omega))).trans <| (cB n4),by omega⟩
 have l4:=(g4 (by omega)).1
 replace l4:r4+(szT (.sl K3) a0.2.2.2.2.2.2.2.2.2.2.1+0)<=r3:=l4
 have z4:0<=szR K28 ((@vL K3 a0.2.2.2.2.2.2.2.2.2.2.1),()):=eQ _ _
 replace z4:0<=(szT (.sl K3) a0.2.2.2.2.2.2.2.2.2.2.1+0):=z4
 have s10:=shd (g4 (by omega)).2
 obtain⟨r5,f5,g5⟩:=sz166 (@vL K28 a0.2.2.2.2.2.2.2.2.2.2.2.1) r4 (rmk (rhd (rtl (rtl (rtl (rtl (rtl (rtl (rtl (rtl (rtl (rtl (rtl hok)))))))))))) trivial) (by omega) (by omega)
 by_cases n5:r5<0
 ·exact⟨-1,go47 fun n hn=>Ev.now fun aA=>by unfold T47;exact(aJ (f0 n (by omega))).trans <| (aW n0).trans <| (aJ (f1 n (by omega))).trans <| (aW n1).trans <| (aJ (f2 n (by omega))).trans <| (aW n2).trans <| (aJ (f3 n (by omega))).trans <| (aW n3).trans <| (aJ (f4 n (by omega))).trans <| (aW n4).trans <| (aJ (f5 n (by omega))).trans <| (cB n5),by omega⟩
 have l5:=(g5 (by omega)).1
 replace l5:r5+(szT (.sl K28) a0.2.2.2.2.2.2.2.2.2.2.2.1+0)<=r4:=l5
 have z5:0<=szR K34 ((@vL K28 a0.2.2.2.2.2.2.2.2.2.2.2.1),()):=eQ _ _
 replace z5:0<=(szT (.sl K28) a0.2.2.2.2.2.2.2.2.2.2.2.1+0):=z5
 have s11:=shd (g5 (by omega)).2
 obtain⟨r6,f6,g6⟩:=sz167 (@vL K295 a0.2.2.2.2.2.2.2.2.2.2.2.2.2.2.1) r5 (rmk (rhd (rtl (rtl (rtl (rtl (rtl (rtl (rtl (rtl (rtl (rtl (rtl (rtl (rtl (rtl hok))))))))))))))) trivial) (by omega) (by omega)
 by_cases n6:r6<0
 ·exact⟨-1,go47 fun n hn=>Ev.now fun aA=>by unfold T47;exact(aJ (f0 n (by omega))).trans <| (aW n0).trans <| (aJ (f1 n (by omega))).trans <| (aW n1).trans <| (aJ (f2 n (by omega))).trans <| (aW n2).trans <| (aJ (f3 n (by omega))).trans <| (aW n3).trans <| (aJ (f4 n (by omega))).trans <| (aW n4).trans <| (aJ (f5 n (by omega))).trans <| (aW n5).trans <| (aJ (f6 n (by omega))).trans <| (cB n6),by omega⟩
 have l6:=(g6 (by omega)).1
 replace l6:r6+(szT (.sl K295) a0.2.2.2.2.2.2.2.2.2.2.2.2.2.2.1+0)<=r5:=l6
 have z6:0<=szR K94 ((@vL K295 a0.2.2.2.2.2.2.2.2.2.2.2.2.2.2.1),()):=eQ _ _
 replace z6:0<=(szT (.sl K295) a0.2.2.2.2.2.2.2.2.2.2.2.2.2.2.1+0):=z6
 have s14:=shd (g6 (by omega)).2
 obtain⟨r7,f7,g7⟩:=sz168 (@vL K297 a0.2.2.2.2.2.2.2.2.2.2.2.2.2.2.2.2.2.2.1) r6 (rmk (rhd (rtl (rtl (rtl (rtl (rtl (rtl (rtl (rtl (rtl (rtl (rtl (rtl (rtl (rtl (rtl (rtl (rtl (rtl hok))))))))))))))))))) trivial) (by omega) (by omega)
 by_cases n7:r7<0
 ·exact⟨-1,go47 fun n hn=>Ev.now fun aA=>by unfold T47;exact(aJ (f0 n (by omega))).trans <| (aW n0).trans <| (aJ (f1 n (by omega))).trans <| (aW n1).trans <| (aJ (f2 n (by omega))).trans <| (aW n2).trans <| (aJ (f3 n (by omega))).trans <| (aW n3).trans <| (aJ (f4 n (by omega))).trans <| (aW n4).trans <| (aJ (f5 n (by omega))).trans <| (aW n5).trans <| (aJ (f6 n (by omega))).trans <| (aW n6).trans <| (aJ (f7 n (by omega))).trans <| (cB n7),by omega⟩
 have l7:=(g7 (by omega)).1
 replace l7:r7+(szT (.sl K297) a0.2.2.2.2.2.2.2.2.2.2.2.2.2.2.2.2.2.2.1+0)<=r6:=l7
 have z7:0<=szR K95 ((@vL K297 a0.2.2.2.2.2.2.2.2.2.2.2.2.2.2.2.2.2.2.1),()):=eQ _ _
 replace z7:0<=(szT (.sl K297) a0.2.2.2.2.2.2.2.2.2.2.2.2.2.2.2.2.2.2.1+0):=z7
 have s18:=shd (g7 (by omega)).2
 exact⟨r7,go47 fun n hn=>Ev.now fun aA=>by unfold T47;exact(aJ (f0 n (by omega))).trans <| (aW n0).trans <| (aJ (f1 n (by omega))).trans <| (aW n1).trans <| (aJ (f2 n (by omega))).trans <| (aW n2).trans <| (aJ (f3 n (by omega))).trans <| (aW n3).trans <| (aJ (f4 n (by omega))).trans <| (aW n4).trans <| (aJ (f5 n (by omega))).trans <| (aW n5).trans <| (aJ (f6 n (by omega))).trans <| (aW n6).trans <| (aJ (f7 n (by omega))).trans <| (aW n7).trans <|  rfl,fun _=>⟨by show _+(0+(0+(szT (.sl K329) a0.2.2.1+(szT (.sl K332) a0.2.2.2.1+(szT (.sl K3) a0.2.2.2.2.1+(0+(0+(0+(szT (.sl K89) a0.2.2.2.2.2.2.2.2.1+(szT (.sl K3) a0.2.2.2.2.2.2.2.2.2.1+(szT (.sl K3) a0.2.2.2.2.2.2.2.2.2.2.1+(szT (.sl K28) a0.2.2.2.2.2.2.2.2.2.2.2.1+(0+(0+(szT (.sl K295) a0.2.2.2.2.2.2.2.2.2.2.2.2.2.2.1+(0+(0+(0+(szT (.sl K297) a0.2.2.2.2.2.2.2.2.2.2.2.2.2.2.2.2.2.2.1+0)))))))))))))))))))<=_;omega,(smk trivial (smk trivial (smk s2 (smk s3 (smk s4 (smk s5 (smk s6 (smk s7 (smk s8 (smk s9 (smk s10 (smk s11 (smk trivial (smk trivial (smk s14 (smk trivial (smk trivial (smk trivial (smk s18 trivial)))))))))))))))))))⟩⟩
theorem to49(a0:Row K97)(hs:Small K97 a0):Ran p 7 49 [va K97 a0] (rO K38 a0):=go49 fun n hn=>Ev.now fun aA=>by
 unfold T49;exact(aJ (to170 ((@vL K329 a0.2.2.1),(@vL K332 a0.2.2.2.1),()) (smk (shd (stl (stl hs))) (smk (shd (stl (stl (stl hs)))) trivial)) n (by omega))).trans <| (aJ (to171 ((@vL K3 a0.2.2.2.2.1),(vI a0.2.2.2.2.2.1),()) (smk (shd (stl (stl (stl (stl hs))))) (smk (shd (stl (stl (stl (stl (stl hs)))))) trivial)) n (by omega))).trans <| (aJ (to172 ((vI a0.2.2.2.2.2.2.1),(vI a0.2.2.2.2.2.2.2.1),(@vL K89 a0.2.2.2.2.2.2.2.2.1),()) (smk (shd (stl (stl (stl (stl (stl (stl hs))))))) (smk (shd (stl (stl (stl (stl (stl (stl (stl hs)))))))) (smk (shd (stl (stl (stl (stl (stl (stl (stl (stl hs))))))))) trivial))) n (by omega))).trans <| (aJ (to40 (@vL K3 a0.2.2.2.2.2.2.2.2.2.1) (smk (shd (stl (stl (stl (stl (stl (stl (stl (stl (stl hs)))))))))) trivial) n (by omega))).trans <| (aJ (to40 (@vL K3 a0.2.2.2.2.2.2.2.2.2.2.1) (smk (shd (stl (stl (stl (stl (stl (stl (stl (stl (stl (stl hs))))))))))) trivial) n (by omega))).trans <| (aJ (to173 (@vL K28 a0.2.2.2.2.2.2.2.2.2.2.2.1) (smk (shd (stl (stl (stl (stl (stl (stl (stl (stl (stl (stl (stl hs)))))))))))) trivial) n (by omega))).trans <| (aJ (to174 (@vL K295 a0.2.2.2.2.2.2.2.2.2.2.2.2.2.2.1) (smk (shd (stl (stl (stl (stl (stl (stl (stl (stl (stl (stl (stl (stl (stl (stl hs))))))))))))))) trivial) n (by omega))).trans <| (aJ (to175 (@vL K297 a0.2.2.2.2.2.2.2.2.2.2.2.2.2.2.2.2.2.2.1) (smk (shd (stl (stl (stl (stl (stl (stl (stl (stl (stl (stl (stl (stl (stl (stl (stl (stl (stl (stl hs))))))))))))))))))) trivial) n (by omega))).trans <|  rfl
theorem eq51(a0:Row K38)(hs:LmR K38 a0):Ran p 7 51 [va K38 a0, va K38 a0] (rO K4 (true,())):=go51 fun n hn=>Ev.now fun aA=>by
 have f0:=eq177 ((@vL K163 a0.2.2.1),(@vL K165 a0.2.2.2.1),()) (lmk (lhd (ltl (ltl hs))) (lmk (lhd (ltl (ltl (ltl hs)))) trivial)) n (by omega)
 have f1:=eq178 ((@vL K3 a0.2.2.2.2.1),(vI a0.2.2.2.2.2.1),()) (lmk (lhd (ltl (ltl (ltl (ltl hs))))) (lmk (lhd (ltl (ltl (ltl (ltl (ltl hs)))))) trivial)) n (by omega)
 have f2:=eq179 ((vI a0.2.2.2.2.2.2.1),(vI a0.2.2.2.2.2.2.2.1),(@vL K27 a0.2.2.2.2.2.2.2.2.1),()) (lmk (lhd (ltl (ltl (ltl (ltl (ltl (ltl hs))))))) (lmk (lhd (ltl (ltl (ltl (ltl (ltl (ltl (ltl hs)))))))) (lmk (lhd (ltl (ltl (ltl (ltl (ltl (ltl (ltl (ltl hs))))))))) trivial))) n (by omega)
 have f3:=eq43 (@vL K3 a0.2.2.2.2.2.2.2.2.2.1) (lmk (lhd (ltl (ltl (ltl (ltl (ltl (ltl (ltl (ltl (ltl hs)))))))))) trivial) n (by omega)
 have f4:=eq43 (@vL K3 a0.2.2.2.2.2.2.2.2.2.2.1) (lmk (lhd (ltl (ltl (ltl (ltl (ltl (ltl (ltl (ltl (ltl (ltl hs))))))))))) trivial) n (by omega)
 have f5:=eq180 (@vL K28 a0.2.2.2.2.2.2.2.2.2.2.2.1) (lmk (lhd (ltl (ltl (ltl (ltl (ltl (ltl (ltl (ltl (ltl (ltl (ltl hs)))))))))))) trivial) n (by omega)
 have f6:=eq181 (@vL K141 a0.2.2.2.2.2.2.2.2.2.2.2.2.2.2.1) (lmk (lhd (ltl (ltl (ltl (ltl (ltl (ltl (ltl (ltl (ltl (ltl (ltl (ltl (ltl (ltl hs))))))))))))))) trivial) n (by omega)
 have f7:=eq182 (@vL K147 a0.2.2.2.2.2.2.2.2.2.2.2.2.2.2.2.2.2.2.1) (lmk (lhd (ltl (ltl (ltl (ltl (ltl (ltl (ltl (ltl (ltl (ltl (ltl (ltl (ltl (ltl (ltl (ltl (ltl (ltl hs))))))))))))))))))) trivial) n (by omega)
 unfold T51;simp only[aR f0,aR f1,aR f2,aR f3,aR f4,aR f5,aR f6,aR f7,bne_self_eq_false,beq_self_eq_true,gI,Bool.not_true,cond_false,cond_true]
end Go.Abs.Xz
