/- What the functions of this program answer, part c. -/
import Derived.Test.YtmamlgjbendjhaaGreatXb
import Derived.Test.YtmamlgjbendjhaaGreatW2
set_option linter.unusedVariables false
namespace Go.Abs.Xz
open Go Go.Abs
theorem f93(a b:List bB)(ha:a.length≤maxLen):Ran p 1 93 [vf K28 (a,()), vf K28 (b,())] (rO K4 (jX a b,())):=go93 fun n hn=>by
 by_cases he:a.length=b.length
 ·have e:((a.length:Int) != (b.length:Int))=false:=by simp[he]
  have e2:jX a b=bZ a.length (fun i=>(gt a i).1==(gt b i).1):=by unfold jX;rw[he];simp
  rw[e2]
  have lp:It (fun aA (_:Unit)=>c93_4 (aG p n) aA a b) (0:Int) (fun _=>oB (bZ a.length (fun i=>(gt a i).1==(gt b i).1))):=by
   refine cZ (It.allB a.length _ true (fun i hi aA a' rec=>?_) (It.stop fun aA a' rec=>?_))
   ·have hb:i<9223372036854775807:=Nat.lt_of_lt_of_le hi ha
    show c93_4 (aG p n) aA a b rec (i:Int)=_
    unfold c93_4;rw[aI hb];refine(aE (Int.ofNat_lt.2 hi)).trans ?_;refine bif_nn.trans ?_;refine(aK hi).trans ?_;refine bif_nn.trans ?_;refine(aK (show i<b.length from he▸hi)).trans ?_;exact fin
   ·show c93_4 (aG p n) aA a b rec (a.length:Int)=_
    unfold c93_4;refine(aF (Int.lt_irrefl _)).trans ?_;rfl
  exact Ev.eq (fun aA=>by unfold T93;exact aL e) (lp.ev (i:=()) rfl)
 ·have e:((a.length:Int) != (b.length:Int))=true:=by simp;omega
  have e2:jX a b=false:=by unfold jX;rw[show((a.length:Int)==(b.length:Int))=false from by simp;omega];rfl
  rw[e2]
  exact Ev.now fun aA=>by unfold T93;exact aN e
theorem f244(a b:List bB)(ha:a.length≤maxLen):Ran p 1 244 [vf K28 (a,()), vf K28 (b,())] (rO K4 (jX a b,())):=go244 fun n hn=>by
 by_cases he:a.length=b.length
 ·have e:((a.length:Int) != (b.length:Int))=false:=by simp[he]
  have e2:jX a b=bZ a.length (fun i=>(gt a i).1==(gt b i).1):=by unfold jX;rw[he];simp
  rw[e2]
  have lp:It (fun aA (_:Unit)=>c244_4 (aG p n) aA a b) (0:Int) (fun _=>oB (bZ a.length (fun i=>(gt a i).1==(gt b i).1))):=by
   refine cZ (It.allB a.length _ true (fun i hi aA a' rec=>?_) (It.stop fun aA a' rec=>?_))
   ·have hb:i<9223372036854775807:=Nat.lt_of_lt_of_le hi ha
    show c244_4 (aG p n) aA a b rec (i:Int)=_
    unfold c244_4;rw[aI hb];refine(aE (Int.ofNat_lt.2 hi)).trans ?_;refine bif_nn.trans ?_;refine(aK hi).trans ?_;refine bif_nn.trans ?_;refine(aK (show i<b.length from he▸hi)).trans ?_;exact fin
   ·show c244_4 (aG p n) aA a b rec (a.length:Int)=_
    unfold c244_4;refine(aF (Int.lt_irrefl _)).trans ?_;rfl
  exact Ev.eq (fun aA=>by unfold T244;exact aL e) (lp.ev (i:=()) rfl)
 ·have e:((a.length:Int) != (b.length:Int))=true:=by simp;omega
  have e2:jX a b=false:=by unfold jX;rw[show((a.length:Int)==(b.length:Int))=false from by simp;omega];rfl
  rw[e2]
  exact Ev.now fun aA=>by unfold T244;exact aN e
theorem f91(a b:jZ)(ha:a.1.length≤maxLen):Ran p 2 91 [va K30 a, va K30 b] (rO K4 (jX a.1 b.1&&a.2.1==b.2.1,())):=go91 fun n hn=>Ev.now fun aA=>by
 unfold T91;refine(aC (f93 a.1 b.1 ha n (by omega))).trans ?_;refine eH fun _=>?_;rfl
theorem f102(a b:jZ)(ha:a.1.length≤maxLen):Ran p 2 102 [va K30 a, va K30 b] (rO K4 (jX a.1 b.1&&a.2.1==b.2.1,())):=go102 fun n hn=>Ev.now fun aA=>by
 unfold T102;refine(aC (f244 a.1 b.1 ha n (by omega))).trans ?_;refine eH fun _=>?_;rfl
theorem f331(x:Int):Ran p 2 331 [vf K3 (x,())] (rO K22 (aV x,())):=go331 fun n hn=>by
 cases hx:inB x 0 2147483647 with
 | false=>
  refine Ev.now fun aA=>?_
  unfold T331 aV;refine(aC (f211 x 0 2147483647 n (by omega))).trans ?_;rw[hx];rfl
 | true=>
  have hr:=bH.1 hx
  obtain⟨m,rfl⟩:∃ m:Nat,x=m:=⟨x.toNat,by omega⟩
  have lp:It (fun aA (_:Unit)=>c331_4 (aG p n) aA) ((m:Int),([]:List bB)) (fun _=>rV K22 (([]:List bB)++qI m,())):=by
   refine vE (fun l=>rV K22 (l,())) (fun m hm pre hp aA a rec=>?_) (fun m hm pre hp aA a rec=>?_) 5 m [] (by omega) (by omega) (by decide)
   ·show c331_4 (aG p n) aA rec ((m:Int),pre)=_
    unfold c331_4;refine(aF (by show ¬ ((m:Int)>127);omega)).trans ?_;refine(aE (by show pre.length+1≤4294967296;omega)).trans ?_;rfl
   ·show c331_4 (aG p n) aA rec ((m:Int),pre)=_
    unfold c331_4;refine(aE (by show(m:Int)>127;omega)).trans ?_;refine(aF (by decide)).trans ?_;refine(aE (by show pre.length+1≤4294967296;omega)).trans ?_;refine(aF (by decide)).trans ?_;rfl
  have e2:aV (m:Int)=qI m:=by unfold aV;rw[hx];rfl
  rw[e2]
  exact Ev.eq (fun aA=>by unfold T331;refine(aC (f211 (m:Int) 0 2147483647 n (by omega))).trans ?_;rw[hx];rfl) (lp.ev (i:=()) rfl)
theorem f138(x:Int):Ran p 2 138 [vf K3 (x,())] (rO K22 (aV x,())):=go138 fun n hn=>by
 cases hx:inB x 0 2147483647 with
 | false=>
  refine Ev.now fun aA=>?_
  unfold T138 aV;refine(aC (f100 x 0 2147483647 n (by omega))).trans ?_;rw[hx];rfl
 | true=>
  have hr:=bH.1 hx
  obtain⟨m,rfl⟩:∃ m:Nat,x=m:=⟨x.toNat,by omega⟩
  have lp:It (fun aA (_:Unit)=>c138_4 (aG p n) aA) ((m:Int),([]:List bB)) (fun _=>rV K22 (([]:List bB)++qI m,())):=by
   refine vE (fun l=>rV K22 (l,())) (fun m hm pre hp aA a rec=>?_) (fun m hm pre hp aA a rec=>?_) 5 m [] (by omega) (by omega) (by decide)
   ·show c138_4 (aG p n) aA rec ((m:Int),pre)=_
    unfold c138_4;refine(aF (by show ¬ ((m:Int)≥128);omega)).trans ?_;refine(aE (by show pre.length+1≤4294967296;omega)).trans ?_;rfl
   ·show c138_4 (aG p n) aA rec ((m:Int),pre)=_
    unfold c138_4;refine(aE (by show(m:Int)≥128;omega)).trans ?_;refine(aF (by decide)).trans ?_;refine(aE (by show pre.length+1≤4294967296;omega)).trans ?_;refine(aF (by decide)).trans ?_;rfl
  have e2:aV (m:Int)=qI m:=by unfold aV;rw[hx];rfl
  rw[e2]
  exact Ev.eq (fun aA=>by unfold T138;refine(aC (f100 (m:Int) 0 2147483647 n (by omega))).trans ?_;rw[hx];rfl) (lp.ev (i:=()) rfl)
theorem f137(ps:List cV)(L:Nat)(hL:∀ i,i<ps.length→(gt ps i).1.length≤L)(hb:ps.length*L≤bound)(hp:ps.length≤maxLen):Ran p 1 137 [vf K62 (ps,())] (rO K22 (ps.flatMap (fun r=>r.1),())):=go137 fun n hn=>by
 have lp:It (fun aA (_:Unit)=>c137_3 (aG p n) aA ps) ((0:Int),([]:List bB)) (fun _=>rV K22 (ps.flatMap (fun r=>r.1),())):=by
  refine It.accu [] (fun i=>(gt ps i).1) ps.length L hL (fun i hi acc ha aA a rec=>?_) (It.stop fun aA a rec=>?_)
  ·have hb':i<9223372036854775807:=Nat.lt_of_lt_of_le hi hp
   show c137_3 (aG p n) aA ps rec ((i:Int),acc)=_
   unfold c137_3;dsimp only;rw[aI hb'];refine(aE (Int.ofNat_lt.2 hi)).trans ?_;refine bif_nn.trans ?_;refine(aK hi).trans ?_;refine(aE (Nat.le_trans ha (by simpa using hb))).trans ?_;rfl
  ·show c137_3 (aG p n) aA ps rec ((ps.length:Int),bI ps.length fun i=>(gt ps i).1)=_
   unfold c137_3;refine(aF (Int.lt_irrefl _)).trans ?_;exact congrArg (fun l:List bB=>(rV K22 (l,()):Option Out)) (dR (fun r:cV=>r.1) ps)
 exact Ev.eq (fun aA=>by unfold T137;rfl) (lp.ev (i:=()) rfl)
theorem f360(s:ByteArray)(hs:ByteArray.size s≤1048576):Ran p 3 360 [vf K9 (s,())] (rO K22 (gZ s,())):=go360 fun n hn=>Ev.now fun aA=>by
 unfold T360;refine(aC (f331 ((ByteArray.size s:Nat):Int) n (by omega))).trans ?_;
 refine(aE ?_).trans rfl
 have h1:=bP ((ByteArray.size s:Nat):Int)
 have h2:=pT s
 show(aV ((ByteArray.size s:Nat):Int)).length+(sB s).length≤4294967296
 omega
theorem f271(s:ByteArray)(hs:ByteArray.size s≤1048576):Ran p 3 271 [vf K9 (s,())] (rO K22 (gZ s,())):=go271 fun n hn=>Ev.now fun aA=>by
 unfold T271;refine(aC (f138 ((ByteArray.size s:Nat):Int) n (by omega))).trans ?_
 have h1:=bP ((ByteArray.size s:Nat):Int)
 have h2:=pT s
 refine(aC (f137 [(aV ((ByteArray.size s:Nat):Int),()),(sB s,())] 1048576 (fun i hi=>by
  rcases i with _ | _ | i
  ·show(aV ((ByteArray.size s:Nat):Int)).length≤_;omega
  ·show(sB s).length≤_;omega
  ·exact absurd hi (by show ¬ (i+1+1<2);omega)) (by show 2*1048576≤4294967296;omega) (by show 2≤9223372036854775807;omega) n (by omega))).trans ?_
 exact congrArg (fun l:List bB=>(rV K22 (l,()):Option Out)) (by simp[gZ]:List.flatMap (fun r:cV=>r.1) [(aV ((ByteArray.size s:Nat):Int),()),(sB s,())]=gZ s)
theorem f334(bs:List bB)(hl:bs.length≤maxLen):Ran p 1 334 [vf K22 (bs,())] (rO K3 (crc bs,())):=go334 fun n hn=>by
 have inner:∀ (i:Nat),i<9223372036854775807→∀ x0:Int,It (fun aA rec3=>c334_7 (aG p n) aA bs (i:Int) rec3) (x0,(0:Int)) (fun rec3=>rec3 (fR 8 x0,((i+1:Nat):Int))):=by
  intro i hi x0
  refine It.run (fun k=>(fR k x0,(k:Int))) 8 (fun k hk aA rec3 rec=>?_) (It.stop fun aA rec3 rec=>?_)
  ·have hb:k<9223372036854775807:=by omega
   show c334_7 (aG p n) aA bs (i:Int) rec3 rec (fR k x0,(k:Int))=_
   unfold c334_7;dsimp only;rw[aI hb];refine(aE (by omega)).trans ?_;refine(aF (by decide)).trans ?_;refine(aF (by decide)).trans ?_
   show _=rec (v7 (fR k x0),((k+1:Nat):Int))
   unfold v7
   cases ((fR k x0).tmod 2==1)<;>rfl
  ·show c334_7 (aG p n) aA bs (i:Int) rec3 rec (fR 8 x0,((8:Nat):Int))=_
   unfold c334_7;dsimp only;rw[aI hi];exact aF (by decide)
 have outer:It (fun aA (_:Unit)=>c334_3 (aG p n) aA bs) ((4294967295:Int),(0:Int)) (fun _=>oI (crc bs)):=by
  refine It.runE (fun i=>(oX bs i,(i:Int))) bs.length (fun i hi=>?_) (It.stop fun aA a rec=>?_)
  ·have hb:i<9223372036854775807:=Nat.lt_of_lt_of_le hi hl
   obtain⟨N,hN⟩:=(inner i hb (uQ .i64 (oX bs i) (IntKind.i64.wrap (gt bs i).1))).all_i
   refine⟨N,fun aA hf a rec=>?_⟩
   show c334_3 (aG p n) aA bs rec (oX bs i,(i:Int))=_
   unfold c334_3;refine(aE (Int.ofNat_lt.2 hi)).trans ?_;refine bif_nn.trans ?_;refine(aK hi).trans ?_;exact hN aA hf rec
  ·show c334_3 (aG p n) aA bs rec (oX bs bs.length,(bs.length:Int))=_
   unfold c334_3;refine(aF (Int.lt_irrefl _)).trans ?_;rfl
 exact Ev.eq (fun aA=>by unfold T334;rfl) (outer.ev (i:=()) rfl)
theorem f272(bs:List bB)(hl:bs.length≤maxLen):Ran p 1 272 [vf K22 (bs,())] (rO K3 (crc bs,())):=go272 fun n hn=>by
 have inner:∀ (i:Nat),i<9223372036854775807→∀ x0:Int,It (fun aA rec3=>c272_7 (aG p n) aA bs (i:Int) rec3) (x0,(0:Int)) (fun rec3=>rec3 (fR 8 x0,((i+1:Nat):Int))):=by
  intro i hi x0
  refine It.run (fun k=>(fR k x0,(k:Int))) 8 (fun k hk aA rec3 rec=>?_) (It.stop fun aA rec3 rec=>?_)
  ·have hb:k<9223372036854775807:=by omega
   show c272_7 (aG p n) aA bs (i:Int) rec3 rec (fR k x0,(k:Int))=_
   unfold c272_7;dsimp only;rw[aI hb];refine(aE (by omega)).trans ?_;refine(aF (by decide)).trans ?_;refine(aF (by decide)).trans ?_
   show _=rec (v7 (fR k x0),((k+1:Nat):Int))
   unfold v7
   cases ((fR k x0).tmod 2==1)<;>rfl
  ·show c272_7 (aG p n) aA bs (i:Int) rec3 rec (fR 8 x0,((8:Nat):Int))=_
   unfold c272_7;dsimp only;rw[aI hi];exact aF (by decide)
 have outer:It (fun aA (_:Unit)=>c272_3 (aG p n) aA bs) ((4294967295:Int),(0:Int)) (fun _=>oI (crc bs)):=by
  refine It.runE (fun i=>(oX bs i,(i:Int))) bs.length (fun i hi=>?_) (It.stop fun aA a rec=>?_)
  ·have hb:i<9223372036854775807:=Nat.lt_of_lt_of_le hi hl
   obtain⟨N,hN⟩:=(inner i hb (uQ .i64 (oX bs i) (IntKind.i64.wrap (gt bs i).1))).all_i
   refine⟨N,fun aA hf a rec=>?_⟩
   show c272_3 (aG p n) aA bs rec (oX bs i,(i:Int))=_
   unfold c272_3;refine(aE (Int.ofNat_lt.2 hi)).trans ?_;refine bif_nn.trans ?_;refine(aK hi).trans ?_;exact hN aA hf rec
  ·show c272_3 (aG p n) aA bs rec (oX bs bs.length,(bs.length:Int))=_
   unfold c272_3;refine(aF (Int.lt_irrefl _)).trans ?_;rfl
 exact Ev.eq (fun aA=>by unfold T272;rfl) (outer.ev (i:=()) rfl)
theorem f330(x:Int):Ran p 3 330 [vf K3 (x,())] (rO K3 (cJ x,())):=go330 fun n hn=>Ev.now fun aA=>by
 unfold T330 cJ;refine(aC (f250 x n (by omega))).trans ?_
 cases fX x with
 | false=>rfl
 | true=>
  refine(aL rfl).trans ?_
  refine(aC (f331 x n (by omega))).trans ?_;refine(aC (f334 (aV x) (Nat.le_trans (bP x) (by decide)) n (by omega))).trans ?_;refine(aF (by decide)).trans ?_;rfl
theorem f322(x:Int):Ran p 3 322 [vf K3 (x,())] (rO K3 (cJ x,())):=go322 fun n hn=>Ev.now fun aA=>by
 unfold T322 cJ;refine(aC (f123 x n (by omega))).trans ?_
 cases fX x with
 | false=>rfl
 | true=>
  refine(aL rfl).trans ?_
  refine(aC (f138 x n (by omega))).trans ?_;refine(aC (f272 (aV x) (Nat.le_trans (bP x) (by decide)) n (by omega))).trans ?_;refine(aF (by decide)).trans ?_;rfl
theorem f329(ls:List bB)(x:Int)(hl:ls.length≤maxLen):Ran p 1 329 [vf K28 (ls,()), vf K3 (x,())] (rO K4 (gJ ls x,())):=go329 fun n hn=>by
 have lp:It (fun aA (_:Unit)=>c329_2 (aG p n) aA ls x) (0:Int) (fun _=>oB (gJ ls x)):=by
  rw[AY]
  refine It.anyB ls.length _ (fun i hi aA a rec=>?_) (fun aA a rec=>?_)
  ·have hb:i<9223372036854775807:=Nat.lt_of_lt_of_le hi hl
   show c329_2 (aG p n) aA ls x rec (i:Int)=_
   unfold c329_2;rw[aI hb];refine(aE (Int.ofNat_lt.2 hi)).trans ?_;refine bif_nn.trans ?_;refine(aK hi).trans ?_;rfl
  ·show c329_2 (aG p n) aA ls x rec (ls.length:Int)=_
   unfold c329_2;refine(aF (Int.lt_irrefl _)).trans ?_;rfl
 exact Ev.eq (fun aA=>by unfold T329;rfl) (lp.ev (i:=()) rfl)
theorem f356(ls:List bB)(x:Int)(hl:ls.length≤maxLen):Ran p 1 356 [vf K28 (ls,()), vf K3 (x,())] (rO K3 (GX ls x,())):=go356 fun n hn=>by
 have lp:It (fun aA (_:Unit)=>c356_2 (aG p n) aA ls x) (0:Int) (fun _=>oI (GX ls x)):=by
  have:=It.first (c:=fun aA (_:Unit)=>c356_2 (aG p n) aA ls x) (fun i=>(i:Int)) ls.length (fun i=>x==(gt ls i).1) (fun i _=>oI (i:Int)) (fun _=>oI (-1)) (fun i hi hp aA a rec=>?_) (fun i hi hp=>It.stop fun aA a rec=>?_) (It.stop fun aA a rec=>?_)
  ·revert this;unfold GX
   cases (List.range ls.length).find? (fun i=>x==(gt ls i).1)<;>exact fun h=>h
  ·have hb:i<9223372036854775807:=Nat.lt_of_lt_of_le hi hl
   show c356_2 (aG p n) aA ls x rec (i:Int)=_
   unfold c356_2;rw[aI hb];refine(aE (Int.ofNat_lt.2 hi)).trans ?_;refine bif_nn.trans ?_;refine(aK hi).trans ?_;exact aL hp
  ·show c356_2 (aG p n) aA ls x rec (i:Int)=_
   unfold c356_2;refine(aE (Int.ofNat_lt.2 hi)).trans ?_;refine bif_nn.trans ?_;refine(aK hi).trans ?_;exact aN hp
  ·show c356_2 (aG p n) aA ls x rec (ls.length:Int)=_
   unfold c356_2;refine(aF (Int.lt_irrefl _)).trans ?_;rfl
 exact Ev.eq (fun aA=>by unfold T356;rfl) (lp.ev (i:=()) rfl)
theorem f321(ls:List bB)(x:Int)(hl:ls.length≤maxLen):Ran p 2 321 [vf K28 (ls,()), vf K3 (x,())] (rO K4 (gJ ls x,())):=go321 fun n hn=>Ev.now fun aA=>by
 unfold T321;refine(aC (f356 ls x hl n (by omega))).trans ?_;exact congrArg (fun b:Bool=>(rV K4 (b,()):Option Out)) (GW ls x)
theorem f261(s:aM)(ls:List bB)(hl:ls.length≤maxLen)(h1:s.1.length≤1000)(h2:s.2.1.length≤1000):Ran p 4 261 [va K27 s, vf K28 (ls,())] (rO K27 (g9 s ls)):=go261 fun n hn=>by
 have inner:∀ v:List cE,It (fun aA (_:Unit)=>c261_8 (aG p n) aA s ls v) ((0:Int),([]:List aY)) (fun _=>rV K27 (v,s.2.1.filter (fun f=>gJ ls (cJ f.1)),())):=by
  intro v
  refine It.accu (α:=aY) [] (fun i=>bif gJ ls (cJ (gt s.2.1 i).1)then[gt s.2.1 i] else[]) s.2.1.length 1 (fun i hi=>by cases gJ ls (cJ (gt s.2.1 i).1)<;>simp) (fun i hi acc ha aA a rec=>?_) (It.stop fun aA a rec=>?_)
  ·have hb:i<9223372036854775807:=by omega
   show c261_8 (aG p n) aA s ls v rec ((i:Int),acc)=_
   unfold c261_8;dsimp only;rw[aI hb];refine(aE (Int.ofNat_lt.2 hi)).trans ?_;refine bif_nn.trans ?_;refine(aK hi).trans ?_;refine(aC (f330 (gt s.2.1 i).1 n (by omega))).trans ?_;refine(aC (f329 ls (cJ (gt s.2.1 i).1) hl n (by omega))).trans ?_
   cases hq:gJ ls (cJ (gt s.2.1 i).1)with
   | false=>exact(congrArg (fun l:List aY=>rec (((i+1:Nat):Int),l)) (List.append_nil acc).symm:_)
   | true=>refine(aN rfl).trans ?_;refine bif_nn.trans ?_;refine(aK hi).trans ?_;refine(aE (by rw[hq] at ha;have:acc.length+1≤0+s.2.1.length*1:=ha;show acc.length+1≤4294967296;omega)).trans ?_;rfl
  ·show c261_8 (aG p n) aA s ls v rec ((s.2.1.length:Int),bI (α:=aY) s.2.1.length (fun i=>bif gJ ls (cJ (gt s.2.1 i).1)then[gt s.2.1 i] else[]))=_
   unfold c261_8;refine(aF (Int.lt_irrefl _)).trans ?_;exact congrArg (fun l:List aY=>(rV K27 (v,l,()):Option Out)) ((dR (fun f:aY=>bif gJ ls (cJ f.1)then[f] else[]) s.2.1).trans (jO _ _))
 have outer:It (fun aA (_:Unit)=>c261_3 (aG p n) aA s ls) ((0:Int),([]:List cE)) (fun _=>rV K27 (g9 s ls)):=by
  refine It.accu (α:=cE) [] (fun i=>bif gJ ls (cJ (gt s.1 i).1)then[gt s.1 i] else[]) s.1.length 1 (fun i hi=>by cases gJ ls (cJ (gt s.1 i).1)<;>simp) (fun i hi acc ha aA a rec=>?_) (It.stopE (T:=fun aA _=>iter (c261_8 (aG p n) aA s ls (s.1.filter (fun x=>gJ ls (cJ x.1)))) aA ((0:Int),([]:List aY))) (fun aA a rec=>?_) (inner _).all_i)
  ·have hb:i<9223372036854775807:=by omega
   show c261_3 (aG p n) aA s ls rec ((i:Int),acc)=_
   unfold c261_3;dsimp only;rw[aI hb];refine(aE (Int.ofNat_lt.2 hi)).trans ?_;refine bif_nn.trans ?_;refine(aK hi).trans ?_;refine(aC (f330 (gt s.1 i).1 n (by omega))).trans ?_;refine(aC (f329 ls (cJ (gt s.1 i).1) hl n (by omega))).trans ?_
   cases hq:gJ ls (cJ (gt s.1 i).1)with
   | false=>exact(congrArg (fun l:List cE=>rec (((i+1:Nat):Int),l)) (List.append_nil acc).symm:_)
   | true=>refine(aN rfl).trans ?_;refine bif_nn.trans ?_;refine(aK hi).trans ?_;refine(aE (by rw[hq] at ha;have:acc.length+1≤0+s.1.length*1:=ha;show acc.length+1≤4294967296;omega)).trans ?_;rfl
  ·show c261_3 (aG p n) aA s ls rec ((s.1.length:Int),bI (α:=cE) s.1.length (fun i=>bif gJ ls (cJ (gt s.1 i).1)then[gt s.1 i] else[]))=_
   unfold c261_3;refine(aF (Int.lt_irrefl _)).trans ?_;exact congrArg (fun l:List cE=>iter (c261_8 (aG p n) aA s ls l) aA ((0:Int),([]:List aY))) ((dR (fun f:cE=>bif gJ ls (cJ f.1)then[f] else[]) s.1).trans (jO _ _))
 exact Ev.eq (fun aA=>by unfold T261;rfl) (outer.ev (i:=()) rfl)
theorem f241(s:aM)(ls:List bB)(hl:ls.length≤maxLen)(h1:s.1.length≤1000)(h2:s.2.1.length≤1000)(hok:bA s=true):Ran p 4 241 [va K27 s, vf K28 (ls,())] (rO K27 (g9 s ls)):=go241 fun n hn=>by
 have inner:∀ v:List cE,It (fun aA (_:Unit)=>c241_11 (aG p n) aA s ls v) ((0:Int),([]:List aY)) (fun _=>rV K27 (v,s.2.1.filter (fun f=>gJ ls (cJ f.1)),())):=by
  intro v
  refine It.accu (α:=aY) [] (fun i=>bif gJ ls (cJ (gt s.2.1 i).1)then[gt s.2.1 i] else[]) s.2.1.length 1 (fun i hi=>by cases gJ ls (cJ (gt s.2.1 i).1)<;>simp) (fun i hi acc ha aA a rec=>?_) (It.stop fun aA a rec=>?_)
  ·have hb:i<9223372036854775807:=by omega
   show c241_11 (aG p n) aA s ls v rec ((i:Int),acc)=_
   unfold c241_11;dsimp only;rw[aI hb];refine(aE (Int.ofNat_lt.2 hi)).trans ?_;refine bif_nn.trans ?_;refine(aK hi).trans ?_;refine(aC (f322 (gt s.2.1 i).1 n (by omega))).trans ?_;refine(aC (f321 ls (cJ (gt s.2.1 i).1) hl n (by omega))).trans ?_
   cases hq:gJ ls (cJ (gt s.2.1 i).1)with
   | false=>exact(congrArg (fun l:List aY=>rec (((i+1:Nat):Int),l)) (List.append_nil acc).symm:_)
   | true=>refine(aN rfl).trans ?_;refine(aE (by rw[hq] at ha;have:acc.length+1≤0+s.2.1.length*1:=ha;show acc.length+1≤4294967296;omega)).trans ?_;rfl
  ·show c241_11 (aG p n) aA s ls v rec ((s.2.1.length:Int),bI (α:=aY) s.2.1.length (fun i=>bif gJ ls (cJ (gt s.2.1 i).1)then[gt s.2.1 i] else[]))=_
   unfold c241_11;refine(aF (Int.lt_irrefl _)).trans ?_;exact congrArg (fun l:List aY=>(rV K27 (v,l,()):Option Out)) ((dR (fun f:aY=>bif gJ ls (cJ f.1)then[f] else[]) s.2.1).trans (jO _ _))
 have outer:It (fun aA (_:Unit)=>c241_5 (aG p n) aA s ls) ((0:Int),([]:List cE)) (fun _=>rV K27 (g9 s ls)):=by
  refine It.accu (α:=cE) [] (fun i=>bif gJ ls (cJ (gt s.1 i).1)then[gt s.1 i] else[]) s.1.length 1 (fun i hi=>by cases gJ ls (cJ (gt s.1 i).1)<;>simp) (fun i hi acc ha aA a rec=>?_) (It.stopE (T:=fun aA _=>iter (c241_11 (aG p n) aA s ls (s.1.filter (fun x=>gJ ls (cJ x.1)))) aA ((0:Int),([]:List aY))) (fun aA a rec=>?_) (inner _).all_i)
  ·have hb:i<9223372036854775807:=by omega
   show c241_5 (aG p n) aA s ls rec ((i:Int),acc)=_
   unfold c241_5;dsimp only;rw[aI hb];refine(aE (Int.ofNat_lt.2 hi)).trans ?_;refine bif_nn.trans ?_;refine(aK hi).trans ?_;refine(aC (f322 (gt s.1 i).1 n (by omega))).trans ?_;refine(aC (f321 ls (cJ (gt s.1 i).1) hl n (by omega))).trans ?_
   cases hq:gJ ls (cJ (gt s.1 i).1)with
   | false=>exact(congrArg (fun l:List cE=>rec (((i+1:Nat):Int),l)) (List.append_nil acc).symm:_)
   | true=>refine(aN rfl).trans ?_;refine(aE (by rw[hq] at ha;have:acc.length+1≤0+s.1.length*1:=ha;show acc.length+1≤4294967296;omega)).trans ?_;rfl
  ·show c241_5 (aG p n) aA s ls rec ((s.1.length:Int),bI (α:=cE) s.1.length (fun i=>bif gJ ls (cJ (gt s.1 i).1)then[gt s.1 i] else[]))=_
   unfold c241_5;refine(aF (Int.lt_irrefl _)).trans ?_;exact congrArg (fun l:List cE=>iter (c241_11 (aG p n) aA s ls l) aA ((0:Int),([]:List aY))) ((dR (fun f:cE=>bif gJ ls (cJ f.1)then[f] else[]) s.1).trans (jO _ _))
 exact Ev.eq (fun aA=>by unfold T241;refine(aC (f101 s (Nat.le_trans h1 (by decide)) (Nat.le_trans h2 (by decide)) n (by omega))).trans ?_;rw[hok];rfl) (outer.ev (i:=()) rfl)
end Go.Abs.Xz
