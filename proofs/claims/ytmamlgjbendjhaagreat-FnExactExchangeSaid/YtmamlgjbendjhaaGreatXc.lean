/- What the functions of this program answer, part c. -/
import Derived.Test.YtmamlgjbendjhaaGreatXb
import Derived.Test.YtmamlgjbendjhaaGreatW2
set_option linter.unusedVariables false
namespace Go.Abs.Xz
open Go Go.Abs
theorem f93(a b:List aZ)(ha:a.length≤maxLen):Ran p 1 93 [.val false ⟨K28,(a,())⟩, .val false ⟨K28,(b,())⟩] ⟨[⟨K4,(jJ a b,())⟩],[]⟩:=go93 fun n hn=>by
 by_cases he:a.length=b.length
 ·have e:(((a.length:Nat):Int) != ((b.length:Nat):Int))=false:=by simp[he]
  have e2:jJ a b=bW a.length (fun i=>(gt a i).1==(gt b i).1):=by unfold jJ;rw[he];simp
  rw[e2]
  have lp:It (fun aA (_:Unit)=>c93_4 (aG p n) aA a b) (0:Int) (fun _=>oB (bW a.length (fun i=>(gt a i).1==(gt b i).1))):=by
   refine cU (It.allB a.length _ true (fun i hi aA a' rec=>?_) (It.stop fun aA a' rec=>?_))
   ·have hb:i<9223372036854775807:=Nat.lt_of_lt_of_le hi ha
    show c93_4 (aG p n) aA a b rec (i:Int)=_
    unfold c93_4;rw[aJ hb];refine(aE (Int.ofNat_lt.2 hi)).trans ?_;refine bif_nn.trans ?_;refine(aL hi).trans ?_;refine bif_nn.trans ?_;refine(aL (show i<b.length from he▸hi)).trans ?_;exact fin
   ·show c93_4 (aG p n) aA a b rec (a.length:Int)=_
    unfold c93_4;refine(aF (Int.lt_irrefl _)).trans ?_;rfl
  exact Ev.eq (fun aA=>by unfold T93;exact aK e) (lp.ev (i:=()) rfl)
 ·have e:(((a.length:Nat):Int) != ((b.length:Nat):Int))=true:=by simp;omega
  have e2:jJ a b=false:=by unfold jJ;rw[show(((a.length:Nat):Int)==((b.length:Nat):Int))=false from by simp;omega];rfl
  rw[e2]
  exact Ev.now fun aA=>by unfold T93;exact aO e
theorem f244(a b:List aZ)(ha:a.length≤maxLen):Ran p 1 244 [.val false ⟨K28,(a,())⟩, .val false ⟨K28,(b,())⟩] ⟨[⟨K4,(jJ a b,())⟩],[]⟩:=go244 fun n hn=>by
 by_cases he:a.length=b.length
 ·have e:(((a.length:Nat):Int) != ((b.length:Nat):Int))=false:=by simp[he]
  have e2:jJ a b=bW a.length (fun i=>(gt a i).1==(gt b i).1):=by unfold jJ;rw[he];simp
  rw[e2]
  have lp:It (fun aA (_:Unit)=>c244_4 (aG p n) aA a b) (0:Int) (fun _=>oB (bW a.length (fun i=>(gt a i).1==(gt b i).1))):=by
   refine cU (It.allB a.length _ true (fun i hi aA a' rec=>?_) (It.stop fun aA a' rec=>?_))
   ·have hb:i<9223372036854775807:=Nat.lt_of_lt_of_le hi ha
    show c244_4 (aG p n) aA a b rec (i:Int)=_
    unfold c244_4;rw[aJ hb];refine(aE (Int.ofNat_lt.2 hi)).trans ?_;refine bif_nn.trans ?_;refine(aL hi).trans ?_;refine bif_nn.trans ?_;refine(aL (show i<b.length from he▸hi)).trans ?_;exact fin
   ·show c244_4 (aG p n) aA a b rec (a.length:Int)=_
    unfold c244_4;refine(aF (Int.lt_irrefl _)).trans ?_;rfl
  exact Ev.eq (fun aA=>by unfold T244;exact aK e) (lp.ev (i:=()) rfl)
 ·have e:(((a.length:Nat):Int) != ((b.length:Nat):Int))=true:=by simp;omega
  have e2:jJ a b=false:=by unfold jJ;rw[show(((a.length:Nat):Int)==((b.length:Nat):Int))=false from by simp;omega];rfl
  rw[e2]
  exact Ev.now fun aA=>by unfold T244;exact aO e
theorem f91(a b:jL)(ha:a.1.length≤maxLen):Ran p 2 91 [.val true ⟨K30,a⟩, .val true ⟨K30,b⟩] ⟨[⟨K4,(jJ a.1 b.1&&a.2.1==b.2.1,())⟩],[]⟩:=go91 fun n hn=>Ev.now fun aA=>by
 unfold T91;refine(aD (f93 a.1 b.1 ha n (by omega))).trans ?_;refine d9 fun _=>?_;rfl
theorem f102(a b:jL)(ha:a.1.length≤maxLen):Ran p 2 102 [.val true ⟨K30,a⟩, .val true ⟨K30,b⟩] ⟨[⟨K4,(jJ a.1 b.1&&a.2.1==b.2.1,())⟩],[]⟩:=go102 fun n hn=>Ev.now fun aA=>by
 unfold T102;refine(aD (f244 a.1 b.1 ha n (by omega))).trans ?_;refine d9 fun _=>?_;rfl
theorem f331(x:Int):Ran p 2 331 [.val false ⟨K3,(x,())⟩] ⟨[⟨K22,(aU x,())⟩],[]⟩:=go331 fun n hn=>by
 cases hx:inB x 0 2147483647 with
 | false=>
  refine Ev.now fun aA=>?_
  unfold T331 aU;refine(aD (f211 x 0 2147483647 n (by omega))).trans ?_;rw[hx];rfl
 | true=>
  have hr:=bH.1 hx
  obtain⟨m,rfl⟩:∃ m:Nat,x=m:=⟨x.toNat,by omega⟩
  have lp:It (fun aA (_:Unit)=>c331_4 (aG p n) aA) ((m:Int),([]:List aZ)) (fun _=>some ⟨[⟨K22,(([]:List aZ)++pV m,())⟩],[]⟩):=by
   refine uE (fun l=>some ⟨[⟨K22,(l,())⟩],[]⟩) (fun m hm pre hp aA a rec=>?_) (fun m hm pre hp aA a rec=>?_) 5 m [] (by omega) (by omega) (by decide)
   ·show c331_4 (aG p n) aA rec ((m:Int),pre)=_
    unfold c331_4;refine(aF (by show ¬ ((m:Int)>127);omega)).trans ?_;refine(aE (by show pre.length+1≤4294967296;omega)).trans ?_;rfl
   ·show c331_4 (aG p n) aA rec ((m:Int),pre)=_
    unfold c331_4;refine(aE (by show(m:Int)>127;omega)).trans ?_;refine(aF (by decide)).trans ?_;refine(aE (by show pre.length+1≤4294967296;omega)).trans ?_;refine(aF (by decide)).trans ?_;rfl
  have e2:aU (m:Int)=pV m:=by unfold aU;rw[hx];rfl
  rw[e2]
  exact Ev.eq (fun aA=>by unfold T331;refine(aD (f211 (m:Int) 0 2147483647 n (by omega))).trans ?_;rw[hx];rfl) (lp.ev (i:=()) rfl)
theorem f138(x:Int):Ran p 2 138 [.val false ⟨K3,(x,())⟩] ⟨[⟨K22,(aU x,())⟩],[]⟩:=go138 fun n hn=>by
 cases hx:inB x 0 2147483647 with
 | false=>
  refine Ev.now fun aA=>?_
  unfold T138 aU;refine(aD (f100 x 0 2147483647 n (by omega))).trans ?_;rw[hx];rfl
 | true=>
  have hr:=bH.1 hx
  obtain⟨m,rfl⟩:∃ m:Nat,x=m:=⟨x.toNat,by omega⟩
  have lp:It (fun aA (_:Unit)=>c138_4 (aG p n) aA) ((m:Int),([]:List aZ)) (fun _=>some ⟨[⟨K22,(([]:List aZ)++pV m,())⟩],[]⟩):=by
   refine uE (fun l=>some ⟨[⟨K22,(l,())⟩],[]⟩) (fun m hm pre hp aA a rec=>?_) (fun m hm pre hp aA a rec=>?_) 5 m [] (by omega) (by omega) (by decide)
   ·show c138_4 (aG p n) aA rec ((m:Int),pre)=_
    unfold c138_4;refine(aF (by show ¬ ((m:Int)≥128);omega)).trans ?_;refine(aE (by show pre.length+1≤4294967296;omega)).trans ?_;rfl
   ·show c138_4 (aG p n) aA rec ((m:Int),pre)=_
    unfold c138_4;refine(aE (by show(m:Int)≥128;omega)).trans ?_;refine(aF (by decide)).trans ?_;refine(aE (by show pre.length+1≤4294967296;omega)).trans ?_;refine(aF (by decide)).trans ?_;rfl
  have e2:aU (m:Int)=pV m:=by unfold aU;rw[hx];rfl
  rw[e2]
  exact Ev.eq (fun aA=>by unfold T138;refine(aD (f100 (m:Int) 0 2147483647 n (by omega))).trans ?_;rw[hx];rfl) (lp.ev (i:=()) rfl)
theorem f137(ps:List cS)(L:Nat)(hL:∀ i,i<ps.length→(gt ps i).1.length≤L)(hb:ps.length*L≤bound)(hp:ps.length≤maxLen):Ran p 1 137 [.val false ⟨K62,(ps,())⟩] ⟨[⟨K22,(ps.flatMap (fun r=>r.1),())⟩],[]⟩:=go137 fun n hn=>by
 have lp:It (fun aA (_:Unit)=>c137_3 (aG p n) aA ps) ((0:Int),([]:List aZ)) (fun _=>some ⟨[⟨K22,(ps.flatMap (fun r=>r.1),())⟩],[]⟩):=by
  refine It.accu [] (fun i=>(gt ps i).1) ps.length L hL (fun i hi acc ha aA a rec=>?_) (It.stop fun aA a rec=>?_)
  ·have hb':i<9223372036854775807:=Nat.lt_of_lt_of_le hi hp
   show c137_3 (aG p n) aA ps rec ((i:Int),acc)=_
   unfold c137_3;dsimp only;rw[aJ hb'];refine(aE (Int.ofNat_lt.2 hi)).trans ?_;refine bif_nn.trans ?_;refine(aL hi).trans ?_;refine(aE (Nat.le_trans ha (by simpa using hb))).trans ?_;rfl
  ·show c137_3 (aG p n) aA ps rec ((ps.length:Int),bF ps.length fun i=>(gt ps i).1)=_
   unfold c137_3;refine(aF (Int.lt_irrefl _)).trans ?_;exact congrArg (fun l:List aZ=>(some ⟨[⟨K22,(l,())⟩],[]⟩:Option Out)) (dK (fun r:cS=>r.1) ps)
 exact Ev.eq (fun aA=>by unfold T137;rfl) (lp.ev (i:=()) rfl)
theorem f360(s:ByteArray)(hs:ByteArray.size s≤1048576):Ran p 3 360 [.val false ⟨K9,(s,())⟩] ⟨[⟨K22,(gR s,())⟩],[]⟩:=go360 fun n hn=>Ev.now fun aA=>by
 unfold T360;refine(aD (f331 ((ByteArray.size s:Nat):Int) n (by omega))).trans ?_;
 refine(aE ?_).trans rfl
 have h1:=bM ((ByteArray.size s:Nat):Int)
 have h2:=pA s
 show(aU ((ByteArray.size s:Nat):Int)).length+(q0 s).length≤4294967296
 omega
theorem f271(s:ByteArray)(hs:ByteArray.size s≤1048576):Ran p 3 271 [.val false ⟨K9,(s,())⟩] ⟨[⟨K22,(gR s,())⟩],[]⟩:=go271 fun n hn=>Ev.now fun aA=>by
 unfold T271;refine(aD (f138 ((ByteArray.size s:Nat):Int) n (by omega))).trans ?_
 have h1:=bM ((ByteArray.size s:Nat):Int)
 have h2:=pA s
 refine(aD (f137 [(aU ((ByteArray.size s:Nat):Int),()),(q0 s,())] 1048576 (fun i hi=>by
  rcases i with _ | _ | i
  ·show(aU ((ByteArray.size s:Nat):Int)).length≤_;omega
  ·show(q0 s).length≤_;omega
  ·exact absurd hi (by show ¬ (i+1+1<2);omega)) (by show 2*1048576≤4294967296;omega) (by show 2≤9223372036854775807;omega) n (by omega))).trans ?_
 exact congrArg (fun l:List aZ=>(some ⟨[⟨K22,(l,())⟩],[]⟩:Option Out)) (by simp[gR]:List.flatMap (fun r:cS=>r.1) [(aU ((ByteArray.size s:Nat):Int),()),(q0 s,())]=gR s)
theorem f334(bs:List aZ)(hl:bs.length≤maxLen):Ran p 1 334 [.val false ⟨K22,(bs,())⟩] ⟨[⟨K3,(crc bs,())⟩],[]⟩:=go334 fun n hn=>by
 have inner:∀ (i:Nat),i<9223372036854775807→∀ x0:Int,It (fun aA rec3=>c334_7 (aG p n) aA bs (i:Int) rec3) (x0,(0:Int)) (fun rec3=>rec3 (fJ 8 x0,((i+1:Nat):Int))):=by
  intro i hi x0
  refine It.run (fun k=>(fJ k x0,(k:Int))) 8 (fun k hk aA rec3 rec=>?_) (It.stop fun aA rec3 rec=>?_)
  ·have hb:k<9223372036854775807:=by omega
   show c334_7 (aG p n) aA bs (i:Int) rec3 rec (fJ k x0,(k:Int))=_
   unfold c334_7;dsimp only;rw[aJ hb];refine(aE (by omega)).trans ?_;refine(aF (by decide)).trans ?_;refine(aF (by decide)).trans ?_
   show _=rec (u5 (fJ k x0),((k+1:Nat):Int))
   unfold u5
   cases ((fJ k x0).tmod 2==1)<;>rfl
  ·show c334_7 (aG p n) aA bs (i:Int) rec3 rec (fJ 8 x0,((8:Nat):Int))=_
   unfold c334_7;dsimp only;rw[aJ hi];exact aF (by decide)
 have outer:It (fun aA (_:Unit)=>c334_3 (aG p n) aA bs) ((4294967295:Int),(0:Int)) (fun _=>oI (crc bs)):=by
  refine It.runE (fun i=>(n9 bs i,(i:Int))) bs.length (fun i hi=>?_) (It.stop fun aA a rec=>?_)
  ·have hb:i<9223372036854775807:=Nat.lt_of_lt_of_le hi hl
   obtain⟨N,hN⟩:=(inner i hb (tO .i64 (n9 bs i) (IntKind.i64.wrap (gt bs i).1))).all_i
   refine⟨N,fun aA hf a rec=>?_⟩
   show c334_3 (aG p n) aA bs rec (n9 bs i,(i:Int))=_
   unfold c334_3;refine(aE (Int.ofNat_lt.2 hi)).trans ?_;refine bif_nn.trans ?_;refine(aL hi).trans ?_;exact hN aA hf rec
  ·show c334_3 (aG p n) aA bs rec (n9 bs bs.length,(bs.length:Int))=_
   unfold c334_3;refine(aF (Int.lt_irrefl _)).trans ?_;rfl
 exact Ev.eq (fun aA=>by unfold T334;rfl) (outer.ev (i:=()) rfl)
theorem f272(bs:List aZ)(hl:bs.length≤maxLen):Ran p 1 272 [.val false ⟨K22,(bs,())⟩] ⟨[⟨K3,(crc bs,())⟩],[]⟩:=go272 fun n hn=>by
 have inner:∀ (i:Nat),i<9223372036854775807→∀ x0:Int,It (fun aA rec3=>c272_7 (aG p n) aA bs (i:Int) rec3) (x0,(0:Int)) (fun rec3=>rec3 (fJ 8 x0,((i+1:Nat):Int))):=by
  intro i hi x0
  refine It.run (fun k=>(fJ k x0,(k:Int))) 8 (fun k hk aA rec3 rec=>?_) (It.stop fun aA rec3 rec=>?_)
  ·have hb:k<9223372036854775807:=by omega
   show c272_7 (aG p n) aA bs (i:Int) rec3 rec (fJ k x0,(k:Int))=_
   unfold c272_7;dsimp only;rw[aJ hb];refine(aE (by omega)).trans ?_;refine(aF (by decide)).trans ?_;refine(aF (by decide)).trans ?_
   show _=rec (u5 (fJ k x0),((k+1:Nat):Int))
   unfold u5
   cases ((fJ k x0).tmod 2==1)<;>rfl
  ·show c272_7 (aG p n) aA bs (i:Int) rec3 rec (fJ 8 x0,((8:Nat):Int))=_
   unfold c272_7;dsimp only;rw[aJ hi];exact aF (by decide)
 have outer:It (fun aA (_:Unit)=>c272_3 (aG p n) aA bs) ((4294967295:Int),(0:Int)) (fun _=>oI (crc bs)):=by
  refine It.runE (fun i=>(n9 bs i,(i:Int))) bs.length (fun i hi=>?_) (It.stop fun aA a rec=>?_)
  ·have hb:i<9223372036854775807:=Nat.lt_of_lt_of_le hi hl
   obtain⟨N,hN⟩:=(inner i hb (tO .i64 (n9 bs i) (IntKind.i64.wrap (gt bs i).1))).all_i
   refine⟨N,fun aA hf a rec=>?_⟩
   show c272_3 (aG p n) aA bs rec (n9 bs i,(i:Int))=_
   unfold c272_3;refine(aE (Int.ofNat_lt.2 hi)).trans ?_;refine bif_nn.trans ?_;refine(aL hi).trans ?_;exact hN aA hf rec
  ·show c272_3 (aG p n) aA bs rec (n9 bs bs.length,(bs.length:Int))=_
   unfold c272_3;refine(aF (Int.lt_irrefl _)).trans ?_;rfl
 exact Ev.eq (fun aA=>by unfold T272;rfl) (outer.ev (i:=()) rfl)
theorem f330(x:Int):Ran p 3 330 [.val false ⟨K3,(x,())⟩] ⟨[⟨K3,(cF x,())⟩],[]⟩:=go330 fun n hn=>Ev.now fun aA=>by
 unfold T330 cF;refine(aD (f250 x n (by omega))).trans ?_
 cases fP x with
 | false=>rfl
 | true=>
  refine(aK rfl).trans ?_
  refine(aD (f331 x n (by omega))).trans ?_;refine(aD (f334 (aU x) (Nat.le_trans (bM x) (by decide)) n (by omega))).trans ?_;refine(aF (by decide)).trans ?_;rfl
theorem f322(x:Int):Ran p 3 322 [.val false ⟨K3,(x,())⟩] ⟨[⟨K3,(cF x,())⟩],[]⟩:=go322 fun n hn=>Ev.now fun aA=>by
 unfold T322 cF;refine(aD (f123 x n (by omega))).trans ?_
 cases fP x with
 | false=>rfl
 | true=>
  refine(aK rfl).trans ?_
  refine(aD (f138 x n (by omega))).trans ?_;refine(aD (f272 (aU x) (Nat.le_trans (bM x) (by decide)) n (by omega))).trans ?_;refine(aF (by decide)).trans ?_;rfl
theorem f329(ls:List aZ)(x:Int)(hl:ls.length≤maxLen):Ran p 1 329 [.val false ⟨K28,(ls,())⟩, .val false ⟨K3,(x,())⟩] ⟨[⟨K4,(gA ls x,())⟩],[]⟩:=go329 fun n hn=>by
 have lp:It (fun aA (_:Unit)=>c329_2 (aG p n) aA ls x) (0:Int) (fun _=>oB (gA ls x)):=by
  rw[zI]
  refine It.anyB ls.length _ (fun i hi aA a rec=>?_) (fun aA a rec=>?_)
  ·have hb:i<9223372036854775807:=Nat.lt_of_lt_of_le hi hl
   show c329_2 (aG p n) aA ls x rec (i:Int)=_
   unfold c329_2;rw[aJ hb];refine(aE (Int.ofNat_lt.2 hi)).trans ?_;refine bif_nn.trans ?_;refine(aL hi).trans ?_;rfl
  ·show c329_2 (aG p n) aA ls x rec (ls.length:Int)=_
   unfold c329_2;refine(aF (Int.lt_irrefl _)).trans ?_;rfl
 exact Ev.eq (fun aA=>by unfold T329;rfl) (lp.ev (i:=()) rfl)
theorem f356(ls:List aZ)(x:Int)(hl:ls.length≤maxLen):Ran p 1 356 [.val false ⟨K28,(ls,())⟩, .val false ⟨K3,(x,())⟩] ⟨[⟨K3,(FG ls x,())⟩],[]⟩:=go356 fun n hn=>by
 have lp:It (fun aA (_:Unit)=>c356_2 (aG p n) aA ls x) (0:Int) (fun _=>oI (FG ls x)):=by
  have:=It.first (c:=fun aA (_:Unit)=>c356_2 (aG p n) aA ls x) (fun i=>(i:Int)) ls.length (fun i=>x==(gt ls i).1) (fun i _=>oI (i:Int)) (fun _=>oI (-1)) (fun i hi hp aA a rec=>?_) (fun i hi hp=>It.stop fun aA a rec=>?_) (It.stop fun aA a rec=>?_)
  ·revert this;unfold FG
   cases (List.range ls.length).find? (fun i=>x==(gt ls i).1)<;>exact fun h=>h
  ·have hb:i<9223372036854775807:=Nat.lt_of_lt_of_le hi hl
   show c356_2 (aG p n) aA ls x rec (i:Int)=_
   unfold c356_2;rw[aJ hb];refine(aE (Int.ofNat_lt.2 hi)).trans ?_;refine bif_nn.trans ?_;refine(aL hi).trans ?_;exact aK hp
  ·show c356_2 (aG p n) aA ls x rec (i:Int)=_
   unfold c356_2;refine(aE (Int.ofNat_lt.2 hi)).trans ?_;refine bif_nn.trans ?_;refine(aL hi).trans ?_;exact aO hp
  ·show c356_2 (aG p n) aA ls x rec (ls.length:Int)=_
   unfold c356_2;refine(aF (Int.lt_irrefl _)).trans ?_;rfl
 exact Ev.eq (fun aA=>by unfold T356;rfl) (lp.ev (i:=()) rfl)
theorem f321(ls:List aZ)(x:Int)(hl:ls.length≤maxLen):Ran p 2 321 [.val false ⟨K28,(ls,())⟩, .val false ⟨K3,(x,())⟩] ⟨[⟨K4,(gA ls x,())⟩],[]⟩:=go321 fun n hn=>Ev.now fun aA=>by
 unfold T321;refine(aD (f356 ls x hl n (by omega))).trans ?_;exact congrArg (fun b:Bool=>(some ⟨[⟨K4,(b,())⟩],[]⟩:Option Out)) (FF ls x)
theorem f261(s:aM)(ls:List aZ)(hl:ls.length≤maxLen)(h1:s.1.length≤1000)(h2:s.2.1.length≤1000):Ran p 4 261 [.val true ⟨K27,s⟩, .val false ⟨K28,(ls,())⟩] ⟨[⟨K27,gS s ls⟩],[]⟩:=go261 fun n hn=>by
 have inner:∀ v:List cB,It (fun aA (_:Unit)=>c261_8 (aG p n) aA s ls v) ((0:Int),([]:List aV)) (fun _=>some ⟨[⟨K27,(v,s.2.1.filter (fun f=>gA ls (cF f.1)),())⟩],[]⟩):=by
  intro v
  refine It.accu (α:=aV) [] (fun i=>bif gA ls (cF (gt s.2.1 i).1)then[gt s.2.1 i] else[]) s.2.1.length 1 (fun i hi=>by cases gA ls (cF (gt s.2.1 i).1)<;>simp) (fun i hi acc ha aA a rec=>?_) (It.stop fun aA a rec=>?_)
  ·have hb:i<9223372036854775807:=by omega
   show c261_8 (aG p n) aA s ls v rec ((i:Int),acc)=_
   unfold c261_8;dsimp only;rw[aJ hb];refine(aE (Int.ofNat_lt.2 hi)).trans ?_;refine bif_nn.trans ?_;refine(aL hi).trans ?_;refine(aD (f330 (gt s.2.1 i).1 n (by omega))).trans ?_;refine(aD (f329 ls (cF (gt s.2.1 i).1) hl n (by omega))).trans ?_
   cases hq:gA ls (cF (gt s.2.1 i).1)with
   | false=>exact(congrArg (fun l:List aV=>rec (((i+1:Nat):Int),l)) (List.append_nil acc).symm:_)
   | true=>refine(aO rfl).trans ?_;refine bif_nn.trans ?_;refine(aL hi).trans ?_;refine(aE (by rw[hq] at ha;have:acc.length+1≤0+s.2.1.length*1:=ha;show acc.length+1≤4294967296;omega)).trans ?_;rfl
  ·show c261_8 (aG p n) aA s ls v rec ((s.2.1.length:Int),bF (α:=aV) s.2.1.length (fun i=>bif gA ls (cF (gt s.2.1 i).1)then[gt s.2.1 i] else[]))=_
   unfold c261_8;refine(aF (Int.lt_irrefl _)).trans ?_;exact congrArg (fun l:List aV=>(some ⟨[⟨K27,(v,l,())⟩],[]⟩:Option Out)) ((dK (fun f:aV=>bif gA ls (cF f.1)then[f] else[]) s.2.1).trans (jB _ _))
 have outer:It (fun aA (_:Unit)=>c261_3 (aG p n) aA s ls) ((0:Int),([]:List cB)) (fun _=>some ⟨[⟨K27,gS s ls⟩],[]⟩):=by
  refine It.accu (α:=cB) [] (fun i=>bif gA ls (cF (gt s.1 i).1)then[gt s.1 i] else[]) s.1.length 1 (fun i hi=>by cases gA ls (cF (gt s.1 i).1)<;>simp) (fun i hi acc ha aA a rec=>?_) (It.stopE (T:=fun aA _=>iter (c261_8 (aG p n) aA s ls (s.1.filter (fun x=>gA ls (cF x.1)))) aA ((0:Int),([]:List aV))) (fun aA a rec=>?_) (inner _).all_i)
  ·have hb:i<9223372036854775807:=by omega
   show c261_3 (aG p n) aA s ls rec ((i:Int),acc)=_
   unfold c261_3;dsimp only;rw[aJ hb];refine(aE (Int.ofNat_lt.2 hi)).trans ?_;refine bif_nn.trans ?_;refine(aL hi).trans ?_;refine(aD (f330 (gt s.1 i).1 n (by omega))).trans ?_;refine(aD (f329 ls (cF (gt s.1 i).1) hl n (by omega))).trans ?_
   cases hq:gA ls (cF (gt s.1 i).1)with
   | false=>exact(congrArg (fun l:List cB=>rec (((i+1:Nat):Int),l)) (List.append_nil acc).symm:_)
   | true=>refine(aO rfl).trans ?_;refine bif_nn.trans ?_;refine(aL hi).trans ?_;refine(aE (by rw[hq] at ha;have:acc.length+1≤0+s.1.length*1:=ha;show acc.length+1≤4294967296;omega)).trans ?_;rfl
  ·show c261_3 (aG p n) aA s ls rec ((s.1.length:Int),bF (α:=cB) s.1.length (fun i=>bif gA ls (cF (gt s.1 i).1)then[gt s.1 i] else[]))=_
   unfold c261_3;refine(aF (Int.lt_irrefl _)).trans ?_;exact congrArg (fun l:List cB=>iter (c261_8 (aG p n) aA s ls l) aA ((0:Int),([]:List aV))) ((dK (fun f:cB=>bif gA ls (cF f.1)then[f] else[]) s.1).trans (jB _ _))
 exact Ev.eq (fun aA=>by unfold T261;rfl) (outer.ev (i:=()) rfl)
theorem f241(s:aM)(ls:List aZ)(hl:ls.length≤maxLen)(h1:s.1.length≤1000)(h2:s.2.1.length≤1000)(hok:aY s=true):Ran p 4 241 [.val true ⟨K27,s⟩, .val false ⟨K28,(ls,())⟩] ⟨[⟨K27,gS s ls⟩],[]⟩:=go241 fun n hn=>by
 have inner:∀ v:List cB,It (fun aA (_:Unit)=>c241_11 (aG p n) aA s ls v) ((0:Int),([]:List aV)) (fun _=>some ⟨[⟨K27,(v,s.2.1.filter (fun f=>gA ls (cF f.1)),())⟩],[]⟩):=by
  intro v
  refine It.accu (α:=aV) [] (fun i=>bif gA ls (cF (gt s.2.1 i).1)then[gt s.2.1 i] else[]) s.2.1.length 1 (fun i hi=>by cases gA ls (cF (gt s.2.1 i).1)<;>simp) (fun i hi acc ha aA a rec=>?_) (It.stop fun aA a rec=>?_)
  ·have hb:i<9223372036854775807:=by omega
   show c241_11 (aG p n) aA s ls v rec ((i:Int),acc)=_
   unfold c241_11;dsimp only;rw[aJ hb];refine(aE (Int.ofNat_lt.2 hi)).trans ?_;refine bif_nn.trans ?_;refine(aL hi).trans ?_;refine(aD (f322 (gt s.2.1 i).1 n (by omega))).trans ?_;refine(aD (f321 ls (cF (gt s.2.1 i).1) hl n (by omega))).trans ?_
   cases hq:gA ls (cF (gt s.2.1 i).1)with
   | false=>exact(congrArg (fun l:List aV=>rec (((i+1:Nat):Int),l)) (List.append_nil acc).symm:_)
   | true=>refine(aO rfl).trans ?_;refine(aE (by rw[hq] at ha;have:acc.length+1≤0+s.2.1.length*1:=ha;show acc.length+1≤4294967296;omega)).trans ?_;rfl
  ·show c241_11 (aG p n) aA s ls v rec ((s.2.1.length:Int),bF (α:=aV) s.2.1.length (fun i=>bif gA ls (cF (gt s.2.1 i).1)then[gt s.2.1 i] else[]))=_
   unfold c241_11;refine(aF (Int.lt_irrefl _)).trans ?_;exact congrArg (fun l:List aV=>(some ⟨[⟨K27,(v,l,())⟩],[]⟩:Option Out)) ((dK (fun f:aV=>bif gA ls (cF f.1)then[f] else[]) s.2.1).trans (jB _ _))
 have outer:It (fun aA (_:Unit)=>c241_5 (aG p n) aA s ls) ((0:Int),([]:List cB)) (fun _=>some ⟨[⟨K27,gS s ls⟩],[]⟩):=by
  refine It.accu (α:=cB) [] (fun i=>bif gA ls (cF (gt s.1 i).1)then[gt s.1 i] else[]) s.1.length 1 (fun i hi=>by cases gA ls (cF (gt s.1 i).1)<;>simp) (fun i hi acc ha aA a rec=>?_) (It.stopE (T:=fun aA _=>iter (c241_11 (aG p n) aA s ls (s.1.filter (fun x=>gA ls (cF x.1)))) aA ((0:Int),([]:List aV))) (fun aA a rec=>?_) (inner _).all_i)
  ·have hb:i<9223372036854775807:=by omega
   show c241_5 (aG p n) aA s ls rec ((i:Int),acc)=_
   unfold c241_5;dsimp only;rw[aJ hb];refine(aE (Int.ofNat_lt.2 hi)).trans ?_;refine bif_nn.trans ?_;refine(aL hi).trans ?_;refine(aD (f322 (gt s.1 i).1 n (by omega))).trans ?_;refine(aD (f321 ls (cF (gt s.1 i).1) hl n (by omega))).trans ?_
   cases hq:gA ls (cF (gt s.1 i).1)with
   | false=>exact(congrArg (fun l:List cB=>rec (((i+1:Nat):Int),l)) (List.append_nil acc).symm:_)
   | true=>refine(aO rfl).trans ?_;refine(aE (by rw[hq] at ha;have:acc.length+1≤0+s.1.length*1:=ha;show acc.length+1≤4294967296;omega)).trans ?_;rfl
  ·show c241_5 (aG p n) aA s ls rec ((s.1.length:Int),bF (α:=cB) s.1.length (fun i=>bif gA ls (cF (gt s.1 i).1)then[gt s.1 i] else[]))=_
   unfold c241_5;refine(aF (Int.lt_irrefl _)).trans ?_;exact congrArg (fun l:List cB=>iter (c241_11 (aG p n) aA s ls l) aA ((0:Int),([]:List aV))) ((dK (fun f:cB=>bif gA ls (cF f.1)then[f] else[]) s.1).trans (jB _ _))
 exact Ev.eq (fun aA=>by unfold T241;refine(aD (f101 s (Nat.le_trans h1 (by decide)) (Nat.le_trans h2 (by decide)) n (by omega))).trans ?_;rw[hok];rfl) (outer.ev (i:=()) rfl)
end Go.Abs.Xz
