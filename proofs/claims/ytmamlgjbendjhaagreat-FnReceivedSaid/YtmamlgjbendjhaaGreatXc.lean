/- What the functions of this program answer, part c. -/
import Derived.Test.YtmamlgjbendjhaaGreatXb
import Derived.Test.YtmamlgjbendjhaaGreatW2
set_option linter.unusedVariables false
namespace Go.Abs.Xz
open Go Go.Abs
theorem f93(a b:List aX)(ha:a.length≤maxLen):Ran p 1 93 [.val false ⟨K28,(a,())⟩, .val false ⟨K28,(b,())⟩] ⟨[⟨K4,(eJ a b,())⟩],[]⟩:=go93 fun n hn=>by
 by_cases he:a.length=b.length
 ·have e:(((a.length:Nat):Int) != ((b.length:Nat):Int))=false:=by simp[he]
  have e2:eJ a b=bI a.length (fun i=>(gt a i).1==(gt b i).1):=by unfold eJ;rw[he];simp
  rw[e2]
  have lp:It (fun aA (_:Unit)=>c93_4 (aK p n) aA a b) (0:Int) (fun _=>oB (bI a.length (fun i=>(gt a i).1==(gt b i).1))):=by
   refine bZ (It.allB a.length _ true (fun i hi aA a' rec=>?_) (It.stop fun aA a' rec=>?_))
   ·have hb:i<9223372036854775807:=Nat.lt_of_lt_of_le hi ha
    show c93_4 (aK p n) aA a b rec (i:Int)=_
    unfold c93_4;rw[aL hb];refine(aE (Int.ofNat_lt.2 hi)).trans ?_;refine bif_nn.trans ?_;refine(aJ hi).trans ?_;refine bif_nn.trans ?_;refine(aJ (show i<b.length from he▸hi)).trans ?_;exact fin
   ·show c93_4 (aK p n) aA a b rec (a.length:Int)=_
    unfold c93_4;refine(aI (Int.lt_irrefl _)).trans ?_;rfl
  exact Ev.eq (fun aA=>by unfold T93;exact aF e) (lp.ev (i:=()) rfl)
 ·have e:(((a.length:Nat):Int) != ((b.length:Nat):Int))=true:=by simp;omega
  have e2:eJ a b=false:=by unfold eJ;rw[show(((a.length:Nat):Int)==((b.length:Nat):Int))=false from by simp;omega];rfl
  rw[e2]
  exact Ev.now fun aA=>by unfold T93;exact aN e
theorem f244(a b:List aX)(ha:a.length≤maxLen):Ran p 1 244 [.val false ⟨K28,(a,())⟩, .val false ⟨K28,(b,())⟩] ⟨[⟨K4,(eJ a b,())⟩],[]⟩:=go244 fun n hn=>by
 by_cases he:a.length=b.length
 ·have e:(((a.length:Nat):Int) != ((b.length:Nat):Int))=false:=by simp[he]
  have e2:eJ a b=bI a.length (fun i=>(gt a i).1==(gt b i).1):=by unfold eJ;rw[he];simp
  rw[e2]
  have lp:It (fun aA (_:Unit)=>c244_4 (aK p n) aA a b) (0:Int) (fun _=>oB (bI a.length (fun i=>(gt a i).1==(gt b i).1))):=by
   refine bZ (It.allB a.length _ true (fun i hi aA a' rec=>?_) (It.stop fun aA a' rec=>?_))
   ·have hb:i<9223372036854775807:=Nat.lt_of_lt_of_le hi ha
    show c244_4 (aK p n) aA a b rec (i:Int)=_
    unfold c244_4;rw[aL hb];refine(aE (Int.ofNat_lt.2 hi)).trans ?_;refine bif_nn.trans ?_;refine(aJ hi).trans ?_;refine bif_nn.trans ?_;refine(aJ (show i<b.length from he▸hi)).trans ?_;exact fin
   ·show c244_4 (aK p n) aA a b rec (a.length:Int)=_
    unfold c244_4;refine(aI (Int.lt_irrefl _)).trans ?_;rfl
  exact Ev.eq (fun aA=>by unfold T244;exact aF e) (lp.ev (i:=()) rfl)
 ·have e:(((a.length:Nat):Int) != ((b.length:Nat):Int))=true:=by simp;omega
  have e2:eJ a b=false:=by unfold eJ;rw[show(((a.length:Nat):Int)==((b.length:Nat):Int))=false from by simp;omega];rfl
  rw[e2]
  exact Ev.now fun aA=>by unfold T244;exact aN e
theorem f91(a b:iP)(ha:a.1.length≤maxLen):Ran p 2 91 [.val true ⟨K30,a⟩, .val true ⟨K30,b⟩] ⟨[⟨K4,(eJ a.1 b.1&&a.2.1==b.2.1,())⟩],[]⟩:=go91 fun n hn=>Ev.now fun aA=>by
 unfold T91;refine(aB (f93 a.1 b.1 ha n (by omega))).trans ?_;refine eU fun _=>?_;rfl
theorem f102(a b:iP)(ha:a.1.length≤maxLen):Ran p 2 102 [.val true ⟨K30,a⟩, .val true ⟨K30,b⟩] ⟨[⟨K4,(eJ a.1 b.1&&a.2.1==b.2.1,())⟩],[]⟩:=go102 fun n hn=>Ev.now fun aA=>by
 unfold T102;refine(aB (f244 a.1 b.1 ha n (by omega))).trans ?_;refine eU fun _=>?_;rfl
theorem f331(x:Int):Ran p 2 331 [.val false ⟨K3,(x,())⟩] ⟨[⟨K22,(aY x,())⟩],[]⟩:=go331 fun n hn=>by
 cases hx:inB x 0 2147483647 with
 | false=>
  refine Ev.now fun aA=>?_
  unfold T331 aY;refine(aB (f211 x 0 2147483647 n (by omega))).trans ?_;rw[hx];rfl
 | true=>
  have hr:=aS.1 hx
  obtain⟨m,rfl⟩:∃ m:Nat,x=m:=⟨x.toNat,by omega⟩
  have lp:It (fun aA (_:Unit)=>c331_4 (aK p n) aA) ((m:Int),([]:List aX)) (fun _=>some ⟨[⟨K22,(([]:List aX)++oW m,())⟩],[]⟩):=by
   refine vJ (fun l=>some ⟨[⟨K22,(l,())⟩],[]⟩) (fun m hm pre hp aA a rec=>?_) (fun m hm pre hp aA a rec=>?_) 5 m [] (by omega) (by omega) (by decide)
   ·show c331_4 (aK p n) aA rec ((m:Int),pre)=_
    unfold c331_4;refine(aI (by show ¬ ((m:Int)>127);omega)).trans ?_;refine(aE (by show pre.length+1≤4294967296;omega)).trans ?_;rfl
   ·show c331_4 (aK p n) aA rec ((m:Int),pre)=_
    unfold c331_4;refine(aE (by show(m:Int)>127;omega)).trans ?_;refine(aI (by decide)).trans ?_;refine(aE (by show pre.length+1≤4294967296;omega)).trans ?_;refine(aI (by decide)).trans ?_;rfl
  have e2:aY (m:Int)=oW m:=by unfold aY;rw[hx];rfl
  rw[e2]
  exact Ev.eq (fun aA=>by unfold T331;refine(aB (f211 (m:Int) 0 2147483647 n (by omega))).trans ?_;rw[hx];rfl) (lp.ev (i:=()) rfl)
theorem f138(x:Int):Ran p 2 138 [.val false ⟨K3,(x,())⟩] ⟨[⟨K22,(aY x,())⟩],[]⟩:=go138 fun n hn=>by
 cases hx:inB x 0 2147483647 with
 | false=>
  refine Ev.now fun aA=>?_
  unfold T138 aY;refine(aB (f100 x 0 2147483647 n (by omega))).trans ?_;rw[hx];rfl
 | true=>
  have hr:=aS.1 hx
  obtain⟨m,rfl⟩:∃ m:Nat,x=m:=⟨x.toNat,by omega⟩
  have lp:It (fun aA (_:Unit)=>c138_4 (aK p n) aA) ((m:Int),([]:List aX)) (fun _=>some ⟨[⟨K22,(([]:List aX)++oW m,())⟩],[]⟩):=by
   refine vJ (fun l=>some ⟨[⟨K22,(l,())⟩],[]⟩) (fun m hm pre hp aA a rec=>?_) (fun m hm pre hp aA a rec=>?_) 5 m [] (by omega) (by omega) (by decide)
   ·show c138_4 (aK p n) aA rec ((m:Int),pre)=_
    unfold c138_4;refine(aI (by show ¬ ((m:Int)≥128);omega)).trans ?_;refine(aE (by show pre.length+1≤4294967296;omega)).trans ?_;rfl
   ·show c138_4 (aK p n) aA rec ((m:Int),pre)=_
    unfold c138_4;refine(aE (by show(m:Int)≥128;omega)).trans ?_;refine(aI (by decide)).trans ?_;refine(aE (by show pre.length+1≤4294967296;omega)).trans ?_;refine(aI (by decide)).trans ?_;rfl
  have e2:aY (m:Int)=oW m:=by unfold aY;rw[hx];rfl
  rw[e2]
  exact Ev.eq (fun aA=>by unfold T138;refine(aB (f100 (m:Int) 0 2147483647 n (by omega))).trans ?_;rw[hx];rfl) (lp.ev (i:=()) rfl)
theorem f137(ps:List bQ)(L:Nat)(hL:∀ i,i<ps.length→(gt ps i).1.length≤L)(hb:ps.length*L≤bound)(hp:ps.length≤maxLen):Ran p 1 137 [.val false ⟨K62,(ps,())⟩] ⟨[⟨K22,(ps.flatMap (fun r=>r.1),())⟩],[]⟩:=go137 fun n hn=>by
 have lp:It (fun aA (_:Unit)=>c137_3 (aK p n) aA ps) ((0:Int),([]:List aX)) (fun _=>some ⟨[⟨K22,(ps.flatMap (fun r=>r.1),())⟩],[]⟩):=by
  refine It.accu [] (fun i=>(gt ps i).1) ps.length L hL (fun i hi acc ha aA a rec=>?_) (It.stop fun aA a rec=>?_)
  ·have hb':i<9223372036854775807:=Nat.lt_of_lt_of_le hi hp
   show c137_3 (aK p n) aA ps rec ((i:Int),acc)=_
   unfold c137_3;dsimp only;rw[aL hb'];refine(aE (Int.ofNat_lt.2 hi)).trans ?_;refine bif_nn.trans ?_;refine(aJ hi).trans ?_;refine(aE (Nat.le_trans ha (by simpa using hb))).trans ?_;rfl
  ·show c137_3 (aK p n) aA ps rec ((ps.length:Int),bH ps.length fun i=>(gt ps i).1)=_
   unfold c137_3;refine(aI (Int.lt_irrefl _)).trans ?_;exact congrArg (fun l:List aX=>(some ⟨[⟨K22,(l,())⟩],[]⟩:Option Out)) (c5 (fun r:bQ=>r.1) ps)
 exact Ev.eq (fun aA=>by unfold T137;rfl) (lp.ev (i:=()) rfl)
theorem f360(s:ByteArray)(hs:ByteArray.size s≤1048576):Ran p 3 360 [.val false ⟨K9,(s,())⟩] ⟨[⟨K22,(fX s,())⟩],[]⟩:=go360 fun n hn=>Ev.now fun aA=>by
 unfold T360;refine(aB (f331 ((ByteArray.size s:Nat):Int) n (by omega))).trans ?_;
 refine(aE ?_).trans rfl
 have h1:=bN ((ByteArray.size s:Nat):Int)
 have h2:=pW s
 show(aY ((ByteArray.size s:Nat):Int)).length+(pX s).length≤4294967296
 omega
theorem f271(s:ByteArray)(hs:ByteArray.size s≤1048576):Ran p 3 271 [.val false ⟨K9,(s,())⟩] ⟨[⟨K22,(fX s,())⟩],[]⟩:=go271 fun n hn=>Ev.now fun aA=>by
 unfold T271;refine(aB (f138 ((ByteArray.size s:Nat):Int) n (by omega))).trans ?_
 have h1:=bN ((ByteArray.size s:Nat):Int)
 have h2:=pW s
 refine(aB (f137 [(aY ((ByteArray.size s:Nat):Int),()),(pX s,())] 1048576 (fun i hi=>by
  rcases i with _ | _ | i
  ·show(aY ((ByteArray.size s:Nat):Int)).length≤_;omega
  ·show(pX s).length≤_;omega
  ·exact absurd hi (by show ¬ (i+1+1<2);omega)) (by show 2*1048576≤4294967296;omega) (by show 2≤9223372036854775807;omega) n (by omega))).trans ?_
 exact congrArg (fun l:List aX=>(some ⟨[⟨K22,(l,())⟩],[]⟩:Option Out)) (by simp[fX]:List.flatMap (fun r:bQ=>r.1) [(aY ((ByteArray.size s:Nat):Int),()),(pX s,())]=fX s)
theorem f334(bs:List aX)(hl:bs.length≤maxLen):Ran p 1 334 [.val false ⟨K22,(bs,())⟩] ⟨[⟨K3,(crc bs,())⟩],[]⟩:=go334 fun n hn=>by
 have inner:∀ (i:Nat),i<9223372036854775807→∀ x0:Int,It (fun aA rec3=>c334_7 (aK p n) aA bs (i:Int) rec3) (x0,(0:Int)) (fun rec3=>rec3 (eV 8 x0,((i+1:Nat):Int))):=by
  intro i hi x0
  refine It.run (fun k=>(eV k x0,(k:Int))) 8 (fun k hk aA rec3 rec=>?_) (It.stop fun aA rec3 rec=>?_)
  ·have hb:k<9223372036854775807:=by omega
   show c334_7 (aK p n) aA bs (i:Int) rec3 rec (eV k x0,(k:Int))=_
   unfold c334_7;dsimp only;rw[aL hb];refine(aE (by omega)).trans ?_;refine(aI (by decide)).trans ?_;refine(aI (by decide)).trans ?_
   show _=rec (pS (eV k x0),((k+1:Nat):Int))
   unfold pS
   cases ((eV k x0).tmod 2==1)<;>rfl
  ·show c334_7 (aK p n) aA bs (i:Int) rec3 rec (eV 8 x0,((8:Nat):Int))=_
   unfold c334_7;dsimp only;rw[aL hi];exact aI (by decide)
 have outer:It (fun aA (_:Unit)=>c334_3 (aK p n) aA bs) ((4294967295:Int),(0:Int)) (fun _=>oI (crc bs)):=by
  refine It.runE (fun i=>(mW bs i,(i:Int))) bs.length (fun i hi=>?_) (It.stop fun aA a rec=>?_)
  ·have hb:i<9223372036854775807:=Nat.lt_of_lt_of_le hi hl
   obtain⟨N,hN⟩:=(inner i hb (oV .i64 (mW bs i) (IntKind.i64.wrap (gt bs i).1))).all_i
   refine⟨N,fun aA hf a rec=>?_⟩
   show c334_3 (aK p n) aA bs rec (mW bs i,(i:Int))=_
   unfold c334_3;refine(aE (Int.ofNat_lt.2 hi)).trans ?_;refine bif_nn.trans ?_;refine(aJ hi).trans ?_;exact hN aA hf rec
  ·show c334_3 (aK p n) aA bs rec (mW bs bs.length,(bs.length:Int))=_
   unfold c334_3;refine(aI (Int.lt_irrefl _)).trans ?_;rfl
 exact Ev.eq (fun aA=>by unfold T334;rfl) (outer.ev (i:=()) rfl)
theorem f272(bs:List aX)(hl:bs.length≤maxLen):Ran p 1 272 [.val false ⟨K22,(bs,())⟩] ⟨[⟨K3,(crc bs,())⟩],[]⟩:=go272 fun n hn=>by
 have inner:∀ (i:Nat),i<9223372036854775807→∀ x0:Int,It (fun aA rec3=>c272_7 (aK p n) aA bs (i:Int) rec3) (x0,(0:Int)) (fun rec3=>rec3 (eV 8 x0,((i+1:Nat):Int))):=by
  intro i hi x0
  refine It.run (fun k=>(eV k x0,(k:Int))) 8 (fun k hk aA rec3 rec=>?_) (It.stop fun aA rec3 rec=>?_)
  ·have hb:k<9223372036854775807:=by omega
   show c272_7 (aK p n) aA bs (i:Int) rec3 rec (eV k x0,(k:Int))=_
   unfold c272_7;dsimp only;rw[aL hb];refine(aE (by omega)).trans ?_;refine(aI (by decide)).trans ?_;refine(aI (by decide)).trans ?_
   show _=rec (pS (eV k x0),((k+1:Nat):Int))
   unfold pS
   cases ((eV k x0).tmod 2==1)<;>rfl
  ·show c272_7 (aK p n) aA bs (i:Int) rec3 rec (eV 8 x0,((8:Nat):Int))=_
   unfold c272_7;dsimp only;rw[aL hi];exact aI (by decide)
 have outer:It (fun aA (_:Unit)=>c272_3 (aK p n) aA bs) ((4294967295:Int),(0:Int)) (fun _=>oI (crc bs)):=by
  refine It.runE (fun i=>(mW bs i,(i:Int))) bs.length (fun i hi=>?_) (It.stop fun aA a rec=>?_)
  ·have hb:i<9223372036854775807:=Nat.lt_of_lt_of_le hi hl
   obtain⟨N,hN⟩:=(inner i hb (oV .i64 (mW bs i) (IntKind.i64.wrap (gt bs i).1))).all_i
   refine⟨N,fun aA hf a rec=>?_⟩
   show c272_3 (aK p n) aA bs rec (mW bs i,(i:Int))=_
   unfold c272_3;refine(aE (Int.ofNat_lt.2 hi)).trans ?_;refine bif_nn.trans ?_;refine(aJ hi).trans ?_;exact hN aA hf rec
  ·show c272_3 (aK p n) aA bs rec (mW bs bs.length,(bs.length:Int))=_
   unfold c272_3;refine(aI (Int.lt_irrefl _)).trans ?_;rfl
 exact Ev.eq (fun aA=>by unfold T272;rfl) (outer.ev (i:=()) rfl)
theorem f330(x:Int):Ran p 3 330 [.val false ⟨K3,(x,())⟩] ⟨[⟨K3,(cM x,())⟩],[]⟩:=go330 fun n hn=>Ev.now fun aA=>by
 unfold T330 cM;refine(aB (f250 x n (by omega))).trans ?_
 cases dY x with
 | false=>rfl
 | true=>
  refine(aF rfl).trans ?_
  refine(aB (f331 x n (by omega))).trans ?_;refine(aB (f334 (aY x) (Nat.le_trans (bN x) (by decide)) n (by omega))).trans ?_;refine(aI (by decide)).trans ?_;rfl
theorem f322(x:Int):Ran p 3 322 [.val false ⟨K3,(x,())⟩] ⟨[⟨K3,(cM x,())⟩],[]⟩:=go322 fun n hn=>Ev.now fun aA=>by
 unfold T322 cM;refine(aB (f123 x n (by omega))).trans ?_
 cases dY x with
 | false=>rfl
 | true=>
  refine(aF rfl).trans ?_
  refine(aB (f138 x n (by omega))).trans ?_;refine(aB (f272 (aY x) (Nat.le_trans (bN x) (by decide)) n (by omega))).trans ?_;refine(aI (by decide)).trans ?_;rfl
theorem f329(ls:List aX)(x:Int)(hl:ls.length≤maxLen):Ran p 1 329 [.val false ⟨K28,(ls,())⟩, .val false ⟨K3,(x,())⟩] ⟨[⟨K4,(gD ls x,())⟩],[]⟩:=go329 fun n hn=>by
 have lp:It (fun aA (_:Unit)=>c329_2 (aK p n) aA ls x) (0:Int) (fun _=>oB (gD ls x)):=by
  rw[BN]
  refine It.anyB ls.length _ (fun i hi aA a rec=>?_) (fun aA a rec=>?_)
  ·have hb:i<9223372036854775807:=Nat.lt_of_lt_of_le hi hl
   show c329_2 (aK p n) aA ls x rec (i:Int)=_
   unfold c329_2;rw[aL hb];refine(aE (Int.ofNat_lt.2 hi)).trans ?_;refine bif_nn.trans ?_;refine(aJ hi).trans ?_;rfl
  ·show c329_2 (aK p n) aA ls x rec (ls.length:Int)=_
   unfold c329_2;refine(aI (Int.lt_irrefl _)).trans ?_;rfl
 exact Ev.eq (fun aA=>by unfold T329;rfl) (lp.ev (i:=()) rfl)
theorem f356(ls:List aX)(x:Int)(hl:ls.length≤maxLen):Ran p 1 356 [.val false ⟨K28,(ls,())⟩, .val false ⟨K3,(x,())⟩] ⟨[⟨K3,(JE ls x,())⟩],[]⟩:=go356 fun n hn=>by
 have lp:It (fun aA (_:Unit)=>c356_2 (aK p n) aA ls x) (0:Int) (fun _=>oI (JE ls x)):=by
  have:=It.first (c:=fun aA (_:Unit)=>c356_2 (aK p n) aA ls x) (fun i=>(i:Int)) ls.length (fun i=>x==(gt ls i).1) (fun i _=>oI (i:Int)) (fun _=>oI (-1)) (fun i hi hp aA a rec=>?_) (fun i hi hp=>It.stop fun aA a rec=>?_) (It.stop fun aA a rec=>?_)
  ·revert this;unfold JE
   cases (List.range ls.length).find? (fun i=>x==(gt ls i).1)<;>exact fun h=>h
  ·have hb:i<9223372036854775807:=Nat.lt_of_lt_of_le hi hl
   show c356_2 (aK p n) aA ls x rec (i:Int)=_
   unfold c356_2;rw[aL hb];refine(aE (Int.ofNat_lt.2 hi)).trans ?_;refine bif_nn.trans ?_;refine(aJ hi).trans ?_;exact aF hp
  ·show c356_2 (aK p n) aA ls x rec (i:Int)=_
   unfold c356_2;refine(aE (Int.ofNat_lt.2 hi)).trans ?_;refine bif_nn.trans ?_;refine(aJ hi).trans ?_;exact aN hp
  ·show c356_2 (aK p n) aA ls x rec (ls.length:Int)=_
   unfold c356_2;refine(aI (Int.lt_irrefl _)).trans ?_;rfl
 exact Ev.eq (fun aA=>by unfold T356;rfl) (lp.ev (i:=()) rfl)
theorem f321(ls:List aX)(x:Int)(hl:ls.length≤maxLen):Ran p 2 321 [.val false ⟨K28,(ls,())⟩, .val false ⟨K3,(x,())⟩] ⟨[⟨K4,(gD ls x,())⟩],[]⟩:=go321 fun n hn=>Ev.now fun aA=>by
 unfold T321;refine(aB (f356 ls x hl n (by omega))).trans ?_;exact congrArg (fun b:Bool=>(some ⟨[⟨K4,(b,())⟩],[]⟩:Option Out)) (JD ls x)
theorem f261(s:aH)(ls:List aX)(hl:ls.length≤maxLen)(h1:s.1.length≤1000)(h2:s.2.1.length≤1000):Ran p 4 261 [.val true ⟨K27,s⟩, .val false ⟨K28,(ls,())⟩] ⟨[⟨K27,f0 s ls⟩],[]⟩:=go261 fun n hn=>by
 have inner:∀ v:List bM,It (fun aA (_:Unit)=>c261_8 (aK p n) aA s ls v) ((0:Int),([]:List aR)) (fun _=>some ⟨[⟨K27,(v,s.2.1.filter (fun f=>gD ls (cM f.1)),())⟩],[]⟩):=by
  intro v
  refine It.accu (α:=aR) [] (fun i=>bif gD ls (cM (gt s.2.1 i).1)then[gt s.2.1 i] else[]) s.2.1.length 1 (fun i hi=>by cases gD ls (cM (gt s.2.1 i).1)<;>simp) (fun i hi acc ha aA a rec=>?_) (It.stop fun aA a rec=>?_)
  ·have hb:i<9223372036854775807:=by omega
   show c261_8 (aK p n) aA s ls v rec ((i:Int),acc)=_
   unfold c261_8;dsimp only;rw[aL hb];refine(aE (Int.ofNat_lt.2 hi)).trans ?_;refine bif_nn.trans ?_;refine(aJ hi).trans ?_;refine(aB (f330 (gt s.2.1 i).1 n (by omega))).trans ?_;refine(aB (f329 ls (cM (gt s.2.1 i).1) hl n (by omega))).trans ?_
   cases hq:gD ls (cM (gt s.2.1 i).1)with
   | false=>exact(congrArg (fun l:List aR=>rec (((i+1:Nat):Int),l)) (List.append_nil acc).symm:_)
   | true=>refine(aN rfl).trans ?_;refine bif_nn.trans ?_;refine(aJ hi).trans ?_;refine(aE (by rw[hq] at ha;have:acc.length+1≤0+s.2.1.length*1:=ha;show acc.length+1≤4294967296;omega)).trans ?_;rfl
  ·show c261_8 (aK p n) aA s ls v rec ((s.2.1.length:Int),bH (α:=aR) s.2.1.length (fun i=>bif gD ls (cM (gt s.2.1 i).1)then[gt s.2.1 i] else[]))=_
   unfold c261_8;refine(aI (Int.lt_irrefl _)).trans ?_;exact congrArg (fun l:List aR=>(some ⟨[⟨K27,(v,l,())⟩],[]⟩:Option Out)) ((c5 (fun f:aR=>bif gD ls (cM f.1)then[f] else[]) s.2.1).trans (gZ _ _))
 have outer:It (fun aA (_:Unit)=>c261_3 (aK p n) aA s ls) ((0:Int),([]:List bM)) (fun _=>some ⟨[⟨K27,f0 s ls⟩],[]⟩):=by
  refine It.accu (α:=bM) [] (fun i=>bif gD ls (cM (gt s.1 i).1)then[gt s.1 i] else[]) s.1.length 1 (fun i hi=>by cases gD ls (cM (gt s.1 i).1)<;>simp) (fun i hi acc ha aA a rec=>?_) (It.stopE (T:=fun aA _=>iter (c261_8 (aK p n) aA s ls (s.1.filter (fun x=>gD ls (cM x.1)))) aA ((0:Int),([]:List aR))) (fun aA a rec=>?_) (inner _).all_i)
  ·have hb:i<9223372036854775807:=by omega
   show c261_3 (aK p n) aA s ls rec ((i:Int),acc)=_
   unfold c261_3;dsimp only;rw[aL hb];refine(aE (Int.ofNat_lt.2 hi)).trans ?_;refine bif_nn.trans ?_;refine(aJ hi).trans ?_;refine(aB (f330 (gt s.1 i).1 n (by omega))).trans ?_;refine(aB (f329 ls (cM (gt s.1 i).1) hl n (by omega))).trans ?_
   cases hq:gD ls (cM (gt s.1 i).1)with
   | false=>exact(congrArg (fun l:List bM=>rec (((i+1:Nat):Int),l)) (List.append_nil acc).symm:_)
   | true=>refine(aN rfl).trans ?_;refine bif_nn.trans ?_;refine(aJ hi).trans ?_;refine(aE (by rw[hq] at ha;have:acc.length+1≤0+s.1.length*1:=ha;show acc.length+1≤4294967296;omega)).trans ?_;rfl
  ·show c261_3 (aK p n) aA s ls rec ((s.1.length:Int),bH (α:=bM) s.1.length (fun i=>bif gD ls (cM (gt s.1 i).1)then[gt s.1 i] else[]))=_
   unfold c261_3;refine(aI (Int.lt_irrefl _)).trans ?_;exact congrArg (fun l:List bM=>iter (c261_8 (aK p n) aA s ls l) aA ((0:Int),([]:List aR))) ((c5 (fun f:bM=>bif gD ls (cM f.1)then[f] else[]) s.1).trans (gZ _ _))
 exact Ev.eq (fun aA=>by unfold T261;rfl) (outer.ev (i:=()) rfl)
theorem f241(s:aH)(ls:List aX)(hl:ls.length≤maxLen)(h1:s.1.length≤1000)(h2:s.2.1.length≤1000)(hok:aO s=true):Ran p 4 241 [.val true ⟨K27,s⟩, .val false ⟨K28,(ls,())⟩] ⟨[⟨K27,f0 s ls⟩],[]⟩:=go241 fun n hn=>by
 have inner:∀ v:List bM,It (fun aA (_:Unit)=>c241_11 (aK p n) aA s ls v) ((0:Int),([]:List aR)) (fun _=>some ⟨[⟨K27,(v,s.2.1.filter (fun f=>gD ls (cM f.1)),())⟩],[]⟩):=by
  intro v
  refine It.accu (α:=aR) [] (fun i=>bif gD ls (cM (gt s.2.1 i).1)then[gt s.2.1 i] else[]) s.2.1.length 1 (fun i hi=>by cases gD ls (cM (gt s.2.1 i).1)<;>simp) (fun i hi acc ha aA a rec=>?_) (It.stop fun aA a rec=>?_)
  ·have hb:i<9223372036854775807:=by omega
   show c241_11 (aK p n) aA s ls v rec ((i:Int),acc)=_
   unfold c241_11;dsimp only;rw[aL hb];refine(aE (Int.ofNat_lt.2 hi)).trans ?_;refine bif_nn.trans ?_;refine(aJ hi).trans ?_;refine(aB (f322 (gt s.2.1 i).1 n (by omega))).trans ?_;refine(aB (f321 ls (cM (gt s.2.1 i).1) hl n (by omega))).trans ?_
   cases hq:gD ls (cM (gt s.2.1 i).1)with
   | false=>exact(congrArg (fun l:List aR=>rec (((i+1:Nat):Int),l)) (List.append_nil acc).symm:_)
   | true=>refine(aN rfl).trans ?_;refine(aE (by rw[hq] at ha;have:acc.length+1≤0+s.2.1.length*1:=ha;show acc.length+1≤4294967296;omega)).trans ?_;rfl
  ·show c241_11 (aK p n) aA s ls v rec ((s.2.1.length:Int),bH (α:=aR) s.2.1.length (fun i=>bif gD ls (cM (gt s.2.1 i).1)then[gt s.2.1 i] else[]))=_
   unfold c241_11;refine(aI (Int.lt_irrefl _)).trans ?_;exact congrArg (fun l:List aR=>(some ⟨[⟨K27,(v,l,())⟩],[]⟩:Option Out)) ((c5 (fun f:aR=>bif gD ls (cM f.1)then[f] else[]) s.2.1).trans (gZ _ _))
 have outer:It (fun aA (_:Unit)=>c241_5 (aK p n) aA s ls) ((0:Int),([]:List bM)) (fun _=>some ⟨[⟨K27,f0 s ls⟩],[]⟩):=by
  refine It.accu (α:=bM) [] (fun i=>bif gD ls (cM (gt s.1 i).1)then[gt s.1 i] else[]) s.1.length 1 (fun i hi=>by cases gD ls (cM (gt s.1 i).1)<;>simp) (fun i hi acc ha aA a rec=>?_) (It.stopE (T:=fun aA _=>iter (c241_11 (aK p n) aA s ls (s.1.filter (fun x=>gD ls (cM x.1)))) aA ((0:Int),([]:List aR))) (fun aA a rec=>?_) (inner _).all_i)
  ·have hb:i<9223372036854775807:=by omega
   show c241_5 (aK p n) aA s ls rec ((i:Int),acc)=_
   unfold c241_5;dsimp only;rw[aL hb];refine(aE (Int.ofNat_lt.2 hi)).trans ?_;refine bif_nn.trans ?_;refine(aJ hi).trans ?_;refine(aB (f322 (gt s.1 i).1 n (by omega))).trans ?_;refine(aB (f321 ls (cM (gt s.1 i).1) hl n (by omega))).trans ?_
   cases hq:gD ls (cM (gt s.1 i).1)with
   | false=>exact(congrArg (fun l:List bM=>rec (((i+1:Nat):Int),l)) (List.append_nil acc).symm:_)
   | true=>refine(aN rfl).trans ?_;refine(aE (by rw[hq] at ha;have:acc.length+1≤0+s.1.length*1:=ha;show acc.length+1≤4294967296;omega)).trans ?_;rfl
  ·show c241_5 (aK p n) aA s ls rec ((s.1.length:Int),bH (α:=bM) s.1.length (fun i=>bif gD ls (cM (gt s.1 i).1)then[gt s.1 i] else[]))=_
   unfold c241_5;refine(aI (Int.lt_irrefl _)).trans ?_;exact congrArg (fun l:List bM=>iter (c241_11 (aK p n) aA s ls l) aA ((0:Int),([]:List aR))) ((c5 (fun f:bM=>bif gD ls (cM f.1)then[f] else[]) s.1).trans (gZ _ _))
 exact Ev.eq (fun aA=>by unfold T241;refine(aB (f101 s (Nat.le_trans h1 (by decide)) (Nat.le_trans h2 (by decide)) n (by omega))).trans ?_;rw[hok];rfl) (outer.ev (i:=()) rfl)
end Go.Abs.Xz
