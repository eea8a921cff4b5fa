/- What the functions of this program answer, part j. -/
import Derived.Test.YtmamlgjbendjhaaGreatXh
import Derived.Test.YtmamlgjbendjhaaGreatW3
set_option linter.unusedVariables false
namespace Go.Abs.Xz
open Go Go.Abs
theorem f327(s:aM)(id:Int)(hl:s.1.length≤maxLen):Ran p 1 327 [.val true ⟨K27,s⟩, .val false ⟨K3,(id,())⟩] ⟨[⟨K161,(bC s id).1⟩,⟨K4,((bC s id).2,())⟩],[]⟩:=go327 fun n hn=>by
 have lp:It (fun aA (_:Unit)=>c327_2 (aG p n) aA s id) (0:Int) (fun _=>some ⟨[⟨K161,(bC s id).1⟩,⟨K4,((bC s id).2,())⟩],[]⟩):=by
  have:=It.first (c:=fun aA (_:Unit)=>c327_2 (aG p n) aA s id) (fun i=>(i:Int)) s.1.length (fun i=>(gt s.1 i).1==id) (fun i _=>some ⟨[⟨K161,(gt (α:=cB) s.1 i).2⟩,⟨K4,(true,())⟩],[]⟩) (fun _=>some ⟨[⟨K161,eE⟩,⟨K4,(false,())⟩],[]⟩) (fun i hi hp aA a rec=>?_) (fun i hi hp=>It.stop fun aA a rec=>?_) (It.stop fun aA a rec=>?_)
  ·revert this;unfold bC
   cases (List.range s.1.length).find? (fun i=>(gt s.1 i).1==id)<;>exact fun h=>h
  ·have hb:i<9223372036854775807:=Nat.lt_of_lt_of_le hi hl
   show c327_2 (aG p n) aA s id rec (i:Int)=_
   unfold c327_2;rw[aJ hb];refine(aE (Int.ofNat_lt.2 hi)).trans ?_;refine bif_nn.trans ?_;refine(aL hi).trans ?_;exact aK hp
  ·show c327_2 (aG p n) aA s id rec (i:Int)=_
   unfold c327_2;refine(aE (Int.ofNat_lt.2 hi)).trans ?_;refine bif_nn.trans ?_;refine(aL hi).trans ?_;refine(aO hp).trans ?_;refine bif_nn.trans ?_;refine(aL hi).trans ?_;rfl
  ·show c327_2 (aG p n) aA s id rec (s.1.length:Int)=_
   unfold c327_2;refine(aF (Int.lt_irrefl _)).trans ?_;rfl
 exact Ev.eq (fun aA=>by unfold T327;rfl) (lp.ev (i:=()) rfl)
theorem f319(s:aM)(id:Int)(hl:s.1.length≤maxLen):Ran p 1 319 [.val true ⟨K27,s⟩, .val false ⟨K3,(id,())⟩] ⟨[⟨K161,(bC s id).1⟩,⟨K4,((bC s id).2,())⟩],[]⟩:=go319 fun n hn=>by
 have lp:It (fun aA (_:Unit)=>c319_2 (aG p n) aA s id) (0:Int) (fun _=>some ⟨[⟨K161,(bC s id).1⟩,⟨K4,((bC s id).2,())⟩],[]⟩):=by
  have:=It.first (c:=fun aA (_:Unit)=>c319_2 (aG p n) aA s id) (fun i=>(i:Int)) s.1.length (fun i=>(gt s.1 i).1==id) (fun i _=>some ⟨[⟨K161,(gt (α:=cB) s.1 i).2⟩,⟨K4,(true,())⟩],[]⟩) (fun _=>some ⟨[⟨K161,eE⟩,⟨K4,(false,())⟩],[]⟩) (fun i hi hp aA a rec=>?_) (fun i hi hp=>It.stop fun aA a rec=>?_) (It.stop fun aA a rec=>?_)
  ·revert this;unfold bC
   cases (List.range s.1.length).find? (fun i=>(gt s.1 i).1==id)<;>exact fun h=>h
  ·have hb:i<9223372036854775807:=Nat.lt_of_lt_of_le hi hl
   show c319_2 (aG p n) aA s id rec (i:Int)=_
   unfold c319_2;rw[aJ hb];refine(aE (Int.ofNat_lt.2 hi)).trans ?_;refine bif_nn.trans ?_;refine(aL hi).trans ?_;exact aK hp
  ·show c319_2 (aG p n) aA s id rec (i:Int)=_
   unfold c319_2;refine(aE (Int.ofNat_lt.2 hi)).trans ?_;refine bif_nn.trans ?_;refine(aL hi).trans ?_;refine(aO hp).trans ?_;rfl
  ·show c319_2 (aG p n) aA s id rec (s.1.length:Int)=_
   unfold c319_2;refine(aF (Int.lt_irrefl _)).trans ?_;rfl
 exact Ev.eq (fun aA=>by unfold T319;rfl) (lp.ev (i:=()) rfl)
theorem f248(a b:Int):Ran p 1 248 [.val false ⟨K3,(a,())⟩, .val false ⟨K3,(b,())⟩] ⟨[⟨K3,(mxI true a b,())⟩],[]⟩:=go248 fun n hn=>Ev.now fun aA=>by
 unfold T248 mxI
 simp only[if_true]
 by_cases h:a>b
 ·refine(aE h).trans ?_;rw[if_neg (by omega:¬ b>a)]
 ·refine(aF h).trans ?_;by_cases h':b>a
  ·rw[if_pos h']
  ·rw[if_neg h',show a=b from by omega]
theorem f359(b:Bool):Ran p 1 359 [.val false ⟨K4,(b,())⟩] ⟨[⟨K3,(DT b,())⟩],[]⟩:=go359 fun n hn=>Ev.now fun aA=>by
 unfold T359;cases b<;>rfl
theorem f358(a b:Int):Ran p 2 358 [.val false ⟨K3,(a,())⟩, .val false ⟨K3,(b,())⟩] ⟨[⟨K3,(l2 a b,())⟩],[]⟩:=go358 fun n hn=>Ev.now fun aA=>by
 unfold T358 l2
 cases decide (a<b)with
 | true=>rfl
 | false=>refine(aK rfl).trans ?_;refine(aD (f359 (decide (a>b)) n (by omega))).trans ?_;rfl
theorem f383(a:Int):Ran p 1 383 [.val false ⟨K3,(a,())⟩] ⟨[⟨K4,(false,())⟩],[]⟩:=go383 fun n hn=>Ev.now fun aA=>by
 unfold T383;exact congrArg (fun b:Bool=>(some ⟨[⟨K4,(b,())⟩],[]⟩:Option Out)) (by simp:(a != a)=false)
theorem f376(a b:Int):Ran p 2 376 [.val false ⟨K3,(a,())⟩, .val false ⟨K3,(b,())⟩] ⟨[⟨K3,(l2 a b,())⟩],[]⟩:=go376 fun n hn=>Ev.now fun aA=>by
 unfold T376 l2;refine(aD (f383 a n (by omega))).trans ?_;refine(aD (f383 b n (by omega))).trans ?_;refine(aK rfl).trans ?_;refine(aK rfl).trans ?_;cases decide (a<b)<;>cases decide (a>b)<;>rfl
theorem f375(ls:List aZ)(hl:ls.length≤maxLen):Ran p 1 375 [.val false ⟨K28,(ls,())⟩] ⟨[⟨K3,(orN ls,())⟩],[]⟩:=go375 fun n hn=>by
 have lp:It (fun aA (_:Unit)=>c375_3 (aG p n) aA ls) (0:Int) (fun _=>oI (orN ls)):=by
  have:=It.first (c:=fun aA (_:Unit)=>c375_3 (aG p n) aA ls) (fun i=>(i:Int)) ls.length (fun i=>(gt ls i).1 != 0) (fun i _=>oI (gt ls i).1) (fun _=>oI 0) (fun i hi hp aA a rec=>?_) (fun i hi hp=>It.stop fun aA a rec=>?_) (It.stop fun aA a rec=>?_)
  ·revert this;unfold orN
   cases (List.range ls.length).find? (fun i=>(gt ls i).1 != 0)<;>exact fun h=>h
  ·have hb:i<9223372036854775807:=Nat.lt_of_lt_of_le hi hl
   show c375_3 (aG p n) aA ls rec (i:Int)=_
   unfold c375_3;rw[aJ hb];refine(aE (Int.ofNat_lt.2 hi)).trans ?_;refine bif_nn.trans ?_;refine(aL hi).trans ?_;exact aK hp
  ·show c375_3 (aG p n) aA ls rec (i:Int)=_
   unfold c375_3;refine(aE (Int.ofNat_lt.2 hi)).trans ?_;refine bif_nn.trans ?_;refine(aL hi).trans ?_;exact aO hp
  ·show c375_3 (aG p n) aA ls rec (ls.length:Int)=_
   unfold c375_3;refine(aF (Int.lt_irrefl _)).trans ?_;rfl
 exact Ev.eq (fun aA=>by unfold T375;rfl) (lp.ev (i:=()) rfl)
theorem f377(a b:ByteArray):Ran p 1 377 [.val false ⟨K9,(a,())⟩, .val false ⟨K9,(b,())⟩] ⟨[⟨K3,(qX a b,())⟩],[]⟩:=fun n hn=>by
 cases n with
 | zero=>omega
 | succ n=>rfl
theorem f355(a b:dG):Ran p 3 355 [.val true ⟨K161,a⟩, .val true ⟨K161,b⟩] ⟨[⟨K3,(iU a b,())⟩],[]⟩:=go355 fun n hn=>Ev.now fun aA=>by
 unfold T355;refine(aD (f376 a.1 b.1 n (by omega))).trans ?_;refine(aD (f376 a.2.1 b.2.1 n (by omega))).trans ?_;refine(aD (f376 a.2.2.1 b.2.2.1 n (by omega))).trans ?_;refine(aD (f376 a.2.2.2.1 b.2.2.2.1 n (by omega))).trans ?_;refine(aD (f377 a.2.2.2.2.1 b.2.2.2.2.1 n (by omega))).trans ?_
 refine(aD (f375 [(l2 a.1 b.1,()),(l2 a.2.1 b.2.1,()),(l2 a.2.2.1 b.2.2.1,()),(l2 a.2.2.2.1 b.2.2.2.1,()),(qX a.2.2.2.2.1 b.2.2.2.2.1,())] (by show 5≤9223372036854775807;omega) n (by omega))).trans ?_
 exact congrArg (fun x:Int=>(some ⟨[⟨K3,(x,())⟩],[]⟩:Option Out)) (GR a b)
theorem f328(a b:dG):Ran p 3 328 [.val true ⟨K161,a⟩, .val true ⟨K161,b⟩] ⟨[⟨K3,(iU a b,())⟩],[]⟩:=go328 fun n hn=>by
 have lp:It (fun aA (_:Unit)=>c328_3 (aG p n) aA a b (((l2 a.1 b.1,()),()),()) (((l2 a.2.1 b.2.1,()),()),()) (((l2 a.2.2.1 b.2.2.1,()),()),()) (((l2 a.2.2.2.1 b.2.2.2.1,()),()),())) (0:Int) (fun _=>oI (iU a b)):=by
  have:=It.first (c:=fun aA (_:Unit)=>c328_3 (aG p n) aA a b (((l2 a.1 b.1,()),()),()) (((l2 a.2.1 b.2.1,()),()),()) (((l2 a.2.2.1 b.2.2.1,()),()),()) (((l2 a.2.2.2.1 b.2.2.2.1,()),()),())) (fun i=>(i:Int)) (zM a b).length (fun i=>(gt (zM a b) i).1 != 0) (fun i _=>oI (gt (zM a b) i).1) (fun _=>oI (qX a.2.2.2.2.1 b.2.2.2.2.1)) (fun i hi hp aA a' rec=>?_) (fun i hi hp=>It.stop fun aA a' rec=>?_) (It.stop fun aA a' rec=>?_)
  ·rw[← EK];revert this;unfold orZ
   cases (List.range (zM a b).length).find? (fun i=>(gt (zM a b) i).1 != 0)<;>exact fun h=>h
  ·have hb:i<9223372036854775807:=Nat.lt_of_lt_of_le hi (by show 4≤9223372036854775807;omega)
   show c328_3 (aG p n) aA a b (((l2 a.1 b.1,()),()),()) (((l2 a.2.1 b.2.1,()),()),()) (((l2 a.2.2.1 b.2.2.1,()),()),()) (((l2 a.2.2.2.1 b.2.2.2.1,()),()),()) rec (i:Int)=_
   unfold c328_3;rw[aJ hb];refine(aE (Int.ofNat_lt.2 hi)).trans ?_;refine bif_nn.trans ?_;refine(aL hi).trans ?_;refine(aL hi).trans ?_;exact aK hp
  ·show c328_3 (aG p n) aA a b (((l2 a.1 b.1,()),()),()) (((l2 a.2.1 b.2.1,()),()),()) (((l2 a.2.2.1 b.2.2.1,()),()),()) (((l2 a.2.2.2.1 b.2.2.2.1,()),()),()) rec (i:Int)=_
   unfold c328_3;refine(aE (Int.ofNat_lt.2 hi)).trans ?_;refine bif_nn.trans ?_;refine(aL hi).trans ?_;refine(aL hi).trans ?_;refine(aO hp).trans ?_;refine bif_nn.trans ?_;refine(aL hi).trans ?_;refine(aL hi).trans ?_;rfl
  ·show c328_3 (aG p n) aA a b (((l2 a.1 b.1,()),()),()) (((l2 a.2.1 b.2.1,()),()),()) (((l2 a.2.2.1 b.2.2.1,()),()),()) (((l2 a.2.2.2.1 b.2.2.2.1,()),()),()) rec (((zM a b).length:Nat):Int)=_
   unfold c328_3;refine(aF (Int.lt_irrefl _)).trans ?_
   rw[← DQ]
   cases Op.bytesLess (ByteArray.toList a.2.2.2.2.1) (ByteArray.toList b.2.2.2.2.1)with
   | true=>rfl
   | false=>refine(aK rfl).trans ?_;refine(aD (f359 (!(false||ByteArray.toList a.2.2.2.2.1==ByteArray.toList b.2.2.2.2.1)) n (by omega))).trans ?_;rfl
 exact Ev.eq (fun aA=>by unfold T328;refine(aD (f358 a.1 b.1 n (by omega))).trans ?_;refine(aD (f358 a.2.1 b.2.1 n (by omega))).trans ?_;refine(aD (f358 a.2.2.1 b.2.2.1 n (by omega))).trans ?_;refine(aD (f358 a.2.2.2.1 b.2.2.2.1 n (by omega))).trans ?_;rfl) (lp.ev (i:=()) rfl)
theorem f320(a b:dG):Ran p 4 320 [.val true ⟨K161,a⟩, .val true ⟨K161,b⟩] ⟨[⟨K161,mxE a b⟩],[]⟩:=go320 fun n hn=>Ev.now fun aA=>by
 unfold T320 mxE;refine(aD (f355 a b n (by omega))).trans ?_;cases decide (iU a b<0)<;>rfl
theorem f260(a b:aM)(ha:SzS a)(hb':SzS b)(hpa:Pos a)(hpb:Pos b):Ran p 4 260 [.val true ⟨K27,a⟩, .val true ⟨K27,b⟩] ⟨[⟨K27,eH a b⟩],[]⟩:=go260 fun n hn=>by
 have lp:It (fun aA (_:Unit)=>c260_3 (aG p n) aA a b) ((0:Int),([]:List aV),([]:List cB)) (fun _=>some ⟨[⟨K27,eH a b⟩],[]⟩):=by
  refine It.run (fun i=>((i:Int),bF i (cI a b),bF i (cV a b))) 5 (fun i hi aA u rec=>?_) (It.stop fun aA u rec=>?_)
  ·have l1:(bF i (cI a b)).length≤i*1:=c9 fun j _=>l8 a b j
   have l2':(bF i (cV a b)).length≤i*1:=c9 fun j _=>nR a b j
   have hb:i<9223372036854775807:=by omega
   have fin3:∀ {F:List aV} {J:List cB},cI a b i=F→cV a b i=J→rec (((i+1:Nat):Int),bF i (cI a b)++F,bF i (cV a b)++J)=rec (((i+1:Nat):Int),bF (i+1) (cI a b),bF (i+1) (cV a b)):=by
    intro F J h1 h2;rw[dJ,dJ,h1,h2]
   have fin0:∀ {F:List aV},cI a b i=F→cV a b i=[]→rec (((i+1:Nat):Int),bF i (cI a b)++F,bF i (cV a b))=rec (((i+1:Nat):Int),bF (i+1) (cI a b),bF (i+1) (cV a b)):=by
    intro F h1 h2;rw[dJ,dJ,h1,h2,List.append_nil]
   have fin1:∀ {J:List cB},cI a b i=[]→cV a b i=J→rec (((i+1:Nat):Int),bF i (cI a b),bF i (cV a b)++J)=rec (((i+1:Nat):Int),bF (i+1) (cI a b),bF (i+1) (cV a b)):=by
    intro J h1 h2;rw[dJ,dJ,h1,h2,List.append_nil]
   have fin2:cI a b i=[]→cV a b i=[]→rec (((i+1:Nat):Int),bF i (cI a b),bF i (cV a b))=rec (((i+1:Nat):Int),bF (i+1) (cI a b),bF (i+1) (cV a b)):=by
    intro h1 h2;rw[dJ,dJ,h1,h2,List.append_nil,List.append_nil]
   show c260_3 (aG p n) aA a b rec ((i:Int),bF i (cI a b),bF i (cV a b))=rec (((i+1:Nat):Int),bF (i+1) (cI a b),bF (i+1) (cV a b))
   unfold c260_3;dsimp only;rw[aJ hb];refine(aE (by show(i:Int)<5;omega)).trans ?_;refine(aD (f313 a (i:Int) (aS ha.b) n (by omega))).trans ?_;refine(aD (f313 b (i:Int) (aS hb'.b) n (by omega))).trans ?_;refine(aD (f248 (cR a.2.1 (i:Int)) (cR b.2.1 (i:Int)) n (by omega))).trans ?_
   have zi:bC a (i:Int)=(eE,false)→bC b (i:Int)=(eE,false)→cV a b i=[]:=fun ea eb=>fB (GQ ea eb) (by show ¬ (0:Int)>_;have:=II (b:=b) hpa (i:Int);omega)
   by_cases hf:flr a b (i:Int)>0
   ·refine(aE hf).trans ?_;refine(aE (by show(bF i (cI a b)).length+1≤4294967296;omega)).trans ?_
    have gF:=oQ hf
    refine(cH (f327 a (i:Int) (aS ha.a) n (by omega))).trans ?_;refine(cH (f327 b (i:Int) (aS hb'.a) n (by omega))).trans ?_
    rcases lD hpa (i:Int)with ⟨x,hx,ea⟩ | ea<;>rcases lD hpb (i:Int)with ⟨y,hy,eb⟩ | eb<;>rw[ea,eb]
    ·refine(aK rfl).trans ?_;refine(aK rfl).trans ?_;refine(aO rfl).trans ?_;refine(aD (f328 y x n (by omega))).trans ?_
     have pk:=BT ea eb
     by_cases hc:iU y x>0
     ·rw[decide_eq_true hc] at pk
      replace pk:eX a b (i:Int)=y:=pk
      refine(aE hc).trans ?_
      by_cases hi':y.1>flr a b i
      ·refine(aE hi').trans ?_;refine(aE (by show(bF i (cV a b)).length+1≤4294967296;omega)).trans ?_;exact fin3 gF (gB pk hi')
      ·refine(aF hi').trans ?_;exact fin0 gF (fB pk hi')
     ·rw[decide_eq_false hc] at pk
      replace pk:eX a b (i:Int)=x:=pk
      refine(aF hc).trans ?_
      by_cases hi':x.1>flr a b i
      ·refine(aE hi').trans ?_;refine(aE (by show(bF i (cV a b)).length+1≤4294967296;omega)).trans ?_;exact fin3 gF (gB pk hi')
      ·refine(aF hi').trans ?_;exact fin0 gF (fB pk hi')
    ·refine(aK rfl).trans ?_;refine(aK rfl).trans ?_;refine(aK rfl).trans ?_
     by_cases hi':x.1>flr a b i
     ·refine(aE hi').trans ?_;refine(aE (by show(bF i (cV a b)).length+1≤4294967296;omega)).trans ?_;exact fin3 gF (gB (sZ ea eb hx) hi')
     ·refine(aF hi').trans ?_;exact fin0 gF (fB (sZ ea eb hx) hi')
    ·refine(aO rfl).trans ?_;refine(aK rfl).trans ?_;refine(aO rfl).trans ?_
     by_cases hi':y.1>flr a b i
     ·refine(aE hi').trans ?_;refine(aE (by show(bF i (cV a b)).length+1≤4294967296;omega)).trans ?_;exact fin3 gF (gB (tA ea eb hy) hi')
     ·refine(aF hi').trans ?_;exact fin0 gF (fB (tA ea eb hy) hi')
    ·refine(aO rfl).trans ?_;refine(aO rfl).trans ?_;exact fin0 gF (zi ea eb)
   ·refine(aF hf).trans ?_
    have gF:=oS hf
    refine(cH (f327 a (i:Int) (aS ha.a) n (by omega))).trans ?_;refine(cH (f327 b (i:Int) (aS hb'.a) n (by omega))).trans ?_
    rcases lD hpa (i:Int)with ⟨x,hx,ea⟩ | ea<;>rcases lD hpb (i:Int)with ⟨y,hy,eb⟩ | eb<;>rw[ea,eb]
    ·refine(aK rfl).trans ?_;refine(aK rfl).trans ?_;refine(aO rfl).trans ?_;refine(aD (f328 y x n (by omega))).trans ?_
     have pk:=BT ea eb
     by_cases hc:iU y x>0
     ·rw[decide_eq_true hc] at pk
      replace pk:eX a b (i:Int)=y:=pk
      refine(aE hc).trans ?_
      by_cases hi':y.1>flr a b i
      ·refine(aE hi').trans ?_;refine(aE (by show(bF i (cV a b)).length+1≤4294967296;omega)).trans ?_;exact fin1 gF (gB pk hi')
      ·refine(aF hi').trans ?_;exact fin2 gF (fB pk hi')
     ·rw[decide_eq_false hc] at pk
      replace pk:eX a b (i:Int)=x:=pk
      refine(aF hc).trans ?_
      by_cases hi':x.1>flr a b i
      ·refine(aE hi').trans ?_;refine(aE (by show(bF i (cV a b)).length+1≤4294967296;omega)).trans ?_;exact fin1 gF (gB pk hi')
      ·refine(aF hi').trans ?_;exact fin2 gF (fB pk hi')
    ·refine(aK rfl).trans ?_;refine(aK rfl).trans ?_;refine(aK rfl).trans ?_
     by_cases hi':x.1>flr a b i
     ·refine(aE hi').trans ?_;refine(aE (by show(bF i (cV a b)).length+1≤4294967296;omega)).trans ?_;exact fin1 gF (gB (sZ ea eb hx) hi')
     ·refine(aF hi').trans ?_;exact fin2 gF (fB (sZ ea eb hx) hi')
    ·refine(aO rfl).trans ?_;refine(aK rfl).trans ?_;refine(aO rfl).trans ?_
     by_cases hi':y.1>flr a b i
     ·refine(aE hi').trans ?_;refine(aE (by show(bF i (cV a b)).length+1≤4294967296;omega)).trans ?_;exact fin1 gF (gB (tA ea eb hy) hi')
     ·refine(aF hi').trans ?_;exact fin2 gF (fB (tA ea eb hy) hi')
    ·refine(aO rfl).trans ?_;refine(aO rfl).trans ?_;exact fin2 gF (zi ea eb)
  ·show c260_3 (aG p n) aA a b rec (((5:Nat):Int),bF 5 (cI a b),bF 5 (cV a b))=_
   unfold c260_3;exact aF (by show ¬ ((5:Int)<5);decide)
 exact Ev.eq (fun aA=>by unfold T260;rfl) (lp.ev (i:=()) rfl)
theorem f240(a b:aM)(ha:SzS a)(hb':SzS b):Ran p 5 240 [.val true ⟨K27,a⟩, .val true ⟨K27,b⟩] ⟨[⟨K27,eH a b⟩],[]⟩:=go240 fun n hn=>by
 have lp:It (fun aA (_:Unit)=>c240_3 (aG p n) aA a b) ((0:Int),([]:List cB),([]:List aV)) (fun _=>some ⟨[⟨K27,eH a b⟩],[]⟩):=by
  refine It.run (fun i=>((i:Int),bF i (cV a b),bF i (cI a b))) 5 (fun i hi aA u rec=>?_) (It.stop fun aA u rec=>?_)
  ·have l1:(bF i (cI a b)).length≤i*1:=c9 fun j _=>l8 a b j
   have l2':(bF i (cV a b)).length≤i*1:=c9 fun j _=>nR a b j
   have hb:i<9223372036854775807:=by omega
   show c240_3 (aG p n) aA a b rec ((i:Int),bF i (cV a b),bF i (cI a b))=rec (((i+1:Nat):Int),bF (i+1) (cV a b),bF (i+1) (cI a b))
   unfold c240_3;dsimp only;rw[aJ hb];refine(aE (by show(i:Int)<5;omega)).trans ?_;refine(cH (f319 a (i:Int) (aS ha.a) n (by omega))).trans ?_;refine(cH (f319 b (i:Int) (aS hb'.a) n (by omega))).trans ?_;refine(aD (f320 (bC a (i:Int)).1 (bC b (i:Int)).1 n (by omega))).trans ?_;refine(aD (f243 a (i:Int) (aS ha.b) n (by omega))).trans ?_;refine(aD (f243 b (i:Int) (aS hb'.b) n (by omega))).trans ?_
   rw[dJ,dJ]
   by_cases hp:(eX a b (i:Int)).1>flr a b (i:Int)
   ·refine(aE hp).trans ?_;refine(aE (by show(bF i (cV a b)).length+1≤4294967296;omega)).trans ?_;rw[gB rfl hp]
    by_cases hf:flr a b (i:Int)>0
    ·refine(aE hf).trans ?_;refine(aE (by show(bF i (cI a b)).length+1≤4294967296;omega)).trans ?_;rw[oQ hf];rfl
    ·refine(aF hf).trans ?_;rw[oS hf,List.append_nil];rfl
   ·refine(aF hp).trans ?_;rw[fB rfl hp,List.append_nil]
    by_cases hf:flr a b (i:Int)>0
    ·refine(aE hf).trans ?_;refine(aE (by show(bF i (cI a b)).length+1≤4294967296;omega)).trans ?_;rw[oQ hf];rfl
    ·refine(aF hf).trans ?_;rw[oS hf,List.append_nil];rfl
  ·show c240_3 (aG p n) aA a b rec (((5:Nat):Int),bF 5 (cV a b),bF 5 (cI a b))=_
   unfold c240_3;exact aF (by show ¬ ((5:Int)<5);decide)
 exact Ev.eq (fun aA=>by unfold T240;rfl) (lp.ev (i:=()) rfl)
theorem f316(s:aM)(id:Int)(hz:SzS s):Ran p 4 316 [.val true ⟨K27,s⟩, .val false ⟨K3,(id,())⟩] ⟨[⟨K3,(gone s id,())⟩],[]⟩:=go316 fun n hn=>Ev.now fun aA=>by
 unfold T316 gone;refine(aD (f227 s (aS hz.a) (aS hz.b) n (by omega))).trans ?_
 cases hs:aY s with
 | false=>rfl
 | true=>
  refine(aK rfl).trans ?_;refine(cH (f327 s id (aS hz.a) n (by omega))).trans ?_
  rcases lD ((bI s).1 hs).pos id with ⟨x,_,e⟩ | e<;>rw[e]
  ·refine(aK rfl).trans ?_;show(bif x.2.1==0 then _ else _)=(some (⟨[⟨K3,(bif true then(bif true then(bif x.2.1==0 then _ else _)else _)else _,())⟩],[]⟩:Out):Option Out)
   cases x.2.1==0<;>rfl
  ·refine(aO rfl).trans ?_;refine(aD (f313 s id (aS hz.b) n (by omega))).trans ?_;rfl
theorem f311(s:aM)(id:Int)(hz:SzS s):Ran p 4 311 [.val true ⟨K27,s⟩, .val false ⟨K3,(id,())⟩] ⟨[⟨K3,(gone s id,())⟩],[]⟩:=go311 fun n hn=>Ev.now fun aA=>by
 unfold T311;refine(aD (f101 s (aS hz.a) (aS hz.b) n (by omega))).trans ?_
 cases hs:aY s with
 | false=>rw[zK hs];rfl
 | true=>
  rw[IG hs]
  refine(aK rfl).trans ?_;refine(cH (f319 s id (aS hz.a) n (by omega))).trans ?_
  rcases lD ((bI s).1 hs).pos id with ⟨x,_,e⟩ | e<;>rw[e]
  ·refine(aK rfl).trans ?_;show(bif x.2.1==1 then _ else _)=(some (⟨[⟨K3,(bif true then(bif x.2.1==1 then _ else _)else _,())⟩],[]⟩:Out):Option Out)
   cases x.2.1==1<;>rfl
  ·refine(aO rfl).trans ?_;refine(aD (f243 s id (aS hz.b) n (by omega))).trans ?_;rfl
end Go.Abs.Xz
