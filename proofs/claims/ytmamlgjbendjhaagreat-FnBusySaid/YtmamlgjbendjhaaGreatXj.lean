/- What the functions of this program answer, part j. -/
import Derived.Test.YtmamlgjbendjhaaGreatXh
import Derived.Test.YtmamlgjbendjhaaGreatW3
set_option linter.unusedVariables false
namespace Go.Abs.Xz
open Go Go.Abs
theorem f327(s:aI)(id:Int)(hl:s.1.length≤maxLen):Ran p 1 327 [.val true ⟨K27,s⟩, .val false ⟨K3,(id,())⟩] ⟨[⟨K161,(bA s id).1⟩,⟨K4,((bA s id).2,())⟩],[]⟩:=go327 fun n hn=>by
 have lp:It (fun aA (_:Unit)=>c327_2 (aK p n) aA s id) (0:Int) (fun _=>some ⟨[⟨K161,(bA s id).1⟩,⟨K4,((bA s id).2,())⟩],[]⟩):=by
  have:=It.first (c:=fun aA (_:Unit)=>c327_2 (aK p n) aA s id) (fun i=>(i:Int)) s.1.length (fun i=>(gt s.1 i).1==id) (fun i _=>some ⟨[⟨K161,(gt (α:=bM) s.1 i).2⟩,⟨K4,(true,())⟩],[]⟩) (fun _=>some ⟨[⟨K161,c8⟩,⟨K4,(false,())⟩],[]⟩) (fun i hi hp aA a rec=>?_) (fun i hi hp=>It.stop fun aA a rec=>?_) (It.stop fun aA a rec=>?_)
  ·revert this;unfold bA
   cases (List.range s.1.length).find? (fun i=>(gt s.1 i).1==id)<;>exact fun h=>h
  ·have hb:i<9223372036854775807:=Nat.lt_of_lt_of_le hi hl
   show c327_2 (aK p n) aA s id rec (i:Int)=_
   unfold c327_2;rw[aL hb];refine(aE (Int.ofNat_lt.2 hi)).trans ?_;refine(aE (Int.natCast_nonneg _)).trans ?_;refine(aJ hi).trans ?_;exact aF hp
  ·show c327_2 (aK p n) aA s id rec (i:Int)=_
   unfold c327_2;refine(aE (Int.ofNat_lt.2 hi)).trans ?_;refine(aE (Int.natCast_nonneg _)).trans ?_;refine(aJ hi).trans ?_;refine(aN hp).trans ?_;refine(aE (Int.natCast_nonneg _)).trans ?_;refine(aJ hi).trans ?_;rfl
  ·show c327_2 (aK p n) aA s id rec (s.1.length:Int)=_
   unfold c327_2;refine(aG (Int.lt_irrefl _)).trans ?_;rfl
 exact Ev.eq (fun aA=>by unfold T327;rfl) (lp.ev (i:=()) rfl)
theorem f319(s:aI)(id:Int)(hl:s.1.length≤maxLen):Ran p 1 319 [.val true ⟨K27,s⟩, .val false ⟨K3,(id,())⟩] ⟨[⟨K161,(bA s id).1⟩,⟨K4,((bA s id).2,())⟩],[]⟩:=go319 fun n hn=>by
 have lp:It (fun aA (_:Unit)=>c319_2 (aK p n) aA s id) (0:Int) (fun _=>some ⟨[⟨K161,(bA s id).1⟩,⟨K4,((bA s id).2,())⟩],[]⟩):=by
  have:=It.first (c:=fun aA (_:Unit)=>c319_2 (aK p n) aA s id) (fun i=>(i:Int)) s.1.length (fun i=>(gt s.1 i).1==id) (fun i _=>some ⟨[⟨K161,(gt (α:=bM) s.1 i).2⟩,⟨K4,(true,())⟩],[]⟩) (fun _=>some ⟨[⟨K161,c8⟩,⟨K4,(false,())⟩],[]⟩) (fun i hi hp aA a rec=>?_) (fun i hi hp=>It.stop fun aA a rec=>?_) (It.stop fun aA a rec=>?_)
  ·revert this;unfold bA
   cases (List.range s.1.length).find? (fun i=>(gt s.1 i).1==id)<;>exact fun h=>h
  ·have hb:i<9223372036854775807:=Nat.lt_of_lt_of_le hi hl
   show c319_2 (aK p n) aA s id rec (i:Int)=_
   unfold c319_2;rw[aL hb];refine(aE (Int.ofNat_lt.2 hi)).trans ?_;refine(aE (Int.natCast_nonneg _)).trans ?_;refine(aJ hi).trans ?_;exact aF hp
  ·show c319_2 (aK p n) aA s id rec (i:Int)=_
   unfold c319_2;refine(aE (Int.ofNat_lt.2 hi)).trans ?_;refine(aE (Int.natCast_nonneg _)).trans ?_;refine(aJ hi).trans ?_;refine(aN hp).trans ?_;rfl
  ·show c319_2 (aK p n) aA s id rec (s.1.length:Int)=_
   unfold c319_2;refine(aG (Int.lt_irrefl _)).trans ?_;rfl
 exact Ev.eq (fun aA=>by unfold T319;rfl) (lp.ev (i:=()) rfl)
theorem f248(a b:Int):Ran p 1 248 [.val false ⟨K3,(a,())⟩, .val false ⟨K3,(b,())⟩] ⟨[⟨K3,(mxI true a b,())⟩],[]⟩:=go248 fun n hn=>Ev.now fun aA=>by
 unfold T248 mxI
 simp only[if_true]
 by_cases h:a>b
 ·refine(aE h).trans ?_;rw[if_neg (by omega:¬ b>a)]
 ·refine(aG h).trans ?_;by_cases h':b>a
  ·rw[if_pos h']
  ·rw[if_neg h',show a=b from by omega]
theorem f359(b:Bool):Ran p 1 359 [.val false ⟨K4,(b,())⟩] ⟨[⟨K3,(DA b,())⟩],[]⟩:=go359 fun n hn=>Ev.now fun aA=>by
 unfold T359;cases b<;>rfl
theorem f358(a b:Int):Ran p 2 358 [.val false ⟨K3,(a,())⟩, .val false ⟨K3,(b,())⟩] ⟨[⟨K3,(l2 a b,())⟩],[]⟩:=go358 fun n hn=>Ev.now fun aA=>by
 unfold T358 l2
 cases decide (a<b)with
 | true=>rfl
 | false=>refine(aF rfl).trans ?_;refine(aB (f359 (decide (a>b)) n (by omega))).trans ?_;rfl
theorem f383(a:Int):Ran p 1 383 [.val false ⟨K3,(a,())⟩] ⟨[⟨K4,(false,())⟩],[]⟩:=go383 fun n hn=>Ev.now fun aA=>by
 unfold T383;exact congrArg (fun b:Bool=>(some ⟨[⟨K4,(b,())⟩],[]⟩:Option Out)) (by simp:(a != a)=false)
theorem f376(a b:Int):Ran p 2 376 [.val false ⟨K3,(a,())⟩, .val false ⟨K3,(b,())⟩] ⟨[⟨K3,(l2 a b,())⟩],[]⟩:=go376 fun n hn=>Ev.now fun aA=>by
 unfold T376 l2;refine(aB (f383 a n (by omega))).trans ?_;refine(aB (f383 b n (by omega))).trans ?_;refine(aF rfl).trans ?_;refine(aF rfl).trans ?_;cases decide (a<b)<;>cases decide (a>b)<;>rfl
theorem f375(ls:List aY)(hl:ls.length≤maxLen):Ran p 1 375 [.val false ⟨K28,(ls,())⟩] ⟨[⟨K3,(orN ls,())⟩],[]⟩:=go375 fun n hn=>by
 have lp:It (fun aA (_:Unit)=>c375_3 (aK p n) aA ls) (0:Int) (fun _=>oI (orN ls)):=by
  have:=It.first (c:=fun aA (_:Unit)=>c375_3 (aK p n) aA ls) (fun i=>(i:Int)) ls.length (fun i=>(gt ls i).1 != 0) (fun i _=>oI (gt ls i).1) (fun _=>oI 0) (fun i hi hp aA a rec=>?_) (fun i hi hp=>It.stop fun aA a rec=>?_) (It.stop fun aA a rec=>?_)
  ·revert this;unfold orN
   cases (List.range ls.length).find? (fun i=>(gt ls i).1 != 0)<;>exact fun h=>h
  ·have hb:i<9223372036854775807:=Nat.lt_of_lt_of_le hi hl
   show c375_3 (aK p n) aA ls rec (i:Int)=_
   unfold c375_3;rw[aL hb];refine(aE (Int.ofNat_lt.2 hi)).trans ?_;refine(aE (Int.natCast_nonneg _)).trans ?_;refine(aJ hi).trans ?_;exact aF hp
  ·show c375_3 (aK p n) aA ls rec (i:Int)=_
   unfold c375_3;refine(aE (Int.ofNat_lt.2 hi)).trans ?_;refine(aE (Int.natCast_nonneg _)).trans ?_;refine(aJ hi).trans ?_;exact aN hp
  ·show c375_3 (aK p n) aA ls rec (ls.length:Int)=_
   unfold c375_3;refine(aG (Int.lt_irrefl _)).trans ?_;rfl
 exact Ev.eq (fun aA=>by unfold T375;rfl) (lp.ev (i:=()) rfl)
theorem f377(a b:ByteArray):Ran p 1 377 [.val false ⟨K9,(a,())⟩, .val false ⟨K9,(b,())⟩] ⟨[⟨K3,(qD a b,())⟩],[]⟩:=fun n hn=>by
 cases n with
 | zero=>omega
 | succ n=>rfl
theorem f355(a b:bV):Ran p 3 355 [.val true ⟨K161,a⟩, .val true ⟨K161,b⟩] ⟨[⟨K3,(gH a b,())⟩],[]⟩:=go355 fun n hn=>Ev.now fun aA=>by
 unfold T355;refine(aB (f376 a.1 b.1 n (by omega))).trans ?_;refine(aB (f376 a.2.1 b.2.1 n (by omega))).trans ?_;refine(aB (f376 a.2.2.1 b.2.2.1 n (by omega))).trans ?_;refine(aB (f376 a.2.2.2.1 b.2.2.2.1 n (by omega))).trans ?_;refine(aB (f377 a.2.2.2.2.1 b.2.2.2.2.1 n (by omega))).trans ?_
 refine(aB (f375 [(l2 a.1 b.1,()),(l2 a.2.1 b.2.1,()),(l2 a.2.2.1 b.2.2.1,()),(l2 a.2.2.2.1 b.2.2.2.1,()),(qD a.2.2.2.2.1 b.2.2.2.2.1,())] (by show 5≤9223372036854775807;omega) n (by omega))).trans ?_
 exact congrArg (fun x:Int=>(some ⟨[⟨K3,(x,())⟩],[]⟩:Option Out)) (GR a b)
theorem f328(a b:bV):Ran p 3 328 [.val true ⟨K161,a⟩, .val true ⟨K161,b⟩] ⟨[⟨K3,(gH a b,())⟩],[]⟩:=go328 fun n hn=>by
 have lp:It (fun aA (_:Unit)=>c328_3 (aK p n) aA a b (((l2 a.1 b.1,()),()),()) (((l2 a.2.1 b.2.1,()),()),()) (((l2 a.2.2.1 b.2.2.1,()),()),()) (((l2 a.2.2.2.1 b.2.2.2.1,()),()),())) (0:Int) (fun _=>oI (gH a b)):=by
  have:=It.first (c:=fun aA (_:Unit)=>c328_3 (aK p n) aA a b (((l2 a.1 b.1,()),()),()) (((l2 a.2.1 b.2.1,()),()),()) (((l2 a.2.2.1 b.2.2.1,()),()),()) (((l2 a.2.2.2.1 b.2.2.2.1,()),()),())) (fun i=>(i:Int)) (yY a b).length (fun i=>(gt (yY a b) i).1 != 0) (fun i _=>oI (gt (yY a b) i).1) (fun _=>oI (qD a.2.2.2.2.1 b.2.2.2.2.1)) (fun i hi hp aA a' rec=>?_) (fun i hi hp=>It.stop fun aA a' rec=>?_) (It.stop fun aA a' rec=>?_)
  ·rw[← D7];revert this;unfold orZ
   cases (List.range (yY a b).length).find? (fun i=>(gt (yY a b) i).1 != 0)<;>exact fun h=>h
  ·have hb:i<9223372036854775807:=Nat.lt_of_lt_of_le hi (by show 4≤9223372036854775807;omega)
   show c328_3 (aK p n) aA a b (((l2 a.1 b.1,()),()),()) (((l2 a.2.1 b.2.1,()),()),()) (((l2 a.2.2.1 b.2.2.1,()),()),()) (((l2 a.2.2.2.1 b.2.2.2.1,()),()),()) rec (i:Int)=_
   unfold c328_3;rw[aL hb];refine(aE (Int.ofNat_lt.2 hi)).trans ?_;refine(aE (Int.natCast_nonneg _)).trans ?_;refine(aJ hi).trans ?_;refine(aJ hi).trans ?_;exact aF hp
  ·show c328_3 (aK p n) aA a b (((l2 a.1 b.1,()),()),()) (((l2 a.2.1 b.2.1,()),()),()) (((l2 a.2.2.1 b.2.2.1,()),()),()) (((l2 a.2.2.2.1 b.2.2.2.1,()),()),()) rec (i:Int)=_
   unfold c328_3;refine(aE (Int.ofNat_lt.2 hi)).trans ?_;refine(aE (Int.natCast_nonneg _)).trans ?_;refine(aJ hi).trans ?_;refine(aJ hi).trans ?_;refine(aN hp).trans ?_;refine(aE (Int.natCast_nonneg _)).trans ?_;refine(aJ hi).trans ?_;refine(aJ hi).trans ?_;rfl
  ·show c328_3 (aK p n) aA a b (((l2 a.1 b.1,()),()),()) (((l2 a.2.1 b.2.1,()),()),()) (((l2 a.2.2.1 b.2.2.1,()),()),()) (((l2 a.2.2.2.1 b.2.2.2.1,()),()),()) rec (((yY a b).length:Nat):Int)=_
   unfold c328_3;refine(aG (Int.lt_irrefl _)).trans ?_
   rw[← C3]
   cases Op.bytesLess (ByteArray.toList a.2.2.2.2.1) (ByteArray.toList b.2.2.2.2.1)with
   | true=>rfl
   | false=>refine(aF rfl).trans ?_;refine(aB (f359 (!(false||ByteArray.toList a.2.2.2.2.1==ByteArray.toList b.2.2.2.2.1)) n (by omega))).trans ?_;rfl
 exact Ev.eq (fun aA=>by unfold T328;refine(aB (f358 a.1 b.1 n (by omega))).trans ?_;refine(aB (f358 a.2.1 b.2.1 n (by omega))).trans ?_;refine(aB (f358 a.2.2.1 b.2.2.1 n (by omega))).trans ?_;refine(aB (f358 a.2.2.2.1 b.2.2.2.1 n (by omega))).trans ?_;rfl) (lp.ev (i:=()) rfl)
theorem f320(a b:bV):Ran p 4 320 [.val true ⟨K161,a⟩, .val true ⟨K161,b⟩] ⟨[⟨K161,mxE a b⟩],[]⟩:=go320 fun n hn=>Ev.now fun aA=>by
 unfold T320 mxE;refine(aB (f355 a b n (by omega))).trans ?_;cases decide (gH a b<0)<;>rfl
theorem f260(a b:aI)(ha:SzS a)(hb':SzS b)(hpa:Pos a)(hpb:Pos b):Ran p 4 260 [.val true ⟨K27,a⟩, .val true ⟨K27,b⟩] ⟨[⟨K27,dL a b⟩],[]⟩:=go260 fun n hn=>by
 have lp:It (fun aA (_:Unit)=>c260_3 (aK p n) aA a b) ((0:Int),([]:List aX),([]:List bM)) (fun _=>some ⟨[⟨K27,dL a b⟩],[]⟩):=by
  refine It.run (fun i=>((i:Int),bE i (cC a b),bE i (cK a b))) 5 (fun i hi aA u rec=>?_) (It.stop fun aA u rec=>?_)
  ·have l1:(bE i (cC a b)).length≤i*1:=cN fun j _=>lB a b j
   have l2':(bE i (cK a b)).length≤i*1:=cN fun j _=>m6 a b j
   have hb:i<9223372036854775807:=by omega
   have fin3:∀ {F:List aX} {J:List bM},cC a b i=F→cK a b i=J→rec (((i+1:Nat):Int),bE i (cC a b)++F,bE i (cK a b)++J)=rec (((i+1:Nat):Int),bE (i+1) (cC a b),bE (i+1) (cK a b)):=by
    intro F J h1 h2;rw[cW,cW,h1,h2]
   have fin0:∀ {F:List aX},cC a b i=F→cK a b i=[]→rec (((i+1:Nat):Int),bE i (cC a b)++F,bE i (cK a b))=rec (((i+1:Nat):Int),bE (i+1) (cC a b),bE (i+1) (cK a b)):=by
    intro F h1 h2;rw[cW,cW,h1,h2,List.append_nil]
   have fin1:∀ {J:List bM},cC a b i=[]→cK a b i=J→rec (((i+1:Nat):Int),bE i (cC a b),bE i (cK a b)++J)=rec (((i+1:Nat):Int),bE (i+1) (cC a b),bE (i+1) (cK a b)):=by
    intro J h1 h2;rw[cW,cW,h1,h2,List.append_nil]
   have fin2:cC a b i=[]→cK a b i=[]→rec (((i+1:Nat):Int),bE i (cC a b),bE i (cK a b))=rec (((i+1:Nat):Int),bE (i+1) (cC a b),bE (i+1) (cK a b)):=by
    intro h1 h2;rw[cW,cW,h1,h2,List.append_nil,List.append_nil]
   show c260_3 (aK p n) aA a b rec ((i:Int),bE i (cC a b),bE i (cK a b))=rec (((i+1:Nat):Int),bE (i+1) (cC a b),bE (i+1) (cK a b))
   unfold c260_3;dsimp only;rw[aL hb];refine(aE (by show(i:Int)<5;omega)).trans ?_;refine(aB (f313 a (i:Int) (aP ha.b) n (by omega))).trans ?_;refine(aB (f313 b (i:Int) (aP hb'.b) n (by omega))).trans ?_;refine(aB (f248 (cD a.2.1 (i:Int)) (cD b.2.1 (i:Int)) n (by omega))).trans ?_
   have zi:bA a (i:Int)=(c8,false)→bA b (i:Int)=(c8,false)→cK a b i=[]:=fun ea eb=>eM (GQ ea eb) (by show ¬ (0:Int)>_;have:=H7 (b:=b) hpa (i:Int);omega)
   by_cases hf:flr a b (i:Int)>0
   ·refine(aE hf).trans ?_;refine(aE (by show(bE i (cC a b)).length+1≤4294967296;omega)).trans ?_
    have gF:=nP hf
    refine(bB (f327 a (i:Int) (aP ha.a) n (by omega))).trans ?_;refine(bB (f327 b (i:Int) (aP hb'.a) n (by omega))).trans ?_
    rcases kB hpa (i:Int)with ⟨x,hx,ea⟩ | ea<;>rcases kB hpb (i:Int)with ⟨y,hy,eb⟩ | eb<;>rw[ea,eb]
    ·refine(aF rfl).trans ?_;refine(aF rfl).trans ?_;refine(aN rfl).trans ?_;refine(aB (f328 y x n (by omega))).trans ?_
     have pk:=BA ea eb
     by_cases hc:gH y x>0
     ·rw[decide_eq_true hc] at pk
      replace pk:dM a b (i:Int)=y:=pk
      refine(aE hc).trans ?_
      by_cases hi':y.1>flr a b i
      ·refine(aE hi').trans ?_;refine(aE (by show(bE i (cK a b)).length+1≤4294967296;omega)).trans ?_;exact fin3 gF (fH pk hi')
      ·refine(aG hi').trans ?_;exact fin0 gF (eM pk hi')
     ·rw[decide_eq_false hc] at pk
      replace pk:dM a b (i:Int)=x:=pk
      refine(aG hc).trans ?_
      by_cases hi':x.1>flr a b i
      ·refine(aE hi').trans ?_;refine(aE (by show(bE i (cK a b)).length+1≤4294967296;omega)).trans ?_;exact fin3 gF (fH pk hi')
      ·refine(aG hi').trans ?_;exact fin0 gF (eM pk hi')
    ·refine(aF rfl).trans ?_;refine(aF rfl).trans ?_;refine(aF rfl).trans ?_
     by_cases hi':x.1>flr a b i
     ·refine(aE hi').trans ?_;refine(aE (by show(bE i (cK a b)).length+1≤4294967296;omega)).trans ?_;exact fin3 gF (fH (sD ea eb hx) hi')
     ·refine(aG hi').trans ?_;exact fin0 gF (eM (sD ea eb hx) hi')
    ·refine(aN rfl).trans ?_;refine(aF rfl).trans ?_;refine(aN rfl).trans ?_
     by_cases hi':y.1>flr a b i
     ·refine(aE hi').trans ?_;refine(aE (by show(bE i (cK a b)).length+1≤4294967296;omega)).trans ?_;exact fin3 gF (fH (sE ea eb hy) hi')
     ·refine(aG hi').trans ?_;exact fin0 gF (eM (sE ea eb hy) hi')
    ·refine(aN rfl).trans ?_;refine(aN rfl).trans ?_;exact fin0 gF (zi ea eb)
   ·refine(aG hf).trans ?_
    have gF:=nQ hf
    refine(bB (f327 a (i:Int) (aP ha.a) n (by omega))).trans ?_;refine(bB (f327 b (i:Int) (aP hb'.a) n (by omega))).trans ?_
    rcases kB hpa (i:Int)with ⟨x,hx,ea⟩ | ea<;>rcases kB hpb (i:Int)with ⟨y,hy,eb⟩ | eb<;>rw[ea,eb]
    ·refine(aF rfl).trans ?_;refine(aF rfl).trans ?_;refine(aN rfl).trans ?_;refine(aB (f328 y x n (by omega))).trans ?_
     have pk:=BA ea eb
     by_cases hc:gH y x>0
     ·rw[decide_eq_true hc] at pk
      replace pk:dM a b (i:Int)=y:=pk
      refine(aE hc).trans ?_
      by_cases hi':y.1>flr a b i
      ·refine(aE hi').trans ?_;refine(aE (by show(bE i (cK a b)).length+1≤4294967296;omega)).trans ?_;exact fin1 gF (fH pk hi')
      ·refine(aG hi').trans ?_;exact fin2 gF (eM pk hi')
     ·rw[decide_eq_false hc] at pk
      replace pk:dM a b (i:Int)=x:=pk
      refine(aG hc).trans ?_
      by_cases hi':x.1>flr a b i
      ·refine(aE hi').trans ?_;refine(aE (by show(bE i (cK a b)).length+1≤4294967296;omega)).trans ?_;exact fin1 gF (fH pk hi')
      ·refine(aG hi').trans ?_;exact fin2 gF (eM pk hi')
    ·refine(aF rfl).trans ?_;refine(aF rfl).trans ?_;refine(aF rfl).trans ?_
     by_cases hi':x.1>flr a b i
     ·refine(aE hi').trans ?_;refine(aE (by show(bE i (cK a b)).length+1≤4294967296;omega)).trans ?_;exact fin1 gF (fH (sD ea eb hx) hi')
     ·refine(aG hi').trans ?_;exact fin2 gF (eM (sD ea eb hx) hi')
    ·refine(aN rfl).trans ?_;refine(aF rfl).trans ?_;refine(aN rfl).trans ?_
     by_cases hi':y.1>flr a b i
     ·refine(aE hi').trans ?_;refine(aE (by show(bE i (cK a b)).length+1≤4294967296;omega)).trans ?_;exact fin1 gF (fH (sE ea eb hy) hi')
     ·refine(aG hi').trans ?_;exact fin2 gF (eM (sE ea eb hy) hi')
    ·refine(aN rfl).trans ?_;refine(aN rfl).trans ?_;exact fin2 gF (zi ea eb)
  ·show c260_3 (aK p n) aA a b rec (((5:Nat):Int),bE 5 (cC a b),bE 5 (cK a b))=_
   unfold c260_3;exact aG (by show ¬ ((5:Int)<5);decide)
 exact Ev.eq (fun aA=>by unfold T260;rfl) (lp.ev (i:=()) rfl)
theorem f240(a b:aI)(ha:SzS a)(hb':SzS b):Ran p 5 240 [.val true ⟨K27,a⟩, .val true ⟨K27,b⟩] ⟨[⟨K27,dL a b⟩],[]⟩:=go240 fun n hn=>by
 have lp:It (fun aA (_:Unit)=>c240_3 (aK p n) aA a b) ((0:Int),([]:List bM),([]:List aX)) (fun _=>some ⟨[⟨K27,dL a b⟩],[]⟩):=by
  refine It.run (fun i=>((i:Int),bE i (cK a b),bE i (cC a b))) 5 (fun i hi aA u rec=>?_) (It.stop fun aA u rec=>?_)
  ·have l1:(bE i (cC a b)).length≤i*1:=cN fun j _=>lB a b j
   have l2':(bE i (cK a b)).length≤i*1:=cN fun j _=>m6 a b j
   have hb:i<9223372036854775807:=by omega
   show c240_3 (aK p n) aA a b rec ((i:Int),bE i (cK a b),bE i (cC a b))=rec (((i+1:Nat):Int),bE (i+1) (cK a b),bE (i+1) (cC a b))
   unfold c240_3;dsimp only;rw[aL hb];refine(aE (by show(i:Int)<5;omega)).trans ?_;refine(bB (f319 a (i:Int) (aP ha.a) n (by omega))).trans ?_;refine(bB (f319 b (i:Int) (aP hb'.a) n (by omega))).trans ?_;refine(aB (f320 (bA a (i:Int)).1 (bA b (i:Int)).1 n (by omega))).trans ?_;refine(aB (f243 a (i:Int) (aP ha.b) n (by omega))).trans ?_;refine(aB (f243 b (i:Int) (aP hb'.b) n (by omega))).trans ?_
   rw[cW,cW]
   by_cases hp:(dM a b (i:Int)).1>flr a b (i:Int)
   ·refine(aE hp).trans ?_;refine(aE (by show(bE i (cK a b)).length+1≤4294967296;omega)).trans ?_;rw[fH rfl hp]
    by_cases hf:flr a b (i:Int)>0
    ·refine(aE hf).trans ?_;refine(aE (by show(bE i (cC a b)).length+1≤4294967296;omega)).trans ?_;rw[nP hf];rfl
    ·refine(aG hf).trans ?_;rw[nQ hf,List.append_nil];rfl
   ·refine(aG hp).trans ?_;rw[eM rfl hp,List.append_nil]
    by_cases hf:flr a b (i:Int)>0
    ·refine(aE hf).trans ?_;refine(aE (by show(bE i (cC a b)).length+1≤4294967296;omega)).trans ?_;rw[nP hf];rfl
    ·refine(aG hf).trans ?_;rw[nQ hf,List.append_nil];rfl
  ·show c240_3 (aK p n) aA a b rec (((5:Nat):Int),bE 5 (cK a b),bE 5 (cC a b))=_
   unfold c240_3;exact aG (by show ¬ ((5:Int)<5);decide)
 exact Ev.eq (fun aA=>by unfold T240;rfl) (lp.ev (i:=()) rfl)
theorem f316(s:aI)(id:Int)(hz:SzS s):Ran p 4 316 [.val true ⟨K27,s⟩, .val false ⟨K3,(id,())⟩] ⟨[⟨K3,(gone s id,())⟩],[]⟩:=go316 fun n hn=>Ev.now fun aA=>by
 unfold T316 gone;refine(aB (f227 s (aP hz.a) (aP hz.b) n (by omega))).trans ?_
 cases hs:aO s with
 | false=>rfl
 | true=>
  refine(aF rfl).trans ?_;refine(bB (f327 s id (aP hz.a) n (by omega))).trans ?_
  rcases kB ((bF s).1 hs).pos id with ⟨x,_,e⟩ | e<;>rw[e]
  ·refine(aF rfl).trans ?_;show(bif x.2.1==0 then _ else _)=(some (⟨[⟨K3,(bif true then(bif true then(bif x.2.1==0 then _ else _)else _)else _,())⟩],[]⟩:Out):Option Out)
   cases x.2.1==0<;>rfl
  ·refine(aN rfl).trans ?_;refine(aB (f313 s id (aP hz.b) n (by omega))).trans ?_;rfl
theorem f311(s:aI)(id:Int)(hz:SzS s):Ran p 4 311 [.val true ⟨K27,s⟩, .val false ⟨K3,(id,())⟩] ⟨[⟨K3,(gone s id,())⟩],[]⟩:=go311 fun n hn=>Ev.now fun aA=>by
 unfold T311;refine(aB (f101 s (aP hz.a) (aP hz.b) n (by omega))).trans ?_
 cases hs:aO s with
 | false=>rw[yX hs];rfl
 | true=>
  rw[H6 hs]
  refine(aF rfl).trans ?_;refine(bB (f319 s id (aP hz.a) n (by omega))).trans ?_
  rcases kB ((bF s).1 hs).pos id with ⟨x,_,e⟩ | e<;>rw[e]
  ·refine(aF rfl).trans ?_;show(bif x.2.1==1 then _ else _)=(some (⟨[⟨K3,(bif true then(bif x.2.1==1 then _ else _)else _,())⟩],[]⟩:Out):Option Out)
   cases x.2.1==1<;>rfl
  ·refine(aN rfl).trans ?_;refine(aB (f243 s id (aP hz.b) n (by omega))).trans ?_;rfl
theorem f378(s:aI)(id:Int)(hz:SzS s):Ran p 5 378 [.val true ⟨K27,s⟩, .val false ⟨K3,(id,())⟩] ⟨[⟨K161,(kY s id).1⟩,⟨K4,((kY s id).2,())⟩],[]⟩:=go378 fun n hn=>Ev.now fun aA=>by
 unfold T378;refine(aB (f385 s hz n (by omega))).trans ?_;refine(bB (f327 (nD s,[],()) id (aP (BU hz)) n (by omega))).trans ?_;rfl
end Go.Abs.Xz
