/- What the functions of this program answer, part j. -/
import Derived.Test.YtmamlgjbendjhaaGreatXh
import Derived.Test.YtmamlgjbendjhaaGreatW3
set_option linter.unusedVariables false
namespace Go.Abs.Xz
open Go Go.Abs
theorem f327(s:aH)(id:Int)(hl:s.1.length≤maxLen):Ran p 1 327 [.val true ⟨K27,s⟩, .val false ⟨K3,(id,())⟩] ⟨[⟨K161,(bC s id).1⟩,⟨K4,((bC s id).2,())⟩],[]⟩:=go327 fun n hn=>by
 have lp:It (fun aA (_:Unit)=>c327_2 (aK p n) aA s id) (0:Int) (fun _=>some ⟨[⟨K161,(bC s id).1⟩,⟨K4,((bC s id).2,())⟩],[]⟩):=by
  have:=It.first (c:=fun aA (_:Unit)=>c327_2 (aK p n) aA s id) (fun i=>(i:Int)) s.1.length (fun i=>(gt s.1 i).1==id) (fun i _=>some ⟨[⟨K161,(gt (α:=bM) s.1 i).2⟩,⟨K4,(true,())⟩],[]⟩) (fun _=>some ⟨[⟨K161,cS⟩,⟨K4,(false,())⟩],[]⟩) (fun i hi hp aA a rec=>?_) (fun i hi hp=>It.stop fun aA a rec=>?_) (It.stop fun aA a rec=>?_)
  ·revert this;unfold bC
   cases (List.range s.1.length).find? (fun i=>(gt s.1 i).1==id)<;>exact fun h=>h
  ·have hb:i<9223372036854775807:=Nat.lt_of_lt_of_le hi hl
   show c327_2 (aK p n) aA s id rec (i:Int)=_
   unfold c327_2;rw[aL hb];refine(aE (Int.ofNat_lt.2 hi)).trans ?_;refine bif_nn.trans ?_;refine(aJ hi).trans ?_;exact aF hp
  ·show c327_2 (aK p n) aA s id rec (i:Int)=_
   unfold c327_2;refine(aE (Int.ofNat_lt.2 hi)).trans ?_;refine bif_nn.trans ?_;refine(aJ hi).trans ?_;refine(aN hp).trans ?_;refine bif_nn.trans ?_;refine(aJ hi).trans ?_;rfl
  ·show c327_2 (aK p n) aA s id rec (s.1.length:Int)=_
   unfold c327_2;refine(aI (Int.lt_irrefl _)).trans ?_;rfl
 exact Ev.eq (fun aA=>by unfold T327;rfl) (lp.ev (i:=()) rfl)
theorem f319(s:aH)(id:Int)(hl:s.1.length≤maxLen):Ran p 1 319 [.val true ⟨K27,s⟩, .val false ⟨K3,(id,())⟩] ⟨[⟨K161,(bC s id).1⟩,⟨K4,((bC s id).2,())⟩],[]⟩:=go319 fun n hn=>by
 have lp:It (fun aA (_:Unit)=>c319_2 (aK p n) aA s id) (0:Int) (fun _=>some ⟨[⟨K161,(bC s id).1⟩,⟨K4,((bC s id).2,())⟩],[]⟩):=by
  have:=It.first (c:=fun aA (_:Unit)=>c319_2 (aK p n) aA s id) (fun i=>(i:Int)) s.1.length (fun i=>(gt s.1 i).1==id) (fun i _=>some ⟨[⟨K161,(gt (α:=bM) s.1 i).2⟩,⟨K4,(true,())⟩],[]⟩) (fun _=>some ⟨[⟨K161,cS⟩,⟨K4,(false,())⟩],[]⟩) (fun i hi hp aA a rec=>?_) (fun i hi hp=>It.stop fun aA a rec=>?_) (It.stop fun aA a rec=>?_)
  ·revert this;unfold bC
   cases (List.range s.1.length).find? (fun i=>(gt s.1 i).1==id)<;>exact fun h=>h
  ·have hb:i<9223372036854775807:=Nat.lt_of_lt_of_le hi hl
   show c319_2 (aK p n) aA s id rec (i:Int)=_
   unfold c319_2;rw[aL hb];refine(aE (Int.ofNat_lt.2 hi)).trans ?_;refine bif_nn.trans ?_;refine(aJ hi).trans ?_;exact aF hp
  ·show c319_2 (aK p n) aA s id rec (i:Int)=_
   unfold c319_2;refine(aE (Int.ofNat_lt.2 hi)).trans ?_;refine bif_nn.trans ?_;refine(aJ hi).trans ?_;refine(aN hp).trans ?_;rfl
  ·show c319_2 (aK p n) aA s id rec (s.1.length:Int)=_
   unfold c319_2;refine(aI (Int.lt_irrefl _)).trans ?_;rfl
 exact Ev.eq (fun aA=>by unfold T319;rfl) (lp.ev (i:=()) rfl)
theorem f248(a b:Int):Ran p 1 248 [.val false ⟨K3,(a,())⟩, .val false ⟨K3,(b,())⟩] ⟨[⟨K3,(mxI true a b,())⟩],[]⟩:=go248 fun n hn=>Ev.now fun aA=>by
 unfold T248 mxI
 simp only[if_true]
 by_cases h:a>b
 ·refine(aE h).trans ?_;rw[if_neg (by omega:¬ b>a)]
 ·refine(aI h).trans ?_;by_cases h':b>a
  ·rw[if_pos h']
  ·rw[if_neg h',show a=b from by omega]
theorem f359(b:Bool):Ran p 1 359 [.val false ⟨K4,(b,())⟩] ⟨[⟨K3,(G3 b,())⟩],[]⟩:=go359 fun n hn=>Ev.now fun aA=>by
 unfold T359;cases b<;>rfl
theorem f358(a b:Int):Ran p 2 358 [.val false ⟨K3,(a,())⟩, .val false ⟨K3,(b,())⟩] ⟨[⟨K3,(l2 a b,())⟩],[]⟩:=go358 fun n hn=>Ev.now fun aA=>by
 unfold T358 l2
 cases decide (a<b)with
 | true=>rfl
 | false=>refine(aF rfl).trans ?_;refine(aB (f359 (decide (a>b)) n (by omega))).trans ?_;rfl
theorem f383(a:Int):Ran p 1 383 [.val false ⟨K3,(a,())⟩] ⟨[⟨K4,(false,())⟩],[]⟩:=go383 fun n hn=>Ev.now fun aA=>by
 unfold T383;exact congrArg (fun b:Bool=>(some ⟨[⟨K4,(b,())⟩],[]⟩:Option Out)) (by simp:(a != a)=false)
theorem f376(a b:Int):Ran p 2 376 [.val false ⟨K3,(a,())⟩, .val false ⟨K3,(b,())⟩] ⟨[⟨K3,(l2 a b,())⟩],[]⟩:=go376 fun n hn=>Ev.now fun aA=>by
 unfold T376 l2;refine(aB (f383 a n (by omega))).trans ?_;refine(aB (f383 b n (by omega))).trans ?_;refine(aF rfl).trans ?_;refine(aF rfl).trans ?_;cases decide (a<b)<;>cases decide (a>b)<;>rfl
theorem f375(ls:List aX)(hl:ls.length≤maxLen):Ran p 1 375 [.val false ⟨K28,(ls,())⟩] ⟨[⟨K3,(orN ls,())⟩],[]⟩:=go375 fun n hn=>by
 have lp:It (fun aA (_:Unit)=>c375_3 (aK p n) aA ls) (0:Int) (fun _=>oI (orN ls)):=by
  have:=It.first (c:=fun aA (_:Unit)=>c375_3 (aK p n) aA ls) (fun i=>(i:Int)) ls.length (fun i=>(gt ls i).1 != 0) (fun i _=>oI (gt ls i).1) (fun _=>oI 0) (fun i hi hp aA a rec=>?_) (fun i hi hp=>It.stop fun aA a rec=>?_) (It.stop fun aA a rec=>?_)
  ·revert this;unfold orN
   cases (List.range ls.length).find? (fun i=>(gt ls i).1 != 0)<;>exact fun h=>h
  ·have hb:i<9223372036854775807:=Nat.lt_of_lt_of_le hi hl
   show c375_3 (aK p n) aA ls rec (i:Int)=_
   unfold c375_3;rw[aL hb];refine(aE (Int.ofNat_lt.2 hi)).trans ?_;refine bif_nn.trans ?_;refine(aJ hi).trans ?_;exact aF hp
  ·show c375_3 (aK p n) aA ls rec (i:Int)=_
   unfold c375_3;refine(aE (Int.ofNat_lt.2 hi)).trans ?_;refine bif_nn.trans ?_;refine(aJ hi).trans ?_;exact aN hp
  ·show c375_3 (aK p n) aA ls rec (ls.length:Int)=_
   unfold c375_3;refine(aI (Int.lt_irrefl _)).trans ?_;rfl
 exact Ev.eq (fun aA=>by unfold T375;rfl) (lp.ev (i:=()) rfl)
theorem f377(a b:ByteArray):Ran p 1 377 [.val false ⟨K9,(a,())⟩, .val false ⟨K9,(b,())⟩] ⟨[⟨K3,(rN a b,())⟩],[]⟩:=fun n hn=>by
 cases n with
 | zero=>omega
 | succ n=>rfl
theorem f355(a b:bE):Ran p 3 355 [.val true ⟨K161,a⟩, .val true ⟨K161,b⟩] ⟨[⟨K3,(fU a b,())⟩],[]⟩:=go355 fun n hn=>Ev.now fun aA=>by
 unfold T355;refine(aB (f376 a.1 b.1 n (by omega))).trans ?_;refine(aB (f376 a.2.1 b.2.1 n (by omega))).trans ?_;refine(aB (f376 a.2.2.1 b.2.2.1 n (by omega))).trans ?_;refine(aB (f376 a.2.2.2.1 b.2.2.2.1 n (by omega))).trans ?_;refine(aB (f377 a.2.2.2.2.1 b.2.2.2.2.1 n (by omega))).trans ?_
 refine(aB (f375 [(l2 a.1 b.1,()),(l2 a.2.1 b.2.1,()),(l2 a.2.2.1 b.2.2.1,()),(l2 a.2.2.2.1 b.2.2.2.1,()),(rN a.2.2.2.2.1 b.2.2.2.2.1,())] (by show 5≤9223372036854775807;omega) n (by omega))).trans ?_
 exact congrArg (fun x:Int=>(some ⟨[⟨K3,(x,())⟩],[]⟩:Option Out)) (LI a b)
theorem f328(a b:bE):Ran p 3 328 [.val true ⟨K161,a⟩, .val true ⟨K161,b⟩] ⟨[⟨K3,(fU a b,())⟩],[]⟩:=go328 fun n hn=>by
 have lp:It (fun aA (_:Unit)=>c328_3 (aK p n) aA a b (((l2 a.1 b.1,()),()),()) (((l2 a.2.1 b.2.1,()),()),()) (((l2 a.2.2.1 b.2.2.1,()),()),()) (((l2 a.2.2.2.1 b.2.2.2.1,()),()),())) (0:Int) (fun _=>oI (fU a b)):=by
  have:=It.first (c:=fun aA (_:Unit)=>c328_3 (aK p n) aA a b (((l2 a.1 b.1,()),()),()) (((l2 a.2.1 b.2.1,()),()),()) (((l2 a.2.2.1 b.2.2.1,()),()),()) (((l2 a.2.2.2.1 b.2.2.2.1,()),()),())) (fun i=>(i:Int)) (BV a b).length (fun i=>(gt (BV a b) i).1 != 0) (fun i _=>oI (gt (BV a b) i).1) (fun _=>oI (rN a.2.2.2.2.1 b.2.2.2.2.1)) (fun i hi hp aA a' rec=>?_) (fun i hi hp=>It.stop fun aA a' rec=>?_) (It.stop fun aA a' rec=>?_)
  ·rw[← H6];revert this;unfold orZ
   cases (List.range (BV a b).length).find? (fun i=>(gt (BV a b) i).1 != 0)<;>exact fun h=>h
  ·have hb:i<9223372036854775807:=Nat.lt_of_lt_of_le hi (by show 4≤9223372036854775807;omega)
   show c328_3 (aK p n) aA a b (((l2 a.1 b.1,()),()),()) (((l2 a.2.1 b.2.1,()),()),()) (((l2 a.2.2.1 b.2.2.1,()),()),()) (((l2 a.2.2.2.1 b.2.2.2.1,()),()),()) rec (i:Int)=_
   unfold c328_3;rw[aL hb];refine(aE (Int.ofNat_lt.2 hi)).trans ?_;refine bif_nn.trans ?_;refine(aJ hi).trans ?_;refine(aJ hi).trans ?_;exact aF hp
  ·show c328_3 (aK p n) aA a b (((l2 a.1 b.1,()),()),()) (((l2 a.2.1 b.2.1,()),()),()) (((l2 a.2.2.1 b.2.2.1,()),()),()) (((l2 a.2.2.2.1 b.2.2.2.1,()),()),()) rec (i:Int)=_
   unfold c328_3;refine(aE (Int.ofNat_lt.2 hi)).trans ?_;refine bif_nn.trans ?_;refine(aJ hi).trans ?_;refine(aJ hi).trans ?_;refine(aN hp).trans ?_;refine bif_nn.trans ?_;refine(aJ hi).trans ?_;refine(aJ hi).trans ?_;rfl
  ·show c328_3 (aK p n) aA a b (((l2 a.1 b.1,()),()),()) (((l2 a.2.1 b.2.1,()),()),()) (((l2 a.2.2.1 b.2.2.1,()),()),()) (((l2 a.2.2.2.1 b.2.2.2.1,()),()),()) rec (((BV a b).length:Nat):Int)=_
   unfold c328_3;refine(aI (Int.lt_irrefl _)).trans ?_
   rw[← GZ]
   cases Op.bytesLess (ByteArray.toList a.2.2.2.2.1) (ByteArray.toList b.2.2.2.2.1)with
   | true=>rfl
   | false=>refine(aF rfl).trans ?_;refine(aB (f359 (!(false||ByteArray.toList a.2.2.2.2.1==ByteArray.toList b.2.2.2.2.1)) n (by omega))).trans ?_;rfl
 exact Ev.eq (fun aA=>by unfold T328;refine(aB (f358 a.1 b.1 n (by omega))).trans ?_;refine(aB (f358 a.2.1 b.2.1 n (by omega))).trans ?_;refine(aB (f358 a.2.2.1 b.2.2.1 n (by omega))).trans ?_;refine(aB (f358 a.2.2.2.1 b.2.2.2.1 n (by omega))).trans ?_;rfl) (lp.ev (i:=()) rfl)
theorem f320(a b:bE):Ran p 4 320 [.val true ⟨K161,a⟩, .val true ⟨K161,b⟩] ⟨[⟨K161,mxE a b⟩],[]⟩:=go320 fun n hn=>Ev.now fun aA=>by
 unfold T320 mxE;refine(aB (f355 a b n (by omega))).trans ?_;cases decide (fU a b<0)<;>rfl
theorem f260(a b:aH)(ha:SzS a)(hb':SzS b)(hpa:Pos a)(hpb:Pos b):Ran p 4 260 [.val true ⟨K27,a⟩, .val true ⟨K27,b⟩] ⟨[⟨K27,cJ a b⟩],[]⟩:=go260 fun n hn=>by
 have lp:It (fun aA (_:Unit)=>c260_3 (aK p n) aA a b) ((0:Int),([]:List aR),([]:List bM)) (fun _=>some ⟨[⟨K27,cJ a b⟩],[]⟩):=by
  refine It.run (fun i=>((i:Int),bH i (cO a b),bH i (cW a b))) 5 (fun i hi aA u rec=>?_) (It.stop fun aA u rec=>?_)
  ·have l1:(bH i (cO a b)).length≤i*1:=cZ fun j _=>mH a b j
   have l2':(bH i (cW a b)).length≤i*1:=cZ fun j _=>oS a b j
   have hb:i<9223372036854775807:=by omega
   have fin3:∀ {F:List aR} {J:List bM},cO a b i=F→cW a b i=J→rec (((i+1:Nat):Int),bH i (cO a b)++F,bH i (cW a b)++J)=rec (((i+1:Nat):Int),bH (i+1) (cO a b),bH (i+1) (cW a b)):=by
    intro F J h1 h2;rw[cY,cY,h1,h2]
   have fin0:∀ {F:List aR},cO a b i=F→cW a b i=[]→rec (((i+1:Nat):Int),bH i (cO a b)++F,bH i (cW a b))=rec (((i+1:Nat):Int),bH (i+1) (cO a b),bH (i+1) (cW a b)):=by
    intro F h1 h2;rw[cY,cY,h1,h2,List.append_nil]
   have fin1:∀ {J:List bM},cO a b i=[]→cW a b i=J→rec (((i+1:Nat):Int),bH i (cO a b),bH i (cW a b)++J)=rec (((i+1:Nat):Int),bH (i+1) (cO a b),bH (i+1) (cW a b)):=by
    intro J h1 h2;rw[cY,cY,h1,h2,List.append_nil]
   have fin2:cO a b i=[]→cW a b i=[]→rec (((i+1:Nat):Int),bH i (cO a b),bH i (cW a b))=rec (((i+1:Nat):Int),bH (i+1) (cO a b),bH (i+1) (cW a b)):=by
    intro h1 h2;rw[cY,cY,h1,h2,List.append_nil,List.append_nil]
   show c260_3 (aK p n) aA a b rec ((i:Int),bH i (cO a b),bH i (cW a b))=rec (((i+1:Nat):Int),bH (i+1) (cO a b),bH (i+1) (cW a b))
   unfold c260_3;dsimp only;rw[aL hb];refine(aE (by show(i:Int)<5;omega)).trans ?_;refine(aB (f313 a (i:Int) (aP ha.b) n (by omega))).trans ?_;refine(aB (f313 b (i:Int) (aP hb'.b) n (by omega))).trans ?_;refine(aB (f248 (cI a.2.1 (i:Int)) (cI b.2.1 (i:Int)) n (by omega))).trans ?_
   have zi:bC a (i:Int)=(cS,false)→bC b (i:Int)=(cS,false)→cW a b i=[]:=fun ea eb=>fR (LH ea eb) (by show ¬ (0:Int)>_;have:=JL (b:=b) hpa (i:Int);omega)
   by_cases hf:flr a b (i:Int)>0
   ·refine(aE hf).trans ?_;refine(aE (by show(bH i (cO a b)).length+1≤4294967296;omega)).trans ?_
    have gF:=mF hf
    refine(bD (f327 a (i:Int) (aP ha.a) n (by omega))).trans ?_;refine(bD (f327 b (i:Int) (aP hb'.a) n (by omega))).trans ?_
    rcases lM hpa (i:Int)with ⟨x,hx,ea⟩ | ea<;>rcases lM hpb (i:Int)with ⟨y,hy,eb⟩ | eb<;>rw[ea,eb]
    ·refine(aF rfl).trans ?_;refine(aF rfl).trans ?_;refine(aN rfl).trans ?_;refine(aB (f328 y x n (by omega))).trans ?_
     have pk:=EI ea eb
     by_cases hc:fU y x>0
     ·rw[decide_eq_true hc] at pk
      replace pk:dT a b (i:Int)=y:=pk
      refine(aE hc).trans ?_
      by_cases hi':y.1>flr a b i
      ·refine(aE hi').trans ?_;refine(aE (by show(bH i (cW a b)).length+1≤4294967296;omega)).trans ?_;exact fin3 gF (fQ pk hi')
      ·refine(aI hi').trans ?_;exact fin0 gF (fR pk hi')
     ·rw[decide_eq_false hc] at pk
      replace pk:dT a b (i:Int)=x:=pk
      refine(aI hc).trans ?_
      by_cases hi':x.1>flr a b i
      ·refine(aE hi').trans ?_;refine(aE (by show(bH i (cW a b)).length+1≤4294967296;omega)).trans ?_;exact fin3 gF (fQ pk hi')
      ·refine(aI hi').trans ?_;exact fin0 gF (fR pk hi')
    ·refine(aF rfl).trans ?_;refine(aF rfl).trans ?_;refine(aF rfl).trans ?_
     by_cases hi':x.1>flr a b i
     ·refine(aE hi').trans ?_;refine(aE (by show(bH i (cW a b)).length+1≤4294967296;omega)).trans ?_;exact fin3 gF (fQ (uG ea eb hx) hi')
     ·refine(aI hi').trans ?_;exact fin0 gF (fR (uG ea eb hx) hi')
    ·refine(aN rfl).trans ?_;refine(aF rfl).trans ?_;refine(aN rfl).trans ?_
     by_cases hi':y.1>flr a b i
     ·refine(aE hi').trans ?_;refine(aE (by show(bH i (cW a b)).length+1≤4294967296;omega)).trans ?_;exact fin3 gF (fQ (uH ea eb hy) hi')
     ·refine(aI hi').trans ?_;exact fin0 gF (fR (uH ea eb hy) hi')
    ·refine(aN rfl).trans ?_;refine(aN rfl).trans ?_;exact fin0 gF (zi ea eb)
   ·refine(aI hf).trans ?_
    have gF:=pO hf
    refine(bD (f327 a (i:Int) (aP ha.a) n (by omega))).trans ?_;refine(bD (f327 b (i:Int) (aP hb'.a) n (by omega))).trans ?_
    rcases lM hpa (i:Int)with ⟨x,hx,ea⟩ | ea<;>rcases lM hpb (i:Int)with ⟨y,hy,eb⟩ | eb<;>rw[ea,eb]
    ·refine(aF rfl).trans ?_;refine(aF rfl).trans ?_;refine(aN rfl).trans ?_;refine(aB (f328 y x n (by omega))).trans ?_
     have pk:=EI ea eb
     by_cases hc:fU y x>0
     ·rw[decide_eq_true hc] at pk
      replace pk:dT a b (i:Int)=y:=pk
      refine(aE hc).trans ?_
      by_cases hi':y.1>flr a b i
      ·refine(aE hi').trans ?_;refine(aE (by show(bH i (cW a b)).length+1≤4294967296;omega)).trans ?_;exact fin1 gF (fQ pk hi')
      ·refine(aI hi').trans ?_;exact fin2 gF (fR pk hi')
     ·rw[decide_eq_false hc] at pk
      replace pk:dT a b (i:Int)=x:=pk
      refine(aI hc).trans ?_
      by_cases hi':x.1>flr a b i
      ·refine(aE hi').trans ?_;refine(aE (by show(bH i (cW a b)).length+1≤4294967296;omega)).trans ?_;exact fin1 gF (fQ pk hi')
      ·refine(aI hi').trans ?_;exact fin2 gF (fR pk hi')
    ·refine(aF rfl).trans ?_;refine(aF rfl).trans ?_;refine(aF rfl).trans ?_
     by_cases hi':x.1>flr a b i
     ·refine(aE hi').trans ?_;refine(aE (by show(bH i (cW a b)).length+1≤4294967296;omega)).trans ?_;exact fin1 gF (fQ (uG ea eb hx) hi')
     ·refine(aI hi').trans ?_;exact fin2 gF (fR (uG ea eb hx) hi')
    ·refine(aN rfl).trans ?_;refine(aF rfl).trans ?_;refine(aN rfl).trans ?_
     by_cases hi':y.1>flr a b i
     ·refine(aE hi').trans ?_;refine(aE (by show(bH i (cW a b)).length+1≤4294967296;omega)).trans ?_;exact fin1 gF (fQ (uH ea eb hy) hi')
     ·refine(aI hi').trans ?_;exact fin2 gF (fR (uH ea eb hy) hi')
    ·refine(aN rfl).trans ?_;refine(aN rfl).trans ?_;exact fin2 gF (zi ea eb)
  ·show c260_3 (aK p n) aA a b rec (((5:Nat):Int),bH 5 (cO a b),bH 5 (cW a b))=_
   unfold c260_3;exact aI (by show ¬ ((5:Int)<5);decide)
 exact Ev.eq (fun aA=>by unfold T260;rfl) (lp.ev (i:=()) rfl)
theorem f240(a b:aH)(ha:SzS a)(hb':SzS b):Ran p 5 240 [.val true ⟨K27,a⟩, .val true ⟨K27,b⟩] ⟨[⟨K27,cJ a b⟩],[]⟩:=go240 fun n hn=>by
 have lp:It (fun aA (_:Unit)=>c240_3 (aK p n) aA a b) ((0:Int),([]:List bM),([]:List aR)) (fun _=>some ⟨[⟨K27,cJ a b⟩],[]⟩):=by
  refine It.run (fun i=>((i:Int),bH i (cW a b),bH i (cO a b))) 5 (fun i hi aA u rec=>?_) (It.stop fun aA u rec=>?_)
  ·have l1:(bH i (cO a b)).length≤i*1:=cZ fun j _=>mH a b j
   have l2':(bH i (cW a b)).length≤i*1:=cZ fun j _=>oS a b j
   have hb:i<9223372036854775807:=by omega
   show c240_3 (aK p n) aA a b rec ((i:Int),bH i (cW a b),bH i (cO a b))=rec (((i+1:Nat):Int),bH (i+1) (cW a b),bH (i+1) (cO a b))
   unfold c240_3;dsimp only;rw[aL hb];refine(aE (by show(i:Int)<5;omega)).trans ?_;refine(bD (f319 a (i:Int) (aP ha.a) n (by omega))).trans ?_;refine(bD (f319 b (i:Int) (aP hb'.a) n (by omega))).trans ?_;refine(aB (f320 (bC a (i:Int)).1 (bC b (i:Int)).1 n (by omega))).trans ?_;refine(aB (f243 a (i:Int) (aP ha.b) n (by omega))).trans ?_;refine(aB (f243 b (i:Int) (aP hb'.b) n (by omega))).trans ?_
   rw[cY,cY]
   by_cases hp:(dT a b (i:Int)).1>flr a b (i:Int)
   ·refine(aE hp).trans ?_;refine(aE (by show(bH i (cW a b)).length+1≤4294967296;omega)).trans ?_;rw[fQ rfl hp]
    by_cases hf:flr a b (i:Int)>0
    ·refine(aE hf).trans ?_;refine(aE (by show(bH i (cO a b)).length+1≤4294967296;omega)).trans ?_;rw[mF hf];rfl
    ·refine(aI hf).trans ?_;rw[pO hf,List.append_nil];rfl
   ·refine(aI hp).trans ?_;rw[fR rfl hp,List.append_nil]
    by_cases hf:flr a b (i:Int)>0
    ·refine(aE hf).trans ?_;refine(aE (by show(bH i (cO a b)).length+1≤4294967296;omega)).trans ?_;rw[mF hf];rfl
    ·refine(aI hf).trans ?_;rw[pO hf,List.append_nil];rfl
  ·show c240_3 (aK p n) aA a b rec (((5:Nat):Int),bH 5 (cW a b),bH 5 (cO a b))=_
   unfold c240_3;exact aI (by show ¬ ((5:Int)<5);decide)
 exact Ev.eq (fun aA=>by unfold T240;rfl) (lp.ev (i:=()) rfl)
theorem f120(a b:aH)(ha:SzS a)(hb':SzS b):Ran p 6 120 [.val true ⟨K27,a⟩, .val true ⟨K27,b⟩] ⟨[⟨K27,bif aO a&&aO b then cJ a b else iA⟩,⟨K4,(aO a&&aO b,())⟩],[]⟩:=go120 fun n hn=>Ev.now fun aA=>by
 unfold T120;refine(aB (f101 a (aP ha.a) (aP ha.b) n (by omega))).trans ?_
 cases aO a with
 | false=>rfl
 | true=>
  refine(aF rfl).trans ?_;refine(aB (f101 b (aP hb'.a) (aP hb'.b) n (by omega))).trans ?_
  cases aO b with
  | false=>rfl
  | true=>refine(aF rfl).trans ?_;refine(aB (f240 a b ha hb' n (by omega))).trans ?_;rfl
theorem f263(a b:List aR)(ha:a.length≤maxLen):Ran p 1 263 [.val false ⟨K25,(a,())⟩, .val false ⟨K25,(b,())⟩] ⟨[⟨K4,(iW a b,())⟩],[]⟩:=go263 fun n hn=>by
 have lp:∃ N,∀ aA,N≤aA→(((a.length:Nat):Int)==((b.length:Nat):Int))=true→iter (c263_4 (aK p n) aA a b) aA (0:Int)=oB (bI a.length fun i=>jA (gt a i) (gt b i)):=by
  cases he:((a.length:Nat):Int)==((b.length:Nat):Int)with
  | false=>exact⟨0,fun _ _ h=>by cases h⟩
  | true=>
   have e:a.length=b.length:=by have:=eq_of_beq he;omega
   have lp:It (fun aA (_:Unit)=>c263_4 (aK p n) aA a b) (0:Int) (fun _=>oB (bI a.length fun i=>jA (gt a i) (gt b i))):=by
    refine bZ (It.allB a.length _ true (fun i hi aA a' rec=>?_) (It.stop fun aA a' rec=>?_))
    ·have hb:i<9223372036854775807:=Nat.lt_of_lt_of_le hi ha
     show c263_4 (aK p n) aA a b rec (i:Int)=_
     unfold c263_4;rw[aL hb];refine(aE (Int.ofNat_lt.2 hi)).trans ?_;refine bif_nn.trans ?_;refine(aJ hi).trans ?_;refine bif_nn.trans ?_;refine(aJ (show i<b.length by omega)).trans ?_;exact fin
    ·show c263_4 (aK p n) aA a b rec (a.length:Int)=_
     unfold c263_4;refine(aI (Int.lt_irrefl _)).trans ?_;rfl
   obtain⟨N,hN⟩:=lp.all_i
   exact⟨N,fun aA hf _=>hN aA hf ()⟩
 obtain⟨N,hN⟩:=lp
 refine⟨N,fun aA hf=>?_⟩
 show T263 (aK p n) aA a b=oB (iW a b)
 unfold T263 iW;refine cQ fun h=>?_;exact hN aA hf h
theorem f121(a b:aH)(ha:SzS a):Ran p 2 121 [.val true ⟨K27,a⟩, .val true ⟨K27,b⟩] ⟨[⟨K4,(dJ a b,())⟩],[]⟩:=go121 fun n hn=>Ev.now fun aA=>by
 rw[← AP]
 show T121 (aK p n) aA a b=oB (iV a.1 b.1&&iW a.2.1 b.2.1)
 unfold T121;refine(aB (f262 a.1 b.1 (aP ha.a) n (by omega))).trans ?_;refine eU fun _=>?_;refine(aB (f263 a.2.1 b.2.1 (aP ha.b) n (by omega))).trans ?_;rfl
theorem f28(a b:aH)(ha:SzS a)(hb':SzS b):Ran p 7 28 [.val true ⟨K27,a⟩, .val true ⟨K27,b⟩] ⟨[⟨K4,(C9 a b,())⟩],[]⟩:=go28 fun n hn=>Ev.now fun aA=>by
 show T28 (aK p n) aA a b=oB (C9 a b)
 unfold T28 C9;refine(bD (f120 a b ha hb' n (by omega))).trans ?_
 cases aO a with
 | false=>rfl
 | true=>cases aO b with
  | false=>rfl
  | true=>refine(aN rfl).trans ?_;refine(aB (f121 (cJ a b) b (jI a b) n (by omega))).trans ?_;rfl
theorem f316(s:aH)(id:Int)(hz:SzS s):Ran p 4 316 [.val true ⟨K27,s⟩, .val false ⟨K3,(id,())⟩] ⟨[⟨K3,(gone s id,())⟩],[]⟩:=go316 fun n hn=>Ev.now fun aA=>by
 unfold T316 gone;refine(aB (f227 s (aP hz.a) (aP hz.b) n (by omega))).trans ?_
 cases hs:aO s with
 | false=>rfl
 | true=>
  refine(aF rfl).trans ?_;refine(bD (f327 s id (aP hz.a) n (by omega))).trans ?_
  rcases lM ((aV s).1 hs).pos id with ⟨x,_,e⟩ | e<;>rw[e]
  ·refine(aF rfl).trans ?_;show(bif x.2.1==0 then _ else _)=(some (⟨[⟨K3,(bif true then(bif true then(bif x.2.1==0 then _ else _)else _)else _,())⟩],[]⟩:Out):Option Out)
   cases x.2.1==0<;>rfl
  ·refine(aN rfl).trans ?_;refine(aB (f313 s id (aP hz.b) n (by omega))).trans ?_;rfl
theorem f311(s:aH)(id:Int)(hz:SzS s):Ran p 4 311 [.val true ⟨K27,s⟩, .val false ⟨K3,(id,())⟩] ⟨[⟨K3,(gone s id,())⟩],[]⟩:=go311 fun n hn=>Ev.now fun aA=>by
 unfold T311;refine(aB (f101 s (aP hz.a) (aP hz.b) n (by omega))).trans ?_
 cases hs:aO s with
 | false=>rw[BP hs];rfl
 | true=>
  rw[M4 hs]
  refine(aF rfl).trans ?_;refine(bD (f319 s id (aP hz.a) n (by omega))).trans ?_
  rcases lM ((aV s).1 hs).pos id with ⟨x,_,e⟩ | e<;>rw[e]
  ·refine(aF rfl).trans ?_;show(bif x.2.1==1 then _ else _)=(some (⟨[⟨K3,(bif true then(bif x.2.1==1 then _ else _)else _,())⟩],[]⟩:Out):Option Out)
   cases x.2.1==1<;>rfl
  ·refine(aN rfl).trans ?_;refine(aB (f243 s id (aP hz.b) n (by omega))).trans ?_;rfl
theorem f378(s:aH)(id:Int)(hz:SzS s):Ran p 5 378 [.val true ⟨K27,s⟩, .val false ⟨K3,(id,())⟩] ⟨[⟨K161,(mA s id).1⟩,⟨K4,((mA s id).2,())⟩],[]⟩:=go378 fun n hn=>Ev.now fun aA=>by
 unfold T378;refine(aB (f385 s hz n (by omega))).trans ?_;refine(bD (f327 (oZ s,[],()) id (aP (E6 hz)) n (by omega))).trans ?_;rfl
end Go.Abs.Xz
