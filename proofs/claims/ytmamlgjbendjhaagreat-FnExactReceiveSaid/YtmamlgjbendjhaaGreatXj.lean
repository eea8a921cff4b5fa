/- What the functions of this program answer, part j. -/
import Derived.Test.YtmamlgjbendjhaaGreatXh
import Derived.Test.YtmamlgjbendjhaaGreatW3
set_option linter.unusedVariables false
namespace Go.Abs.Xz
open Go Go.Abs
theorem f327(s:aO)(id:Int)(hl:s.1.length≤maxLen):Ran p 1 327 [.val true ⟨K27,s⟩, .val false ⟨K3,(id,())⟩] ⟨[⟨K161,(bE s id).1⟩,⟨K4,((bE s id).2,())⟩],[]⟩:=go327 fun n hn=>by
 have lp:It (fun aA (_:Unit)=>c327_2 (aG p n) aA s id) (0:Int) (fun _=>some ⟨[⟨K161,(bE s id).1⟩,⟨K4,((bE s id).2,())⟩],[]⟩):=by
  have:=It.first (c:=fun aA (_:Unit)=>c327_2 (aG p n) aA s id) (fun i=>(i:Int)) s.1.length (fun i=>(gt s.1 i).1==id) (fun i _=>some ⟨[⟨K161,(gt (α:=cE) s.1 i).2⟩,⟨K4,(true,())⟩],[]⟩) (fun _=>some ⟨[⟨K161,d4⟩,⟨K4,(false,())⟩],[]⟩) (fun i hi hp aA a rec=>?_) (fun i hi hp=>It.stop fun aA a rec=>?_) (It.stop fun aA a rec=>?_)
  ·revert this;unfold bE
   cases (List.range s.1.length).find? (fun i=>(gt s.1 i).1==id)<;>exact fun h=>h
  ·have hb:i<9223372036854775807:=Nat.lt_of_lt_of_le hi hl
   show c327_2 (aG p n) aA s id rec (i:Int)=_
   unfold c327_2;rw[aJ hb];refine(aF (Int.ofNat_lt.2 hi)).trans ?_;refine(aF (Int.natCast_nonneg _)).trans ?_;refine(aM hi).trans ?_;exact aN hp
  ·show c327_2 (aG p n) aA s id rec (i:Int)=_
   unfold c327_2;refine(aF (Int.ofNat_lt.2 hi)).trans ?_;refine(aF (Int.natCast_nonneg _)).trans ?_;refine(aM hi).trans ?_;refine(aX hp).trans ?_;refine(aF (Int.natCast_nonneg _)).trans ?_;refine(aM hi).trans ?_;rfl
  ·show c327_2 (aG p n) aA s id rec (s.1.length:Int)=_
   unfold c327_2;refine(aH (Int.lt_irrefl _)).trans ?_;rfl
 exact Ev.eq (fun aA=>by unfold T327;rfl) (lp.ev (i:=()) rfl)
theorem f319(s:aO)(id:Int)(hl:s.1.length≤maxLen):Ran p 1 319 [.val true ⟨K27,s⟩, .val false ⟨K3,(id,())⟩] ⟨[⟨K161,(bE s id).1⟩,⟨K4,((bE s id).2,())⟩],[]⟩:=go319 fun n hn=>by
 have lp:It (fun aA (_:Unit)=>c319_2 (aG p n) aA s id) (0:Int) (fun _=>some ⟨[⟨K161,(bE s id).1⟩,⟨K4,((bE s id).2,())⟩],[]⟩):=by
  have:=It.first (c:=fun aA (_:Unit)=>c319_2 (aG p n) aA s id) (fun i=>(i:Int)) s.1.length (fun i=>(gt s.1 i).1==id) (fun i _=>some ⟨[⟨K161,(gt (α:=cE) s.1 i).2⟩,⟨K4,(true,())⟩],[]⟩) (fun _=>some ⟨[⟨K161,d4⟩,⟨K4,(false,())⟩],[]⟩) (fun i hi hp aA a rec=>?_) (fun i hi hp=>It.stop fun aA a rec=>?_) (It.stop fun aA a rec=>?_)
  ·revert this;unfold bE
   cases (List.range s.1.length).find? (fun i=>(gt s.1 i).1==id)<;>exact fun h=>h
  ·have hb:i<9223372036854775807:=Nat.lt_of_lt_of_le hi hl
   show c319_2 (aG p n) aA s id rec (i:Int)=_
   unfold c319_2;rw[aJ hb];refine(aF (Int.ofNat_lt.2 hi)).trans ?_;refine(aF (Int.natCast_nonneg _)).trans ?_;refine(aM hi).trans ?_;exact aN hp
  ·show c319_2 (aG p n) aA s id rec (i:Int)=_
   unfold c319_2;refine(aF (Int.ofNat_lt.2 hi)).trans ?_;refine(aF (Int.natCast_nonneg _)).trans ?_;refine(aM hi).trans ?_;refine(aX hp).trans ?_;rfl
  ·show c319_2 (aG p n) aA s id rec (s.1.length:Int)=_
   unfold c319_2;refine(aH (Int.lt_irrefl _)).trans ?_;rfl
 exact Ev.eq (fun aA=>by unfold T319;rfl) (lp.ev (i:=()) rfl)
theorem f248(a b:Int):Ran p 1 248 [.val false ⟨K3,(a,())⟩, .val false ⟨K3,(b,())⟩] ⟨[⟨K3,(mxI true a b,())⟩],[]⟩:=go248 fun n hn=>Ev.now fun aA=>by
 unfold T248 mxI
 simp only[if_true]
 by_cases h:a>b
 ·refine(aF h).trans ?_;rw[if_neg (by omega:¬ b>a)]
 ·refine(aH h).trans ?_;by_cases h':b>a
  ·rw[if_pos h']
  ·rw[if_neg h',show a=b from by omega]
theorem f359(b:Bool):Ran p 1 359 [.val false ⟨K4,(b,())⟩] ⟨[⟨K3,(CA b,())⟩],[]⟩:=go359 fun n hn=>Ev.now fun aA=>by
 unfold T359;cases b<;>rfl
theorem f358(a b:Int):Ran p 2 358 [.val false ⟨K3,(a,())⟩, .val false ⟨K3,(b,())⟩] ⟨[⟨K3,(l2 a b,())⟩],[]⟩:=go358 fun n hn=>Ev.now fun aA=>by
 unfold T358 l2
 cases decide (a<b)with
 | true=>rfl
 | false=>refine(aN rfl).trans ?_;refine(aD (f359 (decide (a>b)) n (by omega))).trans ?_;rfl
theorem f383(a:Int):Ran p 1 383 [.val false ⟨K3,(a,())⟩] ⟨[⟨K4,(false,())⟩],[]⟩:=go383 fun n hn=>Ev.now fun aA=>by
 unfold T383;exact congrArg (fun b:Bool=>(some ⟨[⟨K4,(b,())⟩],[]⟩:Option Out)) (by simp:(a != a)=false)
theorem f376(a b:Int):Ran p 2 376 [.val false ⟨K3,(a,())⟩, .val false ⟨K3,(b,())⟩] ⟨[⟨K3,(l2 a b,())⟩],[]⟩:=go376 fun n hn=>Ev.now fun aA=>by
 unfold T376 l2;refine(aD (f383 a n (by omega))).trans ?_;refine(aD (f383 b n (by omega))).trans ?_;refine(aN rfl).trans ?_;refine(aN rfl).trans ?_;cases decide (a<b)<;>cases decide (a>b)<;>rfl
theorem f375(ls:List bC)(hl:ls.length≤maxLen):Ran p 1 375 [.val false ⟨K28,(ls,())⟩] ⟨[⟨K3,(orN ls,())⟩],[]⟩:=go375 fun n hn=>by
 have lp:It (fun aA (_:Unit)=>c375_3 (aG p n) aA ls) (0:Int) (fun _=>oI (orN ls)):=by
  have:=It.first (c:=fun aA (_:Unit)=>c375_3 (aG p n) aA ls) (fun i=>(i:Int)) ls.length (fun i=>(gt ls i).1 != 0) (fun i _=>oI (gt ls i).1) (fun _=>oI 0) (fun i hi hp aA a rec=>?_) (fun i hi hp=>It.stop fun aA a rec=>?_) (It.stop fun aA a rec=>?_)
  ·revert this;unfold orN
   cases (List.range ls.length).find? (fun i=>(gt ls i).1 != 0)<;>exact fun h=>h
  ·have hb:i<9223372036854775807:=Nat.lt_of_lt_of_le hi hl
   show c375_3 (aG p n) aA ls rec (i:Int)=_
   unfold c375_3;rw[aJ hb];refine(aF (Int.ofNat_lt.2 hi)).trans ?_;refine(aF (Int.natCast_nonneg _)).trans ?_;refine(aM hi).trans ?_;exact aN hp
  ·show c375_3 (aG p n) aA ls rec (i:Int)=_
   unfold c375_3;refine(aF (Int.ofNat_lt.2 hi)).trans ?_;refine(aF (Int.natCast_nonneg _)).trans ?_;refine(aM hi).trans ?_;exact aX hp
  ·show c375_3 (aG p n) aA ls rec (ls.length:Int)=_
   unfold c375_3;refine(aH (Int.lt_irrefl _)).trans ?_;rfl
 exact Ev.eq (fun aA=>by unfold T375;rfl) (lp.ev (i:=()) rfl)
theorem f377(a b:ByteArray):Ran p 1 377 [.val false ⟨K9,(a,())⟩, .val false ⟨K9,(b,())⟩] ⟨[⟨K3,(qE a b,())⟩],[]⟩:=fun n hn=>by
 cases n with
 | zero=>omega
 | succ n=>rfl
theorem f355(a b:dC):Ran p 3 355 [.val true ⟨K161,a⟩, .val true ⟨K161,b⟩] ⟨[⟨K3,(hY a b,())⟩],[]⟩:=go355 fun n hn=>Ev.now fun aA=>by
 unfold T355;refine(aD (f376 a.1 b.1 n (by omega))).trans ?_;refine(aD (f376 a.2.1 b.2.1 n (by omega))).trans ?_;refine(aD (f376 a.2.2.1 b.2.2.1 n (by omega))).trans ?_;refine(aD (f376 a.2.2.2.1 b.2.2.2.1 n (by omega))).trans ?_;refine(aD (f377 a.2.2.2.2.1 b.2.2.2.2.1 n (by omega))).trans ?_
 refine(aD (f375 [(l2 a.1 b.1,()),(l2 a.2.1 b.2.1,()),(l2 a.2.2.1 b.2.2.1,()),(l2 a.2.2.2.1 b.2.2.2.1,()),(qE a.2.2.2.2.1 b.2.2.2.2.1,())] (by show 5≤9223372036854775807;omega) n (by omega))).trans ?_
 exact congrArg (fun x:Int=>(some ⟨[⟨K3,(x,())⟩],[]⟩:Option Out)) (FL a b)
theorem f328(a b:dC):Ran p 3 328 [.val true ⟨K161,a⟩, .val true ⟨K161,b⟩] ⟨[⟨K3,(hY a b,())⟩],[]⟩:=go328 fun n hn=>by
 have lp:It (fun aA (_:Unit)=>c328_3 (aG p n) aA a b (((l2 a.1 b.1,()),()),()) (((l2 a.2.1 b.2.1,()),()),()) (((l2 a.2.2.1 b.2.2.1,()),()),()) (((l2 a.2.2.2.1 b.2.2.2.1,()),()),())) (0:Int) (fun _=>oI (hY a b)):=by
  have:=It.first (c:=fun aA (_:Unit)=>c328_3 (aG p n) aA a b (((l2 a.1 b.1,()),()),()) (((l2 a.2.1 b.2.1,()),()),()) (((l2 a.2.2.1 b.2.2.1,()),()),()) (((l2 a.2.2.2.1 b.2.2.2.1,()),()),())) (fun i=>(i:Int)) (yG a b).length (fun i=>(gt (yG a b) i).1 != 0) (fun i _=>oI (gt (yG a b) i).1) (fun _=>oI (qE a.2.2.2.2.1 b.2.2.2.2.1)) (fun i hi hp aA a' rec=>?_) (fun i hi hp=>It.stop fun aA a' rec=>?_) (It.stop fun aA a' rec=>?_)
  ·rw[← CZ];revert this;unfold orZ
   cases (List.range (yG a b).length).find? (fun i=>(gt (yG a b) i).1 != 0)<;>exact fun h=>h
  ·have hb:i<9223372036854775807:=Nat.lt_of_lt_of_le hi (by show 4≤9223372036854775807;omega)
   show c328_3 (aG p n) aA a b (((l2 a.1 b.1,()),()),()) (((l2 a.2.1 b.2.1,()),()),()) (((l2 a.2.2.1 b.2.2.1,()),()),()) (((l2 a.2.2.2.1 b.2.2.2.1,()),()),()) rec (i:Int)=_
   unfold c328_3;rw[aJ hb];refine(aF (Int.ofNat_lt.2 hi)).trans ?_;refine(aF (Int.natCast_nonneg _)).trans ?_;refine(aM hi).trans ?_;refine(aM hi).trans ?_;exact aN hp
  ·show c328_3 (aG p n) aA a b (((l2 a.1 b.1,()),()),()) (((l2 a.2.1 b.2.1,()),()),()) (((l2 a.2.2.1 b.2.2.1,()),()),()) (((l2 a.2.2.2.1 b.2.2.2.1,()),()),()) rec (i:Int)=_
   unfold c328_3;refine(aF (Int.ofNat_lt.2 hi)).trans ?_;refine(aF (Int.natCast_nonneg _)).trans ?_;refine(aM hi).trans ?_;refine(aM hi).trans ?_;refine(aX hp).trans ?_;refine(aF (Int.natCast_nonneg _)).trans ?_;refine(aM hi).trans ?_;refine(aM hi).trans ?_;rfl
  ·show c328_3 (aG p n) aA a b (((l2 a.1 b.1,()),()),()) (((l2 a.2.1 b.2.1,()),()),()) (((l2 a.2.2.1 b.2.2.1,()),()),()) (((l2 a.2.2.2.1 b.2.2.2.1,()),()),()) rec (((yG a b).length:Nat):Int)=_
   unfold c328_3;refine(aH (Int.lt_irrefl _)).trans ?_
   rw[← B7]
   cases Op.bytesLess (ByteArray.toList a.2.2.2.2.1) (ByteArray.toList b.2.2.2.2.1)with
   | true=>rfl
   | false=>refine(aN rfl).trans ?_;refine(aD (f359 (!(false||ByteArray.toList a.2.2.2.2.1==ByteArray.toList b.2.2.2.2.1)) n (by omega))).trans ?_;rfl
 exact Ev.eq (fun aA=>by unfold T328;refine(aD (f358 a.1 b.1 n (by omega))).trans ?_;refine(aD (f358 a.2.1 b.2.1 n (by omega))).trans ?_;refine(aD (f358 a.2.2.1 b.2.2.1 n (by omega))).trans ?_;refine(aD (f358 a.2.2.2.1 b.2.2.2.1 n (by omega))).trans ?_;rfl) (lp.ev (i:=()) rfl)
theorem f320(a b:dC):Ran p 4 320 [.val true ⟨K161,a⟩, .val true ⟨K161,b⟩] ⟨[⟨K161,mxE a b⟩],[]⟩:=go320 fun n hn=>Ev.now fun aA=>by
 unfold T320 mxE;refine(aD (f355 a b n (by omega))).trans ?_;cases decide (hY a b<0)<;>rfl
theorem f260(a b:aO)(ha:SzS a)(hb':SzS b)(hpa:Pos a)(hpb:Pos b):Ran p 4 260 [.val true ⟨K27,a⟩, .val true ⟨K27,b⟩] ⟨[⟨K27,eA a b⟩],[]⟩:=go260 fun n hn=>by
 have lp:It (fun aA (_:Unit)=>c260_3 (aG p n) aA a b) ((0:Int),([]:List aY),([]:List cE)) (fun _=>some ⟨[⟨K27,eA a b⟩],[]⟩):=by
  refine It.run (fun i=>((i:Int),bH i (cM a b),bH i (cU a b))) 5 (fun i hi aA u rec=>?_) (It.stop fun aA u rec=>?_)
  ·have l1:(bH i (cM a b)).length≤i*1:=c5 fun j _=>lK a b j
   have l2':(bH i (cU a b)).length≤i*1:=c5 fun j _=>nA a b j
   have hb:i<9223372036854775807:=by omega
   have fin3:∀ {F:List aY} {J:List cE},cM a b i=F→cU a b i=J→rec (((i+1:Nat):Int),bH i (cM a b)++F,bH i (cU a b)++J)=rec (((i+1:Nat):Int),bH (i+1) (cM a b),bH (i+1) (cU a b)):=by
    intro F J h1 h2;rw[dE,dE,h1,h2]
   have fin0:∀ {F:List aY},cM a b i=F→cU a b i=[]→rec (((i+1:Nat):Int),bH i (cM a b)++F,bH i (cU a b))=rec (((i+1:Nat):Int),bH (i+1) (cM a b),bH (i+1) (cU a b)):=by
    intro F h1 h2;rw[dE,dE,h1,h2,List.append_nil]
   have fin1:∀ {J:List cE},cM a b i=[]→cU a b i=J→rec (((i+1:Nat):Int),bH i (cM a b),bH i (cU a b)++J)=rec (((i+1:Nat):Int),bH (i+1) (cM a b),bH (i+1) (cU a b)):=by
    intro J h1 h2;rw[dE,dE,h1,h2,List.append_nil]
   have fin2:cM a b i=[]→cU a b i=[]→rec (((i+1:Nat):Int),bH i (cM a b),bH i (cU a b))=rec (((i+1:Nat):Int),bH (i+1) (cM a b),bH (i+1) (cU a b)):=by
    intro h1 h2;rw[dE,dE,h1,h2,List.append_nil,List.append_nil]
   show c260_3 (aG p n) aA a b rec ((i:Int),bH i (cM a b),bH i (cU a b))=rec (((i+1:Nat):Int),bH (i+1) (cM a b),bH (i+1) (cU a b))
   unfold c260_3;dsimp only;rw[aJ hb];refine(aF (by show(i:Int)<5;omega)).trans ?_;refine(aD (f313 a (i:Int) (aW ha.b) n (by omega))).trans ?_;refine(aD (f313 b (i:Int) (aW hb'.b) n (by omega))).trans ?_;refine(aD (f248 (cR a.2.1 (i:Int)) (cR b.2.1 (i:Int)) n (by omega))).trans ?_
   have zi:bE a (i:Int)=(d4,false)→bE b (i:Int)=(d4,false)→cU a b i=[]:=fun ea eb=>eR (FK ea eb) (by show ¬ (0:Int)>_;have:=HJ (b:=b) hpa (i:Int);omega)
   by_cases hf:flr a b (i:Int)>0
   ·refine(aF hf).trans ?_;refine(aF (by show(bH i (cM a b)).length+1≤4294967296;omega)).trans ?_
    have gF:=nT hf
    refine(cZ (f327 a (i:Int) (aW ha.a) n (by omega))).trans ?_;refine(cZ (f327 b (i:Int) (aW hb'.a) n (by omega))).trans ?_
    rcases kQ hpa (i:Int)with ⟨x,hx,ea⟩ | ea<;>rcases kQ hpb (i:Int)with ⟨y,hy,eb⟩ | eb<;>rw[ea,eb]
    ·refine(aN rfl).trans ?_;refine(aN rfl).trans ?_;refine(aX rfl).trans ?_;refine(aD (f328 y x n (by omega))).trans ?_
     have pk:=AF ea eb
     by_cases hc:hY y x>0
     ·rw[decide_eq_true hc] at pk
      replace pk:eO a b (i:Int)=y:=pk
      refine(aF hc).trans ?_
      by_cases hi':y.1>flr a b i
      ·refine(aF hi').trans ?_;refine(aF (by show(bH i (cU a b)).length+1≤4294967296;omega)).trans ?_;exact fin3 gF (fR pk hi')
      ·refine(aH hi').trans ?_;exact fin0 gF (eR pk hi')
     ·rw[decide_eq_false hc] at pk
      replace pk:eO a b (i:Int)=x:=pk
      refine(aH hc).trans ?_
      by_cases hi':x.1>flr a b i
      ·refine(aF hi').trans ?_;refine(aF (by show(bH i (cU a b)).length+1≤4294967296;omega)).trans ?_;exact fin3 gF (fR pk hi')
      ·refine(aH hi').trans ?_;exact fin0 gF (eR pk hi')
    ·refine(aN rfl).trans ?_;refine(aN rfl).trans ?_;refine(aN rfl).trans ?_
     by_cases hi':x.1>flr a b i
     ·refine(aF hi').trans ?_;refine(aF (by show(bH i (cU a b)).length+1≤4294967296;omega)).trans ?_;exact fin3 gF (fR (rZ ea eb hx) hi')
     ·refine(aH hi').trans ?_;exact fin0 gF (eR (rZ ea eb hx) hi')
    ·refine(aX rfl).trans ?_;refine(aN rfl).trans ?_;refine(aX rfl).trans ?_
     by_cases hi':y.1>flr a b i
     ·refine(aF hi').trans ?_;refine(aF (by show(bH i (cU a b)).length+1≤4294967296;omega)).trans ?_;exact fin3 gF (fR (sA ea eb hy) hi')
     ·refine(aH hi').trans ?_;exact fin0 gF (eR (sA ea eb hy) hi')
    ·refine(aX rfl).trans ?_;refine(aX rfl).trans ?_;exact fin0 gF (zi ea eb)
   ·refine(aH hf).trans ?_
    have gF:=nU hf
    refine(cZ (f327 a (i:Int) (aW ha.a) n (by omega))).trans ?_;refine(cZ (f327 b (i:Int) (aW hb'.a) n (by omega))).trans ?_
    rcases kQ hpa (i:Int)with ⟨x,hx,ea⟩ | ea<;>rcases kQ hpb (i:Int)with ⟨y,hy,eb⟩ | eb<;>rw[ea,eb]
    ·refine(aN rfl).trans ?_;refine(aN rfl).trans ?_;refine(aX rfl).trans ?_;refine(aD (f328 y x n (by omega))).trans ?_
     have pk:=AF ea eb
     by_cases hc:hY y x>0
     ·rw[decide_eq_true hc] at pk
      replace pk:eO a b (i:Int)=y:=pk
      refine(aF hc).trans ?_
      by_cases hi':y.1>flr a b i
      ·refine(aF hi').trans ?_;refine(aF (by show(bH i (cU a b)).length+1≤4294967296;omega)).trans ?_;exact fin1 gF (fR pk hi')
      ·refine(aH hi').trans ?_;exact fin2 gF (eR pk hi')
     ·rw[decide_eq_false hc] at pk
      replace pk:eO a b (i:Int)=x:=pk
      refine(aH hc).trans ?_
      by_cases hi':x.1>flr a b i
      ·refine(aF hi').trans ?_;refine(aF (by show(bH i (cU a b)).length+1≤4294967296;omega)).trans ?_;exact fin1 gF (fR pk hi')
      ·refine(aH hi').trans ?_;exact fin2 gF (eR pk hi')
    ·refine(aN rfl).trans ?_;refine(aN rfl).trans ?_;refine(aN rfl).trans ?_
     by_cases hi':x.1>flr a b i
     ·refine(aF hi').trans ?_;refine(aF (by show(bH i (cU a b)).length+1≤4294967296;omega)).trans ?_;exact fin1 gF (fR (rZ ea eb hx) hi')
     ·refine(aH hi').trans ?_;exact fin2 gF (eR (rZ ea eb hx) hi')
    ·refine(aX rfl).trans ?_;refine(aN rfl).trans ?_;refine(aX rfl).trans ?_
     by_cases hi':y.1>flr a b i
     ·refine(aF hi').trans ?_;refine(aF (by show(bH i (cU a b)).length+1≤4294967296;omega)).trans ?_;exact fin1 gF (fR (sA ea eb hy) hi')
     ·refine(aH hi').trans ?_;exact fin2 gF (eR (sA ea eb hy) hi')
    ·refine(aX rfl).trans ?_;refine(aX rfl).trans ?_;exact fin2 gF (zi ea eb)
  ·show c260_3 (aG p n) aA a b rec (((5:Nat):Int),bH 5 (cM a b),bH 5 (cU a b))=_
   unfold c260_3;exact aH (by show ¬ ((5:Int)<5);decide)
 exact Ev.eq (fun aA=>by unfold T260;rfl) (lp.ev (i:=()) rfl)
theorem f240(a b:aO)(ha:SzS a)(hb':SzS b):Ran p 5 240 [.val true ⟨K27,a⟩, .val true ⟨K27,b⟩] ⟨[⟨K27,eA a b⟩],[]⟩:=go240 fun n hn=>by
 have lp:It (fun aA (_:Unit)=>c240_3 (aG p n) aA a b) ((0:Int),([]:List cE),([]:List aY)) (fun _=>some ⟨[⟨K27,eA a b⟩],[]⟩):=by
  refine It.run (fun i=>((i:Int),bH i (cU a b),bH i (cM a b))) 5 (fun i hi aA u rec=>?_) (It.stop fun aA u rec=>?_)
  ·have l1:(bH i (cM a b)).length≤i*1:=c5 fun j _=>lK a b j
   have l2':(bH i (cU a b)).length≤i*1:=c5 fun j _=>nA a b j
   have hb:i<9223372036854775807:=by omega
   show c240_3 (aG p n) aA a b rec ((i:Int),bH i (cU a b),bH i (cM a b))=rec (((i+1:Nat):Int),bH (i+1) (cU a b),bH (i+1) (cM a b))
   unfold c240_3;dsimp only;rw[aJ hb];refine(aF (by show(i:Int)<5;omega)).trans ?_;refine(cZ (f319 a (i:Int) (aW ha.a) n (by omega))).trans ?_;refine(cZ (f319 b (i:Int) (aW hb'.a) n (by omega))).trans ?_;refine(aD (f320 (bE a (i:Int)).1 (bE b (i:Int)).1 n (by omega))).trans ?_;refine(aD (f243 a (i:Int) (aW ha.b) n (by omega))).trans ?_;refine(aD (f243 b (i:Int) (aW hb'.b) n (by omega))).trans ?_
   rw[dE,dE]
   by_cases hp:(eO a b (i:Int)).1>flr a b (i:Int)
   ·refine(aF hp).trans ?_;refine(aF (by show(bH i (cU a b)).length+1≤4294967296;omega)).trans ?_;rw[fR rfl hp]
    by_cases hf:flr a b (i:Int)>0
    ·refine(aF hf).trans ?_;refine(aF (by show(bH i (cM a b)).length+1≤4294967296;omega)).trans ?_;rw[nT hf];rfl
    ·refine(aH hf).trans ?_;rw[nU hf,List.append_nil];rfl
   ·refine(aH hp).trans ?_;rw[eR rfl hp,List.append_nil]
    by_cases hf:flr a b (i:Int)>0
    ·refine(aF hf).trans ?_;refine(aF (by show(bH i (cM a b)).length+1≤4294967296;omega)).trans ?_;rw[nT hf];rfl
    ·refine(aH hf).trans ?_;rw[nU hf,List.append_nil];rfl
  ·show c240_3 (aG p n) aA a b rec (((5:Nat):Int),bH 5 (cU a b),bH 5 (cM a b))=_
   unfold c240_3;exact aH (by show ¬ ((5:Int)<5);decide)
 exact Ev.eq (fun aA=>by unfold T240;rfl) (lp.ev (i:=()) rfl)
theorem f316(s:aO)(id:Int)(hz:SzS s):Ran p 4 316 [.val true ⟨K27,s⟩, .val false ⟨K3,(id,())⟩] ⟨[⟨K3,(gone s id,())⟩],[]⟩:=go316 fun n hn=>Ev.now fun aA=>by
 unfold T316 gone;refine(aD (f227 s (aW hz.a) (aW hz.b) n (by omega))).trans ?_
 cases hs:aZ s with
 | false=>rfl
 | true=>
  refine(aN rfl).trans ?_;refine(cZ (f327 s id (aW hz.a) n (by omega))).trans ?_
  rcases kQ ((bI s).1 hs).pos id with ⟨x,_,e⟩ | e<;>rw[e]
  ·refine(aN rfl).trans ?_;show(bif x.2.1==0 then _ else _)=(some (⟨[⟨K3,(bif true then(bif true then(bif x.2.1==0 then _ else _)else _)else _,())⟩],[]⟩:Out):Option Out)
   cases x.2.1==0<;>rfl
  ·refine(aX rfl).trans ?_;refine(aD (f313 s id (aW hz.b) n (by omega))).trans ?_;rfl
theorem f311(s:aO)(id:Int)(hz:SzS s):Ran p 4 311 [.val true ⟨K27,s⟩, .val false ⟨K3,(id,())⟩] ⟨[⟨K3,(gone s id,())⟩],[]⟩:=go311 fun n hn=>Ev.now fun aA=>by
 unfold T311;refine(aD (f101 s (aW hz.a) (aW hz.b) n (by omega))).trans ?_
 cases hs:aZ s with
 | false=>rw[yF hs];rfl
 | true=>
  rw[HH hs]
  refine(aN rfl).trans ?_;refine(cZ (f319 s id (aW hz.a) n (by omega))).trans ?_
  rcases kQ ((bI s).1 hs).pos id with ⟨x,_,e⟩ | e<;>rw[e]
  ·refine(aN rfl).trans ?_;show(bif x.2.1==1 then _ else _)=(some (⟨[⟨K3,(bif true then(bif x.2.1==1 then _ else _)else _,())⟩],[]⟩:Out):Option Out)
   cases x.2.1==1<;>rfl
  ·refine(aX rfl).trans ?_;refine(aD (f243 s id (aW hz.b) n (by omega))).trans ?_;rfl
end Go.Abs.Xz
