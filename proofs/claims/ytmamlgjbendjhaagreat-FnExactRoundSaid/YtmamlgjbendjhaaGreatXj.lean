/- What the functions of this program answer, part j. -/
import Derived.Test.YtmamlgjbendjhaaGreatXh
import Derived.Test.YtmamlgjbendjhaaGreatW3
set_option linter.unusedVariables false
namespace Go.Abs.Xz
open Go Go.Abs
theorem f327(s:aM)(id:Int)(hl:s.1.length≤maxLen):Ran p 1 327 [va K27 s, vf K3 (id,())] ⟨[⟨K161,(bE s id).1⟩,⟨K4,((bE s id).2,())⟩],[]⟩:=go327 fun n hn=>by
 have lp:It (fun aA (_:Unit)=>c327_2 (aG p n) aA s id) (0:Int) (fun _=>some ⟨[⟨K161,(bE s id).1⟩,⟨K4,((bE s id).2,())⟩],[]⟩):=by
  have:=It.first (c:=fun aA (_:Unit)=>c327_2 (aG p n) aA s id) (fun i=>(i:Int)) s.1.length (fun i=>(gt s.1 i).1==id) (fun i _=>some ⟨[⟨K161,(gt (α:=cE) s.1 i).2⟩,⟨K4,(true,())⟩],[]⟩) (fun _=>some ⟨[⟨K161,eN⟩,⟨K4,(false,())⟩],[]⟩) (fun i hi hp aA a rec=>?_) (fun i hi hp=>It.stop fun aA a rec=>?_) (It.stop fun aA a rec=>?_)
  ·revert this;unfold bE
   cases (List.range s.1.length).find? (fun i=>(gt s.1 i).1==id)<;>exact fun h=>h
  ·have hb:i<9223372036854775807:=Nat.lt_of_lt_of_le hi hl
   show c327_2 (aG p n) aA s id rec (i:Int)=_
   unfold c327_2;rw[aI hb];refine(aE (Int.ofNat_lt.2 hi)).trans ?_;refine bif_nn.trans ?_;refine(aK hi).trans ?_;exact aL hp
  ·show c327_2 (aG p n) aA s id rec (i:Int)=_
   unfold c327_2;refine(aE (Int.ofNat_lt.2 hi)).trans ?_;refine bif_nn.trans ?_;refine(aK hi).trans ?_;refine(aN hp).trans ?_;refine bif_nn.trans ?_;refine(aK hi).trans ?_;rfl
  ·show c327_2 (aG p n) aA s id rec (s.1.length:Int)=_
   unfold c327_2;refine(aF (Int.lt_irrefl _)).trans ?_;rfl
 exact Ev.eq (fun aA=>by unfold T327;rfl) (lp.ev (i:=()) rfl)
theorem f319(s:aM)(id:Int)(hl:s.1.length≤maxLen):Ran p 1 319 [va K27 s, vf K3 (id,())] ⟨[⟨K161,(bE s id).1⟩,⟨K4,((bE s id).2,())⟩],[]⟩:=go319 fun n hn=>by
 have lp:It (fun aA (_:Unit)=>c319_2 (aG p n) aA s id) (0:Int) (fun _=>some ⟨[⟨K161,(bE s id).1⟩,⟨K4,((bE s id).2,())⟩],[]⟩):=by
  have:=It.first (c:=fun aA (_:Unit)=>c319_2 (aG p n) aA s id) (fun i=>(i:Int)) s.1.length (fun i=>(gt s.1 i).1==id) (fun i _=>some ⟨[⟨K161,(gt (α:=cE) s.1 i).2⟩,⟨K4,(true,())⟩],[]⟩) (fun _=>some ⟨[⟨K161,eN⟩,⟨K4,(false,())⟩],[]⟩) (fun i hi hp aA a rec=>?_) (fun i hi hp=>It.stop fun aA a rec=>?_) (It.stop fun aA a rec=>?_)
  ·revert this;unfold bE
   cases (List.range s.1.length).find? (fun i=>(gt s.1 i).1==id)<;>exact fun h=>h
  ·have hb:i<9223372036854775807:=Nat.lt_of_lt_of_le hi hl
   show c319_2 (aG p n) aA s id rec (i:Int)=_
   unfold c319_2;rw[aI hb];refine(aE (Int.ofNat_lt.2 hi)).trans ?_;refine bif_nn.trans ?_;refine(aK hi).trans ?_;exact aL hp
  ·show c319_2 (aG p n) aA s id rec (i:Int)=_
   unfold c319_2;refine(aE (Int.ofNat_lt.2 hi)).trans ?_;refine bif_nn.trans ?_;refine(aK hi).trans ?_;refine(aN hp).trans ?_;rfl
  ·show c319_2 (aG p n) aA s id rec (s.1.length:Int)=_
   unfold c319_2;refine(aF (Int.lt_irrefl _)).trans ?_;rfl
 exact Ev.eq (fun aA=>by unfold T319;rfl) (lp.ev (i:=()) rfl)
theorem f248(a b:Int):Ran p 1 248 [vf K3 (a,()), vf K3 (b,())] (rO K3 (mxI true a b,())):=go248 fun n hn=>Ev.now fun aA=>by
 unfold T248 mxI
 simp only[if_true]
 by_cases h:a>b
 ·refine(aE h).trans ?_;rw[if_neg (by omega:¬ b>a)]
 ·refine(aF h).trans ?_;by_cases h':b>a
  ·rw[if_pos h']
  ·rw[if_neg h',show a=b from by omega]
theorem f359(b:Bool):Ran p 1 359 [vf K4 (b,())] (rO K3 (E6 b,())):=go359 fun n hn=>Ev.now fun aA=>by
 unfold T359;cases b<;>rfl
theorem f358(a b:Int):Ran p 2 358 [vf K3 (a,()), vf K3 (b,())] (rO K3 (l2 a b,())):=go358 fun n hn=>Ev.now fun aA=>by
 unfold T358 l2
 cases decide (a<b)with
 | true=>rfl
 | false=>refine(aL rfl).trans ?_;refine(aC (f359 (decide (a>b)) n (by omega))).trans ?_;rfl
theorem f383(a:Int):Ran p 1 383 [vf K3 (a,())] (rO K4 (false,())):=go383 fun n hn=>Ev.now fun aA=>by
 unfold T383;exact congrArg (fun b:Bool=>(rV K4 (b,()):Option Out)) (by simp:(a != a)=false)
theorem f376(a b:Int):Ran p 2 376 [vf K3 (a,()), vf K3 (b,())] (rO K3 (l2 a b,())):=go376 fun n hn=>Ev.now fun aA=>by
 unfold T376 l2;refine(aC (f383 a n (by omega))).trans ?_;refine(aC (f383 b n (by omega))).trans ?_;refine(aL rfl).trans ?_;refine(aL rfl).trans ?_;cases decide (a<b)<;>cases decide (a>b)<;>rfl
theorem f375(ls:List bB)(hl:ls.length≤maxLen):Ran p 1 375 [vf K28 (ls,())] (rO K3 (orN ls,())):=go375 fun n hn=>by
 have lp:It (fun aA (_:Unit)=>c375_3 (aG p n) aA ls) (0:Int) (fun _=>oI (orN ls)):=by
  have:=It.first (c:=fun aA (_:Unit)=>c375_3 (aG p n) aA ls) (fun i=>(i:Int)) ls.length (fun i=>(gt ls i).1 != 0) (fun i _=>oI (gt ls i).1) (fun _=>oI 0) (fun i hi hp aA a rec=>?_) (fun i hi hp=>It.stop fun aA a rec=>?_) (It.stop fun aA a rec=>?_)
  ·revert this;unfold orN
   cases (List.range ls.length).find? (fun i=>(gt ls i).1 != 0)<;>exact fun h=>h
  ·have hb:i<9223372036854775807:=Nat.lt_of_lt_of_le hi hl
   show c375_3 (aG p n) aA ls rec (i:Int)=_
   unfold c375_3;rw[aI hb];refine(aE (Int.ofNat_lt.2 hi)).trans ?_;refine bif_nn.trans ?_;refine(aK hi).trans ?_;exact aL hp
  ·show c375_3 (aG p n) aA ls rec (i:Int)=_
   unfold c375_3;refine(aE (Int.ofNat_lt.2 hi)).trans ?_;refine bif_nn.trans ?_;refine(aK hi).trans ?_;exact aN hp
  ·show c375_3 (aG p n) aA ls rec (ls.length:Int)=_
   unfold c375_3;refine(aF (Int.lt_irrefl _)).trans ?_;rfl
 exact Ev.eq (fun aA=>by unfold T375;rfl) (lp.ev (i:=()) rfl)
theorem f377(a b:ByteArray):Ran p 1 377 [vf K9 (a,()), vf K9 (b,())] (rO K3 (rY a b,())):=fun n hn=>by
 cases n with
 | zero=>omega
 | succ n=>rfl
theorem f355(a b:dL):Ran p 3 355 [va K161 a, va K161 b] (rO K3 (jB a b,())):=go355 fun n hn=>Ev.now fun aA=>by
 unfold T355;refine(aC (f376 a.1 b.1 n (by omega))).trans ?_;refine(aC (f376 a.2.1 b.2.1 n (by omega))).trans ?_;refine(aC (f376 a.2.2.1 b.2.2.1 n (by omega))).trans ?_;refine(aC (f376 a.2.2.2.1 b.2.2.2.1 n (by omega))).trans ?_;refine(aC (f377 a.2.2.2.2.1 b.2.2.2.2.1 n (by omega))).trans ?_
 refine(aC (f375 [(l2 a.1 b.1,()),(l2 a.2.1 b.2.1,()),(l2 a.2.2.1 b.2.2.1,()),(l2 a.2.2.2.1 b.2.2.2.1,()),(rY a.2.2.2.2.1 b.2.2.2.2.1,())] (by show 5≤9223372036854775807;omega) n (by omega))).trans ?_
 exact congrArg (fun x:Int=>(rV K3 (x,()):Option Out)) (H8 a b)
theorem f328(a b:dL):Ran p 3 328 [va K161 a, va K161 b] (rO K3 (jB a b,())):=go328 fun n hn=>by
 have lp:It (fun aA (_:Unit)=>c328_3 (aG p n) aA a b (((l2 a.1 b.1,()),()),()) (((l2 a.2.1 b.2.1,()),()),()) (((l2 a.2.2.1 b.2.2.1,()),()),()) (((l2 a.2.2.2.1 b.2.2.2.1,()),()),())) (0:Int) (fun _=>oI (jB a b)):=by
  have:=It.first (c:=fun aA (_:Unit)=>c328_3 (aG p n) aA a b (((l2 a.1 b.1,()),()),()) (((l2 a.2.1 b.2.1,()),()),()) (((l2 a.2.2.1 b.2.2.1,()),()),()) (((l2 a.2.2.2.1 b.2.2.2.1,()),()),())) (fun i=>(i:Int)) (A3 a b).length (fun i=>(gt (A3 a b) i).1 != 0) (fun i _=>oI (gt (A3 a b) i).1) (fun _=>oI (rY a.2.2.2.2.1 b.2.2.2.2.1)) (fun i hi hp aA a' rec=>?_) (fun i hi hp=>It.stop fun aA a' rec=>?_) (It.stop fun aA a' rec=>?_)
  ·rw[← F4];revert this;unfold orZ
   cases (List.range (A3 a b).length).find? (fun i=>(gt (A3 a b) i).1 != 0)<;>exact fun h=>h
  ·have hb:i<9223372036854775807:=Nat.lt_of_lt_of_le hi (by show 4≤9223372036854775807;omega)
   show c328_3 (aG p n) aA a b (((l2 a.1 b.1,()),()),()) (((l2 a.2.1 b.2.1,()),()),()) (((l2 a.2.2.1 b.2.2.1,()),()),()) (((l2 a.2.2.2.1 b.2.2.2.1,()),()),()) rec (i:Int)=_
   unfold c328_3;rw[aI hb];refine(aE (Int.ofNat_lt.2 hi)).trans ?_;refine bif_nn.trans ?_;refine(aK hi).trans ?_;refine(aK hi).trans ?_;exact aL hp
  ·show c328_3 (aG p n) aA a b (((l2 a.1 b.1,()),()),()) (((l2 a.2.1 b.2.1,()),()),()) (((l2 a.2.2.1 b.2.2.1,()),()),()) (((l2 a.2.2.2.1 b.2.2.2.1,()),()),()) rec (i:Int)=_
   unfold c328_3;refine(aE (Int.ofNat_lt.2 hi)).trans ?_;refine bif_nn.trans ?_;refine(aK hi).trans ?_;refine(aK hi).trans ?_;refine(aN hp).trans ?_;refine bif_nn.trans ?_;refine(aK hi).trans ?_;refine(aK hi).trans ?_;rfl
  ·show c328_3 (aG p n) aA a b (((l2 a.1 b.1,()),()),()) (((l2 a.2.1 b.2.1,()),()),()) (((l2 a.2.2.1 b.2.2.1,()),()),()) (((l2 a.2.2.2.1 b.2.2.2.1,()),()),()) rec (((A3 a b).length:Nat):Int)=_
   unfold c328_3;refine(aF (Int.lt_irrefl _)).trans ?_
   rw[← E0]
   cases Op.bytesLess (ByteArray.toList a.2.2.2.2.1) (ByteArray.toList b.2.2.2.2.1)with
   | true=>rfl
   | false=>refine(aL rfl).trans ?_;refine(aC (f359 (!(false||ByteArray.toList a.2.2.2.2.1==ByteArray.toList b.2.2.2.2.1)) n (by omega))).trans ?_;rfl
 exact Ev.eq (fun aA=>by unfold T328;refine(aC (f358 a.1 b.1 n (by omega))).trans ?_;refine(aC (f358 a.2.1 b.2.1 n (by omega))).trans ?_;refine(aC (f358 a.2.2.1 b.2.2.1 n (by omega))).trans ?_;refine(aC (f358 a.2.2.2.1 b.2.2.2.1 n (by omega))).trans ?_;rfl) (lp.ev (i:=()) rfl)
theorem f320(a b:dL):Ran p 4 320 [va K161 a, va K161 b] (rO K161 (mxE a b)):=go320 fun n hn=>Ev.now fun aA=>by
 unfold T320 mxE;refine(aC (f355 a b n (by omega))).trans ?_;cases decide (jB a b<0)<;>rfl
theorem f260(a b:aM)(ha:SzS a)(hb':SzS b)(hpa:Pos a)(hpb:Pos b):Ran p 4 260 [va K27 a, va K27 b] (rO K27 (eQ a b)):=go260 fun n hn=>by
 have lp:It (fun aA (_:Unit)=>c260_3 (aG p n) aA a b) ((0:Int),([]:List aY),([]:List cE)) (fun _=>rV K27 (eQ a b)):=by
  refine It.run (fun i=>((i:Int),bI i (cM a b),bI i (c5 a b))) 5 (fun i hi aA u rec=>?_) (It.stop fun aA u rec=>?_)
  ·have l1:(bI i (cM a b)).length≤i*1:=c8 fun j _=>mM a b j
   have l2':(bI i (c5 a b)).length≤i*1:=c8 fun j _=>oJ a b j
   have hb:i<9223372036854775807:=by omega
   have fin3:∀ {F:List aY} {J:List cE},cM a b i=F→c5 a b i=J→rec (((i+1:Nat):Int),bI i (cM a b)++F,bI i (c5 a b)++J)=rec (((i+1:Nat):Int),bI (i+1) (cM a b),bI (i+1) (c5 a b)):=by
    intro F J h1 h2;rw[dQ,dQ,h1,h2]
   have fin0:∀ {F:List aY},cM a b i=F→c5 a b i=[]→rec (((i+1:Nat):Int),bI i (cM a b)++F,bI i (c5 a b))=rec (((i+1:Nat):Int),bI (i+1) (cM a b),bI (i+1) (c5 a b)):=by
    intro F h1 h2;rw[dQ,dQ,h1,h2,List.append_nil]
   have fin1:∀ {J:List cE},cM a b i=[]→c5 a b i=J→rec (((i+1:Nat):Int),bI i (cM a b),bI i (c5 a b)++J)=rec (((i+1:Nat):Int),bI (i+1) (cM a b),bI (i+1) (c5 a b)):=by
    intro J h1 h2;rw[dQ,dQ,h1,h2,List.append_nil]
   have fin2:cM a b i=[]→c5 a b i=[]→rec (((i+1:Nat):Int),bI i (cM a b),bI i (c5 a b))=rec (((i+1:Nat):Int),bI (i+1) (cM a b),bI (i+1) (c5 a b)):=by
    intro h1 h2;rw[dQ,dQ,h1,h2,List.append_nil,List.append_nil]
   show c260_3 (aG p n) aA a b rec ((i:Int),bI i (cM a b),bI i (c5 a b))=rec (((i+1:Nat):Int),bI (i+1) (cM a b),bI (i+1) (c5 a b))
   unfold c260_3;dsimp only;rw[aI hb];refine(aE (by show(i:Int)<5;omega)).trans ?_;refine(aC (f313 a (i:Int) (aU ha.b) n (by omega))).trans ?_;refine(aC (f313 b (i:Int) (aU hb'.b) n (by omega))).trans ?_;refine(aC (f248 (cX a.2.1 (i:Int)) (cX b.2.1 (i:Int)) n (by omega))).trans ?_
   have zi:bE a (i:Int)=(eN,false)→bE b (i:Int)=(eN,false)→c5 a b i=[]:=fun ea eb=>fL (H7 ea eb) (by show ¬ (0:Int)>_;have:=J4 (b:=b) hpa (i:Int);omega)
   by_cases hf:flr a b (i:Int)>0
   ·refine(aE hf).trans ?_;refine(aE (by show(bI i (cM a b)).length+1≤4294967296;omega)).trans ?_
    have gF:=pK hf
    refine(cR (f327 a (i:Int) (aU ha.a) n (by omega))).trans ?_;refine(cR (f327 b (i:Int) (aU hb'.a) n (by omega))).trans ?_
    rcases lQ hpa (i:Int)with ⟨x,hx,ea⟩ | ea<;>rcases lQ hpb (i:Int)with ⟨y,hy,eb⟩ | eb<;>rw[ea,eb]
    ·refine(aL rfl).trans ?_;refine(aL rfl).trans ?_;refine(aN rfl).trans ?_;refine(aC (f328 y x n (by omega))).trans ?_
     have pk:=C3 ea eb
     by_cases hc:jB y x>0
     ·rw[decide_eq_true hc] at pk
      replace pk:fH a b (i:Int)=y:=pk
      refine(aE hc).trans ?_
      by_cases hi':y.1>flr a b i
      ·refine(aE hi').trans ?_;refine(aE (by show(bI i (c5 a b)).length+1≤4294967296;omega)).trans ?_;exact fin3 gF (gK pk hi')
      ·refine(aF hi').trans ?_;exact fin0 gF (fL pk hi')
     ·rw[decide_eq_false hc] at pk
      replace pk:fH a b (i:Int)=x:=pk
      refine(aF hc).trans ?_
      by_cases hi':x.1>flr a b i
      ·refine(aE hi').trans ?_;refine(aE (by show(bI i (c5 a b)).length+1≤4294967296;omega)).trans ?_;exact fin3 gF (gK pk hi')
      ·refine(aF hi').trans ?_;exact fin0 gF (fL pk hi')
    ·refine(aL rfl).trans ?_;refine(aL rfl).trans ?_;refine(aL rfl).trans ?_
     by_cases hi':x.1>flr a b i
     ·refine(aE hi').trans ?_;refine(aE (by show(bI i (c5 a b)).length+1≤4294967296;omega)).trans ?_;exact fin3 gF (gK (uB ea eb hx) hi')
     ·refine(aF hi').trans ?_;exact fin0 gF (fL (uB ea eb hx) hi')
    ·refine(aN rfl).trans ?_;refine(aL rfl).trans ?_;refine(aN rfl).trans ?_
     by_cases hi':y.1>flr a b i
     ·refine(aE hi').trans ?_;refine(aE (by show(bI i (c5 a b)).length+1≤4294967296;omega)).trans ?_;exact fin3 gF (gK (uC ea eb hy) hi')
     ·refine(aF hi').trans ?_;exact fin0 gF (fL (uC ea eb hy) hi')
    ·refine(aN rfl).trans ?_;refine(aN rfl).trans ?_;exact fin0 gF (zi ea eb)
   ·refine(aF hf).trans ?_
    have gF:=pL hf
    refine(cR (f327 a (i:Int) (aU ha.a) n (by omega))).trans ?_;refine(cR (f327 b (i:Int) (aU hb'.a) n (by omega))).trans ?_
    rcases lQ hpa (i:Int)with ⟨x,hx,ea⟩ | ea<;>rcases lQ hpb (i:Int)with ⟨y,hy,eb⟩ | eb<;>rw[ea,eb]
    ·refine(aL rfl).trans ?_;refine(aL rfl).trans ?_;refine(aN rfl).trans ?_;refine(aC (f328 y x n (by omega))).trans ?_
     have pk:=C3 ea eb
     by_cases hc:jB y x>0
     ·rw[decide_eq_true hc] at pk
      replace pk:fH a b (i:Int)=y:=pk
      refine(aE hc).trans ?_
      by_cases hi':y.1>flr a b i
      ·refine(aE hi').trans ?_;refine(aE (by show(bI i (c5 a b)).length+1≤4294967296;omega)).trans ?_;exact fin1 gF (gK pk hi')
      ·refine(aF hi').trans ?_;exact fin2 gF (fL pk hi')
     ·rw[decide_eq_false hc] at pk
      replace pk:fH a b (i:Int)=x:=pk
      refine(aF hc).trans ?_
      by_cases hi':x.1>flr a b i
      ·refine(aE hi').trans ?_;refine(aE (by show(bI i (c5 a b)).length+1≤4294967296;omega)).trans ?_;exact fin1 gF (gK pk hi')
      ·refine(aF hi').trans ?_;exact fin2 gF (fL pk hi')
    ·refine(aL rfl).trans ?_;refine(aL rfl).trans ?_;refine(aL rfl).trans ?_
     by_cases hi':x.1>flr a b i
     ·refine(aE hi').trans ?_;refine(aE (by show(bI i (c5 a b)).length+1≤4294967296;omega)).trans ?_;exact fin1 gF (gK (uB ea eb hx) hi')
     ·refine(aF hi').trans ?_;exact fin2 gF (fL (uB ea eb hx) hi')
    ·refine(aN rfl).trans ?_;refine(aL rfl).trans ?_;refine(aN rfl).trans ?_
     by_cases hi':y.1>flr a b i
     ·refine(aE hi').trans ?_;refine(aE (by show(bI i (c5 a b)).length+1≤4294967296;omega)).trans ?_;exact fin1 gF (gK (uC ea eb hy) hi')
     ·refine(aF hi').trans ?_;exact fin2 gF (fL (uC ea eb hy) hi')
    ·refine(aN rfl).trans ?_;refine(aN rfl).trans ?_;exact fin2 gF (zi ea eb)
  ·show c260_3 (aG p n) aA a b rec (((5:Nat):Int),bI 5 (cM a b),bI 5 (c5 a b))=_
   unfold c260_3;exact aF (by show ¬ ((5:Int)<5);decide)
 exact Ev.eq (fun aA=>by unfold T260;rfl) (lp.ev (i:=()) rfl)
theorem f240(a b:aM)(ha:SzS a)(hb':SzS b):Ran p 5 240 [va K27 a, va K27 b] (rO K27 (eQ a b)):=go240 fun n hn=>by
 have lp:It (fun aA (_:Unit)=>c240_3 (aG p n) aA a b) ((0:Int),([]:List cE),([]:List aY)) (fun _=>rV K27 (eQ a b)):=by
  refine It.run (fun i=>((i:Int),bI i (c5 a b),bI i (cM a b))) 5 (fun i hi aA u rec=>?_) (It.stop fun aA u rec=>?_)
  ·have l1:(bI i (cM a b)).length≤i*1:=c8 fun j _=>mM a b j
   have l2':(bI i (c5 a b)).length≤i*1:=c8 fun j _=>oJ a b j
   have hb:i<9223372036854775807:=by omega
   show c240_3 (aG p n) aA a b rec ((i:Int),bI i (c5 a b),bI i (cM a b))=rec (((i+1:Nat):Int),bI (i+1) (c5 a b),bI (i+1) (cM a b))
   unfold c240_3;dsimp only;rw[aI hb];refine(aE (by show(i:Int)<5;omega)).trans ?_;refine(cR (f319 a (i:Int) (aU ha.a) n (by omega))).trans ?_;refine(cR (f319 b (i:Int) (aU hb'.a) n (by omega))).trans ?_;refine(aC (f320 (bE a (i:Int)).1 (bE b (i:Int)).1 n (by omega))).trans ?_;refine(aC (f243 a (i:Int) (aU ha.b) n (by omega))).trans ?_;refine(aC (f243 b (i:Int) (aU hb'.b) n (by omega))).trans ?_
   rw[dQ,dQ]
   by_cases hp:(fH a b (i:Int)).1>flr a b (i:Int)
   ·refine(aE hp).trans ?_;refine(aE (by show(bI i (c5 a b)).length+1≤4294967296;omega)).trans ?_;rw[gK rfl hp]
    by_cases hf:flr a b (i:Int)>0
    ·refine(aE hf).trans ?_;refine(aE (by show(bI i (cM a b)).length+1≤4294967296;omega)).trans ?_;rw[pK hf];rfl
    ·refine(aF hf).trans ?_;rw[pL hf,List.append_nil];rfl
   ·refine(aF hp).trans ?_;rw[fL rfl hp,List.append_nil]
    by_cases hf:flr a b (i:Int)>0
    ·refine(aE hf).trans ?_;refine(aE (by show(bI i (cM a b)).length+1≤4294967296;omega)).trans ?_;rw[pK hf];rfl
    ·refine(aF hf).trans ?_;rw[pL hf,List.append_nil];rfl
  ·show c240_3 (aG p n) aA a b rec (((5:Nat):Int),bI 5 (c5 a b),bI 5 (cM a b))=_
   unfold c240_3;exact aF (by show ¬ ((5:Int)<5);decide)
 exact Ev.eq (fun aA=>by unfold T240;rfl) (lp.ev (i:=()) rfl)
theorem f316(s:aM)(id:Int)(hz:SzS s):Ran p 4 316 [va K27 s, vf K3 (id,())] (rO K3 (gone s id,())):=go316 fun n hn=>Ev.now fun aA=>by
 unfold T316 gone;refine(aC (f227 s (aU hz.a) (aU hz.b) n (by omega))).trans ?_
 cases hs:bA s with
 | false=>rfl
 | true=>
  refine(aL rfl).trans ?_;refine(cR (f327 s id (aU hz.a) n (by omega))).trans ?_
  rcases lQ ((bK s).1 hs).pos id with ⟨x,_,e⟩ | e<;>rw[e]
  ·refine(aL rfl).trans ?_;show(bif x.2.1==0 then _ else _)=(some ((rO K3 (bif true then(bif true then(bif x.2.1==0 then _ else _)else _)else _,())):Out):Option Out)
   cases x.2.1==0<;>rfl
  ·refine(aN rfl).trans ?_;refine(aC (f313 s id (aU hz.b) n (by omega))).trans ?_;rfl
theorem f311(s:aM)(id:Int)(hz:SzS s):Ran p 4 311 [va K27 s, vf K3 (id,())] (rO K3 (gone s id,())):=go311 fun n hn=>Ev.now fun aA=>by
 unfold T311;refine(aC (f101 s (aU hz.a) (aU hz.b) n (by omega))).trans ?_
 cases hs:bA s with
 | false=>rw[A0 hs];rfl
 | true=>
  rw[J3 hs]
  refine(aL rfl).trans ?_;refine(cR (f319 s id (aU hz.a) n (by omega))).trans ?_
  rcases lQ ((bK s).1 hs).pos id with ⟨x,_,e⟩ | e<;>rw[e]
  ·refine(aL rfl).trans ?_;show(bif x.2.1==1 then _ else _)=(some ((rO K3 (bif true then(bif x.2.1==1 then _ else _)else _,())):Out):Option Out)
   cases x.2.1==1<;>rfl
  ·refine(aN rfl).trans ?_;refine(aC (f243 s id (aU hz.b) n (by omega))).trans ?_;rfl
end Go.Abs.Xz
