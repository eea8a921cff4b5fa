/- What the functions of this program answer, part go. -/
import Derived.Test.YtmamlgjbendjhaaGreatXgn
set_option linter.unusedVariables false
namespace Go.Abs.Xz
open Go Go.Abs
theorem n9{α:Type}[Inhabited α]{xs:List α}{i:Nat}(h:i<xs.length):xs.take i++[gt xs i]=xs.take (i+1):=by
 rw[cV h];exact List.take_append_getElem h
theorem gJ{α β:Type}{xs:List β}(h:xs.length≤aU):List.length ([]:List α)+xs.length≤bound:=by
 show 0+xs.length≤bound;unfold aU at h;unfold bound;omega
theorem uD{α:Type}{xs:List α}(h:xs.length≤aU)(i:Nat):(xs.take i).length+1≤bound:=by
 rw[List.length_take];unfold aU at h;unfold bound;omega
theorem i63{i k:Nat}(h:i<k)(hk:k≤aU):i<9223372036854775807:=by unfold aU at hk;omega
theorem f224(s:aH)(hz:SzS s):Ran p 1 224 [.val true ⟨K27,s⟩] ⟨[⟨K27,s⟩],[]⟩:=go224 fun n hn=>Ev.now fun aA=>by
 show T224 (aK p n) aA s=some ⟨[⟨K27,s⟩],[]⟩
 unfold T224;refine(aE (gJ hz.a)).trans ?_;refine(aE (gJ hz.b)).trans ?_;rfl
theorem f220(s:aH)(hz:SzS s):Ran p 1 220 [.val true ⟨K27,s⟩] ⟨[⟨K27,s⟩],[]⟩:=go220 fun n hn=>Ev.now fun aA=>by
 show T220 (aK p n) aA s=some ⟨[⟨K27,s⟩],[]⟩
 unfold T220;refine(aE (gJ hz.a)).trans ?_;refine(aE (gJ hz.b)).trans ?_;rfl
theorem f98(xs:List aX)(h:xs.length≤aU):Ran p 1 98 [.val false ⟨K28,(xs,())⟩] ⟨[⟨K28,(xs,())⟩],[]⟩:=go98 fun n hn=>Ev.now fun aA=>by
 show T98 (aK p n) aA xs=some ⟨[⟨K28,(xs,())⟩],[]⟩
 unfold T98;refine(aE (gJ h)).trans ?_;rfl
theorem f90(t:iP)(h:t.1.length≤aU):Ran p 1 90 [.val true ⟨K30,t⟩] ⟨[⟨K30,t⟩],[]⟩:=go90 fun n hn=>Ev.now fun aA=>by
 show T90 (aK p n) aA t=some ⟨[⟨K30,t⟩],[]⟩
 unfold T90;refine(aE (gJ h)).trans ?_;rfl
theorem f84(t:iP)(h:t.1.length≤aU):Ran p 2 84 [.val true ⟨K30,t⟩] ⟨[⟨K30,t⟩],[]⟩:=go84 fun n hn=>Ev.now fun aA=>by
 show T84 (aK p n) aA t=some ⟨[⟨K30,t⟩],[]⟩
 unfold T84;refine(aB (f98 t.1 h n (by omega))).trans ?_;rfl
theorem f226(ts:List bQ)(h1:ts.length≤aU)(h2:∀ i,i<ts.length→(gt ts i).1.length≤aU):Ran p 1 226 [.val false ⟨K34,(ts,())⟩] ⟨[⟨K34,(ts,())⟩],[]⟩:=go226 fun n hn=>by
 have lp:It (fun aA (_:Unit)=>c226_3 (aK p n) aA ts) ((0:Int),([]:List bQ)) (fun _=>some ⟨[⟨K34,(ts,())⟩],[]⟩):=by
  refine It.run (fun i=>((i:Int),ts.take i)) ts.length (fun i hi aA u rec=>?_) (It.stop fun aA u rec=>?_)
  ·show c226_3 (aK p n) aA ts rec ((i:Int),ts.take i)=rec (((i+1:Nat):Int),ts.take (i+1))
   unfold c226_3;dsimp only;rw[aL (i63 hi h1)];refine(aE (Int.ofNat_lt.2 hi)).trans ?_;refine bif_nn.trans ?_;refine(aJ hi).trans ?_
   refine(aE (gJ (h2 i hi))).trans ?_;refine(aE (uD h1 i)).trans ?_;rw[← n9 hi];rfl
  ·show c226_3 (aK p n) aA ts rec ((ts.length:Int),ts.take ts.length)=_
   refine(congrArg (fun l=>c226_3 (aK p n) aA ts rec ((ts.length:Int),l)) (List.take_length (l:=ts))).trans ?_
   unfold c226_3;dsimp only;refine(aI (Int.lt_irrefl _)).trans ?_;rfl
 exact Ev.eq (fun aA=>by unfold T226;rfl) (lp.ev (i:=()) rfl)
theorem f222(ts:List bQ)(h1:ts.length≤aU)(h2:∀ i,i<ts.length→(gt ts i).1.length≤aU):Ran p 2 222 [.val false ⟨K34,(ts,())⟩] ⟨[⟨K34,(ts,())⟩],[]⟩:=go222 fun n hn=>by
 have lp:It (fun aA (_:Unit)=>c222_3 (aK p n) aA ts) ((0:Int),([]:List bQ)) (fun _=>some ⟨[⟨K34,(ts,())⟩],[]⟩):=by
  refine It.run (fun i=>((i:Int),ts.take i)) ts.length (fun i hi aA u rec=>?_) (It.stop fun aA u rec=>?_)
  ·show c222_3 (aK p n) aA ts rec ((i:Int),ts.take i)=rec (((i+1:Nat):Int),ts.take (i+1))
   unfold c222_3;dsimp only;rw[aL (i63 hi h1)];refine(aE (Int.ofNat_lt.2 hi)).trans ?_;refine bif_nn.trans ?_;refine(aJ hi).trans ?_
   refine(aB (f98 (gt ts i).1 (h2 i hi) n (by omega))).trans ?_;refine(aE (uD h1 i)).trans ?_;rw[← n9 hi];rfl
  ·show c222_3 (aK p n) aA ts rec ((ts.length:Int),ts.take ts.length)=_
   refine(congrArg (fun l=>c222_3 (aK p n) aA ts rec ((ts.length:Int),l)) (List.take_length (l:=ts))).trans ?_
   unfold c222_3;dsimp only;refine(aI (Int.lt_irrefl _)).trans ?_;rfl
 exact Ev.eq (fun aA=>by unfold T222;rfl) (lp.ev (i:=()) rfl)
theorem f225(l:fA)(h1:l.2.2.1.length≤aU)(h2:∀ i,i<l.2.2.1.length→SzS (gt l.2.2.1 i)):Ran p 2 225 [.val true ⟨K33,l⟩] ⟨[⟨K33,l⟩],[]⟩:=go225 fun n hn=>by
 have lp:It (fun aA (_:Unit)=>c225_3 (aK p n) aA l) ((0:Int),([]:List aH)) (fun _=>some ⟨[⟨K33,l⟩],[]⟩):=by
  refine It.run (fun i=>((i:Int),l.2.2.1.take i)) l.2.2.1.length (fun i hi aA u rec=>?_) (It.stop fun aA u rec=>?_)
  ·show c225_3 (aK p n) aA l rec ((i:Int),l.2.2.1.take i)=rec (((i+1:Nat):Int),l.2.2.1.take (i+1))
   unfold c225_3;dsimp only;rw[aL (i63 hi h1)];refine(aE (Int.ofNat_lt.2 hi)).trans ?_;refine bif_nn.trans ?_;refine(aJ hi).trans ?_
   refine(aB (f224 (gt l.2.2.1 i) (h2 i hi) n (by omega))).trans ?_;refine(aE (uD h1 i)).trans ?_;rw[← n9 hi];rfl
  ·show c225_3 (aK p n) aA l rec ((l.2.2.1.length:Int),l.2.2.1.take l.2.2.1.length)=_
   refine(congrArg (fun q=>c225_3 (aK p n) aA l rec ((l.2.2.1.length:Int),q)) (List.take_length (l:=l.2.2.1))).trans ?_
   unfold c225_3;dsimp only;refine(aI (Int.lt_irrefl _)).trans ?_;rfl
 exact Ev.eq (fun aA=>by unfold T225;rfl) (lp.ev (i:=()) rfl)
theorem f221(l:fA)(h1:l.2.2.1.length≤aU)(h2:∀ i,i<l.2.2.1.length→SzS (gt l.2.2.1 i)):Ran p 2 221 [.val true ⟨K33,l⟩] ⟨[⟨K33,l⟩],[]⟩:=go221 fun n hn=>by
 have lp:It (fun aA (_:Unit)=>c221_3 (aK p n) aA l) ((0:Int),([]:List aH)) (fun _=>some ⟨[⟨K33,l⟩],[]⟩):=by
  refine It.run (fun i=>((i:Int),l.2.2.1.take i)) l.2.2.1.length (fun i hi aA u rec=>?_) (It.stop fun aA u rec=>?_)
  ·show c221_3 (aK p n) aA l rec ((i:Int),l.2.2.1.take i)=rec (((i+1:Nat):Int),l.2.2.1.take (i+1))
   unfold c221_3;dsimp only;rw[aL (i63 hi h1)];refine(aE (Int.ofNat_lt.2 hi)).trans ?_;refine bif_nn.trans ?_;refine(aJ hi).trans ?_
   refine(aB (f220 (gt l.2.2.1 i) (h2 i hi) n (by omega))).trans ?_;refine(aE (uD h1 i)).trans ?_;rw[← n9 hi];rfl
  ·show c221_3 (aK p n) aA l rec ((l.2.2.1.length:Int),l.2.2.1.take l.2.2.1.length)=_
   refine(congrArg (fun q=>c221_3 (aK p n) aA l rec ((l.2.2.1.length:Int),q)) (List.take_length (l:=l.2.2.1))).trans ?_
   unfold c221_3;dsimp only;refine(aI (Int.lt_irrefl _)).trans ?_;rfl
 exact Ev.eq (fun aA=>by unfold T221;rfl) (lp.ev (i:=()) rfl)
theorem f85(x:NodeT)(hz:SzN x):Ran p 3 85 [.val true ⟨K38,x⟩] ⟨[⟨K38,x⟩],[]⟩:=go85 fun n hn=>Ev.now fun aA=>by
 show T85 (aK p n) aA x=some ⟨[⟨K38,x⟩],[]⟩
 unfold T85
 refine(aB (f224 x.state hz.state n (by omega))).trans ?_
 refine(aB (f90 x.tree hz.leaves n (by omega))).trans ?_
 refine(aB (f225 x.log hz.list hz.logs n (by omega))).trans ?_
 refine(aE (gJ hz.got)).trans ?_;refine(aE (gJ hz.acked)).trans ?_
 refine(aB (f226 x.seen hz.seen hz.lines n (by omega))).trans ?_
 refine(aE (gJ hz.sess)).trans ?_;refine(aE (gJ hz.rises)).trans ?_
 rfl
theorem f81(x:NodeT)(hz:SzN x):Ran p 3 81 [.val true ⟨K38,x⟩] ⟨[⟨K38,x⟩],[]⟩:=go81 fun n hn=>Ev.now fun aA=>by
 show T81 (aK p n) aA x=some ⟨[⟨K38,x⟩],[]⟩
 unfold T81
 refine(aB (f220 x.state hz.state n (by omega))).trans ?_
 refine(aB (f84 x.tree hz.leaves n (by omega))).trans ?_
 refine(aB (f221 x.log hz.list hz.logs n (by omega))).trans ?_
 refine(aB (f98 x.got hz.got n (by omega))).trans ?_
 refine(aB (f98 x.acked hz.acked n (by omega))).trans ?_
 refine(aB (f222 x.seen hz.seen hz.lines n (by omega))).trans ?_
 refine(aE (gJ hz.sess)).trans ?_;refine(aE (gJ hz.rises)).trans ?_
 rfl
structure SzX (w:gX):Prop extends SzW w where
 bytes:∀ i,i<w.2.1.length→(gt w.2.1 i).2.1.length≤aU
end Go.Abs.Xz
