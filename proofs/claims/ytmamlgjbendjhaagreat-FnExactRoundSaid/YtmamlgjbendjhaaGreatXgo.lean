/- What the functions of this program answer, part go. -/
import Derived.Test.YtmamlgjbendjhaaGreatXgn
set_option linter.unusedVariables false
namespace Go.Abs.Xz
open Go Go.Abs
theorem fK{α:Type}[Inhabited α]{xs:List α}{i:Nat}(h:i<xs.length):xs.take i++[gt xs i]=xs.take (i+1):=by
 rw[eX h];exact List.take_append_getElem h
theorem fY{α β:Type}{xs:List β}(h:xs.length≤aX):List.length ([]:List α)+xs.length≤bound:=by
 show 0+xs.length≤bound;unfold aX at h;unfold bound;omega
theorem jD{α:Type}{xs:List α}(h:xs.length≤aX)(i:Nat):(xs.take i).length+1≤bound:=by
 rw[List.length_take];unfold aX at h;unfold bound;omega
theorem i63{i k:Nat}(h:i<k)(hk:k≤aX):i<9223372036854775807:=by unfold aX at hk;omega
theorem f224(s:aM)(hz:SzS s):Ran p 1 224 [va K27 s] (rO K27 s):=go224 fun n hn=>Ev.now fun aA=>by
 show T224 (aG p n) aA s=rV K27 s
 unfold T224;refine(aE (fY hz.a)).trans ?_;refine(aE (fY hz.b)).trans ?_;rfl
theorem f220(s:aM)(hz:SzS s):Ran p 1 220 [va K27 s] (rO K27 s):=go220 fun n hn=>Ev.now fun aA=>by
 show T220 (aG p n) aA s=rV K27 s
 unfold T220;refine(aE (fY hz.a)).trans ?_;refine(aE (fY hz.b)).trans ?_;rfl
theorem f98(xs:List bB)(h:xs.length≤aX):Ran p 1 98 [vf K28 (xs,())] (rO K28 (xs,())):=go98 fun n hn=>Ev.now fun aA=>by
 show T98 (aG p n) aA xs=rV K28 (xs,())
 unfold T98;refine(aE (fY h)).trans ?_;rfl
theorem f90(t:jZ)(h:t.1.length≤aX):Ran p 1 90 [va K30 t] (rO K30 t):=go90 fun n hn=>Ev.now fun aA=>by
 show T90 (aG p n) aA t=rV K30 t
 unfold T90;refine(aE (fY h)).trans ?_;rfl
theorem f84(t:jZ)(h:t.1.length≤aX):Ran p 2 84 [va K30 t] (rO K30 t):=go84 fun n hn=>Ev.now fun aA=>by
 show T84 (aG p n) aA t=rV K30 t
 unfold T84;refine(aC (f98 t.1 h n (by omega))).trans ?_;rfl
theorem f226(ts:List cV)(h1:ts.length≤aX)(h2:∀ i,i<ts.length→(gt ts i).1.length≤aX):Ran p 1 226 [vf K34 (ts,())] (rO K34 (ts,())):=go226 fun n hn=>by
 have lp:It (fun aA (_:Unit)=>c226_3 (aG p n) aA ts) ((0:Int),([]:List cV)) (fun _=>rV K34 (ts,())):=by
  refine It.run (fun i=>((i:Int),ts.take i)) ts.length (fun i hi aA u rec=>?_) (It.stop fun aA u rec=>?_)
  ·show c226_3 (aG p n) aA ts rec ((i:Int),ts.take i)=rec (((i+1:Nat):Int),ts.take (i+1))
   unfold c226_3;dsimp only;rw[aI (i63 hi h1)];refine(aE (Int.ofNat_lt.2 hi)).trans ?_;refine bif_nn.trans ?_;refine(aK hi).trans ?_
   refine(aE (fY (h2 i hi))).trans ?_;refine(aE (jD h1 i)).trans ?_;rw[← fK hi];rfl
  ·show c226_3 (aG p n) aA ts rec ((ts.length:Int),ts.take ts.length)=_
   refine(congrArg (fun l=>c226_3 (aG p n) aA ts rec ((ts.length:Int),l)) (List.take_length (l:=ts))).trans ?_
   unfold c226_3;dsimp only;refine(aF (Int.lt_irrefl _)).trans ?_;rfl
 exact Ev.eq (fun aA=>by unfold T226;rfl) (lp.ev (i:=()) rfl)
theorem f222(ts:List cV)(h1:ts.length≤aX)(h2:∀ i,i<ts.length→(gt ts i).1.length≤aX):Ran p 2 222 [vf K34 (ts,())] (rO K34 (ts,())):=go222 fun n hn=>by
 have lp:It (fun aA (_:Unit)=>c222_3 (aG p n) aA ts) ((0:Int),([]:List cV)) (fun _=>rV K34 (ts,())):=by
  refine It.run (fun i=>((i:Int),ts.take i)) ts.length (fun i hi aA u rec=>?_) (It.stop fun aA u rec=>?_)
  ·show c222_3 (aG p n) aA ts rec ((i:Int),ts.take i)=rec (((i+1:Nat):Int),ts.take (i+1))
   unfold c222_3;dsimp only;rw[aI (i63 hi h1)];refine(aE (Int.ofNat_lt.2 hi)).trans ?_;refine bif_nn.trans ?_;refine(aK hi).trans ?_
   refine(aC (f98 (gt ts i).1 (h2 i hi) n (by omega))).trans ?_;refine(aE (jD h1 i)).trans ?_;rw[← fK hi];rfl
  ·show c222_3 (aG p n) aA ts rec ((ts.length:Int),ts.take ts.length)=_
   refine(congrArg (fun l=>c222_3 (aG p n) aA ts rec ((ts.length:Int),l)) (List.take_length (l:=ts))).trans ?_
   unfold c222_3;dsimp only;refine(aF (Int.lt_irrefl _)).trans ?_;rfl
 exact Ev.eq (fun aA=>by unfold T222;rfl) (lp.ev (i:=()) rfl)
theorem f225(l:lV)(h1:l.2.2.1.length≤aX)(h2:∀ i,i<l.2.2.1.length→SzS (gt l.2.2.1 i)):Ran p 2 225 [va K33 l] (rO K33 l):=go225 fun n hn=>by
 have lp:It (fun aA (_:Unit)=>c225_3 (aG p n) aA l) ((0:Int),([]:List aM)) (fun _=>rV K33 l):=by
  refine It.run (fun i=>((i:Int),l.2.2.1.take i)) l.2.2.1.length (fun i hi aA u rec=>?_) (It.stop fun aA u rec=>?_)
  ·show c225_3 (aG p n) aA l rec ((i:Int),l.2.2.1.take i)=rec (((i+1:Nat):Int),l.2.2.1.take (i+1))
   unfold c225_3;dsimp only;rw[aI (i63 hi h1)];refine(aE (Int.ofNat_lt.2 hi)).trans ?_;refine bif_nn.trans ?_;refine(aK hi).trans ?_
   refine(aC (f224 (gt l.2.2.1 i) (h2 i hi) n (by omega))).trans ?_;refine(aE (jD h1 i)).trans ?_;rw[← fK hi];rfl
  ·show c225_3 (aG p n) aA l rec ((l.2.2.1.length:Int),l.2.2.1.take l.2.2.1.length)=_
   refine(congrArg (fun q=>c225_3 (aG p n) aA l rec ((l.2.2.1.length:Int),q)) (List.take_length (l:=l.2.2.1))).trans ?_
   unfold c225_3;dsimp only;refine(aF (Int.lt_irrefl _)).trans ?_;rfl
 exact Ev.eq (fun aA=>by unfold T225;rfl) (lp.ev (i:=()) rfl)
theorem f221(l:lV)(h1:l.2.2.1.length≤aX)(h2:∀ i,i<l.2.2.1.length→SzS (gt l.2.2.1 i)):Ran p 2 221 [va K33 l] (rO K33 l):=go221 fun n hn=>by
 have lp:It (fun aA (_:Unit)=>c221_3 (aG p n) aA l) ((0:Int),([]:List aM)) (fun _=>rV K33 l):=by
  refine It.run (fun i=>((i:Int),l.2.2.1.take i)) l.2.2.1.length (fun i hi aA u rec=>?_) (It.stop fun aA u rec=>?_)
  ·show c221_3 (aG p n) aA l rec ((i:Int),l.2.2.1.take i)=rec (((i+1:Nat):Int),l.2.2.1.take (i+1))
   unfold c221_3;dsimp only;rw[aI (i63 hi h1)];refine(aE (Int.ofNat_lt.2 hi)).trans ?_;refine bif_nn.trans ?_;refine(aK hi).trans ?_
   refine(aC (f220 (gt l.2.2.1 i) (h2 i hi) n (by omega))).trans ?_;refine(aE (jD h1 i)).trans ?_;rw[← fK hi];rfl
  ·show c221_3 (aG p n) aA l rec ((l.2.2.1.length:Int),l.2.2.1.take l.2.2.1.length)=_
   refine(congrArg (fun q=>c221_3 (aG p n) aA l rec ((l.2.2.1.length:Int),q)) (List.take_length (l:=l.2.2.1))).trans ?_
   unfold c221_3;dsimp only;refine(aF (Int.lt_irrefl _)).trans ?_;rfl
 exact Ev.eq (fun aA=>by unfold T221;rfl) (lp.ev (i:=()) rfl)
theorem f146(k:m4)(h:k.2.1.length≤aX):Ran p 1 146 [va K195 k] (rO K195 k):=go146 fun n hn=>Ev.now fun aA=>by
 show T146 (aG p n) aA k=rV K195 k
 unfold T146;refine(aE (fY h)).trans ?_;rfl
theorem f277(k:m4)(h:k.2.1.length≤aX):Ran p 2 277 [va K195 k] (rO K195 k):=go277 fun n hn=>Ev.now fun aA=>by
 show T277 (aG p n) aA k=rV K195 k
 have hb:k.2.1.length≤bound:=by unfold aX at h;unfold bound;omega
 unfold T277;refine(aC (f137 [(k.2.1,())] k.2.1.length (fun i hi=>by
  have:i=0:=by simpa using hi
  subst this;exact Nat.le_refl _) (by simpa using hb) (show 1≤maxLen by decide) n (by omega))).trans ?_
 have e:([(k.2.1,())]:List cV).flatMap (fun r=>r.1)=k.2.1:=by simp
 exact congrArg (fun l:List bB=>(rV K195 ((k.1,l,k.2.2.1,()):m4):Option Out)) e
theorem f85(x:NodeT)(hz:SzN x):Ran p 3 85 [va K38 x] (rO K38 x):=go85 fun n hn=>Ev.now fun aA=>by
 show T85 (aG p n) aA x=rV K38 x
 unfold T85
 refine(aC (f224 x.state hz.state n (by omega))).trans ?_
 refine(aC (f90 x.tree hz.leaves n (by omega))).trans ?_
 refine(aC (f225 x.log hz.list hz.logs n (by omega))).trans ?_
 refine(aE (fY hz.got)).trans ?_;refine(aE (fY hz.acked)).trans ?_
 refine(aC (f226 x.seen hz.seen hz.lines n (by omega))).trans ?_
 refine(aE (fY hz.sess)).trans ?_;refine(aE (fY hz.rises)).trans ?_
 rfl
theorem f81(x:NodeT)(hz:SzN x):Ran p 3 81 [va K38 x] (rO K38 x):=go81 fun n hn=>Ev.now fun aA=>by
 show T81 (aG p n) aA x=rV K38 x
 unfold T81
 refine(aC (f220 x.state hz.state n (by omega))).trans ?_
 refine(aC (f84 x.tree hz.leaves n (by omega))).trans ?_
 refine(aC (f221 x.log hz.list hz.logs n (by omega))).trans ?_
 refine(aC (f98 x.got hz.got n (by omega))).trans ?_
 refine(aC (f98 x.acked hz.acked n (by omega))).trans ?_
 refine(aC (f222 x.seen hz.seen hz.lines n (by omega))).trans ?_
 refine(aE (fY hz.sess)).trans ?_;refine(aE (fY hz.rises)).trans ?_
 rfl
structure SzX (w:aW):Prop extends SzW w where
 bytes:∀ i,i<w.2.1.length→(gt w.2.1 i).2.1.length≤aX
theorem f144(w:aW)(hz:SzX w):Ran p 4 144 [va K78 w] (rO K78 w):=go144 fun n hn=>by
 have said:It (fun aA (_:Unit)=>c144_11 (aG p n) aA w w.1 w.2.1) ((0:Int),([]:List qZ)) (fun _=>rV K78 w):=by
  refine It.run (fun i=>((i:Int),w.2.2.1.take i)) w.2.2.1.length (fun i hi aA u rec=>?_) (It.stop fun aA u rec=>?_)
  ·show c144_11 (aG p n) aA w w.1 w.2.1 rec ((i:Int),w.2.2.1.take i)=rec (((i+1:Nat):Int),w.2.2.1.take (i+1))
   unfold c144_11;dsimp only;rw[aI (i63 hi hz.said)];refine(aE (Int.ofNat_lt.2 hi)).trans ?_;refine bif_nn.trans ?_;refine(aK hi).trans ?_
   refine bif_nn.trans ?_;refine(aK hi).trans ?_
   refine(aC (f224 (gt w.2.2.1 i).2 (hz.part i hi) n (by omega))).trans ?_;refine(aE (jD hz.said i)).trans ?_;rw[← fK hi];rfl
  ·show c144_11 (aG p n) aA w w.1 w.2.1 rec ((w.2.2.1.length:Int),w.2.2.1.take w.2.2.1.length)=_
   refine(congrArg (fun l=>c144_11 (aG p n) aA w w.1 w.2.1 rec ((w.2.2.1.length:Int),l)) (List.take_length (l:=w.2.2.1))).trans ?_
   unfold c144_11;dsimp only;refine(aF (Int.lt_irrefl _)).trans ?_;rfl
 have net:It (fun aA (_:Unit)=>c144_7 (aG p n) aA w w.1) ((0:Int),([]:List m4)) (fun _=>rV K78 w):=by
  refine It.run (fun i=>((i:Int),w.2.1.take i)) w.2.1.length (fun i hi aA u rec=>?_) (It.stopE (T:=fun aA _=>iter (c144_11 (aG p n) aA w w.1 w.2.1) aA ((0:Int),([]:List qZ))) (fun aA u rec=>?_) said.all_i)
  ·show c144_7 (aG p n) aA w w.1 rec ((i:Int),w.2.1.take i)=rec (((i+1:Nat):Int),w.2.1.take (i+1))
   unfold c144_7;dsimp only;rw[aI (i63 hi hz.net)];refine(aE (Int.ofNat_lt.2 hi)).trans ?_;refine bif_nn.trans ?_;refine(aK hi).trans ?_
   refine(aC (f146 (gt w.2.1 i) (hz.bytes i hi) n (by omega))).trans ?_;refine(aE (jD hz.net i)).trans ?_;rw[← fK hi];rfl
  ·show c144_7 (aG p n) aA w w.1 rec ((w.2.1.length:Int),w.2.1.take w.2.1.length)=_
   refine(congrArg (fun l=>c144_7 (aG p n) aA w w.1 rec ((w.2.1.length:Int),l)) (List.take_length (l:=w.2.1))).trans ?_
   unfold c144_7;dsimp only;refine(aF (Int.lt_irrefl _)).trans ?_;rfl
 have nodes:It (fun aA (_:Unit)=>c144_3 (aG p n) aA w) ((0:Int),([]:List NodeT)) (fun _=>rV K78 w):=by
  refine It.run (fun i=>((i:Int),w.1.take i)) w.1.length (fun i hi aA u rec=>?_) (It.stopE (T:=fun aA _=>iter (c144_7 (aG p n) aA w w.1) aA ((0:Int),([]:List m4))) (fun aA u rec=>?_) net.all_i)
  ·show c144_3 (aG p n) aA w rec ((i:Int),w.1.take i)=rec (((i+1:Nat):Int),w.1.take (i+1))
   unfold c144_3;dsimp only;rw[aI (i63 hi hz.nodes)];refine(aE (Int.ofNat_lt.2 hi)).trans ?_;refine bif_nn.trans ?_;refine(aK hi).trans ?_
   refine(aC (f85 (gt w.1 i) (hz.node i hi) n (by omega))).trans ?_;refine(aE (jD hz.nodes i)).trans ?_;rw[← fK hi];rfl
  ·show c144_3 (aG p n) aA w rec ((w.1.length:Int),w.1.take w.1.length)=_
   refine(congrArg (fun l=>c144_3 (aG p n) aA w rec ((w.1.length:Int),l)) (List.take_length (l:=w.1))).trans ?_
   unfold c144_3;dsimp only;refine(aF (Int.lt_irrefl _)).trans ?_;rfl
 exact Ev.eq (fun aA=>by unfold T144;rfl) (nodes.ev (i:=()) rfl)
theorem f150(w:aW)(hz:SzX w):Ran p 4 150 [va K78 w] (rO K78 w):=go150 fun n hn=>by
 have said:It (fun aA (_:Unit)=>c150_13 (aG p n) aA w w.1 w.2.1) ((0:Int),([]:List qZ)) (fun _=>rV K78 w):=by
  refine It.run (fun i=>((i:Int),w.2.2.1.take i)) w.2.2.1.length (fun i hi aA u rec=>?_) (It.stop fun aA u rec=>?_)
  ·show c150_13 (aG p n) aA w w.1 w.2.1 rec ((i:Int),w.2.2.1.take i)=rec (((i+1:Nat):Int),w.2.2.1.take (i+1))
   unfold c150_13;dsimp only;rw[aI (i63 hi hz.said)];refine(aE (Int.ofNat_lt.2 hi)).trans ?_;refine bif_nn.trans ?_;refine(aK hi).trans ?_
   refine(aC (f220 (gt w.2.2.1 i).2 (hz.part i hi) n (by omega))).trans ?_;refine(aE (jD hz.said i)).trans ?_;rw[← fK hi];rfl
  ·show c150_13 (aG p n) aA w w.1 w.2.1 rec ((w.2.2.1.length:Int),w.2.2.1.take w.2.2.1.length)=_
   refine(congrArg (fun l=>c150_13 (aG p n) aA w w.1 w.2.1 rec ((w.2.2.1.length:Int),l)) (List.take_length (l:=w.2.2.1))).trans ?_
   unfold c150_13;dsimp only;refine(aF (Int.lt_irrefl _)).trans ?_;rfl
 have net:It (fun aA (_:Unit)=>c150_8 (aG p n) aA w w.1) ((0:Int),([]:List m4)) (fun _=>rV K78 w):=by
  refine It.run (fun i=>((i:Int),w.2.1.take i)) w.2.1.length (fun i hi aA u rec=>?_) (It.stopE (T:=fun aA _=>iter (c150_13 (aG p n) aA w w.1 w.2.1) aA ((0:Int),([]:List qZ))) (fun aA u rec=>?_) said.all_i)
  ·show c150_8 (aG p n) aA w w.1 rec ((i:Int),w.2.1.take i)=rec (((i+1:Nat):Int),w.2.1.take (i+1))
   unfold c150_8;dsimp only;rw[aI (i63 hi hz.net)];refine(aE (Int.ofNat_lt.2 hi)).trans ?_;refine bif_nn.trans ?_;refine(aK hi).trans ?_
   refine(aC (f277 (gt w.2.1 i) (hz.bytes i hi) n (by omega))).trans ?_;refine(aE (jD hz.net i)).trans ?_;rw[← fK hi];rfl
  ·show c150_8 (aG p n) aA w w.1 rec ((w.2.1.length:Int),w.2.1.take w.2.1.length)=_
   refine(congrArg (fun l=>c150_8 (aG p n) aA w w.1 rec ((w.2.1.length:Int),l)) (List.take_length (l:=w.2.1))).trans ?_
   unfold c150_8;dsimp only;refine(aF (Int.lt_irrefl _)).trans ?_;rfl
 have nodes:It (fun aA (_:Unit)=>c150_3 (aG p n) aA w) ((0:Int),([]:List NodeT)) (fun _=>rV K78 w):=by
  refine It.run (fun i=>((i:Int),w.1.take i)) w.1.length (fun i hi aA u rec=>?_) (It.stopE (T:=fun aA _=>iter (c150_8 (aG p n) aA w w.1) aA ((0:Int),([]:List m4))) (fun aA u rec=>?_) net.all_i)
  ·show c150_3 (aG p n) aA w rec ((i:Int),w.1.take i)=rec (((i+1:Nat):Int),w.1.take (i+1))
   unfold c150_3;dsimp only;rw[aI (i63 hi hz.nodes)];refine(aE (Int.ofNat_lt.2 hi)).trans ?_;refine bif_nn.trans ?_;refine(aK hi).trans ?_
   refine(aC (f81 (gt w.1 i) (hz.node i hi) n (by omega))).trans ?_;refine(aE (jD hz.nodes i)).trans ?_;rw[← fK hi];rfl
  ·show c150_3 (aG p n) aA w rec ((w.1.length:Int),w.1.take w.1.length)=_
   refine(congrArg (fun l=>c150_3 (aG p n) aA w rec ((w.1.length:Int),l)) (List.take_length (l:=w.1))).trans ?_
   unfold c150_3;dsimp only;refine(aF (Int.lt_irrefl _)).trans ?_;rfl
 exact Ev.eq (fun aA=>by unfold T150;rfl) (nodes.ev (i:=()) rfl)
end Go.Abs.Xz
