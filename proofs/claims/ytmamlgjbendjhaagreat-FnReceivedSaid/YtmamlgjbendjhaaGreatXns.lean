/- What the functions of this program answer, part ns. -/
import Derived.Test.YtmamlgjbendjhaaGreatXgu
import Derived.Test.YtmamlgjbendjhaaGreatW3
set_option linter.unusedVariables false
namespace Go.Abs.Xz
open Go Go.Abs
theorem f92(a b:fA)(hl:a.2.2.1.length≤aU)(hr:∀ i,i<a.2.2.1.length→SzS (gt a.2.2.1 i)):Ran p 2 92 [.val true ⟨K33,a⟩, .val true ⟨K33,b⟩] ⟨[⟨K4,(v5 a b,())⟩],[]⟩:=go92 fun n hn=>by
 have lp:∃ N,∀ aA,N≤aA→gL a.2.2.1 b.2.2.1=true→iter (c92_4 (aK p n) aA a b) aA (0:Int)=oB (bI a.2.2.1.length fun i=>dJ (gt a.2.2.1 i) (gt b.2.2.1 i)):=by
  cases he:gL a.2.2.1 b.2.2.1 with
  | false=>exact⟨0,fun _ _ h=>by cases h⟩
  | true=>
   have e:=oP.1 he
   have lp:It (fun aA (_:Unit)=>c92_4 (aK p n) aA a b) (0:Int) (fun _=>oB (bI a.2.2.1.length fun i=>dJ (gt a.2.2.1 i) (gt b.2.2.1 i))):=by
    refine bZ (It.allB a.2.2.1.length _ true (fun i hi aA a' rec=>?_) (It.stop fun aA a' rec=>?_))
    ·have hb:=cL hi hl
     have hi':i<b.2.2.1.length:=by omega
     show c92_4 (aK p n) aA a b rec (i:Int)=_
     unfold c92_4;rw[aL hb];refine(aE (Int.ofNat_lt.2 hi)).trans ?_;refine bif_nn.trans ?_;refine(aJ hi).trans ?_;refine bif_nn.trans ?_;refine(aJ hi').trans ?_;refine(aB (f25 (gt a.2.2.1 i) (gt b.2.2.1 i) (hr i hi) n (by omega))).trans ?_;exact fin
    ·show c92_4 (aK p n) aA a b rec (a.2.2.1.length:Int)=_
     unfold c92_4;refine(aI (Int.lt_irrefl _)).trans ?_;rfl
   obtain⟨N,hN⟩:=lp.all_i
   exact⟨N,fun aA hf _=>hN aA hf ()⟩
 obtain⟨N,hN⟩:=lp
 refine⟨N,fun aA hf=>?_⟩
 show T92 (aK p n) aA a b=oB (v5 a b)
 unfold T92 v5 nE;refine cQ fun _=>?_;refine cQ fun _=>?_;refine cQ fun h=>?_;exact hN aA hf h
theorem f19(a b:NodeT)(hz:SzN a):Ran p 3 19 [.val true ⟨K38,a⟩, .val true ⟨K38,b⟩] ⟨[⟨K4,(vT a b,())⟩],[]⟩:=go19 fun n hn=>by
 rw[← IC]
 have ri:∃ N,∀ aA,N≤aA→gL a.rises b.rises=true→iter (c19_16 (aK p n) aA a b) aA (0:Int)=oB (bI a.rises.length fun i=>kY (gt a.rises i) (gt b.rises i)):=by
  cases he:gL a.rises b.rises with
  | false=>exact⟨0,fun _ _ h=>by cases h⟩
  | true=>
   have e:=oP.1 he
   have lp:It (fun aA (_:Unit)=>c19_16 (aK p n) aA a b) (0:Int) (fun _=>oB (bI a.rises.length fun i=>kY (gt a.rises i) (gt b.rises i))):=by
    refine bZ (It.allB a.rises.length _ true (fun i hi aA a' rec=>?_) (It.stop fun aA a' rec=>?_))
    ·have hb:=cL hi hz.rises
     have hi':i<b.rises.length:=by omega
     show c19_16 (aK p n) aA a b rec (i:Int)=_
     unfold c19_16;rw[aL hb];refine(aE (Int.ofNat_lt.2 hi)).trans ?_;refine bif_nn.trans ?_;refine(aJ hi).trans ?_;refine bif_nn.trans ?_;refine(aJ hi').trans ?_;exact fin
    ·show c19_16 (aK p n) aA a b rec (a.rises.length:Int)=_
     unfold c19_16;refine(aI (Int.lt_irrefl _)).trans ?_;rfl
   obtain⟨N,hN⟩:=lp.all_i
   exact⟨N,fun aA hf _=>hN aA hf ()⟩
 obtain⟨M,hM⟩:=ri
 have se:∃ N,∀ aA,N≤aA→gL a.sess b.sess=true→gL a.rises b.rises=true→iter (c19_11 (aK p n) aA a b) aA (0:Int)=oB (bI a.sess.length (fun i=>nU (gt a.sess i) (gt b.sess i))&&bI a.rises.length fun i=>kY (gt a.rises i) (gt b.rises i)):=by
  cases he:gL a.sess b.sess with
  | false=>exact⟨0,fun _ _ h=>by cases h⟩
  | true=>cases he2:gL a.rises b.rises with
   | false=>exact⟨0,fun _ _ _ h=>by cases h⟩
   | true=>
    have e:=oP.1 he
    have lp:It (fun aA (_:Unit)=>c19_11 (aK p n) aA a b) (0:Int) (fun _=>oB (bI a.sess.length (fun i=>nU (gt a.sess i) (gt b.sess i))&&bI a.rises.length fun i=>kY (gt a.rises i) (gt b.rises i))):=by
     refine It.allB a.sess.length _ _ (fun i hi aA a' rec=>?_) (It.stopE (T:=fun aA _=>iter (c19_16 (aK p n) aA a b) aA (0:Int)) (fun aA a' rec=>?_) ⟨M,fun aA hf _=>hM aA hf he2⟩)
     ·have hb:=cL hi hz.sess
      have hi':i<b.sess.length:=by omega
      show c19_11 (aK p n) aA a b rec (i:Int)=_
      unfold c19_11;rw[aL hb];refine(aE (Int.ofNat_lt.2 hi)).trans ?_;refine bif_nn.trans ?_;refine(aJ hi).trans ?_;refine bif_nn.trans ?_;refine(aJ hi').trans ?_;exact fin
     ·show c19_11 (aK p n) aA a b rec (a.sess.length:Int)=_
      unfold c19_11;refine(aI (Int.lt_irrefl _)).trans ?_;rfl
    obtain⟨N,hN⟩:=lp.all_i
    exact⟨N,fun aA hf _ _=>hN aA hf ()⟩
 obtain⟨M',hM'⟩:=se
 have ro:∃ N,∀ aA,N≤aA→gL a.seen b.seen=true→gL a.sess b.sess=true→gL a.rises b.rises=true→iter (c19_6 (aK p n) aA a b) aA (0:Int)=oB (bI a.seen.length (fun i=>sG (gt a.seen i) (gt b.seen i))&&(bI a.sess.length (fun i=>nU (gt a.sess i) (gt b.sess i))&&bI a.rises.length fun i=>kY (gt a.rises i) (gt b.rises i))):=by
  cases he:gL a.seen b.seen with
  | false=>exact⟨0,fun _ _ h=>by cases h⟩
  | true=>cases he2:gL a.sess b.sess with
   | false=>exact⟨0,fun _ _ _ h=>by cases h⟩
   | true=>cases he3:gL a.rises b.rises with
    | false=>exact⟨0,fun _ _ _ _ h=>by cases h⟩
    | true=>
     have e:=oP.1 he
     have lp:It (fun aA (_:Unit)=>c19_6 (aK p n) aA a b) (0:Int) (fun _=>oB (bI a.seen.length (fun i=>sG (gt a.seen i) (gt b.seen i))&&(bI a.sess.length (fun i=>nU (gt a.sess i) (gt b.sess i))&&bI a.rises.length fun i=>kY (gt a.rises i) (gt b.rises i)))):=by
      refine It.allB a.seen.length _ _ (fun i hi aA a' rec=>?_) (It.stopE (T:=fun aA _=>iter (c19_11 (aK p n) aA a b) aA (0:Int)) (fun aA a' rec=>?_) ⟨M',fun aA hf _=>hM' aA hf he2 he3⟩)
      ·have hb:=cL hi hz.seen
       have hi':i<b.seen.length:=by omega
       show c19_6 (aK p n) aA a b rec (i:Int)=_
       unfold c19_6 sG;rw[aL hb];refine(aE (Int.ofNat_lt.2 hi)).trans ?_;refine bif_nn.trans ?_;refine(aJ hi).trans ?_;refine bif_nn.trans ?_;refine(aJ hi').trans ?_;refine(aB (f93 (gt a.seen i).1 (gt b.seen i).1 (aP (hz.lines i hi)) n (by omega))).trans ?_;exact fin
      ·show c19_6 (aK p n) aA a b rec (a.seen.length:Int)=_
       unfold c19_6;refine(aI (Int.lt_irrefl _)).trans ?_;rfl
     obtain⟨N,hN⟩:=lp.all_i
     exact⟨N,fun aA hf _ _ _=>hN aA hf ()⟩
 obtain⟨N,hN⟩:=ro
 refine⟨N,fun aA hf=>?_⟩
 show T19 (aK p n) aA a b=oB (uN a b)
 unfold T19 uN;refine cQ fun _=>?_;refine cQ fun _=>?_;refine(aB (f25 a.state b.state hz.state n (by omega))).trans ?_;refine cQ fun _=>?_;refine(aB (f91 a.tree b.tree (aP hz.leaves) n (by omega))).trans ?_;refine cQ fun _=>?_;refine(aB (f92 a.log b.log hz.list hz.logs n (by omega))).trans ?_;refine cQ fun _=>?_;refine(aB (f93 a.got b.got (aP hz.got) n (by omega))).trans ?_;refine cQ fun _=>?_;refine(aB (f93 a.acked b.acked (aP hz.acked) n (by omega))).trans ?_;refine cQ fun _=>?_
 refine cQ fun h1=>?_;refine cQ fun _=>?_;refine cQ fun _=>?_;refine cQ fun _=>?_;refine cQ fun _=>?_;refine cQ fun _=>?_;refine cQ fun h2=>?_;refine cQ fun h3=>?_;exact hN aA hf h1 h2 h3
end Go.Abs.Xz
