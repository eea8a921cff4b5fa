/- What the functions of this program answer, part h. -/
import Derived.Test.YtmamlgjbendjhaaGreatXf
import Derived.Test.YtmamlgjbendjhaaGreatW2
set_option linter.unusedVariables false
namespace Go.Abs.Xz
open Go Go.Abs
theorem f385(s:aH)(hz:SzS s):Ran p 4 385 [.val true ⟨K27,s⟩] ⟨[⟨K24,(oZ s,())⟩],[]⟩:=go385 fun n hn=>by
 cases hs:aO s with
 | false=>
  refine Ev.now fun aA=>?_
  unfold T385 oZ;refine(aB (f227 s (aP hz.a) (aP hz.b) n (by omega))).trans ?_;rw[hs];rfl
 | true=>
  have lp:It (fun aA (_:Unit)=>c385_5 (aK p n) aA s) ((0:Int),([]:List bM)) (fun _=>some ⟨[⟨K24,(s.1.filter (fun x:bM=>x.2.2.1==0),())⟩],[]⟩):=by
   refine It.accu (α:=bM) [] (fun i=>bif(gt s.1 i).2.2.1==0 then[gt s.1 i] else[]) s.1.length 1 (fun i hi=>by cases (gt s.1 i).2.2.1==0<;>simp) (fun i hi acc ha aA a rec=>?_) (It.stop fun aA a rec=>?_)
   ·have hb:=cL hi hz.a
    have hl:s.1.length≤1048576:=hz.a
    show c385_5 (aK p n) aA s rec ((i:Int),acc)=_
    unfold c385_5;dsimp only;rw[aL hb];refine(aE (Int.ofNat_lt.2 hi)).trans ?_;refine bif_nn.trans ?_;refine(aJ hi).trans ?_
    cases hq:(gt s.1 i).2.2.1==0 with
    | false=>refine(aF rfl).trans ?_;exact(congrArg (fun l:List bM=>rec (((i+1:Nat):Int),l)) (List.append_nil acc).symm:_)
    | true=>refine(aN rfl).trans ?_;refine bif_nn.trans ?_;refine(aJ hi).trans ?_;refine(aE (by rw[hq] at ha;have:acc.length+1≤0+s.1.length*1:=ha;show acc.length+1≤4294967296;omega)).trans ?_;rfl
   ·show c385_5 (aK p n) aA s rec ((s.1.length:Int),bH (α:=bM) s.1.length (fun i=>bif(gt s.1 i).2.2.1==0 then[gt s.1 i] else[]))=_
    unfold c385_5;refine(aI (Int.lt_irrefl _)).trans ?_;exact congrArg (fun l:List bM=>(some ⟨[⟨K24,(l,())⟩],[]⟩:Option Out)) ((c5 (fun x:bM=>bif x.2.2.1==0 then[x] else[]) s.1).trans (gZ _ _))
  have e:oZ s=s.1.filter (fun x:bM=>x.2.2.1==0):=by unfold oZ;rw[hs];rfl
  rw[e]
  exact Ev.eq (fun aA=>by unfold T385;refine(aB (f227 s (aP hz.a) (aP hz.b) n (by omega))).trans ?_;rw[hs];rfl) (lp.ev (i:=()) rfl)
theorem f262(a b:List bM)(ha:a.length≤maxLen):Ran p 1 262 [.val false ⟨K24,(a,())⟩, .val false ⟨K24,(b,())⟩] ⟨[⟨K4,(iV a b,())⟩],[]⟩:=go262 fun n hn=>by
 have lp:∃ N,∀ aA,N≤aA→(((a.length:Nat):Int)==((b.length:Nat):Int))=true→iter (c262_4 (aK p n) aA a b) aA (0:Int)=oB (bI a.length fun i=>nV (gt a i) (gt b i)):=by
  cases he:((a.length:Nat):Int)==((b.length:Nat):Int)with
  | false=>exact⟨0,fun _ _ h=>by cases h⟩
  | true=>
   have e:a.length=b.length:=by have:=eq_of_beq he;omega
   have lp:It (fun aA (_:Unit)=>c262_4 (aK p n) aA a b) (0:Int) (fun _=>oB (bI a.length fun i=>nV (gt a i) (gt b i))):=by
    refine bZ (It.allB a.length _ true (fun i hi aA a' rec=>?_) (It.stop fun aA a' rec=>?_))
    ·have hb:i<9223372036854775807:=Nat.lt_of_lt_of_le hi ha
     show c262_4 (aK p n) aA a b rec (i:Int)=_
     unfold c262_4;rw[aL hb];refine(aE (Int.ofNat_lt.2 hi)).trans ?_;refine bif_nn.trans ?_;refine(aJ hi).trans ?_;refine bif_nn.trans ?_;refine(aJ (show i<b.length by omega)).trans ?_;exact fin
    ·show c262_4 (aK p n) aA a b rec (a.length:Int)=_
     unfold c262_4;refine(aI (Int.lt_irrefl _)).trans ?_;rfl
   obtain⟨N,hN⟩:=lp.all_i
   exact⟨N,fun aA hf _=>hN aA hf ()⟩
 obtain⟨N,hN⟩:=lp
 refine⟨N,fun aA hf=>?_⟩
 show T262 (aK p n) aA a b=oB (iV a b)
 unfold T262 iV;refine cQ fun h=>?_;exact hN aA hf h
theorem f25(a b:aH)(ha:SzS a):Ran p 1 25 [.val true ⟨K27,a⟩, .val true ⟨K27,b⟩] ⟨[⟨K4,(dJ a b,())⟩],[]⟩:=go25 fun n hn=>by
 have fl:∃ N,∀ aA,N≤aA→(((a.2.1.length:Nat):Int)==((b.2.1.length:Nat):Int))=true→iter (c25_9 (aK p n) aA a b) aA (0:Int)=oB (bI a.2.1.length fun i=>jA (gt a.2.1 i) (gt b.2.1 i)):=by
  cases he:((a.2.1.length:Nat):Int)==((b.2.1.length:Nat):Int)with
  | false=>exact⟨0,fun _ _ h=>by cases h⟩
  | true=>
   have e:a.2.1.length=b.2.1.length:=by have:=eq_of_beq he;omega
   have lp:It (fun aA (_:Unit)=>c25_9 (aK p n) aA a b) (0:Int) (fun _=>oB (bI a.2.1.length fun i=>jA (gt a.2.1 i) (gt b.2.1 i))):=by
    refine bZ (It.allB a.2.1.length _ true (fun i hi aA a' rec=>?_) (It.stop fun aA a' rec=>?_))
    ·have hb:=cL hi ha.b
     show c25_9 (aK p n) aA a b rec (i:Int)=_
     unfold c25_9;rw[aL hb];refine(aE (Int.ofNat_lt.2 hi)).trans ?_;refine bif_nn.trans ?_;refine(aJ hi).trans ?_;refine bif_nn.trans ?_;refine(aJ (show i<b.2.1.length by omega)).trans ?_;exact fin
    ·show c25_9 (aK p n) aA a b rec (a.2.1.length:Int)=_
     unfold c25_9;refine(aI (Int.lt_irrefl _)).trans ?_;rfl
   obtain⟨N,hN⟩:=lp.all_i
   exact⟨N,fun aA hf _=>hN aA hf ()⟩
 have it:∃ N,∀ aA,N≤aA→(((a.1.length:Nat):Int)==((b.1.length:Nat):Int))=true→(((a.2.1.length:Nat):Int)==((b.2.1.length:Nat):Int))=true→iter (c25_4 (aK p n) aA a b) aA (0:Int)=oB (bI a.1.length (fun i=>nV (gt a.1 i) (gt b.1 i))&&bI a.2.1.length fun i=>jA (gt a.2.1 i) (gt b.2.1 i)):=by
  cases he:((a.1.length:Nat):Int)==((b.1.length:Nat):Int)with
  | false=>exact⟨0,fun _ _ h=>by cases h⟩
  | true=>
   cases he2:((a.2.1.length:Nat):Int)==((b.2.1.length:Nat):Int)with
   | false=>exact⟨0,fun _ _ _ h=>by cases h⟩
   | true=>
    have e:a.1.length=b.1.length:=by have:=eq_of_beq he;omega
    obtain⟨M,hM⟩:=fl
    have lp:It (fun aA (_:Unit)=>c25_4 (aK p n) aA a b) (0:Int) (fun _=>oB (bI a.1.length (fun i=>nV (gt a.1 i) (gt b.1 i))&&bI a.2.1.length fun i=>jA (gt a.2.1 i) (gt b.2.1 i))):=by
     refine It.allB a.1.length _ _ (fun i hi aA a' rec=>?_) (It.stopE (T:=fun aA _=>iter (c25_9 (aK p n) aA a b) aA (0:Int)) (fun aA a' rec=>?_) ⟨M,fun aA hf _=>hM aA hf he2⟩)
     ·have hb:=cL hi ha.a
      show c25_4 (aK p n) aA a b rec (i:Int)=_
      unfold c25_4;rw[aL hb];refine(aE (Int.ofNat_lt.2 hi)).trans ?_;refine bif_nn.trans ?_;refine(aJ hi).trans ?_;refine bif_nn.trans ?_;refine(aJ (show i<b.1.length by omega)).trans ?_;exact fin
     ·show c25_4 (aK p n) aA a b rec (a.1.length:Int)=_
      unfold c25_4;refine(aI (Int.lt_irrefl _)).trans ?_;rfl
    obtain⟨N,hN⟩:=lp.all_i
    exact⟨N,fun aA hf _ _=>hN aA hf ()⟩
 obtain⟨N,hN⟩:=it
 refine⟨N,fun aA hf=>?_⟩
 show T25 (aK p n) aA a b=oB (dJ a b)
 unfold T25 dJ;refine cQ fun h=>?_;refine cQ fun h'=>?_;exact hN aA hf h h'
end Go.Abs.Xz
