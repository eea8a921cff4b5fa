/- What the functions of this program answer, part de. -/
import Derived.Test.YtmamlgjbendjhaaGreatXrd
import Derived.Test.YtmamlgjbendjhaaGreatW3
set_option linter.unusedVariables false
open Go.IntKind (i64)
namespace Go.Abs.Xz
open Go Go.Abs
theorem u9(i:Int)(e:bE):∃ b:Bool,Ran p 4 373 [.val false ⟨K3,(i,())⟩, .val true ⟨K161,e⟩] ⟨[⟨K27,vO i e⟩,⟨K4,(b,())⟩],[]⟩:=by
 have hs:=f227 ([(i,e)],[],()) (by show 1≤9223372036854775807;omega) (by show 0≤9223372036854775807;omega)
 unfold vO
 cases ho:aO ([(i,e)],[],())with
 | false=>exact⟨false,go373 fun n hn=>Ev.now fun aA=>by unfold T373;refine(aB (hs n (by omega))).trans ?_;rw[ho];rfl⟩
 | true=>exact⟨true,go373 fun n hn=>Ev.now fun aA=>by unfold T373;refine(aB (hs n (by omega))).trans ?_;rw[ho];rfl⟩
theorem f379(i:Int)(e:bE):Ran p 5 379 [.val false ⟨K3,(i,())⟩, .val true ⟨K161,e⟩] ⟨[⟨K27,vO i e⟩,⟨K3,((0:Int),())⟩],[]⟩:=by
 obtain⟨b,hs⟩:=u9 i e
 exact go379 fun n hn=>Ev.now fun aA=>by unfold T379;refine(bD (hs n (by omega))).trans ?_;rfl
theorem f364(s:aH)(i:Int)(hz:SzS s):Ran p 6 364 [.val true ⟨K27,s⟩, .val false ⟨K3,(i,())⟩] ⟨[⟨K27,(oD s i).1⟩,⟨K3,((oD s i).2,())⟩],[]⟩:=go364 fun n hn=>Ev.now fun aA=>by
 unfold T364 oD;refine(aB (f227 s (aP hz.a) (aP hz.b) n (by omega))).trans ?_
 cases aO s with
 | false=>rfl
 | true=>
 refine(aF rfl).trans ?_;refine(aB (f250 i n (by omega))).trans ?_
 cases dY i with
 | false=>rfl
 | true=>
 refine(aF rfl).trans ?_;refine(bD (f378 s i hz n (by omega))).trans ?_
 cases (mA s i).2 with
 | true=>rfl
 | false=>
 refine(aF rfl).trans ?_;refine(bD (f327 s i (aP hz.a) n (by omega))).trans ?_;refine(aB (f313 s i (aP hz.b) n (by omega))).trans ?_;refine(aB (f248 (bC s i).1.1 (cI s.2.1 i) n (by omega))).trans ?_
 cases h:rD s i==1000 with
 | true=>(first | refine(aN h).trans ?_ | refine(aN rfl).trans ?_);rfl
 | false=>(first | refine(aF h).trans ?_ | refine(aF rfl).trans ?_);refine(bD (f379 i (i64.wrap (rD s i+1),0,0,0,⟨#[]⟩,()) n (by omega))).trans ?_;rfl
theorem f380(s:aH)(i:Int)(hz:SzS s):Ran p 6 380 [.val true ⟨K27,s⟩, .val false ⟨K3,(i,())⟩] ⟨[⟨K161,(upE s i).1⟩,⟨K3,((upE s i).2,())⟩],[]⟩:=go380 fun n hn=>Ev.now fun aA=>by
 unfold T380 upE;refine(aB (f227 s (aP hz.a) (aP hz.b) n (by omega))).trans ?_
 cases aO s with
 | false=>rfl
 | true=>
 refine(aF rfl).trans ?_;refine(aB (f250 i n (by omega))).trans ?_
 cases dY i with
 | false=>rfl
 | true=>
 refine(aF rfl).trans ?_;refine(bD (f378 s i hz n (by omega))).trans ?_
 cases (mA s i).2<;>rfl
theorem f365(s:aH)(i:Int)(hz:SzS s):Ran p 7 365 [.val true ⟨K27,s⟩, .val false ⟨K3,(i,())⟩] ⟨[⟨K27,(oG s i).1⟩,⟨K3,((oG s i).2,())⟩],[]⟩:=go365 fun n hn=>Ev.now fun aA=>by
 unfold T365 oG;refine(bD (f380 s i hz n (by omega))).trans ?_
 cases h:(upE s i).2 != 0 with
 | true=>(first | refine(aN h).trans ?_ | refine(aN rfl).trans ?_);rfl
 | false=>
 (first | refine(aF h).trans ?_ | refine(aF rfl).trans ?_)
 cases h2:(upE s i).1.2.2.1==100000 with
 | true=>(first | refine(aN h2).trans ?_ | refine(aN rfl).trans ?_);rfl
 | false=>(first | refine(aF h2).trans ?_ | refine(aF rfl).trans ?_);refine(bD (f379 i ((upE s i).1.1,(upE s i).1.2.1,i64.wrap ((upE s i).1.2.2.1+1),(upE s i).1.2.2.2.1,(upE s i).1.2.2.2.2.1,()) n (by omega))).trans ?_;rfl
theorem f366(s:aH)(i:Int)(t:ByteArray)(hz:SzS s):Ran p 7 366 [.val true ⟨K27,s⟩, .val false ⟨K3,(i,())⟩, .val false ⟨K9,(t,())⟩] ⟨[⟨K27,(rY s i t).1⟩,⟨K3,((rY s i t).2,())⟩],[]⟩:=go366 fun n hn=>Ev.now fun aA=>by
 unfold T366 rY;refine(bD (f380 s i hz n (by omega))).trans ?_
 cases h:(upE s i).2 != 0 with
 | true=>(first | refine(aN h).trans ?_ | refine(aN rfl).trans ?_);rfl
 | false=>
 (first | refine(aF h).trans ?_ | refine(aF rfl).trans ?_)
 cases h2:(upE s i).1.2.2.2.1==1000 with
 | true=>(first | refine(aN h2).trans ?_ | refine(aN rfl).trans ?_);rfl
 | false=>
 (first | refine(aF h2).trans ?_ | refine(aF rfl).trans ?_)
 by_cases h3:((ByteArray.size t:Nat):Int)>8
 ·refine(aE h3).trans ?_;rw[decide_eq_true h3];rfl
 ·refine(aI h3).trans ?_;rw[decide_eq_false h3];refine(bD (f379 i ((upE s i).1.1,(upE s i).1.2.1,(upE s i).1.2.2.1,i64.wrap ((upE s i).1.2.2.2.1+1),t,()) n (by omega))).trans ?_;rfl
theorem f367(s:aH)(i:Int)(hz:SzS s):Ran p 7 367 [.val true ⟨K27,s⟩, .val false ⟨K3,(i,())⟩] ⟨[⟨K27,(oE s i).1⟩,⟨K3,((oE s i).2,())⟩],[]⟩:=go367 fun n hn=>Ev.now fun aA=>by
 unfold T367 oE;refine(bD (f380 s i hz n (by omega))).trans ?_
 cases h:(upE s i).2 != 0 with
 | true=>(first | refine(aN h).trans ?_ | refine(aN rfl).trans ?_);rfl
 | false=>(first | refine(aF h).trans ?_ | refine(aF rfl).trans ?_);refine(bD (f379 i ((upE s i).1.1,1,(upE s i).1.2.2.1,(upE s i).1.2.2.2.1,(upE s i).1.2.2.2.2.1,()) n (by omega))).trans ?_;rfl
theorem f344(s:aH)(k i:Int)(t:ByteArray)(hz:SzS s):Ran p 8 344 [.val true ⟨K27,s⟩, .val false ⟨K3,(k,())⟩, .val false ⟨K3,(i,())⟩, .val false ⟨K9,(t,())⟩] ⟨[⟨K27,(fW s k i t).1⟩,⟨K3,((fW s k i t).2,())⟩],[]⟩:=go344 fun n hn=>Ev.now fun aA=>by
 unfold T344 fW
 cases k==0 with
 | true=>refine(aN rfl).trans ?_;refine(bD (f364 s i hz n (by omega))).trans ?_;rfl
 | false=>
 refine(aF rfl).trans ?_
 cases k==1 with
 | true=>refine(aN rfl).trans ?_;refine(bD (f365 s i hz n (by omega))).trans ?_;rfl
 | false=>
 refine(aF rfl).trans ?_
 cases k==2 with
 | true=>refine(aN rfl).trans ?_;refine(bD (f366 s i t hz n (by omega))).trans ?_;rfl
 | false=>refine(aF rfl).trans ?_;refine(bD (f367 s i hz n (by omega))).trans ?_;rfl
theorem f345(l:fA)(d:aH)(hl:l.2.2.1.length≤aU)(hs:∀ i,i<l.2.2.1.length→SzS (gt l.2.2.1 i))(hz:SzS d):Ran p 5 345 [.val true ⟨K33,l⟩, .val true ⟨K27,d⟩] ⟨[⟨K33,(pM l d).1⟩,⟨K4,((pM l d).2,())⟩],[]⟩:=go345 fun n hn=>Ev.now fun aA=>by
 unfold T345 pM mX;refine(aB (f225 l hl hs n (by omega))).trans ?_;refine(aB (f229 l hl hs n (by omega))).trans ?_
 cases g1:fC l with
 | false=>rfl
 | true=>
 refine(aF rfl).trans ?_;refine(aB (f227 d (aP hz.a) (aP hz.b) n (by omega))).trans ?_
 cases aO d with
 | false=>rfl
 | true=>
 refine(aF rfl).trans ?_
 cases h:i64.wrap (l.2.1+((l.2.2.1.length:Nat):Int))==100000 with
 | true=>(first | refine(aN h).trans ?_ | refine(aN rfl).trans ?_);rfl
 | false=>
 (first | refine(aF h).trans ?_ | refine(aF rfl).trans ?_)
 have hb:l.2.2.1.length+1≤bound:=by unfold aU at hl;unfold bound;omega
 have hlen:(l.2.2.1++[d]).length=l.2.2.1.length+1:=by rw[List.length_append,List.length_singleton]
 refine(aB (f224 d hz n (by omega))).trans ?_;refine(aE hb).trans ?_
 show _=some (⟨[⟨K33,fT l d⟩,⟨K4,(true,())⟩],[]⟩:Out)
 unfold fT
 by_cases hc:(((l.2.2.1++[d]).length:Nat):Int)>l.1
 ·refine(aE hc).trans ?_;rw[decide_eq_true hc]
  refine(n4 (show(0:Int)≤1 by omega) (show(1:Int)≤(((l.2.2.1++[d]).length:Nat):Int) by rw[hlen];omega)).trans ?_
  refine(aE (show List.length ([]:List aH)+(((l.2.2.1++[d]).take (l.2.2.1++[d]).length).drop ((1:Int)).toNat).length≤bound by rw[List.take_length,List.length_drop,hlen];simp;omega)).trans ?_
  show(some ⟨[⟨K33,(l.1,i64.wrap (l.2.1+1),(((l.2.2.1++[d]).take (l.2.2.1++[d]).length).drop ((1:Int)).toNat),())⟩,⟨K4,(true,())⟩],[]⟩:Option Out)=_
  rw[List.take_length];rfl
 ·refine(aI hc).trans ?_;rw[decide_eq_false hc];rfl
end Go.Abs.Xz
