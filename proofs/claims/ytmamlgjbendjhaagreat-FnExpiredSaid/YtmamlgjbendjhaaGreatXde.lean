/- What the functions of this program answer, part de. -/
import Derived.Test.YtmamlgjbendjhaaGreatXrd
import Derived.Test.YtmamlgjbendjhaaGreatW3
set_option linter.unusedVariables false
namespace Go.Abs.Xz
open Go Go.Abs
theorem sM(i:Int)(e:bS):∃ b:Bool,Ran p 4 373 [.val false ⟨K3,(i,())⟩, .val true ⟨K161,e⟩] ⟨[⟨K27,tA i e⟩,⟨K4,(b,())⟩],[]⟩:=by
 have hs:=f227 ([(i,e)],[],()) (by show 1≤9223372036854775807;omega) (by show 0≤9223372036854775807;omega)
 unfold tA
 cases ho:aP ([(i,e)],[],())with
 | false=>exact⟨false,go373 fun n hn=>Ev.now fun aA=>by unfold T373;refine(aB (hs n (by omega))).trans ?_;rw[ho];rfl⟩
 | true=>exact⟨true,go373 fun n hn=>Ev.now fun aA=>by unfold T373;refine(aB (hs n (by omega))).trans ?_;rw[ho];rfl⟩
theorem f379(i:Int)(e:bS):Ran p 5 379 [.val false ⟨K3,(i,())⟩, .val true ⟨K161,e⟩] ⟨[⟨K27,tA i e⟩,⟨K3,((0:Int),())⟩],[]⟩:=by
 obtain⟨b,hs⟩:=sM i e
 exact go379 fun n hn=>Ev.now fun aA=>by unfold T379;refine(bA (hs n (by omega))).trans ?_;rfl
theorem f364(s:aK)(i:Int)(hz:SzS s):Ran p 6 364 [.val true ⟨K27,s⟩, .val false ⟨K3,(i,())⟩] ⟨[⟨K27,(mF s i).1⟩,⟨K3,((mF s i).2,())⟩],[]⟩:=go364 fun n hn=>Ev.now fun aA=>by
 unfold T364 mF;refine(aB (f227 s (aO hz.a) (aO hz.b) n (by omega))).trans ?_
 cases aP s with
 | false=>rfl
 | true=>
 refine(aF rfl).trans ?_;refine(aB (f250 i n (by omega))).trans ?_
 cases dH i with
 | false=>rfl
 | true=>
 refine(aF rfl).trans ?_;refine(bA (f378 s i hz n (by omega))).trans ?_
 cases (kO s i).2 with
 | true=>rfl
 | false=>
 refine(aF rfl).trans ?_;refine(bA (f327 s i (aO hz.a) n (by omega))).trans ?_;refine(aB (f313 s i (aO hz.b) n (by omega))).trans ?_;refine(aB (f248 (a9 s i).1.1 (cC s.2.1 i) n (by omega))).trans ?_
 cases h:oP s i==1000 with
 | true=>(first | refine(aN h).trans ?_ | refine(aN rfl).trans ?_);rfl
 | false=>(first | refine(aF h).trans ?_ | refine(aF rfl).trans ?_);refine(bA (f379 i (IntKind.i64.wrap (oP s i+1),0,0,0,⟨#[]⟩,()) n (by omega))).trans ?_;rfl
theorem f380(s:aK)(i:Int)(hz:SzS s):Ran p 6 380 [.val true ⟨K27,s⟩, .val false ⟨K3,(i,())⟩] ⟨[⟨K161,(upE s i).1⟩,⟨K3,((upE s i).2,())⟩],[]⟩:=go380 fun n hn=>Ev.now fun aA=>by
 unfold T380 upE;refine(aB (f227 s (aO hz.a) (aO hz.b) n (by omega))).trans ?_
 cases aP s with
 | false=>rfl
 | true=>
 refine(aF rfl).trans ?_;refine(aB (f250 i n (by omega))).trans ?_
 cases dH i with
 | false=>rfl
 | true=>
 refine(aF rfl).trans ?_;refine(bA (f378 s i hz n (by omega))).trans ?_
 cases (kO s i).2<;>rfl
theorem f365(s:aK)(i:Int)(hz:SzS s):Ran p 7 365 [.val true ⟨K27,s⟩, .val false ⟨K3,(i,())⟩] ⟨[⟨K27,(mH s i).1⟩,⟨K3,((mH s i).2,())⟩],[]⟩:=go365 fun n hn=>Ev.now fun aA=>by
 unfold T365 mH;refine(bA (f380 s i hz n (by omega))).trans ?_
 cases h:(upE s i).2 != 0 with
 | true=>(first | refine(aN h).trans ?_ | refine(aN rfl).trans ?_);rfl
 | false=>
 (first | refine(aF h).trans ?_ | refine(aF rfl).trans ?_)
 cases h2:(upE s i).1.2.2.1==100000 with
 | true=>(first | refine(aN h2).trans ?_ | refine(aN rfl).trans ?_);rfl
 | false=>(first | refine(aF h2).trans ?_ | refine(aF rfl).trans ?_);refine(bA (f379 i ((upE s i).1.1,(upE s i).1.2.1,IntKind.i64.wrap ((upE s i).1.2.2.1+1),(upE s i).1.2.2.2.1,(upE s i).1.2.2.2.2.1,()) n (by omega))).trans ?_;rfl
theorem f366(s:aK)(i:Int)(t:ByteArray)(hz:SzS s):Ran p 7 366 [.val true ⟨K27,s⟩, .val false ⟨K3,(i,())⟩, .val false ⟨K9,(t,())⟩] ⟨[⟨K27,(pI s i t).1⟩,⟨K3,((pI s i t).2,())⟩],[]⟩:=go366 fun n hn=>Ev.now fun aA=>by
 unfold T366 pI;refine(bA (f380 s i hz n (by omega))).trans ?_
 cases h:(upE s i).2 != 0 with
 | true=>(first | refine(aN h).trans ?_ | refine(aN rfl).trans ?_);rfl
 | false=>
 (first | refine(aF h).trans ?_ | refine(aF rfl).trans ?_)
 cases h2:(upE s i).1.2.2.2.1==1000 with
 | true=>(first | refine(aN h2).trans ?_ | refine(aN rfl).trans ?_);rfl
 | false=>
 (first | refine(aF h2).trans ?_ | refine(aF rfl).trans ?_)
 by_cases h3:((ByteArray.size t:Nat):Int)>8
 ·refine(aE h3).trans ?_;rw[decide_eq_true h3];rfl
 ·refine(aG h3).trans ?_;rw[decide_eq_false h3];refine(bA (f379 i ((upE s i).1.1,(upE s i).1.2.1,(upE s i).1.2.2.1,IntKind.i64.wrap ((upE s i).1.2.2.2.1+1),t,()) n (by omega))).trans ?_;rfl
theorem f367(s:aK)(i:Int)(hz:SzS s):Ran p 7 367 [.val true ⟨K27,s⟩, .val false ⟨K3,(i,())⟩] ⟨[⟨K27,(mG s i).1⟩,⟨K3,((mG s i).2,())⟩],[]⟩:=go367 fun n hn=>Ev.now fun aA=>by
 unfold T367 mG;refine(bA (f380 s i hz n (by omega))).trans ?_
 cases h:(upE s i).2 != 0 with
 | true=>(first | refine(aN h).trans ?_ | refine(aN rfl).trans ?_);rfl
 | false=>(first | refine(aF h).trans ?_ | refine(aF rfl).trans ?_);refine(bA (f379 i ((upE s i).1.1,1,(upE s i).1.2.2.1,(upE s i).1.2.2.2.1,(upE s i).1.2.2.2.2.1,()) n (by omega))).trans ?_;rfl
theorem f344(s:aK)(k i:Int)(t:ByteArray)(hz:SzS s):Ran p 8 344 [.val true ⟨K27,s⟩, .val false ⟨K3,(k,())⟩, .val false ⟨K3,(i,())⟩, .val false ⟨K9,(t,())⟩] ⟨[⟨K27,(eN s k i t).1⟩,⟨K3,((eN s k i t).2,())⟩],[]⟩:=go344 fun n hn=>Ev.now fun aA=>by
 unfold T344 eN
 cases k==0 with
 | true=>refine(aN rfl).trans ?_;refine(bA (f364 s i hz n (by omega))).trans ?_;rfl
 | false=>
 refine(aF rfl).trans ?_
 cases k==1 with
 | true=>refine(aN rfl).trans ?_;refine(bA (f365 s i hz n (by omega))).trans ?_;rfl
 | false=>
 refine(aF rfl).trans ?_
 cases k==2 with
 | true=>refine(aN rfl).trans ?_;refine(bA (f366 s i t hz n (by omega))).trans ?_;rfl
 | false=>refine(aF rfl).trans ?_;refine(bA (f367 s i hz n (by omega))).trans ?_;rfl
theorem f345(l:eG)(d:aK)(hl:l.2.2.1.length≤aS)(hs:∀ i,i<l.2.2.1.length→SzS (gt l.2.2.1 i))(hz:SzS d):Ran p 5 345 [.val true ⟨K33,l⟩, .val true ⟨K27,d⟩] ⟨[⟨K33,(nD l d).1⟩,⟨K4,((nD l d).2,())⟩],[]⟩:=go345 fun n hn=>Ev.now fun aA=>by
 unfold T345 nD kZ;refine(aB (f225 l hl hs n (by omega))).trans ?_;refine(aB (f229 l hl hs n (by omega))).trans ?_
 cases g1:fH l with
 | false=>rfl
 | true=>
 refine(aF rfl).trans ?_;refine(aB (f227 d (aO hz.a) (aO hz.b) n (by omega))).trans ?_
 cases aP d with
 | false=>rfl
 | true=>
 refine(aF rfl).trans ?_
 cases h:IntKind.i64.wrap (l.2.1+((l.2.2.1.length:Nat):Int))==100000 with
 | true=>(first | refine(aN h).trans ?_ | refine(aN rfl).trans ?_);rfl
 | false=>
 (first | refine(aF h).trans ?_ | refine(aF rfl).trans ?_)
 have hb:l.2.2.1.length+1≤bound:=by unfold aS at hl;unfold bound;omega
 have hlen:(l.2.2.1++[d]).length=l.2.2.1.length+1:=by rw[List.length_append,List.length_singleton]
 refine(aB (f224 d hz n (by omega))).trans ?_;refine(aE hb).trans ?_
 show _=some (⟨[⟨K33,eJ l d⟩,⟨K4,(true,())⟩],[]⟩:Out)
 unfold eJ
 by_cases hc:(((l.2.2.1++[d]).length:Nat):Int)>l.1
 ·refine(aE hc).trans ?_;rw[decide_eq_true hc]
  refine(l5 (show(0:Int)≤1 by omega) (show(1:Int)≤(((l.2.2.1++[d]).length:Nat):Int) by rw[hlen];omega)).trans ?_
  refine(aE (show List.length ([]:List aK)+(((l.2.2.1++[d]).take (l.2.2.1++[d]).length).drop ((1:Int)).toNat).length≤bound by rw[List.take_length,List.length_drop,hlen];simp;omega)).trans ?_
  show(some ⟨[⟨K33,(l.1,IntKind.i64.wrap (l.2.1+1),(((l.2.2.1++[d]).take (l.2.2.1++[d]).length).drop ((1:Int)).toNat),())⟩,⟨K4,(true,())⟩],[]⟩:Option Out)=_
  rw[List.take_length];rfl
 ·refine(aG hc).trans ?_;rw[decide_eq_false hc];rfl
end Go.Abs.Xz
