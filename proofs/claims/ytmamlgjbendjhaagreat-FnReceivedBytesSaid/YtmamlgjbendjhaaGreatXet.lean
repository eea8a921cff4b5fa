/- What the functions of this program answer, part et. -/
import Derived.Test.YtmamlgjbendjhaaGreatW3
import Derived.Test.YtmamlgjbendjhaaGreatXdf
import Derived.Test.YtmamlgjbendjhaaGreatXeb
set_option linter.unusedVariables false
set_option maxHeartbeats 4000000
open Go.IntKind (i64)
namespace Go.Abs.Xz
open Go Go.Abs
def TU(y:NodeT)(o:Out):Prop:=∃ e:List aH,o=⟨[⟨K38,y⟩,⟨K22,(e,())⟩],[]⟩/\ByL e/\e.length<=600
theorem f32(b:List aH)(hb:b.length<=1048576):∃ (y:NodeT) (e:List aH),Ran p 13 32 [vf K22 (b,())] ⟨[⟨K38,y⟩,⟨K22,(e,())⟩],[]⟩/\NodX y/\ByL e/\e.length<=600:=by
 obtain⟨y,m,h0,hy,hm⟩:=f112 b hb
 have hM:=f127 m hm
 have B1:=pW m
 have B2:=DH m
 generalize aY m=B at hM B1 B2
 obtain⟨o,⟨e,rfl,he,hl⟩,hL⟩:=It.new (lvl:=13 - 1) (c:=λn aA (_:Unit)=>c32_10003 (aL p n) aA b ((y,m,()),())) (TU y) b hb (λi h hi h4=>⟨_,λn hn aA a rec=>by
   unfold c32_10003;dsimp only;rw[aF (show i<9223372036854775807 by omega)];refine ql hi ?_;refine qP (show(i:Int)<4000 by omega) ?_;refine qz ?_;refine(aE hi).trans ?_;rfl⟩) (λh i hc hi=>by
   obtain⟨b4,d4,h4,k4⟩:=f128 _ 4 hc
   cases b4 with
   | false=>
    exact⟨_,⟨B,rfl,B1,by omega⟩,λn hn=>⟨0,λaA _ a rec=>by
     unfold c32_10003;refine(iH hi).trans ?_;refine qC hM ?_;refine qR h4 ?_;refine qf ?_;rfl⟩⟩
   | true=>
   cases hn0:(B.length:Int)==0 with
   | true=>
    exact⟨_,⟨B,rfl,B1,by omega⟩,λn hn=>⟨0,λaA _ a rec=>by
     unfold c32_10003;refine(iH hi).trans ?_;refine qC hM ?_;refine qR h4 ?_;refine qt ?_;refine qT hn0 ?_;rfl⟩⟩
   | false=>
   have hB0:0<B.length:=by rw[beq_eq_false_iff_ne] at hn0;omega
   obtain⟨x5,d5,h5,k5,_⟩:=f219 d4 6 k4
   cases q0:x5==0 with
   | true=>
    obtain⟨x6,d6,h6,k6,r6,s6,_⟩:=f219 d5 (B.length:Int) k5
    obtain⟨j,rfl⟩:∃ j:Nat,x6=(j:Int):=⟨x6.toNat,by omega⟩
    have hj:j<B.length:=by have:=s6 (by omega);omega
    obtain⟨x8,d8,h8,k8,_⟩:=f219 d6 255 k6
    exact⟨_,⟨B.set j (dW .u8 (gt B j).1 (IntKind.u8.wrap (i64.wrap (1+x8))),(gt B j).2),rfl,OZ B1 _ _ _ _,by rw[List.length_set];omega⟩,λn hn=>⟨0,λaA _ a rec=>by
     unfold c32_10003;refine(iH hi).trans ?_;refine qC hM ?_;refine qR h4 ?_;refine qt ?_;refine qF hn0 ?_;refine qR h5 ?_;refine qT q0 ?_;refine qR h6 ?_;refine qz ?_;refine(aE hj).trans ?_;refine(aE hj).trans ?_;refine qR h8 ?_;refine qz ?_;refine(aE hj).trans ?_;refine(aE hj).trans ?_;rfl⟩⟩
   | false=>
   cases q1:x5==1 with
   | true=>
    obtain⟨x6,d6,h6,k6,r6,s6,_⟩:=f219 d5 (B.length:Int) k5
    obtain⟨j,rfl⟩:∃ j:Nat,x6=(j:Int):=⟨x6.toNat,by omega⟩
    have hj:j<B.length:=by have:=s6 (by omega);omega
    exact⟨_,⟨(B.take j).drop 0,rfl,B1.sub λz hz=>List.mem_of_mem_take hz,by rw[List.length_drop,List.length_take];omega⟩,λn hn=>⟨0,λaA _ a rec=>by
     unfold c32_10003;refine(iH hi).trans ?_;refine qC hM ?_;refine qR h4 ?_;refine qt ?_;refine qF hn0 ?_;refine qR h5 ?_;refine qF q0 ?_;refine qT q1 ?_;refine qR h6 ?_;refine qT (rng (c:=True) (d:=True) (show(0:Int)<=(j:Int) by omega) (show(j:Int)<=(B.length:Int) by omega)) ?_;rfl⟩⟩
   | false=>
   cases q2:x5==2 with
   | true=>
    by_cases h8:(B.length:Int)>8
    ·have e7:i64.wrap ((B.length:Int) - 7)=((B.length - 7:Nat):Int):=by rw[IntKind.wrap_i64];omega
     obtain⟨x6,d6,h6,k6,r6,s6,_⟩:=f219 d5 (i64.wrap ((B.length:Int) - 7)) k5
     have s7:x6<((B.length - 7:Nat):Int):=by rw[e7] at s6;exact s6 (by omega)
     have e2:i64.wrap (2+x6)=((2+x6.toNat:Nat):Int):=by rw[IntKind.wrap_i64];omega
     have hj:2+x6.toNat<B.length:=by omega
     generalize 2+x6.toNat=j at e2 hj
     obtain⟨x8,d8,h8',k8,_⟩:=f219 d6 255 k6
     have S1:ByL (B.set j (dW .u8 (gt B j).1 (IntKind.u8.wrap (i64.wrap (1+x8))),(gt B j).2)):=OZ B1 _ _ _ _
     have S2:(B.set j (dW .u8 (gt B j).1 (IntKind.u8.wrap (i64.wrap (1+x8))),(gt B j).2)).length=B.length:=List.length_set ..
     generalize hZ:B.set j (dW .u8 (gt B j).1 (IntKind.u8.wrap (i64.wrap (1+x8))),(gt B j).2)=Z at S1 S2
     have e4:i64.wrap ((Z.length:Int) - 4)=((Z.length - 4:Nat):Int):=by rw[IntKind.wrap_i64];omega
     have hc4:(decide ((0:Int)<=((Z.length - 4:Nat):Int))&&decide (((Z.length - 4:Nat):Int)<=(Z.length:Int)))=true:=rng (c:=True) (d:=True) (by omega) (by omega)
     have tby:ByL (Z.take (Z.length - 4)):=S1.sub λz hz=>List.mem_of_mem_take hz
     have tle:(Z.take (Z.length - 4)).length<=504:=by rw[List.length_take];omega
     have b1:0+((Z.take ((Z.length - 4:Nat):Int).toNat).drop 0).length<=bound:=by rw[List.length_drop,List.length_take];unfold bound;omega
     have hS:=f265 (Z.take (Z.length - 4)) tby (Nat.le_trans tle (by decide))
     have b2:(([]:List aH)++(Z.take ((Z.length - 4:Nat):Int).toNat).drop 0).length+(pL (Z.take (Z.length - 4))).length<=bound:=by rw[mN,List.nil_append,List.length_drop,List.length_take];unfold bound;omega
     exact⟨_,⟨([]++Z.take (Z.length - 4))++pL (Z.take (Z.length - 4)),rfl,(ByL.app (λz hz=>by cases hz) tby).app (IK tby),by rw[List.length_append,mN,List.nil_append];omega⟩,λn hn=>⟨0,λaA _ a rec=>by
      unfold c32_10003;refine(iH hi).trans ?_;refine qC hM ?_;refine qR h4 ?_;refine qt ?_;refine qF hn0 ?_;refine qR h5 ?_;refine qF q0 ?_;refine qF q1 ?_;refine qT q2 ?_;refine qP h8 ?_;refine qR h6 ?_
      rw[show i64.wrap (2+vI (((((x6,()),()),(d6,())):Rows [K3]×Rows [K264]).1.1.1))=(j:Int)from e2]
      refine qz ?_;refine(aE hj).trans ?_;refine(aE hj).trans ?_;refine qR h8' ?_;refine qz ?_;refine(aE hj).trans ?_;refine(aE hj).trans ?_
      rw[show List.set (α:=Row K5) B ((j:Int)).toNat (dW IntKind.u8 (vI (gt B j).1) (IntKind.u8.wrap (i64.wrap (1+vI x8))),(gt B j).2)=Z from hZ]
      rw[show i64.wrap (((List.length (α:=Row K5) Z:Nat):Int) - 4)=((Z.length - 4:Nat):Int)from e4]
      refine qT hc4 ?_;refine qP b1 ?_;refine qT hc4 ?_;refine qC hS ?_;refine qP b2 ?_;rfl⟩⟩
    ·exact⟨_,⟨B,rfl,B1,by omega⟩,λn hn=>⟨0,λaA _ a rec=>by
      unfold c32_10003;refine(iH hi).trans ?_;refine qC hM ?_;refine qR h4 ?_;refine qt ?_;refine qF hn0 ?_;refine qR h5 ?_;refine qF q0 ?_;refine qF q1 ?_;refine qT q2 ?_;refine qN h8 ?_;rfl⟩⟩
   | false=>
    exact⟨_,⟨B,rfl,B1,by omega⟩,λn hn=>⟨0,λaA _ a rec=>by
     unfold c32_10003;refine(iH hi).trans ?_;refine qC hM ?_;refine qR h4 ?_;refine qt ?_;refine qF hn0 ?_;refine qR h5 ?_;refine qF q0 ?_;refine qF q1 ?_;refine qF q2 ?_;rfl⟩⟩) (i64.wrap (26583+(b.length:Int)))
 exact⟨y,e,go32 λn hn=>Ev.eq (λaA=>by unfold T32;refine qD h0 ?_;rfl) ((hL n (by omega)).ev (i:=()) rfl),hy,he,hl⟩
theorem SH{α β:Type}[Inhabited α][Inhabited β](f:α->β){xs:List α}{i:Nat}(h:i<xs.length):gt (xs.map f) i=f (gt xs i):=by
 rw[dC (by rw[List.length_map];exact h),dC h,List.getElem_map]
theorem law_receivedBytes(b:List aH)(ho:oZ K22 (b,())):Ran p 14 7 [vf K22 (b,())] tI:=by
 have h1:=f15 b
 by_cases hb:(b.length:Int)>1048576
 ·rw[decide_eq_true hb] at h1
  exact go7 λn hn=>Ev.now λaA=>by unfold T7;refine qC h1 ?_;rfl
 rw[decide_eq_false hb] at h1
 obtain⟨y,e,h2,Y,he,hel⟩:=f32 b (by omega)
 have hes:e.length<=aN:=Nat.le_trans hel (by decide)
 have h3:=f33 y e Y.sz he.b8 hes
 have h4:=f34 y e Y.sz he.b8 hes
 have h5:=f35 e he.b8 hes
 cases hm:dE e with
 | none=>
  rw[mG hm] at h3 h4
  rw[hm] at h5
  have h6:=f19 y y Y.sz
  rw[wZ] at h6
  exact go7 λn hn=>Ev.now λaA=>by
   unfold T7;refine qC h1 ?_;refine qf ?_;refine qD h2 ?_;refine qE h3 ?_;refine qE h4 ?_;refine qf ?_;refine qD h5 ?_;refine qt ?_;refine qt ?_;refine qt ?_;refine qC h6 ?_;rfl
 | some m=>
  rw[mF hm] at h3 h4
  rw[hm] at h5
  have zm:=zO hm
  have rs:=DC Y.sz zm
  have h7:=f22 y m Y.sz zm
  have h8:=f19 (cC y m).1 (cC y m).1 rs.node
  rw[wZ] at h8
  refine go7 λn hn=>?_
  have lp:It (λaA (_:Unit)=>c7_15 (aL p n) aA (((cC y m).1,((cC y m).2.1.map (λa=>((aY a,()):bH)),()),((cC y m).2.2,()),()),()) (((cC y m).1,((cC y m).2.1,()),((cC y m).2.2,()),()),())) (0:Int) (λ_=>some tI):=by
   refine It.run (λi=>(i:Int)) (cC y m).2.1.length (λi hi aA u rec=>?_) (It.stop λaA u rec=>?_)
   ·have hi2:i<((cC y m).2.1.map (λa=>((aY a,()):bH))).length:=by rw[List.length_map];exact hi
    have e1:gt ((cC y m).2.1.map (λa=>((aY a,()):bH))) i=(aY (gt (cC y m).2.1 i),()):=SH _ hi
    unfold c7_15;dsimp only;rw[aF (show i<9223372036854775807 by have:=rs.len;omega)];refine ql hi2 ?_;refine qz ?_;refine(aE hi2).trans ?_;refine(aE hi2).trans ?_;refine qz ?_;refine(aE hi).trans ?_;refine(aE hi).trans ?_;refine qC (f36 (gt (cC y m).2.1 i) (rs.msg _ (cR hi))) ?_
    refine qF (show(!bN (gt ((cC y m).2.1.map (λa=>((aY a,()):bH))) i).1 (aY (gt (cC y m).2.1 i)))=false by rw[e1,fU];rfl) ?_;rfl
   ·unfold c7_15;refine qN (show ¬ (((cC y m).2.1.length:Int)<((((cC y m).2.1.map (λa=>((aY a,()):bH))).length:Nat):Int)) by rw[List.length_map];omega) ?_;rfl
  exact Ev.eq (λaA=>by
   unfold T7;refine qC h1 ?_;refine qf ?_;refine qD h2 ?_;refine qE h3 ?_;refine qE h4 ?_;refine qF (show((cC y m).2.2 != (cC y m).2.2)=false by simp) ?_;refine qD h5 ?_;refine qf ?_;refine qE h7 ?_;refine qF (show((cC y m).2.2 != (cC y m).2.2)=false by simp) ?_
   refine qF (show((((cC y m).2.1.length:Nat):Int) != ((((cC y m).2.1.map (λa=>((aY a,()):bH))).length:Nat):Int))=false by rw[List.length_map];simp) ?_;refine qC h8 ?_;refine qf ?_;rfl) (lp.ev (i:=()) rfl)
end Go.Abs.Xz
