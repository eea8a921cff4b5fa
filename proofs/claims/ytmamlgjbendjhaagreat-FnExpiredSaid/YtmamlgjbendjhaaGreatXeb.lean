/- What the functions of this program answer, part eb. -/
import Derived.Test.YtmamlgjbendjhaaGreatXea
set_option linter.unusedVariables false
set_option maxHeartbeats 2000000
namespace Go.Abs.Xz
open Go Go.Abs
theorem kC{α:Type}[Inhabited α]{f:α→α→Bool}(h:∀ x,f x x=true)(xs:List α):lH f xs xs=true:=by
 unfold lH fI;rw[Bool.and_eq_true];exact⟨by simp,bJ.2 fun i _=>h _⟩
theorem qQ(x:NodeT):tF x x=true:=by
 have s1:lH pN x.seen x.seen=true:=kC (fun r=>gI r.1) _
 have s2:dJ x.state x.state=true:=mX.2 rfl
 have s3:wB x.tree x.tree=true:=by unfold wB;rw[gI];simp
 have s4:tM x.log x.log=true:=by unfold tM;rw[kC (fun s=>mX.2 rfl)];simp
 have s5:lH lZ x.sess x.sess=true:=kC (fun s=>by unfold lZ;rw[show eD s.1 s.1=true from jZ.2 rfl,show eD s.2.1 s.2.1=true from jZ.2 rfl,show eD s.2.2.2.1 s.2.2.2.1=true from jZ.2 rfl,v3];rfl) _
 have s6:lH jI x.rises x.rises=true:=kC (fun s=>by unfold jI;rw[show eD s.1 s.1=true from jZ.2 rfl,show eD s.2.1 s.2.1=true from jZ.2 rfl,show eD s.2.2.1 s.2.2.1=true from jZ.2 rfl];rfl) _
 unfold tF
 rw[s1,s2,s3,s4,s5,s6,gI,gI]
 simp
theorem f15(b:List aZ):Ran p 1 15 [.val false ⟨K22,(b,())⟩] ⟨[⟨K4,(decide (((b.length:Nat):Int)>1048576),())⟩],[]⟩:=go15 fun n hn=>Ev.now fun aA=>by
 unfold T15;rfl
theorem GE(b:List aZ):Ran p 14 3 [.val false ⟨K22,(b,())⟩] mB:=by
 have h1:=f15 b
 by_cases hb:((b.length:Nat):Int)>1048576
 ·rw[decide_eq_true hb] at h1
  exact go3 fun n hn=>Ev.now fun aA=>by unfold T3;refine(aB (h1 n (by omega))).trans ?_;rfl
 rw[decide_eq_false hb] at h1
 obtain⟨x,i,h2,X⟩:=f16 b (by omega)
 have h3:=f17 x i X.sz
 have h4:=f18 x i X.sz
 cases hs:gB x i with
 | false=>
  rw[wF hs] at h3 h4
  have h5:=f19 x x X.sz
  rw[qQ] at h5
  exact go3 fun n hn=>Ev.now fun aA=>by unfold T3;refine(aB (h1 n (by omega))).trans ?_;refine(aF rfl).trans ?_;refine(bA (h2 n (by omega))).trans ?_;refine(eZ (h3 n (by omega))).trans ?_;refine(eZ (h4 n (by omega))).trans ?_;refine(aF rfl).trans ?_;refine(aN rfl).trans ?_;refine(aB (h5 n (by omega))).trans ?_;rfl
 | true=>
 have S:=iI hs
 rw[nW hs] at h3 h4
 have hw:=S.node.wait
 rw[aQ] at hw
 have hcl:=X.cnt
 have hT:∀ k:Nat,((k:Nat):Int)≤x.wait+1→Ticked (bK x i) k (c7 (bK x i) k):=fun k=>by
  induction k with
  | zero=>intro _;exact FF S.up
  | succ k ih=>intro hk;exact xE (ih (by omega)) (by show x.clock+_<100000;omega)
 have hZ:∀ k,SzN (c7 (bK x i) k):=xH (lF X.sz S)
 obtain⟨N,hN⟩:∃ N:Nat,x.wait+1=((N:Nat):Int):=⟨(x.wait+1).toNat,by omega⟩
 have hE:=hT N (by omega)
 have he:=zC hE (by show x.wait<_;omega)
 have hlate:=D6 S hE he
 have hsyn:=D5 S hE he hcl.1
 have zE:=hZ N
 have h7:=f21 (c7 (bK x i) N) i false (by rw[he];exact Nat.zero_le _)
 rw[he,xL] at h7
 have zm:SzM (tN x i):=⟨Nat.zero_le _,by show(List.replicate (x.2.1).toNat z0).length≤aS;rw[List.length_replicate];have:=S.nn;unfold aS;omega,Nat.zero_le _,oK,Nat.zero_le _⟩
 have h8:=f22 (c7 (bK x i) N) (tN x i) zE zm
 rw[hlate] at h8
 have h9:=f17 (c7 (bK x i) N) i zE
 rw[nW hsyn] at h9
 have h10:=f19 (c7 (bK x i) N) (c7 (bK x i) N) zE
 rw[qQ] at h10
 have S2:=iI hsyn
 have h11:=f23 (bK (c7 (bK x i) N) i) (lF zE S2)
 rw[(cN _).2 S2.up] at h11
 have hn5:inB x.2.1 1 5=true:=S.node.n
 rw[aQ] at hn5
 have hq:IntKind.i64.wrap ((c7 (bK x i) N).num+1)=IntKind.i64.wrap (IntKind.i64.wrap (x.num+1)+1):=by rw[hE.num];rfl
 have lp:∀ n,14 - 1≤n→It (fun aA (_:Unit)=>c3_11 (aJ p n) aA ((x,(i,()),()),()) ((bK x i,BL x i,(true,()),()),())) ((0:Int),(bK x i).1,(bK x i).2.1,(bK x i).2.2.2.2.2.1,(bK x i).log.1,(bK x i).log.2.1,(bK x i).num,(bK x i).slots,(bK x i).wait,(bK x i).limit,(bK x i).clock,(bK x i).2.2.1,(bK x i).2.2.2.1,(bK x i).2.2.2.2.1,(bK x i).log.2.2.1,(bK x i).got,(bK x i).acked,(bK x i).seen,(bK x i).sess,(bK x i).rises) (fun _=>some mB):=by
  intro n hn
  refine It.run (fun k=>((k:Int),(c7 (bK x i) k).1,(c7 (bK x i) k).2.1,(c7 (bK x i) k).2.2.2.2.2.1,(c7 (bK x i) k).log.1,(c7 (bK x i) k).log.2.1,(c7 (bK x i) k).num,(c7 (bK x i) k).slots,(c7 (bK x i) k).wait,(c7 (bK x i) k).limit,(c7 (bK x i) k).clock,(c7 (bK x i) k).2.2.1,(c7 (bK x i) k).2.2.2.1,(c7 (bK x i) k).2.2.2.2.1,(c7 (bK x i) k).log.2.2.1,(c7 (bK x i) k).got,(c7 (bK x i) k).acked,(c7 (bK x i) k).seen,(c7 (bK x i) k).sess,(c7 (bK x i) k).rises)) N (fun k hk aA u rec=>?_) (It.stop fun aA u rec=>?_)
  ·have h6:=f20 (c7 (bK x i) k) (hZ k)
   show c3_11 (aJ p n) aA ((x,(i,()),()),()) ((bK x i,BL x i,(true,()),()),()) rec _=_
   unfold c3_11;dsimp only;rw[aL (show k<9223372036854775807 by omega)];refine(aE (show(k:Int)≤x.wait by omega)).trans ?_;refine(aB (h6 n (by omega))).trans ?_;rfl
  ·show c3_11 (aJ p n) aA ((x,(i,()),()),()) ((bK x i,BL x i,(true,()),()),()) rec _=_
   unfold c3_11;dsimp only;refine(aG (show ¬ (N:Int)≤x.wait by omega)).trans ?_
   refine(aF (show((((c7 (bK x i) N).sess.length:Nat):Int) != 0)=false by rw[he];rfl)).trans ?_;refine(aB (h7 n (by omega))).trans ?_;refine(aF rfl).trans ?_
   refine(E0 (show(0:Int)≤x.2.1 by omega) (show x.2.1≤((bound:Nat):Int) by unfold bound;omega) (show x.2.1=x.2.1 from rfl)).trans ?_
   refine(eZ (h8 n (by omega))).trans ?_;refine(eZ (h9 n (by omega))).trans ?_;refine(aN rfl).trans ?_;refine(aN rfl).trans ?_;refine(aB (h10 n (by omega))).trans ?_;refine(aN rfl).trans ?_;refine(aN rfl).trans ?_
   refine(aN (show(IntKind.i64.wrap ((c7 (bK x i) N).num+1)==IntKind.i64.wrap (IntKind.i64.wrap (x.num+1)+1))=true by rw[hq];simp)).trans ?_;refine(aB (h11 n (by omega))).trans ?_;rfl
 exact go3 fun n hn=>Ev.eq (fun aA=>by unfold T3;refine(aB (h1 n (by omega))).trans ?_;refine(aF rfl).trans ?_;refine(bA (h2 n (by omega))).trans ?_;refine(eZ (h3 n (by omega))).trans ?_;refine(eZ (h4 n (by omega))).trans ?_;refine(aF rfl).trans ?_;refine(aF rfl).trans ?_;rfl) ((lp n (by omega)).ev (i:=()) rfl)
theorem law_expired(b:List aZ)(ho:lA K22 (b,())):Ran p 14 3 [.val false ⟨K22,(b,())⟩] mB:=GE b
end Go.Abs.Xz
