/- What the functions of this program answer, part ee. -/
import Derived.Test.YtmamlgjbendjhaaGreatXed
set_option linter.unusedVariables false
set_option maxHeartbeats 4000000
namespace Go.Abs.Xz
open Go Go.Abs
theorem EI{x:NodeT}(h:SzN x)(a b c:Int):SzM (CN x a b c):=⟨Nat.zero_le _,h.got,Nat.zero_le _,pA,Nat.le_trans (fU _) (by decide)⟩
theorem JI(b:List aY):Ran p 14 4 [.val false ⟨K22,(b,())⟩] mM:=by
 have h1:=f15 b
 by_cases hb:((b.length:Nat):Int)>1048576
 ·rw[decide_eq_true hb] at h1
  exact go4 fun n hn=>Ev.now fun aA=>by unfold T4;refine(aB (h1 n (by omega))).trans ?_;rfl
 rw[decide_eq_false hb] at h1
 obtain⟨x,i,h2,X⟩:=f16 b (by omega)
 have h3:=f17 x i X.sz
 have h4:=f18 x i X.sz
 cases hs:gK x i with
 | false=>
  rw[wU hs] at h3 h4
  have h5:=f19 x x X.sz
  rw[rE] at h5
  exact go4 fun n hn=>Ev.now fun aA=>by unfold T4;refine(aB (h1 n (by omega))).trans ?_;refine(aF rfl).trans ?_;refine(bB (h2 n (by omega))).trans ?_;refine(dU (h3 n (by omega))).trans ?_;refine(dU (h4 n (by omega))).trans ?_;refine(aF rfl).trans ?_;refine(aN rfl).trans ?_;refine(aB (h5 n (by omega))).trans ?_;rfl
 | true=>
 have S:=iM hs
 rw[sZ hs] at h3 h4
 have hp:=S.peer
 have hn5:inB x.2.1 1 5=true:=S.node.n
 have hn6:=aQ.1 hn5
 have hNN:=yO (id:=i) (n:=x.2.1) (cap:=4) (slots:=1) (wait:=5) (lim:=5) hn5 ⟨hp.1,hp.2.1⟩ rfl rfl rfl rfl
 have h5:=f24 i x.2.1 4 1 5 5
 rw[hNN.1,hNN.2] at h5
 obtain⟨N,hN⟩:∃ N:Nat,x.2.1=((N:Nat):Int):=⟨x.2.1.toNat,by omega⟩
 have hI:=zA S
 have B:=hI N
 have hrec:=FP S B
 have zm:=A6 X.sz i
 have h8:=f22 (a9 x i N) (jU x i) B.sz zm
 rw[hrec.1] at h8
 have zu:=lQ X.sz S
 have zb:SzM (pM (a9 x i N) x):=EI B.sz _ _ _
 have h11:=f22 (gI x i) (pM (a9 x i N) x) zu zb
 rw[C9 S B] at h11
 have h12:=f19 (a9 x i N) (a9 x i N) B.sz
 rw[rE] at h12
 have h14:=f21 (p7 x i) i false X.sz.sess
 have e14:bT (p7 x i).sess i false= -1:=by
  rcases dB x.sess i false with ⟨k,_,e,_⟩ | ⟨e,_⟩
  ·have:=S.slot;rw[e] at this;omega
  ·exact e
 rw[e14] at h14
 have h15:=f25 x.state x.state X.sz.state
 rw[show dG x.state x.state=true from jJ.2 rfl] at h15
 have lp:∀ n,14 - 1≤n→It (fun aA (_:Unit)=>c4_14 (aK p n) aA ((x,(i,()),()),()) ((gI x i,jU x i,(true,()),()),())) ((0:Int),(a9 x i 0).1,(a9 x i 0).2.1,(a9 x i 0).2.2.2.2.2.1,(a9 x i 0).log.1,(a9 x i 0).log.2.1,(a9 x i 0).num,(a9 x i 0).slots,(a9 x i 0).wait,(a9 x i 0).limit,(a9 x i 0).clock,(a9 x i 0).2.2.1,(a9 x i 0).2.2.2.1,(a9 x i 0).2.2.2.2.1,(a9 x i 0).log.2.2.1,(a9 x i 0).got,(a9 x i 0).acked,(a9 x i 0).seen,(a9 x i 0).sess,(a9 x i 0).rises) (fun _=>some mM):=by
  intro n hn
  refine It.run (fun k=>((k:Int),(a9 x i k).1,(a9 x i k).2.1,(a9 x i k).2.2.2.2.2.1,(a9 x i k).log.1,(a9 x i k).log.2.1,(a9 x i k).num,(a9 x i k).slots,(a9 x i k).wait,(a9 x i k).limit,(a9 x i k).clock,(a9 x i k).2.2.1,(a9 x i k).2.2.2.1,(a9 x i k).2.2.2.2.1,(a9 x i k).log.2.2.1,(a9 x i k).got,(a9 x i k).acked,(a9 x i k).seen,(a9 x i k).sess,(a9 x i k).rises)) N (fun k hk aA u rec=>?_) (It.stop fun aA u rec=>?_)
  ·have h6:=f17 (a9 x i k) (k:Int) (hI k).sz
   show c4_14 (aK p n) aA ((x,(i,()),()),()) ((gI x i,jU x i,(true,()),()),()) rec _=_
   have e1:a9 x i (k+1)=bif(k:Int) != x.1&&((k:Int) != i&&(((a9 x i k).sess.length:Nat):Int)==0)then(iC (a9 x i k) (k:Int)).1 else a9 x i k:=rfl
   dsimp only;rw[e1];unfold c4_14;dsimp only;rw[aL (show k<9223372036854775807 by omega)];refine(aE (show(k:Int)<x.2.1 by omega)).trans ?_
   cases (k:Int) != x.1 with
   | false=>rfl
   | true=>
   cases (k:Int) != i with
   | false=>rfl
   | true=>
   cases q:(((a9 x i k).sess.length:Nat):Int)==0 with
   | false=>(first | refine(aN rfl).trans ?_);(first | refine(aN rfl).trans ?_);(first | refine(aF q).trans ?_ | refine(aF rfl).trans ?_);rfl
   | true=>(first | refine(aN rfl).trans ?_);(first | refine(aN rfl).trans ?_);(first | refine(aN q).trans ?_ | refine(aN rfl).trans ?_);refine(dU (h6 n (by omega))).trans ?_;rfl
  ·show c4_14 (aK p n) aA ((x,(i,()),()),()) ((gI x i,jU x i,(true,()),()),()) rec _=_
   unfold c4_14;dsimp only;refine(aG (show ¬ (N:Int)<x.2.1 by omega)).trans ?_
   cases hf:(((a9 x i N).sess.length:Nat):Int)==1 with
   | true=>
    have er:jK (a9 x i N) (jU x i)=(a9 x i N,[pM (a9 x i N) x],3):=by unfold jK;rw[hrec.2,hf];rfl
    rw[er] at h8
    have l0:0<([pM (a9 x i N) x]:List MsgT).length:=by show 0<1;omega
    refine(dU (h8 n (by omega))).trans ?_;refine(aF (show(!(kE ((((a9 x i N).sess.length:Nat):Int)==1) ((3:Int)==3)))=false by rw[hf];rfl)).trans ?_;refine(aF rfl).trans ?_;(first | refine(aF (show(!((((a9 x i N).sess.length:Nat):Int)==1))=false by rw[hf];rfl)).trans ?_ | refine(aF rfl).trans ?_)
    refine(aE (show(0:Int)≤0 by omega)).trans ?_;refine(aS l0).trans ?_;refine(aS l0).trans ?_;refine(dU (h11 n (by omega))).trans ?_;refine(aB (h12 n (by omega))).trans ?_;refine(aN rfl).trans ?_;refine(aE (show(0:Int)≤0 by omega)).trans ?_;refine(aS l0).trans ?_;refine(aS l0).trans ?_;refine(aN rfl).trans ?_;refine(aN rfl).trans ?_;refine(aN rfl).trans ?_
    refine(aN (show((((p7 x i).sess.length:Nat):Int)==((x.sess.length:Nat):Int))=true by rw[beq_iff_eq];rfl)).trans ?_;refine(aB (h14 n (by omega))).trans ?_;refine(aN rfl).trans ?_;refine(aB (h15 n (by omega))).trans ?_;rfl
   | false=>
    have er:jK (a9 x i N) (jU x i)=(B4 (a9 x i N) (jU x i),[w9 (B4 (a9 x i N) (jU x i)) (a9 x i N) (jU x i)],0):=by unfold jK;rw[hrec.2,hf];rfl
    rw[er] at h8
    have l0:0<([w9 (B4 (a9 x i N) (jU x i)) (a9 x i N) (jU x i)]:List MsgT).length:=by show 0<1;omega
    refine(dU (h8 n (by omega))).trans ?_;refine(aF (show(!(kE ((((a9 x i N).sess.length:Nat):Int)==1) ((0:Int)==3)))=false by rw[hf];rfl)).trans ?_;refine(aF rfl).trans ?_;(first | refine(aN (show(!((((a9 x i N).sess.length:Nat):Int)==1))=true by rw[hf];rfl)).trans ?_ | refine(aN rfl).trans ?_)
    refine(aN rfl).trans ?_;refine(aE (show(0:Int)≤0 by omega)).trans ?_;refine(aS l0).trans ?_;refine(aS l0).trans ?_;rfl
 exact go4 fun n hn=>Ev.eq (fun aA=>by unfold T4;refine(aB (h1 n (by omega))).trans ?_;refine(aF rfl).trans ?_;refine(bB (h2 n (by omega))).trans ?_;refine(dU (h3 n (by omega))).trans ?_;refine(dU (h4 n (by omega))).trans ?_;refine(aF rfl).trans ?_;refine(aF rfl).trans ?_;refine(bB (h5 n (by omega))).trans ?_;refine(aF rfl).trans ?_;rfl) ((lp n (by omega)).ev (i:=()) rfl)
theorem law_busy(b:List aY)(ho:lL K22 (b,())):Ran p 14 4 [.val false ⟨K22,(b,())⟩] mM:=JI b
end Go.Abs.Xz
