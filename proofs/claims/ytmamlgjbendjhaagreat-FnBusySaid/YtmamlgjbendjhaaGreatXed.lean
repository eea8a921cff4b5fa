/- What the functions of this program answer, part ed. -/
import Derived.Test.YtmamlgjbendjhaaGreatXec
set_option linter.unusedVariables false
namespace Go.Abs.Xz
open Go Go.Abs
def FQ(x:NodeT)(to:Int)(b:NodeT)(q:Nat):Bool:=(q:Int) != x.1&&((q:Int) != to&&((b.sess.length:Nat):Int)==0)
def a9(x:NodeT)(to:Int):Nat→NodeT
 | 0=>eD to x.2.1 4 1 5 5
 | q+1=>bif FQ x to (a9 x to q) q then(iC (a9 x to q) (q:Int)).1 else a9 x to q
structure BusyI (x:NodeT) (to:Int) (b:NodeT):Prop where
 ok:NodeOk b
 sz:SzN b
 id:b.1=to
 n:b.2.1=x.2.1
 slots:b.slots=1
 out:∀ s∈b.sess,s.2.2.1=false
theorem I5{x:NodeT}{to:Int}(S:SynOk x to):BusyI x to (a9 x to 0):=by
 have hp:=S.peer
 have hn:inB x.2.1 1 5=true:=S.node.n
 exact⟨nM hn ⟨hp.1,hp.2.1⟩ rfl rfl rfl rfl,kV _ _ _ _ _ _ hn,rfl,rfl,rfl,fun s hs=>by cases hs⟩
theorem C7{x:NodeT}{to:Int}{q:Nat}(h:BusyI x to (a9 x to q)):BusyI x to (a9 x to (q+1)):=by
 show BusyI x to (bif FQ x to (a9 x to q) q then(iC (a9 x to q) (q:Int)).1 else a9 x to q)
 cases FQ x to (a9 x to q) q with
 | false=>exact h
 | true=>
  show BusyI x to (iC (a9 x to q) (q:Int)).1
  unfold iC
  cases hb:gK (a9 x to q) (q:Int)with
  | false=>exact h
  | true=>
   have S:=iM hb
   refine⟨S.up,lQ h.sz S,h.id,h.n,h.slots,fun s hs=>?_⟩
   have hs:s∈(a9 x to q).sess++[((q:Int),IntKind.i64.wrap ((a9 x to q).num+1),false,(0:Int),())]:=hs
   rcases List.mem_append.1 hs with hs | hs
   ·exact h.out s hs
   ·rw[List.mem_singleton.1 hs]
theorem zA{x:NodeT}{to:Int}(S:SynOk x to):∀ q,BusyI x to (a9 x to q)
 | 0=>I5 S
 | q+1=>C7 (zA S q)
theorem C8{x b:NodeT}{to:Int}(h:BusyI x to b)(i:Int):bT b.sess i true= -1:=by
 rcases dB b.sess i true with ⟨k,hk,e,he⟩ | ⟨e,_⟩
 ·have h1:=h.out _ (cX hk)
  unfold j7 at he
  have h2:=congrArg Prod.snd he
  have h2:(gt b.sess k).2.2.1=true:=h2
  rw[h1] at h2;cases h2
 ·exact e
theorem FP{x b:NodeT}{to:Int}(S:SynOk x to)(h:BusyI x to b):yD b (jU x to)=jK b (jU x to)∧gU b (jU x to)=(((b.sess.length:Nat):Int)==1):=by
 have hp:=S.peer;have hnn:=S.nn;have hm:=S.num;have hid:=S.node.id
 have hv:=sS S.node.got
 rw[aQ,IntKind.wrap_i64] at hid
 have hok:iS (jU x to)=true:=EH S.node (tree:=x.tree) (by omega) ⟨by omega,by omega,hp.2.2⟩ (by rw[tN hm];omega) (F4 S.node)
 have hr:g0 b (jU x to)=true:=by
  unfold g0
  simp only[Bool.and_eq_true,beq_iff_eq,Bool.not_eq_true',decide_eq_false_iff_not]
  exact⟨(c7 b).2 h.ok,hok,by show to=b.1;rw[h.id],by show ¬ x.1≥b.2.1;rw[h.n];omega,by rw[h.n];exact hv.2.1⟩
 refine⟨by rw[tH hr];rfl,?_⟩
 unfold gU
 rw[show bT b.sess (jU x to).2.1 true= -1 from C8 h _,h.slots];rfl
theorem B8{v:List c5}{i:Int}{s:c5}(h:bT v i false<0)(hs:j7 s=(i,false)):bT (v++[s]) i false=((v.length:Nat):Int):=by
 rcases dB (v++[s]) i false with ⟨k,hk,e,he⟩ | ⟨_,e⟩
 ·rw[e]
  rw[List.length_append,List.length_singleton] at hk
  by_cases hlt:k<v.length
  ·rcases dB v i false with ⟨j,hj,e2,_⟩ | ⟨_,e3⟩
   ·rw[e2] at h;omega
   ·have hg:gt (v++[s]) k=gt v k:=by rw[dQ (by rw[List.length_append];omega),dQ hlt,List.getElem_append_left hlt]
    rw[hg] at he
    exact absurd he (e3 _ (cX hlt))
  ·have:k=v.length:=by omega
   rw[this]
 ·exact absurd hs (e s (List.mem_append.2 (.inr (List.mem_singleton.2 rfl))))
def pM(b:NodeT)(x:NodeT):MsgT:=CN b 5 x.1 (IntKind.i64.wrap (x.num+1))
def p7(x:NodeT)(to:Int):NodeT:=withS (gI x to) x.sess
theorem C9{x b:NodeT}{to:Int}(S:SynOk x to)(h:BusyI x to b):yD (gI x to) (pM b x)=(p7 x to,[],0):=by
 have hp:=S.peer;have hnn:=S.nn;have hm:=S.num;have hid:=S.node.id
 have hv:=sS h.ok.got
 rw[aQ,IntKind.wrap_i64] at hid
 have hok:iS (pM b x)=true:=EH h.ok (tree:=([],0,())) (by omega) ⟨by omega,by omega,by rw[h.id];exact fun e=>hp.2.2 e.symm⟩ (by rw[tN hm];omega) rfl
 have hr:g0 (gI x to) (pM b x)=true:=by
  unfold g0
  simp only[Bool.and_eq_true,beq_iff_eq,Bool.not_eq_true',decide_eq_false_iff_not]
  exact⟨(c7 _).2 S.up,hok,rfl,by show ¬ b.1≥x.2.1;rw[h.id];omega,by show((b.got.length:Nat):Int)=x.2.1;rw[hv.2.1,h.n]⟩
 have hl:bT (gI x to).sess (pM b x).2.1 false=((x.sess.length:Nat):Int):=by
  show bT (x.sess++[(to,IntKind.i64.wrap (x.num+1),false,(0:Int),())]) b.1 false=_
  rw[h.id];exact B8 S.slot rfl
 have hg:gt (gI x to).sess x.sess.length=(to,IntKind.i64.wrap (x.num+1),false,(0:Int),()):=by
  show gt (x.sess++[(to,IntKind.i64.wrap (x.num+1),false,(0:Int),())]) x.sess.length=_
  rw[dQ (by rw[List.length_append,List.length_singleton];omega)];simp
 have hf:pI (gI x to) (pM b x) false=((x.sess.length:Nat):Int):=by
  unfold pI
  rw[hl,decide_eq_true (show((x.sess.length:Nat):Int)≥0 by omega),Int.toNat_natCast,hg]
  show(bif(IntKind.i64.wrap (x.num+1) != IntKind.i64.wrap (x.num+1))then(-1:Int)else _)=_
  rw[bne_self_eq_false];rfl
 have hgone:l9 (gI x to) x.sess.length=p7 x to:=by
  unfold l9 p7
  show withS (gI x to) ((x.sess++[_]).take x.sess.length++(x.sess++[_]).drop (x.sess.length+1))=_
  rw[List.take_left,List.drop_of_length_le (by rw[List.length_append,List.length_singleton];omega),List.append_nil]
 rw[tH hr,oT (b:=false) rfl rfl rfl rfl hf]
 unfold pY
 rw[hgone];rfl
end Go.Abs.Xz
