/- What the functions of this program answer, part df. -/
import Derived.Test.YtmamlgjbendjhaaGreatXde
import Derived.Test.YtmamlgjbendjhaaGreatXsa
set_option linter.unusedVariables false
open Go.IntKind (i64)
namespace Go.Abs.Xz
open Go Go.Abs
def HP(r:MB):Out:=⟨[⟨K38,r.1⟩,⟨K27,r.2.1⟩,⟨K3,(r.2.2,())⟩],[]⟩
theorem pG{s:aH}(h:aO s=true):SzS s:=by
 have:=((aV s).1 h).len
 exact⟨by unfold aU;omega,by unfold aU;omega⟩
theorem f298(x:NodeT)(k i:Int)(t:ByteArray)(hz:SzN x):Ran p 9 298 [.val true ⟨K38,x⟩, .val false ⟨K3,(k,())⟩, .val false ⟨K3,(i,())⟩, .val false ⟨K9,(t,())⟩] (HP (qH x k i t)):=go298 fun n hn=>Ev.now fun aA=>by
 have bad:rZ x k i=false→(some ⟨[⟨K38,x⟩,⟨K27,([],[],())⟩,⟨K3,((1:Int),())⟩],[]⟩:Option Out)=some (HP (qH x k i t)):=fun h=>by unfold qH;rw[h];rfl
 unfold T298;refine(aB (f85 x hz n (by omega))).trans ?_;refine(aB (f86 x hz n (by omega))).trans ?_
 cases g1:eF x with
 | false=>refine(aN rfl).trans ?_;exact bad (by unfold rZ;rw[g1];rfl)
 | true=>
 refine(aF rfl).trans ?_;refine(aB (f211 k 0 4 n (by omega))).trans ?_
 cases g2:inB k 0 4 with
 | false=>refine(aN rfl).trans ?_;exact bad (by unfold rZ;rw[g1,g2];rfl)
 | true=>
 refine(aF rfl).trans ?_;refine(aB (f211 i 0 (i64.wrap (x.2.1 - 1)) n (by omega))).trans ?_
 cases g3:inB i 0 (i64.wrap (x.2.1 - 1))with
 | false=>refine(aN rfl).trans ?_;exact bad (by unfold rZ;rw[g1,g2,g3];rfl)
 | true=>
 refine(aF rfl).trans ?_
 cases g4:oX (k==4) (i==x.1)with
 | true=>(first | refine(aN g4).trans ?_ | refine(aN rfl).trans ?_);exact bad (by unfold rZ;rw[g1,g2,g3,g4];rfl)
 | false=>
 have ok:rZ x k i=true:=by unfold rZ;rw[g1,g2,g3,g4];rfl
 have hN:=(eE x).1 g1
 have hd:=AO x.state k i t
 (first | refine(aF g4).trans ?_ | refine(aF rfl).trans ?_);refine(bD (f344 x.state k i t hz.state n (by omega))).trans ?_
 unfold qH;rw[ok]
 cases g5:(fW x.state k i t).2 != 0 with
 | true=>(first | refine(aN g5).trans ?_ | refine(aN rfl).trans ?_);rfl
 | false=>
 (first | refine(aF g5).trans ?_ | refine(aF rfl).trans ?_);refine(bD (f345 x.log (fW x.state k i t).1 hz.list hz.logs (pG hd) n (by omega))).trans ?_
 unfold pM
 cases hb:mX x.log (fW x.state k i t).1 with
 | false=>rfl
 | true=>
 have hid:=hN.id;have hn5:=hN.n;have hv:=hN.got
 rw[aS] at hid hn5
 rw[IntKind.wrap_i64] at hid
 unfold dX at hv
 simp only[Bool.and_eq_true,beq_iff_eq] at hv
 have h0:(0:Int)≤x.1:=hid.1
 have hk:x.1.toNat<x.got.length:=by omega
 refine(aF rfl).trans ?_;refine(aB (f85 x hz n (by omega))).trans ?_;refine(aE h0).trans ?_;refine(aZ hk).trans ?_;refine(aZ hk).trans ?_;refine(aE h0).trans ?_;refine(aZ hk).trans ?_;refine(aZ hk).trans ?_
 refine(aB (f254 (EE x (fW x.state k i t).1) (fW x.state k i t).1 (AQ hz hN hb) (pG hd) (uW (vD hN hb)) hd n (by omega))).trans ?_;rfl
theorem HC{x:NodeT}(h:NodeOk x):NodeOk (mP x):=by
 unfold mP
 rw[(eE x).2 h]
 cases hc:x.clock==100000 with
 | true=>exact h
 | false=>
  have hcl:=h.clock;have hwt:=h.wait
  rw[aS] at hcl hwt
  have hne:x.clock≠100000:=by rw[beq_eq_false_iff_ne] at hc;exact hc
  have hw:i64.wrap (x.clock+1)=x.clock+1:=by rw[IntKind.wrap_i64];omega
  have hs:=(cP x).1 h.sess
  have tw:∀ s∈x.sess,i64.wrap (s.2.2.2.1+1)=s.2.2.2.1+1:=fun s hm=>by
   have:=(hs.2.1 s hm).2.2.2;rw[aS] at this;rw[IntKind.wrap_i64];omega
  show NodeOk (uV x)
  have e:(uV x).sess=x.sess.flatMap fun s=>bif decide (i64.wrap (s.2.2.2.1+1)≤x.wait)then[xL s] else[]:=c5 (fun s:c7=>bif decide (i64.wrap (s.2.2.2.1+1)≤x.wait)then[xL s] else[]) x.sess
  have mem:∀ s∈(uV x).sess,∃ r∈x.sess,s=xL r∧i64.wrap (r.2.2.2.1+1)≤x.wait:=fun s hm=>by
   rw[e] at hm
   obtain⟨r,hr,hx⟩:=List.mem_flatMap.1 hm
   refine⟨r,hr,?_⟩
   by_cases hd:i64.wrap (r.2.2.2.1+1)≤x.wait
   ·rw[decide_eq_true hd] at hx;exact⟨List.mem_singleton.1 hx,hd⟩
   ·rw[decide_eq_false hd] at hx;cases hx
  have sub:∀ l:List c7,List.Sublist ((l.flatMap fun s=>bif decide (i64.wrap (s.2.2.2.1+1)≤x.wait)then[xL s] else[]).map jH) (l.map jH):=fun l=>by
   induction l with
   | nil=>exact List.Sublist.slnil
   | cons s l ih=>
    rw[List.flatMap_cons,List.map_append,List.map_cons]
    cases decide (i64.wrap (s.2.2.2.1+1)≤x.wait)with
    | true=>exact List.Sublist.cons_cons _ ih
    | false=>exact List.Sublist.cons _ ih
  exact {
   n:=h.n,id:=h.id,state:=h.state,tree:=h.tree,log:=h.log,got:=h.got,acked:=h.acked,own:=h.own,seen:=h.seen,ack:=h.ack,num:=h.num
   clock:=by show inB (i64.wrap (x.clock+1)) 0 100000=true;rw[hw,aS];omega
   slots:=h.slots,wait:=h.wait,limit:=h.limit,rises:=h.rises
   rise:=by
    have h6:=h.rise
    rw[bJ] at h6 ⊢
    intro i hi
    have h7:=h6 i hi
    unfold jD at h7 ⊢
    simp only[Bool.and_eq_true,aS] at h7 ⊢
    refine⟨h7.1,h7.2.1,h7.2.2.1,?_⟩
    show(gt x.rises i).2.2.1≤i64.wrap (x.clock+1)
    rw[hw];omega
   sess:=by
    refine(cP _).2 ⟨?_,fun s hm=>?_,?_⟩
    ·have h8:=xN x
     show(((uV x).sess.length:Nat):Int)≤x.slots
     have:=hs.1;omega
    ·obtain⟨r,hr,rfl,hle⟩:=mem s hm
     have h9:=hs.2.1 r hr
     have h10:=h9.2.2.2
     rw[aS] at h10
     refine⟨h9.1,h9.2.1,h9.2.2.1,?_⟩
     show inB (i64.wrap (r.2.2.2.1+1)) 0 x.wait=true
     rw[aS];rw[tw r hr] at hle ⊢;omega
    ·rw[e];exact(sub x.sess).nodup hs.2.2 }
end Go.Abs.Xz
