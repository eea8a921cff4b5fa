/- What the functions of this program answer, part df. -/
import Derived.Test.YtmamlgjbendjhaaGreatXde
import Derived.Test.YtmamlgjbendjhaaGreatXsa
set_option linter.unusedVariables false
namespace Go.Abs.Xz
open Go Go.Abs
def C5(r:GU):Out:=⟨[⟨K38,r.1⟩,⟨K27,r.2.1⟩,⟨K3,(r.2.2,())⟩],[]⟩
theorem nA{s:aK}(h:aP s=true):SzS s:=by
 have:=((bF s).1 h).len
 exact⟨by unfold aS;omega,by unfold aS;omega⟩
theorem f298(x:NodeT)(k i:Int)(t:ByteArray)(hz:SzN x):Ran p 9 298 [.val true ⟨K38,x⟩, .val false ⟨K3,(k,())⟩, .val false ⟨K3,(i,())⟩, .val false ⟨K9,(t,())⟩] (C5 (n4 x k i t)):=go298 fun n hn=>Ev.now fun aA=>by
 have bad:pJ x k i=false→(some ⟨[⟨K38,x⟩,⟨K27,([],[],())⟩,⟨K3,((1:Int),())⟩],[]⟩:Option Out)=some (C5 (n4 x k i t)):=fun h=>by unfold n4;rw[h];rfl
 unfold T298;refine(aB (f85 x hz n (by omega))).trans ?_;refine(aB (f86 x hz n (by omega))).trans ?_
 cases g1:dA x with
 | false=>refine(aN rfl).trans ?_;exact bad (by unfold pJ;rw[g1];rfl)
 | true=>
 refine(aF rfl).trans ?_;refine(aB (f211 k 0 4 n (by omega))).trans ?_
 cases g2:inB k 0 4 with
 | false=>refine(aN rfl).trans ?_;exact bad (by unfold pJ;rw[g1,g2];rfl)
 | true=>
 refine(aF rfl).trans ?_;refine(aB (f211 i 0 (IntKind.i64.wrap (x.2.1 - 1)) n (by omega))).trans ?_
 cases g3:inB i 0 (IntKind.i64.wrap (x.2.1 - 1))with
 | false=>refine(aN rfl).trans ?_;exact bad (by unfold pJ;rw[g1,g2,g3];rfl)
 | true=>
 refine(aF rfl).trans ?_
 cases g4:l7 (k==4) (i==x.1)with
 | true=>(first | refine(aN g4).trans ?_ | refine(aN rfl).trans ?_);exact bad (by unfold pJ;rw[g1,g2,g3,g4];rfl)
 | false=>
 have ok:pJ x k i=true:=by unfold pJ;rw[g1,g2,g3,g4];rfl
 have hN:=(cN x).1 g1
 have hd:=xP x.state k i t
 (first | refine(aF g4).trans ?_ | refine(aF rfl).trans ?_);refine(bA (f344 x.state k i t hz.state n (by omega))).trans ?_
 unfold n4;rw[ok]
 cases g5:(eN x.state k i t).2 != 0 with
 | true=>(first | refine(aN g5).trans ?_ | refine(aN rfl).trans ?_);rfl
 | false=>
 (first | refine(aF g5).trans ?_ | refine(aF rfl).trans ?_);refine(bA (f345 x.log (eN x.state k i t).1 hz.list hz.logs (nA hd) n (by omega))).trans ?_
 unfold nD
 cases hb:kZ x.log (eN x.state k i t).1 with
 | false=>rfl
 | true=>
 have hid:=hN.id;have hn5:=hN.n;have hv:=hN.got
 rw[aQ] at hid hn5
 rw[IntKind.wrap_i64] at hid
 unfold dG at hv
 simp only[Bool.and_eq_true,beq_iff_eq] at hv
 have h0:(0:Int)≤x.1:=hid.1
 have hk:x.1.toNat<x.got.length:=by omega
 refine(aF rfl).trans ?_;refine(aB (f85 x hz n (by omega))).trans ?_;refine(aE h0).trans ?_;refine(aW hk).trans ?_;refine(aW hk).trans ?_;refine(aE h0).trans ?_;refine(aW hk).trans ?_;refine(aW hk).trans ?_
 refine(aB (f254 (AU x (eN x.state k i t).1) (eN x.state k i t).1 (xQ hz hN hb) (nA hd) (zD (sO hN hb)) hd n (by omega))).trans ?_;rfl
theorem xG{x:NodeT}(h:NodeOk x):NodeOk (gE x):=by
 unfold gE
 rw[(cN x).2 h]
 cases hc:x.clock==100000 with
 | true=>exact h
 | false=>
  have hcl:=h.clock;have hwt:=h.wait
  rw[aQ] at hcl hwt
  have hne:x.clock≠100000:=by rw[beq_eq_false_iff_ne] at hc;exact hc
  have hw:IntKind.i64.wrap (x.clock+1)=x.clock+1:=by rw[IntKind.wrap_i64];omega
  have hs:=(bV x).1 h.sess
  have tw:∀ s∈x.sess,IntKind.i64.wrap (s.2.2.2.1+1)=s.2.2.2.1+1:=fun s hm=>by
   have:=(hs.2.1 s hm).2.2.2;rw[aQ] at this;rw[IntKind.wrap_i64];omega
  show NodeOk (mW x)
  have e:(mW x).sess=x.sess.flatMap fun s=>bif decide (IntKind.i64.wrap (s.2.2.2.1+1)≤x.wait)then[nU s] else[]:=cG (fun s:cW=>bif decide (IntKind.i64.wrap (s.2.2.2.1+1)≤x.wait)then[nU s] else[]) x.sess
  have mem:∀ s∈(mW x).sess,∃ r∈x.sess,s=nU r∧IntKind.i64.wrap (r.2.2.2.1+1)≤x.wait:=fun s hm=>by
   rw[e] at hm
   obtain⟨r,hr,hx⟩:=List.mem_flatMap.1 hm
   refine⟨r,hr,?_⟩
   by_cases hd:IntKind.i64.wrap (r.2.2.2.1+1)≤x.wait
   ·rw[decide_eq_true hd] at hx;exact⟨List.mem_singleton.1 hx,hd⟩
   ·rw[decide_eq_false hd] at hx;cases hx
  have sub:∀ l:List cW,List.Sublist ((l.flatMap fun s=>bif decide (IntKind.i64.wrap (s.2.2.2.1+1)≤x.wait)then[nU s] else[]).map lB) (l.map lB):=fun l=>by
   induction l with
   | nil=>exact List.Sublist.slnil
   | cons s l ih=>
    rw[List.flatMap_cons,List.map_append,List.map_cons]
    cases decide (IntKind.i64.wrap (s.2.2.2.1+1)≤x.wait)with
    | true=>exact List.Sublist.cons_cons _ ih
    | false=>exact List.Sublist.cons _ ih
  exact {
   n:=h.n,id:=h.id,state:=h.state,tree:=h.tree,log:=h.log,got:=h.got,acked:=h.acked,own:=h.own,seen:=h.seen,ack:=h.ack,num:=h.num
   clock:=by show inB (IntKind.i64.wrap (x.clock+1)) 0 100000=true;rw[hw,aQ];omega
   slots:=h.slots,wait:=h.wait,limit:=h.limit,rises:=h.rises
   rise:=by
    have h6:=h.rise
    rw[bJ] at h6 ⊢
    intro i hi
    have h7:=h6 i hi
    unfold gW at h7 ⊢
    simp only[Bool.and_eq_true,aQ] at h7 ⊢
    refine⟨h7.1,h7.2.1,h7.2.2.1,?_⟩
    show(gt x.rises i).2.2.1≤IntKind.i64.wrap (x.clock+1)
    rw[hw];omega
   sess:=by
    refine(bV _).2 ⟨?_,fun s hm=>?_,?_⟩
    ·have h8:=uU x
     show(((mW x).sess.length:Nat):Int)≤x.slots
     have:=hs.1;omega
    ·obtain⟨r,hr,rfl,hle⟩:=mem s hm
     have h9:=hs.2.1 r hr
     have h10:=h9.2.2.2
     rw[aQ] at h10
     refine⟨h9.1,h9.2.1,h9.2.2.1,?_⟩
     show inB (IntKind.i64.wrap (r.2.2.2.1+1)) 0 x.wait=true
     rw[aQ];rw[tw r hr] at hle ⊢;omega
    ·rw[e];exact(sub x.sess).nodup hs.2.2 }
end Go.Abs.Xz
