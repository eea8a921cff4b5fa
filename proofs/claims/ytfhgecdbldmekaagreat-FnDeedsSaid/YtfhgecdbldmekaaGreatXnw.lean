/- What the functions of this program answer, part nw. -/
import Derived.Test.YtfhgecdbldmekaaGreatW3
import Derived.Test.YtfhgecdbldmekaaGreatXsa
import Derived.Test.YtfhgecdbldmekaaGreatXrc
import Derived.Test.YtfhgecdbldmekaaGreatXk
import Derived.Test.YtfhgecdbldmekaaGreatW2
set_option linter.unusedVariables false
open Go.IntKind (i64)
namespace Go.Abs.Pz
open Go Go.Abs
theorem IP(i:Int)(e:bI):∃ b:Bool,Ran p 4 343 [vf K3 (i,()), va K104 e] ⟨[⟨K50,sH i e⟩,⟨K4,(b,())⟩],[]⟩:=by
 have hs:=f49 ([(i,e)],[],()) (by show 1<=9223372036854775807;omega) (by show 0<=9223372036854775807;omega)
 unfold sH
 cases ho:aM ([(i,e)],[],())with
 | false=>exact⟨false,go343 λn hn=>Ev.now λaA=>by unfold T343;refine qC hs ?_;rw[ho];rfl⟩
 | true=>exact⟨true,go343 λn hn=>Ev.now λaA=>by unfold T343;refine qC hs ?_;rw[ho];rfl⟩
theorem f331(i:Int)(e:bI):Ran p 5 331 [vf K3 (i,()), va K104 e] ⟨[⟨K50,sH i e⟩,⟨K3,((0:Int),())⟩],[]⟩:=by
 obtain⟨b,hs⟩:=IP i e
 exact go331 λn hn=>Ev.now λaA=>by unfold T331;refine qD hs ?_;rfl
theorem f293(s:aE)(i:Int)(hz:SzS s):Ran p 6 293 [va K50 s, vf K3 (i,())] ⟨[⟨K50,(mG s i).1⟩,⟨K3,((mG s i).2,())⟩],[]⟩:=go293 λn hn=>Ev.now λaA=>by
 unfold T293 mG;refine qC (f49 s (aK hz.a) (aK hz.b)) ?_
 cases aM s with
 | false=>rfl
 | true=>
 refine qf ?_;refine qC (f118 i) ?_
 cases eF i with
 | false=>rfl
 | true=>
 refine qf ?_;refine qD (f330 s i hz) ?_
 cases (jB s i).2 with
 | true=>rfl
 | false=>
 refine qf ?_;refine qD (f240 s i (aK hz.a)) ?_;refine qC (f120 s i (aK hz.b)) ?_;refine qC (f161 (bH s i).1.1 (bV s.2.1 i)) ?_
 cases h:dT s i==1000 with
 | true=>(first | refine qT h ?_ | refine qt ?_);rfl
 | false=>(first | refine qF h ?_ | refine qf ?_);refine qD (f331 i (i64.wrap (dT s i+1),0,0,0,⟨#[]⟩,())) ?_;rfl
theorem f332(s:aE)(i:Int)(hz:SzS s):Ran p 6 332 [va K50 s, vf K3 (i,())] ⟨[⟨K104,(upE s i).1⟩,⟨K3,((upE s i).2,())⟩],[]⟩:=go332 λn hn=>Ev.now λaA=>by
 unfold T332 upE;refine qC (f49 s (aK hz.a) (aK hz.b)) ?_
 cases aM s with
 | false=>rfl
 | true=>
 refine qf ?_;refine qC (f118 i) ?_
 cases eF i with
 | false=>rfl
 | true=>
 refine qf ?_;refine qD (f330 s i hz) ?_
 cases (jB s i).2<;>rfl
theorem f294(s:aE)(i:Int)(hz:SzS s):Ran p 7 294 [va K50 s, vf K3 (i,())] ⟨[⟨K50,(mI s i).1⟩,⟨K3,((mI s i).2,())⟩],[]⟩:=go294 λn hn=>Ev.now λaA=>by
 unfold T294 mI;refine qD (f332 s i hz) ?_
 cases h:(upE s i).2 != 0 with
 | true=>(first | refine qT h ?_ | refine qt ?_);rfl
 | false=>
 (first | refine qF h ?_ | refine qf ?_)
 cases h2:(upE s i).1.2.2.1==100000 with
 | true=>(first | refine qT h2 ?_ | refine qt ?_);rfl
 | false=>(first | refine qF h2 ?_ | refine qf ?_);refine qD (f331 i ((upE s i).1.1,(upE s i).1.2.1,i64.wrap ((upE s i).1.2.2.1+1),(upE s i).1.2.2.2.1,(upE s i).1.2.2.2.2.1,())) ?_;rfl
theorem f295(s:aE)(i:Int)(t:ByteArray)(hz:SzS s):Ran p 7 295 [va K50 s, vf K3 (i,()), vf K9 (t,())] ⟨[⟨K50,(pT s i t).1⟩,⟨K3,((pT s i t).2,())⟩],[]⟩:=go295 λn hn=>Ev.now λaA=>by
 unfold T295 pT;refine qD (f332 s i hz) ?_
 cases h:(upE s i).2 != 0 with
 | true=>(first | refine qT h ?_ | refine qt ?_);rfl
 | false=>
 (first | refine qF h ?_ | refine qf ?_)
 cases h2:(upE s i).1.2.2.2.1==1000 with
 | true=>(first | refine qT h2 ?_ | refine qt ?_);rfl
 | false=>
 (first | refine qF h2 ?_ | refine qf ?_)
 by_cases h3:((ByteArray.size t:Nat):Int)>8
 ·refine qP h3 ?_;rw[decide_eq_true h3];rfl
 ·refine qN h3 ?_;rw[decide_eq_false h3];refine qD (f331 i ((upE s i).1.1,(upE s i).1.2.1,(upE s i).1.2.2.1,i64.wrap ((upE s i).1.2.2.2.1+1),t,())) ?_;rfl
theorem f296(s:aE)(i:Int)(hz:SzS s):Ran p 7 296 [va K50 s, vf K3 (i,())] ⟨[⟨K50,(mH s i).1⟩,⟨K3,((mH s i).2,())⟩],[]⟩:=go296 λn hn=>Ev.now λaA=>by
 unfold T296 mH;refine qD (f332 s i hz) ?_
 cases h:(upE s i).2 != 0 with
 | true=>(first | refine qT h ?_ | refine qt ?_);rfl
 | false=>(first | refine qF h ?_ | refine qf ?_);refine qD (f331 i ((upE s i).1.1,1,(upE s i).1.2.2.1,(upE s i).1.2.2.2.1,(upE s i).1.2.2.2.2.1,())) ?_;rfl
theorem f225(s:aE)(k i:Int)(t:ByteArray)(hz:SzS s):Ran p 8 225 [va K50 s, vf K3 (k,()), vf K3 (i,()), vf K9 (t,())] ⟨[⟨K50,(eR s k i t).1⟩,⟨K3,((eR s k i t).2,())⟩],[]⟩:=go225 λn hn=>Ev.now λaA=>by
 unfold T225 eR
 cases k==0 with
 | true=>refine qt ?_;refine qD (f293 s i hz) ?_;rfl
 | false=>
 refine qf ?_
 cases k==1 with
 | true=>refine qt ?_;refine qD (f294 s i hz) ?_;rfl
 | false=>
 refine qf ?_
 cases k==2 with
 | true=>refine qt ?_;refine qD (f295 s i t hz) ?_;rfl
 | false=>refine qf ?_;refine qD (f296 s i hz) ?_;rfl
theorem f226(l:iE)(d:aE)(hl:l.2.2.1.length<=aV)(hs:∀ i,i<l.2.2.1.length->SzS (gt l.2.2.1 i))(hz:SzS d):Ran p 5 226 [va K61 l, va K50 d] ⟨[⟨K61,(sP l d).1⟩,⟨K4,((sP l d).2,())⟩],[]⟩:=go226 λn hn=>Ev.now λaA=>by
 unfold T226 sP nF;refine qC (f223 l hl hs) ?_;refine qC (f113 l hl hs) ?_
 cases g1:fB l with
 | false=>rfl
 | true=>
 refine qf ?_;refine qC (f49 d (aK hz.a) (aK hz.b)) ?_
 cases aM d with
 | false=>rfl
 | true=>
 refine qf ?_
 cases h:i64.wrap (l.2.1+(l.2.2.1.length:Int))==100000 with
 | true=>(first | refine qT h ?_ | refine qt ?_);rfl
 | false=>
 (first | refine qF h ?_ | refine qf ?_)
 have hb:l.2.2.1.length+1<=bound:=by unfold aV at hl;unfold bound;omega
 have hlen:(l.2.2.1++[d]).length=l.2.2.1.length+1:=by rw[List.length_append,List.length_singleton]
 refine qC (f134 d hz) ?_;refine qP hb ?_
 show _=some (⟨[⟨K61,eA l d⟩,⟨K4,(true,())⟩],[]⟩:Out)
 unfold eA
 by_cases hc:(((l.2.2.1++[d]).length:Nat):Int)>l.1
 ·refine qP hc ?_;rw[decide_eq_true hc]
  refine(CC (show(0:Int)<=1 by omega) (show(1:Int)<=(((l.2.2.1++[d]).length:Nat):Int) by rw[hlen];omega)).trans ?_
  refine qP (show List.length ([]:List aE)+(((l.2.2.1++[d]).take (l.2.2.1++[d]).length).drop ((1:Int)).toNat).length<=bound by rw[List.take_length,List.length_drop,hlen];simp;omega) ?_
  show(some ⟨[⟨K61,(l.1,i64.wrap (l.2.1+1),(((l.2.2.1++[d]).take (l.2.2.1++[d]).length).drop ((1:Int)).toNat),())⟩,⟨K4,(true,())⟩],[]⟩:Option Out)=_
  rw[List.take_length];rfl
 ·refine qN hc ?_;rw[decide_eq_false hc];rfl
end Go.Abs.Pz
namespace Go.Abs.Pz
open Go Go.Abs
def ES(r:L6):Out:=⟨[⟨K66,r.1⟩,⟨K50,r.2.1⟩,⟨K3,(r.2.2,())⟩],[]⟩
theorem pR{s:aE}(h:aM s=true):SzS s:=by
 have:=((aP s).1 h).len
 exact⟨by unfold aV;omega,by unfold aV;omega⟩
theorem f136(x:NodeT)(k i:Int)(t:ByteArray)(hz:SzN x):Ran p 9 136 [va K66 x, vf K3 (k,()), vf K3 (i,()), vf K9 (t,())] (ES (hI x k i t)):=go136 λn hn=>Ev.now λaA=>by
 have bad:nY x k i=false->(some ⟨[⟨K66,x⟩,⟨K50,([],[],())⟩,⟨K3,((1:Int),())⟩],[]⟩:Option Out)=some (ES (hI x k i t)):=λh=>by unfold hI;rw[h];rfl
 unfold T136;refine qC (f132 x hz) ?_;refine qC (f48 x hz) ?_
 cases g1:dD x with
 | false=>refine qt ?_;exact bad (by unfold nY;rw[g1];rfl)
 | true=>
 refine qf ?_;refine qC (f47 k 0 4) ?_
 cases g2:inB k 0 4 with
 | false=>refine qt ?_;exact bad (by unfold nY;rw[g1,g2];rfl)
 | true=>
 refine qf ?_;refine qC (f47 i 0 (i64.wrap (x.2.1 - 1))) ?_
 cases g3:inB i 0 (i64.wrap (x.2.1 - 1))with
 | false=>refine qt ?_;exact bad (by unfold nY;rw[g1,g2,g3];rfl)
 | true=>
 refine qf ?_
 cases g4:nD (k==4) (i==x.1)with
 | true=>(first | refine qT g4 ?_ | refine qt ?_);exact bad (by unfold nY;rw[g1,g2,g3,g4];rfl)
 | false=>
 have ok:nY x k i=true:=by unfold nY;rw[g1,g2,g3,g4];rfl
 have hN:=(dW x).1 g1
 have hd:=vH x.state k i t
 (first | refine qF g4 ?_ | refine qf ?_);refine qD (f225 x.state k i t hz.state) ?_
 unfold hI;rw[ok]
 cases g5:(eR x.state k i t).2 != 0 with
 | true=>(first | refine qT g5 ?_ | refine qt ?_);rfl
 | false=>
 (first | refine qF g5 ?_ | refine qf ?_);refine qD (f226 x.log (eR x.state k i t).1 hz.list hz.logs (pR hd)) ?_
 unfold sP
 cases hb:nF x.log (eR x.state k i t).1 with
 | false=>rfl
 | true=>
 have hid:=hN.id;have hn5:=hN.n;have hv:=hN.got
 rw[aQ] at hid hn5
 rw[IntKind.wrap_i64] at hid
 unfold eQ at hv
 simp only[Bool.and_eq_true,beq_iff_eq] at hv
 have h0:(0:Int)<=x.1:=hid.1
 have hk:x.1.toNat<x.got.length:=by omega
 refine qf ?_;refine qC (f132 x hz) ?_;refine qP h0 ?_;refine(bA hk).trans ?_;refine(bA hk).trans ?_;refine qP h0 ?_;refine(bA hk).trans ?_;refine(bA hk).trans ?_
 refine qC (f227 (GI x (eR x.state k i t).1) (eR x.state k i t).1 (AK hz hN hb) (pR hd) (EF (vJ hN hb)) hd) ?_;rfl
theorem O2{x:NodeT}(h:NodeOk x):NodeOk (mU x):=by
 unfold mU
 rw[(dW x).2 h]
 cases hc:x.clock==100000 with
 | true=>exact h
 | false=>
  have hcl:=h.clock;have hwt:=h.wait
  rw[aQ] at hcl hwt
  have hne:x.clock≠100000:=by rw[beq_eq_false_iff_ne] at hc;exact hc
  have hw:i64.wrap (x.clock+1)=x.clock+1:=by rw[IntKind.wrap_i64];omega
  have hs:=(dV x).1 h.sess
  have tw:∀ s∈x.sess,i64.wrap (s.2.2.2.1+1)=s.2.2.2.1+1:=λs hm=>by
   have:=(hs.2.1 s hm).2.2.2;rw[aQ] at this;rw[IntKind.wrap_i64];omega
  show NodeOk (x9 x)
  have e:(x9 x).sess=x.sess.flatMap λs=>bif decide (i64.wrap (s.2.2.2.1+1)<=x.wait)then[z3 s] else[]:=cI (λs:eI=>bif decide (i64.wrap (s.2.2.2.1+1)<=x.wait)then[z3 s] else[]) x.sess
  have mem:∀ s∈(x9 x).sess,∃ r∈x.sess,s=z3 r/\i64.wrap (r.2.2.2.1+1)<=x.wait:=λs hm=>by
   rw[e] at hm
   obtain⟨r,hr,hx⟩:=List.mem_flatMap.1 hm
   refine⟨r,hr,?_⟩
   by_cases hd:i64.wrap (r.2.2.2.1+1)<=x.wait
   ·rw[decide_eq_true hd] at hx;exact⟨List.mem_singleton.1 hx,hd⟩
   ·rw[decide_eq_false hd] at hx;cases hx
  have sub:∀ l:List eI,List.Sublist ((l.flatMap λs=>bif decide (i64.wrap (s.2.2.2.1+1)<=x.wait)then[z3 s] else[]).map rL) (l.map rL):=λl=>by
   induction l with
   | nil=>exact List.Sublist.slnil
   | cons s l ih=>
    rw[List.flatMap_cons,List.map_append,List.map_cons]
    cases decide (i64.wrap (s.2.2.2.1+1)<=x.wait)with
    | true=>exact List.Sublist.cons_cons _ ih
    | false=>exact List.Sublist.cons _ ih
  exact {
   n:=h.n,id:=h.id,state:=h.state,tree:=h.tree,log:=h.log,got:=h.got,acked:=h.acked,own:=h.own,seen:=h.seen,ack:=h.ack,num:=h.num
   clock:=by show inB (i64.wrap (x.clock+1)) 0 100000=true;rw[hw,aQ];omega
   slots:=h.slots,wait:=h.wait,limit:=h.limit,rises:=h.rises
   rise:=by
    have h6:=h.rise
    rw[bJ] at h6 ⊢
    intro i hi
    have h7:=h6 i hi
    unfold lJ at h7 ⊢
    simp only[Bool.and_eq_true,aQ] at h7 ⊢
    refine⟨h7.1,h7.2.1,h7.2.2.1,?_⟩
    show(gt x.rises i).2.2.1<=i64.wrap (x.clock+1)
    rw[hw];omega
   sess:=by
    refine(dV _).2 ⟨?_,λs hm=>?_,?_⟩
    ·have h8:=CZ x
     show(((x9 x).sess.length:Nat):Int)<=x.slots
     have:=hs.1;omega
    ·obtain⟨r,hr,rfl,hle⟩:=mem s hm
     have h9:=hs.2.1 r hr
     have h10:=h9.2.2.2
     rw[aQ] at h10
     refine⟨h9.1,h9.2.1,h9.2.2.1,?_⟩
     show inB (i64.wrap (r.2.2.2.1+1)) 0 x.wait=true
     rw[aQ];rw[tw r hr] at hle ⊢;omega
    ·rw[e];exact(sub x.sess).nodup hs.2.2 }
end Go.Abs.Pz
set_option maxHeartbeats 4000000
namespace Go.Abs.Pz
open Go Go.Abs
abbrev eU:=Int×Int×Int×Int×ByteArray×Unit
def LB(x:NodeT)(i:Int):MsgT:=(0,x.1,i,0,cJ x.log,[],0,x.got,[],(oK x (gt x.acked i.toNat).1).1,(oK x (gt x.acked i.toNat).1).2.1,d8 x.state,())
def eX(x:NodeT)(i:Int):MsgT×Bool:=bif dD x&&i9 x i then(LB x i,true)else(wZ,false)
def LA(r:MsgT×Bool):Out:=⟨[⟨K53,r.1⟩,⟨K4,(r.2,())⟩],[]⟩
theorem PO{x:NodeT}(hz:SzN x)(i:Int):SzM (LB x i):=⟨Nat.zero_le _,hz.got,Nat.zero_le _,AG hz _,Nat.le_trans (iL _) (by decide)⟩
theorem GW{x:NodeT}(hz:SzN x)(i:Int):SzM (eX x i).1:=by
 unfold eX
 cases dD x&&i9 x i with
 | true=>exact PO hz i
 | false=>exact LK
theorem LF{x:NodeT}{i:Int}(h:dD x=true)(hp:i9 x i=true):0<=i/\i.toNat<x.acked.length:=by
 have hn:=(dW x).1 h
 have h1:=hn.n;have h2:=hn.acked
 unfold i9 at hp
 rw[Bool.and_eq_true,aQ] at hp
 unfold eQ at h2
 rw[Bool.and_eq_true,Bool.and_eq_true] at h2
 have h3:=eq_of_beq h2.2.1
 rw[aQ] at h1
 have h4:=hp.1
 rw[IntKind.wrap_i64] at h4
 omega
theorem f137(x:NodeT)(i:Int)(hz:SzN x):Ran p 8 137 [va K66 x, vf K3 (i,())] (LA (eX x i)):=go137 λn hn=>Ev.now λaA=>by
 unfold T137;refine qC (f48 x hz) ?_
 cases g1:dD x with
 | false=>refine qt ?_;rw[show eX x i=(wZ,false) by unfold eX;rw[g1];rfl];rfl
 | true=>
 refine qf ?_;refine qC (f228 x i) ?_
 cases g2:i9 x i with
 | false=>refine qt ?_;rw[show eX x i=(wZ,false) by unfold eX;rw[g1,g2];rfl];rfl
 | true=>
 obtain⟨h0,hl⟩:=LF g1 g2
 rw[show eX x i=(LB x i,true) by unfold eX;rw[g1,g2];rfl]
 refine qf ?_;refine qC (f229 x 0 i 0 hz) ?_;refine qP h0 ?_
 obtain⟨k,rfl⟩:∃ k:Nat,i=(k:Int):=⟨i.toNat,by omega⟩
 refine(aD (show k<x.acked.length by omega)).trans ?_;refine qD (f230 x (gt x.acked k).1 hz) ?_;rfl
theorem f140(l:List c9)(i:Nat)(hi:i<l.length)(hl:l.length<=aV):Ran p 1 140 [vf K25 (l,()), vf K3 ((i:Int),())] (rO K25 (l.take i++l.drop (i+1),())):=go140 λn hn=>Ev.now λaA=>by
 have hs:l.length<=1048576:=hl
 have e1:i64.wrap ((i:Int)+1)=((i+1:Nat):Int):=aF (by omega)
 have b1:0+((l.take ((i:Int)).toNat).drop 0).length<=bound:=by rw[List.length_drop,List.length_take];unfold bound;omega
 have b2:(([]:List c9)++(l.take ((i:Int)).toNat).drop 0).length+((l.take l.length).drop ((i+1:Nat):Int).toNat).length<=bound:=by
  rw[List.nil_append,List.length_drop,List.length_take,List.length_drop,List.length_take];unfold bound;omega
 unfold T140;rw[e1];refine qT (rng (c:=True) (d:=True) (show(0:Int)<=(i:Int) by omega) (show(i:Int)<=(l.length:Int) by omega)) ?_;refine qP b1 ?_;refine qT (rng (c:=True) (d:=True) (show(0:Int)<=((i+1:Nat):Int) by omega) (show((i+1:Nat):Int)<=(l.length:Int) by omega)) ?_;refine qP b2 ?_
 exact congrArg (λq:List c9=>(rV K25 (q,()):Option Out)) (by
  show(([]:List c9)++List.drop (α:=c9) 0 (List.take (α:=c9) ((i:Int)).toNat l))++List.drop (α:=c9) ((i+1:Nat):Int).toNat (List.take (α:=c9) l.length l)=l.take i++l.drop (i+1)
  rw[List.take_length,Int.toNat_natCast,Int.toNat_natCast];rfl)
-- worlds, changed by deeds
structure SzY (w:aZ):Prop extends SzX w where
 by_:∀ i,i<w.2.1.length->ByL (gt w.2.1 i).2.1
def rJ(r:aZ×Int):Out:=⟨[⟨K28,r.1⟩,⟨K3,(r.2,())⟩],[]⟩
def cU(w:aZ)(d:eU):aZ×Int:=
 bif d.1==1 then((w.1.set d.2.1.toNat (mU (gt w.1 d.2.1.toNat)),w.2.1,w.2.2.1,()),0)else
 bif d.1==0 then(bif(w.2.2.1.length:Int)==40 then(w,3)else bif(hI (gt w.1 d.2.1.toNat) d.2.2.1 d.2.2.2.1 d.2.2.2.2.1).2.2 != 0 then(w,2)else
  ((w.1.set d.2.1.toNat (hI (gt w.1 d.2.1.toNat) d.2.2.1 d.2.2.2.1 d.2.2.2.2.1).1,w.2.1,w.2.2.1++[(d.2.1,(hI (gt w.1 d.2.1.toNat) d.2.2.1 d.2.2.2.1 d.2.2.2.2.1).2.1)],()),0))else
 bif(w.2.1.length:Int)==12 then(w,3)else
 bif d.1==2 then(bif !(eX (gt w.1 d.2.1.toNat) d.2.2.1).2 then(w,2)else((w.1,w.2.1++[(d.2.2.1,bD (eX (gt w.1 d.2.1.toNat) d.2.2.1).1,false,())],w.2.2.1,()),0))else
 (bif !(gH (gt w.1 d.2.1.toNat) d.2.2.1).2.2 then((w.1.set d.2.1.toNat (gH (gt w.1 d.2.1.toNat) d.2.2.1).1,w.2.1,w.2.2.1,()),2)else
  ((w.1.set d.2.1.toNat (gH (gt w.1 d.2.1.toNat) d.2.2.1).1,w.2.1++[(d.2.2.1,bD (gH (gt w.1 d.2.1.toNat) d.2.2.1).2.1,false,())],w.2.2.1,()),0))
theorem f54(w:aZ)(d:eU)(hz:SzX w)(h0:0<=d.2.1)(ha:d.2.1.toNat<w.1.length)(hn0:w.2.1.length<=12)(hs0:w.2.2.1.length<=40):Ran p 10 54 [va K28 w, va K36 d] (rJ (cU w d)):=go54 λn hn=>Ev.now λaA=>by
 obtain⟨dk,dA,dB,dC,dt,du⟩:=d
 obtain⟨a,rfl⟩:∃ a:Nat,dA=(a:Int):=⟨dA.toNat,by have h0:0<=dA:=h0;omega⟩
 have ha:a<w.1.length:=ha
 have hx:=hz.node a ha
 unfold T54;refine qC (f53 w hz) ?_;refine qz ?_;refine(aD ha).trans ?_
 cases g1:dk==1 with
 | true=>
  (first | refine qT g1 ?_ | refine qt ?_);refine qC (f135 (gt w.1 a) hx) ?_;refine qz ?_;refine(aD ha).trans ?_;refine(aD ha).trans ?_
  rw[show cU w (dk,(a:Int),dB,dC,dt,du)=((w.1.set a (mU (gt w.1 a)),w.2.1,w.2.2.1,()),0) by unfold cU;rw[g1];rfl];rfl
 | false=>
 (first | refine qF g1 ?_ | refine qf ?_)
 cases g0:dk==0 with
 | true=>
  (first | refine qT g0 ?_ | refine qt ?_)
  cases gs:(w.2.2.1.length:Int)==40 with
  | true=>(first | refine qT gs ?_ | refine qt ?_);rw[show cU w (dk,(a:Int),dB,dC,dt,du)=(w,3) by unfold cU;rw[g1,g0,gs];rfl];rfl
  | false=>
   (first | refine qF gs ?_ | refine qf ?_);refine qE (f136 (gt w.1 a) dB dC dt hx) ?_
   cases gc:(hI (gt w.1 a) dB dC dt).2.2 != 0 with
   | true=>(first | refine qT gc ?_ | refine qt ?_);rw[show cU w (dk,(a:Int),dB,dC,dt,du)=(w,2) by unfold cU;rw[g1,g0,gs];show(bif(hI (gt w.1 a) dB dC dt).2.2 != 0 then(w,(2:Int))else _)=_;rw[gc];rfl];rfl
   | false=>
    have hbd:w.2.2.1.length+1<=bound:=by unfold bound;omega
    (first | refine qF gc ?_ | refine qf ?_);refine qz ?_;refine(aD ha).trans ?_;refine(aD ha).trans ?_;refine qP hbd ?_
    rw[show cU w (dk,(a:Int),dB,dC,dt,du)=((w.1.set a (hI (gt w.1 a) dB dC dt).1,w.2.1,w.2.2.1++[((a:Int),(hI (gt w.1 a) dB dC dt).2.1)],()),0) by unfold cU;rw[g1,g0,gs];show(bif(hI (gt w.1 a) dB dC dt).2.2 != 0 then(w,(2:Int))else _)=_;rw[gc];rfl];rfl
 | false=>
 (first | refine qF g0 ?_ | refine qf ?_)
 cases gm:(w.2.1.length:Int)==12 with
 | true=>(first | refine qT gm ?_ | refine qt ?_);rw[show cU w (dk,(a:Int),dB,dC,dt,du)=(w,3) by unfold cU;rw[g1,g0,gm];rfl];rfl
 | false=>
 have hbn:w.2.1.length+1<=bound:=by unfold bound;omega
 (first | refine qF gm ?_ | refine qf ?_)
 cases g2:dk==2 with
 | true=>
  (first | refine qT g2 ?_ | refine qt ?_);refine qD (f137 (gt w.1 a) dB hx) ?_
  cases gp:(eX (gt w.1 a) dB).2 with
  | false=>refine qt ?_;rw[show cU w (dk,(a:Int),dB,dC,dt,du)=(w,2) by unfold cU;rw[g1,g0,gm,g2];show(bif !(eX (gt w.1 a) dB).2 then(w,(2:Int))else _)=_;rw[gp];rfl];rfl
  | true=>
   refine qf ?_;refine qC (f76 (eX (gt w.1 a) dB).1 (GW hx dB)) ?_;refine qP hbn ?_
   rw[show cU w (dk,(a:Int),dB,dC,dt,du)=((w.1,w.2.1++[(dB,bD (eX (gt w.1 a) dB).1,false,())],w.2.2.1,()),0) by unfold cU;rw[g1,g0,gm,g2];show(bif !(eX (gt w.1 a) dB).2 then(w,(2:Int))else _)=_;rw[gp];rfl];rfl
 | false=>
  (first | refine qF g2 ?_ | refine qf ?_);refine qE (f138 (gt w.1 a) dB hx) ?_;refine qz ?_;refine(aD ha).trans ?_;refine(aD ha).trans ?_
  cases gp:(gH (gt w.1 a) dB).2.2 with
  | false=>refine qt ?_;rw[show cU w (dk,(a:Int),dB,dC,dt,du)=((w.1.set a (gH (gt w.1 a) dB).1,w.2.1,w.2.2.1,()),2) by unfold cU;rw[g1,g0,gm,g2];show(bif !(gH (gt w.1 a) dB).2.2 then _ else _)=_;rw[gp];rfl];rfl
  | true=>
   refine qf ?_;refine qC (f76 (gH (gt w.1 a) dB).2.1 (EJ hx dB).2) ?_;refine qP hbn ?_
   rw[show cU w (dk,(a:Int),dB,dC,dt,du)=((w.1.set a (gH (gt w.1 a) dB).1,w.2.1++[(dB,bD (gH (gt w.1 a) dB).2.1,false,())],w.2.2.1,()),0) by unfold cU;rw[g1,g0,gm,g2];show(bif !(gH (gt w.1 a) dB).2.2 then _ else _)=_;rw[gp];rfl];rfl
def IE(b:List aH):Int:=((cW b).getD wZ).2.2.1
def lU(rs:List bT):Nat->Nat->List c9->List c9
 | 0,i,net=>net
 | k+1,i,net=>bif decide ((net.length:Int)<12)then lU rs k (i+1) (net++[(IE (gt rs i).1,(gt rs i).1,false,())])else net
def dF(l:List c9)(i:Nat):List c9:=l.take i++l.drop (i+1)
def nP(w:aZ)(a:Nat):aZ:=
 (w.1.set (gt w.2.1 a).1.toNat (fG (gt w.1 (gt w.2.1 a).1.toNat) (gt w.2.1 a).2.1).1,lU (fG (gt w.1 (gt w.2.1 a).1.toNat) (gt w.2.1 a).2.1).2.1 (fG (gt w.1 (gt w.2.1 a).1.toNat) (gt w.2.1 a).2.1).2.1.length 0 (dF w.2.1 a),w.2.2.1,())
theorem ND(o:Option MsgT):oA o=⟨[⟨K53,o.getD wZ⟩,⟨K4,(o.isSome,())⟩],[]⟩:=by cases o<;>rfl
structure RbOk (r:NodeT×List bT×Int):Prop where
 node:SzN r.1
 len:r.2.1.length<=1
 row:∀ q∈r.2.1,ByL q.1/\q.1.length<=504
theorem yI{x:NodeT}(hz:SzN x)(b:List aH):RbOk (fG x b):=by
 cases h:cW b with
 | none=>rw[lB h];exact⟨hz,Nat.zero_le _,λq hq=>by cases hq⟩
 | some m=>
  have rs:=EZ hz (A5 h)
  rw[lA h]
  refine⟨rs.node,by rw[List.length_map];exact rs.len,λq hq=>?_⟩
  obtain⟨a,_,rfl⟩:=List.mem_map.1 hq
  exact⟨nN a,v4 a⟩
structure PkOk (p:c9):Prop where
 by_:ByL p.2.1
 len:p.2.1.length<=aV
theorem SzY.pk{w:aZ}(h:SzY w){i:Nat}(hi:i<w.2.1.length):PkOk (gt w.2.1 i):=⟨h.by_ i hi,h.bytes i hi⟩
theorem SzY.all{w:aZ}(h:SzY w):∀ q∈w.2.1,PkOk q:=λq hq=>by
 obtain⟨i,hi,rfl⟩:=fR hq
 exact h.pk hi
theorem x7{l:List c9}{i:Nat}{q:c9}(h:q∈dF l i):q∈l:=by
 rcases List.mem_append.1 h with h | h
 ·exact List.mem_of_mem_take h
 ·exact List.mem_of_mem_drop h
theorem jX(l:List c9)(i:Nat):(dF l i).length<=l.length:=by
 unfold dF;rw[List.length_append,List.length_take,List.length_drop];omega
theorem L5{rs:List bT}(hr:∀ q∈rs,ByL q.1/\q.1.length<=504):∀ (k i:Nat) (net:List c9),i+k<=rs.length->(∀ q∈net,PkOk q)->net.length<=12->(∀ q∈lU rs k i net,PkOk q)/\(lU rs k i net).length<=12
 | 0,i,net,_,h,hl=>⟨h,hl⟩
 | k+1,i,net,hi,h,hl=>by
  unfold lU
  by_cases h12:(net.length:Int)<12
  ·rw[decide_eq_true h12]
   have hg:=hr _ (bZ (show i<rs.length by omega))
   refine L5 hr k (i+1) _ (by omega) (λq hq=>?_) (by rw[List.length_append,List.length_singleton];omega)
   rcases List.mem_append.1 hq with hq | hq
   ·exact h q hq
   ·rw[List.mem_singleton.1 hq];exact⟨hg.1,Nat.le_trans hg.2 (by decide)⟩
  ·rw[decide_eq_false h12];exact⟨h,hl⟩
theorem f139(w:aZ)(a:Nat)(hz:SzY w)(ha:a<w.2.1.length)(hn0:w.2.1.length<=12)(hp0:0<=(gt w.2.1 a).1)(hp:(gt w.2.1 a).1.toNat<w.1.length):Ran p 12 139 [va K28 w, vf K3 ((a:Int),())] (rO K28 (nP w a)):=go139 λn hn=>by
 have hq:=hz.pk ha
 have hx:=hz.node _ hp
 have hR:=yI hx (gt w.2.1 a).2.1
 have hrb:=f232 (gt w.1 (gt w.2.1 a).1.toNat) (gt w.2.1 a).2.1 hx hq.by_.b8 hq.len
 obtain⟨t,ht⟩:∃ t:Nat,(gt w.2.1 a).1=(t:Int):=⟨(gt w.2.1 a).1.toNat,by omega⟩
 have htn:(gt w.2.1 a).1.toNat=t:=by rw[ht];rfl
 have htl:t<w.1.length:=by rw[<- htn];exact hp
 have e1:i64.wrap ((a:Int)+1)=((a+1:Nat):Int):=aF (by omega)
 have b1:0+((w.2.1.take ((a:Int)).toNat).drop 0).length<=bound:=by rw[List.length_drop,List.length_take];unfold bound;omega
 have b2:(([]:List c9)++(w.2.1.take ((a:Int)).toNat).drop 0).length+((w.2.1.take w.2.1.length).drop ((a+1:Nat):Int).toNat).length<=bound:=by
  rw[List.nil_append,List.length_drop,List.length_take,List.length_drop,List.length_take];unfold bound;omega
 have ew:([]++(w.2.1.take ((a:Int)).toNat).drop 0)++(w.2.1.take w.2.1.length).drop ((a+1:Nat):Int).toNat=dF w.2.1 a:=by
  unfold dF;rw[List.take_length,Int.toNat_natCast,Int.toNat_natCast];rfl
 have hW:nP w a=(w.1.set t (fG (gt w.1 t) (gt w.2.1 a).2.1).1,lU (fG (gt w.1 t) (gt w.2.1 a).2.1).2.1 (fG (gt w.1 t) (gt w.2.1 a).2.1).2.1.length 0 (dF w.2.1 a),w.2.2.1,()):=by unfold nP;rw[htn]
 rw[htn] at hrb hR
 generalize fG (gt w.1 t) (gt w.2.1 a).2.1=R at hrb hR hW
 have lp:∀ (k i:Nat) (net:List c9),i+k=R.2.1.length->net.length<=12->It (λaA (_:Unit)=>c139_7 (aJ p n) aA ((w,()),()) ((R.1,(R.2.1,()),(R.2.2,()),()),()) (gt (α:=c9) w.2.1 a)) ((i:Int),net) (λ_=>rV K28 ((w.1.set t R.1,lU R.2.1 k i net,w.2.2.1,()):aZ)):=by
  intro k
  induction k with
  | zero=>
   intro i net hi hl
   refine It.stop λaA u rec=>?_
   unfold c139_7;dsimp only;refine qN (show ¬ ((i:Int)<(R.2.1.length:Int)) by omega) ?_;rw[<- htn];rfl
  | succ k ih=>
   intro i net hi hl
   have hlt:i<R.2.1.length:=by omega
   by_cases h12:(net.length:Int)<12
   ·have hg:=hR.row _ (bZ hlt)
    have hmo:=f23 (gt R.2.1 i).1 hg.1.b8 (Nat.le_trans hg.2 (by decide))
    rw[ND] at hmo
    have hbd:net.length+1<=bound:=by unfold bound;omega
    have e2:lU R.2.1 (k+1) i net=lU R.2.1 k (i+1) (net++[(IE (gt R.2.1 i).1,(gt R.2.1 i).1,false,())]):=by
     conv=>lhs;unfold lU
     rw[decide_eq_true h12];rfl
    rw[e2]
    refine It.next (λaA u rec=>?_) (ih (i+1) (net++[(IE (gt R.2.1 i).1,(gt R.2.1 i).1,false,())]) (by omega) (by rw[List.length_append,List.length_singleton];omega))
    unfold c139_7;dsimp only;rw[aF (show i<9223372036854775807 by have:=hR.len;omega)];refine ql hlt ?_;refine qP h12 ?_;refine qz ?_;refine(aD hlt).trans ?_;refine(aD hlt).trans ?_;refine qD hmo ?_;refine qz ?_;refine(aD hlt).trans ?_;refine(aD hlt).trans ?_;refine qP hbd ?_;rfl
   ·have e2:lU R.2.1 (k+1) i net=net:=by
     conv=>lhs;unfold lU
     rw[decide_eq_false h12];rfl
    rw[e2]
    refine It.stop λaA u rec=>?_
    unfold c139_7;dsimp only;refine ql hlt ?_;refine qN h12 ?_;rw[<- htn];rfl
 have lp0:=lp R.2.1.length 0 (dF w.2.1 a) (by omega) (Nat.le_trans (jX _ _) hn0)
 rw[hW]
 exact Ev.eq (λaA=>by
  unfold T139;refine qC (f53 w hz.toSzX) ?_;refine qz ?_;refine(aD ha).trans ?_;refine qC (f140 w.2.1 a ha (show w.2.1.length<=1048576 by omega)) ?_
  refine qP hp0 ?_;rw[show vI (gt w.2.1 a).1=(t:Int)from ht];refine(aD htl).trans ?_;refine qE hrb ?_;refine qz ?_;refine(aD htl).trans ?_;refine(aD htl).trans ?_
  rfl) (lp0.ev (i:=()) rfl)
end Go.Abs.Pz
set_option maxHeartbeats 4000000
namespace Go.Abs.Pz
open Go Go.Abs
def AC(q:c9)(b:Nat)(c:Int):c9:=(q.1,q.2.1.set b (jQ .u8 (gt q.2.1 b).1 (IntKind.u8.wrap c),(gt q.2.1 b).2),true,q.2.2.2)
def mL(w:aZ)(d:eU):Bool:=(gt w.2.1 d.2.1.toNat).2.2.1||(!inB d.2.2.1 0 (i64.wrap ((((gt w.2.1 d.2.1.toNat).2.1.length:Nat):Int) - 1))|| !inB d.2.2.2.1 1 255)
def jA(w:aZ)(d:eU):aZ×Int:=
 bif d.1==4 then(nP w d.2.1.toNat,0)else
 bif d.1==5 then((w.1,dF w.2.1 d.2.1.toNat,w.2.2.1,()),0)else
 bif d.1==6 then(bif(w.2.1.length:Int)==12 then(w,3)else((w.1,w.2.1++[gt w.2.1 d.2.1.toNat],w.2.2.1,()),0))else
 bif mL w d then(w,2)else((w.1,w.2.1.set d.2.1.toNat (AC (gt w.2.1 d.2.1.toNat) d.2.2.1.toNat d.2.2.2.1),w.2.2.1,()),0)
theorem f55(w:aZ)(d:eU)(hz:SzY w)(h0:0<=d.2.1)(ha:d.2.1.toNat<w.2.1.length)(hn0:w.2.1.length<=12)(hp0:0<=(gt w.2.1 d.2.1.toNat).1)(hp:(gt w.2.1 d.2.1.toNat).1.toNat<w.1.length):
  Ran p 13 55 [va K28 w, va K36 d] (rJ (jA w d)):=go55 λn hn=>Ev.now λaA=>by
 obtain⟨dk,dA,dB,dC,dt,du⟩:=d
 obtain⟨a,rfl⟩:∃ a:Nat,dA=(a:Int):=⟨dA.toNat,by have h0:0<=dA:=h0;omega⟩
 have ha:a<w.2.1.length:=ha
 have hq:=hz.pk ha
 unfold T55;refine qC (f53 w hz.toSzX) ?_;refine qz ?_;refine(aD ha).trans ?_;refine(aD ha).trans ?_
 cases g4:dk==4 with
 | true=>(first | refine qT g4 ?_ | refine qt ?_);refine qC (f139 w a hz ha hn0 hp0 hp) ?_;rw[show jA w (dk,(a:Int),dB,dC,dt,du)=(nP w a,0) by unfold jA;rw[g4];rfl];rfl
 | false=>
 (first | refine qF g4 ?_ | refine qf ?_)
 cases g5:dk==5 with
 | true=>(first | refine qT g5 ?_ | refine qt ?_);refine qC (f140 w.2.1 a ha hz.net) ?_;rw[show jA w (dk,(a:Int),dB,dC,dt,du)=((w.1,dF w.2.1 a,w.2.2.1,()),0) by unfold jA;rw[g4,g5];rfl];rfl
 | false=>
 (first | refine qF g5 ?_ | refine qf ?_)
 cases g6:dk==6 with
 | true=>
  (first | refine qT g6 ?_ | refine qt ?_)
  cases gm:(w.2.1.length:Int)==12 with
  | true=>(first | refine qT gm ?_ | refine qt ?_);rw[show jA w (dk,(a:Int),dB,dC,dt,du)=(w,3) by unfold jA;rw[g4,g5,g6,gm];rfl];rfl
  | false=>
   have hbn:w.2.1.length+1<=bound:=by unfold bound;omega
   (first | refine qF gm ?_ | refine qf ?_);refine(aD ha).trans ?_;refine qC (f133 (gt w.2.1 a) hq.len) ?_;refine qP hbn ?_;rw[show jA w (dk,(a:Int),dB,dC,dt,du)=((w.1,w.2.1++[gt w.2.1 a],w.2.2.1,()),0) by unfold jA;rw[g4,g5,g6,gm];rfl];rfl
 | false=>
 (first | refine qF g6 ?_ | refine qf ?_)
 have hNo:∀ B C:Int,mL w (dk,(a:Int),B,C,dt,du)=((gt w.2.1 a).2.2.1||(!inB B 0 (i64.wrap ((((gt w.2.1 a).2.1.length:Nat):Int) - 1))|| !inB C 1 255)):=λ_ _=>rfl
 have no:mL w (dk,(a:Int),dB,dC,dt,du)=true->jA w (dk,(a:Int),dB,dC,dt,du)=(w,2):=λh=>by unfold jA;rw[g4,g5,g6,h];rfl
 cases gs:(gt w.2.1 a).2.2.1 with
 | true=>(first | refine qT gs ?_ | refine qt ?_);rw[no (by rw[hNo,gs];rfl)];rfl
 | false=>
 (first | refine qF gs ?_ | refine qf ?_);refine(aD ha).trans ?_;refine qC (f47 dB 0 (i64.wrap ((((gt w.2.1 a).2.1.length:Nat):Int) - 1))) ?_
 cases gb:inB dB 0 (i64.wrap ((((gt w.2.1 a).2.1.length:Nat):Int) - 1))with
 | false=>refine qt ?_;rw[no (by rw[hNo,gs,gb];rfl)];rfl
 | true=>
 refine qf ?_;refine qC (f47 dC 1 255) ?_
 cases gc:inB dC 1 255 with
 | false=>refine qt ?_;rw[no (by rw[hNo,gs,gb,gc];rfl)];rfl
 | true=>
 have hb:=gb
 rw[aQ] at hb
 have hql:(gt w.2.1 a).2.1.length<=1048576:=hq.len
 rw[IntKind.wrap_i64] at hb
 obtain⟨b,rfl⟩:∃ b:Nat,dB=(b:Int):=⟨dB.toNat,by omega⟩
 have hbl:b<(gt w.2.1 a).2.1.length:=by omega
 have hN:jA w (dk,(a:Int),(b:Int),dC,dt,du)=((w.1,w.2.1.set a (AC (gt w.2.1 a) b dC),w.2.2.1,()),0):=by
  unfold jA;rw[g4,g5,g6,show mL w (dk,(a:Int),(b:Int),dC,dt,du)=false by rw[hNo,gs,gb,gc];rfl];rfl
 have hs2:a<(w.2.1.set a ((gt w.2.1 a).1,(gt w.2.1 a).2.1.set b (jQ .u8 (gt (gt w.2.1 a).2.1 b).1 (IntKind.u8.wrap dC),(gt (gt w.2.1 a).2.1 b).2),(gt w.2.1 a).2.2)).length:=by rw[List.length_set];exact ha
 refine qf ?_;refine qz ?_;refine(aD ha).trans ?_;refine(aD hbl).trans ?_;refine(aD ha).trans ?_;refine(aD hbl).trans ?_;refine qz ?_;refine(aD ha).trans ?_;refine(aD hbl).trans ?_;refine(aD ha).trans ?_;refine(aD hbl).trans ?_;rw[zE];refine qz ?_;refine(aD hs2).trans ?_;refine(aD hs2).trans ?_;refine qP rfl ?_;rw[zE,hN]
 have e:(w.2.1.set a ((gt w.2.1 a).1,(gt w.2.1 a).2.1.set b (jQ .u8 (gt (gt w.2.1 a).2.1 b).1 (IntKind.u8.wrap dC),(gt (gt w.2.1 a).2.1 b).2),(gt w.2.1 a).2.2)).set a ((gt w.2.1 a).1,(gt (w.2.1.set a ((gt w.2.1 a).1,(gt w.2.1 a).2.1.set b (jQ .u8 (gt (gt w.2.1 a).2.1 b).1 (IntKind.u8.wrap dC),(gt (gt w.2.1 a).2.1 b).2),(gt w.2.1 a).2.2)) a).2.1,true,(gt (w.2.1.set a ((gt w.2.1 a).1,(gt w.2.1 a).2.1.set b (jQ .u8 (gt (gt w.2.1 a).2.1 b).1 (IntKind.u8.wrap dC),(gt (gt w.2.1 a).2.1 b).2),(gt w.2.1 a).2.2)) a).2.2.2)=w.2.1.set a (AC (gt w.2.1 a) b dC):=by
  rw[cG (xs:=w.2.1) (i:=a) ha,List.set_set];rfl
 exact congrArg (λq:List c9=>(some (rJ ((w.1,q,w.2.2.1,()),0)):Option Out)) e
def doW(w:aZ)(d:eU):aZ×Int:=
 bif !bS w then(w,1)else bif !inB d.1 0 7 then(w,1)else
 bif decide (d.1<=3)then(bif !inB d.2.1 0 (i64.wrap ((w.1.length:Int) - 1))then(w,1)else cU w d)else
 (bif !inB d.2.1 0 (i64.wrap ((w.2.1.length:Int) - 1))then(w,1)else jA w d)
theorem m7{x:Int}{n:Nat}(hn:n<=1000)(h:inB x 0 (i64.wrap (((n:Nat):Int) - 1))=true):0<=x/\x.toNat<n:=by
 rw[aQ,IntKind.wrap_i64] at h;omega
theorem FA{w:aZ}(h:bS w=true){i:Nat}(hi:i<w.2.1.length):0<=(gt w.2.1 i).1/\(gt w.2.1 i).1.toNat<w.1.length:=by
 have hl:=oG h
 unfold bS at h;simp only[Bool.and_eq_true,bJ] at h
 exact m7 (by omega) (h.2.2.2.2.1 i hi)
theorem f13(w:aZ)(d:eU)(hz:SzY w):Ran p 14 13 [va K28 w, va K36 d] (rJ (doW w d)):=go13 λn hn=>Ev.now λaA=>by
 unfold T13;refine qC (f11 w hz.toSzW) ?_
 cases ho:bS w with
 | false=>refine qt ?_;refine qC (f53 w hz.toSzX) ?_;rw[show doW w d=(w,1) by unfold doW;rw[ho];rfl];rfl
 | true=>
 have hl:=oG ho
 refine qf ?_;refine qC (f47 d.1 0 7) ?_
 cases hk:inB d.1 0 7 with
 | false=>refine qt ?_;refine qC (f53 w hz.toSzX) ?_;rw[show doW w d=(w,1) by unfold doW;rw[ho,hk];rfl];rfl
 | true=>
 refine qf ?_
 by_cases h3:d.1<=3
 ·refine qP h3 ?_;refine qC (f47 d.2.1 0 (i64.wrap ((w.1.length:Int) - 1))) ?_
  cases ha:inB d.2.1 0 (i64.wrap ((w.1.length:Int) - 1))with
  | false=>refine qt ?_;refine qC (f53 w hz.toSzX) ?_;rw[show doW w d=(w,1) by unfold doW;rw[ho,hk,decide_eq_true h3,ha];rfl];rfl
  | true=>
   have hA:=m7 (by omega) ha
   refine qf ?_;refine qD (f54 w d hz.toSzX hA.1 hA.2 hl.2.2.1 hl.2.2.2) ?_;rw[show doW w d=cU w d by unfold doW;rw[ho,hk,decide_eq_true h3,ha];rfl];rfl
 ·refine qN h3 ?_;refine qC (f47 d.2.1 0 (i64.wrap ((w.2.1.length:Int) - 1))) ?_
  cases ha:inB d.2.1 0 (i64.wrap ((w.2.1.length:Int) - 1))with
  | false=>refine qt ?_;refine qC (f53 w hz.toSzX) ?_;rw[show doW w d=(w,1) by unfold doW;rw[ho,hk,decide_eq_false h3,ha];rfl];rfl
  | true=>
   have hA:=m7 (by omega) ha
   have hT:=FA ho hA.2
   refine qf ?_;refine qD (f55 w d hz hA.1 hA.2 hl.2.2.1 hT.1 hT.2) ?_;rw[show doW w d=jA w d by unfold doW;rw[ho,hk,decide_eq_false h3,ha];rfl];rfl
-- sizes
theorem pQ{ns:List NodeT}{net:List c9}{sd:List y7}(h1:ns.length<=aV)(h2:∀ i,i<ns.length->SzN (gt ns i))(h3:net.length<=aV)(h4:∀ q∈net,PkOk q)(h5:sd.length<=aV)(h6:∀ i,i<sd.length->SzS (gt sd i).2):SzY (ns,net,sd,()) where
 nodes:=h1
 node:=h2
 net:=h3
 said:=h5
 part:=h6
 bytes:=λi hi=>(h4 _ (bZ hi)).len
 by_:=λi hi=>(h4 _ (bZ hi)).by_
theorem AH{ns:List NodeT}(h:∀ i,i<ns.length->SzN (gt ns i))(a:Nat){x:NodeT}(hx:SzN x):∀ i,i<(ns.set a x).length->SzN (gt (ns.set a x) i):=λi hi=>by
 rw[List.length_set] at hi
 by_cases e:a=i
 ·subst e;rw[cG hi];exact hx
 ·rw[fD e];exact h i hi
theorem MO(x:NodeT)(k id:Int)(t:ByteArray):SzS (hI x k id t).2.1:=by
 unfold hI
 cases nY x k id with
 | false=>exact lD
 | true=>
  show SzS (bif _ then _ else _:L6).2.1
  cases (eR x.state k id t).2 != 0 with
  | true=>exact lD
  | false=>
   show SzS (bif _ then _ else _:L6).2.1
   cases hb:nF x.log (eR x.state k id t).1 with
   | false=>exact lD
   | true=>
    unfold nF at hb
    simp only[Bool.and_eq_true] at hb
    exact E4 ((aP _).1 hb.2.1)
theorem P9(m:MsgT)(t:Int):PkOk (t,bD m,false,()):=⟨nN m,Nat.le_trans (v4 m) (by decide)⟩
theorem FB{net:List c9}(h:∀ q∈net,PkOk q){x:c9}(hx:PkOk x):∀ q∈net++[x],PkOk q:=λq hq=>by
 rcases List.mem_append.1 hq with hq | hq
 ·exact h q hq
 ·rw[List.mem_singleton.1 hq];exact hx
theorem J6{w:aZ}{d:eU}(hz:SzY w)(ha:d.2.1.toNat<w.1.length)(hn0:w.2.1.length<=12)(hs0:w.2.2.1.length<=40):SzY (cU w d).1:=by
 have hx:=hz.node _ ha
 have hA:=hz.all
 have hn1:∀ x:c9,(w.2.1++[x]).length<=aV:=λx=>by rw[List.length_append,List.length_singleton];unfold aV;omega
 have hl:∀ x:NodeT,(w.1.set d.2.1.toNat x).length<=aV:=λx=>by rw[List.length_set];exact hz.nodes
 unfold cU
 cases d.1==1 with
 | true=>exact pQ (hl _) (AH hz.node _ (O1 hx)) hz.net hA hz.said hz.part
 | false=>
 cases d.1==0 with
 | true=>
  cases (w.2.2.1.length:Int)==40 with
  | true=>exact hz
  | false=>
   show SzY (bif _ then _ else _:aZ×Int).1
   cases (hI (gt w.1 d.2.1.toNat) d.2.2.1 d.2.2.2.1 d.2.2.2.2.1).2.2 != 0 with
   | true=>exact hz
   | false=>
    refine pQ (hl _) (AH hz.node _ (SU hx _ _ _)) hz.net hA (by rw[List.length_append,List.length_singleton];unfold aV;omega) (λi hi=>?_)
    rw[List.length_append,List.length_singleton] at hi
    by_cases e:i<w.2.2.1.length
    ·have:gt (w.2.2.1++[((d.2.1,(hI (gt w.1 d.2.1.toNat) d.2.2.1 d.2.2.2.1 d.2.2.2.2.1).2.1):y7)]) i=gt w.2.2.1 i:=by
      rw[cS (by rw[List.length_append];omega),cS e,List.getElem_append_left e]
     rw[this];exact hz.part i e
    ·have:gt (w.2.2.1++[((d.2.1,(hI (gt w.1 d.2.1.toNat) d.2.2.1 d.2.2.2.1 d.2.2.2.2.1).2.1):y7)]) i=(d.2.1,(hI (gt w.1 d.2.1.toNat) d.2.2.1 d.2.2.2.1 d.2.2.2.2.1).2.1):=by
      have ei:i=w.2.2.1.length:=by omega
      subst ei
      rw[cS (by rw[List.length_append];simp)];simp
     rw[this];exact MO _ _ _ _
 | false=>
 cases (w.2.1.length:Int)==12 with
 | true=>exact hz
 | false=>
 cases d.1==2 with
 | true=>
  show SzY (bif _ then _ else _:aZ×Int).1
  cases (eX (gt w.1 d.2.1.toNat) d.2.2.1).2 with
  | false=>exact hz
  | true=>exact pQ hz.nodes hz.node (hn1 _) (FB hA (P9 _ _)) hz.said hz.part
 | false=>
  show SzY (bif _ then _ else _:aZ×Int).1
  have hy:=(EJ hx d.2.2.1).1
  cases (gH (gt w.1 d.2.1.toNat) d.2.2.1).2.2 with
  | false=>exact pQ (hl _) (AH hz.node _ hy) hz.net hA hz.said hz.part
  | true=>exact pQ (hl _) (AH hz.node _ hy) (hn1 _) (FB hA (P9 _ _)) hz.said hz.part
theorem TE{w:aZ}{d:eU}(hz:SzY w)(ha:d.2.1.toNat<w.2.1.length)(hn0:w.2.1.length<=12)(hp:(gt w.2.1 d.2.1.toNat).1.toNat<w.1.length):SzY (jA w d).1:=by
 have hA:=hz.all
 have hq:=hz.pk ha
 have hn1:∀ x:c9,(w.2.1++[x]).length<=aV:=λx=>by rw[List.length_append,List.length_singleton];unfold aV;omega
 have hwl:=jX w.2.1 d.2.1.toNat
 unfold jA
 cases d.1==4 with
 | true=>
  have hx:=hz.node _ hp
  have hR:=yI hx (gt w.2.1 d.2.1.toNat).2.1
  have hk:=L5 hR.row (fG (gt w.1 (gt w.2.1 d.2.1.toNat).1.toNat) (gt w.2.1 d.2.1.toNat).2.1).2.1.length 0 (dF w.2.1 d.2.1.toNat) (by omega) (λq hq=>hA q (x7 hq)) (by omega)
  exact pQ (by rw[List.length_set];exact hz.nodes) (AH hz.node _ hR.node) (Nat.le_trans hk.2 (by decide)) hk.1 hz.said hz.part
 | false=>
 cases d.1==5 with
 | true=>exact pQ hz.nodes hz.node (Nat.le_trans (jX _ _) hz.net) (λq hq=>hA q (x7 hq)) hz.said hz.part
 | false=>
 cases d.1==6 with
 | true=>
  show SzY (bif _ then _ else _:aZ×Int).1
  cases (w.2.1.length:Int)==12 with
  | true=>exact hz
  | false=>exact pQ hz.nodes hz.node (hn1 _) (FB hA hq) hz.said hz.part
 | false=>
  show SzY (bif _ then _ else _:aZ×Int).1
  cases mL w d with
  | true=>exact hz
  | false=>
   refine pQ hz.nodes hz.node (by rw[List.length_set];exact hz.net) (λq hq2=>?_) hz.said hz.part
   rcases List.mem_or_eq_of_mem_set hq2 with h1 | h1
   ·exact hA q h1
   ·rw[h1];exact⟨VL hq.by_ _ _ _ _,by show(List.set _ _ _).length<=aV;rw[List.length_set];exact hq.len⟩
theorem FN{w:aZ}(hz:SzY w)(d:eU):SzY (doW w d).1:=by
 unfold doW
 cases ho:bS w with
 | false=>exact hz
 | true=>
 have hl:=oG ho
 cases inB d.1 0 7 with
 | false=>exact hz
 | true=>
 cases decide (d.1<=3)with
 | true=>
  cases ha:inB d.2.1 0 (i64.wrap ((w.1.length:Int) - 1))with
  | false=>exact hz
  | true=>exact J6 hz (m7 (by omega) ha).2 hl.2.2.1 hl.2.2.2
 | false=>
  cases ha:inB d.2.1 0 (i64.wrap ((w.2.1.length:Int) - 1))with
  | false=>exact hz
  | true=>exact TE hz (m7 (by omega) ha).2 hl.2.2.1 (FA ho (m7 (by omega) ha).2).2
end Go.Abs.Pz
namespace Go.Abs.Pz
open Go Go.Abs
theorem f99(c:xY)(h:CurOk c):∃ (x:Int) (d:xY),Ran p 1 99 [.ref ⟨K143,c⟩] ⟨[⟨K3,(x,())⟩],[⟨K143,d⟩]⟩/\CurOk d/\0<=x/\x<=255:=by
 by_cases hi:c.2.1<(c.1.length:Int)
 ·obtain⟨i,hi'⟩:∃ i:Nat,c.2.1=i:=⟨c.2.1.toNat,by have:=h.lo;omega⟩
  have hi2:i<c.1.length:=by omega
  have e:(at? (α:=Row K5) c.1 (c.2.1).toNat)=some (gt (α:=aH) c.1 i):=by rw[hi',Int.toNat_natCast];exact(R4 hi2).trans (by rw[cS hi2])
  refine⟨_,_,go99 λn hn=>Ev.now λaA=>by
   unfold T99;refine qN (by decide) ?_;refine qN (by decide) ?_;refine qP hi ?_;refine qP h.lo ?_
   refine(congrArg (λo=>Option.bind o _) e).trans ?_
   rfl,?_⟩
  have hl:=h.len
  refine⟨⟨h.len,?_,?_⟩,(zU _).1,(zU _).2⟩
  ·show 0<=i64.wrap (c.2.1+1);have:=h.lo;rw[IntKind.wrap_i64];omega
  ·show i64.wrap (c.2.1+1)<=_;have:=h.lo;rw[IntKind.wrap_i64];show _<=(c.1.length:Int);omega
 ·refine⟨_,_,go99 λn hn=>Ev.now λaA=>by
   unfold T99;refine qN (by decide) ?_;refine qN (by decide) ?_;refine qN hi ?_;rfl,?_⟩
  exact⟨⟨h.len,h.lo,h.hi⟩,(zU _).1,(zU _).2⟩
theorem f41(c:xY)(k:Int)(h:CurOk c):∃ (x:Int) (d:xY),Ran p 2 41 [.ref ⟨K143,c⟩, vf K3 (k,())] ⟨[⟨K3,(x,())⟩],[⟨K143,d⟩]⟩/\CurOk d/\0<=x/\(0<k->x<k)/\(k<=0->x=0):=by
 by_cases h0:k<=0
 ·exact⟨0,c,go41 λn hn=>Ev.now λaA=>by unfold T41;exact nU h0,h,by omega,λh=>by omega,λ_=>rfl⟩
 by_cases h1:k<=256
 ·obtain⟨x,d,hx,hd,b0,b1⟩:=f99 c h
  refine⟨x.tmod k,d,go41 λn hn=>Ev.now λaA=>?_,hd,(tC b0 (by omega)).1,λh=>(tC b0 h).2,λh=>by omega⟩
  unfold T41;refine qN h0 ?_;refine qP h1 ?_;refine qR hx ?_;exact jP (by omega)
 ·obtain⟨x,d,hx,hd,b0,b1⟩:=f99 c h
  obtain⟨x2,d2,hx2,hq2,b2,b3⟩:=f99 d hd
  obtain⟨x3,d3,hx3,hq3,b4,b5⟩:=f99 d2 hq2
  obtain⟨x4,d4,hx4,hq4,b6,b7⟩:=f99 d3 hq3
  have e:i64.wrap (i64.wrap (i64.wrap (i64.wrap (x*16777216)+i64.wrap (x2*65536))+i64.wrap (x3*256))+x4)=x*16777216+x2*65536+x3*256+x4:=by
   repeat rw[IntKind.wrap_i64]
   omega
  have hp:0<=x*16777216+x2*65536+x3*256+x4:=by omega
  refine⟨(x*16777216+x2*65536+x3*256+x4).tmod k,d4,go41 λn hn=>Ev.now λaA=>?_,hq4,(tC hp (by omega)).1,λh=>(tC hp h).2,λh=>by omega⟩
  unfold T41;refine qN h0 ?_;refine qN h1 ?_;refine qR hx ?_;refine qR hx2 ?_;refine qR hx3 ?_;refine qR hx4 ?_;refine qN (by omega) ?_;rw[<- e]
theorem f98(c:xY)(ls:List aH)(h:CurOk c)(h0:0<ls.length):∃ (x:Int) (d:xY),Ran p 3 98 [.ref ⟨K143,c⟩, vf K38 (ls,())] ⟨[⟨K3,(x,())⟩],[⟨K143,d⟩]⟩/\CurOk d/\(x,())∈ls:=by
 obtain⟨x,d,hx,hd,b0,b1,_⟩:=f41 c (ls.length:Int) h
 have b2:=b1 (by omega)
 obtain⟨i,rfl⟩:∃ i:Nat,x=i:=⟨x.toNat,by omega⟩
 have hi:i<ls.length:=by omega
 refine⟨(gt ls i).1,d,go98 λn hn=>Ev.now λaA=>?_,hd,?_⟩
 ·unfold T98;refine qR hx ?_;refine qz ?_;refine(aD hi).trans ?_;rfl
 ·show gt ls i∈ls;rw[cS hi];exact List.getElem_mem hi
theorem f160(c:xY)(ls:List (ByteArray×Unit))(h:CurOk c)(h0:0<ls.length):∃ (x:ByteArray) (d:xY),Ran p 3 160 [.ref ⟨K143,c⟩, vf K182 (ls,())] ⟨[⟨K9,(x,())⟩],[⟨K143,d⟩]⟩/\CurOk d/\(x,())∈ls:=by
 obtain⟨x,d,hx,hd,b0,b1,_⟩:=f41 c (ls.length:Int) h
 have b2:=b1 (by omega)
 obtain⟨i,rfl⟩:∃ i:Nat,x=i:=⟨x.toNat,by omega⟩
 have hi:i<ls.length:=by omega
 refine⟨(gt ls i).1,d,go160 λn hn=>Ev.now λaA=>?_,hd,?_⟩
 ·unfold T160;refine qR hx ?_;refine qz ?_;refine(aD hi).trans ?_;rfl
 ·show gt ls i∈ls;rw[cS hi];exact List.getElem_mem hi
end Go.Abs.Pz
namespace Go.Abs.Pz
open Go Go.Abs
theorem QM{n:Nat}(h:n<=1048576):0+n<=bound:=by unfold bound;omega
end Go.Abs.Pz
namespace Go.Abs.Pz
open Go Go.Abs
-- tables drawn
structure TabD (t:List bT):Prop where
 len:t.length<=5
 row:∀ i,i<t.length->(gt t i).1.length<=5
theorem TabD.sz{t:List bT}(h:TabD t):t.length<=aV/\∀ i,i<t.length->(gt t i).1.length<=aV:=
 ⟨by have:=h.len;unfold aV;omega,λi hi=>by have:=h.row i hi;unfold aV;omega⟩
structure TabN (n:Nat) (t:List bT):Prop where
 len:t.length=n
 row:∀ i,i<n->(gt t i).1.length=5
theorem TabN.d{n:Nat}{t:List bT}(h:TabN n t)(hn:n<=5):TabD t:=⟨by rw[h.len];exact hn,λi hi=>by rw[h.row i (by rw[<- h.len];exact hi)];exact Nat.le_refl _⟩
theorem O3{n:Nat}(h1:1<=n)(h5:n<=5):TabN n (eV (n:Int)):=by
 have hb:inB (n:Int) 1 5=true:=by rw[aQ];omega
 refine⟨?_,λi hi=>?_⟩
 ·unfold eV;rw[hb];show(List.replicate _ _).length=n;rw[List.length_replicate];omega
 ·have hl:i<(eV (n:Int)).length:=by unfold eV;rw[hb];show i<(List.replicate _ _).length;rw[List.length_replicate];omega
  rw[pP hb hl];rfl
structure LogD (k:Nat) (l:iE):Prop where
 len:l.2.2.1.length<=k
 st:∀ s∈l.2.2.1,SzS s
theorem LogD.sz{k:Nat}{l:iE}(h:LogD k l)(hk:k<=1048576):l.2.2.1.length<=aV/\∀ i,i<l.2.2.1.length->SzS (gt l.2.2.1 i):=
 ⟨Nat.le_trans h.len hk,λi hi=>h.st _ (bZ hi)⟩
end Go.Abs.Pz
namespace Go.Abs.Pz
open Go Go.Abs
theorem JU{α:Type}[Inhabited α]{n i:Nat}{x:α}(h:i<n):gt (List.replicate n x) i=x:=by
 rw[cS (by rw[List.length_replicate];exact h),List.getElem_replicate]
def z0:aH:=((0:Int),())
theorem KS{n:Int}(h:inB n 1 5=true):eQ (List.replicate n.toNat z0) n=true:=by
 have h1:=aQ.1 h
 unfold eQ
 simp only[Bool.and_eq_true,beq_iff_eq]
 rw[List.length_replicate]
 refine⟨h,by omega,bJ.2 λi hi=>?_⟩
 rw[JU hi];rfl
theorem I5{id n cap slots wait lim:Int}(hn:inB n 1 5=true)(hi:0<=id/\id<n)(hc:inB cap 1 8=true)(hs:inB slots 1 4=true)(hw:inB wait 1 20=true)(hl:inB lim 1 50=true):NodeOk (lC id n cap slots wait lim):=by
 have h1:=aQ.1 hn
 have h2:=aQ.1 hc
 have h3:=aQ.1 hs
 have hL:LogOk (cap,0,[],()):=⟨h2,by show((0:Nat):Int)<=cap;omega,by show(0:Int)<=0/\(0:Int)<=100000;omega,by show(0:Int)+((0:Nat):Int)<=100000;omega,λs h=>by cases h⟩
 have hq:cJ (cap,0,[],())=0:=by rw[tL hL];rfl
 have hk:id.toNat<n.toNat:=by omega
 exact {
  n:=hn
  id:=by show inB id 0 (i64.wrap (n - 1))=true;rw[aQ,IntKind.wrap_i64];omega
  state:=rfl
  tree:=by
   show(gT (cM ([],[],())).1 (cM ([],[],())).1&&(cM ([],[],())).2.1==(cM ([],[],())).2.1)=true
   rw[kV];simp
  log:=(jZ _).2 hL
  got:=KS hn
  acked:=KS hn
  own:=by
   show((gt (List.replicate n.toNat z0) id.toNat).1==cJ (cap,0,[],()))=true
   rw[JU hk,hq];rfl
  seen:=by
   show hX (eV n) n=true
   have hT:TabN n.toNat (eV n):=by
    have:=O3 (n:=n.toNat) (by omega) (by omega)
    rw[show((n.toNat:Nat):Int)=n by omega] at this;exact this
   unfold hX
   simp only[Bool.and_eq_true,beq_iff_eq]
   refine⟨hn,by rw[hT.len];omega,bJ.2 λi hi=>?_⟩
   rw[pP hn hi];rfl
  ack:=by
   show bP (List.replicate n.toNat z0).length _=true
   rw[bJ]
   intro i hi
   show(!decide ((gt (List.replicate n.toNat z0) i).1>cJ (cap,0,[],())))=true
   rw[hq,JU (by rw[List.length_replicate] at hi;exact hi)];rfl
  num:=rfl
  clock:=rfl
  slots:=hs
  wait:=hw
  limit:=hl
  rises:=rfl
  rise:=rfl
  sess:=by
   refine(dV _).2 ⟨?_,(λs h=>by cases h),List.Pairwise.nil⟩
   show((0:Nat):Int)<=slots;omega }
theorem P5{id n cap slots wait lim:Int}(hn:inB n 1 5=true)(hi:0<=id/\id<n)(hc:inB cap 1 8=true)(hs:inB slots 1 4=true)(hw:inB wait 1 20=true)(hl:inB lim 1 50=true):rK id n cap slots wait lim=true/\sK id n cap slots wait lim=lC id n cap slots wait lim:=by
 have h:=(dW _).2 (I5 hn hi hc hs hw hl)
 have e:rK id n cap slots wait lim=true:=by unfold rK;rw[hn,h];rfl
 exact⟨e,by unfold sK;rw[e];rfl⟩
end Go.Abs.Pz
set_option maxHeartbeats 2000000
namespace Go.Abs.Pz
open Go Go.Abs
structure NodD (y:NodeT):Prop where
 sz:SzN y
 n:1<=y.2.1/\y.2.1<=4
 id:0<=y.1/\y.1<y.2.1
 got:y.got.length=y.2.1.toNat
 acked:y.acked.length=y.2.1.toNat
 sess:y.sess.length<=4
 rises:y.rises.length=5
 cnt:y.num<=8/\y.clock<=8
structure NodR (m i:Nat) (y:NodeT):Prop where
 ok:NodeOk y
 sz:SzN y
 n:y.2.1=((m:Nat):Int)
 cnt:y.num<=((i:Nat):Int)/\y.clock<=((i:Nat):Int)
theorem NodR.d{m i:Nat}{y:NodeT}(h:NodR m i y)(h4:m<=4)(hi:i<=8):NodD y:=by
 have h1:=h.ok.n;have h2:=h.ok.id;have h3:=h.ok.got;have h5:=((dV y).1 h.ok.sess).1;have h6:=h.ok.slots;have h7:=eq_of_beq h.ok.rises;have h8:=h.ok.acked
 have hn:=h.n
 rw[aQ] at h1 h2 h6
 rw[IntKind.wrap_i64] at h2
 unfold eQ at h3 h8
 simp only[Bool.and_eq_true,beq_iff_eq] at h3 h8
 exact⟨h.sz,by omega,by omega,by omega,by omega,by omega,by omega,by have:=h.cnt;omega⟩
end Go.Abs.Pz
set_option maxHeartbeats 2000000
namespace Go.Abs.Pz
open Go Go.Abs
structure NodX (y:NodeT):Prop where
 sz:SzN y
 n:1<=y.2.1/\y.2.1<=4
 sess:y.sess.length<=5
 cnt:y.num<=8/\y.clock<=8
end Go.Abs.Pz
/- Deeds as drawn; drawn worlds. -/
namespace Go.Abs.Pz
open Go Go.Abs
theorem f70(c:xY)(w:aZ)(h:CurOk c):∃ (d:eU) (e:xY),Ran p 4 70 [.ref ⟨K143,c⟩, va K28 w] ⟨[⟨K36,d⟩],[⟨K143,e⟩]⟩/\CurOk e:=by
 obtain⟨k,c1,h1,k1,_⟩:=f98 c [((0:Int),()),((0:Int),()),((0:Int),()),((1:Int),()),((2:Int),()),((2:Int),()),((3:Int),()),((3:Int),()),((4:Int),()),((4:Int),()),((4:Int),()),((4:Int),()),((4:Int),()),((4:Int),()),((5:Int),()),((6:Int),()),((7:Int),())] h (by show 0<17;omega)
 obtain⟨a,c2,h2,k2,_⟩:=f41 c1 (w.1.length:Int) k1
 obtain⟨a',c3,h3,k3,_⟩:=f41 c2 (mxI true (w.2.1.length:Int) 1) k2
 cases q0:k==0 with
 | true=>
  obtain⟨b,d1,g1,l1,_⟩:=f98 c2 [((0:Int),()),((0:Int),()),((1:Int),()),((1:Int),()),((1:Int),()),((2:Int),()),((3:Int),()),((4:Int),())] k2 (by show 0<8;omega)
  cases q4:b==4 with
  | true=>
   obtain⟨v,d2,g2,l2,_⟩:=f41 d1 (w.1.length:Int) l1
   obtain⟨t,d3,g3,l3,_⟩:=f160 d2 [((⟨#[]⟩:ByteArray),()),((⟨#[120]⟩:ByteArray),()),((⟨#[121,122]⟩:ByteArray),())] l2 (by show 0<3;omega)
   exact⟨(k,a,b,v,t,()),d3,go70 λn hn=>Ev.now λaA=>by unfold T70;refine qR h1 ?_;refine qR h2 ?_;refine qT q0 ?_;refine qR g1 ?_;refine qT q4 ?_;refine qR g2 ?_;refine qR g3 ?_;rfl,l3⟩
  | false=>
   obtain⟨t,d3,g3,l3,_⟩:=f160 d1 [((⟨#[]⟩:ByteArray),()),((⟨#[120]⟩:ByteArray),()),((⟨#[121,122]⟩:ByteArray),())] l1 (by show 0<3;omega)
   exact⟨(k,a,b,a,t,()),d3,go70 λn hn=>Ev.now λaA=>by unfold T70;refine qR h1 ?_;refine qR h2 ?_;refine qT q0 ?_;refine qR g1 ?_;refine qF q4 ?_;refine qR g3 ?_;rfl,l3⟩
 | false=>
 obtain⟨x,d1,g1,l1,_⟩:=f41 c2 (w.1.length:Int) k2
 cases q2:k==2 with
 | true=>exact⟨(k,a,x,0,⟨#[]⟩,()),d1,go70 λn hn=>Ev.now λaA=>by unfold T70;refine qR h1 ?_;refine qR h2 ?_;refine qF q0 ?_;refine qT q2 ?_;refine qT q2 ?_;refine qR g1 ?_;rfl,l1⟩
 | false=>
 cases q3:k==3 with
 | true=>exact⟨(k,a,x,0,⟨#[]⟩,()),d1,go70 λn hn=>Ev.now λaA=>by unfold T70;refine qR h1 ?_;refine qR h2 ?_;refine qF q0 ?_;refine qF q2 ?_;refine qT q3 ?_;refine qR g1 ?_;rfl,l1⟩
 | false=>
 have hm:=f161 (w.2.1.length:Int) 1
 cases q4:k==4 with
 | true=>exact⟨(k,a',0,0,⟨#[]⟩,()),c3,go70 λn hn=>Ev.now λaA=>by unfold T70;refine qR h1 ?_;refine qR h2 ?_;refine qF q0 ?_;refine qF q2 ?_;refine qF q3 ?_;refine qT q4 ?_;refine qT q4 ?_;refine qC hm ?_;refine qR h3 ?_;rfl,k3⟩
 | false=>
 cases q5:k==5 with
 | true=>exact⟨(k,a',0,0,⟨#[]⟩,()),c3,go70 λn hn=>Ev.now λaA=>by unfold T70;refine qR h1 ?_;refine qR h2 ?_;refine qF q0 ?_;refine qF q2 ?_;refine qF q3 ?_;refine qF q4 ?_;refine qT q5 ?_;refine qT q5 ?_;refine qC hm ?_;refine qR h3 ?_;rfl,k3⟩
 | false=>
 cases q6:k==6 with
 | true=>exact⟨(k,a',0,0,⟨#[]⟩,()),c3,go70 λn hn=>Ev.now λaA=>by unfold T70;refine qR h1 ?_;refine qR h2 ?_;refine qF q0 ?_;refine qF q2 ?_;refine qF q3 ?_;refine qF q4 ?_;refine qF q5 ?_;refine qT q6 ?_;refine qC hm ?_;refine qR h3 ?_;rfl,k3⟩
 | false=>
 cases q7:k==7 with
 | true=>
  obtain⟨b,d2,g2,l2,_⟩:=f41 c3 40 k3
  obtain⟨v,d3,g3,l3,_⟩:=f41 d2 255 l2
  exact⟨(k,a',b,i64.wrap (1+v),⟨#[]⟩,()),d3,go70 λn hn=>Ev.now λaA=>by unfold T70;refine qR h1 ?_;refine qR h2 ?_;refine qF q0 ?_;refine qF q2 ?_;refine qF q3 ?_;refine qF q4 ?_;refine qF q5 ?_;refine qF q6 ?_;refine qT q7 ?_;refine qC hm ?_;refine qR h3 ?_;refine qR g2 ?_;refine qR g3 ?_;rfl,l3⟩
 | false=>exact⟨(k,a,0,0,⟨#[]⟩,()),c2,go70 λn hn=>Ev.now λaA=>by unfold T70;refine qR h1 ?_;refine qR h2 ?_;refine qF q0 ?_;refine qF q2 ?_;refine qF q3 ?_;refine qF q4 ?_;refine qF q5 ?_;refine qF q6 ?_;refine qF q7 ?_;rfl,k2⟩
end Go.Abs.Pz
/- Drawn worlds. -/
namespace Go.Abs.Pz
open Go Go.Abs
theorem OU{m:Nat}{cap slots wait lim:Int}(hm:1<=m/\m<=4)(hc:inB cap 1 8=true)(hs:inB slots 1 4=true)(hw:inB wait 1 20=true)(hl:inB lim 1 50=true):CL (m:Int) cap slots wait lim=true:=by
 have hcnt:dS (m:Int)=m:=by unfold dS;omega
 have hlen:(fA (m:Int) cap slots wait lim (dS (m:Int))).length=m:=by rw[iI,hcnt]
 unfold CL bS
 simp only[Bool.and_eq_true,bJ]
 refine⟨?_,rfl,rfl,λi hi=>?_,λi hi=>absurd hi (Nat.not_lt_zero _),λi hi=>absurd hi (Nat.not_lt_zero _)⟩
 ·rw[aQ];show 1<=(((fA (m:Int) cap slots wait lim (dS (m:Int))).length:Nat):Int)/\(((fA (m:Int) cap slots wait lim (dS (m:Int))).length:Nat):Int)<=5
  rw[hlen];omega
 ·have hi':i<dS (m:Int):=by rw[hcnt];rw[show(wnW (m:Int) cap slots wait lim).1.length=m from hlen] at hi;exact hi
  have hy:=P5 (id:=(i:Int)) (n:=(m:Int)) (cap:=cap) (slots:=slots) (wait:=wait) (lim:=lim) (by rw[aQ];omega) (by omega) hc hs hw hl
  have hg:gt (wnW (m:Int) cap slots wait lim).1 i=lC (i:Int) (m:Int) cap slots wait lim:=by
   rw[show gt (wnW (m:Int) cap slots wait lim).1 i=_ from uG (m:Int) cap slots wait lim hi',hy.2]
  have h1:=hy.1
  unfold rK at h1
  simp only[Bool.and_eq_true] at h1
  unfold lP
  rw[hg,h1.2,show(wnW (m:Int) cap slots wait lim).1.length=m from hlen]
  simp[lC]
theorem H7{rs:List bT}:∀ (k i:Nat) (net:List c9),net.length<=12->(lU rs k i net).length<=12
 | 0,i,net,hl=>hl
 | k+1,i,net,hl=>by
  unfold lU
  by_cases h12:(net.length:Int)<12
  ·rw[decide_eq_true h12];exact H7 k (i+1) _ (by rw[List.length_append,List.length_singleton];omega)
  ·rw[decide_eq_false h12];exact hl
theorem FM{α:Type}{l:List α}{n:Nat}{x:α}(h:l.length<=n)(g:((l.length:Int)==(n:Int))=false):(l++[x]).length<=n:=by
 rw[beq_eq_false_iff_ne] at g;rw[List.length_append,List.length_singleton];omega
theorem SF(n cap slots wait lim:Int):SzY (wnW n cap slots wait lim):=
 { toSzW:=OT n cap slots wait lim,bytes:=λi hi=>absurd hi (Nat.not_lt_zero _),by_:=λi hi=>absurd hi (Nat.not_lt_zero _) }
theorem LD{x:Int}{l:List aH}{a b:Int}(h:(x,())∈l)(hl:l.all (λy=>inB y.1 a b)=true):inB x a b=true:=(List.all_eq_true.1 hl) _ h
end Go.Abs.Pz
namespace Go.Abs.Pz
open Go Go.Abs
theorem f78(a b:iE)(hl:a.2.2.1.length<=aV)(hr:∀ i,i<a.2.2.1.length->SzS (gt a.2.2.1 i)):Ran p 2 78 [va K61 a, va K61 b] (rO K4 (BH a b,())):=go78 λn hn=>by
 have lp:∃ N,∀ aA,N<=aA->jG a.2.2.1 b.2.2.1=true->iter (c78_4 (aJ p n) aA a b) aA (0:Int)=oB (bP a.2.2.1.length λi=>fL (gt a.2.2.1 i) (gt b.2.2.1 i)):=by
  cases he:jG a.2.2.1 b.2.2.1 with
  | false=>exact⟨0,λ_ _ h=>by cases h⟩
  | true=>
   have e:=tM.1 he
   have lp:It (λaA (_:Unit)=>c78_4 (aJ p n) aA a b) (0:Int) (λ_=>oB (bP a.2.2.1.length λi=>fL (gt a.2.2.1 i) (gt b.2.2.1 i))):=by
    refine cV (It.allB a.2.2.1.length _ true (λi hi aA a' rec=>?_) (It.stop λaA a' rec=>?_))
    ·have hb:=bW hi hl
     have hi':i<b.2.2.1.length:=by omega
     unfold c78_4;rw[aF hb];refine ql hi ?_;refine qz ?_;refine(aD hi).trans ?_;refine qz ?_;refine(aD hi').trans ?_;refine qC (f63 (gt a.2.2.1 i) (gt b.2.2.1 i) (hr i hi)) ?_;exact fin
    ·unfold c78_4;refine qe ?_;rfl
   obtain⟨N,hN⟩:=lp.all_i
   exact⟨N,λaA hf _=>hN aA hf ()⟩
 obtain⟨N,hN⟩:=lp
 refine⟨N,λaA hf=>?_⟩
 show T78 (aJ p n) aA a b=oB (BH a b)
 unfold T78 BH rY;refine dJ λ_=>?_;refine dJ λ_=>?_;refine dJ λh=>?_;exact hN aA hf h
theorem f24(a b:NodeT)(hz:SzN a):Ran p 3 24 [va K66 a, va K66 b] (rO K4 (A1 a b,())):=go24 λn hn=>by
 rw[<- P2]
 have ri:∃ N,∀ aA,N<=aA->jG a.rises b.rises=true->iter (c24_16 (aJ p n) aA a b) aA (0:Int)=oB (bP a.rises.length λi=>oD (gt a.rises i) (gt b.rises i)):=by
  cases he:jG a.rises b.rises with
  | false=>exact⟨0,λ_ _ h=>by cases h⟩
  | true=>
   have e:=tM.1 he
   have lp:It (λaA (_:Unit)=>c24_16 (aJ p n) aA a b) (0:Int) (λ_=>oB (bP a.rises.length λi=>oD (gt a.rises i) (gt b.rises i))):=by
    refine cV (It.allB a.rises.length _ true (λi hi aA a' rec=>?_) (It.stop λaA a' rec=>?_))
    ·have hb:=bW hi hz.rises
     have hi':i<b.rises.length:=by omega
     unfold c24_16;rw[aF hb];refine ql hi ?_;refine qz ?_;refine(aD hi).trans ?_;refine qz ?_;refine(aD hi').trans ?_;exact fin
    ·unfold c24_16;refine qe ?_;rfl
   obtain⟨N,hN⟩:=lp.all_i
   exact⟨N,λaA hf _=>hN aA hf ()⟩
 obtain⟨M,hM⟩:=ri
 have se:∃ N,∀ aA,N<=aA->jG a.sess b.sess=true->jG a.rises b.rises=true->iter (c24_11 (aJ p n) aA a b) aA (0:Int)=oB (bP a.sess.length (λi=>sW (gt a.sess i) (gt b.sess i))&&bP a.rises.length λi=>oD (gt a.rises i) (gt b.rises i)):=by
  cases he:jG a.sess b.sess with
  | false=>exact⟨0,λ_ _ h=>by cases h⟩
  | true=>cases he2:jG a.rises b.rises with
   | false=>exact⟨0,λ_ _ _ h=>by cases h⟩
   | true=>
    have e:=tM.1 he
    have lp:It (λaA (_:Unit)=>c24_11 (aJ p n) aA a b) (0:Int) (λ_=>oB (bP a.sess.length (λi=>sW (gt a.sess i) (gt b.sess i))&&bP a.rises.length λi=>oD (gt a.rises i) (gt b.rises i))):=by
     refine It.allB a.sess.length _ _ (λi hi aA a' rec=>?_) (It.stopE (T:=λaA _=>iter (c24_16 (aJ p n) aA a b) aA (0:Int)) (λaA a' rec=>?_) ⟨M,λaA hf _=>hM aA hf he2⟩)
     ·have hb:=bW hi hz.sess
      have hi':i<b.sess.length:=by omega
      unfold c24_11;rw[aF hb];refine ql hi ?_;refine qz ?_;refine(aD hi).trans ?_;refine qz ?_;refine(aD hi').trans ?_;exact fin
     ·unfold c24_11;refine qe ?_;rfl
    obtain⟨N,hN⟩:=lp.all_i
    exact⟨N,λaA hf _ _=>hN aA hf ()⟩
 obtain⟨M',hM'⟩:=se
 have ro:∃ N,∀ aA,N<=aA->jG a.seen b.seen=true->jG a.sess b.sess=true->jG a.rises b.rises=true->iter (c24_6 (aJ p n) aA a b) aA (0:Int)=oB (bP a.seen.length (λi=>w5 (gt a.seen i) (gt b.seen i))&&(bP a.sess.length (λi=>sW (gt a.sess i) (gt b.sess i))&&bP a.rises.length λi=>oD (gt a.rises i) (gt b.rises i))):=by
  cases he:jG a.seen b.seen with
  | false=>exact⟨0,λ_ _ h=>by cases h⟩
  | true=>cases he2:jG a.sess b.sess with
   | false=>exact⟨0,λ_ _ _ h=>by cases h⟩
   | true=>cases he3:jG a.rises b.rises with
    | false=>exact⟨0,λ_ _ _ _ h=>by cases h⟩
    | true=>
     have e:=tM.1 he
     have lp:It (λaA (_:Unit)=>c24_6 (aJ p n) aA a b) (0:Int) (λ_=>oB (bP a.seen.length (λi=>w5 (gt a.seen i) (gt b.seen i))&&(bP a.sess.length (λi=>sW (gt a.sess i) (gt b.sess i))&&bP a.rises.length λi=>oD (gt a.rises i) (gt b.rises i)))):=by
      refine It.allB a.seen.length _ _ (λi hi aA a' rec=>?_) (It.stopE (T:=λaA _=>iter (c24_11 (aJ p n) aA a b) aA (0:Int)) (λaA a' rec=>?_) ⟨M',λaA hf _=>hM' aA hf he2 he3⟩)
      ·have hb:=bW hi hz.seen
       have hi':i<b.seen.length:=by omega
       unfold c24_6 w5;rw[aF hb];refine ql hi ?_;refine qz ?_;refine(aD hi).trans ?_;refine qz ?_;refine(aD hi').trans ?_;refine qC (f79 (gt a.seen i).1 (gt b.seen i).1 (aK (hz.lines i hi))) ?_;exact fin
      ·unfold c24_6;refine qe ?_;rfl
     obtain⟨N,hN⟩:=lp.all_i
     exact⟨N,λaA hf _ _ _=>hN aA hf ()⟩
 obtain⟨N,hN⟩:=ro
 refine⟨N,λaA hf=>?_⟩
 show T24 (aJ p n) aA a b=oB (zO a b)
 unfold T24 zO;refine dJ λ_=>?_;refine dJ λ_=>?_;refine qC (f63 a.state b.state hz.state) ?_;refine dJ λ_=>?_;refine qC (f77 a.tree b.tree (aK hz.leaves)) ?_;refine dJ λ_=>?_;refine qC (f78 a.log b.log hz.list hz.logs) ?_;refine dJ λ_=>?_;refine qC (f79 a.got b.got (aK hz.got)) ?_;refine dJ λ_=>?_;refine qC (f79 a.acked b.acked (aK hz.acked)) ?_;refine dJ λ_=>?_
 refine dJ λh1=>?_;refine dJ λ_=>?_;refine dJ λ_=>?_;refine dJ λ_=>?_;refine dJ λ_=>?_;refine dJ λ_=>?_;refine dJ λh2=>?_;refine dJ λh3=>?_;exact hN aA hf h1 h2 h3
end Go.Abs.Pz
namespace Go.Abs.Pz
open Go Go.Abs
structure Ticked (x:NodeT) (k:Nat) (y:NodeT):Prop where
 ok:NodeOk y
 id:y.1=x.1
 n:y.2.1=x.2.1
 num:y.num=x.num
 wait:y.wait=x.wait
 clock:y.clock=x.clock+((k:Nat):Int)
 age:∀ s∈y.sess,((k:Nat):Int)<=s.2.2.2.1
end Go.Abs.Pz
set_option maxHeartbeats 2000000
namespace Go.Abs.Pz
open Go Go.Abs
theorem pU{α:Type}[Inhabited α]{f:α->α->Bool}(h:∀ x,f x x=true)(xs:List α):rY f xs xs=true:=by
 unfold rY jG;rw[Bool.and_eq_true];exact⟨by simp,bJ.2 λi _=>h _⟩
theorem G3(x:NodeT):A1 x x=true:=by
 have s1:rY w5 x.seen x.seen=true:=pU (λr=>kV r.1) _
 have s2:fL x.state x.state=true:=jE.2 rfl
 have s3:EB x.tree x.tree=true:=by unfold EB;rw[kV];simp
 have s4:BH x.log x.log=true:=by unfold BH;rw[pU (λs=>jE.2 rfl)];simp
 have s5:rY sW x.sess x.sess=true:=pU (λs=>by unfold sW;rw[show gW s.1 s.1=true from pK.2 rfl,show gW s.2.1 s.2.1=true from pK.2 rfl,show gW s.2.2.2.1 s.2.2.2.1=true from pK.2 rfl,xS];rfl) _
 have s6:rY oD x.rises x.rises=true:=pU (λs=>by unfold oD;rw[show gW s.1 s.1=true from pK.2 rfl,show gW s.2.1 s.2.1=true from pK.2 rfl,show gW s.2.2.1 s.2.2.1=true from pK.2 rfl];rfl) _
 unfold A1
 rw[s1,s2,s3,s4,s5,s6,kV,kV]
 simp
theorem f8(b:List aH):Ran p 1 8 [vf K22 (b,())] (rO K4 (decide ((b.length:Int)>1048576),())):=go8 λn hn=>Ev.now λaA=>by
 unfold T8;rfl
end Go.Abs.Pz
/- Two equal worlds are the same. -/
set_option maxHeartbeats 4000000
namespace Go.Abs.Pz
open Go Go.Abs
theorem q8(x:Int):(x != x)=false:=by simp
theorem f16(w:aZ)(hz:SzX w):Ran p 4 16 [va K28 w, va K28 w] nM:=go16 λn hn=>by
 have l3:It (λaA (_:Unit)=>c16_14 (aJ p n) aA w w) (0:Int) (λ_=>some nM):=by
  refine It.run (λi=>(i:Int)) w.2.2.1.length (λi hi aA u rec=>?_) (It.stop λaA u rec=>?_)
  ·have hb:=bW hi hz.said
   have hs:=f63 (gt w.2.2.1 i).2 (gt w.2.2.1 i).2 (hz.part i hi)
   rw[jE.2 rfl] at hs
   unfold c16_14;rw[aF hb];refine ql hi ?_;refine qz ?_;refine(aD hi).trans ?_;refine qz ?_;refine(aD hi).trans ?_;refine qF (q8 _) ?_;refine qz ?_;refine(aD hi).trans ?_;refine qz ?_;refine(aD hi).trans ?_;refine qC hs ?_;rfl
  ·unfold c16_14;refine qe ?_;rfl
 have l2:It (λaA (_:Unit)=>c16_9 (aJ p n) aA w w) (0:Int) (λ_=>some nM):=by
  refine It.run (λi=>(i:Int)) w.2.1.length (λi hi aA u rec=>?_) (It.stopE (T:=λaA _=>iter (c16_14 (aJ p n) aA w w) aA (0:Int)) (λaA u rec=>?_) l3.all_i)
  ·have hb:=bW hi hz.net
   unfold c16_9;rw[aF hb];refine ql hi ?_;refine qz ?_;refine(aD hi).trans ?_;refine qz ?_;refine(aD hi).trans ?_;refine qF (q8 _) ?_;refine qz ?_;refine(aD hi).trans ?_;refine qz ?_;refine(aD hi).trans ?_;refine qF (by rw[xS];rfl) ?_;refine qz ?_;refine(aD hi).trans ?_;refine qz ?_;refine(aD hi).trans ?_;refine qF (by simp) ?_;rfl
  ·unfold c16_9;refine qe ?_;rfl
 have l1:It (λaA (_:Unit)=>c16_4 (aJ p n) aA w w) (0:Int) (λ_=>some nM):=by
  refine It.run (λi=>(i:Int)) w.1.length (λi hi aA u rec=>?_) (It.stopE (T:=λaA _=>iter (c16_9 (aJ p n) aA w w) aA (0:Int)) (λaA u rec=>?_) l2.all_i)
  ·have hb:=bW hi hz.nodes
   have hs:=f24 (gt w.1 i) (gt w.1 i) (hz.node i hi)
   rw[G3] at hs
   unfold c16_4;rw[aF hb];refine ql hi ?_;refine qz ?_;refine(aD hi).trans ?_;refine qz ?_;refine(aD hi).trans ?_;refine qC hs ?_;rfl
  ·unfold c16_4;refine qe ?_;rfl
 exact Ev.eq (λaA=>by unfold T16;refine qF (q8 _) ?_;refine qF (q8 _) ?_;refine qF (q8 _) ?_;rfl) (l1.ev (i:=()) rfl)
end Go.Abs.Pz
/- Drawn worlds, and what their packs hold. -/
namespace Go.Abs.Pz
open Go Go.Abs
end Go.Abs.Pz
/- What impl.Do does with a pack: dropped, copied, spoilt, or given where it holds no message. -/
set_option maxHeartbeats 4000000
namespace Go.Abs.Pz
open Go Go.Abs
theorem GG{α:Type}[Inhabited α]{xs:List α}{i:Nat}(h:i<xs.length):xs.set i (gt xs i)=xs:=by rw[cS h,List.set_getElem_self]
theorem LZ(w:aZ)(d:eU)(hz:SzY w)(h4:4<=d.1)(hg:d.1=4->0<=d.2.1->d.2.1.toNat<w.2.1.length->cW (gt w.2.1 d.2.1.toNat).2.1=none):Ran p 13 12 [va K28 w, va K36 d] (rJ (doW w d)):=go12 λn hn=>Ev.now λaA=>by
 obtain⟨dk,dA,dB,dC,dt,du⟩:=d
 have h4:4<=dk:=h4
 unfold T12;refine qP (show dk>=4 by omega) ?_;refine qC (f10 w hz.toSzW) ?_
 cases ho:bS w with
 | false=>refine qt ?_;refine qC (f50 w hz.toSzX) ?_;rw[show doW w (dk,dA,dB,dC,dt,du)=(w,1) by unfold doW;rw[ho];rfl];rfl
 | true=>
 have hl:=oG ho
 refine qf ?_;refine qC (f43 dk 0 7) ?_
 cases hk:inB dk 0 7 with
 | false=>refine qt ?_;refine qC (f50 w hz.toSzX) ?_;rw[show doW w (dk,dA,dB,dC,dt,du)=(w,1) by unfold doW;rw[ho];show(bif !inB dk 0 7 then(w,(1:Int))else _)=_;rw[hk];rfl];rfl
 | true=>
 have e3:decide (dk<=3)=false:=decide_eq_false (by omega)
 refine qf ?_;refine qC (f43 dA 0 (i64.wrap ((w.2.1.length:Int) - 1))) ?_
 cases ha:inB dA 0 (i64.wrap ((w.2.1.length:Int) - 1))with
 | false=>refine qt ?_;refine qC (f50 w hz.toSzX) ?_;rw[show doW w (dk,dA,dB,dC,dt,du)=(w,1) by unfold doW;rw[ho];show(bif !inB dk 0 7 then(w,(1:Int))else bif decide (dk<=3)then _ else bif !inB dA 0 _ then(w,1)else _)=_;rw[hk,e3,ha];rfl];rfl
 | true=>
 have hA:=m7 (by omega) ha
 have hT:=FA ho hA.2
 have hW:doW w (dk,dA,dB,dC,dt,du)=jA w (dk,dA,dB,dC,dt,du):=by unfold doW;rw[ho];show(bif !inB dk 0 7 then(w,(1:Int))else bif decide (dk<=3)then _ else bif !inB dA 0 _ then(w,1)else _)=_;rw[hk,e3,ha];rfl
 rw[hW]
 obtain⟨a,rfl⟩:∃ a:Nat,dA=(a:Int):=⟨dA.toNat,by omega⟩
 have ha:a<w.2.1.length:=hA.2
 have hq:=hz.pk ha
 have hT:0<=(gt w.2.1 a).1/\(gt w.2.1 a).1.toNat<w.1.length:=hT
 have e1:i64.wrap ((a:Int)+1)=((a+1:Nat):Int):=aF (by omega)
 have c1:(decide ((0:Int)<=(a:Int))&&decide ((a:Int)<=(w.2.1.length:Int)))=true:=rng (c:=True) (d:=True) (by omega) (by omega)
 have c2:(decide ((0:Int)<=((a+1:Nat):Int))&&decide (((a+1:Nat):Int)<=(w.2.1.length:Int)))=true:=rng (c:=True) (d:=True) (by omega) (by omega)
 have c3:(decide (((a:Int)).toNat<=(((a+1:Nat):Int)).toNat)&&(decide ((((a+1:Nat):Int)).toNat<=w.2.1.length)&&(decide (w.2.1.length=w.2.1.length)&&decide (w.2.1.length<=bound))))=true:=by
  rw[decide_eq_true (show((a:Int)).toNat<=(((a+1:Nat):Int)).toNat by omega),decide_eq_true (show(((a+1:Nat):Int)).toNat<=w.2.1.length by omega),decide_eq_true (show w.2.1.length<=bound by unfold bound;omega)];simp
 refine qf ?_;refine qC (f50 w hz.toSzX) ?_;refine qP (show dk>=4 by omega) ?_;unfold kX;dsimp only;rw[e1]
 cases g4:dk==4 with
 | true=>
  have hm:cW (gt w.2.1 a).2.1=none:=hg (eq_of_beq g4) hA.1 ha
  have hm':=f125 (gt w.2.1 a).2.1 hq.by_.b8 hq.len
  rw[hm] at hm'
  (first | refine qT g4 ?_ | refine qt ?_);refine qz ?_;refine(aD ha).trans ?_;refine(aD ha).trans ?_;refine qT c1 ?_;refine qT c2 ?_;refine qT c3 ?_;refine qD hm' ?_;refine qt ?_;refine qf ?_
  have e:jA w (dk,(a:Int),dB,dC,dt,du)=((w.1,dF w.2.1 a,w.2.2.1,()),0):=by
   unfold jA
   show(bif dk==4 then(nP w a,(0:Int))else _)=_
   rw[g4]
   show(nP w a,(0:Int))=_
   unfold nP
   rw[lB hm]
   show((w.1.set (gt w.2.1 a).1.toNat (gt w.1 (gt w.2.1 a).1.toNat),dF w.2.1 a,w.2.2.1,()),(0:Int))=_
   rw[GG hT.2]
  rw[e];rfl
 | false=>
 (first | refine qF g4 ?_ | refine qf ?_)
 cases g5:dk==5 with
 | true=>
  (first | refine qT g5 ?_ | refine qt ?_);refine qz ?_;refine(aD ha).trans ?_;refine(aD ha).trans ?_;refine qT c1 ?_;refine qT c2 ?_;refine qT c3 ?_;refine qf ?_
  rw[show jA w (dk,(a:Int),dB,dC,dt,du)=((w.1,dF w.2.1 a,w.2.2.1,()),0) by unfold jA;show(bif dk==4 then _ else bif dk==5 then _ else _)=_;rw[g4,g5];rfl];rfl
 | false=>
 (first | refine qF g5 ?_ | refine qf ?_)
 cases g6:dk==6 with
 | true=>
  (first | refine qT g6 ?_ | refine qt ?_)
  cases gm:(w.2.1.length:Int)==12 with
  | true=>
   (first | refine qT gm ?_ | refine qt ?_);refine qt ?_;refine qC (f50 w hz.toSzX) ?_
   rw[show jA w (dk,(a:Int),dB,dC,dt,du)=(w,3) by unfold jA;show(bif dk==4 then _ else bif dk==5 then _ else bif dk==6 then _ else _)=_;rw[g4,g5,g6,gm];rfl];rfl
  | false=>
   have hbn:w.2.1.length+1<=bound:=by unfold bound;omega
   (first | refine qF gm ?_ | refine qf ?_);refine qz ?_;refine(aD ha).trans ?_;refine(aD ha).trans ?_;refine qC (f122 (gt w.2.1 a) hq.len) ?_;refine qP hbn ?_;refine qf ?_
   rw[show jA w (dk,(a:Int),dB,dC,dt,du)=((w.1,w.2.1++[gt w.2.1 a],w.2.2.1,()),0) by unfold jA;show(bif dk==4 then _ else bif dk==5 then _ else bif dk==6 then _ else _)=_;rw[g4,g5,g6,gm];rfl];rfl
 | false=>
 (first | refine qF g6 ?_ | refine qf ?_)
 have g7:(dk==7)=true:=by rw[aQ] at hk;rw[beq_eq_false_iff_ne] at g4 g5 g6;rw[beq_iff_eq];omega
 (first | refine qT g7 ?_ | refine qt ?_)
 have hNo:∀ B C:Int,mL w (dk,(a:Int),B,C,dt,du)=((gt w.2.1 a).2.2.1||(!inB B 0 (i64.wrap ((((gt w.2.1 a).2.1.length:Nat):Int) - 1))|| !inB C 1 255)):=λ_ _=>rfl
 have no:mL w (dk,(a:Int),dB,dC,dt,du)=true->jA w (dk,(a:Int),dB,dC,dt,du)=(w,2):=λh=>by unfold jA;show(bif dk==4 then _ else bif dk==5 then _ else bif dk==6 then _ else _)=_;rw[g4,g5,g6,h];rfl
 refine qz ?_;refine(aD ha).trans ?_;refine(aD ha).trans ?_
 cases gs:(gt w.2.1 a).2.2.1 with
 | true=>(first | refine qT gs ?_ | refine qt ?_);refine qt ?_;refine qC (f50 w hz.toSzX) ?_;rw[no (by rw[hNo,gs];rfl)];rfl
 | false=>
 (first | refine qF gs ?_ | refine qf ?_);refine(aD ha).trans ?_;refine(aD ha).trans ?_;refine qC (f43 dB 0 (i64.wrap ((((gt w.2.1 a).2.1.length:Nat):Int) - 1))) ?_
 cases gb:inB dB 0 (i64.wrap ((((gt w.2.1 a).2.1.length:Nat):Int) - 1))with
 | false=>refine qt ?_;refine qt ?_;refine qC (f50 w hz.toSzX) ?_;rw[no (by rw[hNo,gs,gb];rfl)];rfl
 | true=>
 refine qf ?_;refine qC (f43 dC 1 255) ?_
 cases gc:inB dC 1 255 with
 | false=>refine qt ?_;refine qt ?_;refine qC (f50 w hz.toSzX) ?_;rw[no (by rw[hNo,gs,gb,gc];rfl)];rfl
 | true=>
 have hb:=gb
 rw[aQ] at hb
 have hql:(gt w.2.1 a).2.1.length<=1048576:=hq.len
 rw[IntKind.wrap_i64] at hb
 obtain⟨b,rfl⟩:∃ b:Nat,dB=(b:Int):=⟨dB.toNat,by omega⟩
 have hbl:b<(gt w.2.1 a).2.1.length:=by omega
 have hN:jA w (dk,(a:Int),(b:Int),dC,dt,du)=((w.1,w.2.1.set a (AC (gt w.2.1 a) b dC),w.2.2.1,()),0):=by
  unfold jA;show(bif dk==4 then _ else bif dk==5 then _ else bif dk==6 then _ else _)=_;rw[g4,g5,g6,show mL w (dk,(a:Int),(b:Int),dC,dt,du)=false by rw[hNo,gs,gb,gc];rfl];rfl
 have hs2:a<(w.2.1.set a ((gt w.2.1 a).1,(gt w.2.1 a).2.1.set b (jQ .u8 (gt (gt w.2.1 a).2.1 b).1 (IntKind.u8.wrap dC),(gt (gt w.2.1 a).2.1 b).2),(gt w.2.1 a).2.2)).length:=by rw[List.length_set];exact ha
 refine qf ?_;refine(aD ha).trans ?_;refine qz ?_;refine(aD ha).trans ?_;refine(aD hbl).trans ?_;refine(aD ha).trans ?_;refine(aD hbl).trans ?_;refine qz ?_;refine(aD ha).trans ?_;refine(aD hbl).trans ?_;refine(aD ha).trans ?_;refine(aD hbl).trans ?_;rw[zE];refine(aD hs2).trans ?_;rw[zE];refine qf ?_;rw[hN]
 have e:(w.2.1.set a ((gt w.2.1 a).1,(gt w.2.1 a).2.1.set b (jQ .u8 (gt (gt w.2.1 a).2.1 b).1 (IntKind.u8.wrap dC),(gt (gt w.2.1 a).2.1 b).2),(gt w.2.1 a).2.2)).set a ((gt (w.2.1.set a ((gt w.2.1 a).1,(gt w.2.1 a).2.1.set b (jQ .u8 (gt (gt w.2.1 a).2.1 b).1 (IntKind.u8.wrap dC),(gt (gt w.2.1 a).2.1 b).2),(gt w.2.1 a).2.2)) a).1,(gt (w.2.1.set a ((gt w.2.1 a).1,(gt w.2.1 a).2.1.set b (jQ .u8 (gt (gt w.2.1 a).2.1 b).1 (IntKind.u8.wrap dC),(gt (gt w.2.1 a).2.1 b).2),(gt w.2.1 a).2.2)) a).2.1,true,(gt (w.2.1.set a ((gt w.2.1 a).1,(gt w.2.1 a).2.1.set b (jQ .u8 (gt (gt w.2.1 a).2.1 b).1 (IntKind.u8.wrap dC),(gt (gt w.2.1 a).2.1 b).2),(gt w.2.1 a).2.2)) a).2.2.2)=w.2.1.set a (AC (gt w.2.1 a) b dC):=by
  rw[cG (xs:=w.2.1) (i:=a) ha,List.set_set];rfl
 exact congrArg (λq:List c9=>(some (rJ ((w.1,q,w.2.2.1,()),0)):Option Out)) e
end Go.Abs.Pz
namespace Go.Abs.Pz
open Go Go.Abs
theorem f351(s:aE)(id:Int)(hz:SzS s):Ran p 5 351 [va K50 s, vf K3 (id,())] ⟨[⟨K104,(jB s id).1⟩,⟨K4,((jB s id).2,())⟩],[]⟩:=go351 λn hn=>Ev.now λaA=>by
 unfold T351;refine qC (f62 s hz) ?_;refine qD (f149 (kQ s,[],()) id (aK (CW hz))) ?_;rfl
end Go.Abs.Pz
