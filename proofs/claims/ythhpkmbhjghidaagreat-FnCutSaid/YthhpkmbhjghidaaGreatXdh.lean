/- What the functions of this program answer, part dh. -/
import Derived.Test.YthhpkmbhjghidaaGreatW3
import Derived.Test.YthhpkmbhjghidaaGreatXsa
import Derived.Test.YthhpkmbhjghidaaGreatXra
set_option linter.unusedVariables false
open Go.IntKind (i64)
namespace Go.Abs.Uz
open Go Go.Abs
theorem zR(i:Int)(e:bA):∃ b:Bool,Ran p 4 236 [vf K3 (i,()), va K83 e] ⟨[⟨K43,z9 i e⟩,⟨K4,(b,())⟩],[]⟩:=by
 have hs:=f87 ([(i,e)],[],()) (by show 1<=9223372036854775807;omega) (by show 0<=9223372036854775807;omega)
 unfold z9
 cases ho:aL ([(i,e)],[],())with
 | false=>exact⟨false,go236 λn hn=>Ev.now λaA=>by unfold T236;refine qC hs ?_;rw[ho];rfl⟩
 | true=>exact⟨true,go236 λn hn=>Ev.now λaA=>by unfold T236;refine qC hs ?_;rw[ho];rfl⟩
theorem f271(i:Int)(e:bA):Ran p 5 271 [vf K3 (i,()), va K83 e] ⟨[⟨K43,z9 i e⟩,⟨K3,((0:Int),())⟩],[]⟩:=by
 obtain⟨b,hs⟩:=zR i e
 exact go271 λn hn=>Ev.now λaA=>by unfold T271;refine qD hs ?_;rfl
theorem f258(s:aE)(i:Int)(hz:SzS s):Ran p 6 258 [va K43 s, vf K3 (i,())] ⟨[⟨K43,(rY s i).1⟩,⟨K3,((rY s i).2,())⟩],[]⟩:=go258 λn hn=>Ev.now λaA=>by
 unfold T258 rY;refine qC (f87 s (aR hz.a) (aR hz.b)) ?_
 cases aL s with
 | false=>rfl
 | true=>
 refine qf ?_;refine qC (f146 i) ?_
 cases eF i with
 | false=>rfl
 | true=>
 refine qf ?_;refine qD (f38 s i hz) ?_
 cases (fF s i).2 with
 | true=>rfl
 | false=>
 refine qf ?_;refine qD (f88 s i (aR hz.a)) ?_;refine qC (f164 s i (aR hz.b)) ?_;refine qC (f230 (a9 s i).1.1 (cK s.2.1 i)) ?_
 cases h:vA s i==1000 with
 | true=>(first | refine qT h ?_ | refine qt ?_);rfl
 | false=>(first | refine qF h ?_ | refine qf ?_);refine qD (f271 i (i64.wrap (vA s i+1),0,0,0,⟨#[]⟩,())) ?_;rfl
theorem f272(s:aE)(i:Int)(hz:SzS s):Ran p 6 272 [va K43 s, vf K3 (i,())] ⟨[⟨K83,(upE s i).1⟩,⟨K3,((upE s i).2,())⟩],[]⟩:=go272 λn hn=>Ev.now λaA=>by
 unfold T272 upE;refine qC (f87 s (aR hz.a) (aR hz.b)) ?_
 cases aL s with
 | false=>rfl
 | true=>
 refine qf ?_;refine qC (f146 i) ?_
 cases eF i with
 | false=>rfl
 | true=>
 refine qf ?_;refine qD (f38 s i hz) ?_
 cases (fF s i).2<;>rfl
theorem f259(s:aE)(i:Int)(hz:SzS s):Ran p 7 259 [va K43 s, vf K3 (i,())] ⟨[⟨K43,(sA s i).1⟩,⟨K3,((sA s i).2,())⟩],[]⟩:=go259 λn hn=>Ev.now λaA=>by
 unfold T259 sA;refine qD (f272 s i hz) ?_
 cases h:(upE s i).2 != 0 with
 | true=>(first | refine qT h ?_ | refine qt ?_);rfl
 | false=>
 (first | refine qF h ?_ | refine qf ?_)
 cases h2:(upE s i).1.2.2.1==100000 with
 | true=>(first | refine qT h2 ?_ | refine qt ?_);rfl
 | false=>(first | refine qF h2 ?_ | refine qf ?_);refine qD (f271 i ((upE s i).1.1,(upE s i).1.2.1,i64.wrap ((upE s i).1.2.2.1+1),(upE s i).1.2.2.2.1,(upE s i).1.2.2.2.2.1,())) ?_;rfl
theorem f260(s:aE)(i:Int)(t:ByteArray)(hz:SzS s):Ran p 7 260 [va K43 s, vf K3 (i,()), vf K9 (t,())] ⟨[⟨K43,(v3 s i t).1⟩,⟨K3,((v3 s i t).2,())⟩],[]⟩:=go260 λn hn=>Ev.now λaA=>by
 unfold T260 v3;refine qD (f272 s i hz) ?_
 cases h:(upE s i).2 != 0 with
 | true=>(first | refine qT h ?_ | refine qt ?_);rfl
 | false=>
 (first | refine qF h ?_ | refine qf ?_)
 cases h2:(upE s i).1.2.2.2.1==1000 with
 | true=>(first | refine qT h2 ?_ | refine qt ?_);rfl
 | false=>
 (first | refine qF h2 ?_ | refine qf ?_)
 by_cases h3:((ByteArray.size t:Nat):Int)>8
 ·refine qP h3 ?_;rw[decide_eq_true h3];rfl
 ·refine qN h3 ?_;rw[decide_eq_false h3];refine qD (f271 i ((upE s i).1.1,(upE s i).1.2.1,(upE s i).1.2.2.1,i64.wrap ((upE s i).1.2.2.2.1+1),t,())) ?_;rfl
theorem f261(s:aE)(i:Int)(hz:SzS s):Ran p 7 261 [va K43 s, vf K3 (i,())] ⟨[⟨K43,(rZ s i).1⟩,⟨K3,((rZ s i).2,())⟩],[]⟩:=go261 λn hn=>Ev.now λaA=>by
 unfold T261 rZ;refine qD (f272 s i hz) ?_
 cases h:(upE s i).2 != 0 with
 | true=>(first | refine qT h ?_ | refine qt ?_);rfl
 | false=>(first | refine qF h ?_ | refine qf ?_);refine qD (f271 i ((upE s i).1.1,1,(upE s i).1.2.2.1,(upE s i).1.2.2.2.1,(upE s i).1.2.2.2.2.1,())) ?_;rfl
theorem f242(s:aE)(k i:Int)(t:ByteArray)(hz:SzS s):Ran p 8 242 [va K43 s, vf K3 (k,()), vf K3 (i,()), vf K9 (t,())] ⟨[⟨K43,(fQ s k i t).1⟩,⟨K3,((fQ s k i t).2,())⟩],[]⟩:=go242 λn hn=>Ev.now λaA=>by
 unfold T242 fQ
 cases k==0 with
 | true=>refine qt ?_;refine qD (f258 s i hz) ?_;rfl
 | false=>
 refine qf ?_
 cases k==1 with
 | true=>refine qt ?_;refine qD (f259 s i hz) ?_;rfl
 | false=>
 refine qf ?_
 cases k==2 with
 | true=>refine qt ?_;refine qD (f260 s i t hz) ?_;rfl
 | false=>refine qf ?_;refine qD (f261 s i hz) ?_;rfl
theorem f243(l:fZ)(d:aE)(hl:l.2.2.1.length<=aP)(hs:∀ i,i<l.2.2.1.length->SzS (gt l.2.2.1 i))(hz:SzS d):Ran p 5 243 [va K68 l, va K43 d] ⟨[⟨K68,(tL l d).1⟩,⟨K4,((tL l d).2,())⟩],[]⟩:=go243 λn hn=>Ev.now λaA=>by
 unfold T243 tL m6;refine qC (f140 l hl hs) ?_;refine qC (f158 l hl hs) ?_
 cases g1:gM l with
 | false=>rfl
 | true=>
 refine qf ?_;refine qC (f87 d (aR hz.a) (aR hz.b)) ?_
 cases aL d with
 | false=>rfl
 | true=>
 refine qf ?_
 cases h:i64.wrap (l.2.1+(l.2.2.1.length:Int))==100000 with
 | true=>(first | refine qT h ?_ | refine qt ?_);rfl
 | false=>
 (first | refine qF h ?_ | refine qf ?_)
 have hb:l.2.2.1.length+1<=bound:=by unfold aP at hl;unfold bound;omega
 have hlen:(l.2.2.1++[d]).length=l.2.2.1.length+1:=by rw[List.length_append,List.length_singleton]
 refine qC (f73 d hz) ?_;refine qP hb ?_
 show _=some (⟨[⟨K68,gJ l d⟩,⟨K4,(true,())⟩],[]⟩:Out)
 unfold gJ
 by_cases hc:(((l.2.2.1++[d]).length:Nat):Int)>l.1
 ·refine qP hc ?_;rw[decide_eq_true hc]
  refine(G1 (show(0:Int)<=1 by omega) (show(1:Int)<=(((l.2.2.1++[d]).length:Nat):Int) by rw[hlen];omega)).trans ?_
  refine qP (show List.length ([]:List aE)+(((l.2.2.1++[d]).take (l.2.2.1++[d]).length).drop ((1:Int)).toNat).length<=bound by rw[List.take_length,List.length_drop,hlen];simp;omega) ?_
  show(some ⟨[⟨K68,(l.1,i64.wrap (l.2.1+1),(((l.2.2.1++[d]).take (l.2.2.1++[d]).length).drop ((1:Int)).toNat),())⟩,⟨K4,(true,())⟩],[]⟩:Option Out)=_
  rw[List.take_length];rfl
 ·refine qN hc ?_;rw[decide_eq_false hc];rfl
end Go.Abs.Uz
namespace Go.Abs.Uz
open Go Go.Abs
def N4(r:KS):Out:=⟨[⟨K73,r.1⟩,⟨K43,r.2.1⟩,⟨K3,(r.2.2,())⟩],[]⟩
theorem s8{s:aE}(h:aL s=true):SzS s:=by
 have:=((aN s).1 h).len
 exact⟨by unfold aP;omega,by unfold aP;omega⟩
theorem f209(x:NodeT)(k i:Int)(t:ByteArray)(hz:SzN x):Ran p 9 209 [va K73 x, vf K3 (k,()), vf K3 (i,()), vf K9 (t,())] (N4 (jJ x k i t)):=go209 λn hn=>Ev.now λaA=>by
 have bad:uP x k i=false->(some ⟨[⟨K73,x⟩,⟨K43,([],[],())⟩,⟨K3,((1:Int),())⟩],[]⟩:Option Out)=some (N4 (jJ x k i t)):=λh=>by unfold jJ;rw[h];rfl
 unfold T209;refine qC (f72 x hz) ?_;refine qC (f86 x hz) ?_
 cases g1:dU x with
 | false=>refine qt ?_;exact bad (by unfold uP;rw[g1];rfl)
 | true=>
 refine qf ?_;refine qC (f85 k 0 4) ?_
 cases g2:inB k 0 4 with
 | false=>refine qt ?_;exact bad (by unfold uP;rw[g1,g2];rfl)
 | true=>
 refine qf ?_;refine qC (f85 i 0 (i64.wrap (x.2.1 - 1))) ?_
 cases g3:inB i 0 (i64.wrap (x.2.1 - 1))with
 | false=>refine qt ?_;exact bad (by unfold uP;rw[g1,g2,g3];rfl)
 | true=>
 refine qf ?_
 cases g4:rP (k==4) (i==x.1)with
 | true=>(first | refine qT g4 ?_ | refine qt ?_);exact bad (by unfold uP;rw[g1,g2,g3,g4];rfl)
 | false=>
 have ok:uP x k i=true:=by unfold uP;rw[g1,g2,g3,g4];rfl
 have hN:=(fE x).1 g1
 have hd:=FH x.state k i t
 (first | refine qF g4 ?_ | refine qf ?_);refine qD (f242 x.state k i t hz.state) ?_
 unfold jJ;rw[ok]
 cases g5:(fQ x.state k i t).2 != 0 with
 | true=>(first | refine qT g5 ?_ | refine qt ?_);rfl
 | false=>
 (first | refine qF g5 ?_ | refine qf ?_);refine qD (f243 x.log (fQ x.state k i t).1 hz.list hz.logs (s8 hd)) ?_
 unfold tL
 cases hb:m6 x.log (fQ x.state k i t).1 with
 | false=>rfl
 | true=>
 have hid:=hN.id;have hn5:=hN.n;have hv:=hN.got
 rw[aM] at hid hn5
 rw[IntKind.wrap_i64] at hid
 unfold eD at hv
 simp only[Bool.and_eq_true,beq_iff_eq] at hv
 have h0:(0:Int)<=x.1:=hid.1
 have hk:x.1.toNat<x.got.length:=by omega
 refine qf ?_;refine qC (f72 x hz) ?_;refine qP h0 ?_;refine(aZ hk).trans ?_;refine(aZ hk).trans ?_;refine qP h0 ?_;refine(aZ hk).trans ?_;refine(aZ hk).trans ?_
 refine qC (f203 (JZ x (fQ x.state k i t).1) (fQ x.state k i t).1 (FI hz hN hb) (s8 hd) (DN (zU hN hb)) hd) ?_;rfl
theorem NK{x:NodeT}(h:NodeOk x):NodeOk (mL x):=by
 unfold mL
 rw[(fE x).2 h]
 cases hc:x.clock==100000 with
 | true=>exact h
 | false=>
  have hcl:=h.clock;have hwt:=h.wait
  rw[aM] at hcl hwt
  have hne:x.clock≠100000:=by rw[beq_eq_false_iff_ne] at hc;exact hc
  have hw:i64.wrap (x.clock+1)=x.clock+1:=by rw[IntKind.wrap_i64];omega
  have hs:=(dS x).1 h.sess
  have tw:∀ s∈x.sess,i64.wrap (s.2.2.2.1+1)=s.2.2.2.1+1:=λs hm=>by
   have:=(hs.2.1 s hm).2.2.2;rw[aM] at this;rw[IntKind.wrap_i64];omega
  show NodeOk (zJ x)
  have e:(zJ x).sess=x.sess.flatMap λs=>bif decide (i64.wrap (s.2.2.2.1+1)<=x.wait)then[B7 s] else[]:=bV (λs:eI=>bif decide (i64.wrap (s.2.2.2.1+1)<=x.wait)then[B7 s] else[]) x.sess
  have mem:∀ s∈(zJ x).sess,∃ r∈x.sess,s=B7 r/\i64.wrap (r.2.2.2.1+1)<=x.wait:=λs hm=>by
   rw[e] at hm
   obtain⟨r,hr,hx⟩:=List.mem_flatMap.1 hm
   refine⟨r,hr,?_⟩
   by_cases hd:i64.wrap (r.2.2.2.1+1)<=x.wait
   ·rw[decide_eq_true hd] at hx;exact⟨List.mem_singleton.1 hx,hd⟩
   ·rw[decide_eq_false hd] at hx;cases hx
  have sub:∀ l:List eI,List.Sublist ((l.flatMap λs=>bif decide (i64.wrap (s.2.2.2.1+1)<=x.wait)then[B7 s] else[]).map pZ) (l.map pZ):=λl=>by
   induction l with
   | nil=>exact List.Sublist.slnil
   | cons s l ih=>
    rw[List.flatMap_cons,List.map_append,List.map_cons]
    cases decide (i64.wrap (s.2.2.2.1+1)<=x.wait)with
    | true=>exact List.Sublist.cons_cons _ ih
    | false=>exact List.Sublist.cons _ ih
  exact {
   n:=h.n,id:=h.id,state:=h.state,tree:=h.tree,log:=h.log,got:=h.got,acked:=h.acked,own:=h.own,seen:=h.seen,ack:=h.ack,num:=h.num
   clock:=by show inB (i64.wrap (x.clock+1)) 0 100000=true;rw[hw,aM];omega
   slots:=h.slots,wait:=h.wait,limit:=h.limit,rises:=h.rises
   rise:=by
    have h6:=h.rise
    rw[bD] at h6 ⊢
    intro i hi
    have h7:=h6 i hi
    unfold kI at h7 ⊢
    simp only[Bool.and_eq_true,aM] at h7 ⊢
    refine⟨h7.1,h7.2.1,h7.2.2.1,?_⟩
    show(gt x.rises i).2.2.1<=i64.wrap (x.clock+1)
    rw[hw];omega
   sess:=by
    refine(dS _).2 ⟨?_,λs hm=>?_,?_⟩
    ·have h8:=CA x
     show(((zJ x).sess.length:Nat):Int)<=x.slots
     have:=hs.1;omega
    ·obtain⟨r,hr,rfl,hle⟩:=mem s hm
     have h9:=hs.2.1 r hr
     have h10:=h9.2.2.2
     rw[aM] at h10
     refine⟨h9.1,h9.2.1,h9.2.2.1,?_⟩
     show inB (i64.wrap (r.2.2.2.1+1)) 0 x.wait=true
     rw[aM];rw[tw r hr] at hle ⊢;omega
    ·rw[e];exact(sub x.sess).nodup hs.2.2 }
end Go.Abs.Uz
set_option maxHeartbeats 4000000
namespace Go.Abs.Uz
open Go Go.Abs
abbrev jV:=Int×Int×Int×Int×ByteArray×Unit
def OM(x:NodeT)(i:Int):MsgT:=(0,x.1,i,0,cA x.log,[],0,x.got,[],(sM x (gt x.acked i.toNat).1).1,(sM x (gt x.acked i.toNat).1).2.1,c8 x.state,())
def jQ(x:NodeT)(i:Int):MsgT×Bool:=bif dU x&&mN x i then(OM x i,true)else(BX,false)
def SC(r:MsgT×Bool):Out:=⟨[⟨K46,r.1⟩,⟨K4,(r.2,())⟩],[]⟩
theorem OL{x:NodeT}(hz:SzN x)(i:Int):SzM (OM x i):=⟨Nat.zero_le _,hz.got,Nat.zero_le _,FE hz _,Nat.le_trans (fR _) (by decide)⟩
theorem OK{x:NodeT}(hz:SzN x)(i:Int):SzM (jQ x i).1:=by
 unfold jQ
 cases dU x&&mN x i with
 | true=>exact OL hz i
 | false=>exact J8
theorem SH{x:NodeT}{i:Int}(h:dU x=true)(hp:mN x i=true):0<=i/\i.toNat<x.acked.length:=by
 have hn:=(fE x).1 h
 have h1:=hn.n;have h2:=hn.acked
 unfold mN at hp
 rw[Bool.and_eq_true,aM] at hp
 unfold eD at h2
 rw[Bool.and_eq_true,Bool.and_eq_true] at h2
 have h3:=eq_of_beq h2.2.1
 rw[aM] at h1
 have h4:=hp.1
 rw[IntKind.wrap_i64] at h4
 omega
theorem f252(x:NodeT)(i:Int)(hz:SzN x):Ran p 8 252 [va K73 x, vf K3 (i,())] (SC (jQ x i)):=go252 λn hn=>Ev.now λaA=>by
 unfold T252;refine qC (f86 x hz) ?_
 cases g1:dU x with
 | false=>refine qt ?_;rw[show jQ x i=(BX,false) by unfold jQ;rw[g1];rfl];rfl
 | true=>
 refine qf ?_;refine qC (f239 x i) ?_
 cases g2:mN x i with
 | false=>refine qt ?_;rw[show jQ x i=(BX,false) by unfold jQ;rw[g1,g2];rfl];rfl
 | true=>
 obtain⟨h0,hl⟩:=SH g1 g2
 rw[show jQ x i=(OM x i,true) by unfold jQ;rw[g1,g2];rfl]
 refine qf ?_;refine qC (f241 x 0 i 0 hz) ?_;refine qP h0 ?_
 obtain⟨k,rfl⟩:∃ k:Nat,i=(k:Int):=⟨i.toNat,by omega⟩
 refine(aD (show k<x.acked.length by omega)).trans ?_;refine qD (f268 x (gt x.acked k).1 hz) ?_;rfl
theorem f254(l:List cN)(i:Nat)(hi:i<l.length)(hl:l.length<=aP):Ran p 1 254 [vf K25 (l,()), vf K3 ((i:Int),())] (rO K25 (l.take i++l.drop (i+1),())):=go254 λn hn=>Ev.now λaA=>by
 have hs:l.length<=1048576:=hl
 have e1:i64.wrap ((i:Int)+1)=((i+1:Nat):Int):=aF (by omega)
 have b1:0+((l.take ((i:Int)).toNat).drop 0).length<=bound:=by rw[List.length_drop,List.length_take];unfold bound;omega
 have b2:(([]:List cN)++(l.take ((i:Int)).toNat).drop 0).length+((l.take l.length).drop ((i+1:Nat):Int).toNat).length<=bound:=by
  rw[List.nil_append,List.length_drop,List.length_take,List.length_drop,List.length_take];unfold bound;omega
 unfold T254;rw[e1];refine qT (rng (c:=True) (d:=True) (show(0:Int)<=(i:Int) by omega) (show(i:Int)<=(l.length:Int) by omega)) ?_;refine qP b1 ?_;refine qT (rng (c:=True) (d:=True) (show(0:Int)<=((i+1:Nat):Int) by omega) (show((i+1:Nat):Int)<=(l.length:Int) by omega)) ?_;refine qP b2 ?_
 exact congrArg (λq:List cN=>(rV K25 (q,()):Option Out)) (by
  show(([]:List cN)++List.drop (α:=cN) 0 (List.take (α:=cN) ((i:Int)).toNat l))++List.drop (α:=cN) ((i+1:Nat):Int).toNat (List.take (α:=cN) l.length l)=l.take i++l.drop (i+1)
  rw[List.take_length,Int.toNat_natCast,Int.toNat_natCast];rfl)
-- worlds, changed by deeds
structure SzY (w:aU):Prop extends SzX w where
 by_:∀ i,i<w.2.1.length->ByL (gt w.2.1 i).2.1
def KL(r:aU×Int):Out:=⟨[⟨K28,r.1⟩,⟨K3,(r.2,())⟩],[]⟩
def cQ(w:aU)(d:jV):aU×Int:=
 bif d.1==1 then((w.1.set d.2.1.toNat (mL (gt w.1 d.2.1.toNat)),w.2.1,w.2.2.1,()),0)else
 bif d.1==0 then(bif(w.2.2.1.length:Int)==40 then(w,3)else bif(jJ (gt w.1 d.2.1.toNat) d.2.2.1 d.2.2.2.1 d.2.2.2.2.1).2.2 != 0 then(w,2)else
  ((w.1.set d.2.1.toNat (jJ (gt w.1 d.2.1.toNat) d.2.2.1 d.2.2.2.1 d.2.2.2.2.1).1,w.2.1,w.2.2.1++[(d.2.1,(jJ (gt w.1 d.2.1.toNat) d.2.2.1 d.2.2.2.1 d.2.2.2.2.1).2.1)],()),0))else
 bif(w.2.1.length:Int)==12 then(w,3)else
 bif d.1==2 then(bif !(jQ (gt w.1 d.2.1.toNat) d.2.2.1).2 then(w,2)else((w.1,w.2.1++[(d.2.2.1,bG (jQ (gt w.1 d.2.1.toNat) d.2.2.1).1,false,())],w.2.2.1,()),0))else
 (bif !(iZ (gt w.1 d.2.1.toNat) d.2.2.1).2.2 then((w.1.set d.2.1.toNat (iZ (gt w.1 d.2.1.toNat) d.2.2.1).1,w.2.1,w.2.2.1,()),2)else
  ((w.1.set d.2.1.toNat (iZ (gt w.1 d.2.1.toNat) d.2.2.1).1,w.2.1++[(d.2.2.1,bG (iZ (gt w.1 d.2.1.toNat) d.2.2.1).2.1,false,())],w.2.2.1,()),0))
theorem f231(w:aU)(d:jV)(hz:SzX w)(h0:0<=d.2.1)(ha:d.2.1.toNat<w.1.length)(hn0:w.2.1.length<=12)(hs0:w.2.2.1.length<=40):Ran p 10 231 [va K28 w, va K222 d] (KL (cQ w d)):=go231 λn hn=>Ev.now λaA=>by
 obtain⟨dk,dA,dB,dC,dt,du⟩:=d
 obtain⟨a,rfl⟩:∃ a:Nat,dA=(a:Int):=⟨dA.toNat,by have h0:0<=dA:=h0;omega⟩
 have ha:a<w.1.length:=ha
 have hx:=hz.node a ha
 unfold T231;refine qC (f30 w hz) ?_;refine qz ?_;refine(aD ha).trans ?_
 cases g1:dk==1 with
 | true=>
  (first | refine qT g1 ?_ | refine qt ?_);refine qC (f205 (gt w.1 a) hx) ?_;refine qz ?_;refine(aD ha).trans ?_;refine(aD ha).trans ?_
  rw[show cQ w (dk,(a:Int),dB,dC,dt,du)=((w.1.set a (mL (gt w.1 a)),w.2.1,w.2.2.1,()),0) by unfold cQ;rw[g1];rfl];rfl
 | false=>
 (first | refine qF g1 ?_ | refine qf ?_)
 cases g0:dk==0 with
 | true=>
  (first | refine qT g0 ?_ | refine qt ?_)
  cases gs:(w.2.2.1.length:Int)==40 with
  | true=>(first | refine qT gs ?_ | refine qt ?_);rw[show cQ w (dk,(a:Int),dB,dC,dt,du)=(w,3) by unfold cQ;rw[g1,g0,gs];rfl];rfl
  | false=>
   (first | refine qF gs ?_ | refine qf ?_);refine qE (f209 (gt w.1 a) dB dC dt hx) ?_
   cases gc:(jJ (gt w.1 a) dB dC dt).2.2 != 0 with
   | true=>(first | refine qT gc ?_ | refine qt ?_);rw[show cQ w (dk,(a:Int),dB,dC,dt,du)=(w,2) by unfold cQ;rw[g1,g0,gs];show(bif(jJ (gt w.1 a) dB dC dt).2.2 != 0 then(w,(2:Int))else _)=_;rw[gc];rfl];rfl
   | false=>
    have hbd:w.2.2.1.length+1<=bound:=by unfold bound;omega
    (first | refine qF gc ?_ | refine qf ?_);refine qz ?_;refine(aD ha).trans ?_;refine(aD ha).trans ?_;refine qP hbd ?_
    rw[show cQ w (dk,(a:Int),dB,dC,dt,du)=((w.1.set a (jJ (gt w.1 a) dB dC dt).1,w.2.1,w.2.2.1++[((a:Int),(jJ (gt w.1 a) dB dC dt).2.1)],()),0) by unfold cQ;rw[g1,g0,gs];show(bif(jJ (gt w.1 a) dB dC dt).2.2 != 0 then(w,(2:Int))else _)=_;rw[gc];rfl];rfl
 | false=>
 (first | refine qF g0 ?_ | refine qf ?_)
 cases gm:(w.2.1.length:Int)==12 with
 | true=>(first | refine qT gm ?_ | refine qt ?_);rw[show cQ w (dk,(a:Int),dB,dC,dt,du)=(w,3) by unfold cQ;rw[g1,g0,gm];rfl];rfl
 | false=>
 have hbn:w.2.1.length+1<=bound:=by unfold bound;omega
 (first | refine qF gm ?_ | refine qf ?_)
 cases g2:dk==2 with
 | true=>
  (first | refine qT g2 ?_ | refine qt ?_);refine qD (f252 (gt w.1 a) dB hx) ?_
  cases gp:(jQ (gt w.1 a) dB).2 with
  | false=>refine qt ?_;rw[show cQ w (dk,(a:Int),dB,dC,dt,du)=(w,2) by unfold cQ;rw[g1,g0,gm,g2];show(bif !(jQ (gt w.1 a) dB).2 then(w,(2:Int))else _)=_;rw[gp];rfl];rfl
  | true=>
   refine qf ?_;refine qC (f79 (jQ (gt w.1 a) dB).1 (OK hx dB)) ?_;refine qP hbn ?_
   rw[show cQ w (dk,(a:Int),dB,dC,dt,du)=((w.1,w.2.1++[(dB,bG (jQ (gt w.1 a) dB).1,false,())],w.2.2.1,()),0) by unfold cQ;rw[g1,g0,gm,g2];show(bif !(jQ (gt w.1 a) dB).2 then(w,(2:Int))else _)=_;rw[gp];rfl];rfl
 | false=>
  (first | refine qF g2 ?_ | refine qf ?_);refine qE (f208 (gt w.1 a) dB hx) ?_;refine qz ?_;refine(aD ha).trans ?_;refine(aD ha).trans ?_
  cases gp:(iZ (gt w.1 a) dB).2.2 with
  | false=>refine qt ?_;rw[show cQ w (dk,(a:Int),dB,dC,dt,du)=((w.1.set a (iZ (gt w.1 a) dB).1,w.2.1,w.2.2.1,()),2) by unfold cQ;rw[g1,g0,gm,g2];show(bif !(iZ (gt w.1 a) dB).2.2 then _ else _)=_;rw[gp];rfl];rfl
  | true=>
   refine qf ?_;refine qC (f79 (iZ (gt w.1 a) dB).2.1 (DT hx dB).2) ?_;refine qP hbn ?_
   rw[show cQ w (dk,(a:Int),dB,dC,dt,du)=((w.1.set a (iZ (gt w.1 a) dB).1,w.2.1++[(dB,bG (iZ (gt w.1 a) dB).2.1,false,())],w.2.2.1,()),0) by unfold cQ;rw[g1,g0,gm,g2];show(bif !(iZ (gt w.1 a) dB).2.2 then _ else _)=_;rw[gp];rfl];rfl
def TT(b:List aH):Int:=((cI b).getD BX).2.2.1
def vP(rs:List bM):Nat->Nat->List cN->List cN
 | 0,i,net=>net
 | k+1,i,net=>bif decide ((net.length:Int)<12)then vP rs k (i+1) (net++[(TT (gt rs i).1,(gt rs i).1,false,())])else net
def gS(l:List cN)(i:Nat):List cN:=l.take i++l.drop (i+1)
def GL(w:aU)(a:Nat):aU:=
 (w.1.set (gt w.2.1 a).1.toNat (eR (gt w.1 (gt w.2.1 a).1.toNat) (gt w.2.1 a).2.1).1,vP (eR (gt w.1 (gt w.2.1 a).1.toNat) (gt w.2.1 a).2.1).2.1 (eR (gt w.1 (gt w.2.1 a).1.toNat) (gt w.2.1 a).2.1).2.1.length 0 (gS w.2.1 a),w.2.2.1,())
theorem sE(o:Option MsgT):nC o=⟨[⟨K46,o.getD BX⟩,⟨K4,(o.isSome,())⟩],[]⟩:=by cases o<;>rfl
structure RbOk (r:NodeT×List bM×Int):Prop where
 node:SzN r.1
 len:r.2.1.length<=1
 row:∀ q∈r.2.1,ByL q.1/\q.1.length<=504
theorem xM{x:NodeT}(hz:SzN x)(b:List aH):RbOk (eR x b):=by
 cases h:cI b with
 | none=>rw[sO h];exact⟨hz,Nat.zero_le _,λq hq=>by cases hq⟩
 | some m=>
  have rs:=J1 hz (F3 h)
  rw[sN h]
  refine⟨rs.node,by rw[List.length_map];exact rs.len,λq hq=>?_⟩
  obtain⟨a,_,rfl⟩:=List.mem_map.1 hq
  exact⟨mP a,u6 a⟩
structure PkOk (p:cN):Prop where
 by_:ByL p.2.1
 len:p.2.1.length<=aP
theorem SzY.pk{w:aU}(h:SzY w){i:Nat}(hi:i<w.2.1.length):PkOk (gt w.2.1 i):=⟨h.by_ i hi,h.bytes i hi⟩
theorem SzY.all{w:aU}(h:SzY w):∀ q∈w.2.1,PkOk q:=λq hq=>by
 obtain⟨i,hi,rfl⟩:=fW hq
 exact h.pk hi
theorem xC{l:List cN}{i:Nat}{q:cN}(h:q∈gS l i):q∈l:=by
 rcases List.mem_append.1 h with h | h
 ·exact List.mem_of_mem_take h
 ·exact List.mem_of_mem_drop h
theorem kG(l:List cN)(i:Nat):(gS l i).length<=l.length:=by
 unfold gS;rw[List.length_append,List.length_take,List.length_drop];omega
theorem KR{rs:List bM}(hr:∀ q∈rs,ByL q.1/\q.1.length<=504):∀ (k i:Nat) (net:List cN),i+k<=rs.length->(∀ q∈net,PkOk q)->net.length<=12->(∀ q∈vP rs k i net,PkOk q)/\(vP rs k i net).length<=12
 | 0,i,net,_,h,hl=>⟨h,hl⟩
 | k+1,i,net,hi,h,hl=>by
  unfold vP
  by_cases h12:(net.length:Int)<12
  ·rw[decide_eq_true h12]
   have hg:=hr _ (cB (show i<rs.length by omega))
   refine KR hr k (i+1) _ (by omega) (λq hq=>?_) (by rw[List.length_append,List.length_singleton];omega)
   rcases List.mem_append.1 hq with hq | hq
   ·exact h q hq
   ·rw[List.mem_singleton.1 hq];exact⟨hg.1,Nat.le_trans hg.2 (by decide)⟩
  ·rw[decide_eq_false h12];exact⟨h,hl⟩
theorem f253(w:aU)(a:Nat)(hz:SzY w)(ha:a<w.2.1.length)(hn0:w.2.1.length<=12)(hp0:0<=(gt w.2.1 a).1)(hp:(gt w.2.1 a).1.toNat<w.1.length):Ran p 12 253 [va K28 w, vf K3 ((a:Int),())] (rO K28 (GL w a)):=go253 λn hn=>by
 have hq:=hz.pk ha
 have hx:=hz.node _ hp
 have hR:=xM hx (gt w.2.1 a).2.1
 have hrb:=f269 (gt w.1 (gt w.2.1 a).1.toNat) (gt w.2.1 a).2.1 hx hq.by_.b8 hq.len
 obtain⟨t,ht⟩:∃ t:Nat,(gt w.2.1 a).1=(t:Int):=⟨(gt w.2.1 a).1.toNat,by omega⟩
 have htn:(gt w.2.1 a).1.toNat=t:=by rw[ht];rfl
 have htl:t<w.1.length:=by rw[<- htn];exact hp
 have e1:i64.wrap ((a:Int)+1)=((a+1:Nat):Int):=aF (by omega)
 have b1:0+((w.2.1.take ((a:Int)).toNat).drop 0).length<=bound:=by rw[List.length_drop,List.length_take];unfold bound;omega
 have b2:(([]:List cN)++(w.2.1.take ((a:Int)).toNat).drop 0).length+((w.2.1.take w.2.1.length).drop ((a+1:Nat):Int).toNat).length<=bound:=by
  rw[List.nil_append,List.length_drop,List.length_take,List.length_drop,List.length_take];unfold bound;omega
 have ew:([]++(w.2.1.take ((a:Int)).toNat).drop 0)++(w.2.1.take w.2.1.length).drop ((a+1:Nat):Int).toNat=gS w.2.1 a:=by
  unfold gS;rw[List.take_length,Int.toNat_natCast,Int.toNat_natCast];rfl
 have hW:GL w a=(w.1.set t (eR (gt w.1 t) (gt w.2.1 a).2.1).1,vP (eR (gt w.1 t) (gt w.2.1 a).2.1).2.1 (eR (gt w.1 t) (gt w.2.1 a).2.1).2.1.length 0 (gS w.2.1 a),w.2.2.1,()):=by unfold GL;rw[htn]
 rw[htn] at hrb hR
 generalize eR (gt w.1 t) (gt w.2.1 a).2.1=R at hrb hR hW
 have lp:∀ (k i:Nat) (net:List cN),i+k=R.2.1.length->net.length<=12->It (λaA (_:Unit)=>c253_7 (aI p n) aA ((w,()),()) ((R.1,(R.2.1,()),(R.2.2,()),()),()) (gt (α:=cN) w.2.1 a)) ((i:Int),net) (λ_=>rV K28 ((w.1.set t R.1,vP R.2.1 k i net,w.2.2.1,()):aU)):=by
  intro k
  induction k with
  | zero=>
   intro i net hi hl
   refine It.stop λaA u rec=>?_
   unfold c253_7;dsimp only;refine qN (show ¬ ((i:Int)<(R.2.1.length:Int)) by omega) ?_;rw[<- htn];rfl
  | succ k ih=>
   intro i net hi hl
   have hlt:i<R.2.1.length:=by omega
   by_cases h12:(net.length:Int)<12
   ·have hg:=hR.row _ (cB hlt)
    have hmo:=f31 (gt R.2.1 i).1 hg.1.b8 (Nat.le_trans hg.2 (by decide))
    rw[sE] at hmo
    have hbd:net.length+1<=bound:=by unfold bound;omega
    have e2:vP R.2.1 (k+1) i net=vP R.2.1 k (i+1) (net++[(TT (gt R.2.1 i).1,(gt R.2.1 i).1,false,())]):=by
     conv=>lhs;unfold vP
     rw[decide_eq_true h12];rfl
    rw[e2]
    refine It.next (λaA u rec=>?_) (ih (i+1) (net++[(TT (gt R.2.1 i).1,(gt R.2.1 i).1,false,())]) (by omega) (by rw[List.length_append,List.length_singleton];omega))
    unfold c253_7;dsimp only;rw[aF (show i<9223372036854775807 by have:=hR.len;omega)];refine ql hlt ?_;refine qP h12 ?_;refine qz ?_;refine(aD hlt).trans ?_;refine(aD hlt).trans ?_;refine qD hmo ?_;refine qz ?_;refine(aD hlt).trans ?_;refine(aD hlt).trans ?_;refine qP hbd ?_;rfl
   ·have e2:vP R.2.1 (k+1) i net=net:=by
     conv=>lhs;unfold vP
     rw[decide_eq_false h12];rfl
    rw[e2]
    refine It.stop λaA u rec=>?_
    unfold c253_7;dsimp only;refine ql hlt ?_;refine qN h12 ?_;rw[<- htn];rfl
 have lp0:=lp R.2.1.length 0 (gS w.2.1 a) (by omega) (Nat.le_trans (kG _ _) hn0)
 rw[hW]
 exact Ev.eq (λaA=>by
  unfold T253;refine qC (f30 w hz.toSzX) ?_;refine qz ?_;refine(aD ha).trans ?_;refine qC (f254 w.2.1 a ha (show w.2.1.length<=1048576 by omega)) ?_
  refine qP hp0 ?_;rw[show vI (gt w.2.1 a).1=(t:Int)from ht];refine(aD htl).trans ?_;refine qE hrb ?_;refine qz ?_;refine(aD htl).trans ?_;refine(aD htl).trans ?_
  rfl) (lp0.ev (i:=()) rfl)
end Go.Abs.Uz
set_option maxHeartbeats 4000000
namespace Go.Abs.Uz
open Go Go.Abs
def HJ(q:cN)(b:Nat)(c:Int):cN:=(q.1,q.2.1.set b (kU .u8 (gt q.2.1 b).1 (IntKind.u8.wrap c),(gt q.2.1 b).2),true,q.2.2.2)
def pD(w:aU)(d:jV):Bool:=(gt w.2.1 d.2.1.toNat).2.2.1||(!inB d.2.2.1 0 (i64.wrap ((((gt w.2.1 d.2.1.toNat).2.1.length:Nat):Int) - 1))|| !inB d.2.2.2.1 1 255)
def nB(w:aU)(d:jV):aU×Int:=
 bif d.1==4 then(GL w d.2.1.toNat,0)else
 bif d.1==5 then((w.1,gS w.2.1 d.2.1.toNat,w.2.2.1,()),0)else
 bif d.1==6 then(bif(w.2.1.length:Int)==12 then(w,3)else((w.1,w.2.1++[gt w.2.1 d.2.1.toNat],w.2.2.1,()),0))else
 bif pD w d then(w,2)else((w.1,w.2.1.set d.2.1.toNat (HJ (gt w.2.1 d.2.1.toNat) d.2.2.1.toNat d.2.2.2.1),w.2.2.1,()),0)
theorem f232(w:aU)(d:jV)(hz:SzY w)(h0:0<=d.2.1)(ha:d.2.1.toNat<w.2.1.length)(hn0:w.2.1.length<=12)(hp0:0<=(gt w.2.1 d.2.1.toNat).1)(hp:(gt w.2.1 d.2.1.toNat).1.toNat<w.1.length):
  Ran p 13 232 [va K28 w, va K222 d] (KL (nB w d)):=go232 λn hn=>Ev.now λaA=>by
 obtain⟨dk,dA,dB,dC,dt,du⟩:=d
 obtain⟨a,rfl⟩:∃ a:Nat,dA=(a:Int):=⟨dA.toNat,by have h0:0<=dA:=h0;omega⟩
 have ha:a<w.2.1.length:=ha
 have hq:=hz.pk ha
 unfold T232;refine qC (f30 w hz.toSzX) ?_;refine qz ?_;refine(aD ha).trans ?_;refine(aD ha).trans ?_
 cases g4:dk==4 with
 | true=>(first | refine qT g4 ?_ | refine qt ?_);refine qC (f253 w a hz ha hn0 hp0 hp) ?_;rw[show nB w (dk,(a:Int),dB,dC,dt,du)=(GL w a,0) by unfold nB;rw[g4];rfl];rfl
 | false=>
 (first | refine qF g4 ?_ | refine qf ?_)
 cases g5:dk==5 with
 | true=>(first | refine qT g5 ?_ | refine qt ?_);refine qC (f254 w.2.1 a ha hz.net) ?_;rw[show nB w (dk,(a:Int),dB,dC,dt,du)=((w.1,gS w.2.1 a,w.2.2.1,()),0) by unfold nB;rw[g4,g5];rfl];rfl
 | false=>
 (first | refine qF g5 ?_ | refine qf ?_)
 cases g6:dk==6 with
 | true=>
  (first | refine qT g6 ?_ | refine qt ?_)
  cases gm:(w.2.1.length:Int)==12 with
  | true=>(first | refine qT gm ?_ | refine qt ?_);rw[show nB w (dk,(a:Int),dB,dC,dt,du)=(w,3) by unfold nB;rw[g4,g5,g6,gm];rfl];rfl
  | false=>
   have hbn:w.2.1.length+1<=bound:=by unfold bound;omega
   (first | refine qF gm ?_ | refine qf ?_);refine(aD ha).trans ?_;refine qC (f32 (gt w.2.1 a) hq.len) ?_;refine qP hbn ?_;rw[show nB w (dk,(a:Int),dB,dC,dt,du)=((w.1,w.2.1++[gt w.2.1 a],w.2.2.1,()),0) by unfold nB;rw[g4,g5,g6,gm];rfl];rfl
 | false=>
 (first | refine qF g6 ?_ | refine qf ?_)
 have hNo:∀ B C:Int,pD w (dk,(a:Int),B,C,dt,du)=((gt w.2.1 a).2.2.1||(!inB B 0 (i64.wrap ((((gt w.2.1 a).2.1.length:Nat):Int) - 1))|| !inB C 1 255)):=λ_ _=>rfl
 have no:pD w (dk,(a:Int),dB,dC,dt,du)=true->nB w (dk,(a:Int),dB,dC,dt,du)=(w,2):=λh=>by unfold nB;rw[g4,g5,g6,h];rfl
 cases gs:(gt w.2.1 a).2.2.1 with
 | true=>(first | refine qT gs ?_ | refine qt ?_);rw[no (by rw[hNo,gs];rfl)];rfl
 | false=>
 (first | refine qF gs ?_ | refine qf ?_);refine(aD ha).trans ?_;refine qC (f85 dB 0 (i64.wrap ((((gt w.2.1 a).2.1.length:Nat):Int) - 1))) ?_
 cases gb:inB dB 0 (i64.wrap ((((gt w.2.1 a).2.1.length:Nat):Int) - 1))with
 | false=>refine qt ?_;rw[no (by rw[hNo,gs,gb];rfl)];rfl
 | true=>
 refine qf ?_;refine qC (f85 dC 1 255) ?_
 cases gc:inB dC 1 255 with
 | false=>refine qt ?_;rw[no (by rw[hNo,gs,gb,gc];rfl)];rfl
 | true=>
 have hb:=gb
 rw[aM] at hb
 have hql:(gt w.2.1 a).2.1.length<=1048576:=hq.len
 rw[IntKind.wrap_i64] at hb
 obtain⟨b,rfl⟩:∃ b:Nat,dB=(b:Int):=⟨dB.toNat,by omega⟩
 have hbl:b<(gt w.2.1 a).2.1.length:=by omega
 have hN:nB w (dk,(a:Int),(b:Int),dC,dt,du)=((w.1,w.2.1.set a (HJ (gt w.2.1 a) b dC),w.2.2.1,()),0):=by
  unfold nB;rw[g4,g5,g6,show pD w (dk,(a:Int),(b:Int),dC,dt,du)=false by rw[hNo,gs,gb,gc];rfl];rfl
 have hs2:a<(w.2.1.set a ((gt w.2.1 a).1,(gt w.2.1 a).2.1.set b (kU .u8 (gt (gt w.2.1 a).2.1 b).1 (IntKind.u8.wrap dC),(gt (gt w.2.1 a).2.1 b).2),(gt w.2.1 a).2.2)).length:=by rw[List.length_set];exact ha
 refine qf ?_;refine qz ?_;refine(aD ha).trans ?_;refine(aD hbl).trans ?_;refine(aD ha).trans ?_;refine(aD hbl).trans ?_;refine qz ?_;refine(aD ha).trans ?_;refine(aD hbl).trans ?_;refine(aD ha).trans ?_;refine(aD hbl).trans ?_;rw[JW];refine qz ?_;refine(aD hs2).trans ?_;refine(aD hs2).trans ?_;refine qP rfl ?_;rw[JW,hN]
 have e:(w.2.1.set a ((gt w.2.1 a).1,(gt w.2.1 a).2.1.set b (kU .u8 (gt (gt w.2.1 a).2.1 b).1 (IntKind.u8.wrap dC),(gt (gt w.2.1 a).2.1 b).2),(gt w.2.1 a).2.2)).set a ((gt w.2.1 a).1,(gt (w.2.1.set a ((gt w.2.1 a).1,(gt w.2.1 a).2.1.set b (kU .u8 (gt (gt w.2.1 a).2.1 b).1 (IntKind.u8.wrap dC),(gt (gt w.2.1 a).2.1 b).2),(gt w.2.1 a).2.2)) a).2.1,true,(gt (w.2.1.set a ((gt w.2.1 a).1,(gt w.2.1 a).2.1.set b (kU .u8 (gt (gt w.2.1 a).2.1 b).1 (IntKind.u8.wrap dC),(gt (gt w.2.1 a).2.1 b).2),(gt w.2.1 a).2.2)) a).2.2.2)=w.2.1.set a (HJ (gt w.2.1 a) b dC):=by
  rw[bX (xs:=w.2.1) (i:=a) ha,List.set_set];rfl
 exact congrArg (λq:List cN=>(some (KL ((w.1,q,w.2.2.1,()),0)):Option Out)) e
def doW(w:aU)(d:jV):aU×Int:=
 bif !bP w then(w,1)else bif !inB d.1 0 7 then(w,1)else
 bif decide (d.1<=3)then(bif !inB d.2.1 0 (i64.wrap ((w.1.length:Int) - 1))then(w,1)else cQ w d)else
 (bif !inB d.2.1 0 (i64.wrap ((w.2.1.length:Int) - 1))then(w,1)else nB w d)
theorem wE{x:Int}{n:Nat}(hn:n<=1000)(h:inB x 0 (i64.wrap (((n:Nat):Int) - 1))=true):0<=x/\x.toNat<n:=by
 rw[aM,IntKind.wrap_i64] at h;omega
theorem H0{w:aU}(h:bP w=true){i:Nat}(hi:i<w.2.1.length):0<=(gt w.2.1 i).1/\(gt w.2.1 i).1.toNat<w.1.length:=by
 have hl:=kF h
 unfold bP at h;simp only[Bool.and_eq_true,bD] at h
 exact wE (by omega) (h.2.2.2.2.1 i hi)
theorem f201(w:aU)(d:jV)(hz:SzY w):Ran p 14 201 [va K28 w, va K222 d] (KL (doW w d)):=go201 λn hn=>Ev.now λaA=>by
 unfold T201;refine qC (f37 w hz.toSzW) ?_
 cases ho:bP w with
 | false=>refine qt ?_;refine qC (f30 w hz.toSzX) ?_;rw[show doW w d=(w,1) by unfold doW;rw[ho];rfl];rfl
 | true=>
 have hl:=kF ho
 refine qf ?_;refine qC (f85 d.1 0 7) ?_
 cases hk:inB d.1 0 7 with
 | false=>refine qt ?_;refine qC (f30 w hz.toSzX) ?_;rw[show doW w d=(w,1) by unfold doW;rw[ho,hk];rfl];rfl
 | true=>
 refine qf ?_
 by_cases h3:d.1<=3
 ·refine qP h3 ?_;refine qC (f85 d.2.1 0 (i64.wrap ((w.1.length:Int) - 1))) ?_
  cases ha:inB d.2.1 0 (i64.wrap ((w.1.length:Int) - 1))with
  | false=>refine qt ?_;refine qC (f30 w hz.toSzX) ?_;rw[show doW w d=(w,1) by unfold doW;rw[ho,hk,decide_eq_true h3,ha];rfl];rfl
  | true=>
   have hA:=wE (by omega) ha
   refine qf ?_;refine qD (f231 w d hz.toSzX hA.1 hA.2 hl.2.2.1 hl.2.2.2) ?_;rw[show doW w d=cQ w d by unfold doW;rw[ho,hk,decide_eq_true h3,ha];rfl];rfl
 ·refine qN h3 ?_;refine qC (f85 d.2.1 0 (i64.wrap ((w.2.1.length:Int) - 1))) ?_
  cases ha:inB d.2.1 0 (i64.wrap ((w.2.1.length:Int) - 1))with
  | false=>refine qt ?_;refine qC (f30 w hz.toSzX) ?_;rw[show doW w d=(w,1) by unfold doW;rw[ho,hk,decide_eq_false h3,ha];rfl];rfl
  | true=>
   have hA:=wE (by omega) ha
   have hT:=H0 ho hA.2
   refine qf ?_;refine qD (f232 w d hz hA.1 hA.2 hl.2.2.1 hT.1 hT.2) ?_;rw[show doW w d=nB w d by unfold doW;rw[ho,hk,decide_eq_false h3,ha];rfl];rfl
-- sizes
theorem jN{ns:List NodeT}{net:List cN}{sd:List yL}(h1:ns.length<=aP)(h2:∀ i,i<ns.length->SzN (gt ns i))(h3:net.length<=aP)(h4:∀ q∈net,PkOk q)(h5:sd.length<=aP)(h6:∀ i,i<sd.length->SzS (gt sd i).2):SzY (ns,net,sd,()) where
 nodes:=h1
 node:=h2
 net:=h3
 said:=h5
 part:=h6
 bytes:=λi hi=>(h4 _ (cB hi)).len
 by_:=λi hi=>(h4 _ (cB hi)).by_
theorem vZ{ns:List NodeT}(h:∀ i,i<ns.length->SzN (gt ns i))(a:Nat){x:NodeT}(hx:SzN x):∀ i,i<(ns.set a x).length->SzN (gt (ns.set a x) i):=λi hi=>by
 rw[List.length_set] at hi
 by_cases e:a=i
 ·subst e;rw[bX hi];exact hx
 ·rw[dZ e];exact h i hi
theorem LK(x:NodeT)(k id:Int)(t:ByteArray):SzS (jJ x k id t).2.1:=by
 unfold jJ
 cases uP x k id with
 | false=>exact kC
 | true=>
  show SzS (bif _ then _ else _:KS).2.1
  cases (fQ x.state k id t).2 != 0 with
  | true=>exact kC
  | false=>
   show SzS (bif _ then _ else _:KS).2.1
   cases hb:m6 x.log (fQ x.state k id t).1 with
   | false=>exact kC
   | true=>
    unfold m6 at hb
    simp only[Bool.and_eq_true] at hb
    exact D6 ((aN _).1 hb.2.1)
theorem O8(m:MsgT)(t:Int):PkOk (t,bG m,false,()):=⟨mP m,Nat.le_trans (u6 m) (by decide)⟩
theorem y5{net:List cN}(h:∀ q∈net,PkOk q){x:cN}(hx:PkOk x):∀ q∈net++[x],PkOk q:=λq hq=>by
 rcases List.mem_append.1 hq with hq | hq
 ·exact h q hq
 ·rw[List.mem_singleton.1 hq];exact hx
theorem I5{w:aU}{d:jV}(hz:SzY w)(ha:d.2.1.toNat<w.1.length)(hn0:w.2.1.length<=12)(hs0:w.2.2.1.length<=40):SzY (cQ w d).1:=by
 have hx:=hz.node _ ha
 have hA:=hz.all
 have hn1:∀ x:cN,(w.2.1++[x]).length<=aP:=λx=>by rw[List.length_append,List.length_singleton];unfold aP;omega
 have hl:∀ x:NodeT,(w.1.set d.2.1.toNat x).length<=aP:=λx=>by rw[List.length_set];exact hz.nodes
 unfold cQ
 cases d.1==1 with
 | true=>exact jN (hl _) (vZ hz.node _ (E5 hx)) hz.net hA hz.said hz.part
 | false=>
 cases d.1==0 with
 | true=>
  cases (w.2.2.1.length:Int)==40 with
  | true=>exact hz
  | false=>
   show SzY (bif _ then _ else _:aU×Int).1
   cases (jJ (gt w.1 d.2.1.toNat) d.2.2.1 d.2.2.2.1 d.2.2.2.2.1).2.2 != 0 with
   | true=>exact hz
   | false=>
    refine jN (hl _) (vZ hz.node _ (JY hx _ _ _)) hz.net hA (by rw[List.length_append,List.length_singleton];unfold aP;omega) (λi hi=>?_)
    rw[List.length_append,List.length_singleton] at hi
    by_cases e:i<w.2.2.1.length
    ·have:gt (w.2.2.1++[((d.2.1,(jJ (gt w.1 d.2.1.toNat) d.2.2.1 d.2.2.2.1 d.2.2.2.2.1).2.1):yL)]) i=gt w.2.2.1 i:=by
      rw[cU (by rw[List.length_append];omega),cU e,List.getElem_append_left e]
     rw[this];exact hz.part i e
    ·have:gt (w.2.2.1++[((d.2.1,(jJ (gt w.1 d.2.1.toNat) d.2.2.1 d.2.2.2.1 d.2.2.2.2.1).2.1):yL)]) i=(d.2.1,(jJ (gt w.1 d.2.1.toNat) d.2.2.1 d.2.2.2.1 d.2.2.2.2.1).2.1):=by
      have ei:i=w.2.2.1.length:=by omega
      subst ei
      rw[cU (by rw[List.length_append];simp)];simp
     rw[this];exact LK _ _ _ _
 | false=>
 cases (w.2.1.length:Int)==12 with
 | true=>exact hz
 | false=>
 cases d.1==2 with
 | true=>
  show SzY (bif _ then _ else _:aU×Int).1
  cases (jQ (gt w.1 d.2.1.toNat) d.2.2.1).2 with
  | false=>exact hz
  | true=>exact jN hz.nodes hz.node (hn1 _) (y5 hA (O8 _ _)) hz.said hz.part
 | false=>
  show SzY (bif _ then _ else _:aU×Int).1
  have hy:=(DT hx d.2.2.1).1
  cases (iZ (gt w.1 d.2.1.toNat) d.2.2.1).2.2 with
  | false=>exact jN (hl _) (vZ hz.node _ hy) hz.net hA hz.said hz.part
  | true=>exact jN (hl _) (vZ hz.node _ hy) (hn1 _) (y5 hA (O8 _ _)) hz.said hz.part
theorem SK{w:aU}{d:jV}(hz:SzY w)(ha:d.2.1.toNat<w.2.1.length)(hn0:w.2.1.length<=12)(hp:(gt w.2.1 d.2.1.toNat).1.toNat<w.1.length):SzY (nB w d).1:=by
 have hA:=hz.all
 have hq:=hz.pk ha
 have hn1:∀ x:cN,(w.2.1++[x]).length<=aP:=λx=>by rw[List.length_append,List.length_singleton];unfold aP;omega
 have hwl:=kG w.2.1 d.2.1.toNat
 unfold nB
 cases d.1==4 with
 | true=>
  have hx:=hz.node _ hp
  have hR:=xM hx (gt w.2.1 d.2.1.toNat).2.1
  have hk:=KR hR.row (eR (gt w.1 (gt w.2.1 d.2.1.toNat).1.toNat) (gt w.2.1 d.2.1.toNat).2.1).2.1.length 0 (gS w.2.1 d.2.1.toNat) (by omega) (λq hq=>hA q (xC hq)) (by omega)
  exact jN (by rw[List.length_set];exact hz.nodes) (vZ hz.node _ hR.node) (Nat.le_trans hk.2 (by decide)) hk.1 hz.said hz.part
 | false=>
 cases d.1==5 with
 | true=>exact jN hz.nodes hz.node (Nat.le_trans (kG _ _) hz.net) (λq hq=>hA q (xC hq)) hz.said hz.part
 | false=>
 cases d.1==6 with
 | true=>
  show SzY (bif _ then _ else _:aU×Int).1
  cases (w.2.1.length:Int)==12 with
  | true=>exact hz
  | false=>exact jN hz.nodes hz.node (hn1 _) (y5 hA hq) hz.said hz.part
 | false=>
  show SzY (bif _ then _ else _:aU×Int).1
  cases pD w d with
  | true=>exact hz
  | false=>
   refine jN hz.nodes hz.node (by rw[List.length_set];exact hz.net) (λq hq2=>?_) hz.said hz.part
   rcases List.mem_or_eq_of_mem_set hq2 with h1 | h1
   ·exact hA q h1
   ·rw[h1];exact⟨UV hq.by_ _ _ _ _,by show(List.set _ _ _).length<=aP;rw[List.length_set];exact hq.len⟩
theorem UQ{w:aU}(hz:SzY w)(d:jV):SzY (doW w d).1:=by
 unfold doW
 cases ho:bP w with
 | false=>exact hz
 | true=>
 have hl:=kF ho
 cases inB d.1 0 7 with
 | false=>exact hz
 | true=>
 cases decide (d.1<=3)with
 | true=>
  cases ha:inB d.2.1 0 (i64.wrap ((w.1.length:Int) - 1))with
  | false=>exact hz
  | true=>exact I5 hz (wE (by omega) ha).2 hl.2.2.1 hl.2.2.2
 | false=>
  cases ha:inB d.2.1 0 (i64.wrap ((w.2.1.length:Int) - 1))with
  | false=>exact hz
  | true=>exact SK hz (wE (by omega) ha).2 hl.2.2.1 (H0 ho (wE (by omega) ha).2).2
end Go.Abs.Uz
namespace Go.Abs.Uz
open Go Go.Abs
theorem f82(c:eJ)(h:CurOk c):∃ (x:Int) (d:eJ),Ran p 1 82 [.ref ⟨K134,c⟩] ⟨[⟨K3,(x,())⟩],[⟨K134,d⟩]⟩/\CurOk d/\0<=x/\x<=255:=by
 by_cases hi:c.2.1<(c.1.length:Int)
 ·obtain⟨i,hi'⟩:∃ i:Nat,c.2.1=i:=⟨c.2.1.toNat,by have:=h.lo;omega⟩
  have hi2:i<c.1.length:=by omega
  have e:(at? (α:=Row K5) c.1 (c.2.1).toNat)=some (gt (α:=aH) c.1 i):=by rw[hi',Int.toNat_natCast];exact(QW hi2).trans (by rw[cU hi2])
  refine⟨_,_,go82 λn hn=>Ev.now λaA=>by
   unfold T82;refine qN (by decide) ?_;refine qN (by decide) ?_;refine qP hi ?_;refine qP h.lo ?_
   refine(congrArg (λo=>Option.bind o _) e).trans ?_
   rfl,?_⟩
  have hl:=h.len
  refine⟨⟨h.len,?_,?_⟩,(zC _).1,(zC _).2⟩
  ·show 0<=i64.wrap (c.2.1+1);have:=h.lo;rw[IntKind.wrap_i64];omega
  ·show i64.wrap (c.2.1+1)<=_;have:=h.lo;rw[IntKind.wrap_i64];show _<=(c.1.length:Int);omega
 ·refine⟨_,_,go82 λn hn=>Ev.now λaA=>by
   unfold T82;refine qN (by decide) ?_;refine qN (by decide) ?_;refine qN hi ?_;rfl,?_⟩
  exact⟨⟨h.len,h.lo,h.hi⟩,(zC _).1,(zC _).2⟩
theorem f35(c:eJ)(k:Int)(h:CurOk c):∃ (x:Int) (d:eJ),Ran p 2 35 [.ref ⟨K134,c⟩, vf K3 (k,())] ⟨[⟨K3,(x,())⟩],[⟨K134,d⟩]⟩/\CurOk d/\0<=x/\(0<k->x<k)/\(k<=0->x=0):=by
 by_cases h0:k<=0
 ·exact⟨0,c,go35 λn hn=>Ev.now λaA=>by unfold T35;exact mX h0,h,by omega,λh=>by omega,λ_=>rfl⟩
 by_cases h1:k<=256
 ·obtain⟨x,d,hx,hd,b0,b1⟩:=f82 c h
  refine⟨x.tmod k,d,go35 λn hn=>Ev.now λaA=>?_,hd,(uG b0 (by omega)).1,λh=>(uG b0 h).2,λh=>by omega⟩
  unfold T35;refine qN h0 ?_;refine qP h1 ?_;refine qR hx ?_;exact kE (by omega)
 ·obtain⟨x,d,hx,hd,b0,b1⟩:=f82 c h
  obtain⟨x2,d2,hx2,hq2,b2,b3⟩:=f82 d hd
  obtain⟨x3,d3,hx3,hq3,b4,b5⟩:=f82 d2 hq2
  obtain⟨x4,d4,hx4,hq4,b6,b7⟩:=f82 d3 hq3
  have e:i64.wrap (i64.wrap (i64.wrap (i64.wrap (x*16777216)+i64.wrap (x2*65536))+i64.wrap (x3*256))+x4)=x*16777216+x2*65536+x3*256+x4:=by
   repeat rw[IntKind.wrap_i64]
   omega
  have hp:0<=x*16777216+x2*65536+x3*256+x4:=by omega
  refine⟨(x*16777216+x2*65536+x3*256+x4).tmod k,d4,go35 λn hn=>Ev.now λaA=>?_,hq4,(uG hp (by omega)).1,λh=>(uG hp h).2,λh=>by omega⟩
  unfold T35;refine qN h0 ?_;refine qN h1 ?_;refine qR hx ?_;refine qR hx2 ?_;refine qR hx3 ?_;refine qR hx4 ?_;refine qN (by omega) ?_;rw[<- e]
theorem f65(c:eJ)(k:Int)(h:CurOk c):∃ (x:Bool) (d:eJ),Ran p 3 65 [.ref ⟨K134,c⟩, vf K3 (k,())] ⟨[⟨K4,(x,())⟩],[⟨K134,d⟩]⟩/\CurOk d:=by
 obtain⟨x,d,hx,hd,_⟩:=f35 c k h
 exact⟨_,d,go65 λn hn=>Ev.now λaA=>by unfold T65;refine qR hx ?_;rfl,hd⟩
theorem f153(c:eJ)(ls:List aH)(h:CurOk c)(h0:0<ls.length):∃ (x:Int) (d:eJ),Ran p 3 153 [.ref ⟨K134,c⟩, vf K29 (ls,())] ⟨[⟨K3,(x,())⟩],[⟨K134,d⟩]⟩/\CurOk d/\(x,())∈ls:=by
 obtain⟨x,d,hx,hd,b0,b1,_⟩:=f35 c (ls.length:Int) h
 have b2:=b1 (by omega)
 obtain⟨i,rfl⟩:∃ i:Nat,x=i:=⟨x.toNat,by omega⟩
 have hi:i<ls.length:=by omega
 refine⟨(gt ls i).1,d,go153 λn hn=>Ev.now λaA=>?_,hd,?_⟩
 ·unfold T153;refine qR hx ?_;refine qz ?_;refine(aD hi).trans ?_;rfl
 ·show gt ls i∈ls;rw[cU hi];exact List.getElem_mem hi
theorem f210(c:eJ)(ls:List (ByteArray×Unit))(h:CurOk c)(h0:0<ls.length):∃ (x:ByteArray) (d:eJ),Ran p 3 210 [.ref ⟨K134,c⟩, vf K235 (ls,())] ⟨[⟨K9,(x,())⟩],[⟨K134,d⟩]⟩/\CurOk d/\(x,())∈ls:=by
 obtain⟨x,d,hx,hd,b0,b1,_⟩:=f35 c (ls.length:Int) h
 have b2:=b1 (by omega)
 obtain⟨i,rfl⟩:∃ i:Nat,x=i:=⟨x.toNat,by omega⟩
 have hi:i<ls.length:=by omega
 refine⟨(gt ls i).1,d,go210 λn hn=>Ev.now λaA=>?_,hd,?_⟩
 ·unfold T210;refine qR hx ?_;refine qz ?_;refine(aD hi).trans ?_;rfl
 ·show gt ls i∈ls;rw[cU hi];exact List.getElem_mem hi
theorem f237(c:eJ)(h:CurOk c):∃ (e:bA) (d:eJ),Ran p 4 237 [.ref ⟨K134,c⟩] ⟨[⟨K83,e⟩],[⟨K134,d⟩]⟩/\CurOk d/\Q7 e/\1<=e.1:=by
 obtain⟨x1,d1,h1,k1,a1,b1,_⟩:=f35 c 3 h
 obtain⟨x2,d2,h2,k2,a2,b2,_⟩:=f35 d1 2 k1
 obtain⟨x3,d3,h3,k3,a3,b3,_⟩:=f35 d2 3 k2
 obtain⟨x4,d4,h4,k4,a4,b4,_⟩:=f35 d3 3 k3
 obtain⟨x5,d5,h5,k5,m5⟩:=f210 d4 [((⟨#[]⟩:ByteArray),()),((⟨#[97]⟩:ByteArray),()),((⟨#[98]⟩:ByteArray),()),((⟨#[97,98]⟩:ByteArray),()),((⟨#[49,50,51,52,53,54,55,56]⟩:ByteArray),())] k4 (by show 0<5;omega)
 refine⟨_,d5,go237 λn hn=>Ev.now λaA=>by unfold T237;refine qR h1 ?_;refine qR h2 ?_;refine qR h3 ?_;refine qR h4 ?_;refine qR h5 ?_;rfl,k5,?_,?_⟩
 ·have:x5∈datas.take 5:=by
   have:=List.mem_map_of_mem (f:=λy:ByteArray×Unit=>y.1) m5
   exact this
  exact List.mem_of_mem_take this
 ·show 1<=i64.wrap (1+x1);have:=b1 (by omega);rw[IntKind.wrap_i64];omega
theorem f212(c:eJ)(h:CurOk c):∃ (e:bA) (d:eJ),Ran p 5 212 [.ref ⟨K134,c⟩] ⟨[⟨K83,e⟩],[⟨K134,d⟩]⟩/\CurOk d/\Q7 e:=by
 obtain⟨e,d1,h1,k1,he,_⟩:=f237 c h
 obtain⟨x,d2,h2,k2,_⟩:=f35 d1 14 k1
 cases q0:x==0 with
 | true=>
  obtain⟨y,d3,h3,k3,_⟩:=f153 d2 [((0:Int),()),((1000:Int),()),((1001:Int),()),((-1:Int),())] k2 (by show 0<4;omega)
  exact⟨(y,e.2),d3,go212 λn hn=>Ev.now λaA=>by unfold T212;refine qR h1 ?_;refine qR h2 ?_;refine qT q0 ?_;refine qR h3 ?_;rfl,k3,he⟩
 | false=>
 cases q1:x==1 with
 | true=>
  obtain⟨y,d3,h3,k3,_⟩:=f153 d2 [((-1:Int),()),((2:Int),())] k2 (by show 0<2;omega)
  exact⟨(e.1,y,e.2.2),d3,go212 λn hn=>Ev.now λaA=>by unfold T212;refine qR h1 ?_;refine qR h2 ?_;refine qF q0 ?_;refine qT q1 ?_;refine qR h3 ?_;rfl,k3,he⟩
 | false=>
 cases q2:x==2 with
 | true=>
  obtain⟨y,d3,h3,k3,_⟩:=f153 d2 [((-1:Int),()),((100000:Int),()),((100001:Int),())] k2 (by show 0<3;omega)
  exact⟨(e.1,e.2.1,y,e.2.2.2),d3,go212 λn hn=>Ev.now λaA=>by unfold T212;refine qR h1 ?_;refine qR h2 ?_;refine qF q0 ?_;refine qF q1 ?_;refine qT q2 ?_;refine qR h3 ?_;rfl,k3,he⟩
 | false=>
 cases q3:x==3 with
 | true=>
  obtain⟨y,d3,h3,k3,_⟩:=f153 d2 [((-1:Int),()),((1000:Int),()),((1001:Int),())] k2 (by show 0<3;omega)
  exact⟨(e.1,e.2.1,e.2.2.1,y,e.2.2.2.2),d3,go212 λn hn=>Ev.now λaA=>by unfold T212;refine qR h1 ?_;refine qR h2 ?_;refine qF q0 ?_;refine qF q1 ?_;refine qF q2 ?_;refine qT q3 ?_;refine qR h3 ?_;rfl,k3,he⟩
 | false=>
 cases q4:x==4 with
 | true=>exact⟨(e.1,e.2.1,e.2.2.1,e.2.2.2.1,⟨#[49,50,51,52,53,54,55,56,57]⟩,()),d2,go212 λn hn=>Ev.now λaA=>by unfold T212;refine qR h1 ?_;refine qR h2 ?_;refine qF q0 ?_;refine qF q1 ?_;refine qF q2 ?_;refine qF q3 ?_;refine qT q4 ?_;rfl,k2,by show(⟨#[49,50,51,52,53,54,55,56,57]⟩:ByteArray)∈datas;unfold datas;simp⟩
 | false=>exact⟨e,d2,go212 λn hn=>Ev.now λaA=>by unfold T212;refine qR h1 ?_;refine qR h2 ?_;refine qF q0 ?_;refine qF q1 ?_;refine qF q2 ?_;refine qF q3 ?_;refine qF q4 ?_;rfl,k2,he⟩
theorem f236(i:Int)(e:bA):∃ (s:aE) (b:Bool),Ran p 4 236 [vf K3 (i,()), va K83 e] ⟨[⟨K43,s⟩,⟨K4,(b,())⟩],[]⟩/\(s=([(i,e)],[],())\/s=([],[],()))/\aL s=true:=by
 have hs:=f87 ([(i,e)],[],()) (by show 1<=9223372036854775807;omega) (by show 0<=9223372036854775807;omega)
 cases ho:aL ([(i,e)],[],())with
 | false=>exact⟨_,false,go236 λn hn=>Ev.now λaA=>by unfold T236;refine qC hs ?_;rw[ho];rfl,.inr rfl,rfl⟩
 | true=>exact⟨_,true,go236 λn hn=>Ev.now λaA=>by unfold T236;refine qC hs ?_;rw[ho];rfl,.inl rfl,ho⟩
end Go.Abs.Uz
namespace Go.Abs.Uz
open Go Go.Abs
theorem PL{n:Nat}(h:n<=1048576):0+n<=bound:=by unfold bound;omega
theorem SE{i x:Int}(h:0<=x):Pos (([],[(i,x,())],()):aE):=⟨λx hx=>(List.not_mem_nil hx).elim,λf hf=>by rcases List.mem_singleton.1 hf with rfl;exact h⟩
theorem N0{s:aE}{i:Int}{e:bA}(he:Q7 e)(hi:1<=e.1)(h:s=([(i,e)],[],())\/s=([],[],())):StD 5 s/\Pos s:=by
 rcases h with rfl | rfl
 ·exact⟨⟨by show 1<=5;omega,by show 0<=5;omega,λx hx=>by rcases List.mem_singleton.1 hx with rfl;exact he⟩,⟨λx hx=>by rcases List.mem_singleton.1 hx with rfl;exact hi,λx hx=>(List.not_mem_nil hx).elim⟩⟩
 ·exact⟨⟨by show 0<=5;omega,by show 0<=5;omega,λx hx=>(List.not_mem_nil hx).elim⟩,SF⟩
theorem UG{i x:Int}(h1:0<=i)(h2:i<=4)(h3:1<=x)(h4:x<=1000):aL ([],[(i,x,())],())=true:=
 (aN _).2 ⟨(λx hx=>by cases hx),List.Pairwise.nil,λf hf=>by rw[List.mem_singleton.1 hf];exact⟨by unfold eF;rw[aM];exact⟨h1,h2⟩,by rw[aM];exact⟨h3,h4⟩⟩,List.pairwise_singleton ..⟩
theorem f204(c:eJ)(h:CurOk c):∃ (s:aE) (d:eJ),Ran p 5 204 [.ref ⟨K134,c⟩] ⟨[⟨K43,s⟩],[⟨K134,d⟩]⟩/\CurOk d/\StD 5 s/\aL s=true:=by
 obtain⟨x1,d1,h1,k1,a1,b1,_⟩:=f35 c 7 h
 let Good:Out->Prop:=λo=>∃ (s:aE) (d:eJ),o=⟨[⟨K43,s⟩],[⟨K134,d⟩]⟩/\CurOk d/\StD 5 s/\aL s=true
 have second:∀ (s:aE) (d d0:eJ) (x:Int),0<=x->x<3->StD 5 s->aL s=true->CurOk d->∃ o,Good o/\∀ n,5 - 1<=n->It (λaA (_:Unit)=>c204_10 (aI p n) aA (((x,()),()),(d0,()))) ((0:Int),s.1,s.2.1,d.1,d.2.1,d.2.2.1) (λ_=>some o):=by
  intro s d d0 x hx hx3 hs hp hd
  obtain⟨m,rfl⟩:∃ m:Nat,x=m:=⟨x.toNat,by omega⟩
  refine It.ex (c:=λn aA (_:Unit)=>c204_10 (aI p n) aA ((((m:Int),()),()),(d0,()))) (λi y=>∃ (s:aE) (d:eJ),y=((i:Int),s.1,s.2.1,d.1,d.2.1,d.2.2.1)/\CurOk d/\StD 5 s/\aL s=true) Good m ?_ ?_ m 0 _ (by omega) ⟨s,d,rfl,hd,hs,hp⟩
  ·rintro i y hi ⟨s,d,rfl,hd,hs,hp⟩
   obtain⟨x7,d7,h7,k7,a7,b7,_⟩:=f35 d 5 hd
   obtain⟨x8,d8,h8,k8,a8,b8,_⟩:=f35 d7 2 k7
   have hw:i64.wrap (1+x8)=1+x8:=by have:=b8 (by omega);rw[IntKind.wrap_i64];omega
   have hq:StD 5 (([],[(x7,i64.wrap (1+x8),())],()):aE):=⟨by show 0<=5;omega,by show 1<=5;omega,λx hx=>(List.not_mem_nil hx).elim⟩
   have h9:=f234 s ([],[(x7,i64.wrap (1+x8),())],()) (hs.sz (by omega)) (hq.sz (by omega)) ((aN _).1 hp).pos (SE (by omega))
   have ho:=UG (i:=x7) (x:=i64.wrap (1+x8)) a7 (by have:=b7 (by omega);omega) (by omega) (by have:=b8 (by omega);omega)
   refine⟨_,⟨c9 s ([],[(x7,i64.wrap (1+x8),())],()),d8,rfl,k8,KE hs hq,nX hp ho⟩,λn hn aA a rec=>?_⟩
   unfold c204_10;dsimp only;rw[aF (show i<9223372036854775807 by omega)];refine qP (show(i:Int)<(m:Int) by omega) ?_;refine qR h7 ?_;refine qR h8 ?_;refine qC h9 ?_;rfl
  ·rintro y ⟨s,d,rfl,hd,hs,hp⟩
   refine⟨_,⟨s,d,rfl,hd,hs,hp⟩,λn hn=>It.stop λaA a rec=>?_⟩
   unfold c204_10;refine qe ?_;rfl
 obtain⟨m,rfl⟩:∃ m:Nat,x1=m:=⟨x1.toNat,by omega⟩
 have hm:=b1 (by omega)
 have first:=It.ex (lvl:=5 - 1) (c:=λn aA (_:Unit)=>c204_4 (aI p n) aA ((((m:Int),()),()),(d1,()))) (λi y=>∃ (s:aE) (d:eJ),y=((i:Int),s.1,s.2.1,d.1,d.2.1,d.2.2.1)/\CurOk d/\StD 5 s/\aL s=true) Good m (by
  rintro i y hi ⟨s,d,rfl,hd,hs,hp⟩
  obtain⟨x2,d2,h2,k2,_⟩:=f35 d 5 hd
  obtain⟨e3,d3,h3,k3,he,hi3⟩:=f237 d2 k2
  obtain⟨s4,b4,h4,q4⟩:=f236 x2 e3
  obtain⟨q5,q6⟩:=N0 he hi3 q4.1
  have h5:=f234 s s4 (hs.sz (by omega)) (q5.sz (by omega)) ((aN _).1 hp).pos q6
  refine⟨_,⟨c9 s s4,d3,rfl,k3,KE hs q5,nX hp q4.2⟩,λn hn aA a rec=>?_⟩
  unfold c204_4;dsimp only;rw[aF (show i<9223372036854775807 by omega)];refine qP (show(i:Int)<(m:Int) by omega) ?_;refine qR h2 ?_;refine qR h3 ?_;refine(BE (h4 n (by omega))).trans ?_;refine qC h5 ?_;rfl) (by
  rintro y ⟨s,d,rfl,hd,hs,hp⟩
  obtain⟨x6,d6,h6,k6,a6,b6,_⟩:=f35 d 3 hd
  obtain⟨o,ho,hL⟩:=second s d6 d6 x6 a6 (b6 (by omega)) hs hp k6
  refine⟨o,ho,λn hn=>It.stopE (T:=λaA _=>iter (c204_10 (aI p n) aA (((x6,()),()),(d6,()))) aA ((0:Int),s.1,s.2.1,d6.1,d6.2.1,d6.2.2.1)) (λaA a rec=>?_) (hL n hn).all_i⟩
  unfold c204_4;refine qe ?_;refine qR h6 ?_;rfl)
 obtain⟨o,⟨s,d,rfl,hd,hs,hp⟩,hL⟩:=first m 0 ((0:Int),[],[],d1.1,d1.2.1,d1.2.2.1) (by omega) ⟨([],[],()),d1,rfl,k1,⟨by show 0<=5;omega,by show 0<=5;omega,λx hx=>(List.not_mem_nil hx).elim⟩,rfl⟩
 exact⟨s,d,go204 λn hn=>Ev.eq (λaA=>by unfold T204;refine qR h1 ?_;rfl) ((hL n (by omega)).ev (i:=()) rfl),hd,hs,hp⟩
theorem f155(c:eJ)(h:CurOk c):∃ (s:aE) (d:eJ),Ran p 6 155 [.ref ⟨K134,c⟩] ⟨[⟨K43,s⟩],[⟨K134,d⟩]⟩/\CurOk d/\StD 6 s:=by
 obtain⟨s,d1,h1,k1,hs,hp⟩:=f204 c h
 obtain⟨x2,d2,h2,k2,_⟩:=f35 d1 14 k1
 have hs6:StD 6 s:=⟨Nat.le_trans hs.a (by omega),Nat.le_trans hs.b (by omega),hs.data⟩
 have ha:=hs.a
 have hb:=hs.b
 cases q0:x2==0 with
 | true=>
  obtain⟨x3,d3,h3,k3,_⟩:=f35 d2 7 k2
  obtain⟨e4,d4,h4,k4,he⟩:=f212 d3 k3
  refine⟨(s.1++[(i64.wrap (x3 - 1),e4)],s.2.1,()),d4,go155 λn hn=>Ev.now λaA=>?_,k4,⟨by show(s.1++_).length<=6;simp;omega,hs6.b,λx hx=>?_⟩⟩
  ·unfold T155;refine qR h1 ?_;refine qR h2 ?_;refine qT q0 ?_;refine qR h3 ?_;refine qR h4 ?_;refine qP (show s.1.length+1<=bound by unfold bound;omega) ?_;rfl
  ·rcases List.mem_append.1 hx with hx | hx
   ·exact hs.data x hx
   ·rcases List.mem_singleton.1 hx with rfl;exact he
 | false=>
 cases q1:x2==1 with
 | true=>
  obtain⟨x3,d3,h3,k3,_⟩:=f35 d2 7 k2
  obtain⟨x4,d4,h4,k4,_⟩:=f153 d3 [((0:Int),()),((1:Int),()),((5:Int),()),((1001:Int),())] k3 (by show 0<4;omega)
  refine⟨(s.1,s.2.1++[(i64.wrap (x3 - 1),x4,())],()),d4,go155 λn hn=>Ev.now λaA=>?_,k4,⟨hs6.a,by show(s.2.1++_).length<=6;simp;omega,hs.data⟩⟩
  unfold T155;refine qR h1 ?_;refine qR h2 ?_;refine qF q0 ?_;refine qT q1 ?_;refine qR h3 ?_;refine qR h4 ?_;refine qP (show s.2.1.length+1<=bound by unfold bound;omega) ?_;rfl
 | false=>
 cases q2:x2==2 with
 | true=>
  by_cases hl:(s.1.length:Int)>0
  ·obtain⟨x3,d3,h3,k3,a3,b3,_⟩:=f35 d2 (s.1.length:Int) k2
   obtain⟨e4,d4,h4,k4,he⟩:=f212 d3 k3
   have b3':=b3 (by omega)
   obtain⟨i,rfl⟩:∃ i:Nat,x3=i:=⟨x3.toNat,by omega⟩
   have hi:i<s.1.length:=by omega
   refine⟨(List.set s.1 i ((gt s.1 i).1,e4),s.2.1,()),d4,go155 λn hn=>Ev.now λaA=>?_,k4,⟨by show(List.set s.1 i _).length<=6;simp;omega,hs6.b,λx hx=>?_⟩⟩
   ·unfold T155;refine qR h1 ?_;refine qR h2 ?_;refine qF q0 ?_;refine qF q1 ?_;refine qT q2 ?_;refine qP hl ?_;refine qR h3 ?_;refine qR h4 ?_;refine qz ?_;refine(aD hi).trans ?_;refine(aD hi).trans ?_;rfl
   ·rcases List.mem_or_eq_of_mem_set hx with hx | rfl
    ·exact hs.data x hx
    ·exact he
  ·refine⟨s,d2,go155 λn hn=>Ev.now λaA=>?_,k2,hs6⟩
   unfold T155;refine qR h1 ?_;refine qR h2 ?_;refine qF q0 ?_;refine qF q1 ?_;refine qT q2 ?_;refine qN hl ?_;rfl
 | false=>
 cases q3:x2==3 with
 | true=>
  by_cases hl:(s.1.length:Int)>1
  ·have hi1:1<s.1.length:=by omega
   have hi0:0<s.1.length:=by omega
   refine⟨(List.set s.1 0 (gt s.1 1),s.2.1,()),d2,go155 λn hn=>Ev.now λaA=>?_,k2,⟨by show(List.set s.1 0 _).length<=6;simp;omega,hs6.b,λx hx=>?_⟩⟩
   ·unfold T155;refine qR h1 ?_;refine qR h2 ?_;refine qF q0 ?_;refine qF q1 ?_;refine qF q2 ?_;refine qT q3 ?_;refine qP hl ?_;refine qP (by decide) ?_;refine(aD (i:=1) hi1).trans ?_;refine(aD (i:=1) hi1).trans ?_;refine qP (by decide) ?_;refine(aD (i:=0) hi0).trans ?_;refine(aD (i:=0) hi0).trans ?_;rfl
   ·rcases List.mem_or_eq_of_mem_set hx with hx | rfl
    ·exact hs.data x hx
    ·rw[cU hi1];exact hs.data _ (List.getElem_mem hi1)
  ·refine⟨s,d2,go155 λn hn=>Ev.now λaA=>?_,k2,hs6⟩
   unfold T155;refine qR h1 ?_;refine qR h2 ?_;refine qF q0 ?_;refine qF q1 ?_;refine qF q2 ?_;refine qT q3 ?_;refine qN hl ?_;rfl
 | false=>
  refine⟨s,d2,go155 λn hn=>Ev.now λaA=>?_,k2,hs6⟩
  unfold T155;refine qR h1 ?_;refine qR h2 ?_;refine qF q0 ?_;refine qF q1 ?_;refine qF q2 ?_;refine qF q3 ?_;rfl
end Go.Abs.Uz
namespace Go.Abs.Uz
open Go Go.Abs
-- tables drawn
structure TabD (t:List bM):Prop where
 len:t.length<=5
 row:∀ i,i<t.length->(gt t i).1.length<=5
theorem TabD.sz{t:List bM}(h:TabD t):t.length<=aP/\∀ i,i<t.length->(gt t i).1.length<=aP:=
 ⟨by have:=h.len;unfold aP;omega,λi hi=>by have:=h.row i hi;unfold aP;omega⟩
structure TabN (n:Nat) (t:List bM):Prop where
 len:t.length=n
 row:∀ i,i<n->(gt t i).1.length=5
theorem TabN.d{n:Nat}{t:List bM}(h:TabN n t)(hn:n<=5):TabD t:=⟨by rw[h.len];exact hn,λi hi=>by rw[h.row i (by rw[<- h.len];exact hi)];exact Nat.le_refl _⟩
theorem TabN.add{n:Nat}{t:List bM}(h:TabN n t)(k:Int)(ms:List aO):TabN n (bL t k ms):=⟨by rw[c7];exact h.len,λi hi=>by rw[eX];exact h.row i hi⟩
theorem E7{n:Nat}(h1:1<=n)(h5:n<=5):TabN n (dQ (n:Int)):=by
 have hb:inB (n:Int) 1 5=true:=by rw[aM];omega
 refine⟨?_,λi hi=>?_⟩
 ·unfold dQ;rw[hb];show(List.replicate _ _).length=n;rw[List.length_replicate];omega
 ·have hl:i<(dQ (n:Int)).length:=by unfold dQ;rw[hb];show i<(List.replicate _ _).length;rw[List.length_replicate];omega
  rw[oM hb hl];rfl
theorem f154(c:eJ)(h:CurOk c):∃ (t:List bM) (d:eJ),Ran p 7 154 [.ref ⟨K134,c⟩] ⟨[⟨K69,(t,())⟩],[⟨K134,d⟩]⟩/\CurOk d/\TabD t:=by
 obtain⟨x1,d1,h1,k1,a1,b1,_⟩:=f35 c 4 h
 obtain⟨m,rfl⟩:∃ m:Nat,x1=m:=⟨x1.toNat,by omega⟩
 have hm:=b1 (by omega)
 have hw:i64.wrap (1+(m:Int))=((m+1:Nat):Int):=by rw[IntKind.wrap_i64];omega
 let Good:Out->Prop:=λo=>∃ (t:List bM) (d:eJ),o=⟨[⟨K69,(t,())⟩],[⟨K134,d⟩]⟩/\CurOk d/\TabD t
 have lp:=It.ex (lvl:=7 - 1) (c:=λn aA (_:Unit)=>c154_10004 (aI p n) aA ((((m:Int),()),()),(d1,()))) (λi y=>∃ (t:List bM) (d:eJ),y=((i:Int),d.1,d.2.1,d.2.2.1,t)/\CurOk d/\TabN (m+1) t) Good (m+1) (by
  rintro i y hi ⟨t,d,rfl,hd,ht⟩
  obtain⟨s,d3,h3,k3,hs,_⟩:=f204 d hd
  have h4:=f207 s (hs.sz (by omega))
  have hz:=(ht.d (by omega)).sz
  have h5:=f206 t (i:Int) (c8 s) hz.1 hz.2 (Nat.le_trans (fR s) (by decide))
  refine⟨_,⟨bL t (i:Int) (c8 s),d3,rfl,k3,ht.add _ _⟩,λn hn aA a rec=>?_⟩
  unfold c154_10004;dsimp only;rw[aF (show i<9223372036854775807 by omega)];refine qP (show(i:Int)<i64.wrap (1+(m:Int)) by rw[hw];omega) ?_;refine qR h3 ?_;refine qC h4 ?_;refine qC h5 ?_;rfl) (by
  rintro y ⟨t,d,rfl,hd,ht⟩
  obtain⟨x6,d6,h6,k6,_⟩:=f35 d 12 hd
  have hl:0<t.length:=by rw[ht.len];omega
  have h0:(gt t 0).1.length=5:=ht.row 0 (by omega)
  have hT:=ht.d (show m+1<=5 by omega)
  have un:∀ n,7 - 1<=n->∀ {o:Option Out},(∀ aA rec,c154_10004 (aI p n) aA ((((m:Int),()),()),(d1,())) rec (((m+1:Nat):Int),d.1,d.2.1,d.2.2.1,t)=o)->It (λaA (_:Unit)=>c154_10004 (aI p n) aA ((((m:Int),()),()),(d1,()))) (((m+1:Nat):Int),d.1,d.2.1,d.2.2.1,t) (λ_=>o):=λn hn o ho=>It.stop λaA a rec=>ho aA rec
  have en:¬ (((m+1:Nat):Int)<i64.wrap (1+(m:Int))):=by rw[hw];omega
  cases q0:x6==0 with
  | true=>
   refine⟨_,⟨t.set 0 (((gt t 0).1.take ((3:Int)).toNat).drop 0,(gt t 0).2),d6,rfl,k6,⟨by rw[List.length_set];exact hT.len,λi hi=>?_⟩⟩,λn hn=>un n hn λaA rec=>?_⟩
   ·rw[List.length_set] at hi
    by_cases e:0=i
    ·rw[<- e,bX hl];show(((gt t 0).1.take 3).drop 0).length<=5;rw[List.drop_zero,List.length_take];omega
    ·rw[dZ e];exact hT.row i hi
   ·unfold c154_10004;refine qN en ?_;refine qR h6 ?_;refine qT q0 ?_;refine qP (show(0:Int)<=0 by omega) ?_;refine(aZ hl).trans ?_;refine(aZ hl).trans ?_
    refine(G1 (show(0:Int)<=3 by omega) (show(3:Int)<=(((gt t 0).1.length:Nat):Int) by rw[h0];omega)).trans ?_;refine qP (show(0:Int)<=0 by omega) ?_;refine(aZ hl).trans ?_;refine(aZ hl).trans ?_;rfl
  | false=>
  cases q1:x6==1 with
  | true=>
   obtain⟨x7,d7,h7,k7,_⟩:=f153 d6 [((-1:Int),()),((1001:Int),())] k6 (by show 0<2;omega)
   have h00:0<(gt t 0).1.length:=by omega
   refine⟨_,⟨t.set 0 ((gt t 0).1.set 0 (x7,(gt (gt t 0).1 0).2),(gt t 0).2),d7,rfl,k7,⟨by rw[List.length_set];exact hT.len,λi hi=>?_⟩⟩,λn hn=>un n hn λaA rec=>?_⟩
   ·rw[List.length_set] at hi
    by_cases e:0=i
    ·rw[<- e,bX hl];show((gt t 0).1.set 0 _).length<=5;rw[List.length_set];omega
    ·rw[dZ e];exact hT.row i hi
   ·unfold c154_10004;refine qN en ?_;refine qR h6 ?_;refine qF q0 ?_;refine qT q1 ?_;refine qP (show(0:Int)<=0 by omega) ?_;refine(aZ hl).trans ?_;refine(aZ hl).trans ?_;refine qR h7 ?_;refine qP (show(0:Int)<=0 by omega) ?_;refine(aZ hl).trans ?_;refine(aZ h00).trans ?_;refine(aZ hl).trans ?_;refine(aZ h00).trans ?_;rfl
  | false=>
  cases q2:x6==2 with
  | true=>
   refine⟨_,⟨[],d6,rfl,k6,⟨Nat.zero_le _,λi hi=>absurd hi (Nat.not_lt_zero _)⟩⟩,λn hn=>un n hn λaA rec=>?_⟩
   unfold c154_10004;refine qN en ?_;refine qR h6 ?_;refine qF q0 ?_;refine qF q1 ?_;refine qT q2 ?_;rfl
  | false=>
   refine⟨_,⟨t,d6,rfl,k6,hT⟩,λn hn=>un n hn λaA rec=>?_⟩
   unfold c154_10004;refine qN en ?_;refine qR h6 ?_;refine qF q0 ?_;refine qF q1 ?_;refine qF q2 ?_;rfl)
 have h2:=f233 ((m+1:Nat):Int)
 obtain⟨o,⟨t,d,rfl,hd,ht⟩,hL⟩:=lp (m+1) 0 ((0:Int),d1.1,d1.2.1,d1.2.2.1,dQ ((m+1:Nat):Int)) (by omega) ⟨dQ ((m+1:Nat):Int),d1,rfl,k1,E7 (by omega) (by omega)⟩
 exact⟨t,d,go154 λn hn=>Ev.eq (λaA=>by unfold T154;refine qR h1 ?_;rw[<- hw] at h2;refine qC h2 ?_;rw[hw]) ((hL n (by omega)).ev (i:=()) rfl),hd,ht⟩
-- logs drawn
structure LogD (k:Nat) (l:fZ):Prop where
 len:l.2.2.1.length<=k
 st:∀ s∈l.2.2.1,SzS s
theorem LogD.sz{k:Nat}{l:fZ}(h:LogD k l)(hk:k<=1048576):l.2.2.1.length<=aP/\∀ i,i<l.2.2.1.length->SzS (gt l.2.2.1 i):=
 ⟨Nat.le_trans h.len hk,λi hi=>h.st _ (cB hi)⟩
theorem LogD.add{k:Nat}{l:fZ}(h:LogD k l){d:aE}(hd:SzS d):LogD (k+1) (tL l d).1:=by
 unfold tL
 cases m6 l d with
 | false=>exact⟨Nat.le_succ_of_le h.len,h.st⟩
 | true=>
  refine⟨Nat.le_trans (IA l d) (Nat.succ_le_succ h.len),λs hs=>?_⟩
  have key:s∈l.2.2.1++[d]:=by
   have hs:s∈(gJ l d).2.2.1:=hs
   unfold gJ at hs
   cases hc:decide ((((l.2.2.1++[d]).length:Nat):Int)>l.1)with
   | true=>rw[hc] at hs;exact List.mem_of_mem_drop hs
   | false=>rw[hc] at hs;exact hs
  rcases List.mem_append.1 key with hs | hs
  ·exact h.st s hs
  ·rw[List.mem_singleton.1 hs];exact hd
theorem f213(c:eJ)(h:CurOk c):∃ (l:fZ) (d:eJ),Ran p 6 213 [.ref ⟨K134,c⟩] ⟨[⟨K68,l⟩],[⟨K134,d⟩]⟩/\CurOk d/\LogD 6 l:=by
 obtain⟨x1,d1,h1,k1,_⟩:=f153 c [((1:Int),()),((2:Int),()),((4:Int),()),((8:Int),())] h (by show 0<4;omega)
 obtain⟨x2,d2,h2,k2,_⟩:=f153 d1 [((0:Int),()),((0:Int),()),((5:Int),()),((99990:Int),())] k1 (by show 0<4;omega)
 obtain⟨x3,d3,h3,k3,a3,b3,_⟩:=f35 d2 6 k2
 obtain⟨m,rfl⟩:∃ m:Nat,x3=m:=⟨x3.toNat,by omega⟩
 have hm:=b3 (by omega)
 let Good:Out->Prop:=λo=>∃ (l:fZ) (d:eJ),o=⟨[⟨K68,l⟩],[⟨K134,d⟩]⟩/\CurOk d/\LogD 6 l
 have lp:=It.ex (lvl:=6 - 1) (c:=λn aA (_:Unit)=>c213_4 (aI p n) aA ((((m:Int),()),()),(d3,()))) (λi y=>∃ (l:fZ) (d:eJ),y=((i:Int),l.1,l.2.1,l.2.2.1,d.1,d.2.1,d.2.2.1)/\CurOk d/\LogD i l) Good m (by
  rintro i y hi ⟨l,d,rfl,hd,hl⟩
  obtain⟨x4,d4,h4,k4,_⟩:=f35 d 5 hd
  obtain⟨e5,d5,h5,k5,_,_⟩:=f237 d4 k4
  obtain⟨b6,h6⟩:=zR x4 e5
  have hz:=hl.sz (by omega)
  have ho:=s8 (u3 x4 e5)
  have h7:=f243 l (z9 x4 e5) hz.1 hz.2 ho
  refine⟨_,⟨(tL l (z9 x4 e5)).1,d5,rfl,k5,hl.add ho⟩,λn hn aA a rec=>?_⟩
  unfold c213_4;dsimp only;rw[aF (show i<9223372036854775807 by omega)];refine qP (show(i:Int)<(m:Int) by omega) ?_;refine qR h4 ?_;refine qR h5 ?_;refine(BE (h6 n (by omega))).trans ?_;refine(BE (h7 n (by omega))).trans ?_;rfl) (by
  rintro y ⟨l,d,rfl,hd,hl⟩
  refine⟨_,⟨l,d,rfl,hd,⟨Nat.le_trans hl.len (by omega),hl.st⟩⟩,λn hn=>It.stop λaA a rec=>?_⟩
  unfold c213_4;refine qe ?_;rfl)
 obtain⟨o,⟨l,d,rfl,hd,hl⟩,hL⟩:=lp m 0 ((0:Int),x1,x2,[],d3.1,d3.2.1,d3.2.2.1) (by omega) ⟨(x1,x2,[],()),d3,rfl,k3,⟨Nat.le_refl _,λs hs=>by cases hs⟩⟩
 exact⟨l,d,go213 λn hn=>Ev.eq (λaA=>by unfold T213;refine qR h1 ?_;refine qR h2 ?_;refine qR h3 ?_;rfl) ((hL n (by omega)).ev (i:=()) rfl),hd,hl⟩
theorem f156(c:eJ)(h:CurOk c):∃ (l:fZ) (d:eJ),Ran p 7 156 [.ref ⟨K134,c⟩] ⟨[⟨K68,l⟩],[⟨K134,d⟩]⟩/\CurOk d/\LogD 7 l:=by
 obtain⟨l,d1,h1,k1,hl⟩:=f213 c h
 obtain⟨x2,d2,h2,k2,_⟩:=f35 d1 12 k1
 have hl7:LogD 7 l:=⟨Nat.le_succ_of_le hl.len,hl.st⟩
 cases q0:x2==0 with
 | true=>
  obtain⟨x3,d3,h3,k3,_⟩:=f153 d2 [((0:Int),()),((9:Int),()),((1:Int),())] k2 (by show 0<3;omega)
  exact⟨(x3,l.2.1,l.2.2.1,()),d3,go156 λn hn=>Ev.now λaA=>by unfold T156;refine qR h1 ?_;refine qR h2 ?_;refine qT q0 ?_;refine qR h3 ?_;rfl,k3,⟨hl7.len,hl7.st⟩⟩
 | false=>
 cases q1:x2==1 with
 | true=>
  obtain⟨x3,d3,h3,k3,_⟩:=f153 d2 [((-1:Int),()),((100000:Int),()),((9223372036854775807:Int),())] k2 (by show 0<3;omega)
  exact⟨(l.1,x3,l.2.2.1,()),d3,go156 λn hn=>Ev.now λaA=>by unfold T156;refine qR h1 ?_;refine qR h2 ?_;refine qF q0 ?_;refine qT q1 ?_;refine qR h3 ?_;rfl,k3,⟨hl7.len,hl7.st⟩⟩
 | false=>
 cases q2:x2==2 with
 | true=>
  obtain⟨s,d3,h3,k3,hs⟩:=f155 d2 k2
  have hb:l.2.2.1.length+1<=bound:=by have:=hl.len;unfold bound;omega
  refine⟨(l.1,l.2.1,l.2.2.1++[s],()),d3,go156 λn hn=>Ev.now λaA=>by unfold T156;refine qR h1 ?_;refine qR h2 ?_;refine qF q0 ?_;refine qF q1 ?_;refine qT q2 ?_;refine qR h3 ?_;refine qP hb ?_;rfl,k3,⟨?_,λr hr=>?_⟩⟩
  ·show(l.2.2.1++[s]).length<=7;rw[List.length_append,List.length_singleton];have:=hl.len;omega
  ·rcases List.mem_append.1 hr with hr | hr
   ·exact hl.st r hr
   ·rw[List.mem_singleton.1 hr];exact hs.sz (by omega)
 | false=>exact⟨l,d2,go156 λn hn=>Ev.now λaA=>by unfold T156;refine qR h1 ?_;refine qR h2 ?_;refine qF q0 ?_;refine qF q1 ?_;refine qF q2 ?_;rfl,k2,hl7⟩
end Go.Abs.Uz
namespace Go.Abs.Uz
open Go Go.Abs
theorem IS{α:Type}[Inhabited α]{n i:Nat}{x:α}(h:i<n):gt (List.replicate n x) i=x:=by
 rw[cU (by rw[List.length_replicate];exact h),List.getElem_replicate]
def z0:aH:=((0:Int),())
theorem JR{n:Int}(h:inB n 1 5=true):eD (List.replicate n.toNat z0) n=true:=by
 have h1:=aM.1 h
 unfold eD
 simp only[Bool.and_eq_true,beq_iff_eq]
 rw[List.length_replicate]
 refine⟨h,by omega,bD.2 λi hi=>?_⟩
 rw[IS hi];rfl
theorem AB{id n cap slots wait lim:Int}(hn:inB n 1 5=true)(hi:0<=id/\id<n)(hc:inB cap 1 8=true)(hs:inB slots 1 4=true)(hw:inB wait 1 20=true)(hl:inB lim 1 50=true):NodeOk (gL id n cap slots wait lim):=by
 have h1:=aM.1 hn
 have h2:=aM.1 hc
 have h3:=aM.1 hs
 have hL:LogOk (cap,0,[],()):=⟨h2,by show((0:Nat):Int)<=cap;omega,by show(0:Int)<=0/\(0:Int)<=100000;omega,by show(0:Int)+((0:Nat):Int)<=100000;omega,λs h=>by cases h⟩
 have hq:cA (cap,0,[],())=0:=by rw[sH hL];rfl
 have hk:id.toNat<n.toNat:=by omega
 exact {
  n:=hn
  id:=by show inB id 0 (i64.wrap (n - 1))=true;rw[aM,IntKind.wrap_i64];omega
  state:=rfl
  tree:=by
   show(gA (cG ([],[],())).1 (cG ([],[],())).1&&(cG ([],[],())).2.1==(cG ([],[],())).2.1)=true
   rw[j7];simp
  log:=(nS _).2 hL
  got:=JR hn
  acked:=JR hn
  own:=by
   show((gt (List.replicate n.toNat z0) id.toNat).1==cA (cap,0,[],()))=true
   rw[IS hk,hq];rfl
  seen:=by
   show gK (dQ n) n=true
   have hT:TabN n.toNat (dQ n):=by
    have:=E7 (n:=n.toNat) (by omega) (by omega)
    rw[show((n.toNat:Nat):Int)=n by omega] at this;exact this
   unfold gK
   simp only[Bool.and_eq_true,beq_iff_eq]
   refine⟨hn,by rw[hT.len];omega,bD.2 λi hi=>?_⟩
   rw[oM hn hi];rfl
  ack:=by
   show bJ (List.replicate n.toNat z0).length _=true
   rw[bD]
   intro i hi
   show(!decide ((gt (List.replicate n.toNat z0) i).1>cA (cap,0,[],())))=true
   rw[hq,IS (by rw[List.length_replicate] at hi;exact hi)];rfl
  num:=rfl
  clock:=rfl
  slots:=hs
  wait:=hw
  limit:=hl
  rises:=rfl
  rise:=rfl
  sess:=by
   refine(dS _).2 ⟨?_,(λs h=>by cases h),List.Pairwise.nil⟩
   show((0:Nat):Int)<=slots;omega }
theorem FZ{id n cap slots wait lim:Int}(hn:inB n 1 5=true)(hi:0<=id/\id<n)(hc:inB cap 1 8=true)(hs:inB slots 1 4=true)(hw:inB wait 1 20=true)(hl:inB lim 1 50=true):pY id n cap slots wait lim=true/\qW id n cap slots wait lim=gL id n cap slots wait lim:=by
 have h:=(fE _).2 (AB hn hi hc hs hw hl)
 have e:pY id n cap slots wait lim=true:=by unfold pY;rw[hn,h];rfl
 exact⟨e,by unfold qW;rw[e];rfl⟩
end Go.Abs.Uz
