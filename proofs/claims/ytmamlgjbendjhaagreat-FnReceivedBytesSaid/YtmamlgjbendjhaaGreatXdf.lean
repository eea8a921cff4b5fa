/- What the functions of this program answer, part df. -/
import Derived.Test.YtmamlgjbendjhaaGreatW3
import Derived.Test.YtmamlgjbendjhaaGreatXeq
set_option linter.unusedVariables false
open Go.IntKind (i64)
namespace Go.Abs.Xz
open Go Go.Abs
theorem f258(a b:jL):Ran p 1 258 [va K30 a, va K30 b] (rO K28 (gU a b,())):=go258 λn hn=>by
 cases h0:a.2.1==b.2.1 with
 | true=>exact Ev.now λaA=>by unfold T258 gU;rw[h0];exact jE rfl
 | false=>
  have lp:It (λaA (_:Unit)=>c258_5 (aL p n) aA a b) ((0:Int),([]:List aH)) (λ_=>rV K28 (bM 4 (eE a b),())):=by
   refine It.accu (α:=aH) [] (eE a b) 4 1 (λi _=>qG a b i) (λi hi acc ha aA u rec=>?_) (It.stop λaA u rec=>?_)
   ·show c258_5 (aL p n) aA a b rec ((i:Int),acc)=rec (((i+1:Nat):Int),acc++eE a b i)
    have hb:acc.length+1<=bound+(1 - (eE a b i).length):=by simp at ha;unfold bound;omega
    unfold c258_5;dsimp only;rw[aF (show i<9223372036854775807 by omega)];refine qP (show(i:Int)<4 by omega) ?_
    unfold eE at hb ⊢
    cases h1:(a.1.length:Int) != 4 with
    | true=>refine qT h1 ?_;refine qP (by rw[h1] at hb;exact hb) ?_;rfl
    | false=>
     refine qF h1 ?_
     cases h2:(b.1.length:Int) != 4 with
     | true=>refine qT h2 ?_;refine qP (by rw[h1,h2] at hb;exact hb) ?_;rfl
     | false=>
      have e1:a.1.length=4:=by rw[bne_eq_false_iff_eq] at h1;omega
      have e2:b.1.length=4:=by rw[bne_eq_false_iff_eq] at h2;omega
      refine qF h2 ?_;refine qz ?_;refine(aE (show i<a.1.length by omega)).trans ?_;refine qz ?_;refine(aE (show i<b.1.length by omega)).trans ?_
      cases h3:(gt a.1 i).1 != (gt b.1 i).1 with
      | true=>refine qt ?_;refine qP (by rw[h1,h2,h3] at hb;exact hb) ?_;rfl
      | false=>refine qf ?_;show rec _=rec _;rw[show(bif false then[((i:Int),())] else bif false then[((i:Int),())] else bif false then[((i:Int),())] else[])=([]:List aH)from rfl,List.append_nil];rfl
   ·unfold c258_5;dsimp only;refine qe ?_;rfl
  have e:gU a b=bM 4 (eE a b):=by unfold gU;rw[h0];rfl
  rw[e]
  exact Ev.eq (λaA=>by unfold T258;exact gD h0) (lp.ev (i:=()) rfl)
theorem f238(a b:jL):Ran p 1 238 [va K30 a, va K30 b] (rO K28 (gU a b,())):=go238 λn hn=>by
 cases h0:a.2.1==b.2.1 with
 | true=>exact Ev.now λaA=>by unfold T238 gU;rw[h0];exact jE rfl
 | false=>
  have lp:∀ q:Bool,q=((a.1.length:Int)==4&&(b.1.length:Int)==4)->It (λaA (_:Unit)=>c238_6 (aL p n) aA a b) (q,(0:Int),([]:List aH)) (λ_=>rV K28 (bM 4 (eE a b),())):=by
   intro q hq
   have step:∀ i:Nat,i<4->∀ acc:List aH,acc.length+1<=bound->∀ aA rec,c238_6 (aL p n) aA a b rec (q,(i:Int),acc)=rec (q,((i+1:Nat):Int),acc++eE a b i):=by
    intro i hi acc hb aA rec
    unfold c238_6;dsimp only;rw[aF (show i<9223372036854775807 by omega)];refine qP (show(i:Int)<4 by omega) ?_
    unfold eE
    cases h1:(a.1.length:Int)==4 with
    | false=>
     rw[h1] at hq;rw[hq];refine qt ?_;refine qP hb ?_;rw[show((a.1.length:Int) != 4)=true by unfold bne;rw[h1];rfl];rfl
    | true=>
     cases h2:(b.1.length:Int)==4 with
     | false=>rw[h1,h2] at hq;rw[hq];refine qt ?_;refine qP hb ?_;rw[show((a.1.length:Int) != 4)=false by unfold bne;rw[h1];rfl,show((b.1.length:Int) != 4)=true by unfold bne;rw[h2];rfl];rfl
     | true=>
      have e1:a.1.length=4:=by have:=eq_of_beq h1;omega
      have e2:b.1.length=4:=by have:=eq_of_beq h2;omega
      rw[h1,h2] at hq;rw[hq];refine qf ?_;refine qz ?_;refine(aE (show i<a.1.length by omega)).trans ?_;refine qz ?_;refine(aE (show i<b.1.length by omega)).trans ?_
      rw[show((a.1.length:Int) != 4)=false by unfold bne;rw[h1];rfl,show((b.1.length:Int) != 4)=false by unfold bne;rw[h2];rfl]
      cases h3:(gt a.1 i).1 != (gt b.1 i).1 with
      | true=>refine qt ?_;refine qP hb ?_;rfl
      | false=>refine qf ?_;show rec _=rec _;rw[show(bif false then[((i:Int),())] else bif false then[((i:Int),())] else bif false then[((i:Int),())] else[])=([]:List aH)from rfl,List.append_nil]
   refine It.run (λi=>(q,(i:Int),bM i (eE a b))) 4 (λi hi aA u rec=>?_) (It.stop λaA u rec=>?_)
   ·show c238_6 (aL p n) aA a b rec (q,(i:Int),bM i (eE a b))=rec (q,((i+1:Nat):Int),bM (i+1) (eE a b))
    have hb:(bM i (eE a b)).length+1<=bound:=by
     have:=cT (n:=i) (g:=eE a b) (L:=1) (λj _=>qG a b j)
     unfold bound;omega
    refine(step i hi (bM i (eE a b)) hb aA rec).trans ?_
    rw[dD];rfl
   ·unfold c238_6;dsimp only;refine qe ?_;rfl
  have e:gU a b=bM 4 (eE a b):=by unfold gU;rw[h0];rfl
  rw[e]
  cases h1:(a.1.length:Int)==4 with
  | true=>exact Ev.eq (λaA=>by unfold T238;refine qF h0 ?_;exact jE h1) ((lp _ (by rw[h1];rfl)).ev (i:=()) rfl)
  | false=>exact Ev.eq (λaA=>by unfold T238;refine qF h0 ?_;exact gD h1) ((lp _ (by rw[h1];rfl)).ev (i:=()) rfl)
theorem f88(nd:NodeT)(x:Int)(b:Bool)(hv:nd.sess.length<=aN):Ran p 1 88 [va K38 nd, vf K3 (x,()), vf K4 (b,())] (rO K3 (cW nd.sess x b,())):=go88 λn hn=>by
 have key:∀ {i:Nat} {α:Type} {X R:α},(bif(gt nd.sess i).1==x then(bif rP (gt nd.sess i).2.2.1 b then X else R)else R)=bif dH nd.sess i x b then X else R:=two
 have lp:It (λaA (_:Unit)=>c88_2 (aL p n) aA nd x b) (0:Int) (λ_=>oI (cW nd.sess x b)):=by
  have:=It.first (c:=λaA (_:Unit)=>c88_2 (aL p n) aA nd x b) (λi=>(i:Int)) nd.sess.length (λi=>dH nd.sess i x b) (λi _=>oI (i:Int)) (λ_=>oI (-1)) (λi hi hp aA a rec=>?_) (λi hi hp=>It.stop λaA a rec=>?_) (It.stop λaA a rec=>?_)
  ·revert this;unfold cW
   cases (List.range nd.sess.length).find? (λi=>dH nd.sess i x b)<;>exact λh=>h
  ·have hb:=cO hi hv
   unfold c88_2;rw[aF hb];refine ql hi ?_;refine qz ?_;refine(aE hi).trans ?_
   unfold dH at hp
   cases h1:(gt nd.sess i).1==x with
   | false=>exact gD rfl
   | true=>refine qt ?_;refine qz ?_;refine(aE hi).trans ?_;rw[h1] at hp;exact gD hp
  ·unfold c88_2;refine ql hi ?_;refine qz ?_;refine(aE hi).trans ?_
   unfold dH at hp;rw[Bool.and_eq_true] at hp
   refine qT hp.1 ?_;refine qz ?_;refine(aE hi).trans ?_;exact jE hp.2
  ·unfold c88_2;refine qe ?_;rfl
 exact Ev.eq (λaA=>by unfold T88;rfl) (lp.ev (i:=()) rfl)
theorem f89(x:NodeT)(k to num:Int)(hz:SzN x):Ran p 6 89 [va K38 x, vf K3 (k,()), vf K3 (to,()), vf K3 (num,())] (rO K43 (NA x k to num)):=go89 λn hn=>Ev.now λaA=>by
 unfold T89;refine qC (f231 x.log hz.list hz.logs) ?_;refine qP (hY hz.got) ?_;refine qC (f234 x.state hz.state) ?_;rfl
theorem f83(x:NodeT)(k to num:Int)(hz:SzN x):Ran p 6 83 [va K38 x, vf K3 (k,()), vf K3 (to,()), vf K3 (num,())] (rO K43 (NA x k to num)):=go83 λn hn=>Ev.now λaA=>by
 unfold T83;refine qC (f104 x.log hz.list hz.logs) ?_;refine qC (f98 x.got hz.got) ?_;refine qC (f223 x.state hz.state) ?_;rfl
structure Hears (x:NodeT) (m:MsgT):Prop where
 szn:SzN x
 szm:SzM m
 node:NodeOk x
 id:0<=x.1
 vec:x.1.toNat<m.vec.length
theorem f115(x:NodeT)(m:MsgT)(h:Hears x m):Ran p 8 115 [va K38 x, va K43 m] (rO K38 (cF x m)):=go115 λn hn=>Ev.now λaA=>by
 unfold T115;refine qC (f85 x h.szn) ?_;refine qP h.id ?_;refine(aU h.vec).trans ?_;refine qC (f231 x.log h.szn.list h.szn.logs) ?_;refine qC (f256 (gt m.vec x.1.toNat).1 (bU x.log)) ?_;refine qC (f255 x.acked m.2.1 (mxI false (gt m.vec x.1.toNat).1 (bU x.log)) h.szn.acked) ?_;refine qC (f257 x.seen m.2.1 m.marks h.szn.seen h.szn.lines h.szm.marks) ?_;refine qC (f254 (heard0 x m) iC (vT h.szn m) nW (yP (h.node.heard0 m)) uI) ?_;rfl
theorem f95(x:NodeT)(m:MsgT)(h:Hears x m):Ran p 9 95 [va K38 x, va K43 m] (rO K38 (cF x m)):=go95 λn hn=>Ev.now λaA=>by
 unfold T95;refine qP h.id ?_;refine(aU h.vec).trans ?_;refine qC (f104 x.log h.szn.list h.szn.logs) ?_;refine qC (f236 x.acked m.2.1 (mxI false (gt m.vec x.1.toNat).1 (bU x.log)) h.szn.acked) ?_;refine qC (f237 x.seen m.2.1 m.marks h.szn.seen h.szn.lines h.szm.marks) ?_;refine qD (f235 (heard0 x m) iC (vT h.szn m) nW (h.node.heard0 m) uI) ?_;rfl
theorem f114(x:NodeT)(m:MsgT)(h:Hears x m)(hp:aJ m.part=true):Ran p 9 114 [va K38 x, va K43 m] (rO K38 (c7 x m)):=go114 λn hn=>Ev.now λaA=>by
 have hs:=j0 (gZ h.szn m) m.part
 unfold T114;refine qC (f115 x m h) ?_;refine qC (f254 (cF x m) m.part (gZ h.szn m) h.szm.part (yP (h.node.heard m)) hp) ?_;refine qC (f255 (hU (cF x m) m.part).got m.2.1 m.hi hs.got) ?_;rfl
theorem f94(x:NodeT)(m:MsgT)(h:Hears x m)(hp:aJ m.part=true):Ran p 10 94 [va K38 x, va K43 m] (rO K38 (c7 x m)):=go94 λn hn=>Ev.now λaA=>by
 have hs:=j0 (gZ h.szn m) m.part
 unfold T94;refine qC (f95 x m h) ?_;refine qD (f235 (cF x m) m.part (gZ h.szn m) h.szm.part (h.node.heard m) hp) ?_;refine qC (f236 (hU (cF x m) m.part).got m.2.1 m.hi hs.got) ?_;rfl
end Go.Abs.Xz
namespace Go.Abs.Xz
open Go Go.Abs
theorem f117(x:NodeT)(m:MsgT)(b:Bool)(hv:x.sess.length<=aN):Ran p 2 117 [va K38 x, va K43 m, vf K4 (b,())] (rO K3 (sA x m b,())):=go117 λn hn=>Ev.now λaA=>by
 unfold T117 sA;refine qC (f88 x m.2.1 b hv) ?_
 rcases fN x.sess m.2.1 b with ⟨k,hk,e,_⟩ | ⟨e,_⟩<;>rw[e]
 ·refine qz ?_;refine qz ?_;refine(aE hk).trans ?_;rw[decide_eq_true (show((k:Nat):Int)>=0 by omega),Int.toNat_natCast]
  cases (gt x.sess k).2.1 != m.2.2.2.1<;>rfl
 ·rfl
theorem f118(x:NodeT)(k:Nat)(hz:SzN x)(hk:k<x.sess.length):Ran p 4 118 [va K38 x, vf K3 ((k:Int),())] (rO K38 (jJ x k)):=go118 λn hn=>Ev.now λaA=>by
 rw[<- EP hk hz.sess]
 unfold T118;refine qC (f85 x hz) ?_;exact uR hk hz.sess
theorem Hears.of{x:NodeT}{m:MsgT}(hz:SzN x)(hm:SzM m)(h:RecOk x m):Hears x m:=
 ⟨hz,hm,h.node,h.idn.1,by have h1:=h.idn;have h2:=h.vec;omega⟩
theorem II{x:NodeT}{k:Nat}(hk:k<x.sess.length)(num:Int):(x.sess.set k ((gt x.sess k).1,num,(gt x.sess k).2.2)).set k ((gt (x.sess.set k ((gt x.sess k).1,num,(gt x.sess k).2.2)) k).1,(gt (x.sess.set k ((gt x.sess k).1,num,(gt x.sess k).2.2)) k).2.1,(gt (x.sess.set k ((gt x.sess k).1,num,(gt x.sess k).2.2)) k).2.2.1,(0:Int),(gt (x.sess.set k ((gt x.sess k).1,num,(gt x.sess k).2.2)) k).2.2.2.2)=nS x k num:=by
 rw[cE hk,vC];rfl
theorem Q3{x:NodeT}{m:MsgT}{k:Nat}(e:cW x.sess m.2.1 true=(k:Int)):jU x m=false/\gG x m=nS x k m.2.2.2.1:=by
 unfold jU gG;rw[e,decide_eq_true (show((k:Nat):Int)>=0 by omega)];exact⟨rfl,by rw[Int.toNat_natCast];rfl⟩
theorem Q2{x:NodeT}{m:MsgT}(e:cW x.sess m.2.1 true= -1):jU x m=((x.sess.length:Int)==x.slots)/\gG x m=jF x m:=by
 unfold jU gG;rw[e];exact⟨rfl,rfl⟩
theorem f116(x:NodeT)(m:MsgT)(hz:SzN x)(hm:SzM m)(R:RecOk x m):Ran p 9 116 [va K38 x, va K43 m] ⟨[⟨K38,(jP x m).1⟩,⟨K49,((jP x m).2.1,())⟩,⟨K3,((jP x m).2.2,())⟩],[]⟩:=go116 λn hn=>Ev.now λaA=>by
 have h0:=R.idn.1
 have hv:x.1.toNat<m.vec.length:=(Hears.of hz hm R).vec
 have go:jU x m=false->∀ {y:NodeT},withS x (gG x m)=y->Hears y m/\NodeOk (cF y m)/\SzN (cF y m)/\jP x m=(cF y m,[DA (cF y m) x m],0):=by
  intro hf y e
  have hr:=R.syn hf
  have hs:=pD hz (pH R.node m)
  rw[e] at hr hs
  refine⟨Hears.of hs hm hr,hr.node.heard m,gZ hs m,?_⟩
  unfold jP GF;rw[hf,e];rfl
 unfold T116;refine qC (f85 x hz) ?_;refine qC (f88 x m.2.1 true hz.sess) ?_
 rcases fN x.sess m.2.1 true with ⟨k,hk,e,_⟩ | ⟨e,_⟩
 ·obtain⟨hf,hs⟩:=Q3 e
  have hk2:k<(x.sess.set k ((gt x.sess k).1,m.2.2.2.1,(gt x.sess k).2.2)).length:=by rw[List.length_set];exact hk
  obtain⟨hh,ho,hz2,he⟩:=go hf (y:=withS x ((x.sess.set k ((gt x.sess k).1,m.2.2.2.1,(gt x.sess k).2.2)).set k ((gt (x.sess.set k ((gt x.sess k).1,m.2.2.2.1,(gt x.sess k).2.2)) k).1,(gt (x.sess.set k ((gt x.sess k).1,m.2.2.2.1,(gt x.sess k).2.2)) k).2.1,(gt (x.sess.set k ((gt x.sess k).1,m.2.2.2.1,(gt x.sess k).2.2)) k).2.2.1,(0:Int),(gt (x.sess.set k ((gt x.sess k).1,m.2.2.2.1,(gt x.sess k).2.2)) k).2.2.2.2))) (by rw[hs,II hk])
  rw[he,e];refine qz ?_;refine qz ?_;refine(aE hk).trans ?_;refine(aE hk).trans ?_;refine qz ?_;refine(aE hk2).trans ?_;refine(aE hk2).trans ?_
  refine qC (f115 _ m hh) ?_;refine qC (f89 _ 3 m.2.1 m.2.2.2.1 hz2) ?_;refine qC (f90 (cF _ m).tree hz2.leaves) ?_;refine qC (f258 (cF _ m).tree m.tree) ?_;refine qP h0 ?_;refine(aU hv).trans ?_;refine qC (f119 _ (gU (cF _ m).tree m.tree) (gt m.vec x.1.toNat).1 hz2 ho (Nat.le_trans (lD _ _) (by decide))) ?_;rfl
 ·obtain⟨hf,hs⟩:=Q2 e
  rw[e];refine qf ?_
  cases hl:(x.sess.length:Int)==x.slots with
  | true=>
   rw[hl] at hf
   refine qT hl ?_;refine qC (f89 x 5 m.2.1 m.2.2.2.1 hz) ?_;unfold jP;rw[hf];rfl
  | false=>
   rw[hl] at hf
   obtain⟨hh,ho,hz2,he⟩:=go hf (y:=withS x (jF x m)) (by rw[hs])
   have hb:x.sess.length+1<=bound:=by have:=hz.sess;unfold aN at this;unfold bound;omega
   rw[he];refine qF hl ?_;refine qP hb ?_
   refine qC (f115 (withS x (jF x m)) m hh) ?_;refine qC (f89 _ 3 m.2.1 m.2.2.2.1 hz2) ?_;refine qC (f90 (cF _ m).tree hz2.leaves) ?_;refine qC (f258 (cF _ m).tree m.tree) ?_;refine qP h0 ?_;refine(aU hv).trans ?_;refine qC (f119 _ (gU (cF _ m).tree m.tree) (gt m.vec x.1.toNat).1 hz2 ho (Nat.le_trans (lD _ _) (by decide))) ?_;rfl
end Go.Abs.Xz
namespace Go.Abs.Xz
open Go Go.Abs
def DB(r:IB):Out:=⟨[⟨K38,r.1⟩,⟨K49,(r.2.1,())⟩,⟨K3,(r.2.2,())⟩],[]⟩
theorem oP(x:NodeT)(m:MsgT)(b:Bool):(sA x m b<0/\(cW x.sess m.2.1 b= -1\/∃ k:Nat,k<x.sess.length/\cW x.sess m.2.1 b=(k:Int)/\((gt x.sess k).2.1 != m.2.2.2.1)=true))\/∃ k:Nat,k<x.sess.length/\cW x.sess m.2.1 b=(k:Int)/\((gt x.sess k).2.1 != m.2.2.2.1)=false/\sA x m b=(k:Int):=by
 unfold sA
 rcases fN x.sess m.2.1 b with ⟨k,hk,e,_⟩ | ⟨e,_⟩<;>rw[e]
 ·rw[decide_eq_true (show((k:Nat):Int)>=0 by omega),Int.toNat_natCast]
  cases h:(gt x.sess k).2.1 != m.2.2.2.1 with
  | true=>exact .inl ⟨by show(-1:Int)<0;omega,.inr ⟨k,hk,rfl,h⟩⟩
  | false=>exact .inr ⟨k,hk,rfl,h,rfl⟩
 ·exact .inl ⟨by show(-1:Int)<0;omega,.inl rfl⟩
theorem jQ{x:NodeT}{m:MsgT}(h0:(m.1==0)=false)(h1:(m.1==1)=false)(h2:(m.1==2)=false){b:Bool}(h4:(m.1==4)=b)(hf:sA x m b<0):sN x m=(x,[],2):=by
 unfold sN;rw[h0,h1,h2,h4,decide_eq_true hf];rfl
theorem t9{x:NodeT}{m:MsgT}(h0:(m.1==0)=false)(h1:(m.1==1)=false)(h2:(m.1==2)=false){b:Bool}(h4:(m.1==4)=b){k:Nat}(hf:sA x m b=(k:Int)):sN x m=mE x m k:=by
 unfold sN;rw[h0,h1,h2,h4,hf,decide_eq_false (show ¬ (k:Int)<0 by omega)];rfl
theorem f27(x:NodeT)(m:MsgT)(hz:SzN x)(hm:SzM m):Ran p 10 27 [va K38 x, va K43 m] (DB (cC x m)):=go27 λn hn=>Ev.now λaA=>by
 have bad:hX x m=false->(some ⟨[⟨K38,x⟩,⟨K49,(([]:List MsgT),())⟩,⟨K3,((1:Int),())⟩],[]⟩:Option Out)=some (DB (cC x m)):=λh=>by rw[IR h];rfl
 unfold T27;refine qC (f86 x hz) ?_
 cases g1:eO x with
 | false=>refine qt ?_;refine qC (f85 x hz) ?_;exact bad (by unfold hX;rw[g1];rfl)
 | true=>
 refine qf ?_;refine qC (f113 m hm) ?_
 cases g2:dM m with
 | false=>refine qt ?_;refine qC (f85 x hz) ?_;exact bad (by unfold hX;rw[g1,g2];rfl)
 | true=>
 refine qf ?_
 cases g3:m.2.2.1==x.1 with
 | false=>refine qT (show(m.2.2.1 != x.1)=true by unfold bne;rw[g3];rfl) ?_;refine qC (f85 x hz) ?_;exact bad (by unfold hX;rw[g1,g2,g3];rfl)
 | true=>
 refine qF (show(m.2.2.1 != x.1)=false by unfold bne;rw[g3];rfl) ?_
 by_cases g4:m.2.1>=x.2.1
 ·refine qP g4 ?_;refine qC (f85 x hz) ?_;exact bad (by unfold hX;rw[g1,g2,g3,decide_eq_true g4];rfl)
 refine qN g4 ?_
 cases g5:(m.vec.length:Int)==x.2.1 with
 | false=>refine qT (show((m.vec.length:Int) != x.2.1)=true by unfold bne;rw[g5];rfl) ?_;refine qC (f85 x hz) ?_;exact bad (by unfold hX;rw[g1,g2,g3,decide_eq_false g4,g5];rfl)
 | true=>
 refine qF (show((m.vec.length:Int) != x.2.1)=false by unfold bne;rw[g5];rfl) ?_
 have ok:hX x m=true:=by unfold hX;rw[g1,g2,g3,decide_eq_false g4,g5];rfl
 have R:=y7 ok
 have H:=Hears.of hz hm R
 rw[EM ok]
 cases k0:m.1==0 with
 | true=>
  have hz2:=iY hz m
  (first | refine qT k0 ?_ | refine qt ?_);refine qC (f114 x m H R.part) ?_;refine qC (f89 (c7 x m) 1 m.2.1 m.2.2.2.1 hz2) ?_;unfold sN;rw[k0];rfl
 | false=>
 (first | refine qF k0 ?_ | refine qf ?_)
 cases k1:m.1==1 with
 | true=>(first | refine qT k1 ?_ | refine qt ?_);refine qC (f115 x m H) ?_;unfold sN;rw[k0,k1];rfl
 | false=>
 (first | refine qF k1 ?_ | refine qf ?_)
 cases k2:m.1==2 with
 | true=>(first | refine qT k2 ?_ | refine qt ?_);refine qE (f116 x m hz hm R) ?_;unfold sN;rw[k0,k1,k2];rfl
 | false=>
 (first | refine qF k2 ?_ | refine qf ?_);refine qC (f117 x m (m.1==4) hz.sess) ?_
 rcases oP x m (m.1==4)with ⟨hf,_⟩ | ⟨k,hk,_,_,hf⟩
 ·refine qP hf ?_;refine qC (f85 x hz) ?_;rw[jQ k0 k1 k2 rfl hf];rfl
 ·rw[t9 k0 k1 k2 rfl hf,hf];refine qN (show ¬ (k:Int)<0 by omega) ?_;refine qC (f118 x k hz hk) ?_
  have hg:=z8 hz k
  have Rg:=R.gone k
  have Hg:=Hears.of hg hm Rg
  have hz2:=iY hg m
  cases k5:m.1==5 with
  | true=>(first | refine qT k5 ?_ | refine qt ?_);unfold mE;rw[k5];rfl
  | false=>
   (first | refine qF k5 ?_ | refine qf ?_);refine qC (f114 (jJ x k) m Hg Rg.part) ?_
   cases k4:m.1==4 with
   | true=>(first | refine qT k4 ?_ | refine qt ?_);unfold mE;rw[k5,k4];rfl
   | false=>
    (first | refine qF k4 ?_ | refine qf ?_);refine qC (f89 (c7 (jJ x k) m) 4 m.2.1 m.2.2.2.1 hz2) ?_;refine qP (hY hm.list) ?_;refine qP R.idn.1 ?_;refine(aU H.vec).trans ?_
    refine qC (f119 (c7 (jJ x k) m) m.leaves (gt m.vec x.1.toNat).1 hz2 Rg.brought hm.list) ?_;unfold mE;rw[k5,k4];rfl
end Go.Abs.Xz
set_option maxHeartbeats 2000000
namespace Go.Abs.Xz
open Go Go.Abs
theorem H7{a b c:Int}(h:(a==b)=true)(hc:b≠c):(a==c)=false:=by
 have:=eq_of_beq h;subst this;simpa using hc
theorem f22(x:NodeT)(m:MsgT)(hz:SzN x)(hm:SzM m):Ran p 11 22 [va K38 x, va K43 m] (DB (cC x m)):=go22 λn hn=>Ev.now λaA=>by
 have bad:hX x m=false->(some ⟨[⟨K38,x⟩,⟨K49,(([]:List MsgT),())⟩,⟨K3,((1:Int),())⟩],[]⟩:Option Out)=some (DB (cC x m)):=λh=>by rw[IR h];rfl
 unfold T22;refine qC (f81 x hz) ?_;refine qC (f23 x hz) ?_
 cases g1:eO x with
 | false=>refine qt ?_;exact bad (by unfold hX;rw[g1];rfl)
 | true=>
 refine qf ?_;refine qC (f30 m hm) ?_
 cases g2:dM m with
 | false=>refine qt ?_;exact bad (by unfold hX;rw[g1,g2];rfl)
 | true=>
 refine qf ?_
 cases g3:m.2.2.1==x.1 with
 | false=>refine qT (show(m.2.2.1 != x.1)=true by unfold bne;rw[g3];rfl) ?_;exact bad (by unfold hX;rw[g1,g2,g3];rfl)
 | true=>
 refine qF (show(m.2.2.1 != x.1)=false by unfold bne;rw[g3];rfl) ?_
 by_cases g4:m.2.1>=x.2.1
 ·refine qP g4 ?_;exact bad (by unfold hX;rw[g1,g2,g3,decide_eq_true g4];rfl)
 refine qN g4 ?_
 cases g5:(m.vec.length:Int)==x.2.1 with
 | false=>refine qT (show((m.vec.length:Int) != x.2.1)=true by unfold bne;rw[g5];rfl) ?_;exact bad (by unfold hX;rw[g1,g2,g3,decide_eq_false g4,g5];rfl)
 | true=>
 refine qF (show((m.vec.length:Int) != x.2.1)=false by unfold bne;rw[g5];rfl) ?_
 have ok:hX x m=true:=by unfold hX;rw[g1,g2,g3,decide_eq_false g4,g5];rfl
 have R:=y7 ok
 have H:=Hears.of hz hm R
 have hv:=H.vec
 rw[EM ok]
 cases k0:m.1==0 with
 | true=>
  have hz2:=iY hz m
  (first | refine qT k0 ?_ | refine qt ?_);refine qC (f94 x m H R.part) ?_;refine qC (f83 (c7 x m) 1 m.2.1 m.2.2.2.1 hz2) ?_;unfold sN;rw[k0];rfl
 | false=>
 (first | refine qF k0 ?_ | refine qf ?_)
 cases k1:m.1==1 with
 | true=>(first | refine qT k1 ?_ | refine qt ?_);refine qC (f95 x m H) ?_;unfold sN;rw[k0,k1];rfl
 | false=>
 (first | refine qF k1 ?_ | refine qf ?_)
 cases k2:m.1==2 with
 | true=>
  have e0:sN x m=jP x m:=by unfold sN;rw[k0,k1,k2];rfl
  rw[e0]
  have go:jU x m=false->∀ {y:NodeT},withS x (gG x m)=y->Hears y m/\NodeOk (cF y m)/\SzN (cF y m)/\jP x m=(cF y m,[DA (cF y m) x m],0):=by
   intro hf y e
   have hr:=R.syn hf
   have hs:=pD hz (pH R.node m)
   rw[e] at hr hs
   refine⟨Hears.of hs hm hr,hr.node.heard m,gZ hs m,?_⟩
   unfold jP GF;rw[hf,e];rfl
  (first | refine qT k2 ?_ | refine qt ?_);refine qC (f21 x m.2.1 true hz.sess) ?_
  rcases fN x.sess m.2.1 true with ⟨k,hk,e,_⟩ | ⟨e,_⟩
  ·obtain⟨hf,hs⟩:=Q3 e
   have hk2:k<(x.sess.set k ((gt x.sess k).1,m.2.2.2.1,(gt x.sess k).2.2)).length:=by rw[List.length_set];exact hk
   obtain⟨hh,ho,hz2,he⟩:=go hf (y:=withS x ((x.sess.set k ((gt x.sess k).1,m.2.2.2.1,(gt x.sess k).2.2)).set k ((gt (x.sess.set k ((gt x.sess k).1,m.2.2.2.1,(gt x.sess k).2.2)) k).1,(gt (x.sess.set k ((gt x.sess k).1,m.2.2.2.1,(gt x.sess k).2.2)) k).2.1,(gt (x.sess.set k ((gt x.sess k).1,m.2.2.2.1,(gt x.sess k).2.2)) k).2.2.1,(0:Int),(gt (x.sess.set k ((gt x.sess k).1,m.2.2.2.1,(gt x.sess k).2.2)) k).2.2.2.2))) (by rw[hs,II hk])
   rw[he,e];refine qz ?_;refine qz ?_;refine(aE hk).trans ?_;refine(aE hk).trans ?_;refine qz ?_;refine(aE hk2).trans ?_;refine(aE hk2).trans ?_
   refine qC (f95 _ m hh) ?_;refine qC (f83 _ 3 m.2.1 m.2.2.2.1 hz2) ?_;refine qC (f84 (cF _ m).tree hz2.leaves) ?_;refine qC (f238 (cF _ m).tree m.tree) ?_;refine qC (f99 _ (gU (cF _ m).tree m.tree) m hz2 ho (Nat.le_trans (lD _ _) (by decide)) R.idn.1 hv) ?_;rfl
  ·obtain⟨hf,hs⟩:=Q2 e
   have hle:=((dG x).1 R.node.sess).1
   rw[e];refine qf ?_
   by_cases hl:(x.sess.length:Int)>=x.slots
   ·refine qP hl ?_
    rw[show((x.sess.length:Int)==x.slots)=true from by rw[beq_iff_eq];omega] at hf
    refine qC (f83 x 5 m.2.1 m.2.2.2.1 hz) ?_;unfold jP;rw[hf];rfl
   ·rw[show((x.sess.length:Int)==x.slots)=false from by rw[beq_eq_false_iff_ne];omega] at hf
    obtain⟨hh,ho,hz2,he⟩:=go hf (y:=withS x (jF x m)) (by rw[hs])
    have hb:x.sess.length+1<=bound:=by have:=hz.sess;unfold aN at this;unfold bound;omega
    rw[he];refine qN hl ?_;refine qP hb ?_
    refine qC (f95 (withS x (jF x m)) m hh) ?_;refine qC (f83 _ 3 m.2.1 m.2.2.2.1 hz2) ?_;refine qC (f84 (cF _ m).tree hz2.leaves) ?_;refine qC (f238 (cF _ m).tree m.tree) ?_;refine qC (f99 _ (gU (cF _ m).tree m.tree) m hz2 ho (Nat.le_trans (lD _ _) (by decide)) R.idn.1 hv) ?_;rfl
 | false=>
 (first | refine qF k2 ?_ | refine qf ?_)
 have R2:∀ k:Nat,k<x.sess.length->RecOk (withS x (A8 x (k:Int))) m/\SzN (withS x (A8 x (k:Int)))/\withS x (A8 x (k:Int))=jJ x k:=λk hk=>by
  rw[EP hk hz.sess];exact⟨R.gone k,z8 hz k,rfl⟩
 cases k3:m.1==3 with
 | true=>
  have k4:(m.1==4)=false:=H7 k3 (by decide)
  have k5:(m.1==5)=false:=H7 k3 (by decide)
  (first | refine qT k3 ?_ | refine qt ?_);refine qC (f21 x m.2.1 false hz.sess) ?_
  rcases oP x m false with ⟨hf,e | ⟨k,hk,e,hn2⟩⟩ | ⟨k,hk,e,hn2,hf⟩<;>rw[e]
  ·refine qt ?_;rw[jQ k0 k1 k2 k4 hf];rfl
  ·rw[jQ k0 k1 k2 k4 hf];refine qN (show ¬ (k:Int)<0 by omega) ?_;refine qz ?_;refine(aE hk).trans ?_;refine(aE hk).trans ?_;refine qT hn2 ?_;rfl
  ·rw[t9 k0 k1 k2 k4 hf];refine qN (show ¬ (k:Int)<0 by omega) ?_;refine qz ?_;refine(aE hk).trans ?_;refine(aE hk).trans ?_;refine qF hn2 ?_
   obtain⟨Rg,hg,eg⟩:=R2 k hk
   have hz2:=iY hg m
   refine(uR hk hz.sess).trans ?_;refine qC (f94 (withS x (A8 x (k:Int))) m (Hears.of hg hm Rg) R.part) ?_;refine qC (f83 (c7 (withS x (A8 x (k:Int))) m) 4 m.2.1 m.2.2.2.1 hz2) ?_;refine qC (f98 m.leaves hm.list) ?_
   refine qC (f99 (c7 (withS x (A8 x (k:Int))) m) m.leaves m hz2 Rg.brought hm.list R.idn.1 hv) ?_;unfold mE;rw[k5,k4,<- eg];rfl
 | false=>
 (first | refine qF k3 ?_ | refine qf ?_)
 cases k4:m.1==4 with
 | true=>
  have k5:(m.1==5)=false:=H7 k4 (by decide)
  (first | refine qT k4 ?_ | refine qt ?_);refine qC (f21 x m.2.1 true hz.sess) ?_
  rcases oP x m true with ⟨hf,e | ⟨k,hk,e,hn2⟩⟩ | ⟨k,hk,e,hn2,hf⟩<;>rw[e]
  ·refine qt ?_;rw[jQ k0 k1 k2 k4 hf];rfl
  ·rw[jQ k0 k1 k2 k4 hf];refine qN (show ¬ (k:Int)<0 by omega) ?_;refine qz ?_;refine(aE hk).trans ?_;refine(aE hk).trans ?_;refine qT hn2 ?_;rfl
  ·rw[t9 k0 k1 k2 k4 hf];refine qN (show ¬ (k:Int)<0 by omega) ?_;refine qz ?_;refine(aE hk).trans ?_;refine(aE hk).trans ?_;refine qF hn2 ?_
   obtain⟨Rg,hg,eg⟩:=R2 k hk
   refine(uR hk hz.sess).trans ?_;refine qC (f94 (withS x (A8 x (k:Int))) m (Hears.of hg hm Rg) R.part) ?_;unfold mE;rw[k5,k4,<- eg];rfl
 | false=>
  have k5:(m.1==5)=true:=by
   have h2:=R.msg
   unfold dM nZ at h2
   simp only[Bool.and_eq_true,aQ] at h2
   have h3:=h2.1.1
   rw[beq_eq_false_iff_ne] at k0 k1 k2 k3 k4
   rw[beq_iff_eq];omega
  (first | refine qF k4 ?_ | refine qf ?_);refine qC (f21 x m.2.1 false hz.sess) ?_
  rcases oP x m false with ⟨hf,e | ⟨k,hk,e,hn2⟩⟩ | ⟨k,hk,e,hn2,hf⟩<;>rw[e]
  ·refine qt ?_;rw[jQ k0 k1 k2 k4 hf];rfl
  ·rw[jQ k0 k1 k2 k4 hf];refine qN (show ¬ (k:Int)<0 by omega) ?_;refine qz ?_;refine(aE hk).trans ?_;refine(aE hk).trans ?_;refine qT hn2 ?_;rfl
  ·rw[t9 k0 k1 k2 k4 hf];refine qN (show ¬ (k:Int)<0 by omega) ?_;refine qz ?_;refine(aE hk).trans ?_;refine(aE hk).trans ?_;refine qF hn2 ?_
   obtain⟨Rg,hg,eg⟩:=R2 k hk
   refine(uR hk hz.sess).trans ?_;unfold mE;rw[k5,<- eg];rfl
end Go.Abs.Xz
namespace Go.Abs.Xz
open Go Go.Abs
-- how many cells lie in what comes back
theorem MN(xs:List jM):cnT (.sl K147) xs=3*(xs.length:Int):=jN (c:=cnR K147) (n:=3) (λx=>rfl) xs
theorem kB(x:NodeT):cnS K38 x=6*(x.2.2.1.length:Int)+(2*(x.2.2.2.1.length:Int)+(1*(x.2.2.2.2.1.length:Int)+(cnT (.sl K27) x.log.2.2.1+(1*(x.got.length:Int)+(1*(x.acked.length:Int)+(cnT (.sl K28) x.seen+(4*(x.sess.length:Int)+(3*(x.rises.length:Int)+0)))))))):=by
 rw[<- NX,<- LE,<- yA,<- yA,<- yA,<- PW,<- MN];rfl
theorem IP{t u:List bH}(h:u.length=t.length)(h2:∀ i,(gt u i).1.length=(gt t i).1.length):cnT (.sl K28) u<=cnT (.sl K28) t:=
 BI (α:=bH) (c:=cnR K28) u t h λj hj=>by
  have e:∀ r:bH,cnR K28 r=1*(r.1.length:Int)+0:=λr=>by rw[<- yA];rfl
  rw[e,e,h2 j];omega
theorem KD(x:NodeT)(s:aD):(tkP x s).1.length<=5/\(tkP x s).2.1.length<=5:=by
 unfold tkP prune
 cases aJ (cM x.state s)with
 | true=>exact kT _ _
 | false=>exact kT _ _
theorem D7(x:NodeT)(s:aD):cnS K38 (hU x s)<=cnS K38 x+100:=by
 rw[kB,kB]
 have h1:=KD x s
 have h2:(bV (tkP x s)).1.length<=4:=sE _
 have h3:cnT (.sl K28) (tkS x s)<=cnT (.sl K28) x.seen:=IP (dA _ _ _) (eV _ _ _)
 have h4:(tkR x s).length=x.rises.length:=gL _ _ _ _
 show 6*(((tkP x s).1.length:Nat):Int)+(2*(((tkP x s).2.1.length:Nat):Int)+(1*(((bV (tkP x s)).1.length:Nat):Int)+(cnT (.sl K27) x.log.2.2.1+(1*(x.got.length:Int)+(1*(x.acked.length:Int)+(cnT (.sl K28) (tkS x s)+(4*(x.sess.length:Int)+(3*(((tkR x s).length:Nat):Int)+0))))))))<=_
 omega
theorem vR(x:NodeT)(m:MsgT):cnS K38 (cF x m)<=cnS K38 x+100:=by
 have h:=D7 (heard0 x m) iC
 have h3:cnT (.sl K28) (bB x.seen m.2.1 m.marks)<=cnT (.sl K28) x.seen:=IP (dA _ _ _) (eV _ _ _)
 have h4:cnS K38 (heard0 x m)<=cnS K38 x:=by
  rw[kB,kB]
  show 6*(x.2.2.1.length:Int)+(2*(x.2.2.2.1.length:Int)+(1*(x.2.2.2.2.1.length:Int)+(cnT (.sl K27) x.log.2.2.1+(1*(x.got.length:Int)+(1*(((cN x.acked m.2.1 (mxI false (gt m.vec x.1.toNat).1 (bU x.log))).length:Nat):Int)+(cnT (.sl K28) (bB x.seen m.2.1 m.marks)+(4*(x.sess.length:Int)+(3*(x.rises.length:Int)+0))))))))<=_
  rw[fM];omega
 unfold cF;omega
theorem xM(x:NodeT)(m:MsgT):cnS K38 (c7 x m)<=cnS K38 x+200:=by
 have h1:=vR x m
 have h2:=D7 (cF x m) m.part
 have h3:∀ y:NodeT,cnS K38 (gotUp y m)=cnS K38 y:=λy=>by
  rw[kB,kB]
  show 6*(y.2.2.1.length:Int)+(2*(y.2.2.2.1.length:Int)+(1*(y.2.2.2.2.1.length:Int)+(cnT (.sl K27) y.log.2.2.1+(1*(((cN y.got m.2.1 m.hi).length:Nat):Int)+(1*(y.acked.length:Int)+(cnT (.sl K28) y.seen+(4*(y.sess.length:Int)+(3*(y.rises.length:Int)+0))))))))=_
  rw[fM]
 unfold c7;rw[h3];omega
theorem D1(x:NodeT){ss:List eC}(h:ss.length<=x.sess.length+1):cnS K38 (withS x ss)<=cnS K38 x+4:=by
 rw[kB,kB]
 show 6*(x.2.2.1.length:Int)+(2*(x.2.2.2.1.length:Int)+(1*(x.2.2.2.2.1.length:Int)+(cnT (.sl K27) x.log.2.2.1+(1*(x.got.length:Int)+(1*(x.acked.length:Int)+(cnT (.sl K28) x.seen+(4*(ss.length:Int)+(3*(x.rises.length:Int)+0))))))))<=_
 omega
theorem N6(x:NodeT)(k:Nat):cnS K38 (jJ x k)<=cnS K38 x+4:=D1 x (by rw[List.length_append,List.length_take,List.length_drop];omega)
structure RecSz (x:NodeT) (r:IB):Prop where
 node:SzN r.1
 cn:cnS K38 r.1<=cnS K38 x+300
 len:r.2.1.length<=1
 msg:∀ q∈r.2.1,SzM q
theorem xX{q:MsgT}(h:SzM q):∀ y∈[q],SzM y:=λy hy=>by rw[List.mem_singleton.1 hy];exact h
theorem zM:∀ y∈([]:List MsgT),SzM y:=λy hy=>by cases hy
theorem IZ{x:NodeT}(h:SzN x)(a b c:Int):SzM (NA x a b c):=⟨Nat.zero_le _,h.got,Nat.zero_le _,nW,Nat.le_trans (eI _) (by decide)⟩
theorem J2{o x:NodeT}(h:SzN o)(m:MsgT):SzM (DA o x m):=⟨h.leaves,h.got,Nat.le_trans (lD _ _) (by decide),lC _ _,Nat.le_trans (eI _) (by decide)⟩
theorem NR{o x:NodeT}(h:SzN o){m:MsgT}(hm:SzM m):SzM (Q9 o x m):=⟨Nat.zero_le _,h.got,hm.list,lC _ _,Nat.le_trans (eI _) (by decide)⟩
theorem J3{x:NodeT}{m:MsgT}(hz:SzN x)(hm:SzM m)(R:RecOk x m):RecSz x (jP x m):=by
 unfold jP
 cases hf:jU x m with
 | true=>exact⟨hz,by show cnS K38 x<=_;omega,Nat.le_refl _,xX (IZ hz _ _ _)⟩
 | false=>
  have h1:=PQ hz R.node m
  have h2:=vR (withS x (gG x m)) m
  have h3:=D1 x (ss:=gG x m) (by
   unfold gG nS jF
   cases decide (cW x.sess m.2.1 true>=0)with
   | true=>show(List.set _ _ _).length<=_;rw[List.length_set];omega
   | false=>show(x.sess++[_]).length<=_;rw[List.length_append];exact Nat.le_refl _)
  exact⟨h1,by show cnS K38 (GF x m)<=_;unfold GF;omega,Nat.le_refl _,xX (J2 h1 m)⟩
theorem J4{x:NodeT}{m:MsgT}(hz:SzN x)(hm:SzM m)(k:Nat):RecSz x (mE x m k):=by
 have h1:=z8 hz k
 have h2:=N6 x k
 have h3:=iY h1 m
 have h4:=xM (jJ x k) m
 unfold mE
 cases m.1==5 with
 | true=>exact⟨h1,by show cnS K38 (jJ x k)<=_;omega,Nat.zero_le _,zM⟩
 | false=>
  cases m.1==4 with
  | true=>exact⟨h3,by show cnS K38 (c7 (jJ x k) m)<=_;omega,Nat.zero_le _,zM⟩
  | false=>exact⟨h3,by show cnS K38 (c7 (jJ x k) m)<=_;omega,Nat.le_refl _,xX (NR h3 hm)⟩
theorem DC{x:NodeT}{m:MsgT}(hz:SzN x)(hm:SzM m):RecSz x (cC x m):=by
 unfold cC
 cases ho:hX x m with
 | false=>exact⟨hz,by show cnS K38 x<=_;omega,Nat.zero_le _,zM⟩
 | true=>
  have R:=y7 ho
  show RecSz x (sN x m)
  unfold sN
  have h3:=iY hz m
  have h4:=xM x m
  have h5:=gZ hz m
  have h6:=vR x m
  cases m.1==0 with
  | true=>exact⟨h3,by show cnS K38 (c7 x m)<=_;omega,Nat.le_refl _,xX (IZ h3 _ _ _)⟩
  | false=>
   cases m.1==1 with
   | true=>exact⟨h5,by show cnS K38 (cF x m)<=_;omega,Nat.zero_le _,zM⟩
   | false=>
    cases m.1==2 with
    | true=>exact J3 hz hm R
    | false=>
     cases decide (sA x m (m.1==4)<0)with
     | true=>exact⟨hz,by show cnS K38 x<=_;omega,Nat.zero_le _,zM⟩
     | false=>exact J4 hz hm _
end Go.Abs.Xz
set_option maxHeartbeats 4000000
namespace Go.Abs.Xz
open Go Go.Abs
def nX:Option MsgT->Out
 | none=>⟨[⟨K43,NB⟩,⟨K4,(false,())⟩],[]⟩
 | some m=>⟨[⟨K43,m⟩,⟨K4,(true,())⟩],[]⟩
def prA(x:Int×RdT):Rows [K3]×Rows [K180]:=(((x.1,()),()),(x.2,()))
def prN(x:List aH×RdT):Rows [K28]×Rows [K180]:=(((x.1,()),()),(x.2,()))
def xP(x:Int×RdT):Rows [K3]×Rows [K267]:=(((x.1,()),()),(x.2,()))
def GR(x:List aH×RdT):Rows [K28]×Rows [K267]:=(((x.1,()),()),(x.2,()))
def QA(s:aD)(k:Bool):Rows [K27,K4]×Rows []:=((s,(k,()),()),())
theorem MB(o:Option aD):mO o=⟨[⟨K27,o.getD iC⟩,⟨K4,(o.isSome,())⟩],[]⟩:=by cases o<;>rfl
theorem QS(b:List aH):SzS ((bS b).getD iC):=by
 cases h:bS b with
 | none=>exact nW
 | some s=>exact GT (tP h)
theorem rng{a b c d:Prop}[Decidable a][Decidable b](h1:a)(h2:b):(decide a&&decide b)=true:=by rw[decide_eq_true h1,decide_eq_true h2];rfl
theorem f35(b:List aH)(hb:B8 b)(hl:b.length<=aN):Ran p 6 35 [vf K22 (b,())] (nX (dE b)):=go35 λn hn=>by
 have hs:b.length<=1048576:=hl
 by_cases h2:i64.wrap ((b.length:Int) - 4)<2
 ·exact Ev.now λaA=>by unfold T35;refine qP h2 ?_;rw[show dE b=none by unfold dE;rw[decide_eq_true h2];rfl];rfl
 have h6:6<=b.length:=by rw[IntKind.wrap_i64] at h2;omega
 have e4:i64.wrap ((b.length:Int) - 4)=((b.length - 4:Nat):Int):=by rw[IntKind.wrap_i64];omega
 have hlen2:decide (i64.wrap ((b.length:Int) - 4)<2)=false:=decide_eq_false h2
 have ha:(decide ((0:Int)<=2)&&decide ((2:Int)<=(b.length:Int)))=true:=rng (c:=True) (d:=True) (by omega) (by omega)
 have hc4:(decide ((0:Int)<=((b.length - 4:Nat):Int))&&decide (((b.length - 4:Nat):Int)<=(b.length:Int)))=true:=rng (c:=True) (d:=True) (by omega) (by omega)
 cases hk:bN (b.take 2) rk2 with
 | false=>
  exact Ev.now λaA=>by
   unfold T35;refine qN h2 ?_;refine qT ha ?_;refine qT (show(!bN (b.take 2) rk2)=true by rw[hk];rfl) ?_
   rw[show dE b=none by unfold dE;rw[hlen2,hk];rfl];rfl
 | true=>
 have hr:=Q8 hb hl h6
 have G:=Q7 TJ hr
 have lo:=G.e.lo;have hi:=G.e.hi;have nn:=G.nn
 rw[G.list] at hi
 have hlen:(mR b).1.length=b.length - 4:=by show(b.take (b.length - 4)).length=_;rw[List.length_take];omega
 rw[hlen] at hi
 have head:∀ {R:Option Out} (aA:Nat),(bif(mgE NI (mR b)).2.2.2.1 then some (nX none)else bif decide ((mgE NI (mR b)).1>i64.wrap (((b.length - 4:Nat):Int) - (mgE NI (mR b)).2.2.1))then some (nX none)else
   bif decide (0<=i64.wrap ((mgE NI (mR b)).2.2.1+(mgE NI (mR b)).1))&&decide (i64.wrap ((mgE NI (mR b)).2.2.1+(mgE NI (mR b)).1)<=(b.length:Int))then
   bif decide (0<=(mgE NI (mR b)).2.2.1)&&decide ((mgE NI (mR b)).2.2.1<=(((i64.wrap ((mgE NI (mR b)).2.2.1+(mgE NI (mR b)).1)).toNat:Nat):Int))then
   (((aL p n) 133 [vf K22 (((b.take (i64.wrap ((mgE NI (mR b)).2.2.1+(mgE NI (mR b)).1)).toNat).drop (mgE NI (mR b)).2.2.1.toNat),())]).bind (cS [K27,K4] [])).bind λo11=>(bif !(vB o11.1.2.1.1)then some (nX none)else
   (((aL p n) 134 [.ref ⟨K180,((mgE NI (mR b)).2.1,i64.wrap ((mgE NI (mR b)).2.2.1+(mgE NI (mR b)).1),(mgE NI (mR b)).2.2.2.1,())⟩, vf K3 ((5:Int),())]).bind (cS [K3] [K180])).bind λo12=>
    iter (c35_25 (aL p n) aA b (prA (aI (rdK (mR b) 0))) o11 o12 (prA (aI (rdK (mR b) 1))) (prA (aI (rdK (mR b) 2))) (prA (aI (rdK (mR b) 3))) (prA (aI (rdK (mR b) 4))) (prN (mgA NI (mR b))) (prA (mgB NI (mR b))) (prN (mgC NI (mR b))) (prN (mgD NI (mR b)))) aA ((0:Int),(@vL K5 o12.2.1.1),(vI o12.2.1.2.1),(vB o12.2.1.2.2.1),([]:List aK)))
   else none else none)=R->T35 (aL p n) aA b=R:=by
  intro R aA hR
  unfold T35;refine qN h2 ?_;refine qT ha ?_;refine qF (show(!bN (b.take 2) rk2)=false by rw[hk];rfl) ?_
  rw[show i64.wrap (((List.length (α:=Row K5) b:Nat):Int) - 4)=((b.length - 4:Nat):Int)from e4];refine qT hc4 ?_
  refine qR (f131 (rdK (mR b) 0) (hr.k 0)) ?_;refine qR (f131 (rdK (mR b) 1) (hr.k 1)) ?_;refine qR (f131 (rdK (mR b) 2) (hr.k 2)) ?_;refine qR (f131 (rdK (mR b) 3) (hr.k 3)) ?_;refine qR (f131 (rdK (mR b) 4) (hr.k 4)) ?_
  refine qR (f132 (rdK (mR b) 5) 4 (hr.k 5) (by omega)) ?_;refine qR (f131 (mgA NI (mR b)).2 G.a) ?_;refine qR (f132 (mgB NI (mR b)).2 5 G.b (by omega)) ?_;refine qR (f132 (mgC NI (mR b)).2 4 G.c (by omega)) ?_;refine qR (f131 (mgD NI (mR b)).2 G.d) ?_
  exact hR
 have un:lB NI (mR b)=true->dE b=none:=λh=>by unfold dE;rw[hlen2,hk,h];rfl
 have hbadE:lB NI (mR b)=((mgE NI (mR b)).2.2.2.1||decide ((mgE NI (mR b)).1>((b.length - 4:Nat):Int) - (mgE NI (mR b)).2.2.1)):=by unfold lB;rw[G.list,hlen]
 have ew:i64.wrap (((b.length - 4:Nat):Int) - (mgE NI (mR b)).2.2.1)=((b.length - 4:Nat):Int) - (mgE NI (mR b)).2.2.1:=by rw[IntKind.wrap_i64];omega
 have ep:i64.wrap ((mgE NI (mR b)).2.2.1+(mgE NI (mR b)).1)=(mgE NI (mR b)).2.2.1+(mgE NI (mR b)).1:=by rw[IntKind.wrap_i64];omega
 cases hE:(mgE NI (mR b)).2.2.2.1 with
 | true=>
  have:=un (by rw[hbadE,hE];rfl)
  exact Ev.now λaA=>head aA (by rw[hE,this];rfl)
 | false=>
 by_cases hgt:(mgE NI (mR b)).1>((b.length - 4:Nat):Int) - (mgE NI (mR b)).2.2.1
 ·have:=un (by rw[hbadE,hE,decide_eq_true hgt];rfl)
  exact Ev.now λaA=>head aA (by rw[hE,ew,decide_eq_true hgt,this];rfl)
 have hbad:lB NI (mR b)=false:=by rw[hbadE,hE,decide_eq_false hgt];rfl
 have hR:=NE G hbad
 have hp:(b.take ((mgE NI (mR b)).2.2.1+(mgE NI (mR b)).1).toNat).drop (mgE NI (mR b)).2.2.1.toNat=eP NI (mR b):=by
  unfold eP;rw[G.list]
  show _=((b.take (b.length - 4)).take _).drop _
  rw[List.take_take,Nat.min_eq_left (by omega)]
 have hpb:ByL (eP NI (mR b)):=by rw[<- hp];exact hb.byL.sub λx hx=>List.mem_of_mem_take (List.mem_of_mem_drop hx)
 have hpl:(eP NI (mR b)).length<=aN:=by rw[<- hp,List.length_drop,List.length_take];show _<=1048576;omega
 have i1:(decide (0<=(mgE NI (mR b)).2.2.1+(mgE NI (mR b)).1)&&decide ((mgE NI (mR b)).2.2.1+(mgE NI (mR b)).1<=(b.length:Int)))=true:=rng (c:=True) (d:=True) (by omega) (by omega)
 have i2:(decide (0<=(mgE NI (mR b)).2.2.1)&&decide ((mgE NI (mR b)).2.2.1<=((((mgE NI (mR b)).2.2.1+(mgE NI (mR b)).1).toNat:Nat):Int)))=true:=rng (c:=True) (d:=True) (by omega) (by omega)
 have hg:=f133 (eP NI (mR b)) hpb.b8 hpl
 cases hst:bS (eP NI (mR b))with
 | none=>
  have e:dE b=none:=by unfold dE;rw[hlen2,hk,hbad,hst];rfl
  rw[hst,<- hp] at hg
  exact Ev.now λaA=>head aA (by
   rw[hE,ew,ep,decide_eq_false hgt,e];refine qf ?_;refine qf ?_;refine qT i1 ?_;refine qT i2 ?_;refine qD hg ?_;rfl)
 | some s=>
 rw[hst,<- hp] at hg
 have hso:=tP hst
 have e:dE b=bif(miF b).2.2.2.1||(!dM (miM b s)|| !bN (aY (miM b s)) b)then none else some (miM b s):=by unfold dE;rw[hlen2,hk,hbad,hst];rfl
 have rC:RdOk (miC b).2:=hR.cnt 5
 have rG:∀ k,RdOk (cD dJ (miC b).2 k).2:=mX (f:=dJ) (λr h=>RdOk.floor h) rC
 have bC:0<=(miC b).1/\(miC b).1<=5:=pR _ (by decide)
 have lF:(miF b).1.length<=5:=by unfold miF;rw[gY];omega
 have hz:SzM (miM b s):=NF G (GT hso) (by omega)
 have inn:It (λaA (_:Unit)=>c35_25 (aL p n) aA b (prA (aI (rdK (mR b) 0))) (QA s true) (prA (miC b)) (prA (aI (rdK (mR b) 1))) (prA (aI (rdK (mR b) 2))) (prA (aI (rdK (mR b) 3))) (prA (aI (rdK (mR b) 4))) (prN (mgA NI (mR b))) (prA (mgB NI (mR b))) (prN (mgC NI (mR b))) (prN (mgD NI (mR b)))) (rdF 0 (cD dJ (miC b).2 0)) (λ_=>some (nX (dE b))):=by
  refine It.run (λk=>rdF k (cD dJ (miC b).2 k)) (miC b).1.toNat (λk hk aA u rec=>?_) (It.stop λaA u rec=>?_)
  ·have hln:=gY dJ (miC b).2 k
   have hbd:(cD dJ (miC b).2 k).1.length+1<=bound:=by unfold bound;omega
   show c35_25 (aL p n) aA b (prA (aI (rdK (mR b) 0))) (QA s true) (prA (miC b)) (prA (aI (rdK (mR b) 1))) (prA (aI (rdK (mR b) 2))) (prA (aI (rdK (mR b) 3))) (prA (aI (rdK (mR b) 4))) (prN (mgA NI (mR b))) (prA (mgB NI (mR b))) (prN (mgC NI (mR b))) (prN (mgD NI (mR b))) rec (rdF k (cD dJ (miC b).2 k))=rec (rdF (k+1) (cD dJ (miC b).2 (k+1)))
   unfold c35_25 rdF;dsimp only;rw[aF (show k<9223372036854775807 by omega)];refine qP (show(k:Int)<(miC b).1 by omega) ?_;refine qR (f131 (cD dJ (miC b).2 k).2 (rG k)) ?_;refine qR (f131 (aI (cD dJ (miC b).2 k).2).2 (rG k).num) ?_;refine qP hbd ?_;rfl
  ·show c35_25 (aL p n) aA b (prA (aI (rdK (mR b) 0))) (QA s true) (prA (miC b)) (prA (aI (rdK (mR b) 1))) (prA (aI (rdK (mR b) 2))) (prA (aI (rdK (mR b) 3))) (prA (aI (rdK (mR b) 4))) (prN (mgA NI (mR b))) (prA (mgB NI (mR b))) (prN (mgC NI (mR b))) (prN (mgD NI (mR b))) rec (rdF (miC b).1.toNat (miF b))=_
   unfold c35_25 rdF;dsimp only;refine qN (show ¬ ((((miC b).1.toNat:Nat):Int)<(miC b).1) by omega) ?_
   cases hbd:(miF b).2.2.2.1 with
   | true=>refine qt ?_;rw[show dE b=none by rw[e,hbd];rfl];rfl
   | false=>
    refine qf ?_;refine qC (f30 (miM b s) hz) ?_
    cases hm:dM (miM b s)with
    | false=>refine qt ?_;rw[show dE b=none by rw[e,hbd,hm];rfl];rfl
    | true=>
     refine qf ?_;refine qC (f36 (miM b s) hz) ?_;refine qC (f135 (aY (miM b s)) b) ?_
     cases he:bN (aY (miM b s)) b with
     | false=>refine qt ?_;rw[show dE b=none by rw[e,hbd,hm,he];rfl];rfl
     | true=>refine qf ?_;rw[show dE b=some (miM b s) by rw[e,hbd,hm,he];rfl];rfl
 have hcn:Ran p 3 134 [.ref ⟨K180,((mgE NI (mR b)).2.1,(mgE NI (mR b)).2.2.1+(mgE NI (mR b)).1,false,())⟩, vf K3 ((5:Int),())] ⟨[⟨K3,((miC b).1,())⟩],[⟨K180,(miC b).2⟩]⟩:=by
  have h:=f134 (mgR NI (mR b)) 5 hR
  rw[show mgR NI (mR b)=((mgE NI (mR b)).2.1,(mgE NI (mR b)).2.2.1+(mgE NI (mR b)).1,false,()) by unfold mgR;rw[hE]] at h
  rw[show miC b=eA ((mgE NI (mR b)).2.1,(mgE NI (mR b)).2.2.1+(mgE NI (mR b)).1,false,()) 5 by unfold miC mgR;rw[hE]]
  exact h
 exact Ev.eq (λaA=>head aA (by
  rw[hE,ew,ep,decide_eq_false hgt];refine qf ?_;refine qf ?_;refine qT i1 ?_;refine qT i2 ?_;refine qD hg ?_;refine qf ?_
  refine qR hcn ?_;rfl)) (inn.ev (i:=()) rfl)
end Go.Abs.Xz
set_option maxHeartbeats 4000000
namespace Go.Abs.Xz
open Go Go.Abs
theorem f130(b:List aH)(hb:B8 b)(hl:b.length<=aN):Ran p 7 130 [vf K22 (b,())] (nX (dE b)):=go130 λn hn=>by
 rw[<- QH hb.byL]
 have hs:b.length<=1048576:=hl
 by_cases h2:(b.length:Int)<6
 ·exact Ev.now λaA=>by unfold T130;refine qP h2 ?_;rw[show fD b=none by unfold fD;rw[decide_eq_true h2];rfl];rfl
 have h6:6<=b.length:=by omega
 have e4:i64.wrap ((b.length:Int) - 4)=((b.length - 4:Nat):Int):=by rw[IntKind.wrap_i64];omega
 have hlen2:decide ((b.length:Int)<6)=false:=decide_eq_false h2
 have hc4:(decide ((0:Int)<=((b.length - 4:Nat):Int))&&decide (((b.length - 4:Nat):Int)<=(b.length:Int)))=true:=rng (c:=True) (d:=True) (by omega) (by omega)
 have hr:=Q8 hb hl h6
 have hbt:ByL (b.take (b.length - 4)):=hb.byL.sub λx hx=>List.mem_of_mem_take hx
 have hlt:(b.take (b.length - 4)).length<=aN:=by rw[List.length_take];show _<=1048576;omega
 have hsum:=f265 (b.take (b.length - 4)) hbt hlt
 have eT:List.drop (α:=Row K5) ((b.length - 4:Nat):Int).toNat (List.take (α:=Row K5) b.length b)=b.drop (b.length - 4):=by
  show List.drop ((b.length - 4:Nat):Int).toNat (List.take b.length b)=b.drop (b.length - 4)
  rw[List.take_length,Int.toNat_natCast]
 cases hk:bN (pL (b.take (b.length - 4))) (b.drop (b.length - 4))with
 | false=>
  exact Ev.now λaA=>by
   unfold T130;refine qN h2 ?_;rw[show i64.wrap (((List.length (α:=Row K5) b:Nat):Int) - 4)=((b.length - 4:Nat):Int)from e4];refine qT hc4 ?_;refine qC hsum ?_;refine qT hc4 ?_
   refine qT (show(!bN (pL (b.take (b.length - 4))) (List.drop (α:=Row K5) ((b.length - 4:Nat):Int).toNat (List.take (α:=Row K5) b.length b)))=true by rw[eT,hk];rfl) ?_
   rw[show fD b=none by unfold fD;rw[hlen2,hk];rfl];rfl
 | true=>
 have G:=Q7 TI hr
 have lo:=G.e.lo;have hi:=G.e.hi;have nn:=G.nn
 have hlen:(mR b).1.length=b.length - 4:=by show(b.take (b.length - 4)).length=_;rw[List.length_take];omega
 have hle:(mgE NS (mR b)).2.1.length=b.length - 4:=by rw[G.list];exact hlen
 have head:∀ {R:Option Out} (aA:Nat),(bif(mgE NS (mR b)).2.2.2.1 then some (nX none)else bif decide ((mgE NS (mR b)).1>i64.wrap ((((mgE NS (mR b)).2.1.length:Nat):Int) - (mgE NS (mR b)).2.2.1))then some (nX none)else
   bif decide (0<=i64.wrap ((mgE NS (mR b)).2.2.1+(mgE NS (mR b)).1))&&decide (i64.wrap ((mgE NS (mR b)).2.2.1+(mgE NS (mR b)).1)<=(((mgE NS (mR b)).2.1.length:Nat):Int))then
   bif decide (0<=(mgE NS (mR b)).2.2.1)&&decide ((mgE NS (mR b)).2.2.1<=(((i64.wrap ((mgE NS (mR b)).2.2.1+(mgE NS (mR b)).1)).toNat:Nat):Int))then
   (((aL p n) 268 [vf K22 ((((mgE NS (mR b)).2.1.take (i64.wrap ((mgE NS (mR b)).2.2.1+(mgE NS (mR b)).1)).toNat).drop (mgE NS (mR b)).2.2.1.toNat),())]).bind (cS [K27,K4] [])).bind λo12=>
   (((aL p n) 267 [.ref ⟨K267,((mgE NS (mR b)).2.1,i64.wrap ((mgE NS (mR b)).2.2.1+(mgE NS (mR b)).1),(mgE NS (mR b)).2.2.2.1,())⟩, vf K3 ((2:Int),())]).bind (cS [K28] [K267])).bind λo13=>
    iter (c130_22 (aL p n) aA b (GR (mgD NS (mR b))) o12 o13 (xP (aI (rdK (mR b) 0))) (xP (aI (rdK (mR b) 1))) (xP (aI (rdK (mR b) 2))) (xP (aI (rdK (mR b) 3))) (xP (aI (rdK (mR b) 4))) (GR (mgA NS (mR b))) (xP (mgB NS (mR b))) (GR (mgC NS (mR b)))) aA ((0:Int),([]:List aK))
   else none else none)=R->T130 (aL p n) aA b=R:=by
  intro R aA hR
  unfold T130;refine qN h2 ?_;rw[show i64.wrap (((List.length (α:=Row K5) b:Nat):Int) - 4)=((b.length - 4:Nat):Int)from e4];refine qT hc4 ?_;refine qC hsum ?_;refine qT hc4 ?_
  refine qF (show(!bN (pL (b.take (b.length - 4))) (List.drop (α:=Row K5) ((b.length - 4:Nat):Int).toNat (List.take (α:=Row K5) b.length b)))=false by rw[eT,hk];rfl) ?_
  refine qT hc4 ?_
  refine qR (f266 (rdK (mR b) 0) (hr.k 0)) ?_;refine qR (f266 (rdK (mR b) 1) (hr.k 1)) ?_;refine qR (f266 (rdK (mR b) 2) (hr.k 2)) ?_;refine qR (f266 (rdK (mR b) 3) (hr.k 3)) ?_;refine qR (f266 (rdK (mR b) 4) (hr.k 4)) ?_
  refine qR (f267 (rdK (mR b) 5) 1 1 rfl (hr.k 5) (by omega)) ?_;refine qR (f266 (mgA NS (mR b)).2 G.a) ?_;refine qR (f267 (mgB NS (mR b)).2 1 1 rfl G.b (by omega)) ?_;refine qR (f267 (mgC NS (mR b)).2 1 1 rfl G.c (by omega)) ?_;refine qR (f266 (mgD NS (mR b)).2 G.d) ?_
  exact hR
 have un:lB NS (mR b)=true->fD b=none:=λh=>by unfold fD;rw[hlen2,hk,h];rfl
 have hbadE:lB NS (mR b)=((mgE NS (mR b)).2.2.2.1||decide ((mgE NS (mR b)).1>(((mgE NS (mR b)).2.1.length:Nat):Int) - (mgE NS (mR b)).2.2.1)):=rfl
 have ew:i64.wrap ((((mgE NS (mR b)).2.1.length:Nat):Int) - (mgE NS (mR b)).2.2.1)=(((mgE NS (mR b)).2.1.length:Nat):Int) - (mgE NS (mR b)).2.2.1:=by rw[IntKind.wrap_i64];omega
 have ep:i64.wrap ((mgE NS (mR b)).2.2.1+(mgE NS (mR b)).1)=(mgE NS (mR b)).2.2.1+(mgE NS (mR b)).1:=by rw[IntKind.wrap_i64];omega
 cases hE:(mgE NS (mR b)).2.2.2.1 with
 | true=>
  have:=un (by rw[hbadE,hE];rfl)
  exact Ev.now λaA=>head aA (by rw[hE,this];rfl)
 | false=>
 by_cases hgt:(mgE NS (mR b)).1>(((mgE NS (mR b)).2.1.length:Nat):Int) - (mgE NS (mR b)).2.2.1
 ·have:=un (by rw[hbadE,hE,decide_eq_true hgt];rfl)
  exact Ev.now λaA=>head aA (by rw[hE,ew,decide_eq_true hgt,this];rfl)
 have hbad:lB NS (mR b)=false:=by rw[hbadE,hE,decide_eq_false hgt];rfl
 have hR:=NE G hbad
 have hpb:ByL (eP NS (mR b)):=G.e.b8.byL.sub λx hx=>List.mem_of_mem_take (List.mem_of_mem_drop hx)
 have hpl:(eP NS (mR b)).length<=aN:=by unfold eP;rw[List.length_drop,List.length_take];show _<=1048576;omega
 have i1:(decide (0<=(mgE NS (mR b)).2.2.1+(mgE NS (mR b)).1)&&decide ((mgE NS (mR b)).2.2.1+(mgE NS (mR b)).1<=(((mgE NS (mR b)).2.1.length:Nat):Int)))=true:=rng (c:=True) (d:=True) (by omega) (by omega)
 have i2:(decide (0<=(mgE NS (mR b)).2.2.1)&&decide ((mgE NS (mR b)).2.2.1<=((((mgE NS (mR b)).2.2.1+(mgE NS (mR b)).1).toNat:Nat):Int)))=true:=rng (c:=True) (d:=True) (by omega) (by omega)
 have hg:=f268 (eP NS (mR b)) hpb.b8 hpl
 rw[JT hpb,MB] at hg
 have hz0:=QS (eP NS (mR b))
 have e:fD b=bif(bS (eP NS (mR b))).isNone||((msF b).2.2.2.1||(!dM (msM b)|| !bN (aY (msM b)) b))then none else some (msM b):=by unfold fD;rw[hlen2,hk,hbad];rfl
 have hz:SzM (msM b):=NF G hz0 (I9 _)
 have hm2:=rD (mgR NS (mR b)) 2
 have inn:It (λaA (_:Unit)=>c130_22 (aL p n) aA b (GR (mgD NS (mR b))) (QA ((bS (eP NS (mR b))).getD iC) (bS (eP NS (mR b))).isSome) (GR (cK (mgR NS (mR b)) 2)) (xP (aI (rdK (mR b) 0))) (xP (aI (rdK (mR b) 1))) (xP (aI (rdK (mR b) 2))) (xP (aI (rdK (mR b) 3))) (xP (aI (rdK (mR b) 4))) (GR (mgA NS (mR b))) (xP (mgB NS (mR b))) (GR (mgC NS (mR b)))) ((0:Int),([]:List aK)) (λ_=>some (nX (fD b))):=by
  refine It.run (λk=>(((2*k:Nat):Int),iT (cK (mgR NS (mR b)) 2).1 k)) ((cK (mgR NS (mR b)) 2).1.length / 2) (λk hk aA u rec=>?_) (It.stop λaA u rec=>?_)
  ·have h1:2*k<(cK (mgR NS (mR b)) 2).1.length:=by omega
   have h2:2*k+1<(cK (mgR NS (mR b)) 2).1.length:=by omega
   have e1:i64.wrap (((2*k:Nat):Int)+1)=((2*k+1:Nat):Int):=by rw[IntKind.wrap_i64];omega
   have e2:i64.wrap (((2*k:Nat):Int)+2)=((2*(k+1):Nat):Int):=by rw[IntKind.wrap_i64];omega
   have hbd:(iT (cK (mgR NS (mR b)) 2).1 k).length+1<=bound:=by rw[sO];unfold bound;omega
   unfold c130_22;dsimp only;rw[e1,e2,wW];refine ql h2 ?_;refine qz ?_;refine(aE h1).trans ?_;refine(aE h1).trans ?_;refine qz ?_;refine(aE h2).trans ?_;refine(aE h2).trans ?_;refine qP hbd ?_;rfl
  ·have e1:i64.wrap ((((2*((cK (mgR NS (mR b)) 2).1.length / 2):Nat)):Int)+1)=((2*((cK (mgR NS (mR b)) 2).1.length / 2)+1:Nat):Int):=by rw[IntKind.wrap_i64];omega
   unfold c130_22;dsimp only;rw[e1];refine qN (show ¬ (((2*((cK (mgR NS (mR b)) 2).1.length / 2)+1:Nat):Int)<(((cK (mgR NS (mR b)) 2).1.length:Nat):Int)) by omega) ?_
   cases hso:(bS (eP NS (mR b))).isSome with
   | false=>refine qt ?_;rw[show fD b=none by rw[e,show(bS (eP NS (mR b))).isNone=true by rw[<- Option.not_isSome,hso];rfl];rfl];rfl
   | true=>
    have hno:(bS (eP NS (mR b))).isNone=false:=by rw[<- Option.not_isSome,hso];rfl
    refine qf ?_
    cases hbd:(msF b).2.2.2.1 with
    | true=>refine qT hbd ?_;rw[show fD b=none by rw[e,hno,hbd];rfl];rfl
    | false=>
     refine qF hbd ?_;refine qC (f113 (msM b) hz) ?_
     cases hm:dM (msM b)with
     | false=>refine qt ?_;rw[show fD b=none by rw[e,hno,hbd,hm];rfl];rfl
     | true=>
      refine qf ?_;refine qC (f127 (msM b) hz) ?_
      cases he:bN (aY (msM b)) b with
      | false=>refine qT (show(!bN (aY (msM b)) b)=true by rw[he];rfl) ?_;rw[show fD b=none by rw[e,hno,hbd,hm,he];rfl];rfl
      | true=>refine qF (show(!bN (aY (msM b)) b)=false by rw[he];rfl) ?_;rw[show fD b=some (msM b) by rw[e,hno,hbd,hm,he];rfl];rfl
 have hcn:Ran p 3 267 [.ref ⟨K267,((mgE NS (mR b)).2.1,(mgE NS (mR b)).2.2.1+(mgE NS (mR b)).1,false,())⟩, vf K3 ((2:Int),())] (rE (cK (mgR NS (mR b)) 2)):=by
  have h:=f267 (mgR NS (mR b)) 2 2 rfl hR (by omega)
  rw[show mgR NS (mR b)=((mgE NS (mR b)).2.1,(mgE NS (mR b)).2.2.1+(mgE NS (mR b)).1,false,()) by unfold mgR;rw[hE]] at h ⊢
  exact h
 exact Ev.eq (λaA=>head aA (by
  rw[hE,ew,ep,decide_eq_false hgt];refine qf ?_;refine qf ?_;refine qT i1 ?_;refine qT i2 ?_;refine qD hg ?_;refine qR hcn ?_;rfl)) (inn.ev (i:=()) rfl)
-- receiving bytes
def j8(x:NodeT)(b:List aH):NodeT×List bH×Int:=match dE b with
 | none=>(x,[],1)
 | some m=>((cC x m).1,(cC x m).2.1.map (λa=>(aY a,())),(cC x m).2.2)
def IU(r:NodeT×List bH×Int):Out:=⟨[⟨K38,r.1⟩,⟨K62,(r.2.1,())⟩,⟨K3,(r.2.2,())⟩],[]⟩
theorem mG{x:NodeT}{b:List aH}(h:dE b=none):j8 x b=(x,[],1):=by unfold j8;rw[h]
theorem mF{x:NodeT}{b:List aH}{m:MsgT}(h:dE b=some m):j8 x b=((cC x m).1,(cC x m).2.1.map (λa=>(aY a,())),(cC x m).2.2):=by unfold j8;rw[h]
theorem f33(x:NodeT)(b:List aH)(hz:SzN x)(hb:B8 b)(hl:b.length<=aN):Ran p 12 33 [va K38 x, vf K22 (b,())] (IU (j8 x b)):=go33 λn hn=>by
 have hg:=f35 b hb hl
 cases hm:dE b with
 | none=>
  rw[hm] at hg
  exact Ev.now λaA=>by unfold T33;refine qD hg ?_;refine qt ?_;refine qC (f81 x hz) ?_;rw[mG hm];rfl
 | some m=>
  rw[hm] at hg
  have zm:=zO hm
  have rs:=DC hz zm
  have hrc:=f22 x m hz zm
  have lp:It (λaA (_:Unit)=>c33_7 (aL p n) aA (((cC x m).1,((cC x m).2.1,()),((cC x m).2.2,()),()),())) ((0:Int),([]:List bH)) (λ_=>some (IU (j8 x b))):=by
   refine It.run (λi=>((i:Int),((cC x m).2.1.take i).map (λa=>((aY a,()):bH)))) (cC x m).2.1.length (λi hi aA u rec=>?_) (It.stop λaA u rec=>?_)
   ·have hbd:(((cC x m).2.1.take i).map (λa=>((aY a,()):bH))).length+1<=bound:=by have:=rs.len;rw[List.length_map,List.length_take];unfold bound;omega
    have e:((cC x m).2.1.take (i+1)).map (λa=>((aY a,()):bH))=((cC x m).2.1.take i).map (λa=>((aY a,()):bH))++[(aY (gt (cC x m).2.1 i),())]:=by rw[kN hi,List.map_append];rfl
    show c33_7 (aL p n) aA (((cC x m).1,((cC x m).2.1,()),((cC x m).2.2,()),()),()) rec ((i:Int),((cC x m).2.1.take i).map (λa=>((aY a,()):bH)))=rec (((i+1:Nat):Int),((cC x m).2.1.take (i+1)).map (λa=>((aY a,()):bH)))
    rw[e]
    unfold c33_7;dsimp only;rw[aF (show i<9223372036854775807 by have:=rs.len;omega)];refine ql hi ?_;refine qz ?_;refine(aE hi).trans ?_;refine(aE hi).trans ?_;refine qC (f36 (gt (cC x m).2.1 i) (rs.msg _ (cR hi))) ?_;refine qP hbd ?_;rfl
   ·show c33_7 (aL p n) aA (((cC x m).1,((cC x m).2.1,()),((cC x m).2.2,()),()),()) rec (((cC x m).2.1.length:Int),((cC x m).2.1.take (cC x m).2.1.length).map (λa=>((aY a,()):bH)))=_
    rw[List.take_length,mF hm]
    unfold c33_7;dsimp only;refine qe ?_;rfl
  exact Ev.eq (λaA=>by unfold T33;refine qD hg ?_;refine qf ?_;refine qE hrc ?_;rfl) (lp.ev (i:=()) rfl)
theorem f34(x:NodeT)(b:List aH)(hz:SzN x)(hb:B8 b)(hl:b.length<=aN):Ran p 11 34 [va K38 x, vf K22 (b,())] (IU (j8 x b)):=go34 λn hn=>by
 have hg:=f130 b hb hl
 cases hm:dE b with
 | none=>
  rw[hm] at hg
  exact Ev.now λaA=>by unfold T34;refine qD hg ?_;refine qt ?_;refine qC (f85 x hz) ?_;rw[mG hm];rfl
 | some m=>
  rw[hm] at hg
  have zm:=zO hm
  have rs:=DC hz zm
  have hrc:=f27 x m hz zm
  have lp:It (λaA (_:Unit)=>c34_7 (aL p n) aA (((cC x m).1,((cC x m).2.1,()),((cC x m).2.2,()),()),())) ((0:Int),([]:List bH)) (λ_=>some (IU (j8 x b))):=by
   refine It.run (λi=>((i:Int),((cC x m).2.1.take i).map (λa=>((aY a,()):bH)))) (cC x m).2.1.length (λi hi aA u rec=>?_) (It.stop λaA u rec=>?_)
   ·have hbd:(((cC x m).2.1.take i).map (λa=>((aY a,()):bH))).length+1<=bound:=by have:=rs.len;rw[List.length_map,List.length_take];unfold bound;omega
    have e:((cC x m).2.1.take (i+1)).map (λa=>((aY a,()):bH))=((cC x m).2.1.take i).map (λa=>((aY a,()):bH))++[(aY (gt (cC x m).2.1 i),())]:=by rw[kN hi,List.map_append];rfl
    show c34_7 (aL p n) aA (((cC x m).1,((cC x m).2.1,()),((cC x m).2.2,()),()),()) rec ((i:Int),((cC x m).2.1.take i).map (λa=>((aY a,()):bH)))=rec (((i+1:Nat):Int),((cC x m).2.1.take (i+1)).map (λa=>((aY a,()):bH)))
    rw[e]
    unfold c34_7;dsimp only;rw[aF (show i<9223372036854775807 by have:=rs.len;omega)];refine ql hi ?_;refine qz ?_;refine(aE hi).trans ?_;refine(aE hi).trans ?_;refine qC (f127 (gt (cC x m).2.1 i) (rs.msg _ (cR hi))) ?_;refine qP hbd ?_;rfl
   ·show c34_7 (aL p n) aA (((cC x m).1,((cC x m).2.1,()),((cC x m).2.2,()),()),()) rec (((cC x m).2.1.length:Int),((cC x m).2.1.take (cC x m).2.1.length).map (λa=>((aY a,()):bH)))=_
    rw[List.take_length,mF hm]
    unfold c34_7;dsimp only;refine qe ?_;rfl
  exact Ev.eq (λaA=>by unfold T34;refine qD hg ?_;refine qf ?_;refine qE hrc ?_;rfl) (lp.ev (i:=()) rfl)
end Go.Abs.Xz
namespace Go.Abs.Xz
open Go Go.Abs
theorem yY(i:Int)(e:bD):∃ b:Bool,Ran p 4 373 [vf K3 (i,()), va K161 e] ⟨[⟨K27,zG i e⟩,⟨K4,(b,())⟩],[]⟩:=by
 have hs:=f227 ([(i,e)],[],()) (by show 1<=9223372036854775807;omega) (by show 0<=9223372036854775807;omega)
 unfold zG
 cases ho:aJ ([(i,e)],[],())with
 | false=>exact⟨false,go373 λn hn=>Ev.now λaA=>by unfold T373;refine qC hs ?_;rw[ho];rfl⟩
 | true=>exact⟨true,go373 λn hn=>Ev.now λaA=>by unfold T373;refine qC hs ?_;rw[ho];rfl⟩
theorem f379(i:Int)(e:bD):Ran p 5 379 [vf K3 (i,()), va K161 e] ⟨[⟨K27,zG i e⟩,⟨K3,((0:Int),())⟩],[]⟩:=by
 obtain⟨b,hs⟩:=yY i e
 exact go379 λn hn=>Ev.now λaA=>by unfold T379;refine qD hs ?_;rfl
theorem f364(s:aD)(i:Int)(hz:SzS s):Ran p 6 364 [va K27 s, vf K3 (i,())] ⟨[⟨K27,(qV s i).1⟩,⟨K3,((qV s i).2,())⟩],[]⟩:=go364 λn hn=>Ev.now λaA=>by
 unfold T364 qV;refine qC (f227 s (aO hz.a) (aO hz.b)) ?_
 cases aJ s with
 | false=>rfl
 | true=>
 refine qf ?_;refine qC (f250 i) ?_
 cases eH i with
 | false=>rfl
 | true=>
 refine qf ?_;refine qD (f378 s i hz) ?_
 cases (n8 s i).2 with
 | true=>rfl
 | false=>
 refine qf ?_;refine qD (f327 s i (aO hz.a)) ?_;refine qC (f313 s i (aO hz.b)) ?_;refine qC (f248 (bA s i).1.1 (cH s.2.1 i)) ?_
 cases h:uK s i==1000 with
 | true=>(first | refine qT h ?_ | refine qt ?_);rfl
 | false=>(first | refine qF h ?_ | refine qf ?_);refine qD (f379 i (i64.wrap (uK s i+1),0,0,0,⟨#[]⟩,())) ?_;rfl
theorem f380(s:aD)(i:Int)(hz:SzS s):Ran p 6 380 [va K27 s, vf K3 (i,())] ⟨[⟨K161,(upE s i).1⟩,⟨K3,((upE s i).2,())⟩],[]⟩:=go380 λn hn=>Ev.now λaA=>by
 unfold T380 upE;refine qC (f227 s (aO hz.a) (aO hz.b)) ?_
 cases aJ s with
 | false=>rfl
 | true=>
 refine qf ?_;refine qC (f250 i) ?_
 cases eH i with
 | false=>rfl
 | true=>
 refine qf ?_;refine qD (f378 s i hz) ?_
 cases (n8 s i).2<;>rfl
theorem f365(s:aD)(i:Int)(hz:SzS s):Ran p 7 365 [va K27 s, vf K3 (i,())] ⟨[⟨K27,(qX s i).1⟩,⟨K3,((qX s i).2,())⟩],[]⟩:=go365 λn hn=>Ev.now λaA=>by
 unfold T365 qX;refine qD (f380 s i hz) ?_
 cases h:(upE s i).2 != 0 with
 | true=>(first | refine qT h ?_ | refine qt ?_);rfl
 | false=>
 (first | refine qF h ?_ | refine qf ?_)
 cases h2:(upE s i).1.2.2.1==100000 with
 | true=>(first | refine qT h2 ?_ | refine qt ?_);rfl
 | false=>(first | refine qF h2 ?_ | refine qf ?_);refine qD (f379 i ((upE s i).1.1,(upE s i).1.2.1,i64.wrap ((upE s i).1.2.2.1+1),(upE s i).1.2.2.2.1,(upE s i).1.2.2.2.2.1,())) ?_;rfl
theorem f366(s:aD)(i:Int)(t:ByteArray)(hz:SzS s):Ran p 7 366 [va K27 s, vf K3 (i,()), vf K9 (t,())] ⟨[⟨K27,(vD s i t).1⟩,⟨K3,((vD s i t).2,())⟩],[]⟩:=go366 λn hn=>Ev.now λaA=>by
 unfold T366 vD;refine qD (f380 s i hz) ?_
 cases h:(upE s i).2 != 0 with
 | true=>(first | refine qT h ?_ | refine qt ?_);rfl
 | false=>
 (first | refine qF h ?_ | refine qf ?_)
 cases h2:(upE s i).1.2.2.2.1==1000 with
 | true=>(first | refine qT h2 ?_ | refine qt ?_);rfl
 | false=>
 (first | refine qF h2 ?_ | refine qf ?_)
 by_cases h3:((ByteArray.size t:Nat):Int)>8
 ·refine qP h3 ?_;rw[decide_eq_true h3];rfl
 ·refine qN h3 ?_;rw[decide_eq_false h3];refine qD (f379 i ((upE s i).1.1,(upE s i).1.2.1,(upE s i).1.2.2.1,i64.wrap ((upE s i).1.2.2.2.1+1),t,())) ?_;rfl
theorem f367(s:aD)(i:Int)(hz:SzS s):Ran p 7 367 [va K27 s, vf K3 (i,())] ⟨[⟨K27,(qW s i).1⟩,⟨K3,((qW s i).2,())⟩],[]⟩:=go367 λn hn=>Ev.now λaA=>by
 unfold T367 qW;refine qD (f380 s i hz) ?_
 cases h:(upE s i).2 != 0 with
 | true=>(first | refine qT h ?_ | refine qt ?_);rfl
 | false=>(first | refine qF h ?_ | refine qf ?_);refine qD (f379 i ((upE s i).1.1,1,(upE s i).1.2.2.1,(upE s i).1.2.2.2.1,(upE s i).1.2.2.2.2.1,())) ?_;rfl
theorem f344(s:aD)(k i:Int)(t:ByteArray)(hz:SzS s):Ran p 8 344 [va K27 s, vf K3 (k,()), vf K3 (i,()), vf K9 (t,())] ⟨[⟨K27,(gH s k i t).1⟩,⟨K3,((gH s k i t).2,())⟩],[]⟩:=go344 λn hn=>Ev.now λaA=>by
 unfold T344 gH
 cases k==0 with
 | true=>refine qt ?_;refine qD (f364 s i hz) ?_;rfl
 | false=>
 refine qf ?_
 cases k==1 with
 | true=>refine qt ?_;refine qD (f365 s i hz) ?_;rfl
 | false=>
 refine qf ?_
 cases k==2 with
 | true=>refine qt ?_;refine qD (f366 s i t hz) ?_;rfl
 | false=>refine qf ?_;refine qD (f367 s i hz) ?_;rfl
theorem f345(l:fJ)(d:aD)(hl:l.2.2.1.length<=aN)(hs:∀ i,i<l.2.2.1.length->SzS (gt l.2.2.1 i))(hz:SzS d):Ran p 5 345 [va K33 l, va K27 d] ⟨[⟨K33,(sQ l d).1⟩,⟨K4,((sQ l d).2,())⟩],[]⟩:=go345 λn hn=>Ev.now λaA=>by
 unfold T345 sQ oY;refine qC (f225 l hl hs) ?_;refine qC (f229 l hl hs) ?_
 cases g1:fL l with
 | false=>rfl
 | true=>
 refine qf ?_;refine qC (f227 d (aO hz.a) (aO hz.b)) ?_
 cases aJ d with
 | false=>rfl
 | true=>
 refine qf ?_
 cases h:i64.wrap (l.2.1+(l.2.2.1.length:Int))==100000 with
 | true=>(first | refine qT h ?_ | refine qt ?_);rfl
 | false=>
 (first | refine qF h ?_ | refine qf ?_)
 have hb:l.2.2.1.length+1<=bound:=by unfold aN at hl;unfold bound;omega
 have hlen:(l.2.2.1++[d]).length=l.2.2.1.length+1:=by rw[List.length_append,List.length_singleton]
 refine qC (f224 d hz) ?_;refine qP hb ?_
 show _=some (⟨[⟨K33,gB l d⟩,⟨K4,(true,())⟩],[]⟩:Out)
 unfold gB
 by_cases hc:(((l.2.2.1++[d]).length:Nat):Int)>l.1
 ·refine qP hc ?_;rw[decide_eq_true hc]
  refine(qK (show(0:Int)<=1 by omega) (show(1:Int)<=(((l.2.2.1++[d]).length:Nat):Int) by rw[hlen];omega)).trans ?_
  refine qP (show List.length ([]:List aD)+(((l.2.2.1++[d]).take (l.2.2.1++[d]).length).drop ((1:Int)).toNat).length<=bound by rw[List.take_length,List.length_drop,hlen];simp;omega) ?_
  show(some ⟨[⟨K33,(l.1,i64.wrap (l.2.1+1),(((l.2.2.1++[d]).take (l.2.2.1++[d]).length).drop ((1:Int)).toNat),())⟩,⟨K4,(true,())⟩],[]⟩:Option Out)=_
  rw[List.take_length];rfl
 ·refine qN hc ?_;rw[decide_eq_false hc];rfl
end Go.Abs.Xz
namespace Go.Abs.Xz
open Go Go.Abs
def L6(r:TE):Out:=⟨[⟨K38,r.1⟩,⟨K43,r.2.1⟩,⟨K4,(r.2.2,())⟩],[]⟩
theorem f87(x:NodeT)(i:Int):Ran p 2 87 [va K38 x, vf K3 (i,())] (rO K4 (uF x i,())):=go87 λn hn=>Ev.now λaA=>by
 unfold T87 uF;refine qC (f211 i 0 (i64.wrap (x.2.1 - 1))) ?_
 cases inB i 0 (i64.wrap (x.2.1 - 1))<;>rfl
theorem f18(x:NodeT)(i:Int)(hz:SzN x):Ran p 8 18 [va K38 x, vf K3 (i,())] (L6 (pI x i)):=go18 λn hn=>Ev.now λaA=>by
 have bad:pJ x i=false->(some ⟨[⟨K38,x⟩,⟨K43,NB⟩,⟨K4,(false,())⟩],[]⟩:Option Out)=some (L6 (pI x i)):=λh=>by rw[PP h];rfl
 unfold T18;refine qC (f85 x hz) ?_;refine qC (f86 x hz) ?_
 cases g1:eO x with
 | false=>refine qt ?_;exact bad (by unfold pJ;rw[g1];rfl)
 | true=>
 refine qf ?_;refine qC (f87 x i) ?_
 cases g2:uF x i with
 | false=>refine qt ?_;exact bad (by unfold pJ;rw[g1,g2];rfl)
 | true=>
 refine qf ?_;refine qC (f88 x i false hz.sess) ?_
 by_cases g3:cW x.sess i false>=0
 ·refine qP g3 ?_;exact bad (by unfold pJ;rw[g1,g2,decide_eq_true g3];rfl)
 refine qN g3 ?_
 have hle:=((dG x).1 ((fQ x).1 g1).sess).1
 cases g4:(x.sess.length:Int)==x.slots with
 | true=>
  have e:=eq_of_beq g4
  (first | refine qT g4 ?_ | refine qP (show(x.sess.length:Int)>=x.slots by omega) ?_);exact bad (by unfold pJ;rw[g1,g2,decide_eq_false g3,g4];rfl)
 | false=>
 have e:(x.sess.length:Int)≠x.slots:=by rw[beq_eq_false_iff_ne] at g4;exact g4
 (first | refine qF g4 ?_ | refine qN (show ¬ (x.sess.length:Int)>=x.slots by omega) ?_)
 cases g5:x.num==100000 with
 | true=>(first | refine qT g5 ?_ | refine qt ?_);exact bad (by unfold pJ;rw[g1,g2,decide_eq_false g3,g4,g5];rfl)
 | false=>
 (first | refine qF g5 ?_ | refine qf ?_)
 have ok:pJ x i=true:=by unfold pJ;rw[g1,g2,decide_eq_false g3,g4,g5];rfl
 have hb:x.sess.length+1<=bound:=by have:=hz.sess;unfold aN at this;unfold bound;omega
 have hz2:=D9 hz (tO ok)
 rw[L4 ok];refine qP hb ?_;refine qC (f89 (EA x i) 2 i (i64.wrap (x.num+1)) hz2) ?_;refine qC (f90 x.tree hz.leaves) ?_;rfl
end Go.Abs.Xz
namespace Go.Abs.Xz
open Go Go.Abs
def MH(r:RH):Out:=⟨[⟨K38,r.1⟩,⟨K27,r.2.1⟩,⟨K3,(r.2.2,())⟩],[]⟩
theorem sG{s:aD}(h:aJ s=true):SzS s:=by
 have:=((aM s).1 h).len
 exact⟨by unfold aN;omega,by unfold aN;omega⟩
theorem f298(x:NodeT)(k i:Int)(t:ByteArray)(hz:SzN x):Ran p 9 298 [va K38 x, vf K3 (k,()), vf K3 (i,()), vf K9 (t,())] (MH (tW x k i t)):=go298 λn hn=>Ev.now λaA=>by
 have bad:vE x k i=false->(some ⟨[⟨K38,x⟩,⟨K27,([],[],())⟩,⟨K3,((1:Int),())⟩],[]⟩:Option Out)=some (MH (tW x k i t)):=λh=>by unfold tW;rw[h];rfl
 unfold T298;refine qC (f85 x hz) ?_;refine qC (f86 x hz) ?_
 cases g1:eO x with
 | false=>refine qt ?_;exact bad (by unfold vE;rw[g1];rfl)
 | true=>
 refine qf ?_;refine qC (f211 k 0 4) ?_
 cases g2:inB k 0 4 with
 | false=>refine qt ?_;exact bad (by unfold vE;rw[g1,g2];rfl)
 | true=>
 refine qf ?_;refine qC (f211 i 0 (i64.wrap (x.2.1 - 1))) ?_
 cases g3:inB i 0 (i64.wrap (x.2.1 - 1))with
 | false=>refine qt ?_;exact bad (by unfold vE;rw[g1,g2,g3];rfl)
 | true=>
 refine qf ?_
 cases g4:rP (k==4) (i==x.1)with
 | true=>(first | refine qT g4 ?_ | refine qt ?_);exact bad (by unfold vE;rw[g1,g2,g3,g4];rfl)
 | false=>
 have ok:vE x k i=true:=by unfold vE;rw[g1,g2,g3,g4];rfl
 have hN:=(fQ x).1 g1
 have hd:=EH x.state k i t
 (first | refine qF g4 ?_ | refine qf ?_);refine qD (f344 x.state k i t hz.state) ?_
 unfold tW;rw[ok]
 cases g5:(gH x.state k i t).2 != 0 with
 | true=>(first | refine qT g5 ?_ | refine qt ?_);rfl
 | false=>
 (first | refine qF g5 ?_ | refine qf ?_);refine qD (f345 x.log (gH x.state k i t).1 hz.list hz.logs (sG hd)) ?_
 unfold sQ
 cases hb:oY x.log (gH x.state k i t).1 with
 | false=>rfl
 | true=>
 have hid:=hN.id;have hn5:=hN.n;have hv:=hN.got
 rw[aQ] at hid hn5
 rw[IntKind.wrap_i64] at hid
 unfold eG at hv
 simp only[Bool.and_eq_true,beq_iff_eq] at hv
 have h0:(0:Int)<=x.1:=hid.1
 have hk:x.1.toNat<x.got.length:=by omega
 refine qf ?_;refine qC (f85 x hz) ?_;refine qP h0 ?_;refine(aU hk).trans ?_;refine(aU hk).trans ?_;refine qP h0 ?_;refine(aU hk).trans ?_;refine(aU hk).trans ?_
 refine qC (f254 (IO x (gH x.state k i t).1) (gH x.state k i t).1 (EI hz hN hb) (sG hd) (yP (y3 hN hb)) hd) ?_;rfl
theorem L1{x:NodeT}(h:NodeOk x):NodeOk (oT x):=by
 unfold oT
 rw[(fQ x).2 h]
 cases hc:x.clock==100000 with
 | true=>exact h
 | false=>
  have hcl:=h.clock;have hwt:=h.wait
  rw[aQ] at hcl hwt
  have hne:x.clock≠100000:=by rw[beq_eq_false_iff_ne] at hc;exact hc
  have hw:i64.wrap (x.clock+1)=x.clock+1:=by rw[IntKind.wrap_i64];omega
  have hs:=(dG x).1 h.sess
  have tw:∀ s∈x.sess,i64.wrap (s.2.2.2.1+1)=s.2.2.2.1+1:=λs hm=>by
   have:=(hs.2.1 s hm).2.2.2;rw[aQ] at this;rw[IntKind.wrap_i64];omega
  show NodeOk (yN x)
  have e:(yN x).sess=x.sess.flatMap λs=>bif decide (i64.wrap (s.2.2.2.1+1)<=x.wait)then[BE s] else[]:=cA (λs:eC=>bif decide (i64.wrap (s.2.2.2.1+1)<=x.wait)then[BE s] else[]) x.sess
  have mem:∀ s∈(yN x).sess,∃ r∈x.sess,s=BE r/\i64.wrap (r.2.2.2.1+1)<=x.wait:=λs hm=>by
   rw[e] at hm
   obtain⟨r,hr,hx⟩:=List.mem_flatMap.1 hm
   refine⟨r,hr,?_⟩
   by_cases hd:i64.wrap (r.2.2.2.1+1)<=x.wait
   ·rw[decide_eq_true hd] at hx;exact⟨List.mem_singleton.1 hx,hd⟩
   ·rw[decide_eq_false hd] at hx;cases hx
  have sub:∀ l:List eC,List.Sublist ((l.flatMap λs=>bif decide (i64.wrap (s.2.2.2.1+1)<=x.wait)then[BE s] else[]).map pA) (l.map pA):=λl=>by
   induction l with
   | nil=>exact List.Sublist.slnil
   | cons s l ih=>
    rw[List.flatMap_cons,List.map_append,List.map_cons]
    cases decide (i64.wrap (s.2.2.2.1+1)<=x.wait)with
    | true=>exact List.Sublist.cons_cons _ ih
    | false=>exact List.Sublist.cons _ ih
  exact {
   n:=h.n,id:=h.id,state:=h.state,tree:=h.tree,log:=h.log,got:=h.got,acked:=h.acked,own:=h.own,seen:=h.seen,ack:=h.ack,num:=h.num
   clock:=by show inB (i64.wrap (x.clock+1)) 0 100000=true;rw[hw,aQ];omega
   slots:=h.slots,wait:=h.wait,limit:=h.limit,rises:=h.rises
   rise:=by
    have h6:=h.rise
    rw[bJ] at h6 ⊢
    intro i hi
    have h7:=h6 i hi
    unfold j6 at h7 ⊢
    simp only[Bool.and_eq_true,aQ] at h7 ⊢
    refine⟨h7.1,h7.2.1,h7.2.2.1,?_⟩
    show(gt x.rises i).2.2.1<=i64.wrap (x.clock+1)
    rw[hw];omega
   sess:=by
    refine(dG _).2 ⟨?_,λs hm=>?_,?_⟩
    ·have h8:=BG x
     show(((yN x).sess.length:Nat):Int)<=x.slots
     have:=hs.1;omega
    ·obtain⟨r,hr,rfl,hle⟩:=mem s hm
     have h9:=hs.2.1 r hr
     have h10:=h9.2.2.2
     rw[aQ] at h10
     refine⟨h9.1,h9.2.1,h9.2.2.1,?_⟩
     show inB (i64.wrap (r.2.2.2.1+1)) 0 x.wait=true
     rw[aQ];rw[tw r hr] at hle ⊢;omega
    ·rw[e];exact(sub x.sess).nodup hs.2.2 }
end Go.Abs.Xz
