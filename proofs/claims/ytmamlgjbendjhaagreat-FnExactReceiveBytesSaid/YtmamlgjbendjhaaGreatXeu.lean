/- What the functions of this program answer, part eu. -/
import Derived.Test.YtmamlgjbendjhaaGreatW3
import Derived.Test.YtmamlgjbendjhaaGreatXrd
set_option linter.unusedVariables false
open Go.IntKind (i64)
namespace Go.Abs.Xz
open Go Go.Abs
theorem f117(x:NodeT)(m:MsgT)(b:Bool)(hv:x.sess.length<=aQ):Ran p 2 117 [va K38 x, va K43 m, vf K4 (b,())] (rO K3 (rJ x m b,())):=go117 fun n hn=>Ev.now fun aA=>by
 unfold T117 rJ;refine qC (f88 x m.2.1 b hv) ?_
 rcases fQ x.sess m.2.1 b with ⟨k,hk,e,_⟩ | ⟨e,_⟩<;>rw[e]
 ·refine qz ?_;refine qz ?_;refine(aG hk).trans ?_;rw[decide_eq_true (show((k:Nat):Int)>=0 by omega),Int.toNat_natCast]
  cases (gt x.sess k).2.1 != m.2.2.2.1<;>rfl
 ·rfl
theorem f118(x:NodeT)(k:Nat)(hz:SzN x)(hk:k<x.sess.length):Ran p 4 118 [va K38 x, vf K3 ((k:Int),())] (rO K38 (jL x k)):=go118 fun n hn=>Ev.now fun aA=>by
 rw[<- DZ hk hz.sess]
 unfold T118;refine qC (f85 x hz) ?_;exact uC hk hz.sess
theorem Hears.of{x:NodeT}{m:MsgT}(hz:SzN x)(hm:SzM m)(h:RecOk x m):Hears x m:=
 ⟨hz,hm,h.node,h.idn.1,by have h1:=h.idn;have h2:=h.vec;omega⟩
theorem HH{x:NodeT}{k:Nat}(hk:k<x.sess.length)(num:Int):(x.sess.set k ((gt x.sess k).1,num,(gt x.sess k).2.2)).set k ((gt (x.sess.set k ((gt x.sess k).1,num,(gt x.sess k).2.2)) k).1,(gt (x.sess.set k ((gt x.sess k).1,num,(gt x.sess k).2.2)) k).2.1,(gt (x.sess.set k ((gt x.sess k).1,num,(gt x.sess k).2.2)) k).2.2.1,(0:Int),(gt (x.sess.set k ((gt x.sess k).1,num,(gt x.sess k).2.2)) k).2.2.2.2)=nU x k num:=by
 rw[dC hk,uV];rfl
theorem PF{x:NodeT}{m:MsgT}{k:Nat}(e:dF x.sess m.2.1 true=(k:Int)):jW x m=false/\gK x m=nU x k m.2.2.2.1:=by
 unfold jW gK;rw[e,decide_eq_true (show((k:Nat):Int)>=0 by omega)];exact⟨rfl,by rw[Int.toNat_natCast];rfl⟩
theorem PE{x:NodeT}{m:MsgT}(e:dF x.sess m.2.1 true= -1):jW x m=((x.sess.length:Int)==x.slots)/\gK x m=jG x m:=by
 unfold jW gK;rw[e];exact⟨rfl,rfl⟩
theorem f116(x:NodeT)(m:MsgT)(hz:SzN x)(hm:SzM m)(R:RecOk x m):Ran p 9 116 [va K38 x, va K43 m] ⟨[⟨K38,(jO x m).1⟩,⟨K49,((jO x m).2.1,())⟩,⟨K3,((jO x m).2.2,())⟩],[]⟩:=go116 fun n hn=>Ev.now fun aA=>by
 have h0:=R.idn.1
 have hv:x.1.toNat<m.vec.length:=(Hears.of hz hm R).vec
 have go:jW x m=false->∀ {y:NodeT},withS x (gK x m)=y->Hears y m/\NodeOk (cG y m)/\SzN (cG y m)/\jO x m=(cG y m,[CK (cG y m) x m],0):=by
  intro hf y e
  have hr:=R.syn hf
  have hs:=sW hz (pG R.node m)
  rw[e] at hr hs
  refine⟨Hears.of hs hm hr,hr.node.heard m,hU hs m,?_⟩
  unfold jO FP;rw[hf,e];rfl
 unfold T116;refine qC (f85 x hz) ?_;refine qC (f88 x m.2.1 true hz.sess) ?_
 rcases fQ x.sess m.2.1 true with ⟨k,hk,e,_⟩ | ⟨e,_⟩
 ·obtain⟨hf,hs⟩:=PF e
  have hk2:k<(x.sess.set k ((gt x.sess k).1,m.2.2.2.1,(gt x.sess k).2.2)).length:=by rw[List.length_set];exact hk
  obtain⟨hh,ho,hz2,he⟩:=go hf (y:=withS x ((x.sess.set k ((gt x.sess k).1,m.2.2.2.1,(gt x.sess k).2.2)).set k ((gt (x.sess.set k ((gt x.sess k).1,m.2.2.2.1,(gt x.sess k).2.2)) k).1,(gt (x.sess.set k ((gt x.sess k).1,m.2.2.2.1,(gt x.sess k).2.2)) k).2.1,(gt (x.sess.set k ((gt x.sess k).1,m.2.2.2.1,(gt x.sess k).2.2)) k).2.2.1,(0:Int),(gt (x.sess.set k ((gt x.sess k).1,m.2.2.2.1,(gt x.sess k).2.2)) k).2.2.2.2))) (by rw[hs,HH hk])
  rw[he,e];refine qz ?_;refine qz ?_;refine(aG hk).trans ?_;refine(aG hk).trans ?_;refine qz ?_;refine(aG hk2).trans ?_;refine(aG hk2).trans ?_
  refine qC (f115 _ m hh) ?_;refine qC (f89 _ 3 m.2.1 m.2.2.2.1 hz2) ?_;refine qC (f90 (cG _ m).tree hz2.leaves) ?_;refine qC (f258 (cG _ m).tree m.tree) ?_;refine qP h0 ?_;refine(bB hv).trans ?_;refine qC (f119 _ (gW (cG _ m).tree m.tree) (gt m.vec x.1.toNat).1 hz2 ho (Nat.le_trans (lM _ _) (by decide))) ?_;rfl
 ·obtain⟨hf,hs⟩:=PE e
  rw[e];refine qf ?_
  cases hl:(x.sess.length:Int)==x.slots with
  | true=>
   rw[hl] at hf
   refine qT hl ?_;refine qC (f89 x 5 m.2.1 m.2.2.2.1 hz) ?_;unfold jO;rw[hf];rfl
  | false=>
   rw[hl] at hf
   obtain⟨hh,ho,hz2,he⟩:=go hf (y:=withS x (jG x m)) (by rw[hs])
   have hb:x.sess.length+1<=bound:=by have:=hz.sess;unfold aQ at this;unfold bound;omega
   rw[he];refine qF hl ?_;refine qP hb ?_
   refine qC (f115 (withS x (jG x m)) m hh) ?_;refine qC (f89 _ 3 m.2.1 m.2.2.2.1 hz2) ?_;refine qC (f90 (cG _ m).tree hz2.leaves) ?_;refine qC (f258 (cG _ m).tree m.tree) ?_;refine qP h0 ?_;refine(bB hv).trans ?_;refine qC (f119 _ (gW (cG _ m).tree m.tree) (gt m.vec x.1.toNat).1 hz2 ho (Nat.le_trans (lM _ _) (by decide))) ?_;rfl
end Go.Abs.Xz
namespace Go.Abs.Xz
open Go Go.Abs
def CL(r:HE):Out:=⟨[⟨K38,r.1⟩,⟨K49,(r.2.1,())⟩,⟨K3,(r.2.2,())⟩],[]⟩
theorem oV(x:NodeT)(m:MsgT)(b:Bool):(rJ x m b<0/\(dF x.sess m.2.1 b= -1\/∃ k:Nat,k<x.sess.length/\dF x.sess m.2.1 b=(k:Int)/\((gt x.sess k).2.1 != m.2.2.2.1)=true))\/∃ k:Nat,k<x.sess.length/\dF x.sess m.2.1 b=(k:Int)/\((gt x.sess k).2.1 != m.2.2.2.1)=false/\rJ x m b=(k:Int):=by
 unfold rJ
 rcases fQ x.sess m.2.1 b with ⟨k,hk,e,_⟩ | ⟨e,_⟩<;>rw[e]
 ·rw[decide_eq_true (show((k:Nat):Int)>=0 by omega),Int.toNat_natCast]
  cases h:(gt x.sess k).2.1 != m.2.2.2.1 with
  | true=>exact .inl ⟨by show(-1:Int)<0;omega,.inr ⟨k,hk,rfl,h⟩⟩
  | false=>exact .inr ⟨k,hk,rfl,h,rfl⟩
 ·exact .inl ⟨by show(-1:Int)<0;omega,.inl rfl⟩
theorem jP{x:NodeT}{m:MsgT}(h0:(m.1==0)=false)(h1:(m.1==1)=false)(h2:(m.1==2)=false){b:Bool}(h4:(m.1==4)=b)(hf:rJ x m b<0):rZ x m=(x,[],2):=by
 unfold rZ;rw[h0,h1,h2,h4,decide_eq_true hf];rfl
theorem tO{x:NodeT}{m:MsgT}(h0:(m.1==0)=false)(h1:(m.1==1)=false)(h2:(m.1==2)=false){b:Bool}(h4:(m.1==4)=b){k:Nat}(hf:rJ x m b=(k:Int)):rZ x m=mL x m k:=by
 unfold rZ;rw[h0,h1,h2,h4,hf,decide_eq_false (show ¬ (k:Int)<0 by omega)];rfl
theorem f27(x:NodeT)(m:MsgT)(hz:SzN x)(hm:SzM m):Ran p 10 27 [va K38 x, va K43 m] (CL (dN x m)):=go27 fun n hn=>Ev.now fun aA=>by
 have bad:iB x m=false->(some ⟨[⟨K38,x⟩,⟨K49,(([]:List MsgT),())⟩,⟨K3,((1:Int),())⟩],[]⟩:Option Out)=some (CL (dN x m)):=fun h=>by rw[HO h];rfl
 unfold T27;refine qC (f86 x hz) ?_
 cases g1:kL x with
 | false=>refine qt ?_;refine qC (f85 x hz) ?_;exact bad (by unfold iB;rw[g1];rfl)
 | true=>
 refine qf ?_;refine qC (f113 m hm) ?_
 cases g2:dQ m with
 | false=>refine qt ?_;refine qC (f85 x hz) ?_;exact bad (by unfold iB;rw[g1,g2];rfl)
 | true=>
 refine qf ?_
 cases g3:m.2.2.1==x.1 with
 | false=>refine qT (show(m.2.2.1 != x.1)=true by unfold bne;rw[g3];rfl) ?_;refine qC (f85 x hz) ?_;exact bad (by unfold iB;rw[g1,g2,g3];rfl)
 | true=>
 refine qF (show(m.2.2.1 != x.1)=false by unfold bne;rw[g3];rfl) ?_
 by_cases g4:m.2.1>=x.2.1
 ·refine qP g4 ?_;refine qC (f85 x hz) ?_;exact bad (by unfold iB;rw[g1,g2,g3,decide_eq_true g4];rfl)
 refine qN g4 ?_
 cases g5:(m.vec.length:Int)==x.2.1 with
 | false=>refine qT (show((m.vec.length:Int) != x.2.1)=true by unfold bne;rw[g5];rfl) ?_;refine qC (f85 x hz) ?_;exact bad (by unfold iB;rw[g1,g2,g3,decide_eq_false g4,g5];rfl)
 | true=>
 refine qF (show((m.vec.length:Int) != x.2.1)=false by unfold bne;rw[g5];rfl) ?_
 have ok:iB x m=true:=by unfold iB;rw[g1,g2,g3,decide_eq_false g4,g5];rfl
 have R:=yE ok
 have H:=Hears.of hz hm R
 rw[DV ok]
 cases k0:m.1==0 with
 | true=>
  have hz2:=iZ hz m
  (first | refine qT k0 ?_ | refine qt ?_);refine qC (f114 x m H R.part) ?_;refine qC (f89 (c6 x m) 1 m.2.1 m.2.2.2.1 hz2) ?_;unfold rZ;rw[k0];rfl
 | false=>
 (first | refine qF k0 ?_ | refine qf ?_)
 cases k1:m.1==1 with
 | true=>(first | refine qT k1 ?_ | refine qt ?_);refine qC (f115 x m H) ?_;unfold rZ;rw[k0,k1];rfl
 | false=>
 (first | refine qF k1 ?_ | refine qf ?_)
 cases k2:m.1==2 with
 | true=>(first | refine qT k2 ?_ | refine qt ?_);refine qE (f116 x m hz hm R) ?_;unfold rZ;rw[k0,k1,k2];rfl
 | false=>
 (first | refine qF k2 ?_ | refine qf ?_);refine qC (f117 x m (m.1==4) hz.sess) ?_
 rcases oV x m (m.1==4)with ⟨hf,_⟩ | ⟨k,hk,_,_,hf⟩
 ·refine qP hf ?_;refine qC (f85 x hz) ?_;rw[jP k0 k1 k2 rfl hf];rfl
 ·rw[tO k0 k1 k2 rfl hf,hf];refine qN (show ¬ (k:Int)<0 by omega) ?_;refine qC (f118 x k hz hk) ?_
  have hg:=y9 hz k
  have Rg:=R.gone k
  have Hg:=Hears.of hg hm Rg
  have hz2:=iZ hg m
  cases k5:m.1==5 with
  | true=>(first | refine qT k5 ?_ | refine qt ?_);unfold mL;rw[k5];rfl
  | false=>
   (first | refine qF k5 ?_ | refine qf ?_);refine qC (f114 (jL x k) m Hg Rg.part) ?_
   cases k4:m.1==4 with
   | true=>(first | refine qT k4 ?_ | refine qt ?_);unfold mL;rw[k5,k4];rfl
   | false=>
    (first | refine qF k4 ?_ | refine qf ?_);refine qC (f89 (c6 (jL x k) m) 4 m.2.1 m.2.2.2.1 hz2) ?_;refine qP (iG hm.list) ?_;refine qP R.idn.1 ?_;refine(bB H.vec).trans ?_
    refine qC (f119 (c6 (jL x k) m) m.leaves (gt m.vec x.1.toNat).1 hz2 Rg.brought hm.list) ?_;unfold mL;rw[k5,k4];rfl
end Go.Abs.Xz
set_option maxHeartbeats 2000000
namespace Go.Abs.Xz
open Go Go.Abs
theorem HA{a b c:Int}(h:(a==b)=true)(hc:b≠c):(a==c)=false:=by
 have:=eq_of_beq h;subst this;simpa using hc
theorem f22(x:NodeT)(m:MsgT)(hz:SzN x)(hm:SzM m):Ran p 11 22 [va K38 x, va K43 m] (CL (dN x m)):=go22 fun n hn=>Ev.now fun aA=>by
 have bad:iB x m=false->(some ⟨[⟨K38,x⟩,⟨K49,(([]:List MsgT),())⟩,⟨K3,((1:Int),())⟩],[]⟩:Option Out)=some (CL (dN x m)):=fun h=>by rw[HO h];rfl
 unfold T22;refine qC (f81 x hz) ?_;refine qC (f23 x hz) ?_
 cases g1:kL x with
 | false=>refine qt ?_;exact bad (by unfold iB;rw[g1];rfl)
 | true=>
 refine qf ?_;refine qC (f30 m hm) ?_
 cases g2:dQ m with
 | false=>refine qt ?_;exact bad (by unfold iB;rw[g1,g2];rfl)
 | true=>
 refine qf ?_
 cases g3:m.2.2.1==x.1 with
 | false=>refine qT (show(m.2.2.1 != x.1)=true by unfold bne;rw[g3];rfl) ?_;exact bad (by unfold iB;rw[g1,g2,g3];rfl)
 | true=>
 refine qF (show(m.2.2.1 != x.1)=false by unfold bne;rw[g3];rfl) ?_
 by_cases g4:m.2.1>=x.2.1
 ·refine qP g4 ?_;exact bad (by unfold iB;rw[g1,g2,g3,decide_eq_true g4];rfl)
 refine qN g4 ?_
 cases g5:(m.vec.length:Int)==x.2.1 with
 | false=>refine qT (show((m.vec.length:Int) != x.2.1)=true by unfold bne;rw[g5];rfl) ?_;exact bad (by unfold iB;rw[g1,g2,g3,decide_eq_false g4,g5];rfl)
 | true=>
 refine qF (show((m.vec.length:Int) != x.2.1)=false by unfold bne;rw[g5];rfl) ?_
 have ok:iB x m=true:=by unfold iB;rw[g1,g2,g3,decide_eq_false g4,g5];rfl
 have R:=yE ok
 have H:=Hears.of hz hm R
 have hv:=H.vec
 rw[DV ok]
 cases k0:m.1==0 with
 | true=>
  have hz2:=iZ hz m
  (first | refine qT k0 ?_ | refine qt ?_);refine qC (f94 x m H R.part) ?_;refine qC (f83 (c6 x m) 1 m.2.1 m.2.2.2.1 hz2) ?_;unfold rZ;rw[k0];rfl
 | false=>
 (first | refine qF k0 ?_ | refine qf ?_)
 cases k1:m.1==1 with
 | true=>(first | refine qT k1 ?_ | refine qt ?_);refine qC (f95 x m H) ?_;unfold rZ;rw[k0,k1];rfl
 | false=>
 (first | refine qF k1 ?_ | refine qf ?_)
 cases k2:m.1==2 with
 | true=>
  have e0:rZ x m=jO x m:=by unfold rZ;rw[k0,k1,k2];rfl
  rw[e0]
  have go:jW x m=false->∀ {y:NodeT},withS x (gK x m)=y->Hears y m/\NodeOk (cG y m)/\SzN (cG y m)/\jO x m=(cG y m,[CK (cG y m) x m],0):=by
   intro hf y e
   have hr:=R.syn hf
   have hs:=sW hz (pG R.node m)
   rw[e] at hr hs
   refine⟨Hears.of hs hm hr,hr.node.heard m,hU hs m,?_⟩
   unfold jO FP;rw[hf,e];rfl
  (first | refine qT k2 ?_ | refine qt ?_);refine qC (f21 x m.2.1 true hz.sess) ?_
  rcases fQ x.sess m.2.1 true with ⟨k,hk,e,_⟩ | ⟨e,_⟩
  ·obtain⟨hf,hs⟩:=PF e
   have hk2:k<(x.sess.set k ((gt x.sess k).1,m.2.2.2.1,(gt x.sess k).2.2)).length:=by rw[List.length_set];exact hk
   obtain⟨hh,ho,hz2,he⟩:=go hf (y:=withS x ((x.sess.set k ((gt x.sess k).1,m.2.2.2.1,(gt x.sess k).2.2)).set k ((gt (x.sess.set k ((gt x.sess k).1,m.2.2.2.1,(gt x.sess k).2.2)) k).1,(gt (x.sess.set k ((gt x.sess k).1,m.2.2.2.1,(gt x.sess k).2.2)) k).2.1,(gt (x.sess.set k ((gt x.sess k).1,m.2.2.2.1,(gt x.sess k).2.2)) k).2.2.1,(0:Int),(gt (x.sess.set k ((gt x.sess k).1,m.2.2.2.1,(gt x.sess k).2.2)) k).2.2.2.2))) (by rw[hs,HH hk])
   rw[he,e];refine qz ?_;refine qz ?_;refine(aG hk).trans ?_;refine(aG hk).trans ?_;refine qz ?_;refine(aG hk2).trans ?_;refine(aG hk2).trans ?_
   refine qC (f95 _ m hh) ?_;refine qC (f83 _ 3 m.2.1 m.2.2.2.1 hz2) ?_;refine qC (f84 (cG _ m).tree hz2.leaves) ?_;refine qC (f238 (cG _ m).tree m.tree) ?_;refine qC (f99 _ (gW (cG _ m).tree m.tree) m hz2 ho (Nat.le_trans (lM _ _) (by decide)) R.idn.1 hv) ?_;rfl
  ·obtain⟨hf,hs⟩:=PE e
   have hle:=((gN x).1 R.node.sess).1
   rw[e];refine qf ?_
   by_cases hl:(x.sess.length:Int)>=x.slots
   ·refine qP hl ?_
    rw[show((x.sess.length:Int)==x.slots)=true from by rw[beq_iff_eq];omega] at hf
    refine qC (f83 x 5 m.2.1 m.2.2.2.1 hz) ?_;unfold jO;rw[hf];rfl
   ·rw[show((x.sess.length:Int)==x.slots)=false from by rw[beq_eq_false_iff_ne];omega] at hf
    obtain⟨hh,ho,hz2,he⟩:=go hf (y:=withS x (jG x m)) (by rw[hs])
    have hb:x.sess.length+1<=bound:=by have:=hz.sess;unfold aQ at this;unfold bound;omega
    rw[he];refine qN hl ?_;refine qP hb ?_
    refine qC (f95 (withS x (jG x m)) m hh) ?_;refine qC (f83 _ 3 m.2.1 m.2.2.2.1 hz2) ?_;refine qC (f84 (cG _ m).tree hz2.leaves) ?_;refine qC (f238 (cG _ m).tree m.tree) ?_;refine qC (f99 _ (gW (cG _ m).tree m.tree) m hz2 ho (Nat.le_trans (lM _ _) (by decide)) R.idn.1 hv) ?_;rfl
 | false=>
 (first | refine qF k2 ?_ | refine qf ?_)
 have R2:∀ k:Nat,k<x.sess.length->RecOk (withS x (AC x (k:Int))) m/\SzN (withS x (AC x (k:Int)))/\withS x (AC x (k:Int))=jL x k:=fun k hk=>by
  rw[DZ hk hz.sess];exact⟨R.gone k,y9 hz k,rfl⟩
 cases k3:m.1==3 with
 | true=>
  have k4:(m.1==4)=false:=HA k3 (by decide)
  have k5:(m.1==5)=false:=HA k3 (by decide)
  (first | refine qT k3 ?_ | refine qt ?_);refine qC (f21 x m.2.1 false hz.sess) ?_
  rcases oV x m false with ⟨hf,e | ⟨k,hk,e,hn2⟩⟩ | ⟨k,hk,e,hn2,hf⟩<;>rw[e]
  ·refine qt ?_;rw[jP k0 k1 k2 k4 hf];rfl
  ·rw[jP k0 k1 k2 k4 hf];refine qN (show ¬ (k:Int)<0 by omega) ?_;refine qz ?_;refine(aG hk).trans ?_;refine(aG hk).trans ?_;refine qT hn2 ?_;rfl
  ·rw[tO k0 k1 k2 k4 hf];refine qN (show ¬ (k:Int)<0 by omega) ?_;refine qz ?_;refine(aG hk).trans ?_;refine(aG hk).trans ?_;refine qF hn2 ?_
   obtain⟨Rg,hg,eg⟩:=R2 k hk
   have hz2:=iZ hg m
   refine(uC hk hz.sess).trans ?_;refine qC (f94 (withS x (AC x (k:Int))) m (Hears.of hg hm Rg) R.part) ?_;refine qC (f83 (c6 (withS x (AC x (k:Int))) m) 4 m.2.1 m.2.2.2.1 hz2) ?_;refine qC (f98 m.leaves hm.list) ?_
   refine qC (f99 (c6 (withS x (AC x (k:Int))) m) m.leaves m hz2 Rg.brought hm.list R.idn.1 hv) ?_;unfold mL;rw[k5,k4,<- eg];rfl
 | false=>
 (first | refine qF k3 ?_ | refine qf ?_)
 cases k4:m.1==4 with
 | true=>
  have k5:(m.1==5)=false:=HA k4 (by decide)
  (first | refine qT k4 ?_ | refine qt ?_);refine qC (f21 x m.2.1 true hz.sess) ?_
  rcases oV x m true with ⟨hf,e | ⟨k,hk,e,hn2⟩⟩ | ⟨k,hk,e,hn2,hf⟩<;>rw[e]
  ·refine qt ?_;rw[jP k0 k1 k2 k4 hf];rfl
  ·rw[jP k0 k1 k2 k4 hf];refine qN (show ¬ (k:Int)<0 by omega) ?_;refine qz ?_;refine(aG hk).trans ?_;refine(aG hk).trans ?_;refine qT hn2 ?_;rfl
  ·rw[tO k0 k1 k2 k4 hf];refine qN (show ¬ (k:Int)<0 by omega) ?_;refine qz ?_;refine(aG hk).trans ?_;refine(aG hk).trans ?_;refine qF hn2 ?_
   obtain⟨Rg,hg,eg⟩:=R2 k hk
   refine(uC hk hz.sess).trans ?_;refine qC (f94 (withS x (AC x (k:Int))) m (Hears.of hg hm Rg) R.part) ?_;unfold mL;rw[k5,k4,<- eg];rfl
 | false=>
  have k5:(m.1==5)=true:=by
   have h2:=R.msg
   unfold dQ oD at h2
   simp only[Bool.and_eq_true,bA] at h2
   have h3:=h2.1.1
   rw[beq_eq_false_iff_ne] at k0 k1 k2 k3 k4
   rw[beq_iff_eq];omega
  (first | refine qF k4 ?_ | refine qf ?_);refine qC (f21 x m.2.1 false hz.sess) ?_
  rcases oV x m false with ⟨hf,e | ⟨k,hk,e,hn2⟩⟩ | ⟨k,hk,e,hn2,hf⟩<;>rw[e]
  ·refine qt ?_;rw[jP k0 k1 k2 k4 hf];rfl
  ·rw[jP k0 k1 k2 k4 hf];refine qN (show ¬ (k:Int)<0 by omega) ?_;refine qz ?_;refine(aG hk).trans ?_;refine(aG hk).trans ?_;refine qT hn2 ?_;rfl
  ·rw[tO k0 k1 k2 k4 hf];refine qN (show ¬ (k:Int)<0 by omega) ?_;refine qz ?_;refine(aG hk).trans ?_;refine(aG hk).trans ?_;refine qF hn2 ?_
   obtain⟨Rg,hg,eg⟩:=R2 k hk
   refine(uC hk hz.sess).trans ?_;unfold mL;rw[k5,<- eg];rfl
end Go.Abs.Xz
namespace Go.Abs.Xz
open Go Go.Abs
-- how many cells lie in what comes back
theorem LC(xs:List jN):cnT (.sl K147) xs=3*(xs.length:Int):=iS (c:=cnR K147) (n:=3) (fun x=>rfl) xs
theorem j8(x:NodeT):cnS K38 x=6*(x.2.2.1.length:Int)+(2*(x.2.2.2.1.length:Int)+(1*(x.2.2.2.2.1.length:Int)+(cnT (.sl K27) x.log.2.2.1+(1*(x.got.length:Int)+(1*(x.acked.length:Int)+(cnT (.sl K28) x.seen+(4*(x.sess.length:Int)+(3*(x.rises.length:Int)+0)))))))):=by
 rw[<- MH,<- J0,<- xO,<- xO,<- xO,<- N6,<- LC];rfl
theorem HM{t u:List bK}(h:u.length=t.length)(h2:∀ i,(gt u i).1.length=(gt t i).1.length):cnT (.sl K28) u<=cnT (.sl K28) t:=
 AP (α:=bK) (c:=cnR K28) u t h fun j hj=>by
  have e:∀ r:bK,cnR K28 r=1*(r.1.length:Int)+0:=fun r=>by rw[<- xO];rfl
  rw[e,e,h2 j];omega
theorem I9(x:NodeT)(s:aE):(tkP x s).1.length<=5/\(tkP x s).2.1.length<=5:=by
 unfold tkP prune
 cases aN (cU x.state s)with
 | true=>exact qS _ _
 | false=>exact qS _ _
theorem DI(x:NodeT)(s:aE):cnS K38 (iW x s)<=cnS K38 x+100:=by
 rw[j8,j8]
 have h1:=I9 x s
 have h2:(cT (tkP x s)).1.length<=4:=FJ _
 have h3:cnT (.sl K28) (tkS x s)<=cnT (.sl K28) x.seen:=HM (eE _ _ _) (gX _ _ _)
 have h4:(tkR x s).length=x.rises.length:=gP _ _ _ _
 show 6*(((tkP x s).1.length:Nat):Int)+(2*(((tkP x s).2.1.length:Nat):Int)+(1*(((cT (tkP x s)).1.length:Nat):Int)+(cnT (.sl K27) x.log.2.2.1+(1*(x.got.length:Int)+(1*(x.acked.length:Int)+(cnT (.sl K28) (tkS x s)+(4*(x.sess.length:Int)+(3*(((tkR x s).length:Nat):Int)+0))))))))<=_
 omega
theorem vA(x:NodeT)(m:MsgT):cnS K38 (cG x m)<=cnS K38 x+100:=by
 have h:=DI (heard0 x m) pC
 have h3:cnT (.sl K28) (bH x.seen m.2.1 m.marks)<=cnT (.sl K28) x.seen:=HM (eE _ _ _) (gX _ _ _)
 have h4:cnS K38 (heard0 x m)<=cnS K38 x:=by
  rw[j8,j8]
  show 6*(x.2.2.1.length:Int)+(2*(x.2.2.2.1.length:Int)+(1*(x.2.2.2.2.1.length:Int)+(cnT (.sl K27) x.log.2.2.1+(1*(x.got.length:Int)+(1*(((cQ x.acked m.2.1 (mxI false (gt m.vec x.1.toNat).1 (dZ x.log))).length:Nat):Int)+(cnT (.sl K28) (bH x.seen m.2.1 m.marks)+(4*(x.sess.length:Int)+(3*(x.rises.length:Int)+0))))))))<=_
  rw[fP];omega
 unfold cG;omega
theorem w8(x:NodeT)(m:MsgT):cnS K38 (c6 x m)<=cnS K38 x+200:=by
 have h1:=vA x m
 have h2:=DI (cG x m) m.part
 have h3:∀ y:NodeT,cnS K38 (gotUp y m)=cnS K38 y:=fun y=>by
  rw[j8,j8]
  show 6*(y.2.2.1.length:Int)+(2*(y.2.2.2.1.length:Int)+(1*(y.2.2.2.2.1.length:Int)+(cnT (.sl K27) y.log.2.2.1+(1*(((cQ y.got m.2.1 m.hi).length:Nat):Int)+(1*(y.acked.length:Int)+(cnT (.sl K28) y.seen+(4*(y.sess.length:Int)+(3*(y.rises.length:Int)+0))))))))=_
  rw[fP]
 unfold c6;rw[h3];omega
theorem DC(x:NodeT){ss:List gC}(h:ss.length<=x.sess.length+1):cnS K38 (withS x ss)<=cnS K38 x+4:=by
 rw[j8,j8]
 show 6*(x.2.2.1.length:Int)+(2*(x.2.2.2.1.length:Int)+(1*(x.2.2.2.2.1.length:Int)+(cnT (.sl K27) x.log.2.2.1+(1*(x.got.length:Int)+(1*(x.acked.length:Int)+(cnT (.sl K28) x.seen+(4*(ss.length:Int)+(3*(x.rises.length:Int)+0))))))))<=_
 omega
theorem MQ(x:NodeT)(k:Nat):cnS K38 (jL x k)<=cnS K38 x+4:=DC x (by rw[List.length_append,List.length_take,List.length_drop];omega)
structure RecSz (x:NodeT) (r:HE):Prop where
 node:SzN r.1
 cn:cnS K38 r.1<=cnS K38 x+300
 len:r.2.1.length<=1
 msg:∀ q∈r.2.1,SzM q
theorem xK{q:MsgT}(h:SzM q):∀ y∈[q],SzM y:=fun y hy=>by rw[List.mem_singleton.1 hy];exact h
theorem yO:∀ y∈([]:List MsgT),SzM y:=fun y hy=>by cases hy
theorem HW{x:NodeT}(h:SzN x)(a b c:Int):SzM (LW x a b c):=⟨Nat.zero_le _,h.got,Nat.zero_le _,tW,Nat.le_trans (kA _) (by decide)⟩
theorem IY{o x:NodeT}(h:SzN o)(m:MsgT):SzM (CK o x m):=⟨h.leaves,h.got,Nat.le_trans (lM _ _) (by decide),lL _ _,Nat.le_trans (kA _) (by decide)⟩
theorem MA{o x:NodeT}(h:SzN o){m:MsgT}(hm:SzM m):SzM (PL o x m):=⟨Nat.zero_le _,h.got,hm.list,lL _ _,Nat.le_trans (kA _) (by decide)⟩
theorem IZ{x:NodeT}{m:MsgT}(hz:SzN x)(hm:SzM m)(R:RecOk x m):RecSz x (jO x m):=by
 unfold jO
 cases hf:jW x m with
 | true=>exact⟨hz,by show cnS K38 x<=_;omega,Nat.le_refl _,xK (HW hz _ _ _)⟩
 | false=>
  have h1:=N0 hz R.node m
  have h2:=vA (withS x (gK x m)) m
  have h3:=DC x (ss:=gK x m) (by
   unfold gK nU jG
   cases decide (dF x.sess m.2.1 true>=0)with
   | true=>show(List.set _ _ _).length<=_;rw[List.length_set];omega
   | false=>show(x.sess++[_]).length<=_;rw[List.length_append];exact Nat.le_refl _)
  exact⟨h1,by show cnS K38 (FP x m)<=_;unfold FP;omega,Nat.le_refl _,xK (IY h1 m)⟩
theorem I0{x:NodeT}{m:MsgT}(hz:SzN x)(hm:SzM m)(k:Nat):RecSz x (mL x m k):=by
 have h1:=y9 hz k
 have h2:=MQ x k
 have h3:=iZ h1 m
 have h4:=w8 (jL x k) m
 unfold mL
 cases m.1==5 with
 | true=>exact⟨h1,by show cnS K38 (jL x k)<=_;omega,Nat.zero_le _,yO⟩
 | false=>
  cases m.1==4 with
  | true=>exact⟨h3,by show cnS K38 (c6 (jL x k) m)<=_;omega,Nat.zero_le _,yO⟩
  | false=>exact⟨h3,by show cnS K38 (c6 (jL x k) m)<=_;omega,Nat.le_refl _,xK (MA h3 hm)⟩
theorem CM{x:NodeT}{m:MsgT}(hz:SzN x)(hm:SzM m):RecSz x (dN x m):=by
 unfold dN
 cases ho:iB x m with
 | false=>exact⟨hz,by show cnS K38 x<=_;omega,Nat.zero_le _,yO⟩
 | true=>
  have R:=yE ho
  show RecSz x (rZ x m)
  unfold rZ
  have h3:=iZ hz m
  have h4:=w8 x m
  have h5:=hU hz m
  have h6:=vA x m
  cases m.1==0 with
  | true=>exact⟨h3,by show cnS K38 (c6 x m)<=_;omega,Nat.le_refl _,xK (HW h3 _ _ _)⟩
  | false=>
   cases m.1==1 with
   | true=>exact⟨h5,by show cnS K38 (cG x m)<=_;omega,Nat.zero_le _,yO⟩
   | false=>
    cases m.1==2 with
    | true=>exact IZ hz hm R
    | false=>
     cases decide (rJ x m (m.1==4)<0)with
     | true=>exact⟨hz,by show cnS K38 x<=_;omega,Nat.zero_le _,yO⟩
     | false=>exact I0 hz hm _
end Go.Abs.Xz
set_option maxHeartbeats 4000000
namespace Go.Abs.Xz
open Go Go.Abs
def oA:Option MsgT->Out
 | none=>⟨[⟨K43,RV⟩,⟨K4,(false,())⟩],[]⟩
 | some m=>⟨[⟨K43,m⟩,⟨K4,(true,())⟩],[]⟩
def prA(x:Int×RdT):Rows [K3]×Rows [K180]:=(((x.1,()),()),(x.2,()))
def prN(x:List aH×RdT):Rows [K28]×Rows [K180]:=(((x.1,()),()),(x.2,()))
def xB(x:Int×RdT):Rows [K3]×Rows [K267]:=(((x.1,()),()),(x.2,()))
def FZ(x:List aH×RdT):Rows [K28]×Rows [K267]:=(((x.1,()),()),(x.2,()))
def OI(s:aE)(k:Bool):Rows [K27,K4]×Rows []:=((s,(k,()),()),())
theorem KT(o:Option aE):mX o=⟨[⟨K27,o.getD pC⟩,⟨K4,(o.isSome,())⟩],[]⟩:=by cases o<;>rfl
theorem O3(b:List aH):SzS ((bX b).getD pC):=by
 cases h:bX b with
 | none=>exact tW
 | some s=>exact F1 (tD h)
theorem rng{a b c d:Prop}[Decidable a][Decidable b](h1:a)(h2:b):(decide a&&decide b)=true:=by rw[decide_eq_true h1,decide_eq_true h2];rfl
theorem f35(b:List aH)(hb:B8 b)(hl:b.length<=aQ):Ran p 6 35 [vf K22 (b,())] (oA (dG b)):=go35 fun n hn=>by
 have hs:b.length<=1048576:=hl
 by_cases h2:i64.wrap ((b.length:Int) - 4)<2
 ·exact Ev.now fun aA=>by unfold T35;refine qP h2 ?_;rw[show dG b=none by unfold dG;rw[decide_eq_true h2];rfl];rfl
 have h6:6<=b.length:=by rw[IntKind.wrap_i64] at h2;omega
 have e4:i64.wrap ((b.length:Int) - 4)=((b.length - 4:Nat):Int):=by rw[IntKind.wrap_i64];omega
 have hlen2:decide (i64.wrap ((b.length:Int) - 4)<2)=false:=decide_eq_false h2
 have ha:(decide ((0:Int)<=2)&&decide ((2:Int)<=(b.length:Int)))=true:=rng (c:=True) (d:=True) (by omega) (by omega)
 have hc4:(decide ((0:Int)<=((b.length - 4:Nat):Int))&&decide (((b.length - 4:Nat):Int)<=(b.length:Int)))=true:=rng (c:=True) (d:=True) (by omega) (by omega)
 cases hk:bV (b.take 2) rk2 with
 | false=>
  exact Ev.now fun aA=>by
   unfold T35;refine qN h2 ?_;refine qT ha ?_;refine qT (show(!bV (b.take 2) rk2)=true by rw[hk];rfl) ?_
   rw[show dG b=none by unfold dG;rw[hlen2,hk];rfl];rfl
 | true=>
 have hr:=PK hb hl h6
 have G:=PJ RP hr
 have lo:=G.e.lo;have hi:=G.e.hi;have nn:=G.nn
 rw[G.list] at hi
 have hlen:(mR b).1.length=b.length - 4:=by show(b.take (b.length - 4)).length=_;rw[List.length_take];omega
 rw[hlen] at hi
 have head:∀ {R:Option Out} (aA:Nat),(bif(mgE NI (mR b)).2.2.2.1 then some (oA none)else bif decide ((mgE NI (mR b)).1>i64.wrap (((b.length - 4:Nat):Int) - (mgE NI (mR b)).2.2.1))then some (oA none)else
   bif decide (0<=i64.wrap ((mgE NI (mR b)).2.2.1+(mgE NI (mR b)).1))&&decide (i64.wrap ((mgE NI (mR b)).2.2.1+(mgE NI (mR b)).1)<=(b.length:Int))then
   bif decide (0<=(mgE NI (mR b)).2.2.1)&&decide ((mgE NI (mR b)).2.2.1<=(((i64.wrap ((mgE NI (mR b)).2.2.1+(mgE NI (mR b)).1)).toNat:Nat):Int))then
   (((aI p n) 133 [vf K22 (((b.take (i64.wrap ((mgE NI (mR b)).2.2.1+(mgE NI (mR b)).1)).toNat).drop (mgE NI (mR b)).2.2.1.toNat),())]).bind (cP [K27,K4] [])).bind fun o11=>(bif !(vB o11.1.2.1.1)then some (oA none)else
   (((aI p n) 134 [.ref ⟨K180,((mgE NI (mR b)).2.1,i64.wrap ((mgE NI (mR b)).2.2.1+(mgE NI (mR b)).1),(mgE NI (mR b)).2.2.2.1,())⟩, vf K3 ((5:Int),())]).bind (cP [K3] [K180])).bind fun o12=>
    iter (c35_25 (aI p n) aA b (prA (aK (rdK (mR b) 0))) o11 o12 (prA (aK (rdK (mR b) 1))) (prA (aK (rdK (mR b) 2))) (prA (aK (rdK (mR b) 3))) (prA (aK (rdK (mR b) 4))) (prN (mgA NI (mR b))) (prA (mgB NI (mR b))) (prN (mgC NI (mR b))) (prN (mgD NI (mR b)))) aA ((0:Int),(@vL K5 o12.2.1.1),(vI o12.2.1.2.1),(vB o12.2.1.2.2.1),([]:List aL)))
   else none else none)=R->T35 (aI p n) aA b=R:=by
  intro R aA hR
  unfold T35;refine qN h2 ?_;refine qT ha ?_;refine qF (show(!bV (b.take 2) rk2)=false by rw[hk];rfl) ?_
  rw[show i64.wrap (((List.length (α:=Row K5) b:Nat):Int) - 4)=((b.length - 4:Nat):Int)from e4];refine qT hc4 ?_
  refine qR (f131 (rdK (mR b) 0) (hr.k 0)) ?_;refine qR (f131 (rdK (mR b) 1) (hr.k 1)) ?_;refine qR (f131 (rdK (mR b) 2) (hr.k 2)) ?_;refine qR (f131 (rdK (mR b) 3) (hr.k 3)) ?_;refine qR (f131 (rdK (mR b) 4) (hr.k 4)) ?_
  refine qR (f132 (rdK (mR b) 5) 4 (hr.k 5) (by omega)) ?_;refine qR (f131 (mgA NI (mR b)).2 G.a) ?_;refine qR (f132 (mgB NI (mR b)).2 5 G.b (by omega)) ?_;refine qR (f132 (mgC NI (mR b)).2 4 G.c (by omega)) ?_;refine qR (f131 (mgD NI (mR b)).2 G.d) ?_
  exact hR
 have un:lJ NI (mR b)=true->dG b=none:=fun h=>by unfold dG;rw[hlen2,hk,h];rfl
 have hbadE:lJ NI (mR b)=((mgE NI (mR b)).2.2.2.1||decide ((mgE NI (mR b)).1>((b.length - 4:Nat):Int) - (mgE NI (mR b)).2.2.1)):=by unfold lJ;rw[G.list,hlen]
 have ew:i64.wrap (((b.length - 4:Nat):Int) - (mgE NI (mR b)).2.2.1)=((b.length - 4:Nat):Int) - (mgE NI (mR b)).2.2.1:=by rw[IntKind.wrap_i64];omega
 have ep:i64.wrap ((mgE NI (mR b)).2.2.1+(mgE NI (mR b)).1)=(mgE NI (mR b)).2.2.1+(mgE NI (mR b)).1:=by rw[IntKind.wrap_i64];omega
 cases hE:(mgE NI (mR b)).2.2.2.1 with
 | true=>
  have:=un (by rw[hbadE,hE];rfl)
  exact Ev.now fun aA=>head aA (by rw[hE,this];rfl)
 | false=>
 by_cases hgt:(mgE NI (mR b)).1>((b.length - 4:Nat):Int) - (mgE NI (mR b)).2.2.1
 ·have:=un (by rw[hbadE,hE,decide_eq_true hgt];rfl)
  exact Ev.now fun aA=>head aA (by rw[hE,ew,decide_eq_true hgt,this];rfl)
 have hbad:lJ NI (mR b)=false:=by rw[hbadE,hE,decide_eq_false hgt];rfl
 have hR:=LZ G hbad
 have hp:(b.take ((mgE NI (mR b)).2.2.1+(mgE NI (mR b)).1).toNat).drop (mgE NI (mR b)).2.2.1.toNat=eM NI (mR b):=by
  unfold eM;rw[G.list]
  show _=((b.take (b.length - 4)).take _).drop _
  rw[List.take_take,Nat.min_eq_left (by omega)]
 have hpb:ByL (eM NI (mR b)):=by rw[<- hp];exact hb.byL.sub fun x hx=>List.mem_of_mem_take (List.mem_of_mem_drop hx)
 have hpl:(eM NI (mR b)).length<=aQ:=by rw[<- hp,List.length_drop,List.length_take];show _<=1048576;omega
 have i1:(decide (0<=(mgE NI (mR b)).2.2.1+(mgE NI (mR b)).1)&&decide ((mgE NI (mR b)).2.2.1+(mgE NI (mR b)).1<=(b.length:Int)))=true:=rng (c:=True) (d:=True) (by omega) (by omega)
 have i2:(decide (0<=(mgE NI (mR b)).2.2.1)&&decide ((mgE NI (mR b)).2.2.1<=((((mgE NI (mR b)).2.2.1+(mgE NI (mR b)).1).toNat:Nat):Int)))=true:=rng (c:=True) (d:=True) (by omega) (by omega)
 have hg:=f133 (eM NI (mR b)) hpb.b8 hpl
 cases hst:bX (eM NI (mR b))with
 | none=>
  have e:dG b=none:=by unfold dG;rw[hlen2,hk,hbad,hst];rfl
  rw[hst,<- hp] at hg
  exact Ev.now fun aA=>head aA (by
   rw[hE,ew,ep,decide_eq_false hgt,e];refine qf ?_;refine qf ?_;refine qT i1 ?_;refine qT i2 ?_;refine qD hg ?_;rfl)
 | some s=>
 rw[hst,<- hp] at hg
 have hso:=tD hst
 have e:dG b=bif(miF b).2.2.2.1||(!dQ (miM b s)|| !bV (bE (miM b s)) b)then none else some (miM b s):=by unfold dG;rw[hlen2,hk,hbad,hst];rfl
 have rC:RdOk (miC b).2:=hR.cnt 5
 have rG:∀ k,RdOk (cF dL (miC b).2 k).2:=m9 (f:=dL) (fun r h=>RdOk.floor h) rC
 have bC:0<=(miC b).1/\(miC b).1<=5:=pN _ (by decide)
 have lF:(miF b).1.length<=5:=by unfold miF;rw[hO];omega
 have hz:SzM (miM b s):=L0 G (F1 hso) (by omega)
 have inn:It (fun aA (_:Unit)=>c35_25 (aI p n) aA b (prA (aK (rdK (mR b) 0))) (OI s true) (prA (miC b)) (prA (aK (rdK (mR b) 1))) (prA (aK (rdK (mR b) 2))) (prA (aK (rdK (mR b) 3))) (prA (aK (rdK (mR b) 4))) (prN (mgA NI (mR b))) (prA (mgB NI (mR b))) (prN (mgC NI (mR b))) (prN (mgD NI (mR b)))) (rdF 0 (cF dL (miC b).2 0)) (fun _=>some (oA (dG b))):=by
  refine It.run (fun k=>rdF k (cF dL (miC b).2 k)) (miC b).1.toNat (fun k hk aA u rec=>?_) (It.stop fun aA u rec=>?_)
  ·have hln:=hO dL (miC b).2 k
   have hbd:(cF dL (miC b).2 k).1.length+1<=bound:=by unfold bound;omega
   show c35_25 (aI p n) aA b (prA (aK (rdK (mR b) 0))) (OI s true) (prA (miC b)) (prA (aK (rdK (mR b) 1))) (prA (aK (rdK (mR b) 2))) (prA (aK (rdK (mR b) 3))) (prA (aK (rdK (mR b) 4))) (prN (mgA NI (mR b))) (prA (mgB NI (mR b))) (prN (mgC NI (mR b))) (prN (mgD NI (mR b))) rec (rdF k (cF dL (miC b).2 k))=rec (rdF (k+1) (cF dL (miC b).2 (k+1)))
   unfold c35_25 rdF;dsimp only;rw[aD (show k<9223372036854775807 by omega)];refine qP (show(k:Int)<(miC b).1 by omega) ?_;refine qR (f131 (cF dL (miC b).2 k).2 (rG k)) ?_;refine qR (f131 (aK (cF dL (miC b).2 k).2).2 (rG k).num) ?_;refine qP hbd ?_;rfl
  ·show c35_25 (aI p n) aA b (prA (aK (rdK (mR b) 0))) (OI s true) (prA (miC b)) (prA (aK (rdK (mR b) 1))) (prA (aK (rdK (mR b) 2))) (prA (aK (rdK (mR b) 3))) (prA (aK (rdK (mR b) 4))) (prN (mgA NI (mR b))) (prA (mgB NI (mR b))) (prN (mgC NI (mR b))) (prN (mgD NI (mR b))) rec (rdF (miC b).1.toNat (miF b))=_
   unfold c35_25 rdF;dsimp only;refine qN (show ¬ ((((miC b).1.toNat:Nat):Int)<(miC b).1) by omega) ?_
   cases hbd:(miF b).2.2.2.1 with
   | true=>refine qt ?_;rw[show dG b=none by rw[e,hbd];rfl];rfl
   | false=>
    refine qf ?_;refine qC (f30 (miM b s) hz) ?_
    cases hm:dQ (miM b s)with
    | false=>refine qt ?_;rw[show dG b=none by rw[e,hbd,hm];rfl];rfl
    | true=>
     refine qf ?_;refine qC (f36 (miM b s) hz) ?_;refine qC (f135 (bE (miM b s)) b) ?_
     cases he:bV (bE (miM b s)) b with
     | false=>refine qt ?_;rw[show dG b=none by rw[e,hbd,hm,he];rfl];rfl
     | true=>refine qf ?_;rw[show dG b=some (miM b s) by rw[e,hbd,hm,he];rfl];rfl
 have hcn:Ran p 3 134 [.ref ⟨K180,((mgE NI (mR b)).2.1,(mgE NI (mR b)).2.2.1+(mgE NI (mR b)).1,false,())⟩, vf K3 ((5:Int),())] ⟨[⟨K3,((miC b).1,())⟩],[⟨K180,(miC b).2⟩]⟩:=by
  have h:=f134 (mgR NI (mR b)) 5 hR
  rw[show mgR NI (mR b)=((mgE NI (mR b)).2.1,(mgE NI (mR b)).2.2.1+(mgE NI (mR b)).1,false,()) by unfold mgR;rw[hE]] at h
  rw[show miC b=eD ((mgE NI (mR b)).2.1,(mgE NI (mR b)).2.2.1+(mgE NI (mR b)).1,false,()) 5 by unfold miC mgR;rw[hE]]
  exact h
 exact Ev.eq (fun aA=>head aA (by
  rw[hE,ew,ep,decide_eq_false hgt];refine qf ?_;refine qf ?_;refine qT i1 ?_;refine qT i2 ?_;refine qD hg ?_;refine qf ?_
  refine qR hcn ?_;rfl)) (inn.ev (i:=()) rfl)
end Go.Abs.Xz
set_option maxHeartbeats 4000000
namespace Go.Abs.Xz
open Go Go.Abs
theorem f130(b:List aH)(hb:B8 b)(hl:b.length<=aQ):Ran p 7 130 [vf K22 (b,())] (oA (dG b)):=go130 fun n hn=>by
 rw[<- OS hb.byL]
 have hs:b.length<=1048576:=hl
 by_cases h2:(b.length:Int)<6
 ·exact Ev.now fun aA=>by unfold T130;refine qP h2 ?_;rw[show fF b=none by unfold fF;rw[decide_eq_true h2];rfl];rfl
 have h6:6<=b.length:=by omega
 have e4:i64.wrap ((b.length:Int) - 4)=((b.length - 4:Nat):Int):=by rw[IntKind.wrap_i64];omega
 have hlen2:decide ((b.length:Int)<6)=false:=decide_eq_false h2
 have hc4:(decide ((0:Int)<=((b.length - 4:Nat):Int))&&decide (((b.length - 4:Nat):Int)<=(b.length:Int)))=true:=rng (c:=True) (d:=True) (by omega) (by omega)
 have hr:=PK hb hl h6
 have hbt:ByL (b.take (b.length - 4)):=hb.byL.sub fun x hx=>List.mem_of_mem_take hx
 have hlt:(b.take (b.length - 4)).length<=aQ:=by rw[List.length_take];show _<=1048576;omega
 have hsum:=f265 (b.take (b.length - 4)) hbt hlt
 have eT:List.drop (α:=Row K5) ((b.length - 4:Nat):Int).toNat (List.take (α:=Row K5) b.length b)=b.drop (b.length - 4):=by
  show List.drop ((b.length - 4:Nat):Int).toNat (List.take b.length b)=b.drop (b.length - 4)
  rw[List.take_length,Int.toNat_natCast]
 cases hk:bV (rP (b.take (b.length - 4))) (b.drop (b.length - 4))with
 | false=>
  exact Ev.now fun aA=>by
   unfold T130;refine qN h2 ?_;rw[show i64.wrap (((List.length (α:=Row K5) b:Nat):Int) - 4)=((b.length - 4:Nat):Int)from e4];refine qT hc4 ?_;refine qC hsum ?_;refine qT hc4 ?_
   refine qT (show(!bV (rP (b.take (b.length - 4))) (List.drop (α:=Row K5) ((b.length - 4:Nat):Int).toNat (List.take (α:=Row K5) b.length b)))=true by rw[eT,hk];rfl) ?_
   rw[show fF b=none by unfold fF;rw[hlen2,hk];rfl];rfl
 | true=>
 have G:=PJ RO hr
 have lo:=G.e.lo;have hi:=G.e.hi;have nn:=G.nn
 have hlen:(mR b).1.length=b.length - 4:=by show(b.take (b.length - 4)).length=_;rw[List.length_take];omega
 have hle:(mgE NS (mR b)).2.1.length=b.length - 4:=by rw[G.list];exact hlen
 have head:∀ {R:Option Out} (aA:Nat),(bif(mgE NS (mR b)).2.2.2.1 then some (oA none)else bif decide ((mgE NS (mR b)).1>i64.wrap ((((mgE NS (mR b)).2.1.length:Nat):Int) - (mgE NS (mR b)).2.2.1))then some (oA none)else
   bif decide (0<=i64.wrap ((mgE NS (mR b)).2.2.1+(mgE NS (mR b)).1))&&decide (i64.wrap ((mgE NS (mR b)).2.2.1+(mgE NS (mR b)).1)<=(((mgE NS (mR b)).2.1.length:Nat):Int))then
   bif decide (0<=(mgE NS (mR b)).2.2.1)&&decide ((mgE NS (mR b)).2.2.1<=(((i64.wrap ((mgE NS (mR b)).2.2.1+(mgE NS (mR b)).1)).toNat:Nat):Int))then
   (((aI p n) 268 [vf K22 ((((mgE NS (mR b)).2.1.take (i64.wrap ((mgE NS (mR b)).2.2.1+(mgE NS (mR b)).1)).toNat).drop (mgE NS (mR b)).2.2.1.toNat),())]).bind (cP [K27,K4] [])).bind fun o12=>
   (((aI p n) 267 [.ref ⟨K267,((mgE NS (mR b)).2.1,i64.wrap ((mgE NS (mR b)).2.2.1+(mgE NS (mR b)).1),(mgE NS (mR b)).2.2.2.1,())⟩, vf K3 ((2:Int),())]).bind (cP [K28] [K267])).bind fun o13=>
    iter (c130_22 (aI p n) aA b (FZ (mgD NS (mR b))) o12 o13 (xB (aK (rdK (mR b) 0))) (xB (aK (rdK (mR b) 1))) (xB (aK (rdK (mR b) 2))) (xB (aK (rdK (mR b) 3))) (xB (aK (rdK (mR b) 4))) (FZ (mgA NS (mR b))) (xB (mgB NS (mR b))) (FZ (mgC NS (mR b)))) aA ((0:Int),([]:List aL))
   else none else none)=R->T130 (aI p n) aA b=R:=by
  intro R aA hR
  unfold T130;refine qN h2 ?_;rw[show i64.wrap (((List.length (α:=Row K5) b:Nat):Int) - 4)=((b.length - 4:Nat):Int)from e4];refine qT hc4 ?_;refine qC hsum ?_;refine qT hc4 ?_
  refine qF (show(!bV (rP (b.take (b.length - 4))) (List.drop (α:=Row K5) ((b.length - 4:Nat):Int).toNat (List.take (α:=Row K5) b.length b)))=false by rw[eT,hk];rfl) ?_
  refine qT hc4 ?_
  refine qR (f266 (rdK (mR b) 0) (hr.k 0)) ?_;refine qR (f266 (rdK (mR b) 1) (hr.k 1)) ?_;refine qR (f266 (rdK (mR b) 2) (hr.k 2)) ?_;refine qR (f266 (rdK (mR b) 3) (hr.k 3)) ?_;refine qR (f266 (rdK (mR b) 4) (hr.k 4)) ?_
  refine qR (f267 (rdK (mR b) 5) 1 1 rfl (hr.k 5) (by omega)) ?_;refine qR (f266 (mgA NS (mR b)).2 G.a) ?_;refine qR (f267 (mgB NS (mR b)).2 1 1 rfl G.b (by omega)) ?_;refine qR (f267 (mgC NS (mR b)).2 1 1 rfl G.c (by omega)) ?_;refine qR (f266 (mgD NS (mR b)).2 G.d) ?_
  exact hR
 have un:lJ NS (mR b)=true->fF b=none:=fun h=>by unfold fF;rw[hlen2,hk,h];rfl
 have hbadE:lJ NS (mR b)=((mgE NS (mR b)).2.2.2.1||decide ((mgE NS (mR b)).1>(((mgE NS (mR b)).2.1.length:Nat):Int) - (mgE NS (mR b)).2.2.1)):=rfl
 have ew:i64.wrap ((((mgE NS (mR b)).2.1.length:Nat):Int) - (mgE NS (mR b)).2.2.1)=(((mgE NS (mR b)).2.1.length:Nat):Int) - (mgE NS (mR b)).2.2.1:=by rw[IntKind.wrap_i64];omega
 have ep:i64.wrap ((mgE NS (mR b)).2.2.1+(mgE NS (mR b)).1)=(mgE NS (mR b)).2.2.1+(mgE NS (mR b)).1:=by rw[IntKind.wrap_i64];omega
 cases hE:(mgE NS (mR b)).2.2.2.1 with
 | true=>
  have:=un (by rw[hbadE,hE];rfl)
  exact Ev.now fun aA=>head aA (by rw[hE,this];rfl)
 | false=>
 by_cases hgt:(mgE NS (mR b)).1>(((mgE NS (mR b)).2.1.length:Nat):Int) - (mgE NS (mR b)).2.2.1
 ·have:=un (by rw[hbadE,hE,decide_eq_true hgt];rfl)
  exact Ev.now fun aA=>head aA (by rw[hE,ew,decide_eq_true hgt,this];rfl)
 have hbad:lJ NS (mR b)=false:=by rw[hbadE,hE,decide_eq_false hgt];rfl
 have hR:=LZ G hbad
 have hpb:ByL (eM NS (mR b)):=G.e.b8.byL.sub fun x hx=>List.mem_of_mem_take (List.mem_of_mem_drop hx)
 have hpl:(eM NS (mR b)).length<=aQ:=by unfold eM;rw[List.length_drop,List.length_take];show _<=1048576;omega
 have i1:(decide (0<=(mgE NS (mR b)).2.2.1+(mgE NS (mR b)).1)&&decide ((mgE NS (mR b)).2.2.1+(mgE NS (mR b)).1<=(((mgE NS (mR b)).2.1.length:Nat):Int)))=true:=rng (c:=True) (d:=True) (by omega) (by omega)
 have i2:(decide (0<=(mgE NS (mR b)).2.2.1)&&decide ((mgE NS (mR b)).2.2.1<=((((mgE NS (mR b)).2.2.1+(mgE NS (mR b)).1).toNat:Nat):Int)))=true:=rng (c:=True) (d:=True) (by omega) (by omega)
 have hg:=f268 (eM NS (mR b)) hpb.b8 hpl
 rw[IR hpb,KT] at hg
 have hz0:=O3 (eM NS (mR b))
 have e:fF b=bif(bX (eM NS (mR b))).isNone||((msF b).2.2.2.1||(!dQ (msM b)|| !bV (bE (msM b)) b))then none else some (msM b):=by unfold fF;rw[hlen2,hk,hbad];rfl
 have hz:SzM (msM b):=L0 G hz0 (H5 _)
 have hm2:=qO (mgR NS (mR b)) 2
 have inn:It (fun aA (_:Unit)=>c130_22 (aI p n) aA b (FZ (mgD NS (mR b))) (OI ((bX (eM NS (mR b))).getD pC) (bX (eM NS (mR b))).isSome) (FZ (cM (mgR NS (mR b)) 2)) (xB (aK (rdK (mR b) 0))) (xB (aK (rdK (mR b) 1))) (xB (aK (rdK (mR b) 2))) (xB (aK (rdK (mR b) 3))) (xB (aK (rdK (mR b) 4))) (FZ (mgA NS (mR b))) (xB (mgB NS (mR b))) (FZ (mgC NS (mR b)))) ((0:Int),([]:List aL)) (fun _=>some (oA (fF b))):=by
  refine It.run (fun k=>(((2*k:Nat):Int),iU (cM (mgR NS (mR b)) 2).1 k)) ((cM (mgR NS (mR b)) 2).1.length / 2) (fun k hk aA u rec=>?_) (It.stop fun aA u rec=>?_)
  ·have h1:2*k<(cM (mgR NS (mR b)) 2).1.length:=by omega
   have h2:2*k+1<(cM (mgR NS (mR b)) 2).1.length:=by omega
   have e1:i64.wrap (((2*k:Nat):Int)+1)=((2*k+1:Nat):Int):=by rw[IntKind.wrap_i64];omega
   have e2:i64.wrap (((2*k:Nat):Int)+2)=((2*(k+1):Nat):Int):=by rw[IntKind.wrap_i64];omega
   have hbd:(iU (cM (mgR NS (mR b)) 2).1 k).length+1<=bound:=by rw[sA];unfold bound;omega
   unfold c130_22;dsimp only;rw[e1,e2,wJ];refine ql h2 ?_;refine qz ?_;refine(aG h1).trans ?_;refine(aG h1).trans ?_;refine qz ?_;refine(aG h2).trans ?_;refine(aG h2).trans ?_;refine qP hbd ?_;rfl
  ·have e1:i64.wrap ((((2*((cM (mgR NS (mR b)) 2).1.length / 2):Nat)):Int)+1)=((2*((cM (mgR NS (mR b)) 2).1.length / 2)+1:Nat):Int):=by rw[IntKind.wrap_i64];omega
   unfold c130_22;dsimp only;rw[e1];refine qN (show ¬ (((2*((cM (mgR NS (mR b)) 2).1.length / 2)+1:Nat):Int)<(((cM (mgR NS (mR b)) 2).1.length:Nat):Int)) by omega) ?_
   cases hso:(bX (eM NS (mR b))).isSome with
   | false=>refine qt ?_;rw[show fF b=none by rw[e,show(bX (eM NS (mR b))).isNone=true by rw[<- Option.not_isSome,hso];rfl];rfl];rfl
   | true=>
    have hno:(bX (eM NS (mR b))).isNone=false:=by rw[<- Option.not_isSome,hso];rfl
    refine qf ?_
    cases hbd:(msF b).2.2.2.1 with
    | true=>refine qT hbd ?_;rw[show fF b=none by rw[e,hno,hbd];rfl];rfl
    | false=>
     refine qF hbd ?_;refine qC (f113 (msM b) hz) ?_
     cases hm:dQ (msM b)with
     | false=>refine qt ?_;rw[show fF b=none by rw[e,hno,hbd,hm];rfl];rfl
     | true=>
      refine qf ?_;refine qC (f127 (msM b) hz) ?_
      cases he:bV (bE (msM b)) b with
      | false=>refine qT (show(!bV (bE (msM b)) b)=true by rw[he];rfl) ?_;rw[show fF b=none by rw[e,hno,hbd,hm,he];rfl];rfl
      | true=>refine qF (show(!bV (bE (msM b)) b)=false by rw[he];rfl) ?_;rw[show fF b=some (msM b) by rw[e,hno,hbd,hm,he];rfl];rfl
 have hcn:Ran p 3 267 [.ref ⟨K267,((mgE NS (mR b)).2.1,(mgE NS (mR b)).2.2.1+(mgE NS (mR b)).1,false,())⟩, vf K3 ((2:Int),())] (qQ (cM (mgR NS (mR b)) 2)):=by
  have h:=f267 (mgR NS (mR b)) 2 2 rfl hR (by omega)
  rw[show mgR NS (mR b)=((mgE NS (mR b)).2.1,(mgE NS (mR b)).2.2.1+(mgE NS (mR b)).1,false,()) by unfold mgR;rw[hE]] at h ⊢
  exact h
 exact Ev.eq (fun aA=>head aA (by
  rw[hE,ew,ep,decide_eq_false hgt];refine qf ?_;refine qf ?_;refine qT i1 ?_;refine qT i2 ?_;refine qD hg ?_;refine qR hcn ?_;rfl)) (inn.ev (i:=()) rfl)
-- receiving bytes
def bM(x:NodeT)(b:List aH):NodeT×List bK×Int:=match dG b with
 | none=>(x,[],1)
 | some m=>((dN x m).1,(dN x m).2.1.map (fun a=>(bE a,())),(dN x m).2.2)
def HP(r:NodeT×List bK×Int):Out:=⟨[⟨K38,r.1⟩,⟨K62,(r.2.1,())⟩,⟨K3,(r.2.2,())⟩],[]⟩
theorem mN{x:NodeT}{b:List aH}(h:dG b=none):bM x b=(x,[],1):=by unfold bM;rw[h]
theorem mM{x:NodeT}{b:List aH}{m:MsgT}(h:dG b=some m):bM x b=((dN x m).1,(dN x m).2.1.map (fun a=>(bE a,())),(dN x m).2.2):=by unfold bM;rw[h]
theorem f33(x:NodeT)(b:List aH)(hz:SzN x)(hb:B8 b)(hl:b.length<=aQ):Ran p 12 33 [va K38 x, vf K22 (b,())] (HP (bM x b)):=go33 fun n hn=>by
 have hg:=f35 b hb hl
 cases hm:dG b with
 | none=>
  rw[hm] at hg
  exact Ev.now fun aA=>by unfold T33;refine qD hg ?_;refine qt ?_;refine qC (f81 x hz) ?_;rw[mN hm];rfl
 | some m=>
  rw[hm] at hg
  have zm:=yQ hm
  have rs:=CM hz zm
  have hrc:=f22 x m hz zm
  have lp:It (fun aA (_:Unit)=>c33_7 (aI p n) aA (((dN x m).1,((dN x m).2.1,()),((dN x m).2.2,()),()),())) ((0:Int),([]:List bK)) (fun _=>some (HP (bM x b))):=by
   refine It.run (fun i=>((i:Int),((dN x m).2.1.take i).map (fun a=>((bE a,()):bK)))) (dN x m).2.1.length (fun i hi aA u rec=>?_) (It.stop fun aA u rec=>?_)
   ·have hbd:(((dN x m).2.1.take i).map (fun a=>((bE a,()):bK))).length+1<=bound:=by have:=rs.len;rw[List.length_map,List.length_take];unfold bound;omega
    have e:((dN x m).2.1.take (i+1)).map (fun a=>((bE a,()):bK))=((dN x m).2.1.take i).map (fun a=>((bE a,()):bK))++[(bE (gt (dN x m).2.1 i),())]:=by rw[kP hi,List.map_append];rfl
    show c33_7 (aI p n) aA (((dN x m).1,((dN x m).2.1,()),((dN x m).2.2,()),()),()) rec ((i:Int),((dN x m).2.1.take i).map (fun a=>((bE a,()):bK)))=rec (((i+1:Nat):Int),((dN x m).2.1.take (i+1)).map (fun a=>((bE a,()):bK)))
    rw[e]
    unfold c33_7;dsimp only;rw[aD (show i<9223372036854775807 by have:=rs.len;omega)];refine ql hi ?_;refine qz ?_;refine(aG hi).trans ?_;refine(aG hi).trans ?_;refine qC (f36 (gt (dN x m).2.1 i) (rs.msg _ (c8 hi))) ?_;refine qP hbd ?_;rfl
   ·show c33_7 (aI p n) aA (((dN x m).1,((dN x m).2.1,()),((dN x m).2.2,()),()),()) rec (((dN x m).2.1.length:Int),((dN x m).2.1.take (dN x m).2.1.length).map (fun a=>((bE a,()):bK)))=_
    rw[List.take_length,mM hm]
    unfold c33_7;dsimp only;refine qe ?_;rfl
  exact Ev.eq (fun aA=>by unfold T33;refine qD hg ?_;refine qf ?_;refine qE hrc ?_;rfl) (lp.ev (i:=()) rfl)
theorem f34(x:NodeT)(b:List aH)(hz:SzN x)(hb:B8 b)(hl:b.length<=aQ):Ran p 11 34 [va K38 x, vf K22 (b,())] (HP (bM x b)):=go34 fun n hn=>by
 have hg:=f130 b hb hl
 cases hm:dG b with
 | none=>
  rw[hm] at hg
  exact Ev.now fun aA=>by unfold T34;refine qD hg ?_;refine qt ?_;refine qC (f85 x hz) ?_;rw[mN hm];rfl
 | some m=>
  rw[hm] at hg
  have zm:=yQ hm
  have rs:=CM hz zm
  have hrc:=f27 x m hz zm
  have lp:It (fun aA (_:Unit)=>c34_7 (aI p n) aA (((dN x m).1,((dN x m).2.1,()),((dN x m).2.2,()),()),())) ((0:Int),([]:List bK)) (fun _=>some (HP (bM x b))):=by
   refine It.run (fun i=>((i:Int),((dN x m).2.1.take i).map (fun a=>((bE a,()):bK)))) (dN x m).2.1.length (fun i hi aA u rec=>?_) (It.stop fun aA u rec=>?_)
   ·have hbd:(((dN x m).2.1.take i).map (fun a=>((bE a,()):bK))).length+1<=bound:=by have:=rs.len;rw[List.length_map,List.length_take];unfold bound;omega
    have e:((dN x m).2.1.take (i+1)).map (fun a=>((bE a,()):bK))=((dN x m).2.1.take i).map (fun a=>((bE a,()):bK))++[(bE (gt (dN x m).2.1 i),())]:=by rw[kP hi,List.map_append];rfl
    show c34_7 (aI p n) aA (((dN x m).1,((dN x m).2.1,()),((dN x m).2.2,()),()),()) rec ((i:Int),((dN x m).2.1.take i).map (fun a=>((bE a,()):bK)))=rec (((i+1:Nat):Int),((dN x m).2.1.take (i+1)).map (fun a=>((bE a,()):bK)))
    rw[e]
    unfold c34_7;dsimp only;rw[aD (show i<9223372036854775807 by have:=rs.len;omega)];refine ql hi ?_;refine qz ?_;refine(aG hi).trans ?_;refine(aG hi).trans ?_;refine qC (f127 (gt (dN x m).2.1 i) (rs.msg _ (c8 hi))) ?_;refine qP hbd ?_;rfl
   ·show c34_7 (aI p n) aA (((dN x m).1,((dN x m).2.1,()),((dN x m).2.2,()),()),()) rec (((dN x m).2.1.length:Int),((dN x m).2.1.take (dN x m).2.1.length).map (fun a=>((bE a,()):bK)))=_
    rw[List.take_length,mM hm]
    unfold c34_7;dsimp only;refine qe ?_;rfl
  exact Ev.eq (fun aA=>by unfold T34;refine qD hg ?_;refine qf ?_;refine qE hrc ?_;rfl) (lp.ev (i:=()) rfl)
end Go.Abs.Xz
set_option maxHeartbeats 4000000
namespace Go.Abs.Xz
open Go Go.Abs
theorem RK{b:List aH}(h:eB K22 (b,())):B8 b:=fun k hk=>by
 have h2:=(rsl h).2 k (gt (α:=aH) b k) (by unfold at?;rw[d8 hk];exact List.getElem?_eq_getElem hk)
 have hw:(Lit.int .u8 (gt b k).1).wf=true:=h2.1
 have hw:0<=(gt b k).1/\(gt b k).1<=255:=by
  simpa [Lit.wf,IntKind.min,IntKind.max,IntKind.signed,IntKind.bits] using hw
 exact⟨(gt b k).1.toNat,by omega,by omega⟩
structure RbSz (x:NodeT) (r:NodeT×List bK×Int):Prop where
 node:SzN r.1
 cn:cnS K38 r.1<=cnS K38 x+300
 len:r.2.1.length<=1
 row:∀ q∈r.2.1,q.1.length<=504
theorem DW{x:NodeT}(hz:SzN x)(b:List aH):RbSz x (bM x b):=by
 cases h:dG b with
 | none=>rw[mN h];exact⟨hz,by show cnS K38 x<=_;omega,Nat.zero_le _,fun q hq=>by cases hq⟩
 | some m=>
  have rs:=CM hz (yQ h)
  rw[mM h]
  refine⟨rs.node,rs.cn,by rw[List.length_map];exact rs.len,fun q hq=>?_⟩
  obtain⟨a,_,rfl⟩:=List.mem_map.1 hq
  exact CS a
theorem ND{qs:List bK}(h:qs.length<=1)(h2:∀ q∈qs,q.1.length<=504):LmT (.sl K22) qs:=
 ⟨Nat.le_trans h (by decide),fun i r hr=>by
  obtain⟨h3,h4⟩:=NH (α:=bK) hr
  have h5:=h2 _ (c8 h3)
  rw[h4] at h5
  exact⟨⟨Nat.le_trans h5 (by decide),fun _ _ _=>⟨trivial,trivial⟩⟩,trivial⟩⟩
theorem NE{qs:List bK}(h:qs.length<=1)(h2:∀ q∈qs,q.1.length<=504):cnT (.sl K22) qs<=100000000:=by
 have t:cJ (cnR K22) qs<=1000*(qs.length:Int):=AO (c:=cnR K22) (A:=1000) qs fun q hq=>by
  have h5:=h2 q hq
  have e:cnR K22 q=cJ (cnR [.int .u8]) q.1+0:=rfl
  have e2:cJ (cnR [.int .u8]) q.1=1*((List.length (α:=Row [.int .u8]) q.1:Nat):Int):=iS (c:=cnR [.int .u8]) (fun x=>rfl) q.1
  have e3:((List.length (α:=Row [.int .u8]) q.1:Nat):Int)<=504:=Int.ofNat_le.2 h5
  rw[e,e2];omega
 show cJ (cnR K22) qs<=_
 omega
end Go.Abs.Xz
