/- What the functions of this program answer, part ei. -/
import Derived.Test.YtmamlgjbendjhaaGreatXeg
import Derived.Test.YtmamlgjbendjhaaGreatXeb
set_option linter.unusedVariables false
set_option maxHeartbeats 4000000
namespace Go.Abs.Xz
open Go Go.Abs
theorem HY{x:NodeT}{m:MsgT}(h:(eK x m).2.2≠0):(eK x m).2.1=[]∨(eK x m).2.2=3:=by
 unfold eK at h ⊢
 cases hr:dM x m with
 | false=>exact .inl rfl
 | true=>
  rw[hr] at h
  have h:(dS x m).2.2≠0:=h
  show(dS x m).2.1=[]∨(dS x m).2.2=3
  unfold dS at h ⊢
  cases k0:m.1==0 with
  | true=>rw[k0] at h;exact absurd rfl h
  | false=>
   cases k1:m.1==1 with
   | true=>rw[k0,k1] at h;exact absurd rfl h
   | false=>
    cases k2:m.1==2 with
    | true=>
     rw[k0,k1,k2] at h
     have h:(cF x m).2.2≠0:=h
     show(cF x m).2.1=[]∨(cF x m).2.2=3
     unfold cF at h ⊢
     cases hf:dP x m with
     | true=>exact .inr rfl
     | false=>rw[hf] at h;exact absurd rfl h
    | false=>
     rw[k0,k1,k2] at h
     cases hf:decide (dK x m (m.1==4)<0)with
     | true=>exact .inl rfl
     | false=>
      rw[hf] at h
      have h:(cX x m (dK x m (m.1==4)).toNat).2.2≠0:=h
      exfalso;apply h
      unfold cX
      cases m.1==5 with
      | true=>rfl
      | false=>cases m.1==4<;>rfl
theorem HV{x:NodeT}{m:MsgT}(h:(eK x m).2.2=0):NodeOk x:=by
 unfold eK at h
 cases hr:dM x m with
 | false=>rw[hr] at h;exact absurd (show(1:Int)=0 from h) (by decide)
 | true=>exact(iE hr).node
theorem f122(v:List aX)(i:Int):Ran p 2 122 [.val false ⟨K28,(v,())⟩, .val false ⟨K3,(i,())⟩] ⟨[⟨K3,(atV v i,())⟩],[]⟩:=go122 fun n hn=>Ev.now fun aA=>by
 unfold T122;refine(aB (f100 i 0 (IntKind.i64.wrap (((v.length:Nat):Int) - 1)) n (by omega))).trans ?_
 unfold atV
 cases hb:inB i 0 (IntKind.i64.wrap (((v.length:Nat):Int) - 1))with
 | false=>refine(aN rfl).trans ?_;rfl
 | true=>
  refine(aF rfl).trans ?_
  rw[aS] at hb
  have hl:i<((v.length:Nat):Int):=by
   have h2:=hb.2
   unfold IntKind.wrap at h2;simp[IntKind.bits,IntKind.signed] at h2
   omega
  obtain⟨k,rfl⟩:∃ k:Nat,i=(k:Int):=⟨i.toNat,by omega⟩
  refine bif_nn.trans ?_;refine(aJ (show k<v.length by omega)).trans ?_;rw[Int.toNat_natCast];rfl
theorem f29(a b:List aX)(ha:a.length≤aU):Ran p 3 29 [.val false ⟨K28,(a,())⟩, .val false ⟨K28,(b,())⟩] ⟨[⟨K4,(CI a b,())⟩],[]⟩:=go29 fun n hn=>by
 have lp:It (fun aA (_:Unit)=>c29_2 (aK p n) aA a b) (0:Int) (fun _=>oB (bI a.length (fun i=> !decide ((gt a i).1>atV b (i:Int))))):=by
  refine bZ (It.allB a.length _ true (fun i hi aA u rec=>?_) (It.stop fun aA u rec=>?_))
  ·have hb:=cL hi ha
   show c29_2 (aK p n) aA a b rec (i:Int)=_
   unfold c29_2;rw[aL hb];refine(aE (Int.ofNat_lt.2 hi)).trans ?_;refine bif_nn.trans ?_;refine(aJ hi).trans ?_;refine(aB (f122 b (i:Int) n (by omega))).trans ?_
   cases hq:decide ((gt a i).1>atV b (i:Int))with
   | true=>exact aN rfl
   | false=>exact aF rfl
  ·show c29_2 (aK p n) aA a b rec (a.length:Int)=_
   unfold c29_2;refine(aI (Int.lt_irrefl _)).trans ?_;rfl
 exact Ev.eq (fun aA=>by unfold T29;rfl) (lp.ev (i:=()) rfl)
theorem f31(a b:List aX)(ha:a.length≤maxLen):Ran p 1 31 [.val false ⟨K28,(a,())⟩, .val false ⟨K28,(b,())⟩] ⟨[⟨K4,(eJ a b,())⟩],[]⟩:=go31 fun n hn=>by
 by_cases he:a.length=b.length
 ·have e:(((a.length:Nat):Int) != ((b.length:Nat):Int))=false:=by simp[he]
  have e2:eJ a b=bI a.length (fun i=>(gt a i).1==(gt b i).1):=by unfold eJ;rw[he];simp
  rw[e2]
  have lp:It (fun aA (_:Unit)=>c31_4 (aK p n) aA a b) (0:Int) (fun _=>oB (bI a.length (fun i=>(gt a i).1==(gt b i).1))):=by
   refine bZ (It.allB a.length _ true (fun i hi aA a' rec=>?_) (It.stop fun aA a' rec=>?_))
   ·have hb:i<9223372036854775807:=Nat.lt_of_lt_of_le hi ha
    show c31_4 (aK p n) aA a b rec (i:Int)=_
    unfold c31_4;rw[aL hb];refine(aE (Int.ofNat_lt.2 hi)).trans ?_;refine bif_nn.trans ?_;refine(aJ hi).trans ?_;refine bif_nn.trans ?_;refine(aJ (show i<b.length from he▸hi)).trans ?_;exact fin
   ·show c31_4 (aK p n) aA a b rec (a.length:Int)=_
    unfold c31_4;refine(aI (Int.lt_irrefl _)).trans ?_;rfl
  exact Ev.eq (fun aA=>by unfold T31;exact aF e) (lp.ev (i:=()) rfl)
 ·have e:(((a.length:Nat):Int) != ((b.length:Nat):Int))=true:=by simp;omega
  have e2:eJ a b=false:=by unfold eJ;rw[show(((a.length:Nat):Int)==((b.length:Nat):Int))=false from by simp;omega];rfl
  rw[e2]
  exact Ev.now fun aA=>by unfold T31;exact aN e
theorem law_received(b:List aX)(ho:mY K22 (b,())):Ran p 14 6 [.val false ⟨K22,(b,())⟩] uC:=by
 have h1:=f15 b
 by_cases hb:((b.length:Nat):Int)>1048576
 ·rw[decide_eq_true hb] at h1
  exact go6 fun n hn=>Ev.now fun aA=>by unfold T6;refine(aB (h1 n (by omega))).trans ?_;rfl
 rw[decide_eq_false hb] at h1
 obtain⟨x,m,h2,X,zm⟩:=f26 b (by omega)
 have h3:=f22 x m X.sz zm
 have h4:=f27 x m X.sz zm
 have hS:=HW (x:=x) (m:=m)
 have hC:=HY (x:=x) (m:=m)
 have hZ:=KW X.sz zm
 have hA:=KV (x:=x) (m:=m)
 have hO:=HV (x:=x) (m:=m)
 have hT:=FO (x:=x) X.sz (m:=m)
 have hP:=HX (x:=x) (m:=m)
 have hK:=fun h=>FS (x:=x) h m
 have hN:=fun h=>EH (x:=x) h m
 generalize eK x m=r at h3 h4 hS hC hZ hA hO hT hP hK hN
 obtain⟨y,ls,cd⟩:=r
 by_cases hc:cd=0
 ·subst hc
  have ox:=hO rfl
  have oy:NodeOk y:=hN ox
  have ky:Kept x y:=hK ox
  have zy:SzN y:=hZ.node
  obtain⟨t1,t2⟩:(eK y m).1=y∧(eK y m).2.2=(bif I1 m then 2 else 0):=hT rfl
  have part:sS m=true→Leq m.part y.state:=hP rfl
  clear hT hS hC hK hN hO hP
  have hAl:ls.length≤1:=hA.1
  have hAq:∀ q∈ls,Ans x m q:=hA.2
  have hZq:∀ q∈ls,SzM q:=hZ.msg
  have a1:=f23 y zy
  rw[(eE y).2 oy] at a1
  have a2:=f28 x.state y.state X.sz.state zy.state
  rw[nP.2 ky.state] at a2
  have a3:=f29 x.got y.got X.sz.got
  rw[ky.got.leq zy.got] at a3
  have a4:=f29 x.acked y.acked X.sz.acked
  rw[ky.acked.leq zy.acked] at a4
  have a5:=f22 y m zy zm
  have a6:=f28 m.part y.state zm.part zy.state
  have a7:=f25 y.state y.state zy.state
  rw[gK.2 rfl] at a7
  have a8:=f31 y.got y.got (Nat.le_trans zy.got (by decide))
  rw[gW] at a8
  generalize eK y m=r8 at a5 t1 t2
  obtain⟨y8,l8,c8⟩:=r8
  have t1:y8=y:=t1
  subst t1
  exact go6 fun n hn=>by
   have lp:It (fun aA (_:Unit)=>c6_13 (aK p n) aA ((x,m,()),()) ((y8,(ls,()),((0:Int),()),()),())) (0:Int) (fun _=>oB (bI ls.length (fun _=>true))):=by
    refine bZ (It.allB ls.length _ true (fun i hi aA u rec=>?_) (It.stop fun aA u rec=>?_))
    ·have hb:i<9223372036854775807:=by omega
     have hm:gt ls i∈ls:=c6 hi
     have A:=hAq _ hm
     have b1:=f30 (gt ls i) (hZq _ hm)
     rw[A.ok] at b1
     show c6_13 (aK p n) aA ((x,m,()),()) ((y8,(ls,()),((0:Int),()),()),()) rec (i:Int)=_
     unfold c6_13;rw[aL hb];refine(aE (Int.ofNat_lt.2 hi)).trans ?_;refine bif_nn.trans ?_;refine(aJ hi).trans ?_;refine(aJ hi).trans ?_;refine(aB (b1 n (by omega))).trans ?_;refine(aF rfl).trans ?_
     refine bif_nn.trans ?_;refine(aJ hi).trans ?_;refine(aJ hi).trans ?_;refine(aF (show((gt ls i).2.1 != x.1)=false by rw[A.frm];exact bne_self_eq_false _)).trans ?_
     refine bif_nn.trans ?_;refine(aJ hi).trans ?_;refine(aJ hi).trans ?_;refine(aF (show((gt ls i).2.2.1 != m.2.1)=false by rw[A.to];exact bne_self_eq_false _)).trans ?_
     refine bif_nn.trans ?_;refine(aJ hi).trans ?_;refine(aJ hi).trans ?_;refine(aF (show((gt ls i).2.2.2.1 != m.2.2.2.1)=false by rw[A.num];exact bne_self_eq_false _)).trans ?_
     rfl
    ·show c6_13 (aK p n) aA ((x,m,()),()) ((y8,(ls,()),((0:Int),()),()),()) rec (ls.length:Int)=_
     unfold c6_13;refine(aI (Int.lt_irrefl _)).trans ?_;refine(gB (a5 n (by omega))).trans ?_
     cases q0:m.1==(0:Int)with
     | true=>
      rw[nP.2 (part (by unfold sS;rw[q0];rfl))] at a6
      refine(aN rfl).trans ?_;refine(aB (a6 n (by omega))).trans ?_;refine(aF rfl).trans ?_;refine(aB (a7 n (by omega))).trans ?_;refine(aN rfl).trans ?_;refine(aB (a8 n (by omega))).trans ?_;rfl
     | false=>
     cases q3:m.1==(3:Int)with
     | true=>
      rw[nP.2 (part (by unfold sS;rw[q3];cases m.1==0<;>rfl))] at a6
      refine(aF rfl).trans ?_;refine(aN rfl).trans ?_;refine(aB (a6 n (by omega))).trans ?_;refine(aF rfl).trans ?_;refine(aB (a7 n (by omega))).trans ?_;refine(aN rfl).trans ?_;refine(aB (a8 n (by omega))).trans ?_;rfl
     | false=>
     cases q4:m.1==(4:Int)with
     | true=>
      rw[nP.2 (part (by unfold sS;rw[q4];cases m.1==0<;>cases m.1==3<;>rfl))] at a6
      refine(aF rfl).trans ?_;refine(aF rfl).trans ?_;refine(aN rfl).trans ?_;refine(aB (a6 n (by omega))).trans ?_;refine(aF rfl).trans ?_;refine(aB (a7 n (by omega))).trans ?_;refine(aN rfl).trans ?_;refine(aB (a8 n (by omega))).trans ?_;rfl
     | false=>
      refine(aF rfl).trans ?_;refine(aF rfl).trans ?_;refine(aF rfl).trans ?_;refine(aB (a7 n (by omega))).trans ?_;refine(aN rfl).trans ?_;refine(aB (a8 n (by omega))).trans ?_;rfl
   rw[show bI ls.length (fun _=>true)=true from bJ.2 fun _ _=>rfl] at lp
   refine Ev.eq (fun aA=>?_) (lp.ev (i:=()) rfl)
   unfold T6;refine(aB (h1 n (by omega))).trans ?_;refine(aF rfl).trans ?_;refine(bD (h2 n (by omega))).trans ?_;refine(gB (h3 n (by omega))).trans ?_;refine(gB (h4 n (by omega))).trans ?_;refine(aF (bne_self_eq_false _)).trans ?_;refine(aF (bne_self_eq_false _)).trans ?_
   refine(aB (a1 n (by omega))).trans ?_;refine(aF rfl).trans ?_;refine(aB (a2 n (by omega))).trans ?_;refine(aF rfl).trans ?_;refine(aB (a3 n (by omega))).trans ?_;refine(aF rfl).trans ?_;refine(aB (a4 n (by omega))).trans ?_;refine(aF rfl).trans ?_;refine(aI (show ¬ ((ls.length:Nat):Int)>1 by omega)).trans ?_;rfl
 ·have e:y=x:=hS hc
  subst e
  have hL:ls=[]∨cd=3:=hC hc
  have a1:=f19 y y X.sz
  rw[A7] at a1
  exact go6 fun n hn=>Ev.now fun aA=>by
   unfold T6;refine(aB (h1 n (by omega))).trans ?_;refine(aF rfl).trans ?_;refine(bD (h2 n (by omega))).trans ?_;refine(gB (h3 n (by omega))).trans ?_;refine(gB (h4 n (by omega))).trans ?_;refine(aF (bne_self_eq_false _)).trans ?_
   refine(aN (show(cd != (0:Int))=true by simpa using hc)).trans ?_;refine(aB (a1 n (by omega))).trans ?_;refine(aN rfl).trans ?_
   cases ls with
   | nil=>rfl
   | cons q t=>
    have h3':cd=3:=by rcases hL with h | h;cases h;exact h
    subst h3'
    refine(aF (show((((q::t).length:Nat):Int)==(0:Int))=false by simp;omega)).trans ?_;rfl
end Go.Abs.Xz
