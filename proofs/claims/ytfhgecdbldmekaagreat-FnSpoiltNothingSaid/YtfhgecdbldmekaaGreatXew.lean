/- What the functions of this program answer, part ew. -/
import Derived.Test.YtfhgecdbldmekaaGreatW3
import Derived.Test.YtfhgecdbldmekaaGreatXre
set_option linter.unusedVariables false
open Go.IntKind (i64)
namespace Go.Abs.Pz
open Go Go.Abs
def OW(r:JY):Out:=⟨[⟨K66,r.1⟩,⟨K161,(r.2.1,())⟩,⟨K3,(r.2.2,())⟩],[]⟩
theorem I9(x:NodeT)(m:MsgT)(b:Bool):(sX x m b<0/\(dE x.sess m.2.1 b= -1\/∃ k:Nat,k<x.sess.length/\dE x.sess m.2.1 b=(k:Int)/\((gt x.sess k).2.1 != m.2.2.2.1)=true))\/∃ k:Nat,k<x.sess.length/\dE x.sess m.2.1 b=(k:Int)/\((gt x.sess k).2.1 != m.2.2.2.1)=false/\sX x m b=(k:Int):=by
 unfold sX
 rcases hI x.sess m.2.1 b with ⟨k,hk,e,_⟩ | ⟨e,_⟩<;>rw[e]
 ·rw[decide_eq_true (show((k:Nat):Int)>=0 by omega),Int.toNat_natCast]
  cases h:(gt x.sess k).2.1 != m.2.2.2.1 with
  | true=>exact .inl ⟨by show(-1:Int)<0;omega,.inr ⟨k,hk,rfl,h⟩⟩
  | false=>exact .inr ⟨k,hk,rfl,h,rfl⟩
 ·exact .inl ⟨by show(-1:Int)<0;omega,.inl rfl⟩
theorem L5{x:NodeT}{m:MsgT}(h0:(m.1==0)=false)(h1:(m.1==1)=false)(h2:(m.1==2)=false){b:Bool}(h4:(m.1==4)=b)(hf:sX x m b<0):zW x m=(x,[],2):=by
 unfold zW;rw[h0,h1,h2,h4,decide_eq_true hf];rfl
theorem OX{x:NodeT}{m:MsgT}(h0:(m.1==0)=false)(h1:(m.1==1)=false)(h2:(m.1==2)=false){b:Bool}(h4:(m.1==4)=b){k:Nat}(hf:sX x m b=(k:Int)):zW x m=tG x m k:=by
 unfold zW;rw[h0,h1,h2,h4,hf,decide_eq_false (show ¬ (k:Int)<0 by omega)];rfl
theorem f301(x:NodeT)(m:MsgT)(hz:SzN x)(hm:SzM m):Ran p 10 301 [va K66 x, va K53 m] (OW (gS x m)):=go301 λn hn=>Ev.now λaA=>by
 have bad:mL x m=false->(some ⟨[⟨K66,x⟩,⟨K161,(([]:List MsgT),())⟩,⟨K3,((1:Int),())⟩],[]⟩:Option Out)=some (OW (gS x m)):=λh=>by rw[SJ h];rfl
 unfold T301;refine qC (f48 x hz) ?_
 cases g1:dU x with
 | false=>refine qt ?_;refine qC (f132 x hz) ?_;exact bad (by unfold mL;rw[g1];rfl)
 | true=>
 refine qf ?_;refine qC (f75 m hm) ?_
 cases g2:dR m with
 | false=>refine qt ?_;refine qC (f132 x hz) ?_;exact bad (by unfold mL;rw[g1,g2];rfl)
 | true=>
 refine qf ?_
 cases g3:m.2.2.1==x.1 with
 | false=>refine qT (show(m.2.2.1 != x.1)=true by unfold bne;rw[g3];rfl) ?_;refine qC (f132 x hz) ?_;exact bad (by unfold mL;rw[g1,g2,g3];rfl)
 | true=>
 refine qF (show(m.2.2.1 != x.1)=false by unfold bne;rw[g3];rfl) ?_
 by_cases g4:m.2.1>=x.2.1
 ·refine qP g4 ?_;refine qC (f132 x hz) ?_;exact bad (by unfold mL;rw[g1,g2,g3,decide_eq_true g4];rfl)
 refine qN g4 ?_
 cases g5:(m.vec.length:Int)==x.2.1 with
 | false=>refine qT (show((m.vec.length:Int) != x.2.1)=true by unfold bne;rw[g5];rfl) ?_;refine qC (f132 x hz) ?_;exact bad (by unfold mL;rw[g1,g2,g3,decide_eq_false g4,g5];rfl)
 | true=>
 refine qF (show((m.vec.length:Int) != x.2.1)=false by unfold bne;rw[g5];rfl) ?_
 have ok:mL x m=true:=by unfold mL;rw[g1,g2,g3,decide_eq_false g4,g5];rfl
 have R:=FS ok
 have H:=Hears.of hz hm R
 rw[OV ok]
 cases k0:m.1==0 with
 | true=>
  have hz2:=mP hz m
  (first | refine qT k0 ?_ | refine qt ?_);refine qC (f335 x m H R.part) ?_;refine qC (f229 (dY x m) 1 m.2.1 m.2.2.2.1 hz2) ?_;unfold zW;rw[k0];rfl
 | false=>
 (first | refine qF k0 ?_ | refine qf ?_)
 cases k1:m.1==1 with
 | true=>(first | refine qT k1 ?_ | refine qt ?_);refine qC (f336 x m H) ?_;unfold zW;rw[k0,k1];rfl
 | false=>
 (first | refine qF k1 ?_ | refine qf ?_)
 cases k2:m.1==2 with
 | true=>(first | refine qT k2 ?_ | refine qt ?_);refine qE (f337 x m hz hm R) ?_;unfold zW;rw[k0,k1,k2];rfl
 | false=>
 (first | refine qF k2 ?_ | refine qf ?_);refine qC (f338 x m (m.1==4) hz.sess) ?_
 rcases I9 x m (m.1==4)with ⟨hf,_⟩ | ⟨k,hk,_,_,hf⟩
 ·refine qP hf ?_;refine qC (f132 x hz) ?_;rw[L5 k0 k1 k2 rfl hf];rfl
 ·rw[OX k0 k1 k2 rfl hf,hf];refine qN (show ¬ (k:Int)<0 by omega) ?_;refine qC (f339 x k hz hk) ?_
  have hg:=GO hz k
  have Rg:=R.gone k
  have Hg:=Hears.of hg hm Rg
  have hz2:=mP hg m
  cases k5:m.1==5 with
  | true=>(first | refine qT k5 ?_ | refine qt ?_);unfold tG;rw[k5];rfl
  | false=>
   (first | refine qF k5 ?_ | refine qf ?_);refine qC (f335 (kM x k) m Hg Rg.part) ?_
   cases k4:m.1==4 with
   | true=>(first | refine qT k4 ?_ | refine qt ?_);unfold tG;rw[k5,k4];rfl
   | false=>
    (first | refine qF k4 ?_ | refine qf ?_);refine qC (f229 (dY (kM x k) m) 4 m.2.1 m.2.2.2.1 hz2) ?_;refine qP (gV hm.list) ?_;refine qP R.idn.1 ?_;refine(a9 H.vec).trans ?_
    refine qC (f340 (dY (kM x k) m) m.leaves (gt m.vec x.1.toNat).1 hz2 Rg.brought hm.list) ?_;unfold tG;rw[k5,k4];rfl
end Go.Abs.Pz
set_option maxHeartbeats 2000000
namespace Go.Abs.Pz
open Go Go.Abs
end Go.Abs.Pz
namespace Go.Abs.Pz
open Go Go.Abs
-- how many cells lie in what comes back
theorem OT(xs:List jX):cnT (.sl K127) xs=3*(xs.length:Int):=jZ (c:=cnR K127) (n:=3) (λx=>rfl) xs
theorem kJ(x:NodeT):cnS K66 x=6*(x.2.2.1.length:Int)+(2*(x.2.2.2.1.length:Int)+(1*(x.2.2.2.2.1.length:Int)+(cnT (.sl K50) x.log.2.2.1+(1*(x.got.length:Int)+(1*(x.acked.length:Int)+(cnT (.sl K38) x.seen+(4*(x.sess.length:Int)+(3*(x.rises.length:Int)+0)))))))):=by
 rw[<- P9,<- M6,<- yW,<- yW,<- yW,<- SE,<- OT];rfl
theorem J8{t u:List bM}(h:u.length=t.length)(h2:∀ i,(gt u i).1.length=(gt t i).1.length):cnT (.sl K38) u<=cnT (.sl K38) t:=
 CE (α:=bM) (c:=cnR K38) u t h λj hj=>by
  have e:∀ r:bM,cnR K38 r=1*(r.1.length:Int)+0:=λr=>by rw[<- yW];rfl
  rw[e,e,h2 j];omega
theorem MF(x:NodeT)(s:aE):(tkP x s).1.length<=5/\(tkP x s).2.1.length<=5:=by
 unfold tkP prune
 cases aM (c8 x.state s)with
 | true=>exact lO _ _
 | false=>exact lO _ _
theorem FC(x:NodeT)(s:aE):cnS K66 (jN x s)<=cnS K66 x+100:=by
 rw[kJ,kJ]
 have h1:=MF x s
 have h2:(cH (tkP x s)).1.length<=4:=zE _
 have h3:cnT (.sl K38) (tkS x s)<=cnT (.sl K38) x.seen:=J8 (c6 _ _ _) (eX _ _ _)
 have h4:(tkR x s).length=x.rises.length:=gR _ _ _ _
 show 6*(((tkP x s).1.length:Nat):Int)+(2*(((tkP x s).2.1.length:Nat):Int)+(1*(((cH (tkP x s)).1.length:Nat):Int)+(cnT (.sl K50) x.log.2.2.1+(1*(x.got.length:Int)+(1*(x.acked.length:Int)+(cnT (.sl K38) (tkS x s)+(4*(x.sess.length:Int)+(3*(((tkR x s).length:Nat):Int)+0))))))))<=_
 omega
theorem wB(x:NodeT)(m:MsgT):cnS K66 (eC x m)<=cnS K66 x+100:=by
 have h:=FC (heard0 x m) iX
 have h3:cnT (.sl K38) (bK x.seen m.2.1 m.marks)<=cnT (.sl K38) x.seen:=J8 (c6 _ _ _) (eX _ _ _)
 have h4:cnS K66 (heard0 x m)<=cnS K66 x:=by
  rw[kJ,kJ]
  show 6*(x.2.2.1.length:Int)+(2*(x.2.2.2.1.length:Int)+(1*(x.2.2.2.2.1.length:Int)+(cnT (.sl K50) x.log.2.2.1+(1*(x.got.length:Int)+(1*(((cV x.acked m.2.1 (mxI false (gt m.vec x.1.toNat).1 (cA x.log))).length:Nat):Int)+(cnT (.sl K38) (bK x.seen m.2.1 m.marks)+(4*(x.sess.length:Int)+(3*(x.rises.length:Int)+0))))))))<=_
  rw[fU];omega
 unfold eC;omega
theorem yF(x:NodeT)(m:MsgT):cnS K66 (dY x m)<=cnS K66 x+200:=by
 have h1:=wB x m
 have h2:=FC (eC x m) m.part
 have h3:∀ y:NodeT,cnS K66 (gotUp y m)=cnS K66 y:=λy=>by
  rw[kJ,kJ]
  show 6*(y.2.2.1.length:Int)+(2*(y.2.2.2.1.length:Int)+(1*(y.2.2.2.2.1.length:Int)+(cnT (.sl K50) y.log.2.2.1+(1*(((cV y.got m.2.1 m.hi).length:Nat):Int)+(1*(y.acked.length:Int)+(cnT (.sl K38) y.seen+(4*(y.sess.length:Int)+(3*(y.rises.length:Int)+0))))))))=_
  rw[fU]
 unfold dY;rw[h3];omega
theorem E4(x:NodeT){ss:List eI}(h:ss.length<=x.sess.length+1):cnS K66 (withS x ss)<=cnS K66 x+4:=by
 rw[kJ,kJ]
 show 6*(x.2.2.1.length:Int)+(2*(x.2.2.2.1.length:Int)+(1*(x.2.2.2.2.1.length:Int)+(cnT (.sl K50) x.log.2.2.1+(1*(x.got.length:Int)+(1*(x.acked.length:Int)+(cnT (.sl K38) x.seen+(4*(ss.length:Int)+(3*(x.rises.length:Int)+0))))))))<=_
 omega
theorem QJ(x:NodeT)(k:Nat):cnS K66 (kM x k)<=cnS K66 x+4:=E4 x (by rw[List.length_append,List.length_take,List.length_drop];omega)
structure RecSz (x:NodeT) (r:JY):Prop where
 node:SzN r.1
 cn:cnS K66 r.1<=cnS K66 x+300
 len:r.2.1.length<=1
 msg:∀ q∈r.2.1,SzM q
theorem yU{q:MsgT}(h:SzM q):∀ y∈[q],SzM y:=λy hy=>by rw[List.mem_singleton.1 hy];exact h
theorem AA:∀ y∈([]:List MsgT),SzM y:=λy hy=>by cases hy
theorem KF{x:NodeT}(h:SzN x)(a b c:Int):SzM (S5 x a b c):=⟨Nat.zero_le _,h.got,Nat.zero_le _,kA,Nat.le_trans (fS _) (by decide)⟩
theorem L3{o x:NodeT}(h:SzN o)(m:MsgT):SzM (HV o x m):=⟨h.leaves,h.got,Nat.le_trans (tW _ _) (by decide),nR _ _,Nat.le_trans (fS _) (by decide)⟩
theorem P5{o x:NodeT}(h:SzN o){m:MsgT}(hm:SzM m):SzM (T7 o x m):=⟨Nat.zero_le _,h.got,hm.list,nR _ _,Nat.le_trans (fS _) (by decide)⟩
theorem L4{x:NodeT}{m:MsgT}(hz:SzN x)(hm:SzM m)(R:RecOk x m):RecSz x (oU x m):=by
 unfold oU
 cases hf:lD x m with
 | true=>exact⟨hz,by show cnS K66 x<=_;omega,Nat.le_refl _,yU (KF hz _ _ _)⟩
 | false=>
  have h1:=R7 hz R.node m
  have h2:=wB (withS x (g9 x m)) m
  have h3:=E4 x (ss:=g9 x m) (by
   unfold g9 oW lK
   cases decide (dE x.sess m.2.1 true>=0)with
   | true=>show(List.set _ _ _).length<=_;rw[List.length_set];omega
   | false=>show(x.sess++[_]).length<=_;rw[List.length_append];exact Nat.le_refl _)
  exact⟨h1,by show cnS K66 (LM x m)<=_;unfold LM;omega,Nat.le_refl _,yU (L3 h1 m)⟩
theorem L6{x:NodeT}{m:MsgT}(hz:SzN x)(hm:SzM m)(k:Nat):RecSz x (tG x m k):=by
 have h1:=GO hz k
 have h2:=QJ x k
 have h3:=mP h1 m
 have h4:=yF (kM x k) m
 unfold tG
 cases m.1==5 with
 | true=>exact⟨h1,by show cnS K66 (kM x k)<=_;omega,Nat.zero_le _,AA⟩
 | false=>
  cases m.1==4 with
  | true=>exact⟨h3,by show cnS K66 (dY (kM x k) m)<=_;omega,Nat.zero_le _,AA⟩
  | false=>exact⟨h3,by show cnS K66 (dY (kM x k) m)<=_;omega,Nat.le_refl _,yU (P5 h3 hm)⟩
theorem J9{x:NodeT}{m:MsgT}(hz:SzN x)(hm:SzM m):RecSz x (gS x m):=by
 unfold gS
 cases ho:mL x m with
 | false=>exact⟨hz,by show cnS K66 x<=_;omega,Nat.zero_le _,AA⟩
 | true=>
  have R:=FS ho
  show RecSz x (zW x m)
  unfold zW
  have h3:=mP hz m
  have h4:=yF x m
  have h5:=lP hz m
  have h6:=wB x m
  cases m.1==0 with
  | true=>exact⟨h3,by show cnS K66 (dY x m)<=_;omega,Nat.le_refl _,yU (KF h3 _ _ _)⟩
  | false=>
   cases m.1==1 with
   | true=>exact⟨h5,by show cnS K66 (eC x m)<=_;omega,Nat.zero_le _,AA⟩
   | false=>
    cases m.1==2 with
    | true=>exact L4 hz hm R
    | false=>
     cases decide (sX x m (m.1==4)<0)with
     | true=>exact⟨hz,by show cnS K66 x<=_;omega,Nat.zero_le _,AA⟩
     | false=>exact L6 hz hm _
end Go.Abs.Pz
set_option maxHeartbeats 4000000
namespace Go.Abs.Pz
open Go Go.Abs
def m8:Option MsgT->Out
 | none=>⟨[⟨K53,AC⟩,⟨K4,(false,())⟩],[]⟩
 | some m=>⟨[⟨K53,m⟩,⟨K4,(true,())⟩],[]⟩
def prA(x:Int×RdT):Rows [K3]×Rows [K234]:=(((x.1,()),()),(x.2,()))
def prN(x:List aH×RdT):Rows [K38]×Rows [K234]:=(((x.1,()),()),(x.2,()))
def yL(x:Int×RdT):Rows [K3]×Rows [K113]:=(((x.1,()),()),(x.2,()))
def H0(x:List aH×RdT):Rows [K38]×Rows [K113]:=(((x.1,()),()),(x.2,()))
def SU(s:aE)(k:Bool):Rows [K50,K4]×Rows []:=((s,(k,()),()),())
theorem OB(o:Option aE):nD o=⟨[⟨K50,o.getD iX⟩,⟨K4,(o.isSome,())⟩],[]⟩:=by cases o<;>rfl
theorem TI(b:List aH):SzS ((bU b).getD iX):=by
 cases h:bU b with
 | none=>exact kA
 | some s=>exact EB (uM h)
theorem rng{a b c d:Prop}[Decidable a][Decidable b](h1:a)(h2:b):(decide a&&decide b)=true:=by rw[decide_eq_true h1,decide_eq_true h2];rfl
theorem f125(b:List aH)(hb:B8 b)(hl:b.length<=aP):Ran p 6 125 [vf K22 (b,())] (m8 (bW b)):=go125 λn hn=>by
 have hs:b.length<=1048576:=hl
 by_cases h2:i64.wrap ((b.length:Int) - 4)<2
 ·exact Ev.now λaA=>by unfold T125;refine qP h2 ?_;rw[show bW b=none by unfold bW;rw[decide_eq_true h2];rfl];rfl
 have h6:6<=b.length:=by rw[IntKind.wrap_i64] at h2;omega
 have e4:i64.wrap ((b.length:Int) - 4)=((b.length - 4:Nat):Int):=by rw[IntKind.wrap_i64];omega
 have hlen2:decide (i64.wrap ((b.length:Int) - 4)<2)=false:=decide_eq_false h2
 have ha:(decide ((0:Int)<=2)&&decide ((2:Int)<=(b.length:Int)))=true:=rng (c:=True) (d:=True) (by omega) (by omega)
 have hc4:(decide ((0:Int)<=((b.length - 4:Nat):Int))&&decide (((b.length - 4:Nat):Int)<=(b.length:Int)))=true:=rng (c:=True) (d:=True) (by omega) (by omega)
 cases hk:bV (b.take 2) rk2 with
 | false=>
  exact Ev.now λaA=>by
   unfold T125;refine qN h2 ?_;refine qT ha ?_;refine qT (show(!bV (b.take 2) rk2)=true by rw[hk];rfl) ?_
   rw[show bW b=none by unfold bW;rw[hlen2,hk];rfl];rfl
 | true=>
 have hr:=T6 hb hl h6
 have G:=T4 WI hr
 have lo:=G.e.lo;have hi:=G.e.hi;have nn:=G.nn
 rw[G.list] at hi
 have hlen:(mR b).1.length=b.length - 4:=by show(b.take (b.length - 4)).length=_;rw[List.length_take];omega
 rw[hlen] at hi
 have head:∀ {R:Option Out} (aA:Nat),(bif(mgE NI (mR b)).2.2.2.1 then some (m8 none)else bif decide ((mgE NI (mR b)).1>i64.wrap (((b.length - 4:Nat):Int) - (mgE NI (mR b)).2.2.1))then some (m8 none)else
   bif decide (0<=i64.wrap ((mgE NI (mR b)).2.2.1+(mgE NI (mR b)).1))&&decide (i64.wrap ((mgE NI (mR b)).2.2.1+(mgE NI (mR b)).1)<=(b.length:Int))then
   bif decide (0<=(mgE NI (mR b)).2.2.1)&&decide ((mgE NI (mR b)).2.2.1<=(((i64.wrap ((mgE NI (mR b)).2.2.1+(mgE NI (mR b)).1)).toNat:Nat):Int))then
   (((aI p n) 207 [vf K22 (((b.take (i64.wrap ((mgE NI (mR b)).2.2.1+(mgE NI (mR b)).1)).toNat).drop (mgE NI (mR b)).2.2.1.toNat),())]).bind (cN [K50,K4] [])).bind λo11=>(bif !(vB o11.1.2.1.1)then some (m8 none)else
   (((aI p n) 208 [.ref ⟨K234,((mgE NI (mR b)).2.1,i64.wrap ((mgE NI (mR b)).2.2.1+(mgE NI (mR b)).1),(mgE NI (mR b)).2.2.2.1,())⟩, vf K3 ((5:Int),())]).bind (cN [K3] [K234])).bind λo12=>
    iter (c125_25 (aI p n) aA b (prA (aJ (rdK (mR b) 0))) o11 o12 (prA (aJ (rdK (mR b) 1))) (prA (aJ (rdK (mR b) 2))) (prA (aJ (rdK (mR b) 3))) (prA (aJ (rdK (mR b) 4))) (prN (mgA NI (mR b))) (prA (mgB NI (mR b))) (prN (mgC NI (mR b))) (prN (mgD NI (mR b)))) aA ((0:Int),(@vL K5 o12.2.1.1),(vI o12.2.1.2.1),(vB o12.2.1.2.2.1),([]:List aO)))
   else none else none)=R->T125 (aI p n) aA b=R:=by
  intro R aA hR
  unfold T125;refine qN h2 ?_;refine qT ha ?_;refine qF (show(!bV (b.take 2) rk2)=false by rw[hk];rfl) ?_
  rw[show i64.wrap (((List.length (α:=Row K5) b:Nat):Int) - 4)=((b.length - 4:Nat):Int)from e4];refine qT hc4 ?_
  refine qR (f205 (rdK (mR b) 0) (hr.k 0)) ?_;refine qR (f205 (rdK (mR b) 1) (hr.k 1)) ?_;refine qR (f205 (rdK (mR b) 2) (hr.k 2)) ?_;refine qR (f205 (rdK (mR b) 3) (hr.k 3)) ?_;refine qR (f205 (rdK (mR b) 4) (hr.k 4)) ?_
  refine qR (f206 (rdK (mR b) 5) 4 (hr.k 5) (by omega)) ?_;refine qR (f205 (mgA NI (mR b)).2 G.a) ?_;refine qR (f206 (mgB NI (mR b)).2 5 G.b (by omega)) ?_;refine qR (f206 (mgC NI (mR b)).2 4 G.c (by omega)) ?_;refine qR (f205 (mgD NI (mR b)).2 G.d) ?_
  exact hR
 have un:nK NI (mR b)=true->bW b=none:=λh=>by unfold bW;rw[hlen2,hk,h];rfl
 have hbadE:nK NI (mR b)=((mgE NI (mR b)).2.2.2.1||decide ((mgE NI (mR b)).1>((b.length - 4:Nat):Int) - (mgE NI (mR b)).2.2.1)):=by unfold nK;rw[G.list,hlen]
 have ew:i64.wrap (((b.length - 4:Nat):Int) - (mgE NI (mR b)).2.2.1)=((b.length - 4:Nat):Int) - (mgE NI (mR b)).2.2.1:=by rw[IntKind.wrap_i64];omega
 have ep:i64.wrap ((mgE NI (mR b)).2.2.1+(mgE NI (mR b)).1)=(mgE NI (mR b)).2.2.1+(mgE NI (mR b)).1:=by rw[IntKind.wrap_i64];omega
 cases hE:(mgE NI (mR b)).2.2.2.1 with
 | true=>
  have:=un (by rw[hbadE,hE];rfl)
  exact Ev.now λaA=>head aA (by rw[hE,this];rfl)
 | false=>
 by_cases hgt:(mgE NI (mR b)).1>((b.length - 4:Nat):Int) - (mgE NI (mR b)).2.2.1
 ·have:=un (by rw[hbadE,hE,decide_eq_true hgt];rfl)
  exact Ev.now λaA=>head aA (by rw[hE,ew,decide_eq_true hgt,this];rfl)
 have hbad:nK NI (mR b)=false:=by rw[hbadE,hE,decide_eq_false hgt];rfl
 have hR:=PS G hbad
 have hp:(b.take ((mgE NI (mR b)).2.2.1+(mgE NI (mR b)).1).toNat).drop (mgE NI (mR b)).2.2.1.toNat=eV NI (mR b):=by
  unfold eV;rw[G.list]
  show _=((b.take (b.length - 4)).take _).drop _
  rw[List.take_take,Nat.min_eq_left (by omega)]
 have hpb:ByL (eV NI (mR b)):=by rw[<- hp];exact hb.byL.sub λx hx=>List.mem_of_mem_take (List.mem_of_mem_drop hx)
 have hpl:(eV NI (mR b)).length<=aP:=by rw[<- hp,List.length_drop,List.length_take];show _<=1048576;omega
 have i1:(decide (0<=(mgE NI (mR b)).2.2.1+(mgE NI (mR b)).1)&&decide ((mgE NI (mR b)).2.2.1+(mgE NI (mR b)).1<=(b.length:Int)))=true:=rng (c:=True) (d:=True) (by omega) (by omega)
 have i2:(decide (0<=(mgE NI (mR b)).2.2.1)&&decide ((mgE NI (mR b)).2.2.1<=((((mgE NI (mR b)).2.2.1+(mgE NI (mR b)).1).toNat:Nat):Int)))=true:=rng (c:=True) (d:=True) (by omega) (by omega)
 have hg:=f207 (eV NI (mR b)) hpb.b8 hpl
 cases hst:bU (eV NI (mR b))with
 | none=>
  have e:bW b=none:=by unfold bW;rw[hlen2,hk,hbad,hst];rfl
  rw[hst,<- hp] at hg
  exact Ev.now λaA=>head aA (by
   rw[hE,ew,ep,decide_eq_false hgt,e];refine qf ?_;refine qf ?_;refine qT i1 ?_;refine qT i2 ?_;refine qD hg ?_;rfl)
 | some s=>
 rw[hst,<- hp] at hg
 have hso:=uM hst
 have e:bW b=bif(miF b).2.2.2.1||(!dR (miM b s)|| !bV (aZ (miM b s)) b)then none else some (miM b s):=by unfold bW;rw[hlen2,hk,hbad,hst];rfl
 have rC:RdOk (miC b).2:=hR.cnt 5
 have rG:∀ k,RdOk (cC dJ (miC b).2 k).2:=nM (f:=dJ) (λr h=>RdOk.floor h) rC
 have bC:0<=(miC b).1/\(miC b).1<=5:=qI _ (by decide)
 have lF:(miF b).1.length<=5:=by unfold miF;rw[hU];omega
 have hz:SzM (miM b s):=PT G (EB hso) (by omega)
 have inn:It (λaA (_:Unit)=>c125_25 (aI p n) aA b (prA (aJ (rdK (mR b) 0))) (SU s true) (prA (miC b)) (prA (aJ (rdK (mR b) 1))) (prA (aJ (rdK (mR b) 2))) (prA (aJ (rdK (mR b) 3))) (prA (aJ (rdK (mR b) 4))) (prN (mgA NI (mR b))) (prA (mgB NI (mR b))) (prN (mgC NI (mR b))) (prN (mgD NI (mR b)))) (rdF 0 (cC dJ (miC b).2 0)) (λ_=>some (m8 (bW b))):=by
  refine It.run (λk=>rdF k (cC dJ (miC b).2 k)) (miC b).1.toNat (λk hk aA u rec=>?_) (It.stop λaA u rec=>?_)
  ·have hln:=hU dJ (miC b).2 k
   have hbd:(cC dJ (miC b).2 k).1.length+1<=bound:=by unfold bound;omega
   show c125_25 (aI p n) aA b (prA (aJ (rdK (mR b) 0))) (SU s true) (prA (miC b)) (prA (aJ (rdK (mR b) 1))) (prA (aJ (rdK (mR b) 2))) (prA (aJ (rdK (mR b) 3))) (prA (aJ (rdK (mR b) 4))) (prN (mgA NI (mR b))) (prA (mgB NI (mR b))) (prN (mgC NI (mR b))) (prN (mgD NI (mR b))) rec (rdF k (cC dJ (miC b).2 k))=rec (rdF (k+1) (cC dJ (miC b).2 (k+1)))
   unfold c125_25 rdF;dsimp only;rw[aF (show k<9223372036854775807 by omega)];refine qP (show(k:Int)<(miC b).1 by omega) ?_;refine qR (f205 (cC dJ (miC b).2 k).2 (rG k)) ?_;refine qR (f205 (aJ (cC dJ (miC b).2 k).2).2 (rG k).num) ?_;refine qP hbd ?_;rfl
  ·show c125_25 (aI p n) aA b (prA (aJ (rdK (mR b) 0))) (SU s true) (prA (miC b)) (prA (aJ (rdK (mR b) 1))) (prA (aJ (rdK (mR b) 2))) (prA (aJ (rdK (mR b) 3))) (prA (aJ (rdK (mR b) 4))) (prN (mgA NI (mR b))) (prA (mgB NI (mR b))) (prN (mgC NI (mR b))) (prN (mgD NI (mR b))) rec (rdF (miC b).1.toNat (miF b))=_
   unfold c125_25 rdF;dsimp only;refine qN (show ¬ ((((miC b).1.toNat:Nat):Int)<(miC b).1) by omega) ?_
   cases hbd:(miF b).2.2.2.1 with
   | true=>refine qt ?_;rw[show bW b=none by rw[e,hbd];rfl];rfl
   | false=>
    refine qf ?_;refine qC (f209 (miM b s) hz) ?_
    cases hm:dR (miM b s)with
    | false=>refine qt ?_;rw[show bW b=none by rw[e,hbd,hm];rfl];rfl
    | true=>
     refine qf ?_;refine qC (f211 (miM b s) hz) ?_;refine qC (f210 (aZ (miM b s)) b) ?_
     cases he:bV (aZ (miM b s)) b with
     | false=>refine qt ?_;rw[show bW b=none by rw[e,hbd,hm,he];rfl];rfl
     | true=>refine qf ?_;rw[show bW b=some (miM b s) by rw[e,hbd,hm,he];rfl];rfl
 have hcn:Ran p 3 208 [.ref ⟨K234,((mgE NI (mR b)).2.1,(mgE NI (mR b)).2.2.1+(mgE NI (mR b)).1,false,())⟩, vf K3 ((5:Int),())] ⟨[⟨K3,((miC b).1,())⟩],[⟨K234,(miC b).2⟩]⟩:=by
  have h:=f208 (mgR NI (mR b)) 5 hR
  rw[show mgR NI (mR b)=((mgE NI (mR b)).2.1,(mgE NI (mR b)).2.2.1+(mgE NI (mR b)).1,false,()) by unfold mgR;rw[hE]] at h
  rw[show miC b=eF ((mgE NI (mR b)).2.1,(mgE NI (mR b)).2.2.1+(mgE NI (mR b)).1,false,()) 5 by unfold miC mgR;rw[hE]]
  exact h
 exact Ev.eq (λaA=>head aA (by
  rw[hE,ew,ep,decide_eq_false hgt];refine qf ?_;refine qf ?_;refine qT i1 ?_;refine qT i2 ?_;refine qD hg ?_;refine qf ?_
  refine qR hcn ?_;rfl)) (inn.ev (i:=()) rfl)
end Go.Abs.Pz
set_option maxHeartbeats 4000000
namespace Go.Abs.Pz
open Go Go.Abs
theorem f23(b:List aH)(hb:B8 b)(hl:b.length<=aP):Ran p 7 23 [vf K22 (b,())] (m8 (bW b)):=go23 λn hn=>by
 rw[<- S4 hb.byL]
 have hs:b.length<=1048576:=hl
 by_cases h2:(b.length:Int)<6
 ·exact Ev.now λaA=>by unfold T23;refine qP h2 ?_;rw[show fI b=none by unfold fI;rw[decide_eq_true h2];rfl];rfl
 have h6:6<=b.length:=by omega
 have e4:i64.wrap ((b.length:Int) - 4)=((b.length - 4:Nat):Int):=by rw[IntKind.wrap_i64];omega
 have hlen2:decide ((b.length:Int)<6)=false:=decide_eq_false h2
 have hc4:(decide ((0:Int)<=((b.length - 4:Nat):Int))&&decide (((b.length - 4:Nat):Int)<=(b.length:Int)))=true:=rng (c:=True) (d:=True) (by omega) (by omega)
 have hr:=T6 hb hl h6
 have hbt:ByL (b.take (b.length - 4)):=hb.byL.sub λx hx=>List.mem_of_mem_take hx
 have hlt:(b.take (b.length - 4)).length<=aP:=by rw[List.length_take];show _<=1048576;omega
 have hsum:=f71 (b.take (b.length - 4)) hbt hlt
 have eT:List.drop (α:=Row K5) ((b.length - 4:Nat):Int).toNat (List.take (α:=Row K5) b.length b)=b.drop (b.length - 4):=by
  show List.drop ((b.length - 4:Nat):Int).toNat (List.take b.length b)=b.drop (b.length - 4)
  rw[List.take_length,Int.toNat_natCast]
 cases hk:bV (pT (b.take (b.length - 4))) (b.drop (b.length - 4))with
 | false=>
  exact Ev.now λaA=>by
   unfold T23;refine qN h2 ?_;rw[show i64.wrap (((List.length (α:=Row K5) b:Nat):Int) - 4)=((b.length - 4:Nat):Int)from e4];refine qT hc4 ?_;refine qC hsum ?_;refine qT hc4 ?_
   refine qT (show(!bV (pT (b.take (b.length - 4))) (List.drop (α:=Row K5) ((b.length - 4:Nat):Int).toNat (List.take (α:=Row K5) b.length b)))=true by rw[eT,hk];rfl) ?_
   rw[show fI b=none by unfold fI;rw[hlen2,hk];rfl];rfl
 | true=>
 have G:=T4 WH hr
 have lo:=G.e.lo;have hi:=G.e.hi;have nn:=G.nn
 have hlen:(mR b).1.length=b.length - 4:=by show(b.take (b.length - 4)).length=_;rw[List.length_take];omega
 have hle:(mgE NS (mR b)).2.1.length=b.length - 4:=by rw[G.list];exact hlen
 have head:∀ {R:Option Out} (aA:Nat),(bif(mgE NS (mR b)).2.2.2.1 then some (m8 none)else bif decide ((mgE NS (mR b)).1>i64.wrap ((((mgE NS (mR b)).2.1.length:Nat):Int) - (mgE NS (mR b)).2.2.1))then some (m8 none)else
   bif decide (0<=i64.wrap ((mgE NS (mR b)).2.2.1+(mgE NS (mR b)).1))&&decide (i64.wrap ((mgE NS (mR b)).2.2.1+(mgE NS (mR b)).1)<=(((mgE NS (mR b)).2.1.length:Nat):Int))then
   bif decide (0<=(mgE NS (mR b)).2.2.1)&&decide ((mgE NS (mR b)).2.2.1<=(((i64.wrap ((mgE NS (mR b)).2.2.1+(mgE NS (mR b)).1)).toNat:Nat):Int))then
   (((aI p n) 74 [vf K22 ((((mgE NS (mR b)).2.1.take (i64.wrap ((mgE NS (mR b)).2.2.1+(mgE NS (mR b)).1)).toNat).drop (mgE NS (mR b)).2.2.1.toNat),())]).bind (cN [K50,K4] [])).bind λo12=>
   (((aI p n) 73 [.ref ⟨K113,((mgE NS (mR b)).2.1,i64.wrap ((mgE NS (mR b)).2.2.1+(mgE NS (mR b)).1),(mgE NS (mR b)).2.2.2.1,())⟩, vf K3 ((2:Int),())]).bind (cN [K38] [K113])).bind λo13=>
    iter (c23_22 (aI p n) aA b (H0 (mgD NS (mR b))) o12 o13 (yL (aJ (rdK (mR b) 0))) (yL (aJ (rdK (mR b) 1))) (yL (aJ (rdK (mR b) 2))) (yL (aJ (rdK (mR b) 3))) (yL (aJ (rdK (mR b) 4))) (H0 (mgA NS (mR b))) (yL (mgB NS (mR b))) (H0 (mgC NS (mR b)))) aA ((0:Int),([]:List aO))
   else none else none)=R->T23 (aI p n) aA b=R:=by
  intro R aA hR
  unfold T23;refine qN h2 ?_;rw[show i64.wrap (((List.length (α:=Row K5) b:Nat):Int) - 4)=((b.length - 4:Nat):Int)from e4];refine qT hc4 ?_;refine qC hsum ?_;refine qT hc4 ?_
  refine qF (show(!bV (pT (b.take (b.length - 4))) (List.drop (α:=Row K5) ((b.length - 4:Nat):Int).toNat (List.take (α:=Row K5) b.length b)))=false by rw[eT,hk];rfl) ?_
  refine qT hc4 ?_
  refine qR (f72 (rdK (mR b) 0) (hr.k 0)) ?_;refine qR (f72 (rdK (mR b) 1) (hr.k 1)) ?_;refine qR (f72 (rdK (mR b) 2) (hr.k 2)) ?_;refine qR (f72 (rdK (mR b) 3) (hr.k 3)) ?_;refine qR (f72 (rdK (mR b) 4) (hr.k 4)) ?_
  refine qR (f73 (rdK (mR b) 5) 1 1 rfl (hr.k 5) (by omega)) ?_;refine qR (f72 (mgA NS (mR b)).2 G.a) ?_;refine qR (f73 (mgB NS (mR b)).2 1 1 rfl G.b (by omega)) ?_;refine qR (f73 (mgC NS (mR b)).2 1 1 rfl G.c (by omega)) ?_;refine qR (f72 (mgD NS (mR b)).2 G.d) ?_
  exact hR
 have un:nK NS (mR b)=true->fI b=none:=λh=>by unfold fI;rw[hlen2,hk,h];rfl
 have hbadE:nK NS (mR b)=((mgE NS (mR b)).2.2.2.1||decide ((mgE NS (mR b)).1>(((mgE NS (mR b)).2.1.length:Nat):Int) - (mgE NS (mR b)).2.2.1)):=rfl
 have ew:i64.wrap ((((mgE NS (mR b)).2.1.length:Nat):Int) - (mgE NS (mR b)).2.2.1)=(((mgE NS (mR b)).2.1.length:Nat):Int) - (mgE NS (mR b)).2.2.1:=by rw[IntKind.wrap_i64];omega
 have ep:i64.wrap ((mgE NS (mR b)).2.2.1+(mgE NS (mR b)).1)=(mgE NS (mR b)).2.2.1+(mgE NS (mR b)).1:=by rw[IntKind.wrap_i64];omega
 cases hE:(mgE NS (mR b)).2.2.2.1 with
 | true=>
  have:=un (by rw[hbadE,hE];rfl)
  exact Ev.now λaA=>head aA (by rw[hE,this];rfl)
 | false=>
 by_cases hgt:(mgE NS (mR b)).1>(((mgE NS (mR b)).2.1.length:Nat):Int) - (mgE NS (mR b)).2.2.1
 ·have:=un (by rw[hbadE,hE,decide_eq_true hgt];rfl)
  exact Ev.now λaA=>head aA (by rw[hE,ew,decide_eq_true hgt,this];rfl)
 have hbad:nK NS (mR b)=false:=by rw[hbadE,hE,decide_eq_false hgt];rfl
 have hR:=PS G hbad
 have hpb:ByL (eV NS (mR b)):=G.e.b8.byL.sub λx hx=>List.mem_of_mem_take (List.mem_of_mem_drop hx)
 have hpl:(eV NS (mR b)).length<=aP:=by unfold eV;rw[List.length_drop,List.length_take];show _<=1048576;omega
 have i1:(decide (0<=(mgE NS (mR b)).2.2.1+(mgE NS (mR b)).1)&&decide ((mgE NS (mR b)).2.2.1+(mgE NS (mR b)).1<=(((mgE NS (mR b)).2.1.length:Nat):Int)))=true:=rng (c:=True) (d:=True) (by omega) (by omega)
 have i2:(decide (0<=(mgE NS (mR b)).2.2.1)&&decide ((mgE NS (mR b)).2.2.1<=((((mgE NS (mR b)).2.2.1+(mgE NS (mR b)).1).toNat:Nat):Int)))=true:=rng (c:=True) (d:=True) (by omega) (by omega)
 have hg:=f74 (eV NS (mR b)) hpb.b8 hpl
 rw[LP hpb,OB] at hg
 have hz0:=TI (eV NS (mR b))
 have e:fI b=bif(bU (eV NS (mR b))).isNone||((msF b).2.2.2.1||(!dR (msM b)|| !bV (aZ (msM b)) b))then none else some (msM b):=by unfold fI;rw[hlen2,hk,hbad];rfl
 have hz:SzM (msM b):=PT G hz0 (KT _)
 have hm2:=sF (mgR NS (mR b)) 2
 have inn:It (λaA (_:Unit)=>c23_22 (aI p n) aA b (H0 (mgD NS (mR b))) (SU ((bU (eV NS (mR b))).getD iX) (bU (eV NS (mR b))).isSome) (H0 (cK (mgR NS (mR b)) 2)) (yL (aJ (rdK (mR b) 0))) (yL (aJ (rdK (mR b) 1))) (yL (aJ (rdK (mR b) 2))) (yL (aJ (rdK (mR b) 3))) (yL (aJ (rdK (mR b) 4))) (H0 (mgA NS (mR b))) (yL (mgB NS (mR b))) (H0 (mgC NS (mR b)))) ((0:Int),([]:List aO)) (λ_=>some (m8 (fI b))):=by
  refine It.run (λk=>(((2*k:Nat):Int),iW (cK (mgR NS (mR b)) 2).1 k)) ((cK (mgR NS (mR b)) 2).1.length / 2) (λk hk aA u rec=>?_) (It.stop λaA u rec=>?_)
  ·have h1:2*k<(cK (mgR NS (mR b)) 2).1.length:=by omega
   have h2:2*k+1<(cK (mgR NS (mR b)) 2).1.length:=by omega
   have e1:i64.wrap (((2*k:Nat):Int)+1)=((2*k+1:Nat):Int):=by rw[IntKind.wrap_i64];omega
   have e2:i64.wrap (((2*k:Nat):Int)+2)=((2*(k+1):Nat):Int):=by rw[IntKind.wrap_i64];omega
   have hbd:(iW (cK (mgR NS (mR b)) 2).1 k).length+1<=bound:=by rw[tI];unfold bound;omega
   unfold c23_22;dsimp only;rw[e1,e2,xM];refine ql h2 ?_;refine qz ?_;refine(aD h1).trans ?_;refine(aD h1).trans ?_;refine qz ?_;refine(aD h2).trans ?_;refine(aD h2).trans ?_;refine qP hbd ?_;rfl
  ·have e1:i64.wrap ((((2*((cK (mgR NS (mR b)) 2).1.length / 2):Nat)):Int)+1)=((2*((cK (mgR NS (mR b)) 2).1.length / 2)+1:Nat):Int):=by rw[IntKind.wrap_i64];omega
   unfold c23_22;dsimp only;rw[e1];refine qN (show ¬ (((2*((cK (mgR NS (mR b)) 2).1.length / 2)+1:Nat):Int)<(((cK (mgR NS (mR b)) 2).1.length:Nat):Int)) by omega) ?_
   cases hso:(bU (eV NS (mR b))).isSome with
   | false=>refine qt ?_;rw[show fI b=none by rw[e,show(bU (eV NS (mR b))).isNone=true by rw[<- Option.not_isSome,hso];rfl];rfl];rfl
   | true=>
    have hno:(bU (eV NS (mR b))).isNone=false:=by rw[<- Option.not_isSome,hso];rfl
    refine qf ?_
    cases hbd:(msF b).2.2.2.1 with
    | true=>refine qT hbd ?_;rw[show fI b=none by rw[e,hno,hbd];rfl];rfl
    | false=>
     refine qF hbd ?_;refine qC (f75 (msM b) hz) ?_
     cases hm:dR (msM b)with
     | false=>refine qt ?_;rw[show fI b=none by rw[e,hno,hbd,hm];rfl];rfl
     | true=>
      refine qf ?_;refine qC (f76 (msM b) hz) ?_
      cases he:bV (aZ (msM b)) b with
      | false=>refine qT (show(!bV (aZ (msM b)) b)=true by rw[he];rfl) ?_;rw[show fI b=none by rw[e,hno,hbd,hm,he];rfl];rfl
      | true=>refine qF (show(!bV (aZ (msM b)) b)=false by rw[he];rfl) ?_;rw[show fI b=some (msM b) by rw[e,hno,hbd,hm,he];rfl];rfl
 have hcn:Ran p 3 73 [.ref ⟨K113,((mgE NS (mR b)).2.1,(mgE NS (mR b)).2.2.1+(mgE NS (mR b)).1,false,())⟩, vf K3 ((2:Int),())] (sG (cK (mgR NS (mR b)) 2)):=by
  have h:=f73 (mgR NS (mR b)) 2 2 rfl hR (by omega)
  rw[show mgR NS (mR b)=((mgE NS (mR b)).2.1,(mgE NS (mR b)).2.2.1+(mgE NS (mR b)).1,false,()) by unfold mgR;rw[hE]] at h ⊢
  exact h
 exact Ev.eq (λaA=>head aA (by
  rw[hE,ew,ep,decide_eq_false hgt];refine qf ?_;refine qf ?_;refine qT i1 ?_;refine qT i2 ?_;refine qD hg ?_;refine qR hcn ?_;rfl)) (inn.ev (i:=()) rfl)
-- receiving bytes
def eE(x:NodeT)(b:List aH):NodeT×List bM×Int:=match bW b with
 | none=>(x,[],1)
 | some m=>((gS x m).1,(gS x m).2.1.map (λa=>(aZ a,())),(gS x m).2.2)
def TV(r:NodeT×List bM×Int):Out:=⟨[⟨K66,r.1⟩,⟨K250,(r.2.1,())⟩,⟨K3,(r.2.2,())⟩],[]⟩
theorem iK{x:NodeT}{b:List aH}(h:bW b=none):eE x b=(x,[],1):=by unfold eE;rw[h]
theorem mY{x:NodeT}{b:List aH}{m:MsgT}(h:bW b=some m):eE x b=((gS x m).1,(gS x m).2.1.map (λa=>(aZ a,())),(gS x m).2.2):=by unfold eE;rw[h]
theorem f232(x:NodeT)(b:List aH)(hz:SzN x)(hb:B8 b)(hl:b.length<=aP):Ran p 11 232 [va K66 x, vf K22 (b,())] (TV (eE x b)):=go232 λn hn=>by
 have hg:=f23 b hb hl
 cases hm:bW b with
 | none=>
  rw[hm] at hg
  exact Ev.now λaA=>by unfold T232;refine qD hg ?_;refine qt ?_;refine qC (f132 x hz) ?_;rw[iK hm];rfl
 | some m=>
  rw[hm] at hg
  have zm:=F9 hm
  have rs:=J9 hz zm
  have hrc:=f301 x m hz zm
  have lp:It (λaA (_:Unit)=>c232_7 (aI p n) aA (((gS x m).1,((gS x m).2.1,()),((gS x m).2.2,()),()),())) ((0:Int),([]:List bM)) (λ_=>some (TV (eE x b))):=by
   refine It.run (λi=>((i:Int),((gS x m).2.1.take i).map (λa=>((aZ a,()):bM)))) (gS x m).2.1.length (λi hi aA u rec=>?_) (It.stop λaA u rec=>?_)
   ·have hbd:(((gS x m).2.1.take i).map (λa=>((aZ a,()):bM))).length+1<=bound:=by have:=rs.len;rw[List.length_map,List.length_take];unfold bound;omega
    have e:((gS x m).2.1.take (i+1)).map (λa=>((aZ a,()):bM))=((gS x m).2.1.take i).map (λa=>((aZ a,()):bM))++[(aZ (gt (gS x m).2.1 i),())]:=by rw[oE hi,List.map_append];rfl
    show c232_7 (aI p n) aA (((gS x m).1,((gS x m).2.1,()),((gS x m).2.2,()),()),()) rec ((i:Int),((gS x m).2.1.take i).map (λa=>((aZ a,()):bM)))=rec (((i+1:Nat):Int),((gS x m).2.1.take (i+1)).map (λa=>((aZ a,()):bM)))
    rw[e]
    unfold c232_7;dsimp only;rw[aF (show i<9223372036854775807 by have:=rs.len;omega)];refine ql hi ?_;refine qz ?_;refine(aD hi).trans ?_;refine(aD hi).trans ?_;refine qC (f76 (gt (gS x m).2.1 i) (rs.msg _ (bR hi))) ?_;refine qP hbd ?_;rfl
   ·show c232_7 (aI p n) aA (((gS x m).1,((gS x m).2.1,()),((gS x m).2.2,()),()),()) rec (((gS x m).2.1.length:Int),((gS x m).2.1.take (gS x m).2.1.length).map (λa=>((aZ a,()):bM)))=_
    rw[List.take_length,mY hm]
    unfold c232_7;dsimp only;refine qe ?_;rfl
  exact Ev.eq (λaA=>by unfold T232;refine qD hg ?_;refine qf ?_;refine qE hrc ?_;rfl) (lp.ev (i:=()) rfl)
end Go.Abs.Pz
namespace Go.Abs.Pz
open Go Go.Abs
def N5(r:WF):Out:=⟨[⟨K66,r.1⟩,⟨K53,r.2.1⟩,⟨K4,(r.2.2,())⟩],[]⟩
theorem f228(x:NodeT)(i:Int):Ran p 2 228 [va K66 x, vf K3 (i,())] (rO K4 (mM x i,())):=go228 λn hn=>Ev.now λaA=>by
 unfold T228 mM;refine qC (f47 i 0 (i64.wrap (x.2.1 - 1))) ?_
 cases inB i 0 (i64.wrap (x.2.1 - 1))<;>rfl
theorem f138(x:NodeT)(i:Int)(hz:SzN x):Ran p 8 138 [va K66 x, vf K3 (i,())] (N5 (iH x i)):=go138 λn hn=>Ev.now λaA=>by
 have bad:p4 x i=false->(some ⟨[⟨K66,x⟩,⟨K53,AC⟩,⟨K4,(false,())⟩],[]⟩:Option Out)=some (N5 (iH x i)):=λh=>by rw[R6 h];rfl
 unfold T138;refine qC (f132 x hz) ?_;refine qC (f48 x hz) ?_
 cases g1:dU x with
 | false=>refine qt ?_;exact bad (by unfold p4;rw[g1];rfl)
 | true=>
 refine qf ?_;refine qC (f228 x i) ?_
 cases g2:mM x i with
 | false=>refine qt ?_;exact bad (by unfold p4;rw[g1,g2];rfl)
 | true=>
 refine qf ?_;refine qC (f231 x i false hz.sess) ?_
 by_cases g3:dE x.sess i false>=0
 ·refine qP g3 ?_;exact bad (by unfold p4;rw[g1,g2,decide_eq_true g3];rfl)
 refine qN g3 ?_
 have hle:=((dS x).1 ((fD x).1 g1).sess).1
 cases g4:(x.sess.length:Int)==x.slots with
 | true=>
  have e:=eq_of_beq g4
  (first | refine qT g4 ?_ | refine qP (show(x.sess.length:Int)>=x.slots by omega) ?_);exact bad (by unfold p4;rw[g1,g2,decide_eq_false g3,g4];rfl)
 | false=>
 have e:(x.sess.length:Int)≠x.slots:=by rw[beq_eq_false_iff_ne] at g4;exact g4
 (first | refine qF g4 ?_ | refine qN (show ¬ (x.sess.length:Int)>=x.slots by omega) ?_)
 cases g5:x.num==100000 with
 | true=>(first | refine qT g5 ?_ | refine qt ?_);exact bad (by unfold p4;rw[g1,g2,decide_eq_false g3,g4,g5];rfl)
 | false=>
 (first | refine qF g5 ?_ | refine qf ?_)
 have ok:p4 x i=true:=by unfold p4;rw[g1,g2,decide_eq_false g3,g4,g5];rfl
 have hb:x.sess.length+1<=bound:=by have:=hz.sess;unfold aP at this;unfold bound;omega
 have hz2:=FE hz (uL ok)
 rw[N3 ok];refine qP hb ?_;refine qC (f229 (FF x i) 2 i (i64.wrap (x.num+1)) hz2) ?_;refine qC (f222 x.tree hz.leaves) ?_;rfl
end Go.Abs.Pz
namespace Go.Abs.Pz
open Go Go.Abs
theorem zO(i:Int)(e:bA):∃ b:Bool,Ran p 4 343 [vf K3 (i,()), va K104 e] ⟨[⟨K50,z6 i e⟩,⟨K4,(b,())⟩],[]⟩:=by
 have hs:=f49 ([(i,e)],[],()) (by show 1<=9223372036854775807;omega) (by show 0<=9223372036854775807;omega)
 unfold z6
 cases ho:aM ([(i,e)],[],())with
 | false=>exact⟨false,go343 λn hn=>Ev.now λaA=>by unfold T343;refine qC hs ?_;rw[ho];rfl⟩
 | true=>exact⟨true,go343 λn hn=>Ev.now λaA=>by unfold T343;refine qC hs ?_;rw[ho];rfl⟩
theorem f331(i:Int)(e:bA):Ran p 5 331 [vf K3 (i,()), va K104 e] ⟨[⟨K50,z6 i e⟩,⟨K3,((0:Int),())⟩],[]⟩:=by
 obtain⟨b,hs⟩:=zO i e
 exact go331 λn hn=>Ev.now λaA=>by unfold T331;refine qD hs ?_;rfl
theorem f293(s:aE)(i:Int)(hz:SzS s):Ran p 6 293 [va K50 s, vf K3 (i,())] ⟨[⟨K50,(rY s i).1⟩,⟨K3,((rY s i).2,())⟩],[]⟩:=go293 λn hn=>Ev.now λaA=>by
 unfold T293 rY;refine qC (f49 s (aS hz.a) (aS hz.b)) ?_
 cases aM s with
 | false=>rfl
 | true=>
 refine qf ?_;refine qC (f118 i) ?_
 cases eN i with
 | false=>rfl
 | true=>
 refine qf ?_;refine qD (f330 s i hz) ?_
 cases (pA s i).2 with
 | true=>rfl
 | false=>
 refine qf ?_;refine qD (f240 s i (aS hz.a)) ?_;refine qC (f120 s i (aS hz.b)) ?_;refine qC (f161 (bE s i).1.1 (cL s.2.1 i)) ?_
 cases h:u9 s i==1000 with
 | true=>(first | refine qT h ?_ | refine qt ?_);rfl
 | false=>(first | refine qF h ?_ | refine qf ?_);refine qD (f331 i (i64.wrap (u9 s i+1),0,0,0,⟨#[]⟩,())) ?_;rfl
theorem f332(s:aE)(i:Int)(hz:SzS s):Ran p 6 332 [va K50 s, vf K3 (i,())] ⟨[⟨K104,(upE s i).1⟩,⟨K3,((upE s i).2,())⟩],[]⟩:=go332 λn hn=>Ev.now λaA=>by
 unfold T332 upE;refine qC (f49 s (aS hz.a) (aS hz.b)) ?_
 cases aM s with
 | false=>rfl
 | true=>
 refine qf ?_;refine qC (f118 i) ?_
 cases eN i with
 | false=>rfl
 | true=>
 refine qf ?_;refine qD (f330 s i hz) ?_
 cases (pA s i).2<;>rfl
theorem f294(s:aE)(i:Int)(hz:SzS s):Ran p 7 294 [va K50 s, vf K3 (i,())] ⟨[⟨K50,(sA s i).1⟩,⟨K3,((sA s i).2,())⟩],[]⟩:=go294 λn hn=>Ev.now λaA=>by
 unfold T294 sA;refine qD (f332 s i hz) ?_
 cases h:(upE s i).2 != 0 with
 | true=>(first | refine qT h ?_ | refine qt ?_);rfl
 | false=>
 (first | refine qF h ?_ | refine qf ?_)
 cases h2:(upE s i).1.2.2.1==100000 with
 | true=>(first | refine qT h2 ?_ | refine qt ?_);rfl
 | false=>(first | refine qF h2 ?_ | refine qf ?_);refine qD (f331 i ((upE s i).1.1,(upE s i).1.2.1,i64.wrap ((upE s i).1.2.2.1+1),(upE s i).1.2.2.2.1,(upE s i).1.2.2.2.2.1,())) ?_;rfl
theorem f295(s:aE)(i:Int)(t:ByteArray)(hz:SzS s):Ran p 7 295 [va K50 s, vf K3 (i,()), vf K9 (t,())] ⟨[⟨K50,(vX s i t).1⟩,⟨K3,((vX s i t).2,())⟩],[]⟩:=go295 λn hn=>Ev.now λaA=>by
 unfold T295 vX;refine qD (f332 s i hz) ?_
 cases h:(upE s i).2 != 0 with
 | true=>(first | refine qT h ?_ | refine qt ?_);rfl
 | false=>
 (first | refine qF h ?_ | refine qf ?_)
 cases h2:(upE s i).1.2.2.2.1==1000 with
 | true=>(first | refine qT h2 ?_ | refine qt ?_);rfl
 | false=>
 (first | refine qF h2 ?_ | refine qf ?_)
 by_cases h3:((ByteArray.size t:Nat):Int)>8
 ·refine qP h3 ?_;rw[decide_eq_true h3];rfl
 ·refine qN h3 ?_;rw[decide_eq_false h3];refine qD (f331 i ((upE s i).1.1,(upE s i).1.2.1,(upE s i).1.2.2.1,i64.wrap ((upE s i).1.2.2.2.1+1),t,())) ?_;rfl
theorem f296(s:aE)(i:Int)(hz:SzS s):Ran p 7 296 [va K50 s, vf K3 (i,())] ⟨[⟨K50,(rZ s i).1⟩,⟨K3,((rZ s i).2,())⟩],[]⟩:=go296 λn hn=>Ev.now λaA=>by
 unfold T296 rZ;refine qD (f332 s i hz) ?_
 cases h:(upE s i).2 != 0 with
 | true=>(first | refine qT h ?_ | refine qt ?_);rfl
 | false=>(first | refine qF h ?_ | refine qf ?_);refine qD (f331 i ((upE s i).1.1,1,(upE s i).1.2.2.1,(upE s i).1.2.2.2.1,(upE s i).1.2.2.2.2.1,())) ?_;rfl
theorem f225(s:aE)(k i:Int)(t:ByteArray)(hz:SzS s):Ran p 8 225 [va K50 s, vf K3 (k,()), vf K3 (i,()), vf K9 (t,())] ⟨[⟨K50,(fR s k i t).1⟩,⟨K3,((fR s k i t).2,())⟩],[]⟩:=go225 λn hn=>Ev.now λaA=>by
 unfold T225 fR
 cases k==0 with
 | true=>refine qt ?_;refine qD (f293 s i hz) ?_;rfl
 | false=>
 refine qf ?_
 cases k==1 with
 | true=>refine qt ?_;refine qD (f294 s i hz) ?_;rfl
 | false=>
 refine qf ?_
 cases k==2 with
 | true=>refine qt ?_;refine qD (f295 s i t hz) ?_;rfl
 | false=>refine qf ?_;refine qD (f296 s i hz) ?_;rfl
theorem f226(l:f0)(d:aE)(hl:l.2.2.1.length<=aP)(hs:∀ i,i<l.2.2.1.length->SzS (gt l.2.2.1 i))(hz:SzS d):Ran p 5 226 [va K61 l, va K50 d] ⟨[⟨K61,(tN l d).1⟩,⟨K4,((tN l d).2,())⟩],[]⟩:=go226 λn hn=>Ev.now λaA=>by
 unfold T226 tN mW;refine qC (f223 l hl hs) ?_;refine qC (f113 l hl hs) ?_
 cases g1:gK l with
 | false=>rfl
 | true=>
 refine qf ?_;refine qC (f49 d (aS hz.a) (aS hz.b)) ?_
 cases aM d with
 | false=>rfl
 | true=>
 refine qf ?_
 cases h:i64.wrap (l.2.1+(l.2.2.1.length:Int))==100000 with
 | true=>(first | refine qT h ?_ | refine qt ?_);rfl
 | false=>
 (first | refine qF h ?_ | refine qf ?_)
 have hb:l.2.2.1.length+1<=bound:=by unfold aP at hl;unfold bound;omega
 have hlen:(l.2.2.1++[d]).length=l.2.2.1.length+1:=by rw[List.length_append,List.length_singleton]
 refine qC (f134 d hz) ?_;refine qP hb ?_
 show _=some (⟨[⟨K61,gH l d⟩,⟨K4,(true,())⟩],[]⟩:Out)
 unfold gH
 by_cases hc:(((l.2.2.1++[d]).length:Nat):Int)>l.1
 ·refine qP hc ?_;rw[decide_eq_true hc]
  refine(G5 (show(0:Int)<=1 by omega) (show(1:Int)<=(((l.2.2.1++[d]).length:Nat):Int) by rw[hlen];omega)).trans ?_
  refine qP (show List.length ([]:List aE)+(((l.2.2.1++[d]).take (l.2.2.1++[d]).length).drop ((1:Int)).toNat).length<=bound by rw[List.take_length,List.length_drop,hlen];simp;omega) ?_
  show(some ⟨[⟨K61,(l.1,i64.wrap (l.2.1+1),(((l.2.2.1++[d]).take (l.2.2.1++[d]).length).drop ((1:Int)).toNat),())⟩,⟨K4,(true,())⟩],[]⟩:Option Out)=_
  rw[List.take_length];rfl
 ·refine qN hc ?_;rw[decide_eq_false hc];rfl
end Go.Abs.Pz
namespace Go.Abs.Pz
open Go Go.Abs
def OK(r:K0):Out:=⟨[⟨K66,r.1⟩,⟨K50,r.2.1⟩,⟨K3,(r.2.2,())⟩],[]⟩
theorem tA{s:aE}(h:aM s=true):SzS s:=by
 have:=((aN s).1 h).len
 exact⟨by unfold aP;omega,by unfold aP;omega⟩
theorem f136(x:NodeT)(k i:Int)(t:ByteArray)(hz:SzN x):Ran p 9 136 [va K66 x, vf K3 (k,()), vf K3 (i,()), vf K9 (t,())] (OK (iU x k i t)):=go136 λn hn=>Ev.now λaA=>by
 have bad:uQ x k i=false->(some ⟨[⟨K66,x⟩,⟨K50,([],[],())⟩,⟨K3,((1:Int),())⟩],[]⟩:Option Out)=some (OK (iU x k i t)):=λh=>by unfold iU;rw[h];rfl
 unfold T136;refine qC (f132 x hz) ?_;refine qC (f48 x hz) ?_
 cases g1:dU x with
 | false=>refine qt ?_;exact bad (by unfold uQ;rw[g1];rfl)
 | true=>
 refine qf ?_;refine qC (f47 k 0 4) ?_
 cases g2:inB k 0 4 with
 | false=>refine qt ?_;exact bad (by unfold uQ;rw[g1,g2];rfl)
 | true=>
 refine qf ?_;refine qC (f47 i 0 (i64.wrap (x.2.1 - 1))) ?_
 cases g3:inB i 0 (i64.wrap (x.2.1 - 1))with
 | false=>refine qt ?_;exact bad (by unfold uQ;rw[g1,g2,g3];rfl)
 | true=>
 refine qf ?_
 cases g4:rM (k==4) (i==x.1)with
 | true=>(first | refine qT g4 ?_ | refine qt ?_);exact bad (by unfold uQ;rw[g1,g2,g3,g4];rfl)
 | false=>
 have ok:uQ x k i=true:=by unfold uQ;rw[g1,g2,g3,g4];rfl
 have hN:=(fD x).1 g1
 have hd:=FO x.state k i t
 (first | refine qF g4 ?_ | refine qf ?_);refine qD (f225 x.state k i t hz.state) ?_
 unfold iU;rw[ok]
 cases g5:(fR x.state k i t).2 != 0 with
 | true=>(first | refine qT g5 ?_ | refine qt ?_);rfl
 | false=>
 (first | refine qF g5 ?_ | refine qf ?_);refine qD (f226 x.log (fR x.state k i t).1 hz.list hz.logs (tA hd)) ?_
 unfold tN
 cases hb:mW x.log (fR x.state k i t).1 with
 | false=>rfl
 | true=>
 have hid:=hN.id;have hn5:=hN.n;have hv:=hN.got
 rw[aL] at hid hn5
 rw[IntKind.wrap_i64] at hid
 unfold eD at hv
 simp only[Bool.and_eq_true,beq_iff_eq] at hv
 have h0:(0:Int)<=x.1:=hid.1
 have hk:x.1.toNat<x.got.length:=by omega
 refine qf ?_;refine qC (f132 x hz) ?_;refine qP h0 ?_;refine(a9 hk).trans ?_;refine(a9 hk).trans ?_;refine qP h0 ?_;refine(a9 hk).trans ?_;refine(a9 hk).trans ?_
 refine qC (f227 (J7 x (fR x.state k i t).1) (fR x.state k i t).1 (FP hz hN hb) (tA hd) (DS (zR hN hb)) hd) ?_;rfl
theorem N0{x:NodeT}(h:NodeOk x):NodeOk (mK x):=by
 unfold mK
 rw[(fD x).2 h]
 cases hc:x.clock==100000 with
 | true=>exact h
 | false=>
  have hcl:=h.clock;have hwt:=h.wait
  rw[aL] at hcl hwt
  have hne:x.clock≠100000:=by rw[beq_eq_false_iff_ne] at hc;exact hc
  have hw:i64.wrap (x.clock+1)=x.clock+1:=by rw[IntKind.wrap_i64];omega
  have hs:=(dS x).1 h.sess
  have tw:∀ s∈x.sess,i64.wrap (s.2.2.2.1+1)=s.2.2.2.1+1:=λs hm=>by
   have:=(hs.2.1 s hm).2.2.2;rw[aL] at this;rw[IntKind.wrap_i64];omega
  show NodeOk (zG x)
  have e:(zG x).sess=x.sess.flatMap λs=>bif decide (i64.wrap (s.2.2.2.1+1)<=x.wait)then[B7 s] else[]:=cB (λs:eI=>bif decide (i64.wrap (s.2.2.2.1+1)<=x.wait)then[B7 s] else[]) x.sess
  have mem:∀ s∈(zG x).sess,∃ r∈x.sess,s=B7 r/\i64.wrap (r.2.2.2.1+1)<=x.wait:=λs hm=>by
   rw[e] at hm
   obtain⟨r,hr,hx⟩:=List.mem_flatMap.1 hm
   refine⟨r,hr,?_⟩
   by_cases hd:i64.wrap (r.2.2.2.1+1)<=x.wait
   ·rw[decide_eq_true hd] at hx;exact⟨List.mem_singleton.1 hx,hd⟩
   ·rw[decide_eq_false hd] at hx;cases hx
  have sub:∀ l:List eI,List.Sublist ((l.flatMap λs=>bif decide (i64.wrap (s.2.2.2.1+1)<=x.wait)then[B7 s] else[]).map pV) (l.map pV):=λl=>by
   induction l with
   | nil=>exact List.Sublist.slnil
   | cons s l ih=>
    rw[List.flatMap_cons,List.map_append,List.map_cons]
    cases decide (i64.wrap (s.2.2.2.1+1)<=x.wait)with
    | true=>exact List.Sublist.cons_cons _ ih
    | false=>exact List.Sublist.cons _ ih
  exact {
   n:=h.n,id:=h.id,state:=h.state,tree:=h.tree,log:=h.log,got:=h.got,acked:=h.acked,own:=h.own,seen:=h.seen,ack:=h.ack,num:=h.num
   clock:=by show inB (i64.wrap (x.clock+1)) 0 100000=true;rw[hw,aL];omega
   slots:=h.slots,wait:=h.wait,limit:=h.limit,rises:=h.rises
   rise:=by
    have h6:=h.rise
    rw[bD] at h6 ⊢
    intro i hi
    have h7:=h6 i hi
    unfold kF at h7 ⊢
    simp only[Bool.and_eq_true,aL] at h7 ⊢
    refine⟨h7.1,h7.2.1,h7.2.2.1,?_⟩
    show(gt x.rises i).2.2.1<=i64.wrap (x.clock+1)
    rw[hw];omega
   sess:=by
    refine(dS _).2 ⟨?_,λs hm=>?_,?_⟩
    ·have h8:=CC x
     show(((zG x).sess.length:Nat):Int)<=x.slots
     have:=hs.1;omega
    ·obtain⟨r,hr,rfl,hle⟩:=mem s hm
     have h9:=hs.2.1 r hr
     have h10:=h9.2.2.2
     rw[aL] at h10
     refine⟨h9.1,h9.2.1,h9.2.2.1,?_⟩
     show inB (i64.wrap (r.2.2.2.1+1)) 0 x.wait=true
     rw[aL];rw[tw r hr] at hle ⊢;omega
    ·rw[e];exact(sub x.sess).nodup hs.2.2 }
end Go.Abs.Pz
set_option maxHeartbeats 4000000
namespace Go.Abs.Pz
open Go Go.Abs
abbrev fO:=Int×Int×Int×Int×ByteArray×Unit
def O5(x:NodeT)(i:Int):MsgT:=(0,x.1,i,0,cA x.log,[],0,x.got,[],(sQ x (gt x.acked i.toNat).1).1,(sQ x (gt x.acked i.toNat).1).2.1,c7 x.state,())
def i8(x:NodeT)(i:Int):MsgT×Bool:=bif dU x&&mM x i then(O5 x i,true)else(AC,false)
def ST(r:MsgT×Bool):Out:=⟨[⟨K53,r.1⟩,⟨K4,(r.2,())⟩],[]⟩
theorem O4{x:NodeT}(hz:SzN x)(i:Int):SzM (O5 x i):=⟨Nat.zero_le _,hz.got,Nat.zero_le _,FK hz _,Nat.le_trans (fS _) (by decide)⟩
theorem O3{x:NodeT}(hz:SzN x)(i:Int):SzM (i8 x i).1:=by
 unfold i8
 cases dU x&&mM x i with
 | true=>exact O4 hz i
 | false=>exact KG
theorem SZ{x:NodeT}{i:Int}(h:dU x=true)(hp:mM x i=true):0<=i/\i.toNat<x.acked.length:=by
 have hn:=(fD x).1 h
 have h1:=hn.n;have h2:=hn.acked
 unfold mM at hp
 rw[Bool.and_eq_true,aL] at hp
 unfold eD at h2
 rw[Bool.and_eq_true,Bool.and_eq_true] at h2
 have h3:=eq_of_beq h2.2.1
 rw[aL] at h1
 have h4:=hp.1
 rw[IntKind.wrap_i64] at h4
 omega
theorem f137(x:NodeT)(i:Int)(hz:SzN x):Ran p 8 137 [va K66 x, vf K3 (i,())] (ST (i8 x i)):=go137 λn hn=>Ev.now λaA=>by
 unfold T137;refine qC (f48 x hz) ?_
 cases g1:dU x with
 | false=>refine qt ?_;rw[show i8 x i=(AC,false) by unfold i8;rw[g1];rfl];rfl
 | true=>
 refine qf ?_;refine qC (f228 x i) ?_
 cases g2:mM x i with
 | false=>refine qt ?_;rw[show i8 x i=(AC,false) by unfold i8;rw[g1,g2];rfl];rfl
 | true=>
 obtain⟨h0,hl⟩:=SZ g1 g2
 rw[show i8 x i=(O5 x i,true) by unfold i8;rw[g1,g2];rfl]
 refine qf ?_;refine qC (f229 x 0 i 0 hz) ?_;refine qP h0 ?_
 obtain⟨k,rfl⟩:∃ k:Nat,i=(k:Int):=⟨i.toNat,by omega⟩
 refine(aD (show k<x.acked.length by omega)).trans ?_;refine qD (f230 x (gt x.acked k).1 hz) ?_;rfl
theorem f140(l:List dD)(i:Nat)(hi:i<l.length)(hl:l.length<=aP):Ran p 1 140 [vf K25 (l,()), vf K3 ((i:Int),())] (rO K25 (l.take i++l.drop (i+1),())):=go140 λn hn=>Ev.now λaA=>by
 have hs:l.length<=1048576:=hl
 have e1:i64.wrap ((i:Int)+1)=((i+1:Nat):Int):=aF (by omega)
 have b1:0+((l.take ((i:Int)).toNat).drop 0).length<=bound:=by rw[List.length_drop,List.length_take];unfold bound;omega
 have b2:(([]:List dD)++(l.take ((i:Int)).toNat).drop 0).length+((l.take l.length).drop ((i+1:Nat):Int).toNat).length<=bound:=by
  rw[List.nil_append,List.length_drop,List.length_take,List.length_drop,List.length_take];unfold bound;omega
 unfold T140;rw[e1];refine qT (rng (c:=True) (d:=True) (show(0:Int)<=(i:Int) by omega) (show(i:Int)<=(l.length:Int) by omega)) ?_;refine qP b1 ?_;refine qT (rng (c:=True) (d:=True) (show(0:Int)<=((i+1:Nat):Int) by omega) (show((i+1:Nat):Int)<=(l.length:Int) by omega)) ?_;refine qP b2 ?_
 exact congrArg (λq:List dD=>(rV K25 (q,()):Option Out)) (by
  show(([]:List dD)++List.drop (α:=dD) 0 (List.take (α:=dD) ((i:Int)).toNat l))++List.drop (α:=dD) ((i+1:Nat):Int).toNat (List.take (α:=dD) l.length l)=l.take i++l.drop (i+1)
  rw[List.take_length,Int.toNat_natCast,Int.toNat_natCast];rfl)
-- worlds, changed by deeds
structure SzY (w:aV):Prop extends SzX w where
 by_:∀ i,i<w.2.1.length->ByL (gt w.2.1 i).2.1
def DA(r:aV×Int):Out:=⟨[⟨K28,r.1⟩,⟨K3,(r.2,())⟩],[]⟩
def cM(w:aV)(d:fO):aV×Int:=
 bif d.1==1 then((w.1.set d.2.1.toNat (mK (gt w.1 d.2.1.toNat)),w.2.1,w.2.2.1,()),0)else
 bif d.1==0 then(bif(w.2.2.1.length:Int)==40 then(w,3)else bif(iU (gt w.1 d.2.1.toNat) d.2.2.1 d.2.2.2.1 d.2.2.2.2.1).2.2 != 0 then(w,2)else
  ((w.1.set d.2.1.toNat (iU (gt w.1 d.2.1.toNat) d.2.2.1 d.2.2.2.1 d.2.2.2.2.1).1,w.2.1,w.2.2.1++[(d.2.1,(iU (gt w.1 d.2.1.toNat) d.2.2.1 d.2.2.2.1 d.2.2.2.2.1).2.1)],()),0))else
 bif(w.2.1.length:Int)==12 then(w,3)else
 bif d.1==2 then(bif !(i8 (gt w.1 d.2.1.toNat) d.2.2.1).2 then(w,2)else((w.1,w.2.1++[(d.2.2.1,aZ (i8 (gt w.1 d.2.1.toNat) d.2.2.1).1,false,())],w.2.2.1,()),0))else
 (bif !(iH (gt w.1 d.2.1.toNat) d.2.2.1).2.2 then((w.1.set d.2.1.toNat (iH (gt w.1 d.2.1.toNat) d.2.2.1).1,w.2.1,w.2.2.1,()),2)else
  ((w.1.set d.2.1.toNat (iH (gt w.1 d.2.1.toNat) d.2.2.1).1,w.2.1++[(d.2.2.1,aZ (iH (gt w.1 d.2.1.toNat) d.2.2.1).2.1,false,())],w.2.2.1,()),0))
theorem f54(w:aV)(d:fO)(hz:SzX w)(h0:0<=d.2.1)(ha:d.2.1.toNat<w.1.length)(hn0:w.2.1.length<=12)(hs0:w.2.2.1.length<=40):Ran p 10 54 [va K28 w, va K36 d] (DA (cM w d)):=go54 λn hn=>Ev.now λaA=>by
 obtain⟨dk,dA,dB,dC,dt,du⟩:=d
 obtain⟨a,rfl⟩:∃ a:Nat,dA=(a:Int):=⟨dA.toNat,by have h0:0<=dA:=h0;omega⟩
 have ha:a<w.1.length:=ha
 have hx:=hz.node a ha
 unfold T54;refine qC (f53 w hz) ?_;refine qz ?_;refine(aD ha).trans ?_
 cases g1:dk==1 with
 | true=>
  (first | refine qT g1 ?_ | refine qt ?_);refine qC (f135 (gt w.1 a) hx) ?_;refine qz ?_;refine(aD ha).trans ?_;refine(aD ha).trans ?_
  rw[show cM w (dk,(a:Int),dB,dC,dt,du)=((w.1.set a (mK (gt w.1 a)),w.2.1,w.2.2.1,()),0) by unfold cM;rw[g1];rfl];rfl
 | false=>
 (first | refine qF g1 ?_ | refine qf ?_)
 cases g0:dk==0 with
 | true=>
  (first | refine qT g0 ?_ | refine qt ?_)
  cases gs:(w.2.2.1.length:Int)==40 with
  | true=>(first | refine qT gs ?_ | refine qt ?_);rw[show cM w (dk,(a:Int),dB,dC,dt,du)=(w,3) by unfold cM;rw[g1,g0,gs];rfl];rfl
  | false=>
   (first | refine qF gs ?_ | refine qf ?_);refine qE (f136 (gt w.1 a) dB dC dt hx) ?_
   cases gc:(iU (gt w.1 a) dB dC dt).2.2 != 0 with
   | true=>(first | refine qT gc ?_ | refine qt ?_);rw[show cM w (dk,(a:Int),dB,dC,dt,du)=(w,2) by unfold cM;rw[g1,g0,gs];show(bif(iU (gt w.1 a) dB dC dt).2.2 != 0 then(w,(2:Int))else _)=_;rw[gc];rfl];rfl
   | false=>
    have hbd:w.2.2.1.length+1<=bound:=by unfold bound;omega
    (first | refine qF gc ?_ | refine qf ?_);refine qz ?_;refine(aD ha).trans ?_;refine(aD ha).trans ?_;refine qP hbd ?_
    rw[show cM w (dk,(a:Int),dB,dC,dt,du)=((w.1.set a (iU (gt w.1 a) dB dC dt).1,w.2.1,w.2.2.1++[((a:Int),(iU (gt w.1 a) dB dC dt).2.1)],()),0) by unfold cM;rw[g1,g0,gs];show(bif(iU (gt w.1 a) dB dC dt).2.2 != 0 then(w,(2:Int))else _)=_;rw[gc];rfl];rfl
 | false=>
 (first | refine qF g0 ?_ | refine qf ?_)
 cases gm:(w.2.1.length:Int)==12 with
 | true=>(first | refine qT gm ?_ | refine qt ?_);rw[show cM w (dk,(a:Int),dB,dC,dt,du)=(w,3) by unfold cM;rw[g1,g0,gm];rfl];rfl
 | false=>
 have hbn:w.2.1.length+1<=bound:=by unfold bound;omega
 (first | refine qF gm ?_ | refine qf ?_)
 cases g2:dk==2 with
 | true=>
  (first | refine qT g2 ?_ | refine qt ?_);refine qD (f137 (gt w.1 a) dB hx) ?_
  cases gp:(i8 (gt w.1 a) dB).2 with
  | false=>refine qt ?_;rw[show cM w (dk,(a:Int),dB,dC,dt,du)=(w,2) by unfold cM;rw[g1,g0,gm,g2];show(bif !(i8 (gt w.1 a) dB).2 then(w,(2:Int))else _)=_;rw[gp];rfl];rfl
  | true=>
   refine qf ?_;refine qC (f76 (i8 (gt w.1 a) dB).1 (O3 hx dB)) ?_;refine qP hbn ?_
   rw[show cM w (dk,(a:Int),dB,dC,dt,du)=((w.1,w.2.1++[(dB,aZ (i8 (gt w.1 a) dB).1,false,())],w.2.2.1,()),0) by unfold cM;rw[g1,g0,gm,g2];show(bif !(i8 (gt w.1 a) dB).2 then(w,(2:Int))else _)=_;rw[gp];rfl];rfl
 | false=>
  (first | refine qF g2 ?_ | refine qf ?_);refine qE (f138 (gt w.1 a) dB hx) ?_;refine qz ?_;refine(aD ha).trans ?_;refine(aD ha).trans ?_
  cases gp:(iH (gt w.1 a) dB).2.2 with
  | false=>refine qt ?_;rw[show cM w (dk,(a:Int),dB,dC,dt,du)=((w.1.set a (iH (gt w.1 a) dB).1,w.2.1,w.2.2.1,()),2) by unfold cM;rw[g1,g0,gm,g2];show(bif !(iH (gt w.1 a) dB).2.2 then _ else _)=_;rw[gp];rfl];rfl
  | true=>
   refine qf ?_;refine qC (f76 (iH (gt w.1 a) dB).2.1 (DX hx dB).2) ?_;refine qP hbn ?_
   rw[show cM w (dk,(a:Int),dB,dC,dt,du)=((w.1.set a (iH (gt w.1 a) dB).1,w.2.1++[(dB,aZ (iH (gt w.1 a) dB).2.1,false,())],w.2.2.1,()),0) by unfold cM;rw[g1,g0,gm,g2];show(bif !(iH (gt w.1 a) dB).2.2 then _ else _)=_;rw[gp];rfl];rfl
def UI(b:List aH):Int:=((bW b).getD AC).2.2.1
def sN(rs:List bM):Nat->Nat->List dD->List dD
 | 0,i,net=>net
 | k+1,i,net=>bif decide ((net.length:Int)<12)then sN rs k (i+1) (net++[(UI (gt rs i).1,(gt rs i).1,false,())])else net
def dP(l:List dD)(i:Nat):List dD:=l.take i++l.drop (i+1)
def qW(w:aV)(a:Nat):aV:=
 (w.1.set (gt w.2.1 a).1.toNat (eE (gt w.1 (gt w.2.1 a).1.toNat) (gt w.2.1 a).2.1).1,sN (eE (gt w.1 (gt w.2.1 a).1.toNat) (gt w.2.1 a).2.1).2.1 (eE (gt w.1 (gt w.2.1 a).1.toNat) (gt w.2.1 a).2.1).2.1.length 0 (dP w.2.1 a),w.2.2.1,())
theorem CR(o:Option MsgT):m8 o=⟨[⟨K53,o.getD AC⟩,⟨K4,(o.isSome,())⟩],[]⟩:=by cases o<;>rfl
structure RbOk (r:NodeT×List bM×Int):Prop where
 node:SzN r.1
 len:r.2.1.length<=1
 row:∀ q∈r.2.1,ByL q.1/\q.1.length<=504
theorem xH{x:NodeT}(hz:SzN x)(b:List aH):RbOk (eE x b):=by
 cases h:bW b with
 | none=>rw[iK h];exact⟨hz,Nat.zero_le _,λq hq=>by cases hq⟩
 | some m=>
  have rs:=J9 hz (F9 h)
  rw[mY h]
  refine⟨rs.node,by rw[List.length_map];exact rs.len,λq hq=>?_⟩
  obtain⟨a,_,rfl⟩:=List.mem_map.1 hq
  exact⟨jB a,u6 a⟩
structure PkOk (p:dD):Prop where
 by_:ByL p.2.1
 len:p.2.1.length<=aP
theorem SzY.pk{w:aV}(h:SzY w){i:Nat}(hi:i<w.2.1.length):PkOk (gt w.2.1 i):=⟨h.by_ i hi,h.bytes i hi⟩
theorem SzY.all{w:aV}(h:SzY w):∀ q∈w.2.1,PkOk q:=λq hq=>by
 obtain⟨i,hi,rfl⟩:=fX hq
 exact h.pk hi
theorem kD{l:List dD}{i:Nat}{q:dD}(h:q∈dP l i):q∈l:=by
 rcases List.mem_append.1 h with h | h
 ·exact List.mem_of_mem_take h
 ·exact List.mem_of_mem_drop h
theorem i7(l:List dD)(i:Nat):(dP l i).length<=l.length:=by
 unfold dP;rw[List.length_append,List.length_take,List.length_drop];omega
theorem KZ{rs:List bM}(hr:∀ q∈rs,ByL q.1/\q.1.length<=504):∀ (k i:Nat) (net:List dD),i+k<=rs.length->(∀ q∈net,PkOk q)->net.length<=12->(∀ q∈sN rs k i net,PkOk q)/\(sN rs k i net).length<=12
 | 0,i,net,_,h,hl=>⟨h,hl⟩
 | k+1,i,net,hi,h,hl=>by
  unfold sN
  by_cases h12:(net.length:Int)<12
  ·rw[decide_eq_true h12]
   have hg:=hr _ (bR (show i<rs.length by omega))
   refine KZ hr k (i+1) _ (by omega) (λq hq=>?_) (by rw[List.length_append,List.length_singleton];omega)
   rcases List.mem_append.1 hq with hq | hq
   ·exact h q hq
   ·rw[List.mem_singleton.1 hq];exact⟨hg.1,Nat.le_trans hg.2 (by decide)⟩
  ·rw[decide_eq_false h12];exact⟨h,hl⟩
theorem f139(w:aV)(a:Nat)(hz:SzY w)(ha:a<w.2.1.length)(hn0:w.2.1.length<=12)(hp0:0<=(gt w.2.1 a).1)(hp:(gt w.2.1 a).1.toNat<w.1.length):Ran p 12 139 [va K28 w, vf K3 ((a:Int),())] (rO K28 (qW w a)):=go139 λn hn=>by
 have hq:=hz.pk ha
 have hx:=hz.node _ hp
 have hR:=xH hx (gt w.2.1 a).2.1
 have hrb:=f232 (gt w.1 (gt w.2.1 a).1.toNat) (gt w.2.1 a).2.1 hx hq.by_.b8 hq.len
 obtain⟨t,ht⟩:∃ t:Nat,(gt w.2.1 a).1=(t:Int):=⟨(gt w.2.1 a).1.toNat,by omega⟩
 have htn:(gt w.2.1 a).1.toNat=t:=by rw[ht];rfl
 have htl:t<w.1.length:=by rw[<- htn];exact hp
 have e1:i64.wrap ((a:Int)+1)=((a+1:Nat):Int):=aF (by omega)
 have b1:0+((w.2.1.take ((a:Int)).toNat).drop 0).length<=bound:=by rw[List.length_drop,List.length_take];unfold bound;omega
 have b2:(([]:List dD)++(w.2.1.take ((a:Int)).toNat).drop 0).length+((w.2.1.take w.2.1.length).drop ((a+1:Nat):Int).toNat).length<=bound:=by
  rw[List.nil_append,List.length_drop,List.length_take,List.length_drop,List.length_take];unfold bound;omega
 have ew:([]++(w.2.1.take ((a:Int)).toNat).drop 0)++(w.2.1.take w.2.1.length).drop ((a+1:Nat):Int).toNat=dP w.2.1 a:=by
  unfold dP;rw[List.take_length,Int.toNat_natCast,Int.toNat_natCast];rfl
 have hW:qW w a=(w.1.set t (eE (gt w.1 t) (gt w.2.1 a).2.1).1,sN (eE (gt w.1 t) (gt w.2.1 a).2.1).2.1 (eE (gt w.1 t) (gt w.2.1 a).2.1).2.1.length 0 (dP w.2.1 a),w.2.2.1,()):=by unfold qW;rw[htn]
 rw[htn] at hrb hR
 generalize eE (gt w.1 t) (gt w.2.1 a).2.1=R at hrb hR hW
 have lp:∀ (k i:Nat) (net:List dD),i+k=R.2.1.length->net.length<=12->It (λaA (_:Unit)=>c139_7 (aI p n) aA ((w,()),()) ((R.1,(R.2.1,()),(R.2.2,()),()),()) (gt (α:=dD) w.2.1 a)) ((i:Int),net) (λ_=>rV K28 ((w.1.set t R.1,sN R.2.1 k i net,w.2.2.1,()):aV)):=by
  intro k
  induction k with
  | zero=>
   intro i net hi hl
   refine It.stop λaA u rec=>?_
   unfold c139_7;dsimp only;refine qN (show ¬ ((i:Int)<(R.2.1.length:Int)) by omega) ?_;rw[<- htn];rfl
  | succ k ih=>
   intro i net hi hl
   have hlt:i<R.2.1.length:=by omega
   by_cases h12:(net.length:Int)<12
   ·have hg:=hR.row _ (bR hlt)
    have hmo:=f23 (gt R.2.1 i).1 hg.1.b8 (Nat.le_trans hg.2 (by decide))
    rw[CR] at hmo
    have hbd:net.length+1<=bound:=by unfold bound;omega
    have e2:sN R.2.1 (k+1) i net=sN R.2.1 k (i+1) (net++[(UI (gt R.2.1 i).1,(gt R.2.1 i).1,false,())]):=by
     conv=>lhs;unfold sN
     rw[decide_eq_true h12];rfl
    rw[e2]
    refine It.next (λaA u rec=>?_) (ih (i+1) (net++[(UI (gt R.2.1 i).1,(gt R.2.1 i).1,false,())]) (by omega) (by rw[List.length_append,List.length_singleton];omega))
    unfold c139_7;dsimp only;rw[aF (show i<9223372036854775807 by have:=hR.len;omega)];refine ql hlt ?_;refine qP h12 ?_;refine qz ?_;refine(aD hlt).trans ?_;refine(aD hlt).trans ?_;refine qD hmo ?_;refine qz ?_;refine(aD hlt).trans ?_;refine(aD hlt).trans ?_;refine qP hbd ?_;rfl
   ·have e2:sN R.2.1 (k+1) i net=net:=by
     conv=>lhs;unfold sN
     rw[decide_eq_false h12];rfl
    rw[e2]
    refine It.stop λaA u rec=>?_
    unfold c139_7;dsimp only;refine ql hlt ?_;refine qN h12 ?_;rw[<- htn];rfl
 have lp0:=lp R.2.1.length 0 (dP w.2.1 a) (by omega) (Nat.le_trans (i7 _ _) hn0)
 rw[hW]
 exact Ev.eq (λaA=>by
  unfold T139;refine qC (f53 w hz.toSzX) ?_;refine qz ?_;refine(aD ha).trans ?_;refine qC (f140 w.2.1 a ha (show w.2.1.length<=1048576 by omega)) ?_
  refine qP hp0 ?_;rw[show vI (gt w.2.1 a).1=(t:Int)from ht];refine(aD htl).trans ?_;refine qE hrb ?_;refine qz ?_;refine(aD htl).trans ?_;refine(aD htl).trans ?_
  rfl) (lp0.ev (i:=()) rfl)
end Go.Abs.Pz
set_option maxHeartbeats 4000000
namespace Go.Abs.Pz
open Go Go.Abs
def p6(q:dD)(b:Nat)(c:Int):dD:=(q.1,q.2.1.set b (eJ .u8 (gt q.2.1 b).1 (IntKind.u8.wrap c),(gt q.2.1 b).2),true,q.2.2.2)
def fF(w:aV)(d:fO):Bool:=(gt w.2.1 d.2.1.toNat).2.2.1||(!inB d.2.2.1 0 (i64.wrap ((((gt w.2.1 d.2.1.toNat).2.1.length:Nat):Int) - 1))|| !inB d.2.2.2.1 1 255)
def gN(w:aV)(d:fO):aV×Int:=
 bif d.1==4 then(qW w d.2.1.toNat,0)else
 bif d.1==5 then((w.1,dP w.2.1 d.2.1.toNat,w.2.2.1,()),0)else
 bif d.1==6 then(bif(w.2.1.length:Int)==12 then(w,3)else((w.1,w.2.1++[gt w.2.1 d.2.1.toNat],w.2.2.1,()),0))else
 bif fF w d then(w,2)else((w.1,w.2.1.set d.2.1.toNat (p6 (gt w.2.1 d.2.1.toNat) d.2.2.1.toNat d.2.2.2.1),w.2.2.1,()),0)
theorem f55(w:aV)(d:fO)(hz:SzY w)(h0:0<=d.2.1)(ha:d.2.1.toNat<w.2.1.length)(hn0:w.2.1.length<=12)(hp0:0<=(gt w.2.1 d.2.1.toNat).1)(hp:(gt w.2.1 d.2.1.toNat).1.toNat<w.1.length):
  Ran p 13 55 [va K28 w, va K36 d] (DA (gN w d)):=go55 λn hn=>Ev.now λaA=>by
 obtain⟨dk,dA,dB,dC,dt,du⟩:=d
 obtain⟨a,rfl⟩:∃ a:Nat,dA=(a:Int):=⟨dA.toNat,by have h0:0<=dA:=h0;omega⟩
 have ha:a<w.2.1.length:=ha
 have hq:=hz.pk ha
 unfold T55;refine qC (f53 w hz.toSzX) ?_;refine qz ?_;refine(aD ha).trans ?_;refine(aD ha).trans ?_
 cases g4:dk==4 with
 | true=>(first | refine qT g4 ?_ | refine qt ?_);refine qC (f139 w a hz ha hn0 hp0 hp) ?_;rw[show gN w (dk,(a:Int),dB,dC,dt,du)=(qW w a,0) by unfold gN;rw[g4];rfl];rfl
 | false=>
 (first | refine qF g4 ?_ | refine qf ?_)
 cases g5:dk==5 with
 | true=>(first | refine qT g5 ?_ | refine qt ?_);refine qC (f140 w.2.1 a ha hz.net) ?_;rw[show gN w (dk,(a:Int),dB,dC,dt,du)=((w.1,dP w.2.1 a,w.2.2.1,()),0) by unfold gN;rw[g4,g5];rfl];rfl
 | false=>
 (first | refine qF g5 ?_ | refine qf ?_)
 cases g6:dk==6 with
 | true=>
  (first | refine qT g6 ?_ | refine qt ?_)
  cases gm:(w.2.1.length:Int)==12 with
  | true=>(first | refine qT gm ?_ | refine qt ?_);rw[show gN w (dk,(a:Int),dB,dC,dt,du)=(w,3) by unfold gN;rw[g4,g5,g6,gm];rfl];rfl
  | false=>
   have hbn:w.2.1.length+1<=bound:=by unfold bound;omega
   (first | refine qF gm ?_ | refine qf ?_);refine(aD ha).trans ?_;refine qC (f133 (gt w.2.1 a) hq.len) ?_;refine qP hbn ?_;rw[show gN w (dk,(a:Int),dB,dC,dt,du)=((w.1,w.2.1++[gt w.2.1 a],w.2.2.1,()),0) by unfold gN;rw[g4,g5,g6,gm];rfl];rfl
 | false=>
 (first | refine qF g6 ?_ | refine qf ?_)
 have hNo:∀ B C:Int,fF w (dk,(a:Int),B,C,dt,du)=((gt w.2.1 a).2.2.1||(!inB B 0 (i64.wrap ((((gt w.2.1 a).2.1.length:Nat):Int) - 1))|| !inB C 1 255)):=λ_ _=>rfl
 have no:fF w (dk,(a:Int),dB,dC,dt,du)=true->gN w (dk,(a:Int),dB,dC,dt,du)=(w,2):=λh=>by unfold gN;rw[g4,g5,g6,h];rfl
 cases gs:(gt w.2.1 a).2.2.1 with
 | true=>(first | refine qT gs ?_ | refine qt ?_);rw[no (by rw[hNo,gs];rfl)];rfl
 | false=>
 (first | refine qF gs ?_ | refine qf ?_);refine(aD ha).trans ?_;refine qC (f47 dB 0 (i64.wrap ((((gt w.2.1 a).2.1.length:Nat):Int) - 1))) ?_
 cases gb:inB dB 0 (i64.wrap ((((gt w.2.1 a).2.1.length:Nat):Int) - 1))with
 | false=>refine qt ?_;rw[no (by rw[hNo,gs,gb];rfl)];rfl
 | true=>
 refine qf ?_;refine qC (f47 dC 1 255) ?_
 cases gc:inB dC 1 255 with
 | false=>refine qt ?_;rw[no (by rw[hNo,gs,gb,gc];rfl)];rfl
 | true=>
 have hb:=gb
 rw[aL] at hb
 have hql:(gt w.2.1 a).2.1.length<=1048576:=hq.len
 rw[IntKind.wrap_i64] at hb
 obtain⟨b,rfl⟩:∃ b:Nat,dB=(b:Int):=⟨dB.toNat,by omega⟩
 have hbl:b<(gt w.2.1 a).2.1.length:=by omega
 have hN:gN w (dk,(a:Int),(b:Int),dC,dt,du)=((w.1,w.2.1.set a (p6 (gt w.2.1 a) b dC),w.2.2.1,()),0):=by
  unfold gN;rw[g4,g5,g6,show fF w (dk,(a:Int),(b:Int),dC,dt,du)=false by rw[hNo,gs,gb,gc];rfl];rfl
 have hs2:a<(w.2.1.set a ((gt w.2.1 a).1,(gt w.2.1 a).2.1.set b (eJ .u8 (gt (gt w.2.1 a).2.1 b).1 (IntKind.u8.wrap dC),(gt (gt w.2.1 a).2.1 b).2),(gt w.2.1 a).2.2)).length:=by rw[List.length_set];exact ha
 refine qf ?_;refine qz ?_;refine(aD ha).trans ?_;refine(aD hbl).trans ?_;refine(aD ha).trans ?_;refine(aD hbl).trans ?_;refine qz ?_;refine(aD ha).trans ?_;refine(aD hbl).trans ?_;refine(aD ha).trans ?_;refine(aD hbl).trans ?_;rw[yP];refine qz ?_;refine(aD hs2).trans ?_;refine(aD hs2).trans ?_;refine qP rfl ?_;rw[yP,hN]
 have e:(w.2.1.set a ((gt w.2.1 a).1,(gt w.2.1 a).2.1.set b (eJ .u8 (gt (gt w.2.1 a).2.1 b).1 (IntKind.u8.wrap dC),(gt (gt w.2.1 a).2.1 b).2),(gt w.2.1 a).2.2)).set a ((gt w.2.1 a).1,(gt (w.2.1.set a ((gt w.2.1 a).1,(gt w.2.1 a).2.1.set b (eJ .u8 (gt (gt w.2.1 a).2.1 b).1 (IntKind.u8.wrap dC),(gt (gt w.2.1 a).2.1 b).2),(gt w.2.1 a).2.2)) a).2.1,true,(gt (w.2.1.set a ((gt w.2.1 a).1,(gt w.2.1 a).2.1.set b (eJ .u8 (gt (gt w.2.1 a).2.1 b).1 (IntKind.u8.wrap dC),(gt (gt w.2.1 a).2.1 b).2),(gt w.2.1 a).2.2)) a).2.2.2)=w.2.1.set a (p6 (gt w.2.1 a) b dC):=by
  rw[bO (xs:=w.2.1) (i:=a) ha,List.set_set];rfl
 exact congrArg (λq:List dD=>(some (DA ((w.1,q,w.2.2.1,()),0)):Option Out)) e
def doW(w:aV)(d:fO):aV×Int:=
 bif !cE w then(w,1)else bif !inB d.1 0 7 then(w,1)else
 bif decide (d.1<=3)then(bif !inB d.2.1 0 (i64.wrap ((w.1.length:Int) - 1))then(w,1)else cM w d)else
 (bif !inB d.2.1 0 (i64.wrap ((w.2.1.length:Int) - 1))then(w,1)else gN w d)
theorem qV{x:Int}{n:Nat}(hn:n<=1000)(h:inB x 0 (i64.wrap (((n:Nat):Int) - 1))=true):0<=x/\x.toNat<n:=by
 rw[aL,IntKind.wrap_i64] at h;omega
theorem H5{w:aV}(h:cE w=true){i:Nat}(hi:i<w.2.1.length):0<=(gt w.2.1 i).1/\(gt w.2.1 i).1.toNat<w.1.length:=by
 have hl:=lR h
 unfold cE at h;simp only[Bool.and_eq_true,bD] at h
 exact qV (by omega) (h.2.2.2.2.1 i hi)
theorem f13(w:aV)(d:fO)(hz:SzY w):Ran p 14 13 [va K28 w, va K36 d] (DA (doW w d)):=go13 λn hn=>Ev.now λaA=>by
 unfold T13;refine qC (f11 w hz.toSzW) ?_
 cases ho:cE w with
 | false=>refine qt ?_;refine qC (f53 w hz.toSzX) ?_;rw[show doW w d=(w,1) by unfold doW;rw[ho];rfl];rfl
 | true=>
 have hl:=lR ho
 refine qf ?_;refine qC (f47 d.1 0 7) ?_
 cases hk:inB d.1 0 7 with
 | false=>refine qt ?_;refine qC (f53 w hz.toSzX) ?_;rw[show doW w d=(w,1) by unfold doW;rw[ho,hk];rfl];rfl
 | true=>
 refine qf ?_
 by_cases h3:d.1<=3
 ·refine qP h3 ?_;refine qC (f47 d.2.1 0 (i64.wrap ((w.1.length:Int) - 1))) ?_
  cases ha:inB d.2.1 0 (i64.wrap ((w.1.length:Int) - 1))with
  | false=>refine qt ?_;refine qC (f53 w hz.toSzX) ?_;rw[show doW w d=(w,1) by unfold doW;rw[ho,hk,decide_eq_true h3,ha];rfl];rfl
  | true=>
   have hA:=qV (by omega) ha
   refine qf ?_;refine qD (f54 w d hz.toSzX hA.1 hA.2 hl.2.2.1 hl.2.2.2) ?_;rw[show doW w d=cM w d by unfold doW;rw[ho,hk,decide_eq_true h3,ha];rfl];rfl
 ·refine qN h3 ?_;refine qC (f47 d.2.1 0 (i64.wrap ((w.2.1.length:Int) - 1))) ?_
  cases ha:inB d.2.1 0 (i64.wrap ((w.2.1.length:Int) - 1))with
  | false=>refine qt ?_;refine qC (f53 w hz.toSzX) ?_;rw[show doW w d=(w,1) by unfold doW;rw[ho,hk,decide_eq_false h3,ha];rfl];rfl
  | true=>
   have hA:=qV (by omega) ha
   have hT:=H5 ho hA.2
   refine qf ?_;refine qD (f55 w d hz hA.1 hA.2 hl.2.2.1 hT.1 hT.2) ?_;rw[show doW w d=gN w d by unfold doW;rw[ho,hk,decide_eq_false h3,ha];rfl];rfl
-- sizes
theorem jY{ns:List NodeT}{net:List dD}{sd:List yH}(h1:ns.length<=aP)(h2:∀ i,i<ns.length->SzN (gt ns i))(h3:net.length<=aP)(h4:∀ q∈net,PkOk q)(h5:sd.length<=aP)(h6:∀ i,i<sd.length->SzS (gt sd i).2):SzY (ns,net,sd,()) where
 nodes:=h1
 node:=h2
 net:=h3
 said:=h5
 part:=h6
 bytes:=λi hi=>(h4 _ (bR hi)).len
 by_:=λi hi=>(h4 _ (bR hi)).by_
theorem vW{ns:List NodeT}(h:∀ i,i<ns.length->SzN (gt ns i))(a:Nat){x:NodeT}(hx:SzN x):∀ i,i<(ns.set a x).length->SzN (gt (ns.set a x) i):=λi hi=>by
 rw[List.length_set] at hi
 by_cases e:a=i
 ·subst e;rw[bO hi];exact hx
 ·rw[dZ e];exact h i hi
theorem LX(x:NodeT)(k id:Int)(t:ByteArray):SzS (iU x k id t).2.1:=by
 unfold iU
 cases uQ x k id with
 | false=>exact kA
 | true=>
  show SzS (bif _ then _ else _:K0).2.1
  cases (fR x.state k id t).2 != 0 with
  | true=>exact kA
  | false=>
   show SzS (bif _ then _ else _:K0).2.1
   cases hb:mW x.log (fR x.state k id t).1 with
   | false=>exact kA
   | true=>
    unfold mW at hb
    simp only[Bool.and_eq_true] at hb
    exact EB ((aN _).1 hb.2.1)
theorem PP(m:MsgT)(t:Int):PkOk (t,aZ m,false,()):=⟨jB m,Nat.le_trans (u6 m) (by decide)⟩
theorem y2{net:List dD}(h:∀ q∈net,PkOk q){x:dD}(hx:PkOk x):∀ q∈net++[x],PkOk q:=λq hq=>by
 rcases List.mem_append.1 hq with hq | hq
 ·exact h q hq
 ·rw[List.mem_singleton.1 hq];exact hx
theorem JE{w:aV}{d:fO}(hz:SzY w)(ha:d.2.1.toNat<w.1.length)(hn0:w.2.1.length<=12)(hs0:w.2.2.1.length<=40):SzY (cM w d).1:=by
 have hx:=hz.node _ ha
 have hA:=hz.all
 have hn1:∀ x:dD,(w.2.1++[x]).length<=aP:=λx=>by rw[List.length_append,List.length_singleton];unfold aP;omega
 have hl:∀ x:NodeT,(w.1.set d.2.1.toNat x).length<=aP:=λx=>by rw[List.length_set];exact hz.nodes
 unfold cM
 cases d.1==1 with
 | true=>exact jY (hl _) (vW hz.node _ (FB hx)) hz.net hA hz.said hz.part
 | false=>
 cases d.1==0 with
 | true=>
  cases (w.2.2.1.length:Int)==40 with
  | true=>exact hz
  | false=>
   show SzY (bif _ then _ else _:aV×Int).1
   cases (iU (gt w.1 d.2.1.toNat) d.2.2.1 d.2.2.2.1 d.2.2.2.2.1).2.2 != 0 with
   | true=>exact hz
   | false=>
    refine jY (hl _) (vW hz.node _ (J6 hx _ _ _)) hz.net hA (by rw[List.length_append,List.length_singleton];unfold aP;omega) (λi hi=>?_)
    rw[List.length_append,List.length_singleton] at hi
    by_cases e:i<w.2.2.1.length
    ·have:gt (w.2.2.1++[((d.2.1,(iU (gt w.1 d.2.1.toNat) d.2.2.1 d.2.2.2.1 d.2.2.2.2.1).2.1):yH)]) i=gt w.2.2.1 i:=by
      rw[cJ (by rw[List.length_append];omega),cJ e,List.getElem_append_left e]
     rw[this];exact hz.part i e
    ·have:gt (w.2.2.1++[((d.2.1,(iU (gt w.1 d.2.1.toNat) d.2.2.1 d.2.2.2.1 d.2.2.2.2.1).2.1):yH)]) i=(d.2.1,(iU (gt w.1 d.2.1.toNat) d.2.2.1 d.2.2.2.1 d.2.2.2.2.1).2.1):=by
      have ei:i=w.2.2.1.length:=by omega
      subst ei
      rw[cJ (by rw[List.length_append];simp)];simp
     rw[this];exact LX _ _ _ _
 | false=>
 cases (w.2.1.length:Int)==12 with
 | true=>exact hz
 | false=>
 cases d.1==2 with
 | true=>
  show SzY (bif _ then _ else _:aV×Int).1
  cases (i8 (gt w.1 d.2.1.toNat) d.2.2.1).2 with
  | false=>exact hz
  | true=>exact jY hz.nodes hz.node (hn1 _) (y2 hA (PP _ _)) hz.said hz.part
 | false=>
  show SzY (bif _ then _ else _:aV×Int).1
  have hy:=(DX hx d.2.2.1).1
  cases (iH (gt w.1 d.2.1.toNat) d.2.2.1).2.2 with
  | false=>exact jY (hl _) (vW hz.node _ hy) hz.net hA hz.said hz.part
  | true=>exact jY (hl _) (vW hz.node _ hy) (hn1 _) (y2 hA (PP _ _)) hz.said hz.part
theorem S2{w:aV}{d:fO}(hz:SzY w)(ha:d.2.1.toNat<w.2.1.length)(hn0:w.2.1.length<=12)(hp:(gt w.2.1 d.2.1.toNat).1.toNat<w.1.length):SzY (gN w d).1:=by
 have hA:=hz.all
 have hq:=hz.pk ha
 have hn1:∀ x:dD,(w.2.1++[x]).length<=aP:=λx=>by rw[List.length_append,List.length_singleton];unfold aP;omega
 have hwl:=i7 w.2.1 d.2.1.toNat
 unfold gN
 cases d.1==4 with
 | true=>
  have hx:=hz.node _ hp
  have hR:=xH hx (gt w.2.1 d.2.1.toNat).2.1
  have hk:=KZ hR.row (eE (gt w.1 (gt w.2.1 d.2.1.toNat).1.toNat) (gt w.2.1 d.2.1.toNat).2.1).2.1.length 0 (dP w.2.1 d.2.1.toNat) (by omega) (λq hq=>hA q (kD hq)) (by omega)
  exact jY (by rw[List.length_set];exact hz.nodes) (vW hz.node _ hR.node) (Nat.le_trans hk.2 (by decide)) hk.1 hz.said hz.part
 | false=>
 cases d.1==5 with
 | true=>exact jY hz.nodes hz.node (Nat.le_trans (i7 _ _) hz.net) (λq hq=>hA q (kD hq)) hz.said hz.part
 | false=>
 cases d.1==6 with
 | true=>
  show SzY (bif _ then _ else _:aV×Int).1
  cases (w.2.1.length:Int)==12 with
  | true=>exact hz
  | false=>exact jY hz.nodes hz.node (hn1 _) (y2 hA hq) hz.said hz.part
 | false=>
  show SzY (bif _ then _ else _:aV×Int).1
  cases fF w d with
  | true=>exact hz
  | false=>
   refine jY hz.nodes hz.node (by rw[List.length_set];exact hz.net) (λq hq2=>?_) hz.said hz.part
   rcases List.mem_or_eq_of_mem_set hq2 with h1 | h1
   ·exact hA q h1
   ·rw[h1];exact⟨VK hq.by_ _ _ _ _,by show(List.set _ _ _).length<=aP;rw[List.length_set];exact hq.len⟩
theorem JD{w:aV}(hz:SzY w)(d:fO):SzY (doW w d).1:=by
 unfold doW
 cases ho:cE w with
 | false=>exact hz
 | true=>
 have hl:=lR ho
 cases inB d.1 0 7 with
 | false=>exact hz
 | true=>
 cases decide (d.1<=3)with
 | true=>
  cases ha:inB d.2.1 0 (i64.wrap ((w.1.length:Int) - 1))with
  | false=>exact hz
  | true=>exact JE hz (qV (by omega) ha).2 hl.2.2.1 hl.2.2.2
 | false=>
  cases ha:inB d.2.1 0 (i64.wrap ((w.2.1.length:Int) - 1))with
  | false=>exact hz
  | true=>exact S2 hz (qV (by omega) ha).2 hl.2.2.1 (H5 ho (qV (by omega) ha).2).2
end Go.Abs.Pz
