/- What the functions of this program answer, part da. -/
import Derived.Test.YtmamlgjbendjhaaGreatXj
import Derived.Test.YtmamlgjbendjhaaGreatW3
set_option linter.unusedVariables false
open Go.IntKind (i64)
namespace Go.Abs.Xz
open Go Go.Abs
theorem f310(c:dL)(h:CurOk c):∃ (x:Int) (d:dL),Ran p 1 310 [.ref ⟨K264,c⟩] ⟨[⟨K3,(x,())⟩],[⟨K264,d⟩]⟩∧CurOk d∧0≤x∧x≤255:=by
 by_cases hi:c.2.1<((c.1.length:Nat):Int)
 ·obtain⟨i,hi'⟩:∃ i:Nat,c.2.1=i:=⟨c.2.1.toNat,by have:=h.lo;omega⟩
  have hi2:i<c.1.length:=by omega
  have e:(at? (α:=Row K5) c.1 (c.2.1).toNat)=some (gt (α:=aX) c.1 i):=by rw[hi',Int.toNat_natCast];exact(J3 hi2).trans (by rw[cV hi2])
  refine⟨_,_,go310 fun n hn=>Ev.now fun aA=>by
   unfold T310;refine(aI (by decide)).trans ?_;refine(aI (by decide)).trans ?_;refine(aE hi).trans ?_;refine(aE h.lo).trans ?_
   refine(congrArg (fun o=>Option.bind o _) e).trans ?_
   rfl,?_⟩
  have hl:=h.len
  refine⟨⟨h.len,?_,?_⟩,(uS _).1,(uS _).2⟩
  ·show 0≤i64.wrap (c.2.1+1);have:=h.lo;rw[IntKind.wrap_i64];omega
  ·show i64.wrap (c.2.1+1)≤_;have:=h.lo;rw[IntKind.wrap_i64];show _≤((c.1.length:Nat):Int);omega
 ·refine⟨_,_,go310 fun n hn=>Ev.now fun aA=>by
   unfold T310;refine(aI (by decide)).trans ?_;refine(aI (by decide)).trans ?_;refine(aI hi).trans ?_;rfl,?_⟩
  exact⟨⟨h.len,h.lo,h.hi⟩,(uS _).1,(uS _).2⟩
theorem f219(c:dL)(k:Int)(h:CurOk c):∃ (x:Int) (d:dL),Ran p 2 219 [.ref ⟨K264,c⟩, .val false ⟨K3,(k,())⟩] ⟨[⟨K3,(x,())⟩],[⟨K264,d⟩]⟩∧CurOk d∧0≤x∧(0<k→x<k)∧(k≤0→x=0):=by
 by_cases h0:k≤0
 ·exact⟨0,c,go219 fun n hn=>Ev.now fun aA=>by unfold T219;exact aE h0,h,by omega,fun h=>by omega,fun _=>rfl⟩
 by_cases h1:k≤256
 ·obtain⟨x,d,hx,hd,b0,b1⟩:=f310 c h
  refine⟨x.tmod k,d,go219 fun n hn=>Ev.now fun aA=>?_,hd,(qA b0 (by omega)).1,fun h=>(qA b0 h).2,fun h=>by omega⟩
  unfold T219;refine(aI h0).trans ?_;refine(aE h1).trans ?_;refine(aG (hx n (by omega))).trans ?_;exact aI (by omega)
 ·obtain⟨x,d,hx,hd,b0,b1⟩:=f310 c h
  obtain⟨x2,d2,hx2,hq2,b2,b3⟩:=f310 d hd
  obtain⟨x3,d3,hx3,hq3,b4,b5⟩:=f310 d2 hq2
  obtain⟨x4,d4,hx4,hq4,b6,b7⟩:=f310 d3 hq3
  have e:i64.wrap (i64.wrap (i64.wrap (i64.wrap (x*16777216)+i64.wrap (x2*65536))+i64.wrap (x3*256))+x4)=x*16777216+x2*65536+x3*256+x4:=by
   repeat rw[IntKind.wrap_i64]
   omega
  have hp:0≤x*16777216+x2*65536+x3*256+x4:=by omega
  refine⟨(x*16777216+x2*65536+x3*256+x4).tmod k,d4,go219 fun n hn=>Ev.now fun aA=>?_,hq4,(qA hp (by omega)).1,fun h=>(qA hp h).2,fun h=>by omega⟩
  unfold T219;refine(aI h0).trans ?_;refine(aI h1).trans ?_;refine(aG (hx n (by omega))).trans ?_;refine(aG (hx2 n (by omega))).trans ?_;refine(aG (hx3 n (by omega))).trans ?_;refine(aG (hx4 n (by omega))).trans ?_;refine(aI (by omega)).trans ?_;rw[← e]
theorem f128(c:dL)(k:Int)(h:CurOk c):∃ (x:Bool) (d:dL),Ran p 3 128 [.ref ⟨K264,c⟩, .val false ⟨K3,(k,())⟩] ⟨[⟨K4,(x,())⟩],[⟨K264,d⟩]⟩∧CurOk d:=by
 obtain⟨x,d,hx,hd,_⟩:=f219 c k h
 exact⟨_,d,go128 fun n hn=>Ev.now fun aA=>by unfold T128;refine(aG (hx n (by omega))).trans ?_;rfl,hd⟩
theorem f249(c:dL)(ls:List aX)(h:CurOk c)(h0:0<ls.length):∃ (x:Int) (d:dL),Ran p 3 249 [.ref ⟨K264,c⟩, .val false ⟨K28,(ls,())⟩] ⟨[⟨K3,(x,())⟩],[⟨K264,d⟩]⟩∧CurOk d∧(x,())∈ls:=by
 obtain⟨x,d,hx,hd,b0,b1,_⟩:=f219 c ((ls.length:Nat):Int) h
 have b2:=b1 (by omega)
 obtain⟨i,rfl⟩:∃ i:Nat,x=i:=⟨x.toNat,by omega⟩
 have hi:i<ls.length:=by omega
 refine⟨(gt ls i).1,d,go249 fun n hn=>Ev.now fun aA=>?_,hd,?_⟩
 ·unfold T249;refine(aG (hx n (by omega))).trans ?_;refine bif_nn.trans ?_;refine(aJ hi).trans ?_;rfl
 ·show gt ls i∈ls;rw[cV hi];exact List.getElem_mem hi
theorem f350(c:dL)(ls:List (ByteArray×Unit))(h:CurOk c)(h0:0<ls.length):∃ (x:ByteArray) (d:dL),Ran p 3 350 [.ref ⟨K264,c⟩, .val false ⟨K340,(ls,())⟩] ⟨[⟨K9,(x,())⟩],[⟨K264,d⟩]⟩∧CurOk d∧(x,())∈ls:=by
 obtain⟨x,d,hx,hd,b0,b1,_⟩:=f219 c ((ls.length:Nat):Int) h
 have b2:=b1 (by omega)
 obtain⟨i,rfl⟩:∃ i:Nat,x=i:=⟨x.toNat,by omega⟩
 have hi:i<ls.length:=by omega
 refine⟨(gt ls i).1,d,go350 fun n hn=>Ev.now fun aA=>?_,hd,?_⟩
 ·unfold T350;refine(aG (hx n (by omega))).trans ?_;refine bif_nn.trans ?_;refine(aJ hi).trans ?_;rfl
 ·show gt ls i∈ls;rw[cV hi];exact List.getElem_mem hi
theorem f374(c:dL)(h:CurOk c):∃ (e:bE) (d:dL),Ran p 4 374 [.ref ⟨K264,c⟩] ⟨[⟨K161,e⟩],[⟨K264,d⟩]⟩∧CurOk d∧KD e∧1≤e.1:=by
 obtain⟨x1,d1,h1,k1,a1,b1,_⟩:=f219 c 3 h
 obtain⟨x2,d2,h2,k2,a2,b2,_⟩:=f219 d1 2 k1
 obtain⟨x3,d3,h3,k3,a3,b3,_⟩:=f219 d2 3 k2
 obtain⟨x4,d4,h4,k4,a4,b4,_⟩:=f219 d3 3 k3
 obtain⟨x5,d5,h5,k5,m5⟩:=f350 d4 [((⟨#[]⟩:ByteArray),()),((⟨#[97]⟩:ByteArray),()),((⟨#[98]⟩:ByteArray),()),((⟨#[97,98]⟩:ByteArray),()),((⟨#[49,50,51,52,53,54,55,56]⟩:ByteArray),())] k4 (by show 0<5;omega)
 refine⟨_,d5,go374 fun n hn=>Ev.now fun aA=>by unfold T374;refine(aG (h1 n (by omega))).trans ?_;refine(aG (h2 n (by omega))).trans ?_;refine(aG (h3 n (by omega))).trans ?_;refine(aG (h4 n (by omega))).trans ?_;refine(aG (h5 n (by omega))).trans ?_;rfl,k5,?_,?_⟩
 ·have:x5∈datas.take 5:=by
   have:=List.mem_map_of_mem (f:=fun y:ByteArray×Unit=>y.1) m5
   exact this
  exact List.mem_of_mem_take this
 ·show 1≤i64.wrap (1+x1);have:=b1 (by omega);rw[IntKind.wrap_i64];omega
theorem f352(c:dL)(h:CurOk c):∃ (e:bE) (d:dL),Ran p 5 352 [.ref ⟨K264,c⟩] ⟨[⟨K161,e⟩],[⟨K264,d⟩]⟩∧CurOk d∧KD e:=by
 obtain⟨e,d1,h1,k1,he,_⟩:=f374 c h
 obtain⟨x,d2,h2,k2,_⟩:=f219 d1 14 k1
 cases q0:x==0 with
 | true=>
  obtain⟨y,d3,h3,k3,_⟩:=f249 d2 [((0:Int),()),((1000:Int),()),((1001:Int),()),((-1:Int),())] k2 (by show 0<4;omega)
  exact⟨(y,e.2),d3,go352 fun n hn=>Ev.now fun aA=>by unfold T352;refine(aG (h1 n (by omega))).trans ?_;refine(aG (h2 n (by omega))).trans ?_;refine(aN q0).trans ?_;refine(aG (h3 n (by omega))).trans ?_;rfl,k3,he⟩
 | false=>
 cases q1:x==1 with
 | true=>
  obtain⟨y,d3,h3,k3,_⟩:=f249 d2 [((-1:Int),()),((2:Int),())] k2 (by show 0<2;omega)
  exact⟨(e.1,y,e.2.2),d3,go352 fun n hn=>Ev.now fun aA=>by unfold T352;refine(aG (h1 n (by omega))).trans ?_;refine(aG (h2 n (by omega))).trans ?_;refine(aF q0).trans ?_;refine(aN q1).trans ?_;refine(aG (h3 n (by omega))).trans ?_;rfl,k3,he⟩
 | false=>
 cases q2:x==2 with
 | true=>
  obtain⟨y,d3,h3,k3,_⟩:=f249 d2 [((-1:Int),()),((100000:Int),()),((100001:Int),())] k2 (by show 0<3;omega)
  exact⟨(e.1,e.2.1,y,e.2.2.2),d3,go352 fun n hn=>Ev.now fun aA=>by unfold T352;refine(aG (h1 n (by omega))).trans ?_;refine(aG (h2 n (by omega))).trans ?_;refine(aF q0).trans ?_;refine(aF q1).trans ?_;refine(aN q2).trans ?_;refine(aG (h3 n (by omega))).trans ?_;rfl,k3,he⟩
 | false=>
 cases q3:x==3 with
 | true=>
  obtain⟨y,d3,h3,k3,_⟩:=f249 d2 [((-1:Int),()),((1000:Int),()),((1001:Int),())] k2 (by show 0<3;omega)
  exact⟨(e.1,e.2.1,e.2.2.1,y,e.2.2.2.2),d3,go352 fun n hn=>Ev.now fun aA=>by unfold T352;refine(aG (h1 n (by omega))).trans ?_;refine(aG (h2 n (by omega))).trans ?_;refine(aF q0).trans ?_;refine(aF q1).trans ?_;refine(aF q2).trans ?_;refine(aN q3).trans ?_;refine(aG (h3 n (by omega))).trans ?_;rfl,k3,he⟩
 | false=>
 cases q4:x==4 with
 | true=>exact⟨(e.1,e.2.1,e.2.2.1,e.2.2.2.1,⟨#[49,50,51,52,53,54,55,56,57]⟩,()),d2,go352 fun n hn=>Ev.now fun aA=>by unfold T352;refine(aG (h1 n (by omega))).trans ?_;refine(aG (h2 n (by omega))).trans ?_;refine(aF q0).trans ?_;refine(aF q1).trans ?_;refine(aF q2).trans ?_;refine(aF q3).trans ?_;refine(aN q4).trans ?_;rfl,k2,by show(⟨#[49,50,51,52,53,54,55,56,57]⟩:ByteArray)∈datas;unfold datas;simp⟩
 | false=>exact⟨e,d2,go352 fun n hn=>Ev.now fun aA=>by unfold T352;refine(aG (h1 n (by omega))).trans ?_;refine(aG (h2 n (by omega))).trans ?_;refine(aF q0).trans ?_;refine(aF q1).trans ?_;refine(aF q2).trans ?_;refine(aF q3).trans ?_;refine(aF q4).trans ?_;rfl,k2,he⟩
theorem f373(i:Int)(e:bE):∃ (s:aH) (b:Bool),Ran p 4 373 [.val false ⟨K3,(i,())⟩, .val true ⟨K161,e⟩] ⟨[⟨K27,s⟩,⟨K4,(b,())⟩],[]⟩∧(s=([(i,e)],[],())∨s=([],[],()))∧aO s=true:=by
 have hs:=f227 ([(i,e)],[],()) (by show 1≤9223372036854775807;omega) (by show 0≤9223372036854775807;omega)
 cases ho:aO ([(i,e)],[],())with
 | false=>exact⟨_,false,go373 fun n hn=>Ev.now fun aA=>by unfold T373;refine(aB (hs n (by omega))).trans ?_;rw[ho];rfl, .inr rfl,rfl⟩
 | true=>exact⟨_,true,go373 fun n hn=>Ev.now fun aA=>by unfold T373;refine(aB (hs n (by omega))).trans ?_;rw[ho];rfl, .inl rfl,ho⟩
end Go.Abs.Xz
