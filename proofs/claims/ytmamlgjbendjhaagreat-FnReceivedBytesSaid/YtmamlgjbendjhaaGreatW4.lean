/- A by-value reading of the model, and its soundness, part 4. -/
import Derived.Test.YtmamlgjbendjhaaGreatW3
-- bytes of sums; sizes of what readers yield: plain laws
set_option linter.unusedVariables false
open Go.IntKind (i64)
namespace Go.Abs
open Go
theorem tE(x:Nat):IntKind.u8.wrap (x:Int)=((x % 256:Nat):Int):=by
 have:IntKind.u8.wrap (x:Int)=(x:Int) % 256:=by unfold IntKind.wrap;simp[IntKind.bits,IntKind.signed]
 rw[this];omega
theorem D0{x:Nat}(h:x<4294967296):pC .i64 (x:Int) 255=((x % 256:Nat):Int):=by
 unfold pC
 have e:(BitVec.ofInt i64.bits (x:Int)&&& BitVec.ofInt i64.bits 255).toNat=x % 256:=by
  rw[BitVec.toNat_and]
  have e1:(BitVec.ofInt i64.bits (x:Int)).toNat=x:=by
   rw[BitVec.toNat_ofInt];show((x:Int) % ((2 ^ 64:Nat):Int)).toNat=x;omega
  have e2:(BitVec.ofInt i64.bits 255).toNat=2 ^ 8 - 1:=by decide
  rw[e1,e2,Nat.and_two_pow_sub_one_eq_mod]
 rw[e,IntKind.wrap_i64];omega
theorem C2(x:Nat)(s:Nat)(hs:s<=64)(d:Nat)(hd:2 ^ s=d):sJ .i64 (x:Int) (s:Int)=((x / d:Nat):Int):=by
 unfold sJ
 rw[Int.toNat_natCast,show min s i64.bits=s from Nat.min_eq_left hs,Int.fdiv_eq_ediv_of_nonneg _ (Int.le_of_lt (Int.pow_pos (by decide)))]
 rw[show((2:Int) ^ s)=((d:Nat):Int) by rw[<- hd];exact(Int.natCast_pow 2 s).symm]
 exact(Int.natCast_ediv x d).symm
theorem L8{x:Int}(h0:0<=x)(h:x.toNat<4294967296):
  ([((IntKind.u8.wrap (pC i64 (sJ i64 x (24:Int)) (255:Int))),()),((IntKind.u8.wrap (pC i64 (sJ i64 x (16:Int)) (255:Int))),()),((IntKind.u8.wrap (pC i64 (sJ i64 x (8:Int)) (255:Int))),()),((IntKind.u8.wrap (pC i64 x (255:Int))),())]:List aH)=GG x.toNat:=by
 obtain⟨n,rfl⟩:∃ n:Nat,x=(n:Int):=⟨x.toNat,by omega⟩
 rw[Int.toNat_natCast] at h ⊢
 have e1:sJ .i64 (n:Int) (24:Int)=((n / 16777216:Nat):Int):=C2 n 24 (by decide) _ rfl
 have e2:sJ .i64 (n:Int) (16:Int)=((n / 65536:Nat):Int):=C2 n 16 (by decide) _ rfl
 have e3:sJ .i64 (n:Int) (8:Int)=((n / 256:Nat):Int):=C2 n 8 (by decide) _ rfl
 rw[e1,e2,e3,D0 (show n / 16777216<4294967296 by omega),D0 (show n / 65536<4294967296 by omega),D0 (show n / 256<4294967296 by omega),D0 h,tE,tE,tE,tE]
 unfold GG
 rw[show n / 16777216 % 256 % 256=n / 16777216 by omega,show n / 65536 % 256 % 256=n / 65536 % 256 by omega,show n / 256 % 256 % 256=n / 256 % 256 by omega,show n % 256 % 256=n % 256 by omega]
theorem yO(n d:Nat):((n:Int)).tdiv (d:Int)=((n / d:Nat):Int):=by
 rw[Int.tdiv_eq_ediv_of_nonneg (by omega)];exact(Int.natCast_ediv n d).symm
theorem yM(n d:Nat):((n:Int)).tmod (d:Int)=((n % d:Nat):Int):=by
 rw[Int.tmod_eq_emod_of_nonneg (by omega)];exact(Int.natCast_emod n d).symm
theorem L7{x:Int}(h0:0<=x)(h:x.toNat<4294967296):
  ([((IntKind.u8.wrap (i64.wrap (x.tdiv (16777216:Int)))),()),((IntKind.u8.wrap ((i64.wrap (x.tdiv (65536:Int))).tmod (256:Int))),()),((IntKind.u8.wrap ((i64.wrap (x.tdiv (256:Int))).tmod (256:Int))),()),((IntKind.u8.wrap (x.tmod (256:Int))),())]:List aH)=GG x.toNat:=by
 obtain⟨n,rfl⟩:∃ n:Nat,x=(n:Int):=⟨x.toNat,by omega⟩
 rw[Int.toNat_natCast] at h ⊢
 have e1:((n:Int)).tdiv (16777216:Int)=((n / 16777216:Nat):Int):=yO n 16777216
 have e2:((n:Int)).tdiv (65536:Int)=((n / 65536:Nat):Int):=yO n 65536
 have e3:((n:Int)).tdiv (256:Int)=((n / 256:Nat):Int):=yO n 256
 rw[e1,e2,e3,xQ (show n / 16777216<9223372036854775808 by omega),xQ (show n / 65536<9223372036854775808 by omega),xQ (show n / 256<9223372036854775808 by omega)]
 have m2:(((n / 65536:Nat):Int)).tmod (256:Int)=((n / 65536 % 256:Nat):Int):=yM _ 256
 have m3:(((n / 256:Nat):Int)).tmod (256:Int)=((n / 256 % 256:Nat):Int):=yM _ 256
 have m4:((n:Int)).tmod (256:Int)=((n % 256:Nat):Int):=yM _ 256
 rw[m2,m3,m4,tE,tE,tE,tE]
 unfold GG
 rw[show n / 16777216 % 256=n / 16777216 by omega,show n / 65536 % 256 % 256=n / 65536 % 256 by omega,show n / 256 % 256 % 256=n / 256 % 256 by omega,show n % 256 % 256=n % 256 by omega]
-- ways of reading lists
def SR(N:Int->RdT->List aH×RdT):Prop:=∀ k r,0<=k->k<=5->RdOk r->RdOk (N k r).2/\(N k r).2.1=r.1/\(N k r).1.length<=100
theorem TJ:SR NI:=λk r h0 h5 h=>⟨h.nums k,EO r k,by have:=GN r h0;show(kI r k).1.length<=100;omega⟩
theorem TI:SR NS:=λk r h0 h5 h=>⟨h.many 1,G3 r 1,by have:=rD r 1;show(cK r 1).1.length<=100;omega⟩
structure MgOk (N:Int->RdT->List aH×RdT) (r:RdT):Prop where
 a:RdOk (mgA N r).2
 b:RdOk (mgB N r).2
 c:RdOk (mgC N r).2
 d:RdOk (mgD N r).2
 e:RdOk (mgE N r).2
 list:(mgE N r).2.1=r.1
 len:(mgA N r).1.length<=100/\(mgC N r).1.length<=100/\(mgD N r).1.length<=100
 nn:0<=(mgE N r).1/\(mgE N r).1<=2147483647
theorem Q7{N:Int->RdT->List aH×RdT}(hN:SR N){r:RdT}(h:RdOk r):MgOk N r:=by
 have h5:=h.k 5
 have hA:=hN 4 _ (by decide) (by decide) h5
 have hB:RdOk (mgB N r).2:=hA.1.num
 have hC:=hN 5 _ (by decide) (by decide) hB
 have hD:=hN 4 _ (by decide) (by decide) hC.1
 have hE:RdOk (mgE N r).2:=hD.1.num
 have q:=qZ (mgD N r).2
 refine⟨hA.1,hB,hC.1,hD.1,hE,?_,⟨hA.2.2,hC.2.2,hD.2.2⟩,⟨q.2.2.1,q.2.2.2.1⟩⟩
 have e1:(mgE N r).2.1=(mgD N r).2.1:=q.1
 have e2:(mgD N r).2.1=(mgC N r).2.1:=hD.2.1
 have e3:(mgC N r).2.1=(mgB N r).2.1:=hC.2.1
 have e4:(mgB N r).2.1=(mgA N r).2.1:=fP _
 have e5:(mgA N r).2.1=(rdK r 5).1:=hA.2.1
 rw[e1,e2,e3,e4,e5];exact uA r 5
theorem NF{N:Int->RdT->List aH×RdT}{r:RdT}(h:MgOk N r){s:aD}(hs:SzS s){fs:List aK}(hf:fs.length<=100):SzM (mgM N r s fs):=
 ⟨Nat.le_trans h.len.1 (by decide),Nat.le_trans h.len.2.1 (by decide),Nat.le_trans h.len.2.2 (by decide),hs,Nat.le_trans hf (by decide)⟩
theorem tP{b:List aH}{s:aD}(h:bS b=some s):StateOk s:=(aM s).1 (wM h).1
theorem GT{s:aD}(h:StateOk s):SzS s:=⟨Nat.le_trans h.len.1 (by decide),Nat.le_trans h.len.2 (by decide)⟩
theorem Q8{b:List aH}(hb:B8 b)(hl:b.length<=aN)(h6:6<=b.length):RdOk (mR b) where
 b8:=(hb.byL.sub λx hx=>List.mem_of_mem_take hx).b8
 len:=by show(b.take (b.length - 4)).length<=aN;rw[List.length_take];omega
 lo:=by show(0:Int)<=2;omega
 hi:=by show(2:Int)<=(((b.take (b.length - 4)).length:Nat):Int);rw[List.length_take];omega
theorem NE{N:Int->RdT->List aH×RdT}{r:RdT}(h:MgOk N r)(hb:lB N r=false):RdOk (mgR N r):=by
 unfold lB at hb
 simp only[Bool.or_eq_false_iff,decide_eq_false_iff_not] at hb
 have hn:=h.nn
 have lo:=h.e.lo;have hi:=h.e.hi
 exact⟨h.e.b8,h.e.len,by show 0<=(mgE N r).2.2.1+(mgE N r).1;omega,by show(mgE N r).2.2.1+(mgE N r).1<=(((mgE N r).2.1.length:Nat):Int);omega⟩
theorem zO{b:List aH}{m:MsgT}(h:dE b=some m):SzM m:=by
 have hr:=nY (BV h).1
 exact⟨Nat.le_trans hr.tree.1 (by decide),Nat.le_trans hr.vec.1 (by decide),Nat.le_trans hr.leaves.1 (by decide),GT ((aM _).1 hr.part),Nat.le_trans hr.marks.1 (by decide)⟩
theorem TL(a b:Int):∃ y:Nat,dW .u8 a b=(y:Int)/\y<=255:=by
 unfold dW
 rw[tE]
 exact⟨_,rfl,by omega⟩
theorem OZ{b:List aH}(h:ByL b)(i:Nat)(x y:Int)(u:Unit):ByL (b.set i (dW .u8 x y,u)):=λz hz=>by
 rcases List.mem_or_eq_of_mem_set hz with h1 | h1
 ·exact h z h1
 ·rw[h1];exact TL x y
end Go.Abs
