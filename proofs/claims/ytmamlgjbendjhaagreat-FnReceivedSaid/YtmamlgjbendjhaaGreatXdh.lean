/- What the functions of this program answer, part dh. -/
import Derived.Test.YtmamlgjbendjhaaGreatXdg
set_option linter.unusedVariables false
namespace Go.Abs.Xz
open Go Go.Abs
theorem DM{α:Type}[Inhabited α]{n i:Nat}{x:α}(h:i<n):gt (List.replicate n x) i=x:=by
 rw[cV (by rw[List.length_replicate];exact h),List.getElem_replicate]
def z0:aX:=((0:Int),())
theorem EB{n:Int}(h:inB n 1 5=true):dX (List.replicate n.toNat z0) n=true:=by
 have h1:=aS.1 h
 unfold dX
 simp only[Bool.and_eq_true,beq_iff_eq]
 rw[List.length_replicate]
 refine⟨h,by omega,bJ.2 fun i hi=>?_⟩
 rw[DM hi];rfl
theorem vR{id n cap slots wait lim:Int}(hn:inB n 1 5=true)(hi:0≤id∧id<n)(hc:inB cap 1 8=true)(hs:inB slots 1 4=true)(hw:inB wait 1 20=true)(hl:inB lim 1 50=true):NodeOk (gU id n cap slots wait lim):=by
 have h1:=aS.1 hn
 have h2:=aS.1 hc
 have h3:=aS.1 hs
 have hL:LogOk (cap,0,[],()):=⟨h2,by show((0:Nat):Int)≤cap;omega,by show(0:Int)≤0∧(0:Int)≤100000;omega,by show(0:Int)+((0:Nat):Int)≤100000;omega,fun s h=>by cases h⟩
 have hq:cA (cap,0,[],())=0:=by rw[oO hL];rfl
 have hk:id.toNat<n.toNat:=by omega
 exact {
  n:=hn
  id:=by show inB id 0 (IntKind.i64.wrap (n - 1))=true;rw[aS,IntKind.wrap_i64];omega
  state:=rfl
  tree:=by
   show(eJ (bX ([],[],())).1 (bX ([],[],())).1&&(bX ([],[],())).2.1==(bX ([],[],())).2.1)=true
   rw[gW];simp
  log:=(lG _).2 hL
  got:=EB hn
  acked:=EB hn
  own:=by
   show((gt (List.replicate n.toNat z0) id.toNat).1==cA (cap,0,[],()))=true
   rw[DM hk,hq];rfl
  seen:=by
   show fV (dI n) n=true
   have hT:TabN n.toNat (dI n):=by
    have:=AC (n:=n.toNat) (by omega) (by omega)
    rw[show((n.toNat:Nat):Int)=n by omega] at this;exact this
   unfold fV
   simp only[Bool.and_eq_true,beq_iff_eq]
   refine⟨hn,by rw[hT.len];omega,bJ.2 fun i hi=>?_⟩
   rw[lU hn hi];rfl
  ack:=by
   show bI (List.replicate n.toNat z0).length _=true
   rw[bJ]
   intro i hi
   show(!decide ((gt (List.replicate n.toNat z0) i).1>cA (cap,0,[],())))=true
   rw[hq,DM (by rw[List.length_replicate] at hi;exact hi)];rfl
  num:=rfl
  clock:=rfl
  slots:=hs
  wait:=hw
  limit:=hl
  rises:=rfl
  rise:=rfl
  sess:=by
   refine(cP _).2 ⟨?_,(fun s h=>by cases h),List.Pairwise.nil⟩
   show((0:Nat):Int)≤slots;omega }
theorem IG{id n cap slots wait lim:Int}(hn:inB n 1 5=true)(hi:0≤id∧id<n)(hc:inB cap 1 8=true)(hs:inB slots 1 4=true)(hw:inB wait 1 20=true)(hl:inB lim 1 50=true):CZ id n cap slots wait lim=true∧A8 id n cap slots wait lim=gU id n cap slots wait lim:=by
 have h:=(eE _).2 (vR hn hi hc hs hw hl)
 have e:CZ id n cap slots wait lim=true:=by unfold CZ;rw[hn,h];rfl
 exact⟨e,by unfold A8;rw[e];rfl⟩
end Go.Abs.Xz
