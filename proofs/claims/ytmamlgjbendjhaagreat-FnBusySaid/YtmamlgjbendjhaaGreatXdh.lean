/- What the functions of this program answer, part dh. -/
import Derived.Test.YtmamlgjbendjhaaGreatXdg
set_option linter.unusedVariables false
namespace Go.Abs.Xz
open Go Go.Abs
theorem AL{α:Type}[Inhabited α]{n i:Nat}{x:α}(h:i<n):gt (List.replicate n x) i=x:=by
 rw[dQ (by rw[List.length_replicate];exact h),List.getElem_replicate]
def z0:aY:=((0:Int),())
theorem A5{n:Int}(h:inB n 1 5=true):dF (List.replicate n.toNat z0) n=true:=by
 have h1:=aQ.1 h
 unfold dF
 simp only[Bool.and_eq_true,beq_iff_eq]
 rw[List.length_replicate]
 refine⟨h,by omega,bK.2 fun i hi=>?_⟩
 rw[AL hi];rfl
theorem nM{id n cap slots wait lim:Int}(hn:inB n 1 5=true)(hi:0≤id∧id<n)(hc:inB cap 1 8=true)(hs:inB slots 1 4=true)(hw:inB wait 1 20=true)(hl:inB lim 1 50=true):NodeOk (eD id n cap slots wait lim):=by
 have h1:=aQ.1 hn
 have h2:=aQ.1 hc
 have h3:=aQ.1 hs
 have hL:LogOk (cap,0,[],()):=⟨h2,by show((0:Nat):Int)≤cap;omega,by show(0:Int)≤0∧(0:Int)≤100000;omega,by show(0:Int)+((0:Nat):Int)≤100000;omega,fun s h=>by cases h⟩
 have hq:bU (cap,0,[],())=0:=by rw[mX hL];rfl
 have hk:id.toNat<n.toNat:=by omega
 exact {
  n:=hn
  id:=by show inB id 0 (IntKind.i64.wrap (n - 1))=true;rw[aQ,IntKind.wrap_i64];omega
  state:=rfl
  tree:=by
   show(eG (bS ([],[],())).1 (bS ([],[],())).1&&(bS ([],[],())).2.1==(bS ([],[],())).2.1)=true
   rw[gM];simp
  log:=(j0 _).2 hL
  got:=A5 hn
  acked:=A5 hn
  own:=by
   show((gt (List.replicate n.toNat z0) id.toNat).1==bU (cap,0,[],()))=true
   rw[AL hk,hq];rfl
  seen:=by
   show eP (cF n) n=true
   have hT:TabN n.toNat (cF n):=by
    have:=xT (n:=n.toNat) (by omega) (by omega)
    rw[show((n.toNat:Nat):Int)=n by omega] at this;exact this
   unfold eP
   simp only[Bool.and_eq_true,beq_iff_eq]
   refine⟨hn,by rw[hT.len];omega,bK.2 fun i hi=>?_⟩
   rw[kK hn hi];rfl
  ack:=by
   show bI (List.replicate n.toNat z0).length _=true
   rw[bK]
   intro i hi
   show(!decide ((gt (List.replicate n.toNat z0) i).1>bU (cap,0,[],())))=true
   rw[hq,AL (by rw[List.length_replicate] at hi;exact hi)];rfl
  num:=rfl
  clock:=rfl
  slots:=hs
  wait:=hw
  limit:=hl
  rises:=rfl
  rise:=rfl
  sess:=by
   refine(cL _).2 ⟨?_,(fun s h=>by cases h),List.Pairwise.nil⟩
   show((0:Nat):Int)≤slots;omega }
theorem yO{id n cap slots wait lim:Int}(hn:inB n 1 5=true)(hi:0≤id∧id<n)(hc:inB cap 1 8=true)(hs:inB slots 1 4=true)(hw:inB wait 1 20=true)(hl:inB lim 1 50=true):uZ id n cap slots wait lim=true∧rG id n cap slots wait lim=eD id n cap slots wait lim:=by
 have h:=(c7 _).2 (nM hn hi hc hs hw hl)
 have e:uZ id n cap slots wait lim=true:=by unfold uZ;rw[hn,h];rfl
 exact⟨e,by unfold rG;rw[e];rfl⟩
end Go.Abs.Xz
