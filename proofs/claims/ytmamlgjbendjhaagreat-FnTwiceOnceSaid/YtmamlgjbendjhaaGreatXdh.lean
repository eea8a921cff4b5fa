/- What the functions of this program answer, part dh. -/
import Derived.Test.YtmamlgjbendjhaaGreatXdg
set_option linter.unusedVariables false
namespace Go.Abs.Xz
open Go Go.Abs
theorem C7{α:Type}[Inhabited α]{n i:Nat}{x:α}(h:i<n):gt (List.replicate n x) i=x:=by
 rw[cZ (by rw[List.length_replicate];exact h),List.getElem_replicate]
def z0:aZ:=((0:Int),())
theorem DW{n:Int}(h:inB n 1 5=true):dS (List.replicate n.toNat z0) n=true:=by
 have h1:=aU.1 h
 unfold dS
 simp only[Bool.and_eq_true,beq_iff_eq]
 rw[List.length_replicate]
 refine⟨h,by omega,bI.2 fun i hi=>?_⟩
 rw[C7 hi];rfl
theorem vH{id n cap slots wait lim:Int}(hn:inB n 1 5=true)(hi:0≤id∧id<n)(hc:inB cap 1 8=true)(hs:inB slots 1 4=true)(hw:inB wait 1 20=true)(hl:inB lim 1 50=true):NodeOk (gR id n cap slots wait lim):=by
 have h1:=aU.1 hn
 have h2:=aU.1 hc
 have h3:=aU.1 hs
 have hL:LogOk (cap,0,[],()):=⟨h2,by show((0:Nat):Int)≤cap;omega,by show(0:Int)≤0∧(0:Int)≤100000;omega,by show(0:Int)+((0:Nat):Int)≤100000;omega,fun s h=>by cases h⟩
 have hq:bZ (cap,0,[],())=0:=by rw[oC hL];rfl
 have hk:id.toNat<n.toNat:=by omega
 exact {
  n:=hn
  id:=by show inB id 0 (IntKind.i64.wrap (n - 1))=true;rw[aU,IntKind.wrap_i64];omega
  state:=rfl
  tree:=by
   show(fG (bX ([],[],())).1 (bX ([],[],())).1&&(bX ([],[],())).2.1==(bX ([],[],())).2.1)=true
   rw[iR];simp
  log:=(lA _).2 hL
  got:=DW hn
  acked:=DW hn
  own:=by
   show((gt (List.replicate n.toNat z0) id.toNat).1==bZ (cap,0,[],()))=true
   rw[C7 hk,hq];rfl
  seen:=by
   show fU (dG n) n=true
   have hT:TabN n.toNat (dG n):=by
    have:=z5 (n:=n.toNat) (by omega) (by omega)
    rw[show((n.toNat:Nat):Int)=n by omega] at this;exact this
   unfold fU
   simp only[Bool.and_eq_true,beq_iff_eq]
   refine⟨hn,by rw[hT.len];omega,bI.2 fun i hi=>?_⟩
   rw[lN hn hi];rfl
  ack:=by
   show bK (List.replicate n.toNat z0).length _=true
   rw[bI]
   intro i hi
   show(!decide ((gt (List.replicate n.toNat z0) i).1>bZ (cap,0,[],())))=true
   rw[hq,C7 (by rw[List.length_replicate] at hi;exact hi)];rfl
  num:=rfl
  clock:=rfl
  slots:=hs
  wait:=hw
  limit:=hl
  rises:=rfl
  rise:=rfl
  sess:=by
   refine(cN _).2 ⟨?_,(fun s h=>by cases h),List.Pairwise.nil⟩
   show((0:Nat):Int)≤slots;omega }
theorem HW{id n cap slots wait lim:Int}(hn:inB n 1 5=true)(hi:0≤id∧id<n)(hc:inB cap 1 8=true)(hs:inB slots 1 4=true)(hw:inB wait 1 20=true)(hl:inB lim 1 50=true):CL id n cap slots wait lim=true∧AV id n cap slots wait lim=gR id n cap slots wait lim:=by
 have h:=(eN _).2 (vH hn hi hc hs hw hl)
 have e:CL id n cap slots wait lim=true:=by unfold CL;rw[hn,h];rfl
 exact⟨e,by unfold AV;rw[e];rfl⟩
end Go.Abs.Xz
