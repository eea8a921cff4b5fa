/- What the functions of this program answer, part dh. -/
import Derived.Test.YtmamlgjbendjhaaGreatXdg
set_option linter.unusedVariables false
namespace Go.Abs.Xz
open Go Go.Abs
theorem w3{α:Type}[Inhabited α]{n i:Nat}{x:α}(h:i<n):gt (List.replicate n x) i=x:=by
 rw[dY (by rw[List.length_replicate];exact h),List.getElem_replicate]
def z0:aZ:=((0:Int),())
theorem AR{n:Int}(h:inB n 1 5=true):dG (List.replicate n.toNat z0) n=true:=by
 have h1:=aQ.1 h
 unfold dG
 simp only[Bool.and_eq_true,beq_iff_eq]
 rw[List.length_replicate]
 refine⟨h,by omega,bJ.2 fun i hi=>?_⟩
 rw[w3 hi];rfl
theorem tE{id n cap slots wait lim:Int}(hn:inB n 1 5=true)(hi:0≤id∧id<n)(hc:inB cap 1 8=true)(hs:inB slots 1 4=true)(hw:inB wait 1 20=true)(hl:inB lim 1 50=true):NodeOk (fP id n cap slots wait lim):=by
 have h1:=aQ.1 hn
 have h2:=aQ.1 hc
 have h3:=aQ.1 hs
 have hL:LogOk (cap,0,[],()):=⟨h2,by show((0:Nat):Int)≤cap;omega,by show(0:Int)≤0∧(0:Int)≤100000;omega,by show(0:Int)+((0:Nat):Int)≤100000;omega,fun s h=>by cases h⟩
 have hq:bT (cap,0,[],())=0:=by rw[mL hL];rfl
 have hk:id.toNat<n.toNat:=by omega
 exact {
  n:=hn
  id:=by show inB id 0 (IntKind.i64.wrap (n - 1))=true;rw[aQ,IntKind.wrap_i64];omega
  state:=rfl
  tree:=by
   show(eS (cA ([],[],())).1 (cA ([],[],())).1&&(cA ([],[],())).2.1==(cA ([],[],())).2.1)=true
   rw[gI];simp
  log:=(jS _).2 hL
  got:=AR hn
  acked:=AR hn
  own:=by
   show((gt (List.replicate n.toNat z0) id.toNat).1==bT (cap,0,[],()))=true
   rw[w3 hk,hq];rfl
  seen:=by
   show eL (cT n) n=true
   have hT:TabN n.toNat (cT n):=by
    have:=xI (n:=n.toNat) (by omega) (by omega)
    rw[show((n.toNat:Nat):Int)=n by omega] at this;exact this
   unfold eL
   simp only[Bool.and_eq_true,beq_iff_eq]
   refine⟨hn,by rw[hT.len];omega,bJ.2 fun i hi=>?_⟩
   rw[kA hn hi];rfl
  ack:=by
   show bH (List.replicate n.toNat z0).length _=true
   rw[bJ]
   intro i hi
   show(!decide ((gt (List.replicate n.toNat z0) i).1>bT (cap,0,[],())))=true
   rw[hq,w3 (by rw[List.length_replicate] at hi;exact hi)];rfl
  num:=rfl
  clock:=rfl
  slots:=hs
  wait:=hw
  limit:=hl
  rises:=rfl
  rise:=rfl
  sess:=by
   refine(bV _).2 ⟨?_,(fun s h=>by cases h),List.Pairwise.nil⟩
   show((0:Nat):Int)≤slots;omega }
theorem DR{id n cap slots wait lim:Int}(hn:inB n 1 5=true)(hi:0≤id∧id<n)(hc:inB cap 1 8=true)(hs:inB slots 1 4=true)(hw:inB wait 1 20=true)(hl:inB lim 1 50=true):zT id n cap slots wait lim=true∧yE id n cap slots wait lim=fP id n cap slots wait lim:=by
 have h:=(cN _).2 (tE hn hi hc hs hw hl)
 have e:zT id n cap slots wait lim=true:=by unfold zT;rw[hn,h];rfl
 exact⟨e,by unfold yE;rw[e];rfl⟩
end Go.Abs.Xz
