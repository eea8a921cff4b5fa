/- Nothing else is asked. -/
import Derived.Test.YtmamlgjbendjhaaGreatRows
import Derived.Test.YtmamlgjbendjhaaGreatChecked
import Derived.Test.YtmamlgjbendjhaaGreatXee
import Derived.Test.YtmamlgjbendjhaaGreatXwbuq
import Derived.Test.YtmamlgjbendjhaaGreatW2
import Derived.ProofKit
set_option linter.unusedVariables false
namespace Go.Proofs.YtmamlgjbendjhaaGreat
open Go Go.Abs Go.ChangeShapes Go.WideShapes Go.ChangeAt Go.RowKit
theorem D6:ownKnob Tryz.prog.godebug=none:=by kernel_rfl
theorem law4(xs:List Abs.Arg)(h:AsR Go.Abs.Xz.p.ti Tryz.f4.params.toList xs):∃ n,aK Go.Abs.Xz.p n 4 xs=some mM:=by
 obtain⟨i0,row0,ys0,h0a,h0b,h0c,h0d⟩:=h
 replace h0a:some (⟨.slice,1,24,Go.Abs.Xz.K22,[],5⟩:TyI)=some i0:=h0a
 cases h0a
 have e:ys0=[]:=h0d
 subst e
 subst h0b
 exact⟨14,Go.Abs.Xz.law_busy row0.1 h0c 14 (Nat.le_refl _)⟩
set_option maxRecDepth 100000 in
theorem lifted4(os:Os)(started:os.Started)(H:Type)(enc:TypeId×Value→H):
  ReturnsInHanded {} Tryz.checked os 4 .any (Rows.fnBusySpec.pre6 enc Tryz.prog Tryz.f4 Rows.fnBusyRow.domain false) (Rows.fnBusySpec.post enc Tryz.prog Tryz.f4 false true false false):=by
 refine returnsInHanded_of_change (C:=Tryz.checked) D6 started (by kernel_rfl) Tryz.func4
  (ChangeSpec.witness6 (enc:=enc) (C:=Tryz.checked) false ⟨#[],#[.slice none 0 0],[]⟩ 8 (by kernel_rfl) (by kernel_rfl) (by kernel_rfl) (by kernel_rfl)) ?_
 intro W base args ds gs before hval0 hW hcnd _
 refine law_contract (conds:=[]) (a:={}) (p:=Go.Abs.Xz.p) Go.Abs.Xz.prg_ok Go.Abs.Xz.k_ok (fun t ht=>?_) (rt:=4) (by kernel_rfl) Tryz.underlying4 (by kernel_rfl) rfl (fun ds h=>?_) law4 W base args ds gs before hval0 hW
 ·replace ht:t∈[22]:=ht
  simp only[List.mem_cons,List.not_mem_nil,or_false] at ht
  rcases ht with rfl
  ·exact⟨⟨.slice,1,24,Go.Abs.Xz.K22,[],5⟩,rfl,rfl⟩
 ·replace h:ds.length=1:=h
  match ds,h with
  | [d0],_=>rfl
theorem holds4:Rows.FnBusySaid:=
 OpenClaim.holds_of_wide 4 Tryz.f4 rfl rfl rfl rfl rfl rfl rfl ⟨rfl,rfl,rfl,rfl,rfl⟩ rfl rfl rfl rfl rfl jn4 Tryz.func4 jf4 ji4 jw4
  (fun os started H enc _=>lifted4 os started H enc)
#print axioms holds4
end Go.Proofs.YtmamlgjbendjhaaGreat
