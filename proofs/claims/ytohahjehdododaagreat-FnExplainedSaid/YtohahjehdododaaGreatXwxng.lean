/- A node's view is the join of the changes beneath its state, which is less than the join of all changes: the law answers true for every input. -/
import Derived.Test.YtohahjehdododaaGreatRows
import Derived.Test.YtohahjehdododaaGreatChecked
import Derived.Test.YtohahjehdododaaGreatXez
import Derived.Test.YtohahjehdododaaGreatXwxnq
import Derived.Test.YtohahjehdododaaGreatW2
import Derived.ProofKit
set_option linter.unusedVariables false
namespace Go.Proofs.YtohahjehdododaaGreat
open Go Go.Abs Go.ChangeShapes Go.WideShapes Go.ChangeAt Go.RowKit
theorem N4:ownKnob Tryz.prog.godebug=none:=by kernel_rfl
theorem law5(xs:List Abs.Arg)(h:AsR Go.Abs.Wz.p.ti Tryz.f5.params.toList xs):∃ n,aK Go.Abs.Wz.p n 5 xs=some tK:=by
 obtain⟨i0,row0,ys0,h0a,h0b,h0c,h0d⟩:=h
 replace h0a:some (⟨.slice,1,24,Go.Abs.Wz.K22,[],5⟩:TyI)=some i0:=h0a
 cases h0a
 have e:ys0=[]:=h0d
 subst e
 subst h0b
 exact⟨20,Go.Abs.Wz.law_explained row0.1 h0c 20 (Nat.le_refl _)⟩
set_option maxRecDepth 100000 in
theorem lifted5(os:Os)(started:os.Started)(H:Type)(enc:TypeId×Value->H):
  ReturnsInHanded {} Tryz.checked os 5 .any (Rows.fnExplainedSpec.pre6 enc Tryz.prog Tryz.f5 Rows.fnExplainedRow.domain false) (Rows.fnExplainedSpec.post enc Tryz.prog Tryz.f5 false true false false):=by
 refine returnsInHanded_of_change (C:=Tryz.checked) N4 started (by kernel_rfl) Tryz.func5
  (ChangeSpec.witness6 (enc:=enc) (C:=Tryz.checked) false ⟨#[],#[.slice none 0 0],[]⟩ 8 (by kernel_rfl) (by kernel_rfl) (by kernel_rfl) (by kernel_rfl)) ?_
 intro W base args ds gs before hval0 hW hcnd _
 refine law_contract (conds:=[]) (a:={}) (p:=Go.Abs.Wz.p) Go.Abs.Wz.prg_ok Go.Abs.Wz.k_ok (λt ht=>?_) (rt:=4) (by kernel_rfl) Tryz.underlying4 (by kernel_rfl) rfl (λds h=>?_) law5 W base args ds gs before hval0 hW
 ·replace ht:t∈[22]:=ht
  simp only[List.mem_cons,List.not_mem_nil,or_false] at ht
  rcases ht with rfl
  ·exact⟨⟨.slice,1,24,Go.Abs.Wz.K22,[],5⟩,rfl,rfl⟩
 ·replace h:ds.length=1:=h
  match ds,h with
  | [d0],_=>rfl
theorem holds5:Rows.FnExplainedSaid:=
 OpenClaim.holds_of_wide 5 Tryz.f5 rfl rfl rfl rfl rfl rfl rfl ⟨rfl,rfl,rfl,rfl,rfl⟩ rfl rfl rfl rfl rfl jn5 Tryz.func5 jf5 ji5 jw5
  (λos started H enc _=>lifted5 os started H enc)
#print axioms holds5
end Go.Proofs.YtohahjehdododaaGreat
