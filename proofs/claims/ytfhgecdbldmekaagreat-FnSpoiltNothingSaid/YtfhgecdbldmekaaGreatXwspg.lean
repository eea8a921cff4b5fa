/- A corrupted pack changes no node and is removed: the law answers true for every input. -/
import Derived.Test.YtfhgecdbldmekaaGreatRows
import Derived.Test.YtfhgecdbldmekaaGreatChecked
import Derived.Test.YtfhgecdbldmekaaGreatXfe
import Derived.Test.YtfhgecdbldmekaaGreatXwspq
import Derived.Test.YtfhgecdbldmekaaGreatW2
import Derived.ProofKit
set_option linter.unusedVariables false
namespace Go.Proofs.YtfhgecdbldmekaaGreat
open Go Go.Abs Go.ChangeShapes Go.WideShapes Go.ChangeAt Go.RowKit
theorem PA:ownKnob Tryz.prog.godebug=none:=by kernel_rfl
theorem law5(xs:List Abs.Arg)(h:AsR Go.Abs.Pz.p.ti Tryz.f5.params.toList xs):∃ n,aI Go.Abs.Pz.p n 5 xs=some lC:=by
 obtain⟨i0,row0,ys0,h0a,h0b,h0c,h0d⟩:=h
 replace h0a:some (⟨.slice,1,24,Go.Abs.Pz.K22,[],5⟩:TyI)=some i0:=h0a
 cases h0a
 have e:ys0=[]:=h0d
 subst e
 subst h0b
 exact⟨19,Go.Abs.Pz.law_spoilt row0.1 h0c 19 (Nat.le_refl _)⟩
set_option maxRecDepth 100000 in
theorem lifted5(os:Os)(started:os.Started)(H:Type)(enc:TypeId×Value->H):
  ReturnsInHanded {} Tryz.checked os 5 .any (Rows.fnSpoiltNothingSpec.pre6 enc Tryz.prog Tryz.f5 Rows.fnSpoiltNothingRow.domain false) (Rows.fnSpoiltNothingSpec.post enc Tryz.prog Tryz.f5 false true false false):=by
 refine returnsInHanded_of_change (C:=Tryz.checked) PA started (by kernel_rfl) Tryz.func5
  (ChangeSpec.witness6 (enc:=enc) (C:=Tryz.checked) false ⟨#[],#[.slice none 0 0],[]⟩ 8 (by kernel_rfl) (by kernel_rfl) (by kernel_rfl) (by kernel_rfl)) ?_
 intro W base args ds gs before hval0 hW hcnd _
 refine law_contract (conds:=[]) (a:={}) (p:=Go.Abs.Pz.p) Go.Abs.Pz.prg_ok Go.Abs.Pz.k_ok (λt ht=>?_) (rt:=4) (by kernel_rfl) Tryz.underlying4 (by kernel_rfl) rfl (λds h=>?_) law5 W base args ds gs before hval0 hW
 ·replace ht:t∈[22]:=ht
  simp only[List.mem_cons,List.not_mem_nil,or_false] at ht
  rcases ht with rfl
  ·exact⟨⟨.slice,1,24,Go.Abs.Pz.K22,[],5⟩,rfl,rfl⟩
 ·replace h:ds.length=1:=h
  match ds,h with
  | [d0],_=>rfl
theorem holds5:Rows.FnSpoiltNothingSaid:=
 OpenClaim.holds_of_wide 5 Tryz.f5 rfl rfl rfl rfl rfl rfl rfl ⟨rfl,rfl,rfl,rfl,rfl⟩ rfl rfl rfl rfl rfl jn5 Tryz.func5 jf5 ji5 jw5
  (λos started H enc _=>lifted5 os started H enc)
#print axioms holds5
end Go.Proofs.YtfhgecdbldmekaaGreat
