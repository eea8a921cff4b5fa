/- Rows of deeds: both programs compute runL; plain laws; walk by the by-value reading. -/
import Derived.Test.YtfhgecdbldmekaaGreatRows
import Derived.Test.YtfhgecdbldmekaaGreatChecked
import Derived.Test.YtfhgecdbldmekaaGreatXfk
import Derived.Test.YtfhgecdbldmekaaGreatXwdeq
import Derived.Test.YtfhgecdbldmekaaGreatW2
import Derived.ProofKit
set_option linter.unusedVariables false
namespace Go.Proofs.YtfhgecdbldmekaaGreat
open Go Go.Abs Go.ChangeShapes Go.WideShapes Go.ChangeAt Go.RowKit
theorem PT:ownKnob Tryz.prog.godebug=none:=by kernel_rfl
theorem law4(xs:List Abs.Arg)(h:AsR Go.Abs.Pz.p.ti Tryz.f4.params.toList xs):∃ n,aJ Go.Abs.Pz.p n 4 xs=some nM:=by
 obtain⟨i0,row0,ys0,h0a,h0b,h0c,h0d⟩:=h
 replace h0a:some (⟨.slice,1,24,Go.Abs.Pz.K22,[],5⟩:TyI)=some i0:=h0a
 cases h0a
 have e:ys0=[]:=h0d
 subst e
 subst h0b
 exact⟨17,Go.Abs.Pz.law_deeds row0.1 h0c 17 (Nat.le_refl _)⟩
set_option maxRecDepth 100000 in
theorem lifted4(os:Os)(started:os.Started)(H:Type)(enc:TypeId×Value->H):
  ReturnsInHanded {} Tryz.checked os 4 .any (Rows.fnDeedsSpec.pre6 enc Tryz.prog Tryz.f4 Rows.fnDeedsRow.domain false) (Rows.fnDeedsSpec.post enc Tryz.prog Tryz.f4 false true false false):=by
 refine returnsInHanded_of_change (C:=Tryz.checked) PT started (by kernel_rfl) Tryz.func4
  (ChangeSpec.witness6 (enc:=enc) (C:=Tryz.checked) false ⟨#[],#[.slice none 0 0],[]⟩ 8 (by kernel_rfl) (by kernel_rfl) (by kernel_rfl) (by kernel_rfl)) ?_
 intro W base args ds gs before hval0 hW hcnd _
 refine law_contract (conds:=[]) (a:={}) (p:=Go.Abs.Pz.p) Go.Abs.Pz.prg_ok Go.Abs.Pz.k_ok (λt ht=>?_) (rt:=4) (by kernel_rfl) Tryz.underlying4 (by kernel_rfl) rfl (λds h=>?_) law4 W base args ds gs before hval0 hW
 ·replace ht:t∈[22]:=ht
  simp only[List.mem_cons,List.not_mem_nil,or_false] at ht
  rcases ht with rfl
  ·exact⟨⟨.slice,1,24,Go.Abs.Pz.K22,[],5⟩,rfl,rfl⟩
 ·replace h:ds.length=1:=h
  match ds,h with
  | [d0],_=>rfl
theorem holds4:Rows.FnDeedsSaid:=
 OpenClaim.holds_of_wide 4 Tryz.f4 rfl rfl rfl rfl rfl rfl rfl ⟨rfl,rfl,rfl,rfl,rfl⟩ rfl rfl rfl rfl rfl jn4 Tryz.func4 jf4 ji4 jw4
  (λos started H enc _=>lifted4 os started H enc)
#print axioms holds4
end Go.Proofs.YtfhgecdbldmekaaGreat
