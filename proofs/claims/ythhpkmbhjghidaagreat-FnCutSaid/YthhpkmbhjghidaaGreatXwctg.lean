/- After a cut, only messages within a part remain, and nodes know no less of each member: the law answers true for every input. -/
import Derived.Test.YthhpkmbhjghidaaGreatRows
import Derived.Test.YthhpkmbhjghidaaGreatChecked
import Derived.Test.YthhpkmbhjghidaaGreatXfh
import Derived.Test.YthhpkmbhjghidaaGreatXwctq
import Derived.Test.YthhpkmbhjghidaaGreatW2
import Derived.ProofKit
set_option linter.unusedVariables false
namespace Go.Proofs.YthhpkmbhjghidaaGreat
open Go Go.Abs Go.ChangeShapes Go.WideShapes Go.ChangeAt Go.RowKit
theorem OU:ownKnob Tryz.prog.godebug=none:=by kernel_rfl
theorem law3(xs:List Abs.Arg)(h:AsR Go.Abs.Uz.p.ti Tryz.f3.params.toList xs):∃ n,aI Go.Abs.Uz.p n 3 xs=some lC:=by
 obtain⟨i0,row0,ys0,h0a,h0b,h0c,h0d⟩:=h
 replace h0a:some (⟨.slice,1,24,Go.Abs.Uz.K22,[],5⟩:TyI)=some i0:=h0a
 cases h0a
 have e:ys0=[]:=h0d
 subst e
 subst h0b
 exact⟨20,Go.Abs.Uz.law_cut row0.1 h0c 20 (Nat.le_refl _)⟩
set_option maxRecDepth 100000 in
theorem lifted3(os:Os)(started:os.Started)(H:Type)(enc:TypeId×Value->H):
  ReturnsInHanded {} Tryz.checked os 3 .any (Rows.fnCutSpec.pre6 enc Tryz.prog Tryz.f3 Rows.fnCutRow.domain false) (Rows.fnCutSpec.post enc Tryz.prog Tryz.f3 false true false false):=by
 refine returnsInHanded_of_change (C:=Tryz.checked) OU started (by kernel_rfl) Tryz.func3
  (ChangeSpec.witness6 (enc:=enc) (C:=Tryz.checked) false ⟨#[],#[.slice none 0 0],[]⟩ 8 (by kernel_rfl) (by kernel_rfl) (by kernel_rfl) (by kernel_rfl)) ?_
 intro W base args ds gs before hval0 hW hcnd _
 refine law_contract (conds:=[]) (a:={}) (p:=Go.Abs.Uz.p) Go.Abs.Uz.prg_ok Go.Abs.Uz.k_ok (λt ht=>?_) (rt:=4) (by kernel_rfl) Tryz.underlying4 (by kernel_rfl) rfl (λds h=>?_) law3 W base args ds gs before hval0 hW
 ·replace ht:t∈[22]:=ht
  simp only[List.mem_cons,List.not_mem_nil,or_false] at ht
  rcases ht with rfl
  ·exact⟨⟨.slice,1,24,Go.Abs.Uz.K22,[],5⟩,rfl,rfl⟩
 ·replace h:ds.length=1:=h
  match ds,h with
  | [d0],_=>rfl
theorem holds3:Rows.FnCutSaid:=
 OpenClaim.holds_of_wide 3 Tryz.f3 rfl rfl rfl rfl rfl rfl rfl ⟨rfl,rfl,rfl,rfl,rfl⟩ rfl rfl rfl rfl rfl jn3 Tryz.func3 jf3 ji3 jw3
  (λos started H enc _=>lifted3 os started H enc)
#print axioms holds3
end Go.Proofs.YthhpkmbhjghidaaGreat
