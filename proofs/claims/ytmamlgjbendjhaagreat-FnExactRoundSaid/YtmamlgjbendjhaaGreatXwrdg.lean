/- Nothing else is asked. -/
import Derived.Test.YtmamlgjbendjhaaGreatRows
import Derived.Test.YtmamlgjbendjhaaGreatChecked
import Derived.Test.YtmamlgjbendjhaaGreatXw12
import Derived.Test.YtmamlgjbendjhaaGreatXwrdq
import Derived.Test.YtmamlgjbendjhaaGreatW2
import Derived.ProofKit
set_option linter.unusedVariables false
namespace Go.Proofs.YtmamlgjbendjhaaGreat
open Go Go.Abs Go.ChangeShapes Go.WideShapes Go.ChangeAt Go.RowKit
theorem EC:ownKnob Tryz.prog.godebug=none:=by kernel_rfl
theorem law12(xs:List Abs.Arg)(h:AsR Go.Abs.Xz.p.ti Tryz.f12.params.toList xs):∃ n,aG Go.Abs.Xz.p n 12 xs=some t8:=by
 obtain⟨i0,row0,ys0,h0a,h0b,h0c,h0d⟩:=h
 replace h0a:some (⟨.struct,3,72,Go.Abs.Xz.K72,[(0,68),(1,69),(2,70)],0⟩:TyI)=some i0:=h0a
 cases h0a
 have e:ys0=[]:=h0d
 subst e
 subst h0b
 exact⟨16,Go.Abs.Xz.law_round row0 h0c 16 (Nat.le_refl _)⟩
set_option maxRecDepth 100000 in
theorem lifted12(os:Os)(started:os.Started)(H:Type)(enc:TypeId×Value→H):
  ReturnsInHanded {} Tryz.checked os 12 .any (Rows.fnExactRoundSpec.pre6 enc Tryz.prog Tryz.f12 Rows.fnExactRoundRow.domain false) (Rows.fnExactRoundSpec.post enc Tryz.prog Tryz.f12 false true false false):=by
 refine returnsInHanded_of_change (C:=Tryz.checked) EC started (by kernel_rfl) Tryz.func12
  (ChangeSpec.witness6 (enc:=enc) (C:=Tryz.checked) false ⟨#[],#[.agg #[.slice none 0 0,.slice none 0 0,.slice none 0 0]],[]⟩ 8 (by kernel_rfl) (by kernel_rfl) (by kernel_rfl) (by kernel_rfl)) ?_
 intro W base args ds gs before hval0 hW hcnd _
 refine law_contract (conds:=[]) (a:={}) (p:=Go.Abs.Xz.p) Go.Abs.Xz.prg_ok Go.Abs.Xz.k_ok (fun t ht=>?_) (rt:=4) (by kernel_rfl) Tryz.underlying4 (by kernel_rfl) rfl (fun ds h=>?_) law12 W base args ds gs before hval0 hW
 ·replace ht:t∈[72]:=ht
  simp only[List.mem_cons,List.not_mem_nil,or_false] at ht
  rcases ht with rfl
  ·exact⟨⟨.struct,3,72,Go.Abs.Xz.K72,[(0,68),(1,69),(2,70)],0⟩,rfl,rfl⟩
 ·replace h:ds.length=1:=h
  match ds,h with
  | [d0],_=>rfl
theorem holds12:Rows.FnExactRoundSaid:=
 OpenClaim.holds_of_wide 12 Tryz.f12 rfl rfl rfl rfl rfl rfl rfl ⟨rfl,rfl,rfl,rfl,rfl⟩ rfl rfl rfl rfl rfl LI Tryz.func12 LK LJ LH
  (fun os started H enc _=>lifted12 os started H enc)
#print axioms holds12
end Go.Proofs.YtmamlgjbendjhaaGreat
