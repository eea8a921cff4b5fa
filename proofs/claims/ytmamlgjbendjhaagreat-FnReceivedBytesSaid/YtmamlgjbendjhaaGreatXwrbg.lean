/- FnReceivedBytes returns true for every code of bytes: bytes of a message have the effect of the message, other bytes have none. No conditions. -/
import Derived.Test.YtmamlgjbendjhaaGreatRows
import Derived.Test.YtmamlgjbendjhaaGreatChecked
import Derived.Test.YtmamlgjbendjhaaGreatXet
import Derived.Test.YtmamlgjbendjhaaGreatXwrbq
import Derived.Test.YtmamlgjbendjhaaGreatW2
import Derived.ProofKit
set_option linter.unusedVariables false
namespace Go.Proofs.YtmamlgjbendjhaaGreat
open Go Go.Abs Go.ChangeShapes Go.WideShapes Go.ChangeAt Go.RowKit
theorem MV:ownKnob Tryz.prog.godebug=none:=by kernel_rfl
theorem law7(xs:List Abs.Arg)(h:AsR Go.Abs.Xz.p.ti Tryz.f7.params.toList xs):∃ n,aL Go.Abs.Xz.p n 7 xs=some tI:=by
 obtain⟨i0,row0,ys0,h0a,h0b,h0c,h0d⟩:=h
 replace h0a:some (⟨.slice,1,24,Go.Abs.Xz.K22,[],5⟩:TyI)=some i0:=h0a
 cases h0a
 have e:ys0=[]:=h0d
 subst e
 subst h0b
 exact⟨14,Go.Abs.Xz.law_receivedBytes row0.1 h0c 14 (Nat.le_refl _)⟩
set_option maxRecDepth 100000 in
theorem lifted7(os:Os)(started:os.Started)(H:Type)(enc:TypeId×Value->H):
  ReturnsInHanded {} Tryz.checked os 7 .any (Rows.fnReceivedBytesSpec.pre6 enc Tryz.prog Tryz.f7 Rows.fnReceivedBytesRow.domain false) (Rows.fnReceivedBytesSpec.post enc Tryz.prog Tryz.f7 false true false false):=by
 refine returnsInHanded_of_change (C:=Tryz.checked) MV started (by kernel_rfl) Tryz.func7
  (ChangeSpec.witness6 (enc:=enc) (C:=Tryz.checked) false ⟨#[],#[.slice none 0 0],[]⟩ 8 (by kernel_rfl) (by kernel_rfl) (by kernel_rfl) (by kernel_rfl)) ?_
 intro W base args ds gs before hval0 hW hcnd _
 refine law_contract (conds:=[]) (a:={}) (p:=Go.Abs.Xz.p) Go.Abs.Xz.prg_ok Go.Abs.Xz.k_ok (λt ht=>?_) (rt:=4) (by kernel_rfl) Tryz.underlying4 (by kernel_rfl) rfl (λds h=>?_) law7 W base args ds gs before hval0 hW
 ·replace ht:t∈[22]:=ht
  simp only[List.mem_cons,List.not_mem_nil,or_false] at ht
  rcases ht with rfl
  ·exact⟨⟨.slice,1,24,Go.Abs.Xz.K22,[],5⟩,rfl,rfl⟩
 ·replace h:ds.length=1:=h
  match ds,h with
  | [d0],_=>rfl
theorem holds7:Rows.FnReceivedBytesSaid:=
 OpenClaim.holds_of_wide 7 Tryz.f7 rfl rfl rfl rfl rfl rfl rfl ⟨rfl,rfl,rfl,rfl,rfl⟩ rfl rfl rfl rfl rfl jn7 Tryz.func7 jf7 ji7 jw7
  (λos started H enc _=>lifted7 os started H enc)
#print axioms holds7
end Go.Proofs.YtmamlgjbendjhaaGreat
