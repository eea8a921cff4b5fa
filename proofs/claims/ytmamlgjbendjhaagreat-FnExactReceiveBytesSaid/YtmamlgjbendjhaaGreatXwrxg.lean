/- FnExactReceiveBytes returns true for every node and all bytes: the program's ReceiveBytes returns what the reference's returns. No conditions. -/
import Derived.Test.YtmamlgjbendjhaaGreatRows
import Derived.Test.YtmamlgjbendjhaaGreatChecked
import Derived.Test.YtmamlgjbendjhaaGreatXw10
import Derived.Test.YtmamlgjbendjhaaGreatXwrxq
import Derived.Test.YtmamlgjbendjhaaGreatW2
import Derived.ProofKit
set_option linter.unusedVariables false
namespace Go.Proofs.YtmamlgjbendjhaaGreat
open Go Go.Abs Go.ChangeShapes Go.WideShapes Go.ChangeAt Go.RowKit
theorem JB:ownKnob Tryz.prog.godebug=none:=by kernel_rfl
theorem law10(xs:List Abs.Arg)(h:AsR Go.Abs.Xz.p.ti Tryz.f10.params.toList xs):∃ n,aI Go.Abs.Xz.p n 10 xs=some xE:=by
 obtain⟨i0,row0,ys0,h0a,h0b,h0c,h0d⟩:=h
 replace h0a:some (⟨.struct,19,296,Go.Abs.Xz.K97,[(0,3),(1,3),(2,89),(4,90),(6,93),(9,28),(10,28),(11,34),(12,3),(13,3),(14,94),(15,3),(16,3),(17,3),(18,95)],0⟩:TyI)=some i0:=h0a
 cases h0a
 obtain⟨i1,row1,ys1,h1a,h1b,h1c,h1d⟩:=h0d
 replace h1a:some (⟨.slice,1,24,Go.Abs.Xz.K22,[],5⟩:TyI)=some i1:=h1a
 cases h1a
 have e:ys1=[]:=h1d
 subst e
 subst h1b
 subst h0b
 exact⟨13,Go.Abs.Xz.law_receiveBytes row0 row1.1 h0c h1c 13 (Nat.le_refl _)⟩
set_option maxRecDepth 100000 in
theorem lifted10(os:Os)(started:os.Started)(H:Type)(enc:TypeId×Value->H):
  ReturnsInHanded {} Tryz.checked os 10 .any (Rows.fnExactReceiveBytesSpec.pre6 enc Tryz.prog Tryz.f10 Rows.fnExactReceiveBytesRow.domain false) (Rows.fnExactReceiveBytesSpec.post enc Tryz.prog Tryz.f10 false true false false):=by
 refine returnsInHanded_of_change (C:=Tryz.checked) JB started (by kernel_rfl) Tryz.func10
  (ChangeSpec.witness6 (enc:=enc) (C:=Tryz.checked) false ⟨#[],#[.agg #[.int .i64 0,.int .i64 0,.slice none 0 0,.slice none 0 0,.slice none 0 0,.int .i64 0,.int .i64 0,.int .i64 0,.slice none 0 0,.slice none 0 0,.slice none 0 0,.slice none 0 0,.int .i64 0,.int .i64 0,.slice none 0 0,.int .i64 0,.int .i64 0,.int .i64 0,.slice none 0 0],.slice none 0 0],[]⟩ 8 (by kernel_rfl) (by kernel_rfl) (by kernel_rfl) (by kernel_rfl)) ?_
 intro W base args ds gs before hval0 hW hcnd _
 refine law_contract (conds:=[]) (a:={}) (p:=Go.Abs.Xz.p) Go.Abs.Xz.prg_ok Go.Abs.Xz.k_ok (fun t ht=>?_) (rt:=4) (by kernel_rfl) Tryz.underlying4 (by kernel_rfl) rfl (fun ds h=>?_) law10 W base args ds gs before hval0 hW
 ·replace ht:t∈[97,22]:=ht
  simp only[List.mem_cons,List.not_mem_nil,or_false] at ht
  rcases ht with rfl | rfl
  ·exact⟨⟨.struct,19,296,Go.Abs.Xz.K97,[(0,3),(1,3),(2,89),(4,90),(6,93),(9,28),(10,28),(11,34),(12,3),(13,3),(14,94),(15,3),(16,3),(17,3),(18,95)],0⟩,rfl,rfl⟩
  ·exact⟨⟨.slice,1,24,Go.Abs.Xz.K22,[],5⟩,rfl,rfl⟩
 ·replace h:ds.length=2:=h
  match ds,h with
  | [d0,d1],_=>rfl
theorem holds10:Rows.FnExactReceiveBytesSaid:=
 OpenClaim.holds_of_wide 10 Tryz.f10 rfl rfl rfl rfl rfl rfl rfl ⟨rfl,rfl,rfl,rfl,rfl⟩ rfl rfl rfl rfl rfl RY Tryz.func10 R3 RZ RX
  (fun os started H enc _=>lifted10 os started H enc)
#print axioms holds10
end Go.Proofs.YtmamlgjbendjhaaGreat
