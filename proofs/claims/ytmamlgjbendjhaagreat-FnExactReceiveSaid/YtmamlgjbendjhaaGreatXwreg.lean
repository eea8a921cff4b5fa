/- For every node and every message, the law FnExactReceive answers true and leaves its arguments as they were: the program's Receive gives what the reference's gives, in memory of its own. No condition. -/
import Derived.Test.YtmamlgjbendjhaaGreatRows
import Derived.Test.YtmamlgjbendjhaaGreatChecked
import Derived.Test.YtmamlgjbendjhaaGreatXw9
import Derived.Test.YtmamlgjbendjhaaGreatXwreq
import Derived.Test.YtmamlgjbendjhaaGreatW2
import Derived.ProofKit
set_option linter.unusedVariables false
namespace Go.Proofs.YtmamlgjbendjhaaGreat
open Go Go.Abs Go.ChangeShapes Go.WideShapes Go.ChangeAt Go.RowKit
theorem CY:ownKnob Tryz.prog.godebug=none:=by kernel_rfl
theorem law9(xs:List Abs.Arg)(h:AsR Go.Abs.Xz.p.ti Tryz.f9.params.toList xs):∃ n,aG Go.Abs.Xz.p n 9 xs=some rU:=by
 obtain⟨i0,row0,ys0,h0a,h0b,h0c,h0d⟩:=h
 replace h0a:some (⟨.struct,19,296,Go.Abs.Xz.K97,[(0,3),(1,3),(2,89),(4,90),(6,93),(9,28),(10,28),(11,34),(12,3),(13,3),(14,94),(15,3),(16,3),(17,3),(18,95)],0⟩:TyI)=some i0:=h0a
 cases h0a
 obtain⟨i1,row1,ys1,h1a,h1b,h1c,h1d⟩:=h0d
 replace h1a:some (⟨.struct,12,192,Go.Abs.Xz.K100,[(0,3),(1,3),(2,3),(3,3),(4,3),(5,90),(7,28),(8,28),(9,89),(11,98)],0⟩:TyI)=some i1:=h1a
 cases h1a
 have e:ys1=[]:=h1d
 subst e
 subst h1b
 subst h0b
 exact⟨12,Go.Abs.Xz.law_receive row0 row1 h0c h1c 12 (Nat.le_refl _)⟩
set_option maxRecDepth 100000 in
theorem lifted9(os:Os)(started:os.Started)(H:Type)(enc:TypeId×Value→H):
  ReturnsInHanded {} Tryz.checked os 9 .any (Rows.fnExactReceiveSpec.pre6 enc Tryz.prog Tryz.f9 Rows.fnExactReceiveRow.domain false) (Rows.fnExactReceiveSpec.post enc Tryz.prog Tryz.f9 false true false false):=by
 refine returnsInHanded_of_change (C:=Tryz.checked) CY started (by kernel_rfl) Tryz.func9
  (ChangeSpec.witness6 (enc:=enc) (C:=Tryz.checked) false ⟨#[],#[.agg #[.int .i64 0, .int .i64 0, .slice none 0 0, .slice none 0 0, .slice none 0 0, .int .i64 0, .int .i64 0, .int .i64 0, .slice none 0 0, .slice none 0 0, .slice none 0 0, .slice none 0 0, .int .i64 0, .int .i64 0, .slice none 0 0, .int .i64 0, .int .i64 0, .int .i64 0, .slice none 0 0], .agg #[.int .i64 0, .int .i64 0, .int .i64 0, .int .i64 0, .int .i64 0, .slice none 0 0, .int .i64 0, .slice none 0 0, .slice none 0 0, .slice none 0 0, .slice none 0 0, .slice none 0 0]],[]⟩ 8 (by kernel_rfl) (by kernel_rfl) (by kernel_rfl) (by kernel_rfl)) ?_
 intro W base args ds gs before hval0 hW hcnd _
 refine law_contract (conds:=[]) (a:={}) (p:=Go.Abs.Xz.p) Go.Abs.Xz.prg_ok Go.Abs.Xz.k_ok (fun t ht=>?_) (rt:=4) (by kernel_rfl) Tryz.underlying4 (by kernel_rfl) rfl (fun ds h=>?_) law9 W base args ds gs before hval0 hW
 ·replace ht:t∈[97,100]:=ht
  simp only[List.mem_cons,List.not_mem_nil,or_false] at ht
  rcases ht with rfl | rfl
  ·exact⟨⟨.struct,19,296,Go.Abs.Xz.K97,[(0,3),(1,3),(2,89),(4,90),(6,93),(9,28),(10,28),(11,34),(12,3),(13,3),(14,94),(15,3),(16,3),(17,3),(18,95)],0⟩,rfl,rfl⟩
  ·exact⟨⟨.struct,12,192,Go.Abs.Xz.K100,[(0,3),(1,3),(2,3),(3,3),(4,3),(5,90),(7,28),(8,28),(9,89),(11,98)],0⟩,rfl,rfl⟩
 ·replace h:ds.length=2:=h
  match ds,h with
  | [d0,d1],_=>rfl
theorem holds9:Rows.FnExactReceiveSaid:=
 OpenClaim.holds_of_wide 9 Tryz.f9 rfl rfl rfl rfl rfl rfl rfl ⟨rfl,rfl,rfl,rfl,rfl⟩ rfl rfl rfl rfl rfl jn9 Tryz.func9 jf9 ji9 jw9
  (fun os started H enc _=>lifted9 os started H enc)
#print axioms holds9
end Go.Proofs.YtmamlgjbendjhaaGreat
