/- Nothing else is asked. -/
import Derived.Test.YtmamlgjbendjhaaGreatRows
import Derived.Test.YtmamlgjbendjhaaGreatChecked
import Derived.Test.YtmamlgjbendjhaaGreatXw11
import Derived.Test.YtmamlgjbendjhaaGreatXwexq
import Derived.Test.YtmamlgjbendjhaaGreatW2
import Derived.ProofKit
set_option linter.unusedVariables false
namespace Go.Proofs.YtmamlgjbendjhaaGreat
open Go Go.Abs Go.ChangeShapes Go.WideShapes Go.ChangeAt Go.RowKit
theorem C2:ownKnob Tryz.prog.godebug=none:=by kernel_rfl
theorem law11(xs:List Abs.Arg)(h:AsR Go.Abs.Xz.p.ti Tryz.f11.params.toList xs):∃ n,aG Go.Abs.Xz.p n 11 xs=some sW:=by
 obtain⟨i0,row0,ys0,h0a,h0b,h0c,h0d⟩:=h
 replace h0a:some (⟨.struct,3,72,Go.Abs.Xz.K72,[(0,68),(1,69),(2,70)],0⟩:TyI)=some i0:=h0a
 cases h0a
 obtain⟨i1,row1,ys1,h1a,h1b,h1c,h1d⟩:=h0d
 replace h1a:some (⟨.int .i64,1,8,Go.Abs.Xz.K3,[],0⟩:TyI)=some i1:=h1a
 cases h1a
 obtain⟨i2,row2,ys2,h2a,h2b,h2c,h2d⟩:=h1d
 replace h2a:some (⟨.int .i64,1,8,Go.Abs.Xz.K3,[],0⟩:TyI)=some i2:=h2a
 cases h2a
 have e:ys2=[]:=h2d
 subst e
 subst h2b
 subst h1b
 subst h0b
 exact⟨14,Go.Abs.Xz.law_exchange row0 row1.1 row2.1 h0c h1c h2c 14 (Nat.le_refl _)⟩
set_option maxRecDepth 100000 in
theorem lifted11(os:Os)(started:os.Started)(H:Type)(enc:TypeId×Value→H):
  ReturnsInHanded {} Tryz.checked os 11 .any (Rows.fnExactExchangeSpec.pre6 enc Tryz.prog Tryz.f11 Rows.fnExactExchangeRow.domain false) (Rows.fnExactExchangeSpec.post enc Tryz.prog Tryz.f11 false true false false):=by
 refine returnsInHanded_of_change (C:=Tryz.checked) C2 started (by kernel_rfl) Tryz.func11
  (ChangeSpec.witness6 (enc:=enc) (C:=Tryz.checked) false ⟨#[],#[.agg #[.slice none 0 0, .slice none 0 0, .slice none 0 0], .int .i64 0, .int .i64 0],[]⟩ 8 (by kernel_rfl) (by kernel_rfl) (by kernel_rfl) (by kernel_rfl)) ?_
 intro W base args ds gs before hval0 hW hcnd _
 refine law_contract (conds:=[]) (a:={}) (p:=Go.Abs.Xz.p) Go.Abs.Xz.prg_ok Go.Abs.Xz.k_ok (fun t ht=>?_) (rt:=4) (by kernel_rfl) Tryz.underlying4 (by kernel_rfl) rfl (fun ds h=>?_) law11 W base args ds gs before hval0 hW
 ·replace ht:t∈[72,3,3]:=ht
  simp only[List.mem_cons,List.not_mem_nil,or_false] at ht
  rcases ht with rfl | rfl | rfl
  ·exact⟨⟨.struct,3,72,Go.Abs.Xz.K72,[(0,68),(1,69),(2,70)],0⟩,rfl,rfl⟩
  ·exact⟨⟨.int .i64,1,8,Go.Abs.Xz.K3,[],0⟩,rfl,rfl⟩
  ·exact⟨⟨.int .i64,1,8,Go.Abs.Xz.K3,[],0⟩,rfl,rfl⟩
 ·replace h:ds.length=3:=h
  match ds,h with
  | [d0,d1,d2],_=>rfl
theorem holds11:Rows.FnExactExchangeSaid:=
 OpenClaim.holds_of_wide 11 Tryz.f11 rfl rfl rfl rfl rfl rfl rfl ⟨rfl,rfl,rfl,rfl,rfl⟩ rfl rfl rfl rfl rfl JT Tryz.func11 JV JU JS
  (fun os started H enc _=>lifted11 os started H enc)
#print axioms holds11
end Go.Proofs.YtmamlgjbendjhaaGreat
