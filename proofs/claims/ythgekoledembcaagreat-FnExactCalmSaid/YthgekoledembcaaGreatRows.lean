/-
  No cell of these rows narrows 'for every input' (looked for: loops, veiled, ifaces, maps, wideKeys, modest, calm, conditions, laid).
  DERIVED. THE GIVEN ROWS OF THIS SEAT. 6 by the template 'for every input the law returns true; each argument reads behind the call as it read before'; 0 by the template 'total and deterministic' (their statements: YthgekoledembcaaGreatTotals.lean).
  GIVEN WITH THE SEED: the statements are not yours to turn. If you find one false, say at which input.
  Laid BY PROGRAM, IN A SANDBOX (cutbox-rows.mjs): the forced cells as the released guide's own fill.sh prints them over the translation 7fb6acbb211d6ad6… (all of the seat's roots in one cut). By AI agents, Wed Nov 11 2026. No macro, syntax, notation, axiom, sorry.
-/
import Derived.Test.YthgekoledembcaaGreatChecked
import GoSem.Claim
import GoSem.ClaimJoined
import GoSem.ClaimMapViews
import Derived.JoinedTies
import Derived.KernelRfl
namespace Go.Proofs.YthgekoledembcaaGreat
/- THE CELL 'sum', in the pinned program and in every row, IS THE sha256 OF THE DUMP (.gsa) THAT YthgekoledembcaaGreatProg.lean LOADS. Nothing in Lean hashes anything: it is a label: what it is worth is what the hold of that sum in a sandbox is worth. -/
noncomputable def Tryz.pinned : Pinned := { name := "ythgekoledembcaagreat", sum := "7fb6acbb211d6ad6b7b684692acd1ce4efa7b4d6e5e96a144e3c63f9cb3b94db", checked := Tryz.checked }
namespace Rows
def none {H : Type} : Left H := { results := [], args := [] }

/-- 'laws.FnExactWorldNew': WHATEVER THE INPUT: true; the input reads as it did. -/
def fnExactWorldNewSpec : ChangeSpec := { name := "fnExactWorldNew", fn := fun _ => fun
  | [d1, d2, d3, d4, d5] => { results := [.lit (.bool true)], args := [d1, d2, d3, d4, d5] }
  | _ => none }
def fnExactWorldNewRow : OpenClaim := { program := "ythgekoledembcaagreat", sum := "7fb6acbb211d6ad6b7b684692acd1ce4efa7b4d6e5e96a144e3c63f9cb3b94db", func := "loop.example/g00487/laws.FnExactWorldNew", spec := "fnExactWorldNew", apart := false }
def FnExactWorldNewSaid : Prop := fnExactWorldNewRow.holds Tryz.pinned (OpenSpec.ofChange fnExactWorldNewSpec)

/-- ITS FALSE NEIGHBOUR: 'it returns false'. Refute it at one input. -/
def fnExactWorldNewWrong : ChangeSpec := { name := "fnExactWorldNew", fn := fun _ => fun
  | [d1, d2, d3, d4, d5] => { results := [.lit (.bool false)], args := [d1, d2, d3, d4, d5] }
  | _ => none }
def FnExactWorldNewWrongFalsely : Prop := fnExactWorldNewRow.holds Tryz.pinned (OpenSpec.ofChange fnExactWorldNewWrong)

/-- 'laws.FnExactBeneath': WHATEVER THE INPUT: true; the input reads as it did. -/
def fnExactBeneathSpec : ChangeSpec := { name := "fnExactBeneath", fn := fun _ => fun
  | [d1, d2] => { results := [.lit (.bool true)], args := [d1, d2] }
  | _ => none }
def fnExactBeneathRow : OpenClaim := { program := "ythgekoledembcaagreat", sum := "7fb6acbb211d6ad6b7b684692acd1ce4efa7b4d6e5e96a144e3c63f9cb3b94db", func := "loop.example/g00487/laws.FnExactBeneath", spec := "fnExactBeneath", inPlace := ["internal/bytealg.abigen_runtime_cmpstring"], apart := false }
def FnExactBeneathSaid : Prop := fnExactBeneathRow.holds Tryz.pinned (OpenSpec.ofChange fnExactBeneathSpec)

/-- ITS FALSE NEIGHBOUR: 'it returns false'. Refute it at one input. -/
def fnExactBeneathWrong : ChangeSpec := { name := "fnExactBeneath", fn := fun _ => fun
  | [d1, d2] => { results := [.lit (.bool false)], args := [d1, d2] }
  | _ => none }
def FnExactBeneathWrongFalsely : Prop := fnExactBeneathRow.holds Tryz.pinned (OpenSpec.ofChange fnExactBeneathWrong)

/-- 'laws.FnExactAll': WHATEVER THE INPUT: true; the input reads as it did. -/
def fnExactAllSpec : ChangeSpec := { name := "fnExactAll", fn := fun _ => fun
  | [d] => { results := [.lit (.bool true)], args := [d] }
  | _ => none }
def fnExactAllRow : OpenClaim := { program := "ythgekoledembcaagreat", sum := "7fb6acbb211d6ad6b7b684692acd1ce4efa7b4d6e5e96a144e3c63f9cb3b94db", func := "loop.example/g00487/laws.FnExactAll", spec := "fnExactAll", inPlace := ["internal/bytealg.abigen_runtime_cmpstring"], apart := false }
def FnExactAllSaid : Prop := fnExactAllRow.holds Tryz.pinned (OpenSpec.ofChange fnExactAllSpec)

/-- ITS FALSE NEIGHBOUR: 'it returns false'. Refute it at one input. -/
def fnExactAllWrong : ChangeSpec := { name := "fnExactAll", fn := fun _ => fun
  | [d] => { results := [.lit (.bool false)], args := [d] }
  | _ => none }
def FnExactAllWrongFalsely : Prop := fnExactAllRow.holds Tryz.pinned (OpenSpec.ofChange fnExactAllWrong)

/-- 'laws.FnExactJoined': WHATEVER THE INPUT: true; the input reads as it did. -/
def fnExactJoinedSpec : ChangeSpec := { name := "fnExactJoined", fn := fun _ => fun
  | [d1, d2] => { results := [.lit (.bool true)], args := [d1, d2] }
  | _ => none }
def fnExactJoinedRow : OpenClaim := { program := "ythgekoledembcaagreat", sum := "7fb6acbb211d6ad6b7b684692acd1ce4efa7b4d6e5e96a144e3c63f9cb3b94db", func := "loop.example/g00487/laws.FnExactJoined", spec := "fnExactJoined", inPlace := ["internal/bytealg.abigen_runtime_cmpstring"], apart := false }
def FnExactJoinedSaid : Prop := fnExactJoinedRow.holds Tryz.pinned (OpenSpec.ofChange fnExactJoinedSpec)

/-- ITS FALSE NEIGHBOUR: 'it returns false'. Refute it at one input. -/
def fnExactJoinedWrong : ChangeSpec := { name := "fnExactJoined", fn := fun _ => fun
  | [d1, d2] => { results := [.lit (.bool false)], args := [d1, d2] }
  | _ => none }
def FnExactJoinedWrongFalsely : Prop := fnExactJoinedRow.holds Tryz.pinned (OpenSpec.ofChange fnExactJoinedWrong)

/-- 'laws.FnExactSaidBy': WHATEVER THE INPUT: true; the input reads as it did. -/
def fnExactSaidBySpec : ChangeSpec := { name := "fnExactSaidBy", fn := fun _ => fun
  | [d1, d2, d3] => { results := [.lit (.bool true)], args := [d1, d2, d3] }
  | _ => none }
def fnExactSaidByRow : OpenClaim := { program := "ythgekoledembcaagreat", sum := "7fb6acbb211d6ad6b7b684692acd1ce4efa7b4d6e5e96a144e3c63f9cb3b94db", func := "loop.example/g00487/laws.FnExactSaidBy", spec := "fnExactSaidBy", inPlace := ["internal/bytealg.abigen_runtime_cmpstring"], apart := false }
def FnExactSaidBySaid : Prop := fnExactSaidByRow.holds Tryz.pinned (OpenSpec.ofChange fnExactSaidBySpec)

/-- ITS FALSE NEIGHBOUR: 'it returns false'. Refute it at one input. -/
def fnExactSaidByWrong : ChangeSpec := { name := "fnExactSaidBy", fn := fun _ => fun
  | [d1, d2, d3] => { results := [.lit (.bool false)], args := [d1, d2, d3] }
  | _ => none }
def FnExactSaidByWrongFalsely : Prop := fnExactSaidByRow.holds Tryz.pinned (OpenSpec.ofChange fnExactSaidByWrong)

/-- 'laws.FnExactCalm': WHATEVER THE INPUT: true; the input reads as it did. -/
def fnExactCalmSpec : ChangeSpec := { name := "fnExactCalm", fn := fun _ => fun
  | [d] => { results := [.lit (.bool true)], args := [d] }
  | _ => none }
def fnExactCalmRow : OpenClaim := { program := "ythgekoledembcaagreat", sum := "7fb6acbb211d6ad6b7b684692acd1ce4efa7b4d6e5e96a144e3c63f9cb3b94db", func := "loop.example/g00487/laws.FnExactCalm", spec := "fnExactCalm", apart := false }
def FnExactCalmSaid : Prop := fnExactCalmRow.holds Tryz.pinned (OpenSpec.ofChange fnExactCalmSpec)

/-- ITS FALSE NEIGHBOUR: 'it returns false'. Refute it at one input. -/
def fnExactCalmWrong : ChangeSpec := { name := "fnExactCalm", fn := fun _ => fun
  | [d] => { results := [.lit (.bool false)], args := [d] }
  | _ => none }
def FnExactCalmWrongFalsely : Prop := fnExactCalmRow.holds Tryz.pinned (OpenSpec.ofChange fnExactCalmWrong)

/- THE SECOND FORM. 'bulk': how many values and letters a reading holds, each counted each time it is reached (what is shared counts as often as it is met; a slice's spare places count too). A statement '..UptoSaid' is the law's where the arguments, and the package variables that the reading takes, are together of bulk at most 1048576: NARROWER than '..Said'. Prove '..Said' where nothing that the law and all that it calls make is longer than what came in: it says more and counts as full. Else prove '..UptoSaid'. A law counts once. -/
mutual
def uptoBulk {H : Type} : DataW H → Nat
  | .lit (.string bytes) => bytes.length + 1
  | .lit _ => 1
  | .nil => 1
  | .ptr d => uptoBulk d + 1
  | .slice elems spare => uptoBulkAll elems + uptoBulkAll spare + 1
  | .agg parts => uptoBulkAll parts + 1
  | .iface _ d => uptoBulk d + 1
  | .map entries => uptoBulkEntries entries + 1
  | .held _ => 1
def uptoBulkAll {H : Type} : List (DataW H) → Nat
  | [] => 0
  | d :: r => uptoBulk d + uptoBulkAll r
def uptoBulkEntries {H : Type} : List (Lit × DataW H) → Nat
  | [] => 0
  | x :: r => uptoBulkEntry x + uptoBulkEntries r
def uptoBulkEntry {H : Type} : Lit × DataW H → Nat
  | (.string bytes, d) => bytes.length + uptoBulk d + 1
  | (_, d) => uptoBulk d + 1
 end
def uptoSmall : (H : Type) → List (DataW H) → Bool := fun _ ds => decide (uptoBulkAll ds ≤ 1048576)
def OpenSpec.upto (s : _root_.Go.ChangeSpec) : _root_.Go.OpenSpec := { _root_.Go.OpenSpec.ofChange s with cond := some uptoSmall }

/-- 'laws.FnExactWorldNew', WHERE WHAT IT READS IS OF BULK AT MOST 1048576: true; the input reads as it did. -/
def fnExactWorldNewUptoRow : OpenClaim := { program := "ythgekoledembcaagreat", sum := "7fb6acbb211d6ad6b7b684692acd1ce4efa7b4d6e5e96a144e3c63f9cb3b94db", func := "loop.example/g00487/laws.FnExactWorldNew", spec := "fnExactWorldNew", apart := false, narrowed := true }
def FnExactWorldNewUptoSaid : Prop := fnExactWorldNewUptoRow.holds Tryz.pinned (OpenSpec.upto fnExactWorldNewSpec)

/-- 'laws.FnExactBeneath', WHERE WHAT IT READS IS OF BULK AT MOST 1048576: true; the input reads as it did. -/
def fnExactBeneathUptoRow : OpenClaim := { program := "ythgekoledembcaagreat", sum := "7fb6acbb211d6ad6b7b684692acd1ce4efa7b4d6e5e96a144e3c63f9cb3b94db", func := "loop.example/g00487/laws.FnExactBeneath", spec := "fnExactBeneath", inPlace := ["internal/bytealg.abigen_runtime_cmpstring"], apart := false, narrowed := true }
def FnExactBeneathUptoSaid : Prop := fnExactBeneathUptoRow.holds Tryz.pinned (OpenSpec.upto fnExactBeneathSpec)

/-- 'laws.FnExactAll', WHERE WHAT IT READS IS OF BULK AT MOST 1048576: true; the input reads as it did. -/
def fnExactAllUptoRow : OpenClaim := { program := "ythgekoledembcaagreat", sum := "7fb6acbb211d6ad6b7b684692acd1ce4efa7b4d6e5e96a144e3c63f9cb3b94db", func := "loop.example/g00487/laws.FnExactAll", spec := "fnExactAll", inPlace := ["internal/bytealg.abigen_runtime_cmpstring"], apart := false, narrowed := true }
def FnExactAllUptoSaid : Prop := fnExactAllUptoRow.holds Tryz.pinned (OpenSpec.upto fnExactAllSpec)

/-- 'laws.FnExactJoined', WHERE WHAT IT READS IS OF BULK AT MOST 1048576: true; the input reads as it did. -/
def fnExactJoinedUptoRow : OpenClaim := { program := "ythgekoledembcaagreat", sum := "7fb6acbb211d6ad6b7b684692acd1ce4efa7b4d6e5e96a144e3c63f9cb3b94db", func := "loop.example/g00487/laws.FnExactJoined", spec := "fnExactJoined", inPlace := ["internal/bytealg.abigen_runtime_cmpstring"], apart := false, narrowed := true }
def FnExactJoinedUptoSaid : Prop := fnExactJoinedUptoRow.holds Tryz.pinned (OpenSpec.upto fnExactJoinedSpec)

/-- 'laws.FnExactSaidBy', WHERE WHAT IT READS IS OF BULK AT MOST 1048576: true; the input reads as it did. -/
def fnExactSaidByUptoRow : OpenClaim := { program := "ythgekoledembcaagreat", sum := "7fb6acbb211d6ad6b7b684692acd1ce4efa7b4d6e5e96a144e3c63f9cb3b94db", func := "loop.example/g00487/laws.FnExactSaidBy", spec := "fnExactSaidBy", inPlace := ["internal/bytealg.abigen_runtime_cmpstring"], apart := false, narrowed := true }
def FnExactSaidByUptoSaid : Prop := fnExactSaidByUptoRow.holds Tryz.pinned (OpenSpec.upto fnExactSaidBySpec)

/-- 'laws.FnExactCalm', WHERE WHAT IT READS IS OF BULK AT MOST 1048576: true; the input reads as it did. -/
def fnExactCalmUptoRow : OpenClaim := { program := "ythgekoledembcaagreat", sum := "7fb6acbb211d6ad6b7b684692acd1ce4efa7b4d6e5e96a144e3c63f9cb3b94db", func := "loop.example/g00487/laws.FnExactCalm", spec := "fnExactCalm", apart := false, narrowed := true }
def FnExactCalmUptoSaid : Prop := fnExactCalmUptoRow.holds Tryz.pinned (OpenSpec.upto fnExactCalmSpec)

end Rows
end Go.Proofs.YthgekoledembcaaGreat
