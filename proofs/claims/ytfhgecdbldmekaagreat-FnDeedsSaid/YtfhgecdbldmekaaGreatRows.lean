/-
  No cell of these rows narrows 'for every input' (looked for: loops, veiled, ifaces, maps, wideKeys, modest, calm, conditions, laid).
  DERIVED. THE GIVEN ROWS OF THIS SEAT. 5 by the template 'for every input the law returns true; each argument reads behind the call as it read before'; 0 by the template 'total and deterministic' (their statements: YtfhgecdbldmekaaGreatTotals.lean).
  GIVEN WITH THE SEED: the statements are not yours to turn. If you find one false, say at which input.
  Laid BY PROGRAM, IN A SANDBOX (cutbox-rows.mjs): the forced cells as the released guide's own fill.sh prints them over the translation 3b07f7b271f5872f… (all of the seat's roots in one cut). By AI agents, Wed Nov 11 2026. No macro, syntax, notation, axiom, sorry.
-/
import Derived.Test.YtfhgecdbldmekaaGreatChecked
import GoSem.Claim
import GoSem.ClaimJoined
import GoSem.ClaimMapViews
import Derived.JoinedTies
import Derived.KernelRfl
namespace Go.Proofs.YtfhgecdbldmekaaGreat
/- THE CELL 'sum', in the pinned program and in every row, IS THE sha256 OF THE DUMP (.gsa) THAT YtfhgecdbldmekaaGreatProg.lean LOADS. Nothing in Lean hashes anything: it is a label: what it is worth is what the hold of that sum in a sandbox is worth. -/
noncomputable def Tryz.pinned : Pinned := { name := "ytfhgecdbldmekaagreat", sum := "3b07f7b271f5872f3957150084375ef0265f8eadfad8b6e7d1f3acf93d2db970", checked := Tryz.checked }
namespace Rows
def none {H : Type} : Left H := { results := [], args := [] }

/-- 'laws.FnTop': WHATEVER THE INPUT: true; the input reads as it did. -/
def fnTopSpec : ChangeSpec := { name := "fnTop", fn := fun _ => fun
  | [d] => { results := [.lit (.bool true)], args := [d] }
  | _ => none }
def fnTopRow : OpenClaim := { program := "ytfhgecdbldmekaagreat", sum := "3b07f7b271f5872f3957150084375ef0265f8eadfad8b6e7d1f3acf93d2db970", func := "loop.example/g00487/laws.FnTop", spec := "fnTop", inPlace := ["internal/bytealg.abigen_runtime_cmpstring"], apart := false }
def FnTopSaid : Prop := fnTopRow.holds Tryz.pinned (OpenSpec.ofChange fnTopSpec)

/-- ITS FALSE NEIGHBOUR: 'it returns false'. Refute it at one input. -/
def fnTopWrong : ChangeSpec := { name := "fnTop", fn := fun _ => fun
  | [d] => { results := [.lit (.bool false)], args := [d] }
  | _ => none }
def FnTopWrongFalsely : Prop := fnTopRow.holds Tryz.pinned (OpenSpec.ofChange fnTopWrong)

/-- 'laws.FnDeeds': WHATEVER THE INPUT: true; the input reads as it did. -/
def fnDeedsSpec : ChangeSpec := { name := "fnDeeds", fn := fun _ => fun
  | [d] => { results := [.lit (.bool true)], args := [d] }
  | _ => none }
def fnDeedsRow : OpenClaim := { program := "ytfhgecdbldmekaagreat", sum := "3b07f7b271f5872f3957150084375ef0265f8eadfad8b6e7d1f3acf93d2db970", func := "loop.example/g00487/laws.FnDeeds", spec := "fnDeeds", inPlace := ["internal/bytealg.abigen_runtime_cmpstring"], apart := false }
def FnDeedsSaid : Prop := fnDeedsRow.holds Tryz.pinned (OpenSpec.ofChange fnDeedsSpec)

/-- ITS FALSE NEIGHBOUR: 'it returns false'. Refute it at one input. -/
def fnDeedsWrong : ChangeSpec := { name := "fnDeeds", fn := fun _ => fun
  | [d] => { results := [.lit (.bool false)], args := [d] }
  | _ => none }
def FnDeedsWrongFalsely : Prop := fnDeedsRow.holds Tryz.pinned (OpenSpec.ofChange fnDeedsWrong)

/-- 'laws.FnSpoiltNothing': WHATEVER THE INPUT: true; the input reads as it did. -/
def fnSpoiltNothingSpec : ChangeSpec := { name := "fnSpoiltNothing", fn := fun _ => fun
  | [d] => { results := [.lit (.bool true)], args := [d] }
  | _ => none }
def fnSpoiltNothingRow : OpenClaim := { program := "ytfhgecdbldmekaagreat", sum := "3b07f7b271f5872f3957150084375ef0265f8eadfad8b6e7d1f3acf93d2db970", func := "loop.example/g00487/laws.FnSpoiltNothing", spec := "fnSpoiltNothing", inPlace := ["internal/bytealg.abigen_runtime_cmpstring"], apart := false }
def FnSpoiltNothingSaid : Prop := fnSpoiltNothingRow.holds Tryz.pinned (OpenSpec.ofChange fnSpoiltNothingSpec)

/-- ITS FALSE NEIGHBOUR: 'it returns false'. Refute it at one input. -/
def fnSpoiltNothingWrong : ChangeSpec := { name := "fnSpoiltNothing", fn := fun _ => fun
  | [d] => { results := [.lit (.bool false)], args := [d] }
  | _ => none }
def FnSpoiltNothingWrongFalsely : Prop := fnSpoiltNothingRow.holds Tryz.pinned (OpenSpec.ofChange fnSpoiltNothingWrong)

/-- 'laws.FnExactDo': WHATEVER THE INPUT: true; the input reads as it did. -/
def fnExactDoSpec : ChangeSpec := { name := "fnExactDo", fn := fun _ => fun
  | [d1, d2] => { results := [.lit (.bool true)], args := [d1, d2] }
  | _ => none }
def fnExactDoRow : OpenClaim := { program := "ytfhgecdbldmekaagreat", sum := "3b07f7b271f5872f3957150084375ef0265f8eadfad8b6e7d1f3acf93d2db970", func := "loop.example/g00487/laws.FnExactDo", spec := "fnExactDo", inPlace := ["internal/bytealg.abigen_runtime_cmpstring"], apart := false }
def FnExactDoSaid : Prop := fnExactDoRow.holds Tryz.pinned (OpenSpec.ofChange fnExactDoSpec)

/-- ITS FALSE NEIGHBOUR: 'it returns false'. Refute it at one input. -/
def fnExactDoWrong : ChangeSpec := { name := "fnExactDo", fn := fun _ => fun
  | [d1, d2] => { results := [.lit (.bool false)], args := [d1, d2] }
  | _ => none }
def FnExactDoWrongFalsely : Prop := fnExactDoRow.holds Tryz.pinned (OpenSpec.ofChange fnExactDoWrong)

/-- 'laws.FnExactDoAll': WHATEVER THE INPUT: true; the input reads as it did. -/
def fnExactDoAllSpec : ChangeSpec := { name := "fnExactDoAll", fn := fun _ => fun
  | [d1, d2] => { results := [.lit (.bool true)], args := [d1, d2] }
  | _ => none }
def fnExactDoAllRow : OpenClaim := { program := "ytfhgecdbldmekaagreat", sum := "3b07f7b271f5872f3957150084375ef0265f8eadfad8b6e7d1f3acf93d2db970", func := "loop.example/g00487/laws.FnExactDoAll", spec := "fnExactDoAll", inPlace := ["internal/bytealg.abigen_runtime_cmpstring"], apart := false }
def FnExactDoAllSaid : Prop := fnExactDoAllRow.holds Tryz.pinned (OpenSpec.ofChange fnExactDoAllSpec)

/-- ITS FALSE NEIGHBOUR: 'it returns false'. Refute it at one input. -/
def fnExactDoAllWrong : ChangeSpec := { name := "fnExactDoAll", fn := fun _ => fun
  | [d1, d2] => { results := [.lit (.bool false)], args := [d1, d2] }
  | _ => none }
def FnExactDoAllWrongFalsely : Prop := fnExactDoAllRow.holds Tryz.pinned (OpenSpec.ofChange fnExactDoAllWrong)

/- THE SECOND FORM. 'bulk': how many values and letters a reading holds, each counted each time it is reached (what is shared counts as often as it is met; a slice's spare places count too). A statement '..UptoSaid' is the law's where the arguments, and the package variables that the reading takes, are together of bulk at most 1048576: NARROWER than '..Said'. Prove '..Said' where nothing that the law and all that it calls make is longer than what came in: it says more and counts as full. Else prove '..UptoSaid'. A law counts once. -/
mutual
def uptoBulk {H : Type} : DataW H → Nat
  | .lit (.string bytes) => bytes.length + 1
  | .lit _ => 1
  | .nil => 1
  | .ptr d => uptoBulk d + 1
  | .slice elems spare => uptoBulkAll elems + uptoBulkAll spare + 1
  | .agg parts => uptoBulkAll parts + 1
  | .iface _ d => uptoBulk d + 1
  | .map entries => uptoBulkEntries entries + 1
  | .held _ => 1
def uptoBulkAll {H : Type} : List (DataW H) → Nat
  | [] => 0
  | d :: r => uptoBulk d + uptoBulkAll r
def uptoBulkEntries {H : Type} : List (Lit × DataW H) → Nat
  | [] => 0
  | x :: r => uptoBulkEntry x + uptoBulkEntries r
def uptoBulkEntry {H : Type} : Lit × DataW H → Nat
  | (.string bytes, d) => bytes.length + uptoBulk d + 1
  | (_, d) => uptoBulk d + 1
 end
def uptoSmall : (H : Type) → List (DataW H) → Bool := fun _ ds => decide (uptoBulkAll ds ≤ 1048576)
def OpenSpec.upto (s : _root_.Go.ChangeSpec) : _root_.Go.OpenSpec := { _root_.Go.OpenSpec.ofChange s with cond := some uptoSmall }

/-- 'laws.FnTop', WHERE WHAT IT READS IS OF BULK AT MOST 1048576: true; the input reads as it did. -/
def fnTopUptoRow : OpenClaim := { program := "ytfhgecdbldmekaagreat", sum := "3b07f7b271f5872f3957150084375ef0265f8eadfad8b6e7d1f3acf93d2db970", func := "loop.example/g00487/laws.FnTop", spec := "fnTop", inPlace := ["internal/bytealg.abigen_runtime_cmpstring"], apart := false, narrowed := true }
def FnTopUptoSaid : Prop := fnTopUptoRow.holds Tryz.pinned (OpenSpec.upto fnTopSpec)

/-- 'laws.FnDeeds', WHERE WHAT IT READS IS OF BULK AT MOST 1048576: true; the input reads as it did. -/
def fnDeedsUptoRow : OpenClaim := { program := "ytfhgecdbldmekaagreat", sum := "3b07f7b271f5872f3957150084375ef0265f8eadfad8b6e7d1f3acf93d2db970", func := "loop.example/g00487/laws.FnDeeds", spec := "fnDeeds", inPlace := ["internal/bytealg.abigen_runtime_cmpstring"], apart := false, narrowed := true }
def FnDeedsUptoSaid : Prop := fnDeedsUptoRow.holds Tryz.pinned (OpenSpec.upto fnDeedsSpec)

/-- 'laws.FnSpoiltNothing', WHERE WHAT IT READS IS OF BULK AT MOST 1048576: true; the input reads as it did. -/
def fnSpoiltNothingUptoRow : OpenClaim := { program := "ytfhgecdbldmekaagreat", sum := "3b07f7b271f5872f3957150084375ef0265f8eadfad8b6e7d1f3acf93d2db970", func := "loop.example/g00487/laws.FnSpoiltNothing", spec := "fnSpoiltNothing", inPlace := ["internal/bytealg.abigen_runtime_cmpstring"], apart := false, narrowed := true }
def FnSpoiltNothingUptoSaid : Prop := fnSpoiltNothingUptoRow.holds Tryz.pinned (OpenSpec.upto fnSpoiltNothingSpec)

/-- 'laws.FnExactDo', WHERE WHAT IT READS IS OF BULK AT MOST 1048576: true; the input reads as it did. -/
def fnExactDoUptoRow : OpenClaim := { program := "ytfhgecdbldmekaagreat", sum := "3b07f7b271f5872f3957150084375ef0265f8eadfad8b6e7d1f3acf93d2db970", func := "loop.example/g00487/laws.FnExactDo", spec := "fnExactDo", inPlace := ["internal/bytealg.abigen_runtime_cmpstring"], apart := false, narrowed := true }
def FnExactDoUptoSaid : Prop := fnExactDoUptoRow.holds Tryz.pinned (OpenSpec.upto fnExactDoSpec)

/-- 'laws.FnExactDoAll', WHERE WHAT IT READS IS OF BULK AT MOST 1048576: true; the input reads as it did. -/
def fnExactDoAllUptoRow : OpenClaim := { program := "ytfhgecdbldmekaagreat", sum := "3b07f7b271f5872f3957150084375ef0265f8eadfad8b6e7d1f3acf93d2db970", func := "loop.example/g00487/laws.FnExactDoAll", spec := "fnExactDoAll", inPlace := ["internal/bytealg.abigen_runtime_cmpstring"], apart := false, narrowed := true }
def FnExactDoAllUptoSaid : Prop := fnExactDoAllUptoRow.holds Tryz.pinned (OpenSpec.upto fnExactDoAllSpec)

end Rows
end Go.Proofs.YtfhgecdbldmekaaGreat
