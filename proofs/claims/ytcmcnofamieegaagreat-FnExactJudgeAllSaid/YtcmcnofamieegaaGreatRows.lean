/-
  No cell of these rows narrows 'for every input' (looked for: loops, veiled, ifaces, maps, wideKeys, modest, calm, conditions, laid).
  DERIVED. THE GIVEN ROWS OF THIS SEAT. 9 by the template 'for every input the law returns true; each argument reads behind the call as it read before'; 0 by the template 'total and deterministic' (their statements: YtcmcnofamieegaaGreatTotals.lean).
  GIVEN WITH THE SEED: the statements are not yours to turn. If you find one false, say at which input.
  Laid BY PROGRAM, IN A SANDBOX (cutbox-rows.mjs): the forced cells as the released guide's own fill.sh prints them over the translation 8a87c0200cbc22c6… (all of the seat's roots in one cut). By AI agents, Wed Nov 11 2026. No macro, syntax, notation, axiom, sorry.
-/
import Derived.Test.YtcmcnofamieegaaGreatChecked
import GoSem.Claim
import GoSem.ClaimJoined
import GoSem.ClaimMapViews
import Derived.JoinedTies
import Derived.KernelRfl
namespace Go.Proofs.YtcmcnofamieegaaGreat
/- THE CELL 'sum', in the pinned program and in every row, IS THE sha256 OF THE DUMP (.gsa) THAT YtcmcnofamieegaaGreatProg.lean LOADS. Nothing in Lean hashes anything: it is a label: what it is worth is what the hold of that sum in a sandbox is worth. -/
noncomputable def Tryz.pinned : Pinned := { name := "ytcmcnofamieegaagreat", sum := "8a87c0200cbc22c61a83bd18cacff4adf44527a30d526b8f0ef1ce7c430c9aa2", checked := Tryz.checked }
namespace Rows
def none {H : Type} : Left H := { results := [], args := [] }

/-- 'laws.FnExactKnownBy': WHATEVER THE INPUT: true; the input reads as it did. -/
def fnExactKnownBySpec : ChangeSpec := { name := "fnExactKnownBy", fn := fun _ => fun
  | [d1, d2] => { results := [.lit (.bool true)], args := [d1, d2] }
  | _ => none }
def fnExactKnownByRow : OpenClaim := { program := "ytcmcnofamieegaagreat", sum := "8a87c0200cbc22c61a83bd18cacff4adf44527a30d526b8f0ef1ce7c430c9aa2", func := "loop.example/g00487/laws.FnExactKnownBy", spec := "fnExactKnownBy", apart := false }
def FnExactKnownBySaid : Prop := fnExactKnownByRow.holds Tryz.pinned (OpenSpec.ofChange fnExactKnownBySpec)

/-- ITS FALSE NEIGHBOUR: 'it returns false'. Refute it at one input. -/
def fnExactKnownByWrong : ChangeSpec := { name := "fnExactKnownBy", fn := fun _ => fun
  | [d1, d2] => { results := [.lit (.bool false)], args := [d1, d2] }
  | _ => none }
def FnExactKnownByWrongFalsely : Prop := fnExactKnownByRow.holds Tryz.pinned (OpenSpec.ofChange fnExactKnownByWrong)

/-- 'laws.FnExactJudgeSeen': WHATEVER THE INPUT: true; the input reads as it did. -/
def fnExactJudgeSeenSpec : ChangeSpec := { name := "fnExactJudgeSeen", fn := fun _ => fun
  | [d] => { results := [.lit (.bool true)], args := [d] }
  | _ => none }
def fnExactJudgeSeenRow : OpenClaim := { program := "ytcmcnofamieegaagreat", sum := "8a87c0200cbc22c61a83bd18cacff4adf44527a30d526b8f0ef1ce7c430c9aa2", func := "loop.example/g00487/laws.FnExactJudgeSeen", spec := "fnExactJudgeSeen", apart := false }
def FnExactJudgeSeenSaid : Prop := fnExactJudgeSeenRow.holds Tryz.pinned (OpenSpec.ofChange fnExactJudgeSeenSpec)

/-- ITS FALSE NEIGHBOUR: 'it returns false'. Refute it at one input. -/
def fnExactJudgeSeenWrong : ChangeSpec := { name := "fnExactJudgeSeen", fn := fun _ => fun
  | [d] => { results := [.lit (.bool false)], args := [d] }
  | _ => none }
def FnExactJudgeSeenWrongFalsely : Prop := fnExactJudgeSeenRow.holds Tryz.pinned (OpenSpec.ofChange fnExactJudgeSeenWrong)

/-- 'laws.FnExactSettled': WHATEVER THE INPUT: true; the input reads as it did. -/
def fnExactSettledSpec : ChangeSpec := { name := "fnExactSettled", fn := fun _ => fun
  | [d] => { results := [.lit (.bool true)], args := [d] }
  | _ => none }
def fnExactSettledRow : OpenClaim := { program := "ytcmcnofamieegaagreat", sum := "8a87c0200cbc22c61a83bd18cacff4adf44527a30d526b8f0ef1ce7c430c9aa2", func := "loop.example/g00487/laws.FnExactSettled", spec := "fnExactSettled", inPlace := ["internal/bytealg.abigen_runtime_cmpstring"], apart := false }
def FnExactSettledSaid : Prop := fnExactSettledRow.holds Tryz.pinned (OpenSpec.ofChange fnExactSettledSpec)

/-- ITS FALSE NEIGHBOUR: 'it returns false'. Refute it at one input. -/
def fnExactSettledWrong : ChangeSpec := { name := "fnExactSettled", fn := fun _ => fun
  | [d] => { results := [.lit (.bool false)], args := [d] }
  | _ => none }
def FnExactSettledWrongFalsely : Prop := fnExactSettledRow.holds Tryz.pinned (OpenSpec.ofChange fnExactSettledWrong)

/-- 'laws.FnExactJudgeHeard': WHATEVER THE INPUT: true; the input reads as it did. -/
def fnExactJudgeHeardSpec : ChangeSpec := { name := "fnExactJudgeHeard", fn := fun _ => fun
  | [d] => { results := [.lit (.bool true)], args := [d] }
  | _ => none }
def fnExactJudgeHeardRow : OpenClaim := { program := "ytcmcnofamieegaagreat", sum := "8a87c0200cbc22c61a83bd18cacff4adf44527a30d526b8f0ef1ce7c430c9aa2", func := "loop.example/g00487/laws.FnExactJudgeHeard", spec := "fnExactJudgeHeard", inPlace := ["internal/bytealg.abigen_runtime_cmpstring"], apart := false }
def FnExactJudgeHeardSaid : Prop := fnExactJudgeHeardRow.holds Tryz.pinned (OpenSpec.ofChange fnExactJudgeHeardSpec)

/-- ITS FALSE NEIGHBOUR: 'it returns false'. Refute it at one input. -/
def fnExactJudgeHeardWrong : ChangeSpec := { name := "fnExactJudgeHeard", fn := fun _ => fun
  | [d] => { results := [.lit (.bool false)], args := [d] }
  | _ => none }
def FnExactJudgeHeardWrongFalsely : Prop := fnExactJudgeHeardRow.holds Tryz.pinned (OpenSpec.ofChange fnExactJudgeHeardWrong)

/-- 'laws.FnExactJudgeOwn': WHATEVER THE INPUT: true; the input reads as it did. -/
def fnExactJudgeOwnSpec : ChangeSpec := { name := "fnExactJudgeOwn", fn := fun _ => fun
  | [d] => { results := [.lit (.bool true)], args := [d] }
  | _ => none }
def fnExactJudgeOwnRow : OpenClaim := { program := "ytcmcnofamieegaagreat", sum := "8a87c0200cbc22c61a83bd18cacff4adf44527a30d526b8f0ef1ce7c430c9aa2", func := "loop.example/g00487/laws.FnExactJudgeOwn", spec := "fnExactJudgeOwn", inPlace := ["internal/bytealg.abigen_runtime_cmpstring"], apart := false }
def FnExactJudgeOwnSaid : Prop := fnExactJudgeOwnRow.holds Tryz.pinned (OpenSpec.ofChange fnExactJudgeOwnSpec)

/-- ITS FALSE NEIGHBOUR: 'it returns false'. Refute it at one input. -/
def fnExactJudgeOwnWrong : ChangeSpec := { name := "fnExactJudgeOwn", fn := fun _ => fun
  | [d] => { results := [.lit (.bool false)], args := [d] }
  | _ => none }
def FnExactJudgeOwnWrongFalsely : Prop := fnExactJudgeOwnRow.holds Tryz.pinned (OpenSpec.ofChange fnExactJudgeOwnWrong)

/-- 'laws.FnExactExplained': WHATEVER THE INPUT: true; the input reads as it did. -/
def fnExactExplainedSpec : ChangeSpec := { name := "fnExactExplained", fn := fun _ => fun
  | [d1, d2] => { results := [.lit (.bool true)], args := [d1, d2] }
  | _ => none }
def fnExactExplainedRow : OpenClaim := { program := "ytcmcnofamieegaagreat", sum := "8a87c0200cbc22c61a83bd18cacff4adf44527a30d526b8f0ef1ce7c430c9aa2", func := "loop.example/g00487/laws.FnExactExplained", spec := "fnExactExplained", inPlace := ["internal/bytealg.abigen_runtime_cmpstring"], apart := false }
def FnExactExplainedSaid : Prop := fnExactExplainedRow.holds Tryz.pinned (OpenSpec.ofChange fnExactExplainedSpec)

/-- ITS FALSE NEIGHBOUR: 'it returns false'. Refute it at one input. -/
def fnExactExplainedWrong : ChangeSpec := { name := "fnExactExplained", fn := fun _ => fun
  | [d1, d2] => { results := [.lit (.bool false)], args := [d1, d2] }
  | _ => none }
def FnExactExplainedWrongFalsely : Prop := fnExactExplainedRow.holds Tryz.pinned (OpenSpec.ofChange fnExactExplainedWrong)

/-- 'laws.FnExactJudgeGrown': WHATEVER THE INPUT: true; the input reads as it did. -/
def fnExactJudgeGrownSpec : ChangeSpec := { name := "fnExactJudgeGrown", fn := fun _ => fun
  | [d1, d2] => { results := [.lit (.bool true)], args := [d1, d2] }
  | _ => none }
def fnExactJudgeGrownRow : OpenClaim := { program := "ytcmcnofamieegaagreat", sum := "8a87c0200cbc22c61a83bd18cacff4adf44527a30d526b8f0ef1ce7c430c9aa2", func := "loop.example/g00487/laws.FnExactJudgeGrown", spec := "fnExactJudgeGrown", inPlace := ["internal/bytealg.abigen_runtime_cmpstring"], apart := false }
def FnExactJudgeGrownSaid : Prop := fnExactJudgeGrownRow.holds Tryz.pinned (OpenSpec.ofChange fnExactJudgeGrownSpec)

/-- ITS FALSE NEIGHBOUR: 'it returns false'. Refute it at one input. -/
def fnExactJudgeGrownWrong : ChangeSpec := { name := "fnExactJudgeGrown", fn := fun _ => fun
  | [d1, d2] => { results := [.lit (.bool false)], args := [d1, d2] }
  | _ => none }
def FnExactJudgeGrownWrongFalsely : Prop := fnExactJudgeGrownRow.holds Tryz.pinned (OpenSpec.ofChange fnExactJudgeGrownWrong)

/-- 'laws.FnExactJudgeViews': WHATEVER THE INPUT: true; the input reads as it did. -/
def fnExactJudgeViewsSpec : ChangeSpec := { name := "fnExactJudgeViews", fn := fun _ => fun
  | [d] => { results := [.lit (.bool true)], args := [d] }
  | _ => none }
def fnExactJudgeViewsRow : OpenClaim := { program := "ytcmcnofamieegaagreat", sum := "8a87c0200cbc22c61a83bd18cacff4adf44527a30d526b8f0ef1ce7c430c9aa2", func := "loop.example/g00487/laws.FnExactJudgeViews", spec := "fnExactJudgeViews", inPlace := ["internal/bytealg.abigen_runtime_cmpstring"], apart := false }
def FnExactJudgeViewsSaid : Prop := fnExactJudgeViewsRow.holds Tryz.pinned (OpenSpec.ofChange fnExactJudgeViewsSpec)

/-- ITS FALSE NEIGHBOUR: 'it returns false'. Refute it at one input. -/
def fnExactJudgeViewsWrong : ChangeSpec := { name := "fnExactJudgeViews", fn := fun _ => fun
  | [d] => { results := [.lit (.bool false)], args := [d] }
  | _ => none }
def FnExactJudgeViewsWrongFalsely : Prop := fnExactJudgeViewsRow.holds Tryz.pinned (OpenSpec.ofChange fnExactJudgeViewsWrong)

/-- 'laws.FnExactJudgeAll': WHATEVER THE INPUT: true; the input reads as it did. -/
def fnExactJudgeAllSpec : ChangeSpec := { name := "fnExactJudgeAll", fn := fun _ => fun
  | [d] => { results := [.lit (.bool true)], args := [d] }
  | _ => none }
def fnExactJudgeAllRow : OpenClaim := { program := "ytcmcnofamieegaagreat", sum := "8a87c0200cbc22c61a83bd18cacff4adf44527a30d526b8f0ef1ce7c430c9aa2", func := "loop.example/g00487/laws.FnExactJudgeAll", spec := "fnExactJudgeAll", inPlace := ["internal/bytealg.abigen_runtime_cmpstring"], apart := false }
def FnExactJudgeAllSaid : Prop := fnExactJudgeAllRow.holds Tryz.pinned (OpenSpec.ofChange fnExactJudgeAllSpec)

/-- ITS FALSE NEIGHBOUR: 'it returns false'. Refute it at one input. -/
def fnExactJudgeAllWrong : ChangeSpec := { name := "fnExactJudgeAll", fn := fun _ => fun
  | [d] => { results := [.lit (.bool false)], args := [d] }
  | _ => none }
def FnExactJudgeAllWrongFalsely : Prop := fnExactJudgeAllRow.holds Tryz.pinned (OpenSpec.ofChange fnExactJudgeAllWrong)

/- THE SECOND FORM. 'bulk': how many values and letters a reading holds, each counted each time it is reached (what is shared counts as often as it is met; a slice's spare places count too). A statement '..UptoSaid' is the law's where the arguments, and the package variables that the reading takes, are together of bulk at most 1048576: NARROWER than '..Said'. Prove '..Said' where nothing that the law and all that it calls make is longer than what came in: it says more and counts as full. Else prove '..UptoSaid'. A law counts once. -/
mutual
def uptoBulk {H : Type} : DataW H → Nat
  | .lit (.string bytes) => bytes.length + 1
  | .lit _ => 1
  | .nil => 1
  | .ptr d => uptoBulk d + 1
  | .slice elems spare => uptoBulkAll elems + uptoBulkAll spare + 1
  | .agg parts => uptoBulkAll parts + 1
  | .iface _ d => uptoBulk d + 1
  | .map entries => uptoBulkEntries entries + 1
  | .held _ => 1
def uptoBulkAll {H : Type} : List (DataW H) → Nat
  | [] => 0
  | d :: r => uptoBulk d + uptoBulkAll r
def uptoBulkEntries {H : Type} : List (Lit × DataW H) → Nat
  | [] => 0
  | x :: r => uptoBulkEntry x + uptoBulkEntries r
def uptoBulkEntry {H : Type} : Lit × DataW H → Nat
  | (.string bytes, d) => bytes.length + uptoBulk d + 1
  | (_, d) => uptoBulk d + 1
 end
def uptoSmall : (H : Type) → List (DataW H) → Bool := fun _ ds => decide (uptoBulkAll ds ≤ 1048576)
def OpenSpec.upto (s : _root_.Go.ChangeSpec) : _root_.Go.OpenSpec := { _root_.Go.OpenSpec.ofChange s with cond := some uptoSmall }

/-- 'laws.FnExactKnownBy', WHERE WHAT IT READS IS OF BULK AT MOST 1048576: true; the input reads as it did. -/
def fnExactKnownByUptoRow : OpenClaim := { program := "ytcmcnofamieegaagreat", sum := "8a87c0200cbc22c61a83bd18cacff4adf44527a30d526b8f0ef1ce7c430c9aa2", func := "loop.example/g00487/laws.FnExactKnownBy", spec := "fnExactKnownBy", apart := false, narrowed := true }
def FnExactKnownByUptoSaid : Prop := fnExactKnownByUptoRow.holds Tryz.pinned (OpenSpec.upto fnExactKnownBySpec)

/-- 'laws.FnExactJudgeSeen', WHERE WHAT IT READS IS OF BULK AT MOST 1048576: true; the input reads as it did. -/
def fnExactJudgeSeenUptoRow : OpenClaim := { program := "ytcmcnofamieegaagreat", sum := "8a87c0200cbc22c61a83bd18cacff4adf44527a30d526b8f0ef1ce7c430c9aa2", func := "loop.example/g00487/laws.FnExactJudgeSeen", spec := "fnExactJudgeSeen", apart := false, narrowed := true }
def FnExactJudgeSeenUptoSaid : Prop := fnExactJudgeSeenUptoRow.holds Tryz.pinned (OpenSpec.upto fnExactJudgeSeenSpec)

/-- 'laws.FnExactSettled', WHERE WHAT IT READS IS OF BULK AT MOST 1048576: true; the input reads as it did. -/
def fnExactSettledUptoRow : OpenClaim := { program := "ytcmcnofamieegaagreat", sum := "8a87c0200cbc22c61a83bd18cacff4adf44527a30d526b8f0ef1ce7c430c9aa2", func := "loop.example/g00487/laws.FnExactSettled", spec := "fnExactSettled", inPlace := ["internal/bytealg.abigen_runtime_cmpstring"], apart := false, narrowed := true }
def FnExactSettledUptoSaid : Prop := fnExactSettledUptoRow.holds Tryz.pinned (OpenSpec.upto fnExactSettledSpec)

/-- 'laws.FnExactJudgeHeard', WHERE WHAT IT READS IS OF BULK AT MOST 1048576: true; the input reads as it did. -/
def fnExactJudgeHeardUptoRow : OpenClaim := { program := "ytcmcnofamieegaagreat", sum := "8a87c0200cbc22c61a83bd18cacff4adf44527a30d526b8f0ef1ce7c430c9aa2", func := "loop.example/g00487/laws.FnExactJudgeHeard", spec := "fnExactJudgeHeard", inPlace := ["internal/bytealg.abigen_runtime_cmpstring"], apart := false, narrowed := true }
def FnExactJudgeHeardUptoSaid : Prop := fnExactJudgeHeardUptoRow.holds Tryz.pinned (OpenSpec.upto fnExactJudgeHeardSpec)

/-- 'laws.FnExactJudgeOwn', WHERE WHAT IT READS IS OF BULK AT MOST 1048576: true; the input reads as it did. -/
def fnExactJudgeOwnUptoRow : OpenClaim := { program := "ytcmcnofamieegaagreat", sum := "8a87c0200cbc22c61a83bd18cacff4adf44527a30d526b8f0ef1ce7c430c9aa2", func := "loop.example/g00487/laws.FnExactJudgeOwn", spec := "fnExactJudgeOwn", inPlace := ["internal/bytealg.abigen_runtime_cmpstring"], apart := false, narrowed := true }
def FnExactJudgeOwnUptoSaid : Prop := fnExactJudgeOwnUptoRow.holds Tryz.pinned (OpenSpec.upto fnExactJudgeOwnSpec)

/-- 'laws.FnExactExplained', WHERE WHAT IT READS IS OF BULK AT MOST 1048576: true; the input reads as it did. -/
def fnExactExplainedUptoRow : OpenClaim := { program := "ytcmcnofamieegaagreat", sum := "8a87c0200cbc22c61a83bd18cacff4adf44527a30d526b8f0ef1ce7c430c9aa2", func := "loop.example/g00487/laws.FnExactExplained", spec := "fnExactExplained", inPlace := ["internal/bytealg.abigen_runtime_cmpstring"], apart := false, narrowed := true }
def FnExactExplainedUptoSaid : Prop := fnExactExplainedUptoRow.holds Tryz.pinned (OpenSpec.upto fnExactExplainedSpec)

/-- 'laws.FnExactJudgeGrown', WHERE WHAT IT READS IS OF BULK AT MOST 1048576: true; the input reads as it did. -/
def fnExactJudgeGrownUptoRow : OpenClaim := { program := "ytcmcnofamieegaagreat", sum := "8a87c0200cbc22c61a83bd18cacff4adf44527a30d526b8f0ef1ce7c430c9aa2", func := "loop.example/g00487/laws.FnExactJudgeGrown", spec := "fnExactJudgeGrown", inPlace := ["internal/bytealg.abigen_runtime_cmpstring"], apart := false, narrowed := true }
def FnExactJudgeGrownUptoSaid : Prop := fnExactJudgeGrownUptoRow.holds Tryz.pinned (OpenSpec.upto fnExactJudgeGrownSpec)

/-- 'laws.FnExactJudgeViews', WHERE WHAT IT READS IS OF BULK AT MOST 1048576: true; the input reads as it did. -/
def fnExactJudgeViewsUptoRow : OpenClaim := { program := "ytcmcnofamieegaagreat", sum := "8a87c0200cbc22c61a83bd18cacff4adf44527a30d526b8f0ef1ce7c430c9aa2", func := "loop.example/g00487/laws.FnExactJudgeViews", spec := "fnExactJudgeViews", inPlace := ["internal/bytealg.abigen_runtime_cmpstring"], apart := false, narrowed := true }
def FnExactJudgeViewsUptoSaid : Prop := fnExactJudgeViewsUptoRow.holds Tryz.pinned (OpenSpec.upto fnExactJudgeViewsSpec)

/-- 'laws.FnExactJudgeAll', WHERE WHAT IT READS IS OF BULK AT MOST 1048576: true; the input reads as it did. -/
def fnExactJudgeAllUptoRow : OpenClaim := { program := "ytcmcnofamieegaagreat", sum := "8a87c0200cbc22c61a83bd18cacff4adf44527a30d526b8f0ef1ce7c430c9aa2", func := "loop.example/g00487/laws.FnExactJudgeAll", spec := "fnExactJudgeAll", inPlace := ["internal/bytealg.abigen_runtime_cmpstring"], apart := false, narrowed := true }
def FnExactJudgeAllUptoSaid : Prop := fnExactJudgeAllUptoRow.holds Tryz.pinned (OpenSpec.upto fnExactJudgeAllSpec)

end Rows
end Go.Proofs.YtcmcnofamieegaaGreat
