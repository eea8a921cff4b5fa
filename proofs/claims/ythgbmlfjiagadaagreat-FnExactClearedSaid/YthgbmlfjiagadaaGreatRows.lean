/-
  No cell of these rows narrows 'for every input' (looked for: loops, veiled, ifaces, maps, wideKeys, modest, calm, conditions, laid).
  DERIVED. THE GIVEN ROWS OF THIS SEAT. 5 by the template 'for every input the law returns true; each argument reads behind the call as it read before'; 0 by the template 'total and deterministic' (their statements: YthgbmlfjiagadaaGreatTotals.lean).
  GIVEN WITH THE SEED: the statements are not yours to turn. If you find one false, say at which input.
  Laid BY PROGRAM, IN A SANDBOX (cutbox-rows.mjs): the forced cells as the released guide's own fill.sh prints them over the translation 9baa7cc09f699be6… (all of the seat's roots in one cut). By AI agents, Wed Nov 11 2026. No macro, syntax, notation, axiom, sorry.
-/
import Derived.Test.YthgbmlfjiagadaaGreatChecked
import GoSem.Claim
import GoSem.ClaimJoined
import GoSem.ClaimMapViews
import Derived.JoinedTies
import Derived.KernelRfl
namespace Go.Proofs.YthgbmlfjiagadaaGreat
/- THE CELL 'sum', in the pinned program and in every row, IS THE sha256 OF THE DUMP (.gsa) THAT YthgbmlfjiagadaaGreatProg.lean LOADS. Nothing in Lean hashes anything: it is a label: what it is worth is what the hold of that sum in a sandbox is worth. -/
noncomputable def Tryz.pinned : Pinned := { name := "ythgbmlfjiagadaagreat", sum := "9baa7cc09f699be625b0db07b8a2d4b90fb64e0eb882a00e5fc2cd751c67f459", checked := Tryz.checked }
namespace Rows
def none {H : Type} : Left H := { results := [], args := [] }

/-- 'laws.FnRounds': WHATEVER THE INPUT: true; the input reads as it did. -/
def fnRoundsSpec : ChangeSpec := { name := "fnRounds", fn := fun _ => fun
  | [d] => { results := [.lit (.bool true)], args := [d] }
  | _ => none }
def fnRoundsRow : OpenClaim := { program := "ythgbmlfjiagadaagreat", sum := "9baa7cc09f699be625b0db07b8a2d4b90fb64e0eb882a00e5fc2cd751c67f459", func := "loop.example/g00487/laws.FnRounds", spec := "fnRounds", inPlace := ["internal/bytealg.abigen_runtime_cmpstring"], unfollowed := true, recurses := true, apart := false }
def FnRoundsSaid : Prop := fnRoundsRow.holds Tryz.pinned (OpenSpec.ofChange fnRoundsSpec)

/-- ITS FALSE NEIGHBOUR: 'it returns false'. Refute it at one input. -/
def fnRoundsWrong : ChangeSpec := { name := "fnRounds", fn := fun _ => fun
  | [d] => { results := [.lit (.bool false)], args := [d] }
  | _ => none }
def FnRoundsWrongFalsely : Prop := fnRoundsRow.holds Tryz.pinned (OpenSpec.ofChange fnRoundsWrong)

/-- 'laws.FnExactWorldOk': WHATEVER THE INPUT: true; the input reads as it did. -/
def fnExactWorldOkSpec : ChangeSpec := { name := "fnExactWorldOk", fn := fun _ => fun
  | [d] => { results := [.lit (.bool true)], args := [d] }
  | _ => none }
def fnExactWorldOkRow : OpenClaim := { program := "ythgbmlfjiagadaagreat", sum := "9baa7cc09f699be625b0db07b8a2d4b90fb64e0eb882a00e5fc2cd751c67f459", func := "loop.example/g00487/laws.FnExactWorldOk", spec := "fnExactWorldOk", apart := false }
def FnExactWorldOkSaid : Prop := fnExactWorldOkRow.holds Tryz.pinned (OpenSpec.ofChange fnExactWorldOkSpec)

/-- ITS FALSE NEIGHBOUR: 'it returns false'. Refute it at one input. -/
def fnExactWorldOkWrong : ChangeSpec := { name := "fnExactWorldOk", fn := fun _ => fun
  | [d] => { results := [.lit (.bool false)], args := [d] }
  | _ => none }
def FnExactWorldOkWrongFalsely : Prop := fnExactWorldOkRow.holds Tryz.pinned (OpenSpec.ofChange fnExactWorldOkWrong)

/-- 'laws.FnExactSideOk': WHATEVER THE INPUT: true; the input reads as it did. -/
def fnExactSideOkSpec : ChangeSpec := { name := "fnExactSideOk", fn := fun _ => fun
  | [d1, d2] => { results := [.lit (.bool true)], args := [d1, d2] }
  | _ => none }
def fnExactSideOkRow : OpenClaim := { program := "ythgbmlfjiagadaagreat", sum := "9baa7cc09f699be625b0db07b8a2d4b90fb64e0eb882a00e5fc2cd751c67f459", func := "loop.example/g00487/laws.FnExactSideOk", spec := "fnExactSideOk", apart := false }
def FnExactSideOkSaid : Prop := fnExactSideOkRow.holds Tryz.pinned (OpenSpec.ofChange fnExactSideOkSpec)

/-- ITS FALSE NEIGHBOUR: 'it returns false'. Refute it at one input. -/
def fnExactSideOkWrong : ChangeSpec := { name := "fnExactSideOk", fn := fun _ => fun
  | [d1, d2] => { results := [.lit (.bool false)], args := [d1, d2] }
  | _ => none }
def FnExactSideOkWrongFalsely : Prop := fnExactSideOkRow.holds Tryz.pinned (OpenSpec.ofChange fnExactSideOkWrong)

/-- 'laws.FnExactCleared': WHATEVER THE INPUT: true; the input reads as it did. -/
def fnExactClearedSpec : ChangeSpec := { name := "fnExactCleared", fn := fun _ => fun
  | [d] => { results := [.lit (.bool true)], args := [d] }
  | _ => none }
def fnExactClearedRow : OpenClaim := { program := "ythgbmlfjiagadaagreat", sum := "9baa7cc09f699be625b0db07b8a2d4b90fb64e0eb882a00e5fc2cd751c67f459", func := "loop.example/g00487/laws.FnExactCleared", spec := "fnExactCleared", apart := false }
def FnExactClearedSaid : Prop := fnExactClearedRow.holds Tryz.pinned (OpenSpec.ofChange fnExactClearedSpec)

/-- ITS FALSE NEIGHBOUR: 'it returns false'. Refute it at one input. -/
def fnExactClearedWrong : ChangeSpec := { name := "fnExactCleared", fn := fun _ => fun
  | [d] => { results := [.lit (.bool false)], args := [d] }
  | _ => none }
def FnExactClearedWrongFalsely : Prop := fnExactClearedRow.holds Tryz.pinned (OpenSpec.ofChange fnExactClearedWrong)

/-- 'laws.FnExactSameHere': WHATEVER THE INPUT: true; the input reads as it did. -/
def fnExactSameHereSpec : ChangeSpec := { name := "fnExactSameHere", fn := fun _ => fun
  | [d1, d2] => { results := [.lit (.bool true)], args := [d1, d2] }
  | _ => none }
def fnExactSameHereRow : OpenClaim := { program := "ythgbmlfjiagadaagreat", sum := "9baa7cc09f699be625b0db07b8a2d4b90fb64e0eb882a00e5fc2cd751c67f459", func := "loop.example/g00487/laws.FnExactSameHere", spec := "fnExactSameHere", apart := false }
def FnExactSameHereSaid : Prop := fnExactSameHereRow.holds Tryz.pinned (OpenSpec.ofChange fnExactSameHereSpec)

/-- ITS FALSE NEIGHBOUR: 'it returns false'. Refute it at one input. -/
def fnExactSameHereWrong : ChangeSpec := { name := "fnExactSameHere", fn := fun _ => fun
  | [d1, d2] => { results := [.lit (.bool false)], args := [d1, d2] }
  | _ => none }
def FnExactSameHereWrongFalsely : Prop := fnExactSameHereRow.holds Tryz.pinned (OpenSpec.ofChange fnExactSameHereWrong)

/- THE SECOND FORM. 'bulk': how many values and letters a reading holds, each counted each time it is reached (what is shared counts as often as it is met; a slice's spare places count too). A statement '..UptoSaid' is the law's where the arguments, and the package variables that the reading takes, are together of bulk at most 1048576: NARROWER than '..Said'. Prove '..Said' where nothing that the law and all that it calls make is longer than what came in: it says more and counts as full. Else prove '..UptoSaid'. A law counts once. -/
mutual
def uptoBulk {H : Type} : DataW H → Nat
  | .lit (.string bytes) => bytes.length + 1
  | .lit _ => 1
  | .nil => 1
  | .ptr d => uptoBulk d + 1
  | .slice elems spare => uptoBulkAll elems + uptoBulkAll spare + 1
  | .agg parts => uptoBulkAll parts + 1
  | .iface _ d => uptoBulk d + 1
  | .map entries => uptoBulkEntries entries + 1
  | .held _ => 1
def uptoBulkAll {H : Type} : List (DataW H) → Nat
  | [] => 0
  | d :: r => uptoBulk d + uptoBulkAll r
def uptoBulkEntries {H : Type} : List (Lit × DataW H) → Nat
  | [] => 0
  | x :: r => uptoBulkEntry x + uptoBulkEntries r
def uptoBulkEntry {H : Type} : Lit × DataW H → Nat
  | (.string bytes, d) => bytes.length + uptoBulk d + 1
  | (_, d) => uptoBulk d + 1
 end
def uptoSmall : (H : Type) → List (DataW H) → Bool := fun _ ds => decide (uptoBulkAll ds ≤ 1048576)
def OpenSpec.upto (s : _root_.Go.ChangeSpec) : _root_.Go.OpenSpec := { _root_.Go.OpenSpec.ofChange s with cond := some uptoSmall }

/-- 'laws.FnRounds', WHERE WHAT IT READS IS OF BULK AT MOST 1048576: true; the input reads as it did. -/
def fnRoundsUptoRow : OpenClaim := { program := "ythgbmlfjiagadaagreat", sum := "9baa7cc09f699be625b0db07b8a2d4b90fb64e0eb882a00e5fc2cd751c67f459", func := "loop.example/g00487/laws.FnRounds", spec := "fnRounds", inPlace := ["internal/bytealg.abigen_runtime_cmpstring"], unfollowed := true, recurses := true, apart := false, narrowed := true }
def FnRoundsUptoSaid : Prop := fnRoundsUptoRow.holds Tryz.pinned (OpenSpec.upto fnRoundsSpec)

/-- 'laws.FnExactWorldOk', WHERE WHAT IT READS IS OF BULK AT MOST 1048576: true; the input reads as it did. -/
def fnExactWorldOkUptoRow : OpenClaim := { program := "ythgbmlfjiagadaagreat", sum := "9baa7cc09f699be625b0db07b8a2d4b90fb64e0eb882a00e5fc2cd751c67f459", func := "loop.example/g00487/laws.FnExactWorldOk", spec := "fnExactWorldOk", apart := false, narrowed := true }
def FnExactWorldOkUptoSaid : Prop := fnExactWorldOkUptoRow.holds Tryz.pinned (OpenSpec.upto fnExactWorldOkSpec)

/-- 'laws.FnExactSideOk', WHERE WHAT IT READS IS OF BULK AT MOST 1048576: true; the input reads as it did. -/
def fnExactSideOkUptoRow : OpenClaim := { program := "ythgbmlfjiagadaagreat", sum := "9baa7cc09f699be625b0db07b8a2d4b90fb64e0eb882a00e5fc2cd751c67f459", func := "loop.example/g00487/laws.FnExactSideOk", spec := "fnExactSideOk", apart := false, narrowed := true }
def FnExactSideOkUptoSaid : Prop := fnExactSideOkUptoRow.holds Tryz.pinned (OpenSpec.upto fnExactSideOkSpec)

/-- 'laws.FnExactCleared', WHERE WHAT IT READS IS OF BULK AT MOST 1048576: true; the input reads as it did. -/
def fnExactClearedUptoRow : OpenClaim := { program := "ythgbmlfjiagadaagreat", sum := "9baa7cc09f699be625b0db07b8a2d4b90fb64e0eb882a00e5fc2cd751c67f459", func := "loop.example/g00487/laws.FnExactCleared", spec := "fnExactCleared", apart := false, narrowed := true }
def FnExactClearedUptoSaid : Prop := fnExactClearedUptoRow.holds Tryz.pinned (OpenSpec.upto fnExactClearedSpec)

/-- 'laws.FnExactSameHere', WHERE WHAT IT READS IS OF BULK AT MOST 1048576: true; the input reads as it did. -/
def fnExactSameHereUptoRow : OpenClaim := { program := "ythgbmlfjiagadaagreat", sum := "9baa7cc09f699be625b0db07b8a2d4b90fb64e0eb882a00e5fc2cd751c67f459", func := "loop.example/g00487/laws.FnExactSameHere", spec := "fnExactSameHere", apart := false, narrowed := true }
def FnExactSameHereUptoSaid : Prop := fnExactSameHereUptoRow.holds Tryz.pinned (OpenSpec.upto fnExactSameHereSpec)

end Rows
end Go.Proofs.YthgbmlfjiagadaaGreat
