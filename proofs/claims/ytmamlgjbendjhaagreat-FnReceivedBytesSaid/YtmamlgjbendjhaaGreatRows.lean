/-
  No cell of these rows narrows 'for every input' (looked for: loops, veiled, ifaces, maps, wideKeys, modest, calm, conditions, laid).
  DERIVED. THE GIVEN ROWS OF THIS SEAT. 12 by the template 'for every input the law returns true; each argument reads behind the call as it read before'; 0 by the template 'total and deterministic' (their statements: YtmamlgjbendjhaaGreatTotals.lean).
  GIVEN WITH THE SEED: the statements are not yours to turn. If you find one false, say at which input.
  Laid BY PROGRAM, IN A SANDBOX (cutbox-rows.mjs): the forced cells as the released guide's own fill.sh prints them over the translation 675a3654868c84ef… (all of the seat's roots in one cut). By AI agents, Wed Nov 11 2026. No macro, syntax, notation, axiom, sorry.
-/
import Derived.Test.YtmamlgjbendjhaaGreatChecked
import GoSem.Claim
import GoSem.ClaimJoined
import GoSem.ClaimMapViews
import Derived.JoinedTies
import Derived.KernelRfl
namespace Go.Proofs.YtmamlgjbendjhaaGreat
/- THE CELL 'sum', in the pinned program and in every row, IS THE sha256 OF THE DUMP (.gsa) THAT YtmamlgjbendjhaaGreatProg.lean LOADS. Nothing in Lean hashes anything: it is a label: what it is worth is what the hold of that sum in a sandbox is worth. -/
noncomputable def Tryz.pinned : Pinned := { name := "ytmamlgjbendjhaagreat", sum := "675a3654868c84efe158f1b4c68d40f8cb2ca3c803ce5f12a3030246e4b35476", checked := Tryz.checked }
namespace Rows
def none {H : Type} : Left H := { results := [], args := [] }

/-- 'laws.FnExpired': WHATEVER THE INPUT: true; the input reads as it did. -/
def fnExpiredSpec : ChangeSpec := { name := "fnExpired", fn := fun _ => fun
  | [d] => { results := [.lit (.bool true)], args := [d] }
  | _ => none }
def fnExpiredRow : OpenClaim := { program := "ytmamlgjbendjhaagreat", sum := "675a3654868c84efe158f1b4c68d40f8cb2ca3c803ce5f12a3030246e4b35476", func := "loop.example/g00487/laws.FnExpired", spec := "fnExpired", inPlace := ["internal/bytealg.abigen_runtime_cmpstring"], apart := false }
def FnExpiredSaid : Prop := fnExpiredRow.holds Tryz.pinned (OpenSpec.ofChange fnExpiredSpec)

/-- ITS FALSE NEIGHBOUR: 'it returns false'. Refute it at one input. -/
def fnExpiredWrong : ChangeSpec := { name := "fnExpired", fn := fun _ => fun
  | [d] => { results := [.lit (.bool false)], args := [d] }
  | _ => none }
def FnExpiredWrongFalsely : Prop := fnExpiredRow.holds Tryz.pinned (OpenSpec.ofChange fnExpiredWrong)

/-- 'laws.FnBusy': WHATEVER THE INPUT: true; the input reads as it did. -/
def fnBusySpec : ChangeSpec := { name := "fnBusy", fn := fun _ => fun
  | [d] => { results := [.lit (.bool true)], args := [d] }
  | _ => none }
def fnBusyRow : OpenClaim := { program := "ytmamlgjbendjhaagreat", sum := "675a3654868c84efe158f1b4c68d40f8cb2ca3c803ce5f12a3030246e4b35476", func := "loop.example/g00487/laws.FnBusy", spec := "fnBusy", inPlace := ["internal/bytealg.abigen_runtime_cmpstring"], apart := false }
def FnBusySaid : Prop := fnBusyRow.holds Tryz.pinned (OpenSpec.ofChange fnBusySpec)

/-- ITS FALSE NEIGHBOUR: 'it returns false'. Refute it at one input. -/
def fnBusyWrong : ChangeSpec := { name := "fnBusy", fn := fun _ => fun
  | [d] => { results := [.lit (.bool false)], args := [d] }
  | _ => none }
def FnBusyWrongFalsely : Prop := fnBusyRow.holds Tryz.pinned (OpenSpec.ofChange fnBusyWrong)

/-- 'laws.FnTwiceOnce': WHATEVER THE INPUT: true; the input reads as it did. -/
def fnTwiceOnceSpec : ChangeSpec := { name := "fnTwiceOnce", fn := fun _ => fun
  | [d] => { results := [.lit (.bool true)], args := [d] }
  | _ => none }
def fnTwiceOnceRow : OpenClaim := { program := "ytmamlgjbendjhaagreat", sum := "675a3654868c84efe158f1b4c68d40f8cb2ca3c803ce5f12a3030246e4b35476", func := "loop.example/g00487/laws.FnTwiceOnce", spec := "fnTwiceOnce", inPlace := ["internal/bytealg.abigen_runtime_cmpstring"], apart := false }
def FnTwiceOnceSaid : Prop := fnTwiceOnceRow.holds Tryz.pinned (OpenSpec.ofChange fnTwiceOnceSpec)

/-- ITS FALSE NEIGHBOUR: 'it returns false'. Refute it at one input. -/
def fnTwiceOnceWrong : ChangeSpec := { name := "fnTwiceOnce", fn := fun _ => fun
  | [d] => { results := [.lit (.bool false)], args := [d] }
  | _ => none }
def FnTwiceOnceWrongFalsely : Prop := fnTwiceOnceRow.holds Tryz.pinned (OpenSpec.ofChange fnTwiceOnceWrong)

/-- 'laws.FnReceived': WHATEVER THE INPUT: true; the input reads as it did. -/
def fnReceivedSpec : ChangeSpec := { name := "fnReceived", fn := fun _ => fun
  | [d] => { results := [.lit (.bool true)], args := [d] }
  | _ => none }
def fnReceivedRow : OpenClaim := { program := "ytmamlgjbendjhaagreat", sum := "675a3654868c84efe158f1b4c68d40f8cb2ca3c803ce5f12a3030246e4b35476", func := "loop.example/g00487/laws.FnReceived", spec := "fnReceived", inPlace := ["internal/bytealg.abigen_runtime_cmpstring"], apart := false }
def FnReceivedSaid : Prop := fnReceivedRow.holds Tryz.pinned (OpenSpec.ofChange fnReceivedSpec)

/-- ITS FALSE NEIGHBOUR: 'it returns false'. Refute it at one input. -/
def fnReceivedWrong : ChangeSpec := { name := "fnReceived", fn := fun _ => fun
  | [d] => { results := [.lit (.bool false)], args := [d] }
  | _ => none }
def FnReceivedWrongFalsely : Prop := fnReceivedRow.holds Tryz.pinned (OpenSpec.ofChange fnReceivedWrong)

/-- 'laws.FnReceivedBytes': WHATEVER THE INPUT: true; the input reads as it did. -/
def fnReceivedBytesSpec : ChangeSpec := { name := "fnReceivedBytes", fn := fun _ => fun
  | [d] => { results := [.lit (.bool true)], args := [d] }
  | _ => none }
def fnReceivedBytesRow : OpenClaim := { program := "ytmamlgjbendjhaagreat", sum := "675a3654868c84efe158f1b4c68d40f8cb2ca3c803ce5f12a3030246e4b35476", func := "loop.example/g00487/laws.FnReceivedBytes", spec := "fnReceivedBytes", inPlace := ["internal/bytealg.abigen_runtime_cmpstring"], apart := false }
def FnReceivedBytesSaid : Prop := fnReceivedBytesRow.holds Tryz.pinned (OpenSpec.ofChange fnReceivedBytesSpec)

/-- ITS FALSE NEIGHBOUR: 'it returns false'. Refute it at one input. -/
def fnReceivedBytesWrong : ChangeSpec := { name := "fnReceivedBytes", fn := fun _ => fun
  | [d] => { results := [.lit (.bool false)], args := [d] }
  | _ => none }
def FnReceivedBytesWrongFalsely : Prop := fnReceivedBytesRow.holds Tryz.pinned (OpenSpec.ofChange fnReceivedBytesWrong)

/-- 'laws.FnExactCutNet': WHATEVER THE INPUT: true; the input reads as it did. -/
def fnExactCutNetSpec : ChangeSpec := { name := "fnExactCutNet", fn := fun _ => fun
  | [d1, d2] => { results := [.lit (.bool true)], args := [d1, d2] }
  | _ => none }
def fnExactCutNetRow : OpenClaim := { program := "ytmamlgjbendjhaagreat", sum := "675a3654868c84efe158f1b4c68d40f8cb2ca3c803ce5f12a3030246e4b35476", func := "loop.example/g00487/laws.FnExactCutNet", spec := "fnExactCutNet", apart := false }
def FnExactCutNetSaid : Prop := fnExactCutNetRow.holds Tryz.pinned (OpenSpec.ofChange fnExactCutNetSpec)

/-- ITS FALSE NEIGHBOUR: 'it returns false'. Refute it at one input. -/
def fnExactCutNetWrong : ChangeSpec := { name := "fnExactCutNet", fn := fun _ => fun
  | [d1, d2] => { results := [.lit (.bool false)], args := [d1, d2] }
  | _ => none }
def FnExactCutNetWrongFalsely : Prop := fnExactCutNetRow.holds Tryz.pinned (OpenSpec.ofChange fnExactCutNetWrong)

/-- 'laws.FnExactReceive': WHATEVER THE INPUT: true; the input reads as it did. -/
def fnExactReceiveSpec : ChangeSpec := { name := "fnExactReceive", fn := fun _ => fun
  | [d1, d2] => { results := [.lit (.bool true)], args := [d1, d2] }
  | _ => none }
def fnExactReceiveRow : OpenClaim := { program := "ytmamlgjbendjhaagreat", sum := "675a3654868c84efe158f1b4c68d40f8cb2ca3c803ce5f12a3030246e4b35476", func := "loop.example/g00487/laws.FnExactReceive", spec := "fnExactReceive", inPlace := ["internal/bytealg.abigen_runtime_cmpstring"], apart := false }
def FnExactReceiveSaid : Prop := fnExactReceiveRow.holds Tryz.pinned (OpenSpec.ofChange fnExactReceiveSpec)

/-- ITS FALSE NEIGHBOUR: 'it returns false'. Refute it at one input. -/
def fnExactReceiveWrong : ChangeSpec := { name := "fnExactReceive", fn := fun _ => fun
  | [d1, d2] => { results := [.lit (.bool false)], args := [d1, d2] }
  | _ => none }
def FnExactReceiveWrongFalsely : Prop := fnExactReceiveRow.holds Tryz.pinned (OpenSpec.ofChange fnExactReceiveWrong)

/-- 'laws.FnExactReceiveBytes': WHATEVER THE INPUT: true; the input reads as it did. -/
def fnExactReceiveBytesSpec : ChangeSpec := { name := "fnExactReceiveBytes", fn := fun _ => fun
  | [d1, d2] => { results := [.lit (.bool true)], args := [d1, d2] }
  | _ => none }
def fnExactReceiveBytesRow : OpenClaim := { program := "ytmamlgjbendjhaagreat", sum := "675a3654868c84efe158f1b4c68d40f8cb2ca3c803ce5f12a3030246e4b35476", func := "loop.example/g00487/laws.FnExactReceiveBytes", spec := "fnExactReceiveBytes", inPlace := ["internal/bytealg.abigen_runtime_cmpstring"], apart := false }
def FnExactReceiveBytesSaid : Prop := fnExactReceiveBytesRow.holds Tryz.pinned (OpenSpec.ofChange fnExactReceiveBytesSpec)

/-- ITS FALSE NEIGHBOUR: 'it returns false'. Refute it at one input. -/
def fnExactReceiveBytesWrong : ChangeSpec := { name := "fnExactReceiveBytes", fn := fun _ => fun
  | [d1, d2] => { results := [.lit (.bool false)], args := [d1, d2] }
  | _ => none }
def FnExactReceiveBytesWrongFalsely : Prop := fnExactReceiveBytesRow.holds Tryz.pinned (OpenSpec.ofChange fnExactReceiveBytesWrong)

/-- 'laws.FnExactExchange': WHATEVER THE INPUT: true; the input reads as it did. -/
def fnExactExchangeSpec : ChangeSpec := { name := "fnExactExchange", fn := fun _ => fun
  | [d1, d2, d3] => { results := [.lit (.bool true)], args := [d1, d2, d3] }
  | _ => none }
def fnExactExchangeRow : OpenClaim := { program := "ytmamlgjbendjhaagreat", sum := "675a3654868c84efe158f1b4c68d40f8cb2ca3c803ce5f12a3030246e4b35476", func := "loop.example/g00487/laws.FnExactExchange", spec := "fnExactExchange", inPlace := ["internal/bytealg.abigen_runtime_cmpstring"], apart := false }
def FnExactExchangeSaid : Prop := fnExactExchangeRow.holds Tryz.pinned (OpenSpec.ofChange fnExactExchangeSpec)

/-- ITS FALSE NEIGHBOUR: 'it returns false'. Refute it at one input. -/
def fnExactExchangeWrong : ChangeSpec := { name := "fnExactExchange", fn := fun _ => fun
  | [d1, d2, d3] => { results := [.lit (.bool false)], args := [d1, d2, d3] }
  | _ => none }
def FnExactExchangeWrongFalsely : Prop := fnExactExchangeRow.holds Tryz.pinned (OpenSpec.ofChange fnExactExchangeWrong)

/-- 'laws.FnExactRound': WHATEVER THE INPUT: true; the input reads as it did. -/
def fnExactRoundSpec : ChangeSpec := { name := "fnExactRound", fn := fun _ => fun
  | [d] => { results := [.lit (.bool true)], args := [d] }
  | _ => none }
def fnExactRoundRow : OpenClaim := { program := "ytmamlgjbendjhaagreat", sum := "675a3654868c84efe158f1b4c68d40f8cb2ca3c803ce5f12a3030246e4b35476", func := "loop.example/g00487/laws.FnExactRound", spec := "fnExactRound", inPlace := ["internal/bytealg.abigen_runtime_cmpstring"], unfollowed := true, recurses := true, apart := false }
def FnExactRoundSaid : Prop := fnExactRoundRow.holds Tryz.pinned (OpenSpec.ofChange fnExactRoundSpec)

/-- ITS FALSE NEIGHBOUR: 'it returns false'. Refute it at one input. -/
def fnExactRoundWrong : ChangeSpec := { name := "fnExactRound", fn := fun _ => fun
  | [d] => { results := [.lit (.bool false)], args := [d] }
  | _ => none }
def FnExactRoundWrongFalsely : Prop := fnExactRoundRow.holds Tryz.pinned (OpenSpec.ofChange fnExactRoundWrong)

/-- 'laws.FnExactDo': WHATEVER THE INPUT: true; the input reads as it did. -/
def fnExactDoSpec : ChangeSpec := { name := "fnExactDo", fn := fun _ => fun
  | [d1, d2] => { results := [.lit (.bool true)], args := [d1, d2] }
  | _ => none }
def fnExactDoRow : OpenClaim := { program := "ytmamlgjbendjhaagreat", sum := "675a3654868c84efe158f1b4c68d40f8cb2ca3c803ce5f12a3030246e4b35476", func := "loop.example/g00487/laws.FnExactDo", spec := "fnExactDo", inPlace := ["internal/bytealg.abigen_runtime_cmpstring"], apart := false }
def FnExactDoSaid : Prop := fnExactDoRow.holds Tryz.pinned (OpenSpec.ofChange fnExactDoSpec)

/-- ITS FALSE NEIGHBOUR: 'it returns false'. Refute it at one input. -/
def fnExactDoWrong : ChangeSpec := { name := "fnExactDo", fn := fun _ => fun
  | [d1, d2] => { results := [.lit (.bool false)], args := [d1, d2] }
  | _ => none }
def FnExactDoWrongFalsely : Prop := fnExactDoRow.holds Tryz.pinned (OpenSpec.ofChange fnExactDoWrong)

/-- 'laws.FnExactDoAll': WHATEVER THE INPUT: true; the input reads as it did. -/
def fnExactDoAllSpec : ChangeSpec := { name := "fnExactDoAll", fn := fun _ => fun
  | [d1, d2] => { results := [.lit (.bool true)], args := [d1, d2] }
  | _ => none }
def fnExactDoAllRow : OpenClaim := { program := "ytmamlgjbendjhaagreat", sum := "675a3654868c84efe158f1b4c68d40f8cb2ca3c803ce5f12a3030246e4b35476", func := "loop.example/g00487/laws.FnExactDoAll", spec := "fnExactDoAll", inPlace := ["internal/bytealg.abigen_runtime_cmpstring"], apart := false }
def FnExactDoAllSaid : Prop := fnExactDoAllRow.holds Tryz.pinned (OpenSpec.ofChange fnExactDoAllSpec)

/-- ITS FALSE NEIGHBOUR: 'it returns false'. Refute it at one input. -/
def fnExactDoAllWrong : ChangeSpec := { name := "fnExactDoAll", fn := fun _ => fun
  | [d1, d2] => { results := [.lit (.bool false)], args := [d1, d2] }
  | _ => none }
def FnExactDoAllWrongFalsely : Prop := fnExactDoAllRow.holds Tryz.pinned (OpenSpec.ofChange fnExactDoAllWrong)

/- THE SECOND FORM. 'bulk': how many values and letters a reading holds, each counted each time it is reached (what is shared counts as often as it is met; a slice's spare places count too). A statement '..UptoSaid' is the law's where the arguments, and the package variables that the reading takes, are together of bulk at most 1048576: NARROWER than '..Said'. Prove '..Said' where nothing that the law and all that it calls make is longer than what came in: it says more and counts as full. Else prove '..UptoSaid'. A law counts once. -/
mutual
def uptoBulk {H : Type} : DataW H → Nat
  | .lit (.string bytes) => bytes.length + 1
  | .lit _ => 1
  | .nil => 1
  | .ptr d => uptoBulk d + 1
  | .slice elems spare => uptoBulkAll elems + uptoBulkAll spare + 1
  | .agg parts => uptoBulkAll parts + 1
  | .iface _ d => uptoBulk d + 1
  | .map entries => uptoBulkEntries entries + 1
  | .held _ => 1
def uptoBulkAll {H : Type} : List (DataW H) → Nat
  | [] => 0
  | d :: r => uptoBulk d + uptoBulkAll r
def uptoBulkEntries {H : Type} : List (Lit × DataW H) → Nat
  | [] => 0
  | x :: r => uptoBulkEntry x + uptoBulkEntries r
def uptoBulkEntry {H : Type} : Lit × DataW H → Nat
  | (.string bytes, d) => bytes.length + uptoBulk d + 1
  | (_, d) => uptoBulk d + 1
 end
def uptoSmall : (H : Type) → List (DataW H) → Bool := fun _ ds => decide (uptoBulkAll ds ≤ 1048576)
def OpenSpec.upto (s : _root_.Go.ChangeSpec) : _root_.Go.OpenSpec := { _root_.Go.OpenSpec.ofChange s with cond := some uptoSmall }

/-- 'laws.FnExpired', WHERE WHAT IT READS IS OF BULK AT MOST 1048576: true; the input reads as it did. -/
def fnExpiredUptoRow : OpenClaim := { program := "ytmamlgjbendjhaagreat", sum := "675a3654868c84efe158f1b4c68d40f8cb2ca3c803ce5f12a3030246e4b35476", func := "loop.example/g00487/laws.FnExpired", spec := "fnExpired", inPlace := ["internal/bytealg.abigen_runtime_cmpstring"], apart := false, narrowed := true }
def FnExpiredUptoSaid : Prop := fnExpiredUptoRow.holds Tryz.pinned (OpenSpec.upto fnExpiredSpec)

/-- 'laws.FnBusy', WHERE WHAT IT READS IS OF BULK AT MOST 1048576: true; the input reads as it did. -/
def fnBusyUptoRow : OpenClaim := { program := "ytmamlgjbendjhaagreat", sum := "675a3654868c84efe158f1b4c68d40f8cb2ca3c803ce5f12a3030246e4b35476", func := "loop.example/g00487/laws.FnBusy", spec := "fnBusy", inPlace := ["internal/bytealg.abigen_runtime_cmpstring"], apart := false, narrowed := true }
def FnBusyUptoSaid : Prop := fnBusyUptoRow.holds Tryz.pinned (OpenSpec.upto fnBusySpec)

/-- 'laws.FnTwiceOnce', WHERE WHAT IT READS IS OF BULK AT MOST 1048576: true; the input reads as it did. -/
def fnTwiceOnceUptoRow : OpenClaim := { program := "ytmamlgjbendjhaagreat", sum := "675a3654868c84efe158f1b4c68d40f8cb2ca3c803ce5f12a3030246e4b35476", func := "loop.example/g00487/laws.FnTwiceOnce", spec := "fnTwiceOnce", inPlace := ["internal/bytealg.abigen_runtime_cmpstring"], apart := false, narrowed := true }
def FnTwiceOnceUptoSaid : Prop := fnTwiceOnceUptoRow.holds Tryz.pinned (OpenSpec.upto fnTwiceOnceSpec)

/-- 'laws.FnReceived', WHERE WHAT IT READS IS OF BULK AT MOST 1048576: true; the input reads as it did. -/
def fnReceivedUptoRow : OpenClaim := { program := "ytmamlgjbendjhaagreat", sum := "675a3654868c84efe158f1b4c68d40f8cb2ca3c803ce5f12a3030246e4b35476", func := "loop.example/g00487/laws.FnReceived", spec := "fnReceived", inPlace := ["internal/bytealg.abigen_runtime_cmpstring"], apart := false, narrowed := true }
def FnReceivedUptoSaid : Prop := fnReceivedUptoRow.holds Tryz.pinned (OpenSpec.upto fnReceivedSpec)

/-- 'laws.FnReceivedBytes', WHERE WHAT IT READS IS OF BULK AT MOST 1048576: true; the input reads as it did. -/
def fnReceivedBytesUptoRow : OpenClaim := { program := "ytmamlgjbendjhaagreat", sum := "675a3654868c84efe158f1b4c68d40f8cb2ca3c803ce5f12a3030246e4b35476", func := "loop.example/g00487/laws.FnReceivedBytes", spec := "fnReceivedBytes", inPlace := ["internal/bytealg.abigen_runtime_cmpstring"], apart := false, narrowed := true }
def FnReceivedBytesUptoSaid : Prop := fnReceivedBytesUptoRow.holds Tryz.pinned (OpenSpec.upto fnReceivedBytesSpec)

/-- 'laws.FnExactCutNet', WHERE WHAT IT READS IS OF BULK AT MOST 1048576: true; the input reads as it did. -/
def fnExactCutNetUptoRow : OpenClaim := { program := "ytmamlgjbendjhaagreat", sum := "675a3654868c84efe158f1b4c68d40f8cb2ca3c803ce5f12a3030246e4b35476", func := "loop.example/g00487/laws.FnExactCutNet", spec := "fnExactCutNet", apart := false, narrowed := true }
def FnExactCutNetUptoSaid : Prop := fnExactCutNetUptoRow.holds Tryz.pinned (OpenSpec.upto fnExactCutNetSpec)

/-- 'laws.FnExactReceive', WHERE WHAT IT READS IS OF BULK AT MOST 1048576: true; the input reads as it did. -/
def fnExactReceiveUptoRow : OpenClaim := { program := "ytmamlgjbendjhaagreat", sum := "675a3654868c84efe158f1b4c68d40f8cb2ca3c803ce5f12a3030246e4b35476", func := "loop.example/g00487/laws.FnExactReceive", spec := "fnExactReceive", inPlace := ["internal/bytealg.abigen_runtime_cmpstring"], apart := false, narrowed := true }
def FnExactReceiveUptoSaid : Prop := fnExactReceiveUptoRow.holds Tryz.pinned (OpenSpec.upto fnExactReceiveSpec)

/-- 'laws.FnExactReceiveBytes', WHERE WHAT IT READS IS OF BULK AT MOST 1048576: true; the input reads as it did. -/
def fnExactReceiveBytesUptoRow : OpenClaim := { program := "ytmamlgjbendjhaagreat", sum := "675a3654868c84efe158f1b4c68d40f8cb2ca3c803ce5f12a3030246e4b35476", func := "loop.example/g00487/laws.FnExactReceiveBytes", spec := "fnExactReceiveBytes", inPlace := ["internal/bytealg.abigen_runtime_cmpstring"], apart := false, narrowed := true }
def FnExactReceiveBytesUptoSaid : Prop := fnExactReceiveBytesUptoRow.holds Tryz.pinned (OpenSpec.upto fnExactReceiveBytesSpec)

/-- 'laws.FnExactExchange', WHERE WHAT IT READS IS OF BULK AT MOST 1048576: true; the input reads as it did. -/
def fnExactExchangeUptoRow : OpenClaim := { program := "ytmamlgjbendjhaagreat", sum := "675a3654868c84efe158f1b4c68d40f8cb2ca3c803ce5f12a3030246e4b35476", func := "loop.example/g00487/laws.FnExactExchange", spec := "fnExactExchange", inPlace := ["internal/bytealg.abigen_runtime_cmpstring"], apart := false, narrowed := true }
def FnExactExchangeUptoSaid : Prop := fnExactExchangeUptoRow.holds Tryz.pinned (OpenSpec.upto fnExactExchangeSpec)

/-- 'laws.FnExactRound', WHERE WHAT IT READS IS OF BULK AT MOST 1048576: true; the input reads as it did. -/
def fnExactRoundUptoRow : OpenClaim := { program := "ytmamlgjbendjhaagreat", sum := "675a3654868c84efe158f1b4c68d40f8cb2ca3c803ce5f12a3030246e4b35476", func := "loop.example/g00487/laws.FnExactRound", spec := "fnExactRound", inPlace := ["internal/bytealg.abigen_runtime_cmpstring"], unfollowed := true, recurses := true, apart := false, narrowed := true }
def FnExactRoundUptoSaid : Prop := fnExactRoundUptoRow.holds Tryz.pinned (OpenSpec.upto fnExactRoundSpec)

/-- 'laws.FnExactDo', WHERE WHAT IT READS IS OF BULK AT MOST 1048576: true; the input reads as it did. -/
def fnExactDoUptoRow : OpenClaim := { program := "ytmamlgjbendjhaagreat", sum := "675a3654868c84efe158f1b4c68d40f8cb2ca3c803ce5f12a3030246e4b35476", func := "loop.example/g00487/laws.FnExactDo", spec := "fnExactDo", inPlace := ["internal/bytealg.abigen_runtime_cmpstring"], apart := false, narrowed := true }
def FnExactDoUptoSaid : Prop := fnExactDoUptoRow.holds Tryz.pinned (OpenSpec.upto fnExactDoSpec)

/-- 'laws.FnExactDoAll', WHERE WHAT IT READS IS OF BULK AT MOST 1048576: true; the input reads as it did. -/
def fnExactDoAllUptoRow : OpenClaim := { program := "ytmamlgjbendjhaagreat", sum := "675a3654868c84efe158f1b4c68d40f8cb2ca3c803ce5f12a3030246e4b35476", func := "loop.example/g00487/laws.FnExactDoAll", spec := "fnExactDoAll", inPlace := ["internal/bytealg.abigen_runtime_cmpstring"], apart := false, narrowed := true }
def FnExactDoAllUptoSaid : Prop := fnExactDoAllUptoRow.holds Tryz.pinned (OpenSpec.upto fnExactDoAllSpec)

end Rows
end Go.Proofs.YtmamlgjbendjhaaGreat
