/- What the functions of this program answer, part s. -/
import Derived.Test.YtfhgecdbldmekaaGreatChecked
import Derived.Lib.Strings
import Derived.Lib.Slices
import Derived.Lib.Walk
import Derived.Lib.Bytealg
/-
 DERIVED:LAID BY THE SHELF's contract.sh OFF ITS TEMPLATE 'internal/bytealg.CompareString' FOR THE PROGRAM 'Tryz' (the function's number there:361). THE LIBRARY's OWN TEXT IS WALKED:nothing is assumed of it;where it calls a function without a Go body (internal/bytealg),THE MODEL's OWN ENTRY stands in,by its law (Derived/Lib/Bytealg.lean). Behind the contract:ONE FALSE NEIGHBOUR,a contract that says a little too much,REFUTED. (The template:the authors,an AI agent;Sun.)
-/
namespace Go.Proofs

set_option maxHeartbeats 1000000 in
set_option maxRecDepth 100000 in
/-- internal/bytealg.CompareString (what strings.Compare calls): IT RETURNS 'Lib.compareBytes a b'; the world is as it was. -/
theorem Tryz.bytealg_CompareString(a b:ByteArray)(w:World):
  Calls Tryz.prog 361 #[.string a,.string b] w λe w'=>e= .returned (.int .i64 (Lib.compareBytes a.data.toList b.data.toList))/\w'=w:=by
 go_enter Tryz.func361,Tryz.ntmps361
 go_wp2
 rw[run_callFunc_extern Tryz.func362 (by kernel_rfl) (by kernel_rfl) (by kernel_rfl) (e:=Extern.BytealgCompare.compare) (by kernel_rfl),Lib.run_compareString]
 simp only[Result.andThen]
 rw[Oper.upon_value]
 go_wp2
 go_ret
 exact⟨rfl,rfl⟩

#print axioms Tryz.bytealg_CompareString
end Go.Proofs
