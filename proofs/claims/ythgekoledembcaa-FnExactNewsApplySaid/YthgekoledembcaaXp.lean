/- What the functions of this program answer, part p. -/
import Derived.Test.YthgekoledembcaaXz
import Derived.Test.YthgekoledembcaaW2
import Derived.KernelRfl
set_option linter.unusedVariables false
namespace Go.Abs.Nz
open Go Go.Abs Go.Proofs
set_option maxRecDepth 100000 in
def rts : Nat → Option (List Nat) := fun g => look? g [(3, [4]), (6, [3]), (7, [3]), (8, [26]), (9, [26]), (10, [29]), (11, [26]), (12, [4]), (13, [4]), (14, [3]), (15, [3]), (16, [3]), (29, [3]), (30, [3]), (31, [68]), (32, [48]), (33, [4]), (34, [4]), (35, [9]), (55, [3]), (56, [46]), (57, [4])]
def ownL : List Nat := [14, 15]
def pinL : List Nat := [3, 14, 15]
def E1 (call : Cl) (n : Nat) (h : Hints) : Env := { ti := ti, n := n, call := call, fresh := fun _ => true, owns := fun g => memN g ownL, h := h }
def h3 : Hints := ⟨true, [], [], true, false⟩
def h6 : Hints := ⟨true, [], [(5, ⟨[0, 1, 5], [], []⟩)], false, false⟩
def h7 : Hints := ⟨true, [], [(5, ⟨[0, 1, 5], [], []⟩)], false, false⟩
def h8 : Hints := ⟨true, [], [(9, ⟨[1, 5, 6, 7, 8, 9, 10], [224, 60048, 60144], [(none, 8, 60144, 68)]⟩), (3, ⟨[1, 5, 6], [60048], [(none, 5, 60048, 68)]⟩)], false, false⟩
def h9 : Hints := ⟨true, [], [(3, ⟨[0, 3, 4], [224], []⟩)], false, false⟩
def h10 : Hints := ⟨true, [], [(3, ⟨[0, 3, 4], [224], []⟩)], false, false⟩
def h11 : Hints := ⟨true, [], [(12, ⟨[7, 9, 15, 16, 17, 55, 56, 57], [224, 60192], [(none, 9, 60192, 68)]⟩), (6, ⟨[5, 7, 8, 15, 16, 17], [224, 60048], []⟩), (3, ⟨[5, 15, 16, 17], [60048], [(none, 5, 60048, 68)]⟩)], false, false⟩
def h12 : Hints := ⟨true, [], [(4, ⟨[0, 1, 5], [], []⟩)], false, false⟩
def h13 : Hints := ⟨true, [], [(4, ⟨[0, 1, 5], [], []⟩)], false, false⟩
def h14 : Hints := ⟨true, [], [(2, ⟨[0, 1, 5], [100000], []⟩)], true, true⟩
def h15 : Hints := ⟨true, [], [(2, ⟨[0, 1, 5], [100000], []⟩)], true, true⟩
def h16 : Hints := ⟨true, [], [(2, ⟨[0, 1, 5], [], []⟩)], false, false⟩
def h29 : Hints := ⟨true, [], [], false, false⟩
def h30 : Hints := ⟨true, [], [], false, false⟩
def h31 : Hints := ⟨true, [], [], false, false⟩
def h32 : Hints := ⟨true, [], [], false, false⟩
def h33 : Hints := ⟨true, [], [], false, false⟩
def h34 : Hints := ⟨true, [], [], false, false⟩
def h35 : Hints := ⟨true, [], [(4, ⟨[0, 3], [], []⟩)], false, false⟩
def h55 : Hints := ⟨true, [], [], false, false⟩
def h56 : Hints := ⟨true, [], [], false, false⟩
def h57 : Hints := ⟨true, [], [], false, false⟩
set_option maxRecDepth 100000 in
noncomputable def fnTab : List (Nat × Func) := [(3, Try.f3), (6, Try.f6), (7, Try.f7), (8, Try.f8), (9, Try.f9), (10, Try.f10), (11, Try.f11), (12, Try.f12), (13, Try.f13), (14, Try.f14), (15, Try.f15), (16, Try.f16), (29, Try.f29), (30, Try.f30), (31, Try.f31), (32, Try.f32), (33, Try.f33), (34, Try.f34), (35, Try.f35), (55, Try.f55), (56, Try.f56), (57, Try.f57)]
set_option maxRecDepth 100000 in
noncomputable def htab : List (Nat × List (Nat × Norm)) := [(3, h3.loops), (6, h6.loops), (7, h7.loops), (8, h8.loops), (9, h9.loops), (10, h10.loops), (11, h11.loops), (12, h12.loops), (13, h13.loops), (14, h14.loops), (15, h15.loops), (16, h16.loops), (29, h29.loops), (30, h30.loops), (31, h31.loops), (32, h32.loops), (33, h33.loops), (34, h34.loops), (35, h35.loops), (55, h55.loops), (56, h56.loops), (57, h57.loops)]
def ownTab : List (Nat × (List Abs.Arg → Option Out)) := []
noncomputable def p : Prg := { ti := ti, fn := fun g => look? g fnTab, hint := fun g => ⟨true, [], (look? g htab).getD [], memN g pinL, memN g ownL⟩, own := fun g => look? g ownTab }
set_option maxRecDepth 100000 in
theorem rts_eq : p.rts = rts := by
  funext g
  unfold Prg.rts rts p
  rw [look_map]; rfl
theorem ran_of {g : Nat} {fn : Func} {nt : Nat} {h : Hints} {lvl : Nat} {xs : List Abs.Arg} {out : Out} (ho : p.own g = none) (hf : p.fn g = some fn) (hn : fn.ntmps = nt) (hh : p.hint g = h)
    (H : ∀ n, lvl ≤ n → Ev (fun fuel => frun (E1 (arun p n) nt h) rts fuel fn xs) out) : Ran p (lvl + 1) g xs out := by
  subst hn; subst hh
  refine Ran.of ho hf fun n hl => ?_
  rw [rts_eq]
  exact (H n hl).get
set_option maxRecDepth 100000 in
theorem fnTab_ok : ∀ q ∈ fnTab, FnOk Try.prog q.1 q.2 := all_of (⟨⟨Try.func3, by kernel_rfl, by kernel_rfl⟩, ⟨⟨Try.func6, by kernel_rfl, by kernel_rfl⟩, ⟨⟨Try.func7, by kernel_rfl, by kernel_rfl⟩, ⟨⟨Try.func8, by kernel_rfl, by kernel_rfl⟩, ⟨⟨Try.func9, by kernel_rfl, by kernel_rfl⟩, ⟨⟨Try.func10, by kernel_rfl, by kernel_rfl⟩, ⟨⟨Try.func11, by kernel_rfl, by kernel_rfl⟩, ⟨⟨Try.func12, by kernel_rfl, by kernel_rfl⟩, ⟨⟨Try.func13, by kernel_rfl, by kernel_rfl⟩, ⟨⟨Try.func14, by kernel_rfl, by kernel_rfl⟩, ⟨⟨Try.func15, by kernel_rfl, by kernel_rfl⟩, ⟨⟨Try.func16, by kernel_rfl, by kernel_rfl⟩, ⟨⟨Try.func29, by kernel_rfl, by kernel_rfl⟩, ⟨⟨Try.func30, by kernel_rfl, by kernel_rfl⟩, ⟨⟨Try.func31, by kernel_rfl, by kernel_rfl⟩, ⟨⟨Try.func32, by kernel_rfl, by kernel_rfl⟩, ⟨⟨Try.func33, by kernel_rfl, by kernel_rfl⟩, ⟨⟨Try.func34, by kernel_rfl, by kernel_rfl⟩, ⟨⟨Try.func35, by kernel_rfl, by kernel_rfl⟩, ⟨⟨Try.func55, by kernel_rfl, by kernel_rfl⟩, ⟨⟨Try.func56, by kernel_rfl, by kernel_rfl⟩, ⟨⟨Try.func57, by kernel_rfl, by kernel_rfl⟩, trivial⟩⟩⟩⟩⟩⟩⟩⟩⟩⟩⟩⟩⟩⟩⟩⟩⟩⟩⟩⟩⟩⟩)
theorem prg_ok : PrgOk Try.prog p where
  ti := tabB_ok (by kernel_rfl)
  depth := Nat.le_of_ble_eq_true (by kernel_rfl)
  mixed := by kernel_rfl
  fn := fun g fn h => (fnTab_ok _ (look_mem fnTab h)).out
  own := fun g F h => by cases h
theorem k_ok : KOk p.ti := kindsB_ok (by kernel_rfl)
end Go.Abs.Nz
