/- What the functions of this program answer, part p. -/
import Derived.Test.YthgekoledembcaaXz
import Derived.Test.YthgekoledembcaaW2
import Derived.KernelRfl
set_option linter.unusedVariables false
namespace Go.Abs.Nz
open Go Go.Abs Go.Proofs
set_option maxRecDepth 100000 in
def rts : Nat → Option (List Nat) := fun g => look? g [(5, [4]), (6, [3]), (9, [26]), (12, [4]), (13, [4]), (14, [3]), (15, [3]), (19, [29]), (20, [29]), (21, [4]), (23, [26]), (24, [3]), (25, [40]), (26, [4]), (27, [3]), (28, [3]), (29, [3]), (31, [68]), (33, [4]), (34, [4]), (35, [9]), (37, [4]), (38, [46, 4]), (39, [3]), (40, [46, 4]), (41, [3]), (42, [4]), (43, [4]), (44, [3]), (45, [4]), (50, [26]), (51, [3]), (52, [38]), (53, [4]), (54, [3]), (55, [3]), (56, [46]), (57, [4]), (61, [4]), (62, [4]), (63, [4]), (64, [3]), (65, [46, 4]), (66, [46, 4]), (70, [80]), (71, [4])]
def ownL : List Nat := [14, 15, 27, 54]
def pinL : List Nat := [5, 14, 15, 27, 54]
def E1 (call : Cl) (n : Nat) (h : Hints) : Env := { ti := ti, n := n, call := call, fresh := fun _ => true, owns := fun g => memN g ownL, h := h }
def h5 : Hints := ⟨true, [], [], true, false⟩
def h6 : Hints := ⟨true, [], [(5, ⟨[0, 1, 5], [], []⟩)], false, false⟩
def h9 : Hints := ⟨true, [], [(3, ⟨[0, 3, 4], [224], []⟩)], false, false⟩
def h12 : Hints := ⟨true, [], [(4, ⟨[0, 1, 5], [], []⟩)], false, false⟩
def h13 : Hints := ⟨true, [], [(4, ⟨[0, 1, 5], [], []⟩)], false, false⟩
def h14 : Hints := ⟨true, [], [(2, ⟨[0, 1, 5], [100000], []⟩)], true, true⟩
def h15 : Hints := ⟨true, [], [(2, ⟨[0, 1, 5], [100000], []⟩)], true, true⟩
def h19 : Hints := ⟨true, [], [(5, ⟨[2, 3, 5, 6], [64, 96, 60080], [(none, 5, 60080, 48)]⟩)], false, false⟩
def h20 : Hints := ⟨true, [], [(5, ⟨[2, 3, 5, 6], [64, 96, 60080], [(none, 5, 60080, 48)]⟩)], false, false⟩
def h21 : Hints := ⟨true, [], [(8, ⟨[1, 5], [32], []⟩), (2, ⟨[1, 3], [32], []⟩)], false, false⟩
def h23 : Hints := ⟨true, [], [(5, ⟨[3, 12, 13, 14], [60080], [(none, 3, 60080, 68)]⟩)], false, false⟩
def h24 : Hints := ⟨true, [], [], false, false⟩
def h25 : Hints := ⟨true, [], [], false, false⟩
def h26 : Hints := ⟨true, [], [], false, false⟩
def h27 : Hints := ⟨true, [], [], true, true⟩
def h28 : Hints := ⟨true, [], [(2, ⟨[0, 1, 5], [], []⟩)], false, false⟩
def h29 : Hints := ⟨true, [], [], false, false⟩
def h31 : Hints := ⟨true, [], [], false, false⟩
def h33 : Hints := ⟨true, [], [], false, false⟩
def h34 : Hints := ⟨true, [], [], false, false⟩
def h35 : Hints := ⟨true, [], [(4, ⟨[0, 3], [], []⟩)], false, false⟩
def h37 : Hints := ⟨true, [], [(8, ⟨[1, 43, 44, 45], [32], []⟩), (2, ⟨[1, 8, 9, 10], [32], []⟩)], false, false⟩
def h38 : Hints := ⟨true, [], [], false, false⟩
def h39 : Hints := ⟨true, [], [], false, false⟩
def h40 : Hints := ⟨true, [], [], false, false⟩
def h41 : Hints := ⟨true, [], [], false, false⟩
def h42 : Hints := ⟨true, [], [], false, false⟩
def h43 : Hints := ⟨true, [], [], false, false⟩
def h44 : Hints := ⟨true, [], [(2, ⟨[1, 2, 5], [64], []⟩)], false, false⟩
def h45 : Hints := ⟨true, [], [], false, false⟩
def h50 : Hints := ⟨true, [], [(5, ⟨[1, 3, 4], [32, 60080], [(none, 3, 60080, 68)]⟩)], false, false⟩
def h51 : Hints := ⟨true, [], [], false, false⟩
def h52 : Hints := ⟨true, [], [(3, ⟨[0, 3, 4], [224], []⟩)], false, false⟩
def h53 : Hints := ⟨true, [], [(4, ⟨[0, 1, 5], [], []⟩)], false, false⟩
def h54 : Hints := ⟨true, [], [(2, ⟨[0, 1, 5], [100000], []⟩)], true, true⟩
def h55 : Hints := ⟨true, [], [], false, false⟩
def h56 : Hints := ⟨true, [], [], false, false⟩
def h57 : Hints := ⟨true, [], [], false, false⟩
def h61 : Hints := ⟨true, [], [], false, false⟩
def h62 : Hints := ⟨true, [], [], false, false⟩
def h63 : Hints := ⟨true, [], [], false, false⟩
def h64 : Hints := ⟨true, [], [(2, ⟨[1, 8, 9, 10], [], []⟩)], false, false⟩
def h65 : Hints := ⟨true, [], [(2, ⟨[1, 4, 9, 10, 11], [128], []⟩)], false, false⟩
def h66 : Hints := ⟨true, [], [(2, ⟨[1, 2, 4, 6], [64, 128], []⟩)], false, false⟩
def h70 : Hints := ⟨true, [], [], false, false⟩
def h71 : Hints := ⟨true, [], [], false, false⟩
set_option maxRecDepth 100000 in
noncomputable def fnTab : List (Nat × Func) := [(5, Try.f5), (6, Try.f6), (9, Try.f9), (12, Try.f12), (13, Try.f13), (14, Try.f14), (15, Try.f15), (19, Try.f19), (20, Try.f20), (21, Try.f21), (23, Try.f23), (24, Try.f24), (25, Try.f25), (26, Try.f26), (27, Try.f27), (28, Try.f28), (29, Try.f29), (31, Try.f31), (33, Try.f33), (34, Try.f34), (35, Try.f35), (37, Try.f37), (38, Try.f38), (39, Try.f39), (40, Try.f40), (41, Try.f41), (42, Try.f42), (43, Try.f43), (44, Try.f44), (45, Try.f45), (50, Try.f50), (51, Try.f51), (52, Try.f52), (53, Try.f53), (54, Try.f54), (55, Try.f55), (56, Try.f56), (57, Try.f57), (61, Try.f61), (62, Try.f62), (63, Try.f63), (64, Try.f64), (65, Try.f65), (66, Try.f66), (70, Try.f70), (71, Try.f71)]
set_option maxRecDepth 100000 in
noncomputable def htab : List (Nat × List (Nat × Norm)) := [(5, h5.loops), (6, h6.loops), (9, h9.loops), (12, h12.loops), (13, h13.loops), (14, h14.loops), (15, h15.loops), (19, h19.loops), (20, h20.loops), (21, h21.loops), (23, h23.loops), (24, h24.loops), (25, h25.loops), (26, h26.loops), (27, h27.loops), (28, h28.loops), (29, h29.loops), (31, h31.loops), (33, h33.loops), (34, h34.loops), (35, h35.loops), (37, h37.loops), (38, h38.loops), (39, h39.loops), (40, h40.loops), (41, h41.loops), (42, h42.loops), (43, h43.loops), (44, h44.loops), (45, h45.loops), (50, h50.loops), (51, h51.loops), (52, h52.loops), (53, h53.loops), (54, h54.loops), (55, h55.loops), (56, h56.loops), (57, h57.loops), (61, h61.loops), (62, h62.loops), (63, h63.loops), (64, h64.loops), (65, h65.loops), (66, h66.loops), (70, h70.loops), (71, h71.loops)]
def ownTab : List (Nat × (List Abs.Arg → Option Out)) := []
noncomputable def p : Prg := { ti := ti, fn := fun g => look? g fnTab, hint := fun g => ⟨true, [], (look? g htab).getD [], memN g pinL, memN g ownL⟩, own := fun g => look? g ownTab }
set_option maxRecDepth 100000 in
theorem rts_eq : p.rts = rts := by
  funext g
  unfold Prg.rts rts p
  rw [look_map]; rfl
theorem ran_of {g : Nat} {fn : Func} {nt : Nat} {h : Hints} {lvl : Nat} {xs : List Abs.Arg} {out : Out} (ho : p.own g = none) (hf : p.fn g = some fn) (hn : fn.ntmps = nt) (hh : p.hint g = h)
    (H : ∀ n, lvl ≤ n → Ev (fun fuel => frun (E1 (arun p n) nt h) rts fuel fn xs) out) : Ran p (lvl + 1) g xs out := by
  subst hn; subst hh
  refine Ran.of ho hf fun n hl => ?_
  rw [rts_eq]
  exact (H n hl).get
set_option maxRecDepth 100000 in
theorem fnTab_ok : ∀ q ∈ fnTab, FnOk Try.prog q.1 q.2 := all_of (⟨⟨Try.func5, by kernel_rfl, by kernel_rfl⟩, ⟨⟨Try.func6, by kernel_rfl, by kernel_rfl⟩, ⟨⟨Try.func9, by kernel_rfl, by kernel_rfl⟩, ⟨⟨Try.func12, by kernel_rfl, by kernel_rfl⟩, ⟨⟨Try.func13, by kernel_rfl, by kernel_rfl⟩, ⟨⟨Try.func14, by kernel_rfl, by kernel_rfl⟩, ⟨⟨Try.func15, by kernel_rfl, by kernel_rfl⟩, ⟨⟨Try.func19, by kernel_rfl, by kernel_rfl⟩, ⟨⟨Try.func20, by kernel_rfl, by kernel_rfl⟩, ⟨⟨Try.func21, by kernel_rfl, by kernel_rfl⟩, ⟨⟨Try.func23, by kernel_rfl, by kernel_rfl⟩, ⟨⟨Try.func24, by kernel_rfl, by kernel_rfl⟩, ⟨⟨Try.func25, by kernel_rfl, by kernel_rfl⟩, ⟨⟨Try.func26, by kernel_rfl, by kernel_rfl⟩, ⟨⟨Try.func27, by kernel_rfl, by kernel_rfl⟩, ⟨⟨Try.func28, by kernel_rfl, by kernel_rfl⟩, ⟨⟨Try.func29, by kernel_rfl, by kernel_rfl⟩, ⟨⟨Try.func31, by kernel_rfl, by kernel_rfl⟩, ⟨⟨Try.func33, by kernel_rfl, by kernel_rfl⟩, ⟨⟨Try.func34, by kernel_rfl, by kernel_rfl⟩, ⟨⟨Try.func35, by kernel_rfl, by kernel_rfl⟩, ⟨⟨Try.func37, by kernel_rfl, by kernel_rfl⟩, ⟨⟨Try.func38, by kernel_rfl, by kernel_rfl⟩, ⟨⟨Try.func39, by kernel_rfl, by kernel_rfl⟩, ⟨⟨Try.func40, by kernel_rfl, by kernel_rfl⟩, ⟨⟨Try.func41, by kernel_rfl, by kernel_rfl⟩, ⟨⟨Try.func42, by kernel_rfl, by kernel_rfl⟩, ⟨⟨Try.func43, by kernel_rfl, by kernel_rfl⟩, ⟨⟨Try.func44, by kernel_rfl, by kernel_rfl⟩, ⟨⟨Try.func45, by kernel_rfl, by kernel_rfl⟩, ⟨⟨Try.func50, by kernel_rfl, by kernel_rfl⟩, ⟨⟨Try.func51, by kernel_rfl, by kernel_rfl⟩, ⟨⟨Try.func52, by kernel_rfl, by kernel_rfl⟩, ⟨⟨Try.func53, by kernel_rfl, by kernel_rfl⟩, ⟨⟨Try.func54, by kernel_rfl, by kernel_rfl⟩, ⟨⟨Try.func55, by kernel_rfl, by kernel_rfl⟩, ⟨⟨Try.func56, by kernel_rfl, by kernel_rfl⟩, ⟨⟨Try.func57, by kernel_rfl, by kernel_rfl⟩, ⟨⟨Try.func61, by kernel_rfl, by kernel_rfl⟩, ⟨⟨Try.func62, by kernel_rfl, by kernel_rfl⟩, ⟨⟨Try.func63, by kernel_rfl, by kernel_rfl⟩, ⟨⟨Try.func64, by kernel_rfl, by kernel_rfl⟩, ⟨⟨Try.func65, by kernel_rfl, by kernel_rfl⟩, ⟨⟨Try.func66, by kernel_rfl, by kernel_rfl⟩, ⟨⟨Try.func70, by kernel_rfl, by kernel_rfl⟩, ⟨⟨Try.func71, by kernel_rfl, by kernel_rfl⟩, trivial⟩⟩⟩⟩⟩⟩⟩⟩⟩⟩⟩⟩⟩⟩⟩⟩⟩⟩⟩⟩⟩⟩⟩⟩⟩⟩⟩⟩⟩⟩⟩⟩⟩⟩⟩⟩⟩⟩⟩⟩⟩⟩⟩⟩⟩⟩)
theorem prg_ok : PrgOk Try.prog p where
  ti := tabB_ok (by kernel_rfl)
  depth := Nat.le_of_ble_eq_true (by kernel_rfl)
  mixed := by kernel_rfl
  fn := fun g fn h => (fnTab_ok _ (look_mem fnTab h)).out
  own := fun g F h => by cases h
theorem k_ok : KOk p.ti := kindsB_ok (by kernel_rfl)
end Go.Abs.Nz
