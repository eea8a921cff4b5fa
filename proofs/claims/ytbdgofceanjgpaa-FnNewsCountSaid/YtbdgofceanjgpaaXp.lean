/- What the functions of this program answer, part p. -/
import Derived.Test.YtbdgofceanjgpaaXz
import Derived.Test.YtbdgofceanjgpaaW2
import Derived.KernelRfl
set_option linter.unusedVariables false
namespace Go.Abs.Pz
open Go Go.Abs Go.Proofs
set_option maxRecDepth 100000 in
def rts : Nat → Option (List Nat) := fun g => look? g [(3, [4]), (4, [4]), (5, [27, 27]), (6, [30]), (7, [30]), (8, [4]), (9, [24, 30]), (10, [24]), (11, [24]), (12, [24]), (13, [27, 27]), (14, [4]), (15, [34, 4]), (16, [3]), (17, [34, 4]), (18, [3]), (19, [4]), (20, [4]), (21, [3]), (22, [4]), (23, [52]), (24, [4]), (25, [3]), (26, [34]), (27, [24]), (28, [27]), (29, [27]), (30, [27]), (31, [4]), (32, [4]), (33, [4]), (34, [3]), (35, [34, 4]), (36, [34, 4]), (37, [3]), (38, [34]), (39, [3]), (40, [27]), (41, [3]), (42, [3]), (43, [9]), (44, [27, 4]), (45, [3]), (46, [3])]
def ownL : List Nat := []
def pinL : List Nat := []
def unfL : List Nat := []
def E1 (call : Cl) (n : Nat) (h : Hints) : Env := { ti := ti, n := n, call := call, fresh := fun g => !memN g unfL, owns := fun g => memN g ownL, h := h }
def E2 (call : Cl) (n b : Nat) (h : Hints) : Env := { ti := ti, n := n, call := call, fresh := fun g => !memN g unfL, owns := fun g => memN g ownL, h := h, base := b }
def h3 : Hints := ⟨true, [], [(11, ⟨[0, 3, 4, 5, 6, 7], [96, 128, 448, 449, 450, 451, 608], []⟩)], false, false, [], [], []⟩
def h4 : Hints := ⟨true, [], [], false, false, [], [], []⟩
def h5 : Hints := ⟨true, [], [], false, false, [], [], []⟩
def h6 : Hints := ⟨true, [], [(5, ⟨[2, 3, 5, 6], [64, 96, 60080], [(none, 5, 60080, 36)]⟩)], false, false, [], [], []⟩
def h7 : Hints := ⟨true, [], [(5, ⟨[2, 3, 5, 6], [64, 96, 60080], [(none, 5, 60080, 36)]⟩)], false, false, [], [], []⟩
def h8 : Hints := ⟨true, [], [(8, ⟨[1, 5], [32], []⟩), (2, ⟨[1, 3], [32], []⟩)], false, false, [], [], []⟩
def n9_1 : Norm := ⟨[4, 5, 14], [1000992], []⟩
def h9_1 : Hints := ⟨true, [], [(3, ⟨[0, 3, 4], [128, 160, 320, 321, 322, 323], []⟩)], false, false, [], [], []⟩
def h9 : Hints := ⟨true, [], [], false, false, [(14, 31250, n9_1, h9_1)], [], []⟩
def h10 : Hints := ⟨true, [], [(5, ⟨[3, 12, 13, 14], [60080], [(none, 3, 60080, 45)]⟩)], false, false, [], [], []⟩
def h11 : Hints := ⟨true, [], [(12, ⟨[7, 9, 15, 16, 17, 55, 56, 57], [224, 60192], [(none, 9, 60192, 45)]⟩), (6, ⟨[5, 7, 8, 15, 16, 17], [224, 60048], []⟩), (3, ⟨[5, 15, 16, 17], [60048], [(none, 5, 60048, 45)]⟩)], false, false, [], [], []⟩
def h12 : Hints := ⟨true, [], [(9, ⟨[1, 5, 6, 7, 8, 9, 10], [224, 60048, 60144], [(none, 8, 60144, 45)]⟩), (3, ⟨[1, 5, 6], [60048], [(none, 5, 60048, 45)]⟩)], false, false, [], [], []⟩
def n13_1 : Norm := ⟨[2, 3, 8, 24, 25], [1000992], []⟩
def h13_1 : Hints := ⟨true, [], [(3, ⟨[0, 3, 4], [64, 96], []⟩)], false, false, [], [], []⟩
def h13 : Hints := ⟨true, [], [], false, false, [(8, 31250, n13_1, h13_1)], [], []⟩
def h14 : Hints := ⟨true, [], [(8, ⟨[1, 43, 44, 45], [32], []⟩), (2, ⟨[1, 8, 9, 10], [32], []⟩)], false, false, [], [], []⟩
def h15 : Hints := ⟨true, [], [], false, false, [], [], []⟩
def h16 : Hints := ⟨true, [], [], false, false, [], [], []⟩
def h17 : Hints := ⟨true, [], [], false, false, [], [], []⟩
def h18 : Hints := ⟨true, [], [], false, false, [], [], []⟩
def h19 : Hints := ⟨true, [], [], false, false, [], [], []⟩
def h20 : Hints := ⟨true, [], [], false, false, [], [], []⟩
def h21 : Hints := ⟨true, [], [(2, ⟨[1, 2, 5], [64], []⟩)], false, false, [], [], []⟩
def h22 : Hints := ⟨true, [], [], false, false, [], [], []⟩
def h24 : Hints := ⟨true, [], [], false, false, [], [], []⟩
def h25 : Hints := ⟨true, [], [], false, false, [], [], []⟩
def h26 : Hints := ⟨true, [], [], false, false, [], [], []⟩
def h27 : Hints := ⟨true, [], [(5, ⟨[1, 3, 4], [32, 60080], [(none, 3, 60080, 45)]⟩)], false, false, [], [], []⟩
def h28 : Hints := ⟨true, [], [], false, false, [], [], []⟩
def h29 : Hints := ⟨true, [], [], false, false, [], [], []⟩
def h30 : Hints := ⟨true, [], [(3, ⟨[2, 3, 4, 5, 6], [64, 96, 128, 160, 60048, 60049], [(some 160, 1, 60048, 50), (some 160, 0, 60049, 45)]⟩)], false, false, [], [], []⟩
def h31 : Hints := ⟨true, [], [], false, false, [], [], []⟩
def h32 : Hints := ⟨true, [], [], false, false, [], [], []⟩
def h33 : Hints := ⟨true, [], [], false, false, [], [], []⟩
def h34 : Hints := ⟨true, [], [(2, ⟨[1, 8, 9, 10], [], []⟩)], false, false, [], [], []⟩
def h35 : Hints := ⟨true, [], [(2, ⟨[1, 4, 9, 10, 11], [128], []⟩)], false, false, [], [], []⟩
def h36 : Hints := ⟨true, [], [(2, ⟨[1, 2, 4, 6], [64, 128], []⟩)], false, false, [], [], []⟩
def h37 : Hints := ⟨true, [], [], false, false, [], [], []⟩
def h38 : Hints := ⟨true, [], [], false, false, [], [], []⟩
def h39 : Hints := ⟨true, [], [], false, false, [], [], []⟩
def h40 : Hints := ⟨true, [], [(10, ⟨[0, 2, 3, 8, 9], [64, 96, 60160, 60161, 100000], [(some 96, 0, 60160, 45), (some 96, 1, 60161, 50)]⟩), (4, ⟨[0, 2, 3, 4, 5], [64, 96, 60064, 60065, 100000], [(some 96, 0, 60064, 45), (some 96, 1, 60065, 50)]⟩)], false, false, [], [], []⟩
def h41 : Hints := ⟨true, [], [], false, false, [], [], []⟩
def h42 : Hints := ⟨true, [], [(3, ⟨[2, 3, 5, 6], [64, 96, 864], []⟩)], false, false, [], [], []⟩
def h43 : Hints := ⟨true, [], [], false, false, [], [], []⟩
def h44 : Hints := ⟨true, [], [], false, false, [], [], []⟩
def h45 : Hints := ⟨true, [], [], false, false, [], [], []⟩
def h46 : Hints := ⟨true, [], [], false, false, [], [], []⟩
set_option maxRecDepth 100000 in
noncomputable def fnTab : List (Nat × Func) := [(3, Try.f3), (4, Try.f4), (5, Try.f5), (6, Try.f6), (7, Try.f7), (8, Try.f8), (9, Try.f9), (10, Try.f10), (11, Try.f11), (12, Try.f12), (13, Try.f13), (14, Try.f14), (15, Try.f15), (16, Try.f16), (17, Try.f17), (18, Try.f18), (19, Try.f19), (20, Try.f20), (21, Try.f21), (22, Try.f22), (23, Try.f23), (24, Try.f24), (25, Try.f25), (26, Try.f26), (27, Try.f27), (28, Try.f28), (29, Try.f29), (30, Try.f30), (31, Try.f31), (32, Try.f32), (33, Try.f33), (34, Try.f34), (35, Try.f35), (36, Try.f36), (37, Try.f37), (38, Try.f38), (39, Try.f39), (40, Try.f40), (41, Try.f41), (42, Try.f42), (43, Try.f43), (44, Try.f44), (45, Try.f45), (46, Try.f46)]
set_option maxRecDepth 100000 in
noncomputable def htab : List (Nat × Hints) := [(3, h3), (4, h4), (5, h5), (6, h6), (7, h7), (8, h8), (9, h9), (10, h10), (11, h11), (12, h12), (13, h13), (14, h14), (15, h15), (16, h16), (17, h17), (18, h18), (19, h19), (20, h20), (21, h21), (22, h22), (24, h24), (25, h25), (26, h26), (27, h27), (28, h28), (29, h29), (30, h30), (31, h31), (32, h32), (33, h33), (34, h34), (35, h35), (36, h36), (37, h37), (38, h38), (39, h39), (40, h40), (41, h41), (42, h42), (43, h43), (44, h44), (45, h45), (46, h46)]
def hd0 : Hints := ⟨true, [], [], false, false, [], [], []⟩
def ownTab : List (Nat × (List Abs.Arg → Option Out)) := []
noncomputable def p : Prg := { ti := ti, fn := fun g => look? g fnTab, hint := fun g => ⟨!memN g unfL, ((look? g htab).getD hd0).cut, ((look? g htab).getD hd0).loops, memN g pinL, memN g ownL, ((look? g htab).getD hd0).inl, ((look? g htab).getD hd0).unp, ((look? g htab).getD hd0).adp⟩, own := fun g => look? g ownTab }
set_option maxRecDepth 100000 in
theorem rts_eq : p.rts = rts := by
 funext g
 unfold Prg.rts rts p
 rw [look_map]; rfl
theorem ran_of {g : Nat} {fn : Func} {nt : Nat} {h : Hints} {lvl : Nat} {xs : List Abs.Arg} {out : Out} (ho : p.own g = none) (hf : p.fn g = some fn) (hn : fn.ntmps = nt) (hh : p.hint g = h)
  (H : ∀ n, lvl ≤ n → ∀ JJ : Nat → InlT, Ev (fun fuel => frun (E1 (arun p n) nt h) rts (JJ fuel) fuel fn xs) out) : Ran p (lvl + 1) g xs out := by
 subst hn; subst hh
 refine Ran.of ho hf fun n hl => ?_
 rw [rts_eq]
 exact (H n hl (fun fuel => inlRun p.fn (envOf p (arun p n) fn.ntmps (p.hint g)) rts fuel 3)).get
theorem ran_ofI {g : Nat} {fn : Func} {nt : Nat} {h : Hints} {lvl : Nat} {xs : List Abs.Arg} {out : Out} (ho : p.own g = none) (hf : p.fn g = some fn) (hn : fn.ntmps = nt) (hh : p.hint g = h)
  (H : ∀ n, lvl ≤ n → Ev (fun fuel => frun (E1 (arun p n) nt h) rts (inlRun p.fn (E1 (arun p n) nt h) rts fuel 3) fuel fn xs) out) : Ran p (lvl + 1) g xs out := by
 subst hn; subst hh
 refine Ran.of ho hf fun n hl => ?_
 rw [rts_eq]
 exact (H n hl).get
set_option maxRecDepth 100000 in
theorem fnTab_ok : ∀ q ∈ fnTab, FnOk Try.prog q.1 q.2 := all_of (⟨⟨Try.func3, by kernel_rfl, by kernel_rfl⟩, ⟨⟨Try.func4, by kernel_rfl, by kernel_rfl⟩, ⟨⟨Try.func5, by kernel_rfl, by kernel_rfl⟩, ⟨⟨Try.func6, by kernel_rfl, by kernel_rfl⟩, ⟨⟨Try.func7, by kernel_rfl, by kernel_rfl⟩, ⟨⟨Try.func8, by kernel_rfl, by kernel_rfl⟩, ⟨⟨Try.func9, by kernel_rfl, by kernel_rfl⟩, ⟨⟨Try.func10, by kernel_rfl, by kernel_rfl⟩, ⟨⟨Try.func11, by kernel_rfl, by kernel_rfl⟩, ⟨⟨Try.func12, by kernel_rfl, by kernel_rfl⟩, ⟨⟨Try.func13, by kernel_rfl, by kernel_rfl⟩, ⟨⟨Try.func14, by kernel_rfl, by kernel_rfl⟩, ⟨⟨Try.func15, by kernel_rfl, by kernel_rfl⟩, ⟨⟨Try.func16, by kernel_rfl, by kernel_rfl⟩, ⟨⟨Try.func17, by kernel_rfl, by kernel_rfl⟩, ⟨⟨Try.func18, by kernel_rfl, by kernel_rfl⟩, ⟨⟨Try.func19, by kernel_rfl, by kernel_rfl⟩, ⟨⟨Try.func20, by kernel_rfl, by kernel_rfl⟩, ⟨⟨Try.func21, by kernel_rfl, by kernel_rfl⟩, ⟨⟨Try.func22, by kernel_rfl, by kernel_rfl⟩, ⟨⟨Try.func23, by kernel_rfl, by kernel_rfl⟩, ⟨⟨Try.func24, by kernel_rfl, by kernel_rfl⟩, ⟨⟨Try.func25, by kernel_rfl, by kernel_rfl⟩, ⟨⟨Try.func26, by kernel_rfl, by kernel_rfl⟩, ⟨⟨Try.func27, by kernel_rfl, by kernel_rfl⟩, ⟨⟨Try.func28, by kernel_rfl, by kernel_rfl⟩, ⟨⟨Try.func29, by kernel_rfl, by kernel_rfl⟩, ⟨⟨Try.func30, by kernel_rfl, by kernel_rfl⟩, ⟨⟨Try.func31, by kernel_rfl, by kernel_rfl⟩, ⟨⟨Try.func32, by kernel_rfl, by kernel_rfl⟩, ⟨⟨Try.func33, by kernel_rfl, by kernel_rfl⟩, ⟨⟨Try.func34, by kernel_rfl, by kernel_rfl⟩, ⟨⟨Try.func35, by kernel_rfl, by kernel_rfl⟩, ⟨⟨Try.func36, by kernel_rfl, by kernel_rfl⟩, ⟨⟨Try.func37, by kernel_rfl, by kernel_rfl⟩, ⟨⟨Try.func38, by kernel_rfl, by kernel_rfl⟩, ⟨⟨Try.func39, by kernel_rfl, by kernel_rfl⟩, ⟨⟨Try.func40, by kernel_rfl, by kernel_rfl⟩, ⟨⟨Try.func41, by kernel_rfl, by kernel_rfl⟩, ⟨⟨Try.func42, by kernel_rfl, by kernel_rfl⟩, ⟨⟨Try.func43, by kernel_rfl, by kernel_rfl⟩, ⟨⟨Try.func44, by kernel_rfl, by kernel_rfl⟩, ⟨⟨Try.func45, by kernel_rfl, by kernel_rfl⟩, ⟨⟨Try.func46, by kernel_rfl, by kernel_rfl⟩, trivial⟩⟩⟩⟩⟩⟩⟩⟩⟩⟩⟩⟩⟩⟩⟩⟩⟩⟩⟩⟩⟩⟩⟩⟩⟩⟩⟩⟩⟩⟩⟩⟩⟩⟩⟩⟩⟩⟩⟩⟩⟩⟩⟩⟩)
theorem prg_ok : PrgOk Try.prog p where
 ti := tabB_ok (by kernel_rfl)
 depth := Nat.le_of_ble_eq_true (by kernel_rfl)
 mixed := by kernel_rfl
 fn := fun g fn h => (fnTab_ok _ (look_mem fnTab h)).out
 own := fun g F h => by cases h
theorem k_ok : KOk p.ti := kindsB_ok (by kernel_rfl)
end Go.Abs.Pz
