/- What the functions of this program answer, part b. -/
import Derived.Test.YthgekoledembcaaXa
import Derived.Test.YthgekoledembcaaW2
set_option linter.unusedVariables false
namespace Go.Abs.Nz
open Go Go.Abs
theorem floor_loop {c : Nat → Unit → (Int → Option Out) → Int → Option Out} (fs : List FloorT) (id : Int)
    (h : ∀ i, i < fs.length → ∀ fuel a rec, c fuel a rec (i : Int) = bif (gt fs i).1 == id then oI (gt fs i).2.1 else rec ((i + 1 : Nat) : Int))
    (hn : ∀ fuel a rec, c fuel a rec (fs.length : Int) = oI 0) : It c (0 : Int) (fun _ => oI (floorOf fs id)) := by
  have := It.first (c := c) (fun i => (i : Int)) fs.length (fun i => (gt fs i).1 == id) (fun i _ => oI (gt fs i).2.1) (fun _ => oI 0)
    (fun i hi hp fuel a rec => by rw [h i hi]; rw [hp]; rfl) (fun i hi hp => It.stop fun fuel a rec => by rw [h i hi]; rw [hp]; rfl) (It.stop hn)
  unfold floorOf
  revert this
  cases (List.range fs.length).find? (fun i => (gt fs i).1 == id) <;> exact fun h => h
end Go.Abs.Nz
