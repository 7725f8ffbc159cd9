/- The abstract layer, 30: contracts of Go's library, from the kit's shelf. -/
import Derived.Test.YtkmadcdphnhciaaGreatDoorAbs6
import Derived.Shelf.Strconv.Itoa3
set_option linter.unusedVariables false
set_option linter.unusedSimpArgs false
noncomputable section
namespace Go.Abs
open Go Go.Sort

theorem grow_at {w : World} {os : Array Obj} {g : Nat} (h : g < w.heap.size) : (grow w os).heap[g]? = w.heap[g]? := by
  simp [grow, Array.getElem?_append, h]
theorem Frame.grow (w : World) (os : Array Obj) (O : Cells) : Frame w (grow w os) O := by
  refine ⟨by simp [Go.Sort.grow], fun g n hb => ?_, fun g off hg _ => ?_, fun g hg => ?_, fun g hg _ => grow_at hg, fun g hg _ => grow_at hg, rfl, rfl, rfl⟩
  · obtain ⟨c, e, fz, h, k⟩ := hb
    exact ⟨c, e, fz, (grow_at (Array.getElem?_eq_some_iff.1 h).1).trans h, k⟩
  · simp only [World.cell?, grow_at hg]
  · simp only [World.shape?, grow_at hg]
theorem Tabs.is {P : Program} {w : World} {O : Cells} (h : Tabs P w O) {nm : String} {cs : Array Value} (hm : (nm, cs) ∈ tabL) {g : Nat} (hg : P.globalNamed nm = some g) : w.var? P nm = some cs := by
  obtain ⟨⟨e, fz, h1⟩, _⟩ := h _ hm g hg
  simp [World.var?, hg, h1]

end Go.Abs
