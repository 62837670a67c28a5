/- Shows that a store into one cell leaves every other cell there. -/
import Derived.Laws.Entries
import Derived.Laws.World
namespace Go.Pm.CellAt
open Go

theorem isSome_setCell (w : World) (b a : Addr) (v : Value) : ((w.setCell b v).cell? a).isSome = (w.cell? a).isSome := by
  by_cases h : b = a
  · subst h
    cases hc : w.cell? b with
    | some u => rw [World.cell?_setCell_same w b v hc]; rfl
    | none =>
      simp only [World.setCell, World.cell?, Array.getElem?_modify, ↓reduceIte] at hc ⊢
      cases ho : w.heap[b.block]? with
      | none => rfl
      | some o =>
        rw [ho] at hc
        cases o <;> first | rfl | skip
        rename_i c e f
        simp only [Option.map_some] at hc ⊢
        cases hs : b.spot.isSome with
        | true => simp
        | false =>
          simp only [hs, Bool.false_eq_true, ↓reduceIte] at hc ⊢
          have : c.size ≤ b.off := Array.getElem?_eq_none_iff.mp (by simpa using hc)
          simp [Nat.not_lt.mpr this]
  · rw [World.cell?_setCell_other (h := h)]

end Go.Pm.CellAt
