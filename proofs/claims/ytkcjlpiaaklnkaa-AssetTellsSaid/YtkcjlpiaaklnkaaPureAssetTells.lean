/- The plain statement of AssetTells. -/
import Derived.Test.YtkcjlpiaaklnkaaPuFill13
namespace Go.Proofs.Ytkcjlpiaaklnkaa
open Go Go.Pm Go.Pm.Arith
set_option linter.unusedVariables false
set_option linter.unusedSimpArgs false

theorem Pure.AssetTells : ∀ (x0 : List lombardlaw13_Act) (x1 : Bs), (x0.length * 88 ≤ reach ∧ ∀ y ∈ x0, lombardlaw13_Act.bd y) → (x1.length ≤ reach) → lombardlaw13_AssetTells.f x0 x1 = some true := by
  intro acts d _ _
  obtain ⟨l, h, e⟩ := filled_is acts
  have few := h.few
  unfold lombardlaw13_AssetTells.f
  rw [e, Option.bind_some]
  simp only
  rw [if_neg (by decide)]
  unfold asset_Book_Get.f asset_Book_Price.f
  rcases found l d h.rise (by omega) with ⟨k, k1, k2, k3, k4⟩ | ⟨k1, ⟨i, i1, i2, i3, i4⟩, k3⟩
  · have hl : (0 : Int) ≤ (k : Int) ∧ (k : Int) < ((bookOf l).l.length : Int) := by show _ ∧ (k : Int) < ((l.map _).length : Int); rw [List.length_map]; omega
    have hp : (0 : Int) ≤ (k : Int) ∧ (k : Int) < ((bookOf l).prices.length : Int) := by show _ ∧ (k : Int) < ((l.map _).length : Int); rw [List.length_map]; omega
    have hk : (0 : Int) ≤ (k : Int) ∧ (k : Int) < (l.length : Int) := by omega
    have nl : nth (bookOf l).l (k : Int) = (l.getD k default).A := nth_as l k
    have np : nth (bookOf l).prices (k : Int) = (l.getD k default).Price := nth_pr l k
    have mem : l.getD k default ∈ l := by rw [List.getD_eq_getElem?_getD, List.getElem?_eq_getElem k1]; exact List.getElem_mem _
    have pr := h.price _ mem
    rw [k4, k3]
    simp only [Option.bind_some]
    rw [if_neg (by decide), if_pos hl, if_pos (fun _ => hp), np, nl]
    simp only [nth_kn]
    clear np nl mem
    obtain ⟨x, hx⟩ : ∃ x, l.getD k default = x := ⟨_, rfl⟩
    simp only [hx] at pr ⊢
    by_cases c : x.Price = 0
    · rw [if_pos (by simp [c]), Option.bind_some, Option.bind_some, if_neg (by simp), if_pos (fun _ => hk), if_pos (fun _ => hk), if_pos (fun _ => hk), if_pos (by simp [c]), awake_is]
      simp [c]
    · have c2 : x.Price > 0 := by omega
      rw [if_neg (by simp only [Bool.not_true, Bool.false_or, beq_iff_eq]; exact c), if_pos hp, Option.bind_some, Option.bind_some, if_neg (by simp), if_pos (fun _ => hk), if_pos (fun _ => hk), if_pos (fun _ => hk), if_pos (by simp; omega), awake_is]
      simp; omega
  · rw [k3, i4]
    simp only [Option.bind_some]
    rw [if_pos (by rfl), if_pos (fun h => by cases h), if_pos (by rfl), Option.bind_some, Option.bind_some, if_pos (by decide), if_pos (by rfl), awake_is]
    rfl

end Go.Proofs.Ytkcjlpiaaklnkaa

