/- Shows that what is wrong with a basket's rules is what the document finds, and that the chapter's example holds. -/
import Derived.Test.YtjdkibnhlmgppaaGreatPuCur
import Derived.Test.YtjdkibnhlmgppaaGreatGx2
import Derived.Test.YtjdkibnhlmgppaaGreatGx0
namespace Go.Proofs.YtjdkibnhlmgppaaGreat
open Go Go.Pm Go.Pm.Arith
set_option linter.unusedVariables false
set_option linter.unusedSimpArgs false

/-- Within bounds. -/
def wb (x a b : Int) : Bool := decide (x ≥ a) && decide (x ≤ b)
theorem in_is (x a b : Int) : lombardref10_in.f x a b = some (wb x a b) := rfl
theorem out_is (x a b : Int) : (decide (x < a) || decide (x > b)) = !wb x a b := by
  unfold wb
  by_cases h : x < a
  · rw [decide_eq_true h, decide_eq_false (by omega : ¬ x ≥ a)]; rfl
  · by_cases h2 : x > b
    · rw [decide_eq_true h2, decide_eq_false (by omega : ¬ x ≤ b)]; simp
    · rw [decide_eq_false h, decide_eq_false h2, decide_eq_true (by omega : x ≥ a), decide_eq_true (by omega : x ≤ b)]; rfl
theorem wb_iff (x a b : Int) : wb x a b = true ↔ a ≤ x ∧ x ≤ b := by unfold wb; simp

theorem cuts_both (x : api_Basket) (few : x.Cuts.length ≤ 64) : ∀ (j i : Nat), x.Cuts.length = i + j → ∃ o, loop (msg_Basket.r0 x) (i : Int) = some o ∧ loop (lombardref10_Basket.r0 x) (i : Int) = some o
  | 0, i, h => ⟨.inr (), loop_end (by unfold msg_Basket.r0 msg_Basket.b0; rw [if_neg (by simp; omega)]), loop_end (by unfold lombardref10_Basket.r0 lombardref10_Basket.b0; rw [if_neg (by simp; omega)])⟩
  | j + 1, i, h => by
    have g : (0 : Int) ≤ (i : Int) ∧ (i : Int) < (x.Cuts.length : Int) := by omega
    generalize hc : nth x.Cuts (i : Int) = c
    have e0 : decide (c.Cut ≥ 1000000) = decide (c.Cut > 999999) := by
      by_cases q : c.Cut ≥ 1000000
      · rw [decide_eq_true q, decide_eq_true (by omega)]
      · rw [decide_eq_false q, decide_eq_false (by omega)]
    have e3 : (decide (c.Cut < 0) || decide (c.Cut ≥ 1000000)) = !wb c.Cut 0 999999 := by rw [e0, out_is]
    have eA : (((((decide (c.Days < 0) || decide (c.Days > 200000)) || decide (c.Rating < 0)) || decide (c.Rating > 20)) || decide (c.Cut < 0)) || decide (c.Cut ≥ 1000000)) = ((!wb c.Days 0 200000) || (!wb c.Rating 0 20) || (!wb c.Cut 0 999999)) := by
      rw [← e3, ← out_is, ← out_is]; simp only [Bool.or_assoc]
    have k1 : msg_Basket.r0 x (i : Int) = if ((!wb c.Days 0 200000) || (!wb c.Rating 0 20) || (!wb c.Cut 0 999999)) = true then some (.inr (.inl 1)) else some (.inl ((i + 1 : Nat) : Int)) := by
      unfold msg_Basket.r0 msg_Basket.b0
      rw [if_pos (decide_eq_true g.2), if_pos g, i64_nx i (by omega)]
      rw [hc, eA]
    have k2 : lombardref10_Basket.r0 x (i : Int) = if ((!wb c.Days 0 200000) || (!wb c.Rating 0 20) || (!wb c.Cut 0 999999)) = true then some (.inr (.inl 1)) else some (.inl ((i + 1 : Nat) : Int)) := by
      unfold lombardref10_Basket.r0 lombardref10_Basket.b0
      rw [hc]
      rw [if_pos (decide_eq_true g.2), if_pos g, in_is, Option.bind_some, if_pos (fun _ => g), in_is, in_is, i64_nx i (by omega)]
      generalize wb c.Days 0 200000 = a
      generalize wb c.Rating 0 20 = b
      generalize wb c.Cut 0 999999 = d
      cases a <;> cases b <;> cases d <;> simp [g]
    by_cases q : ((!wb c.Days 0 200000) || (!wb c.Rating 0 20) || (!wb c.Cut 0 999999)) = true
    · rw [if_pos q] at k1 k2
      exact ⟨_, loop_end k1, loop_end k2⟩
    · rw [if_neg q] at k1 k2
      obtain ⟨o, h1, h2⟩ := cuts_both x few j (i + 1) (by omega)
      exact ⟨o, by rw [loop_next k1, h1], by rw [loop_next k2, h2]⟩

theorem barred_both (x : api_Basket) (few : x.Barred.length ≤ 64) : ∀ (j i : Nat), x.Barred.length = i + j → ∃ o, loop (msg_Basket.r1 x) (i : Int) = some o ∧ loop (lombardref10_Basket.r1 x) (i : Int) = some o
  | 0, i, h => ⟨.inr (), loop_end (by unfold msg_Basket.r1 msg_Basket.b1; rw [if_neg (by simp; omega)]), loop_end (by unfold lombardref10_Basket.r1 lombardref10_Basket.b1; rw [if_neg (by simp; omega)])⟩
  | j + 1, i, h => by
    have g : (0 : Int) ≤ (i : Int) ∧ (i : Int) < (x.Barred.length : Int) := by omega
    have gp : decide ((i : Int) > 0) = true → (0 : Int) ≤ IntKind.wrap .i64 ((i : Int) - 1) ∧ IntKind.wrap .i64 ((i : Int) - 1) < (x.Barred.length : Int) := fun h => by
      have := of_decide_eq_true h
      rw [i64_idz _ (by omega) (by omega)]; omega
    have k1 : msg_Basket.r1 x (i : Int) = if ((!wb (nth x.Barred (i : Int)) 0 9999) || (decide ((i : Int) > 0) && decide (nth x.Barred (i : Int) ≤ nth x.Barred (IntKind.wrap .i64 ((i : Int) - 1))))) = true then some (.inr (.inl 1)) else some (.inl ((i + 1 : Nat) : Int)) := by
      unfold msg_Basket.r1 msg_Basket.b1
      rw [if_pos (decide_eq_true g.2), if_pos g, if_pos (fun h => gp h.2), i64_nx i (by omega), out_is]
    have k2 : lombardref10_Basket.r1 x (i : Int) = if ((!wb (nth x.Barred (i : Int)) 0 9999) || (decide ((i : Int) > 0) && decide (nth x.Barred (i : Int) ≤ nth x.Barred (IntKind.wrap .i64 ((i : Int) - 1))))) = true then some (.inr (.inl 1)) else some (.inl ((i + 1 : Nat) : Int)) := by
      unfold lombardref10_Basket.r1 lombardref10_Basket.b1
      rw [if_pos (decide_eq_true g.2), if_pos g, in_is, Option.bind_some, if_pos (fun _ => g), if_pos (fun h => gp h.2), i64_nx i (by omega)]
    by_cases c : ((!wb (nth x.Barred (i : Int)) 0 9999) || (decide ((i : Int) > 0) && decide (nth x.Barred (i : Int) ≤ nth x.Barred (IntKind.wrap .i64 ((i : Int) - 1))))) = true
    · rw [if_pos c] at k1 k2
      exact ⟨_, loop_end k1, loop_end k2⟩
    · rw [if_neg c] at k1 k2
      obtain ⟨o, h1, h2⟩ := barred_both x few j (i + 1) (by omega)
      exact ⟨o, by rw [loop_next k1, h1], by rw [loop_next k2, h2]⟩

/-- What is wrong with a basket's rules: both say the same. -/
theorem basket_both (x : api_Basket) : ∃ v : Int, msg_Basket.f x = some v ∧ lombardref10_Basket.f x = some v := by
  unfold msg_Basket.f lombardref10_Basket.f
  have p1 : ∀ n : Int, msg_Basket_1.f n = some (wb n 0 1000000) := fun n => rfl
  have p2 : lombardref10_Amount.f x.Version = some (wb x.Version 1 1125899906842624) := rfl
  have e1 : (((((decide (x.ID < 1) || decide (x.ID > 64)) || decide (x.Version < 1)) || decide (x.Version > 1125899906842624)) || decide (x.Rating < 0)) || decide (x.Rating > 20)) = ((!wb x.ID 1 64) || (!wb x.Version 1 1125899906842624) || (!wb x.Rating 0 20)) := by
    rw [← out_is, ← out_is, ← out_is]; simp only [Bool.or_assoc]
  have e2 : (((x.Cuts.length : Int) == 0) || decide ((x.Cuts.length : Int) > 64)) = !wb (x.Cuts.length : Int) 1 64 := by
    rw [← out_is]; congr 1
    by_cases q : x.Cuts.length = 0
    · rw [decide_eq_true (by omega)]; simp [q]
    · rw [decide_eq_false (by omega)]; simp; intro h; rw [h] at q; exact q rfl
  rw [e1]
  simp only [p1, p2, in_is, Option.bind_some]
  obtain ⟨c1, c2⟩ := cur_is x.Currency
  rw [c1, c2]
  have f1 : x.Cuts.length ≤ 64 → ∃ o, loop (msg_Basket.r0 x) 0 = some o ∧ loop (lombardref10_Basket.r0 x) 0 = some o := fun f => cuts_both x f x.Cuts.length 0 (by omega)
  have f2 : x.Barred.length ≤ 64 → ∃ o, loop (msg_Basket.r1 x) 0 = some o ∧ loop (lombardref10_Basket.r1 x) 0 = some o := fun f => barred_both x f x.Barred.length 0 (by omega)
  have g1 : wb (x.Cuts.length : Int) 1 64 = true → x.Cuts.length ≤ 64 := fun h => by have := (wb_iff _ _ _).1 h; omega
  have g2 : ¬ decide ((x.Barred.length : Int) > 64) = true → x.Barred.length ≤ 64 := fun h => by rw [decide_eq_true_eq] at h; omega
  have e3 : (decide (x.Most < x.Least) || decide (x.Most > 200000)) = !wb x.Most x.Least 200000 := out_is _ _ _
  have e4 : ((decide (x.Least < 0) || decide (x.Most < x.Least)) || decide (x.Most > 200000)) = (decide (x.Least < 0) || !wb x.Most x.Least 200000) := by rw [Bool.or_assoc, e3]
  rw [e4]
  generalize wb x.ID 1 64 = b1
  generalize wb x.Version 1 1125899906842624 = b2
  generalize wb x.Rating 0 20 = b3
  generalize wb x.Issuer 0 1000000 = b4
  generalize wb x.Asset 0 1000000 = b5
  have e5 : ∀ b4' b5' : Bool, ((((!b4') || (!b5')) || ((x.Cuts.length : Int) == 0)) || decide ((x.Cuts.length : Int) > 64)) = ((!b4') || (!b5') || !wb (x.Cuts.length : Int) 1 64) := fun a b => by
    rw [Bool.or_assoc (_ || _) _ _, e2]
  cases b1
  · exact ⟨1, by simp, by simp⟩
  cases b2
  · exact ⟨1, by simp, by simp⟩
  cases b3
  · exact ⟨1, by simp, by simp⟩
  cases b4
  · exact ⟨1, by simp, by simp⟩
  cases b5
  · exact ⟨1, by simp, by simp⟩
  simp only [Bool.not_true, Bool.or_false, Bool.false_or, Bool.false_eq_true, if_false, if_true, Option.bind_some, Bool.or_assoc]
  rw [← Bool.or_assoc ((x.Cuts.length : Int) == 0), e2]
  generalize hb6 : wb (x.Cuts.length : Int) 1 64 = b6
  rw [hb6] at g1
  cases b6
  · exact ⟨1, by simp, by simp⟩
  have f1 := f1 (g1 rfl)
  obtain ⟨o1, h1, h2⟩ := f1
  by_cases c7 : decide ((x.Barred.length : Int) > 64) = true
  · exact ⟨1, by simp [c7], by simp [c7]⟩
  obtain ⟨o2, h3, h4⟩ := f2 (g2 c7)
  have c7' := Bool.eq_false_iff.2 c7
  rw [h1, h2, h3, h4, c7']
  cases hL : decide (x.Least < 0)
  · cases hM : wb x.Most x.Least 200000
    · exact ⟨10, by simp, by simp⟩
    · cases hC : codes.contains x.Currency
      · exact ⟨11, by simp, by simp⟩
      · cases o1 with
        | inl r => exact ⟨r, by simp, by simp⟩
        | inr u =>
          cases o2 with
          | inl r => exact ⟨r, by simp, by simp⟩
          | inr u => exact ⟨0, by simp, by simp⟩
  · exact ⟨10, by simp, by simp⟩

end Go.Proofs.YtjdkibnhlmgppaaGreat

