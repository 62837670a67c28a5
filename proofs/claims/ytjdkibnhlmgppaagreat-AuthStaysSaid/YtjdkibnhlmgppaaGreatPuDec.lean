/- Shows what a range over a text tells of a sign, out of the four bytes that are there. -/
import Derived.Test.YtjdkibnhlmgppaaGreatPmArith
import Derived.Test.YtjdkibnhlmgppaaGreatPmS
namespace Go.Proofs.YtjdkibnhlmgppaaGreat
open Go Go.Pm Go.Pm.Arith
set_option linter.unusedVariables false
set_option linter.unusedSimpArgs false

/-- The byte at a place; below 0: there is none. -/
def bt (s : Bs) (p : Nat) : Int := if p < s.length then ((s.getD p 0).toNat : Int) else -1

theorem bt_range (s : Bs) (p : Nat) : -1 ≤ bt s p ∧ bt s p < 256 := by
  unfold bt
  split
  · have := (s.getD p 0).toNat_lt; omega
  · omega

def tl (x : Int) : Prop := 128 ≤ x ∧ x < 192
instance (x : Int) : Decidable (tl x) := inferInstanceAs (Decidable (_ ∧ _))
def n3 (a b c : Int) : Int := (a - 224) * 4096 + (b - 128) * 64 + c - 128
def n4 (a b c d : Int) : Int := (a - 240) * 262144 + (b - 128) * 4096 + (c - 128) * 64 + d - 128

/-- The sign that four bytes begin. -/
def sgn4 (a b c d : Int) : Int × Int × Bool :=
  if a < 128 then (a, 1, true)
  else if (194 ≤ a ∧ a < 224) ∧ tl b then ((a - 192) * 64 + b - 128, 2, true)
  else if (((224 ≤ a ∧ a < 240) ∧ tl b) ∧ tl c) ∧ 2048 ≤ n3 a b c ∧ (n3 a b c < 55296 ∨ n3 a b c > 57343) then (n3 a b c, 3, true)
  else if ((((240 ≤ a ∧ a < 245) ∧ tl b) ∧ tl c) ∧ tl d) ∧ 65536 ≤ n4 a b c d ∧ n4 a b c d < 1114112 then (n4 a b c d, 4, true)
  else (65533, 1, false)

theorem get_is (s : Bs) (p : Nat) (h : p < s.length) : ((tx s).get! p).toNat = (s.getD p 0).toNat := by
  congr 1
  show s.toArray[p]! = _
  rw [getElem!_pos s.toArray p (by simpa using h), List.getD_eq_getElem?_getD, List.getElem?_eq_getElem h]
  rfl

/-- A byte behind the first one. -/
theorem next_is (s : Bs) (p : Nat) : ∃ n : Nat, ((tx s).get! p).toNat = n ∧ n < 256 ∧ ((p < s.length ∧ bt s p = n) ∨ (¬ p < s.length ∧ bt s p = -1)) := by
  refine ⟨_, rfl, UInt8.toNat_lt _, ?_⟩
  by_cases h : p < s.length
  · left
    refine ⟨h, ?_⟩
    unfold bt
    rw [if_pos h, get_is s p h]
  · right
    refine ⟨h, ?_⟩
    unfold bt
    rw [if_neg h]

theorem valid_is (c : Nat) : Utf8.valid (c : Int) = true ↔ c < 55296 ∨ (57344 ≤ c ∧ c ≤ 1114111) := by
  unfold Utf8.valid
  simp
  omega

/-- The range's reading, out of four bytes, and whether the last three are there and no first ones. -/
def dcd (a b c d : Nat) (tb tc td : Bool) : Nat × Nat :=
  if a < 128 then (a, 1)
  else if (a / 32 == 6 && tb) = true then
    if a % 32 * 64 + b % 64 ≥ 128 then (a % 32 * 64 + b % 64, 2) else (65533, 1)
  else if (a / 16 == 14 && tb && tc) = true then
    if (decide (a % 16 * 4096 + b % 64 * 64 + c % 64 ≥ 2048) && Utf8.valid ((a % 16 * 4096 + b % 64 * 64 + c % 64 : Nat) : Int)) = true then (a % 16 * 4096 + b % 64 * 64 + c % 64, 3) else (65533, 1)
  else if (a / 8 == 30 && tb && tc && td) = true then
    if (decide (a % 8 * 262144 + b % 64 * 4096 + c % 64 * 64 + d % 64 ≥ 65536) && Utf8.valid ((a % 8 * 262144 + b % 64 * 4096 + c % 64 * 64 + d % 64 : Nat) : Int)) = true then (a % 8 * 262144 + b % 64 * 4096 + c % 64 * 64 + d % 64, 4) else (65533, 1)
  else (65533, 1)

theorem dcd_is (a b c d : Nat) (B C D : Int) (a2 : a < 256) (tb : tl B → B = b) (tc : tl C → C = c) (td : tl D → D = d) :
    ((dcd a b c d (decide (tl B)) (decide (tl C)) (decide (tl D))).1 : Int) = (sgn4 a B C D).1 ∧ ((dcd a b c d (decide (tl B)) (decide (tl C)) (decide (tl D))).2 : Int) = (sgn4 a B C D).2.1 := by
  have q6 : (a / 32 == 6) = decide (192 ≤ a ∧ a < 224) := by rw [Bool.eq_iff_iff, beq_iff_eq, decide_eq_true_eq]; omega
  have q14 : (a / 16 == 14) = decide (224 ≤ a ∧ a < 240) := by rw [Bool.eq_iff_iff, beq_iff_eq, decide_eq_true_eq]; omega
  have q30 : (a / 8 == 30) = decide (240 ≤ a ∧ a < 248) := by rw [Bool.eq_iff_iff, beq_iff_eq, decide_eq_true_eq]; omega
  have fin : ∀ {x : Nat × Nat} {y : Int × Int × Bool} {n k : Nat} {n' k' : Int} {t : Bool}, x = (n, k) → y = (n', k', t) → (n : Int) = n' → (k : Int) = k' → (x.1 : Int) = y.1 ∧ (x.2 : Int) = y.2.1 := fun h1 h2 h3 h4 => by rw [h1, h2]; exact ⟨h3, h4⟩
  have bad : ∀ x : Nat × Nat, x = (65533, 1) → ∀ y : Int × Int × Bool, y = (65533, 1, false) → (x.1 : Int) = y.1 ∧ (x.2 : Int) = y.2.1 := fun x h1 y h2 => fin h1 h2 rfl rfl
  by_cases k1 : a < 128
  · exact fin (n' := (a : Int)) (k' := 1) (t := true) (by unfold dcd; rw [if_pos k1]) (by unfold sgn4; rw [if_pos (by omega)]) rfl rfl
  · have k1' : ¬ (a : Int) < 128 := by omega
    by_cases k2 : 192 ≤ a ∧ a < 224
    · have z3 : ¬ (224 ≤ a ∧ a < 240) := by omega
      have z4 : ¬ (240 ≤ a ∧ a < 248) := by omega
      have y3 : ¬ (224 ≤ (a : Int) ∧ (a : Int) < 240) := by omega
      have y4 : ¬ (240 ≤ (a : Int) ∧ (a : Int) < 245) := by omega
      by_cases hb : tl B
      · have eb := tb hb
        have hb' := hb
        unfold tl at hb'
        by_cases g : a % 32 * 64 + b % 64 ≥ 128
        · exact fin (n' := ((a : Int) - 192) * 64 + B - 128) (k' := 2) (t := true) (by unfold dcd; rw [if_neg k1, q6, if_pos (by simp [k2, hb]), if_pos g]) (by unfold sgn4; rw [if_neg k1', if_pos ⟨by omega, hb⟩]) (by omega) rfl
        · exact bad _ (by unfold dcd; rw [if_neg k1, q6, if_pos (by simp [k2, hb]), if_neg g]) _ (by unfold sgn4; rw [if_neg k1', if_neg (by rintro ⟨h, _⟩; omega), if_neg (by rintro ⟨⟨⟨h, _⟩, _⟩, _⟩; exact y3 h), if_neg (by rintro ⟨⟨⟨⟨h, _⟩, _⟩, _⟩, _⟩; exact y4 h)])
      · exact bad _ (by unfold dcd; rw [if_neg k1, if_neg (by simp [hb]), if_neg (by simp [hb]), if_neg (by simp [hb])]) _ (by unfold sgn4; rw [if_neg k1', if_neg (by rintro ⟨_, h⟩; exact hb h), if_neg (by rintro ⟨⟨⟨h, _⟩, _⟩, _⟩; exact y3 h), if_neg (by rintro ⟨⟨⟨⟨h, _⟩, _⟩, _⟩, _⟩; exact y4 h)])
    · have y2 : ¬ ((194 ≤ (a : Int) ∧ (a : Int) < 224) ∧ tl B) := by rintro ⟨h, _⟩; omega
      by_cases k3 : 224 ≤ a ∧ a < 240
      · have z4 : ¬ (240 ≤ a ∧ a < 248) := by omega
        have y4 : ¬ (240 ≤ (a : Int) ∧ (a : Int) < 245) := by omega
        by_cases hb : tl B ∧ tl C
        · have eb := tb hb.1
          have ec := tc hb.2
          have hb' := hb.1
          have hc' := hb.2
          unfold tl at hb' hc'
          have en : n3 (a : Int) B C = ((a % 16 * 4096 + b % 64 * 64 + c % 64 : Nat) : Int) := by unfold n3; omega
          by_cases g : a % 16 * 4096 + b % 64 * 64 + c % 64 ≥ 2048 ∧ Utf8.valid ((a % 16 * 4096 + b % 64 * 64 + c % 64 : Nat) : Int) = true
          · have g2 := (valid_is _).1 g.2
            exact fin (n' := n3 a B C) (k' := 3) (t := true) (by unfold dcd; rw [if_neg k1, q6, q14, if_neg (by simp [k2]), if_pos (by simp [k3, hb]), if_pos (by simp only [Bool.and_eq_true, decide_eq_true_eq]; exact g)]) (by unfold sgn4; rw [if_neg k1', if_neg y2, if_pos ⟨⟨⟨by omega, hb.1⟩, hb.2⟩, by rw [en]; omega⟩]) en.symm rfl
          · exact bad _ (by unfold dcd; rw [if_neg k1, q6, q14, if_neg (by simp [k2]), if_pos (by simp [k3, hb]), if_neg (by simp only [Bool.and_eq_true, decide_eq_true_eq]; exact g)]) _ (by
              unfold sgn4
              rw [if_neg k1', if_neg y2, if_neg (by
                rintro ⟨_, h⟩
                rw [en] at h
                exact g ⟨by omega, (valid_is _).2 (by omega)⟩), if_neg (by rintro ⟨⟨⟨⟨h, _⟩, _⟩, _⟩, _⟩; exact y4 h)])
        · exact bad _ (by unfold dcd; rw [if_neg k1, q6, q14, q30, if_neg (by simp [k2]), if_neg (by simp; intro _ _ h1 h2; exact hb ⟨h1, h2⟩), if_neg (by simp [z4])]) _ (by
            unfold sgn4
            rw [if_neg k1', if_neg y2, if_neg (by rintro ⟨⟨⟨_, h1⟩, h2⟩, _⟩; exact hb ⟨h1, h2⟩), if_neg (by rintro ⟨⟨⟨⟨h, _⟩, _⟩, _⟩, _⟩; exact y4 h)])
      · have y3 : ¬ ((((224 ≤ (a : Int) ∧ (a : Int) < 240) ∧ tl B) ∧ tl C) ∧ 2048 ≤ n3 a B C ∧ (n3 a B C < 55296 ∨ n3 a B C > 57343)) := by rintro ⟨⟨⟨h, _⟩, _⟩, _⟩; omega
        by_cases hb : (240 ≤ a ∧ a < 248) ∧ tl B ∧ tl C ∧ tl D
        · obtain ⟨k4, hb, hc, hd⟩ := hb
          have eb := tb hb
          have ec := tc hc
          have ed := td hd
          have hb' := hb
          have hc' := hc
          have hd' := hd
          unfold tl at hb' hc' hd'
          by_cases g : a % 8 * 262144 + b % 64 * 4096 + c % 64 * 64 + d % 64 ≥ 65536 ∧ Utf8.valid ((a % 8 * 262144 + b % 64 * 4096 + c % 64 * 64 + d % 64 : Nat) : Int) = true
          · have g2 := (valid_is _).1 g.2
            have k5 : a < 245 := by omega
            have en : n4 (a : Int) B C D = ((a % 8 * 262144 + b % 64 * 4096 + c % 64 * 64 + d % 64 : Nat) : Int) := by unfold n4; omega
            exact fin (n' := n4 a B C D) (k' := 4) (t := true) (by unfold dcd; rw [if_neg k1, q6, q14, q30, if_neg (by simp [k2]), if_neg (by simp [k3]), if_pos (by simp [k4, hb, hc, hd]), if_pos (by simp only [Bool.and_eq_true, decide_eq_true_eq]; exact g)]) (by
              unfold sgn4
              rw [if_neg k1', if_neg y2, if_neg y3, if_pos ⟨⟨⟨⟨by omega, hb⟩, hc⟩, hd⟩, by rw [en]; omega⟩]) en.symm rfl
          · exact bad _ (by unfold dcd; rw [if_neg k1, q6, q14, q30, if_neg (by simp [k2]), if_neg (by simp [k3]), if_pos (by simp [k4, hb, hc, hd]), if_neg (by simp only [Bool.and_eq_true, decide_eq_true_eq]; exact g)]) _ (by
              unfold sgn4
              rw [if_neg k1', if_neg y2, if_neg y3, if_neg (by
                rintro ⟨⟨⟨⟨h0, _⟩, _⟩, _⟩, h⟩
                have en : n4 (a : Int) B C D = ((a % 8 * 262144 + b % 64 * 4096 + c % 64 * 64 + d % 64 : Nat) : Int) := by unfold n4; omega
                rw [en] at h
                exact g ⟨by omega, (valid_is _).2 (by omega)⟩)])
        · exact bad _ (by unfold dcd; rw [if_neg k1, q6, q14, q30, if_neg (by simp [k2]), if_neg (by simp [k3]), if_neg (by simp only [Bool.and_eq_true, decide_eq_true_eq]; rintro ⟨⟨⟨h0, h1⟩, h2⟩, h3⟩; exact hb ⟨h0, h1, h2, h3⟩)]) _ (by
            unfold sgn4
            rw [if_neg k1', if_neg y2, if_neg y3, if_neg (by rintro ⟨⟨⟨⟨h0, h1⟩, h2⟩, h3⟩, _⟩; exact hb ⟨by omega, h1, h2, h3⟩)])

/-- What a range tells of the sign at a place. -/
theorem dec_is (s : Bs) (p : Nat) (hp : p < s.length) :
    ((Utf8.decode (tx s) p).1 : Int) = (sgn4 (bt s p) (bt s (p + 1)) (bt s (p + 2)) (bt s (p + 3))).1 ∧ ((Utf8.decode (tx s) p).2 : Int) = (sgn4 (bt s p) (bt s (p + 1)) (bt s (p + 2)) (bt s (p + 3))).2.1 := by
  obtain ⟨a, a1, a2, a3⟩ := next_is s p
  obtain ⟨b, b1, b2, b3⟩ := next_is s (p + 1)
  obtain ⟨c, c1, c2, c3⟩ := next_is s (p + 2)
  obtain ⟨d, d1, d2, d3⟩ := next_is s (p + 3)
  have ea : bt s p = a := a3.elim (fun h => h.2) (fun h => absurd hp h.1)
  have cb : (decide (p + 1 < s.length) && b / 64 == 2) = decide (tl (bt s (p + 1))) := by
    rcases b3 with ⟨h, e⟩ | ⟨h, e⟩
    · rw [e, decide_eq_true h, Bool.true_and, Bool.eq_iff_iff, beq_iff_eq, decide_eq_true_eq]
      show _ ↔ (128 ≤ (b : Int) ∧ (b : Int) < 192)
      omega
    · rw [e, decide_eq_false h]; rfl
  have cc : (decide (p + 2 < s.length) && c / 64 == 2) = decide (tl (bt s (p + 2))) := by
    rcases c3 with ⟨h, e⟩ | ⟨h, e⟩
    · rw [e, decide_eq_true h, Bool.true_and, Bool.eq_iff_iff, beq_iff_eq, decide_eq_true_eq]
      show _ ↔ (128 ≤ (c : Int) ∧ (c : Int) < 192)
      omega
    · rw [e, decide_eq_false h]; rfl
  have cd : (decide (p + 3 < s.length) && d / 64 == 2) = decide (tl (bt s (p + 3))) := by
    rcases d3 with ⟨h, e⟩ | ⟨h, e⟩
    · rw [e, decide_eq_true h, Bool.true_and, Bool.eq_iff_iff, beq_iff_eq, decide_eq_true_eq]
      show _ ↔ (128 ≤ (d : Int) ∧ (d : Int) < 192)
      omega
    · rw [e, decide_eq_false h]; rfl
  have E : Utf8.decode (tx s) p = dcd a b c d (decide (p + 1 < s.length) && b / 64 == 2) (decide (p + 2 < s.length) && c / 64 == 2) (decide (p + 3 < s.length) && d / 64 == 2) := by
    unfold Utf8.decode dcd
    simp only [Nat.add_zero, a1, b1, c1, d1, tx_size]
    rfl
  rw [E, cb, cc, cd, ea]
  exact dcd_is a b c d _ _ _ a2 (fun h => b3.elim (fun q => q.2) (fun q => by rw [q.2] at h; exact absurd h (by decide))) (fun h => c3.elim (fun q => q.2) (fun q => by rw [q.2] at h; exact absurd h (by decide)))
    (fun h => d3.elim (fun q => q.2) (fun q => by rw [q.2] at h; exact absurd h (by decide)))

theorem sgn4_w (a b c d : Int) : 1 ≤ (sgn4 a b c d).2.1 ∧ (sgn4 a b c d).2.1 ≤ 4 := by
  unfold sgn4
  repeat' split
  all_goals (dsimp only; decide)

theorem nextP_is (s : Bs) (p : Nat) (hp : p < s.length) : p + 1 ≤ nextP s p ∧ nextP s p ≤ p + 4 ∧ ((nextP s p : Nat) : Int) = (p : Int) + (sgn4 (bt s p) (bt s (p + 1)) (bt s (p + 2)) (bt s (p + 3))).2.1 := by
  have h := (dec_is s p hp).2
  have w := sgn4_w (bt s p) (bt s (p + 1)) (bt s (p + 2)) (bt s (p + 3))
  unfold nextP
  rw [if_pos hp]
  omega

theorem nextC_is (s : Bs) (p : Nat) (hp : p < s.length) : nextC s p = (sgn4 (bt s p) (bt s (p + 1)) (bt s (p + 2)) (bt s (p + 3))).1 := (dec_is s p hp).1

end Go.Proofs.YtjdkibnhlmgppaaGreat

