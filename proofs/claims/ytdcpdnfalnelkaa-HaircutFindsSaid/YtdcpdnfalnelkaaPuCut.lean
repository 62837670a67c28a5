/- Shows, in plain whole numbers, what a lot covers behind its haircut, the least lot that covers an amount, and the greatest that covers no more, the program's and the document's. -/
import Derived.Test.YtdcpdnfalnelkaaPuRef
namespace Go.Proofs.Ytdcpdnfalnelkaa
open Go Go.Pm Go.Pm.Arith Go.Pm.Big
set_option linter.unusedVariables false
set_option linter.unusedSimpArgs false

theorem in64 {a : Int} (h : inK .i64 a) : -9223372036854775808 ≤ a ∧ a < 9223372036854775808 := by
  obtain ⟨h1, h2⟩ := h; simp [IntKind.min, IntKind.max, IntKind.signed, IntKind.bits] at h1 h2; omega

theorem md_down (a b c : Int) (ha : 0 ≤ a) (hb : 0 ≤ b) (hc : 0 < c) (h1 : a * b / c < 9223372036854775808) : mdOf a b c 1 = (a * b / c, 0) := by
  unfold mdOf
  rw [if_neg (by omega)]
  have em : minusOf a b c = false := by
    unfold minusOf
    rw [decide_eq_false (show ¬ a < 0 by omega), decide_eq_false (show ¬ c < 0 by omega), decide_eq_false (show ¬ b < 0 by omega)]; rfl
  rw [em, show (a.natAbs : Int) = a by omega, show (b.natAbs : Int) = b by omega, show (c.natAbs : Int) = c by omega]
  have q : quotOf (a * b) c false 1 = a * b / c := by
    unfold quotOf roundUp
    by_cases h : a * b % c = 0
    · simp [h]
    · simp [h]
  rw [q]
  unfold signOf
  rw [if_neg (by omega)]
  rfl

/-- A quotient rounded up. -/
def up (p c : Int) : Int := (p + (c - 1)) / c

theorem up_le {p c : Int} (hc : 0 < c) (n : Int) : up p c ≤ n ↔ p ≤ n * c := by
  unfold up
  have h := Int.ediv_lt_iff_lt_mul (a := p + (c - 1)) (b := n + 1) hc
  rw [Int.add_mul, Int.one_mul] at h
  omega

theorem md_up (a b c : Int) (ha : 0 ≤ a) (hb : 0 ≤ b) (hc : 0 < c) : mdOf a b c 2 = if up (a * b) c < 9223372036854775808 then (up (a * b) c, 0) else (0, 9) := by
  unfold mdOf
  rw [if_neg (by omega)]
  have em : minusOf a b c = false := by
    unfold minusOf
    rw [decide_eq_false (show ¬ a < 0 by omega), decide_eq_false (show ¬ c < 0 by omega), decide_eq_false (show ¬ b < 0 by omega)]; rfl
  rw [em, show (a.natAbs : Int) = a by omega, show (b.natAbs : Int) = b by omega, show (c.natAbs : Int) = c by omega]
  have q : quotOf (a * b) c false 2 = up (a * b) c := by
    unfold quotOf roundUp up
    generalize a * b = p
    have d1 := Int.mul_ediv_add_emod p c
    have m0 := Int.emod_nonneg p (show c ≠ 0 by omega)
    have m1 := Int.emod_lt_of_pos p hc
    by_cases h : p % c = 0
    · simp only [h, if_true, Bool.false_eq_true, if_false]
      rw [show p + (c - 1) = (c - 1) + c * (p / c) by omega, Int.add_mul_ediv_left _ _ (by omega), Int.ediv_eq_zero_of_lt (a := c - 1) (by omega) (by omega)]; omega
    · simp only [h, if_false]
      rw [show p + (c - 1) = (p % c - 1) + c * (p / c + 1) by rw [Int.mul_add]; omega, Int.add_mul_ediv_left _ _ (by omega), Int.ediv_eq_zero_of_lt (a := p % c - 1) (by omega) (by omega)]
      simp
  rw [q]
  unfold signOf
  by_cases h : up (a * b) c < 9223372036854775808
  · rw [if_pos h, if_neg (by omega)]; rfl
  · rw [if_neg h, if_pos (by simp; omega)]

theorem mul_to {x y X Y : Int} (hx : 0 ≤ x ∧ x ≤ X) (hy : 0 ≤ y ∧ y ≤ Y) : 0 ≤ x * y ∧ x * y ≤ X * Y :=
  ⟨Int.mul_nonneg hx.1 hy.1, Int.mul_le_mul hx.2 hy.2 hy.1 (by omega)⟩

def goodPC (p c : Int) : Prop := 1 ≤ p ∧ p ≤ 4294967296 ∧ 0 ≤ c ∧ c < 1000000
instance (p c : Int) : Decidable (goodPC p c) := by unfold goodPC; exact inferInstance

theorem goodPC_is (p c : Int) : haircut_good.f p c = some (decide (goodPC p c)) ∧ lombardref15_good.f p c = some (decide (goodPC p c)) := by
  have e : ((((decide (p ≥ 1)) && (decide (p ≤ 4294967296))) && (decide (c ≥ 0))) && (decide (c < 1000000))) = decide (goodPC p c) := by
    by_cases h : goodPC p c
    · rw [decide_eq_true h]
      unfold goodPC at h
      simp [h]
    · rw [decide_eq_false h]
      unfold goodPC at h
      rw [Bool.eq_false_iff]
      simp only [ne_eq, Bool.and_eq_true, decide_eq_true_eq]
      omega
  unfold haircut_good.f lombardref15_good.f
  rw [e]; exact ⟨rfl, rfl⟩

/-- What a lot covers. -/
def cov (q p c : Int) : Int := q * p / 1000000 * (1000000 - c) / 1000000
def coverOf (q p c : Int) : Int × Int := if goodPC p c ∧ 0 ≤ q ∧ q ≤ 1125899906842624 then (cov q p c, 0) else (0, 1)

theorem cover_is (q p c : Int) : haircut_Cover.f q p c = some (coverOf q p c) ∧ lombardref15_Cover.f q p c = some (coverOf q p c) := by
  unfold haircut_Cover.f lombardref15_Cover.f asset_Worth.f lombardref13_Worth.f coverOf
  rw [(goodPC_is p c).1, (goodPC_is p c).2, Option.bind_some, Option.bind_some]
  by_cases h : goodPC p c
  · have h' := h
    unfold goodPC at h'
    rw [decide_eq_true h]
    simp only [Bool.not_true, Bool.false_eq_true, if_false]
    by_cases hq : 0 ≤ q ∧ q ≤ 1125899906842624
    · have b1 := mul_to (x := q) (y := p) (X := 1125899906842624) (Y := 4294967296) (by omega) (by omega)
      have b2 := mul_to (x := q * p / 1000000) (y := 1000000 - c) (X := 4835703278458516698) (Y := 1000000) (by omega) (by omega)
      have g : ¬ ((((decide (q < 0)) || (decide (q > 1125899906842624))) || (decide (p < 1))) || (decide (p > 4294967296))) = true := by simp; omega
      simp only [if_neg g]
      rw [muldiv_is q p 1000000 1 (by omega) (by omega) (by omega), ref_muldiv_is q p 1000000 1 (by omega) (by omega) (by omega), md_down q p 1000000 (by omega) (by omega) (by omega) (by omega)]
      simp only [Option.bind_some, bne_self_eq_false, Bool.false_eq_true, if_false]
      rw [i64_id (1000000 - c) (by omega) (by omega), muldiv_is _ _ 1000000 1 (by omega) (by omega) (by omega), ref_muldiv_is _ _ 1000000 1 (by omega) (by omega) (by omega), md_down _ _ 1000000 (by omega) (by omega) (by omega) (by omega), if_pos ⟨h, hq⟩]
      exact ⟨rfl, rfl⟩
    · have g : ((((decide (q < 0)) || (decide (q > 1125899906842624))) || (decide (p < 1))) || (decide (p > 4294967296))) = true := by simp; omega
      simp only [if_pos g]
      rw [if_neg (fun h => hq h.2)]
      exact ⟨rfl, rfl⟩
  · rw [decide_eq_false h]
    simp only [Bool.not_false, if_true]
    rw [if_neg (fun (k : goodPC p c ∧ 0 ≤ q ∧ q ≤ 1125899906842624) => h k.1)]
    exact ⟨rfl, rfl⟩

/-- The least lot that covers n. -/
def lotFor (n p c : Int) : Int := up (up (n * 1000000) (1000000 - c) * 1000000) p

theorem lot_le {p c : Int} (h : goodPC p c) (n q : Int) : lotFor n p c ≤ q ↔ n ≤ cov q p c := by
  unfold goodPC at h
  unfold lotFor cov
  have d : (0 : Int) < 1000000 := by decide
  exact (up_le (by omega) q).trans ((Int.le_ediv_iff_mul_le d).symm.trans ((up_le (by omega) (q * p / 1000000)).trans (Int.le_ediv_iff_mul_le d).symm))

theorem up_nonneg {p c : Int} (hp : 0 ≤ p) (hc : 0 < c) : 0 ≤ up p c := Int.ediv_nonneg (by omega) (by omega)

def leastOf (n p c : Int) : Int × Bool := if goodPC p c ∧ 0 ≤ n ∧ lotFor n p c ≤ 1125899906842624 then (lotFor n p c, true) else (0, false)

theorem least_loop (n p c : Int) (h : goodPC p c) (hn : 0 ≤ n) : ∀ (j : Nat) (lo hi : Int), hi - lo ≤ j → 0 ≤ lo → lo ≤ lotFor n p c → lotFor n p c ≤ hi → hi ≤ 1125899906842624 →
    loop (haircut_Least.r0 n p c) (lo, hi) = some (lotFor n p c)
  | j, lo, hi, hj, h0, h1, h2, h3 => by
    by_cases k : lo < hi
    · obtain ⟨j, rfl⟩ : ∃ m, j = m + 1 := ⟨j - 1, by omega⟩
      have e : IntKind.i64.wrap (Int.tdiv (IntKind.wrap .i64 (lo + hi)) 2) = (lo + hi) / 2 := by
        rw [i64_id (lo + hi) (by omega) (by omega), Int.tdiv_eq_ediv_of_nonneg (by omega), i64_id _ (by omega) (by omega)]
      have cv : coverOf ((lo + hi) / 2) p c = (cov ((lo + hi) / 2) p c, 0) := if_pos ⟨h, by omega, by omega⟩
      have ll := lot_le h n ((lo + hi) / 2)
      have key : haircut_Least.r0 n p c (lo, hi) = if n ≤ cov ((lo + hi) / 2) p c then some (.inl (lo, (lo + hi) / 2)) else some (.inl ((lo + hi) / 2 + 1, hi)) := by
        unfold haircut_Least.r0 haircut_Least.b0
        simp only
        rw [if_pos (decide_eq_true k), e, (cover_is _ p c).1, Option.bind_some, cv, i64_id ((lo + hi) / 2 + 1) (by omega) (by omega)]
        simp only [decide_eq_true_eq, ge_iff_le]
      by_cases g : n ≤ cov ((lo + hi) / 2) p c
      · rw [if_pos g] at key
        rw [loop_next key]
        exact least_loop n p c h hn j lo _ (by omega) h0 h1 (ll.2 g) (by omega)
      · rw [if_neg g] at key
        rw [loop_next key]
        have : ¬ lotFor n p c ≤ (lo + hi) / 2 := fun k => g (ll.1 k)
        exact least_loop n p c h hn j _ hi (by omega) (by omega) (by omega) h2 h3
    · obtain rfl : lo = lotFor n p c := by omega
      refine loop_end ?_
      unfold haircut_Least.r0 haircut_Least.b0
      rw [if_neg (by simpa using k)]

theorem least_is (n p c : Int) : haircut_Least.f n p c = some (leastOf n p c) := by
  unfold haircut_Least.f leastOf
  rw [(goodPC_is p c).1, Option.bind_some]
  by_cases h : goodPC p c ∧ 0 ≤ n
  · have cv : coverOf 1125899906842624 p c = (cov 1125899906842624 p c, 0) := if_pos ⟨h.1, by omega, by omega⟩
    have ll := lot_le h.1 n 1125899906842624
    rw [if_neg (by simp [h.1]; exact h.2), (cover_is _ p c).1, Option.bind_some, cv]
    by_cases g : lotFor n p c ≤ 1125899906842624
    · have h' := h.1
      unfold goodPC at h'
      have nn : 0 ≤ lotFor n p c := by
        unfold lotFor
        exact up_nonneg (Int.mul_nonneg (up_nonneg (Int.mul_nonneg h.2 (by decide)) (by omega)) (by decide)) (by omega)
      have k := ll.1 g
      rw [if_neg (by simp; omega), least_loop n p c h.1 h.2 1125899906842624 0 1125899906842624 (by omega) (by omega) nn g (by omega), if_pos ⟨h.1, h.2, g⟩]
      rfl
    · have k : ¬ n ≤ cov 1125899906842624 p c := fun k => g (ll.2 k)
      rw [if_pos (by simp; omega), if_neg (fun k => g k.2.2)]
  · rw [if_neg (fun (k : goodPC p c ∧ 0 ≤ n ∧ lotFor n p c ≤ 1125899906842624) => h ⟨k.1, k.2.1⟩), if_pos]
    by_cases g : goodPC p c
    · have : n < 0 := by
        by_cases h0 : n < 0
        · exact h0
        · exact absurd ⟨g, by omega⟩ h
      simp [this]
    · simp [g]

theorem ref_least_is (n p c : Int) (hn : n < 9223372036854775808) : lombardref15_Least.f n p c = some (leastOf n p c) := by
  unfold lombardref15_Least.f leastOf
  rw [(goodPC_is p c).2, Option.bind_some]
  by_cases h : goodPC p c ∧ 0 ≤ n
  · have h' := h.1
    unfold goodPC at h'
    rw [if_neg (by simp [h.1]; exact h.2), i64_id (1000000 - c) (by omega) (by omega), ref_muldiv_is _ _ _ _ (by omega) (by omega) (by omega), Option.bind_some, md_up _ _ _ h.2 (by omega) (by omega)]
    have n1 : 0 ≤ up (n * 1000000) (1000000 - c) := up_nonneg (Int.mul_nonneg h.2 (by decide)) (by omega)
    have big : ∀ q : Int, up (n * 1000000) (1000000 - c) * 1000000 ≤ q * p ↔ lotFor n p c ≤ q := fun q => (up_le (by omega) q).symm
    by_cases k1 : up (n * 1000000) (1000000 - c) < 9223372036854775808
    · rw [if_pos k1]
      simp only [bne_self_eq_false, Bool.false_eq_true, if_false]
      rw [ref_muldiv_is _ _ _ _ (by omega) (by omega) (by omega), Option.bind_some, md_up _ _ _ n1 (by omega) (by omega)]
      show (if ((if lotFor n p c < _ then (lotFor n p c, (0 : Int)) else (0, 9)).2 != 0 || _) = true then _ else _) = _
      by_cases k2 : lotFor n p c < 9223372036854775808
      · have e : up (up (n * 1000000) (1000000 - c) * 1000000) p = lotFor n p c := rfl
        rw [e, if_pos k2]
        by_cases k3 : lotFor n p c ≤ 1125899906842624
        · rw [if_neg (by simp; omega), if_pos ⟨h.1, h.2, k3⟩]
        · rw [if_pos (by simp; omega), if_neg (fun k => k3 k.2.2)]
      · have e : up (up (n * 1000000) (1000000 - c) * 1000000) p = lotFor n p c := rfl
        rw [e, if_neg k2, if_pos (by simp), if_neg (by omega)]
    · rw [if_neg k1, if_pos (by simp), if_neg]
      intro k
      have := (big 1125899906842624).2 k.2.2
      have b := mul_to (x := (1125899906842624 : Int)) (y := p) (X := 1125899906842624) (Y := 4294967296) (by omega) (by omega)
      omega
  · rw [if_neg (fun (k : goodPC p c ∧ 0 ≤ n ∧ lotFor n p c ≤ 1125899906842624) => h ⟨k.1, k.2.1⟩), if_pos]
    by_cases g : goodPC p c
    · have : n < 0 := by
        by_cases h0 : n < 0
        · exact h0
        · exact absurd ⟨g, by omega⟩ h
      simp [this]
    · simp [g]

def mostOf (n p c m : Int) : Int := if goodPC p c ∧ 0 ≤ n ∧ 0 ≤ m ∧ m ≤ 1125899906842624 then (if lotFor (n + 1) p c - 1 ≤ m then lotFor (n + 1) p c - 1 else m) else -1

theorem most_loop (n p c m : Int) (h : goodPC p c) (hn : 0 ≤ n) : ∀ (j : Nat) (lo hi : Int), hi - lo ≤ j → 0 ≤ lo → lo < lotFor (n + 1) p c → lo ≤ hi → hi ≤ m → m ≤ 1125899906842624 → (hi = m ∨ lotFor (n + 1) p c ≤ hi + 1) →
    loop (haircut_Most.r0 n p c) (lo, hi) = some (if lotFor (n + 1) p c - 1 ≤ m then lotFor (n + 1) p c - 1 else m)
  | j, lo, hi, hj, h0, h1, h2, h3, h4, h5 => by
    by_cases k : lo < hi
    · obtain ⟨j, rfl⟩ : ∃ m, j = m + 1 := ⟨j - 1, by omega⟩
      have e : IntKind.i64.wrap (Int.tdiv (IntKind.wrap .i64 (IntKind.wrap .i64 (lo + hi) + 1)) 2) = (lo + hi + 1) / 2 := by
        rw [i64_id (lo + hi) (by omega) (by omega), i64_id (lo + hi + 1) (by omega) (by omega), Int.tdiv_eq_ediv_of_nonneg (by omega), i64_id _ (by omega) (by omega)]
      have cv : coverOf ((lo + hi + 1) / 2) p c = (cov ((lo + hi + 1) / 2) p c, 0) := if_pos ⟨h, by omega, by omega⟩
      have ll := lot_le h (n + 1) ((lo + hi + 1) / 2)
      have key : haircut_Most.r0 n p c (lo, hi) = if cov ((lo + hi + 1) / 2) p c ≤ n then some (.inl ((lo + hi + 1) / 2, hi)) else some (.inl (lo, (lo + hi + 1) / 2 - 1)) := by
        unfold haircut_Most.r0 haircut_Most.b0
        simp only
        rw [if_pos (decide_eq_true k), e, (cover_is _ p c).1, Option.bind_some, cv, i64_id ((lo + hi + 1) / 2 - 1) (by omega) (by omega)]
        simp only [decide_eq_true_eq]
      by_cases g : cov ((lo + hi + 1) / 2) p c ≤ n
      · rw [if_pos g] at key
        rw [loop_next key]
        have : ¬ lotFor (n + 1) p c ≤ (lo + hi + 1) / 2 := fun k => by have := ll.1 k; omega
        exact most_loop n p c m h hn j _ hi (by omega) (by omega) (by omega) (by omega) h3 h4 h5
      · rw [if_neg g] at key
        rw [loop_next key]
        have := ll.2 (by omega)
        exact most_loop n p c m h hn j lo _ (by omega) h0 h1 (by omega) (by omega) h4 (Or.inr (by omega))
    · refine loop_end ?_
      unfold haircut_Most.r0 haircut_Most.b0
      rw [if_neg (by simpa using k)]
      congr 2
      show lo = _
      split <;> omega

theorem lot_pos {n p c : Int} (h : goodPC p c) (hn : 0 ≤ n) : 0 < lotFor (n + 1) p c := by
  have := lot_le h (n + 1) 0
  have z : cov 0 p c = 0 := by unfold cov; simp
  rw [z] at this
  omega

theorem most_is (n p c m : Int) : haircut_Most.f n p c m = some (mostOf n p c m) := by
  unfold haircut_Most.f mostOf
  rw [(goodPC_is p c).1, Option.bind_some]
  by_cases h : goodPC p c ∧ 0 ≤ n ∧ 0 ≤ m ∧ m ≤ 1125899906842624
  · have lp := lot_pos h.1 h.2.1
    rw [if_pos h, if_neg (by simp [h.1]; omega), most_loop n p c m h.1 h.2.1 m.toNat 0 m (by omega) (by omega) lp (by omega) (by omega) (by omega) (Or.inl rfl)]
    rfl
  · rw [if_neg h, if_pos]
    by_cases g : goodPC p c
    · have : ¬ (0 ≤ n ∧ 0 ≤ m ∧ m ≤ 1125899906842624) := fun k => h ⟨g, k⟩
      simp [g]
      omega
    · simp [g]

theorem ref_most_is (n p c m : Int) (hn : n < 9223372036854775808) : lombardref15_Most.f n p c m = some (mostOf n p c m) := by
  unfold lombardref15_Most.f mostOf
  rw [(goodPC_is p c).2, Option.bind_some]
  by_cases h : goodPC p c ∧ 0 ≤ n ∧ 0 ≤ m ∧ m ≤ 1125899906842624
  · have lp := lot_pos h.1 h.2.1
    have h' := h.1
    unfold goodPC at h'
    rw [if_pos h, if_neg (by simp [h.1]; omega)]
    by_cases z : n = 9223372036854775807
    · rw [if_pos (by simpa using z)]
      have ll := lot_le h.1 (n + 1) m
      have b1 := mul_to (x := m) (y := p) (X := 1125899906842624) (Y := 4294967296) (by omega) (by omega)
      have b2 := mul_to (x := m * p / 1000000) (y := 1000000 - c) (X := 4835703278458516698) (Y := 1000000) (by omega) (by omega)
      rw [if_neg]
      intro k
      have : lotFor (n + 1) p c ≤ m ∨ lotFor (n + 1) p c = m + 1 := by omega
      rcases this with k2 | k2
      · have := ll.1 k2
        unfold cov at this
        omega
      · have l2 := lot_le h.1 (n + 1) (m + 1)
        have b1 := mul_to (x := m + 1) (y := p) (X := 1125899906842625) (Y := 4294967296) (by omega) (by omega)
        have b2 := mul_to (x := (m + 1) * p / 1000000) (y := 1000000 - c) (X := 4835703278458520993) (Y := 1000000) (by omega) (by omega)
        have := l2.1 (by omega)
        unfold cov at this
        omega
    · rw [if_neg (by simpa using z), i64_id (n + 1) (by omega) (by omega), ref_least_is _ p c (by omega), Option.bind_some]
      by_cases g : lotFor (n + 1) p c ≤ 1125899906842624
      · have e : leastOf (n + 1) p c = (lotFor (n + 1) p c, true) := if_pos ⟨h.1, by omega, g⟩
        rw [e]
        simp only
        rw [i64_id _ (by omega) (by omega)]
        by_cases k : lotFor (n + 1) p c - 1 ≤ m
        · rw [if_neg (by simp; omega), if_pos k]
        · rw [if_pos (by simp; omega), if_neg k]
      · have e : leastOf (n + 1) p c = (0, false) := if_neg (fun k => g k.2.2)
        rw [e, if_pos (by simp)]
        by_cases k : lotFor (n + 1) p c - 1 ≤ m
        · rw [if_pos k]; congr 1; omega
        · rw [if_neg k]
  · rw [if_neg h, if_pos]
    by_cases g : goodPC p c
    · have : ¬ (0 ≤ n ∧ 0 ≤ m ∧ m ≤ 1125899906842624) := fun k => h ⟨g, k⟩
      simp [g]
      omega
    · simp [g]

theorem awake_is : lombardlaw15_awake.f = some true := by
  unfold lombardlaw15_awake.f
  rw [(cover_is _ _ _).1, Option.bind_some, least_is, Option.bind_some]
  have h1 : coverOf 1000 990000 100000 = (891, 0) := by decide +kernel
  have h2 : leastOf 891 990000 100000 = (1000, true) := by decide +kernel
  rw [h1, h2]; rfl

end Go.Proofs.Ytdcpdnfalnelkaa

