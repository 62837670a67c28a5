/- Shows, in plain whole numbers, what the program and the document make of a row of rates: its check, the rate of a day, and the interest of many days. -/
import Derived.Test.YtlgfdldonoaahaaPuDay
namespace Go.Proofs.Ytlgfdldonoaahaa
open Go Go.Pm Go.Pm.Arith Go.Pm.Big
set_option linter.unusedVariables false
set_option linter.unusedSimpArgs false

def dayAt (l : List api_Reset) (i : Nat) : Int := (l.getD i default).Day
def rtAt (l : List api_Reset) (i : Nat) : Int := (l.getD i default).Rate

theorem nth_at (l : List api_Reset) (n : Nat) : nth l (n : Int) = l.getD n default := rfl

def chk (l : List api_Reset) (i : Nat) : Int :=
  if ¬ (0 ≤ dayAt l i ∧ dayAt l i ≤ 200000) ∨ (0 < i ∧ dayAt l i ≤ dayAt l (i - 1)) then 10 else if rtAt l i < -1000000 ∨ rtAt l i > 1000000 then 1 else 0

def chks (l : List api_Reset) : Nat → Nat → Int
  | 0, i => 0
  | j + 1, i => if chk l i = 0 then chks l j (i + 1) else chk l i

def checkOf (l : List api_Reset) : Int := if l.length = 0 then 6 else if l.length > 64 then 2 else chks l l.length 0

theorem wpred (i : Nat) (h : 0 < i) (h2 : i < 1000) : IntKind.i64.wrap ((i : Int) - 1) = ((i - 1 : Nat) : Int) := by rw [i64_id _ (by omega) (by omega)]; omega

theorem check_step (l : List api_Reset) (i : Nat) (h : i < l.length) (hl : l.length ≤ 64) :
    accrue_Check.r0 l (i : Int) = (if chk l i = 0 then some (.inl ((i + 1 : Nat) : Int)) else some (.inr (.inl (chk l i)))) ∧
    lombardref03_Check.r0 l (i : Int) = (if chk l i = 0 then some (.inl ((i + 1 : Nat) : Int)) else some (.inr (.inl (chk l i)))) := by
  have lt : (i : Int) < (l.length : Int) := by omega
  have w : IntKind.i64.wrap ((i : Int) + 1) = ((i + 1 : Nat) : Int) := next64 i (by omega)
  have g : ∀ b : Bool, ((!b) = false ∧ (decide ((i : Int) > 0)) = true → (0 : Int) ≤ (IntKind.wrap .i64 ((i : Int) - 1)) ∧ (IntKind.wrap .i64 ((i : Int) - 1)) < (List.length l : Int)) := fun b hb => by
    have := of_decide_eq_true hb.2
    rw [wpred i (by omega) (by omega)]; omega
  have c1 : ∀ b : Bool, b = (decide (dayAt l i ≥ 0) && decide (dayAt l i ≤ 200000)) → (((!b) || ((decide ((i : Int) > 0)) && (decide ((dayAt l i) ≤ ((nth l (IntKind.wrap .i64 ((i : Int) - 1))).Day))))) = true ↔ (¬ (0 ≤ dayAt l i ∧ dayAt l i ≤ 200000) ∨ (0 < i ∧ dayAt l i ≤ dayAt l (i - 1)))) := fun b hb => by
    subst hb
    by_cases hi : 0 < i
    · rw [wpred i hi (by omega), nth_at]
      show (_ || (_ && decide (dayAt l i ≤ dayAt l (i - 1)))) = true ↔ _
      simp only [Bool.or_eq_true, Bool.and_eq_true, Bool.not_eq_true', Bool.and_eq_false_iff, decide_eq_true_eq, decide_eq_false_iff_not]
      omega
    · have z : ¬ (i : Int) > 0 := by omega
      simp only [Bool.or_eq_true, Bool.and_eq_true, Bool.not_eq_true', Bool.and_eq_false_iff, decide_eq_true_eq, decide_eq_false_iff_not, z, false_and, or_false]
      omega
  constructor
  · unfold accrue_Check.r0 accrue_Check.b0 calendar_Good.f chk
    rw [if_pos (decide_eq_true lt), if_pos (by omega), nth_at, Option.bind_some, if_pos (g _)]
    have c := c1 _ rfl
    have dd : (l.getD i default).Day = dayAt l i := rfl
    have rr : (l.getD i default).Rate = rtAt l i := rfl
    rw [dd, rr, w]
    by_cases k : ¬ (0 ≤ dayAt l i ∧ dayAt l i ≤ 200000) ∨ (0 < i ∧ dayAt l i ≤ dayAt l (i - 1))
    · rw [if_pos (c.2 k), if_pos k, if_neg (by decide)]
    · rw [if_neg (fun h => k (c.1 h)), if_neg k]
      by_cases k2 : rtAt l i < -1000000 ∨ rtAt l i > 1000000
      · rw [if_pos (by simpa using k2), if_pos k2, if_neg (by decide)]
      · rw [if_neg (by simpa using k2), if_neg k2, if_pos rfl]
  · unfold lombardref03_Check.r0 lombardref03_Check.b0 lombardref02_Good.f lombardref03_rated.f chk
    rw [if_pos (decide_eq_true lt), if_pos (by omega), nth_at, Option.bind_some, if_pos (fun _ => by omega), if_pos (g _)]
    have c := c1 _ rfl
    have dd : (l.getD i default).Day = dayAt l i := rfl
    have rr : (l.getD i default).Rate = rtAt l i := rfl
    rw [dd, rr, w]
    by_cases k : ¬ (0 ≤ dayAt l i ∧ dayAt l i ≤ 200000) ∨ (0 < i ∧ dayAt l i ≤ dayAt l (i - 1))
    · rw [if_pos (c.2 k), if_pos k, if_neg (by decide)]
    · rw [if_neg (fun h => k (c.1 h)), if_neg k, if_pos (by omega), Option.bind_some]
      by_cases k2 : rtAt l i < -1000000 ∨ rtAt l i > 1000000
      · rw [if_pos (by simp; omega), if_pos k2, if_neg (by decide)]
      · rw [if_neg (by simp; omega), if_neg k2, if_pos rfl]

theorem check_loop (l : List api_Reset) (hl : l.length ≤ 64) : ∀ (j i : Nat), l.length = i + j →
    ∃ o, (match o with | .inl x => x | .inr _ => 0) = chks l j i ∧ loop (accrue_Check.r0 l) (i : Int) = some o ∧ loop (lombardref03_Check.r0 l) (i : Int) = some o
  | 0, i, h => by
    refine ⟨.inr (), rfl, loop_end ?_, loop_end ?_⟩
    · unfold accrue_Check.r0 accrue_Check.b0; rw [if_neg (by simp; omega)]
    · unfold lombardref03_Check.r0 lombardref03_Check.b0; rw [if_neg (by simp; omega)]
  | j + 1, i, h => by
    obtain ⟨s1, s2⟩ := check_step l i (by omega) hl
    unfold chks
    by_cases c : chk l i = 0
    · rw [if_pos c] at s1 s2 ⊢
      obtain ⟨o, h1, h2, h3⟩ := check_loop l hl j (i + 1) (by omega)
      exact ⟨o, h1, by rw [loop_next s1, h2], by rw [loop_next s2, h3]⟩
    · rw [if_neg c] at s1 s2 ⊢
      exact ⟨_, rfl, loop_end s1, loop_end s2⟩

theorem check_is (l : List api_Reset) : accrue_Check.f l = some (checkOf l) ∧ lombardref03_Check.f l = some (checkOf l) := by
  unfold accrue_Check.f lombardref03_Check.f checkOf
  simp only [beq_iff_eq, decide_eq_true_eq]
  by_cases c1 : l.length = 0
  · rw [if_pos (show (l.length : Int) = 0 by omega), if_pos c1]; exact ⟨rfl, if_pos (by omega)⟩
  · rw [if_neg (show ¬ (l.length : Int) = 0 by omega), if_neg c1, if_neg (show ¬ (l.length : Int) = 0 by omega)]
    by_cases c2 : l.length > 64
    · rw [if_pos (show (l.length : Int) > 64 by omega), if_pos c2]; exact ⟨rfl, if_pos (by omega)⟩
    · rw [if_neg (show ¬ (l.length : Int) > 64 by omega), if_neg c2, if_neg (show ¬ (l.length : Int) > 64 by omega)]
      obtain ⟨o, h1, h2, h3⟩ := check_loop l (by omega) l.length 0 (by omega)
      have h2' : loop (accrue_Check.r0 l) 0 = some o := h2
      have h3' : loop (lombardref03_Check.r0 l) 0 = some o := h3
      rw [h2', h3', ← h1]
      cases o <;> exact ⟨rfl, rfl⟩

theorem chks_zero (l : List api_Reset) : ∀ (j i : Nat), chks l j i = 0 → ∀ k, i ≤ k → k < i + j → chk l k = 0
  | 0, i, h, k, h1, h2 => by omega
  | j + 1, i, h, k, h1, h2 => by
    unfold chks at h
    by_cases c : chk l i = 0
    · rw [if_pos c] at h
      by_cases e : k = i
      · subst e; exact c
      · exact chks_zero l j (i + 1) h k (by omega) (by omega)
    · rw [if_neg c] at h; exact absurd h c

structure Fine (l : List api_Reset) : Prop where
  pos : 0 < l.length
  few : l.length ≤ 64
  day : ∀ k, k < l.length → 0 ≤ dayAt l k ∧ dayAt l k ≤ 200000
  rate : ∀ k, k < l.length → -1000000 ≤ rtAt l k ∧ rtAt l k ≤ 1000000
  next : ∀ k, k + 1 < l.length → dayAt l k < dayAt l (k + 1)

theorem fine_of {l : List api_Reset} (h : checkOf l = 0) : Fine l := by
  unfold checkOf at h
  by_cases c1 : l.length = 0
  · rw [if_pos c1] at h; omega
  · rw [if_neg c1] at h
    by_cases c2 : l.length > 64
    · rw [if_pos c2] at h; omega
    · rw [if_neg c2] at h
      have z := chks_zero l l.length 0 h
      have zz : ∀ k, k < l.length → ¬ (¬ (0 ≤ dayAt l k ∧ dayAt l k ≤ 200000) ∨ (0 < k ∧ dayAt l k ≤ dayAt l (k - 1))) ∧ ¬ (rtAt l k < -1000000 ∨ rtAt l k > 1000000) := fun k hk => by
        have := z k (by omega) (by omega)
        unfold chk at this
        by_cases k1 : ¬ (0 ≤ dayAt l k ∧ dayAt l k ≤ 200000) ∨ (0 < k ∧ dayAt l k ≤ dayAt l (k - 1))
        · rw [if_pos k1] at this; omega
        · rw [if_neg k1] at this
          by_cases k2 : rtAt l k < -1000000 ∨ rtAt l k > 1000000
          · rw [if_pos k2] at this; omega
          · exact ⟨k1, k2⟩
      refine ⟨by omega, by omega, fun k hk => ?_, fun k hk => ?_, fun k hk => ?_⟩
      · have := (zz k hk).1; omega
      · have := (zz k hk).2; omega
      · have := (zz (k + 1) hk).1
        rw [Nat.add_sub_cancel] at this; omega

theorem Fine.lt {l : List api_Reset} (h : Fine l) : ∀ (n k : Nat), k + n + 1 < l.length → dayAt l k < dayAt l (k + n + 1)
  | 0, k, hk => h.next k hk
  | n + 1, k, hk => by
    have h1 := Fine.lt h n k (by omega)
    have h2 := h.next (k + n + 1) (by omega)
    rw [show k + (n + 1) + 1 = k + n + 1 + 1 by omega]; omega

theorem Fine.sort {l : List api_Reset} (h : Fine l) {k m : Nat} (hk : k < m) (hm : m < l.length) : dayAt l k < dayAt l m := by
  have := h.lt (m - k - 1) k (by omega)
  rwa [show k + (m - k - 1) + 1 = m by omega] at this

structure Cut (l : List api_Reset) (d : Int) (c : Nat) : Prop where
  le : c ≤ l.length
  below : ∀ k, k < c → dayAt l k ≤ d
  above : ∀ k, c ≤ k → k < l.length → d < dayAt l k

theorem Cut.uniq {l : List api_Reset} {d : Int} {c e : Nat} (h : Cut l d c) (h' : Cut l d e) : c = e := by
  rcases Nat.lt_trichotomy c e with k | k | k
  · have a := h'.below c k
    have b := h.above c (Nat.le_refl _) (by have := h'.le; omega)
    omega
  · exact k
  · have a := h.below e k
    have b := h'.above e (Nat.le_refl _) (by have := h.le; omega)
    omega

def rt (l : List api_Reset) (c : Nat) : Int × Bool := if c = 0 then (0, false) else (rtAt l (c - 1), true)

theorem cmp_is (x y : Int) : cmp_Compare_int.f x y = some (if x < y then -1 else if x > y then 1 else 0) := by
  unfold cmp_Compare_int.f cmp_isNaN_int.f
  simp only [bne_self_eq_false, Option.bind_some, Bool.false_eq_true, if_false, decide_eq_true_eq]
  repeat' split
  all_goals rfl

theorem rate1_is (x : api_Reset) (y : Int) : ∃ v : Int, (v < 0 ↔ x.Day < y) ∧ (v = 0 ↔ x.Day = y) ∧ accrue_Rate_1_v2.f x y = some v := by
  refine ⟨_, ?_, ?_, by unfold accrue_Rate_1_v2.f; rw [cmp_is]; rfl⟩
  · split
    · omega
    · split <;> omega
  · split
    · omega
    · split <;> omega

theorem half_is (x y : Nat) (hx : x ≤ 1000) (hy : y ≤ 1000) : IntKind.i64.wrap (shrI .u64 (IntKind.wrap .u64 (IntKind.wrap .i64 ((x : Int) + (y : Int)))) 1) = (((x + y) / 2 : Nat) : Int) := by
  rw [i64_id ((x : Int) + y) (by omega) (by omega), u64_id _ (by omega) (by omega), shr1, i64_id _ (by omega) (by omega)]; omega

theorem search_loop (l : List api_Reset) (d : Int) (h : Fine l) : ∀ (n lo hi : Nat), hi ≤ lo + n → lo ≤ hi → hi ≤ l.length → (∀ k, k < lo → dayAt l k < d) → (∀ k, hi ≤ k → k < l.length → d ≤ dayAt l k) →
    ∃ i : Nat, i ≤ l.length ∧ (∀ k, k < i → dayAt l k < d) ∧ (∀ k, i ≤ k → k < l.length → d ≤ dayAt l k) ∧ loop (slices_BinarySearchFunc_int__accrue_Rate_1.r0 l d) ((lo : Int), (hi : Int)) = some (i : Int)
  | n, lo, hi, hn, hle, hlen, hb, ha => by
    have few := h.few
    by_cases c : lo < hi
    · obtain ⟨n, rfl⟩ : ∃ m, n = m + 1 := ⟨n - 1, by omega⟩
      have hh := half_is lo hi (by omega) (by omega)
      have w : IntKind.i64.wrap ((((lo + hi) / 2 : Nat) : Int) + 1) = (((lo + hi) / 2 + 1 : Nat) : Int) := next64 _ (by omega)
      have key : slices_BinarySearchFunc_int__accrue_Rate_1.r0 l d ((lo : Int), (hi : Int)) = if dayAt l ((lo + hi) / 2) < d then some (.inl ((((lo + hi) / 2 + 1 : Nat) : Int), (hi : Int))) else some (.inl ((lo : Int), (((lo + hi) / 2 : Nat) : Int))) := by
        unfold slices_BinarySearchFunc_int__accrue_Rate_1.r0 slices_BinarySearchFunc_int__accrue_Rate_1.b0
        simp only
        obtain ⟨v, v1, v2, v3⟩ := rate1_is (l.getD ((lo + hi) / 2) default) d
        rw [if_pos (decide_eq_true (by omega)), hh, if_pos (by omega), nth_at, v3, Option.bind_some, w]
        by_cases c1 : dayAt l ((lo + hi) / 2) < d
        · rw [if_pos c1, if_pos (decide_eq_true (v1.2 c1))]
        · rw [if_neg c1, if_neg (fun h => c1 (v1.1 (of_decide_eq_true h)))]
      by_cases c1 : dayAt l ((lo + hi) / 2) < d
      · rw [if_pos c1] at key
        obtain ⟨i, i1, i2, i3, i4⟩ := search_loop l d h n ((lo + hi) / 2 + 1) hi (by omega) (by omega) hlen (fun k hk => by
          by_cases e : k = (lo + hi) / 2
          · subst e; exact c1
          · have := h.sort (k := k) (m := (lo + hi) / 2) (by omega) (by omega); omega) ha
        exact ⟨i, i1, i2, i3, by rw [loop_next key, i4]⟩
      · rw [if_neg c1] at key
        obtain ⟨i, i1, i2, i3, i4⟩ := search_loop l d h n lo ((lo + hi) / 2) (by omega) (by omega) (by omega) hb (fun k hk hk2 => by
          by_cases e : k = (lo + hi) / 2
          · subst e; omega
          · have := h.sort (k := (lo + hi) / 2) (m := k) (by omega) (by omega); omega)
        exact ⟨i, i1, i2, i3, by rw [loop_next key, i4]⟩
    · obtain rfl : lo = hi := by omega
      refine ⟨lo, hlen, hb, ha, loop_end ?_⟩
      unfold slices_BinarySearchFunc_int__accrue_Rate_1.r0 slices_BinarySearchFunc_int__accrue_Rate_1.b0
      simp only
      rw [if_neg (by simp)]

theorem rate_is (l : List api_Reset) (d : Int) (h : Fine l) : ∃ c, Cut l d c ∧ accrue_Rate.f l d = some (rt l c) := by
  have few := h.few
  obtain ⟨i, i1, i2, i3, i4⟩ := search_loop l d h l.length 0 l.length (by omega) (by omega) (Nat.le_refl _) (fun k hk => by omega) (fun k hk hk2 => by omega)
  have i4' : loop (slices_BinarySearchFunc_int__accrue_Rate_1.r0 l d) (0, (l.length : Int)) = some (i : Int) := i4
  have S : ∃ b : Bool, (b = true ↔ i < l.length ∧ dayAt l i = d) ∧ slices_BinarySearchFunc_int__accrue_Rate_1.f l d = some ((i : Int), b) := by
    unfold slices_BinarySearchFunc_int__accrue_Rate_1.f
    rw [i4', Option.bind_some, if_pos (fun h => by have := of_decide_eq_true h; omega)]
    by_cases c : i < l.length
    · have ge := i3 i (Nat.le_refl _) c
      obtain ⟨v, v1, v2, v3⟩ := rate1_is (l.getD i default) d
      rw [if_pos (decide_eq_true (by omega)), nth_at, v3, Option.bind_some]
      refine ⟨_, ?_, rfl⟩
      have v2' : v = 0 ↔ dayAt l i = d := v2
      simp only [Bool.and_eq_true, decide_eq_true_eq, beq_iff_eq]
      omega
    · rw [if_neg (by simp; omega), Option.bind_some]
      refine ⟨_, ?_, rfl⟩
      simp; omega
  obtain ⟨b, hb, hS⟩ := S
  unfold accrue_Rate.f
  rw [hS, Option.bind_some]
  simp only
  cases b with
  | true =>
    obtain ⟨g1, g2⟩ := hb.1 rfl
    refine ⟨i + 1, ⟨by omega, fun k hk => ?_, fun k hk hk2 => ?_⟩, ?_⟩
    · by_cases e : k = i
      · subst e; omega
      · have := i2 k (by omega); omega
    · have := h.sort (k := i) (m := k) (by omega) hk2; omega
    · rw [if_neg (by decide), Option.bind_some, if_neg (by simp), if_pos (by omega), nth_at]; rfl
  | false =>
    have nb : ¬ (i < l.length ∧ dayAt l i = d) := fun h => by have := hb.2 h; cases this
    refine ⟨i, ⟨i1, fun k hk => by have := i2 k hk; omega, fun k hk hk2 => ?_⟩, ?_⟩
    · by_cases e : k = i
      · subst e; have := i3 k (Nat.le_refl _) hk2; omega
      · have := h.sort (k := i) (m := k) (by omega) hk2
        have := i3 i (Nat.le_refl _) (by omega)
        omega
    · rw [if_pos (show (!false) = true from rfl), Option.bind_some]
      by_cases z : i = 0
      · subst z
        rw [if_pos (by decide)]; rfl
      · rw [wpred i (by omega) (by omega), if_neg (by simp), if_pos (by omega), nth_at]
        unfold rt
        rw [if_neg z]; rfl

end Go.Proofs.Ytlgfdldonoaahaa

