/- The plain statement of AssetWorths. -/
import Derived.Test.YtkcjlpiaaklnkaaPuFill13
import Derived.Test.YtkcjlpiaaklnkaaPuRef
namespace Go.Proofs.Ytkcjlpiaaklnkaa
open Go Go.Pm Go.Pm.Arith
set_option linter.unusedVariables false
set_option linter.unusedSimpArgs false

theorem in64w {a : Int} (h : inK .i64 a) : -9223372036854775808 ≤ a ∧ a < 9223372036854775808 := by
  obtain ⟨h1, h2⟩ := h; simp [IntKind.min, IntKind.max, IntKind.signed, IntKind.bits] at h1 h2; omega

theorem sign_in (u : Int) (m : Bool) (h : 0 ≤ u) : inI64 (signOf u m).1 := by
  unfold signOf inI64
  by_cases c : u > 9223372036854775808 ∨ u = 9223372036854775808 ∧ m = false
  · rw [if_pos c]; decide
  · rw [if_neg c]
    have c1 : u ≤ 9223372036854775808 := by
      have := fun h => c (.inl h); omega
    cases m with
    | true =>
      rw [if_pos rfl]
      show -9223372036854775808 ≤ -u ∧ -u < 9223372036854775808
      omega
    | false =>
      have c2 : u ≠ 9223372036854775808 := fun h => c (.inr ⟨h, rfl⟩)
      rw [if_neg (by decide)]
      show -9223372036854775808 ≤ u ∧ u < 9223372036854775808
      omega

/-- What an amount is worth. -/
noncomputable def worthOf (q p : Int) : Int × Int :=
  if ((((decide (q < 0)) || (decide (q > 1125899906842624))) || (decide (p < 1))) || (decide (p > 4294967296))) = true then (0, 1) else mdOf q p 1000000 1

theorem worth_is (q p : Int) : asset_Worth.f q p = some (worthOf q p) ∧ lombardref13_Worth.f q p = some (worthOf q p) := by
  unfold asset_Worth.f lombardref13_Worth.f worthOf
  by_cases c : ((((decide (q < 0)) || (decide (q > 1125899906842624))) || (decide (p < 1))) || (decide (p > 4294967296))) = true
  · rw [if_pos c, if_pos c, if_pos c]; exact ⟨rfl, rfl⟩
  · rw [if_neg c, if_neg c, if_neg c]
    have b : (0 ≤ q ∧ q ≤ 1125899906842624) ∧ 1 ≤ p ∧ p ≤ 4294967296 := by
      simp only [Bool.or_eq_true, decide_eq_true_eq] at c; omega
    rw [muldiv_is _ _ _ _ (by omega) (by omega) (by omega), ref_muldiv_is _ _ _ _ (by omega) (by omega) (by omega)]
    exact ⟨rfl, rfl⟩

theorem quot_nn (p d : Int) (m : Bool) (how : Int) (hp : 0 ≤ p) (hd : 0 ≤ d) : 0 ≤ quotOf p d m how := by
  have := Int.ediv_nonneg hp hd
  unfold quotOf
  split <;> omega

theorem md_in (a b c how : Int) : inI64 (mdOf a b c how).1 := by
  unfold mdOf
  split
  · exact ⟨by decide, by decide⟩
  · exact sign_in _ _ (quot_nn _ _ _ _ (Int.mul_nonneg (by omega) (by omega)) (by omega))

theorem worth_in (q p : Int) : inI64 (worthOf q p).1 := by
  unfold worthOf
  split
  · exact ⟨by decide, by decide⟩
  · exact md_in _ _ _ _

theorem value_is (l : List Kn) (h : Inv l) (x : api_Lot) : ∃ v : Int × Int, inI64 v.1 ∧ asset_Book_Value.f (bookOf l) x = some v ∧ lombardref13_Value.f l x = some v := by
  have few := h.few
  have hm : ¬ (!(bookOf l).made) = true := fun h => by cases h
  unfold asset_Book_Value.f lombardref13_Value.f asset_Book_Price.f
  rw [if_neg hm]
  rcases found l x.ISIN h.rise (by omega) with ⟨k, k1, k2, k3, k4⟩ | ⟨k1, ⟨i, i1, i2, i3, i4⟩, k3⟩
  · have hp : (0 : Int) ≤ (k : Int) ∧ (k : Int) < ((bookOf l).prices.length : Int) := by show _ ∧ (k : Int) < ((l.map _).length : Int); rw [List.length_map]; omega
    have hk : (0 : Int) ≤ (k : Int) ∧ (k : Int) < (l.length : Int) := by omega
    have np : nth (bookOf l).prices (k : Int) = (l.getD k default).Price := nth_pr l k
    rw [k4, k3]
    simp only [Option.bind_some]
    rw [if_neg (by decide : ¬ (!true) = true), if_pos (fun _ => hp), np, if_neg (by simp : ¬ decide ((k : Int) < 0) = true), if_pos hk, nth_kn]
    by_cases c : ((l.getD k default).Price == 0) = true
    · rw [if_pos (by rw [c]; rfl), if_pos c, Option.bind_some, if_pos (by rfl)]
      exact ⟨(0, 31), ⟨by decide, by decide⟩, rfl, rfl⟩
    · have c' := Bool.eq_false_iff.2 c
      rw [if_neg (by rw [c']; decide), if_pos hp, if_neg c, Option.bind_some, if_neg (fun h => by cases h), if_pos hk, (worth_is _ _).1, (worth_is _ _).2]
      exact ⟨_, worth_in _ _, rfl, rfl⟩
  · rw [k3, i4]
    simp only [Option.bind_some]
    rw [if_pos (by rfl : (!false) = true), if_pos (by decide)]
    exact ⟨(0, 21), ⟨by decide, by decide⟩, rfl, rfl⟩

theorem ref_plus_is (a b : Int) (ha : inI64 a) (hb : inI64 b) : lombardref01_Plus.f a b = some (sumOf (a + b)) := by
  unfold inI64 at ha hb
  unfold sumOf
  simp only [lombardref01_Plus.f, i64_wrap, Bool.or_eq_true, Bool.and_eq_true, decide_eq_true_eq]
  repeat' split
  all_goals first
    | (exfalso; omega)
    | rfl
    | (congr 2; omega)

theorem total_both (l : List Kn) (h : Inv l) (xs : List api_Lot) (few : xs.length ≤ 100) : ∀ (j i : Nat) (acc : Int), xs.length = i + j → inI64 acc →
    ∃ r, loop (asset_Book_Total.r0 (bookOf l) xs) (acc, (i : Int)) = some r ∧ loop (lombardref13_Total.r0 l xs) (acc, (i : Int)) = some r
  | 0, i, acc, hj, ha => by
    refine ⟨.inr acc, loop_end ?_, loop_end ?_⟩
    · unfold asset_Book_Total.r0 asset_Book_Total.b0
      rw [if_neg (by simp; omega)]
    · unfold lombardref13_Total.r0 lombardref13_Total.b0
      rw [if_neg (by simp; omega)]
  | j + 1, i, acc, hj, ha => by
    obtain ⟨v, v0, v1, v2⟩ := value_is l h (nth xs (i : Int))
    have st1 : asset_Book_Total.r0 (bookOf l) xs (acc, (i : Int)) = if v.2 = 0 then (if (sumOf (acc + v.1)).2 = 0 then some (.inl ((sumOf (acc + v.1)).1, ((i + 1 : Nat) : Int))) else some (.inr (.inl (0, (sumOf (acc + v.1)).2)))) else some (.inr (.inl (0, v.2))) := by
      unfold asset_Book_Total.r0 asset_Book_Total.b0
      simp only
      rw [if_pos (decide_eq_true (by omega)), if_pos (by omega), v1, Option.bind_some, i64_nx i (by omega), plus_is _ _ ha v0]
      by_cases c : v.2 = 0
      · rw [if_pos (by simpa using c), if_pos c, Option.bind_some, Option.bind_some]
        by_cases c2 : (sumOf (acc + v.1)).2 = 0
        · rw [if_neg (by simpa using c2), if_pos c2]
        · rw [if_pos (by simpa using c2), if_neg c2]
      · rw [if_neg (by simpa using c), if_neg c, Option.bind_some, if_pos (by simpa using c)]
    have st2 : lombardref13_Total.r0 l xs (acc, (i : Int)) = if v.2 = 0 then (if (sumOf (acc + v.1)).2 = 0 then some (.inl ((sumOf (acc + v.1)).1, ((i + 1 : Nat) : Int))) else some (.inr (.inl (0, (sumOf (acc + v.1)).2)))) else some (.inr (.inl (0, v.2))) := by
      unfold lombardref13_Total.r0 lombardref13_Total.b0
      simp only
      rw [if_pos (decide_eq_true (by omega)), if_pos (by omega), v2, Option.bind_some, i64_nx i (by omega), ref_plus_is _ _ ha v0]
      by_cases c : v.2 = 0
      · rw [if_neg (by simpa using c), if_pos c, Option.bind_some]
        by_cases c2 : (sumOf (acc + v.1)).2 = 0
        · rw [if_neg (by simpa using c2), if_pos c2]
        · rw [if_pos (by simpa using c2), if_neg c2]
      · rw [if_pos (by simpa using c), if_neg c]
    by_cases c : v.2 = 0
    · rw [if_pos c] at st1 st2
      by_cases c2 : (sumOf (acc + v.1)).2 = 0
      · rw [if_pos c2] at st1 st2
        rw [loop_next st1, loop_next st2]
        exact total_both l h xs few j (i + 1) _ (by omega) (sumOf_in _)
      · rw [if_neg c2] at st1 st2
        exact ⟨_, loop_end st1, loop_end st2⟩
    · rw [if_neg c] at st1 st2
      exact ⟨_, loop_end st1, loop_end st2⟩

theorem worths_loop (l : List Kn) (h : Inv l) (xs : List api_Lot) (few : xs.length ≤ 100) : ∀ (j i : Nat), xs.length = i + j → loop (lombardlaw13_AssetWorths.r0 xs (bookOf l, l, true)) (i : Int) = some (.inr ())
  | 0, i, hj => loop_end (by unfold lombardlaw13_AssetWorths.r0 lombardlaw13_AssetWorths.b0; rw [if_neg (by simp; omega)])
  | j + 1, i, hj => by
    obtain ⟨v, v0, v1, v2⟩ := value_is l h (nth xs (i : Int))
    have key : lombardlaw13_AssetWorths.r0 xs (bookOf l, l, true) (i : Int) = some (.inl ((i + 1 : Nat) : Int)) := by
      unfold lombardlaw13_AssetWorths.r0 lombardlaw13_AssetWorths.b0
      simp only
      rw [if_pos (decide_eq_true (by omega)), if_pos (by omega), v1, Option.bind_some, if_pos (by omega), v2, Option.bind_some, if_neg (by simp), i64_nx i (by omega)]
    rw [loop_next key]
    exact worths_loop l h xs few j (i + 1) (by omega)

theorem Pure.AssetWorths : ∀ (x0 : List lombardlaw13_Act) (x1 : List api_Lot) (x2 : Int) (x3 : Int), (x0.length * 88 ≤ reach ∧ ∀ y ∈ x0, lombardlaw13_Act.bd y) → (x1.length * 24 ≤ reach ∧ ∀ y ∈ x1, api_Lot.bd y) → (inK .i64 x2) → (inK .i64 x3) → lombardlaw13_AssetWorths.f x0 x1 x2 x3 = some true := by
  intro acts xs q p _ _ _ _
  obtain ⟨l, h, e⟩ := filled_is acts
  unfold lombardlaw13_AssetWorths.f
  rw [e, Option.bind_some]
  simp only
  by_cases c : ((!true) || (decide ((xs.length : Int) > 100))) = true
  · rw [if_pos c, if_pos trivial, awake_is]; rfl
  · rw [if_neg c]
    have few : xs.length ≤ 100 := by
      simp only [Bool.or_eq_true, decide_eq_true_eq] at c; omega
    obtain ⟨r, r1, r2⟩ := total_both l h xs few xs.length 0 0 (by omega) ⟨by decide, by decide⟩
    have r1' : loop (asset_Book_Total.r0 (bookOf l) xs) (0, 0) = some r := r1
    have r2' : loop (lombardref13_Total.r0 l xs) (0, 0) = some r := r2
    have w : loop (lombardlaw13_AssetWorths.r0 xs (bookOf l, l, true)) 0 = _ := worths_loop l h xs few xs.length 0 (by omega)
    have T : ∃ t, asset_Book_Total.f (bookOf l) xs = some t ∧ lombardref13_Total.f l xs = some t := by
      unfold asset_Book_Total.f lombardref13_Total.f
      rw [r1', r2']
      cases r with
      | inl r => exact ⟨_, rfl, rfl⟩
      | inr r => exact ⟨_, rfl, rfl⟩
    obtain ⟨t, t1, t2⟩ := T
    rw [(worth_is _ _).1, (worth_is _ _).2, Option.bind_some, Option.bind_some, t1, t2, Option.bind_some, Option.bind_some, if_neg (by simp), w, Option.bind_some, awake_is]
    rfl

end Go.Proofs.Ytkcjlpiaaklnkaa

