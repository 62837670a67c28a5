/- Shows, in plain whole numbers, what the program's product, division, divided product and sum tell, for every argument that is a machine's number. -/
import Derived.Test.YtlgfdldonoaahaaPmArith
import Derived.Test.YtlgfdldonoaahaaGx11
namespace Go.Proofs.Ytlgfdldonoaahaa
open Go Go.Pm Go.Pm.Arith
set_option linter.unusedVariables false
set_option linter.unusedSimpArgs false

theorem i64_wrap (n : Int) : IntKind.i64.wrap n = (n + 9223372036854775808) % 18446744073709551616 - 9223372036854775808 := by
  simp only [IntKind.wrap, IntKind.bits, IntKind.signed]; simp; omega
theorem i64_id (n : Int) (h₀ : -9223372036854775808 ≤ n) (h₁ : n < 9223372036854775808) : IntKind.i64.wrap n = n := by rw [i64_wrap]; omega

theorem shr32 (x : Int) : shrI .u64 x 32 = x / 4294967296 := by
  show x.fdiv 4294967296 = _; exact Int.fdiv_eq_ediv_of_nonneg _ (by decide)
theorem shr63 (x : Int) : shrI .u64 x 63 = x / 9223372036854775808 := by
  show x.fdiv 9223372036854775808 = _; exact Int.fdiv_eq_ediv_of_nonneg _ (by decide)
theorem shr1 (x : Int) : shrI .u64 x 1 = x / 2 := by
  show x.fdiv 2 = _; exact Int.fdiv_eq_ediv_of_nonneg _ (by decide)
theorem shrn (x : Int) (j : Nat) (hj : j ≤ 64) : shrI .u64 x (j : Int) = x / 2 ^ j := by
  unfold shrI; rw [Int.toNat_natCast, Nat.min_eq_left (by simp [IntKind.bits]; omega)]; exact Int.fdiv_eq_ediv_of_nonneg _ (Int.pow_nonneg (by decide))
theorem shl32 (x : Int) : shlI .u64 x 32 = IntKind.wrap .u64 (x * 4294967296) := rfl
theorem shl1 (x : Int) : shlI .u64 x 1 = IntKind.wrap .u64 (x * 2) := rfl
theorem shln (j : Nat) (hj : j < 64) : shlI .u64 1 (j : Int) = 2 ^ j := by
  unfold shlI; rw [Int.toNat_natCast, Nat.min_eq_left (by simp [IntKind.bits]; omega), Int.one_mul]
  have hp : (0 : Int) < 2 ^ j := Int.pow_pos (by decide)
  have := two_pow_lt j hj
  exact u64_id _ (by omega) (by omega)

theorem size_is (a : Int) (h₀ : -9223372036854775808 ≤ a) (h₁ : a < 9223372036854775808) :
    fixnum_size.f a = some ((a.natAbs : Int), decide (a < 0)) := by
  unfold fixnum_size.f
  simp only [decide_eq_true_eq]
  split
  · rename_i h
    simp only [u64_wrap, h, decide_true]
    congr 2; omega
  · rename_i h
    simp only [u64_wrap, h, decide_false]
    congr 2; omega

theorem mul_is (a b : Int) (ha₀ : 0 ≤ a) (ha₁ : a < 18446744073709551616) (hb₀ : 0 ≤ b) (hb₁ : b < 18446744073709551616) :
    fixnum_Mul.f a b = some ⟨hiOf a b, loOf a b⟩ := by
  unfold fixnum_Mul.f
  simp only [shr32, shl32]
  rw [(mul_wide a b ha₀ ha₁ hb₀ hb₁).1, (mul_wide a b ha₀ ha₁ hb₀ hb₁).2]

theorem loop_is (d lo hi : Int) (hd : 0 < d) (hd₁ : d < 18446744073709551616) (hl₀ : 0 ≤ lo) (hl₁ : lo < 18446744073709551616) :
    ∀ (j : Nat) (rest q : Int), j ≤ 64 → 0 ≤ rest → rest < d → 0 ≤ q → q + 2 ^ j ≤ 18446744073709551616 → q % 2 ^ j = 0 →
      loop (fixnum_Wide_Div.r0 ⟨hi, lo⟩ d) (rest, (j : Int) - 1, q) = some ((rest * 2 ^ j + lo % 2 ^ j) % d, q + (rest * 2 ^ j + lo % 2 ^ j) / d)
  | 0, rest, q, _, hr₀, hr₁, hq₀, hq₁, hq => by
    rw [loop_end (b := (rest, q)) (by
      unfold fixnum_Wide_Div.r0 fixnum_Wide_Div.b0
      rw [if_neg (by simp)])]
    simp only [Int.pow_zero, Int.mul_one, Int.emod_one, Int.add_zero]
    rw [Int.ediv_eq_zero_of_lt hr₀ hr₁, Int.emod_eq_of_lt hr₀ hr₁, Int.add_zero]
  | j + 1, rest, q, hj, hr₀, hr₁, hq₀, hq₁, hq => by
    have ih := loop_is d lo hi hd hd₁ hl₀ hl₁ j
    have hp : (0 : Int) < 2 ^ j := Int.pow_pos (by decide)
    have e2 : (2 : Int) ^ (j + 1) = 2 ^ j * 2 := Int.pow_succ _ _
    have wj : IntKind.u64.wrap (((j + 1 : Nat) : Int) - 1) = (j : Int) := by rw [u64_wrap]; omega
    have sr := shrn lo j (by omega)
    have sl := shln j (by omega)
    have wn : IntKind.i64.wrap (((j + 1 : Nat) : Int) - 1 - 1) = (j : Int) - 1 := by rw [i64_wrap]; omega
    have hb := div_bit lo j hl₀ hl₁
    have st := div_set j (by omega) hq₀ hq₁ hq
    obtain ⟨r1, r2⟩ := div_rest lo rest d j hd
    have qj : q % 2 ^ j = 0 := by
      have : (q % (2 ^ j * 2)) % 2 ^ j = q % 2 ^ j := Int.emod_emod_of_dvd q ⟨2, rfl⟩
      rw [← this, ← e2, hq]; exact Int.zero_emod _
    have qj2 : (q + 2 ^ j) % 2 ^ j = 0 := by rw [Int.add_emod_right]; exact qj
    have b0 : 0 ≤ lo / 2 ^ j % 2 := by omega
    have b1 : lo / 2 ^ j % 2 ≤ 1 := by omega
    have ge : ((j + 1 : Nat) : Int) - 1 ≥ 0 := by omega
    have key : fixnum_Wide_Div.r0 ⟨hi, lo⟩ d (rest, ((j + 1 : Nat) : Int) - 1, q) =
        if (rest / 9223372036854775808 = 1 ∨ bits .or .u64 (IntKind.u64.wrap (rest * 2)) (lo / 2 ^ j % 2) ≥ d) then some (.inl (IntKind.u64.wrap (bits .or .u64 (IntKind.u64.wrap (rest * 2)) (lo / 2 ^ j % 2) - d), (j : Int) - 1, q + 2 ^ j))
        else some (.inl (bits .or .u64 (IntKind.u64.wrap (rest * 2)) (lo / 2 ^ j % 2), (j : Int) - 1, q)) := by
      unfold fixnum_Wide_Div.r0 fixnum_Wide_Div.b0
      simp only [Bool.or_eq_true, beq_iff_eq, decide_eq_true_eq]
      rw [if_pos ge, wj, sr, sl, wn, hb, st, shr63, shl1]
    rw [r1]
    generalize hbit : lo / 2 ^ j % 2 = bit at *
    by_cases top : rest / 9223372036854775808 = 1
    · rw [if_pos (Or.inl top), div_top hr₀ hr₁ hd₁ b0 b1 top] at key
      rw [loop_next key, ih _ _ (by omega) (by omega) (by omega) (by omega) (by omega) qj2, (r2 (2 * rest + bit)).1, (r2 (2 * rest + bit)).2]
      simp only [Int.add_assoc]
    · rw [div_low hr₀ hr₁ hd₁ b0 b1 top] at key
      by_cases c : 2 * rest + bit ≥ d
      · rw [if_pos (Or.inr c), u64_id (2 * rest + bit - d) (by omega) (by omega)] at key
        rw [loop_next key, ih _ _ (by omega) (by omega) (by omega) (by omega) (by omega) qj2, (r2 (2 * rest + bit)).1, (r2 (2 * rest + bit)).2]
        simp only [Int.add_assoc]
      · rw [if_neg (fun h => h.elim top c)] at key
        rw [loop_next key, ih _ _ (by omega) (by omega) (by omega) (by omega) (by omega) qj]

theorem div_is (hi lo d : Int) (hd : 0 < d) (hd₁ : d < 18446744073709551616) (hh₀ : 0 ≤ hi) (hh₁ : hi < 18446744073709551616) (hl₀ : 0 ≤ lo) (hl₁ : lo < 18446744073709551616) :
    fixnum_Wide_Div.f ⟨hi, lo⟩ d = some (⟨hi / d, (hi % d * 18446744073709551616 + lo) / d⟩, (hi % d * 18446744073709551616 + lo) % d) := by
  unfold fixnum_Wide_Div.f
  have q0 : 0 ≤ hi / d := Int.ediv_nonneg hh₀ (by omega)
  have q1 : hi / d ≤ hi := Int.ediv_le_self _ hh₀
  have nz : d ≠ 0 := by omega
  have this := loop_is d lo hi hd hd₁ hl₀ hl₁ 64 (hi % d) 0 (by omega) (Int.emod_nonneg _ (by omega)) (Int.emod_lt_of_pos _ hd) (by omega) (by decide) (by decide)
  rw [show ((64 : Nat) : Int) - 1 = 63 from rfl] at this
  rw [if_neg (by simp [nz]), if_pos nz, if_pos nz]
  simp only
  rw [Int.tmod_eq_emod_of_nonneg hh₀, Int.tdiv_eq_ediv_of_nonneg hh₀, u64_id _ q0 (by omega)]
  rw [this, show (2 : Int) ^ 64 = 18446744073709551616 from rfl, Int.emod_eq_of_lt hl₀ hl₁, Int.zero_add]
  rfl

/-- Is a quotient rounded away from 0? -/
def roundUp (q rest d : Int) (minus : Bool) (how : Int) : Bool :=
  if rest = 0 then false else if how = 1 then minus else if how = 2 then !minus else if how = 4 then (if rest > d - rest then true else if rest = d - rest then q % 2 == 1 else false) else false

/-- A number that is so great, and its sign, or that it has no place. -/
def signOf (u : Int) (minus : Bool) : Int × Int :=
  if u > 9223372036854775808 ∨ u = 9223372036854775808 ∧ minus = false then (0, 9) else if minus = true then (-u, 0) else (u, 0)

def minusOf (a b c : Int) : Bool := (decide (a < 0) != decide (b < 0)) != decide (c < 0)

theorem minus_eq (a b c : Bool) : (!((!(a == b)) == c)) = ((a != b) != c) := by cases a <;> cases b <;> cases c <;> rfl

def quotOf (p d : Int) (minus : Bool) (how : Int) : Int := p / d + (if roundUp (p / d) (p % d) d minus how = true then 1 else 0)

def mdOf (a b c how : Int) : Int × Int :=
  if c = 0 ∨ how < 1 ∨ how > 4 then (0, 1) else signOf (quotOf ((a.natAbs : Int) * (b.natAbs : Int)) (c.natAbs : Int) (minusOf a b c) how) (minusOf a b c)

theorem up_is (q rest d how : Int) (minus : Bool) (hq : 0 ≤ q) (hq' : q < 18446744073709551616) (hr : 0 ≤ rest) (hrd : rest < d) (hd : d < 18446744073709551616) :
    fixnum_up.f q rest d minus how = some (roundUp q rest d minus how) := by
  have e1 : IntKind.u64.wrap (d - rest) = d - rest := u64_id _ (by omega) (by omega)
  have e2 : Go.bits .and .u64 q 1 = q % 2 := and_one q hq hq'
  unfold fixnum_up.f roundUp
  simp only [beq_iff_eq]
  rw [e1, e2]
  by_cases c0 : rest = 0
  · rw [if_pos c0, if_pos c0]
  rw [if_neg c0, if_neg c0]
  by_cases c1 : how = 1
  · rw [if_pos c1, if_pos c1]
  rw [if_neg c1, if_neg c1]
  by_cases c2 : how = 2
  · rw [if_pos c2, if_pos c2]
  rw [if_neg c2, if_neg c2]
  by_cases c3 : how = 4
  · rw [if_pos c3, if_pos c3]
    by_cases c4 : rest > d - rest
    · rw [if_pos c4, decide_eq_true c4]; rfl
    · rw [if_neg c4, decide_eq_false c4]
      by_cases c5 : rest = d - rest
      · rw [if_pos c5, beq_iff_eq.mpr c5]; rfl
      · rw [if_neg c5, beq_eq_false_iff_ne.mpr c5]; rfl
  · rw [if_neg c3, if_neg c3]

theorem signed_is (u : Int) (minus : Bool) (h0 : 0 ≤ u) (h1 : u < 18446744073709551616) : fixnum_signed.f u minus = some (signOf u minus) := by
  unfold fixnum_signed.f signOf
  by_cases c1 : u = 9223372036854775808
  · subst c1
    cases minus <;> rfl
  · have c2 : (u == 9223372036854775808) = false := beq_eq_false_iff_ne.mpr c1
    rw [c2, Bool.and_false, if_neg (by decide)]
    by_cases c3 : u ≥ 9223372036854775808
    · rw [if_pos (decide_eq_true c3), if_pos (Or.inl (by omega))]
    · have c4 : ¬ (u > 9223372036854775808 ∨ u = 9223372036854775808 ∧ minus = false) := by omega
      have e1 : IntKind.i64.wrap u = u := i64_id _ (by omega) (by omega)
      have e2 : IntKind.i64.wrap (0 - u) = -u := by rw [i64_id _ (by omega) (by omega)]; omega
      rw [if_neg (by simpa using c3), if_neg c4, e1, e2]
      cases minus <;> rfl

theorem muldiv_is (a b c how : Int) (ha : -9223372036854775808 ≤ a ∧ a < 9223372036854775808) (hb : -9223372036854775808 ≤ b ∧ b < 9223372036854775808) (hc : -9223372036854775808 ≤ c ∧ c < 9223372036854775808) :
    fixnum_MulDiv.f a b c how = some (mdOf a b c how) := by
  unfold fixnum_MulDiv.f
  simp only [Bool.or_eq_true, beq_iff_eq, decide_eq_true_eq, or_assoc]
  by_cases bad : c = 0 ∨ how < 1 ∨ how > 4
  · unfold mdOf
    rw [if_pos bad, if_pos bad]
  · unfold mdOf
    rw [if_neg bad, if_neg bad]
    have c1 : ¬ c = 0 := fun h => bad (Or.inl h)
    have c2 : ¬ how < 1 := fun h => bad (Or.inr (Or.inl h))
    have c3 : ¬ how > 4 := fun h => bad (Or.inr (Or.inr h))
    rw [size_is a ha.1 ha.2, Option.bind_some, size_is b hb.1 hb.2, Option.bind_some, size_is c hc.1 hc.2, Option.bind_some]
    simp only [minus_eq]
    obtain ⟨m, hm⟩ : ∃ m : Bool, minusOf a b c = m := ⟨_, rfl⟩
    have hm' : ((decide (a < 0) != decide (b < 0)) != decide (c < 0)) = m := hm
    rw [hm, hm']
    obtain ⟨x, hx⟩ : ∃ x : Int, (a.natAbs : Int) = x := ⟨_, rfl⟩
    obtain ⟨y, hy⟩ : ∃ y : Int, (b.natAbs : Int) = y := ⟨_, rfl⟩
    obtain ⟨d, hd⟩ : ∃ d : Int, (c.natAbs : Int) = d := ⟨_, rfl⟩
    have bx : 0 ≤ x ∧ x ≤ 9223372036854775808 := by omega
    have by' : 0 ≤ y ∧ y ≤ 9223372036854775808 := by omega
    have bd : 0 < d ∧ d ≤ 9223372036854775808 := by omega
    rw [hx, hy, hd]
    have pz : 0 ≤ x * y := Int.mul_nonneg bx.1 by'.1
    have pz' : x * y ≤ 9223372036854775808 * 9223372036854775808 := Int.mul_le_mul bx.2 by'.2 by'.1 (by decide)
    have hq : 0 ≤ hiOf x y ∧ hiOf x y < 18446744073709551616 ∧ 0 ≤ loOf x y ∧ loOf x y < 18446744073709551616 ∧ hiOf x y * 18446744073709551616 + loOf x y = x * y := by unfold hiOf loOf; omega
    have r0 := Int.emod_nonneg (hiOf x y) (show d ≠ 0 by omega)
    have r1 := Int.emod_lt_of_pos (hiOf x y) bd.1
    have hdiv := Int.mul_ediv_add_emod (hiOf x y) d
    have e : x * y = hiOf x y % d * 18446744073709551616 + loOf x y + d * (hiOf x y / d * 18446744073709551616) := by
      have : d * (hiOf x y / d * 18446744073709551616) = d * (hiOf x y / d) * 18446744073709551616 := by rw [Int.mul_assoc]
      rw [this]; omega
    have eq : x * y / d = hiOf x y / d * 18446744073709551616 + (hiOf x y % d * 18446744073709551616 + loOf x y) / d := by
      rw [e, Int.add_mul_ediv_left _ _ (by omega)]; omega
    have er : x * y % d = (hiOf x y % d * 18446744073709551616 + loOf x y) % d := by rw [e, Int.add_mul_emod_self_left]
    have l0 : 0 ≤ (hiOf x y % d * 18446744073709551616 + loOf x y) / d := Int.ediv_nonneg (by omega) (by omega)
    have l1 : (hiOf x y % d * 18446744073709551616 + loOf x y) / d < 18446744073709551616 := by rw [Int.ediv_lt_iff_lt_mul bd.1]; omega
    have h0 : 0 ≤ hiOf x y / d := Int.ediv_nonneg hq.1 (by omega)
    have t0 := Int.emod_nonneg (hiOf x y % d * 18446744073709551616 + loOf x y) (show d ≠ 0 by omega)
    have t1 := Int.emod_lt_of_pos (hiOf x y % d * 18446744073709551616 + loOf x y) bd.1
    rw [mul_is x y bx.1 (by omega) by'.1 (by omega), Option.bind_some, div_is _ _ d bd.1 (by omega) hq.1 hq.2.1 hq.2.2.1 hq.2.2.2.1, Option.bind_some]
    simp only
    unfold quotOf
    rw [er]
    generalize (hiOf x y % d * 18446744073709551616 + loOf x y) % d = R at *
    generalize (hiOf x y % d * 18446744073709551616 + loOf x y) / d = Q at *
    generalize hiOf x y / d = H at *
    by_cases hH : H > 0
    · have big : ∀ t : Int, 0 ≤ t → signOf (x * y / d + t) m = (0, 9) := fun t ht => by unfold signOf; rw [if_pos (Or.inl (by omega))]
      rw [if_pos hH, big _ (by split <;> decide)]
    · have hq2 : x * y / d = Q := by omega
      rw [hq2, if_neg hH, up_is Q R d how m l0 l1 t0 t1 (by omega), Option.bind_some]
      by_cases hr : roundUp Q R d m how = true
      · rw [if_pos hr, if_pos hr]
        by_cases hov : Q + 1 = 18446744073709551616
        · have w : IntKind.u64.wrap (Q + 1) = 0 := by rw [hov]; rfl
          have : signOf (Q + 1) m = (0, 9) := by unfold signOf; rw [if_pos (Or.inl (by omega))]
          rw [this, w, if_pos rfl]
          rfl
        · have w : IntKind.u64.wrap (Q + 1) = Q + 1 := u64_id _ (by omega) (by omega)
          have w2 : ¬ Q + 1 = 0 := by omega
          rw [w, if_neg w2, Option.bind_some]
          simp only
          rw [signed_is (Q + 1) m (by omega) (by omega)]
          rfl
      · rw [if_neg hr, if_neg hr, Option.bind_some, Int.add_zero]
        simp only
        rw [signed_is Q m l0 l1]
        rfl

def inI64 (a : Int) : Prop := -9223372036854775808 ≤ a ∧ a < 9223372036854775808

/-- A sum, or that it has no place. -/
def sumOf (s : Int) : Int × Int := if -9223372036854775808 ≤ s ∧ s < 9223372036854775808 then (s, 0) else (0, 9)

theorem sumOf_in (s : Int) : inI64 (sumOf s).1 := by
  unfold sumOf inI64
  split
  · assumption
  · exact ⟨by decide, by decide⟩

theorem plus_is (a b : Int) (ha : inI64 a) (hb : inI64 b) : fixnum_Plus.f a b = some (sumOf (a + b)) := by
  unfold inI64 at ha hb
  unfold sumOf
  simp only [fixnum_Plus.f, i64_wrap, Bool.or_eq_true, Bool.and_eq_true, decide_eq_true_eq]
  repeat' split
  all_goals first
    | (exfalso; omega)
    | rfl
    | (congr 2; omega)

end Go.Proofs.Ytlgfdldonoaahaa

