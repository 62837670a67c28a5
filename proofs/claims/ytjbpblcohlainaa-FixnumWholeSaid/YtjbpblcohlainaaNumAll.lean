/- Shows, in plain whole numbers, what the printed functions of the chapter's numbers tell, the program's and the document's: products, quotients, divided products, sums. -/
import Derived.Laws.BitsLemmas
import Derived.Test.YtjbpblcohlainaaPrintx3
import Derived.Test.YtjbpblcohlainaaPrintx2
import Derived.Test.YtjbpblcohlainaaPrintx4
import Derived.Test.YtjbpblcohlainaaPrintx5
import Derived.Test.YtjbpblcohlainaaPrintx24
import Derived.Test.YtjbpblcohlainaaPrintx20
import Derived.Test.YtjbpblcohlainaaPrintx8
import Derived.Test.YtjbpblcohlainaaPrintx21
import Derived.Test.YtjbpblcohlainaaPrintx23
import Derived.Test.YtjbpblcohlainaaPrintx25
import Derived.Test.YtjbpblcohlainaaPrintx10
import Derived.Test.YtjbpblcohlainaaPrintx7
import Derived.Test.YtjbpblcohlainaaPrintx9
import Derived.Test.YtjbpblcohlainaaPrintx11
import Derived.Test.YtjbpblcohlainaaPrintx12
import Derived.Test.YtjbpblcohlainaaPrintx13
import Derived.Test.YtjbpblcohlainaaPrintx26
import Derived.Test.YtjbpblcohlainaaPrintx14
import Derived.Test.YtjbpblcohlainaaPrintx15
import Derived.Test.YtjbpblcohlainaaPrintx28
import Derived.Test.YtjbpblcohlainaaPrintx29
namespace Go.Pm.Arith
open Go

theorem u64_wrap (n : Int) : IntKind.u64.wrap n = n % 18446744073709551616 := by simp [IntKind.wrap, IntKind.bits, IntKind.signed]

theorem u64_id (n : Int) (h₀ : 0 ≤ n) (h₁ : n < 2 ^ 64) : IntKind.u64.wrap n = n := by rw [u64_wrap]; omega

theorem and_half (x : Int) (h₀ : 0 ≤ x) (h₁ : x < 18446744073709551616) : bits .and .u64 x 4294967295 = x % 4294967296 :=
  bits_mask .u64 64 (by decide) u64_id 32 (by decide) x h₀ (by omega)

theorem and_one (x : Int) (h₀ : 0 ≤ x) (h₁ : x < 18446744073709551616) : bits .and .u64 x 1 = x % 2 :=
  bits_mask .u64 64 (by decide) u64_id 1 (by decide) x h₀ (by omega)

theorem or_low (i : Nat) (hi : i ≤ 64) (x y : Int) (hx₀ : 0 ≤ x) (hx : x % 2 ^ i = 0) (hx₁ : x < 18446744073709551616) (hy₀ : 0 ≤ y) (hy : y < 2 ^ i) :
    bits .or .u64 x y = x + y := by
  refine bits_join .u64 64 (by decide) u64_id i x y hx₀ hx (by omega) hy₀ hy ?_
  have : (2 : Nat) ^ i ≤ 2 ^ 64 := Nat.pow_le_pow_right (by decide) hi
  have h2 : ((2 : Int) ^ i) ≤ 2 ^ 64 := by exact_mod_cast this
  omega

theorem mul_bound {a b : Int} (ha : 0 ≤ a) (ha' : a ≤ 4294967295) (hb : 0 ≤ b) (hb' : b ≤ 4294967295) : 0 ≤ a * b ∧ a * b ≤ 18446744065119617025 := by
  refine ⟨Int.mul_nonneg ha hb, ?_⟩
  have := Int.mul_le_mul ha' hb' hb (by decide)
  simpa using this

/-- The four small products make the great one. -/
theorem mul_parts (a b : Int) : a * b = (a / 4294967296) * (b / 4294967296) * 18446744073709551616 + ((a / 4294967296) * (b % 4294967296) + (a % 4294967296) * (b / 4294967296)) * 4294967296
    + (a % 4294967296) * (b % 4294967296) := by
  have ea : a = (a / 4294967296) * 4294967296 + a % 4294967296 := by omega
  have eb : b = (b / 4294967296) * 4294967296 + b % 4294967296 := by omega
  generalize a / 4294967296 = a1 at *
  generalize a % 4294967296 = a0 at *
  generalize b / 4294967296 = b1 at *
  generalize b % 4294967296 = b0 at *
  subst ea eb
  simp only [Int.add_mul, Int.mul_add]
  have : a1 * 4294967296 * (b1 * 4294967296) = a1 * b1 * 18446744073709551616 := by
    rw [Int.mul_comm b1 4294967296, Int.mul_assoc, ← Int.mul_assoc 4294967296 4294967296 b1, Int.mul_comm _ b1, ← Int.mul_assoc]; rfl
  have h2 : a0 * (b1 * 4294967296) = a0 * b1 * 4294967296 := by rw [Int.mul_assoc]
  have h3 : a1 * 4294967296 * b0 = a1 * b0 * 4294967296 := by rw [Int.mul_assoc, Int.mul_comm 4294967296 b0, ← Int.mul_assoc]
  omega

def hiOf (a b : Int) : Int := a * b / 18446744073709551616
def loOf (a b : Int) : Int := a * b % 18446744073709551616

theorem mul_wide (a b : Int) (ha₀ : 0 ≤ a) (ha₁ : a < 18446744073709551616) (hb₀ : 0 ≤ b) (hb₁ : b < 18446744073709551616) :
    IntKind.u64.wrap ((IntKind.u64.wrap ((IntKind.u64.wrap ((a / 4294967296) * (b / 4294967296))) + ((IntKind.u64.wrap ((IntKind.u64.wrap ((a / 4294967296) * (Go.bits .and .u64 b 4294967295))) + ((IntKind.u64.wrap ((Go.bits .and .u64 a 4294967295) * (Go.bits .and .u64 b 4294967295))) / 4294967296))) / 4294967296))) + ((IntKind.u64.wrap ((IntKind.u64.wrap ((Go.bits .and .u64 a 4294967295) * (b / 4294967296))) + (Go.bits .and .u64 (IntKind.u64.wrap ((IntKind.u64.wrap ((a / 4294967296) * (Go.bits .and .u64 b 4294967295))) + ((IntKind.u64.wrap ((Go.bits .and .u64 a 4294967295) * (Go.bits .and .u64 b 4294967295))) / 4294967296))) 4294967295))) / 4294967296)) = hiOf a b ∧
    Go.bits .or .u64 (IntKind.u64.wrap ((IntKind.u64.wrap ((IntKind.u64.wrap ((Go.bits .and .u64 a 4294967295) * (b / 4294967296))) + (Go.bits .and .u64 (IntKind.u64.wrap ((IntKind.u64.wrap ((a / 4294967296) * (Go.bits .and .u64 b 4294967295))) + ((IntKind.u64.wrap ((Go.bits .and .u64 a 4294967295) * (Go.bits .and .u64 b 4294967295))) / 4294967296))) 4294967295))) * 4294967296)) (Go.bits .and .u64 (IntKind.u64.wrap ((Go.bits .and .u64 a 4294967295) * (Go.bits .and .u64 b 4294967295))) 4294967295) = loOf a b := by
  rw [and_half a ha₀ ha₁, and_half b hb₀ hb₁]
  have e := mul_parts a b
  unfold hiOf loOf
  obtain ⟨p1, q1⟩ := mul_bound (a := a / 4294967296) (b := b / 4294967296) (by omega) (by omega) (by omega) (by omega)
  obtain ⟨p2, q2⟩ := mul_bound (a := a / 4294967296) (b := b % 4294967296) (by omega) (by omega) (by omega) (by omega)
  obtain ⟨p3, q3⟩ := mul_bound (a := a % 4294967296) (b := b / 4294967296) (by omega) (by omega) (by omega) (by omega)
  obtain ⟨p4, q4⟩ := mul_bound (a := a % 4294967296) (b := b % 4294967296) (by omega) (by omega) (by omega) (by omega)
  have big : 0 ≤ a * b := Int.mul_nonneg ha₀ hb₀
  have big' : a * b ≤ 18446744073709551615 * 18446744073709551615 := Int.mul_le_mul (by omega) (by omega) hb₀ (by decide)
  generalize (a / 4294967296) * (b / 4294967296) = x11 at *
  generalize (a / 4294967296) * (b % 4294967296) = x10 at *
  generalize (a % 4294967296) * (b / 4294967296) = x01 at *
  generalize (a % 4294967296) * (b % 4294967296) = x00 at *
  generalize a * b = z at *
  have m0 : IntKind.u64.wrap x00 = x00 := u64_id _ (by omega) (by omega)
  have m1 : IntKind.u64.wrap (x10) = x10 := u64_id _ (by omega) (by omega)
  have m2 : IntKind.u64.wrap (x10 + x00 / 4294967296) = x10 + x00 / 4294967296 := u64_id _ (by omega) (by omega)
  have m3 : IntKind.u64.wrap x01 = x01 := u64_id _ (by omega) (by omega)
  have m4 : IntKind.u64.wrap x11 = x11 := u64_id _ (by omega) (by omega)
  rw [m0, m1, m2, m3, m4, and_half (x10 + x00 / 4294967296) (by omega) (by omega), and_half x00 (by omega) (by omega)]
  have m5 : IntKind.u64.wrap (x01 + (x10 + x00 / 4294967296) % 4294967296) = x01 + (x10 + x00 / 4294967296) % 4294967296 := u64_id _ (by omega) (by omega)
  rw [m5]
  constructor
  · rw [u64_wrap, u64_wrap]; omega
  · rw [u64_wrap, or_low 32 (by decide) _ _ (by omega) (by omega) (by omega) (by omega) (by omega)]; omega

/-- One bit of the division. -/
theorem div_bit (lo : Int) (i : Nat) (h₀ : 0 ≤ lo) (h₁ : lo < 18446744073709551616) : bits .and .u64 (lo / 2 ^ i) 1 = lo / 2 ^ i % 2 := by
  refine and_one _ (Int.ediv_nonneg h₀ (Int.pow_nonneg (by decide))) (Int.lt_of_le_of_lt (Int.ediv_le_self _ h₀) h₁)

theorem div_top {rest d b : Int} (h₀ : 0 ≤ rest) (h₁ : rest < d) (hd : d < 18446744073709551616) (hb : 0 ≤ b) (hb' : b ≤ 1) (top : rest / 9223372036854775808 = 1) :
    IntKind.u64.wrap (bits .or .u64 (IntKind.u64.wrap (rest * 2)) b - d) = 2 * rest + b - d := by
  rw [u64_wrap (rest * 2), or_low 1 (by decide) _ _ (by omega) (by omega) (by omega) hb (by omega), u64_wrap]
  omega

theorem div_low {rest d b : Int} (h₀ : 0 ≤ rest) (h₁ : rest < d) (hd : d < 18446744073709551616) (hb : 0 ≤ b) (hb' : b ≤ 1) (top : ¬ rest / 9223372036854775808 = 1) :
    bits .or .u64 (IntKind.u64.wrap (rest * 2)) b = 2 * rest + b := by
  rw [u64_wrap (rest * 2), or_low 1 (by decide) _ _ (by omega) (by omega) (by omega) hb (by omega)]
  omega

theorem div_set {q : Int} (i : Nat) (hi : i < 64) (h₀ : 0 ≤ q) (h₁ : q + 2 ^ (i + 1) ≤ 18446744073709551616) (hq : q % 2 ^ (i + 1) = 0) :
    bits .or .u64 q (2 ^ i) = q + 2 ^ i := by
  have hp : (0 : Int) < 2 ^ i := Int.pow_pos (by decide)
  have e : (2 : Int) ^ (i + 1) = 2 ^ i * 2 := Int.pow_succ _ _
  exact or_low (i + 1) (by omega) q _ h₀ hq (by omega) (by omega) (by omega)

theorem two_pow_lt (i : Nat) (hi : i < 64) : ((2 : Int) ^ i) < 18446744073709551616 := by
  have : (2 : Nat) ^ i ≤ 2 ^ 63 := Nat.pow_le_pow_right (by decide) (by omega)
  have h2 : ((2 : Int) ^ i) ≤ 2 ^ 63 := by exact_mod_cast this
  omega

/-- What the division has still to do, by one bit. -/
theorem div_rest (lo rest d : Int) (j : Nat) (hd : 0 < d) :
    rest * 2 ^ (j + 1) + lo % 2 ^ (j + 1) = (2 * rest + lo / 2 ^ j % 2) * 2 ^ j + lo % 2 ^ j ∧
    ∀ x : Int, (x * 2 ^ j + lo % 2 ^ j) / d = 2 ^ j + ((x - d) * 2 ^ j + lo % 2 ^ j) / d ∧ (x * 2 ^ j + lo % 2 ^ j) % d = ((x - d) * 2 ^ j + lo % 2 ^ j) % d := by
  have hp : (0 : Int) < 2 ^ j := Int.pow_pos (by decide)
  have e : (2 : Int) ^ (j + 1) = 2 ^ j * 2 := Int.pow_succ _ _
  refine ⟨?_, fun x => ?_⟩
  · have : lo % (2 ^ j * 2) = (lo / 2 ^ j % 2) * 2 ^ j + lo % 2 ^ j := by
      rw [Int.emod_def lo (2 ^ j * 2), ← Int.ediv_ediv_of_nonneg (Int.le_of_lt hp), Int.emod_def lo (2 ^ j), Int.emod_def (lo / 2 ^ j) 2, Int.sub_mul, Int.mul_assoc, Int.mul_comm (lo / 2 ^ j) (2 ^ j),
        Int.mul_assoc 2, Int.mul_comm _ (2 ^ j), ← Int.mul_assoc 2 (2 ^ j), Int.mul_comm 2 (2 ^ j), Int.mul_assoc]
      omega
    rw [e, this]
    have h1 : rest * (2 ^ j * 2) = 2 * rest * 2 ^ j := by rw [Int.mul_comm (2 ^ j) 2, ← Int.mul_assoc, Int.mul_comm rest 2]
    rw [Int.add_mul, h1, Int.add_assoc]
  · have : x * 2 ^ j + lo % 2 ^ j = ((x - d) * 2 ^ j + lo % 2 ^ j) + 2 ^ j * d := by
      rw [Int.sub_mul, Int.mul_comm d]; omega
    rw [this]
    refine ⟨?_, ?_⟩
    · rw [Int.add_mul_ediv_right _ _ (by omega)]; omega
    · exact Int.add_mul_emod_self_right _ _ _

end Go.Pm.Arith
namespace Go.Pm.Big
set_option linter.unusedVariables false

def V : List Int → Int
  | [] => 0
  | d :: l => d + 65536 * V l

def Dig (l : List Int) : Prop := ∀ d ∈ l, 0 ≤ d ∧ d < 65536

def P (n : Nat) : Int := 65536 ^ n

theorem P_zero : P 0 = 1 := rfl
theorem P_succ (n : Nat) : P (n + 1) = 65536 * P n := by unfold P; rw [Int.pow_succ, Int.mul_comm]
theorem P_pos (n : Nat) : 0 < P n := Int.pow_pos (by decide)
theorem P_add (m n : Nat) : P (m + n) = P m * P n := by unfold P; exact Int.pow_add _ _ _
theorem P_mono {m n : Nat} (h : m ≤ n) : P m ≤ P n := by
  induction n with
  | zero => obtain rfl : m = 0 := by omega
            exact Int.le_refl _
  | succ n ih =>
    by_cases e : m = n + 1
    · subst e; exact Int.le_refl _
    · have := ih (by omega); have := P_pos n; rw [P_succ]; omega

theorem Dig.nil : Dig [] := fun _ h => by simp at h
theorem Dig.tail {d : Int} {l : List Int} (h : Dig (d :: l)) : Dig l := fun x hx => h x (List.mem_cons_of_mem _ hx)
theorem Dig.head {d : Int} {l : List Int} (h : Dig (d :: l)) : 0 ≤ d ∧ d < 65536 := h d List.mem_cons_self
theorem Dig.cons {d : Int} {l : List Int} (h0 : 0 ≤ d) (h1 : d < 65536) (h : Dig l) : Dig (d :: l) := by
  intro x hx
  rcases List.mem_cons.mp hx with e | e
  · subst e; exact ⟨h0, h1⟩
  · exact h x e
theorem Dig.append {a b : List Int} (ha : Dig a) (hb : Dig b) : Dig (a ++ b) := by
  intro x hx
  rcases List.mem_append.mp hx with e | e
  · exact ha x e
  · exact hb x e
theorem Dig.one {d : Int} (h0 : 0 ≤ d) (h1 : d < 65536) : Dig [d] := Dig.cons h0 h1 Dig.nil
theorem Dig.take {l : List Int} (h : Dig l) (n : Nat) : Dig (l.take n) := fun x hx => h x (List.mem_of_mem_take hx)
theorem Dig.getD {l : List Int} (h : Dig l) (i : Nat) : 0 ≤ l.getD i 0 ∧ l.getD i 0 < 65536 := by
  by_cases hi : i < l.length
  · rw [List.getD_eq_getElem?_getD, List.getElem?_eq_getElem hi]
    exact h _ (List.getElem_mem hi)
  · rw [List.getD_eq_getElem?_getD, List.getElem?_eq_none (by omega)]
    exact ⟨by decide, by decide⟩
theorem Dig.set {l : List Int} (h : Dig l) (i : Nat) {x : Int} (h0 : 0 ≤ x) (h1 : x < 65536) : Dig (l.set i x) := by
  intro y hy
  rcases List.mem_or_eq_of_mem_set hy with e | e
  · exact h y e
  · subst e; exact ⟨h0, h1⟩
theorem Dig.zeros (n : Nat) : Dig (List.replicate n 0) := fun x hx => by
  have := List.eq_of_mem_replicate hx
  subst this; exact ⟨by decide, by decide⟩

theorem V_nonneg : ∀ {l : List Int}, Dig l → 0 ≤ V l
  | [], _ => Int.le_refl _
  | d :: l, h => by
    have h1 := h.head
    have h2 := V_nonneg h.tail
    show 0 ≤ d + 65536 * V l
    omega

theorem V_lt : ∀ {l : List Int}, Dig l → V l < P l.length
  | [], _ => by decide
  | d :: l, h => by
    have h1 := h.head
    have h2 := V_lt h.tail
    show d + 65536 * V l < P (l.length + 1)
    rw [P_succ]; omega

theorem V_append : ∀ (a b : List Int), V (a ++ b) = V a + P a.length * V b
  | [], b => by show V b = 0 + P 0 * V b; rw [P_zero]; omega
  | d :: a, b => by
    show d + 65536 * V (a ++ b) = d + 65536 * V a + P (a.length + 1) * V b
    rw [V_append a b, P_succ, Int.mul_add, Int.mul_assoc]; omega

theorem V_one (d : Int) : V [d] = d := by show d + 65536 * 0 = d; omega

theorem V_zeros : ∀ n : Nat, V (List.replicate n 0) = 0
  | 0 => rfl
  | n + 1 => by
    rw [List.replicate_succ]
    show 0 + 65536 * V (List.replicate n 0) = 0
    rw [V_zeros n]; decide

theorem V_set : ∀ (l : List Int) (i : Nat) (x : Int), i < l.length → V (l.set i x) = V l + (x - l.getD i 0) * P i
  | d :: l, 0, x, _ => by
    show x + 65536 * V l = d + 65536 * V l + (x - (d :: l).getD 0 0) * P 0
    rw [P_zero]
    show x + 65536 * V l = d + 65536 * V l + (x - d) * 1
    omega
  | d :: l, i + 1, x, h => by
    have ih := V_set l i x (by simpa using h)
    show d + 65536 * V (l.set i x) = d + 65536 * V l + (x - (d :: l).getD (i + 1) 0) * P (i + 1)
    rw [ih, P_succ]
    show d + 65536 * (V l + (x - l.getD i 0) * P i) = d + 65536 * V l + (x - l.getD i 0) * (65536 * P i)
    have : (x - l.getD i 0) * (65536 * P i) = 65536 * ((x - l.getD i 0) * P i) := by
      rw [← Int.mul_assoc, Int.mul_comm _ 65536, Int.mul_assoc]
    rw [this, Int.mul_add]; omega

/-- Digit i, and what lies above it. -/
theorem V_drop : ∀ (l : List Int) (i : Nat), i < l.length → V (l.drop i) = l.getD i 0 + 65536 * V (l.drop (i + 1))
  | d :: l, 0, _ => rfl
  | d :: l, i + 1, h => by
    have := V_drop l i (by simpa using h)
    simpa using this

theorem V_take_drop (l : List Int) (i : Nat) (h : i ≤ l.length) : V l = V (l.take i) + P i * V (l.drop i) := by
  have e := V_append (l.take i) (l.drop i)
  rw [List.take_append_drop, List.length_take, Nat.min_eq_left h] at e
  exact e

theorem V_drop_len (l : List Int) : V (l.drop l.length) = 0 := by rw [List.drop_length]; rfl

structure Norm (l : List Int) : Prop where
  dig : Dig l
  last : l.length ≠ 0 → l.getD (l.length - 1) 0 ≠ 0

theorem Norm.nil : Norm [] := ⟨Dig.nil, fun h => absurd rfl h⟩

structure Is (l : List Int) (n : Int) : Prop where
  norm : Norm l
  val : V l = n

theorem Is.nil : Is [] 0 := ⟨Norm.nil, rfl⟩
theorem Is.nonneg {l : List Int} {n : Int} (h : Is l n) : 0 ≤ n := h.val ▸ V_nonneg h.norm.dig
theorem Is.lt {l : List Int} {n : Int} (h : Is l n) : n < P l.length := h.val ▸ V_lt h.norm.dig
theorem Is.ge {l : List Int} {n : Int} (h : Is l n) (hl : l.length ≠ 0) : P (l.length - 1) ≤ n := by
  have e := V_take_drop l (l.length - 1) (by omega)
  have d := V_drop l (l.length - 1) (by omega)
  have hz : l.length - 1 + 1 = l.length := by omega
  rw [hz, V_drop_len] at d
  have h1 := h.norm.dig.getD (l.length - 1)
  have h2 := h.norm.last hl
  have h3 := V_nonneg (h.norm.dig.take (l.length - 1))
  have h4 := P_pos (l.length - 1)
  rw [d, h.val] at e
  have h5 : P (l.length - 1) * 1 ≤ P (l.length - 1) * (l.getD (l.length - 1) 0 + 65536 * 0) := Int.mul_le_mul_of_nonneg_left (by omega) (by omega)
  omega

theorem Is.shorter {a b : List Int} {m n : Int} (ha : Is a m) (hb : Is b n) (h : a.length < b.length) : m < n := by
  have h1 := ha.lt
  have h2 := hb.ge (by omega)
  have h3 := P_mono (m := a.length) (n := b.length - 1) (by omega)
  omega

theorem Is.len_le {l : List Int} {n : Int} {L : Nat} (h : Is l n) (hn : n < P L) : l.length ≤ L := by
  by_cases hl : l.length ≤ L
  · exact hl
  · have h2 := h.ge (by omega)
    have h3 := P_mono (m := L) (n := l.length - 1) (by omega)
    omega

theorem Is.uniq : ∀ {a b : List Int} {n : Int}, Dig a → Dig b → a.length = b.length → V a = V b → a = b
  | [], [], _, _, _, _, _ => rfl
  | [], _ :: _, _, _, _, h, _ => by simp at h
  | _ :: _, [], _, _, _, h, _ => by simp at h
  | d :: a, e :: b, n, ha, hb, hl, hv => by
    have hv' : d + 65536 * V a = e + 65536 * V b := hv
    have h1 := ha.head
    have h2 := hb.head
    have : d = e := by omega
    subst this
    rw [Is.uniq (n := n) ha.tail hb.tail (by simpa using hl) (by omega)]

theorem Is.eq {a b : List Int} {n : Int} (ha : Is a n) (hb : Is b n) : a = b := by
  have hl : a.length = b.length := by
    rcases Nat.lt_trichotomy a.length b.length with h | h | h
    · have := ha.shorter hb h; omega
    · exact h
    · have := hb.shorter ha h; omega
  exact Is.uniq (n := n) ha.norm.dig hb.norm.dig hl (ha.val.trans hb.val.symm)

theorem Is.zero {l : List Int} (h : Is l 0) : l = [] := h.eq Is.nil

theorem take_getD (l : List Int) (n i : Nat) (h : i < n) : (l.take n).getD i 0 = l.getD i 0 := by
  rw [List.getD_eq_getElem?_getD, List.getD_eq_getElem?_getD, List.getElem?_take, if_pos h]

/-- What lies above a place, if all of it is 0. -/
theorem V_cut (l : List Int) (n : Nat) (hn : n ≤ l.length) (h : V (l.drop n) = 0) : V (l.take n) = V l := by
  have := V_take_drop l n hn
  rw [h] at this; omega

theorem Is.cut {l : List Int} (hd : Dig l) (n : Nat) (hn : n ≤ l.length) (h : V (l.drop n) = 0) (hz : n ≠ 0 → l.getD (n - 1) 0 ≠ 0) : Is (l.take n) (V l) := by
  have hlen : (l.take n).length = n := by rw [List.length_take, Nat.min_eq_left hn]
  refine ⟨⟨hd.take n, fun h1 => ?_⟩, V_cut l n hn h⟩
  rw [hlen] at h1 ⊢
  rw [take_getD l n (n - 1) (by omega)]
  exact hz h1

end Go.Pm.Big
namespace Go.Pm.Big

theorem getD_none (l : List Int) (i : Nat) (h : l.length ≤ i) : l.getD i 0 = 0 := by
  rw [List.getD_eq_getElem?_getD, List.getElem?_eq_none h]; rfl

theorem V_take_succ (l : List Int) (i : Nat) : V (l.take (i + 1)) = V (l.take i) + P i * l.getD i 0 := by
  by_cases h : i < l.length
  · have e : l.take (i + 1) = l.take i ++ [l.getD i 0] := by
      rw [List.take_add_one, List.getD_eq_getElem?_getD, List.getElem?_eq_getElem h]; rfl
    rw [e, V_append, V_one, List.length_take, Nat.min_eq_left (by omega)]
  · rw [getD_none l i (by omega), List.take_of_length_le (by omega), List.take_of_length_le (by omega)]; omega

theorem Is.cons {r : List Int} {m d : Int} (h : Is r m) (h0 : 0 ≤ d) (h1 : d < 65536) (hz : m = 0 → d ≠ 0) : Is (d :: r) (d + 65536 * m) := by
  refine ⟨⟨Dig.cons h0 h1 h.norm.dig, fun _ => ?_⟩, by rw [← h.val]; rfl⟩
  by_cases hr : r = []
  · subst hr
    exact hz (h.val ▸ rfl)
  · have hl : r.length ≠ 0 := fun e => hr (List.length_eq_zero_iff.mp e)
    have := h.norm.last hl
    have e : (d :: r).length - 1 = (r.length - 1) + 1 := by simp; omega
    rw [e]
    simpa using this

/-- Two rows with the same digits above a place, and a lesser digit there. -/
theorem V_below {a b : List Int} (ha : Dig a) (hb : Dig b) (i : Nat) (hia : i < a.length) (hib : i < b.length) (hd : V (a.drop (i + 1)) = V (b.drop (i + 1))) (hlt : a.getD i 0 < b.getD i 0) : V a < V b := by
  have e1 := V_take_drop a i (by omega)
  have e2 := V_take_drop b i (by omega)
  rw [V_drop a i hia] at e1
  rw [V_drop b i hib, ← hd] at e2
  have h1 := V_lt (ha.take i)
  rw [List.length_take, Nat.min_eq_left (by omega)] at h1
  have h2 := V_nonneg (hb.take i)
  have h3 := P_pos i
  have h4 : P i * (a.getD i 0 + 65536 * V (a.drop (i + 1))) + P i * 1 ≤ P i * (b.getD i 0 + 65536 * V (a.drop (i + 1))) := by
    rw [← Int.mul_add]
    exact Int.mul_le_mul_of_nonneg_left (by omega) (by omega)
  omega

end Go.Pm.Big
namespace Go.Proofs.Ytjbpblcohlainaa.Print
open Go.RowKit Go.Proofs.YtjbpblcohlainaaW.PrintWords Go.Proofs.YtjbpblcohlainaaW.PrintLast Go.Proofs.YtjbpblcohlainaaW.PrintMore Go.Pm.Arith Go.Pm.Big
set_option linter.unusedVariables false
set_option linter.unusedSimpArgs false

theorem rd_nat (l : List Int) (n : Nat) : rd l (n : Int) = l.getD n 0 := by unfold rd; simp

theorem w64 (n : Int) (h₀ : -9223372036854775808 ≤ n) (h₁ : n < 9223372036854775808) : wrap64 n = n := by unfold wrap64; omega

theorem trim_loop (l : List Int) (hd : Dig l) (hl : l.length < 1000000) : ∀ n : Nat, n ≤ l.length → V (l.drop n) = 0 →
    ∃ r, Is r (V l) ∧ r.length ≤ l.length ∧ Ev (fun k => lombardref01_trim.l0 k l (n : Int)) r
  | 0, hn, hv => by
    refine ⟨l.take 0, Is.cut hd 0 hn hv (fun h => absurd rfl h), by simp, Ev.step (f := fun _ => some (l.take 0)) (fun k => ?_) (Ev.now _)⟩
    rw [lombardref01_trim.l0, if_neg (by decide), if_pos (by decide), if_pos (by omega)]; rfl
  | n + 1, hn, hv => by
    have e1 : wrap64 (((n + 1 : Nat) : Int) - 1) = (n : Int) := by rw [w64 _ (by omega) (by omega)]; omega
    have dr := V_drop l n (by omega)
    by_cases hz : l.getD n 0 = 0
    · obtain ⟨r, h1, h2, h3⟩ := trim_loop l hd hl n (by omega) (by rw [dr, hv, hz]; rfl)
      refine ⟨r, h1, h2, Ev.step (fun k => ?_) h3⟩
      rw [lombardref01_trim.l0, if_pos (by omega), e1, if_pos (by omega), if_pos (by omega), rd_nat, if_pos hz]
    · refine ⟨l.take (n + 1), Is.cut hd (n + 1) hn hv (fun _ => hz), by rw [List.length_take]; omega, Ev.step (f := fun _ => some (l.take (n + 1))) (fun k => ?_) (Ev.now _)⟩
      rw [lombardref01_trim.l0, if_pos (by omega), e1, if_pos (by omega), if_pos (by omega), rd_nat, if_neg hz, if_pos (by omega), if_pos (by omega)]; rfl

theorem trim_is (l : List Int) (hd : Dig l) (hl : l.length < 1000000) : ∃ r, Is r (V l) ∧ r.length ≤ l.length ∧ Ev (fun k => lombardref01_trim.f k l) r := by
  obtain ⟨r, h1, h2, h3⟩ := trim_loop l hd hl l.length (Nat.le_refl _) (V_drop_len l)
  exact ⟨r, h1, h2, h3⟩

theorem of_loop : ∀ (j : Nat) (n : Int) (acc : List Int), 0 ≤ n → n < 18446744073709551616 → n < P j → acc.length + j ≤ 1000 →
    ∃ r, Is r n ∧ r.length ≤ j ∧ Ev (fun k => lombardref01_Of.l0 k n acc) (acc ++ r)
  | j, n, acc, h0, h1, h2, h3 => by
    by_cases hn : n > 0
    · obtain ⟨j, rfl⟩ : ∃ i, j = i + 1 := ⟨j - 1, by cases j with | zero => rw [P_zero] at h2; omega | succ i => rfl⟩
      rw [P_succ] at h2
      have e1 : Int.tdiv n 65536 = n / 65536 := Int.tdiv_eq_ediv_of_nonneg h0
      have e2 : Int.tmod n 65536 = n % 65536 := Int.tmod_eq_emod_of_nonneg h0
      have e3 : IntKind.u64.wrap (n / 65536) = n / 65536 := u64_id _ (by omega) (by omega)
      obtain ⟨r, hr, hl, hE⟩ := of_loop j (n / 65536) (acc ++ [n % 65536]) (by omega) (by omega) (by omega) (by simp; omega)
      refine ⟨n % 65536 :: r, ?_, by simp; omega, Ev.step (fun k => ?_) (by simpa using hE)⟩
      · have := hr.cons (d := n % 65536) (by omega) (by omega) (fun e => by omega)
        rwa [show n % 65536 + 65536 * (n / 65536) = n by omega] at this
      · rw [lombardref01_Of.l0, if_pos hn, if_pos (by omega), e1, e2, e3]
    · obtain rfl : n = 0 := by omega
      refine ⟨[], Is.nil, by simp, Ev.step (f := fun _ => some acc) (fun k => ?_) (by simpa using Ev.now acc)⟩
      rw [lombardref01_Of.l0, if_neg hn]

theorem of_is (n : Int) (h0 : 0 ≤ n) (h1 : n < 18446744073709551616) : ∃ r, Is r n ∧ r.length ≤ 4 ∧ Ev (fun k => lombardref01_Of.f k n) r := by
  obtain ⟨r, hr, hl, hE⟩ := of_loop 4 n [] h0 h1 (by unfold P; omega) (by decide)
  rw [List.nil_append] at hE
  exact ⟨r, hr, hl, hE⟩

theorem two_loop (hi : Int) (h0 : 0 ≤ hi) (h1 : hi < 18446744073709551616) : ∀ (j : Nat) (l : List Int), Dig l → l.length + j = 4 →
    ∃ r, Is r (V l + 18446744073709551616 * hi) ∧ r.length ≤ 8 ∧ Ev (fun k => lombardref01_Two.l0 k hi l) r
  | 0, l, hd, hj => by
    obtain ⟨t, ht, hl, hE⟩ := of_is hi h0 h1
    obtain ⟨r, hr, hl2, hE2⟩ := trim_is (l ++ t) (hd.append ht.norm.dig) (by simp; omega)
    rw [V_append, ht.val, show P l.length = 18446744073709551616 by rw [show l.length = 4 by omega]; decide] at hr
    refine ⟨r, hr, by simp at hl2; omega, Ev.step (f := fun k => (lombardref01_Of.f k hi).bind fun t117 => (if l.length + t117.length < 17592186044416 then ((lombardref01_trim.f k (l ++ t117)).bind fun t123 => (some t123)) else (none))) (fun k => ?_) ?_⟩
    · rw [lombardref01_Two.l0, if_neg (by omega)]
    · refine Ev.bind hE (Ev.congr (f := fun n => (lombardref01_trim.f n (l ++ t)).bind fun t123 => some t123) (fun k => by rw [if_pos (by omega)]) (Ev.bind hE2 (Ev.now r)))
  | j + 1, l, hd, hj => by
    obtain ⟨r, hr, hl, hE⟩ := two_loop hi h0 h1 j (l ++ [0]) (hd.append (Dig.one (by decide) (by decide))) (by simp; omega)
    rw [V_append, V_one, Int.mul_zero, Int.add_zero] at hr
    refine ⟨r, hr, hl, Ev.step (fun k => ?_) hE⟩
    rw [lombardref01_Two.l0, if_pos (by omega), if_pos (by omega)]

theorem two_is (hi lo : Int) (h0 : 0 ≤ hi) (h1 : hi < 18446744073709551616) (l0 : 0 ≤ lo) (l1 : lo < 18446744073709551616) :
    ∃ r, Is r (hi * 18446744073709551616 + lo) ∧ r.length ≤ 8 ∧ Ev (fun k => lombardref01_Two.f k hi lo) r := by
  obtain ⟨t, ht, hl, hE⟩ := of_is lo l0 l1
  obtain ⟨r, hr, hl2, hE2⟩ := two_loop hi h0 h1 (4 - t.length) t ht.norm.dig (by omega)
  rw [ht.val, show lo + 18446744073709551616 * hi = hi * 18446744073709551616 + lo by omega] at hr
  exact ⟨r, hr, hl2, Ev.bind hE hE2⟩

theorem compare_loop (a b : List Int) (ha : Dig a) (hb : Dig b) (hl : a.length = b.length) (hs : a.length < 1000000) : ∀ i : Nat, i ≤ a.length → V (a.drop i) = V (b.drop i) →
    ∃ c, (c < 0 ↔ V a < V b) ∧ (c = 0 ↔ V a = V b) ∧ -1 ≤ c ∧ c ≤ 1 ∧ Ev (fun k => lombardref01_Compare.l0 k a b ((i : Int) - 1)) c
  | 0, hi, hv => by
    have hv' : V a = V b := by simpa using hv
    refine ⟨0, by omega, by omega, by omega, by omega, Ev.step (f := fun _ => some 0) (fun k => ?_) (Ev.now _)⟩
    rw [lombardref01_Compare.l0, if_neg (by decide)]
  | i + 1, hi, hv => by
    have da := V_drop a i (by omega)
    have db := V_drop b i (by omega)
    have e0 : ((i + 1 : Nat) : Int) - 1 = (i : Int) := by omega
    have e1 : wrap64 ((i : Int) - 1) = (i : Int) - 1 := w64 _ (by omega) (by omega)
    rw [e0]
    by_cases h1 : a.getD i 0 < b.getD i 0
    · have := V_below ha hb i (by omega) (by omega) hv h1
      refine ⟨-1, by omega, by omega, by omega, by omega, Ev.step (f := fun _ => some (-1)) (fun k => ?_) (Ev.now _)⟩
      rw [lombardref01_Compare.l0, if_pos (by omega), if_pos (by omega), if_pos (by omega), if_pos (by omega), rd_nat, rd_nat, if_pos h1]
    · by_cases h2 : a.getD i 0 > b.getD i 0
      · have := V_below hb ha i (by omega) (by omega) hv.symm h2
        refine ⟨1, by omega, by omega, by omega, by omega, Ev.step (f := fun _ => some 1) (fun k => ?_) (Ev.now _)⟩
        rw [lombardref01_Compare.l0, if_pos (by omega), if_pos (by omega), if_pos (by omega), if_pos (by omega), rd_nat, rd_nat, if_neg h1, if_pos h2]
      · obtain ⟨c, c1, c2, c3, c4, hE⟩ := compare_loop a b ha hb hl hs i (by omega) (by rw [da, db, hv]; omega)
        refine ⟨c, c1, c2, c3, c4, Ev.step (fun k => ?_) hE⟩
        rw [lombardref01_Compare.l0, if_pos (by omega), if_pos (by omega), if_pos (by omega), if_pos (by omega), rd_nat, rd_nat, if_neg h1, if_neg h2, e1]

theorem compare_is {a b : List Int} {m n : Int} (ha : Is a m) (hb : Is b n) (la : a.length < 1000000) (lb : b.length < 1000000) :
    ∃ c, (c < 0 ↔ m < n) ∧ (c = 0 ↔ m = n) ∧ Ev (fun k => lombardref01_Compare.f k a b) c := by
  by_cases hl : (a.length : Int) = (b.length : Int)
  · obtain ⟨c, c1, c2, _, _, hE⟩ := compare_loop a b ha.norm.dig hb.norm.dig (by omega) la a.length (Nat.le_refl _) (by rw [V_drop_len, show a.length = b.length by omega, V_drop_len])
    rw [ha.val, hb.val] at c1 c2
    refine ⟨c, c1, c2, Ev.congr (fun k => ?_) hE⟩
    unfold lombardref01_Compare.f
    rw [if_pos hl, w64 _ (by omega) (by omega)]
  · refine ⟨(a.length : Int) - b.length, ?_, ?_, Ev.congr (fun k => ?_) (Ev.now _)⟩
    · constructor
      · intro h; exact ha.shorter hb (by omega)
      · intro h
        by_cases h2 : a.length < b.length
        · omega
        · have := hb.shorter ha (by omega); omega
    · constructor
      · intro h; omega
      · intro h
        have := ha.eq (h ▸ hb)
        subst this; omega
    · unfold lombardref01_Compare.f
      rw [if_neg hl, w64 _ (by omega) (by omega)]

theorem add_j1 (a b out : List Int) (c : Int) (i : Nat) (ha : Dig a) (hb : Dig b) (hc0 : 0 ≤ c) (hc1 : c ≤ 1) (hi : i < 1000000) (ho : out.length < 1000000) {r : List Int}
    (h : Ev (fun k => lombardref01_Add.l0 k a b (out ++ [(c + a.getD i 0 + b.getD i 0) % 65536]) ((c + a.getD i 0 + b.getD i 0) / 65536) ((i + 1 : Nat) : Int)) r) :
    Ev (fun k => lombardref01_Add.j1 k a b out c (i : Int) true) r := by
  have ga := ha.getD i
  have gb := hb.getD i
  refine Ev.step (fun k => ?_) h
  have e3 : wrap64 ((i : Int) + 1) = ((i + 1 : Nat) : Int) := by rw [w64 _ (by omega) (by omega)]; omega
  have md : ∀ x : Int, 0 ≤ x → x < 1000000000 → Int.tmod x 65536 = x % 65536 ∧ IntKind.u64.wrap (Int.tdiv x 65536) = x / 65536 ∧ IntKind.u64.wrap x = x := fun x h0 h1 =>
    ⟨Int.tmod_eq_emod_of_nonneg h0, by rw [Int.tdiv_eq_ediv_of_nonneg h0]; exact u64_id _ (by omega) (by omega), u64_id _ h0 (by omega)⟩
  rw [lombardref01_Add.j1, if_pos rfl]
  by_cases h1 : (i : Int) < (a.length : Int)
  · rw [if_pos h1, if_pos (by omega)]
    by_cases h2 : (i : Int) < (b.length : Int)
    · rw [if_pos h2, if_pos (by omega), rd_nat, rd_nat, (md (c + a.getD i 0) (by omega) (by omega)).2.2]
      obtain ⟨m1, m2, m3⟩ := md (c + a.getD i 0 + b.getD i 0) (by omega) (by omega)
      rw [m3, m1, m2, e3]
    · have z : b.getD i 0 = 0 := getD_none b i (by omega)
      rw [if_neg h2, if_pos (by omega), rd_nat, z, Int.add_zero]
      obtain ⟨m1, m2, m3⟩ := md (c + a.getD i 0) (by omega) (by omega)
      rw [m3, m1, m2, e3]
  · have za : a.getD i 0 = 0 := getD_none a i (by omega)
    rw [if_neg h1]
    by_cases h2 : (i : Int) < (b.length : Int)
    · rw [if_pos h2, if_pos (by omega), if_pos (by omega), rd_nat, za, Int.add_zero]
      obtain ⟨m1, m2, m3⟩ := md (c + b.getD i 0) (by omega) (by omega)
      rw [m3, m1, m2, e3]
    · have z : b.getD i 0 = 0 := getD_none b i (by omega)
      rw [if_neg h2, if_pos (by omega), z, za, Int.add_zero, Int.add_zero]
      obtain ⟨m1, m2, m3⟩ := md c (by omega) (by omega)
      rw [m1, m2, e3]

theorem add_step (a b out : List Int) (c : Int) (i : Nat) (ha : Dig a) (hb : Dig b) (hc0 : 0 ≤ c) (hc1 : c ≤ 1) (hi : i < 1000000) (ho : out.length < 1000000) (act : i < a.length ∨ i < b.length ∨ 0 < c) {r : List Int}
    (h : Ev (fun k => lombardref01_Add.l0 k a b (out ++ [(c + a.getD i 0 + b.getD i 0) % 65536]) ((c + a.getD i 0 + b.getD i 0) / 65536) ((i + 1 : Nat) : Int)) r) :
    Ev (fun k => lombardref01_Add.l0 k a b out c (i : Int)) r := by
  refine Ev.step (fun k => ?_) (add_j1 a b out c i ha hb hc0 hc1 hi ho h)
  rw [lombardref01_Add.l0]
  by_cases h1 : (i : Int) < (a.length : Int)
  · rw [if_pos h1]
  · rw [if_neg h1]
    by_cases h2 : (i : Int) < (b.length : Int)
    · rw [if_pos h2]
    · rw [if_neg h2, decide_eq_true (by omega)]

theorem add_loop (a b : List Int) (ha : Dig a) (hb : Dig b) (M : Nat) (hM : M < 900000) (la : a.length ≤ M) (lb : b.length ≤ M) : ∀ (j i : Nat) (out : List Int) (c : Int), M + 1 = i + j → out.length = i → Dig out → 0 ≤ c → c ≤ 1 →
    V out + c * P i = V (a.take i) + V (b.take i) → ∃ r, Is r (V a + V b) ∧ r.length ≤ M + 1 ∧ Ev (fun k => lombardref01_Add.l0 k a b out c (i : Int)) r
  | j, i, out, c, hj, ho, hd, hc0, hc1, hv => by
    by_cases act : i < a.length ∨ i < b.length ∨ 0 < c
    · obtain ⟨j, rfl⟩ : ∃ n, j = n + 1 := by
        cases j with
        | succ n => exact ⟨n, rfl⟩
        | zero =>
          exfalso
          have hcp : 0 < c := by omega
          rw [List.take_of_length_le (by omega), List.take_of_length_le (by omega)] at hv
          have h1 := V_lt ha
          have h2 := V_lt hb
          have h3 := P_mono la
          have h4 := P_mono lb
          have h5 := V_nonneg hd
          have h6 : P i = 65536 * P M := by rw [show i = M + 1 by omega, P_succ]
          have h7 : 1 * P i ≤ c * P i := Int.mul_le_mul_of_nonneg_right (by omega) (by have := P_pos i; omega)
          have h8 := P_pos M
          omega
      have ga := ha.getD i
      have gb := hb.getD i
      have e : (c + a.getD i 0 + b.getD i 0) / 65536 * P (i + 1) + P i * ((c + a.getD i 0 + b.getD i 0) % 65536) = P i * (c + a.getD i 0 + b.getD i 0) := by
        rw [P_succ, ← Int.mul_assoc, Int.mul_comm _ (P i), ← Int.mul_add]
        have : (c + a.getD i 0 + b.getD i 0) / 65536 * 65536 + (c + a.getD i 0 + b.getD i 0) % 65536 = c + a.getD i 0 + b.getD i 0 := by omega
        rw [this]
      obtain ⟨r, hr, hl, hE⟩ := add_loop a b ha hb M hM la lb j (i + 1) (out ++ [(c + a.getD i 0 + b.getD i 0) % 65536]) ((c + a.getD i 0 + b.getD i 0) / 65536) (by omega) (by simp; omega)
        (hd.append (Dig.one (by omega) (by omega))) (by omega) (by omega)
        (by rw [V_append, V_one, V_take_succ, V_take_succ, ho]
            have e2 : P i * (c + a.getD i 0 + b.getD i 0) = c * P i + P i * a.getD i 0 + P i * b.getD i 0 := by rw [Int.mul_add, Int.mul_add, Int.mul_comm (P i) c]
            omega)
      exact ⟨r, hr, hl, add_step a b out c i ha hb hc0 hc1 (by omega) (by omega) act hE⟩
    · obtain rfl : c = 0 := by omega
      rw [List.take_of_length_le (by omega), List.take_of_length_le (by omega), Int.zero_mul, Int.add_zero] at hv
      obtain ⟨r, hr, hl, hE⟩ := trim_is out hd (by omega)
      rw [hv] at hr
      refine ⟨r, hr, by omega, Ev.step (f := fun k => lombardref01_Add.j1 k a b out 0 (i : Int) false) (fun k => ?_) (Ev.step (f := fun k => (lombardref01_trim.f k out).bind fun t283 => (some t283)) (fun k => ?_) (Ev.bind hE (Ev.now r)))⟩
      · rw [lombardref01_Add.l0, if_neg (by omega), if_neg (by omega)]; rfl
      · rw [lombardref01_Add.j1, if_neg (by decide)]

theorem add_is {a b : List Int} {m n : Int} (ha : Is a m) (hb : Is b n) (M : Nat) (hM : M < 900000) (la : a.length ≤ M) (lb : b.length ≤ M) :
    ∃ r, Is r (m + n) ∧ r.length ≤ M + 1 ∧ Ev (fun k => lombardref01_Add.f k a b) r := by
  obtain ⟨r, hr, hl, hE⟩ := add_loop a b ha.norm.dig hb.norm.dig M hM la lb (M + 1) 0 [] 0 (by omega) rfl Dig.nil (by decide) (by decide) rfl
  rw [ha.val, hb.val] at hr
  exact ⟨r, hr, hl, hE⟩

theorem sub_step (a b out : List Int) (c : Int) (i : Nat) (ha : Dig a) (hb : Dig b) (hc0 : 0 ≤ c) (hc1 : c ≤ 1) (hi : i < 1000000) (ho : out.length < 1000000) (hia : i < a.length) {r : List Int}
    (h : Ev (fun k => lombardref01_Sub.l0 k a b (out ++ [(a.getD i 0 + 65536 - c - b.getD i 0) % 65536]) (1 - (a.getD i 0 + 65536 - c - b.getD i 0) / 65536) ((i + 1 : Nat) : Int)) r) :
    Ev (fun k => lombardref01_Sub.l0 k a b out c (i : Int)) r := by
  have ga := ha.getD i
  have gb := hb.getD i
  refine Ev.step (fun k => ?_) h
  have e3 : wrap64 ((i : Int) + 1) = ((i + 1 : Nat) : Int) := by rw [w64 _ (by omega) (by omega)]; omega
  have md : ∀ x : Int, 0 ≤ x → x < 1000000000 → Int.tmod x 65536 = x % 65536 ∧ IntKind.u64.wrap (Int.tdiv x 65536) = x / 65536 ∧ IntKind.u64.wrap x = x := fun x h0 h1 =>
    ⟨Int.tmod_eq_emod_of_nonneg h0, by rw [Int.tdiv_eq_ediv_of_nonneg h0]; exact u64_id _ (by omega) (by omega), u64_id _ h0 (by omega)⟩
  rw [lombardref01_Sub.l0, if_pos (by omega), if_pos (by omega), rd_nat]
  have w1 := (md (a.getD i 0 + 65536) (by omega) (by omega)).2.2
  have w2 := (md (a.getD i 0 + 65536 - c) (by omega) (by omega)).2.2
  obtain ⟨m1, m2, m3⟩ := md (a.getD i 0 + 65536 - c - b.getD i 0) (by omega) (by omega)
  have w4 : IntKind.u64.wrap (1 - (a.getD i 0 + 65536 - c - b.getD i 0) / 65536) = 1 - (a.getD i 0 + 65536 - c - b.getD i 0) / 65536 := u64_id _ (by omega) (by omega)
  by_cases h2 : (i : Int) < (b.length : Int)
  · rw [if_pos h2, if_pos (by omega), rd_nat, w1, w2, m3, m1, m2, w4, e3]
  · have z : b.getD i 0 = 0 := getD_none b i (by omega)
    rw [z, Int.sub_zero] at m1 m2 m3 w4
    rw [if_neg h2, if_pos (by omega), w1, w2, m1, m2, w4, e3, z, Int.sub_zero]

theorem sub_loop (a b : List Int) (ha : Dig a) (hb : Dig b) (la : a.length < 900000) (hle : V b ≤ V a) (hlen : b.length ≤ a.length) : ∀ (j i : Nat) (out : List Int) (c : Int), a.length = i + j → out.length = i → Dig out → 0 ≤ c → c ≤ 1 →
    V out - c * P i = V (a.take i) - V (b.take i) → ∃ r, Is r (V a - V b) ∧ r.length ≤ a.length ∧ Ev (fun k => lombardref01_Sub.l0 k a b out c (i : Int)) r
  | 0, i, out, c, hj, ho, hd, hc0, hc1, hv => by
    rw [List.take_of_length_le (by omega), List.take_of_length_le (by omega)] at hv
    have h1 := V_lt hd
    rw [ho] at h1
    obtain rfl : c = 0 := by
      by_cases h : c = 1
      · subst h; omega
      · omega
    rw [Int.zero_mul, Int.sub_zero] at hv
    obtain ⟨r, hr, hl, hE⟩ := trim_is out hd (by omega)
    rw [hv] at hr
    refine ⟨r, hr, by omega, Ev.step (f := fun k => (lombardref01_trim.f k out).bind fun t222 => (some t222)) (fun k => ?_) (Ev.bind hE (Ev.now r))⟩
    rw [lombardref01_Sub.l0, if_neg (by omega)]
  | j + 1, i, out, c, hj, ho, hd, hc0, hc1, hv => by
    have ga := ha.getD i
    have gb := hb.getD i
    have e : P i * ((a.getD i 0 + 65536 - c - b.getD i 0) % 65536) - (1 - (a.getD i 0 + 65536 - c - b.getD i 0) / 65536) * P (i + 1) = P i * (a.getD i 0 - c - b.getD i 0) := by
      rw [P_succ, ← Int.mul_assoc, Int.mul_comm _ (P i), ← Int.mul_sub]
      have : (a.getD i 0 + 65536 - c - b.getD i 0) % 65536 - (1 - (a.getD i 0 + 65536 - c - b.getD i 0) / 65536) * 65536 = a.getD i 0 - c - b.getD i 0 := by omega
      rw [this]
    have e2 : P i * (a.getD i 0 - c - b.getD i 0) = P i * a.getD i 0 - c * P i - P i * b.getD i 0 := by rw [Int.mul_sub, Int.mul_sub, Int.mul_comm (P i) c]
    obtain ⟨r, hr, hl, hE⟩ := sub_loop a b ha hb la hle hlen j (i + 1) (out ++ [(a.getD i 0 + 65536 - c - b.getD i 0) % 65536]) (1 - (a.getD i 0 + 65536 - c - b.getD i 0) / 65536) (by omega) (by simp; omega)
      (hd.append (Dig.one (by omega) (by omega))) (by omega) (by omega)
      (by rw [V_append, V_one, V_take_succ, V_take_succ, ho]; omega)
    exact ⟨r, hr, hl, sub_step a b out c i ha hb hc0 hc1 (by omega) (by omega) (by omega) hE⟩

theorem sub_is {a b : List Int} {m n : Int} (ha : Is a m) (hb : Is b n) (la : a.length < 900000) (hle : n ≤ m) :
    ∃ r, Is r (m - n) ∧ r.length ≤ a.length ∧ Ev (fun k => lombardref01_Sub.f k a b) r := by
  have hlen : b.length ≤ a.length := by
    by_cases h : b.length ≤ a.length
    · exact h
    · have := ha.shorter hb (by omega); omega
  obtain ⟨r, hr, hl, hE⟩ := sub_loop a b ha.norm.dig hb.norm.dig la (by rw [ha.val, hb.val]; exact hle) hlen a.length 0 [] 0 (by omega) rfl Dig.nil (by decide) (by decide) rfl
  rw [ha.val, hb.val] at hr
  exact ⟨r, hr, hl, hE⟩

end Go.Proofs.Ytjbpblcohlainaa.Print

namespace Go.Proofs.Ytjbpblcohlainaa.Print
open Go.RowKit Go.Proofs.YtjbpblcohlainaaW.PrintWords Go.Proofs.YtjbpblcohlainaaW.PrintLast Go.Proofs.YtjbpblcohlainaaW.PrintMore Go.Pm.Arith Go.Pm.Big
set_option linter.unusedVariables false
set_option linter.unusedSimpArgs false

theorem md_small (x : Int) (h0 : 0 ≤ x) (h1 : x < 10000000000) : Int.tmod x 65536 = x % 65536 ∧ IntKind.u64.wrap (Int.tdiv x 65536) = x / 65536 ∧ IntKind.u64.wrap x = x := by
  refine ⟨Int.tmod_eq_emod_of_nonneg h0, ?_, ?_⟩
  · rw [Int.tdiv_eq_ediv_of_nonneg h0, u64_wrap]; omega
  · rw [u64_wrap]; omega

theorem prod_small {x y : Int} (hx : 0 ≤ x ∧ x < 65536) (hy : 0 ≤ y ∧ y < 65536) : 0 ≤ x * y ∧ x * y ≤ 4294836225 := by
  refine ⟨Int.mul_nonneg hx.1 hy.1, ?_⟩
  have := Int.mul_le_mul (a := x) (b := y) (c := 65535) (d := 65535) (by omega) (by omega) hy.1 (by decide)
  simpa using this

theorem mul_step (a b out : List Int) (c : Int) (i k : Nat) (ai bk o : Int) (hai : a.getD i 0 = ai) (hbk : b.getD k 0 = bk) (hob : out.getD (i + k) 0 = o) (ga : 0 ≤ ai ∧ ai < 65536) (gb : 0 ≤ bk ∧ bk < 65536) (go : 0 ≤ o ∧ o < 65536)
    (hc0 : 0 ≤ c) (hc1 : c ≤ 65535) (hi : i < a.length) (la : a.length < 1000000) (hk : i + k < out.length) (hk2 : k < 1000000)
    (act : k < b.length ∨ 0 < c) {r : List Int}
    (h : Ev (fun n => lombardref01_Mul.l1 n a b (out.set (i + k) ((o + c + ai * bk) % 65536)) (i : Int) ((o + c + ai * bk) / 65536) ((k + 1 : Nat) : Int)) r) :
    Ev (fun n => lombardref01_Mul.l1 n a b out (i : Int) c (k : Int)) r := by
  obtain ⟨p0, p1⟩ := prod_small ga gb
  have c1 : 0 ≤ ((i + k : Nat) : Int) := by omega
  have c2 : ((i + k : Nat) : Int) < (out.length : Int) := by omega
  have c3 : 0 ≤ (i : Int) := by omega
  have c4 : (i : Int) < (a.length : Int) := by omega
  have c5 : 0 ≤ (k : Int) := by omega
  have c6 : ¬ (k : Int) < (b.length : Int) → decide (c > 0) = true ∧ b.length ≤ k := fun h1 => ⟨decide_eq_true (by omega), by omega⟩
  have b1 : 0 ≤ o + c ∧ o + c < 10000000000 := by omega
  have b2 : ai * bk < 10000000000 := by omega
  have b3 : 0 ≤ o + c + ai * bk ∧ o + c + ai * bk < 10000000000 := by omega
  have b4 : (i : Int) + k < 9223372036854775808 ∧ (k : Int) + 1 < 9223372036854775808 ∧ (i : Int) + k = ((i + k : Nat) : Int) ∧ (k : Int) + 1 = ((k + 1 : Nat) : Int) := by omega
  have b5 : -9223372036854775808 ≤ (i : Int) + k ∧ -9223372036854775808 ≤ (k : Int) + 1 := by omega
  have e1 : wrap64 ((i : Int) + (k : Int)) = ((i + k : Nat) : Int) := (w64 _ b5.1 b4.1).trans b4.2.2.1
  have e3 : wrap64 ((k : Int) + 1) = ((k + 1 : Nat) : Int) := (w64 _ b5.2 b4.2.1).trans b4.2.2.2
  refine Ev.step (f := fun n => lombardref01_Mul.j2 n a b out (i : Int) c (k : Int) true) (fun n => ?_) (Ev.step (fun n => ?_) h)
  · rw [lombardref01_Mul.l1]
    by_cases h1 : (k : Int) < (b.length : Int)
    · rw [if_pos h1]
    · rw [if_neg h1, (c6 h1).1]
  · rw [lombardref01_Mul.j2, if_pos rfl, e1, if_pos c1, if_pos c2]
    by_cases h1 : (k : Int) < (b.length : Int)
    · obtain ⟨m1, m2, m3⟩ := md_small (o + c + ai * bk) b3.1 b3.2
      rw [if_pos h1, if_pos c3, if_pos c4, if_pos c5, rd_nat, rd_nat, rd_nat, hai, hbk, hob, (md_small _ b1.1 b1.2).2.2, (md_small _ p0 b2).2.2, m3, m1, m2, e3, Int.toNat_natCast]
    · have z : bk = 0 := by rw [← hbk]; exact getD_none b k (c6 h1).2
      obtain ⟨n1, n2, n3⟩ := md_small (o + c) b1.1 b1.2
      rw [if_neg h1, rd_nat, hob, n3, n1, n2, e3, Int.toNat_natCast, z, Int.mul_zero, Int.add_zero]

theorem mul_inner (a b : List Int) (i : Nat) (ai : Int) (hai : a.getD i 0 = ai) (ga : 0 ≤ ai ∧ ai < 65536) (hb : Dig b) (hi : i < a.length) (la : a.length < 900000) (lb : b.length < 90000) (X : Int)
    (hX : X + ai * V b * P i < P (i + 1 + b.length)) : ∀ (j k : Nat) (out : List Int) (c : Int), b.length + 1 = k + j → Dig out → out.length = a.length + b.length + 1 → 0 ≤ c → c ≤ 65535 →
      V out + c * P (i + k) = X + ai * V (b.take k) * P i →
      ∃ out', Dig out' ∧ out'.length = a.length + b.length + 1 ∧ V out' = X + ai * V b * P i ∧
        ∀ r, Ev (fun n => lombardref01_Mul.l0 n a b out' ((i + 1 : Nat) : Int)) r → Ev (fun n => lombardref01_Mul.l1 n a b out (i : Int) c (k : Int)) r
  | j, k, out, c, hj, hd, hl, hc0, hc1, hv => by
    by_cases act : k < b.length ∨ 0 < c
    · obtain ⟨j, rfl⟩ : ∃ n, j = n + 1 := by
        cases j with
        | succ n => exact ⟨n, rfl⟩
        | zero =>
          exfalso
          rw [List.take_of_length_le (by omega)] at hv
          have h5 := V_nonneg hd
          have h6 : P (i + k) = P (i + 1 + b.length) := by rw [show i + k = i + 1 + b.length by omega]
          have h7 : 1 * P (i + k) ≤ c * P (i + k) := Int.mul_le_mul_of_nonneg_right (by omega) (by have := P_pos (i + k); omega)
          omega
      obtain ⟨bk, hbk⟩ : ∃ x, b.getD k 0 = x := ⟨_, rfl⟩
      obtain ⟨o, hob⟩ : ∃ x, out.getD (i + k) 0 = x := ⟨_, rfl⟩
      have gb : 0 ≤ bk ∧ bk < 65536 := hbk ▸ hb.getD k
      have go : 0 ≤ o ∧ o < 65536 := hob ▸ hd.getD (i + k)
      obtain ⟨p0, p1⟩ := prod_small ga gb
      have hik : i + k < out.length := by omega
      have es := V_set out (i + k) ((o + c + ai * bk) % 65536) hik
      rw [hob] at es
      have e1 : ai * V (b.take (k + 1)) * P i = ai * V (b.take k) * P i + ai * bk * P (i + k) := by
        rw [V_take_succ, hbk, Int.mul_add, Int.add_mul, P_add, Int.mul_comm (P k) bk, ← Int.mul_assoc, Int.mul_assoc (ai * bk), Int.mul_comm (P k) (P i)]
      have e2 : ((o + c + ai * bk) % 65536 - o) * P (i + k) + (o + c + ai * bk) / 65536 * P (i + (k + 1)) = c * P (i + k) + ai * bk * P (i + k) := by
        have e4 : P (i + (k + 1)) = 65536 * P (i + k) := P_succ (i + k)
        rw [e4, ← Int.mul_assoc, ← Int.add_mul, ← Int.add_mul]
        generalize ai * bk = ab at *
        have : (o + c + ab) % 65536 - o + (o + c + ab) / 65536 * 65536 = c + ab := by omega
        rw [this]
      have b0 : 0 ≤ (o + c + ai * bk) % 65536 ∧ (o + c + ai * bk) % 65536 < 65536 ∧ 0 ≤ (o + c + ai * bk) / 65536 ∧ (o + c + ai * bk) / 65536 ≤ 65535 := by
        generalize ai * bk = ab at *
        omega
      obtain ⟨out', d', l', v', hE⟩ := mul_inner a b i ai hai ga hb hi la lb X hX j (k + 1) (out.set (i + k) ((o + c + ai * bk) % 65536)) ((o + c + ai * bk) / 65536) (by omega)
        (hd.set _ b0.1 b0.2.1) (by rw [List.length_set]; exact hl) b0.2.2.1 b0.2.2.2 (by rw [es, e1]; omega)
      exact ⟨out', d', l', v', fun r hr => mul_step a b out c i k ai bk o hai hbk hob ga gb go hc0 hc1 hi (by omega) hik (by omega) act (hE r hr)⟩
    · obtain rfl : c = 0 := by omega
      rw [List.take_of_length_le (by omega), Int.zero_mul, Int.add_zero] at hv
      refine ⟨out, hd, hl, hv, fun r hr => Ev.step (f := fun n => lombardref01_Mul.j2 n a b out (i : Int) 0 (k : Int) false) (fun n => ?_) (Ev.step (fun n => ?_) hr)⟩
      · rw [lombardref01_Mul.l1, if_neg (by omega)]; rfl
      · have e3 : wrap64 ((i : Int) + 1) = ((i + 1 : Nat) : Int) := by rw [w64 _ (by omega) (by omega)]; omega
        rw [lombardref01_Mul.j2, if_neg (by decide), e3]

theorem mul_lt {x y p q : Int} (hx : 0 ≤ x) (hxp : x < p) (hy : 0 ≤ y) (hyq : y < q) : x * y < p * q := by
  have h1 : x * y ≤ x * q := Int.mul_le_mul_of_nonneg_left (by omega) hx
  have h2 : x * q ≤ (p - 1) * q := Int.mul_le_mul_of_nonneg_right (by omega) (by omega)
  rw [Int.sub_mul, Int.one_mul] at h2
  omega

theorem mul_loop (a b : List Int) (ha : Dig a) (hb : Dig b) (la : a.length < 90000) (lb : b.length < 90000) : ∀ (j i : Nat) (out : List Int), a.length = i + j → Dig out → out.length = a.length + b.length + 1 → V out = V (a.take i) * V b →
    ∃ r, Is r (V a * V b) ∧ r.length ≤ a.length + b.length + 1 ∧ Ev (fun n => lombardref01_Mul.l0 n a b out (i : Int)) r
  | 0, i, out, hj, hd, hl, hv => by
    rw [List.take_of_length_le (by omega)] at hv
    obtain ⟨r, hr, hrl, hE⟩ := trim_is out hd (by omega)
    rw [hv] at hr
    refine ⟨r, hr, by omega, Ev.step (f := fun n => (lombardref01_trim.f n out).bind fun t139 => (some t139)) (fun n => ?_) (Ev.bind hE (Ev.now r))⟩
    rw [lombardref01_Mul.l0, if_neg (by omega)]
  | j + 1, i, out, hj, hd, hl, hv => by
    have e1 : V (a.take i) * V b + a.getD i 0 * V b * P i = V (a.take (i + 1)) * V b := by
      rw [V_take_succ, Int.add_mul, Int.mul_assoc, Int.mul_comm (V b) (P i), ← Int.mul_assoc, Int.mul_comm (a.getD i 0) (P i)]
    have hX : V (a.take i) * V b + a.getD i 0 * V b * P i < P (i + 1 + b.length) := by
      rw [e1, P_add]
      have h1 := V_lt (ha.take (i + 1))
      rw [List.length_take, Nat.min_eq_left (by omega)] at h1
      exact mul_lt (V_nonneg (ha.take _)) h1 (V_nonneg hb) (V_lt hb)
    obtain ⟨out', d', l', v', hE⟩ := mul_inner a b i _ rfl (ha.getD i) hb (by omega) (by omega) lb _ hX (b.length + 1) 0 out 0 (by omega) hd hl (by decide) (by decide) (by rw [Int.zero_mul, Int.add_zero, hv, List.take_zero]; show _ = _ + a.getD i 0 * 0 * P i; rw [Int.mul_zero, Int.zero_mul, Int.add_zero])
    rw [e1] at v'
    obtain ⟨r, hr, hrl, hE2⟩ := mul_loop a b ha hb la lb j (i + 1) out' (by omega) d' l' v'
    refine ⟨r, hr, hrl, Ev.step (fun n => ?_) (hE r hE2)⟩
    rw [lombardref01_Mul.l0, if_pos (by omega)]; rfl

theorem mul_is2 {a b : List Int} {m n : Int} (ha : Is a m) (hb : Is b n) (la : a.length < 90000) (lb : b.length < 90000) :
    ∃ r, Is r (m * n) ∧ r.length ≤ a.length + b.length + 1 ∧ Ev (fun k => lombardref01_Mul.f k a b) r := by
  obtain ⟨r, hr, hl, hE⟩ := mul_loop a b ha.norm.dig hb.norm.dig la lb a.length 0 (List.replicate (a.length + b.length + 1) 0) (by omega) (Dig.zeros _) (by simp) (by rw [V_zeros, List.take_zero]; show _ = 0 * _; rw [Int.zero_mul])
  rw [ha.val, hb.val] at hr
  refine ⟨r, hr, hl, Ev.congr (fun k => ?_) hE⟩
  have e1 : wrap64 ((a.length : Int) + (b.length : Int)) = (a.length : Int) + b.length := w64 _ (by omega) (by omega)
  have e2 : wrap64 ((a.length : Int) + (b.length : Int) + 1) = ((a.length + b.length + 1 : Nat) : Int) := by rw [w64 _ (by omega) (by omega)]; omega
  unfold lombardref01_Mul.f
  rw [e1, e2, if_pos (by omega), Int.toNat_natCast, if_pos (by omega)]; rfl

end Go.Proofs.Ytjbpblcohlainaa.Print

namespace Go.Proofs.Ytjbpblcohlainaa.Print
open Go.RowKit Go.Proofs.YtjbpblcohlainaaW.PrintWords Go.Proofs.YtjbpblcohlainaaW.PrintLast Go.Proofs.YtjbpblcohlainaaW.PrintMore Go.Pm.Arith Go.Pm.Big
set_option linter.unusedVariables false
set_option linter.unusedSimpArgs false

theorem wrap_half (x y : Int) (hx : 0 ≤ x) (hy : 0 ≤ y) (hx' : x ≤ 65536) (hy' : y ≤ 65536) : IntKind.u64.wrap (Int.tdiv (IntKind.u64.wrap (x + y)) 2) = (x + y) / 2 := by
  rw [u64_id (x + y) (by omega) (by omega), Int.tdiv_eq_ediv_of_nonneg (by omega), u64_id _ (by omega) (by omega)]

theorem wrap_sub (x y : Int) (hx : x ≤ y) (h0 : 0 ≤ x) (hy' : y ≤ 65536) : IntKind.u64.wrap (y - x) = y - x := u64_id _ (by omega) (by omega)

theorem div_bisect (a b q rest : List Int) (n R : Int) (i : Nat) (hb : Is b n) (hr : Is rest R) (lb : b.length < 1000) (lr : rest.length < 10000) (hi : i < q.length) :
    ∀ (j : Nat) (least most : Int), most - least ≤ 2 ^ j → 0 ≤ least → least < most → most ≤ 65536 → least * n ≤ R → R < most * n →
    ∃ x, 0 ≤ x ∧ x < 65536 ∧ x * n ≤ R ∧ R < (x + 1) * n ∧
      ∀ r, Ev (fun k => (lombardref01_Of.f k x).bind fun t242 => ((lombardref01_Mul.f k t242 b).bind fun t245 => ((lombardref01_Sub.f k rest t245).bind fun t248 => (lombardref01_Div.l0 k a b (q.set i x) t248 (wrap64 ((i : Int) - 1)))))) r →
        Ev (fun k => lombardref01_Div.l1 k a b q rest (i : Int) least most) r
  | j, least, most, hj, h0, h1, h2, h3, h4 => by
    by_cases c : most - least > 1
    · obtain ⟨j, rfl⟩ : ∃ i, j = i + 1 := ⟨j - 1, by cases j with | zero => simp at hj; omega | succ i => rfl⟩
      have e2 : (2 : Int) ^ (j + 1) = 2 ^ j * 2 := Int.pow_succ _ _
      have hp : (0 : Int) < 2 ^ j := Int.pow_pos (by decide)
      obtain ⟨t, ht, hl, hE⟩ := of_is ((least + most) / 2) (by omega) (by omega)
      obtain ⟨t2, ht2, hl2, hE2⟩ := mul_is2 ht hb (by omega) (by omega)
      obtain ⟨c2, k1, k2, hE3⟩ := compare_is ht2 hr (by omega) (by omega)
      have wh := wrap_half least most h0 (by omega) (by omega) h2
      have ws := wrap_sub least most (by omega) h0 h2
      have step : ∀ r, Ev (fun k => if c2 ≤ 0 then (lombardref01_Div.l1 k a b q rest (i : Int) ((least + most) / 2) most) else (lombardref01_Div.l1 k a b q rest (i : Int) least ((least + most) / 2))) r →
          Ev (fun k => lombardref01_Div.l1 k a b q rest (i : Int) least most) r := fun r h => by
        refine Ev.step (f := fun k => ((lombardref01_Of.f k ((least + most) / 2)).bind fun t251 => ((lombardref01_Mul.f k t251 b).bind fun t254 => ((lombardref01_Compare.f k t254 rest).bind fun t257 => (if t257 ≤ 0 then (lombardref01_Div.l1 k a b q rest (i : Int) ((least + most) / 2) most) else (lombardref01_Div.l1 k a b q rest (i : Int) least ((least + most) / 2))))))) (fun k => ?_) (Ev.bind hE (Ev.bind hE2 (Ev.bind hE3 h)))
        rw [lombardref01_Div.l1, ws, if_pos c, wh]
      by_cases c3 : (least + most) / 2 * n ≤ R
      · have c4 : c2 ≤ 0 := by omega
        obtain ⟨x, x0, x1, x2, x3, hx⟩ := div_bisect a b q rest n R i hb hr lb lr hi j ((least + most) / 2) most (by omega) (by omega) (by omega) h2 c3 h4
        exact ⟨x, x0, x1, x2, x3, fun r h => step r (Ev.congr (fun k => by rw [if_pos c4]) (hx r h))⟩
      · have c4 : ¬ c2 ≤ 0 := by omega
        obtain ⟨x, x0, x1, x2, x3, hx⟩ := div_bisect a b q rest n R i hb hr lb lr hi j least ((least + most) / 2) (by omega) h0 (by omega) (by omega) h3 (by omega)
        exact ⟨x, x0, x1, x2, x3, fun r h => step r (Ev.congr (fun k => by rw [if_neg c4]) (hx r h))⟩
    · obtain rfl : most = least + 1 := by omega
      have ws := wrap_sub least (least + 1) (by omega) h0 h2
      have hiz : (i : Int) < (q.length : Int) := by omega
      refine ⟨least, h0, by omega, h3, h4, fun r h => Ev.step (fun k => ?_) h⟩
      rw [lombardref01_Div.l1, ws, if_neg c, if_pos (Int.natCast_nonneg _), if_pos hiz, Int.toNat_natCast]

theorem div_loop (a b : List Int) (m n : Int) (ha : Is a m) (hb : Is b n) (hn : 0 < n) (la : a.length < 1000) (lb : b.length < 1000) : ∀ (i : Nat) (q rest : List Int) (R : Int), i ≤ a.length → Dig q → q.length = a.length →
    (∀ j, j < i → q.getD j 0 = 0) → Is rest R → R < n → V q * n + P i * R = P i * V (a.drop i) →
    ∃ q' r', Is q' (m / n) ∧ Is r' (m % n) ∧ q'.length ≤ a.length ∧ r'.length ≤ b.length ∧ Ev (fun k => lombardref01_Div.l0 k a b q rest ((i : Int) - 1)) (q', r')
  | 0, q, rest, R, hi, hd, hl, hz, hr, hR, hv => by
    obtain ⟨q', hq, hql, hE⟩ := trim_is q hd (by omega)
    have h0 := hr.nonneg
    rw [P_zero, Int.one_mul, Int.one_mul, List.drop_zero, ha.val] at hv
    have e1 : m / n = V q := by
      rw [← hv, Int.add_comm, Int.mul_comm, Int.add_mul_ediv_left _ _ (by omega), Int.ediv_eq_zero_of_lt h0 hR]; omega
    have e2 : m % n = R := by
      rw [← hv, Int.add_comm, Int.mul_comm, Int.add_mul_emod_self_left, Int.emod_eq_of_lt h0 hR]
    refine ⟨q', rest, e1 ▸ hq, e2 ▸ hr, by omega, hr.len_le (by have := hb.lt; omega), Ev.step (f := fun k => (lombardref01_trim.f k q).bind fun t228 => (some (t228, rest))) (fun k => ?_) (Ev.bind hE (Ev.now _))⟩
    rw [lombardref01_Div.l0, if_neg (by decide)]
  | i + 1, q, rest, R, hi, hd, hl, hz, hr, hR, hv => by
    have h0 := hr.nonneg
    have hia : i < a.length := by omega
    have hblt := hb.lt
    have lrest : rest.length ≤ b.length := hr.len_le (by omega)
    obtain ⟨d, hdd⟩ : ∃ x, a.getD i 0 = x := ⟨_, rfl⟩
    have gd : 0 ≤ d ∧ d < 65536 := hdd ▸ ha.norm.dig.getD i
    have da := V_drop a i hia
    rw [hdd] at da
    obtain ⟨t, ht, htl, hE⟩ := trim_is ([d] ++ rest) ((Dig.one gd.1 gd.2).append hr.norm.dig) (by simp; omega)
    have vt : V ([d] ++ rest) = d + 65536 * R := by rw [← hr.val]; rfl
    rw [vt] at ht
    have htl2 : t.length ≤ rest.length + 1 := by simpa using htl
    obtain ⟨x, x0, x1, x2, x3, hx⟩ := div_bisect a b q t n (d + 65536 * R) i hb ht lb (by omega) (by omega) 16 0 65536 (by decide) (by decide) (by decide) (by decide) (by omega) (by omega)
    obtain ⟨s, hs, hsl, hE2⟩ := of_is x x0 (by omega)
    obtain ⟨p, hp, hpl, hE3⟩ := mul_is2 hs hb (by omega) (by omega)
    obtain ⟨u, hu, hul, hE4⟩ := sub_is ht hp (by omega) x2
    have hzi : q.getD i 0 = 0 := hz i (by omega)
    have vs := V_set q i x (by omega)
    rw [hzi] at vs
    have xn : (x + 1) * n = x * n + n := by rw [Int.add_mul]; omega
    obtain ⟨q', r', h1, h2, h3, h4, hE5⟩ := div_loop a b m n ha hb hn la lb i (q.set i x) u (d + 65536 * R - x * n) (by omega) (hd.set i x0 x1) (by rw [List.length_set]; exact hl)
      (fun j hj => by rw [List.getD_eq_getElem?_getD, List.getElem?_set_ne (by omega), ← List.getD_eq_getElem?_getD]; exact hz j (by omega)) hu (by omega)
      (by
        rw [vs, da, Int.sub_zero, Int.add_mul, Int.mul_sub, Int.mul_add, Int.mul_add]
        rw [P_succ] at hv
        have g1 : x * P i * n = P i * (x * n) := by rw [Int.mul_comm x, Int.mul_assoc]
        have g2 : P i * (65536 * R) = 65536 * P i * R := by rw [← Int.mul_assoc, Int.mul_comm (P i) 65536]
        have g3 : P i * (65536 * V (a.drop (i + 1))) = 65536 * P i * V (a.drop (i + 1)) := by rw [← Int.mul_assoc, Int.mul_comm (P i) 65536]
        omega)
    refine ⟨q', r', h1, h2, h3, h4, ?_⟩
    have c1 : ((i + 1 : Nat) : Int) - 1 = (i : Int) := by omega
    have c2 : (i : Int) < (a.length : Int) := by omega
    have c3 : [d].length + rest.length < 17592186044416 := by simp; omega
    have c4 : -9223372036854775808 ≤ (i : Int) - 1 ∧ (i : Int) - 1 < 9223372036854775808 := by omega
    have fin := hx (q', r') (Ev.bind hE2 (Ev.bind hE3 (Ev.bind hE4 (Ev.congr (fun k => by rw [w64 _ c4.1 c4.2]) hE5))))
    refine Ev.step (f := fun k => (lombardref01_trim.f k ([d] ++ rest)).bind fun t238 => (lombardref01_Div.l1 k a b q t238 (i : Int) 0 65536)) (fun k => ?_) (Ev.bind hE fin)
    rw [lombardref01_Div.l0, c1, if_pos (Int.natCast_nonneg i), if_pos (Int.natCast_nonneg i), if_pos c2, rd_nat, hdd, Option.bind_some, if_pos c3]

theorem div_is2 {a b : List Int} {m n : Int} (ha : Is a m) (hb : Is b n) (hn : 0 < n) (la : a.length < 1000) (lb : b.length < 1000) :
    ∃ q r, Is q (m / n) ∧ Is r (m % n) ∧ q.length ≤ a.length ∧ r.length ≤ b.length ∧ Ev (fun k => lombardref01_Div.f k a b) (q, r) := by
  obtain ⟨q, r, h1, h2, h3, h4, hE⟩ := div_loop a b m n ha hb hn la lb a.length (List.replicate a.length 0) [] 0 (Nat.le_refl _) (Dig.zeros _) (by simp) (fun j hj => by rw [List.getD_eq_getElem?_getD, List.getElem?_replicate, if_pos hj]; rfl) Is.nil hn (by rw [V_zeros, V_drop_len]; simp)
  refine ⟨q, r, h1, h2, h3, h4, Ev.congr (fun k => ?_) hE⟩
  have c4 : -9223372036854775808 ≤ (a.length : Int) - 1 ∧ (a.length : Int) - 1 < 9223372036854775808 := by omega
  have c5 : a.length ≤ 35184372088832 := by omega
  unfold lombardref01_Div.f
  rw [if_pos (Int.natCast_nonneg _), Int.toNat_natCast, if_pos c5, w64 _ c4.1 c4.2]

theorem size_is2 (n : Int) (h₀ : -9223372036854775808 ≤ n) (h₁ : n < 9223372036854775808) : ∃ r, Is r (n.natAbs : Int) ∧ r.length ≤ 4 ∧ Ev (fun k => lombardref01_size.f k n) r := by
  obtain ⟨r, hr, hl, hE⟩ := of_is (n.natAbs : Int) (by omega) (by omega)
  refine ⟨r, hr, hl, Ev.congr (f := fun k => (lombardref01_Of.f k (n.natAbs : Int)).bind fun t => some t) (fun k => ?_) (Ev.bind hE (Ev.now r))⟩
  unfold lombardref01_size.f
  by_cases h1 : n = -9223372036854775808
  · subst h1; rfl
  · rw [if_neg h1]
    by_cases h2 : n < 0
    · have e1 : wrap64 (-n) = -n := w64 _ (by omega) (by omega)
      have e2 : IntKind.u64.wrap (-n) = (n.natAbs : Int) := by rw [u64_id _ (by omega) (by omega)]; omega
      rw [if_pos h2, e1, e2]
    · have e2 : IntKind.u64.wrap n = (n.natAbs : Int) := by rw [u64_id _ (by omega) (by omega)]; omega
      rw [if_neg h2, e2]

end Go.Proofs.Ytjbpblcohlainaa.Print
namespace Go.Proofs.Ytjbpblcohlainaa.Print
open Go.RowKit Go.Proofs.YtjbpblcohlainaaW.PrintWords Go.Proofs.YtjbpblcohlainaaW.PrintLast Go.Proofs.YtjbpblcohlainaaW.PrintMore Go.Pm.Arith
set_option linter.unusedVariables false
set_option linter.unusedSimpArgs false

theorem size_is (a : Int) (h₀ : -9223372036854775808 ≤ a) (h₁ : a < 9223372036854775808) :
    fixnum_size.f a = some ((a.natAbs : Int), decide (a < 0)) := by
  unfold fixnum_size.f
  split
  · rename_i h
    simp only [u64_wrap, h, decide_true]
    congr 2; omega
  · rename_i h
    simp only [u64_wrap, h, decide_false]
    congr 2; omega

theorem mul_is (a b : Int) (ha₀ : 0 ≤ a) (ha₁ : a < 18446744073709551616) (hb₀ : 0 ≤ b) (hb₁ : b < 18446744073709551616) :
    fixnum_Mul.f a b = some (hiOf a b, loOf a b) := by
  unfold fixnum_Mul.f
  rw [(mul_wide a b ha₀ ha₁ hb₀ hb₁).1, (mul_wide a b ha₀ ha₁ hb₀ hb₁).2]

theorem loop_is (d lo hi qh : Int) (hd : 0 < d) (hd₁ : d < 18446744073709551616) (hl₀ : 0 ≤ lo) (hl₁ : lo < 18446744073709551616) :
    ∀ (j : Nat) (k : Nat) (rest q : Int), j ≤ 64 → j < k → 0 ≤ rest → rest < d → 0 ≤ q → q + 2 ^ j ≤ 18446744073709551616 → q % 2 ^ j = 0 →
      fixnum_Wide_Div.l0 k d rest ((j : Int) - 1) hi lo qh q = some (qh, q + (rest * 2 ^ j + lo % 2 ^ j) / d, (rest * 2 ^ j + lo % 2 ^ j) % d)
  | 0, k + 1, rest, q, _, _, hr₀, hr₁, hq₀, hq₁, hq => by
    unfold fixnum_Wide_Div.l0
    rw [if_neg (by omega)]
    simp only [Int.pow_zero, Int.mul_one, Int.emod_one, Int.add_zero]
    rw [Int.ediv_eq_zero_of_lt hr₀ hr₁, Int.emod_eq_of_lt hr₀ hr₁, Int.add_zero]
  | j + 1, k + 1, rest, q, hj, hk, hr₀, hr₁, hq₀, hq₁, hq => by
    have ih := loop_is d lo hi qh hd hd₁ hl₀ hl₁ j k
    have hp : (0 : Int) < 2 ^ j := Int.pow_pos (by decide)
    have e2 : (2 : Int) ^ (j + 1) = 2 ^ j * 2 := Int.pow_succ _ _
    have wj : IntKind.u64.wrap (((j + 1 : Nat) : Int) - 1) = (j : Int) := by rw [u64_wrap]; omega
    have sr : shr .u64 lo (j : Int) = lo / 2 ^ j := by unfold shr; rw [Nat.min_eq_left (by simp [IntKind.bits]; omega)]; simp
    have sl : shl .u64 1 (j : Int) = 2 ^ j := by
      unfold shl; rw [Nat.min_eq_left (by simp [IntKind.bits]; omega)]; simp only [Int.toNat_natCast, Int.one_mul]
      exact u64_id _ (by omega) (by have := two_pow_lt j (by omega); omega)
    have wn : wrap64 (((j + 1 : Nat) : Int) - 1 - 1) = (j : Int) - 1 := by unfold wrap64; omega
    have hb := div_bit lo j hl₀ hl₁
    have st := div_set j (by omega) hq₀ hq₁ hq
    obtain ⟨r1, r2⟩ := div_rest lo rest d j hd
    have qj : q % 2 ^ j = 0 := by
      have : (q % (2 ^ j * 2)) % 2 ^ j = q % 2 ^ j := Int.emod_emod_of_dvd q ⟨2, rfl⟩
      rw [← this, ← e2, hq]; exact Int.zero_emod _
    have qj2 : (q + 2 ^ j) % 2 ^ j = 0 := by rw [Int.add_emod_right]; exact qj
    unfold fixnum_Wide_Div.l0
    rw [if_pos (by omega), wj, if_pos (by omega), sr, sl, wn, hb, st, r1]
    have b0 : 0 ≤ lo / 2 ^ j % 2 := by omega
    have b1 : lo / 2 ^ j % 2 ≤ 1 := by omega
    generalize hbit : lo / 2 ^ j % 2 = bit at *
    by_cases top : rest / 9223372036854775808 = 1
    · rw [if_pos top, div_top hr₀ hr₁ hd₁ b0 b1 top, ih _ _ (by omega) (by omega) (by omega) (by omega) (by omega) (by omega) qj2, (r2 (2 * rest + bit)).1, (r2 (2 * rest + bit)).2]
      simp only [Int.add_assoc]
    · rw [if_neg top, div_low hr₀ hr₁ hd₁ b0 b1 top]
      by_cases c : 2 * rest + bit ≥ d
      · rw [if_pos c, u64_id (2 * rest + bit - d) (by omega) (by omega), ih _ _ (by omega) (by omega) (by omega) (by omega) (by omega) (by omega) qj2, (r2 (2 * rest + bit)).1, (r2 (2 * rest + bit)).2]
        simp only [Int.add_assoc]
      · rw [if_neg c, ih _ _ (by omega) (by omega) (by omega) (by omega) (by omega) (by omega) qj]

theorem div_is (k : Nat) (hk : 64 < k) (hi lo d : Int) (hd : 0 < d) (hd₁ : d < 18446744073709551616) (hh₀ : 0 ≤ hi) (hh₁ : hi < 18446744073709551616) (hl₀ : 0 ≤ lo) (hl₁ : lo < 18446744073709551616) :
    fixnum_Wide_Div.f k hi lo d = some (hi / d, (hi % d * 18446744073709551616 + lo) / d, (hi % d * 18446744073709551616 + lo) % d) := by
  unfold fixnum_Wide_Div.f
  have q0 : 0 ≤ hi / d := Int.ediv_nonneg hh₀ (by omega)
  have q1 : hi / d ≤ hi := Int.ediv_le_self _ hh₀
  rw [if_neg (by omega), Int.tmod_eq_emod_of_nonneg hh₀, Int.tdiv_eq_ediv_of_nonneg hh₀, u64_id _ q0 (by omega)]
  have := loop_is d lo hi (hi / d) hd hd₁ hl₀ hl₁ 64 k (hi % d) 0 (by omega) hk (Int.emod_nonneg _ (by omega)) (Int.emod_lt_of_pos _ hd) (by omega) (by decide) (by decide)
  rw [show ((64 : Nat) : Int) - 1 = 63 from rfl] at this
  rw [this, show (2 : Int) ^ 64 = 18446744073709551616 from rfl, Int.emod_eq_of_lt hl₀ hl₁, Int.zero_add]

end Go.Proofs.Ytjbpblcohlainaa.Print
namespace Go.Proofs.Ytjbpblcohlainaa.Print
open Go.RowKit Go.Proofs.YtjbpblcohlainaaW.PrintWords Go.Proofs.YtjbpblcohlainaaW.PrintLast Go.Proofs.YtjbpblcohlainaaW.PrintMore Go.Pm.Arith
set_option linter.unusedVariables false
set_option linter.unusedSimpArgs false

/-- Is a quotient rounded away from 0? -/
def roundUp (q rest d : Int) (minus : Bool) (how : Int) : Bool :=
  if rest = 0 then false else if how = 1 then minus else if how = 2 then !minus else if how = 4 then (if rest > d - rest then true else if rest = d - rest then q % 2 == 1 else false) else false

/-- A number that is so great, and its sign, or that it has no place. -/
def signOf (u : Int) (minus : Bool) : Int × Int :=
  if u > 9223372036854775808 ∨ u = 9223372036854775808 ∧ minus = false then (0, 9) else if minus = true then (-u, 0) else (u, 0)

def minusOf (a b c : Int) : Bool := (decide (a < 0) != decide (b < 0)) != decide (c < 0)

def quotOf (p d : Int) (minus : Bool) (how : Int) : Int := p / d + (if roundUp (p / d) (p % d) d minus how = true then 1 else 0)

def mdOf (a b c how : Int) : Int × Int :=
  if c = 0 ∨ how < 1 ∨ how > 4 then (0, 1) else signOf (quotOf ((a.natAbs : Int) * (b.natAbs : Int)) (c.natAbs : Int) (minusOf a b c) how) (minusOf a b c)

theorem up_is (q rest d how : Int) (minus : Bool) (hq : 0 ≤ q) (hq' : q < 18446744073709551616) (hr : 0 ≤ rest) (hrd : rest < d) (hd : d < 18446744073709551616) :
    fixnum_up.f q rest d minus how = some (roundUp q rest d minus how) := by
  have e1 : IntKind.u64.wrap (d - rest) = d - rest := u64_id _ (by omega) (by omega)
  have e2 : Go.bits .and .u64 q 1 = q % 2 := and_one q hq hq'
  unfold fixnum_up.f roundUp
  rw [e1, e2]
  split
  · rfl
  · split
    · rfl
    · split
      · rfl
      · split
        · split
          · rfl
          · split
            · rfl
            · rfl
        · rfl

theorem signed_is (u : Int) (minus : Bool) (h0 : 0 ≤ u) (h1 : u < 18446744073709551616) : Ev (fun k => fixnum_signed.f k u minus) (signOf u minus) := by
  have key : ∀ x6 : Bool, x6 = (minus && (u == 9223372036854775808)) → Ev (fun k => fixnum_signed.j0 k u minus x6) (signOf u minus) := fun x6 hx => by
    refine Ev.step (f := fun _ => some (signOf u minus)) (fun k => ?_) (Ev.now _)
    rw [fixnum_signed.j0]
    subst hx
    unfold signOf
    by_cases c1 : u = 9223372036854775808
    · subst c1
      cases minus
      · rfl
      · rfl
    · have c2 : (u == 9223372036854775808) = false := beq_eq_false_iff_ne.mpr c1
      rw [c2, Bool.and_false, if_neg (by decide)]
      by_cases c3 : u ≥ 9223372036854775808
      · rw [if_pos c3, if_pos (Or.inl (by omega))]
      · have c4 : ¬ (u > 9223372036854775808 ∨ u = 9223372036854775808 ∧ minus = false) := by omega
        have e1 : wrap64 u = u := by unfold wrap64; omega
        have e2 : wrap64 (-u) = -u := by unfold wrap64; omega
        rw [if_neg c3, if_neg c4, e1, e2]
        cases minus
        · rfl
        · rfl
  refine Ev.congr (f := fun k => fixnum_signed.j0 k u minus (minus && (u == 9223372036854775808))) (fun k => ?_) (key _ rfl)
  unfold fixnum_signed.f
  cases minus
  · rfl
  · rfl

theorem muldiv_is (a b c how : Int) (ha : -9223372036854775808 ≤ a ∧ a < 9223372036854775808) (hb : -9223372036854775808 ≤ b ∧ b < 9223372036854775808) (hc : -9223372036854775808 ≤ c ∧ c < 9223372036854775808) :
    Ev (fun k => fixnum_MulDiv.f k a b c how) (mdOf a b c how) := by
  by_cases bad : c = 0 ∨ how < 1 ∨ how > 4
  · have hz : Ev (fun k => fixnum_MulDiv.j0 k a b c how true) (0, 1) := Ev.step (f := fun _ => some (0, 1)) (fun k => by rw [fixnum_MulDiv.j0, if_pos rfl]) (Ev.now _)
    unfold mdOf
    rw [if_pos bad]
    refine Ev.congr (fun k => ?_) hz
    unfold fixnum_MulDiv.f
    by_cases c1 : c = 0
    · rw [if_pos c1]
    · by_cases c2 : how < 1
      · rw [if_neg c1, if_pos c2]
      · rw [if_neg c1, if_neg c2, decide_eq_true (by omega)]
  · unfold mdOf
    rw [if_neg bad]
    have c1 : ¬ c = 0 := fun h => bad (Or.inl h)
    have c2 : ¬ how < 1 := fun h => bad (Or.inr (Or.inl h))
    have c3 : ¬ how > 4 := fun h => bad (Or.inr (Or.inr h))
    obtain ⟨x, hx⟩ : ∃ x : Int, (a.natAbs : Int) = x := ⟨_, rfl⟩
    obtain ⟨y, hy⟩ : ∃ y : Int, (b.natAbs : Int) = y := ⟨_, rfl⟩
    obtain ⟨d, hd⟩ : ∃ d : Int, (c.natAbs : Int) = d := ⟨_, rfl⟩
    have bx : 0 ≤ x ∧ x ≤ 9223372036854775808 := by omega
    have by' : 0 ≤ y ∧ y ≤ 9223372036854775808 := by omega
    have bd : 0 < d ∧ d ≤ 9223372036854775808 := by omega
    have s1 := size_is a ha.1 ha.2
    have s2 := size_is b hb.1 hb.2
    have s3 := size_is c hc.1 hc.2
    rw [hx] at s1
    rw [hy] at s2
    rw [hd] at s3
    rw [hx, hy, hd]
    obtain ⟨m, hm⟩ : ∃ m : Bool, minusOf a b c = m := ⟨_, rfl⟩
    rw [hm]
    refine Ev.congr (f := fun k => fixnum_MulDiv.j0 k a b c how false) (fun k => by unfold fixnum_MulDiv.f; rw [if_neg c1, if_neg c2, decide_eq_false c3]) ?_
    have pz : 0 ≤ x * y := Int.mul_nonneg bx.1 by'.1
    have pz' : x * y ≤ 9223372036854775808 * 9223372036854775808 := Int.mul_le_mul bx.2 by'.2 by'.1 (by decide)
    have hq : 0 ≤ hiOf x y ∧ hiOf x y < 18446744073709551616 ∧ 0 ≤ loOf x y ∧ loOf x y < 18446744073709551616 ∧ hiOf x y * 18446744073709551616 + loOf x y = x * y := by unfold hiOf loOf; omega
    have r0 := Int.emod_nonneg (hiOf x y) (show d ≠ 0 by omega)
    have r1 := Int.emod_lt_of_pos (hiOf x y) bd.1
    have hdiv := Int.mul_ediv_add_emod (hiOf x y) d
    -- the whole quotient and the whole rest
    have e : x * y = hiOf x y % d * 18446744073709551616 + loOf x y + d * (hiOf x y / d * 18446744073709551616) := by
      have : d * (hiOf x y / d * 18446744073709551616) = d * (hiOf x y / d) * 18446744073709551616 := by rw [Int.mul_assoc]
      rw [this]; omega
    have eq : x * y / d = hiOf x y / d * 18446744073709551616 + (hiOf x y % d * 18446744073709551616 + loOf x y) / d := by
      rw [e, Int.add_mul_ediv_left _ _ (by omega)]; omega
    have er : x * y % d = (hiOf x y % d * 18446744073709551616 + loOf x y) % d := by rw [e, Int.add_mul_emod_self_left]
    have l0 : 0 ≤ (hiOf x y % d * 18446744073709551616 + loOf x y) / d := Int.ediv_nonneg (by omega) (by omega)
    have l1 : (hiOf x y % d * 18446744073709551616 + loOf x y) / d < 18446744073709551616 := by rw [Int.ediv_lt_iff_lt_mul bd.1]; omega
    have h0 : 0 ≤ hiOf x y / d := Int.ediv_nonneg hq.1 (by omega)
    have t0 := Int.emod_nonneg (hiOf x y % d * 18446744073709551616 + loOf x y) (show d ≠ 0 by omega)
    have t1 := Int.emod_lt_of_pos (hiOf x y % d * 18446744073709551616 + loOf x y) bd.1
    have hE : Ev (fun k => fixnum_Wide_Div.f k (hiOf x y) (loOf x y) d) (hiOf x y / d, (hiOf x y % d * 18446744073709551616 + loOf x y) / d, (hiOf x y % d * 18446744073709551616 + loOf x y) % d) :=
      ⟨65, fun k hk => div_is k (by omega) _ _ d bd.1 (by omega) hq.1 hq.2.1 hq.2.2.1 hq.2.2.2.1⟩
    have hmul := mul_is x y bx.1 (by omega) by'.1 (by omega)
    have hm' : ((decide (a < 0) != decide (b < 0)) != decide (c < 0)) = m := hm
    unfold quotOf
    rw [er]
    generalize (hiOf x y % d * 18446744073709551616 + loOf x y) % d = R at *
    generalize (hiOf x y % d * 18446744073709551616 + loOf x y) / d = Q at *
    generalize hiOf x y / d = H at *
    refine Ev.step (f := fun k => (fixnum_Wide_Div.f k (hiOf x y) (loOf x y) d).bind fun bt113 => (if bt113.1 > 0 then (some (0, 9)) else ((fixnum_up.f bt113.2.1 bt113.2.2 d m how).bind fun t117 => (if t117 = true then (if (IntKind.u64.wrap (bt113.2.1 + 1)) = 0 then (some (0, 9)) else ((fixnum_signed.f k (IntKind.u64.wrap (bt113.2.1 + 1)) m).bind fun bt118 => (some (bt118.1, bt118.2)))) else ((fixnum_signed.f k bt113.2.1 m).bind fun bt120 => (some (bt120.1, bt120.2))))))) (fun k => ?_) (Ev.bind hE ?_)
    · rw [fixnum_MulDiv.j0, if_neg (by decide), s1, Option.bind_some, s2, Option.bind_some, s3, Option.bind_some, hmul, Option.bind_some]
      simp only [hm']
    · by_cases hH : H > 0
      · have big : ∀ t : Int, 0 ≤ t → signOf (x * y / d + t) m = (0, 9) := fun t ht => by unfold signOf; rw [if_pos (Or.inl (by omega))]
        refine Ev.congr (f := fun _ => some (0, 9)) (fun k => by rw [if_pos hH]) ?_
        rw [big _ (by split <;> decide)]
        exact Ev.now _
      · have hq2 : x * y / d = Q := by omega
        rw [hq2]
        have hup := up_is Q R d how m l0 l1 t0 t1 (by omega)
        by_cases hr : roundUp Q R d m how = true
        · rw [if_pos hr]
          by_cases hov : Q + 1 = 18446744073709551616
          · have w : IntKind.u64.wrap (Q + 1) = 0 := by rw [hov]; rfl
            refine Ev.congr (f := fun _ => some (0, 9)) (fun k => by rw [if_neg hH, hup, Option.bind_some, if_pos hr, if_pos w]) ?_
            have : signOf (Q + 1) m = (0, 9) := by unfold signOf; rw [if_pos (Or.inl (by omega))]
            rw [this]
            exact Ev.now _
          · have w : IntKind.u64.wrap (Q + 1) = Q + 1 := u64_id _ (by omega) (by omega)
            have w2 : ¬ Q + 1 = 0 := by omega
            refine Ev.congr (f := fun k => (fixnum_signed.f k (Q + 1) m).bind fun bt => some (bt.1, bt.2)) (fun k => by rw [if_neg hH, hup, Option.bind_some, if_pos hr, w, if_neg w2]) (Ev.bind (signed_is (Q + 1) m (by omega) (by omega)) (Ev.now _))
        · rw [if_neg hr, Int.add_zero]
          exact Ev.congr (f := fun k => (fixnum_signed.f k Q m).bind fun bt => some (bt.1, bt.2)) (fun k => by rw [if_neg hH, hup, Option.bind_some, if_neg hr]) (Ev.bind (signed_is Q m l0 l1) (Ev.now _))

end Go.Proofs.Ytjbpblcohlainaa.Print
namespace Go.Proofs.Ytjbpblcohlainaa.Print
open Go.RowKit Go.Proofs.YtjbpblcohlainaaW.PrintWords Go.Proofs.YtjbpblcohlainaaW.PrintLast Go.Proofs.YtjbpblcohlainaaW.PrintMore Go.Pm.Arith Go.Pm.Big

theorem push_digit (h d : Int) (h0 : 0 ≤ h) (h1 : h < 281474976710656) (d0 : 0 ≤ d) (d1 : d < 65536) : IntKind.u64.wrap (IntKind.u64.wrap (h * 65536) + d) = d + 65536 * h := by
  rw [u64_id (h * 65536) (by omega) (by omega), u64_id _ (by omega) (by omega)]; omega

theorem halves_lo (l : List Int) (hd : Dig l) (hl : l.length < 1000000) (hi : Int) : ∀ i : Nat, i ≤ 4 → i ≤ l.length →
    Ev (fun k => lombardref01_Halves.l0 k l hi (V ((l.take 4).drop i)) ((i : Int) - 1)) (hi, V (l.take 4), true)
  | 0, _, _ => Ev.step (f := fun _ => some (hi, V (l.take 4), true)) (fun k => by rw [lombardref01_Halves.l0, if_neg (by decide)]; rfl) (Ev.now _)
  | i + 1, h4, hl2 => by
    have c1 : ((i + 1 : Nat) : Int) - 1 = (i : Int) := by omega
    have c2 : (i : Int) < (l.length : Int) := by omega
    have c3 : ¬ (i : Int) ≥ 4 := by omega
    have c4 : -9223372036854775808 ≤ (i : Int) - 1 ∧ (i : Int) - 1 < 9223372036854775808 := by omega
    have ht : i < (l.take 4).length := by rw [List.length_take]; omega
    have dr := V_drop (l.take 4) i ht
    rw [take_getD l 4 i (by omega)] at dr
    have hdt : Dig ((l.take 4).drop (i + 1)) := fun x hx => hd x (List.mem_of_mem_take (List.mem_of_mem_drop hx))
    have b0 := V_nonneg hdt
    have b1 := V_lt hdt
    have b2 : P ((l.take 4).drop (i + 1)).length ≤ P 3 := P_mono (by rw [List.length_drop, List.length_take]; omega)
    have b3 : P 3 = 281474976710656 := by decide
    have gd := hd.getD i
    have pd := push_digit (V ((l.take 4).drop (i + 1))) (l.getD i 0) b0 (by omega) gd.1 gd.2
    rw [← dr] at pd
    refine Ev.step (fun k => ?_) (halves_lo l hd hl hi i (by omega) (by omega))
    rw [lombardref01_Halves.l0, c1, if_pos (Int.natCast_nonneg i), if_neg c3, if_pos (Int.natCast_nonneg i), if_pos c2, rd_nat, pd, w64 _ c4.1 c4.2]

theorem halves_hi (l : List Int) (hd : Dig l) (hl : l.length ≤ 8) : ∀ i : Nat, 4 ≤ i → i ≤ l.length →
    Ev (fun k => lombardref01_Halves.l0 k l (V (l.drop i)) 0 ((i : Int) - 1)) (V (l.drop 4), V (l.take 4), true)
  | i, h4, hl2 => by
    by_cases e : i = 4
    · subst e
      have := halves_lo l hd (by omega) (V (l.drop 4)) 4 (Nat.le_refl _) hl2
      have z : V ((l.take 4).drop 4) = 0 := by rw [List.drop_of_length_le (by rw [List.length_take]; omega)]; rfl
      rwa [z] at this
    · obtain ⟨i, rfl⟩ : ∃ j, i = j + 1 := ⟨i - 1, by omega⟩
      have c1 : ((i + 1 : Nat) : Int) - 1 = (i : Int) := by omega
      have c2 : (i : Int) < (l.length : Int) := by omega
      have c3 : (i : Int) ≥ 4 := by omega
      have c4 : -9223372036854775808 ≤ (i : Int) - 1 ∧ (i : Int) - 1 < 9223372036854775808 := by omega
      have dr := V_drop l i (by omega)
      have hdt : Dig (l.drop (i + 1)) := fun x hx => hd x (List.mem_of_mem_drop hx)
      have b0 := V_nonneg hdt
      have b1 := V_lt hdt
      have b2 : P (l.drop (i + 1)).length ≤ P 3 := P_mono (by rw [List.length_drop]; omega)
      have b3 : P 3 = 281474976710656 := by decide
      have gd := hd.getD i
      have pd := push_digit (V (l.drop (i + 1))) (l.getD i 0) b0 (by omega) gd.1 gd.2
      rw [← dr] at pd
      refine Ev.step (fun k => ?_) (halves_hi l hd hl i (by omega) (by omega))
      rw [lombardref01_Halves.l0, c1, if_pos (Int.natCast_nonneg i), if_pos c3, if_pos (Int.natCast_nonneg i), if_pos c2, rd_nat, pd, w64 _ c4.1 c4.2]

theorem halves_is {l : List Int} {m : Int} (h : Is l m) (hl : l.length < 1000000) :
    Ev (fun k => lombardref01_Halves.f k l) (if m < 340282366920938463463374607431768211456 then (m / 18446744073709551616, m % 18446744073709551616, true) else (0, 0, false)) := by
  have p8 : P 8 = 340282366920938463463374607431768211456 := by decide
  have p4 : P 4 = 18446744073709551616 := by decide
  by_cases hm : m < 340282366920938463463374607431768211456
  · rw [if_pos hm]
    have l8 : l.length ≤ 8 := h.len_le (by omega)
    have c0 : ¬ (l.length : Int) > 8 := by omega
    have c4 : -9223372036854775808 ≤ (l.length : Int) - 1 ∧ (l.length : Int) - 1 < 9223372036854775808 := by omega
    have res : V (l.drop 4) = m / 18446744073709551616 ∧ V (l.take 4) = m % 18446744073709551616 := by
      by_cases hs : l.length ≤ 4
      · have b := h.lt
        have b2 := P_mono hs
        rw [List.drop_of_length_le hs, List.take_of_length_le hs, h.val]
        have := h.nonneg
        show (0 : Int) = _ ∧ _
        omega
      · have td := V_take_drop l 4 (by omega)
        have b0 := V_nonneg (h.norm.dig.take 4)
        have b1 := V_lt (h.norm.dig.take 4)
        rw [List.length_take, Nat.min_eq_left (by omega), p4] at b1
        rw [p4, h.val] at td
        omega
    rw [← res.1, ← res.2]
    refine Ev.congr (f := fun k => lombardref01_Halves.l0 k l 0 0 ((l.length : Int) - 1)) (fun k => by unfold lombardref01_Halves.f; rw [if_neg c0, w64 _ c4.1 c4.2]) ?_
    by_cases hs : l.length ≤ 4
    · have := halves_lo l h.norm.dig hl 0 l.length hs (Nat.le_refl _)
      have z : V ((l.take 4).drop l.length) = 0 := by rw [List.drop_of_length_le (by rw [List.length_take]; omega)]; rfl
      have z2 : V (l.drop 4) = 0 := by rw [List.drop_of_length_le hs]; rfl
      rw [z] at this
      rw [z2]
      exact this
    · have := halves_hi l h.norm.dig l8 l.length (by omega) (Nat.le_refl _)
      rw [V_drop_len] at this
      exact this
  · rw [if_neg hm]
    have c0 : (l.length : Int) > 8 := by
      by_cases hs : l.length ≤ 8
      · have b := h.lt
        have b2 := P_mono hs
        omega
      · omega
    exact Ev.congr (fun k => by unfold lombardref01_Halves.f; rw [if_pos c0]) (Ev.now _)

end Go.Proofs.Ytjbpblcohlainaa.Print
namespace Go.Proofs.Ytjbpblcohlainaa.Print
open Go.RowKit Go.Proofs.YtjbpblcohlainaaW.PrintWords Go.Proofs.YtjbpblcohlainaaW.PrintLast Go.Proofs.YtjbpblcohlainaaW.PrintMore Go.Pm.Arith Go.Pm.Big
set_option linter.unusedVariables false
set_option linter.unusedSimpArgs false

theorem ref_j3 (less : Bool) (lo : Int) (h0 : 0 ≤ lo) (h1 : lo ≤ 9223372036854775808) (b : Bool) (hb : b = (lo == 9223372036854775808 && !less)) : Ev (fun k => lombardref01_MulDiv.j3 k less lo b) (signOf lo less) := by
  refine Ev.step (f := fun _ => some (signOf lo less)) (fun k => ?_) (Ev.now _)
  rw [lombardref01_MulDiv.j3]
  subst hb
  unfold signOf
  by_cases c1 : lo = 9223372036854775808
  · subst c1
    cases less
    · rfl
    · rfl
  · have c2 : (lo == 9223372036854775808) = false := beq_eq_false_iff_ne.mpr c1
    have c4 : ¬ (lo > 9223372036854775808 ∨ lo = 9223372036854775808 ∧ less = false) := by omega
    have e1 : wrap64 lo = lo := by unfold wrap64; omega
    have e2 : wrap64 (-lo) = -lo := by unfold wrap64; omega
    rw [c2, Bool.false_and, if_neg (by decide), if_neg c1, if_neg c4, e1, e2]
    cases less
    · rfl
    · rfl

theorem ref_over (less : Bool) (lo : Int) : Ev (fun k => lombardref01_MulDiv.j3 k less lo true) (0, 9) :=
  Ev.step (f := fun _ => some (0, 9)) (fun k => by rw [lombardref01_MulDiv.j3, if_pos rfl]) (Ev.now _)

theorem ref_j2 (less : Bool) (q : List Int) (Q : Int) (hq : Is q Q) (hl : q.length < 1000000) (hQ : Q < 340282366920938463463374607431768211456) : Ev (fun k => lombardref01_MulDiv.j2 k less q) (signOf Q less) := by
  have h0 := hq.nonneg
  have hE := halves_is hq hl
  rw [if_pos hQ] at hE
  refine Ev.step (fun k => by rw [lombardref01_MulDiv.j2]) (Ev.bind hE ?_)
  by_cases c1 : Q / 18446744073709551616 > 0
  · have : signOf Q less = (0, 9) := by unfold signOf; rw [if_pos (Or.inl (by omega))]
    rw [this]
    exact Ev.congr (fun k => by rw [if_pos c1]) (ref_over less _)
  · have e : Q % 18446744073709551616 = Q := by omega
    by_cases c2 : Q > 9223372036854775808
    · have : signOf Q less = (0, 9) := by unfold signOf; rw [if_pos (Or.inl (by omega))]
      rw [this]
      exact Ev.congr (fun k => by rw [if_neg c1]; show (if Q % 18446744073709551616 > 9223372036854775808 then _ else _) = _; rw [e, if_pos c2]) (ref_over less Q)
    · by_cases c3 : Q = 9223372036854775808
      · exact Ev.congr (fun k => by rw [if_neg c1]; show (if Q % 18446744073709551616 > 9223372036854775808 then _ else (if Q % 18446744073709551616 = 9223372036854775808 then _ else _)) = _; rw [if_neg (by rw [e]; exact c2), if_pos (by rw [e]; exact c3)]; show lombardref01_MulDiv.j3 k less (Q % 18446744073709551616) (!less) = _; rw [e])
          (ref_j3 less Q h0 (by omega) (!less) (by rw [beq_iff_eq.mpr c3, Bool.true_and]))
      · exact Ev.congr (fun k => by rw [if_neg c1]; show (if Q % 18446744073709551616 > 9223372036854775808 then _ else (if Q % 18446744073709551616 = 9223372036854775808 then _ else _)) = _; rw [if_neg (by rw [e]; exact c2), if_neg (by rw [e]; exact c3)]; show lombardref01_MulDiv.j3 k less (Q % 18446744073709551616) false = _; rw [e])
          (ref_j3 less Q h0 (by omega) false (by rw [beq_eq_false_iff_ne.mpr c3, Bool.false_and]))

theorem ref_j1 (less : Bool) (q : List Int) (Q : Int) (hq : Is q Q) (hl : q.length ≤ 100) (hQ : Q < 340282366920938463463374607431768211455) (more : Bool) :
    Ev (fun k => lombardref01_MulDiv.j1 k less q more) (signOf (Q + (if more = true then 1 else 0)) less) := by
  cases more
  · exact Ev.step (fun k => by rw [lombardref01_MulDiv.j1, if_neg (by decide)]) (by rw [if_neg (by decide), Int.add_zero]; exact ref_j2 less q Q hq (by omega) (by omega))
  · obtain ⟨t, ht, tl, hE1⟩ := of_is 1 (by decide) (by decide)
    obtain ⟨s, hs, sl, hE2⟩ := add_is hq ht 100 (by decide) hl (by omega)
    show Ev (fun k => lombardref01_MulDiv.j1 k less q true) (signOf (Q + 1) less)
    exact Ev.step (fun k => by rw [lombardref01_MulDiv.j1, if_pos rfl]) (Ev.bind hE1 (Ev.bind hE2 (ref_j2 less s _ hs (by omega) (by omega))))

theorem odd_is {q : List Int} {Q : Int} (hq : Is q Q) (hl : (q.length : Int) > 0) : (Int.tmod (rd q 0) 2 == 1) = (Q % 2 == 1) := by
  have gd := hq.norm.dig.getD 0
  have dr := V_drop q 0 (by omega)
  rw [List.drop_zero, hq.val] at dr
  have e : rd q 0 = q.getD 0 0 := rd_nat q 0
  rw [e, Int.tmod_eq_emod_of_nonneg gd.1]
  have : q.getD 0 0 % 2 = Q % 2 := by omega
  rw [this]

theorem is_pos {r : List Int} {R : Int} (h : Is r R) (hR : R ≠ 0) : (r.length : Int) > 0 := by
  cases r with
  | nil => exact absurd h.val.symm hR
  | cons x l => simp

theorem ref_muldiv_is (a b c how : Int) (ha : -9223372036854775808 ≤ a ∧ a < 9223372036854775808) (hb : -9223372036854775808 ≤ b ∧ b < 9223372036854775808) (hc : -9223372036854775808 ≤ c ∧ c < 9223372036854775808) :
    Ev (fun k => lombardref01_MulDiv.f k a b c how) (mdOf a b c how) := by
  by_cases bad : c = 0 ∨ how < 1 ∨ how > 4
  · have hz : Ev (fun k => lombardref01_MulDiv.j0 k a b c how true) (0, 1) := Ev.step (f := fun _ => some (0, 1)) (fun k => by rw [lombardref01_MulDiv.j0, if_pos rfl]) (Ev.now _)
    unfold mdOf
    rw [if_pos bad]
    refine Ev.congr (fun k => ?_) hz
    unfold lombardref01_MulDiv.f
    by_cases c1 : c = 0
    · rw [if_pos c1]
    · by_cases c2 : how < 1
      · rw [if_neg c1, if_pos c2]
      · rw [if_neg c1, if_neg c2, decide_eq_true (by omega)]
  · unfold mdOf
    rw [if_neg bad]
    have c1 : ¬ c = 0 := fun h => bad (Or.inl h)
    have c2 : ¬ how < 1 := fun h => bad (Or.inr (Or.inl h))
    have c3 : ¬ how > 4 := fun h => bad (Or.inr (Or.inr h))
    have hhow : how = 1 ∨ how = 2 ∨ how = 3 ∨ how = 4 := by omega
    obtain ⟨x, hx, xl, hE1⟩ := size_is2 a ha.1 ha.2
    obtain ⟨y, hy, yl, hE2⟩ := size_is2 b hb.1 hb.2
    obtain ⟨z, hz, zl, hE3⟩ := size_is2 c hc.1 hc.2
    obtain ⟨p, hp, pl, hE4⟩ := mul_is2 hx hy (by omega) (by omega)
    have dp : 0 < (c.natAbs : Int) := by omega
    obtain ⟨q, r, hq, hr, ql, rl, hE5⟩ := div_is2 hp hz dp (by omega) (by omega)
    have bx : (a.natAbs : Int) ≤ 9223372036854775808 := by omega
    have by' : (b.natAbs : Int) ≤ 9223372036854775808 := by omega
    have pz' : (a.natAbs : Int) * (b.natAbs : Int) ≤ 9223372036854775808 * 9223372036854775808 := Int.mul_le_mul bx by' (by omega) (by decide)
    have qb : (a.natAbs : Int) * (b.natAbs : Int) / (c.natAbs : Int) ≤ (a.natAbs : Int) * (b.natAbs : Int) := Int.ediv_le_self _ (Int.mul_nonneg (by omega) (by omega))
    have r0 := Int.emod_nonneg ((a.natAbs : Int) * (b.natAbs : Int)) (show (c.natAbs : Int) ≠ 0 by omega)
    have r1 := Int.emod_lt_of_pos ((a.natAbs : Int) * (b.natAbs : Int)) dp
    obtain ⟨m, hm⟩ : ∃ m : Bool, minusOf a b c = m := ⟨_, rfl⟩
    have hm' : ((decide (a < 0) != decide (b < 0)) != decide (c < 0)) = m := hm
    rw [hm]
    unfold quotOf
    generalize (a.natAbs : Int) * (b.natAbs : Int) / (c.natAbs : Int) = Q at *
    generalize (a.natAbs : Int) * (b.natAbs : Int) % (c.natAbs : Int) = R at *
    generalize (c.natAbs : Int) = d at *
    have fin := ref_j1 m q Q hq (by omega) (by omega) (roundUp Q R d m how)
    refine Ev.congr (f := fun k => lombardref01_MulDiv.j0 k a b c how false) (fun k => by unfold lombardref01_MulDiv.f; rw [if_neg c1, if_neg c2, decide_eq_false c3]) ?_
    refine Ev.step (fun k => by rw [lombardref01_MulDiv.j0, if_neg (by decide)]) (Ev.bind hE1 (Ev.bind hE2 (Ev.bind hE4 (Ev.bind hE3 (Ev.bind hE5 ?_)))))
    simp only [hm']
    by_cases hR : R = 0
    · have hr0 : ¬ (r.length : Int) > 0 := by
        subst hR
        rw [hr.zero]; decide
      have ru : roundUp Q R d m how = false := by unfold roundUp; rw [if_pos hR]
      rw [ru] at fin
      rw [ru]
      exact Ev.congr (fun k => by rw [if_neg hr0]) fin
    · have hr0 := is_pos hr hR
      obtain ⟨t, ht, tl, hE6⟩ := add_is hr hr 100 (by decide) (by omega) (by omega)
      obtain ⟨e, e1, e2, hE7⟩ := compare_is ht hz (by omega) (by omega)
      refine Ev.congr (fun k => by rw [if_pos hr0]) (Ev.bind hE6 (Ev.bind hE3 (Ev.bind hE7 ?_)))
      have k1 : (e > 0) ↔ R > d - R := by omega
      have k2 : (e = 0) ↔ R = d - R := by omega
      refine Ev.congr (fun k => ?_) fin
      have odd : (q.length : Int) > 0 → (Int.tmod (rd q 0) 2 == 1) = (Q % 2 == 1) := odd_is hq
      have even : ¬ (q.length : Int) > 0 → (Q % 2 == 1) = false := fun h => by
        have : Q = 0 := by
          have : q = [] := by cases q with | nil => rfl | cons x l => exact absurd (by simp) h
          rw [← hq.val, this]; rfl
        rw [this]; rfl
      unfold roundUp
      simp only [if_neg hR, ← k1, ← k2]
      by_cases hq0 : (q.length : Int) > 0
      · simp only [if_pos hq0, if_pos (show 0 < (q.length : Int) from hq0), odd hq0]
        rcases hhow with rfl | rfl | rfl | rfl <;> cases m <;> simp only [↓reduceIte, Int.reduceEq, Bool.false_eq_true, Bool.not_false, Bool.not_true] <;> (repeat' split) <;> first | rfl | (exfalso; omega)
      · simp only [if_neg hq0, even hq0]
        rcases hhow with rfl | rfl | rfl | rfl <;> cases m <;> simp only [↓reduceIte, Int.reduceEq, Bool.false_eq_true, Bool.not_false, Bool.not_true] <;> (repeat' split) <;> first | rfl | (exfalso; omega)

end Go.Proofs.Ytjbpblcohlainaa.Print
namespace Go.Proofs.Ytjbpblcohlainaa.Print
open Go.RowKit Go.Proofs.YtjbpblcohlainaaW.PrintWords Go.Proofs.YtjbpblcohlainaaW.PrintLast Go.Proofs.YtjbpblcohlainaaW.PrintMore Go.Pm.Arith
set_option linter.unusedVariables false
set_option linter.unusedSimpArgs false

def inI64 (a : Int) : Prop := -9223372036854775808 ≤ a ∧ a < 9223372036854775808

/-- A sum, or that it has no place. -/
def sumOf (s : Int) : Int × Int := if -9223372036854775808 ≤ s ∧ s < 9223372036854775808 then (s, 0) else (0, 9)

theorem plus_is (a b : Int) (ha : inI64 a) (hb : inI64 b) : fixnum_Plus.f a b = some (sumOf (a + b)) := by
  unfold inI64 at ha hb
  unfold sumOf
  simp only [fixnum_Plus.f, wrap64]
  repeat' split
  all_goals first
    | (exfalso; omega)
    | rfl
    | (congr 2; omega)

theorem ref_plus_is (a b : Int) (ha : inI64 a) (hb : inI64 b) : lombardref01_Plus.f a b = some (sumOf (a + b)) := by
  unfold inI64 at ha hb
  unfold sumOf
  simp only [lombardref01_Plus.f, wrap64]
  repeat' split
  all_goals first
    | (exfalso; omega)
    | rfl
    | (congr 2; omega)

theorem sumOf_in (s : Int) : inI64 (sumOf s).1 := by
  unfold sumOf inI64
  split
  · assumption
  · exact ⟨by decide, by decide⟩

/-- Numbers added one behind the other, from s on. -/
def sums : Int → List Int → Int × Int
  | s, [] => (s, 0)
  | s, x :: l => if (sumOf (s + x)).2 = 0 then sums (sumOf (s + x)).1 l else (0, (sumOf (s + x)).2)

theorem rd_nat2 (l : List Int) (n : Nat) : rd l (n : Int) = l.getD n 0 := by unfold rd; simp

theorem drop_cons (l : List Int) (i : Nat) (h : i < l.length) : l.drop i = l.getD i 0 :: l.drop (i + 1) := by
  rw [List.drop_eq_getElem_cons h, List.getD_eq_getElem?_getD, List.getElem?_eq_getElem h]; rfl

theorem getD_in (l : List Int) (hw : ∀ x ∈ l, inI64 x) (i : Nat) (h : i < l.length) : inI64 (l.getD i 0) := by
  rw [List.getD_eq_getElem?_getD, List.getElem?_eq_getElem h]; exact hw _ (List.getElem_mem h)

theorem next_is (i : Nat) (h : i < 1000000000000000) : wrap64 ((i : Int) + 1) = ((i + 1 : Nat) : Int) := by unfold wrap64; omega

theorem sum_loop (l : List Int) (hw : ∀ x ∈ l, inI64 x) (hl : l.length < 1000000000000000) : ∀ (j i : Nat) (s : Int), l.length = i + j → inI64 s →
    Ev (fun k => fixnum_Sum.l0 k s l (l.length : Int) (i : Int)) (sums s (l.drop i)) ∧ Ev (fun k => lombardref01_Sum.l0 k l s (i : Int)) (sums s (l.drop i))
  | 0, i, s, hj, hs => by
    have hi : ¬ (i : Int) < (l.length : Int) := by omega
    rw [List.drop_of_length_le (by omega)]
    refine ⟨Ev.step (f := fun _ => some (s, 0)) (fun k => ?_) (Ev.now _), Ev.step (f := fun _ => some (s, 0)) (fun k => ?_) (Ev.now _)⟩
    · rw [fixnum_Sum.l0, if_neg hi]
    · rw [lombardref01_Sum.l0, if_neg hi]
  | j + 1, i, s, hj, hs => by
    have hi : (i : Int) < (l.length : Int) := by omega
    have h0 : 0 ≤ (i : Int) := by omega
    have hx := getD_in l hw i (by omega)
    have hn := next_is i (by omega)
    rw [drop_cons l i (by omega)]
    by_cases c : (sumOf (s + l.getD i 0)).2 = 0
    · obtain ⟨e1, e2⟩ := sum_loop l hw hl j (i + 1) (sumOf (s + l.getD i 0)).1 (by omega) (sumOf_in _)
      have es : sums s (l.getD i 0 :: l.drop (i + 1)) = sums (sumOf (s + l.getD i 0)).1 (l.drop (i + 1)) := by rw [sums, if_pos c]
      rw [es]
      refine ⟨Ev.step (fun k => ?_) e1, Ev.step (fun k => ?_) e2⟩
      · rw [fixnum_Sum.l0, if_pos hi, if_pos h0, if_pos hi, rd_nat2, plus_is _ _ hs hx, Option.bind_some, if_pos c, hn]
      · rw [lombardref01_Sum.l0, if_pos hi, if_pos h0, rd_nat2, ref_plus_is _ _ hs hx, Option.bind_some, if_pos c, hn]
    · have es : sums s (l.getD i 0 :: l.drop (i + 1)) = (0, (sumOf (s + l.getD i 0)).2) := by rw [sums, if_neg c]
      rw [es]
      refine ⟨Ev.step (f := fun _ => some (0, (sumOf (s + l.getD i 0)).2)) (fun k => ?_) (Ev.now _), Ev.step (f := fun _ => some (0, (sumOf (s + l.getD i 0)).2)) (fun k => ?_) (Ev.now _)⟩
      · rw [fixnum_Sum.l0, if_pos hi, if_pos h0, if_pos hi, rd_nat2, plus_is _ _ hs hx, Option.bind_some, if_neg c]
      · rw [lombardref01_Sum.l0, if_pos hi, if_pos h0, rd_nat2, ref_plus_is _ _ hs hx, Option.bind_some, if_neg c]

theorem sum_is (l : List Int) (hw : ∀ x ∈ l, inI64 x) (hl : l.length < 1000000000000000) : Ev (fun k => fixnum_Sum.f k l) (sums 0 l) ∧ Ev (fun k => lombardref01_Sum.f k l) (sums 0 l) :=
  sum_loop l hw hl l.length 0 0 (by omega) ⟨by decide, by decide⟩

end Go.Proofs.Ytjbpblcohlainaa.Print
