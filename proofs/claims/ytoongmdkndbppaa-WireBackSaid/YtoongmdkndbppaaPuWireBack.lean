/- Shows that the program's reader reads back what its writer wrote. -/
import Derived.Test.YtoongmdkndbppaaPureWireOne
import Derived.Test.YtoongmdkndbppaaGx4
namespace Go.Proofs.Ytoongmdkndbppaa
open Go Go.Pm Go.Pm.Arith
set_option linter.unusedVariables false
set_option linter.unusedSimpArgs false

/-- At place p of s the bytes d begin. -/
def Lies (s : Bs) (p : Nat) (d : List Int) : Prop := ∃ rest, s.drop p = toB d ++ rest

theorem Lies.left {s : Bs} {p : Nat} {a b : List Int} (h : Lies s p (a ++ b)) : Lies s p a := by
  obtain ⟨r, e⟩ := h
  exact ⟨toB b ++ r, by rw [e, toB_append, List.append_assoc]⟩
theorem Lies.right {s : Bs} {p : Nat} {a b : List Int} (h : Lies s p (a ++ b)) : Lies s (p + a.length) b := by
  obtain ⟨r, e⟩ := h
  refine ⟨r, ?_⟩
  rw [← List.drop_drop, e, toB_append, List.append_assoc, ← toB_len a, List.drop_left]
theorem Lies.head {s : Bs} {p : Nat} {a : Int} {b : List Int} (h : Lies s p (a :: b)) (h0 : 0 ≤ a) (h1 : a < 256) : p < s.length ∧ byte s (p : Int) = a := by
  obtain ⟨r, e⟩ := h
  have lt : p < s.length := by
    by_cases c : p < s.length
    · exact c
    · rw [List.drop_of_length_le (by omega)] at e
      have := congrArg List.length e
      simp [toB] at this
  refine ⟨lt, ?_⟩
  show (((s.getD p default).toNat : Nat) : Int) = a
  have e2 : s[p] = UInt8.ofNat a.toNat := by
    have := congrArg (·[0]?) e
    simp [toB, List.getElem?_drop] at this
    rw [List.getElem?_eq_getElem lt] at this
    exact Option.some.inj this
  rw [List.getD_eq_getElem?_getD, List.getElem?_eq_getElem lt]
  show (((s[p]).toNat : Nat) : Int) = a
  rw [e2, UInt8.toNat_ofNat']
  omega
theorem Lies.tail {s : Bs} {p : Nat} {a : Int} {b : List Int} (h : Lies s p (a :: b)) : Lies s (p + 1) b := Lies.right (a := [a]) h
theorem Lies.len {s : Bs} {p : Nat} {d : List Int} (h : Lies s p d) (hd : d ≠ []) : p + d.length ≤ s.length := by
  obtain ⟨r, e⟩ := h
  have := congrArg List.length e
  rw [List.length_drop, List.length_append, toB_len] at this
  have : 0 < d.length := List.length_pos_iff.mpr hd
  omega

theorem back_loop (s : Bs) (hs : s.length < 1000000000) (x : Int) (h0 : 0 ≤ x) (h1 : x < 18446744073709551616) (p : Nat) (hp : p < 1000000000) : ∀ (k i : Nat), i < 1000000000 → Lies s (p + i) (digits k x) → (i = 0 → k ≠ 0 → x / 128 ^ k % 128 ≠ 0) →
    loop (wire_Reader_Uint.r0 ⟨s, (p : Int), 0⟩) (x / 128 ^ (k + 1), (i : Int)) = some (.inl (x, ⟨s, ((p + i + k + 1 : Nat) : Int), 0⟩))
  | k, i, hi, hl, hk => by
    have w0 : IntKind.i64.wrap ((p : Int) + (i : Int)) = ((p + i : Nat) : Int) := by rw [i64_id _ (by omega) (by omega)]; omega
    have w1 : IntKind.i64.wrap ((i : Int) + 1) = ((i + 1 : Nat) : Int) := by rw [i64_id _ (by omega) (by omega)]; omega
    have w2 : IntKind.i64.wrap ((p : Int) + ((i + 1 : Nat) : Int)) = ((p + i + 1 : Nat) : Int) := by rw [i64_id _ (by omega) (by omega)]; omega
    have nn : 0 ≤ x / 128 ^ (k + 1) := Int.ediv_nonneg h0 (Int.pow_nonneg (by decide))
    have le : x / 128 ^ (k + 1) ≤ x / 128 := by
      have e : x / 128 ^ (k + 1) = x / 128 / 128 ^ k := by rw [Int.ediv_ediv_of_nonneg (by decide), Int.mul_comm, ← Int.pow_succ]
      rw [e]; exact Int.ediv_le_self _ (by omega)
    have sh : shrI .u64 (x / 128 ^ (k + 1)) 57 = 0 := by
      have : shrI .u64 (x / 128 ^ (k + 1)) 57 = x / 128 ^ (k + 1) / 144115188075855872 := by
        show (x / 128 ^ (k + 1)).fdiv 144115188075855872 = _; exact Int.fdiv_eq_ediv_of_nonneg _ (by decide)
      rw [this]; omega
    have hd : ∃ a, (0 ≤ a ∧ a < 256) ∧ byte s ((p + i : Nat) : Int) = a ∧ p + i < s.length ∧ a % 128 = x / 128 ^ k % 128 ∧ (a < 128 ↔ k = 0) := by
      cases k with
      | zero =>
        obtain ⟨q1, q2⟩ := Lies.head hl (by omega) (by omega)
        exact ⟨_, by omega, q2, q1, by rw [Int.pow_zero, Int.ediv_one]; omega, by omega⟩
      | succ k =>
        obtain ⟨q1, q2⟩ := Lies.head hl (by omega) (by omega)
        exact ⟨_, by omega, q2, q1, by omega, by omega⟩
    obtain ⟨a, ab, e1, e2, e3, e4⟩ := hd
    have jn : x / 128 ^ (k + 1) * 128 + a % 128 = x / 128 ^ k := by
      have : x / 128 ^ (k + 1) = x / 128 ^ k / 128 := by rw [Int.ediv_ediv_of_nonneg (Int.pow_nonneg (by decide)), ← Int.pow_succ]
      rw [this, e3]; omega
    have key : wire_Reader_Uint.r0 ⟨s, (p : Int), 0⟩ (x / 128 ^ (k + 1), (i : Int)) = if a < 128 then some (.inr (.inl (x / 128 ^ k, ⟨s, ((p + i + 1 : Nat) : Int), 0⟩))) else some (.inl (x / 128 ^ k, ((i + 1 : Nat) : Int))) := by
      unfold wire_Reader_Uint.r0 wire_Reader_Uint.b0
      simp only
      rw [if_pos (by rfl), w0, if_neg (by simp; omega), if_pos (by omega), e1, sh, and127 _ ab.1 ab.2, w1, w2, join7 _ _ nn (by omega) (by omega) (by omega), jn, if_neg]
      · by_cases k2 : a < 128
        · rw [if_pos k2, if_pos (decide_eq_true k2)]
        · rw [if_neg k2, if_neg (by simpa using k2)]
      · intro h
        simp only [Bool.or_eq_true, Bool.and_eq_true, beq_iff_eq, bne_self_eq_false, Bool.false_eq_true, or_false] at h
        have z : i = 0 := by omega
        by_cases kz : k = 0
        · have := e4.2 kz; omega
        · have := hk z kz; omega
    cases k with
    | zero =>
      rw [if_pos (e4.2 rfl)] at key
      rw [loop_end key, Int.pow_zero, Int.ediv_one]
    | succ k =>
      rw [if_neg (fun h => by have := e4.1 h; omega)] at key
      rw [loop_next key]
      have := back_loop s hs x h0 h1 p hp k (i + 1) (by omega) (by rw [← Nat.add_assoc]; exact Lies.tail hl) (fun h => by omega)
      rw [this]
      congr 5
      omega

theorem uint_back (s : Bs) (hs : s.length < 1000000000) (x : Int) (h0 : 0 ≤ x) (h1 : x < 18446744073709551616) (p m : Nat) (hm : Needs x m) (hl : Lies s p (digits m x)) :
    wire_Reader_Uint.f ⟨s, (p : Int), 0⟩ = some (x, ⟨s, ((p + (digits m x).length : Nat) : Int), 0⟩) := by
  have pl := hl.len (fun h => by have := digits_len m x; rw [h] at this; simp at this)
  rw [digits_len] at pl
  have L := back_loop s hs x h0 h1 p (by omega) m 0 (by omega) hl (fun _ kz => by
    rcases hm.2.2 with z | z
    · exact absurd z kz
    · have e : x / 128 ^ (m + 1) = x / 128 ^ m / 128 := by rw [Int.ediv_ediv_of_nonneg (Int.pow_nonneg (by decide)), ← Int.pow_succ]
      have e2 := hm.2.1
      rw [e] at e2
      have nn : 0 ≤ x / 128 ^ m := Int.ediv_nonneg h0 (Int.pow_nonneg (by decide))
      omega)
  rw [hm.2.1] at L
  have L' : loop (wire_Reader_Uint.r0 ⟨s, (p : Int), 0⟩) (0, 0) = _ := L
  unfold wire_Reader_Uint.f
  rw [L', digits_len]; rfl

end Go.Proofs.Ytoongmdkndbppaa

