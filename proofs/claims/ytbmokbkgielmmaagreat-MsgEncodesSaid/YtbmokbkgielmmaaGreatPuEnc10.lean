/- Shows what the program's writer writes for whole numbers, texts and truths, as plain lists of bytes. -/
import Derived.Test.YtbmokbkgielmmaaGreatPuCur
import Derived.Test.YtbmokbkgielmmaaGreatGx1
import Derived.Test.YtbmokbkgielmmaaGreatGx1
namespace Go.Proofs.YtbmokbkgielmmaaGreat
open Go Go.Pm Go.Pm.Arith
set_option linter.unusedVariables false
set_option linter.unusedSimpArgs false
theorem i64_wrap (n : Int) : IntKind.i64.wrap n = (n + 9223372036854775808) % 18446744073709551616 - 9223372036854775808 := by
  simp only [IntKind.wrap, IntKind.bits, IntKind.signed]; simp; omega
theorem i64_id (n : Int) (h₀ : -9223372036854775808 ≤ n) (h₁ : n < 9223372036854775808) : IntKind.i64.wrap n = n := by rw [i64_wrap]; omega
theorem u8_wrap (n : Int) : IntKind.u8.wrap n = n % 256 := by simp [IntKind.wrap, IntKind.bits, IntKind.signed]
theorem shrn (x : Int) (j : Nat) (hj : j ≤ 64) : shrI .u64 x (j : Int) = x / 2 ^ j := by
  unfold shrI; rw [Int.toNat_natCast, Nat.min_eq_left (by simp [IntKind.bits]; omega)]; exact Int.fdiv_eq_ediv_of_nonneg _ (Int.pow_nonneg (by decide))
theorem pow7 (k : Nat) : (2 : Int) ^ (7 * k) = 128 ^ k := by rw [Int.pow_mul]; rfl
theorem or128 : ∀ n : Fin 256, bits .or .u8 (bits .and .u8 (n : Int) 127) 128 = 128 + (n : Int) % 128 ∧ bits .and .u8 (n : Int) 127 = (n : Int) % 128 := by decide +kernel
theorem or_128 (y : Int) (h : 0 ≤ y) : bits .or .u8 (bits .and .u8 (IntKind.wrap .u8 y) 127) 128 = 128 + y % 128 ∧ bits .and .u8 (IntKind.wrap .u8 y) 127 = y % 128 := by
  rw [u8_wrap]
  have k := or128 ⟨(y % 256).toNat, by omega⟩
  have e : ((⟨(y % 256).toNat, by omega⟩ : Fin 256) : Nat) = (y % 256).toNat := rfl
  have e2 : (((y % 256).toNat : Nat) : Int) = y % 256 := by omega
  simp only [e2] at k
  rw [k.1, k.2]
  omega
def digits : Nat → Int → List Int
  | 0, x => [x % 128]
  | k + 1, x => (128 + x / 128 ^ (k + 1) % 128) :: digits k x
theorem digits_len : ∀ (k : Nat) (x : Int), (digits k x).length = k + 1
  | 0, x => rfl
  | k + 1, x => by rw [digits, List.length_cons, digits_len k x]
theorem first_loop (x : Int) (hx : 0 ≤ x) : ∀ k : Nat, k ≤ 9 → x / 128 ^ (k + 1) = 0 →
    ∃ m : Nat, m ≤ 9 ∧ loop (wire_Writer_Uint.r0 x) ((7 * k : Nat) : Int) = some ((7 * m : Nat) : Int) ∧ x / 128 ^ (m + 1) = 0 ∧ (m = 0 ∨ x / 128 ^ m ≠ 0)
  | 0, hk, h => ⟨0, by omega, loop_end (by unfold wire_Writer_Uint.r0 wire_Writer_Uint.b0; rw [if_neg (by simp)]), h, Or.inl rfl⟩
  | k + 1, hk, h => by
    have w1 : IntKind.u64.wrap ((7 * (k + 1) : Nat) : Int) = ((7 * (k + 1) : Nat) : Int) := u64_id _ (by omega) (by omega)
    have w2 : IntKind.i64.wrap (((7 * (k + 1) : Nat) : Int) - 7) = ((7 * k : Nat) : Int) := by rw [i64_id _ (by omega) (by omega)]; omega
    have gt : ((7 * (k + 1) : Nat) : Int) > 0 := by omega
    have key : wire_Writer_Uint.r0 x ((7 * (k + 1) : Nat) : Int) = if x / 128 ^ (k + 1) = 0 then some (.inl ((7 * k : Nat) : Int)) else some (.inr ((7 * (k + 1) : Nat) : Int)) := by
      unfold wire_Writer_Uint.r0 wire_Writer_Uint.b0
      rw [w1, shrn x _ (by omega), pow7, w2, decide_eq_true gt, Bool.true_and]
      simp only [beq_iff_eq]
    by_cases c : x / 128 ^ (k + 1) = 0
    · rw [if_pos c] at key
      obtain ⟨m, h1, h2, h3, h4⟩ := first_loop x hx k (by omega) c
      exact ⟨m, h1, by rw [loop_next key, h2], h3, h4⟩
    · rw [if_neg c] at key
      exact ⟨k + 1, by omega, loop_end key, h, Or.inr c⟩
theorem second_loop (x : Int) (hx : 0 ≤ x) : ∀ (m : Nat) (l : List Int), m ≤ 9 → l.length + m < 100000000 →
    loop (wire_Writer_Uint.r1 x) (((7 * m : Nat) : Int), l) = some (l ++ (digits m x).dropLast)
  | 0, l, hm, hl => loop_end (by unfold wire_Writer_Uint.r1 wire_Writer_Uint.b1; rw [if_neg (by simp)]; simp [digits])
  | m + 1, l, hm, hl => by
    have w1 : IntKind.u64.wrap ((7 * (m + 1) : Nat) : Int) = ((7 * (m + 1) : Nat) : Int) := u64_id _ (by omega) (by omega)
    have w2 : IntKind.i64.wrap (((7 * (m + 1) : Nat) : Int) - 7) = ((7 * m : Nat) : Int) := by rw [i64_id _ (by omega) (by omega)]; omega
    have gt : ((7 * (m + 1) : Nat) : Int) > 0 := by omega
    have nn : 0 ≤ x / 128 ^ (m + 1) := Int.ediv_nonneg hx (Int.pow_nonneg (by decide))
    have key : wire_Writer_Uint.r1 x (((7 * (m + 1) : Nat) : Int), l) = some (.inl (((7 * m : Nat) : Int), l ++ [128 + x / 128 ^ (m + 1) % 128])) := by
      unfold wire_Writer_Uint.r1 wire_Writer_Uint.b1
      simp only
      rw [if_pos (decide_eq_true gt), if_pos (by simp; omega), w1, shrn x _ (by omega), pow7, w2, (or_128 _ nn).1]
    rw [loop_next key, second_loop x hx m _ (by omega) (by simp; omega)]
    have ne : digits m x ≠ [] := fun h => by have := digits_len m x; rw [h] at this; simp at this
    rw [List.append_assoc, List.singleton_append]
    show _ = some (l ++ ((128 + x / 128 ^ (m + 1) % 128) :: digits m x).dropLast)
    rw [List.dropLast_cons_of_ne_nil ne]
theorem digits_last (x : Int) : ∀ m, (digits m x).dropLast ++ [x % 128] = digits m x
  | 0 => rfl
  | m + 1 => by
    have ne : digits m x ≠ [] := fun h => by have := digits_len m x; rw [h] at this; simp at this
    show ((128 + x / 128 ^ (m + 1) % 128) :: digits m x).dropLast ++ [x % 128] = _
    rw [List.dropLast_cons_of_ne_nil ne, List.cons_append, digits_last x m]; rfl
def Needs (x : Int) (m : Nat) : Prop := m ≤ 9 ∧ x / 128 ^ (m + 1) = 0 ∧ (m = 0 ∨ x / 128 ^ m ≠ 0)
theorem toB_append (a b : List Int) : toB (a ++ b) = toB a ++ toB b := by unfold toB; exact List.map_append
theorem toB_len (a : List Int) : (toB a).length = a.length := by unfold toB; exact List.length_map _
theorem toB_bts (s : Bs) : toB (bts s) = s := by
  unfold toB bts
  rw [List.map_map]
  conv => rhs; rw [← List.map_id s]
  refine List.map_congr_left fun x _ => ?_
  show UInt8.ofNat ((x.toNat : Int)).toNat = x
  rw [Int.toNat_natCast, UInt8.ofNat_toNat]
theorem div_next (x : Int) (i : Nat) : x / 128 ^ (i + 1) / 128 = x / 128 ^ (i + 2) := by
  rw [Int.ediv_ediv_of_nonneg (Int.pow_nonneg (by decide)), ← Int.pow_succ]
theorem needs_uniq {x : Int} {m k : Nat} (h : Needs x m) (h' : Needs x k) : m = k := by
  have mono : ∀ (a d : Nat), x / 128 ^ (a + 1) = 0 → x / 128 ^ (a + 1 + d) = 0 := fun a d e => by
    rw [Int.pow_add, ← Int.ediv_ediv_of_nonneg (Int.pow_nonneg (by decide)), e, Int.zero_ediv]
  rcases Nat.lt_trichotomy m k with c | c | c
  · rcases h'.2.2 with z | z
    · omega
    · have := mono m (k - m - 1) h.2.1
      rw [show m + 1 + (k - m - 1) = k by omega] at this
      exact absurd this z
  · exact c
  · rcases h.2.2 with z | z
    · omega
    · have := mono k (m - k - 1) h'.2.1
      rw [show k + 1 + (m - k - 1) = m by omega] at this
      exact absurd this z
open Classical in
noncomputable def eU (x : Int) : List Int := if h : ∃ m, Needs x m then digits (Classical.choose h) x else []
theorem eU_is {x : Int} {m : Nat} (h : Needs x m) : eU x = digits m x := by
  have hx : ∃ m, Needs x m := ⟨m, h⟩
  unfold eU
  rw [dif_pos hx, needs_uniq h (Classical.choose_spec hx)]
theorem eU_len (x : Int) : (eU x).length ≤ 10 := by
  by_cases hx : ∃ m, Needs x m
  · obtain ⟨m, hm⟩ := hx
    rw [eU_is hm, digits_len]
    have := hm.1; omega
  · unfold eU; rw [dif_neg hx]; simp
theorem uint_is (x : Int) (h0 : 0 ≤ x) (h1 : x < 18446744073709551616) (b : List Int) (hb : b.length < 10000000) : wire_Writer_Uint.f ⟨⟨b⟩⟩ x = some ⟨⟨b ++ eU x⟩⟩ := by
  obtain ⟨m, m1, m2, m3, m4⟩ := first_loop x h0 9 (by omega) (Int.ediv_eq_zero_of_lt h0 (by
    have : (128 : Int) ^ (9 + 1) = 1180591620717411303424 := by decide
    omega))
  have m2' : loop (wire_Writer_Uint.r0 x) 63 = some ((7 * m : Nat) : Int) := m2
  rw [eU_is ⟨m1, m3, m4⟩]
  unfold wire_Writer_Uint.f
  rw [m2', Option.bind_some]
  simp only
  rw [second_loop x h0 m b m1 (by omega), Option.bind_some, if_pos (by
    have := digits_len m x
    simp [this]; omega), (or_128 x h0).2, List.append_assoc, digits_last]
def fold (n : Int) : Int := if n < 0 then (2 * (-1 - n) + 1) % 18446744073709551616 else (2 * n) % 18446744073709551616
theorem fold_range (n : Int) : 0 ≤ fold n ∧ fold n < 18446744073709551616 := by unfold fold; split <;> omega
noncomputable def eI (n : Int) : List Int := eU (fold n)
noncomputable def eT (s : Bs) : List Int := eU (s.length : Int) ++ bts s
def eB (t : Bool) : List Int := [if t = true then 1 else 0]
class Sh {α : Type} (l : List α) (k : outParam Nat) : Prop where
  le : l.length ≤ k
instance shNil {α : Type} : Sh ([] : List α) 0 := ⟨Nat.le_refl _⟩
instance shCons {α : Type} {a : α} {l : List α} {k : Nat} [h : Sh l k] : Sh (a :: l) (k + 1) := ⟨Nat.succ_le_succ h.le⟩
instance shApp {α : Type} {a b : List α} {m n : Nat} [h : Sh a m] [h' : Sh b n] : Sh (a ++ b) (m + n) := ⟨by rw [List.length_append]; have := h.le; have := h'.le; omega⟩
instance shB {l : List Int} {k : Nat} [h : Sh l k] : Sh (toB l) k := ⟨by rw [toB_len]; exact h.le⟩
instance shU (x : Int) : Sh (eU x) 10 := ⟨eU_len x⟩
instance shI (n : Int) : Sh (eI n) 10 := ⟨eU_len _⟩
instance shT {s : Bs} {k : Nat} [h : Sh s k] : Sh (eT s) (10 + k) := ⟨by
  have := h.le; have := eU_len (s.length : Int); unfold eT bts; rw [List.length_append, List.length_map]; omega⟩
instance shBo (t : Bool) : Sh (eB t) 1 := ⟨Nat.le_refl _⟩
theorem flat_len {α : Type} (E : α → List Int) (K : Nat) : ∀ (l : List α), (∀ y ∈ l, (E y).length ≤ K) → (l.flatMap E).length ≤ K * l.length
  | [], _ => by simp
  | a :: l, h => by
    have h1 := h a (by simp)
    have h2 := flat_len E K l (fun y hy => h y (by simp [hy]))
    rw [List.flatMap_cons, List.length_append, List.length_cons, Nat.mul_succ]
    omega
instance shF {l : List Int} {k : Nat} [h : Sh l k] : Sh (l.flatMap eI) (10 * k) := ⟨by
  have := flat_len eI 10 l (fun y _ => eU_len _)
  have := h.le; omega⟩
theorem xor_neg (n : Int) : bits .xor .i64 (-1) n = IntKind.i64.wrap (-1 - n) := by
  show IntKind.i64.wrap ((BitVec.ofInt 64 (-1) ^^^ BitVec.ofInt 64 n).toNat : Int) = _
  have e : BitVec.ofInt 64 (-1) = BitVec.allOnes 64 := by decide
  rw [e, BitVec.allOnes_xor, BitVec.toNat_not, BitVec.toNat_ofInt, i64_wrap, i64_wrap]
  omega
theorem wr_int (n : Int) (b : List Int) (hb : b.length < 10000000) : wire_Writer_Int.f ⟨⟨b⟩⟩ n = some ⟨⟨b ++ eI n⟩⟩ := by
  obtain ⟨f0, f1⟩ := fold_range n
  unfold wire_Writer_Int.f
  by_cases c : n < 0
  · have ef : fold n = (2 * (-1 - n) + 1) % 18446744073709551616 := by unfold fold; rw [if_pos c]
    rw [if_pos (decide_eq_true c), xor_neg n]
    have e1 : IntKind.u64.wrap (IntKind.i64.wrap (-1 - n)) = (-1 - n) % 18446744073709551616 := by rw [u64_wrap, i64_wrap]; omega
    have e3 : shlI .u64 ((-1 - n) % 18446744073709551616) 1 = fold n - 1 := by
      show IntKind.u64.wrap ((-1 - n) % 18446744073709551616 * 2) = _
      rw [u64_wrap, ef]; omega
    have e4 : bits .or .u64 (fold n - 1) 1 = fold n - 1 + 1 := or_low 1 (by decide) _ _ (by omega) (by omega) (by omega) (by decide) (by decide)
    rw [e1, e3, e4, show fold n - 1 + 1 = fold n by omega, uint_is (fold n) f0 f1 b hb]
    rfl
  · have ef : fold n = (2 * n) % 18446744073709551616 := by unfold fold; rw [if_neg c]
    rw [if_neg (by simpa using c)]
    have e3 : shlI .u64 (IntKind.u64.wrap n) 1 = fold n := by
      show IntKind.u64.wrap (IntKind.u64.wrap n * 2) = _
      rw [u64_wrap, u64_wrap, ef]; omega
    rw [e3, uint_is (fold n) f0 f1 b hb]
    rfl
theorem wr_text (s : Bs) (hs : s.length < 1000000) (b : List Int) (hb : b.length < 1000000) : wire_Writer_Text.f ⟨⟨b⟩⟩ s = some ⟨⟨b ++ eT s⟩⟩ := by
  have e : IntKind.u64.wrap (s.length : Int) = (s.length : Int) := u64_id _ (by omega) (by omega)
  unfold wire_Writer_Text.f
  rw [e, uint_is (s.length : Int) (by omega) (by omega) b (by omega), Option.bind_some, if_pos (by
    have := eU_len (s.length : Int)
    simp; omega)]
  unfold eT
  rw [List.append_assoc]
theorem wr_bool (t : Bool) (b : List Int) (hb : b.length < 10000000) : wire_Writer_Bool.f ⟨⟨b⟩⟩ t = some ⟨⟨b ++ eB t⟩⟩ := by
  unfold wire_Writer_Bool.f
  cases t
  · rw [if_neg (by decide), Option.bind_some, if_pos (by simp; omega)]; rfl
  · rw [if_pos rfl, Option.bind_some, if_pos (by simp; omega)]; rfl
theorem nth_at {α : Type} [Inhabited α] (l : List α) (i : Nat) (h : i < l.length) : nth l (i : Int) = l[i] := by
  show l.getD i default = _
  rw [List.getD_eq_getElem?_getD, List.getElem?_eq_getElem h]; rfl
theorem nth_in {α : Type} [Inhabited α] (l : List α) (i : Nat) (h : i < l.length) : nth l (i : Int) ∈ l := by
  rw [nth_at l i h]; exact List.getElem_mem _
theorem each_loop {S R α : Type} [Inhabited α] (g : S → Option (S ⊕ R)) (mk : Nat → List Int → S) (L : List α) (E : α → List Int) (fin : List Int → R) (K B : Nat)
    (hE : ∀ y ∈ L, (E y).length ≤ K) (hend : ∀ b, g (mk L.length b) = some (.inr (fin b)))
    (step : ∀ (i : Nat) (b : List Int), i < L.length → b.length ≤ B + K * L.length → g (mk i b) = some (.inl (mk (i + 1) (b ++ E (nth L (i : Int)))))) :
    ∀ (j i : Nat) (b : List Int), L.length = i + j → b.length ≤ B + K * i → loop g (mk i b) = some (fin (b ++ (L.drop i).flatMap E))
  | 0, i, b, h, hb => by
    obtain rfl : L.length = i := by omega
    rw [List.drop_length, List.flatMap_nil, List.append_nil]
    exact loop_end (hend b)
  | j + 1, i, b, h, hb => by
    have k1 := Nat.mul_le_mul_left K (show i ≤ L.length by omega)
    have k2 := hE _ (nth_in L i (by omega))
    have k3 : K * (i + 1) = K * i + K := Nat.mul_succ _ _
    rw [loop_next (step i b (by omega) (by omega)), each_loop g mk L E fin K B hE hend step j (i + 1) _ (by omega) (by rw [List.length_append]; omega), List.append_assoc,
      List.drop_eq_getElem_cons (show i < L.length by omega), List.flatMap_cons, nth_at L i (by omega)]
theorem each_all {S R α : Type} [Inhabited α] (g : S → Option (S ⊕ R)) (mk : Nat → List Int → S) (L : List α) (E : α → List Int) (fin : List Int → R) (K B : Nat)
    (hE : ∀ y ∈ L, (E y).length ≤ K) (hend : ∀ b, g (mk L.length b) = some (.inr (fin b)))
    (step : ∀ (i : Nat) (b : List Int), i < L.length → b.length ≤ B + K * L.length → g (mk i b) = some (.inl (mk (i + 1) (b ++ E (nth L (i : Int))))))
    (b : List Int) (hb : b.length ≤ B) : loop g (mk 0 b) = some (fin (b ++ L.flatMap E)) :=
  each_loop g mk L E fin K B hE hend step L.length 0 b (by omega) (by omega)
theorem ints_all (L : List Int) (hL : L.length ≤ 1000) (g : Int × List Int → Option ((Int × List Int) ⊕ List Int))
    (hg : ∀ v b, g (v, b) = if (decide (v < (List.length L : Int))) = true then
      if (0 : Int) ≤ v ∧ v < (List.length L : Int) then
      (wire_Writer_Int.f (⟨(⟨b⟩ : wire_Writer)⟩ : msg_encoder) (nth L v)).bind fun t => some (.inl ((IntKind.wrap .i64 (v + 1)), t.Writer.b))
      else none
    else some (.inr b)) (b : List Int) (hb : b.length ≤ 1000000) : loop g (0, b) = some (b ++ L.flatMap eI) := by
  refine each_all g (fun i b => ((i : Int), b)) L eI (fun b => b) 10 1000000 (fun y _ => eU_len _) (fun b => ?_) (fun i b hi hb => ?_) b hb
  · rw [hg, if_neg (by simp)]
  · rw [hg, if_pos (decide_eq_true (by omega)), if_pos (by omega), wr_int _ _ (by omega), Option.bind_some, i64_nx i (by omega)]
theorem wr_ints (L : List Int) (hL : L.length ≤ 1000) (b : List Int) (hb : b.length ≤ 100000) : wire_Writer_Ints.f ⟨⟨b⟩⟩ L = some ⟨⟨b ++ (eU (L.length : Int) ++ L.flatMap eI)⟩⟩ := by
  have e : IntKind.u64.wrap (L.length : Int) = (L.length : Int) := u64_id _ (by omega) (by omega)
  have h := eU_len (L.length : Int)
  unfold wire_Writer_Ints.f
  rw [e, uint_is _ (by omega) (by omega) b (by omega), Option.bind_some]
  simp only
  rw [ints_all L hL (wire_Writer_Ints.r0 L) (fun _ _ => rfl) _ (by simp; omega), Option.bind_some, List.append_assoc]
end Go.Proofs.YtbmokbkgielmmaaGreat
