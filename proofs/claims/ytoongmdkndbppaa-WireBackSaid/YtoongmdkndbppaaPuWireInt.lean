/- Shows that the program's writer and the document write the same for signed numbers, texts, truths and rows of numbers. -/
import Derived.Test.YtoongmdkndbppaaPuWireRef
import Derived.Test.YtoongmdkndbppaaGx1
import Derived.Test.YtoongmdkndbppaaGx0
namespace Go.Proofs.Ytoongmdkndbppaa
open Go Go.Pm Go.Pm.Arith
set_option linter.unusedVariables false
set_option linter.unusedSimpArgs false

theorem xor_neg (n : Int) (h0 : -9223372036854775808 ≤ n) (h1 : n < 9223372036854775808) : bits .xor .i64 (-1) n = -1 - n := by
  show IntKind.i64.wrap ((BitVec.ofInt 64 (-1) ^^^ BitVec.ofInt 64 n).toNat : Int) = _
  have e : BitVec.ofInt 64 (-1) = BitVec.allOnes 64 := by decide
  rw [e, BitVec.allOnes_xor, BitVec.toNat_not, BitVec.toNat_ofInt, i64_wrap]
  omega

theorem int_both (n : Int) (h0 : -9223372036854775808 ≤ n) (h1 : n < 9223372036854775808) (b : List Int) (hb : b.length < 10000000) :
    ∃ d : List Int, d.length ≤ 10 ∧ wire_Writer_Int.f ⟨b⟩ n = some ⟨b ++ d⟩ ∧ lombardref09_Int.f n = some (toB d) := by
  unfold wire_Writer_Int.f lombardref09_Int.f lombardref09_Fold.f
  by_cases c : n < 0
  · rw [if_pos (decide_eq_true c), if_pos (decide_eq_true c), xor_neg n h0 h1]
    have e1 : IntKind.u64.wrap (-1 - n) = -1 - n := u64_id _ (by omega) (by omega)
    have e2 : IntKind.i64.wrap (-1 - n) = -1 - n := i64_id _ (by omega) (by omega)
    have e3 : shlI .u64 (-1 - n) 1 = 2 * (-1 - n) := by
      show IntKind.u64.wrap ((-1 - n) * 2) = _
      rw [u64_id _ (by omega) (by omega)]; omega
    have e4 : bits .or .u64 (2 * (-1 - n)) 1 = 2 * (-1 - n) + 1 := or_low 1 (by decide) _ _ (by omega) (by omega) (by omega) (by decide) (by decide)
    have e5 : IntKind.u64.wrap (2 * (-1 - n)) = 2 * (-1 - n) := u64_id _ (by omega) (by omega)
    have e6 : IntKind.u64.wrap (2 * (-1 - n) + 1) = 2 * (-1 - n) + 1 := u64_id _ (by omega) (by omega)
    obtain ⟨d, hd, k1, k2⟩ := uint_both (2 * (-1 - n) + 1) (by omega) (by omega) b hb
    rw [e1, e2, e1, e3, e4, e5, e6, k1, Option.bind_some, Option.bind_some, k2]
    exact ⟨d, hd, rfl, rfl⟩
  · rw [if_neg (by simpa using c), if_neg (by simpa using c)]
    have e1 : IntKind.u64.wrap n = n := u64_id _ (by omega) (by omega)
    have e3 : shlI .u64 n 1 = 2 * n := by
      show IntKind.u64.wrap (n * 2) = _
      rw [u64_id _ (by omega) (by omega)]; omega
    have e5 : IntKind.u64.wrap (2 * n) = 2 * n := u64_id _ (by omega) (by omega)
    obtain ⟨d, hd, k1, k2⟩ := uint_both (2 * n) (by omega) (by omega) b hb
    rw [e1, e3, e5, k1, Option.bind_some, Option.bind_some, k2]
    exact ⟨d, hd, rfl, rfl⟩

theorem text_both (s : Bs) (hs : s.length < 1000000) (b : List Int) (hb : b.length < 10000000) :
    ∃ d : List Int, d.length ≤ 10 + s.length ∧ wire_Writer_Text.f ⟨b⟩ s = some ⟨b ++ d⟩ ∧ lombardref09_Text.f s = some (toB d) := by
  obtain ⟨d, hd, k1, k2⟩ := uint_both (s.length : Int) (by omega) (by omega) b hb
  have e : IntKind.u64.wrap (s.length : Int) = (s.length : Int) := u64_id _ (by omega) (by omega)
  have lb : (bts s).length = s.length := by unfold bts; exact List.length_map _
  refine ⟨d ++ bts s, by rw [List.length_append, lb]; omega, ?_, ?_⟩
  · unfold wire_Writer_Text.f
    rw [e, k1, Option.bind_some, if_pos (by simp; omega), List.append_assoc]
  · unfold lombardref09_Text.f
    rw [e, k2, Option.bind_some, if_pos (by rw [toB_len]; omega), toB_append, toB_bts]

theorem bool_both (t : Bool) (b : List Int) (hb : b.length < 10000000) :
    ∃ d : List Int, d.length ≤ 10 ∧ wire_Writer_Bool.f ⟨b⟩ t = some ⟨b ++ d⟩ ∧ lombardref09_Bool.f t = some (toB d) := by
  unfold wire_Writer_Bool.f lombardref09_Bool.f
  cases t
  · exact ⟨[0], by decide, by rw [if_neg (by decide), Option.bind_some, if_pos (by simp; omega)], rfl⟩
  · exact ⟨[1], by decide, by rw [if_pos rfl, Option.bind_some, if_pos (by simp; omega)], rfl⟩

theorem ints_loop (l : List Int) (hl : l.length < 100000) (hw : ∀ y ∈ l, inK .i64 y) : ∀ (j i : Nat) (b c : List Int), l.length = i + j → b.length + 10 * j < 5000000 → c.length + 10 * j < 5000000 →
    ∃ d : List Int, d.length ≤ 10 * j ∧ loop (wire_Writer_Ints.r0 l) ((i : Int), b) = some (b ++ d) ∧ loop (lombardref09_Ints.r0 l) (toB c, (i : Int)) = some (toB (c ++ d))
  | 0, i, b, c, h, hb, hc => by
    refine ⟨[], by simp, ?_, ?_⟩
    · rw [List.append_nil]
      refine loop_end ?_
      unfold wire_Writer_Ints.r0 wire_Writer_Ints.b0
      rw [if_neg (by simp; omega)]
    · rw [List.append_nil]
      refine loop_end ?_
      unfold lombardref09_Ints.r0 lombardref09_Ints.b0
      rw [if_neg (by simp; omega)]
  | j + 1, i, b, c, h, hb, hc => by
    have g : (0 : Int) ≤ (i : Int) ∧ (i : Int) < (l.length : Int) := by omega
    have w : IntKind.i64.wrap ((i : Int) + 1) = ((i + 1 : Nat) : Int) := by rw [i64_id _ (by omega) (by omega)]; omega
    have e : nth l (i : Int) ∈ l := by
      show l.getD i default ∈ l
      rw [List.getD_eq_getElem?_getD, List.getElem?_eq_getElem (by omega)]
      exact List.getElem_mem _
    obtain ⟨q0, q1⟩ := hw _ e
    simp [IntKind.min, IntKind.max, IntKind.signed, IntKind.bits] at q0 q1
    obtain ⟨d, hd, k1, k2⟩ := int_both (nth l (i : Int)) (by omega) (by omega) b (by omega)
    have s1 : wire_Writer_Ints.r0 l ((i : Int), b) = some (.inl (((i + 1 : Nat) : Int), b ++ d)) := by
      unfold wire_Writer_Ints.r0 wire_Writer_Ints.b0
      simp only
      rw [if_pos (decide_eq_true g.2), if_pos g, k1, Option.bind_some, w]
    have s2 : lombardref09_Ints.r0 l (toB c, (i : Int)) = some (.inl (toB (c ++ d), ((i + 1 : Nat) : Int))) := by
      unfold lombardref09_Ints.r0 lombardref09_Ints.b0
      simp only
      rw [if_pos (decide_eq_true g.2), if_pos g, k2, Option.bind_some, if_pos (by rw [toB_len, toB_len]; omega), w, toB_append]
    obtain ⟨d2, hd2, l1, l2⟩ := ints_loop l hl hw j (i + 1) (b ++ d) (c ++ d) (by omega) (by rw [List.length_append]; omega) (by rw [List.length_append]; omega)
    refine ⟨d ++ d2, by rw [List.length_append]; omega, ?_, ?_⟩
    · rw [loop_next s1, l1, List.append_assoc]
    · rw [loop_next s2, l2, List.append_assoc]

theorem ints_both (l : List Int) (hl : l.length < 100000) (hw : ∀ y ∈ l, inK .i64 y) (b : List Int) (hb : b.length < 2000000) :
    ∃ d : List Int, d.length ≤ 10 + 10 * l.length ∧ wire_Writer_Ints.f ⟨b⟩ l = some ⟨b ++ d⟩ ∧ lombardref09_Ints.f l = some (toB d) := by
  obtain ⟨d, hd, k1, k2⟩ := uint_both (l.length : Int) (by omega) (by omega) b (by omega)
  have e : IntKind.u64.wrap (l.length : Int) = (l.length : Int) := u64_id _ (by omega) (by omega)
  obtain ⟨d2, hd2, l1, l2⟩ := ints_loop l hl hw l.length 0 (b ++ d) d (by omega) (by rw [List.length_append]; omega) (by omega)
  have l1' : loop (wire_Writer_Ints.r0 l) (0, b ++ d) = _ := l1
  have l2' : loop (lombardref09_Ints.r0 l) (toB d, 0) = _ := l2
  refine ⟨d ++ d2, by rw [List.length_append]; omega, ?_, ?_⟩
  · unfold wire_Writer_Ints.f
    rw [e, k1, Option.bind_some]
    simp only
    rw [l1', Option.bind_some, List.append_assoc]
  · unfold lombardref09_Ints.f
    rw [e, k2, Option.bind_some, l2', Option.bind_some]

end Go.Proofs.Ytoongmdkndbppaa

