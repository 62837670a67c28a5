/- The plain statement of WireBack: what is written is read as it was, whatever stands behind it. -/
import Derived.Test.YtoongmdkndbppaaPuWireBack
import Derived.Test.YtoongmdkndbppaaGx4
namespace Go.Proofs.Ytoongmdkndbppaa
open Go Go.Pm Go.Pm.Arith
set_option linter.unusedVariables false
set_option linter.unusedSimpArgs false

theorem and1 (u : Int) (h0 : 0 ≤ u) (h1 : u < 18446744073709551616) : bits .and .u64 u 1 = u % 2 := by
  show IntKind.u64.wrap ((BitVec.ofInt 64 u &&& BitVec.ofInt 64 1).toNat : Int) = _
  have e : (BitVec.ofInt 64 1).toNat = 1 := by decide
  rw [BitVec.toNat_and, e, Nat.and_one_is_mod, BitVec.toNat_ofInt, u64_id _ (by omega) (by omega)]
  omega

theorem shr1 (u : Int) : shrI .u64 u 1 = u / 2 := by
  show u.fdiv 2 = _; exact Int.fdiv_eq_ediv_of_nonneg _ (by decide)

theorem uint_rt (x : Int) (h0 : 0 ≤ x) (h1 : x < 18446744073709551616) (b : List Int) (hb : b.length < 10000000) :
    ∃ d : List Int, d.length ≤ 10 ∧ wire_Writer_Uint.f ⟨b⟩ x = some ⟨b ++ d⟩ ∧ ∀ (s : Bs) (p : Nat), s.length < 1000000000 → Lies s p d →
      p + d.length ≤ s.length ∧ wire_Reader_Uint.f ⟨s, (p : Int), 0⟩ = some (x, ⟨s, ((p + d.length : Nat) : Int), 0⟩) := by
  obtain ⟨m, hm, e⟩ := uint_is x h0 h1 b hb
  have ne : digits m x ≠ [] := fun h => by have := digits_len m x; rw [h] at this; simp at this
  exact ⟨digits m x, by rw [digits_len]; have := hm.1; omega, e, fun s p hs hl => ⟨hl.len ne, uint_back s hs x h0 h1 p m hm hl⟩⟩

theorem int_rt (n : Int) (h0 : -9223372036854775808 ≤ n) (h1 : n < 9223372036854775808) (b : List Int) (hb : b.length < 10000000) :
    ∃ d : List Int, d.length ≤ 10 ∧ wire_Writer_Int.f ⟨b⟩ n = some ⟨b ++ d⟩ ∧ ∀ (s : Bs) (p : Nat), s.length < 1000000000 → Lies s p d →
      p + d.length ≤ s.length ∧ wire_Reader_Int.f ⟨s, (p : Int), 0⟩ = some (n, ⟨s, ((p + d.length : Nat) : Int), 0⟩) := by
  unfold wire_Writer_Int.f
  by_cases c : n < 0
  · rw [if_pos (decide_eq_true c), xor_neg n h0 h1]
    have e1 : IntKind.u64.wrap (-1 - n) = -1 - n := u64_id _ (by omega) (by omega)
    have e3 : shlI .u64 (-1 - n) 1 = 2 * (-1 - n) := by
      show IntKind.u64.wrap ((-1 - n) * 2) = _
      rw [u64_id _ (by omega) (by omega)]; omega
    have e4 : bits .or .u64 (2 * (-1 - n)) 1 = 2 * (-1 - n) + 1 := or_low 1 (by decide) _ _ (by omega) (by omega) (by omega) (by decide) (by decide)
    obtain ⟨d, hd, k1, k2⟩ := uint_rt (2 * (-1 - n) + 1) (by omega) (by omega) b hb
    rw [e1, e3, e4, k1, Option.bind_some]
    refine ⟨d, hd, rfl, fun s p hs hl => ⟨(k2 s p hs hl).1, ?_⟩⟩
    unfold wire_Reader_Int.f
    rw [(k2 s p hs hl).2, Option.bind_some]
    simp only
    rw [and1 _ (by omega) (by omega), if_pos (by rw [beq_iff_eq]; omega), shr1, i64_id _ (by omega) (by omega), xor_neg _ (by omega) (by omega)]
    congr 2
    omega
  · rw [if_neg (by simpa using c)]
    have e1 : IntKind.u64.wrap n = n := u64_id _ (by omega) (by omega)
    have e3 : shlI .u64 n 1 = 2 * n := by
      show IntKind.u64.wrap (n * 2) = _
      rw [u64_id _ (by omega) (by omega)]; omega
    obtain ⟨d, hd, k1, k2⟩ := uint_rt (2 * n) (by omega) (by omega) b hb
    rw [e1, e3, k1, Option.bind_some]
    refine ⟨d, hd, rfl, fun s p hs hl => ⟨(k2 s p hs hl).1, ?_⟩⟩
    unfold wire_Reader_Int.f
    rw [(k2 s p hs hl).2, Option.bind_some]
    simp only
    rw [and1 _ (by omega) (by omega), if_neg (by rw [beq_iff_eq]; omega), shr1, i64_id _ (by omega) (by omega)]
    congr 2
    omega

theorem text_rt (t : Bs) (ht : t.length ≤ 6000) (b : List Int) (hb : b.length < 10000000) :
    ∃ d : List Int, d.length ≤ 10 + t.length ∧ wire_Writer_Text.f ⟨b⟩ t = some ⟨b ++ d⟩ ∧ ∀ (s : Bs) (p : Nat), s.length < 1000000000 → Lies s p d →
      wire_Reader_Text.f ⟨s, (p : Int), 0⟩ 6000 = some (t, ⟨s, ((p + d.length : Nat) : Int), 0⟩) := by
  obtain ⟨d, hd, k1, k2⟩ := uint_rt (t.length : Int) (by omega) (by omega) b hb
  have e : IntKind.u64.wrap (t.length : Int) = (t.length : Int) := u64_id _ (by omega) (by omega)
  have lb : (bts t).length = t.length := by unfold bts; exact List.length_map _
  refine ⟨d ++ bts t, by rw [List.length_append, lb]; omega, ?_, fun s p hs hl => ?_⟩
  · unfold wire_Writer_Text.f
    rw [e, k1, Option.bind_some, if_pos (by simp; omega), List.append_assoc]
  · obtain ⟨q1, q2⟩ := k2 s p hs hl.left
    obtain ⟨rest, hr⟩ := hl.right
    rw [toB_bts] at hr
    have len : p + d.length + t.length ≤ s.length := by
      have := congrArg List.length hr
      rw [List.length_drop, List.length_append] at this; omega
    unfold wire_Reader_Text.f
    rw [q2, Option.bind_some]
    simp only
    have w1 : IntKind.u64.wrap 6000 = 6000 := by decide
    have w2 : IntKind.u64.wrap (IntKind.wrap .i64 ((s.length : Int) - ((p + d.length : Nat) : Int))) = ((s.length - (p + d.length) : Nat) : Int) := by
      rw [i64_id _ (by omega) (by omega), u64_id _ (by omega) (by omega)]; omega
    have w3 : IntKind.i64.wrap (((p + d.length : Nat) : Int) + IntKind.wrap .i64 (t.length : Int)) = ((p + d.length + t.length : Nat) : Int) := by
      rw [i64_id (t.length : Int) (by omega) (by omega), i64_id _ (by omega) (by omega)]; omega
    rw [w1, w2, w3, if_neg (by decide), if_neg (by simp; omega), if_neg (by simp; omega), if_pos (by omega)]
    rw [Int.toNat_natCast, Int.toNat_natCast, hr, show p + d.length + t.length - (p + d.length) = t.length by omega, List.take_left' rfl, List.length_append, lb]
    congr 3
    omega

theorem bool_rt (t : Bool) (b : List Int) (hb : b.length < 10000000) :
    ∃ d : List Int, d.length ≤ 10 ∧ wire_Writer_Bool.f ⟨b⟩ t = some ⟨b ++ d⟩ ∧ ∀ (s : Bs) (p : Nat), s.length < 1000000000 → Lies s p d →
      wire_Reader_Bool.f ⟨s, (p : Int), 0⟩ = some (t, ⟨s, ((p + d.length : Nat) : Int), 0⟩) := by
  have rd : ∀ (a : Int) (s : Bs) (p : Nat), s.length < 1000000000 → Lies s p [a] → 0 ≤ a → a ≤ 1 → wire_Reader_Bool.f ⟨s, (p : Int), 0⟩ = some (a == 1, ⟨s, ((p + 1 : Nat) : Int), 0⟩) := by
    intro a s p hs hl a0 a1
    obtain ⟨q1, q2⟩ := hl.head a0 (by omega)
    unfold wire_Reader_Bool.f
    simp only
    have w1 : IntKind.i64.wrap ((p : Int) + 1) = ((p + 1 : Nat) : Int) := by rw [i64_id _ (by omega) (by omega)]; omega
    have w2 : IntKind.i64.wrap (((p + 1 : Nat) : Int) - 1) = (p : Int) := by rw [i64_id _ (by omega) (by omega)]; omega
    rw [if_neg (by decide), if_neg (by simp; omega), if_pos (by omega), q2, if_neg (by simp; omega), w1, w2, if_pos (by omega), q2]
  unfold wire_Writer_Bool.f
  cases t
  · exact ⟨[0], by decide, by rw [if_neg (by decide), Option.bind_some, if_pos (by simp; omega)], fun s p hs hl => rd 0 s p hs hl (by decide) (by decide)⟩
  · exact ⟨[1], by decide, by rw [if_pos rfl, Option.bind_some, if_pos (by simp; omega)], fun s p hs hl => rd 1 s p hs hl (by decide) (by decide)⟩

theorem ints_rt_loop (l : List Int) (hl : l.length ≤ 6000) (hw : ∀ y ∈ l, inK .i64 y) (t1 : Int × wire_Reader) (ht : t1.1 = (l.length : Int)) : ∀ (j i : Nat) (b : List Int), l.length = i + j → b.length + 10 * j < 5000000 →
    ∃ d : List Int, d.length ≤ 10 * j ∧ loop (wire_Writer_Ints.r0 l) ((i : Int), b) = some (b ++ d) ∧ ∀ (s : Bs) (p : Nat), s.length < 1000000000 → Lies s p d →
      loop (wire_Reader_Ints.r0 t1) ((i : Int), s, (p : Int), 0, l.take i) = some (s, ((p + d.length : Nat) : Int), 0, l)
  | 0, i, b, h, hb => by
    refine ⟨[], by simp, ?_, fun s p hs hl => ?_⟩
    · rw [List.append_nil]
      refine loop_end ?_
      unfold wire_Writer_Ints.r0 wire_Writer_Ints.b0
      rw [if_neg (by simp; omega)]
    · refine loop_end ?_
      unfold wire_Reader_Ints.r0 wire_Reader_Ints.b0
      simp only
      rw [ht, if_neg (by simp; omega), List.take_of_length_le (by omega)]
      rfl
  | j + 1, i, b, h, hb => by
    have g : (0 : Int) ≤ (i : Int) ∧ (i : Int) < (l.length : Int) := by omega
    have w : IntKind.i64.wrap ((i : Int) + 1) = ((i + 1 : Nat) : Int) := by rw [i64_id _ (by omega) (by omega)]; omega
    have en : nth l (i : Int) = l[i] := by
      show l.getD i default = _
      rw [List.getD_eq_getElem?_getD, List.getElem?_eq_getElem (by omega)]; rfl
    have e : nth l (i : Int) ∈ l := by rw [en]; exact List.getElem_mem _
    obtain ⟨q0, q1⟩ := hw _ e
    simp [IntKind.min, IntKind.max, IntKind.signed, IntKind.bits] at q0 q1
    obtain ⟨d, hd, k1, k2⟩ := int_rt (nth l (i : Int)) (by omega) (by omega) b (by omega)
    have s1 : wire_Writer_Ints.r0 l ((i : Int), b) = some (.inl (((i + 1 : Nat) : Int), b ++ d)) := by
      unfold wire_Writer_Ints.r0 wire_Writer_Ints.b0
      simp only
      rw [if_pos (decide_eq_true g.2), if_pos g, k1, Option.bind_some, w]
    obtain ⟨d2, hd2, l1, l2⟩ := ints_rt_loop l hl hw t1 ht j (i + 1) (b ++ d) (by omega) (by rw [List.length_append]; omega)
    refine ⟨d ++ d2, by rw [List.length_append]; omega, by rw [loop_next s1, l1, List.append_assoc], fun s p hs hl2 => ?_⟩
    have s2 : wire_Reader_Ints.r0 t1 ((i : Int), s, (p : Int), 0, l.take i) = some (.inl (((i + 1 : Nat) : Int), s, ((p + d.length : Nat) : Int), 0, l.take (i + 1))) := by
      unfold wire_Reader_Ints.r0 wire_Reader_Ints.b0
      simp only
      rw [ht, if_pos (decide_eq_true g.2), (k2 s p hs hl2.left).2, Option.bind_some]
      simp only
      rw [if_pos (by simp; omega), w, en, List.take_append_getElem]
    rw [loop_next s2, l2 s _ hs hl2.right, List.length_append, Nat.add_assoc]

theorem ints_rt (l : List Int) (hl : l.length ≤ 6000) (hw : ∀ y ∈ l, inK .i64 y) (b : List Int) (hb : b.length < 2000000) :
    ∃ d : List Int, d.length ≤ 10 + 10 * l.length ∧ wire_Writer_Ints.f ⟨b⟩ l = some ⟨b ++ d⟩ ∧ ∀ (s : Bs) (p : Nat), s.length < 1000000000 → Lies s p d →
      wire_Reader_Ints.f ⟨s, (p : Int), 0⟩ 6000 = some (l, ⟨s, ((p + d.length : Nat) : Int), 0⟩) := by
  obtain ⟨d, hd, k1, k2⟩ := uint_rt (l.length : Int) (by omega) (by omega) b (by omega)
  have e : IntKind.u64.wrap (l.length : Int) = (l.length : Int) := u64_id _ (by omega) (by omega)
  have main : ∀ t1 : Int × wire_Reader, t1.1 = (l.length : Int) → _ := fun t1 ht => ints_rt_loop l hl hw t1 ht l.length 0 (b ++ d) (by omega) (by rw [List.length_append]; omega)
  obtain ⟨d2, hd2, l1, _⟩ := main ((l.length : Int), ⟨[], 0, 0⟩) rfl
  have l1' : loop (wire_Writer_Ints.r0 l) (0, b ++ d) = _ := l1
  refine ⟨d ++ d2, by rw [List.length_append]; omega, ?_, fun s p hs hl2 => ?_⟩
  · unfold wire_Writer_Ints.f
    rw [e, k1, Option.bind_some]
    simp only
    rw [l1', Option.bind_some, List.append_assoc]
  · obtain ⟨q1, q2⟩ := k2 s p hs hl2.left
    have w1 : IntKind.u64.wrap 6000 = 6000 := by decide
    have w2 : IntKind.i64.wrap (l.length : Int) = (l.length : Int) := i64_id _ (by omega) (by omega)
    have c1 : wire_Reader_Count.f ⟨s, (p : Int), 0⟩ 6000 = some ((l.length : Int), ⟨s, ((p + d.length : Nat) : Int), 0⟩) := by
      unfold wire_Reader_Count.f
      rw [q2, Option.bind_some]
      simp only
      rw [w1, if_neg (by simp; omega), Option.bind_some]
      simp only
      rw [if_neg (by decide), w2]
    obtain ⟨d2', _, l1'', l2⟩ := main ((l.length : Int), ⟨s, ((p + d.length : Nat) : Int), 0⟩) rfl
    have : d2' = d2 := by
      rw [l1] at l1''
      exact (List.append_cancel_left (Option.some.inj l1'')).symm
    subst this
    have l2' : loop (wire_Reader_Ints.r0 ((l.length : Int), (⟨s, ((p + d.length : Nat) : Int), 0⟩ : wire_Reader))) (0, s, ((p + d.length : Nat) : Int), 0, []) = _ := l2 s (p + d.length) hs hl2.right
    unfold wire_Reader_Ints.f
    rw [c1, Option.bind_some]
    simp only
    rw [l2', Option.bind_some]
    simp only
    rw [if_neg (by decide), List.length_append, Nat.add_assoc]

theorem same_loop (l : List Int) (hl : l.length < 100000000) : ∀ (j i : Nat), l.length = i + j → loop (lombardref09_Same.r0 l l) (i : Int) = some (.inr ())
  | 0, i, h => loop_end (by unfold lombardref09_Same.r0 lombardref09_Same.b0; rw [if_neg (by simp; omega)])
  | j + 1, i, h => by
    have g : (0 : Int) ≤ (i : Int) ∧ (i : Int) < (l.length : Int) := by omega
    have w : IntKind.i64.wrap ((i : Int) + 1) = ((i + 1 : Nat) : Int) := by rw [i64_id _ (by omega) (by omega)]; omega
    have s1 : lombardref09_Same.r0 l l (i : Int) = some (.inl ((i + 1 : Nat) : Int)) := by
      unfold lombardref09_Same.r0 lombardref09_Same.b0
      rw [if_pos (decide_eq_true g.2), if_pos g, if_pos g, if_neg (by simp), w]
    rw [loop_next s1, same_loop l hl j (i + 1) (by omega)]

theorem same_self (l : List Int) (hl : l.length < 100000000) : lombardref09_Same.f l l = some true := by
  unfold lombardref09_Same.f
  have := same_loop l hl l.length 0 (by omega)
  have h : loop (lombardref09_Same.r0 l l) 0 = _ := this
  rw [if_neg (by simp), h]; rfl

theorem item_rt (l : List lombardlaw09_Item) (hw : ∀ y ∈ l, lombardlaw09_Item.bd y) (h60 : l.length ≤ 60) (h6000 : tot l l.length ≤ 6000) (i : Nat) (hi : i < l.length) (b : List Int) (hb : b.length ≤ 20 * i + 10 * tot l i) :
    ∃ d : List Int, (b ++ d).length ≤ 20 * (i + 1) + 10 * tot l (i + 1) ∧ lombardlaw09_written.r0 l ((i : Int), b) = some (.inl (((i + 1 : Nat) : Int), b ++ d)) ∧ ∀ (s : Bs) (p : Nat), s.length < 1000000000 → Lies s p d →
      lombardlaw09_WireBack.r0 l ((i : Int), s, (p : Int), 0) = some (.inl (((i + 1 : Nat) : Int), s, ((p + d.length : Nat) : Int), 0)) := by
  have g : (0 : Int) ≤ (i : Int) ∧ (i : Int) < (l.length : Int) := by omega
  have w : IntKind.i64.wrap ((i : Int) + 1) = ((i + 1 : Nat) : Int) := by rw [i64_id _ (by omega) (by omega)]; omega
  have m1 := tot_mono l i (l.length - i)
  rw [show i + (l.length - i) = l.length by omega] at m1
  have m2 := tot_mono l (i + 1) (l.length - i - 1)
  rw [show i + 1 + (l.length - i - 1) = l.length by omega] at m2
  have ts : tot l (i + 1) = tot l i + (nth l (i : Int)).Text.length + (nth l (i : Int)).L.length := rfl
  obtain ⟨_, hU, hN, _, _, hL, _⟩ := nth_item l hw i hi
  obtain ⟨u0, u1⟩ := hU
  obtain ⟨n0, n1⟩ := hN
  simp [IntKind.min, IntKind.max, IntKind.signed, IntKind.bits] at u0 u1 n0 n1
  have fin : ∀ d : List Int, d.length ≤ 10 + 10 * (nth l (i : Int)).Text.length + 10 * (nth l (i : Int)).L.length → (b ++ d).length ≤ 20 * (i + 1) + 10 * tot l (i + 1) := fun d hd => by
    rw [List.length_append, ts]; omega
  unfold lombardlaw09_written.r0 lombardlaw09_written.b0 lombardlaw09_WireBack.r0 lombardlaw09_WireBack.b0
  simp only [if_pos (decide_eq_true g.2), if_pos g, w]
  by_cases k0 : ((nth l (i : Int)).Kind == 0) = true
  · obtain ⟨d, hd, e1, e2⟩ := uint_rt (nth l (i : Int)).U (by omega) (by omega) b (by omega)
    simp only [if_pos k0]
    rw [e1]
    simp only [Option.bind_some]
    refine ⟨d, fin d (by omega), rfl, fun s p hs hl => ?_⟩
    rw [(e2 s p hs hl).2]
    simp only [Option.bind_some, beq_self_eq_true, Bool.not_true, if_true, Bool.false_or, wire_Reader_Err.f]
    rfl
  simp only [if_neg k0]
  by_cases k1 : ((nth l (i : Int)).Kind == 1) = true
  · obtain ⟨d, hd, e1, e2⟩ := int_rt (nth l (i : Int)).N (by omega) (by omega) b (by omega)
    simp only [if_pos k1]
    rw [e1]
    simp only [Option.bind_some]
    refine ⟨d, fin d (by omega), rfl, fun s p hs hl => ?_⟩
    rw [(e2 s p hs hl).2]
    simp only [Option.bind_some, beq_self_eq_true, Bool.not_true, if_true, Bool.false_or, wire_Reader_Err.f]
    rfl
  simp only [if_neg k1]
  by_cases k2 : ((nth l (i : Int)).Kind == 2) = true
  · obtain ⟨d, hd, e1, e2⟩ := text_rt (nth l (i : Int)).Text (by omega) b (by omega)
    simp only [if_pos k2]
    rw [e1]
    simp only [Option.bind_some]
    refine ⟨d, fin d (by omega), rfl, fun s p hs hl => ?_⟩
    rw [e2 s p hs hl]
    simp only [Option.bind_some, beq_self_eq_true, Bool.not_true, if_true, Bool.false_or, wire_Reader_Err.f]
    rfl
  simp only [if_neg k2]
  by_cases k3 : ((nth l (i : Int)).Kind == 3) = true
  · obtain ⟨d, hd, e1, e2⟩ := bool_rt (nth l (i : Int)).OK b (by omega)
    simp only [if_pos k3]
    rw [e1]
    simp only [Option.bind_some]
    refine ⟨d, fin d (by omega), rfl, fun s p hs hl => ?_⟩
    rw [e2 s p hs hl]
    simp only [Option.bind_some, beq_self_eq_true, Bool.not_true, if_true, Bool.false_or, wire_Reader_Err.f]
    rfl
  simp only [if_neg k3]
  obtain ⟨d, hd, e1, e2⟩ := ints_rt (nth l (i : Int)).L (by omega) hL.2 b (by omega)
  rw [e1]
  simp only [Option.bind_some]
  refine ⟨d, fin d (by omega), rfl, fun s p hs hl => ?_⟩
  rw [e2 s p hs hl]
  simp only [Option.bind_some, same_self (nth l (i : Int)).L (by omega), Bool.not_true, if_true, Bool.false_or, wire_Reader_Err.f]
  rfl

theorem items_rt (l : List lombardlaw09_Item) (hw : ∀ y ∈ l, lombardlaw09_Item.bd y) (h60 : l.length ≤ 60) (h6000 : tot l l.length ≤ 6000) : ∀ (j i : Nat) (b : List Int), l.length = i + j → b.length ≤ 20 * i + 10 * tot l i →
    ∃ e : List Int, (b ++ e).length ≤ 20 * l.length + 10 * tot l l.length ∧ loop (lombardlaw09_written.r0 l) ((i : Int), b) = some (b ++ e) ∧ ∀ (s : Bs) (p : Nat), s.length < 1000000000 → Lies s p e →
      loop (lombardlaw09_WireBack.r0 l) ((i : Int), s, (p : Int), 0) = some (.inr (s, ((p + e.length : Nat) : Int), 0))
  | 0, i, b, h, hb => by
    have hi : i = l.length := by omega
    subst hi
    refine ⟨[], by rw [List.append_nil]; exact hb, loop_end ?_, fun s p hs hl => loop_end ?_⟩
    · unfold lombardlaw09_written.r0 lombardlaw09_written.b0
      rw [if_neg (by simp), List.append_nil]
    · unfold lombardlaw09_WireBack.r0 lombardlaw09_WireBack.b0
      rw [if_neg (by simp)]; rfl
  | j + 1, i, b, h, hb => by
    obtain ⟨d, hd, s1, s2⟩ := item_rt l hw h60 h6000 i (by omega) b hb
    obtain ⟨e, he, l1, l2⟩ := items_rt l hw h60 h6000 j (i + 1) (b ++ d) (by omega) hd
    refine ⟨d ++ e, by rw [← List.append_assoc]; exact he, by rw [loop_next s1, l1, List.append_assoc], fun s p hs hl => ?_⟩
    rw [loop_next (s2 s p hs hl.left), l2 s _ hs hl.right, List.length_append, Nat.add_assoc]

theorem Pure.WireBack : ∀ (x0 : List lombardlaw09_Item) (x1 : Bs), (x0.length * 72 ≤ reach ∧ ∀ y ∈ x0, lombardlaw09_Item.bd y) → (x1.length ≤ reach) → lombardlaw09_WireBack.f x0 x1 = some true := by
  intro l rest hl hr
  obtain ⟨t, h1, h2⟩ := small_is l hl.2
  unfold lombardlaw09_WireBack.f
  rw [h1, awake_is, Option.bind_some]
  by_cases c : ((!t) || decide ((rest.length : Int) > 6000)) = true
  · rw [if_pos c]; rfl
  rw [if_neg c]
  simp only [Bool.or_eq_true, Bool.not_eq_true', decide_eq_true_eq, not_or, Bool.not_eq_false] at c
  obtain ⟨ht, hrest⟩ := c
  obtain ⟨a, b⟩ := h2 ht
  obtain ⟨e, he, l1, l2⟩ := items_rt l hl.2 a b l.length 0 [] (by omega) (by show 0 ≤ _; omega)
  rw [List.nil_append] at he l1
  have l1' : loop (lombardlaw09_written.r0 l) (0, []) = some e := l1
  have wr : lombardlaw09_written.f l = some (toB e) := by
    unfold lombardlaw09_written.f wire_Writer_Bytes.f
    rw [l1']; rfl
  have l2' : loop (lombardlaw09_WireBack.r0 l) (0, toB e ++ rest, 0, 0) = some (.inr (toB e ++ rest, (e.length : Int), 0)) := by
    have := l2 (toB e ++ rest) 0 (by rw [List.length_append, toB_len]; omega) ⟨rest, rfl⟩
    rw [Nat.zero_add] at this
    exact this
  rw [wr, Option.bind_some, if_pos (by rw [toB_len]; omega)]
  unfold wire_NewReader.f wire_Reader_At.f
  rw [Option.bind_some, l2', Option.bind_some]
  simp only [Option.bind_some]
  rw [toB_len, if_pos (beq_self_eq_true _)]
  unfold wire_Reader_End.f wire_Reader_Fail.f
  simp only
  cases rest with
  | nil =>
    rw [if_neg (by simp [toB_len])]
    simp
  | cons x xs =>
    rw [if_pos (by simp [toB_len]; omega)]
    simp [wire_Reader_Err.f]

end Go.Proofs.Ytoongmdkndbppaa

