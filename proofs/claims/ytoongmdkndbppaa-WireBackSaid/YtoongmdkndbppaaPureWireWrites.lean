/- The plain statement of WireWrites: what the program's writer writes is what the document writes. -/
import Derived.Test.YtoongmdkndbppaaPuWireInt
import Derived.Test.YtoongmdkndbppaaGx1
namespace Go.Proofs.Ytoongmdkndbppaa
open Go Go.Pm Go.Pm.Arith
set_option linter.unusedVariables false
set_option linter.unusedSimpArgs false

def tot (l : List lombardlaw09_Item) : Nat → Nat
  | 0 => 0
  | i + 1 => tot l i + (nth l (i : Int)).Text.length + (nth l (i : Int)).L.length

theorem tot_mono (l : List lombardlaw09_Item) (i : Nat) : ∀ d, tot l i ≤ tot l (i + d)
  | 0 => Nat.le_refl _
  | d + 1 => by
    have := tot_mono l i d
    show _ ≤ tot l (i + d) + _ + _
    omega

theorem nth_item (l : List lombardlaw09_Item) (hw : ∀ y ∈ l, lombardlaw09_Item.bd y) (i : Nat) (h : i < l.length) : lombardlaw09_Item.bd (nth l (i : Int)) := by
  refine hw _ ?_
  show l.getD i default ∈ l
  rw [List.getD_eq_getElem?_getD, List.getElem?_eq_getElem h]
  exact List.getElem_mem _

theorem small_loop (l : List lombardlaw09_Item) (hw : ∀ y ∈ l, lombardlaw09_Item.bd y) : ∀ (j i : Nat), (l.length = i + j ∨ 61 ≤ i + j) → tot l i < 1000000000000000 →
    ∃ s, loop (lombardlaw09_small.r0 l) ((tot l i : Nat), (i : Int)) = some s ∧ (s ≤ 6000 → l.length ≤ 60 → i ≤ l.length → s = (tot l l.length : Nat))
  | j, i, h, hb => by
    by_cases c : i < l.length ∧ i ≤ 60 ∧ tot l i ≤ 6000
    · obtain ⟨j, rfl⟩ : ∃ k, j = k + 1 := ⟨j - 1, by omega⟩
      obtain ⟨_, _, _, ht, _, hl, _⟩ := nth_item l hw i c.1
      have hl := hl.1
      have g : (0 : Int) ≤ (i : Int) ∧ (i : Int) < (l.length : Int) := by omega
      unfold reach at ht hl
      have w : IntKind.i64.wrap ((i : Int) + 1) = ((i + 1 : Nat) : Int) := by rw [i64_id _ (by omega) (by omega)]; omega
      have w2 : IntKind.i64.wrap (IntKind.wrap .i64 (((tot l i : Nat) : Int) + ((nth l (i : Int)).Text.length : Int)) + ((nth l (i : Int)).L.length : Int)) = ((tot l (i + 1) : Nat) : Int) := by
        rw [i64_id (((tot l i : Nat) : Int) + _) (by omega) (by omega), i64_id _ (by omega) (by omega)]
        show _ = ((tot l i + (nth l (i : Int)).Text.length + (nth l (i : Int)).L.length : Nat) : Int)
        omega
      have key : lombardlaw09_small.r0 l (((tot l i : Nat) : Int), (i : Int)) = some (.inl (((tot l (i + 1) : Nat) : Int), ((i + 1 : Nat) : Int))) := by
        unfold lombardlaw09_small.r0 lombardlaw09_small.b0
        simp only
        rw [if_pos (by simp; omega), if_pos g, if_pos g, w2, w]
      obtain ⟨s, h1, h2⟩ := small_loop l hw j (i + 1) (by omega) (by
        show tot l i + (nth l (i : Int)).Text.length + (nth l (i : Int)).L.length < _
        omega)
      exact ⟨s, by rw [loop_next key, h1], fun a b d => h2 a b (by omega)⟩
    · refine ⟨((tot l i : Nat) : Int), loop_end ?_, ?_⟩
      · unfold lombardlaw09_small.r0 lombardlaw09_small.b0
        rw [if_neg (by simp; omega)]
      · intro a b d
        have : i = l.length := by omega
        rw [this]

theorem small_is (l : List lombardlaw09_Item) (hw : ∀ y ∈ l, lombardlaw09_Item.bd y) : ∃ t, lombardlaw09_small.f l = some t ∧ (t = true → l.length ≤ 60 ∧ tot l l.length ≤ 6000) := by
  obtain ⟨s, h1, h2⟩ := small_loop l hw 61 0 (by omega) (by show 0 < _; decide)
  have h1' : loop (lombardlaw09_small.r0 l) (0, 0) = some s := h1
  unfold lombardlaw09_small.f
  rw [h1', Option.bind_some]
  refine ⟨_, rfl, fun h => ?_⟩
  simp only [Bool.and_eq_true, decide_eq_true_eq] at h
  have := h2 h.2 (by omega) (by omega)
  omega

theorem item_both (l : List lombardlaw09_Item) (hw : ∀ y ∈ l, lombardlaw09_Item.bd y) (h60 : l.length ≤ 60) (h6000 : tot l l.length ≤ 6000) (i : Nat) (hi : i < l.length) (b : List Int) (hb : b.length ≤ 20 * i + 10 * tot l i) :
    ∃ d : List Int, (b ++ d).length ≤ 20 * (i + 1) + 10 * tot l (i + 1) ∧ lombardlaw09_written.r0 l ((i : Int), b) = some (.inl (((i + 1 : Nat) : Int), b ++ d)) ∧
      lombardlaw09_WireWrites.r0 l (toB b, (i : Int)) = some (.inl (toB (b ++ d), ((i + 1 : Nat) : Int))) := by
  have g : (0 : Int) ≤ (i : Int) ∧ (i : Int) < (l.length : Int) := by omega
  have w : IntKind.i64.wrap ((i : Int) + 1) = ((i + 1 : Nat) : Int) := by rw [i64_id _ (by omega) (by omega)]; omega
  have m1 := tot_mono l i (l.length - i)
  rw [show i + (l.length - i) = l.length by omega] at m1
  have m2 := tot_mono l (i + 1) (l.length - i - 1)
  rw [show i + 1 + (l.length - i - 1) = l.length by omega] at m2
  have ts : tot l (i + 1) = tot l i + (nth l (i : Int)).Text.length + (nth l (i : Int)).L.length := rfl
  obtain ⟨_, hU, hN, _, _, hL, _⟩ := nth_item l hw i hi
  obtain ⟨u0, u1⟩ := hU
  obtain ⟨n0, n1⟩ := hN
  simp [IntKind.min, IntKind.max, IntKind.signed, IntKind.bits] at u0 u1 n0 n1
  have fin : ∀ d : List Int, d.length ≤ 10 + 10 * (nth l (i : Int)).Text.length + 10 * (nth l (i : Int)).L.length → (b ++ d).length ≤ 20 * (i + 1) + 10 * tot l (i + 1) := fun d hd => by
    rw [List.length_append, ts]; omega
  have cat : ∀ d : List Int, d.length ≤ 10 + 10 * (nth l (i : Int)).Text.length + 10 * (nth l (i : Int)).L.length → ((toB b).length : Int) + (toB d).length ≤ 9223372036854775807 := fun d hd => by
    rw [toB_len, toB_len]; omega
  unfold lombardlaw09_written.r0 lombardlaw09_written.b0 lombardlaw09_WireWrites.r0 lombardlaw09_WireWrites.b0
  simp only
  rw [if_pos (decide_eq_true g.2), if_pos g, if_pos (decide_eq_true g.2), if_pos g, w]
  by_cases k0 : ((nth l (i : Int)).Kind == 0) = true
  · obtain ⟨d, hd, e1, e2⟩ := uint_both (nth l (i : Int)).U (by omega) (by omega) b (by omega)
    simp only [if_pos k0]
    rw [e1, e2]
    simp only [Option.bind_some]
    rw [if_pos (cat d (by omega)), ← toB_append]
    exact ⟨d, fin d (by omega), rfl, rfl⟩
  simp only [if_neg k0]
  by_cases k1 : ((nth l (i : Int)).Kind == 1) = true
  · obtain ⟨d, hd, e1, e2⟩ := int_both (nth l (i : Int)).N (by omega) (by omega) b (by omega)
    simp only [if_pos k1]
    rw [e1, e2]
    simp only [Option.bind_some]
    rw [if_pos (cat d (by omega)), ← toB_append]
    exact ⟨d, fin d (by omega), rfl, rfl⟩
  simp only [if_neg k1]
  by_cases k2 : ((nth l (i : Int)).Kind == 2) = true
  · obtain ⟨d, hd, e1, e2⟩ := text_both (nth l (i : Int)).Text (by omega) b (by omega)
    simp only [if_pos k2]
    rw [e1, e2]
    simp only [Option.bind_some]
    rw [if_pos (cat d (by omega)), ← toB_append]
    exact ⟨d, fin d (by omega), rfl, rfl⟩
  simp only [if_neg k2]
  by_cases k3 : ((nth l (i : Int)).Kind == 3) = true
  · obtain ⟨d, hd, e1, e2⟩ := bool_both (nth l (i : Int)).OK b (by omega)
    simp only [if_pos k3]
    rw [e1, e2]
    simp only [Option.bind_some]
    rw [if_pos (cat d (by omega)), ← toB_append]
    exact ⟨d, fin d (by omega), rfl, rfl⟩
  simp only [if_neg k3]
  obtain ⟨d, hd, e1, e2⟩ := ints_both (nth l (i : Int)).L (by omega) hL.2 b (by omega)
  rw [e1, e2]
  simp only [Option.bind_some]
  rw [if_pos (cat d (by omega)), ← toB_append]
  exact ⟨d, fin d (by omega), rfl, rfl⟩

theorem all_loop (l : List lombardlaw09_Item) (hw : ∀ y ∈ l, lombardlaw09_Item.bd y) (h60 : l.length ≤ 60) (h6000 : tot l l.length ≤ 6000) : ∀ (j i : Nat) (b : List Int), l.length = i + j → b.length ≤ 20 * i + 10 * tot l i →
    ∃ r : List Int, loop (lombardlaw09_written.r0 l) ((i : Int), b) = some r ∧ loop (lombardlaw09_WireWrites.r0 l) (toB b, (i : Int)) = some (toB r)
  | 0, i, b, h, hb => by
    refine ⟨b, loop_end ?_, loop_end ?_⟩
    · unfold lombardlaw09_written.r0 lombardlaw09_written.b0
      rw [if_neg (by simp; omega)]
    · unfold lombardlaw09_WireWrites.r0 lombardlaw09_WireWrites.b0
      rw [if_neg (by simp; omega)]
  | j + 1, i, b, h, hb => by
    obtain ⟨d, hd, s1, s2⟩ := item_both l hw h60 h6000 i (by omega) b hb
    obtain ⟨r, l1, l2⟩ := all_loop l hw h60 h6000 j (i + 1) (b ++ d) (by omega) hd
    exact ⟨r, by rw [loop_next s1, l1], by rw [loop_next s2, l2]⟩

theorem uint_exact {x : Int} {m : Nat} (h0 : 0 ≤ x) (h1 : x < 18446744073709551616) (b : List Int) (hb : b.length < 10000000) (h : Needs x m) : wire_Writer_Uint.f ⟨b⟩ x = some ⟨b ++ digits m x⟩ := by
  obtain ⟨k, hk, e⟩ := uint_is x h0 h1 b hb
  obtain rfl := needs_uniq h hk
  exact e

theorem awake_is : lombardlaw09_awake.f = some true := by
  have L : loop (lombardlaw09_written.r0 [(⟨0, 300, 0, [], false, []⟩ : lombardlaw09_Item), (⟨1, 0, -1, [], false, []⟩ : lombardlaw09_Item), (⟨2, 0, 0, [97, 98], false, []⟩ : lombardlaw09_Item)]) (0, []) = some [130, 44, 1, 2, 97, 98] := by
    have s1 : lombardlaw09_written.r0 [(⟨0, 300, 0, [], false, []⟩ : lombardlaw09_Item), (⟨1, 0, -1, [], false, []⟩ : lombardlaw09_Item), (⟨2, 0, 0, [97, 98], false, []⟩ : lombardlaw09_Item)] (0, []) = some (.inl (1, [130, 44])) := by
      have u : wire_Writer_Uint.f ⟨[]⟩ 300 = some ⟨[] ++ digits 1 300⟩ := uint_exact (by decide) (by decide) _ (by decide) ⟨by decide, by decide, Or.inr (by decide)⟩
      have e : lombardlaw09_written.r0 [(⟨0, 300, 0, [], false, []⟩ : lombardlaw09_Item), (⟨1, 0, -1, [], false, []⟩ : lombardlaw09_Item), (⟨2, 0, 0, [97, 98], false, []⟩ : lombardlaw09_Item)] (0, []) = (wire_Writer_Uint.f ⟨[]⟩ 300).bind fun t75 => some (.inl (1, t75.b)) := rfl
      rw [e, u]; rfl
    have s2 : lombardlaw09_written.r0 [(⟨0, 300, 0, [], false, []⟩ : lombardlaw09_Item), (⟨1, 0, -1, [], false, []⟩ : lombardlaw09_Item), (⟨2, 0, 0, [97, 98], false, []⟩ : lombardlaw09_Item)] (1, [130, 44]) = some (.inl (2, [130, 44, 1])) := by
      have u : wire_Writer_Uint.f ⟨[130, 44]⟩ 1 = some ⟨[130, 44] ++ digits 0 1⟩ := uint_exact (by decide) (by decide) _ (by decide) ⟨by decide, by decide, Or.inl rfl⟩
      have v : wire_Writer_Int.f ⟨[130, 44]⟩ (-1) = some ⟨[130, 44] ++ digits 0 1⟩ := by
        have e : wire_Writer_Int.f ⟨[130, 44]⟩ (-1) = (wire_Writer_Uint.f ⟨[130, 44]⟩ 1).bind fun t2 => some t2 := by
          unfold wire_Writer_Int.f
          rw [if_pos (by decide)]
          have : bits .or .u64 (shlI .u64 (IntKind.wrap .u64 (bits .xor .i64 (-1) (-1))) 1) 1 = 1 := by decide +kernel
          rw [this]
        rw [e, u]; rfl
      have e : lombardlaw09_written.r0 [(⟨0, 300, 0, [], false, []⟩ : lombardlaw09_Item), (⟨1, 0, -1, [], false, []⟩ : lombardlaw09_Item), (⟨2, 0, 0, [97, 98], false, []⟩ : lombardlaw09_Item)] (1, [130, 44]) = (wire_Writer_Int.f ⟨[130, 44]⟩ (-1)).bind fun t75 => some (.inl (2, t75.b)) := rfl
      rw [e, v]; rfl
    have s3 : lombardlaw09_written.r0 [(⟨0, 300, 0, [], false, []⟩ : lombardlaw09_Item), (⟨1, 0, -1, [], false, []⟩ : lombardlaw09_Item), (⟨2, 0, 0, [97, 98], false, []⟩ : lombardlaw09_Item)] (2, [130, 44, 1]) = some (.inl (3, [130, 44, 1, 2, 97, 98])) := by
      have u : wire_Writer_Uint.f ⟨[130, 44, 1]⟩ 2 = some ⟨[130, 44, 1] ++ digits 0 2⟩ := uint_exact (by decide) (by decide) _ (by decide) ⟨by decide, by decide, Or.inl rfl⟩
      have v : wire_Writer_Text.f ⟨[130, 44, 1]⟩ [97, 98] = some ⟨[130, 44, 1, 2, 97, 98]⟩ := by
        have e : wire_Writer_Text.f ⟨[130, 44, 1]⟩ [97, 98] = (wire_Writer_Uint.f ⟨[130, 44, 1]⟩ 2).bind fun t1 => if (List.length t1.b + 2) * 1 ≤ 140737488355328 then some (⟨(t1.b ++ bts [97, 98])⟩ : wire_Writer) else none := rfl
        rw [e, u]; rfl
      have e : lombardlaw09_written.r0 [(⟨0, 300, 0, [], false, []⟩ : lombardlaw09_Item), (⟨1, 0, -1, [], false, []⟩ : lombardlaw09_Item), (⟨2, 0, 0, [97, 98], false, []⟩ : lombardlaw09_Item)] (2, [130, 44, 1]) = (wire_Writer_Text.f ⟨[130, 44, 1]⟩ [97, 98]).bind fun t75 => some (.inl (3, t75.b)) := rfl
      rw [e, v]; rfl
    rw [loop_next s1, loop_next s2, loop_next s3]
    exact loop_end rfl
  unfold lombardlaw09_awake.f lombardlaw09_written.f
  rw [L]; rfl

theorem Pure.WireWrites : ∀ (x0 : List lombardlaw09_Item), (x0.length * 72 ≤ reach ∧ ∀ y ∈ x0, lombardlaw09_Item.bd y) → lombardlaw09_WireWrites.f x0 = some true := by
  intro l hl
  obtain ⟨t, h1, h2⟩ := small_is l hl.2
  unfold lombardlaw09_WireWrites.f
  rw [h1, awake_is, Option.bind_some]
  cases t with
  | false => rfl
  | true =>
    obtain ⟨a, b⟩ := h2 rfl
    obtain ⟨r, l1, l2⟩ := all_loop l hl.2 a b l.length 0 [] (by omega) (by show 0 ≤ _; omega)
    have l1' : loop (lombardlaw09_written.r0 l) (0, []) = some r := l1
    have l2' : loop (lombardlaw09_WireWrites.r0 l) ([], 0) = some (toB r) := l2
    unfold lombardlaw09_written.f wire_Writer_Bytes.f
    rw [if_neg (by decide), l1', l2']
    simp

end Go.Proofs.Ytoongmdkndbppaa

