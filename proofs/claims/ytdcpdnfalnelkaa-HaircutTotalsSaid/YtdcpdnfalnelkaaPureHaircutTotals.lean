/- The plain statement of HaircutTotals: the totals of items and their margins, the program's and the document's, are the same. -/
import Derived.Test.YtdcpdnfalnelkaaPuCut
namespace Go.Proofs.Ytdcpdnfalnelkaa
open Go Go.Pm Go.Pm.Arith
set_option linter.unusedVariables false
set_option linter.unusedSimpArgs false

def conv (y : lombardref15_Item) : haircut_Item := ⟨y.Lot, y.Asset, y.Price, y.Cut⟩

theorem nth_item (l : List lombardref15_Item) (i : Nat) (h : i < l.length) : nth (l.map conv) (i : Int) = conv (nth l (i : Int)) := by
  show (l.map conv).getD i default = conv (l.getD i default)
  rw [List.getD_eq_getElem?_getD, List.getElem?_map, List.getElem?_eq_getElem h, List.getD_eq_getElem?_getD, List.getElem?_eq_getElem h]
  rfl

theorem items_loop (l : List lombardref15_Item) (hl : l.length ≤ 100) : ∀ j i : Nat, l.length = i + j → loop (lombardlaw15_items.r0 l) ((i : Int), (l.take i).map conv) = some (l.map conv)
  | 0, i, h => by
    refine loop_end ?_
    unfold lombardlaw15_items.r0 lombardlaw15_items.b0
    rw [if_neg (by simp; omega), List.take_of_length_le (by omega)]
  | j + 1, i, h => by
    have w : IntKind.i64.wrap ((i : Int) + 1) = ((i + 1 : Nat) : Int) := next64 i (by omega)
    have g : (0 : Int) ≤ (i : Int) ∧ (i : Int) < (l.length : Int) := in_nat (by omega)
    have tk : l.take (i + 1) = l.take i ++ [l.getD i default] := by
      rw [List.take_add_one, List.getD_eq_getElem?_getD, List.getElem?_eq_getElem (by omega)]; rfl
    have key : lombardlaw15_items.r0 l ((i : Int), (l.take i).map conv) = some (.inl (((i + 1 : Nat) : Int), (l.take (i + 1)).map conv)) := by
      unfold lombardlaw15_items.r0 lombardlaw15_items.b0
      rw [if_pos (decide_eq_true g.2), if_pos g, if_pos g, if_pos g, if_pos g, if_pos (by simp; omega), w, tk, List.map_append]
      rfl
    rw [loop_next key]
    exact items_loop l hl j (i + 1) (by omega)

theorem items_is (l : List lombardref15_Item) (hl : l.length ≤ 100) : lombardlaw15_items.f l = some (l.map conv) := by
  have := items_loop l hl l.length 0 (by omega)
  have t : loop (lombardlaw15_items.r0 l) (0, []) = some (l.map conv) := this
  unfold lombardlaw15_items.f
  rw [t]; rfl

theorem coverOf_in (q p c : Int) : inI64 (coverOf q p c).1 := by
  unfold coverOf
  by_cases h : goodPC p c ∧ 0 ≤ q ∧ q ≤ 1125899906842624
  · rw [if_pos h]
    have h' := h.1
    unfold goodPC at h'
    have b1 := mul_to (x := q) (y := p) (X := 1125899906842624) (Y := 4294967296) (by omega) (by omega)
    have b2 := mul_to (x := q * p / 1000000) (y := 1000000 - c) (X := 4835703278458516698) (Y := 1000000) (by omega) (by omega)
    unfold inI64 cov
    simp only
    omega
  · rw [if_neg h]; exact ⟨by decide, by decide⟩

def ic (y : lombardref15_Item) : Int := (coverOf y.Lot.Qty y.Price y.Cut).1

theorem ic_is (y : lombardref15_Item) : haircut_Item_Cover.f (⟨(conv y).Lot, (conv y).Asset, (conv y).Price, (conv y).Cut⟩ : haircut_Item) = some (ic y) ∧ lombardref15_Item_Covers.f (⟨y.Lot, y.Asset, y.Price, y.Cut⟩ : lombardref15_Item) = some (ic y) := by
  unfold haircut_Item_Cover.f lombardref15_Item_Covers.f ic
  simp only
  rw [(cover_is _ _ _).2]
  show ((haircut_Cover.f y.Lot.Qty y.Price y.Cut).bind _ = _) ∧ _
  rw [(cover_is _ _ _).1]
  refine ⟨?_, rfl⟩
  unfold coverOf
  split <;> rfl

theorem ref_plus_is (a b : Int) (ha : inI64 a) (hb : inI64 b) : lombardref01_Plus.f a b = some (sumOf (a + b)) := by
  unfold inI64 at ha hb
  unfold sumOf
  simp only [lombardref01_Plus.f, i64_wrap, Bool.or_eq_true, Bool.and_eq_true, decide_eq_true_eq]
  repeat' split
  all_goals first
    | (exfalso; omega)
    | rfl
    | (congr 2; omega)

theorem minus_is (a b : Int) (ha : inI64 a) (hb : inI64 b) : fixnum_Minus.f a b = some (sumOf (a - b)) ∧ lombardref01_Minus.f a b = some (sumOf (a - b)) := by
  unfold inI64 at ha hb
  unfold sumOf
  constructor
  · simp only [fixnum_Minus.f, i64_wrap, Bool.or_eq_true, Bool.and_eq_true, decide_eq_true_eq]
    repeat' split
    all_goals first
      | (exfalso; omega)
      | rfl
      | (congr 2; omega)
  · simp only [lombardref01_Minus.f, i64_wrap, Bool.or_eq_true, Bool.and_eq_true, decide_eq_true_eq]
    repeat' split
    all_goals first
      | (exfalso; omega)
      | rfl
      | (congr 2; omega)

theorem each_loop (l : List lombardref15_Item) (hl : l.length ≤ 100) : ∀ j i : Nat, l.length = i + j → loop (lombardlaw15_HaircutTotals.r0 l (l.map conv)) (i : Int) = some (.inr ())
  | 0, i, h => by
    refine loop_end ?_
    unfold lombardlaw15_HaircutTotals.r0 lombardlaw15_HaircutTotals.b0
    rw [if_neg (by simp; omega)]
  | j + 1, i, h => by
    have w : IntKind.i64.wrap ((i : Int) + 1) = ((i + 1 : Nat) : Int) := next64 i (by omega)
    have g : (0 : Int) ≤ (i : Int) ∧ (i : Int) < (l.length : Int) := in_nat (by omega)
    have g2 : (0 : Int) ≤ (i : Int) ∧ (i : Int) < ((l.map conv).length : Int) := by rw [List.length_map]; exact g
    have key : lombardlaw15_HaircutTotals.r0 l (l.map conv) (i : Int) = some (.inl ((i + 1 : Nat) : Int)) := by
      unfold lombardlaw15_HaircutTotals.r0 lombardlaw15_HaircutTotals.b0
      rw [if_pos (decide_eq_true g.2), if_pos g2, nth_item l i (by omega), (ic_is _).1, Option.bind_some, if_pos g, (ic_is _).2, Option.bind_some, if_neg (by simp), w]
    rw [loop_next key]
    exact each_loop l hl j (i + 1) (by omega)

theorem total_loop (l : List lombardref15_Item) (hl : l.length ≤ 100) : ∀ (j i : Nat) (s : Int), l.length = i + j → inI64 s →
    ∃ o, (match o with | .inl r => r.1 = 0 | .inr w => inI64 w) ∧ loop (haircut_Total.r0 (l.map conv)) (s, (i : Int)) = some o ∧ loop (lombardref15_Total.r0 l) (s, (i : Int)) = some o
  | 0, i, s, h, hs => by
    refine ⟨.inr s, hs, loop_end ?_, loop_end ?_⟩
    · unfold haircut_Total.r0 haircut_Total.b0
      rw [if_neg (by simp; omega)]
    · unfold lombardref15_Total.r0 lombardref15_Total.b0
      rw [if_neg (by simp; omega)]
  | j + 1, i, s, h, hs => by
    have w : IntKind.i64.wrap ((i : Int) + 1) = ((i + 1 : Nat) : Int) := next64 i (by omega)
    have g : (0 : Int) ≤ (i : Int) ∧ (i : Int) < (l.length : Int) := in_nat (by omega)
    have g2 : (0 : Int) ≤ (i : Int) ∧ (i : Int) < ((l.map conv).length : Int) := by rw [List.length_map]; exact g
    have hin : inI64 (ic (nth l (i : Int))) := coverOf_in _ _ _
    have key1 : haircut_Total.r0 (l.map conv) (s, (i : Int)) = if (sumOf (s + ic (nth l (i : Int)))).2 = 0 then some (.inl ((sumOf (s + ic (nth l (i : Int)))).1, ((i + 1 : Nat) : Int))) else some (.inr (.inl (0, (sumOf (s + ic (nth l (i : Int)))).2))) := by
      unfold haircut_Total.r0 haircut_Total.b0
      simp only
      rw [if_pos (decide_eq_true g2.2), if_pos g2, nth_item l i (by omega), (ic_is _).1, Option.bind_some, plus_is _ _ hs hin, Option.bind_some, w]
      by_cases c : (sumOf (s + ic (nth l (i : Int)))).2 = 0
      · rw [if_pos c, if_neg (by simpa using c)]
      · rw [if_neg c, if_pos (by simpa using c)]
    have key2 : lombardref15_Total.r0 l (s, (i : Int)) = if (sumOf (s + ic (nth l (i : Int)))).2 = 0 then some (.inl ((sumOf (s + ic (nth l (i : Int)))).1, ((i + 1 : Nat) : Int))) else some (.inr (.inl (0, (sumOf (s + ic (nth l (i : Int)))).2))) := by
      unfold lombardref15_Total.r0 lombardref15_Total.b0
      simp only
      rw [if_pos (decide_eq_true g.2), if_pos g, (ic_is _).2, Option.bind_some, ref_plus_is _ _ hs hin, Option.bind_some, w]
      by_cases c : (sumOf (s + ic (nth l (i : Int)))).2 = 0
      · rw [if_pos c, if_neg (by simpa using c)]
      · rw [if_neg c, if_pos (by simpa using c)]
    by_cases c : (sumOf (s + ic (nth l (i : Int)))).2 = 0
    · rw [if_pos c] at key1 key2
      obtain ⟨o, h0, h1, h2⟩ := total_loop l hl j (i + 1) (sumOf (s + ic (nth l (i : Int)))).1 (by omega) (sumOf_in _)
      exact ⟨o, h0, by rw [loop_next key1, h1], by rw [loop_next key2, h2]⟩
    · rw [if_neg c] at key1 key2
      exact ⟨_, rfl, loop_end key1, loop_end key2⟩

theorem total_is (l : List lombardref15_Item) (hl : l.length ≤ 100) : ∃ r : Int × Int, inI64 r.1 ∧ haircut_Total.f (l.map conv) = some r ∧ lombardref15_Total.f l = some r := by
  obtain ⟨o, h0, h1, h2⟩ := total_loop l hl l.length 0 0 (by omega) ⟨by decide, by decide⟩
  have h1' : loop (haircut_Total.r0 (l.map conv)) (0, 0) = some o := h1
  have h2' : loop (lombardref15_Total.r0 l) (0, 0) = some o := h2
  unfold haircut_Total.f lombardref15_Total.f
  rw [h1', h2']
  cases o with
  | inl r => exact ⟨r, by simp only at h0; rw [h0]; exact ⟨by decide, by decide⟩, rfl, rfl⟩
  | inr w => exact ⟨(w, 0), h0, rfl, rfl⟩

theorem Pure.HaircutTotals : ∀ (x0 : List lombardref15_Item) (x1 : Int), (x0.length * 96 ≤ reach ∧ ∀ y ∈ x0, lombardref15_Item.bd y) → (inK .i64 x1) → lombardlaw15_HaircutTotals.f x0 x1 = some true := by
  intro l m _ hm
  have hm : inI64 m := in64 hm
  unfold lombardlaw15_HaircutTotals.f
  rw [awake_is]
  by_cases c : (l.length : Int) > 100
  · rw [if_pos (decide_eq_true c)]; rfl
  · have hl : l.length ≤ 100 := by omega
    have e : loop (lombardlaw15_HaircutTotals.r0 l (l.map conv)) 0 = some (.inr ()) := each_loop l hl l.length 0 (by omega)
    obtain ⟨r, h0, h1, h2⟩ := total_is l hl
    rw [if_neg (by simpa using c), items_is l hl, Option.bind_some, e, Option.bind_some]
    unfold haircut_Margin.f
    simp only
    rw [h1, h2, Option.bind_some, Option.bind_some, Option.bind_some, (minus_is r.1 m h0 hm).1, (minus_is r.1 m h0 hm).2]
    by_cases k : (r.2 != 0) = true
    · simp [if_pos k, k]
    · simp [if_neg k, k]

end Go.Proofs.Ytdcpdnfalnelkaa

