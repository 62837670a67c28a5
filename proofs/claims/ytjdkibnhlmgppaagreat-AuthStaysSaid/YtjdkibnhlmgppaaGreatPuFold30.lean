/- Shows that the small form of a text is the document's. -/
import Derived.Test.YtjdkibnhlmgppaaGreatPuName
import Derived.Test.YtjdkibnhlmgppaaGreatGx2
import Derived.Test.YtjdkibnhlmgppaaGreatGx1
namespace Go.Proofs.YtjdkibnhlmgppaaGreat
open Go Go.Pm Go.Pm.Arith
set_option linter.unusedVariables false
set_option linter.unusedSimpArgs false
set_option maxRecDepth 100000

/-- A sign's number. -/
def Vs (r : Int) : Prop := 0 ≤ r ∧ r ≤ 1114111 ∧ ¬ (55296 ≤ r ∧ r ≤ 57343)
/-- A sign's small form. -/
noncomputable def lowv (c : Int) : Int := (name_low.f c).getD 0

theorem low_small : ((List.range 400).all fun n => (name_low.f (n : Int) == lombardref04_low.f (n : Int)) && (match name_low.f (n : Int) with | some r => decide (0 ≤ r ∧ r < 400) | none => false)) = true := by decide +kernel

theorem low_both (c : Int) (h : Vs c) : name_low.f c = some (lowv c) ∧ lombardref04_low.f c = some (lowv c) ∧ Vs (lowv c) := by
  obtain ⟨h0, h1, h2⟩ := h
  by_cases k : c < 400
  · obtain ⟨n, rfl⟩ : ∃ n : Nat, c = (n : Int) := ⟨c.toNat, by omega⟩
    have a := List.all_eq_true.1 low_small n (List.mem_range.2 (by omega))
    rw [Bool.and_eq_true, beq_iff_eq] at a
    obtain ⟨a1, a2⟩ := a
    unfold lowv
    rw [← a1]
    cases q : name_low.f (n : Int) with
    | none => rw [q] at a2; cases a2
    | some r =>
      rw [q] at a2
      have := of_decide_eq_true a2
      exact ⟨rfl, rfl, by show 0 ≤ r; omega, by show r ≤ 1114111; omega, by show ¬ (55296 ≤ r ∧ r ≤ 57343); omega⟩
  · have e1 : name_low.f c = some c := by
      unfold name_low.f
      rw [if_neg (by simp; omega), decide_eq_false (show ¬ c ≤ 222 by omega), Bool.and_false, Bool.false_and, Option.bind_some, if_neg (by decide), if_neg (by simp; omega), if_neg (by simp; omega),
        decide_eq_false (show ¬ c ≤ 375 by omega), Bool.and_false, Option.bind_some, if_neg (by decide), if_neg (by simp; omega), decide_eq_false (show ¬ c ≤ 382 by omega), Bool.and_false, Option.bind_some, if_neg (by decide)]
    have e2 : lombardref04_low.f c = some c := by
      unfold lombardref04_low.f
      rw [if_neg (by simp; omega), if_neg (by simp; omega), if_neg (by simp; omega), if_neg (by simp; omega)]
    have e3 : lowv c = c := by unfold lowv; rw [e1]; rfl
    rw [e3]
    exact ⟨e1, e2, h0, h1, h2⟩

theorem toB_enc (l : List Int) (r : Int) (h : Lib.encodeRuneZ r = l) : toB l = Lib.encodeRune r := by
  unfold toB Lib.encodeRune; rw [h]

theorem text_is (r : Int) (h : Vs r) : lombardref04_Text.f r = some (Lib.encodeRune r) ∧ (Lib.encodeRune r).length ≤ 4 := by
  obtain ⟨h0, h1, h2⟩ := h
  refine ⟨?_, by unfold Lib.encodeRune; rw [List.length_map]; exact (Lib.encodeRuneZ_length r).2⟩
  have d64 : Int.tdiv r 64 = r / 64 := Int.tdiv_eq_ediv_of_nonneg h0
  have d4096 : Int.tdiv r 4096 = r / 4096 := Int.tdiv_eq_ediv_of_nonneg h0
  have dm : Int.tdiv r 262144 = r / 262144 := Int.tdiv_eq_ediv_of_nonneg h0
  have w64 : IntKind.i64.wrap (r / 64) = r / 64 := i64_idz _ (by omega) (by omega)
  have w4096 : IntKind.i64.wrap (r / 4096) = r / 4096 := i64_idz _ (by omega) (by omega)
  have wm : IntKind.i64.wrap (r / 262144) = r / 262144 := i64_idz _ (by omega) (by omega)
  have m0 : Int.tmod r 64 = r % 64 := Int.tmod_eq_emod_of_nonneg h0
  have m1 : Int.tmod (r / 64) 64 = r / 64 % 64 := Int.tmod_eq_emod_of_nonneg (by omega)
  have m2 : Int.tmod (r / 4096) 64 = r / 4096 % 64 := Int.tmod_eq_emod_of_nonneg (by omega)
  have b : ∀ x : Int, 0 ≤ x → x < 256 → IntKind.u8.wrap (IntKind.i64.wrap x) = x := fun x x0 x1 => by rw [i64_idz _ (by omega) (by omega), u8_id _ x0 x1]
  unfold lombardref04_Text.f
  rw [d64, d4096, dm, w64, w4096, wm, m0, m1, m2]
  by_cases c1 : r < 128
  · rw [if_pos (decide_eq_true c1), u8_id _ h0 (by omega), toB_enc _ r (Lib.encodeRuneZ_one h0 (by omega))]
  · rw [if_neg (by simpa using c1)]
    by_cases c2 : r < 2048
    · rw [if_pos (decide_eq_true c2), b _ (by omega) (by omega), b _ (by omega) (by omega), toB_enc _ r (Lib.encodeRuneZ_two (by omega) (by omega))]
    · rw [if_neg (by simpa using c2)]
      by_cases c3 : r < 65536
      · rw [if_pos (decide_eq_true c3), b _ (by omega) (by omega), b _ (by omega) (by omega), b _ (by omega) (by omega), toB_enc _ r (Lib.encodeRuneZ_three (by omega))]
      · rw [if_neg (by simpa using c3), b _ (by omega) (by omega), b _ (by omega) (by omega), b _ (by omega) (by omega), b _ (by omega) (by omega), toB_enc _ r (Lib.encodeRuneZ_four (by omega) (by omega))]

theorem sgn4_valid (a b c d : Int) (h0 : 0 ≤ a) : Vs (sgn4 a b c d).1 := by
  unfold sgn4
  split
  · exact ⟨h0, by dsimp only; omega, by dsimp only; omega⟩
  split
  · rename_i h1 h; obtain ⟨⟨h2, h3⟩, h4, h5⟩ := h; exact ⟨by dsimp only; omega, by dsimp only; omega, by dsimp only; omega⟩
  split
  · rename_i h; obtain ⟨⟨⟨⟨h2, h3⟩, h4, h5⟩, h6, h7⟩, h8, h9⟩ := h; unfold n3 at *; exact ⟨by dsimp only; omega, by dsimp only; omega, by dsimp only; omega⟩
  split
  · rename_i h; obtain ⟨h2, h8, h9⟩ := h; exact ⟨by dsimp only; omega, by dsimp only; omega, by dsimp only; omega⟩
  · exact ⟨by decide, by decide, by decide⟩

theorem sfrom_valid (s : Bs) : ∀ (n p : Nat), ∀ x ∈ sfrom s n p, Vs x.1
  | 0, p, x, h => by cases h
  | n + 1, p, x, h => by
    simp only [sfrom] at h
    split at h
    · rename_i c
      rcases List.mem_cons.1 h with h | h
      · subst h
        show Vs (nextC s p)
        rw [nextC_is s p c]
        refine sgn4_valid _ _ _ _ ?_
        unfold bt; rw [if_pos c]; omega
      · exact sfrom_valid s n _ x h
    · cases h

/-- The small form of a text. -/
noncomputable def foldOf (l : List (Int × Nat)) : Bs := l.flatMap fun x => Lib.encodeRune (lowv x.1)
noncomputable def fold (s : Bs) : Bs := foldOf (signs s)

theorem foldFrom_is (s : Bs) : ∀ (n p : Nat), foldFrom name_Fold.low (tx s) n p = some (foldOf (sfrom s n p))
  | 0, p => rfl
  | n + 1, p => by
    simp only [foldFrom, sfrom, tx_size]
    by_cases c : p < s.length
    · rw [if_pos c, if_pos c]
      have hv : Vs ((Utf8.decode (tx s) p).1 : Int) := sfrom_valid s (n + 1) p (nextC s p, p) (by simp only [sfrom]; rw [if_pos c]; exact List.mem_cons_self)
      obtain ⟨l1, l2, l3⟩ := low_both _ hv
      have e : name_Fold.low ((Utf8.decode (tx s) p).1 : Int) = some (lowv ((Utf8.decode (tx s) p).1 : Int)) := by
        unfold name_Fold.low
        rw [l1, Option.bind_some, if_pos (by obtain ⟨q1, q2, q3⟩ := l3; omega)]
      have ep : p + (Utf8.decode (tx s) p).2 = nextP s p := by unfold nextP; rw [if_pos c]
      rw [e, Option.bind_some, ep, foldFrom_is s n (nextP s p)]
      rfl
    · rw [if_neg c, if_neg c]; rfl

theorem fold_loop (L Q : List Int) (ok : Bool) (few : L.length ≤ 100000) (hv : ∀ x ∈ L, Vs x) : ∀ (j i : Nat) (acc : Bs), L.length = i + j → acc.length ≤ 4 * i →
    loop (lombardref04_Fold.r0 (L, Q, ok)) (acc, (i : Int)) = some (acc ++ (L.drop i).flatMap fun x => Lib.encodeRune (lowv x))
  | 0, i, acc, h, _ => by
    rw [List.drop_of_length_le (by omega), List.flatMap_nil, List.append_nil]
    refine loop_end ?_
    unfold lombardref04_Fold.r0 lombardref04_Fold.b0
    rw [if_neg (by simp; omega)]
  | j + 1, i, acc, h, ha => by
    have hi : i < L.length := by omega
    have en : nth L (i : Int) = L[i] := by
      show L.getD i default = _
      rw [List.getD_eq_getElem?_getD, List.getElem?_eq_getElem hi]; rfl
    obtain ⟨l1, l2, l3⟩ := low_both L[i] (hv _ (List.getElem_mem hi))
    obtain ⟨t1, t2⟩ := text_is _ l3
    have key : lombardref04_Fold.r0 (L, Q, ok) (acc, (i : Int)) = some (.inl (acc ++ Lib.encodeRune (lowv L[i]), ((i + 1 : Nat) : Int))) := by
      unfold lombardref04_Fold.r0 lombardref04_Fold.b0
      simp only
      rw [if_pos (decide_eq_true (by omega)), if_pos (by omega), en, l2, Option.bind_some, t1, Option.bind_some, if_pos (by omega), i64_nx i (by omega)]
    rw [loop_next key, fold_loop L Q ok few hv j (i + 1) _ (by omega) (by rw [List.length_append]; omega), List.drop_eq_getElem_cons hi, List.flatMap_cons, List.append_assoc]

theorem fold_both (s : Bs) (few : s.length ≤ 100000) : name_Fold.f s = some (fold s) ∧ lombardref04_Fold.f s = some (fold s) := by
  constructor
  · unfold name_Fold.f
    rw [if_pos (by omega), tx_size, foldFrom_is]
    rfl
  · obtain ⟨ok, e⟩ := signs_is s few
    unfold lombardref04_Fold.f
    rw [e, Option.bind_some]
    have := fold_loop ((signs s).map (·.1)) ((signs s).map (fun x => ((x.2 : Nat) : Int))) ok (by rw [List.length_map]; have := sfrom_len s s.length 0; unfold signs; omega)
      (fun x hx => by obtain ⟨y, hy, rfl⟩ := List.mem_map.1 hx; exact sfrom_valid s s.length 0 y hy) ((signs s).map (·.1)).length 0 [] (by omega) (by simp)
    have e' : loop (lombardref04_Fold.r0 ((signs s).map (·.1), (signs s).map (fun x => ((x.2 : Nat) : Int)), ok)) ([], 0) = _ := this
    rw [e', Option.bind_some]
    simp only [List.drop_zero, List.nil_append, List.flatMap_map]
    rfl

theorem same_is (a b : Bs) (fa : a.length ≤ 100000) (fb : b.length ≤ 100000) : name_Same.f a b = some (fold a == fold b) := by
  unfold name_Same.f
  rw [(fold_both a fa).1, (fold_both b fb).1]; rfl

end Go.Proofs.YtjdkibnhlmgppaaGreat

