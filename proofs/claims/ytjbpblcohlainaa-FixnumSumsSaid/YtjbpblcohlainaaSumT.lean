/- Shows, in plain whole numbers, what the printed sums and differences tell, the program's and the document's. -/
import Derived.Test.YtjbpblcohlainaaPrintx14
import Derived.Test.YtjbpblcohlainaaPrintx15
import Derived.Test.YtjbpblcohlainaaPrintx28
import Derived.Test.YtjbpblcohlainaaPrintx29
import Derived.Test.YtjbpblcohlainaaPmArith
namespace Go.Proofs.Ytjbpblcohlainaa.Print
open Go.RowKit Go.Proofs.YtjbpblcohlainaaW.PrintWords Go.Proofs.YtjbpblcohlainaaW.PrintLast Go.Proofs.YtjbpblcohlainaaW.PrintMore Go.Pm.Arith
set_option linter.unusedVariables false
set_option linter.unusedSimpArgs false

def inI64 (a : Int) : Prop := -9223372036854775808 ≤ a ∧ a < 9223372036854775808

/-- A sum, or that it has no place. -/
def sumOf (s : Int) : Int × Int := if -9223372036854775808 ≤ s ∧ s < 9223372036854775808 then (s, 0) else (0, 9)

theorem plus_is (a b : Int) (ha : inI64 a) (hb : inI64 b) : fixnum_Plus.f a b = some (sumOf (a + b)) := by
  unfold inI64 at ha hb
  unfold sumOf
  simp only [fixnum_Plus.f, wrap64]
  repeat' split
  all_goals first
    | (exfalso; omega)
    | rfl
    | (congr 2; omega)

theorem ref_plus_is (a b : Int) (ha : inI64 a) (hb : inI64 b) : lombardref01_Plus.f a b = some (sumOf (a + b)) := by
  unfold inI64 at ha hb
  unfold sumOf
  simp only [lombardref01_Plus.f, wrap64]
  repeat' split
  all_goals first
    | (exfalso; omega)
    | rfl
    | (congr 2; omega)

theorem sumOf_in (s : Int) : inI64 (sumOf s).1 := by
  unfold sumOf inI64
  split
  · assumption
  · exact ⟨by decide, by decide⟩

/-- Numbers added one behind the other, from s on. -/
def sums : Int → List Int → Int × Int
  | s, [] => (s, 0)
  | s, x :: l => if (sumOf (s + x)).2 = 0 then sums (sumOf (s + x)).1 l else (0, (sumOf (s + x)).2)

theorem rd_nat2 (l : List Int) (n : Nat) : rd l (n : Int) = l.getD n 0 := by unfold rd; simp

theorem drop_cons (l : List Int) (i : Nat) (h : i < l.length) : l.drop i = l.getD i 0 :: l.drop (i + 1) := by
  rw [List.drop_eq_getElem_cons h, List.getD_eq_getElem?_getD, List.getElem?_eq_getElem h]; rfl

theorem getD_in (l : List Int) (hw : ∀ x ∈ l, inI64 x) (i : Nat) (h : i < l.length) : inI64 (l.getD i 0) := by
  rw [List.getD_eq_getElem?_getD, List.getElem?_eq_getElem h]; exact hw _ (List.getElem_mem h)

theorem next_is (i : Nat) (h : i < 1000000000000000) : wrap64 ((i : Int) + 1) = ((i + 1 : Nat) : Int) := by unfold wrap64; omega

theorem sum_loop (l : List Int) (hw : ∀ x ∈ l, inI64 x) (hl : l.length < 1000000000000000) : ∀ (j i : Nat) (s : Int), l.length = i + j → inI64 s →
    Ev (fun k => fixnum_Sum.l0 k s l (l.length : Int) (i : Int)) (sums s (l.drop i)) ∧ Ev (fun k => lombardref01_Sum.l0 k l s (i : Int)) (sums s (l.drop i))
  | 0, i, s, hj, hs => by
    have hi : ¬ (i : Int) < (l.length : Int) := by omega
    rw [List.drop_of_length_le (by omega)]
    refine ⟨Ev.step (f := fun _ => some (s, 0)) (fun k => ?_) (Ev.now _), Ev.step (f := fun _ => some (s, 0)) (fun k => ?_) (Ev.now _)⟩
    · rw [fixnum_Sum.l0, if_neg hi]
    · rw [lombardref01_Sum.l0, if_neg hi]
  | j + 1, i, s, hj, hs => by
    have hi : (i : Int) < (l.length : Int) := by omega
    have h0 : 0 ≤ (i : Int) := by omega
    have hx := getD_in l hw i (by omega)
    have hn := next_is i (by omega)
    rw [drop_cons l i (by omega)]
    by_cases c : (sumOf (s + l.getD i 0)).2 = 0
    · obtain ⟨e1, e2⟩ := sum_loop l hw hl j (i + 1) (sumOf (s + l.getD i 0)).1 (by omega) (sumOf_in _)
      have es : sums s (l.getD i 0 :: l.drop (i + 1)) = sums (sumOf (s + l.getD i 0)).1 (l.drop (i + 1)) := by rw [sums, if_pos c]
      rw [es]
      refine ⟨Ev.step (fun k => ?_) e1, Ev.step (fun k => ?_) e2⟩
      · rw [fixnum_Sum.l0, if_pos hi, if_pos h0, if_pos hi, rd_nat2, plus_is _ _ hs hx, Option.bind_some, if_pos c, hn]
      · rw [lombardref01_Sum.l0, if_pos hi, if_pos h0, rd_nat2, ref_plus_is _ _ hs hx, Option.bind_some, if_pos c, hn]
    · have es : sums s (l.getD i 0 :: l.drop (i + 1)) = (0, (sumOf (s + l.getD i 0)).2) := by rw [sums, if_neg c]
      rw [es]
      refine ⟨Ev.step (f := fun _ => some (0, (sumOf (s + l.getD i 0)).2)) (fun k => ?_) (Ev.now _), Ev.step (f := fun _ => some (0, (sumOf (s + l.getD i 0)).2)) (fun k => ?_) (Ev.now _)⟩
      · rw [fixnum_Sum.l0, if_pos hi, if_pos h0, if_pos hi, rd_nat2, plus_is _ _ hs hx, Option.bind_some, if_neg c]
      · rw [lombardref01_Sum.l0, if_pos hi, if_pos h0, rd_nat2, ref_plus_is _ _ hs hx, Option.bind_some, if_neg c]

theorem sum_is (l : List Int) (hw : ∀ x ∈ l, inI64 x) (hl : l.length < 1000000000000000) : Ev (fun k => fixnum_Sum.f k l) (sums 0 l) ∧ Ev (fun k => lombardref01_Sum.f k l) (sums 0 l) :=
  sum_loop l hw hl l.length 0 0 (by omega) ⟨by decide, by decide⟩

end Go.Proofs.Ytjbpblcohlainaa.Print
