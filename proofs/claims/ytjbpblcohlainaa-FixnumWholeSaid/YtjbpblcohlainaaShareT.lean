/- Shows, in plain whole numbers, how the printed functions cut an amount by weights: the program's and the document's, one and the same way. -/
import Derived.Test.YtjbpblcohlainaaNumAll
import Derived.Test.YtjbpblcohlainaaPrintx16
import Derived.Test.YtjbpblcohlainaaPrintx30
namespace Go.Proofs.Ytjbpblcohlainaa.Print
open Go.RowKit Go.Proofs.YtjbpblcohlainaaW.PrintWords Go.Proofs.YtjbpblcohlainaaW.PrintLast Go.Proofs.YtjbpblcohlainaaW.PrintMore Go.Pm.Arith
set_option linter.unusedVariables false
set_option linter.unusedSimpArgs false

def cuts (amount all : Int) : Int → List Int → List Int × Int
  | left, [] => ([], left)
  | left, w :: l => let n := (mdOf amount w all 1).1; ((n :: (cuts amount all (wrap64 (left - n)) l).1), (cuts amount all (wrap64 (left - n)) l).2)

def deal : Int → List Int → List Int → List Int
  | _, [], out => out
  | _, _ :: _, [] => []
  | left, w :: l, n :: out => if left > 0 ∧ w > 0 then wrap64 (n + 1) :: deal (wrap64 (left - 1)) l out else n :: deal left l out

def shareOf (amount : Int) (l : List Int) : List Int × Int :=
  if amount < 0 ∨ (l.length : Int) > 64 then ([], 1)
  else if ∃ w ∈ l, w < 0 then ([], 1)
  else if (sums 0 l).2 = 0 then (if (sums 0 l).1 = 0 then ([], 6) else (deal (cuts amount (sums 0 l).1 amount l).2 l (cuts amount (sums 0 l).1 amount l).1, 0))
  else ([], (sums 0 l).2)

theorem sums_in : ∀ (l : List Int) (s : Int), inI64 s → inI64 (sums s l).1
  | [], s, h => h
  | x :: l, s, h => by
    rw [sums]
    split
    · exact sums_in l _ (sumOf_in _)
    · exact (⟨by decide, by decide⟩ : inI64 0)

theorem cuts_len (amount all : Int) : ∀ (l : List Int) (left : Int), (cuts amount all left l).1.length = l.length
  | [], _ => rfl
  | w :: l, left => by simp [cuts, cuts_len amount all l]

theorem deal_stop : ∀ (l out : List Int) (left : Int), ¬ left > 0 → l.length = out.length → deal left l out = out
  | [], [], left, _, h => rfl
  | [], _ :: _, left, _, h => by simp at h
  | w :: l, [], left, _, h => by simp at h
  | w :: l, n :: out, left, h0, h => by rw [deal, if_neg (fun x => h0 x.1), deal_stop l out left h0 (by simpa using h)]

theorem deal_len : ∀ (l out : List Int) (left : Int), l.length = out.length → (deal left l out).length = l.length
  | [], [], left, _ => rfl
  | [], _ :: _, left, h => by simp at h
  | w :: l, [], left, h => by simp at h
  | w :: l, n :: out, left, h => by
    rw [deal]
    split
    · simp [deal_len l out _ (by simpa using h)]
    · simp [deal_len l out _ (by simpa using h)]

theorem check_is (amount : Int) (l : List Int) (hl : l.length < 1000000) : ∀ (j i : Nat), l.length = i + j →
    ((∃ w ∈ l.drop i, w < 0) → Ev (fun k => fixnum_Share.l0 k amount l l (l.length : Int) (i : Int)) ([], 1) ∧ Ev (fun k => lombardref01_Share.l0 k amount l (i : Int)) ([], 1)) ∧
    ((¬ ∃ w ∈ l.drop i, w < 0) → ∀ r, (Ev (fun k => fixnum_Share.l0 k amount l l (l.length : Int) (l.length : Int)) r → Ev (fun k => fixnum_Share.l0 k amount l l (l.length : Int) (i : Int)) r) ∧
      (Ev (fun k => lombardref01_Share.l0 k amount l (l.length : Int)) r → Ev (fun k => lombardref01_Share.l0 k amount l (i : Int)) r))
  | 0, i, hj => by
    obtain rfl : i = l.length := by omega
    rw [List.drop_length]
    exact ⟨fun ⟨w, h, _⟩ => by simp at h, fun _ r => ⟨id, id⟩⟩
  | j + 1, i, hj => by
    have hi : (i : Int) < (l.length : Int) := by omega
    have h0 : 0 ≤ (i : Int) := by omega
    have hn := next_is i (by omega)
    rw [drop_cons l i (by omega)]
    obtain ⟨e1, e2⟩ := check_is amount l hl j (i + 1) (by omega)
    by_cases c : l.getD i 0 < 0
    · refine ⟨fun _ => ⟨Ev.step (f := fun _ => some ([], 1)) (fun k => ?_) (Ev.now _), Ev.step (f := fun _ => some ([], 1)) (fun k => ?_) (Ev.now _)⟩, fun h => absurd ⟨_, List.mem_cons_self, c⟩ h⟩
      · rw [fixnum_Share.l0, if_pos hi, if_pos h0, if_pos hi, rd_nat2, if_pos c]
      · rw [lombardref01_Share.l0, if_pos hi, if_pos h0, rd_nat2, if_pos c]
    · have s1 : ∀ r, Ev (fun k => fixnum_Share.l0 k amount l l (l.length : Int) ((i + 1 : Nat) : Int)) r → Ev (fun k => fixnum_Share.l0 k amount l l (l.length : Int) (i : Int)) r := fun r h =>
        Ev.step (fun k => by rw [fixnum_Share.l0, if_pos hi, if_pos h0, if_pos hi, rd_nat2, if_neg c, hn]) h
      have s2 : ∀ r, Ev (fun k => lombardref01_Share.l0 k amount l ((i + 1 : Nat) : Int)) r → Ev (fun k => lombardref01_Share.l0 k amount l (i : Int)) r := fun r h =>
        Ev.step (fun k => by rw [lombardref01_Share.l0, if_pos hi, if_pos h0, rd_nat2, if_neg c, hn]) h
      refine ⟨fun ⟨w, hw, hw0⟩ => ?_, fun h r => ?_⟩
      · rcases List.mem_cons.mp hw with rfl | hw
        · exact absurd hw0 c
        · obtain ⟨t1, t2⟩ := e1 ⟨w, hw, hw0⟩
          exact ⟨s1 _ t1, s2 _ t2⟩
      · obtain ⟨t1, t2⟩ := e2 (fun ⟨w, hw, hw0⟩ => h ⟨w, List.mem_cons_of_mem _ hw, hw0⟩) r
        exact ⟨fun x => s1 r (t1 x), fun x => s2 r (t2 x)⟩

theorem getD_app_last (a : List Int) (x : Int) (b : List Int) : (a ++ x :: b).getD a.length 0 = x := by
  rw [List.getD_eq_getElem?_getD, List.getElem?_append_right (Nat.le_refl _), Nat.sub_self]; rfl

theorem set_app_last (a : List Int) (x y : Int) (b : List Int) : (a ++ x :: b).set a.length y = a ++ y :: b := by
  rw [List.set_append, if_neg (by omega), Nat.sub_self, List.set_cons_zero]

theorem cut_is (amount all : Int) (hA : inI64 amount) (hall : inI64 all) (l : List Int) (hw : ∀ x ∈ l, inI64 x) (hl : l.length < 1000000) : ∀ (j i : Nat) (out : List Int) (left : Int), l.length = i + j → out.length = i → ∀ r,
    (Ev (fun k => fixnum_Share.l2 k l (out ++ (cuts amount all left (l.drop i)).1) (cuts amount all left (l.drop i)).2 (l.length : Int) 0) r → Ev (fun k => fixnum_Share.l1 k amount l all out left l (l.length : Int) (i : Int)) r) ∧
    (Ev (fun k => lombardref01_Share.l2 k l (out ++ (cuts amount all left (l.drop i)).1) (cuts amount all left (l.drop i)).2 0) r → Ev (fun k => lombardref01_Share.l1 k amount l all (out ++ List.replicate j 0) left (i : Int)) r)
  | 0, i, out, left, hj, ho, r => by
    have hi : ¬ (i : Int) < (l.length : Int) := by omega
    have hlen : (out.length : Int) = (l.length : Int) := by omega
    rw [List.drop_of_length_le (by omega)]
    simp only [cuts, List.append_nil, List.replicate_zero]
    exact ⟨fun h => Ev.step (fun k => by rw [fixnum_Share.l1, if_neg hi, hlen]) h, fun h => Ev.step (fun k => by rw [lombardref01_Share.l1, if_neg hi]) h⟩
  | j + 1, i, out, left, hj, ho, r => by
    have hi : (i : Int) < (l.length : Int) := by omega
    have h0 : 0 ≤ (i : Int) := by omega
    have hn := next_is i (by omega)
    have hx := getD_in l hw i (by omega)
    have cap : out.length < 17592186044416 := by omega
    have hE1 := muldiv_is amount (l.getD i 0) all 1 hA hx hall
    have hE2 := ref_muldiv_is amount (l.getD i 0) all 1 hA hx hall
    have ih := cut_is amount all hA hall l hw hl j (i + 1) (out ++ [(mdOf amount (l.getD i 0) all 1).1]) (wrap64 (left - (mdOf amount (l.getD i 0) all 1).1)) (by omega) (by simp; omega) r
    rw [drop_cons l i (by omega)]
    simp only [cuts]
    generalize hm : mdOf amount (l.getD i 0) all 1 = m at *
    simp only [List.append_assoc, List.singleton_append] at ih
    refine ⟨fun h => ?_, fun h => ?_⟩
    · refine Ev.step (fun k => by rw [fixnum_Share.l1, if_pos hi, if_pos h0, if_pos hi, rd_nat2]) (Ev.bind hE1 (Ev.congr (fun k => by rw [if_pos cap, hn]) (ih.1 h)))
    · have c2 : (i : Int) < ((out ++ List.replicate (j + 1) 0).length : Int) := by simp; omega
      have e1 : (out ++ List.replicate (j + 1) (0 : Int)).set i m.1 = out ++ m.1 :: List.replicate j 0 := by
        rw [List.replicate_succ, ← ho, set_app_last]
      have e2 : rd (out ++ m.1 :: List.replicate j 0) (i : Int) = m.1 := by rw [rd_nat2, ← ho, getD_app_last]
      refine Ev.step (fun k => by rw [lombardref01_Share.l1, if_pos hi, if_pos h0, rd_nat2]) (Ev.bind hE2 (Ev.congr (fun k => by rw [if_pos c2, Int.toNat_natCast, e1, Option.bind_some, e2, hn]) (ih.2 h)))

theorem take_set (out : List Int) (i : Nat) (x : Int) (h : i < out.length) : (out.set i x).take (i + 1) = out.take i ++ [x] ∧ (out.set i x).drop (i + 1) = out.drop (i + 1) ∧ (out.set i x).length = out.length := by
  refine ⟨?_, ?_, List.length_set⟩
  · rw [List.take_add_one, List.take_set_of_le (Nat.le_refl _), List.getElem?_set_self h]; rfl
  · rw [List.drop_set_of_lt (by omega)]

theorem take_next (out : List Int) (i : Nat) (h : i < out.length) : out.take (i + 1) = out.take i ++ [out.getD i 0] := by
  rw [List.take_add_one, List.getD_eq_getElem?_getD, List.getElem?_eq_getElem h]; rfl

theorem deal_is (l : List Int) (hl : l.length < 1000000) : ∀ (j i : Nat) (out : List Int) (left : Int), l.length = i + j → out.length = l.length →
    Ev (fun k => fixnum_Share.l2 k l out left (l.length : Int) (i : Int)) (out.take i ++ deal left (l.drop i) (out.drop i), 0) ∧ Ev (fun k => lombardref01_Share.l2 k l out left (i : Int)) (out.take i ++ deal left (l.drop i) (out.drop i), 0)
  | 0, i, out, left, hj, ho => by
    have hi : ¬ (i : Int) < (l.length : Int) := by omega
    rw [List.drop_of_length_le (by omega), List.drop_of_length_le (by omega), List.take_of_length_le (by omega)]
    simp only [deal, List.append_nil]
    exact ⟨Ev.step (f := fun _ => some (out, 0)) (fun k => by rw [fixnum_Share.l2, if_neg hi]) (Ev.now _),
      Ev.step (f := fun k => lombardref01_Share.j4 k l out left (i : Int) false) (fun k => by rw [lombardref01_Share.l2, if_neg hi]) (Ev.step (f := fun _ => some (out, 0)) (fun k => by rw [lombardref01_Share.j4, if_neg (by decide)]) (Ev.now _))⟩
  | j + 1, i, out, left, hj, ho => by
    have hi : (i : Int) < (l.length : Int) := by omega
    have hio : (i : Int) < (out.length : Int) := by omega
    have h0 : 0 ≤ (i : Int) := by omega
    have hn := next_is i (by omega)
    rw [drop_cons l i (by omega), drop_cons out i (by omega), deal]
    by_cases c1 : left > 0
    · by_cases c2 : l.getD i 0 > 0
      · rw [if_pos ⟨c1, c2⟩]
        obtain ⟨t1, t2, t3⟩ := take_set out i (wrap64 (out.getD i 0 + 1)) (by omega)
        obtain ⟨e1, e2⟩ := deal_is l hl j (i + 1) (out.set i (wrap64 (out.getD i 0 + 1))) (wrap64 (left - 1)) (by omega) (by rw [t3]; exact ho)
        rw [t1, t2, List.append_assoc, List.singleton_append] at e1 e2
        exact ⟨Ev.step (fun k => by rw [fixnum_Share.l2, if_pos hi, if_pos c1, if_pos h0, if_pos hi, rd_nat2, if_pos c2, if_pos hio, rd_nat2, Int.toNat_natCast, hn]) e1,
          Ev.step (f := fun k => lombardref01_Share.j4 k l out left (i : Int) true) (fun k => by rw [lombardref01_Share.l2, if_pos hi, decide_eq_true c1])
            (Ev.step (fun k => by rw [lombardref01_Share.j4, if_pos rfl, if_pos h0, if_pos hi, rd_nat2, if_pos c2, if_pos hio, rd_nat2, Int.toNat_natCast, hn]) e2)⟩
      · rw [if_neg (fun h => c2 h.2)]
        obtain ⟨e1, e2⟩ := deal_is l hl j (i + 1) out left (by omega) ho
        rw [take_next out i (by omega), List.append_assoc, List.singleton_append] at e1 e2
        exact ⟨Ev.step (fun k => by rw [fixnum_Share.l2, if_pos hi, if_pos c1, if_pos h0, if_pos hi, rd_nat2, if_neg c2, hn]) e1,
          Ev.step (f := fun k => lombardref01_Share.j4 k l out left (i : Int) true) (fun k => by rw [lombardref01_Share.l2, if_pos hi, decide_eq_true c1])
            (Ev.step (fun k => by rw [lombardref01_Share.j4, if_pos rfl, if_pos h0, if_pos hi, rd_nat2, if_neg c2, hn]) e2)⟩
    · rw [if_neg (fun h => c1 h.1)]
      obtain ⟨e1, _⟩ := deal_is l hl j (i + 1) out left (by omega) ho
      rw [take_next out i (by omega), List.append_assoc, List.singleton_append] at e1
      refine ⟨Ev.step (fun k => by rw [fixnum_Share.l2, if_pos hi, if_neg c1, hn]) e1, ?_⟩
      have e : out.take i ++ out.getD i 0 :: deal left (l.drop (i + 1)) (out.drop (i + 1)) = out := by
        rw [deal_stop _ _ _ c1 (by simp; omega), ← drop_cons out i (by omega), List.take_append_drop]
      rw [e]
      exact Ev.step (f := fun k => lombardref01_Share.j4 k l out left (i : Int) false) (fun k => by rw [lombardref01_Share.l2, if_pos hi, decide_eq_false c1]) (Ev.step (f := fun _ => some (out, 0)) (fun k => by rw [lombardref01_Share.j4, if_neg (by decide)]) (Ev.now _))

theorem share_is (amount : Int) (l : List Int) (hA : inI64 amount) (hw : ∀ x ∈ l, inI64 x) :
    Ev (fun k => fixnum_Share.f k amount l) (shareOf amount l) ∧ Ev (fun k => lombardref01_Share.f k amount l) (shareOf amount l) := by
  unfold shareOf
  have b1 : Ev (fun k => fixnum_Share.j0 k amount l true) ([], 1) := Ev.step (f := fun _ => some ([], 1)) (fun k => by rw [fixnum_Share.j0, if_pos rfl]) (Ev.now _)
  have b2 : Ev (fun k => lombardref01_Share.j0 k amount l true) ([], 1) := Ev.step (f := fun _ => some ([], 1)) (fun k => by rw [lombardref01_Share.j0, if_pos rfl]) (Ev.now _)
  by_cases h1 : amount < 0
  · rw [if_pos (Or.inl h1)]
    exact ⟨Ev.congr (fun k => by unfold fixnum_Share.f; rw [if_pos h1]) b1, Ev.congr (fun k => by unfold lombardref01_Share.f; rw [if_pos h1]) b2⟩
  · by_cases h2 : (l.length : Int) > 64
    · rw [if_pos (Or.inr h2)]
      exact ⟨Ev.congr (fun k => by unfold fixnum_Share.f; rw [if_neg h1, decide_eq_true h2]) b1, Ev.congr (fun k => by unfold lombardref01_Share.f; rw [if_neg h1, decide_eq_true h2]) b2⟩
    · rw [if_neg (by omega)]
      have s1 : ∀ r, Ev (fun k => fixnum_Share.l0 k amount l l (l.length : Int) 0) r → Ev (fun k => fixnum_Share.f k amount l) r := fun r h =>
        Ev.congr (fun k => by unfold fixnum_Share.f; rw [if_neg h1, decide_eq_false h2]) (Ev.step (fun k => by rw [fixnum_Share.j0, if_neg (by decide)]) h)
      have s2 : ∀ r, Ev (fun k => lombardref01_Share.l0 k amount l 0) r → Ev (fun k => lombardref01_Share.f k amount l) r := fun r h =>
        Ev.congr (fun k => by unfold lombardref01_Share.f; rw [if_neg h1, decide_eq_false h2]) (Ev.step (fun k => by rw [lombardref01_Share.j0, if_neg (by decide)]) h)
      obtain ⟨c1, c2⟩ := check_is amount l (by omega) l.length 0 (by omega)
      rw [List.drop_zero] at c1 c2
      by_cases h3 : ∃ w ∈ l, w < 0
      · rw [if_pos h3]
        exact ⟨s1 _ (c1 h3).1, s2 _ (c1 h3).2⟩
      · rw [if_neg h3]
        refine ⟨s1 _ ((c2 h3 _).1 ?_), s2 _ ((c2 h3 _).2 ?_)⟩
        all_goals have hi : ¬ (l.length : Int) < (l.length : Int) := by omega
        all_goals have sm := sum_is l hw (by omega)
        all_goals have sI := sums_in l 0 ⟨by decide, by decide⟩
        all_goals generalize sums 0 l = S at *
        · refine Ev.step (fun k => by rw [fixnum_Share.l0, if_neg hi]) (Ev.bind sm.1 ?_)
          by_cases h4 : S.2 = 0
          · by_cases h5 : S.1 = 0
            · rw [if_pos h4, if_pos h5]
              exact Ev.congr (fun k => by rw [if_pos h4, if_pos h5]) (Ev.now _)
            · rw [if_pos h4, if_neg h5]
              have d := (deal_is l (by omega) l.length 0 (cuts amount S.1 amount l).1 (cuts amount S.1 amount l).2 (by omega) (cuts_len _ _ _ _)).1
              rw [List.take_zero, List.drop_zero, List.drop_zero, List.nil_append] at d
              have u := (cut_is amount S.1 hA sI l hw (by omega) l.length 0 [] amount (by omega) rfl _).1 d
              exact Ev.congr (fun k => by rw [if_pos h4, if_neg h5]; rfl) u
          · rw [if_neg h4]
            exact Ev.congr (fun k => by rw [if_neg h4]) (Ev.now _)
        · refine Ev.step (fun k => by rw [lombardref01_Share.l0, if_neg hi]) (Ev.bind sm.2 ?_)
          by_cases h4 : S.2 = 0
          · by_cases h5 : S.1 = 0
            · rw [if_pos h4, if_pos h5]
              exact Ev.congr (fun k => by rw [if_pos h4, if_pos h5]) (Ev.now _)
            · rw [if_pos h4, if_neg h5]
              have d := (deal_is l (by omega) l.length 0 (cuts amount S.1 amount l).1 (cuts amount S.1 amount l).2 (by omega) (cuts_len _ _ _ _)).2
              rw [List.take_zero, List.drop_zero, List.drop_zero, List.nil_append] at d
              have u := (cut_is amount S.1 hA sI l hw (by omega) l.length 0 [] amount (by omega) rfl _).2 d
              have c3 : l.length ≤ 35184372088832 := by omega
              exact Ev.congr (fun k => by rw [if_pos h4, if_neg h5, if_pos (Int.natCast_nonneg _), Int.toNat_natCast, if_pos c3]; rfl) u
          · rw [if_neg h4]
            exact Ev.congr (fun k => by rw [if_neg h4]) (Ev.now _)

end Go.Proofs.Ytjbpblcohlainaa.Print
