/- Shows that shares are the amount together, that none is below its exact part rounded down, nor more than 1 above it, and that what has no weight gets nothing, of the printed functions. -/
import Derived.Test.YtjbpblcohlainaaPrintx18
import Derived.Test.YtjbpblcohlainaaShareT
import Derived.Test.YtjbpblcohlainaaPrintx32
namespace Go.Proofs.Ytjbpblcohlainaa.Print
open Go.RowKit Go.Proofs.YtjbpblcohlainaaW.PrintWords Go.Proofs.YtjbpblcohlainaaW.PrintLast Go.Proofs.YtjbpblcohlainaaW.PrintMore
set_option linter.unusedVariables false
set_option linter.unusedSimpArgs false

theorem awake_ev : Ev (fun k => lombardlaw01_awake.f k) true :=
  Ev.of (fun k => lombardlaw01_awake.mono k) (k := 90) (by decide +kernel)

theorem then_awake : Ev (fun k => (lombardlaw01_awake.f k).bind fun t => some t) true := Ev.bind awake_ev (Ev.now true)

theorem wf_u64 {a : Int} (h : (Lit.int .u64 a).wf = true) : 0 ≤ a ∧ a < 18446744073709551616 := by
  simp only [Lit.wf, IntKind.min, IntKind.max, IntKind.signed, IntKind.bits, Bool.and_eq_true, decide_eq_true_eq] at h
  simp at h
  omega

theorem wf_i64 {a : Int} (h : (Lit.int .i64 a).wf = true) : -9223372036854775808 ≤ a ∧ a < 9223372036854775808 := by
  simp only [Lit.wf, IntKind.min, IntKind.max, IntKind.signed, IntKind.bits, Bool.and_eq_true, decide_eq_true_eq] at h
  simp at h
  omega

end Go.Proofs.Ytjbpblcohlainaa.Print
namespace Go.Proofs.Ytjbpblcohlainaa.Print
open Go.RowKit Go.Proofs.YtjbpblcohlainaaW.PrintWords Go.Proofs.YtjbpblcohlainaaW.PrintLast Go.Proofs.YtjbpblcohlainaaW.PrintMore Go.Pm.Arith
set_option linter.unusedVariables false
set_option linter.unusedSimpArgs false

def total : List Int → Int
  | [] => 0
  | x :: l => x + total l

theorem total_nonneg : ∀ l : List Int, (∀ x ∈ l, 0 ≤ x) → 0 ≤ total l
  | [], _ => Int.le_refl _
  | x :: l, h => by
    have h1 := h x List.mem_cons_self
    have h2 := total_nonneg l (fun y hy => h y (List.mem_cons_of_mem _ hy))
    show 0 ≤ x + total l
    omega

theorem sums_total : ∀ (l : List Int) (s : Int), (sums s l).2 = 0 → (sums s l).1 = s + total l
  | [], s, _ => by show s = s + 0; omega
  | x :: l, s, h => by
    rw [sums] at h ⊢
    by_cases c : (sumOf (s + x)).2 = 0
    · rw [if_pos c] at h ⊢
      rw [sums_total l _ h]
      have : (sumOf (s + x)).1 = s + x := by
        unfold sumOf at c ⊢
        split at c
        · rename_i g; rw [if_pos g]
        · cases c
      rw [this]
      show s + x + total l = s + (x + total l)
      omega
    · rw [if_neg c] at h
      exact absurd h c

theorem total_sums : ∀ (l : List Int) (s : Int), 0 ≤ s → (∀ x ∈ l, 0 ≤ x) → s + total l < 9223372036854775808 → sums s l = (s + total l, 0)
  | [], s, _, _, _ => by show (s, (0 : Int)) = (s + 0, 0); rw [Int.add_zero]
  | x :: l, s, h0, hx, hb => by
    have h1 := hx x List.mem_cons_self
    have h2 := total_nonneg l (fun y hy => hx y (List.mem_cons_of_mem _ hy))
    have hb' : s + (x + total l) < 9223372036854775808 := hb
    have e : sumOf (s + x) = (s + x, 0) := by unfold sumOf; rw [if_pos (by omega)]
    rw [sums, e, if_pos rfl, total_sums l (s + x) (by omega) (fun y hy => hx y (List.mem_cons_of_mem _ hy)) (by omega)]
    show (s + x + total l, (0 : Int)) = (s + (x + total l), 0)
    rw [Int.add_assoc]

theorem part_is (amount w all : Int) (h0 : 0 ≤ amount) (h1 : amount < 9223372036854775808) (w0 : 0 ≤ w) (wa : w ≤ all) (ha : 0 < all) (ha1 : all < 9223372036854775808) :
    mdOf amount w all 1 = (amount * w / all, 0) ∧ 0 ≤ amount * w / all ∧ amount * w / all ≤ amount := by
  have hp : 0 ≤ amount * w := Int.mul_nonneg h0 w0
  have hle : amount * w ≤ amount * all := Int.mul_le_mul_of_nonneg_left wa h0
  have q0 : 0 ≤ amount * w / all := Int.ediv_nonneg hp (by omega)
  have q1 : amount * w / all ≤ amount := by
    have := Int.ediv_le_ediv ha hle
    rwa [Int.mul_ediv_cancel _ (by omega)] at this
  refine ⟨?_, q0, q1⟩
  have na : (amount.natAbs : Int) = amount := by omega
  have nw : (w.natAbs : Int) = w := by omega
  have nl : (all.natAbs : Int) = all := by omega
  have m : minusOf amount w all = false := by
    unfold minusOf
    rw [decide_eq_false (show ¬ amount < 0 by omega), decide_eq_false (show ¬ w < 0 by omega), decide_eq_false (show ¬ all < 0 by omega)]; rfl
  have r : roundUp (amount * w / all) (amount * w % all) all false 1 = false := by unfold roundUp; split <;> rfl
  unfold mdOf quotOf
  rw [if_neg (by omega), na, nw, nl, m, r, if_neg (by decide), Int.add_zero]
  unfold signOf
  rw [if_neg (by omega), if_neg (by decide)]

def heavy : List Int → Int
  | [] => 0
  | w :: l => (if w > 0 then 1 else 0) + heavy l

theorem heavy_nonneg : ∀ l : List Int, 0 ≤ heavy l
  | [] => Int.le_refl _
  | w :: l => by
    have := heavy_nonneg l
    show 0 ≤ (if w > 0 then 1 else 0) + heavy l
    split <;> omega

theorem cuts_left (amount all : Int) (h0 : 0 ≤ amount) (h1 : amount < 9223372036854775808) (ha : 0 < all) (ha1 : all < 9223372036854775808) : ∀ (l : List Int) (left : Int), (∀ w ∈ l, 0 ≤ w ∧ w ≤ all) →
    0 ≤ left * all - amount * total l → left < 9223372036854775808 → left ≤ amount →
    (∀ i, i < l.length → (cuts amount all left l).1.getD i 0 = amount * l.getD i 0 / all) ∧ (cuts amount all left l).2 = left - total (cuts amount all left l).1 ∧
    0 ≤ (cuts amount all left l).2 * all - (left * all - amount * total l) ∧ (cuts amount all left l).2 * all - (left * all - amount * total l) ≤ heavy l * (all - 1)
  | [], left, hw, hl, hl1, hl2 => by
    refine ⟨fun i h => by simp at h, ?_, ?_, ?_⟩
    · show left = left - 0; omega
    · show 0 ≤ left * all - (left * all - amount * 0); omega
    · show left * all - (left * all - amount * 0) ≤ 0 * (all - 1); omega
  | w :: l, left, hw, hl, hl1, hl2 => by
    obtain ⟨w0, wa⟩ := hw w List.mem_cons_self
    obtain ⟨e, p0, p1⟩ := part_is amount w all h0 h1 w0 wa ha ha1
    have hdm := Int.mul_ediv_add_emod (amount * w) all
    have m0 := Int.emod_nonneg (amount * w) (show all ≠ 0 by omega)
    have m1 := Int.emod_lt_of_pos (amount * w) ha
    have htot : amount * total (w :: l) = amount * w + amount * total l := by show amount * (w + total l) = _; rw [Int.mul_add]
    rw [htot] at hl ⊢
    have hn := total_nonneg l (fun x hx => (hw x (List.mem_cons_of_mem _ hx)).1)
    have hr : 0 ≤ amount * total l := Int.mul_nonneg h0 hn
    have e1 : (left - amount * w / all) * all = left * all - all * (amount * w / all) := by rw [Int.sub_mul, Int.mul_comm (amount * w / all)]
    have ih0 : 0 ≤ (left - amount * w / all) * all - amount * total l := by omega
    have lp : 0 ≤ left - amount * w / all := by
      by_cases c : 0 ≤ left - amount * w / all
      · exact c
      · have : (left - amount * w / all) * all ≤ -1 * all := Int.mul_le_mul_of_nonneg_right (by omega) (by omega)
        omega
    have ew : wrap64 (left - amount * w / all) = left - amount * w / all := by unfold wrap64; omega
    obtain ⟨i1, i2, i3, i4⟩ := cuts_left amount all h0 h1 ha ha1 l (left - amount * w / all) (fun x hx => hw x (List.mem_cons_of_mem _ hx)) ih0 (by omega) (by omega)
    simp only [cuts, e, ew]
    refine ⟨fun i hi => ?_, ?_, ?_, ?_⟩
    · cases i with
      | zero => rfl
      | succ i => simpa using i1 i (by simpa using hi)
    · show _ = left - (amount * w / all + total _)
      rw [i2]; omega
    · omega
    · have hh : heavy (w :: l) * (all - 1) = (if w > 0 then 1 else 0) * (all - 1) + heavy l * (all - 1) := by show ((if w > 0 then 1 else 0) + heavy l) * (all - 1) = _; rw [Int.add_mul]
      rw [hh]
      by_cases c : w > 0
      · rw [if_pos c]; omega
      · have z : w = 0 := by omega
        subst z
        rw [if_neg c]
        simp only [Int.mul_zero, Int.zero_emod, Int.zero_ediv] at *
        omega

theorem deal_total : ∀ (l out : List Int) (left : Int), l.length = out.length → 0 ≤ left → left ≤ heavy l → left < 9223372036854775808 → (0 < left → ∀ n ∈ out, -9223372036854775808 ≤ n ∧ n < 9223372036854775807) →
    total (deal left l out) = total out + left ∧ ∀ i, i < l.length → (deal left l out).getD i 0 = out.getD i 0 ∨ ((deal left l out).getD i 0 = out.getD i 0 + 1 ∧ l.getD i 0 > 0)
  | [], [], left, _, h0, h1, _, _ => by
    have : left = 0 := by
      have : left ≤ 0 := h1
      omega
    subst this
    exact ⟨rfl, fun i hi => by simp at hi⟩
  | [], _ :: _, left, h, _, _, _, _ => by simp at h
  | _ :: _, [], left, h, _, _, _, _ => by simp at h
  | w :: l, n :: out, left, h, h0, h1, h2, h3 => by
    have h1' : left ≤ (if w > 0 then 1 else 0) + heavy l := h1
    rw [deal]
    by_cases c : left > 0 ∧ w > 0
    · rw [if_pos c]
      rw [if_pos c.2] at h1'
      obtain ⟨n0, n1⟩ := h3 c.1 n List.mem_cons_self
      have e1 : wrap64 (n + 1) = n + 1 := by unfold wrap64; omega
      have e2 : wrap64 (left - 1) = left - 1 := by unfold wrap64; omega
      rw [e1, e2]
      obtain ⟨t1, t2⟩ := deal_total l out (left - 1) (by simpa using h) (by omega) (by omega) (by omega) (fun hl x hx => h3 c.1 x (List.mem_cons_of_mem _ hx))
      refine ⟨?_, fun i hi => ?_⟩
      · show n + 1 + total (deal (left - 1) l out) = n + total out + left
        rw [t1]; omega
      · cases i with
        | zero => exact Or.inr ⟨rfl, c.2⟩
        | succ i => simpa using t2 i (by simpa using hi)
    · rw [if_neg c]
      have h1'' : left ≤ heavy l := by
        by_cases cw : w > 0
        · have : ¬ left > 0 := fun x => c ⟨x, cw⟩
          have := heavy_nonneg l
          omega
        · rw [if_neg cw] at h1'; omega
      obtain ⟨t1, t2⟩ := deal_total l out left (by simpa using h) h0 h1'' h2 (fun hl x hx => h3 hl x (List.mem_cons_of_mem _ hx))
      refine ⟨?_, fun i hi => ?_⟩
      · show n + total (deal left l out) = n + total out + left
        rw [t1]; omega
      · cases i with
        | zero => exact Or.inl rfl
        | succ i => simpa using t2 i (by simpa using hi)

end Go.Proofs.Ytjbpblcohlainaa.Print
namespace Go.Proofs.Ytjbpblcohlainaa.Print
open Go.RowKit Go.Proofs.YtjbpblcohlainaaW.PrintWords Go.Proofs.YtjbpblcohlainaaW.PrintLast Go.Proofs.YtjbpblcohlainaaW.PrintMore Go.Pm.Arith
set_option linter.unusedVariables false
set_option linter.unusedSimpArgs false

theorem le_total : ∀ (l : List Int), (∀ x ∈ l, 0 ≤ x) → ∀ x ∈ l, x ≤ total l
  | y :: l, h, x, hx => by
    have h1 := h y List.mem_cons_self
    have h2 := total_nonneg l (fun z hz => h z (List.mem_cons_of_mem _ hz))
    show x ≤ y + total l
    rcases List.mem_cons.mp hx with rfl | hx
    · omega
    · have := le_total l (fun z hz => h z (List.mem_cons_of_mem _ hz)) x hx; omega

theorem mem_getD {l : List Int} {x : Int} (h : x ∈ l) : ∃ i, i < l.length ∧ l.getD i 0 = x := by
  obtain ⟨i, hi, e⟩ := List.getElem_of_mem h
  exact ⟨i, hi, by rw [List.getD_eq_getElem?_getD, List.getElem?_eq_getElem hi]; exact e⟩

theorem whole_is (amount : Int) (l : List Int) (hA : inI64 amount) (hw : ∀ x ∈ l, inI64 x) :
    ((shareOf amount l).2 ≠ 0 ∧ (shareOf amount l).1 = []) ∨
    ∃ all, 0 ≤ amount ∧ 0 < all ∧ all < 9223372036854775808 ∧ sums 0 l = (all, 0) ∧ l.length ≤ 64 ∧ (∀ w ∈ l, 0 ≤ w ∧ w ≤ all) ∧ (shareOf amount l).2 = 0 ∧ (shareOf amount l).1.length = l.length ∧ sums 0 (shareOf amount l).1 = (amount, 0) ∧ (∀ x ∈ (shareOf amount l).1, inI64 x) ∧
      ∀ i, i < l.length → (shareOf amount l).1.getD i 0 = amount * l.getD i 0 / all ∨ ((shareOf amount l).1.getD i 0 = amount * l.getD i 0 / all + 1 ∧ l.getD i 0 > 0) := by
  unfold inI64 at hA
  have sI := sums_in l 0 ⟨by decide, by decide⟩
  have sT := sums_total l 0
  unfold shareOf
  by_cases h1 : amount < 0 ∨ (l.length : Int) > 64
  · rw [if_pos h1]; exact Or.inl ⟨by show (1 : Int) ≠ 0; decide, rfl⟩
  · by_cases h2 : ∃ w ∈ l, w < 0
    · rw [if_neg h1, if_pos h2]; exact Or.inl ⟨by show (1 : Int) ≠ 0; decide, rfl⟩
    · by_cases h3 : (sums 0 l).2 = 0
      · by_cases h4 : (sums 0 l).1 = 0
        · rw [if_neg h1, if_neg h2, if_pos h3, if_pos h4]; exact Or.inl ⟨by show (6 : Int) ≠ 0; decide, rfl⟩
        · rw [if_neg h1, if_neg h2, if_pos h3, if_neg h4]
          have hn : ∀ w ∈ l, 0 ≤ w := fun w hw' => by
            by_cases c : w < 0
            · exact absurd ⟨w, hw', c⟩ h2
            · omega
          have hall := sT h3
          rw [Int.zero_add] at hall
          have hp : 0 < (sums 0 l).1 := by have := total_nonneg l hn; omega
          have hS : sums 0 l = ((sums 0 l).1, 0) := Prod.ext rfl h3
          unfold inI64 at sI
          generalize (sums 0 l).1 = all at *
          have hle : ∀ w ∈ l, 0 ≤ w ∧ w ≤ all := fun w hw' => ⟨hn w hw', by rw [hall]; exact le_total l hn w hw'⟩
          have z : amount * all - amount * total l = 0 := by rw [hall]; omega
          obtain ⟨c1, c2, c3, c4⟩ := cuts_left amount all (by omega) (by omega) hp (by omega) l amount hle (by omega) (by omega) (Int.le_refl _)
          rw [z, Int.sub_zero] at c3 c4
          have cl := cuts_len amount all l amount
          generalize (cuts amount all amount l).2 = L at *
          generalize (cuts amount all amount l).1 = p at *
          have L0 : 0 ≤ L := by
            by_cases c : 0 ≤ L
            · exact c
            · have : L * all ≤ -1 * all := Int.mul_le_mul_of_nonneg_right (by omega) (by omega)
              omega
          have hv := heavy_nonneg l
          have L1 : L ≤ heavy l := by
            by_cases c : L ≤ heavy l
            · exact c
            · have g1 : (heavy l + 1) * all ≤ L * all := Int.mul_le_mul_of_nonneg_right (by omega) (by omega)
              have g2 : heavy l * (all - 1) ≤ heavy l * all := Int.mul_le_mul_of_nonneg_left (by omega) hv
              rw [Int.add_mul, Int.one_mul] at g1
              omega
          have pn : ∀ x ∈ p, 0 ≤ x := fun x hx => by
            obtain ⟨i, hi, e⟩ := mem_getD hx
            rw [← e, c1 i (by omega)]
            exact Int.ediv_nonneg (Int.mul_nonneg (by omega) (by
              have : l.getD i 0 ∈ l := by rw [List.getD_eq_getElem?_getD, List.getElem?_eq_getElem (by omega)]; exact List.getElem_mem _
              exact hn _ this)) (by omega)
          have pb := le_total p pn
          have pt := total_nonneg p pn
          obtain ⟨d1, d2⟩ := deal_total l p L cl.symm L0 L1 (by omega) (fun hL x hx => ⟨by have := pn x hx; omega, by have := pb x hx; omega⟩)
          have dl := deal_len l p L cl.symm
          have dT : total (deal L l p) = amount := by omega
          have dn : ∀ x ∈ deal L l p, 0 ≤ x := fun x hx => by
            obtain ⟨i, hi, e⟩ := mem_getD hx
            have hip : i < p.length := by omega
            have : 0 ≤ p.getD i 0 := by
              have : p.getD i 0 ∈ p := by rw [List.getD_eq_getElem?_getD, List.getElem?_eq_getElem hip]; exact List.getElem_mem _
              exact pn _ this
            rcases d2 i (by omega) with g | ⟨g, _⟩ <;> omega
          refine Or.inr ⟨all, by omega, hp, by omega, hS, by omega, hle, rfl, dl, ?_, fun x hx => ⟨by have := dn x hx; omega, by have := le_total _ dn x hx; omega⟩, fun i hi => ?_⟩
          · have := total_sums (deal L l p) 0 (Int.le_refl _) dn (by omega)
            rw [Int.zero_add, dT] at this
            exact this
          · rw [← c1 i hi]
            exact d2 i hi
      · rw [if_neg h1, if_neg h2, if_neg h3]; exact Or.inl ⟨h3, rfl⟩

end Go.Proofs.Ytjbpblcohlainaa.Print
namespace Go.Proofs.Ytjbpblcohlainaa.Pure
open Go.RowKit Go.Proofs.Ytjbpblcohlainaa.Print Go.Proofs.YtjbpblcohlainaaW.PrintWords Go.Proofs.YtjbpblcohlainaaW.PrintLast Go.Pm.Arith

theorem whole_loop (amount all : Int) (l out : List Int) (h0 : 0 ≤ amount) (h1 : amount < 9223372036854775808) (ha : 0 < all) (ha1 : all < 9223372036854775808) (hw : ∀ w ∈ l, 0 ≤ w ∧ w ≤ all) (hl : l.length ≤ 64) (ho : out.length = l.length)
    (hp : ∀ i, i < l.length → out.getD i 0 = amount * l.getD i 0 / all ∨ (out.getD i 0 = amount * l.getD i 0 / all + 1 ∧ l.getD i 0 > 0)) : ∀ (j i : Nat), l.length = i + j →
    Ev (fun k => lombardlaw01_FixnumWhole.l0 k amount l out all (i : Int)) true
  | 0, i, hj => by
    have hi : ¬ (i : Int) < (l.length : Int) := by omega
    exact Ev.step (fun k => by rw [lombardlaw01_FixnumWhole.l0, if_neg hi]) then_awake
  | j + 1, i, hj => by
    have hi : (i : Int) < (l.length : Int) := by omega
    have hio : (i : Int) < (out.length : Int) := by omega
    have hi0 : 0 ≤ (i : Int) := by omega
    have hn := next_is i (by omega)
    have hx : l.getD i 0 ∈ l := by rw [List.getD_eq_getElem?_getD, List.getElem?_eq_getElem (by omega)]; exact List.getElem_mem _
    obtain ⟨w0, w1⟩ := hw _ hx
    have hE := ref_muldiv_is amount (l.getD i 0) all 1 ⟨by omega, h1⟩ ⟨by omega, by omega⟩ ⟨by omega, ha1⟩
    obtain ⟨e, p0, p1⟩ := part_is amount (l.getD i 0) all h0 h1 w0 w1 ha ha1
    rw [e] at hE
    have ih := whole_loop amount all l out h0 h1 ha ha1 hw hl ho hp j (i + 1) (by omega)
    have g := hp i (by omega)
    have zero : l.getD i 0 = 0 → amount * l.getD i 0 / all = 0 := fun h => by rw [h]; simp
    generalize amount * l.getD i 0 / all = n at *
    generalize hwi : l.getD i 0 = w at *
    generalize hoi : out.getD i 0 = o at *
    have c1 : ¬ o < n := by omega
    have c2 : ¬ wrap64 (o - n) > 1 := by unfold wrap64; omega
    refine Ev.step (fun k => by rw [lombardlaw01_FixnumWhole.l0, if_pos hi, if_pos hi0, rd_nat2, hwi]) (Ev.bind hE ?_)
    by_cases c3 : w = 0
    · have c4 : o = 0 := by have := zero c3; omega
      exact Ev.congr (fun k => by rw [if_pos hio, rd_nat2, hoi, if_neg c1, if_neg c2, if_pos c3, if_pos c4, hn]) ih
    · exact Ev.congr (fun k => by rw [if_pos hio, rd_nat2, hoi, if_neg c1, if_neg c2, if_neg c3, hn]) ih

theorem FixnumWhole : lombardlaw01_FixnumWhole.Pure := by
  intro a l wa hl hl8 hw
  have hA := wf_i64 wa
  have hw' : ∀ x ∈ l, inI64 x := fun x hx => wf_i64 (hw x hx)
  obtain ⟨e1, _⟩ := share_is a l hA hw'
  refine Ev.rounds (r := true) (Ev.congr (fun k => by rw [lombardlaw01_FixnumWhole.f]) (Ev.bind e1 ?_))
  rcases whole_is a l hA hw' with ⟨h1, h2⟩ | ⟨all, g0, g1, g2, g3, g4, g5, g6, g7, g8, hin, g9⟩
  · have c : (((shareOf a l).1).length : Int) = 0 := by rw [h2]; rfl
    exact Ev.congr (fun k => by rw [if_neg h1, if_pos c]) then_awake
  · have s1 := (sum_is l hw' (by omega)).2
    rw [g3] at s1
    have s2 := (sum_is (shareOf a l).1 hin (by omega)).2
    rw [g8] at s2
    have c7 : (((shareOf a l).1.length : Int) != (l.length : Int)) = false := by rw [g7]; simp
    refine Ev.congr (fun k => by rw [if_pos g6]) (Ev.bind s1 (Ev.bind s2 ?_))
    refine Ev.congr (fun k => by rw [if_pos rfl, if_pos rfl, if_pos rfl, c7]) ?_
    exact Ev.step (fun k => by rw [lombardlaw01_FixnumWhole.j0, if_neg (by decide)]; rfl) (whole_loop a all l (shareOf a l).1 g0 hA.2 g1 g2 g5 g4 g7 g9 l.length 0 (by omega))

end Go.Proofs.Ytjbpblcohlainaa.Pure
