/- The plain statement of LegDays: all that is due on every day, each member's part of it, and in order. -/
import Derived.Test.YtlgfdldonoaahaaPuLegs25
import Derived.Test.YtlgfdldonoaahaaGx11
namespace Go.Proofs.Ytlgfdldonoaahaa
open Go Go.Pm Go.Pm.Arith Go.Pm.Big
set_option linter.unusedVariables false
set_option linter.unusedSimpArgs false

abbrev Cov := lombardref25_Covered
def cv (x : Cov) : leg_Covered := ⟨x.Trade, x.Lots⟩
theorem nth_cv (l : List Cov) (i : Nat) (h : i < l.length) : nth (l.map cv) (i : Int) = cv (nth l (i : Int)) := by
  show (l.map cv).getD (Int.toNat (i : Int)) default = cv (l.getD (Int.toNat (i : Int)) default)
  rw [Int.toNat_natCast, List.getD_eq_getElem?_getD, List.getD_eq_getElem?_getD, List.getElem?_map, List.getElem?_eq_getElem h]; rfl
theorem nth_mem (l : List Cov) (i : Nat) (h : i < l.length) : nth l (i : Int) ∈ l := by
  show l.getD (Int.toNat (i : Int)) default ∈ l
  rw [Int.toNat_natCast, List.getD_eq_getElem?_getD, List.getElem?_eq_getElem h]; exact List.getElem_mem h

/-- All that are short, as the program's. -/
theorem own_loop (l : List Cov) (few : l.length ≤ 80) : ∀ (j i : Nat), l.length = i + j →
    loop (lombardlaw25_LegDays.r0 l) ((i : Int), (l.take i).map cv) = some (.inl true) ∨ loop (lombardlaw25_LegDays.r0 l) ((i : Int), (l.take i).map cv) = some (.inr (l.map cv))
  | 0, i, h => by
    right
    rw [List.take_of_length_le (by omega)]
    refine loop_end ?_
    unfold lombardlaw25_LegDays.r0 lombardlaw25_LegDays.b0
    rw [if_neg (by simp; omega)]
  | j + 1, i, h => by
    have g : (0 : Int) ≤ (i : Int) ∧ (i : Int) < (l.length : Int) := by omega
    have tn : (l.take (i + 1)).map cv = (l.take i).map cv ++ [cv (nth l (i : Int))] := by
      have : l.take (i + 1) = l.take i ++ [nth l (i : Int)] := by
        show _ = l.take i ++ [l.getD (Int.toNat (i : Int)) default]
        rw [Int.toNat_natCast, List.take_add_one, List.getElem?_eq_getElem (by omega), List.getD_eq_getElem?_getD, List.getElem?_eq_getElem (by omega)]; rfl
      rw [this, List.map_append]; rfl
    obtain ⟨t, ht⟩ : ∃ t, lombardlaw25_short.f (⟨((nth l (i : Int)).Trade), (nth l (i : Int)).Lots⟩ : Cov) = some t := ⟨_, rfl⟩
    cases t with
    | false =>
      left
      refine loop_end ?_
      unfold lombardlaw25_LegDays.r0 lombardlaw25_LegDays.b0
      dsimp only
      rw [if_pos (decide_eq_true g.2), if_pos g, ht, Option.bind_some, if_pos (by rfl), awake_is]
      rfl
    | true =>
      have st : lombardlaw25_LegDays.r0 l ((i : Int), (l.take i).map cv) = some (.inl (((i + 1 : Nat) : Int), (l.take (i + 1)).map cv)) := by
        have of_is : lombardlaw25_of.f (⟨((nth l (i : Int)).Trade), (nth l (i : Int)).Lots⟩ : Cov) = some (cv (nth l (i : Int))) := rfl
        unfold lombardlaw25_LegDays.r0 lombardlaw25_LegDays.b0
        dsimp only
        rw [if_pos (decide_eq_true g.2), if_pos g, ht, Option.bind_some, if_neg (by decide), if_pos g, of_is, Option.bind_some, if_pos (by simp only [List.length_map, List.length_take, List.length_singleton]; omega), sw_nx i (by omega), tn]
      rw [loop_next st]
      exact own_loop l few j (i + 1) (by omega)

/-- What is due on a day. -/
theorem on_loop (l : List Cov) (day : Int) (hb : ∀ x ∈ l, lombardref25_Covered.bd x) (few : l.length ≤ 80) : ∀ (j i : Nat) (out : List api_Leg), l.length = i + j → out.length ≤ i → Few out →
    (∃ e : Int, loop (leg_On.r0 (l.map cv) day) ((i : Int), out) = some (.inl ([], e)) ∧ loop (lombardref25_On.r0 l day) ((i : Int), out) = some (.inl ([], e))) ∨
    (∃ out', out'.length ≤ l.length ∧ Few out' ∧ loop (leg_On.r0 (l.map cv) day) ((i : Int), out) = some (.inr out') ∧ loop (lombardref25_On.r0 l day) ((i : Int), out) = some (.inr out'))
  | 0, i, out, h, ho, hf => by
    right
    refine ⟨out, by omega, hf, loop_end ?_, loop_end ?_⟩
    · unfold leg_On.r0 leg_On.b0
      rw [if_neg (by simp; omega)]
    · unfold lombardref25_On.r0 lombardref25_On.b0
      rw [if_neg (by simp; omega)]
  | j + 1, i, out, h, ho, hf => by
    have hi : i < l.length := by omega
    have g : (0 : Int) ≤ (i : Int) ∧ (i : Int) < (l.length : Int) := by omega
    have g' : (0 : Int) ≤ (i : Int) ∧ (i : Int) < ((l.map cv).length : Int) := by rw [List.length_map]; omega
    have nc := nth_cv l i hi
    have bx := hb _ (nth_mem l i hi)
    obtain ⟨x, hx⟩ : ∃ x, nth l (i : Int) = x := ⟨_, rfl⟩
    rw [hx] at nc bx
    have hl : x.Lots.length < 100000000000000 := by have := bx.2.1.1; unfold reach at this; omega
    obtain ⟨b1, b2⟩ := begin_is x bx
    obtain ⟨e1, e2⟩ := end_is x bx
    have b1' : leg_Covered_Begin.f (⟨(cv x).Trade, (cv x).Lots⟩ : leg_Covered) = some (beginOf x) := b1
    have e1' : leg_Covered_End.f (⟨(cv x).Trade, (cv x).Lots⟩ : leg_Covered) = some (endOf x) := e1
    have b2' : lombardref25_Begin.f (⟨x.Trade, x.Lots⟩ : Cov) = some (beginOf x) := b2
    have e2' : lombardref25_End.f (⟨x.Trade, x.Lots⟩ : Cov) = some (endOf x) := e2
    have w := sw_nx i (by omega)
    obtain ⟨B, hB⟩ : ∃ B : Bool, ((x.Trade.Stage == 1) && (x.Trade.Start == day)) = B := ⟨_, rfl⟩
    obtain ⟨E, hE⟩ : ∃ E : Bool, ((((x.Trade.Stage == 2) || (x.Trade.Stage == 3)) && (x.Trade.End == day)) && (decide (day > 0))) = E := ⟨_, rfl⟩
    have bg : leg_begins.f (cv x).Trade day = some B := by rw [← hB]; rfl
    have en : leg_ends.f (cv x).Trade day = some E := by rw [← hE]; rfl
    have lv : lombardref24_Live.f x.Trade = some ((x.Trade.Stage == 2) || (x.Trade.Stage == 3)) := rfl
    cases B with
    | true =>
      have E0 : E = false := by
        rw [Bool.and_eq_true, beq_iff_eq] at hB
        rw [← hE, hB.1]; rfl
      subst E0
      by_cases z : (beginOf x).2 = 0
      · have s1 : leg_On.r0 (l.map cv) day ((i : Int), out) = some (.inl (((i + 1 : Nat) : Int), out ++ [(beginOf x).1])) := by
          unfold leg_On.r0 leg_On.b0
          dsimp only
          rw [if_pos (decide_eq_true g'.2), if_pos g', nc, bg, Option.bind_some, if_pos rfl, b1', Option.bind_some, if_neg (by simpa using z), if_pos (by simp only [List.length_singleton]; omega), w]
        have s2 : lombardref25_On.r0 l day ((i : Int), out) = some (.inl (((i + 1 : Nat) : Int), out ++ [(beginOf x).1])) := by
          unfold lombardref25_On.r0 lombardref25_On.b0
          dsimp only
          rw [if_pos (decide_eq_true g.2), hx, if_pos g, hB, if_pos rfl, if_pos g, b2', Option.bind_some, if_neg (by simpa using z), if_pos (by simp only [List.length_singleton]; omega), Option.bind_some]
          dsimp only
          rw [lv, Option.bind_some, hE, if_neg (by decide), w]
        rw [loop_next s1, loop_next s2]
        exact on_loop l day hb few j (i + 1) _ (by omega) (by simp; omega) (fun y hy => by
          rcases List.mem_append.1 hy with hy | hy
          · exact hf y hy
          · rw [List.mem_singleton.1 hy]; exact begin_len x hl)
      · left
        refine ⟨(beginOf x).2, loop_end ?_, loop_end ?_⟩
        · unfold leg_On.r0 leg_On.b0
          dsimp only
          rw [if_pos (decide_eq_true g'.2), if_pos g', nc, bg, Option.bind_some, if_pos rfl, b1', Option.bind_some, if_pos (by simpa using z)]
        · unfold lombardref25_On.r0 lombardref25_On.b0
          dsimp only
          rw [if_pos (decide_eq_true g.2), hx, if_pos g, hB, if_pos rfl, if_pos g, b2', Option.bind_some, if_pos (by simpa using z), Option.bind_some]
    | false =>
      cases E with
      | true =>
        by_cases z : (endOf x).2 = 0
        · have s1 : leg_On.r0 (l.map cv) day ((i : Int), out) = some (.inl (((i + 1 : Nat) : Int), out ++ [(endOf x).1])) := by
            unfold leg_On.r0 leg_On.b0
            dsimp only
            rw [if_pos (decide_eq_true g'.2), if_pos g', nc, bg, Option.bind_some, if_neg (by decide), en, Option.bind_some, if_pos rfl, e1', Option.bind_some, if_neg (by simpa using z), if_pos (by simp only [List.length_singleton]; omega), w]
          have s2 : lombardref25_On.r0 l day ((i : Int), out) = some (.inl (((i + 1 : Nat) : Int), out ++ [(endOf x).1])) := by
            unfold lombardref25_On.r0 lombardref25_On.b0
            dsimp only
            rw [if_pos (decide_eq_true g.2), hx, if_pos g, hB, if_neg (by decide), Option.bind_some]
            dsimp only
            rw [lv, Option.bind_some, hE, if_pos rfl, if_pos g, e2', Option.bind_some, if_neg (by simpa using z), if_pos (by simp only [List.length_singleton]; omega), w]
          rw [loop_next s1, loop_next s2]
          exact on_loop l day hb few j (i + 1) _ (by omega) (by simp; omega) (fun y hy => by
            rcases List.mem_append.1 hy with hy | hy
            · exact hf y hy
            · rw [List.mem_singleton.1 hy]; exact end_len x hl)
        · left
          refine ⟨(endOf x).2, loop_end ?_, loop_end ?_⟩
          · unfold leg_On.r0 leg_On.b0
            dsimp only
            rw [if_pos (decide_eq_true g'.2), if_pos g', nc, bg, Option.bind_some, if_neg (by decide), en, Option.bind_some, if_pos rfl, e1', Option.bind_some, if_pos (by simpa using z)]
          · unfold lombardref25_On.r0 lombardref25_On.b0
            dsimp only
            rw [if_pos (decide_eq_true g.2), hx, if_pos g, hB, if_neg (by decide), Option.bind_some]
            dsimp only
            rw [lv, Option.bind_some, hE, if_pos rfl, if_pos g, e2', Option.bind_some, if_pos (by simpa using z)]
      | false =>
        have s1 : leg_On.r0 (l.map cv) day ((i : Int), out) = some (.inl (((i + 1 : Nat) : Int), out)) := by
          unfold leg_On.r0 leg_On.b0
          dsimp only
          rw [if_pos (decide_eq_true g'.2), if_pos g', nc, bg, Option.bind_some, if_neg (by decide), en, Option.bind_some, if_neg (by decide), w]
        have s2 : lombardref25_On.r0 l day ((i : Int), out) = some (.inl (((i + 1 : Nat) : Int), out)) := by
          unfold lombardref25_On.r0 lombardref25_On.b0
          dsimp only
          rw [if_pos (decide_eq_true g.2), hx, if_pos g, hB, if_neg (by decide), Option.bind_some]
          dsimp only
          rw [lv, Option.bind_some, hE, if_neg (by decide), w]
        rw [loop_next s1, loop_next s2]
        exact on_loop l day hb few j (i + 1) out (by omega) (by omega) hf

theorem on_is (l : List Cov) (day : Int) (hb : ∀ x ∈ l, lombardref25_Covered.bd x) (few : l.length ≤ 80) : ∃ r : List api_Leg × Int, r.1.length ≤ 80 ∧ Few r.1 ∧ leg_On.f (l.map cv) day = some r ∧ lombardref25_On.f l day = some r := by
  obtain ⟨t, t1, t2⟩ : ∃ t : Bool, calendar_Good.f day = some t ∧ lombardref02_Good.f day = some t := ⟨_, rfl, rfl⟩
  have none_few : Few [] := fun x hx => by cases hx
  unfold leg_On.f lombardref25_On.f
  rw [t1, t2, Option.bind_some, Option.bind_some]
  cases t with
  | false =>
    rw [if_pos (by rfl), if_pos (by rfl)]
    exact ⟨([], 10), by decide, none_few, rfl, rfl⟩
  | true =>
    rw [if_neg (by decide), if_neg (by decide)]
    rcases on_loop l day hb few l.length 0 [] (by omega) (by simp) none_few with ⟨e, e1, e2⟩ | ⟨out, o1, o2, e1, e2⟩
    · have e1' : loop (leg_On.r0 (l.map cv) day) (0, []) = _ := e1
      have e2' : loop (lombardref25_On.r0 l day) (0, []) = _ := e2
      rw [e1', e2']
      exact ⟨([], e), by simp, none_few, rfl, rfl⟩
    · have e1' : loop (leg_On.r0 (l.map cv) day) (0, []) = _ := e1
      have e2' : loop (lombardref25_On.r0 l day) (0, []) = _ := e2
      rw [e1', e2']
      exact ⟨(out, 0), by show out.length ≤ 80; omega, o2, rfl, rfl⟩

/-- One member's part. -/
theorem part_loop (l : List api_Leg) (m : Int) (few : l.length ≤ 80) (hf : Few l) : ∀ (j i : Nat) (out : List api_Leg), l.length = i + j → out.length ≤ i → Few out →
    ∃ out', out'.length ≤ l.length ∧ Few out' ∧ loop (leg_Of.r0 l m) ((i : Int), out) = some out' ∧ loop (lombardref25_Of.r0 l m) ((i : Int), out) = some out'
  | 0, i, out, h, ho, hf2 => ⟨out, by omega, hf2, loop_end (by unfold leg_Of.r0 leg_Of.b0; rw [if_neg (by simp; omega)]), loop_end (by unfold lombardref25_Of.r0 lombardref25_Of.b0; rw [if_neg (by simp; omega)])⟩
  | j + 1, i, out, h, ho, hf2 => by
    have g : (0 : Int) ≤ (i : Int) ∧ (i : Int) < (l.length : Int) := by omega
    have w := sw_nx i (by omega)
    have mem : nth l (i : Int) ∈ l := by
      show l.getD (Int.toNat (i : Int)) default ∈ l
      rw [Int.toNat_natCast, List.getD_eq_getElem?_getD, List.getElem?_eq_getElem (by omega : i < l.length)]; exact List.getElem_mem _
    by_cases c : ((nth l (i : Int)).Member == m) = true
    · have s1 : leg_Of.r0 l m ((i : Int), out) = some (.inl (((i + 1 : Nat) : Int), out ++ [nth l (i : Int)])) := by
        unfold leg_Of.r0 leg_Of.b0
        dsimp only
        rw [if_pos (decide_eq_true g.2), if_pos g, if_pos c, if_pos (by simp only [List.length_singleton]; omega), w]
      have s2 : lombardref25_Of.r0 l m ((i : Int), out) = some (.inl (((i + 1 : Nat) : Int), out ++ [nth l (i : Int)])) := by
        unfold lombardref25_Of.r0 lombardref25_Of.b0
        dsimp only
        rw [if_pos (decide_eq_true g.2), if_pos g, if_pos c, if_pos g, if_pos (by simp only [List.length_singleton]; omega), w]
      rw [loop_next s1, loop_next s2]
      exact part_loop l m few hf j (i + 1) _ (by omega) (by simp; omega) (fun y hy => by
        rcases List.mem_append.1 hy with hy | hy
        · exact hf2 y hy
        · rw [List.mem_singleton.1 hy]; exact hf _ mem)
    · have s1 : leg_Of.r0 l m ((i : Int), out) = some (.inl (((i + 1 : Nat) : Int), out)) := by
        unfold leg_Of.r0 leg_Of.b0
        dsimp only
        rw [if_pos (decide_eq_true g.2), if_pos g, if_neg c, w]
      have s2 : lombardref25_Of.r0 l m ((i : Int), out) = some (.inl (((i + 1 : Nat) : Int), out)) := by
        unfold lombardref25_Of.r0 lombardref25_Of.b0
        dsimp only
        rw [if_pos (decide_eq_true g.2), if_pos g, if_neg c, w]
      rw [loop_next s1, loop_next s2]
      exact part_loop l m few hf j (i + 1) out (by omega) (by omega) hf2

theorem part_is (l : List api_Leg) (m : Int) (few : l.length ≤ 80) (hf : Few l) : ∃ out, out.length ≤ 80 ∧ Few out ∧ leg_Of.f l m = some out ∧ lombardref25_Of.f l m = some out := by
  obtain ⟨out, o1, o2, o3, o4⟩ := part_loop l m few hf l.length 0 [] (by omega) (by simp) (fun x hx => by cases hx)
  have o3' : loop (leg_Of.r0 l m) (0, []) = some out := o3
  have o4' : loop (lombardref25_Of.r0 l m) (0, []) = some out := o4
  exact ⟨out, by omega, o2, by unfold leg_Of.f; rw [o3']; rfl, by unfold lombardref25_Of.f; rw [o4']; rfl⟩

theorem Pure.LegDays : ∀ (x0 : List lombardref25_Covered) (x1 : Int) (x2 : Int), (x0.length * 128 ≤ reach ∧ ∀ y ∈ x0, lombardref25_Covered.bd y) → (inK .i64 x1) → (inK .i64 x2) → lombardlaw25_LegDays.f x0 x1 x2 = some true := by
  intro l day m hl _ _
  unfold lombardlaw25_LegDays.f
  by_cases c : l.length ≤ 80
  · rw [if_neg (by simp; omega)]
    rcases own_loop l c l.length 0 (by omega) with e | e
    · have e' : loop (lombardlaw25_LegDays.r0 l) (0, []) = _ := e
      rw [e']; rfl
    · have e' : loop (lombardlaw25_LegDays.r0 l) (0, []) = _ := e
      obtain ⟨r, r1, r2, r3, r4⟩ := on_is l day hl.2 c
      obtain ⟨o, o1, o2, o3, o4⟩ := part_is r.1 m r1 r2
      obtain ⟨M, m1, m2, m3, m4⟩ := orders r.1 (by omega)
      have fM : Few M := fun x hx => r2 x (m4 x hx)
      rw [e', Option.bind_some]
      dsimp only
      rw [r3, Option.bind_some, r4, Option.bind_some, legs_same r.1 r2 (by omega), Option.bind_some, beq_self_eq_true]
      have tt : (true && true) = true := rfl
      rw [if_pos tt, o3, Option.bind_some, if_pos tt, o4, Option.bind_some, if_pos tt, legs_same o o2 (by omega), Option.bind_some]
      have t3 : (true && true && true) = true := rfl
      rw [if_pos t3, m1, Option.bind_some, if_pos t3, m2, Option.bind_some, if_pos t3, legs_same M fM (by omega), Option.bind_some]
      have t4 : (true && true && true && true) = true := rfl
      rw [if_pos t4]
      rw [awake_is]
      rfl
  · rw [if_pos (by simp; omega), awake_is]
    rfl
end Go.Proofs.Ytlgfdldonoaahaa

