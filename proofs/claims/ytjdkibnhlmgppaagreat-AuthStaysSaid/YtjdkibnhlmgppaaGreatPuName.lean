/- Shows that the check of a name is the document's. -/
import Derived.Test.YtjdkibnhlmgppaaGreatPuSign
import Derived.Test.YtjdkibnhlmgppaaGreatGx1
import Derived.Test.YtjdkibnhlmgppaaGreatGx0
namespace Go.Proofs.YtjdkibnhlmgppaaGreat
open Go Go.Pm Go.Pm.Arith
set_option linter.unusedVariables false
set_option linter.unusedSimpArgs false

/-- The signs from a place on, and where each begins. -/
def sfrom (s : Bs) : Nat → Nat → List (Int × Nat)
  | 0, _ => []
  | n + 1, p => if p < s.length then (nextC s p, p) :: sfrom s n (nextP s p) else []

theorem sfrom_more (s : Bs) : ∀ (n m p : Nat), s.length ≤ p + n → s.length ≤ p + m → sfrom s n p = sfrom s m p
  | 0, 0, p, _, _ => rfl
  | 0, m + 1, p, h, _ => by simp only [sfrom]; rw [if_neg (by omega)]
  | n + 1, 0, p, _, h => by simp only [sfrom]; rw [if_neg (by omega)]
  | n + 1, m + 1, p, h1, h2 => by
    simp only [sfrom]
    by_cases c : p < s.length
    · rw [if_pos c, if_pos c]
      have := nextP_is s p c
      rw [sfrom_more s n m (nextP s p) (by omega) (by omega)]
    · rw [if_neg c, if_neg c]

theorem sfrom_len (s : Bs) : ∀ (n p : Nat), (sfrom s n p).length ≤ n
  | 0, p => Nat.le_refl _
  | n + 1, p => by
    simp only [sfrom]
    split
    · have := sfrom_len s n (nextP s p); simp; omega
    · simp

theorem signs_loop (s : Bs) (few : s.length ≤ 100000) : ∀ (n p : Nat) (ok : Bool) (L Q : List Int), s.length ≤ p + n → p ≤ 200000 → L.length ≤ p → Q.length ≤ p →
    ∃ ok', loop (lombardref04_Signs.r0 s) (ok, (p : Int), L, Q) = some (ok', L ++ (sfrom s n p).map (·.1), Q ++ (sfrom s n p).map (fun x => ((x.2 : Nat) : Int)))
  | n, p, ok, L, Q, h, hp, hL, hQ => by
    by_cases c : p < s.length
    · obtain ⟨n, rfl⟩ : ∃ m, n = m + 1 := ⟨n - 1, by omega⟩
      have np := nextP_is s p c
      have nc := nextC_is s p c
      have key : ∃ ok', lombardref04_Signs.r0 s (ok, (p : Int), L, Q) = some (.inl (ok', ((nextP s p : Nat) : Int), L ++ [nextC s p], Q ++ [(p : Int)])) := by
        unfold lombardref04_Signs.r0 lombardref04_Signs.b0
        simp only
        rw [if_pos (decide_eq_true (by omega)), sign_is s p (by omega), Option.bind_some, if_pos (by simp only [List.length_singleton]; omega), if_pos (by simp only [List.length_singleton]; omega), ← nc, i64_idz _ (by omega) (by omega), ← np.2.2]
        exact ⟨_, rfl⟩
      obtain ⟨ok', key⟩ := key
      obtain ⟨ok2, e⟩ := signs_loop s few n (nextP s p) ok' (L ++ [nextC s p]) (Q ++ [(p : Int)]) (by omega) (by omega) (by simp; omega) (by simp; omega)
      refine ⟨ok2, ?_⟩
      rw [loop_next key, e]
      simp only [sfrom]
      rw [if_pos c]
      simp
    · refine ⟨ok, ?_⟩
      have e : sfrom s n p = [] := by
        cases n with
        | zero => rfl
        | succ n => simp only [sfrom]; rw [if_neg c]
      rw [e]
      simp only [List.map_nil, List.append_nil]
      refine loop_end ?_
      unfold lombardref04_Signs.r0 lombardref04_Signs.b0
      simp only
      rw [if_neg (by simp; omega)]
termination_by n => n

/-- All signs of a text. -/
def signs (s : Bs) : List (Int × Nat) := sfrom s s.length 0
theorem signs_is (s : Bs) (few : s.length ≤ 100000) : ∃ ok, lombardref04_Signs.f s = some ((signs s).map (·.1), (signs s).map (fun x => ((x.2 : Nat) : Int)), ok) := by
  obtain ⟨ok, e⟩ := signs_loop s few s.length 0 true [] [] (by omega) (by omega) (by simp) (by simp)
  have e' : loop (lombardref04_Signs.r0 s) (true, 0, [], []) = _ := e
  unfold lombardref04_Signs.f
  rw [e']
  exact ⟨ok, rfl⟩

def lt (c : Int) : Bool := ((decide (c ≥ 97) && decide (c ≤ 122)) || (decide (c ≥ 65) && decide (c ≤ 90))) || (((decide (c ≥ 192) && decide (c ≤ 383)) && (c != 215)) && (c != 247))
def dg4 (c : Int) : Bool := decide (c ≥ 48) && decide (c ≤ 57)
def jt (c : Int) : Bool := (((((c == 32) || (c == 45)) || (c == 46)) || (c == 38)) || (c == 39))

theorem letter_is (c : Int) : name_letter.f c = some (lt c) ∧ lombardref04_letter.f c = some (lt c) := by
  refine ⟨?_, rfl⟩
  unfold name_letter.f lt
  by_cases h1 : (decide (c ≥ 97) && decide (c ≤ 122)) = true
  · rw [if_pos h1, h1]; rfl
  · rw [if_neg h1, Option.bind_some, Bool.eq_false_iff.2 h1]
    by_cases h2 : (decide (c ≥ 65) && decide (c ≤ 90)) = true
    · rw [if_pos h2, h2]; rfl
    · rw [if_neg h2, Bool.eq_false_iff.2 h2]
      by_cases h3 : c = 215
      · subst h3; rfl
      · by_cases h4 : c = 247
        · subst h4; rfl
        · have e1 : (c != 215) = true := by simp [h3]
          have e2 : (c != 247) = true := by simp [h4]
          rw [if_neg (by simp [h3, h4]), e1, e2]
          simp
theorem digit4_is (c : Int) : name_digit.f c = some (dg4 c) ∧ lombardref04_digit.f c = some (dg4 c) := ⟨rfl, rfl⟩
theorem joint_is (c : Int) : name_joint.f c = some (jt c) ∧ lombardref04_joint.f c = some (jt c) := by
  refine ⟨?_, rfl⟩
  unfold name_joint.f jt
  repeat' split
  all_goals simp_all

/-- Is a sign no sign of a name there? z: it is the first one; u: the one ahead of it. -/
def bad (z : Bool) (c u : Int) : Bool := ((!lt c) && (z || ((!dg4 c) && (!jt c)))) || ((!z) && (c == 32) && jt u && (u != 46) && (u != 38))

theorem bad_name (z : Bool) (c u : Int) (hz : z = true → u = 32) : (((!lt c) && (!dg4 c)) && (!jt c)) = true ∨ ((z && (!lt c)) || (((((c == 32) && jt u) && (u != 46)) && (u != 38)))) = true ↔ bad z c u = true := by
  unfold bad
  cases z
  · simp only [Bool.false_and, Bool.false_or, Bool.not_false, Bool.true_and, Bool.or_eq_true]
    simp only [Bool.and_assoc]
  · have := hz rfl
    subst this
    by_cases h : c = 32
    · subst h; decide
    · have e : (c == 32) = false := by simpa using h
      rw [e]
      cases lt c <;> cases dg4 c <;> cases jt c <;> simp

theorem name_step (s : Bs) (i p : Nat) (u : Int) (hp : p < s.length) (hi : i ≤ 1000) (hz : i = 0 → u = 32) :
    name_Check.r0 s ((i : Int), u, p) = if i = 40 then some (.inr (.inl ((p : Int), 2))) else if bad (i == 0) (nextC s p) u = true then some (.inr (.inl ((p : Int), 11))) else some (.inl (((i + 1 : Nat) : Int), nextC s p, nextP s p)) := by
  have hok : nextOk s p = true := decide_eq_true hp
  have ez : ((i : Int) == 0) = (i == 0) := by
    by_cases h : i = 0
    · rw [h]; rfl
    · have : ¬ (i : Int) = 0 := by omega
      rw [beq_eq_false_iff_ne.2 this, beq_eq_false_iff_ne.2 h]
  unfold name_Check.r0 name_Check.b0
  simp only
  rw [if_pos hok, if_pos hok, if_pos hok, ez]
  by_cases c40 : i = 40
  · rw [if_pos (by rw [c40]; rfl), if_pos c40]
  · rw [if_neg (by simp; omega), if_neg c40, i64_nx i (by omega)]
    generalize nextC s p = c
    have l1 : ∀ c, name_letter.f c = some (lt c) := fun c => (letter_is c).1
    have l2 : ∀ c, name_digit.f c = some (dg4 c) := fun c => (digit4_is c).1
    have l3 : ∀ c, name_joint.f c = some (jt c) := fun c => (joint_is c).1
    simp only [l1, l2, l3, Option.bind_some]
    have hb := bad_name (i == 0) c u (fun h => hz (by simpa using h))
    generalize (i == 0) = z at hb
    by_cases h1 : (((!lt c) && (!dg4 c)) && (!jt c)) = true
    · have e := hb.1 (.inl h1)
      rw [if_pos e]
      have h1' := h1
      simp only [Bool.and_eq_true, Bool.not_eq_true'] at h1'
      simp [h1'.1.1, h1'.1.2, h1'.2]
    · by_cases h2 : ((z && (!lt c)) || (((((c == 32) && jt u) && (u != 46)) && (u != 38)))) = true
      · have e := hb.1 (.inr h2)
        rw [if_pos e]
        cases hl : lt c <;> cases hd : dg4 c <;> cases hj : jt c <;> cases z <;> cases hu : jt u <;> cases hs : (c == 32) <;> simp_all
      · have e : ¬ bad z c u = true := fun h => (hb.2 h).elim h1 h2
        rw [if_neg e]
        cases hl : lt c <;> cases hd : dg4 c <;> cases hj : jt c <;> cases z <;> cases hu : jt u <;> cases hs : (c == 32) <;> simp_all

theorem ref_step (l : List (Int × Nat)) (ok : Bool) (i : Nat) (hi : i < l.length) (few : l.length ≤ 1000) :
    lombardref04_Check.r0 (l.map (·.1), l.map (fun x => ((x.2 : Nat) : Int)), ok) (i : Int) = if i = 40 then some (.inr (.inl ((((l.getD i (0, 0)).2 : Nat) : Int), 2))) else
      if bad (i == 0) (l.getD i (0, 0)).1 (if i = 0 then 32 else (l.getD (i - 1) (0, 0)).1) = true then some (.inr (.inl ((((l.getD i (0, 0)).2 : Nat) : Int), 11))) else some (.inl ((i + 1 : Nat) : Int)) := by
  have l1 : ∀ c, lombardref04_letter.f c = some (lt c) := fun c => (letter_is c).2
  have l2 : ∀ c, lombardref04_digit.f c = some (dg4 c) := fun c => (digit4_is c).2
  have l3 : ∀ c, lombardref04_joint.f c = some (jt c) := fun c => (joint_is c).2
  have n1 : ∀ k : Nat, k < l.length → nth (l.map (·.1)) (k : Int) = (l.getD k (0, 0)).1 := fun k hk => by
    show (l.map (·.1)).getD k default = _
    rw [List.getD_eq_getElem?_getD, List.getElem?_map, List.getD_eq_getElem?_getD, List.getElem?_eq_getElem hk]; rfl
  have n2 : ∀ k : Nat, k < l.length → nth (l.map (fun x => ((x.2 : Nat) : Int))) (k : Int) = (((l.getD k (0, 0)).2 : Nat) : Int) := fun k hk => by
    show (l.map (fun x => ((x.2 : Nat) : Int))).getD k default = _
    rw [List.getD_eq_getElem?_getD, List.getElem?_map, List.getD_eq_getElem?_getD, List.getElem?_eq_getElem hk]; rfl
  have g : (0 : Int) ≤ (i : Int) ∧ (i : Int) < ((l.map (fun x : Int × Nat => x.1)).length : Int) := by rw [List.length_map]; omega
  have g2 : (0 : Int) ≤ (i : Int) ∧ (i : Int) < ((l.map (fun x : Int × Nat => ((x.2 : Nat) : Int))).length : Int) := by rw [List.length_map]; omega
  have ez : ((i : Int) == 0) = (i == 0) := by
    by_cases h : i = 0
    · rw [h]; rfl
    · have : ¬ (i : Int) = 0 := by omega
      rw [beq_eq_false_iff_ne.2 this, beq_eq_false_iff_ne.2 h]
  have ep : decide ((i : Int) > 0) = !(i == 0) := by
    by_cases h : i = 0
    · rw [h]; rfl
    · rw [beq_eq_false_iff_ne.2 h, decide_eq_true (by omega)]; rfl
  unfold lombardref04_Check.r0 lombardref04_Check.b0
  simp only [l1, l2, l3, Option.bind_some]
  rw [if_pos (decide_eq_true g.2), if_pos g, if_pos g2, n1 i hi, n2 i hi, ez, ep]
  by_cases c40 : i = 40
  · rw [if_pos (by rw [c40]; rfl), if_pos c40]
  · rw [if_neg (by simp; omega), if_neg c40, i64_nx i (by omega)]
    by_cases z : i = 0
    · subst z
      generalize (l.getD 0 (0, 0)).1 = c
      generalize (((l.getD 0 (0, 0)).2 : Nat) : Int) = q
      have e : ∀ u, bad (0 == 0) c u = !lt c := fun u => by
        unfold bad
        simp
      rw [e, if_pos g2]
      have z : ((0 : Nat) == 0) = true := rfl
      rw [z]
      cases lt c <;> simp
    · have e0 : (i == 0) = false := beq_eq_false_iff_ne.2 z
      have w : IntKind.wrap .i64 ((i : Int) - 1) = ((i - 1 : Nat) : Int) := by rw [i64_idz _ (by omega) (by omega)]; omega
      have gp : (0 : Int) ≤ ((i - 1 : Nat) : Int) ∧ ((i - 1 : Nat) : Int) < ((l.map (fun x : Int × Nat => x.1)).length : Int) := by rw [List.length_map]; omega
      rw [w, n1 (i - 1) (by omega), if_neg z, e0]
      generalize (l.getD i (0, 0)).1 = c
      generalize (l.getD (i - 1) (0, 0)).1 = u
      generalize (((l.getD i (0, 0)).2 : Nat) : Int) = q
      have e : bad false c u = (((!lt c) && ((!dg4 c) && (!jt c))) || ((c == 32) && jt u && (u != 46) && (u != 38))) := by unfold bad; simp
      rw [e]
      cases hl : lt c <;> cases hd : dg4 c <;> cases hj : jt c <;> cases hu : jt u <;> cases hs : (c == 32) <;> simp_all

/-- Both walk on from a place, and end alike. -/
theorem name_both (s : Bs) (few : s.length ≤ 160) (ok : Bool) : ∀ (n p i : Nat), s.length ≤ p + n → (signs s).drop i = sfrom s n p → i ≤ 40 → i ≤ (signs s).length →
    (∃ r : Int × Int, loop (name_Check.r0 s) ((i : Int), (if i = 0 then 32 else ((signs s).getD (i - 1) (0, 0)).1), p) = some (.inl r) ∧ loop (lombardref04_Check.r0 ((signs s).map (·.1), (signs s).map (fun x => ((x.2 : Nat) : Int)), ok)) (i : Int) = some (.inl r)) ∨
    (loop (name_Check.r0 s) ((i : Int), (if i = 0 then 32 else ((signs s).getD (i - 1) (0, 0)).1), p) = some (.inr (((signs s).length : Int), (if (signs s).length = 0 then 32 else ((signs s).getD ((signs s).length - 1) (0, 0)).1))) ∧
      loop (lombardref04_Check.r0 ((signs s).map (·.1), (signs s).map (fun x => ((x.2 : Nat) : Int)), ok)) (i : Int) = some (.inr ()))
  | n, p, i, h, hd, hi, hL => by
    have sl := sfrom_len s s.length 0
    have sl : (signs s).length ≤ 160 := by unfold signs; omega
    by_cases c : p < s.length
    · obtain ⟨n, rfl⟩ : ∃ m, n = m + 1 := ⟨n - 1, by omega⟩
      simp only [sfrom] at hd
      rw [if_pos c] at hd
      have il : i < (signs s).length := by
        have := congrArg List.length hd
        simp at this; omega
      have gi : (signs s).getD i (0, 0) = (nextC s p, p) := by
        have := congrArg (fun l => l.getD 0 (0, 0)) hd
        simp only [List.getD_eq_getElem?_getD, List.getElem?_drop, Nat.add_zero] at this
        rw [List.getD_eq_getElem?_getD, this]; rfl
      have hd2 : (signs s).drop (i + 1) = sfrom s n (nextP s p) := by
        rw [← List.drop_drop, hd]; rfl
      have k1 := name_step s i p (if i = 0 then 32 else ((signs s).getD (i - 1) (0, 0)).1) c (by omega) (fun z => by rw [if_pos z])
      have k2 := ref_step (signs s) ok i il (by omega)
      rw [gi] at k2
      simp only at k2
      by_cases c40 : i = 40
      · rw [if_pos c40] at k1 k2
        exact .inl ⟨_, loop_end k1, loop_end k2⟩
      · rw [if_neg c40] at k1 k2
        by_cases b : bad (i == 0) (nextC s p) (if i = 0 then 32 else ((signs s).getD (i - 1) (0, 0)).1) = true
        · rw [if_pos b] at k1 k2
          exact .inl ⟨_, loop_end k1, loop_end k2⟩
        · rw [if_neg b] at k1 k2
          have np := nextP_is s p c
          have i41 : i + 1 ≤ 40 := by omega
          have ih := name_both s few ok n (nextP s p) (i + 1) (by omega) hd2 i41 (by omega)
          rw [if_neg (by omega : ¬ i + 1 = 0), Nat.add_sub_cancel, gi] at ih
          simp only at ih
          rw [loop_next k1, loop_next k2]
          exact ih
    · right
      have e : sfrom s n p = [] := by
        cases n with
        | zero => rfl
        | succ n => simp only [sfrom]; rw [if_neg c]
      rw [e] at hd
      have il : (signs s).length ≤ i := by
        have := congrArg List.length hd
        simp at this; omega
      obtain rfl : i = (signs s).length := by omega
      refine ⟨loop_end ?_, loop_end ?_⟩
      · unfold name_Check.r0 name_Check.b0
        simp only
        rw [if_neg (by simp [nextOk]; omega)]
      · unfold lombardref04_Check.r0 lombardref04_Check.b0
        rw [if_neg (by simp)]
termination_by n => n

/-- The check of a name is the document's. -/
theorem name_is (s : Bs) : ∃ r : Int × Int, name_Check.f s = some r ∧ lombardref04_Check.f s = some r := by
  unfold name_Check.f lombardref04_Check.f
  by_cases c : decide ((s.length : Int) > 160) = true
  · rw [if_pos c, if_pos c]; exact ⟨_, rfl, rfl⟩
  rw [if_neg c, if_neg c]
  have few : s.length ≤ 160 := by simp at c; omega
  obtain ⟨ok, e⟩ := signs_is s (by omega)
  rw [e, Option.bind_some]
  have sl : (signs s).length ≤ 160 := by have := sfrom_len s s.length 0; unfold signs; omega
  rcases name_both s few ok s.length 0 0 (by omega) rfl (by omega) (by omega) with ⟨r, h1, h2⟩ | ⟨h1, h2⟩
  · have h1' : loop (name_Check.r0 s) (0, 32, 0) = some (.inl r) := h1
    have h2' : loop (lombardref04_Check.r0 ((signs s).map (·.1), (signs s).map (fun x => ((x.2 : Nat) : Int)), ok)) 0 = some (.inl r) := h2
    rw [h1', h2']
    exact ⟨r, rfl, rfl⟩
  · have h1' : loop (name_Check.r0 s) (0, 32, 0) = some (.inr (((signs s).length : Int), (if (signs s).length = 0 then 32 else ((signs s).getD ((signs s).length - 1) (0, 0)).1))) := h1
    have h2' : loop (lombardref04_Check.r0 ((signs s).map (·.1), (signs s).map (fun x => ((x.2 : Nat) : Int)), ok)) 0 = some (.inr ()) := h2
    rw [h1', h2']
    simp only [Option.bind_some, List.length_map]
    by_cases z : (signs s).length = 0
    · rw [if_pos z, z]
      exact ⟨_, rfl, rfl⟩
    · rw [if_neg z]
      have w : IntKind.wrap .i64 (((signs s).length : Int) - 1) = (((signs s).length - 1 : Nat) : Int) := by rw [i64_idz _ (by omega) (by omega)]; omega
      have n1 : nth ((signs s).map (·.1)) (((signs s).length - 1 : Nat) : Int) = ((signs s).getD ((signs s).length - 1) (0, 0)).1 := by
        show ((signs s).map (·.1)).getD ((signs s).length - 1) default = _
        rw [List.getD_eq_getElem?_getD, List.getElem?_map, List.getD_eq_getElem?_getD, List.getElem?_eq_getElem (by omega)]; rfl
      have hg : ((((signs s).length : Int) == 0) = false → (0 : Int) ≤ (((signs s).length - 1 : Nat) : Int) ∧ (((signs s).length - 1 : Nat) : Int) < ((signs s).length : Int)) := fun _ => by omega
      rw [w, n1, if_pos hg]
      by_cases q : ((((signs s).length : Int) == 0) || (((signs s).getD ((signs s).length - 1) (0, 0)).1 == 32)) = true
      · rw [if_pos q]; exact ⟨_, rfl, rfl⟩
      · rw [if_neg q]; exact ⟨_, rfl, rfl⟩

end Go.Proofs.YtjdkibnhlmgppaaGreat

