/- Shows that which messages may be sent is what the document says. -/
import Derived.Test.YtjdkibnhlmgppaaGreatPuFill30
import Derived.Test.YtjdkibnhlmgppaaGreatPuChk10
import Derived.Test.YtjdkibnhlmgppaaGreatGx4
import Derived.Test.YtjdkibnhlmgppaaGreatGx4
namespace Go.Proofs.YtjdkibnhlmgppaaGreat
open Go Go.Pm Go.Pm.Arith
set_option linter.unusedVariables false
set_option linter.unusedSimpArgs false

theorem may_empty (x : auth_List) : loop (auth_List_May.r0 x []) 0 = some (.inr ()) := loop_end (by unfold auth_List_May.r0 auth_List_May.b0; rw [if_neg (by simp)])

theorem may_loop (l : List Me) (h : Inv l) (id : Int) :
    (∃ k : Nat, k < l.length ∧ num l k = id ∧ lombardref30_Find.f l id = some (k : Int) ∧ auth_List_Get.f (listOf l) id = some (bk (l.getD k default), true) ∧ loop (auth_List_May.r0 (listOf l) [id]) 0 = some (if (l.getD k default).State = 3 then .inl 30 else .inr ())) ∨
    (lombardref30_Find.f l id = some (-1) ∧ loop (auth_List_May.r0 (listOf l) [id]) 0 = some (.inl 6)) := by
  have n0 : nth [id] 0 = id := rfl
  rcases get_is' l id h with ⟨k, k1, k2, k3, k4⟩ | ⟨k1, k3, k4⟩
  · left
    refine ⟨k, k1, k2, k4, k3, ?_⟩
    have able : auth_List_Able.f (listOf l) id = some ((l.getD k default).State != 3) := by
      unfold auth_List_Able.f; rw [k3, Option.bind_some]; rfl
    by_cases c : (l.getD k default).State = 3
    · rw [if_pos c]
      refine loop_end ?_
      unfold auth_List_May.r0 auth_List_May.b0
      rw [if_pos (by simp), if_pos (by simp), n0, k3, Option.bind_some, if_neg (by simp), able, Option.bind_some, if_pos (by simpa using c)]
    · rw [if_neg c]
      have st : auth_List_May.r0 (listOf l) [id] 0 = some (.inl 1) := by
        unfold auth_List_May.r0 auth_List_May.b0
        rw [if_pos (by simp), if_pos (by simp), n0, k3, Option.bind_some, if_neg (by simp), able, Option.bind_some, if_neg (by simpa using c)]
        rfl
      rw [loop_next st]
      exact loop_end (by unfold auth_List_May.r0 auth_List_May.b0; rw [if_neg (by simp)])
  · right
    refine ⟨k4, loop_end ?_⟩
    unfold auth_List_May.r0 auth_List_May.b0
    rw [if_pos (by simp), if_pos (by simp), n0, k3, Option.bind_some, if_pos (by simp)]

/-- What is told of a message of one member: 'off': it is an offer. -/
noncomputable def mv (l : List Me) (id : Int) (off : Bool) : Int :=
  match lombardref30_Find.f l id with
  | some k => if k < 0 then 6 else if (nth l k).State = 3 ∨ ((nth l k).State = 2 ∧ off = true) then 30 else 0
  | none => 0

theorem mv_at (l : List Me) (id : Int) (off : Bool) (k : Nat) (h : lombardref30_Find.f l id = some (k : Int)) : mv l id off = if (l.getD k default).State = 3 ∨ ((l.getD k default).State = 2 ∧ off = true) then 30 else 0 := by
  unfold mv; rw [h]; dsimp only; rw [if_neg (by omega), nth_me]
theorem mv_no (l : List Me) (id : Int) (off : Bool) (h : lombardref30_Find.f l id = some (-1)) : mv l id off = 6 := by
  unfold mv; rw [h]; dsimp only; rw [if_pos (by decide)]

theorem prog_none (l : List Me) (x : msg_Message) (hc : msg_Check.f x = some 0) (hs : auth_subject.f x = some []) (ho : x.ismsg_Offer = false) : auth_List_May.f (listOf l) x = some 0 := by
  unfold auth_List_May.f
  rw [if_neg (by intro h; cases h), hc, Option.bind_some, if_neg (by decide), hs, Option.bind_some, may_empty, Option.bind_some, ho]
  rfl

theorem prog_tail (l : List Me) (h : Inv l) (x : msg_Message) (id : Int) (off : Bool) (hc : msg_Check.f x = some 0) (hs : auth_subject.f x = some [id]) (ho : x.ismsg_Offer = off) (hm : off = true → ((x.asmsg_Offer).Quote).Member = id) :
    auth_List_May.f (listOf l) x = some (mv l id off) := by
  unfold auth_List_May.f
  rw [if_neg (by intro h; cases h), hc, Option.bind_some, if_neg (by decide), hs, Option.bind_some, ho]
  rcases may_loop l h id with ⟨k, k1, k2, k3, k4, k5⟩ | ⟨k3, k5⟩
  · rw [k5, Option.bind_some, mv_at l id off k k3]
    generalize l.getD k default = y at k4 ⊢
    by_cases c : y.State = 3
    · rw [if_pos c, if_pos (show y.State = 3 ∨ (y.State = 2 ∧ off = true) from Or.inl c)]
    · rw [if_neg c]
      dsimp only
      cases off with
      | false => rw [if_neg (by decide), if_neg (show ¬ (y.State = 3 ∨ (y.State = 2 ∧ false = true)) from fun q => q.elim c (fun q => by cases q.2))]
      | true =>
        rw [if_pos rfl, hm rfl, k4, Option.bind_some]
        by_cases c2 : y.State = 2
        · rw [if_pos (show ((bk y).State == 2) = true from by rw [beq_iff_eq]; exact c2), if_pos (show y.State = 3 ∨ (y.State = 2 ∧ true = true) from Or.inr ⟨c2, rfl⟩)]
        · rw [if_neg (show ¬ ((bk y).State == 2) = true from by rw [beq_iff_eq]; exact c2), if_neg (show ¬ (y.State = 3 ∨ (y.State = 2 ∧ true = true)) from fun q => q.elim c (fun q => c2 q.1))]
  · rw [k5, Option.bind_some, mv_no l id off k3]

theorem ref_tail (l : List Me) (h : Inv l) (m : lombardref10_Msg) (id s : Int) (off : Bool) (hc : lombardref10_Check.f m = some 0) (hs : lombardref10_Sender.f m = some s)
    (hi : (if (((((m.Kind == 6) || (m.Kind == 7)) || (m.Kind == 12)) || (m.Kind == 13)) || (m.Kind == 14)) = true then some m.Member else some s : Option Int) = some id) (h0 : id ≠ 0) (hk : (m.Kind == 8) = off) :
    lombardref30_May.f l m = some (mv l id off) := by
  unfold lombardref30_May.f
  rw [hc, Option.bind_some, if_neg (by decide), hs, Option.bind_some, hi, Option.bind_some, if_neg (by simpa using h0), hk]
  rcases get_is' l id h with ⟨k, k1, k2, k3, k4⟩ | ⟨k1, k3, k4⟩
  · have g : (0 : Int) ≤ (k : Int) ∧ (k : Int) < (l.length : Int) := by omega
    rw [k4, Option.bind_some, if_neg (by simp), if_pos g, if_pos (fun _ => g), mv_at l id off k k4, nth_me]
    generalize l.getD k default = y
    by_cases c : y.State = 3
    · rw [if_pos (show ((y.State == 3) || ((y.State == 2) && off)) = true from by rw [c]; rfl), if_pos (show y.State = 3 ∨ (y.State = 2 ∧ off = true) from Or.inl c)]
    · have n3 : (y.State == 3) = false := by rw [beq_eq_false_iff_ne]; exact c
      by_cases c2 : y.State = 2
      · cases off
        · rw [if_neg (show ¬ ((y.State == 3) || ((y.State == 2) && false)) = true from by rw [n3, Bool.and_false]; simp), if_neg (show ¬ (y.State = 3 ∨ (y.State = 2 ∧ false = true)) from fun q => q.elim c (fun q => by cases q.2))]
        · rw [if_pos (show ((y.State == 3) || ((y.State == 2) && true)) = true from by rw [c2]; rfl), if_pos (show y.State = 3 ∨ (y.State = 2 ∧ true = true) from Or.inr ⟨c2, rfl⟩)]
      · have n2 : (y.State == 2) = false := by rw [beq_eq_false_iff_ne]; exact c2
        rw [if_neg (show ¬ ((y.State == 3) || ((y.State == 2) && off)) = true from by rw [n3, n2]; simp), if_neg (show ¬ (y.State = 3 ∨ (y.State = 2 ∧ off = true)) from fun q => q.elim c (fun q => c2 q.1))]
  · rw [k4, Option.bind_some, if_pos (by decide), mv_no l id off k4]

theorem ref_none (l : List Me) (m : lombardref10_Msg) (hc : lombardref10_Check.f m = some 0) (hs : lombardref10_Sender.f m = some 0)
    (hi : (if (((((m.Kind == 6) || (m.Kind == 7)) || (m.Kind == 12)) || (m.Kind == 13)) || (m.Kind == 14)) = true then some m.Member else some 0 : Option Int) = some 0) : lombardref30_May.f l m = some 0 := by
  unfold lombardref30_May.f
  rw [hc, Option.bind_some, if_neg (by decide), hs, Option.bind_some, hi, Option.bind_some, if_pos (by decide)]

theorem wb_low {n : Int} (h : wb n 1 32 = true) : 1 ≤ n := ((wb_iff n 1 32).1 h).1
section
variable {a1 : Int} {a2 : Bs} {a3 : api_Asset} {a4 : api_Basket} {a5 : List api_Price} {a6 : Int} {a7 : Bs} {a8 : Int} {Q : api_Quote} {a9 : api_Lot} {a10 : List api_Lot} {a11 : Int} {a12 : Bool} {a13 : Int}
theorem pos_first {K : Int} (hK : K = 1 ∨ K = 7 ∨ K = 9 ∨ K = 10 ∨ K = 11 ∨ K = 12 ∨ K = 13 ∨ K = 14) (hc : lombardref10_Check.f ⟨K, a1, a2, a3, a4, a5, a6, a7, a8, Q, a9, a10, a11, a12, a13⟩ = some 0) : 1 ≤ a1 := by
  rw [ref_first hK] at hc
  cases w : wb a1 1 32 with
  | true => exact wb_low w
  | false => rw [w] at hc; simp at hc
theorem pos_cash (hc : lombardref10_Check.f ⟨6, a1, a2, a3, a4, a5, a6, a7, a8, Q, a9, a10, a11, a12, a13⟩ = some 0) : 1 ≤ a1 := by
  have e2 : lombardref10_Check.f ⟨6, a1, a2, a3, a4, a5, a6, a7, a8, Q, a9, a10, a11, a12, a13⟩ = (lombardref05_Currency.f a7).bind fun t13 => if ((6 : Int) == 6 && !t13) = true then some 11 else
        if (!wb a1 1 32) = true then some 1 else (lombardref10_rest.f ⟨6, a1, a2, a3, a4, a5, a6, a7, a8, Q, a9, a10, a11, a12, a13⟩).bind fun t30 => some t30 := rfl
  rw [e2, (cur_is a7).2, Option.bind_some] at hc
  cases w : wb a1 1 32 with
  | true => exact wb_low w
  | false =>
    rw [w] at hc
    cases q : codes.contains a7 <;> rw [q] at hc <;> simp at hc
theorem pos_offer (hc : lombardref10_Check.f ⟨8, a1, a2, a3, a4, a5, a6, a7, a8, Q, a9, a10, a11, a12, a13⟩ = some 0) : 1 ≤ Q.Member := by
  have e2 : lombardref10_Check.f ⟨8, a1, a2, a3, a4, a5, a6, a7, a8, Q, a9, a10, a11, a12, a13⟩ = if ((8 : Int) == 8 && (!wb Q.Member 1 32)) = true then some 1 else (lombardref10_Quote.f Q).bind fun t22 => some t22 := rfl
  rw [e2] at hc
  cases w : wb Q.Member 1 32 with
  | true => exact wb_low w
  | false => rw [w] at hc; simp at hc
end

/-- May is the document's; and of whom it is, if it is anyone's. -/
theorem may_is (l : List Me) (h : Inv l) (m : lombardref10_Msg) : ∃ x v, lombardlaw10_Of.f m = some x ∧ auth_List_May.f (listOf l) x = some v ∧ lombardref30_May.f l m = some v ∧
    (6 ≤ m.Kind → m.Kind ≤ 14 → m.Member = m.Quote.Member → v ≠ 0 ∨ ∃ off, v = mv l m.Member off) := by
  obtain ⟨x, o, v, v1, v2⟩ := check_both m
  by_cases z : v = 0
  · subst z
    by_cases hk : m.Kind = 1 ∨ m.Kind = 2 ∨ m.Kind = 3 ∨ m.Kind = 4 ∨ m.Kind = 5 ∨ m.Kind = 6 ∨ m.Kind = 7 ∨ m.Kind = 8 ∨ m.Kind = 9 ∨ m.Kind = 10 ∨ m.Kind = 11 ∨ m.Kind = 12 ∨ m.Kind = 13 ∨ m.Kind = 14 ∨ m.Kind = 15
    · obtain ⟨K, a1, a2, a3, a4, a5, a6, a7, a8, Q, a9, a10, a11, a12, a13⟩ := m
      simp only at hk
      rcases hk with rfl | rfl | rfl | rfl | rfl | rfl | rfl | rfl | rfl | rfl | rfl | rfl | rfl | rfl | rfl
      · cases o
        exact ⟨_, 0, rfl, prog_none l _ v1 rfl rfl, ref_none l _ v2 rfl rfl, fun q _ _ => absurd (show (6 : Int) ≤ 1 from q) (by decide)⟩
      · cases o
        exact ⟨_, 0, rfl, prog_none l _ v1 rfl rfl, ref_none l _ v2 rfl rfl, fun q _ _ => absurd (show (6 : Int) ≤ 2 from q) (by decide)⟩
      · cases o
        exact ⟨_, 0, rfl, prog_none l _ v1 rfl rfl, ref_none l _ v2 rfl rfl, fun q _ _ => absurd (show (6 : Int) ≤ 3 from q) (by decide)⟩
      · cases o
        exact ⟨_, 0, rfl, prog_none l _ v1 rfl rfl, ref_none l _ v2 rfl rfl, fun q _ _ => absurd (show (6 : Int) ≤ 4 from q) (by decide)⟩
      · cases o
        exact ⟨_, 0, rfl, prog_none l _ v1 rfl rfl, ref_none l _ v2 rfl rfl, fun q _ _ => absurd (show (6 : Int) ≤ 5 from q) (by decide)⟩
      · cases o
        have p := pos_cash v2
        exact ⟨_, _, rfl, prog_tail l h _ a1 false v1 rfl rfl (fun q => by cases q), ref_tail l h _ a1 0 false v2 rfl rfl (by omega) rfl, fun _ _ _ => .inr ⟨_, rfl⟩⟩
      · cases o
        have p := pos_first (by decide) v2
        exact ⟨_, _, rfl, prog_tail l h _ a1 false v1 rfl rfl (fun q => by cases q), ref_tail l h _ a1 0 false v2 rfl rfl (by omega) rfl, fun _ _ _ => .inr ⟨_, rfl⟩⟩
      · cases o
        have p := pos_offer v2
        have sub : auth_subject.f (.cmsg_Offer ⟨Q⟩) = some [Q.Member] := by
          have e : auth_subject.f (.cmsg_Offer ⟨Q⟩) = if decide (Q.Member > 0) = true then some [Q.Member] else some [] := rfl
          rw [e, if_pos (decide_eq_true (by omega))]
        exact ⟨_, _, rfl, prog_tail l h _ Q.Member true v1 sub rfl (fun _ => rfl), ref_tail l h _ Q.Member Q.Member true v2 rfl rfl (by omega) rfl, fun _ _ e => .inr ⟨true, by rw [e]⟩⟩
      · cases o
        have p := pos_first (by decide) v2
        have sub : auth_subject.f (.cmsg_Cancel ⟨a1, a8⟩) = some [a1] := by
          have e : auth_subject.f (.cmsg_Cancel ⟨a1, a8⟩) = if decide (a1 > 0) = true then some [a1] else some [] := rfl
          rw [e, if_pos (decide_eq_true (by omega))]
        exact ⟨_, _, rfl, prog_tail l h _ a1 false v1 sub rfl (fun q => by cases q), ref_tail l h _ a1 a1 false v2 rfl rfl (by omega) rfl, fun _ _ _ => .inr ⟨_, rfl⟩⟩
      · cases o
        have p := pos_first (by decide) v2
        have sub : auth_subject.f (.cmsg_Notice ⟨a1, a11, a6⟩) = some [a1] := by
          have e : auth_subject.f (.cmsg_Notice ⟨a1, a11, a6⟩) = if decide (a1 > 0) = true then some [a1] else some [] := rfl
          rw [e, if_pos (decide_eq_true (by omega))]
        exact ⟨_, _, rfl, prog_tail l h _ a1 false v1 sub rfl (fun q => by cases q), ref_tail l h _ a1 a1 false v2 rfl rfl (by omega) rfl, fun _ _ _ => .inr ⟨_, rfl⟩⟩
      · cases o
        have p := pos_first (by decide) v2
        have sub : auth_subject.f (.cmsg_Swap ⟨a1, a11, a9, a10⟩) = some [a1] := by
          have e : auth_subject.f (.cmsg_Swap ⟨a1, a11, a9, a10⟩) = if decide (a1 > 0) = true then some [a1] else some [] := rfl
          rw [e, if_pos (decide_eq_true (by omega))]
        exact ⟨_, _, rfl, prog_tail l h _ a1 false v1 sub rfl (fun q => by cases q), ref_tail l h _ a1 a1 false v2 rfl rfl (by omega) rfl, fun _ _ _ => .inr ⟨_, rfl⟩⟩
      · cases o
        have p := pos_first (by decide) v2
        exact ⟨_, _, rfl, prog_tail l h _ a1 false v1 rfl rfl (fun q => by cases q), ref_tail l h _ a1 0 false v2 rfl rfl (by omega) rfl, fun _ _ _ => .inr ⟨_, rfl⟩⟩
      · cases o
        have p := pos_first (by decide) v2
        exact ⟨_, _, rfl, prog_tail l h _ a1 false v1 rfl rfl (fun q => by cases q), ref_tail l h _ a1 0 false v2 rfl rfl (by omega) rfl, fun _ _ _ => .inr ⟨_, rfl⟩⟩
      · cases o
        have p := pos_first (by decide) v2
        exact ⟨_, _, rfl, prog_tail l h _ a1 false v1 rfl rfl (fun q => by cases q), ref_tail l h _ a1 0 false v2 rfl rfl (by omega) rfl, fun _ _ _ => .inr ⟨_, rfl⟩⟩
      · cases o
        exact ⟨_, 0, rfl, prog_none l _ v1 rfl rfl, ref_none l _ v2 rfl rfl, fun _ q _ => absurd (show (15 : Int) ≤ 14 from q) (by decide)⟩
    · exfalso
      have ne : ∀ n : Int, 1 ≤ n → n ≤ 15 → (m.Kind == n) = false := fun n h1 h2 => by
        rw [beq_eq_false_iff_ne]; intro e; apply hk; omega
      unfold lombardref10_Check.f at v2
      rw [ne 2 (by decide) (by decide), ne 3 (by decide) (by decide), ne 4 (by decide) (by decide), ne 5 (by decide) (by decide), ne 6 (by decide) (by decide), ne 8 (by decide) (by decide)] at v2
      have : (decide (m.Kind < 1) || decide (m.Kind > 15)) = true := by simp; omega
      rw [this] at v2
      exact absurd (show some (17 : Int) = some 0 from v2) (by decide)
  · refine ⟨x, v, o, ?_, ?_, fun _ _ _ => .inl z⟩
    · unfold auth_List_May.f
      rw [if_neg (by intro h; cases h), v1, Option.bind_some, if_pos (by simpa using z)]
    · unfold lombardref30_May.f
      rw [v2, Option.bind_some, if_pos (by simpa using z)]
end Go.Proofs.YtjdkibnhlmgppaaGreat

