/- Shows, in plain lists, that each call of a book of trades does what the document says. -/
import Derived.Test.YtidinbjehfodoaaPuBook23
import Derived.Test.YtidinbjehfodoaaPuFill23
import Derived.Test.YtidinbjehfodoaaGx5
import Derived.Test.YtidinbjehfodoaaGx4
namespace Go.Proofs.Ytidinbjehfodoaa
open Go Go.Pm Go.Pm.Arith
set_option linter.unusedVariables false
set_option linter.unusedSimpArgs false

structure Inv (l : List api_Trade) (nx : Int) : Prop where
  rising : Rising l
  few : l.length ≤ 64
  next : 0 ≤ nx ∧ nx ≤ 1125899906842624
  all : ∀ x ∈ l, x.ID ≤ nx ∧ x.Resets.length < 8796093022208

theorem mem_at (l : List api_Trade) (k : Nat) (h : k < l.length) : l.getD k default ∈ l := by
  rw [List.getD_eq_getElem?_getD, List.getElem?_eq_getElem h]
  exact List.getElem_mem h

theorem Inv.rs {l : List api_Trade} {nx : Int} (h : Inv l nx) : ∀ k, k < l.length → (l.getD k default).Resets.length < 8796093022208 := fun k hk => (h.all _ (mem_at l k hk)).2
theorem Inv.ids {l : List api_Trade} {nx : Int} (h : Inv l nx) : ∀ k, k < l.length → idAt l k ≤ nx := fun k hk => (h.all _ (mem_at l k hk)).1

theorem at_app (l m : List api_Trade) (k : Nat) : (l ++ m).getD k default = if k < l.length then l.getD k default else m.getD (k - l.length) default := by
  rw [List.getD_eq_getElem?_getD]
  split
  · rename_i h
    rw [List.getElem?_append_left h, List.getD_eq_getElem?_getD]
  · rename_i h
    rw [List.getElem?_append_right (by omega), List.getD_eq_getElem?_getD]

theorem novate_is (l : List api_Trade) (nx : Int) (f : api_Fill) (h : Inv l nx) :
    (∃ e : Int, e ≠ 0 ∧ trade_Book_Novate.f ⟨l, nx, true⟩ f = some (0, 0, e, ⟨l, nx, true⟩) ∧ lombardref23_Book_Novate.f ⟨l, nx⟩ f = some (⟨l, nx⟩, e)) ∨
    (∃ l', Inv l' (nx + 2) ∧ trade_Book_Novate.f ⟨l, nx, true⟩ f = some (nx + 1, nx + 2, 0, ⟨l', nx + 2, true⟩) ∧ lombardref23_Book_Novate.f ⟨l, nx⟩ f = some (⟨l', nx + 2⟩, 0)) := by
  have nb := h.next
  have fw := h.few
  have w1 : IntKind.i64.wrap (nx + 1) = nx + 1 := i64_id _ (by omega) (by omega)
  have w2 : IntKind.i64.wrap (nx + 2) = nx + 2 := i64_id _ (by omega) (by omega)
  unfold trade_Book_Novate.f lombardref23_Book_Novate.f
  simp only [Bool.not_true, Bool.false_eq_true, if_false, w1, w2]
  rw [fill_is, ref_fill_is, Option.bind_some, Option.bind_some]
  by_cases z : fillOf f = 0
  · have z' : ¬ ((fillOf f != 0) = true) := by simpa using z
    rw [if_neg z', if_neg z']
    by_cases c : (l.length : Int) > 62 ∨ nx > 1125899906842622
    · rw [if_pos (by simp only [Bool.or_eq_true, decide_eq_true_eq]; exact c), if_pos (by simp only [Bool.or_eq_true, decide_eq_true_eq]; omega)]
      exact .inl ⟨18, by decide, rfl, rfl⟩
    · rw [if_neg (by simp only [Bool.or_eq_true, decide_eq_true_eq]; exact c), if_neg (by simp only [Bool.or_eq_true, decide_eq_true_eq]; omega)]
      right
      unfold trade_Book_Novate_1.f
      simp only [Option.bind_some]
      rw [if_pos (by simp; omega), if_pos (by simp; omega), if_pos (by simp; omega)]
      refine ⟨_, ⟨?_, ?_, by omega, ?_⟩, rfl, rfl⟩
      · intro k hk
        rw [List.length_append] at hk
        simp only [List.length_cons, List.length_nil] at hk
        unfold idAt
        rw [at_app, at_app]
        by_cases c1 : k + 1 < l.length
        · rw [if_pos (by omega), if_pos c1]; exact h.rising k c1
        · by_cases c2 : k < l.length
          · rw [if_pos c2, if_neg c1, show k + 1 - l.length = 0 by omega]
            have := h.ids k c2
            show idAt l k < nx + 1
            omega
          · rw [if_neg c2, if_neg c1, show k - l.length = 0 by omega, show k + 1 - l.length = 1 by omega]
            show nx + 1 < nx + 2
            omega
      · rw [List.length_append]; simp only [List.length_cons, List.length_nil]; omega
      · intro x hx
        rcases List.mem_append.1 hx with hx | hx
        · have := h.all x hx; exact ⟨by omega, this.2⟩
        · rcases List.mem_cons.1 hx with rfl | hx
          · exact ⟨by show nx + 1 ≤ nx + 2; omega, by show 1 < _; omega⟩
          · rw [List.mem_singleton] at hx; subst hx
            exact ⟨by show nx + 2 ≤ nx + 2; omega, by show 1 < _; omega⟩
  · have z' : (fillOf f != 0) = true := by simpa using z
    rw [if_pos z', if_pos z']
    exact .inl ⟨_, z, rfl, rfl⟩

theorem at_set (l : List api_Trade) (i : Nat) (x : api_Trade) (k : Nat) (hi : i < l.length) : (l.set i x).getD k default = if k = i then x else l.getD k default := by
  rw [List.getD_eq_getElem?_getD, List.getElem?_set]
  by_cases c : i = k
  · subst c; rw [if_pos rfl, if_pos hi, if_pos rfl]; rfl
  · rw [if_neg c, if_neg (fun h => c h.symm), List.getD_eq_getElem?_getD]

theorem Inv.set {l : List api_Trade} {nx : Int} (h : Inv l nx) {i : Nat} {x : api_Trade} (hi : i < l.length) (e : idAt l i = x.ID) (hx : x.Resets.length < 8796093022208) : Inv (l.set i x) nx := by
  have ids : ∀ k, idAt (l.set i x) k = idAt l k := fun k => by
    unfold idAt
    rw [at_set l i x k hi]
    split
    · rename_i c; subst c; exact e.symm
    · rfl
  refine ⟨fun k hk => ?_, by rw [List.length_set]; exact h.few, h.next, fun y hy => ?_⟩
  · rw [List.length_set] at hk
    rw [ids, ids]; exact h.rising k hk
  · rcases List.mem_or_eq_of_mem_set hy with hy | rfl
    · exact h.all y hy
    · exact ⟨by have := h.ids i hi; omega, hx⟩

theorem put_is (l : List api_Trade) (nx : Int) (x y : api_Trade) (h : Inv l nx) (hx : api_Trade.bd x) (hy : api_Trade.bd y) :
    ∃ e l', Inv l' nx ∧ trade_Book_Put.f ⟨l, nx, true⟩ x y = some (e, ⟨l', nx, true⟩) ∧ lombardref23_Book_Put.f ⟨l, nx⟩ x y = some (⟨l', nx⟩, e) := by
  have fw := h.few
  have rx := resets_len hx
  have ry := resets_len hy
  unfold trade_Book_Put.f lombardref23_Book_Put.f
  simp only [Bool.not_true, Bool.false_eq_true, if_false]
  rw [prog_check_is x hx, ref_check_is x hx, prog_check_is y hy, ref_check_is y hy]
  simp only [Option.bind_some]
  by_cases z : tradeOf x = 0
  · have z' : ¬ ((tradeOf x != 0) = true) := by simpa using z
    rw [if_neg z', if_neg z']
    by_cases z2 : tradeOf y = 0
    · have z2' : ¬ ((tradeOf y != 0) = true) := by simpa using z2
      rw [if_neg z2', if_neg z2']
      obtain ⟨r, t1, t2⟩ := twins_is x y (by omega)
      rw [t1, t2, Option.bind_some, Option.bind_some]
      cases r with
      | false => exact ⟨32, l, h, rfl, rfl⟩
      | true =>
        simp only [Bool.not_true, Bool.false_eq_true, if_false]
        unfold trade_Book_place.f
        simp only
        rcases found l nx x.ID h.rising (by omega) with ⟨k, k1, k2, k3, k4⟩ | ⟨k1, ⟨i, k2⟩, k3⟩
        · rcases found l nx y.ID h.rising (by omega) with ⟨m, m1, m2, m3, m4⟩ | ⟨m1, ⟨i, m2⟩, m3⟩
          · rw [k3, k4, m3, m4]
            simp only [Option.bind_some]
            have d1 : decide ((k : Int) < 0) = false := decide_eq_false (by omega)
            have d2 : decide ((m : Int) < 0) = false := decide_eq_false (by omega)
            rw [d1, d2]
            simp only [Bool.not_true, Bool.or_self, Bool.false_eq_true, if_false]
            have gk : (0 : Int) ≤ (k : Int) ∧ (k : Int) < (l.length : Int) := by omega
            have gm : (0 : Int) ≤ (m : Int) ∧ (m : Int) < (l.length : Int) := by omega
            have gi : (((nth l (k : Int)).Member != x.Member) = false → (0 : Int) ≤ (m : Int) ∧ (m : Int) < (l.length : Int)) := fun _ => gm
            simp only [if_pos gk, if_pos gi]
            by_cases c : (((nth l (k : Int)).Member != x.Member) || ((nth l (m : Int)).Member != y.Member)) = true
            · simp only [if_pos c]; exact ⟨22, l, h, rfl, rfl⟩
            · have gs : (0 : Int) ≤ (m : Int) ∧ (m : Int) < ((l.set k x).length : Int) := by rw [List.length_set]; exact gm
              simp only [if_neg c, copied_is x rx, copied_is y ry, Option.bind_some, List.nil_append, Int.toNat_natCast, if_pos gk, if_pos gs]
              rw [if_pos (by simp; omega)]
              have h1 := h.set k1 k2 rx
              have e2 : idAt (l.set k x) m = y.ID := by
                unfold idAt
                rw [at_set l k x m k1]
                split
                · rename_i c; subst c; rw [← k2]; exact m2
                · exact m2
              exact ⟨0, _, h1.set (by rw [List.length_set]; exact m1) e2 ry, rfl, rfl⟩
          · rw [k3, k4, m2, m3]
            simp only [Option.bind_some]
            exact ⟨6, l, h, by simp, by simp⟩
        · rw [k2, k3]
          simp only [Option.bind_some]
          rcases found l nx y.ID h.rising (by omega) with ⟨m, m1, m2, m3, m4⟩ | ⟨m1, ⟨j, m2⟩, m3⟩
          · rw [m3, m4]
            exact ⟨6, l, h, by simp, by simp⟩
          · rw [m2, m3]
            exact ⟨6, l, h, by simp, by simp⟩
    · have z2' : (tradeOf y != 0) = true := by simpa using z2
      rw [if_pos z2', if_pos z2']
      exact ⟨_, l, h, rfl, rfl⟩
  · have z' : (tradeOf x != 0) = true := by simpa using z
    rw [if_pos z', if_pos z']
    exact ⟨_, l, h, rfl, rfl⟩

def keep (id tw : Int) (x : api_Trade) : Bool := !((x.ID == id) || (x.ID == tw))

theorem Rising.pair {l : List api_Trade} (h : Rising l) : l.Pairwise (fun a b => a.ID < b.ID) := by
  rw [List.pairwise_iff_getElem]
  intro i j hi hj hij
  have := h.sort hij hj
  unfold idAt at this
  rwa [List.getD_eq_getElem?_getD, List.getElem?_eq_getElem hi, List.getD_eq_getElem?_getD, List.getElem?_eq_getElem hj] at this

theorem Rising.of {l : List api_Trade} (h : l.Pairwise (fun a b => a.ID < b.ID)) : Rising l := by
  intro k hk
  rw [List.pairwise_iff_getElem] at h
  have := h k (k + 1) (by omega) hk (by omega)
  unfold idAt
  rw [List.getD_eq_getElem?_getD, List.getElem?_eq_getElem (by omega), List.getD_eq_getElem?_getD, List.getElem?_eq_getElem hk]
  exact this

theorem Inv.filter {l : List api_Trade} {nx : Int} (h : Inv l nx) (p : api_Trade → Bool) : Inv (l.filter p) nx :=
  ⟨Rising.of (h.rising.pair.filter p), Nat.le_trans (List.length_filter_le p l) h.few, h.next, fun x hx => h.all x (List.mem_filter.1 hx).1⟩

theorem set_take (x : api_Trade) : ∀ (L : List api_Trade) (p : Nat), p < L.length → (L.set p x).take (p + 1) = L.take p ++ [x]
  | [], p, h => by simp at h
  | y :: L, 0, h => rfl
  | y :: L, p + 1, h => by
    simp only [List.length_cons] at h
    rw [List.set_cons_succ, List.take_succ_cons, set_take x L p (by omega)]; rfl

theorem filter_next (q : api_Trade → Bool) (l : List api_Trade) (i : Nat) (h : i < l.length) : (l.take (i + 1)).filter q = (l.take i).filter q ++ (if q (l.getD i default) = true then [l.getD i default] else []) := by
  have e : l.getD i default = l[i] := by rw [List.getD_eq_getElem?_getD, List.getElem?_eq_getElem h]; rfl
  rw [e, ← List.take_append_getElem h, List.filter_append]
  congr 1
  rw [List.filter_cons]
  rfl

theorem index_loop (l : List api_Trade) (id : Int) (t : api_Trade) (few : l.length ≤ 64) : ∀ (j i : Nat), l.length = i + j → (l.take i).filter (keep id t.Twin) = l.take i →
    (∃ k : Nat, k < l.length ∧ keep id t.Twin (l.getD k default) = false ∧ (l.take k).filter (keep id t.Twin) = l.take k ∧ loop (slices_IndexFunc_api_Trade__trade_Book_Drop_1.r0 l id t) (i : Int) = some (.inl (k : Int))) ∨
    (l.filter (keep id t.Twin) = l ∧ loop (slices_IndexFunc_api_Trade__trade_Book_Drop_1.r0 l id t) (i : Int) = some (.inr ()))
  | 0, i, h, hf => by
    right
    rw [List.take_of_length_le (by omega)] at hf
    refine ⟨hf, loop_end ?_⟩
    unfold slices_IndexFunc_api_Trade__trade_Book_Drop_1.r0 slices_IndexFunc_api_Trade__trade_Book_Drop_1.b0
    rw [if_neg (by simp; omega)]
  | j + 1, i, h, hf => by
    have key : slices_IndexFunc_api_Trade__trade_Book_Drop_1.r0 l id t (i : Int) = if keep id t.Twin (l.getD i default) = false then some (.inr (.inl (i : Int))) else some (.inl ((i + 1 : Nat) : Int)) := by
      unfold slices_IndexFunc_api_Trade__trade_Book_Drop_1.r0 slices_IndexFunc_api_Trade__trade_Book_Drop_1.b0 trade_Book_Drop_1_v2.f keep
      rw [if_pos (decide_eq_true (by omega)), if_pos (by omega), nth_tr, Option.bind_some, next64 i (by omega)]
      cases ((l.getD i default).ID == id || (l.getD i default).ID == t.Twin) <;> rfl
    by_cases c : keep id t.Twin (l.getD i default) = false
    · rw [if_pos c] at key
      exact .inl ⟨i, by omega, c, hf, loop_end key⟩
    · rw [if_neg c] at key
      rw [loop_next key]
      refine index_loop l id t few j (i + 1) (by omega) ?_
      have e : l.getD i default = l[i]'(by omega) := by rw [List.getD_eq_getElem?_getD, List.getElem?_eq_getElem (by omega)]; rfl
      rw [filter_next _ l i (by omega), hf, if_pos (by simpa using c), e, List.take_append_getElem]

theorem delete_loop (l : List api_Trade) (id : Int) (t : api_Trade) (few : l.length ≤ 64) : ∀ (n j p : Nat) (L : List api_Trade), l.length = j + n → p < j → L.length = l.length → (∀ k, j ≤ k → L.getD k default = l.getD k default) → L.take p = (l.take j).filter (keep id t.Twin) →
    ∃ (p' : Nat) (L' : List api_Trade), p' ≤ l.length ∧ L'.length = l.length ∧ L'.take p' = l.filter (keep id t.Twin) ∧ loop (slices_DeleteFunc_api_Trade__trade_Book_Drop_1.r0 id t) ((p : Int), (j : Int), L) = some ((p' : Int), L')
  | 0, j, p, L, h, hp, hL, hs, hf => by
    refine ⟨p, L, by omega, hL, by rw [hf, List.take_of_length_le (by omega)], loop_end ?_⟩
    unfold slices_DeleteFunc_api_Trade__trade_Book_Drop_1.r0 slices_DeleteFunc_api_Trade__trade_Book_Drop_1.b0
    rw [if_neg (by simp; omega)]
  | n + 1, j, p, L, h, hp, hL, hs, hf => by
    have key : slices_DeleteFunc_api_Trade__trade_Book_Drop_1.r0 id t ((p : Int), (j : Int), L) = if keep id t.Twin (l.getD j default) = true then some (.inl (((p + 1 : Nat) : Int), ((j + 1 : Nat) : Int), L.set p (l.getD j default))) else some (.inl ((p : Int), ((j + 1 : Nat) : Int), L)) := by
      unfold slices_DeleteFunc_api_Trade__trade_Book_Drop_1.r0 slices_DeleteFunc_api_Trade__trade_Book_Drop_1.b0 trade_Book_Drop_1_v2.f
      simp only
      rw [if_pos (decide_eq_true (by omega)), if_pos (by omega), nth_tr, hs j (Nat.le_refl _), Option.bind_some, next64 p (by omega), next64 j (by omega), Int.toNat_natCast]
      show (if keep id t.Twin (l.getD j default) = true then _ else _) = _
      by_cases c : keep id t.Twin (l.getD j default) = true
      · rw [if_pos c, if_pos c, if_pos (by omega)]
      · rw [if_neg c, if_neg c]
    by_cases c : keep id t.Twin (l.getD j default) = true
    · rw [if_pos c] at key
      rw [loop_next key]
      refine delete_loop l id t few n (j + 1) (p + 1) _ (by omega) (by omega) (by rw [List.length_set]; exact hL) (fun k hk => ?_) ?_
      · rw [at_set L p _ k (by omega), if_neg (by omega)]; exact hs k (by omega)
      · rw [set_take _ L p (by omega), hf, filter_next _ l j (by omega), if_pos c]
    · rw [if_neg c] at key
      rw [loop_next key]
      refine delete_loop l id t few n (j + 1) p L (by omega) (by omega) hL (fun k hk => hs k (by omega)) ?_
      rw [hf, filter_next _ l j (by omega), if_neg c, List.append_nil]

theorem delete_is (l : List api_Trade) (id : Int) (t : api_Trade) (few : l.length ≤ 64) : slices_DeleteFunc_api_Trade__trade_Book_Drop_1.f l id t = some (l.filter (keep id t.Twin)) := by
  unfold slices_DeleteFunc_api_Trade__trade_Book_Drop_1.f slices_IndexFunc_api_Trade__trade_Book_Drop_1.f
  rcases index_loop l id t few l.length 0 (by omega) (by simp) with ⟨k, k1, k2, k3, k4⟩ | ⟨k1, k2⟩
  · have k4' : loop (slices_IndexFunc_api_Trade__trade_Book_Drop_1.r0 l id t) 0 = _ := k4
    rw [k4', Option.bind_some]
    simp only [Option.bind_some]
    obtain ⟨p, L, p1, p2, p3, p4⟩ := delete_loop l id t few (l.length - (k + 1)) (k + 1) k l (by omega) (by omega) rfl (fun _ _ => rfl) (by rw [filter_next _ l k k1, if_neg (by rw [k2]; decide), List.append_nil, k3])
    rw [if_neg (by simp), next64 k (by omega), p4, Option.bind_some]
    simp only
    have e : List.take (Int.toNat (p : Int)) (List.take (Int.toNat (p : Int)) L ++ List.replicate (Int.toNat (L.length : Int) - Int.toNat (p : Int)) ((⟨0, 0, 0, 0, 0, 0, 0, 0, [], 0, false⟩ : api_Trade) : api_Trade)) = l.filter (keep id t.Twin) := by
      rw [Int.toNat_natCast, List.take_append_of_le_length (by rw [List.length_take]; omega), List.take_take, Nat.min_self, p3]
    have g2 : (0 : Int) ≤ 0 ∧ 0 ≤ (p : Int) ∧ (p : Int) ≤ (List.length (List.take (Int.toNat (p : Int)) L ++ List.replicate (Int.toNat (L.length : Int) - Int.toNat (p : Int)) ((⟨0, 0, 0, 0, 0, 0, 0, 0, [], 0, false⟩ : api_Trade) : api_Trade)) : Int) := by
      refine ⟨by omega, by omega, ?_⟩
      rw [List.length_append, List.length_take, List.length_replicate, Int.toNat_natCast, Int.toNat_natCast]
      omega
    rw [if_pos (by omega), if_pos g2, e]
  · have k2' : loop (slices_IndexFunc_api_Trade__trade_Book_Drop_1.r0 l id t) 0 = _ := k2
    rw [k2', Option.bind_some]
    simp only [Option.bind_some]
    rw [if_pos (by rfl), k1]

theorem ref_drop_loop (l : List api_Trade) (nx id : Int) (k : Nat) (hk : k < l.length) (few : l.length ≤ 64) : ∀ (j i : Nat), l.length = i + j →
    loop (lombardref23_Book_Drop.r0 ⟨l, nx⟩ id (k : Int)) ((i : Int), (l.take i).filter (keep id (l.getD k default).Twin)) = some (l.filter (keep id (l.getD k default).Twin))
  | 0, i, h => by
    refine loop_end ?_
    unfold lombardref23_Book_Drop.r0 lombardref23_Book_Drop.b0
    rw [if_neg (by simp; omega), List.take_of_length_le (by omega)]
  | j + 1, i, h => by
    have g : (0 : Int) ≤ (i : Int) ∧ (i : Int) < (l.length : Int) := by omega
    have len := List.length_filter_le (keep id (l.getD k default).Twin) (l.take i)
    rw [List.length_take] at len
    have key : lombardref23_Book_Drop.r0 ⟨l, nx⟩ id (k : Int) ((i : Int), (l.take i).filter (keep id (l.getD k default).Twin)) = some (.inl (((i + 1 : Nat) : Int), (l.take (i + 1)).filter (keep id (l.getD k default).Twin))) := by
      unfold lombardref23_Book_Drop.r0 lombardref23_Book_Drop.b0
      simp only
      rw [if_pos (decide_eq_true g.2), if_pos g, if_pos (fun _ => g), if_pos (fun _ => by omega), nth_tr, nth_tr, next64 i (by omega), filter_next _ l i (by omega)]
      have e : (((l.getD i default).ID != id) && ((l.getD i default).ID != (l.getD k default).Twin)) = keep id (l.getD k default).Twin (l.getD i default) := by
        unfold keep
        rw [Bool.not_or]; rfl
      rw [e]
      by_cases c : keep id (l.getD k default).Twin (l.getD i default) = true
      · rw [if_pos c, if_pos c, if_pos g, if_pos (by simp only [List.length_cons, List.length_nil]; omega)]
      · rw [if_neg c, if_neg c, List.append_nil]
    rw [loop_next key]
    exact ref_drop_loop l nx id k hk few j (i + 1) (by omega)

theorem drop_is (l : List api_Trade) (nx id : Int) (h : Inv l nx) :
    ∃ e l', Inv l' nx ∧ trade_Book_Drop.f ⟨l, nx, true⟩ id = some (e, ⟨l', nx, true⟩) ∧ lombardref23_Book_Drop.f ⟨l, nx⟩ id = some (⟨l', nx⟩, e) := by
  have fw := h.few
  unfold trade_Book_Drop.f lombardref23_Book_Drop.f
  simp only [Bool.not_true, Bool.false_eq_true, if_false]
  rcases get_is ⟨l, nx, true⟩ id h.rising (by show l.length ≤ 100; omega) h.rs nx with ⟨k, k1, k2, k3, k4⟩ | ⟨k1, k2, k3⟩
  · have k1 : k < l.length := k1
    have k4 : lombardref23_Book_Find.f ⟨l, nx⟩ id = some (k : Int) := k4
    rw [k3, k4]
    simp only [Option.bind_some]
    have gk : (0 : Int) ≤ (k : Int) ∧ (k : Int) < (l.length : Int) := by omega
    have dk : ¬ (decide ((k : Int) < 0) = true) := by simp
    simp only [Bool.not_true, Bool.false_eq_true, if_false, if_neg dk, if_pos gk, nth_tr]
    show ∃ e l', Inv l' nx ∧ (if decide ((l.getD k default).Stage < 4) = true then _ else _) = _ ∧ (if decide ((l.getD k default).Stage < 4) = true then _ else _) = _
    by_cases c : (l.getD k default).Stage < 4
    · rw [if_pos (decide_eq_true c), if_pos (decide_eq_true c)]
      exact ⟨8, l, h, rfl, rfl⟩
    · rw [if_neg (by simpa using c), if_neg (by simpa using c)]
      have L := ref_drop_loop l nx id k k1 fw l.length 0 (by omega)
      have L' : loop (lombardref23_Book_Drop.r0 ⟨l, nx⟩ id (k : Int)) (0, []) = _ := L
      rw [delete_is l id (l.getD k default) fw, L']
      exact ⟨0, _, h.filter _, rfl, rfl⟩
  · have k3 : lombardref23_Book_Find.f ⟨l, nx⟩ id = some (-1) := k3
    rw [k2, k3]
    simp only [Option.bind_some]
    exact ⟨6, l, h, by simp, by simp⟩

theorem does_is (l : List api_Trade) (nx : Int) (a : lombardlaw23_Act) (h : Inv l nx) (hx : api_Trade.bd a.X) (hy : api_Trade.bd a.Y) :
    ∃ l' nx', Inv l' nx' ∧ lombardlaw23_does.f ⟨l, nx, true⟩ ⟨l, nx⟩ a = some (true, ⟨l', nx', true⟩, ⟨l', nx'⟩) := by
  have fin : ∀ (l' : List api_Trade) (nx' e : Int), Inv l' nx' → ∀ m : Option (Int × Int × Bool × Int × Bool × (List api_Trade) × Int × (List api_Trade)), m = some (e, e, true, nx', true, l', nx', l') →
      (m.bind fun o32 =>
  (if (o32.2.2.1 && (o32.2.1 == o32.1)) = true then trade_Book_Next.f (⟨o32.2.2.2.2.2.2.2, o32.2.2.2.1, o32.2.2.2.2.1⟩ : trade_Book) else some default).bind fun t57 =>
  (if ((o32.2.2.1 && (o32.2.1 == o32.1)) && (t57 == o32.2.2.2.2.2.2.1)) = true then trade_Book_All.f (⟨o32.2.2.2.2.2.2.2, o32.2.2.2.1, o32.2.2.2.2.1⟩ : trade_Book) else some default).bind fun t59 =>
  (if ((o32.2.2.1 && (o32.2.1 == o32.1)) && (t57 == o32.2.2.2.2.2.2.1)) = true then lombardref23_All.f t59 o32.2.2.2.2.2.1 else some default).bind fun t61 =>
  some ((((o32.2.2.1 && (o32.2.1 == o32.1)) && (t57 == o32.2.2.2.2.2.2.1)) && t61), (⟨o32.2.2.2.2.2.2.2, o32.2.2.2.1, o32.2.2.2.2.1⟩ : trade_Book), (⟨o32.2.2.2.2.2.1, o32.2.2.2.2.2.2.1⟩ : lombardref23_Book))) = some (true, ⟨l', nx', true⟩, ⟨l', nx'⟩) := by
    intro l' nx' e hi m hm
    have fw := hi.few
    rw [hm, Option.bind_some]
    unfold trade_Book_Next.f
    simp only [beq_self_eq_true, Bool.and_self, if_true, Option.bind_some]
    rw [all_is ⟨l', nx', true⟩ (by show l'.length ≤ 100; omega) hi.rs, Option.bind_some]
    show (lombardref23_All.f l' l').bind _ = _
    rw [same_all l' (by omega) hi.rs]
    rfl
  unfold lombardlaw23_does.f
  by_cases k0 : a.Kind = 0
  · rcases novate_is l nx a.Fill h with ⟨e, e1, e2, e3⟩ | ⟨l', e1, e2, e3⟩
    · refine ⟨l, nx, h, fin l nx e h _ ?_⟩
      rw [if_pos (by simpa using k0), e2, e3]
      simp [e1]
    · refine ⟨l', nx + 2, e1, fin l' (nx + 2) 0 e1 _ ?_⟩
      have := h.next
      have w : IntKind.i64.wrap (nx + 2 - 1) = nx + 1 := by rw [i64_id _ (by omega) (by omega)]; omega
      rw [if_pos (by simpa using k0), e2, e3]
      simp [w]
  · by_cases k1 : a.Kind = 1
    · obtain ⟨e, l', e1, e2, e3⟩ := put_is l nx a.X a.Y h hx hy
      refine ⟨l', nx, e1, fin l' nx e e1 _ ?_⟩
      rw [if_neg (by simpa using k0), if_pos (by simpa using k1), e2, e3]; rfl
    · obtain ⟨e, l', e1, e2, e3⟩ := drop_is l nx a.ID h
      refine ⟨l', nx, e1, fin l' nx e e1 _ ?_⟩
      rw [if_neg (by simpa using k0), if_neg (by simpa using k1), e2, e3]; rfl

theorem inv_new : Inv [] 0 := ⟨fun k hk => by simp at hk, by decide, by decide, fun x hx => by cases hx⟩

end Go.Proofs.Ytidinbjehfodoaa

