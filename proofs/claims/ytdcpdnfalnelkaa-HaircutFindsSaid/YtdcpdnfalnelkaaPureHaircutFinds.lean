/- The plain statement of HaircutFinds. -/
import Derived.Test.YtdcpdnfalnelkaaPuBask
import Derived.Test.YtdcpdnfalnelkaaPuBook13
import Derived.Test.YtdcpdnfalnelkaaGx9
namespace Go.Proofs.Ytdcpdnfalnelkaa
open Go Go.Pm Go.Pm.Arith
set_option linter.unusedVariables false
set_option linter.unusedSimpArgs false

theorem finds_loop (known : List api_Asset) (few : known.length ≤ 40) : ∀ (j i : Nat) (l : List Kn), known.length = i + j → Inv l →
    ∃ l', Inv l' ∧ loop (lombardlaw15_HaircutFinds.r0 known) (l, (i : Int), true, l.map (·.A), l.map (·.Price)) = some (l', true, l'.map (·.A), l'.map (·.Price))
  | 0, i, l, h, hv => ⟨l, hv, loop_end (by
      unfold lombardlaw15_HaircutFinds.r0 lombardlaw15_HaircutFinds.b0
      simp only
      rw [if_neg (by simp; omega)])⟩
  | j + 1, i, l, h, hv => by
    obtain ⟨v, l', e1, e2, e3⟩ := addA_is l (nth known (i : Int)) hv
    have e2' : asset_Book_Add.f (⟨l.map (·.A), l.map (·.Price), true⟩ : asset_Book) (nth known (i : Int)) = some (v, bookOf l') := e2
    have key : lombardlaw15_HaircutFinds.r0 known (l, (i : Int), true, l.map (·.A), l.map (·.Price)) = some (.inl (l', ((i + 1 : Nat) : Int), true, l'.map (·.A), l'.map (·.Price))) := by
      unfold lombardlaw15_HaircutFinds.r0 lombardlaw15_HaircutFinds.b0
      simp only
      rw [if_pos (decide_eq_true (by omega)), if_pos (by omega), e2', Option.bind_some, if_pos (by omega), e1, Option.bind_some, i64_nx i (by omega)]
      rfl
    rw [loop_next key]
    exact finds_loop known few j (i + 1) l' (by omega) e3

theorem find_both (l : List Kn) (b : api_Basket) (x : api_Lot) (d : Int) (h : Inv l) (hc : b.Cuts.length < 100000000000000) :
    ∃ (p : haircut_Item) (q : lombardref15_Item) (e : Int), haircut_Find.f (bookOf l) b x d = some (p, e) ∧ lombardref15_Find.f l b x d = some (q, e) ∧ p.Lot = q.Lot ∧ p.Asset = q.Asset ∧ p.Price = q.Price ∧ p.Cut = q.Cut := by
  have few := h.few
  unfold haircut_Find.f lombardref15_Find.f asset_Book_Get.f asset_Book_Price.f
  rcases found l x.ISIN h.rise (by omega) with ⟨k, k1, k2, k3, k4⟩ | ⟨k1, ⟨i, i1, i2, i3, i4⟩, k3⟩
  · have hl : (0 : Int) ≤ (k : Int) ∧ (k : Int) < ((bookOf l).l.length : Int) := by show _ ∧ (k : Int) < ((l.map _).length : Int); rw [List.length_map]; omega
    have hp : (0 : Int) ≤ (k : Int) ∧ (k : Int) < ((bookOf l).prices.length : Int) := by show _ ∧ (k : Int) < ((l.map _).length : Int); rw [List.length_map]; omega
    have hk : (0 : Int) ≤ (k : Int) ∧ (k : Int) < (l.length : Int) := by omega
    have nl : nth (bookOf l).l (k : Int) = (nth l (k : Int)).A := nth_as l k
    have np : nth (bookOf l).prices (k : Int) = (nth l (k : Int)).Price := nth_pr l k
    rw [k4, k3]
    simp only [Option.bind_some]
    rw [if_neg (by decide : ¬ (!true) = true), if_pos hl, if_pos (fun _ => hp), np, nl, Option.bind_some, if_neg (by decide : ¬ (!true) = true), if_neg (by simp : ¬ decide ((k : Int) < 0) = true), if_pos hk]
    generalize nth l (k : Int) = y
    by_cases c : (y.Price == 0) = true
    · rw [if_pos (by rw [c]; rfl), if_pos c, Option.bind_some, if_pos (by rfl)]
      exact ⟨_, _, _, rfl, rfl, rfl, rfl, rfl, rfl⟩
    · have c' := Bool.eq_false_iff.2 c
      obtain ⟨z, z1, z2⟩ := of_both b y.A d hc
      rw [if_neg (by rw [c']; decide), if_pos hp, if_neg c, Option.bind_some, if_neg (fun h => by cases h), if_pos hk, z1, z2, Option.bind_some, Option.bind_some]
      by_cases c2 : (!z.2) = true
      · rw [if_pos c2, if_pos c2]
        exact ⟨_, _, _, rfl, rfl, rfl, rfl, rfl, rfl⟩
      · rw [if_neg c2, if_neg c2]
        by_cases c3 : ((decide (x.Qty < 0)) || (decide (x.Qty > 1125899906842624))) = true
        · rw [if_pos c3, if_pos c3]
          exact ⟨_, _, _, rfl, rfl, rfl, rfl, rfl, rfl⟩
        · rw [if_neg c3, if_neg c3, if_pos hk, if_pos hk]
          exact ⟨_, _, _, rfl, rfl, rfl, rfl, rfl, rfl⟩
  · rw [k3, i4]
    simp only [Option.bind_some]
    rw [if_pos (by rfl : (!false) = true), Option.bind_some, if_pos (by rfl : (!false) = true), if_pos (by decide : decide ((-1 : Int) < 0) = true)]
    exact ⟨_, _, _, rfl, rfl, rfl, rfl, rfl, rfl⟩

theorem none_is (b : api_Basket) (x : api_Lot) (d : Int) : haircut_Find_v2.f b x d = some ((⟨(⟨[], 0⟩ : api_Lot), (⟨[], 0, 0, 0, []⟩ : api_Asset), 0, 0⟩ : haircut_Item), 21) := by
  unfold haircut_Find_v2.f asset_Book_Get_v2.f
  rfl

theorem Pure.HaircutFinds : ∀ (x0 : List api_Asset) (x1 : List api_Price) (x2 : api_Basket) (x3 : api_Lot) (x4 : Int), (x0.length * 56 ≤ reach ∧ ∀ y ∈ x0, api_Asset.bd y) → (x1.length * 24 ≤ reach ∧ ∀ y ∈ x1, api_Price.bd y) → (api_Basket.bd x2) → (api_Lot.bd x3) → (inK .i64 x4) → lombardlaw15_HaircutFinds.f x0 x1 x2 x3 x4 = some true := by
  intro known ps b x d _ _ hb _ _
  obtain ⟨_, _, _, _, _, _, hc, _, _, hb, _⟩ := hb
  have hc : b.Cuts.length < 100000000000000 := by have := hc.1; unfold reach at this; omega
  have hb : b.Barred.length < 100000000000000 := by have := hb.1; unfold reach at this; omega
  obtain ⟨r, hr⟩ := basket_is b hc hb
  unfold lombardlaw15_HaircutFinds.f
  rw [hr, Option.bind_some]
  by_cases c : (((r != 0) || (decide ((known.length : Int) > 40))) || (decide ((ps.length : Int) > 100))) = true
  · rw [if_pos c, awake_is]; rfl
  · rw [if_neg c]
    simp only [Bool.or_eq_true, decide_eq_true_eq, not_or] at c
    obtain ⟨l, v, e⟩ := finds_loop known (by omega) known.length 0 [] (by omega) ⟨fun i j _ h => (by simp at h), by simp, fun x h => (by cases h)⟩
    have e' : loop (lombardlaw15_HaircutFinds.r0 known) ([], 0, (⟨[], [], true⟩ : asset_Book).made, (⟨[], [], true⟩ : asset_Book).l, (⟨[], [], true⟩ : asset_Book).prices) = _ := e
    obtain ⟨n, f, l', s1, s2, s3⟩ := set_is l ps v (by omega)
    obtain ⟨p, q, g, f1, f2, f3, f4, f5, f6⟩ := find_both l' b x d s3 hc
    unfold asset_New.f
    rw [Option.bind_some, e', Option.bind_some]
    have s2' : asset_Book_Set.f (⟨l.map (·.A), l.map (·.Price), true⟩ : asset_Book) ps = some (n, f, bookOf l') := s2
    simp only
    rw [s2', Option.bind_some, s1, Option.bind_some]
    simp only
    rw [f1, f2, none_is, Option.bind_some, Option.bind_some, Option.bind_some, f3, f4, f5, f6, if_pos (by simp), awake_is]
    simp

end Go.Proofs.Ytdcpdnfalnelkaa

