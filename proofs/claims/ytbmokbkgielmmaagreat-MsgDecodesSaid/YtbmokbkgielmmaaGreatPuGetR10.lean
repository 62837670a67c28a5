/- Shows that the document reads of a message what the program reads, and comes as far. -/
import Derived.Test.YtbmokbkgielmmaaGreatPuRdR10
import Derived.Test.YtbmokbkgielmmaaGreatPuGet10
import Derived.Test.YtbmokbkgielmmaaGreatGx5
import Derived.Test.YtbmokbkgielmmaaGreatGx2
import Derived.Test.YtbmokbkgielmmaaGreatGx2
import Derived.Test.YtbmokbkgielmmaaGreatGx6
import Derived.Test.YtbmokbkgielmmaaGreatGx6
namespace Go.Proofs.YtbmokbkgielmmaaGreat
open Go Go.Pm Go.Pm.Arith
set_option linter.unusedVariables false
set_option linter.unusedSimpArgs false
noncomputable def docSeq : Nat → lombardref09_Reader → Option (lombardref09_Reader × List Int)
 | 0, r => some (r, [])
 | n + 1, r => (lombardref09_Reader_Int.f r).bind fun a => (docSeq n a.1).bind fun b => some (b.1, a.2 :: b.2)
theorem nums_loop (k : Nat) (hk : k ≤ 20) : ∀ (j i : Nat) (r : lombardref09_Reader) (acc : List Int), k = i + j → acc.length = i →
 loop (lombardref10_nums.r0 (k : Int)) ((i : Int), r.S, r.At, r.E, acc) = (docSeq j r).bind fun b => some (b.1.S, b.1.At, b.1.E, acc ++ b.2)
 | 0, i, r, acc, h, ha => by
  obtain rfl : k = i := by omega
  rw [loop_end (show lombardref10_nums.r0 (k : Int) ((k : Int), r.S, r.At, r.E, acc) = some (.inr (r.S, r.At, r.E, acc)) by
   unfold lombardref10_nums.r0 lombardref10_nums.b0
   rw [if_neg (by simp)])]
  simp only [docSeq, Option.bind_some, List.append_nil]
 | j + 1, i, r, acc, h, ha => by
  have e : lombardref10_nums.r0 (k : Int) ((i : Int), r.S, r.At, r.E, acc) = (lombardref09_Reader_Int.f r).bind fun t31 => some (.inl (((i + 1 : Nat) : Int), t31.1.S, t31.1.At, t31.1.E, acc ++ [t31.2])) := by
   unfold lombardref10_nums.r0 lombardref10_nums.b0
   simp only
   rw [if_pos (decide_eq_true (by omega)), i64_nx i (by omega)]
   congr 1
   funext t
   rw [if_pos (by simp; omega)]
  rw [loop_eq, e]
  simp only [docSeq, Option.bind_assoc, Option.bind_some]
  congr 1
  funext t
  rw [nums_loop k hk j (i + 1) t.1 (acc ++ [t.2]) (by omega) (by simp [ha])]
  congr 1
  funext b
  rw [List.append_assoc]; rfl
theorem nums_eq (k : Nat) (hk : k ≤ 20) (r : lombardref09_Reader) : lombardref10_nums.f r (k : Int) = docSeq k r := by
 have h := nums_loop k hk k 0 r [] (by omega) rfl
 have h' : loop (lombardref10_nums.r0 (k : Int)) (0, r.S, r.At, r.E, []) = _ := h
 unfold lombardref10_nums.f
 rw [h', Option.bind_assoc]
 simp only [Option.bind_some, List.nil_append]
 cases docSeq k r <;> rfl
theorem pick2 {α : Type} (a b : Int) (x : Option α) : (if (0 : Int) ≤ 0 ∧ 0 < (List.length [a, b] : Int) then if (0 : Int) ≤ 1 ∧ 1 < (List.length [a, b] : Int) then x else none else none) = x := rfl
theorem pick3 {α : Type} (a b c : Int) (x : Option α) : (if (0 : Int) ≤ 0 ∧ 0 < (List.length [a, b, c] : Int) then if (0 : Int) ≤ 1 ∧ 1 < (List.length [a, b, c] : Int) then if (0 : Int) ≤ 2 ∧ 2 < (List.length [a, b, c] : Int) then x else none else none else none) = x := rfl
theorem each_bd {α β : Type} (φ : β → α) (s : Bs) (gp : Int × Bs × Int × Int × List α → Option ((Int × Bs × Int × Int × List α) ⊕ (Bs × Int × Int × List α))) (gd : Int × Bs × Int × Int × List β → Option ((Int × Bs × Int × Int × List β) ⊕ (Bs × Int × Int × List β))) (n : Nat)
 (pend : ∀ (at' e : Int) (acc : List α), gp ((n : Int), s, at', e, acc) = some (.inr (s, at', e, acc)))
 (dend : ∀ (i : Nat) (at' e : Int) (acc : List β), (i = n ∨ e ≠ 0) → gd ((i : Int), s, at', e, acc) = some (.inr (s, at', e, acc)))
 (step : ∀ (i p : Nat) (e : Int) (acc : List α) (acd : List β), i < n → p ≤ s.length → acc.length = i → acd.length ≤ i → ∃ (v : α) (w : β) (q : Nat) (e' : Int), gp ((i : Int), s, (p : Int), e, acc) = some (.inl (((i + 1 : Nat) : Int), s, (q : Int), e', acc ++ [v])) ∧
  (e = 0 → gd ((i : Int), s, (p : Int), e, acd) = some (.inl (((i + 1 : Nat) : Int), s, (q : Int), e', acd ++ [w]))) ∧ q ≤ s.length ∧ (e' = 0 → e = 0 ∧ v = φ w) ∧ (e ≠ 0 → q = p ∧ e' = e)) :
 ∀ (j i p : Nat) (e : Int) (acc : List α) (acd : List β), n = i + j → p ≤ s.length → acc.length = i → acd.length ≤ i →
  ∃ (l : List α) (l' : List β) (q : Nat) (e' : Int), loop gp ((i : Int), s, (p : Int), e, acc) = some (s, (q : Int), e', acc ++ l) ∧ loop gd ((i : Int), s, (p : Int), e, acd) = some (s, (q : Int), e', acd ++ l') ∧ l.length = j ∧ l'.length ≤ j ∧ q ≤ s.length ∧
   (e' = 0 → e = 0 ∧ l = l'.map φ) ∧ (e ≠ 0 → q = p ∧ e' = e)
 | 0, i, p, e, acc, acd, h, hp, ha, hd => by
  obtain rfl : n = i := by omega
  exact ⟨[], [], p, e, by rw [List.append_nil]; exact loop_end (pend _ _ _), by rw [List.append_nil]; exact loop_end (dend _ _ _ _ (.inl rfl)), rfl, Nat.le_refl _, hp, fun z => ⟨z, rfl⟩, fun _ => ⟨rfl, rfl⟩⟩
 | j + 1, i, p, e, acc, acd, h, hp, ha, hd => by
  obtain ⟨v, w, q, e1, k1, k2, k3, k4, k5⟩ := step i p e acc acd (by omega) hp ha hd
  obtain ⟨l, l', q2, e2, l1, l2, l3, l4, l5, l6, l7⟩ := each_bd φ s gp gd n pend dend step j (i + 1) q e1 (acc ++ [v]) (acd ++ [w]) (by omega) k3 (by simp [ha]) (by simp; omega)
  by_cases z : e = 0
  ·refine ⟨v :: l, w :: l', q2, e2, by rw [loop_next k1, l1, List.append_assoc]; rfl, by rw [loop_next (k2 z), l2, List.append_assoc]; rfl, by simp [l3], by simp; omega, l5, fun y => ?_, fun y => absurd z y⟩
   obtain ⟨y1, y2⟩ := l6 y
   obtain ⟨y3, y4⟩ := k4 y1
   exact ⟨z, by rw [y4, y2]; rfl⟩
  ·obtain ⟨rfl, rfl⟩ := k5 z
   obtain ⟨rfl, rfl⟩ := l7 z
   refine ⟨v :: l, [], q2, e2, by rw [loop_next k1, l1, List.append_assoc]; rfl, by rw [List.append_nil]; exact loop_end (dend _ _ _ _ (.inr z)), by simp [l3], Nat.zero_le _, l5, fun y => absurd y z, fun _ => ⟨rfl, rfl⟩⟩
theorem Bd.loop {α β γ δ : Type} {s : Bs} {p : Nat} {e : Int} {F : Bs × Int × Int × List α → Option (γ × wire_Reader)} {G : Bs × Int × Int × List β → Option (lombardref09_Reader × δ)} {U' R' : γ → δ → Prop} (φ : β → α)
 (gp : Int × Bs × Int × Int × List α → Option ((Int × Bs × Int × Int × List α) ⊕ (Bs × Int × Int × List α))) (gd : Int × Bs × Int × Int × List β → Option ((Int × Bs × Int × Int × List β) ⊕ (Bs × Int × Int × List β))) (n : Nat) (hp : p ≤ s.length)
 (pend : ∀ (at' e : Int) (acc : List α), gp ((n : Int), s, at', e, acc) = some (.inr (s, at', e, acc)))
 (dend : ∀ (i : Nat) (at' e : Int) (acc : List β), (i = n ∨ e ≠ 0) → gd ((i : Int), s, at', e, acc) = some (.inr (s, at', e, acc)))
 (step : ∀ (i p : Nat) (e : Int) (acc : List α) (acd : List β), i < n → p ≤ s.length → acc.length = i → acd.length ≤ i → ∃ (v : α) (w : β) (q : Nat) (e' : Int), gp ((i : Int), s, (p : Int), e, acc) = some (.inl (((i + 1 : Nat) : Int), s, (q : Int), e', acc ++ [v])) ∧
  (e = 0 → gd ((i : Int), s, (p : Int), e, acd) = some (.inl (((i + 1 : Nat) : Int), s, (q : Int), e', acd ++ [w]))) ∧ q ≤ s.length ∧ (e' = 0 → e = 0 ∧ v = φ w) ∧ (e ≠ 0 → q = p ∧ e' = e))
 (k : ∀ (l : List α) (l' : List β) (q : Nat) (e' : Int), q ≤ s.length → l.length = n → l'.length ≤ n → (e' = 0 → l = l'.map φ) → Bd s q e' (F (s, (q : Int), e', l)) (G (s, (q : Int), e', l')) U' R') :
 Bd s p e ((loop gp (0, s, (p : Int), e, [])).bind F) ((loop gd (0, s, (p : Int), e, [])).bind G) U' R' := by
 obtain ⟨l, l', q, e1, l1, l2, l3, l4, l5, l6, l7⟩ := each_bd φ s gp gd n pend dend step n 0 p e [] [] (by omega) hp rfl (Nat.le_refl _)
 have l1' : Pm.loop gp (0, s, (p : Int), e, []) = some (s, (q : Int), e1, l) := l1
 have l2' : Pm.loop gd (0, s, (p : Int), e, []) = some (s, (q : Int), e1, l') := l2
 obtain ⟨v', w', q', e2, k1, k2, k3, k4, k5, k6⟩ := k l l' q e1 l5 l3 l4 (fun z => (l6 z).2)
 refine ⟨v', w', q', e2, by rw [l1']; exact k1, by rw [l2']; exact k2, k3, k4, fun z => ⟨(l6 (k5 z).1).1, (k5 z).2⟩, fun z => ?_⟩
 obtain ⟨rfl, rfl⟩ := l7 z
 exact k6 z
theorem lots_dend {s : Bs} (n : Nat) (i : Nat) (a b : Int) (c : List api_Lot) (h : i = n ∨ b ≠ 0) : lombardref10_lots.r0 (n : Int) ((i : Int), s, a, b, c) = some (.inr (s, a, b, c)) := by
 unfold lombardref10_lots.r0 lombardref10_lots.b0
 rw [if_neg (by simp; omega)]
def toPrice (x : api_Lot) : api_Price := ⟨x.ISIN, x.Qty⟩
theorem map_loop (r : lombardref09_Reader) (l : List api_Lot) (hl : l.length ≤ 64) : ∀ (j i : Nat), l.length = i + j → loop (lombardref10_read.r0 (r, l)) ((i : Int), (l.take i).map toPrice) = some (l.map toPrice)
 | 0, i, h => by
  rw [List.take_of_length_le (by omega)]
  exact loop_end (by unfold lombardref10_read.r0 lombardref10_read.b0; rw [if_neg (by simp; omega)])
 | j + 1, i, h => by
  have g : (0 : Int) ≤ (i : Int) ∧ (i : Int) < (l.length : Int) := by omega
  have key : lombardref10_read.r0 (r, l) ((i : Int), (l.take i).map toPrice) = some (.inl (((i + 1 : Nat) : Int), (l.take (i + 1)).map toPrice)) := by
   unfold lombardref10_read.r0 lombardref10_read.b0
   simp only
   rw [if_pos (decide_eq_true g.2), if_pos g, if_pos g, if_pos (by simp; omega), i64_nx i (by omega), nth_at l i (by omega), ← List.take_append_getElem (show i < l.length by omega), List.map_append]
   rfl
  rw [loop_next key, map_loop r l hl j (i + 1) (by omega)]
theorem basket_eq (r : lombardref09_Reader) : lombardref10_basket.f r = (lombardref09_Reader_Int.f r).bind fun a0 => (lombardref09_Reader_Int.f a0.1).bind fun a1 => (lombardref09_Reader_Int.f a1.1).bind fun a2 => (lombardref09_Reader_Int.f a2.1).bind fun a3 => (lombardref09_Reader_Int.f a3.1).bind fun a4 => (lombardref09_Reader_Int.f a4.1).bind fun a5 => (lombardref09_Reader_Int.f a5.1).bind fun a6 => (lombardref09_Reader_Text.f a6.1 12).bind fun t => (lombardref09_Reader_Count.f t.1 64).bind fun t12 => (loop (lombardref10_basket.r0 t12) (0, t12.1.S, t12.1.At, t12.1.E, [])).bind fun o56 => (lombardref09_Reader_Ints.f (⟨o56.1, o56.2.1, o56.2.2.1⟩ : lombardref09_Reader) 64).bind fun t67 => some (t67.1, (⟨a0.2, a1.2, t.2, a2.2, a3.2, a4.2, o56.2.2.2, a5.2, a6.2, t67.2⟩ : api_Basket)) := by
 unfold lombardref10_basket.f
 rw [show lombardref10_nums.f r 7 = docSeq 7 r from nums_eq 7 (by decide) r]
 simp only [docSeq, Option.bind_assoc, Option.bind_some]
 all_goals rfl
section
variable {s : Bs} (hs : s.length < 1000000000) {p : Nat} (hp : p ≤ s.length) (e : Int)
include hs hp
theorem bd_ints : Bd s p e (wire_Reader_Ints.f ⟨s, (p : Int), e⟩ 64) (lombardref09_Reader_Ints.f ⟨s, (p : Int), e⟩ 64) (fun _ _ => True) (fun x y => x = y) := by
 unfold wire_Reader_Ints.f lombardref09_Reader_Ints.f
 refine (bd_count hs hp e).bind fun n n' q e1 hq hn _ => ?_
 obtain ⟨rfl, h0, h1⟩ := hn
 obtain ⟨k, rfl⟩ : ∃ k : Nat, n = k := ⟨n.toNat, by omega⟩
 refine Bd.loop id (wire_Reader_Ints.r0 ((k : Int), (⟨s, (q : Int), e1⟩ : wire_Reader))) (lombardref09_Reader_Ints.r0 ((⟨s, (q : Int), e1⟩ : lombardref09_Reader), (k : Int))) k hq (fun a b c => ?_) (fun i a b c h => ?_) (fun i p e acc acd hi hp ha hd => ?_) (fun l l' q e' hq hl hl' hr => ?_)
 ·unfold wire_Reader_Ints.r0 wire_Reader_Ints.b0
  rw [if_neg (by simp)]
 ·unfold lombardref09_Reader_Ints.r0 lombardref09_Reader_Ints.b0
  rw [if_neg (by simp; omega)]
 ·obtain ⟨v, w, q, e', g1, g2, g3, rfl, g5, g6⟩ := bd_int hs hp e
  refine ⟨v, v, q, e', ?_, fun z => ?_, g3, fun z => ⟨(g5 z).1, rfl⟩, g6⟩
  ·unfold wire_Reader_Ints.r0 wire_Reader_Ints.b0
   simp only
   rw [if_pos (decide_eq_true (by omega)), g1, Option.bind_some, if_pos (by simp; omega), i64_nx i (by omega)]
  ·subst z
   unfold lombardref09_Reader_Ints.r0 lombardref09_Reader_Ints.b0
   simp only
   rw [if_pos (by simp; omega), g2, Option.bind_some, if_pos (by simp; omega), i64_nx i (by omega)]
 ·by_cases z : e' = 0
  ·subst z
   have := hr rfl
   rw [List.map_id] at this
   subst this
   exact Bd.fin l l hq trivial (fun _ => rfl)
  ·simp only
   rw [if_pos (by simpa using z), if_pos (by simpa using z)]
   exact Bd.fin [] [] hq trivial (fun _ => rfl)
theorem bd_lot : Bd s p e (msg_decoder_lot.f ⟨s, (p : Int), e⟩) ((lombardref09_Reader_Text.f ⟨s, (p : Int), e⟩ 12).bind fun t44 => (lombardref09_Reader_Int.f t44.1).bind fun t46 => some (t46.1, (⟨t44.2, t46.2⟩ : api_Lot))) (fun x y => x = y) (fun _ _ => True) := by
 unfold msg_decoder_lot.f
 refine (bd_text12 hs hp e).bind fun t t' q e' hq ht _ => (bd_int hs hq e').bind fun n n' q e' hq hn _ => ?_
 subst ht
 subst hn
 exact Bd.fin (⟨t, n⟩ : api_Lot) (⟨t, n⟩ : api_Lot) hq rfl (fun _ => trivial)
theorem lots_step (n i : Nat) (hi : i < n) (h64 : n ≤ 64) (acd : List api_Lot) (hd : acd.length ≤ i) : ∃ (w : api_Lot) (q : Nat) (e' : Int), msg_decoder_lot.f ⟨s, (p : Int), e⟩ = some (w, ⟨s, (q : Int), e'⟩) ∧
 (e = 0 → lombardref10_lots.r0 (n : Int) ((i : Int), s, (p : Int), e, acd) = some (.inl (((i + 1 : Nat) : Int), s, (q : Int), e', acd ++ [w]))) ∧ q ≤ s.length ∧ (e' = 0 → e = 0) ∧ (e ≠ 0 → q = p ∧ e' = e) := by
 obtain ⟨v, w, q, e', g1, g2, g3, rfl, g5, g6⟩ := bd_lot hs hp e
 refine ⟨v, q, e', g1, fun z => ?_, g3, fun z => (g5 z).1, g6⟩
 subst z
 obtain ⟨t, t', q1, e1, a1, a2, a3, rfl, _, _⟩ := bd_text12 hs hp 0
 rw [a2, Option.bind_some] at g2
 obtain ⟨m, m', q2, e2, b1, b2, b3, rfl, _, _⟩ := bd_int hs a3 e1
 simp only at g2
 rw [b2, Option.bind_some] at g2
 injection g2 with g2
 injection g2 with g2 g4
 injection g2 with _ g7 g8
 subst g4
 unfold lombardref10_lots.r0 lombardref10_lots.b0
 simp only
 rw [if_pos (by simp; omega), a2, Option.bind_some]
 simp only
 rw [b2, Option.bind_some, if_pos (by simp; omega), i64_nx i (by omega)]
 rw [g7, g8]
theorem bd_swapIn {γ δ : Type} {F : Bs × Int × Int × List api_Lot → Option (γ × wire_Reader)} {G : lombardref09_Reader × List api_Lot → Option (lombardref09_Reader × δ)} {U' R' : γ → δ → Prop} (n : Nat) (h64 : n ≤ 64) (r0 : wire_Reader)
 (k : ∀ (l l' : List api_Lot) (q : Nat) (e' : Int), q ≤ s.length → l.length = n → l'.length ≤ n → (e' = 0 → l = l') → Bd s q e' (F (s, (q : Int), e', l)) (G (⟨s, (q : Int), e'⟩, l')) U' R') :
 Bd s p e ((loop (msg_decoder_swap.r0 ((n : Int), r0)) (0, s, (p : Int), e, [])).bind F) ((lombardref10_lots.f ⟨s, (p : Int), e⟩ (n : Int)).bind G) U' R' := by
 unfold lombardref10_lots.f
 rw [Option.bind_assoc]
 simp only [Option.bind_some]
 refine Bd.loop id _ _ n hp (fun a b c => ?_) (lots_dend n) (fun i p e acc acd hi hp ha hd => ?_) (fun l l' q e' hq hl hl' hr => ?_)
 ·unfold msg_decoder_swap.r0 msg_decoder_swap.b0
  rw [if_neg (by simp)]
 ·obtain ⟨w, q, e', g1, g2, g3, g4, g5⟩ := lots_step hs hp e n i hi h64 acd hd
  refine ⟨w, w, q, e', ?_, g2, g3, fun z => ⟨g4 z, rfl⟩, g5⟩
  unfold msg_decoder_swap.r0 msg_decoder_swap.b0
  simp only
  rw [if_pos (decide_eq_true (by omega)), g1, Option.bind_some, if_pos (by simp; omega), i64_nx i (by omega)]
 ·exact k l l' q e' hq hl hl' (fun z => by have := hr z; rwa [List.map_id] at this)
theorem bd_pricesL {γ δ : Type} {F : Bs × Int × Int × List api_Price → Option (γ × wire_Reader)} {G : lombardref09_Reader × List api_Lot → Option (lombardref09_Reader × δ)} {U' R' : γ → δ → Prop} (n : Nat) (h64 : n ≤ 64) (r0 : wire_Reader)
 (k : ∀ (l : List api_Price) (l' : List api_Lot) (q : Nat) (e' : Int), q ≤ s.length → l.length = n → l'.length ≤ n → (e' = 0 → l = l'.map toPrice) → Bd s q e' (F (s, (q : Int), e', l)) (G (⟨s, (q : Int), e'⟩, l')) U' R') :
 Bd s p e ((loop (msg_decoder_prices.r0 ((n : Int), r0)) (0, s, (p : Int), e, [])).bind F) ((lombardref10_lots.f ⟨s, (p : Int), e⟩ (n : Int)).bind G) U' R' := by
 unfold lombardref10_lots.f
 rw [Option.bind_assoc]
 simp only [Option.bind_some]
 refine Bd.loop toPrice _ _ n hp (fun a b c => ?_) (lots_dend n) (fun i p e acc acd hi hp ha hd => ?_) (fun l l' q e' hq hl hl' hr => ?_)
 ·unfold msg_decoder_prices.r0 msg_decoder_prices.b0
  rw [if_neg (by simp)]
 ·obtain ⟨w, q, e', g1, g2, g3, g4, g5⟩ := lots_step hs hp e n i hi h64 acd hd
  refine ⟨toPrice w, w, q, e', ?_, g2, g3, fun z => ⟨g4 z, rfl⟩, g5⟩
  obtain ⟨t, t', q1, e1, a1, a2, a3, rfl, _, _⟩ := bd_text12 hs hp e
  obtain ⟨m, m', q2, e2, b1, b2, b3, rfl, _, _⟩ := bd_int hs a3 e1
  unfold msg_decoder_lot.f at g1
  rw [a1, Option.bind_some] at g1
  simp only at g1
  rw [b1, Option.bind_some] at g1
  injection g1 with g1
  injection g1 with g1 g6
  injection g6 with _ g7 g8
  subst g1
  unfold msg_decoder_prices.r0 msg_decoder_prices.b0
  simp only
  rw [if_pos (decide_eq_true (by omega)), a1, Option.bind_some]
  simp only
  rw [b1, Option.bind_some, if_pos (by simp; omega), i64_nx i (by omega), g7, g8]
  rfl
 ·exact k l l' q e' hq hl hl' hr
def Same10 (k : Int) (m : msg_Message) (M : lombardref10_Msg) : Prop := lombardlaw10_Of.f M = some m ∧ lombardlaw10_Told.f m = some M ∧ lombardref10_Plain.f M = some M
theorem bd_get1 : Bd s p e (msg_decoder_get.f ⟨s, (p : Int), e⟩ 1) (lombardref10_read.f ⟨s, (p : Int), e⟩ (⟨1, 0, [], (⟨[], 0, 0, 0, []⟩ : api_Asset), (⟨0, 0, [], 0, 0, 0, [], 0, 0, []⟩ : api_Basket), [], 0, [], 0, (⟨0, 0, 0, 0, 0, 0, 0, 0⟩ : api_Quote), (⟨[], 0⟩ : api_Lot), [], 0, false, 0⟩ : lombardref10_Msg)) (fun _ _ => True) (Same10 1) := by
 have e1 : lombardref10_read.f ⟨s, (p : Int), e⟩ (⟨1, 0, [], (⟨[], 0, 0, 0, []⟩ : api_Asset), (⟨0, 0, [], 0, 0, 0, [], 0, 0, []⟩ : api_Basket), [], 0, [], 0, (⟨0, 0, 0, 0, 0, 0, 0, 0⟩ : api_Quote), (⟨[], 0⟩ : api_Lot), [], 0, false, 0⟩ : lombardref10_Msg) = (lombardref09_Reader_Int.f ⟨s, (p : Int), e⟩).bind fun a0 => (lombardref09_Reader_Text.f a0.1 160).bind fun t => some (t.1, (⟨1, a0.2, t.2, (⟨[], 0, 0, 0, []⟩ : api_Asset), (⟨0, 0, [], 0, 0, 0, [], 0, 0, []⟩ : api_Basket), [], 0, [], 0, (⟨0, 0, 0, 0, 0, 0, 0, 0⟩ : api_Quote), (⟨[], 0⟩ : api_Lot), [], 0, false, 0⟩ : lombardref10_Msg)) := by
  have e0 : lombardref10_read.f ⟨s, (p : Int), e⟩ (⟨1, 0, [], (⟨[], 0, 0, 0, []⟩ : api_Asset), (⟨0, 0, [], 0, 0, 0, [], 0, 0, []⟩ : api_Basket), [], 0, [], 0, (⟨0, 0, 0, 0, 0, 0, 0, 0⟩ : api_Quote), (⟨[], 0⟩ : api_Lot), [], 0, false, 0⟩ : lombardref10_Msg) = ((lombardref09_Reader_Int.f ⟨s, (p : Int), e⟩).bind fun t14 => (lombardref09_Reader_Text.f t14.1 160).bind fun t16 => some (t16.1.S, t16.1.At, t16.1.E, t14.2, t16.2)).bind fun o => some (⟨o.1, o.2.1, o.2.2.1⟩, (⟨1, o.2.2.2.1, o.2.2.2.2, (⟨[], 0, 0, 0, []⟩ : api_Asset), (⟨0, 0, [], 0, 0, 0, [], 0, 0, []⟩ : api_Basket), [], 0, [], 0, (⟨0, 0, 0, 0, 0, 0, 0, 0⟩ : api_Quote), (⟨[], 0⟩ : api_Lot), [], 0, false, 0⟩ : lombardref10_Msg)) := rfl
  rw [e0]
  simp only [docSeq, Option.bind_assoc, Option.bind_some, pick2, pick3]
  all_goals rfl
 rw [e1]
 refine (bd_int hs hp e).bind fun v0 w0 q e' hq h0 _ => (bd_text160 hs hq e').bind fun t t' q e' hq ht _ => ?_
 subst h0
 subst ht
 exact Bd.fin (msg_Message.cmsg_Join ⟨v0, t⟩) (⟨1, v0, t, (⟨[], 0, 0, 0, []⟩ : api_Asset), (⟨0, 0, [], 0, 0, 0, [], 0, 0, []⟩ : api_Basket), [], 0, [], 0, (⟨0, 0, 0, 0, 0, 0, 0, 0⟩ : api_Quote), (⟨[], 0⟩ : api_Lot), [], 0, false, 0⟩ : lombardref10_Msg) hq trivial (fun _ => ⟨rfl, rfl, rfl⟩)
theorem bd_get5 : Bd s p e (msg_decoder_get.f ⟨s, (p : Int), e⟩ 5) (lombardref10_read.f ⟨s, (p : Int), e⟩ (⟨5, 0, [], (⟨[], 0, 0, 0, []⟩ : api_Asset), (⟨0, 0, [], 0, 0, 0, [], 0, 0, []⟩ : api_Basket), [], 0, [], 0, (⟨0, 0, 0, 0, 0, 0, 0, 0⟩ : api_Quote), (⟨[], 0⟩ : api_Lot), [], 0, false, 0⟩ : lombardref10_Msg)) (fun _ _ => True) (Same10 5) := by
 have e1 : lombardref10_read.f ⟨s, (p : Int), e⟩ (⟨5, 0, [], (⟨[], 0, 0, 0, []⟩ : api_Asset), (⟨0, 0, [], 0, 0, 0, [], 0, 0, []⟩ : api_Basket), [], 0, [], 0, (⟨0, 0, 0, 0, 0, 0, 0, 0⟩ : api_Quote), (⟨[], 0⟩ : api_Lot), [], 0, false, 0⟩ : lombardref10_Msg) = (lombardref09_Reader_Int.f ⟨s, (p : Int), e⟩).bind fun a0 => some (a0.1, (⟨5, 0, [], (⟨[], 0, 0, 0, []⟩ : api_Asset), (⟨0, 0, [], 0, 0, 0, [], 0, 0, []⟩ : api_Basket), [], a0.2, [], 0, (⟨0, 0, 0, 0, 0, 0, 0, 0⟩ : api_Quote), (⟨[], 0⟩ : api_Lot), [], 0, false, 0⟩ : lombardref10_Msg)) := by
  have e0 : lombardref10_read.f ⟨s, (p : Int), e⟩ (⟨5, 0, [], (⟨[], 0, 0, 0, []⟩ : api_Asset), (⟨0, 0, [], 0, 0, 0, [], 0, 0, []⟩ : api_Basket), [], 0, [], 0, (⟨0, 0, 0, 0, 0, 0, 0, 0⟩ : api_Quote), (⟨[], 0⟩ : api_Lot), [], 0, false, 0⟩ : lombardref10_Msg) = ((lombardref09_Reader_Int.f ⟨s, (p : Int), e⟩).bind fun t149 => some (t149.1.S, t149.1.At, t149.1.E, t149.2)).bind fun o => some (⟨o.1, o.2.1, o.2.2.1⟩, (⟨5, 0, [], (⟨[], 0, 0, 0, []⟩ : api_Asset), (⟨0, 0, [], 0, 0, 0, [], 0, 0, []⟩ : api_Basket), [], o.2.2.2, [], 0, (⟨0, 0, 0, 0, 0, 0, 0, 0⟩ : api_Quote), (⟨[], 0⟩ : api_Lot), [], 0, false, 0⟩ : lombardref10_Msg)) := rfl
  rw [e0]
  simp only [docSeq, Option.bind_assoc, Option.bind_some, pick2, pick3]
  all_goals rfl
 rw [e1]
 refine (bd_int hs hp e).bind fun v0 w0 q e' hq h0 _ => ?_
 subst h0
 exact Bd.fin (msg_Message.cmsg_Roll ⟨v0⟩) (⟨5, 0, [], (⟨[], 0, 0, 0, []⟩ : api_Asset), (⟨0, 0, [], 0, 0, 0, [], 0, 0, []⟩ : api_Basket), [], v0, [], 0, (⟨0, 0, 0, 0, 0, 0, 0, 0⟩ : api_Quote), (⟨[], 0⟩ : api_Lot), [], 0, false, 0⟩ : lombardref10_Msg) hq trivial (fun _ => ⟨rfl, rfl, rfl⟩)
theorem bd_get6 : Bd s p e (msg_decoder_get.f ⟨s, (p : Int), e⟩ 6) (lombardref10_read.f ⟨s, (p : Int), e⟩ (⟨6, 0, [], (⟨[], 0, 0, 0, []⟩ : api_Asset), (⟨0, 0, [], 0, 0, 0, [], 0, 0, []⟩ : api_Basket), [], 0, [], 0, (⟨0, 0, 0, 0, 0, 0, 0, 0⟩ : api_Quote), (⟨[], 0⟩ : api_Lot), [], 0, false, 0⟩ : lombardref10_Msg)) (fun _ _ => True) (Same10 6) := by
 have e1 : lombardref10_read.f ⟨s, (p : Int), e⟩ (⟨6, 0, [], (⟨[], 0, 0, 0, []⟩ : api_Asset), (⟨0, 0, [], 0, 0, 0, [], 0, 0, []⟩ : api_Basket), [], 0, [], 0, (⟨0, 0, 0, 0, 0, 0, 0, 0⟩ : api_Quote), (⟨[], 0⟩ : api_Lot), [], 0, false, 0⟩ : lombardref10_Msg) = (lombardref09_Reader_Int.f ⟨s, (p : Int), e⟩).bind fun a0 => (lombardref09_Reader_Int.f a0.1).bind fun a1 => (lombardref09_Reader_Text.f a1.1 12).bind fun t => some (t.1, (⟨6, a0.2, [], (⟨[], 0, 0, 0, []⟩ : api_Asset), (⟨0, 0, [], 0, 0, 0, [], 0, 0, []⟩ : api_Basket), [], 0, t.2, a1.2, (⟨0, 0, 0, 0, 0, 0, 0, 0⟩ : api_Quote), (⟨[], 0⟩ : api_Lot), [], 0, false, 0⟩ : lombardref10_Msg)) := by
  have e0 : lombardref10_read.f ⟨s, (p : Int), e⟩ (⟨6, 0, [], (⟨[], 0, 0, 0, []⟩ : api_Asset), (⟨0, 0, [], 0, 0, 0, [], 0, 0, []⟩ : api_Basket), [], 0, [], 0, (⟨0, 0, 0, 0, 0, 0, 0, 0⟩ : api_Quote), (⟨[], 0⟩ : api_Lot), [], 0, false, 0⟩ : lombardref10_Msg) = ((lombardref10_nums.f ⟨s, (p : Int), e⟩ 2).bind fun t168 => if (0 : Int) ≤ 0 ∧ 0 < (List.length t168.2 : Int) then if (0 : Int) ≤ 1 ∧ 1 < (List.length t168.2 : Int) then (lombardref09_Reader_Text.f t168.1 12).bind fun t172 => some (t172.1.S, t172.1.At, t172.1.E, (nth t168.2 0), t172.2, (nth t168.2 1)) else none else none).bind fun o => some (⟨o.1, o.2.1, o.2.2.1⟩, (⟨6, o.2.2.2.1, [], (⟨[], 0, 0, 0, []⟩ : api_Asset), (⟨0, 0, [], 0, 0, 0, [], 0, 0, []⟩ : api_Basket), [], 0, o.2.2.2.2.1, o.2.2.2.2.2, (⟨0, 0, 0, 0, 0, 0, 0, 0⟩ : api_Quote), (⟨[], 0⟩ : api_Lot), [], 0, false, 0⟩ : lombardref10_Msg)) := rfl
  rw [e0]
  rw [show lombardref10_nums.f ⟨s, (p : Int), e⟩ 2 = docSeq 2 ⟨s, (p : Int), e⟩ from nums_eq 2 (by decide) _]
  simp only [docSeq, Option.bind_assoc, Option.bind_some, pick2, pick3]
  all_goals rfl
 rw [e1]
 refine (bd_int hs hp e).bind fun v0 w0 q e' hq h0 _ => (bd_int hs hq e').bind fun v1 w1 q e' hq h1 _ => (bd_text12 hs hq e').bind fun t t' q e' hq ht _ => ?_
 subst h0
 subst h1
 subst ht
 exact Bd.fin (msg_Message.cmsg_Cash ⟨v0, t, v1⟩) (⟨6, v0, [], (⟨[], 0, 0, 0, []⟩ : api_Asset), (⟨0, 0, [], 0, 0, 0, [], 0, 0, []⟩ : api_Basket), [], 0, t, v1, (⟨0, 0, 0, 0, 0, 0, 0, 0⟩ : api_Quote), (⟨[], 0⟩ : api_Lot), [], 0, false, 0⟩ : lombardref10_Msg) hq trivial (fun _ => ⟨rfl, rfl, rfl⟩)
theorem bd_get7 : Bd s p e (msg_decoder_get.f ⟨s, (p : Int), e⟩ 7) (lombardref10_read.f ⟨s, (p : Int), e⟩ (⟨7, 0, [], (⟨[], 0, 0, 0, []⟩ : api_Asset), (⟨0, 0, [], 0, 0, 0, [], 0, 0, []⟩ : api_Basket), [], 0, [], 0, (⟨0, 0, 0, 0, 0, 0, 0, 0⟩ : api_Quote), (⟨[], 0⟩ : api_Lot), [], 0, false, 0⟩ : lombardref10_Msg)) (fun _ _ => True) (Same10 7) := by
 have e1 : lombardref10_read.f ⟨s, (p : Int), e⟩ (⟨7, 0, [], (⟨[], 0, 0, 0, []⟩ : api_Asset), (⟨0, 0, [], 0, 0, 0, [], 0, 0, []⟩ : api_Basket), [], 0, [], 0, (⟨0, 0, 0, 0, 0, 0, 0, 0⟩ : api_Quote), (⟨[], 0⟩ : api_Lot), [], 0, false, 0⟩ : lombardref10_Msg) = (lombardref09_Reader_Int.f ⟨s, (p : Int), e⟩).bind fun a0 => (lombardref09_Reader_Int.f a0.1).bind fun a1 => (lombardref09_Reader_Text.f a1.1 12).bind fun t => some (t.1, (⟨7, a0.2, [], (⟨[], 0, 0, 0, []⟩ : api_Asset), (⟨0, 0, [], 0, 0, 0, [], 0, 0, []⟩ : api_Basket), [], 0, t.2, a1.2, (⟨0, 0, 0, 0, 0, 0, 0, 0⟩ : api_Quote), (⟨[], 0⟩ : api_Lot), [], 0, false, 0⟩ : lombardref10_Msg)) := by
  have e0 : lombardref10_read.f ⟨s, (p : Int), e⟩ (⟨7, 0, [], (⟨[], 0, 0, 0, []⟩ : api_Asset), (⟨0, 0, [], 0, 0, 0, [], 0, 0, []⟩ : api_Basket), [], 0, [], 0, (⟨0, 0, 0, 0, 0, 0, 0, 0⟩ : api_Quote), (⟨[], 0⟩ : api_Lot), [], 0, false, 0⟩ : lombardref10_Msg) = ((lombardref10_nums.f ⟨s, (p : Int), e⟩ 2).bind fun t168 => if (0 : Int) ≤ 0 ∧ 0 < (List.length t168.2 : Int) then if (0 : Int) ≤ 1 ∧ 1 < (List.length t168.2 : Int) then (lombardref09_Reader_Text.f t168.1 12).bind fun t172 => some (t172.1.S, t172.1.At, t172.1.E, (nth t168.2 0), t172.2, (nth t168.2 1)) else none else none).bind fun o => some (⟨o.1, o.2.1, o.2.2.1⟩, (⟨7, o.2.2.2.1, [], (⟨[], 0, 0, 0, []⟩ : api_Asset), (⟨0, 0, [], 0, 0, 0, [], 0, 0, []⟩ : api_Basket), [], 0, o.2.2.2.2.1, o.2.2.2.2.2, (⟨0, 0, 0, 0, 0, 0, 0, 0⟩ : api_Quote), (⟨[], 0⟩ : api_Lot), [], 0, false, 0⟩ : lombardref10_Msg)) := rfl
  rw [e0]
  rw [show lombardref10_nums.f ⟨s, (p : Int), e⟩ 2 = docSeq 2 ⟨s, (p : Int), e⟩ from nums_eq 2 (by decide) _]
  simp only [docSeq, Option.bind_assoc, Option.bind_some, pick2, pick3]
  all_goals rfl
 rw [e1]
 refine (bd_int hs hp e).bind fun v0 w0 q e' hq h0 _ => (bd_int hs hq e').bind fun v1 w1 q e' hq h1 _ => (bd_text12 hs hq e').bind fun t t' q e' hq ht _ => ?_
 subst h0
 subst h1
 subst ht
 exact Bd.fin (msg_Message.cmsg_Move ⟨v0, t, v1⟩) (⟨7, v0, [], (⟨[], 0, 0, 0, []⟩ : api_Asset), (⟨0, 0, [], 0, 0, 0, [], 0, 0, []⟩ : api_Basket), [], 0, t, v1, (⟨0, 0, 0, 0, 0, 0, 0, 0⟩ : api_Quote), (⟨[], 0⟩ : api_Lot), [], 0, false, 0⟩ : lombardref10_Msg) hq trivial (fun _ => ⟨rfl, rfl, rfl⟩)
theorem bd_get8 : Bd s p e (msg_decoder_get.f ⟨s, (p : Int), e⟩ 8) (lombardref10_read.f ⟨s, (p : Int), e⟩ (⟨8, 0, [], (⟨[], 0, 0, 0, []⟩ : api_Asset), (⟨0, 0, [], 0, 0, 0, [], 0, 0, []⟩ : api_Basket), [], 0, [], 0, (⟨0, 0, 0, 0, 0, 0, 0, 0⟩ : api_Quote), (⟨[], 0⟩ : api_Lot), [], 0, false, 0⟩ : lombardref10_Msg)) (fun _ _ => True) (Same10 8) := by
 have e1 : lombardref10_read.f ⟨s, (p : Int), e⟩ (⟨8, 0, [], (⟨[], 0, 0, 0, []⟩ : api_Asset), (⟨0, 0, [], 0, 0, 0, [], 0, 0, []⟩ : api_Basket), [], 0, [], 0, (⟨0, 0, 0, 0, 0, 0, 0, 0⟩ : api_Quote), (⟨[], 0⟩ : api_Lot), [], 0, false, 0⟩ : lombardref10_Msg) = (lombardref09_Reader_Int.f ⟨s, (p : Int), e⟩).bind fun a0 => (lombardref09_Reader_Int.f a0.1).bind fun a1 => (lombardref09_Reader_Int.f a1.1).bind fun a2 => (lombardref09_Reader_Int.f a2.1).bind fun a3 => (lombardref09_Reader_Int.f a3.1).bind fun a4 => (lombardref09_Reader_Int.f a4.1).bind fun a5 => (lombardref09_Reader_Int.f a5.1).bind fun a6 => (lombardref09_Reader_Int.f a6.1).bind fun a7 => some (a7.1, (⟨8, 0, [], (⟨[], 0, 0, 0, []⟩ : api_Asset), (⟨0, 0, [], 0, 0, 0, [], 0, 0, []⟩ : api_Basket), [], 0, [], 0, (⟨a0.2, a1.2, a2.2, a3.2, a4.2, a5.2, a6.2, a7.2⟩ : api_Quote), (⟨[], 0⟩ : api_Lot), [], 0, false, 0⟩ : lombardref10_Msg)) := by
  have e0 : lombardref10_read.f ⟨s, (p : Int), e⟩ (⟨8, 0, [], (⟨[], 0, 0, 0, []⟩ : api_Asset), (⟨0, 0, [], 0, 0, 0, [], 0, 0, []⟩ : api_Basket), [], 0, [], 0, (⟨0, 0, 0, 0, 0, 0, 0, 0⟩ : api_Quote), (⟨[], 0⟩ : api_Lot), [], 0, false, 0⟩ : lombardref10_Msg) = (lombardref10_nums.f ⟨s, (p : Int), e⟩ 8).bind fun t175 => if (0 : Int) ≤ 0 ∧ 0 < (List.length t175.2 : Int) then if (0 : Int) ≤ 1 ∧ 1 < (List.length t175.2 : Int) then if (0 : Int) ≤ 2 ∧ 2 < (List.length t175.2 : Int) then if (0 : Int) ≤ 3 ∧ 3 < (List.length t175.2 : Int) then if (0 : Int) ≤ 4 ∧ 4 < (List.length t175.2 : Int) then if (0 : Int) ≤ 5 ∧ 5 < (List.length t175.2 : Int) then if (0 : Int) ≤ 6 ∧ 6 < (List.length t175.2 : Int) then if (0 : Int) ≤ 7 ∧ 7 < (List.length t175.2 : Int) then some (t175.1, (⟨8, 0, [], (⟨[], 0, 0, 0, []⟩ : api_Asset), (⟨0, 0, [], 0, 0, 0, [], 0, 0, []⟩ : api_Basket), [], 0, [], 0, (⟨(nth t175.2 0), (nth t175.2 1), (nth t175.2 2), (nth t175.2 3), (nth t175.2 4), (nth t175.2 5), (nth t175.2 6), (nth t175.2 7)⟩ : api_Quote), (⟨[], 0⟩ : api_Lot), [], 0, false, 0⟩ : lombardref10_Msg)) else none else none else none else none else none else none else none else none := rfl
  rw [e0]
  rw [show lombardref10_nums.f ⟨s, (p : Int), e⟩ 8 = docSeq 8 ⟨s, (p : Int), e⟩ from nums_eq 8 (by decide) _]
  simp only [docSeq, Option.bind_assoc, Option.bind_some, pick2, pick3]
  all_goals rfl
 rw [e1]
 have e2 : msg_decoder_get.f ⟨s, (p : Int), e⟩ 8 = (msg_decoder_quote.f ⟨s, (p : Int), e⟩).bind fun t33 => some (msg_Message.cmsg_Offer ⟨t33.1⟩, t33.2) := rfl
 unfold msg_decoder_quote.f at e2
 simp only [Option.bind_assoc, Option.bind_some] at e2
 rw [e2]
 refine (bd_int hs hp e).bind fun v0 w0 q e' hq h0 _ => (bd_int hs hq e').bind fun v1 w1 q e' hq h1 _ => (bd_int hs hq e').bind fun v2 w2 q e' hq h2 _ => (bd_int hs hq e').bind fun v3 w3 q e' hq h3 _ => (bd_int hs hq e').bind fun v4 w4 q e' hq h4 _ => (bd_int hs hq e').bind fun v5 w5 q e' hq h5 _ => (bd_int hs hq e').bind fun v6 w6 q e' hq h6 _ => (bd_int hs hq e').bind fun v7 w7 q e' hq h7 _ => ?_
 subst h0
 subst h1
 subst h2
 subst h3
 subst h4
 subst h5
 subst h6
 subst h7
 exact Bd.fin (msg_Message.cmsg_Offer ⟨⟨v0, v1, v2, v3, v4, v5, v6, v7⟩⟩) (⟨8, 0, [], (⟨[], 0, 0, 0, []⟩ : api_Asset), (⟨0, 0, [], 0, 0, 0, [], 0, 0, []⟩ : api_Basket), [], 0, [], 0, (⟨v0, v1, v2, v3, v4, v5, v6, v7⟩ : api_Quote), (⟨[], 0⟩ : api_Lot), [], 0, false, 0⟩ : lombardref10_Msg) hq trivial (fun _ => ⟨rfl, rfl, rfl⟩)
theorem bd_get9 : Bd s p e (msg_decoder_get.f ⟨s, (p : Int), e⟩ 9) (lombardref10_read.f ⟨s, (p : Int), e⟩ (⟨9, 0, [], (⟨[], 0, 0, 0, []⟩ : api_Asset), (⟨0, 0, [], 0, 0, 0, [], 0, 0, []⟩ : api_Basket), [], 0, [], 0, (⟨0, 0, 0, 0, 0, 0, 0, 0⟩ : api_Quote), (⟨[], 0⟩ : api_Lot), [], 0, false, 0⟩ : lombardref10_Msg)) (fun _ _ => True) (Same10 9) := by
 have e1 : lombardref10_read.f ⟨s, (p : Int), e⟩ (⟨9, 0, [], (⟨[], 0, 0, 0, []⟩ : api_Asset), (⟨0, 0, [], 0, 0, 0, [], 0, 0, []⟩ : api_Basket), [], 0, [], 0, (⟨0, 0, 0, 0, 0, 0, 0, 0⟩ : api_Quote), (⟨[], 0⟩ : api_Lot), [], 0, false, 0⟩ : lombardref10_Msg) = (lombardref09_Reader_Int.f ⟨s, (p : Int), e⟩).bind fun a0 => (lombardref09_Reader_Int.f a0.1).bind fun a1 => some (a1.1, (⟨9, a0.2, [], (⟨[], 0, 0, 0, []⟩ : api_Asset), (⟨0, 0, [], 0, 0, 0, [], 0, 0, []⟩ : api_Basket), [], 0, [], a1.2, (⟨0, 0, 0, 0, 0, 0, 0, 0⟩ : api_Quote), (⟨[], 0⟩ : api_Lot), [], 0, false, 0⟩ : lombardref10_Msg)) := by
  have e0 : lombardref10_read.f ⟨s, (p : Int), e⟩ (⟨9, 0, [], (⟨[], 0, 0, 0, []⟩ : api_Asset), (⟨0, 0, [], 0, 0, 0, [], 0, 0, []⟩ : api_Basket), [], 0, [], 0, (⟨0, 0, 0, 0, 0, 0, 0, 0⟩ : api_Quote), (⟨[], 0⟩ : api_Lot), [], 0, false, 0⟩ : lombardref10_Msg) = (((lombardref10_nums.f ⟨s, (p : Int), e⟩ 2).bind fun t15 => if (0 : Int) ≤ 0 ∧ 0 < (List.length t15.2 : Int) then if (0 : Int) ≤ 1 ∧ 1 < (List.length t15.2 : Int) then some (t15.1.S, t15.1.At, t15.1.E, (nth t15.2 0), (nth t15.2 1)) else none else none).bind fun o => some ((⟨o.1, o.2.1, o.2.2.1⟩ : lombardref09_Reader), (⟨9, o.2.2.2.1, [], (⟨[], 0, 0, 0, []⟩ : api_Asset), (⟨0, 0, [], 0, 0, 0, [], 0, 0, []⟩ : api_Basket), [], 0, [], o.2.2.2.2, (⟨0, 0, 0, 0, 0, 0, 0, 0⟩ : api_Quote), (⟨[], 0⟩ : api_Lot), [], 0, false, 0⟩ : lombardref10_Msg))).bind fun t => some (t.1, t.2) := rfl
  rw [e0]
  rw [show lombardref10_nums.f ⟨s, (p : Int), e⟩ 2 = docSeq 2 ⟨s, (p : Int), e⟩ from nums_eq 2 (by decide) _]
  simp only [docSeq, Option.bind_assoc, Option.bind_some, pick2, pick3]
  all_goals rfl
 rw [e1]
 refine (bd_int hs hp e).bind fun v0 w0 q e' hq h0 _ => (bd_int hs hq e').bind fun v1 w1 q e' hq h1 _ => ?_
 subst h0
 subst h1
 exact Bd.fin (msg_Message.cmsg_Cancel ⟨v0, v1⟩) (⟨9, v0, [], (⟨[], 0, 0, 0, []⟩ : api_Asset), (⟨0, 0, [], 0, 0, 0, [], 0, 0, []⟩ : api_Basket), [], 0, [], v1, (⟨0, 0, 0, 0, 0, 0, 0, 0⟩ : api_Quote), (⟨[], 0⟩ : api_Lot), [], 0, false, 0⟩ : lombardref10_Msg) hq trivial (fun _ => ⟨rfl, rfl, rfl⟩)
theorem bd_get14 : Bd s p e (msg_decoder_get.f ⟨s, (p : Int), e⟩ 14) (lombardref10_read.f ⟨s, (p : Int), e⟩ (⟨14, 0, [], (⟨[], 0, 0, 0, []⟩ : api_Asset), (⟨0, 0, [], 0, 0, 0, [], 0, 0, []⟩ : api_Basket), [], 0, [], 0, (⟨0, 0, 0, 0, 0, 0, 0, 0⟩ : api_Quote), (⟨[], 0⟩ : api_Lot), [], 0, false, 0⟩ : lombardref10_Msg)) (fun _ _ => True) (Same10 14) := by
 have e1 : lombardref10_read.f ⟨s, (p : Int), e⟩ (⟨14, 0, [], (⟨[], 0, 0, 0, []⟩ : api_Asset), (⟨0, 0, [], 0, 0, 0, [], 0, 0, []⟩ : api_Basket), [], 0, [], 0, (⟨0, 0, 0, 0, 0, 0, 0, 0⟩ : api_Quote), (⟨[], 0⟩ : api_Lot), [], 0, false, 0⟩ : lombardref10_Msg) = (lombardref09_Reader_Int.f ⟨s, (p : Int), e⟩).bind fun a0 => (lombardref09_Reader_Int.f a0.1).bind fun a1 => some (a1.1, (⟨14, a0.2, [], (⟨[], 0, 0, 0, []⟩ : api_Asset), (⟨0, 0, [], 0, 0, 0, [], 0, 0, []⟩ : api_Basket), [], 0, [], a1.2, (⟨0, 0, 0, 0, 0, 0, 0, 0⟩ : api_Quote), (⟨[], 0⟩ : api_Lot), [], 0, false, 0⟩ : lombardref10_Msg)) := by
  have e0 : lombardref10_read.f ⟨s, (p : Int), e⟩ (⟨14, 0, [], (⟨[], 0, 0, 0, []⟩ : api_Asset), (⟨0, 0, [], 0, 0, 0, [], 0, 0, []⟩ : api_Basket), [], 0, [], 0, (⟨0, 0, 0, 0, 0, 0, 0, 0⟩ : api_Quote), (⟨[], 0⟩ : api_Lot), [], 0, false, 0⟩ : lombardref10_Msg) = (((lombardref10_nums.f ⟨s, (p : Int), e⟩ 2).bind fun t15 => if (0 : Int) ≤ 0 ∧ 0 < (List.length t15.2 : Int) then if (0 : Int) ≤ 1 ∧ 1 < (List.length t15.2 : Int) then some (t15.1.S, t15.1.At, t15.1.E, (nth t15.2 0), (nth t15.2 1)) else none else none).bind fun o => some ((⟨o.1, o.2.1, o.2.2.1⟩ : lombardref09_Reader), (⟨14, o.2.2.2.1, [], (⟨[], 0, 0, 0, []⟩ : api_Asset), (⟨0, 0, [], 0, 0, 0, [], 0, 0, []⟩ : api_Basket), [], 0, [], o.2.2.2.2, (⟨0, 0, 0, 0, 0, 0, 0, 0⟩ : api_Quote), (⟨[], 0⟩ : api_Lot), [], 0, false, 0⟩ : lombardref10_Msg))).bind fun t => some (t.1, t.2) := rfl
  rw [e0]
  rw [show lombardref10_nums.f ⟨s, (p : Int), e⟩ 2 = docSeq 2 ⟨s, (p : Int), e⟩ from nums_eq 2 (by decide) _]
  simp only [docSeq, Option.bind_assoc, Option.bind_some, pick2, pick3]
  all_goals rfl
 rw [e1]
 refine (bd_int hs hp e).bind fun v0 w0 q e' hq h0 _ => (bd_int hs hq e').bind fun v1 w1 q e' hq h1 _ => ?_
 subst h0
 subst h1
 exact Bd.fin (msg_Message.cmsg_Bound ⟨v0, v1⟩) (⟨14, v0, [], (⟨[], 0, 0, 0, []⟩ : api_Asset), (⟨0, 0, [], 0, 0, 0, [], 0, 0, []⟩ : api_Basket), [], 0, [], v1, (⟨0, 0, 0, 0, 0, 0, 0, 0⟩ : api_Quote), (⟨[], 0⟩ : api_Lot), [], 0, false, 0⟩ : lombardref10_Msg) hq trivial (fun _ => ⟨rfl, rfl, rfl⟩)
theorem bd_get10 : Bd s p e (msg_decoder_get.f ⟨s, (p : Int), e⟩ 10) (lombardref10_read.f ⟨s, (p : Int), e⟩ (⟨10, 0, [], (⟨[], 0, 0, 0, []⟩ : api_Asset), (⟨0, 0, [], 0, 0, 0, [], 0, 0, []⟩ : api_Basket), [], 0, [], 0, (⟨0, 0, 0, 0, 0, 0, 0, 0⟩ : api_Quote), (⟨[], 0⟩ : api_Lot), [], 0, false, 0⟩ : lombardref10_Msg)) (fun _ _ => True) (Same10 10) := by
 have e1 : lombardref10_read.f ⟨s, (p : Int), e⟩ (⟨10, 0, [], (⟨[], 0, 0, 0, []⟩ : api_Asset), (⟨0, 0, [], 0, 0, 0, [], 0, 0, []⟩ : api_Basket), [], 0, [], 0, (⟨0, 0, 0, 0, 0, 0, 0, 0⟩ : api_Quote), (⟨[], 0⟩ : api_Lot), [], 0, false, 0⟩ : lombardref10_Msg) = (lombardref09_Reader_Int.f ⟨s, (p : Int), e⟩).bind fun a0 => (lombardref09_Reader_Int.f a0.1).bind fun a1 => (lombardref09_Reader_Int.f a1.1).bind fun a2 => some (a2.1, (⟨10, a0.2, [], (⟨[], 0, 0, 0, []⟩ : api_Asset), (⟨0, 0, [], 0, 0, 0, [], 0, 0, []⟩ : api_Basket), [], a2.2, [], 0, (⟨0, 0, 0, 0, 0, 0, 0, 0⟩ : api_Quote), (⟨[], 0⟩ : api_Lot), [], a1.2, false, 0⟩ : lombardref10_Msg)) := by
  have e0 : lombardref10_read.f ⟨s, (p : Int), e⟩ (⟨10, 0, [], (⟨[], 0, 0, 0, []⟩ : api_Asset), (⟨0, 0, [], 0, 0, 0, [], 0, 0, []⟩ : api_Basket), [], 0, [], 0, (⟨0, 0, 0, 0, 0, 0, 0, 0⟩ : api_Quote), (⟨[], 0⟩ : api_Lot), [], 0, false, 0⟩ : lombardref10_Msg) = (((lombardref10_nums.f ⟨s, (p : Int), e⟩ 3).bind fun t34 => if (0 : Int) ≤ 0 ∧ 0 < (List.length t34.2 : Int) then if (0 : Int) ≤ 1 ∧ 1 < (List.length t34.2 : Int) then if (0 : Int) ≤ 2 ∧ 2 < (List.length t34.2 : Int) then some (t34.1.S, t34.1.At, t34.1.E, (nth t34.2 0), (nth t34.2 2), (nth t34.2 1)) else none else none else none).bind fun o => some ((⟨o.1, o.2.1, o.2.2.1⟩ : lombardref09_Reader), (⟨10, o.2.2.2.1, [], (⟨[], 0, 0, 0, []⟩ : api_Asset), (⟨0, 0, [], 0, 0, 0, [], 0, 0, []⟩ : api_Basket), [], o.2.2.2.2.1, [], 0, (⟨0, 0, 0, 0, 0, 0, 0, 0⟩ : api_Quote), (⟨[], 0⟩ : api_Lot), [], o.2.2.2.2.2, false, 0⟩ : lombardref10_Msg))).bind fun t => some (t.1, t.2) := rfl
  rw [e0]
  rw [show lombardref10_nums.f ⟨s, (p : Int), e⟩ 3 = docSeq 3 ⟨s, (p : Int), e⟩ from nums_eq 3 (by decide) _]
  simp only [docSeq, Option.bind_assoc, Option.bind_some, pick2, pick3]
  all_goals rfl
 rw [e1]
 refine (bd_int hs hp e).bind fun v0 w0 q e' hq h0 _ => (bd_int hs hq e').bind fun v1 w1 q e' hq h1 _ => (bd_int hs hq e').bind fun v2 w2 q e' hq h2 _ => ?_
 subst h0
 subst h1
 subst h2
 exact Bd.fin (msg_Message.cmsg_Notice ⟨v0, v1, v2⟩) (⟨10, v0, [], (⟨[], 0, 0, 0, []⟩ : api_Asset), (⟨0, 0, [], 0, 0, 0, [], 0, 0, []⟩ : api_Basket), [], v2, [], 0, (⟨0, 0, 0, 0, 0, 0, 0, 0⟩ : api_Quote), (⟨[], 0⟩ : api_Lot), [], v1, false, 0⟩ : lombardref10_Msg) hq trivial (fun _ => ⟨rfl, rfl, rfl⟩)
theorem bd_get15 : Bd s p e (msg_decoder_get.f ⟨s, (p : Int), e⟩ 15) (lombardref10_read.f ⟨s, (p : Int), e⟩ (⟨15, 0, [], (⟨[], 0, 0, 0, []⟩ : api_Asset), (⟨0, 0, [], 0, 0, 0, [], 0, 0, []⟩ : api_Basket), [], 0, [], 0, (⟨0, 0, 0, 0, 0, 0, 0, 0⟩ : api_Quote), (⟨[], 0⟩ : api_Lot), [], 0, false, 0⟩ : lombardref10_Msg)) (fun _ _ => True) (Same10 15) := by
 have e1 : lombardref10_read.f ⟨s, (p : Int), e⟩ (⟨15, 0, [], (⟨[], 0, 0, 0, []⟩ : api_Asset), (⟨0, 0, [], 0, 0, 0, [], 0, 0, []⟩ : api_Basket), [], 0, [], 0, (⟨0, 0, 0, 0, 0, 0, 0, 0⟩ : api_Quote), (⟨[], 0⟩ : api_Lot), [], 0, false, 0⟩ : lombardref10_Msg) = (lombardref09_Reader_Int.f ⟨s, (p : Int), e⟩).bind fun a0 => (lombardref09_Reader_Int.f a0.1).bind fun a1 => (lombardref09_Reader_Int.f a1.1).bind fun a2 => some (a2.1, (⟨15, 0, [], (⟨[], 0, 0, 0, []⟩ : api_Asset), (⟨0, 0, [], 0, 0, 0, [], 0, 0, []⟩ : api_Basket), [], a1.2, [], 0, (⟨0, 0, 0, 0, 0, 0, 0, 0⟩ : api_Quote), (⟨[], 0⟩ : api_Lot), [], a0.2, false, a2.2⟩ : lombardref10_Msg)) := by
  have e0 : lombardref10_read.f ⟨s, (p : Int), e⟩ (⟨15, 0, [], (⟨[], 0, 0, 0, []⟩ : api_Asset), (⟨0, 0, [], 0, 0, 0, [], 0, 0, []⟩ : api_Basket), [], 0, [], 0, (⟨0, 0, 0, 0, 0, 0, 0, 0⟩ : api_Quote), (⟨[], 0⟩ : api_Lot), [], 0, false, 0⟩ : lombardref10_Msg) = ((lombardref10_nums.f ⟨s, (p : Int), e⟩ 3).bind fun t122 => if (0 : Int) ≤ 0 ∧ 0 < (List.length t122.2 : Int) then if (0 : Int) ≤ 1 ∧ 1 < (List.length t122.2 : Int) then if (0 : Int) ≤ 2 ∧ 2 < (List.length t122.2 : Int) then some (t122.1, (⟨15, 0, [], (⟨[], 0, 0, 0, []⟩ : api_Asset), (⟨0, 0, [], 0, 0, 0, [], 0, 0, []⟩ : api_Basket), [], (nth t122.2 1), [], 0, (⟨0, 0, 0, 0, 0, 0, 0, 0⟩ : api_Quote), (⟨[], 0⟩ : api_Lot), [], (nth t122.2 0), false, (nth t122.2 2)⟩ : lombardref10_Msg)) else none else none else none).bind fun t => some (t.1, t.2) := rfl
  rw [e0]
  rw [show lombardref10_nums.f ⟨s, (p : Int), e⟩ 3 = docSeq 3 ⟨s, (p : Int), e⟩ from nums_eq 3 (by decide) _]
  simp only [docSeq, Option.bind_assoc, Option.bind_some, pick2, pick3]
  all_goals rfl
 rw [e1]
 refine (bd_int hs hp e).bind fun v0 w0 q e' hq h0 _ => (bd_int hs hq e').bind fun v1 w1 q e' hq h1 _ => (bd_int hs hq e').bind fun v2 w2 q e' hq h2 _ => ?_
 subst h0
 subst h1
 subst h2
 exact Bd.fin (msg_Message.cmsg_Reset ⟨v0, v1, v2⟩) (⟨15, 0, [], (⟨[], 0, 0, 0, []⟩ : api_Asset), (⟨0, 0, [], 0, 0, 0, [], 0, 0, []⟩ : api_Basket), [], v1, [], 0, (⟨0, 0, 0, 0, 0, 0, 0, 0⟩ : api_Quote), (⟨[], 0⟩ : api_Lot), [], v0, false, v2⟩ : lombardref10_Msg) hq trivial (fun _ => ⟨rfl, rfl, rfl⟩)
theorem bd_get13 : Bd s p e (msg_decoder_get.f ⟨s, (p : Int), e⟩ 13) (lombardref10_read.f ⟨s, (p : Int), e⟩ (⟨13, 0, [], (⟨[], 0, 0, 0, []⟩ : api_Asset), (⟨0, 0, [], 0, 0, 0, [], 0, 0, []⟩ : api_Basket), [], 0, [], 0, (⟨0, 0, 0, 0, 0, 0, 0, 0⟩ : api_Quote), (⟨[], 0⟩ : api_Lot), [], 0, false, 0⟩ : lombardref10_Msg)) (fun _ _ => True) (Same10 13) := by
 have e1 : lombardref10_read.f ⟨s, (p : Int), e⟩ (⟨13, 0, [], (⟨[], 0, 0, 0, []⟩ : api_Asset), (⟨0, 0, [], 0, 0, 0, [], 0, 0, []⟩ : api_Basket), [], 0, [], 0, (⟨0, 0, 0, 0, 0, 0, 0, 0⟩ : api_Quote), (⟨[], 0⟩ : api_Lot), [], 0, false, 0⟩ : lombardref10_Msg) = (lombardref09_Reader_Int.f ⟨s, (p : Int), e⟩).bind fun a0 => some (a0.1, (⟨13, a0.2, [], (⟨[], 0, 0, 0, []⟩ : api_Asset), (⟨0, 0, [], 0, 0, 0, [], 0, 0, []⟩ : api_Basket), [], 0, [], 0, (⟨0, 0, 0, 0, 0, 0, 0, 0⟩ : api_Quote), (⟨[], 0⟩ : api_Lot), [], 0, false, 0⟩ : lombardref10_Msg)) := by
  have e0 : lombardref10_read.f ⟨s, (p : Int), e⟩ (⟨13, 0, [], (⟨[], 0, 0, 0, []⟩ : api_Asset), (⟨0, 0, [], 0, 0, 0, [], 0, 0, []⟩ : api_Basket), [], 0, [], 0, (⟨0, 0, 0, 0, 0, 0, 0, 0⟩ : api_Quote), (⟨[], 0⟩ : api_Lot), [], 0, false, 0⟩ : lombardref10_Msg) = (((lombardref09_Reader_Int.f ⟨s, (p : Int), e⟩).bind fun t119 => some (t119.1.S, t119.1.At, t119.1.E, t119.2)).bind fun o => some ((⟨o.1, o.2.1, o.2.2.1⟩ : lombardref09_Reader), (⟨13, o.2.2.2, [], (⟨[], 0, 0, 0, []⟩ : api_Asset), (⟨0, 0, [], 0, 0, 0, [], 0, 0, []⟩ : api_Basket), [], 0, [], 0, (⟨0, 0, 0, 0, 0, 0, 0, 0⟩ : api_Quote), (⟨[], 0⟩ : api_Lot), [], 0, false, 0⟩ : lombardref10_Msg))).bind fun t => some (t.1, t.2) := rfl
  rw [e0]
  simp only [docSeq, Option.bind_assoc, Option.bind_some, pick2, pick3]
  all_goals rfl
 rw [e1]
 refine (bd_int hs hp e).bind fun v0 w0 q e' hq h0 _ => ?_
 subst h0
 exact Bd.fin (msg_Message.cmsg_Default ⟨v0⟩) (⟨13, v0, [], (⟨[], 0, 0, 0, []⟩ : api_Asset), (⟨0, 0, [], 0, 0, 0, [], 0, 0, []⟩ : api_Basket), [], 0, [], 0, (⟨0, 0, 0, 0, 0, 0, 0, 0⟩ : api_Quote), (⟨[], 0⟩ : api_Lot), [], 0, false, 0⟩ : lombardref10_Msg) hq trivial (fun _ => ⟨rfl, rfl, rfl⟩)
theorem bd_get12 : Bd s p e (msg_decoder_get.f ⟨s, (p : Int), e⟩ 12) (lombardref10_read.f ⟨s, (p : Int), e⟩ (⟨12, 0, [], (⟨[], 0, 0, 0, []⟩ : api_Asset), (⟨0, 0, [], 0, 0, 0, [], 0, 0, []⟩ : api_Basket), [], 0, [], 0, (⟨0, 0, 0, 0, 0, 0, 0, 0⟩ : api_Quote), (⟨[], 0⟩ : api_Lot), [], 0, false, 0⟩ : lombardref10_Msg)) (fun _ _ => True) (Same10 12) := by
 have e1 : lombardref10_read.f ⟨s, (p : Int), e⟩ (⟨12, 0, [], (⟨[], 0, 0, 0, []⟩ : api_Asset), (⟨0, 0, [], 0, 0, 0, [], 0, 0, []⟩ : api_Basket), [], 0, [], 0, (⟨0, 0, 0, 0, 0, 0, 0, 0⟩ : api_Quote), (⟨[], 0⟩ : api_Lot), [], 0, false, 0⟩ : lombardref10_Msg) = (lombardref09_Reader_Int.f ⟨s, (p : Int), e⟩).bind fun a0 => (lombardref09_Reader_Int.f a0.1).bind fun a1 => (lombardref09_Reader_Bool.f a1.1).bind fun t => some (t.1, (⟨12, a0.2, [], (⟨[], 0, 0, 0, []⟩ : api_Asset), (⟨0, 0, [], 0, 0, 0, [], 0, 0, []⟩ : api_Basket), [], a1.2, [], 0, (⟨0, 0, 0, 0, 0, 0, 0, 0⟩ : api_Quote), (⟨[], 0⟩ : api_Lot), [], 0, t.2, 0⟩ : lombardref10_Msg)) := by
  have e0 : lombardref10_read.f ⟨s, (p : Int), e⟩ (⟨12, 0, [], (⟨[], 0, 0, 0, []⟩ : api_Asset), (⟨0, 0, [], 0, 0, 0, [], 0, 0, []⟩ : api_Basket), [], 0, [], 0, (⟨0, 0, 0, 0, 0, 0, 0, 0⟩ : api_Quote), (⟨[], 0⟩ : api_Lot), [], 0, false, 0⟩ : lombardref10_Msg) = (((lombardref10_nums.f ⟨s, (p : Int), e⟩ 2).bind fun t103 => if (0 : Int) ≤ 0 ∧ 0 < (List.length t103.2 : Int) then if (0 : Int) ≤ 1 ∧ 1 < (List.length t103.2 : Int) then (lombardref09_Reader_Bool.f t103.1).bind fun t107 => some (t107.1.S, t107.1.At, t107.1.E, (nth t103.2 0), (nth t103.2 1), t107.2) else none else none).bind fun o => some ((⟨o.1, o.2.1, o.2.2.1⟩ : lombardref09_Reader), (⟨12, o.2.2.2.1, [], (⟨[], 0, 0, 0, []⟩ : api_Asset), (⟨0, 0, [], 0, 0, 0, [], 0, 0, []⟩ : api_Basket), [], o.2.2.2.2.1, [], 0, (⟨0, 0, 0, 0, 0, 0, 0, 0⟩ : api_Quote), (⟨[], 0⟩ : api_Lot), [], 0, o.2.2.2.2.2, 0⟩ : lombardref10_Msg))).bind fun t => some (t.1, t.2) := rfl
  rw [e0]
  rw [show lombardref10_nums.f ⟨s, (p : Int), e⟩ 2 = docSeq 2 ⟨s, (p : Int), e⟩ from nums_eq 2 (by decide) _]
  simp only [docSeq, Option.bind_assoc, Option.bind_some, pick2, pick3]
  all_goals rfl
 rw [e1]
 refine (bd_int hs hp e).bind fun v0 w0 q e' hq h0 _ => (bd_int hs hq e').bind fun v1 w1 q e' hq h1 _ => (bd_bool hs hq e').bind fun t t' q e' hq ht _ => ?_
 subst h0
 subst h1
 subst ht
 exact Bd.fin (msg_Message.cmsg_Settle ⟨v0, v1, t⟩) (⟨12, v0, [], (⟨[], 0, 0, 0, []⟩ : api_Asset), (⟨0, 0, [], 0, 0, 0, [], 0, 0, []⟩ : api_Basket), [], v1, [], 0, (⟨0, 0, 0, 0, 0, 0, 0, 0⟩ : api_Quote), (⟨[], 0⟩ : api_Lot), [], 0, t, 0⟩ : lombardref10_Msg) hq trivial (fun _ => ⟨rfl, rfl, rfl⟩)
theorem bd_get2 : Bd s p e (msg_decoder_get.f ⟨s, (p : Int), e⟩ 2) (lombardref10_read.f ⟨s, (p : Int), e⟩ (⟨2, 0, [], (⟨[], 0, 0, 0, []⟩ : api_Asset), (⟨0, 0, [], 0, 0, 0, [], 0, 0, []⟩ : api_Basket), [], 0, [], 0, (⟨0, 0, 0, 0, 0, 0, 0, 0⟩ : api_Quote), (⟨[], 0⟩ : api_Lot), [], 0, false, 0⟩ : lombardref10_Msg)) (fun _ _ => True) (Same10 2) := by
 have e1 : lombardref10_read.f ⟨s, (p : Int), e⟩ (⟨2, 0, [], (⟨[], 0, 0, 0, []⟩ : api_Asset), (⟨0, 0, [], 0, 0, 0, [], 0, 0, []⟩ : api_Basket), [], 0, [], 0, (⟨0, 0, 0, 0, 0, 0, 0, 0⟩ : api_Quote), (⟨[], 0⟩ : api_Lot), [], 0, false, 0⟩ : lombardref10_Msg) = (lombardref09_Reader_Text.f ⟨s, (p : Int), e⟩ 12).bind fun x => (lombardref09_Reader_Int.f x.1).bind fun a0 => (lombardref09_Reader_Int.f a0.1).bind fun a1 => (lombardref09_Reader_Int.f a1.1).bind fun a2 => (lombardref09_Reader_Text.f a2.1 12).bind fun t => some (t.1, (⟨2, 0, [], (⟨x.2, a0.2, a1.2, a2.2, t.2⟩ : api_Asset), (⟨0, 0, [], 0, 0, 0, [], 0, 0, []⟩ : api_Basket), [], 0, [], 0, (⟨0, 0, 0, 0, 0, 0, 0, 0⟩ : api_Quote), (⟨[], 0⟩ : api_Lot), [], 0, false, 0⟩ : lombardref10_Msg)) := by
  have e0 : lombardref10_read.f ⟨s, (p : Int), e⟩ (⟨2, 0, [], (⟨[], 0, 0, 0, []⟩ : api_Asset), (⟨0, 0, [], 0, 0, 0, [], 0, 0, []⟩ : api_Basket), [], 0, [], 0, (⟨0, 0, 0, 0, 0, 0, 0, 0⟩ : api_Quote), (⟨[], 0⟩ : api_Lot), [], 0, false, 0⟩ : lombardref10_Msg) = ((lombardref09_Reader_Text.f ⟨s, (p : Int), e⟩ 12).bind fun t39 => (lombardref10_nums.f t39.1 3).bind fun t41 => if (0 : Int) ≤ 0 ∧ 0 < (List.length t41.2 : Int) then if (0 : Int) ≤ 1 ∧ 1 < (List.length t41.2 : Int) then if (0 : Int) ≤ 2 ∧ 2 < (List.length t41.2 : Int) then (lombardref09_Reader_Text.f t41.1 12).bind fun t46 => some (t46.1.S, t46.1.At, t46.1.E, t39.2, (nth t41.2 0), (nth t41.2 1), (nth t41.2 2), t46.2) else none else none else none).bind fun o => some (⟨o.1, o.2.1, o.2.2.1⟩, (⟨2, 0, [], (⟨o.2.2.2.1, o.2.2.2.2.1, o.2.2.2.2.2.1, o.2.2.2.2.2.2.1, o.2.2.2.2.2.2.2⟩ : api_Asset), (⟨0, 0, [], 0, 0, 0, [], 0, 0, []⟩ : api_Basket), [], 0, [], 0, (⟨0, 0, 0, 0, 0, 0, 0, 0⟩ : api_Quote), (⟨[], 0⟩ : api_Lot), [], 0, false, 0⟩ : lombardref10_Msg)) := rfl
  rw [e0]
  have nn : ∀ r, lombardref10_nums.f r 3 = docSeq 3 r := fun r => nums_eq 3 (by decide) r
  simp only [nn]
  simp only [docSeq, Option.bind_assoc, Option.bind_some, pick2, pick3]
  all_goals rfl
 rw [e1]
 have e2 : msg_decoder_get.f ⟨s, (p : Int), e⟩ 2 = (msg_decoder_asset.f ⟨s, (p : Int), e⟩).bind fun t7 => some (msg_Message.cmsg_List ⟨t7.1⟩, t7.2) := rfl
 unfold msg_decoder_asset.f at e2
 simp only [Option.bind_assoc, Option.bind_some] at e2
 rw [e2]
 refine (bd_text12 hs hp e).bind fun x x' q e' hq hx _ => (bd_int hs hq e').bind fun v0 w0 q e' hq h0 _ => (bd_int hs hq e').bind fun v1 w1 q e' hq h1 _ => (bd_int hs hq e').bind fun v2 w2 q e' hq h2 _ => (bd_text12 hs hq e').bind fun t t' q e' hq ht _ => ?_
 subst h0
 subst h1
 subst h2
 subst hx
 subst ht
 exact Bd.fin (msg_Message.cmsg_List ⟨⟨x, v0, v1, v2, t⟩⟩) (⟨2, 0, [], (⟨x, v0, v1, v2, t⟩ : api_Asset), (⟨0, 0, [], 0, 0, 0, [], 0, 0, []⟩ : api_Basket), [], 0, [], 0, (⟨0, 0, 0, 0, 0, 0, 0, 0⟩ : api_Quote), (⟨[], 0⟩ : api_Lot), [], 0, false, 0⟩ : lombardref10_Msg) hq trivial (fun _ => ⟨rfl, rfl, rfl⟩)
theorem bd_get4 : Bd s p e (msg_decoder_get.f ⟨s, (p : Int), e⟩ 4) (lombardref10_read.f ⟨s, (p : Int), e⟩ (⟨4, 0, [], (⟨[], 0, 0, 0, []⟩ : api_Asset), (⟨0, 0, [], 0, 0, 0, [], 0, 0, []⟩ : api_Basket), [], 0, [], 0, (⟨0, 0, 0, 0, 0, 0, 0, 0⟩ : api_Quote), (⟨[], 0⟩ : api_Lot), [], 0, false, 0⟩ : lombardref10_Msg)) (fun _ _ => True) (Same10 4) := by
 have e1 : lombardref10_read.f ⟨s, (p : Int), e⟩ (⟨4, 0, [], (⟨[], 0, 0, 0, []⟩ : api_Asset), (⟨0, 0, [], 0, 0, 0, [], 0, 0, []⟩ : api_Basket), [], 0, [], 0, (⟨0, 0, 0, 0, 0, 0, 0, 0⟩ : api_Quote), (⟨[], 0⟩ : api_Lot), [], 0, false, 0⟩ : lombardref10_Msg) = (lombardref09_Reader_Count.f ⟨s, (p : Int), e⟩ 64).bind fun t108 => (lombardref10_lots.f t108.1 t108.2).bind fun t110 => (loop (lombardref10_read.r0 t110) (0, [])).bind fun o132 => some (t110.1, (⟨4, 0, [], (⟨[], 0, 0, 0, []⟩ : api_Asset), (⟨0, 0, [], 0, 0, 0, [], 0, 0, []⟩ : api_Basket), o132, 0, [], 0, (⟨0, 0, 0, 0, 0, 0, 0, 0⟩ : api_Quote), (⟨[], 0⟩ : api_Lot), [], 0, false, 0⟩ : lombardref10_Msg)) := by
  have e0 : lombardref10_read.f ⟨s, (p : Int), e⟩ (⟨4, 0, [], (⟨[], 0, 0, 0, []⟩ : api_Asset), (⟨0, 0, [], 0, 0, 0, [], 0, 0, []⟩ : api_Basket), [], 0, [], 0, (⟨0, 0, 0, 0, 0, 0, 0, 0⟩ : api_Quote), (⟨[], 0⟩ : api_Lot), [], 0, false, 0⟩ : lombardref10_Msg) = ((lombardref09_Reader_Count.f ⟨s, (p : Int), e⟩ 64).bind fun t108 => (lombardref10_lots.f t108.1 t108.2).bind fun t110 => (loop (lombardref10_read.r0 t110) (0, [])).bind fun o132 => some (t110.1.S, t110.1.At, t110.1.E, o132)).bind fun o => some (⟨o.1, o.2.1, o.2.2.1⟩, (⟨4, 0, [], (⟨[], 0, 0, 0, []⟩ : api_Asset), (⟨0, 0, [], 0, 0, 0, [], 0, 0, []⟩ : api_Basket), o.2.2.2, 0, [], 0, (⟨0, 0, 0, 0, 0, 0, 0, 0⟩ : api_Quote), (⟨[], 0⟩ : api_Lot), [], 0, false, 0⟩ : lombardref10_Msg)) := rfl
  rw [e0]
  simp only [Option.bind_assoc, Option.bind_some]
 rw [e1]
 have e2 : msg_decoder_get.f ⟨s, (p : Int), e⟩ 4 = (msg_decoder_prices.f ⟨s, (p : Int), e⟩).bind fun t13 => some (msg_Message.cmsg_Prices t13.1, t13.2) := rfl
 unfold msg_decoder_prices.f at e2
 simp only [Option.bind_assoc, Option.bind_some] at e2
 rw [e2]
 refine (bd_count hs hp e).bind fun n n' q e' hq hn _ => ?_
 obtain ⟨rfl, n0, n1⟩ := hn
 obtain ⟨k, rfl⟩ : ∃ k : Nat, n = k := ⟨n.toNat, by omega⟩
 refine bd_pricesL hs hq e' k (by omega) _ (fun l l' q e' hq hl hl' hr => ?_)
 have ml := map_loop ⟨s, (q : Int), e'⟩ l' (by omega) l'.length 0 (by omega)
 have ml' : loop (lombardref10_read.r0 ((⟨s, (q : Int), e'⟩ : lombardref09_Reader), l')) (0, []) = some (l'.map toPrice) := ml
 rw [ml', Option.bind_some]
 exact Bd.fin (msg_Message.cmsg_Prices ⟨l⟩) (⟨4, 0, [], (⟨[], 0, 0, 0, []⟩ : api_Asset), (⟨0, 0, [], 0, 0, 0, [], 0, 0, []⟩ : api_Basket), (l'.map toPrice), 0, [], 0, (⟨0, 0, 0, 0, 0, 0, 0, 0⟩ : api_Quote), (⟨[], 0⟩ : api_Lot), [], 0, false, 0⟩ : lombardref10_Msg) hq trivial (fun z => by rw [hr z]; exact ⟨rfl, rfl, rfl⟩)
theorem bd_get11 : Bd s p e (msg_decoder_get.f ⟨s, (p : Int), e⟩ 11) (lombardref10_read.f ⟨s, (p : Int), e⟩ (⟨11, 0, [], (⟨[], 0, 0, 0, []⟩ : api_Asset), (⟨0, 0, [], 0, 0, 0, [], 0, 0, []⟩ : api_Basket), [], 0, [], 0, (⟨0, 0, 0, 0, 0, 0, 0, 0⟩ : api_Quote), (⟨[], 0⟩ : api_Lot), [], 0, false, 0⟩ : lombardref10_Msg)) (fun _ _ => True) (Same10 11) := by
 have e1 : lombardref10_read.f ⟨s, (p : Int), e⟩ (⟨11, 0, [], (⟨[], 0, 0, 0, []⟩ : api_Asset), (⟨0, 0, [], 0, 0, 0, [], 0, 0, []⟩ : api_Basket), [], 0, [], 0, (⟨0, 0, 0, 0, 0, 0, 0, 0⟩ : api_Quote), (⟨[], 0⟩ : api_Lot), [], 0, false, 0⟩ : lombardref10_Msg) = (lombardref09_Reader_Int.f ⟨s, (p : Int), e⟩).bind fun a0 => (lombardref09_Reader_Int.f a0.1).bind fun a1 => (lombardref10_lots.f a1.1 1).bind fun t73 => ((if ((List.length t73.2 : Int) == 1) = true then if (0 : Int) ≤ 0 ∧ 0 < (List.length t73.2 : Int) then some ((nth t73.2 0).ISIN, (nth t73.2 0).Qty) else none else some ([], 0) : Option (Bs × Int))).bind fun o79 => (lombardref09_Reader_Count.f t73.1 64).bind fun t83 => (lombardref10_lots.f t83.1 t83.2).bind fun t85 => some (t85.1, (⟨11, a0.2, [], (⟨[], 0, 0, 0, []⟩ : api_Asset), (⟨0, 0, [], 0, 0, 0, [], 0, 0, []⟩ : api_Basket), [], 0, [], 0, (⟨0, 0, 0, 0, 0, 0, 0, 0⟩ : api_Quote), (⟨o79.1, o79.2⟩ : api_Lot), t85.2, a1.2, false, 0⟩ : lombardref10_Msg)) := by
  have e0 : lombardref10_read.f ⟨s, (p : Int), e⟩ (⟨11, 0, [], (⟨[], 0, 0, 0, []⟩ : api_Asset), (⟨0, 0, [], 0, 0, 0, [], 0, 0, []⟩ : api_Basket), [], 0, [], 0, (⟨0, 0, 0, 0, 0, 0, 0, 0⟩ : api_Quote), (⟨[], 0⟩ : api_Lot), [], 0, false, 0⟩ : lombardref10_Msg) = (((lombardref10_nums.f ⟨s, (p : Int), e⟩ 2).bind fun t69 => if (0 : Int) ≤ 0 ∧ 0 < (List.length t69.2 : Int) then if (0 : Int) ≤ 1 ∧ 1 < (List.length t69.2 : Int) then (lombardref10_lots.f t69.1 1).bind fun t73 => ((if ((List.length t73.2 : Int) == 1) = true then if (0 : Int) ≤ 0 ∧ 0 < (List.length t73.2 : Int) then some ((nth t73.2 0).ISIN, (nth t73.2 0).Qty) else none else some ([], 0) : Option (Bs × Int))).bind fun o79 => (lombardref09_Reader_Count.f t73.1 64).bind fun t83 => (lombardref10_lots.f t83.1 t83.2).bind fun t85 => some (t85.1.S, t85.1.At, t85.1.E, (nth t69.2 0), o79.1, o79.2, t85.2, (nth t69.2 1)) else none else none).bind fun o => some ((⟨o.1, o.2.1, o.2.2.1⟩ : lombardref09_Reader), (⟨11, o.2.2.2.1, [], (⟨[], 0, 0, 0, []⟩ : api_Asset), (⟨0, 0, [], 0, 0, 0, [], 0, 0, []⟩ : api_Basket), [], 0, [], 0, (⟨0, 0, 0, 0, 0, 0, 0, 0⟩ : api_Quote), (⟨o.2.2.2.2.1, o.2.2.2.2.2.1⟩ : api_Lot), o.2.2.2.2.2.2.1, o.2.2.2.2.2.2.2, false, 0⟩ : lombardref10_Msg))).bind fun t => some (t.1, t.2) := rfl
  rw [e0]
  rw [show lombardref10_nums.f ⟨s, (p : Int), e⟩ 2 = docSeq 2 ⟨s, (p : Int), e⟩ from nums_eq 2 (by decide) _]
  simp only [docSeq, Option.bind_assoc, Option.bind_some, pick2, pick3]
  all_goals rfl
 rw [e1]
 have e2 : msg_decoder_get.f ⟨s, (p : Int), e⟩ 11 = (msg_decoder_swap.f ⟨s, (p : Int), e⟩).bind fun t48 => some (msg_Message.cmsg_Swap t48.1, t48.2) := rfl
 unfold msg_decoder_swap.f at e2
 simp only [Option.bind_assoc, Option.bind_some] at e2
 rw [e2]
 refine (bd_int hs hp e).bind fun v0 w0 q e' hq h0 _ => (bd_int hs hq e').bind fun v1 w1 q e' hq h1 _ => ?_
 subst h0
 subst h1
 have fin : ∀ (o o' : api_Lot) (q : Nat) (e' : Int) (hq : q ≤ s.length) (ho : e' = 0 → o = o'), Bd s q e' ((wire_Reader_Count.f ⟨s, (q : Int), e'⟩ 64).bind fun t7 => (loop (msg_decoder_swap.r0 t7) (0, t7.2.s, t7.2.at', t7.2.e, [])).bind fun o35 => some (msg_Message.cmsg_Swap ⟨v0, v1, o, o35.2.2.2⟩, (⟨o35.1, o35.2.1, o35.2.2.1⟩ : wire_Reader)))
  ((lombardref09_Reader_Count.f ⟨s, (q : Int), e'⟩ 64).bind fun t83 => (lombardref10_lots.f t83.1 t83.2).bind fun t85 => some (t85.1, (⟨11, v0, [], (⟨[], 0, 0, 0, []⟩ : api_Asset), (⟨0, 0, [], 0, 0, 0, [], 0, 0, []⟩ : api_Basket), [], 0, [], 0, (⟨0, 0, 0, 0, 0, 0, 0, 0⟩ : api_Quote), (⟨o'.ISIN, o'.Qty⟩ : api_Lot), t85.2, v1, false, 0⟩ : lombardref10_Msg))) (fun _ _ => True) (Same10 11) := fun o o' q e' hq ho => by
  obtain ⟨n, n', q1, e1, c1, c2, c3, ⟨rfl, n0, n1⟩, c5, c6⟩ := bd_count hs hq e'
  obtain ⟨k, rfl⟩ : ∃ k : Nat, n = k := ⟨n.toNat, by omega⟩
  have hb := bd_swapIn (F := fun o35 => some (msg_Message.cmsg_Swap ⟨v0, v1, o, o35.2.2.2⟩, (⟨o35.1, o35.2.1, o35.2.2.1⟩ : wire_Reader))) (G := fun t85 => some (t85.1, (⟨11, v0, [], (⟨[], 0, 0, 0, []⟩ : api_Asset), (⟨0, 0, [], 0, 0, 0, [], 0, 0, []⟩ : api_Basket), [], 0, [], 0, (⟨0, 0, 0, 0, 0, 0, 0, 0⟩ : api_Quote), (⟨o'.ISIN, o'.Qty⟩ : api_Lot), t85.2, v1, false, 0⟩ : lombardref10_Msg))) (U' := fun _ _ => True) (R' := fun m M => ∃ l, m = msg_Message.cmsg_Swap ⟨v0, v1, o, l⟩ ∧ M = (⟨11, v0, [], (⟨[], 0, 0, 0, []⟩ : api_Asset), (⟨0, 0, [], 0, 0, 0, [], 0, 0, []⟩ : api_Basket), [], 0, [], 0, (⟨0, 0, 0, 0, 0, 0, 0, 0⟩ : api_Quote), (⟨o'.ISIN, o'.Qty⟩ : api_Lot), l, v1, false, 0⟩ : lombardref10_Msg))
   hs c3 e1 k (by omega) ⟨s, (q1 : Int), e1⟩ (fun l l' q e' hq hl hl' hr => Bd.fin _ _ hq trivial (fun z => by rw [hr z]; exact ⟨l', rfl, rfl⟩))
  obtain ⟨m, M, q2, e2, d1, d2, d3, _, d5, d6⟩ := hb
  refine ⟨m, M, q2, e2, by rw [c1]; exact d1, by rw [c2]; exact d2, d3, trivial, fun z => ?_, fun z => ?_⟩
  ·obtain ⟨z1, l, rfl, rfl⟩ := d5 z
   have z2 := (c5 z1).1
   rw [ho z2]
   exact ⟨z2, rfl, rfl, rfl⟩
  ·obtain ⟨rfl, rfl⟩ := c6 z
   exact d6 z
 obtain ⟨w, q1, e1, g1, g2, g3, g4, g5⟩ := lots_step hs hq e' 1 0 (by decide) (by decide) [] (Nat.le_refl _)
 by_cases z : e' = 0
 ·have l1 : loop (lombardref10_lots.r0 1) (0, s, (q : Int), e', []) = some (s, (q1 : Int), e1, [w]) := by
   have g2' : lombardref10_lots.r0 1 (0, s, (q : Int), e', []) = some (.inl (1, s, (q1 : Int), e1, [w])) := g2 z
   rw [loop_next g2']
   exact loop_end (lots_dend 1 1 _ _ _ (.inl rfl))
  have l2 : lombardref10_lots.f ⟨s, (q : Int), e'⟩ 1 = some (⟨s, (q1 : Int), e1⟩, [w]) := by
   unfold lombardref10_lots.f
   rw [l1]; rfl
  have hb := fin w w q1 e1 g3 (fun _ => rfl)
  obtain ⟨m, M, q2, e2, d1, d2, d3, _, d5, d6⟩ := hb
  exact ⟨m, M, q2, e2, by rw [g1]; exact d1, by rw [l2]; exact d2, d3, trivial, fun y => ⟨z, (d5 y).2⟩, fun y => absurd z y⟩
 ·obtain ⟨rfl, rfl⟩ := g5 z
  have l1 : loop (lombardref10_lots.r0 1) (0, s, (q1 : Int), e1, []) = some (s, (q1 : Int), e1, []) := loop_end (lots_dend 1 0 _ _ _ (.inr z))
  have l2 : lombardref10_lots.f ⟨s, (q1 : Int), e1⟩ 1 = some (⟨s, (q1 : Int), e1⟩, []) := by
   unfold lombardref10_lots.f
   rw [l1]; rfl
  have hb := fin w ⟨[], 0⟩ q1 e1 g3 (fun y => absurd y z)
  obtain ⟨m, M, q2, e2, d1, d2, d3, _, d5, d6⟩ := hb
  exact ⟨m, M, q2, e2, by rw [g1]; exact d1, by rw [l2]; exact d2, d3, trivial, d5, d6⟩
theorem bd_get3 : Bd s p e (msg_decoder_get.f ⟨s, (p : Int), e⟩ 3) (lombardref10_read.f ⟨s, (p : Int), e⟩ (⟨3, 0, [], (⟨[], 0, 0, 0, []⟩ : api_Asset), (⟨0, 0, [], 0, 0, 0, [], 0, 0, []⟩ : api_Basket), [], 0, [], 0, (⟨0, 0, 0, 0, 0, 0, 0, 0⟩ : api_Quote), (⟨[], 0⟩ : api_Lot), [], 0, false, 0⟩ : lombardref10_Msg)) (fun _ _ => True) (Same10 3) := by
 have e1 : lombardref10_read.f ⟨s, (p : Int), e⟩ (⟨3, 0, [], (⟨[], 0, 0, 0, []⟩ : api_Asset), (⟨0, 0, [], 0, 0, 0, [], 0, 0, []⟩ : api_Basket), [], 0, [], 0, (⟨0, 0, 0, 0, 0, 0, 0, 0⟩ : api_Quote), (⟨[], 0⟩ : api_Lot), [], 0, false, 0⟩ : lombardref10_Msg) = (lombardref09_Reader_Int.f ⟨s, (p : Int), e⟩).bind fun a0 => (lombardref09_Reader_Int.f a0.1).bind fun a1 => (lombardref09_Reader_Int.f a1.1).bind fun a2 => (lombardref09_Reader_Int.f a2.1).bind fun a3 => (lombardref09_Reader_Int.f a3.1).bind fun a4 => (lombardref09_Reader_Int.f a4.1).bind fun a5 => (lombardref09_Reader_Int.f a5.1).bind fun a6 => (lombardref09_Reader_Text.f a6.1 12).bind fun t => (lombardref09_Reader_Count.f t.1 64).bind fun t12 => (loop (lombardref10_basket.r0 t12) (0, t12.1.S, t12.1.At, t12.1.E, [])).bind fun o56 => (lombardref09_Reader_Ints.f (⟨o56.1, o56.2.1, o56.2.2.1⟩ : lombardref09_Reader) 64).bind fun t67 => some (t67.1, (⟨3, 0, [], (⟨[], 0, 0, 0, []⟩ : api_Asset), (⟨a0.2, a1.2, t.2, a2.2, a3.2, a4.2, o56.2.2.2, a5.2, a6.2, t67.2⟩ : api_Basket), [], 0, [], 0, (⟨0, 0, 0, 0, 0, 0, 0, 0⟩ : api_Quote), (⟨[], 0⟩ : api_Lot), [], 0, false, 0⟩ : lombardref10_Msg)) := by
  have e0 : lombardref10_read.f ⟨s, (p : Int), e⟩ (⟨3, 0, [], (⟨[], 0, 0, 0, []⟩ : api_Asset), (⟨0, 0, [], 0, 0, 0, [], 0, 0, []⟩ : api_Basket), [], 0, [], 0, (⟨0, 0, 0, 0, 0, 0, 0, 0⟩ : api_Quote), (⟨[], 0⟩ : api_Lot), [], 0, false, 0⟩ : lombardref10_Msg) = ((lombardref10_basket.f ⟨s, (p : Int), e⟩).bind fun t67 => some (t67.1.S, t67.1.At, t67.1.E, t67.2.ID, t67.2.Version, t67.2.Currency, t67.2.Rating, t67.2.Least, t67.2.Most, t67.2.Cuts, t67.2.Issuer, t67.2.Asset, t67.2.Barred)).bind fun o => some (⟨o.1, o.2.1, o.2.2.1⟩, (⟨3, 0, [], (⟨[], 0, 0, 0, []⟩ : api_Asset), (⟨o.2.2.2.1, o.2.2.2.2.1, o.2.2.2.2.2.1, o.2.2.2.2.2.2.1, o.2.2.2.2.2.2.2.1, o.2.2.2.2.2.2.2.2.1, o.2.2.2.2.2.2.2.2.2.1, o.2.2.2.2.2.2.2.2.2.2.1, o.2.2.2.2.2.2.2.2.2.2.2.1, o.2.2.2.2.2.2.2.2.2.2.2.2⟩ : api_Basket), [], 0, [], 0, (⟨0, 0, 0, 0, 0, 0, 0, 0⟩ : api_Quote), (⟨[], 0⟩ : api_Lot), [], 0, false, 0⟩ : lombardref10_Msg)) := rfl
  rw [e0]
  rw [basket_eq]
  simp only [Option.bind_assoc, Option.bind_some]
 rw [e1]
 have e2 : msg_decoder_get.f ⟨s, (p : Int), e⟩ 3 = (msg_decoder_basket.f ⟨s, (p : Int), e⟩).bind fun t10 => some (msg_Message.cmsg_Rules ⟨t10.1⟩, t10.2) := rfl
 unfold msg_decoder_basket.f at e2
 simp only [Option.bind_assoc, Option.bind_some] at e2
 rw [e2]
 refine (bd_int hs hp e).bind fun v0 w0 q e' hq h0 _ => (bd_int hs hq e').bind fun v1 w1 q e' hq h1 _ => (bd_int hs hq e').bind fun v2 w2 q e' hq h2 _ => (bd_int hs hq e').bind fun v3 w3 q e' hq h3 _ => (bd_int hs hq e').bind fun v4 w4 q e' hq h4 _ => (bd_int hs hq e').bind fun v5 w5 q e' hq h5 _ => (bd_int hs hq e').bind fun v6 w6 q e' hq h6 _ => (bd_text12 hs hq e').bind fun t t' q e' hq ht _ => (bd_count hs hq e').bind fun n n' q e' hq hn _ => ?_
 subst h0
 subst h1
 subst h2
 subst h3
 subst h4
 subst h5
 subst h6
 subst ht
 obtain ⟨rfl, n0, n1⟩ := hn
 obtain ⟨k, rfl⟩ : ∃ k : Nat, n = k := ⟨n.toNat, by omega⟩
 refine Bd.loop id _ _ k hq (fun a b c => ?_) (fun i a b c h => ?_) (fun i p e acc acd hi hp ha hd => ?_) (fun l l' q e' hq hl hl' hr => ?_)
 ·unfold msg_decoder_basket.r0 msg_decoder_basket.b0
  rw [if_neg (by simp)]
 ·unfold lombardref10_basket.r0 lombardref10_basket.b0
  rw [if_neg (by simp; omega)]
 ·obtain ⟨m1, m1', q1, e1, a1, a2, a3, rfl, a5, a6⟩ := bd_int hs hp e
  obtain ⟨m2, m2', q2, e2, b1, b2, b3, rfl, b5, b6⟩ := bd_int hs a3 e1
  obtain ⟨m3, m3', q3, e3, c1, c2, c3, rfl, c5, c6⟩ := bd_int hs b3 e2
  refine ⟨⟨m1, m2, m3⟩, ⟨m1, m2, m3⟩, q3, e3, ?_, fun z => ?_, c3, fun z => ⟨(a5 (b5 (c5 z).1).1).1, rfl⟩, fun z => ?_⟩
  ·unfold msg_decoder_basket.r0 msg_decoder_basket.b0
   simp only
   rw [if_pos (decide_eq_true (by omega)), a1, Option.bind_some, b1, Option.bind_some, c1, Option.bind_some, if_pos (by simp; omega), i64_nx i (by omega)]
  ·subst z
   have nm : lombardref10_nums.f ⟨s, (p : Int), 0⟩ 3 = some (⟨s, (q3 : Int), e3⟩, [m1, m2, m3]) := by
    rw [show lombardref10_nums.f ⟨s, (p : Int), 0⟩ 3 = docSeq 3 ⟨s, (p : Int), 0⟩ from nums_eq 3 (by decide) _]
    simp only [docSeq, a2, b2, c2, Option.bind_some]
   unfold lombardref10_basket.r0 lombardref10_basket.b0
   simp only
   rw [if_pos (by simp; omega), nm, Option.bind_some, if_pos (by simp), if_pos (by simp), if_pos (by simp), if_pos (by simp; omega), i64_nx i (by omega)]
   rfl
  ·obtain ⟨rfl, rfl⟩ := a6 z
   obtain ⟨rfl, rfl⟩ := b6 z
   exact c6 z
 ·refine (bd_ints hs hq e').bind fun b b' q e2 hq _ hb => ?_
  exact Bd.fin (msg_Message.cmsg_Rules ⟨⟨v0, v1, t, v2, v3, v4, l, v5, v6, b⟩⟩) (⟨3, 0, [], (⟨[], 0, 0, 0, []⟩ : api_Asset), (⟨v0, v1, t, v2, v3, v4, l', v5, v6, b'⟩ : api_Basket), [], 0, [], 0, (⟨0, 0, 0, 0, 0, 0, 0, 0⟩ : api_Quote), (⟨[], 0⟩ : api_Lot), [], 0, false, 0⟩ : lombardref10_Msg) hq trivial (fun z => by
   obtain ⟨z1, rfl⟩ := hb z
   have := hr z1
   rw [List.map_id] at this
   subst this
   exact ⟨rfl, rfl, rfl⟩)
end
end Go.Proofs.YtbmokbkgielmmaaGreat
