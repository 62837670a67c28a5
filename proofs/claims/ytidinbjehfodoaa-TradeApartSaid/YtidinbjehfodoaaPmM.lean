/- The pure machine, part M: a call, by its contract. Conditions: none (definitions and lemmas alone). -/
import Derived.Test.YtidinbjehfodoaaPmL
namespace Go.Pm
open Go
set_option linter.unusedVariables false
set_option linter.unusedSimpArgs false

mutual
/-- What comes back of an argument that was handed over with rights: its tokens. -/
def back : AV → X → X → Nat → List (Nat × Tok) × Nat
  | .ptr q _, .xbox _, .xbox cs, k => ((q, .box (imps cs k).1) :: (imps cs k).2.1, (imps cs k).2.2)
  | .own q, .xown _ _ _, .xown e sz es, k => ([(q, .rows e sz es false)], k)
  | .agg l, .agg xs, .agg ys, k => backs l xs ys k
  | .tup l, .tup xs, .tup ys, k => backs l xs ys k
  | .fn _ l, .fn _ xs, .fn _ ys, k => backs l xs ys k
  | _, _, _, k => ([], k)
def backs : List AV → List X → List X → Nat → List (Nat × Tok) × Nat
  | a :: l, x :: xs, y :: ys, k => ((back a x y k).1 ++ (backs l xs ys (back a x y k).2).1, (backs l xs ys (back a x y k).2).2)
  | _, _, _, k => ([], k)
end

def backo : List AV → List X → List (Option X) → Nat → List (Nat × Tok) × Nat
  | a :: l, x :: xs, some y :: ss, k => ((back a x y k).1 ++ (backo l xs ss (back a x y k).2).1, (backo l xs ss (back a x y k).2).2)
  | _ :: l, _ :: xs, none :: ss, k => backo l xs ss k
  | _, _, _, k => ([], k)

mutual
theorem back_le : ∀ (a : AV) (x y : X) (k : Nat), k ≤ (back a x y k).2
  | .ptr q _, x, y, k => by
    cases x <;> cases y <;> simp only [back] <;> first | exact Nat.le_refl _ | exact imps_le _ _
  | .own q, x, y, k => by cases x <;> cases y <;> simp only [back] <;> exact Nat.le_refl _
  | .agg l, x, y, k => by
    cases x <;> cases y <;> simp only [back] <;> first | exact Nat.le_refl _ | exact backs_le l _ _ k
  | .tup l, x, y, k => by
    cases x <;> cases y <;> simp only [back] <;> first | exact Nat.le_refl _ | exact backs_le l _ _ k
  | .fn _ l, x, y, k => by
    cases x <;> cases y <;> simp only [back] <;> first | exact Nat.le_refl _ | exact backs_le l _ _ k
  | .imm _, x, y, k => by cases x <;> cases y <;> exact Nat.le_refl _
  | .view _ _ _ _, x, y, k => by cases x <;> cases y <;> exact Nat.le_refl _
  | .eptr _ _ _ _, x, y, k => by cases x <;> cases y <;> exact Nat.le_refl _
  | .cap _ _ _ _ _, x, y, k => by cases x <;> cases y <;> exact Nat.le_refl _
  | .rptr _ _, x, y, k => by cases x <;> cases y <;> exact Nat.le_refl _
theorem backs_le : ∀ (l : List AV) (xs ys : List X) (k : Nat), k ≤ (backs l xs ys k).2
  | [], xs, ys, k => by cases xs <;> cases ys <;> exact Nat.le_refl _
  | a :: l, [], ys, k => by cases ys <;> exact Nat.le_refl _
  | a :: l, x :: xs, [], k => Nat.le_refl _
  | a :: l, x :: xs, y :: ys, k => by
    have := back_le a x y k; have := backs_le l xs ys (back a x y k).2; simp only [backs]; omega
end

theorem backo_le : ∀ (l : List AV) (xs : List X) (ss : List (Option X)) (k : Nat), k ≤ (backo l xs ss k).2
  | [], xs, ss, k => by cases xs <;> cases ss <;> exact Nat.le_refl _
  | a :: l, [], ss, k => by cases ss <;> exact Nat.le_refl _
  | a :: l, x :: xs, [], k => Nat.le_refl _
  | a :: l, x :: xs, none :: ss, k => backo_le l xs ss k
  | a :: l, x :: xs, some y :: ss, k => by
    have := back_le a x y k; have := backo_le l xs ss (back a x y k).2; simp only [backo]; omega

/-- Tokens that came in under keys of Kp. -/
structure CameB (g' : Gh) (w : World) (toks : List (Nat × Tok)) (Kp : Nat → Prop) (F : List Nat) : Prop where
  tok : ∀ q t, (q, t) ∈ toks → Kp q ∧ TokRep g' w q t ∧ t.frozen = false ∧ g'.used q ∧ ∀ b, hblk (g'.hv q) = some b → b ∈ F
  inj : ∀ q q' t t' b, (q, t) ∈ toks → (q', t') ∈ toks → hblk (g'.hv q) = some b → hblk (g'.hv q') = some b → q = q'
  key : ∀ q t t', (q, t) ∈ toks → (q, t') ∈ toks → t = t'

theorem Came.toB {g : Gh} {w : World} {toks : List (Nat × Tok)} {k n : Nat} {F : List Nat} (h : Came g w toks k n F) : CameB g w toks (fun q => k ≤ q ∧ q < n) F where
  tok := fun q t hq => by
    obtain ⟨a1, a2, a3, a4, a5, a6⟩ := h.tok q t hq
    exact ⟨⟨a1, a2⟩, a3, a4, a5, a6⟩
  inj := h.inj
  key := h.key

theorem CameB.mono {g g' : Gh} {w : World} {toks : List (Nat × Tok)} {Kp Kp' : Nat → Prop} {F F' : List Nat} (h : CameB g w toks Kp F) (hg : g.Le g') (hk : ∀ q, Kp q → Kp' q) (hF : ∀ b, b ∈ F → b ∈ F') : CameB g' w toks Kp' F' where
  tok := fun q t hq => by
    obtain ⟨h1, h3, h4, h5, h6⟩ := h.tok q t hq
    exact ⟨hk q h1, h3.mono h5 hg (fun _ _ => rfl) (fun _ _ => rfl), h4, hg.used q h5, fun b hb => hF b (h6 b (by rw [← hg.hv q h5]; exact hb))⟩
  inj := fun q q' t t' b hq hq' hb hb' => by
    rw [hg.hv q (h.tok q t hq).2.2.2.1] at hb; rw [hg.hv q' (h.tok q' t' hq').2.2.2.1] at hb'
    exact h.inj q q' t t' b hq hq' hb hb'
  key := h.key

theorem CameB.append {g : Gh} {w : World} {t1 t2 : List (Nat × Tok)} {K1 K2 K : Nat → Prop} {F1 F2 : List Nat} (h1 : CameB g w t1 K1 F1) (h2 : CameB g w t2 K2 F2) (hk1 : ∀ q, K1 q → K q) (hk2 : ∀ q, K2 q → K q) (hk : ∀ q, K1 q → ¬ K2 q) (hd : ∀ b, b ∈ F1 → b ∉ F2) :
    CameB g w (t1 ++ t2) K (F1 ++ F2) where
  tok := fun q t hq => by
    rcases List.mem_append.1 hq with hq | hq
    · obtain ⟨a1, a3, a4, a5, a6⟩ := h1.tok q t hq
      exact ⟨hk1 q a1, a3, a4, a5, fun b hb => List.mem_append.2 (.inl (a6 b hb))⟩
    · obtain ⟨a1, a3, a4, a5, a6⟩ := h2.tok q t hq
      exact ⟨hk2 q a1, a3, a4, a5, fun b hb => List.mem_append.2 (.inr (a6 b hb))⟩
  inj := fun q q' t t' b hq hq' hb hb' => by
    rcases List.mem_append.1 hq with hq | hq <;> rcases List.mem_append.1 hq' with hq' | hq'
    · exact h1.inj q q' t t' b hq hq' hb hb'
    · exact (hd b ((h1.tok q t hq).2.2.2.2 b hb) ((h2.tok q' t' hq').2.2.2.2 b hb')).elim
    · exact (hd b ((h1.tok q' t' hq').2.2.2.2 b hb') ((h2.tok q t hq).2.2.2.2 b hb)).elim
    · exact h2.inj q q' t t' b hq hq' hb hb'
  key := fun q t t' hq hq' => by
    rcases List.mem_append.1 hq with hq | hq <;> rcases List.mem_append.1 hq' with hq' | hq'
    · exact h1.key q t t' hq hq'
    · exact (hk q (h1.tok q t hq).1 (h2.tok q t' hq').1).elim
    · exact (hk q (h1.tok q t' hq').1 (h2.tok q t hq).1).elim
    · exact h2.key q t t' hq hq'

theorem CameB.nil (g : Gh) (w : World) (K : Nat → Prop) (F : List Nat) : CameB g w [] K F where
  tok := fun q t hq => by cases hq
  inj := fun q q' t t' b hq => by cases hq
  key := fun q t t' hq => by cases hq

theorem CameB.one {g : Gh} {w : World} {k : Nat} {t : Tok} {F : List Nat} {K : Nat → Prop} (h0 : K k) (h1 : TokRep g w k t) (h2 : t.frozen = false) (h3 : g.used k) (h4 : ∀ b, hblk (g.hv k) = some b → b ∈ F) : CameB g w [(k, t)] K F where
  tok := fun q t' hq => by
    simp only [List.mem_singleton, Prod.mk.injEq] at hq
    obtain ⟨rfl, rfl⟩ := hq
    exact ⟨h0, h1, h2, h3, h4⟩
  inj := fun q q' t t' b hq hq' _ _ => by
    simp only [List.mem_singleton, Prod.mk.injEq] at hq hq'
    rw [hq.1, hq'.1]
  key := fun q t t' hq hq' => by
    simp only [List.mem_singleton, Prod.mk.injEq] at hq hq'
    rw [hq.2, hq'.2]

/-- The keys of an argument that came back: those that were handed over, and new ones. -/
def KB (C : List Nat) (k n : Nat) : Nat → Prop := fun q => q ∈ C ∨ (k ≤ q ∧ q < n)

theorem back_none {g : Gh} {w' : World} {k : Nat} {F C : List Nat} {r : List (Nat × Tok) × Nat} (e : r = ([], k)) : k ≤ r.2 ∧ ∃ g', g.only g' k r.2 ∧ CameB g' w' r.1 (KB C k r.2) F := by
  subst e
  exact ⟨Nat.le_refl _, g, ⟨Gh.Le.refl g, rfl, fun z hz => .inl hz⟩, CameB.nil _ _ _ _⟩

mutual
theorem back_rep {σ : St} {g0 : Gh} {w w' : World} : ∀ (av : AV) (x : X) (C Z : List Nat) (y : X) (k : Nat) (v : Value) (F : List Nat) (g : Gh), Cf σ av x C Z → RepA g0 w av v → RepX g.S w' y v F → F.Nodup → C.Nodup → (∀ q, q ∈ C → g0.used q) →
    (∀ q, k ≤ q → q < (back av x y k).2 → ¬ g.used q) → (∀ q, g0.used q → g.used q ∧ g.hv q = g0.hv q) →
    k ≤ (back av x y k).2 ∧ ∃ g', g.only g' k (back av x y k).2 ∧ CameB g' w' (back av x y k).1 (KB C k (back av x y k).2) F
  | _, _, _, _, y, k, v, F, g, .imm x, _, _, _, _, _, _, _ => back_none (by cases y <;> rfl)
  | _, _, _, _, y, k, v, F, g, .nilrow sz, _, _, _, _, _, _, _ => back_none (by cases y <;> rfl)
  | _, _, _, _, y, k, v, F, g, .nilown e sz, _, _, _, _, _, _, _ => back_none (by cases y <;> rfl)
  | _, _, _, _, y, k, v, F, g, .lend q e sz es f _, _, _, _, _, _, _, _ => back_none (by cases y <;> rfl)
  | _, _, _, _, y, k, v, F, g, .view q e sz off n es f _ _, _, _, _, _, _, _, _ => back_none (by cases y <;> rfl)
  | _, _, _, _, y, k, v, F, g, .own q e sz es _, hr, hy, hn, _, _, hk, h0 => by
    cases y with
    | xown e sz es =>
      cases hr with
      | own _ hu =>
        cases hy with
        | xown _ _ _ _ xs h1 h2 h3 h4 =>
          obtain ⟨hu', hv'⟩ := h0 q hu
          refine ⟨Nat.le_refl _, g, ⟨Gh.Le.refl g, rfl, fun z hz => .inl hz⟩, ?_⟩
          simp only [back]
          refine CameB.one (.inl (by simp)) (.rows e sz es false xs (by rw [hv']; exact h1) h2 h3 h4 (fun hf => by cases hf)) rfl hu' (fun b hb => ?_)
          rw [hv'] at hb
          simp [blkL, hb]
    | imm _ => exact back_none rfl
    | xbox _ => exact back_none rfl
    | agg _ => exact back_none rfl
    | tup _ => exact back_none rfl
    | fn _ _ => exact back_none rfl
  | _, _, _, _, y, k, v, F, g, .ptr q cs xs C Z _ _, hr, hy, hn, _, _, hk, h0 => by
    cases y with
    | xbox ys =>
      cases hr with
      | ptr _ _ b hu hv =>
        cases hy with
        | xbox _ b' A e F h1 h2 =>
          rw [List.nodup_cons] at hn
          obtain ⟨e1, g', ho, hA, hcm⟩ := imps_rep ys g k A.toList F h2 hn.2 hk
          obtain ⟨hu', hv'⟩ := h0 q hu
          have hv2 : g'.hv q = .pointer (some ⟨b, 0, none⟩) := by rw [ho.1.hv q hu', hv', hv]
          refine ⟨e1, g', ho, ?_⟩
          have a0 : CameB g' w' [(q, .box (imps ys k).1)] (fun z => z = q) [b] := CameB.one rfl (.box _ b A e hv2 h1 (by have := hA.1; simp only [Array.length_toList] at this; omega) (fun i hi => by
            have := hA.2 i hi
            rwa [toList_getD] at this)) rfl (ho.1.used q hu') (fun b' hb' => by rw [hv2] at hb'; simp only [hblk, Option.some.injEq] at hb'; simp [hb'])
          simp only [back]
          exact a0.append hcm.toB (fun z e => .inl (by simp [e])) (fun z e => .inr e) (fun z e e2 => hk z e2.1 e2.2 (e ▸ hu')) (fun b' hb' hb2 => by simp at hb'; subst hb'; exact hn.1 hb2)
    | imm _ => exact back_none rfl
    | xown _ _ _ => exact back_none rfl
    | agg _ => exact back_none rfl
    | tup _ => exact back_none rfl
    | fn _ _ => exact back_none rfl
  | _, _, _, _, y, k, v, F, g, .agg l xs C Z hcs, hr, hy, hn, hC, hCu, hk, h0 => by
    cases y with
    | agg ys =>
      cases hr with
      | agg _ vs e1 e2 =>
        cases hy with
        | agg _ _ F h1 => exact backs_rep l xs C Z ys k vs.toList F g hcs (by simp [e1]) (fun i hi => by rw [toList_getD]; exact e2 i hi) h1 hn hC hCu hk h0
    | imm _ => exact back_none rfl
    | xown _ _ _ => exact back_none rfl
    | xbox _ => exact back_none rfl
    | tup _ => exact back_none rfl
    | fn _ _ => exact back_none rfl
  | _, _, _, _, y, k, v, F, g, .tup l xs C Z hcs, hr, hy, hn, hC, hCu, hk, h0 => by
    cases y with
    | tup ys =>
      cases hr with
      | tup _ vs e1 e2 =>
        cases hy with
        | tup _ _ F h1 => exact backs_rep l xs C Z ys k vs.toList F g hcs (by simp [e1]) (fun i hi => by rw [toList_getD]; exact e2 i hi) h1 hn hC hCu hk h0
    | imm _ => exact back_none rfl
    | xown _ _ _ => exact back_none rfl
    | xbox _ => exact back_none rfl
    | agg _ => exact back_none rfl
    | fn _ _ => exact back_none rfl
  | _, _, _, _, y, k, v, F, g, .fn f l xs C Z hcs, hr, hy, hn, hC, hCu, hk, h0 => by
    cases y with
    | fn f2 ys =>
      cases hr with
      | fn _ _ vs e1 e2 =>
        cases hy with
        | fn _ _ _ F h1 => exact backs_rep l xs C Z ys k vs.toList F g hcs (by simp [e1]) (fun i hi => by rw [toList_getD]; exact e2 i hi) h1 hn hC hCu hk h0
    | imm _ => exact back_none rfl
    | xown _ _ _ => exact back_none rfl
    | xbox _ => exact back_none rfl
    | agg _ => exact back_none rfl
    | tup _ => exact back_none rfl
theorem backs_rep {σ : St} {g0 : Gh} {w w' : World} : ∀ (l : List AV) (xs : List X) (C Z : List Nat) (ys : List X) (k : Nat) (vs : List Value) (F : List Nat) (g : Gh), Cfs σ l xs C Z → l.length = vs.length → (∀ i, i < l.length → RepA g0 w (l.getD i default) (vs.getD i undef)) →
    RepXs g.S w' ys vs F → F.Nodup → C.Nodup → (∀ q, q ∈ C → g0.used q) → (∀ q, k ≤ q → q < (backs l xs ys k).2 → ¬ g.used q) → (∀ q, g0.used q → g.used q ∧ g.hv q = g0.hv q) →
    k ≤ (backs l xs ys k).2 ∧ ∃ g', g.only g' k (backs l xs ys k).2 ∧ CameB g' w' (backs l xs ys k).1 (KB C k (backs l xs ys k).2) F
  | _, _, _, _, ys, k, vs, F, g, .nil, _, _, _, _, _, _, _, _ => back_none (by cases ys <;> rfl)
  | _, _, _, _, ys, k, vs, F, g, .cons a l x xs C C' Z Z' h1 h2, hl, hr, hy, hn, hC, hCu, hk, h0 => by
    cases hy with
    | nil => simp at hl
    | cons y ys v vs F1 F2 y1 y2 =>
      rw [List.nodup_append] at hn hC
      obtain ⟨n1, n2, n3⟩ := hn
      obtain ⟨c1, c2, c3⟩ := hC
      obtain ⟨e1, g1, ho1, hb1⟩ := back_rep a x C Z y k v F1 g h1 (by simpa using hr 0 (by simp)) y1 n1 c1 (fun q hq => hCu q (by simp [hq])) (fun q hq hq2 => hk q hq (by have := backs_le l xs ys (back a x y k).2; simp only [backs]; omega)) h0
      obtain ⟨e2, g2, ho2, hb2⟩ := backs_rep l xs C' Z' ys (back a x y k).2 vs F2 g1 h2 (by simpa using hl) (fun i hi => by simpa using hr (i + 1) (by simpa using hi)) (by rw [ho1.2.1]; exact y2) n2 c2 (fun q hq => hCu q (by simp [hq]))
        (fun q hq hq2 hu => (ho1.2.2 q hu).elim (hk q (by omega) (by simp only [backs]; exact hq2)) (fun z => by omega)) (fun q hq => ⟨ho1.1.used q (h0 q hq).1, (ho1.1.hv q (h0 q hq).1).trans (h0 q hq).2⟩)
      refine ⟨by simp only [backs]; omega, g2, by simp only [backs]; exact ho1.trans ho2 e1 e2, ?_⟩
      simp only [backs]
      refine (hb1.mono ho2.1 (fun _ z => z) (fun _ z => z)).append hb2 (fun q hq => hq.elim (fun z => .inl (by simp [z])) (fun z => .inr (by omega))) (fun q hq => hq.elim (fun z => .inl (by simp [z])) (fun z => .inr (by omega))) (fun q hq1 hq2 => ?_) (fun b hb hb' => n3 b hb b hb' rfl)
      rcases hq1 with z1 | z1 <;> rcases hq2 with z2 | z2
      · exact c3 q z1 q z2 rfl
      · exact hk q (by omega) (by simp only [backs]; omega) (h0 q (hCu q (by simp [z1]))).1
      · exact hk q (by omega) (by simp only [backs]; omega) (h0 q (hCu q (by simp [z2]))).1
      · omega
end

theorem backo_rep {σ : St} {g0 : Gh} {w w' : World} : ∀ (l : List AV) (xs : List X) (C Z : List Nat) (ss : List (Option X)) (k : Nat) (vs : List Value) (F : List Nat) (g : Gh), Cfs σ l xs C Z → l.length = vs.length → (∀ i, i < l.length → RepA g0 w (l.getD i default) (vs.getD i undef)) →
    RepSs g.S w' ss vs F → F.Nodup → C.Nodup → (∀ q, q ∈ C → g0.used q) → (∀ q, k ≤ q → q < (backo l xs ss k).2 → ¬ g.used q) → (∀ q, g0.used q → g.used q ∧ g.hv q = g0.hv q) →
    k ≤ (backo l xs ss k).2 ∧ ∃ g', g.only g' k (backo l xs ss k).2 ∧ CameB g' w' (backo l xs ss k).1 (KB C k (backo l xs ss k).2) F
  | _, _, _, _, ss, k, vs, F, g, .nil, _, _, _, _, _, _, _, _ => back_none (by cases ss <;> rfl)
  | _, _, _, _, ss, k, vs, F, g, .cons a l x xs C C' Z Z' h1 h2, hl, hr, hy, hn, hC, hCu, hk, h0 => by
    cases hy with
    | nil => simp at hl
    | none ss v vs F y2 =>
      rw [List.nodup_append] at hC
      obtain ⟨e2, g2, ho2, hb2⟩ := backo_rep l xs C' Z' ss k vs F g h2 (by simpa using hl) (fun i hi => by simpa using hr (i + 1) (by simpa using hi)) y2 hn hC.2.1 (fun q hq => hCu q (by simp [hq])) hk h0
      exact ⟨e2, g2, ho2, hb2.mono (Gh.Le.refl _) (fun q hq => hq.imp (fun z => by simp [z]) id) (fun _ z => z)⟩
    | some y ss v vs F1 F2 y1 y2 =>
      rw [List.nodup_append] at hn hC
      obtain ⟨n1, n2, n3⟩ := hn
      obtain ⟨c1, c2, c3⟩ := hC
      obtain ⟨e1, g1, ho1, hb1⟩ := back_rep a x C Z y k v F1 g h1 (by simpa using hr 0 (by simp)) y1 n1 c1 (fun q hq => hCu q (by simp [hq])) (fun q hq hq2 => hk q hq (by have := backo_le l xs ss (back a x y k).2; simp only [backo]; omega)) h0
      obtain ⟨e2, g2, ho2, hb2⟩ := backo_rep l xs C' Z' ss (back a x y k).2 vs F2 g1 h2 (by simpa using hl) (fun i hi => by simpa using hr (i + 1) (by simpa using hi)) (by rw [ho1.2.1]; exact y2) n2 c2 (fun q hq => hCu q (by simp [hq]))
        (fun q hq hq2 hu => (ho1.2.2 q hu).elim (hk q (by omega) (by simp only [backo]; exact hq2)) (fun z => by omega)) (fun q hq => ⟨ho1.1.used q (h0 q hq).1, (ho1.1.hv q (h0 q hq).1).trans (h0 q hq).2⟩)
      refine ⟨by simp only [backo]; omega, g2, by simp only [backo]; exact ho1.trans ho2 e1 e2, ?_⟩
      simp only [backo]
      refine (hb1.mono ho2.1 (fun _ z => z) (fun _ z => z)).append hb2 (fun q hq => hq.elim (fun z => .inl (by simp [z])) (fun z => .inr (by omega))) (fun q hq => hq.elim (fun z => .inl (by simp [z])) (fun z => .inr (by omega))) (fun q hq1 hq2 => ?_) (fun b hb hb' => n3 b hb b hb' rfl)
      rcases hq1 with z1 | z1 <;> rcases hq2 with z2 | z2
      · exact c3 q z1 q z2 rfl
      · exact hk q (by omega) (by simp only [backo]; omega) (h0 q (hCu q (by simp [z1]))).1
      · exact hk q (by omega) (by simp only [backo]; omega) (h0 q (hCu q (by simp [z2]))).1
      · omega

def callOk (P : Program) (f : FuncId) : Bool :=
  match P.funcs[f]? with
  | some fn => !(fn.name == "runtime.NumGoroutine") && fn.body.isSome
  | none => false

theorem run_callFunc {P : Program} {f : FuncId} (h : callOk P f = true) (args : Array Value) (w : World) : (callFunc f args).run P w = .ok (.enter f args) w := by
  unfold callOk at h
  cases hf : P.funcs[f]? with
  | none => rw [hf] at h; cases h
  | some fn =>
    rw [hf] at h
    simp only [Bool.and_eq_true, Bool.not_eq_true'] at h
    have hb : ¬ fn.body = none := by
      intro e; rw [e] at h; simp at h
    have hn : ¬ fn.name = "runtime.NumGoroutine" := by simpa using h.1
    simp [callFunc, hf, hn, hb]

def rds (σ : St) : List Operand → Option (List AV)
  | [] => some []
  | x :: l => match rd σ x, rds σ l with
    | some y, some r => some (y :: r)
    | _, _ => none

theorem rds_rep {cx : Cx} {g : Gh} {σ : St} {a : Act} {w : World} (h : SR cx g σ a w) : ∀ (l : List Operand) (ys : List AV), rds σ l = some ys → ys.length = l.length ∧ ∀ i, i < ys.length → RepA g w (ys.getD i default) ((l.map a.eval).getD i undef)
  | [], ys, hy => by cases hy; exact ⟨rfl, fun i hi => by simp at hi⟩
  | x :: l, ys, hy => by
    simp only [rds] at hy
    cases hx : rd σ x with
    | none => rw [hx] at hy; cases hy
    | some y =>
      cases hl : rds σ l with
      | none => rw [hx, hl] at hy; cases hy
      | some r =>
        rw [hx, hl] at hy; cases hy
        obtain ⟨e1, e2⟩ := rds_rep h l r hl
        refine ⟨by simp [e1], fun i hi => ?_⟩
        cases i with
        | zero => simpa using rd_rep h x y hx
        | succ i => simpa using e2 i (by simpa using hi)

theorem rds_agree {σ σ' : St} : ∀ (l : List Operand), (∀ x, x ∈ l → rd σ' x = rd σ x) → rds σ' l = rds σ l
  | [], _ => rfl
  | x :: l, h => by
    simp only [rds]
    rw [h x (by simp), rds_agree l (fun y hy => h y (by simp [hy]))]

/-- A lent row, frozen. -/
def frzT : Option Tok → Option Tok
  | some (.rows e sz es _) => some (.rows e sz es true)
  | t => t

/-- What a call leaves of the state. -/
def callOut (σ : St) (av : AV) (t1 t2 : List (Nat × Tok)) (C Z : List Nat) (k n : Nat) : Out :=
  ⟨some av, (t1.map fun p => (p.1, some p.2)) ++ (t2.map fun p => (p.1, some p.2)) ++ (C.map fun q => (q, none)) ++ (Z.map fun q => (q, frzT (σ.tk q))), List.range' k (n - k)⟩

theorem lkp_append {α : Type} (a b : List (Nat × α)) (k : Nat) : lkp (a ++ b) k = match lkp a k with | some x => some x | none => lkp b k := by
  induction a with
  | nil => rfl
  | cons p a ih =>
    obtain ⟨q, x⟩ := p
    simp only [List.cons_append, lkp]
    by_cases e : k = q <;> simp [e, ih]

theorem lkp_map_some {l : List (Nat × Tok)} {k : Nat} {u : Option Tok} (h : lkp (l.map fun p => (p.1, some p.2)) k = some u) : ∃ t, u = some t ∧ (k, t) ∈ l := by
  induction l with
  | nil => cases h
  | cons p l ih =>
    simp only [List.map_cons, lkp] at h
    split at h
    · rename_i e; cases h; exact ⟨p.2, rfl, by subst e; simp⟩
    · obtain ⟨t, e1, e2⟩ := ih h; exact ⟨t, e1, by simp [e2]⟩

theorem lkp_map_key {α : Type} {f : Nat → α} {l : List Nat} {k : Nat} {u : α} (h : lkp (l.map fun q => (q, f q)) k = some u) : k ∈ l ∧ u = f k := by
  induction l with
  | nil => cases h
  | cons p l ih =>
    simp only [List.map_cons, lkp] at h
    split at h
    · rename_i e; cases h; subst e; simp
    · obtain ⟨e1, e2⟩ := ih h; simp [e1, e2]

theorem lkp_map_none {α : Type} {f : Nat → α} {l : List Nat} {k : Nat} (h : lkp (l.map fun q => (q, f q)) k = none) : k ∉ l := by
  induction l with
  | nil => simp
  | cons p l ih =>
    simp only [List.map_cons, lkp] at h
    split at h
    · cases h
    · rename_i e; simp [e, ih h]

mutual
theorem cf_agree {σ σ' : St} : ∀ (av : AV) (x : X) (C Z : List Nat), Cf σ av x C Z → (∀ q, q ∈ C ++ Z → σ'.tk q = σ.tk q) → Cf σ' av x C Z
  | _, _, _, _, .imm x, _ => .imm x
  | _, _, _, _, .nilrow sz, _ => .nilrow sz
  | _, _, _, _, .nilown e sz, _ => .nilown e sz
  | _, _, _, _, .own k e sz es hk, h => .own k e sz es ((h k (by simp)).trans hk)
  | _, _, _, _, .lend k e sz es f hk, h => .lend k e sz es f ((h k (by simp)).trans hk)
  | _, _, _, _, .view k e sz off n es f hk hle, h => .view k e sz off n es f ((h k (by simp)).trans hk) hle
  | _, _, _, _, .ptr k cs xs C Z hk hcs, h => .ptr k cs xs C Z ((h k (by simp)).trans hk) (cfs_agree cs xs C Z hcs (fun q hq => h q (by simp at hq ⊢; exact .inr hq)))
  | _, _, _, _, .agg cs xs C Z hcs, h => .agg cs xs C Z (cfs_agree cs xs C Z hcs h)
  | _, _, _, _, .tup cs xs C Z hcs, h => .tup cs xs C Z (cfs_agree cs xs C Z hcs h)
  | _, _, _, _, .fn f cs xs C Z hcs, h => .fn f cs xs C Z (cfs_agree cs xs C Z hcs h)
theorem cfs_agree {σ σ' : St} : ∀ (l : List AV) (xs : List X) (C Z : List Nat), Cfs σ l xs C Z → (∀ q, q ∈ C ++ Z → σ'.tk q = σ.tk q) → Cfs σ' l xs C Z
  | _, _, _, _, .nil, _ => .nil
  | _, _, _, _, .cons a l x xs C C' Z Z' h1 h2, h => .cons a l x xs C C' Z Z' (cf_agree a x C Z h1 (fun q hq => h q (by simp at hq ⊢; rcases hq with h' | h' <;> simp [h']))) (cfs_agree l xs C' Z' h2 (fun q hq => h q (by simp at hq ⊢; rcases hq with h' | h' <;> simp [h'])))
end

mutual
theorem cf_rows {σ : St} : ∀ (av : AV) (x : X) (C Z : List Nat), Cf σ av x C Z → ∀ q, q ∈ Z → ∃ e sz es f, σ.tk q = some (.rows e sz es f)
  | _, _, _, _, .imm x => fun k hk => (by cases hk)
  | _, _, _, _, .nilrow sz => fun k hk => (by cases hk)
  | _, _, _, _, .nilown e sz => fun k hk => (by cases hk)
  | _, _, _, _, .own k e sz es hk => fun k hk => (by cases hk)
  | _, _, _, _, .lend k e sz es f hk => fun q hq => by simp at hq; subst hq; exact ⟨_, _, _, _, hk⟩
  | _, _, _, _, .view k e sz off n es f hk hle => fun q hq => by simp at hq; subst hq; exact ⟨_, _, _, _, hk⟩
  | _, _, _, _, .ptr k cs xs C Z hk hcs => cfs_rows cs xs C Z hcs
  | _, _, _, _, .agg cs xs C Z hcs => cfs_rows cs xs C Z hcs
  | _, _, _, _, .tup cs xs C Z hcs => cfs_rows cs xs C Z hcs
  | _, _, _, _, .fn f cs xs C Z hcs => cfs_rows cs xs C Z hcs
theorem cfs_rows {σ : St} : ∀ (l : List AV) (xs : List X) (C Z : List Nat), Cfs σ l xs C Z → ∀ q, q ∈ Z → ∃ e sz es f, σ.tk q = some (.rows e sz es f)
  | _, _, _, _, .nil => fun k hk => (by cases hk)
  | _, _, _, _, .cons a l x xs C C' Z Z' h1 h2 => fun q hq => (List.mem_append.1 hq).elim (cf_rows a x C Z h1 q) (cfs_rows l xs C' Z' h2 q)
end

/-- A CALL: the arguments go out as xs, the result comes in as r, what was handed over comes back as ss; what was lent is never written again. -/
theorem OpL.call {P : Program} {o : Oper} {σ : St} {fo : Operand} {args : Array Operand} {ats : Array TypeId} {f : Nat} {cap avs : List AV} {xs : List X} {r : X} {ss : List (Option X)} {C Z : List Nat} (k : Nat)
    (ho : o.op = .call { callee := .value fo, args := args, argTypes := ats }) (hf : rd σ fo = some (.fn f cap)) (hok : callOk P f = true) (ha : rds σ args.toList = some avs) (hsp : Spec P f xs r ss) (hc : Cfs σ (avs ++ cap) xs C Z)
    (hC : C.Nodup) (hZ : ∀ q, q ∈ C → q ∉ Z) :
    OpL P o σ (C ++ Z) (callOut σ (imp r k).1 (imp r k).2.1 (backo (avs ++ cap) xs ss (imp r k).2.2).1 C Z k (backo (avs ++ cap) xs ss (imp r k).2.2).2) := by
  intro σ' hs hfp hfree
  have hf' : rd σ' fo = some (.fn f cap) := (hs fo (by simp [ho, Op.operands, Call.operands])).trans hf
  have ha' : rds σ' args.toList = some avs := (rds_agree _ (fun x hx => hs x (by simp [ho, Op.operands, Call.operands]; right; simpa using hx))).trans ha
  have hc' : Cfs σ' (avs ++ cap) xs C Z := cfs_agree _ _ _ _ hc (fun q hq => hfp q hq)
  have hout : callOut σ (imp r k).1 (imp r k).2.1 (backo (avs ++ cap) xs ss (imp r k).2.2).1 C Z k (backo (avs ++ cap) xs ss (imp r k).2.2).2 = callOut σ' (imp r k).1 (imp r k).2.1 (backo (avs ++ cap) xs ss (imp r k).2.2).1 C Z k (backo (avs ++ cap) xs ss (imp r k).2.2).2 := by
    unfold callOut
    congr 2
    refine List.map_congr_left (fun q hq => ?_)
    rw [hfp q (by simp [hq])]
  rw [hout] at hfree ⊢
  clear hout
  intro cx g a w hd h next Q hK
  have hfr := rd_rep h fo _ hf'
  obtain ⟨hl1, hl2⟩ := rds_rep h _ _ ha'
  generalize hfo : a.eval fo = vf at hfr
  cases hfr with
  | fn _ _ cvs c1 c2 =>
    -- the values that are handed over
    have hvl : (avs ++ cap).length = ((args.map a.eval) ++ cvs).toList.length := by simp [hl1, c1]
    have hvr : ∀ i, i < (avs ++ cap).length → RepA g w ((avs ++ cap).getD i default) (((args.map a.eval) ++ cvs).toList.getD i undef) := by
      intro i hi
      rw [List.length_append] at hi
      simp only [Array.toList_append, Array.toList_map]
      by_cases h1 : i < avs.length
      · have e1 : (avs ++ cap).getD i default = avs.getD i default := by simp only [List.getD_eq_getElem?_getD, List.getElem?_append_left h1]
        have e2 : (args.toList.map a.eval ++ cvs.toList).getD i undef = (args.toList.map a.eval).getD i undef := by
          simp only [List.getD_eq_getElem?_getD, List.getElem?_append_left (show i < (args.toList.map a.eval).length by simp; rw [hl1] at h1; simpa using h1)]
        rw [e1, e2]; exact hl2 i h1
      · obtain ⟨m, rfl⟩ : ∃ m, i = avs.length + m := ⟨i - avs.length, by omega⟩
        have e1 : (avs ++ cap).getD (avs.length + m) default = cap.getD m default := by
          simp only [List.getD_eq_getElem?_getD, List.getElem?_append_right (Nat.le_add_right _ _), Nat.add_sub_cancel_left]
        have hal : avs.length = (args.toList.map a.eval).length := by simp [hl1]
        have e2 : (args.toList.map a.eval ++ cvs.toList).getD (avs.length + m) undef = cvs.toList.getD m undef := by
          rw [hal]
          simp only [List.getD_eq_getElem?_getD, List.getElem?_append_right (Nat.le_add_right _ _), Nat.add_sub_cancel_left]
        rw [e1, e2, toList_getD]; exact c2 m (by omega)
    obtain ⟨lv1, lv2⟩ := cfs_live _ _ _ _ hc'
    have hSC : ∀ b, b ∈ bl g C → b < w.heap.size ∧ ¬ (g.S b ∨ b ∈ bl g Z) := by
      intro b hb
      obtain ⟨q, hq, hbq⟩ := mem_bl.1 hb
      obtain ⟨t, ht, hfz⟩ := lv1 q hq
      refine ⟨h.blk q t b ht hbq, ?_⟩
      rintro (h' | h')
      · exact (h.live q t b ht hfz hbq).1 h'
      · obtain ⟨q', hq', hbq'⟩ := mem_bl.1 h'
        obtain ⟨t', ht'⟩ := lv2 q' hq'
        exact hZ q hq (h.inj q q' t t' b ht ht' hbq hbq' ▸ hq')
    have hFn := bl_nodup h C hC (fun q hq => (lv1 q hq).imp fun t ht => ht.1)
    have hcall := hsp (fun b => g.S b ∨ b ∈ bl g Z) w ((args.map a.eval) ++ cvs) (bl g C) (fun b hb => hb.elim (h.stab b) (fun h' => by
        obtain ⟨q', hq', hbq'⟩ := mem_bl.1 h'
        obtain ⟨t', ht'⟩ := lv2 q' hq'
        exact h.blk q' t' b ht' hbq'))
      (cfs_rep h (fun b hb => .inl hb) _ xs C Z _ hc' (fun b hb => .inr hb) hvl hvr) hFn hSC
    show o.upon P a next Q ((execOp a.eval o).run P w)
    have hrun : (execOp a.eval o).run P w = .ok (.enter f ((args.map a.eval) ++ cvs)) w := by
      simp [execOp, ho, resolve, hfo, Deferred.ofValue, invoke, run_callFunc hok]
    rw [hrun, Oper.upon_enter]
    refine hcall.mono ?_
    rintro e w' ⟨v, S', Fr', Fs, rfl, hp⟩
    show next (a.put o.dst v) w'
    -- the new ghost
    have hn1 := hp.nodup
    rw [List.nodup_append] at hn1
    obtain ⟨nr, ns, nd⟩ := hn1
    have hn2 := imp_le r k
    have hn3 := backo_le (avs ++ cap) xs ss (imp r k).2.2
    have hkfree : ∀ q, k ≤ q → q < (backo (avs ++ cap) xs ss (imp r k).2.2).2 → ¬ g.used q := fun q h1 h2 hu => h.used q hu (hfree q (by simp only [callOut]; rw [List.mem_range'_1]; omega))
    have hgS : ∀ b, g.S b → S' b := fun b hb => hp.more b (.inl hb)
    have hle1 : g.Le { S := S', hv := g.hv, used := g.used } := ⟨hgS, fun _ _ => rfl, fun _ x => x⟩
    obtain ⟨e1, g2, ho1, hA, hcm⟩ := imp_rep r { S := S', hv := g.hv, used := g.used } k v Fr' hp.res nr (fun q h1 h2 => hkfree q h1 (by omega))
    have hCu : ∀ q, q ∈ C → g.used q := fun q hq => by
      obtain ⟨t, ht, _⟩ := lv1 q hq
      exact h.key q t ht
    obtain ⟨e2, g3, ho2, hbk⟩ := backo_rep (avs ++ cap) xs C Z ss (imp r k).2.2 _ Fs g2 hc' hvl hvr (by rw [ho1.2.1]; exact hp.sts) ns hC hCu
      (fun q h1 h2 hu => (ho1.2.2 q hu).elim (hkfree q (by omega) h2) (fun z => by omega)) (fun q hq => ⟨ho1.1.used q hq, ho1.1.hv q hq⟩)
    have hle : g.Le g3 := hle1.trans (ho1.1.trans ho2.1)
    have hS3 : g3.S = S' := ho2.2.1.trans ho1.2.1
    have htoks := (hcm.toB.mono ho2.1 (fun _ z => z) (fun _ z => z)).append (K := KB C k (backo (avs ++ cap) xs ss (imp r k).2.2).2) hbk (fun q hq => .inr (by omega)) (fun q hq => hq.imp id (fun z => by omega))
      (fun q h1 h2 => h2.elim (fun z => hkfree q h1.1 (by omega) (hCu q z)) (fun z => by omega)) (fun b hb hb' => nd b hb b hb' rfl)
    -- blocks of what came
    have hown := hp.own
    have hblocks : ∀ q t b, (q, t) ∈ (imp r k).2.1 ++ (backo (avs ++ cap) xs ss (imp r k).2.2).1 → hblk (g3.hv q) = some b → b < w'.heap.size ∧ ¬ S' b ∧ (b ∈ bl g C ∨ w.heap.size ≤ b) :=
      fun q t b hq hb => hown b ((htoks.tok q t hq).2.2.2.2 b hb)
    have hFblk : ∀ b, b ∈ bl g C → ∃ q t, q ∈ C ∧ σ'.tk q = some t ∧ t.frozen = false ∧ hblk (g.hv q) = some b := fun b hb => by
      obtain ⟨q, hq, hbq⟩ := mem_bl.1 hb
      obtain ⟨t, ht, hfz⟩ := lv1 q hq
      exact ⟨q, t, hq, ht, hfz, hbq⟩
    have hst : ∀ b, g.S b → w'.heap[b]? = w.heap[b]? := fun b hb => hp.frame.block b (h.stab b hb) (fun hF => (hSC b hF).2 (.inl hb))
    -- elder tokens
    have hold : ∀ q t b, q ∉ C → σ'.tk q = some t → hblk (g.hv q) = some b → b < w.heap.size ∧ b ∉ bl g C := by
      intro q t b hqC hq hb
      refine ⟨h.blk q t b hq hb, fun hF => ?_⟩
      obtain ⟨q', t', hq', ht', _, hb'⟩ := hFblk b hF
      exact hqC (h.inj q q' t t' b hq ht' hb hb' ▸ hq')
    have hhv : ∀ q t, σ'.tk q = some t → g3.hv q = g.hv q := fun q t hq => hle.hv q (h.key q t hq)
    let out := callOut σ' (imp r k).1 (imp r k).2.1 (backo (avs ++ cap) xs ss (imp r k).2.2).1 C Z k (backo (avs ++ cap) xs ss (imp r k).2.2).2
    have hchar : ∀ q t, (match lkp out.tk q with | some t => t | none => σ'.tk q) = some t →
        (q, t) ∈ (imp r k).2.1 ++ (backo (avs ++ cap) xs ss (imp r k).2.2).1 ∨ (q ∉ C ∧ q ∈ Z ∧ frzT (σ'.tk q) = some t) ∨ (q ∉ C ∧ q ∉ Z ∧ σ'.tk q = some t) := by
      intro q t hq
      simp only [out, callOut, lkp_append] at hq
      cases h1 : lkp ((imp r k).2.1.map fun p => (p.1, some p.2)) q with
      | some u =>
        obtain ⟨t', rfl, hm⟩ := lkp_map_some h1
        rw [h1] at hq; simp only at hq; cases hq
        exact .inl (List.mem_append.2 (.inl hm))
      | none =>
        rw [h1] at hq
        cases h2 : lkp ((backo (avs ++ cap) xs ss (imp r k).2.2).1.map fun p => (p.1, some p.2)) q with
        | some u =>
          obtain ⟨t', rfl, hm⟩ := lkp_map_some h2
          rw [h2] at hq; simp only at hq; cases hq
          exact .inl (List.mem_append.2 (.inr hm))
        | none =>
          rw [h2] at hq
          cases h3 : lkp (C.map fun q => (q, (none : Option Tok))) q with
          | some u =>
            rw [h3] at hq
            obtain ⟨_, rfl⟩ := lkp_map_key (f := fun _ => (none : Option Tok)) h3
            simp only at hq; cases hq
          | none =>
            rw [h3] at hq
            have hqC := lkp_map_none (f := fun _ => (none : Option Tok)) h3
            cases h4 : lkp (Z.map fun q => (q, frzT (σ'.tk q))) q with
            | some u =>
              rw [h4] at hq
              obtain ⟨hqZ, rfl⟩ := lkp_map_key (f := fun q => frzT (σ'.tk q)) h4
              simp only at hq
              exact .inr (.inl ⟨hqC, hqZ, hq⟩)
            | none =>
              rw [h4] at hq
              have hqZ := lkp_map_none (f := fun q => frzT (σ'.tk q)) h4
              simp only at hq
              exact .inr (.inr ⟨hqC, hqZ, hq⟩)
    have hfrz : ∀ q t, frzT (σ'.tk q) = some t → ∃ t0, σ'.tk q = some t0 ∧ (t = t0 ∧ (∀ e sz es f, t0 ≠ .rows e sz es f) ∨ ∃ e sz es f, t0 = .rows e sz es f ∧ t = .rows e sz es true) := by
      intro q t hq
      cases ht : σ'.tk q with
      | none => rw [ht] at hq; cases hq
      | some t0 =>
        rw [ht] at hq
        cases t0 <;> simp only [frzT] at hq <;> cases hq
        · exact ⟨_, rfl, .inl ⟨rfl, by intros; simp⟩⟩
        · exact ⟨_, rfl, .inr ⟨_, _, _, _, rfl, rfl⟩⟩
        · exact ⟨_, rfl, .inl ⟨rfl, by intros; simp⟩⟩
    -- an elder token's own row
    have helder : ∀ q t, (q ∉ C ∧ q ∈ Z ∧ frzT (σ'.tk q) = some t) ∨ (q ∉ C ∧ q ∉ Z ∧ σ'.tk q = some t) → q ∉ C ∧ ∃ t0, σ'.tk q = some t0 ∧ (t.frozen = false → t0.frozen = false ∧ (q ∉ Z ∨ ∀ e sz es f, t0 ≠ .rows e sz es f)) := by
      rintro q t (⟨h1, h2, h3⟩ | ⟨h1, h2, h3⟩)
      · obtain ⟨t0, ht0, h4⟩ := hfrz q t h3
        refine ⟨h1, t0, ht0, fun hf => ?_⟩
        rcases h4 with ⟨rfl, hne⟩ | ⟨e, sz, es, f, rfl, rfl⟩
        · exact ⟨hf, .inr hne⟩
        · cases hf
      · exact ⟨h1, t, h3, fun hf => ⟨hf, .inl h2⟩⟩
    -- what is lent are rows
    have hZrow : ∀ q, q ∈ Z → ∃ e sz es f, σ'.tk q = some (.rows e sz es f) := cfs_rows _ _ _ _ hc'
    have hmove := h.move g3 w' (fun q => match lkp out.tk q with | some t => t | none => σ'.tk q) (fun q => σ'.free q ∧ q ∉ out.use) hle
      (by
        intro q hu hf
        rcases ho2.2.2 q hu with hu | hu
        · rcases ho1.2.2 q hu with hu | hu
          · exact h.used q hu hf.1
          · exact hf.2 (by simp only [out, callOut]; rw [List.mem_range'_1]; omega)
        · exact hf.2 (by simp only [out, callOut]; rw [List.mem_range'_1]; omega))
      hst
      (h.frame.step hp.frame (fun b hb hF => by
        obtain ⟨q, t, _, ht, hfz, hbq⟩ := hFblk b hF
        exact (h.live q t b ht hfz hbq).2.elim (fun z => by omega) id))
      (by
        intro q t hq
        rcases hchar q t hq with hm | hm | hm
        · exact (htoks.tok q t hm).2.1
        · obtain ⟨h1, h2, h3⟩ := hm
          obtain ⟨e, sz, es, f, ht0⟩ := hZrow q h2
          rw [ht0] at h3; simp only [frzT] at h3; cases h3
          have hr := (h.tk q _ ht0).mono (h.key q _ ht0) hle hst (fun b hb => hp.frame.block b (hold q _ b h1 ht0 hb).1 (hold q _ b h1 ht0 hb).2)
          cases hr with
          | rows _ _ _ _ xs' t1 t2 t3 t4 t5 =>
            refine .rows e sz es true xs' t1 t2 t3 t4 (fun _ b hb => ?_)
            rw [hhv q _ ht0] at hb
            rw [hS3]
            exact hp.more b (.inr (mem_bl.2 ⟨q, h2, hb⟩))
        · obtain ⟨h1, h2, h3⟩ := hm
          exact (h.tk q t h3).mono (h.key q t h3) hle hst (fun b hb => hp.frame.block b (hold q t b h1 h3 hb).1 (hold q t b h1 h3 hb).2))
      (by
        intro q t hq
        rcases hchar q t hq with hm | hm
        · exact (htoks.tok q t hm).2.2.2.1
        · obtain ⟨_, t0, ht0, _⟩ := helder q t hm
          exact hle.used q (h.key q t0 ht0))
      (by
        intro q q' t t' b hq hq' hb hb'
        rcases hchar q t hq with hm | hm <;> rcases hchar q' t' hq' with hm' | hm'
        · exact htoks.inj q q' t t' b hm hm' hb hb'
        · obtain ⟨h1, t0, ht0, _⟩ := helder q' t' hm'
          rw [hhv q' t0 ht0] at hb'
          obtain ⟨hlt, hnF⟩ := hold q' t0 b h1 ht0 hb'
          rcases (hblocks q t b hm hb).2.2 with z | z
          · exact (hnF z).elim
          · omega
        · obtain ⟨h1, t0, ht0, _⟩ := helder q t hm
          rw [hhv q t0 ht0] at hb
          obtain ⟨hlt, hnF⟩ := hold q t0 b h1 ht0 hb
          rcases (hblocks q' t' b hm' hb').2.2 with z | z
          · exact (hnF z).elim
          · omega
        · obtain ⟨h1, t0, ht0, _⟩ := helder q t hm
          obtain ⟨h1', t0', ht0', _⟩ := helder q' t' hm'
          rw [hhv q t0 ht0] at hb; rw [hhv q' t0' ht0'] at hb'
          exact h.inj q q' t0 t0' b ht0 ht0' hb hb')
      (by
        intro q t b hq hf hb
        rw [hS3]
        rcases hchar q t hq with hm | hm
        · obtain ⟨z1, z2, z3⟩ := hblocks q t b hm hb
          refine ⟨z2, ?_⟩
          rcases z3 with z | z
          · obtain ⟨q', t', _, ht', hfz, hb'⟩ := hFblk b z
            exact (h.live q' t' b ht' hfz hb').2
          · exact .inl (Nat.le_trans h.frame.size z)
        · obtain ⟨h1, t0, ht0, h2⟩ := helder q t hm
          obtain ⟨hf0, hZ'⟩ := h2 hf
          rw [hhv q t0 ht0] at hb
          obtain ⟨l1, l2⟩ := h.live q t0 b ht0 hf0 hb
          refine ⟨fun hS => ?_, l2⟩
          obtain ⟨hlt, hnF⟩ := hold q t0 b h1 ht0 hb
          rcases (hp.new b hS).2 with (z | z) | z | z
          · exact l1 z
          · obtain ⟨q', hq', hbq'⟩ := mem_bl.1 z
            obtain ⟨e, sz, es, f, ht'⟩ := hZrow q' hq'
            have := h.inj q q' t0 _ b ht0 ht' hb hbq'
            subst this
            rcases hZ' with z' | z'
            · exact z' hq'
            · rw [ht0] at ht'; cases ht'; exact z' e sz es f rfl
          · exact hnF z
          · omega)
      (by
        intro q t b hq hb
        rcases hchar q t hq with hm | hm
        · exact (hblocks q t b hm hb).1
        · obtain ⟨h1, t0, ht0, _⟩ := helder q t hm
          rw [hhv q t0 ht0] at hb
          exact Nat.lt_of_lt_of_le (hold q t0 b h1 ht0 hb).1 hp.frame.size)
      (by intro b hb; rw [hS3] at hb; exact (hp.new b hb).1)
      (by
        intro b hb
        rw [hS3] at hb
        rcases (hp.new b hb).2 with (z | z) | z | z
        · exact .inl z
        · obtain ⟨q', hq', hbq'⟩ := mem_bl.1 z
          obtain ⟨e, sz, es, f, ht'⟩ := hZrow q' hq'
          cases f with
          | false => exact (h.live q' _ b ht' rfl hbq').2.elim (fun y => .inr (.inr y)) (fun y => .inr (.inl y))
          | true =>
            cases h.tk q' _ ht' with
            | rows _ _ _ _ xs' t1 t2 t3 t4 t5 => exact .inl (t5 rfl b hbq')
        · obtain ⟨q', t', _, ht', hfz, hb'⟩ := hFblk b z
          exact (h.live q' t' b ht' hfz hb').2.elim (fun y => .inr (.inr y)) (fun y => .inr (.inl y))
        · exact .inr (.inr (Nat.le_trans h.frame.size z)))
      (fun q hq => hq.1)
    refine hK g3 _ _ ?_
    exact hmove.outSlot o.dst hd out v (fun y hy => by cases hy; exact hA.mono ho2.1 (fun _ _ => rfl)) (fun _ => rfl) (fun _ hq => hq)

end Go.Pm
