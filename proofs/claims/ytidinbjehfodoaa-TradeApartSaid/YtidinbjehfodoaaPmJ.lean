/- The pure machine, part J: ghost steps: forgetting, renaming keys, nil as a row, a row that becomes data. Conditions: none (definitions and lemmas alone). -/
import Derived.Test.YtidinbjehfodoaaPmI
namespace Go.Pm
open Go
set_option linter.unusedVariables false
set_option linter.unusedSimpArgs false

mutual
def AV.ren (ρ : Nat → Nat) : AV → AV
  | .own k => .own (ρ k)
  | .view k sz off n => .view (ρ k) sz off n
  | .ptr k off => .ptr (ρ k) off
  | .eptr k sz i j => .eptr (ρ k) sz i j
  | .cap k sz off n c => .cap (ρ k) sz off n c
  | .agg cs => .agg (renL ρ cs)
  | .tup vs => .tup (renL ρ vs)
  | .fn f cap => .fn f (renL ρ cap)
  | .imm x => .imm x
  | .rptr cs off => .rptr cs off
def renL (ρ : Nat → Nat) : List AV → List AV
  | [] => []
  | x :: l => x.ren ρ :: renL ρ l
end

theorem renL_length (ρ : Nat → Nat) : ∀ l : List AV, (renL ρ l).length = l.length
  | [] => rfl
  | x :: l => by simp [renL, renL_length ρ l]

theorem renL_getD (ρ : Nat → Nat) : ∀ (l : List AV) (i : Nat), i < l.length → (renL ρ l).getD i default = (l.getD i default).ren ρ
  | x :: l, 0, _ => by simp [renL]
  | x :: l, i + 1, h => by simpa [renL] using renL_getD ρ l i (by simpa using h)

theorem keysL_mem {l : List AV} {i k : Nat} (hi : i < l.length) (hk : k ∈ (l.getD i default).keys) : k ∈ keysL l := by
  induction l generalizing i with
  | nil => simp at hi
  | cons x l ih =>
    cases i with
    | zero => simp at hk; simp [keysL, hk]
    | succ i => simp at hi hk; simp only [keysL, List.mem_append]; exact .inr (ih (i := i) hi (by simpa [List.getD_eq_getElem?_getD] using hk))

def Tok.ren (ρ : Nat → Nat) : Tok → Tok
  | .box cs => .box (renL ρ cs)
  | t => t

def Tok.keys : Tok → List Nat
  | .box cs => keysL cs
  | _ => []

theorem RepA.unren {g g' : Gh} {w : World} {ρ : Nat → Nat} (hS : g'.S = g.S) : ∀ {y : AV} {v : Value}, RepA g w y v → ∀ x : AV, y = x.ren ρ → (∀ k, k ∈ x.keys → g'.hv k = g.hv (ρ k) ∧ g'.used k) → RepA g' w x v := by
  intro y v h
  induction h with
  | imm z v h => intro x e hk; cases x <;> simp only [AV.ren] at e <;> first | (cases e; done) | skip
                 cases e; exact .imm _ _ (h.mono (fun b hb => by rw [hS]; exact hb) (fun _ _ => rfl))
  | own k h1 => intro x e hk; cases x <;> simp only [AV.ren] at e <;> first | (cases e; done) | skip
                cases e
                obtain ⟨e1, e2⟩ := hk _ (List.mem_singleton.2 rfl)
                rw [← e1]; exact .own _ e2
  | view k sz off n b n0 c0 c h1 h2 h3 h4 =>
    intro x e hk; cases x <;> simp only [AV.ren] at e <;> first | (cases e; done) | skip
    cases e
    obtain ⟨e1, e2⟩ := hk _ (List.mem_singleton.2 rfl)
    exact .view _ _ _ _ b n0 c0 c e2 (e1.trans h2) h3 h4
  | view0 k sz off c A h1 =>
    intro x e hk; cases x <;> simp only [AV.ren] at e <;> first | (cases e; done) | skip
    cases e
    obtain ⟨e1, e2⟩ := hk _ (List.mem_singleton.2 rfl)
    exact .view0 _ _ _ c A e2
  | ptr k off b h1 h2 =>
    intro x e hk; cases x <;> simp only [AV.ren] at e <;> first | (cases e; done) | skip
    cases e
    obtain ⟨e1, e2⟩ := hk _ (List.mem_singleton.2 rfl)
    exact .ptr _ _ b e2 (e1.trans h2)
  | cap k sz off n c b n0 c0 h1 h2 h3 h4 =>
    intro x e hk; cases x <;> simp only [AV.ren] at e <;> first | (cases e; done) | skip
    cases e
    obtain ⟨e1, e2⟩ := hk _ (List.mem_singleton.2 rfl)
    exact .cap _ _ _ _ _ b n0 c0 e2 (e1.trans h2) h3 h4
  | eptr k sz i j b n0 c0 h1 h2 =>
    intro x e hk; cases x <;> simp only [AV.ren] at e <;> first | (cases e; done) | skip
    cases e
    obtain ⟨e1, e2⟩ := hk _ (List.mem_singleton.2 rfl)
    exact .eptr _ _ _ _ b n0 c0 e2 (e1.trans h2)
  | rptr cs off b o u h1 h2 h3 =>
    intro x e hk; cases x <;> simp only [AV.ren] at e <;> first | (cases e; done) | skip
    cases e
    exact .rptr cs off b o u (by rw [hS]; exact h1) h2 (fun j hj => (h3 j hj).mono (fun b hb => by rw [hS]; exact hb) (fun _ _ => rfl))
  | agg cs vs h1 h2 ih =>
    intro x e hk; cases x <;> simp only [AV.ren] at e <;> first | (cases e; done) | skip
    rename_i l
    cases e
    rw [renL_length] at h1
    refine .agg l vs h1 (fun i hi => ih i (by rw [renL_length]; exact hi) _ (renL_getD ρ l i hi) (fun k hk' => hk k (by simp only [AV.keys]; exact keysL_mem hi hk')))
  | tup cs vs h1 h2 ih =>
    intro x e hk; cases x <;> simp only [AV.ren] at e <;> first | (cases e; done) | skip
    rename_i l
    cases e
    rw [renL_length] at h1
    refine .tup l vs h1 (fun i hi => ih i (by rw [renL_length]; exact hi) _ (renL_getD ρ l i hi) (fun k hk' => hk k (by simp only [AV.keys]; exact keysL_mem hi hk')))
  | fn f cap vs h1 h2 ih =>
    intro x e hk; cases x <;> simp only [AV.ren] at e <;> first | (cases e; done) | skip
    rename_i f' l
    cases e
    rw [renL_length] at h1
    refine .fn f l vs h1 (fun i hi => ih i (by rw [renL_length]; exact hi) _ (renL_getD ρ l i hi) (fun k hk' => hk k (by simp only [AV.keys]; exact keysL_mem hi hk')))

theorem RepA.keys_used {g : Gh} {w : World} {y : AV} {v : Value} (h : RepA g w y v) : ∀ k, k ∈ y.keys → g.used k := by
  induction h with
  | imm => intro k hk; simp [AV.keys] at hk
  | own k h1 => intro q hq; simp [AV.keys] at hq; subst hq; exact h1
  | view k sz off n b n0 c0 c h1 => intro q hq; simp [AV.keys] at hq; subst hq; exact h1
  | view0 k sz off c A h1 => intro q hq; simp [AV.keys] at hq; subst hq; exact h1
  | ptr k off b h1 => intro q hq; simp [AV.keys] at hq; subst hq; exact h1
  | cap k sz off n c b n0 c0 h1 => intro q hq; simp [AV.keys] at hq; subst hq; exact h1
  | eptr k sz i j b n0 c0 h1 => intro q hq; simp [AV.keys] at hq; subst hq; exact h1
  | rptr => intro k hk; simp [AV.keys] at hk
  | agg cs vs h1 h2 ih =>
    intro k hk
    simp only [AV.keys] at hk
    obtain ⟨i, hi, hk'⟩ : ∃ i, i < cs.length ∧ k ∈ (cs.getD i default).keys := by
      clear h1 h2 ih
      induction cs with
      | nil => simp [keysL] at hk
      | cons x l ihl =>
        simp only [keysL, List.mem_append] at hk
        rcases hk with hk | hk
        · exact ⟨0, by simp, by simpa using hk⟩
        · obtain ⟨i, hi, h⟩ := ihl hk; exact ⟨i + 1, by simp; exact hi, by simpa using h⟩
    exact ih i hi k hk'
  | tup cs vs h1 h2 ih =>
    intro k hk
    simp only [AV.keys] at hk
    obtain ⟨i, hi, hk'⟩ : ∃ i, i < cs.length ∧ k ∈ (cs.getD i default).keys := by
      clear h1 h2 ih
      induction cs with
      | nil => simp [keysL] at hk
      | cons x l ihl =>
        simp only [keysL, List.mem_append] at hk
        rcases hk with hk | hk
        · exact ⟨0, by simp, by simpa using hk⟩
        · obtain ⟨i, hi, h⟩ := ihl hk; exact ⟨i + 1, by simp; exact hi, by simpa using h⟩
    exact ih i hi k hk'
  | fn f cs vs h1 h2 ih =>
    intro k hk
    simp only [AV.keys] at hk
    obtain ⟨i, hi, hk'⟩ : ∃ i, i < cs.length ∧ k ∈ (cs.getD i default).keys := by
      clear h1 h2 ih
      induction cs with
      | nil => simp [keysL] at hk
      | cons x l ihl =>
        simp only [keysL, List.mem_append] at hk
        rcases hk with hk | hk
        · exact ⟨0, by simp, by simpa using hk⟩
        · obtain ⟨i, hi, h⟩ := ihl hk; exact ⟨i + 1, by simp; exact hi, by simpa using h⟩
    exact ih i hi k hk'

theorem ren_keys {ρ : Nat → Nat} : ∀ (x : AV) (k : Nat), k ∈ x.keys → ρ k ∈ (x.ren ρ).keys
  | .own q, k, h => by simp [AV.keys, AV.ren] at h ⊢; rw [h]
  | .view q _ _ _, k, h => by simp [AV.keys, AV.ren] at h ⊢; rw [h]
  | .ptr q _, k, h => by simp [AV.keys, AV.ren] at h ⊢; rw [h]
  | .eptr q _ _ _, k, h => by simp [AV.keys, AV.ren] at h ⊢; rw [h]
  | .cap q _ _ _ _, k, h => by simp [AV.keys, AV.ren] at h ⊢; rw [h]
  | .agg cs, k, h => by simp only [AV.keys, AV.ren] at h ⊢; exact ren_keysL cs k h
  | .tup cs, k, h => by simp only [AV.keys, AV.ren] at h ⊢; exact ren_keysL cs k h
  | .fn _ cs, k, h => by simp only [AV.keys, AV.ren] at h ⊢; exact ren_keysL cs k h
  | .imm _, k, h => by simp [AV.keys] at h
  | .rptr _ _, k, h => by simp [AV.keys] at h
where
  ren_keysL {ρ : Nat → Nat} : ∀ (l : List AV) (k : Nat), k ∈ keysL l → ρ k ∈ keysL (renL ρ l)
    | x :: l, k, h => by
      simp only [keysL, renL, List.mem_append] at h ⊢
      rcases h with h | h
      · exact .inl (ren_keys x k h)
      · exact .inr (ren_keysL l k h)

/-- A nil slice as a row of ours that has nothing. -/
theorem Gives.mint {σ : St} {i k e sz : Nat} (hi : σ.sl i = some (.imm (.val (.slice none 0 0)))) (hk : σ.free k) :
    Gives σ ⟨fun j => if j = i then some (.own k) else σ.sl j, fun q => if q = k then some (.rows e sz [] false) else σ.tk q, fun q => σ.free q ∧ q ≠ k⟩ := by
  intro cx g a w h
  have hn := h.newTok (Fr.refl (fun _ => False) w) k hk (.slice none 0 0) (.rows e sz [] false) (fun _ => False)
    (.rows e sz [] false [] (by rw [Gh.put_same]; exact World.ownsRow_nil w 0 e sz) (fun z hz => by cases hz) (fun i j hi => by simp at hi) (fun u hu => by cases hu) (fun hf => by cases hf)) rfl
    (fun b hb => by cases hb) (fun _ _ x => x.elim)
    (fun q => if q = k then some (.rows e sz [] false) else σ.tk q) (fun q => σ.free q ∧ q ≠ k) (fun q hq => hq) (fun q u hq => by
      by_cases e : q = k
      · simp only [e, if_true] at hq; cases hq; exact .inl ⟨e, rfl⟩
      · simp only [e, if_false] at hq; exact .inr ⟨e, fun x => x, hq⟩)
  refine ⟨g.put k (.slice none 0 0), { hn with sl := fun j x hx => ?_ }⟩
  by_cases e : j = i
  · simp only [e, if_true] at hx; cases hx
    have hv := (h.sl i _ hi).valEq
    rw [e, hv]
    have := RepA.own (g := g.put k (.slice none 0 0)) (w := w) k (.inl rfl)
    rwa [Gh.put_same] at this
  · simp only [e, if_false] at hx
    exact hn.sl j x hx

/-- A row that lies in stable blocks is data. -/
theorem Lies.toT {g : Gh} {w : World} {sz : Nat} {es : List (List T)} {b o c : Nat} {vs : List Value} {S : Nat → Prop} (h : Lies g w sz es b o vs) (hS : ∀ b, g.S b → S b) (hb : S b) (hc : es.length ≤ c) :
    RepT S w (.row sz es) (.slice (some ⟨b, o, none⟩) es.length c) :=
  .row sz es b o c (fun i j => vs.getD (i * sz + j) undef) hc h.uni hb
    (fun i j hi hj => by
      have hlt := row_index hi hj
      rw [← h.len] at hlt
      exact h.range _ _ (by rw [List.getD_eq_getElem?_getD, List.getElem?_eq_getElem hlt]; rfl))
    (fun i j hi hj => (h.rep i j hi hj).mono hS (fun _ _ => rfl))

/-- A row of ours becomes data, in one slot. -/
theorem Gives.freeze {σ : St} {i k e sz : Nat} {es : List (List T)} {f : Bool} (hi : σ.sl i = some (.own k)) (hk : σ.tk k = some (.rows e sz es f)) :
    Gives σ ⟨fun j => if j = i then some (.imm (.row sz es)) else σ.sl j, fun q => if q = k then some (.rows e sz es true) else σ.tk q, σ.free⟩ := by
  intro cx g a w h
  have hn := h.freeze k e sz es f hk
  refine ⟨_, { hn with sl := fun j x hx => ?_ }⟩
  by_cases e' : j = i
  · simp only [e', if_true] at hx; cases hx
    rw [e']
    have hr := hn.sl i (.own k) hi
    obtain ⟨A, c, e1, hl⟩ := rowsOf_rep hn hr (sz := sz) (es := es) (by simp [rowsOf, St.tok])
    have hval : a.tmps.getD i undef = g.hv k := by
      have := h.sl i (.own k) hi
      generalize a.tmps.getD i undef = v at this
      cases this; rfl
    by_cases hne : es = []
    · subst hne; rw [e1]; exact .imm _ _ (.nilrow _ _ _)
    · obtain ⟨b, o, vs, rfl, hlies⟩ := hl hne
      have hc : es.length ≤ c := by
        cases h.tk k _ hk with
        | rows _ _ _ _ xs t1 t2 t3 t4 t5 =>
          rcases t1.2 with ⟨e2, e3⟩ | ⟨b2, cap, cur, e2, _, _, hcap, _⟩
          · rw [hval, e2] at e1; cases e1
          · rw [hval, e2] at e1; cases e1; exact hcap
      rw [e1]
      exact .imm _ _ (hlies.toT (fun _ x => x) (.inr (by rw [← hval, e1]; rfl)) hc)
  · simp only [e', if_false] at hx
    exact hn.sl j x hx

end Go.Pm
