/- The pure machine, part Q: what the printed proofs use besides: small forms of laws, shifts, views, lists of slots. Conditions: none (definitions and lemmas alone). -/
import Derived.Test.YtidinbjehfodoaaPmP
namespace Go.Pm
open Go
set_option linter.unusedVariables false
set_option linter.unusedSimpArgs false
set_option linter.unusedSectionVars false

theorem AllS.c {f : Nat → Option AV} {i : Nat} {x : Option AV} {r : List (Nat × Option AV)} (h : f i = x) (k : AllS f r) : AllS f ((i, x) :: r) := ⟨h, k⟩
theorem AllS.n {f : Nat → Option AV} : AllS f [] := trivial
theorem AllT.c {f : Nat → Option Tok} {i : Nat} {x : Option Tok} {r : List (Nat × Option Tok)} (h : f i = x) (k : AllT f r) : AllT f ((i, x) :: r) := ⟨h, k⟩
theorem AllT.n {f : Nat → Option Tok} : AllT f [] := trivial

/-- Shifts. -/
def shlI (k : IntKind) (a b : Int) : Int := k.wrap (a * 2 ^ (min b.toNat k.bits))
def shrI (k : IntKind) (a b : Int) : Int := a.fdiv (2 ^ (min b.toNat k.bits))

section
variable {P : Program} {σ : St} {o : Oper} {α : Type} [Inhabited α] {enc : α → List T}
theorem O.shl {t t' : TypeId} {x y : Operand} {k k' : IntKind} {m n : Int} (hn : 0 ≤ n) (ho : o.op = .binOp .shl t x y t') (hx : rd σ x = some (.imm (.val (.int k m)))) (hy : rd σ y = some (.imm (.val (.int k' n)))) :
    OpL P o σ [] ⟨some (.imm (.val (.int k (shlI k m n)))), [], []⟩ := .shfI ho hx hy hn rfl
theorem O.shr {t t' : TypeId} {x y : Operand} {k k' : IntKind} {m n : Int} (hn : 0 ≤ n) (ho : o.op = .binOp .shr t x y t') (hx : rd σ x = some (.imm (.val (.int k m)))) (hy : rd σ y = some (.imm (.val (.int k' n)))) :
    OpL P o σ [] ⟨some (.imm (.val (.int k (shrI k m n)))), [], []⟩ := .shfI ho hx hy hn rfl

end

/-- A value that is told with less. -/
inductive Tn : AV → AV → Prop where
  | rfl (x : AV) : Tn x x
  | nil (sz : Nat) : Tn (.imm (.val (.slice none 0 0))) (.imm (.row sz []))
  | agg (cs ds : List AV) : cs.length = ds.length → (∀ i, i < cs.length → Tn (cs.getD i default) (ds.getD i default)) → Tn (.agg cs) (.agg ds)

theorem Tn.rep {g : Gh} {w : World} {x y : AV} (h : Tn x y) : ∀ {v : Value}, RepA g w x v → RepA g w y v := by
  induction h with
  | rfl x => exact fun h => h
  | nil sz => intro v h; rw [h.valEq]; exact .imm _ _ (.nilrow _ _ _)
  | agg cs ds h1 _ ih =>
    intro v h
    cases h with
    | agg _ vs e1 e2 => exact .agg ds vs (by rw [e1, h1]) (fun i hi => ih i (by omega) (e2 i (by omega)))

inductive Tns : List AV → List AV → Prop where
  | nil : Tns [] []
  | cons {x y : AV} {l m : List AV} : Tn x y → Tns l m → Tns (x :: l) (y :: m)
theorem Tns.all {l m : List AV} (h : Tns l m) : l.length = m.length ∧ ∀ i, i < l.length → Tn (l.getD i default) (m.getD i default) := by
  induction h with
  | nil => exact ⟨rfl, fun i hi => by simp at hi⟩
  | cons h1 _ ih =>
    refine ⟨by simp [ih.1], fun i hi => ?_⟩
    cases i with
    | zero => simpa using h1
    | succ i => simpa using ih.2 i (by simpa using hi)

inductive Tk : Tok → Tok → Prop where
  | rfl (x : Tok) : Tk x x
  | box {l m : List AV} : Tns l m → Tk (.box l) (.box m)

def lkr : List (Nat × Nat) → Nat → Nat
  | [], i => i
  | (k, x) :: l, i => cond (Nat.beq i k) x (lkr l i)

def keysOk (n : Nat) (ks : List Nat) : Bool := ks.all fun k => Nat.blt k n
theorem keysOk_lt {n : Nat} {ks : List Nat} (h : keysOk n ks = true) : ∀ k, k ∈ ks → ¬ n ≤ k := fun k hk => by
  have := List.all_eq_true.1 h k hk
  have := Nat.le_of_ble_eq_true this
  omega

/-- Slots, told with less, under other names. -/
inductive RS (ρ : Nat → Nat) (n : Nat) (f : Nat → Option AV) : List (Nat × Option AV) → Prop where
  | n : RS ρ n f []
  | c {i : Nat} {x y : AV} {r : List (Nat × Option AV)} : f i = some y → Tn y (x.ren ρ) → keysOk n x.keys = true → RS ρ n f r → RS ρ n f ((i, some x) :: r)
inductive RT (ρ : Nat → Nat) (n : Nat) (f : Nat → Option Tok) : List (Nat × Option Tok) → Prop where
  | n : RT ρ n f []
  | c {i : Nat} {x y : Tok} {r : List (Nat × Option Tok)} : f (ρ i) = some y → Tk y (x.ren ρ) → Nat.blt i n = true → keysOk n x.keys = true → RT ρ n f r → RT ρ n f ((i, some x) :: r)

theorem RS.out {ρ : Nat → Nat} {n : Nat} {f : Nat → Option AV} {l : List (Nat × Option AV)} (h : RS ρ n f l) : ∀ i x, lks l i = some x → ∃ y, f i = some y ∧ Tn y (x.ren ρ) ∧ keysOk n x.keys = true := by
  induction h with
  | n => intro i x hx; cases hx
  | c h1 h2 h3 _ ih =>
    intro i x hx
    rw [lks_cons] at hx
    split at hx
    · rename_i e; cases hx; subst e; exact ⟨_, h1, h2, h3⟩
    · exact ih i x hx
theorem RT.out {ρ : Nat → Nat} {n : Nat} {f : Nat → Option Tok} {l : List (Nat × Option Tok)} (h : RT ρ n f l) : ∀ i x, lkt l i = some x → ∃ y, f (ρ i) = some y ∧ Tk y (x.ren ρ) ∧ Nat.blt i n = true ∧ keysOk n x.keys = true := by
  induction h with
  | n => intro i x hx; cases hx
  | c h1 h2 h3 h4 _ ih =>
    intro i x hx
    rw [lkt_cons] at hx
    split at hx
    · rename_i e; cases hx; subst e; exact ⟨_, h1, h2, h3, h4⟩
    · exact ih i x hx
theorem RT.key {ρ : Nat → Nat} {n : Nat} {f : Nat → Option Tok} {l : List (Nat × Option Tok)} (h : RT ρ n f l) : ∀ i x, lkt l i = some x → i ∈ l.map (·.1) := by
  induction h with
  | n => intro i x hx; cases hx
  | c h1 h2 h3 h4 _ ih =>
    intro i x hx
    rw [lkt_cons] at hx
    split at hx
    · rename_i e; subst e; simp
    · exact List.mem_cons_of_mem _ (ih i x hx)

theorem Tk.rep {g : Gh} {w : World} {k : Nat} {t u : Tok} (h : Tk t u) (hr : TokRep g w k t) : TokRep g w k u := by
  cases h with
  | rfl => exact hr
  | box hts =>
    cases hr with
    | box _ b C e e1 e2 e3 e4 =>
      obtain ⟨a1, a2⟩ := hts.all
      exact .box _ b C e e1 e2 (by rw [e3, a1]) (fun i hi => (a2 i (by omega)).rep (e4 i (by omega)))
theorem Tk.frz {t u : Tok} (h : Tk t u) : t.frozen = u.frozen := by cases h <;> rfl
theorem Tok.ren_frz (ρ : Nat → Nat) (t : Tok) : (t.ren ρ).frozen = t.frozen := by cases t <;> rfl

theorem ren_low {ρ : Nat → Nat} (hρ : ∀ k, k < 1000 → ρ k = k) (x : AV) : (∀ k, k ∈ x.keys → k < 1000) → x.ren ρ = x := by
  refine AV.rec (motive_1 := fun x => (∀ k, k ∈ x.keys → k < 1000) → x.ren ρ = x) (motive_2 := fun l => (∀ k, k ∈ keysL l → k < 1000) → renL ρ l = l)
    ?_ ?_ ?_ ?_ ?_ ?_ ?_ ?_ ?_ ?_ ?_ ?_ x
  · intro x _; rfl
  · intro k hk; simp only [AV.ren]; rw [hρ k (hk k (by simp [AV.keys]))]
  · intro k a b c hk; simp only [AV.ren]; rw [hρ k (hk k (by simp [AV.keys]))]
  · intro k o hk; simp only [AV.ren]; rw [hρ k (hk k (by simp [AV.keys]))]
  · intro k a b c hk; simp only [AV.ren]; rw [hρ k (hk k (by simp [AV.keys]))]
  · intro k a b c d hk; simp only [AV.ren]; rw [hρ k (hk k (by simp [AV.keys]))]
  · intro cs o _; rfl
  · intro cs ih hk; simp only [AV.ren]; rw [ih (by simpa [AV.keys] using hk)]
  · intro cs ih hk; simp only [AV.ren]; rw [ih (by simpa [AV.keys] using hk)]
  · intro f cs ih hk; simp only [AV.ren]; rw [ih (by simpa [AV.keys] using hk)]
  · intro _; rfl
  · intro x l ih1 ih2 hk
    simp only [renL]
    rw [ih1 (fun k h => hk k (by simp [keysL, h])), ih2 (fun k h => hk k (by simp [keysL, h]))]

theorem Gives.renameT {σ σ' : St} (ρ : Nat → Nat) (hρ : ∀ k, k < 1000 → ρ k = k)
    (hsl : ∀ i x, σ'.sl i = some x → ∃ y, σ.sl i = some y ∧ Tn y (x.ren ρ) ∧ ∀ k, k ∈ x.keys → ¬ σ'.free k)
    (htk : ∀ k t, σ'.tk k = some t → ∃ u, σ.tk (ρ k) = some u ∧ Tk u (t.ren ρ) ∧ ¬ σ'.free k ∧ ∀ q, q ∈ t.keys → ¬ σ'.free q)
    (hinj : ∀ k k' t t', σ'.tk k = some t → σ'.tk k' = some t' → ρ k = ρ k' → k = k') (hlow : ∀ k, k < 1000 → ¬ σ'.free k) : Gives σ σ' := by
  intro cx g a w h
  let g' : Gh := { S := g.S, hv := fun k => g.hv (ρ k), used := fun k => g.used (ρ k) ∧ ¬ σ'.free k }
  have hun : ∀ (x : AV) (v : Value), RepA g w (x.ren ρ) v → (∀ k, k ∈ x.keys → ¬ σ'.free k) → RepA g' w x v := fun x v hr hf =>
    RepA.unren (g := g) (g' := g') rfl hr x rfl (fun k hk => ⟨rfl, hr.keys_used _ (ren_keys x k hk), hf k hk⟩)
  refine ⟨g', ?_⟩
  refine { size := h.size, defers := h.defers, sl := ?_, tk := ?_, used := fun k hk => hk.2, key := ?_, inj := ?_, live := ?_, blk := ?_, stab := h.stab, frame := h.frame, old := h.old, grew := h.grew, ent := ?_, low := hlow }
  · intro i x hx
    obtain ⟨y, h1, h2, h3⟩ := hsl i x hx
    exact hun x _ (h2.rep (h.sl i _ h1)) h3
  · intro k t ht
    obtain ⟨u, h1, hu, h2, h3⟩ := htk k t ht
    have hr := hu.rep (h.tk _ _ h1)
    cases t with
    | box cs =>
      simp only [Tok.ren] at hr
      cases hr with
      | box _ b C e e1 e2 e3 e4 =>
        rw [renL_length] at e3
        refine .box cs b C e e1 e2 e3 (fun i hi => hun _ _ ?_ (fun q hq => h3 q (keysL_mem hi hq)))
        rw [← renL_getD ρ cs i hi]
        exact e4 i (by rw [renL_length]; exact hi)
    | rows e sz es f =>
      simp only [Tok.ren] at hr
      cases hr with
      | rows _ _ _ _ xs e1 e2 e3 e4 e5 => exact .rows e sz es f xs e1 e2 e3 e4 e5
    | iter s p =>
      simp only [Tok.ren] at hr
      cases hr with
      | iter _ _ b e1 e2 => exact .iter s p b e1 e2
  · intro k t ht
    obtain ⟨u, h1, _, h2, _⟩ := htk k t ht
    exact ⟨h.key _ _ h1, h2⟩
  · intro k k' t t' b hk hk' hb hb'
    obtain ⟨u, h1, _⟩ := htk k t hk
    obtain ⟨u', h1', _⟩ := htk k' t' hk'
    exact hinj k k' t t' hk hk' (h.inj _ _ _ _ b h1 h1' hb hb')
  · intro k t b hk hf hb
    obtain ⟨u, h1, hu, _⟩ := htk k t hk
    refine h.live _ _ b h1 ?_ hb
    rw [hu.frz, Tok.ren_frz]; exact hf
  · intro k t b hk hb
    obtain ⟨u, h1, _⟩ := htk k t hk
    exact h.blk _ _ b h1 hb
  · intro p hp
    obtain ⟨h1, h2⟩ := h.ent p hp
    exact ⟨hun p.1 p.2 (by rw [ren_low hρ p.1 h2]; exact h1) (fun k hk => hlow k (h2 k hk)), h2⟩

theorem nodup_inj {α β : Type} {f : α → β} {l : List α} (h : (l.map f).Nodup) : ∀ a b, a ∈ l → b ∈ l → f a = f b → a = b := by
  induction l with
  | nil => intro a b ha; cases ha
  | cons x l ih =>
    rw [List.map_cons, List.nodup_cons] at h
    intro a b ha hb e
    rcases List.mem_cons.1 ha with ea | ha' <;> rcases List.mem_cons.1 hb with eb | hb'
    · rw [ea, eb]
    · exact (h.1 (List.mem_map.2 ⟨b, hb', by rw [← e, ea]⟩)).elim
    · exact (h.1 (List.mem_map.2 ⟨a, ha', by rw [e, eb]⟩)).elim
    · exact ih h.2 a b ha' hb' e

theorem Gives.mkR {sl sl' : List (Nat × Option AV)} {tk tk' : List (Nat × Option Tok)} {n n' : Nat} (ρ : List (Nat × Nat)) (h1 : RS (lkr ρ) n' (lks sl) sl') (h2 : RT (lkr ρ) n' (lkt tk) tk')
    (h3 : nodupB ((tk'.map (·.1)).map (lkr ρ)) = true) (h4 : (ρ.all fun p => Nat.ble 1000 p.1) = true) (h5 : Nat.ble 1000 n' = true) : Gives (mkSt sl tk n) (mkSt sl' tk' n') := by
  have hρ : ∀ k, k < 1000 → lkr ρ k = k := by
    intro k hk
    clear h1 h2 h3
    induction ρ with
    | nil => rfl
    | cons p ρ ih =>
      obtain ⟨a, b⟩ := p
      rw [List.all_cons, Bool.and_eq_true] at h4
      have h6 := Nat.le_of_ble_eq_true h4.1
      have h7 : Nat.beq k a = false := by
        rw [← Bool.not_eq_true]
        intro h
        have := Nat.eq_of_beq_eq_true h
        simp only at h6
        omega
      simp only [lkr, h7]
      exact ih h4.2
  have hn : 1000 ≤ n' := Nat.le_of_ble_eq_true h5
  refine .renameT (lkr ρ) hρ (fun i x hx => ?_) (fun k t ht => ?_) (fun k k' t t' hk hk' e => ?_) (fun k hk hf => ?_)
  · obtain ⟨y, e1, e2, e3⟩ := h1.out i x hx
    exact ⟨y, e1, e2, keysOk_lt e3⟩
  · obtain ⟨y, e1, e2, e3, e4⟩ := h2.out k t ht
    refine ⟨y, e1, e2, fun hf => ?_, keysOk_lt e4⟩
    have e5 := Nat.le_of_ble_eq_true e3
    have e6 : n' ≤ k := hf
    omega
  · exact nodup_inj (nodupB_some h3) k k' (h2.key k t hk) (h2.key k' t' hk') e
  · have e6 : n' ≤ k := hf
    omega

theorem Gives.mintS {sl : List (Nat × Option AV)} {tk : List (Nat × Option Tok)} {n : Nat} (i e sz : Nat) (hi : lks sl i = some (.imm (.val (.slice none 0 0)))) : Gives (mkSt sl tk n) (mkSt ((i, some (.own n)) :: sl) ((n, some (.rows e sz [] false)) :: tk) (n + 1)) := by
  have h := Gives.mint (σ := mkSt sl tk n) (i := i) (k := n) (e := e) (sz := sz) hi (Nat.le_refl n)
  refine h.trans fun cx g a w hs => ⟨g, hs.eqv _ (fun j => ?_) (fun q => ?_) (fun q hq => ?_)⟩
  · simp only [mkSt, lks_cons]
  · simp only [mkSt, lkt_cons]
  · have : n + 1 ≤ q := hq
    exact ⟨show n ≤ q by omega, by omega⟩

section
variable {σ τ : St} {KK : Px → St → Prop} {e : Px}
theorem toN (h : Gives σ τ) : To .normal τ .normal σ := ⟨h⟩
theorem fkN {R V : Type} {τ : V → St} {v : V} (h : Gives σ (τ v)) : Fk (R := R) KK τ (.inr v) .normal σ := .n h
theorem fkR {R V : Type} {τ : V → St} {r : R} (h : KK .ret σ) : Fk (V := V) KK τ (.inl r) .ret σ := .r h
theorem rdN {α β : Type} {st : α → St} {out : β} {v : α} (h : Gives σ (st v)) : Rd KK st out (.inl v) .normal σ := .n h
theorem rdX {α β : Type} {st : α → St} {out b : β} {id : Nat} (h : b = out → KK (.exit id) σ) : Rd KK st out (.inr b : α ⊕ β) (.exit id) σ := .x h
theorem rdR {α β : Type} {st : α → St} {out b : β} (h : b = out → KK .ret σ) : Rd KK st out (.inr b : α ⊕ β) .ret σ := .r h
theorem sbb {a b : Bool} (e : a = b) : Tn (.imm (.val (.bool a))) (.imm (.val (.bool b))) := by rw [e]; exact .rfl _
theorem srr {α : Type} {enc : α → List T} {sz : Nat} {a b : List α} (e : a = b) : Tn (.imm (.row sz (a.map enc))) (.imm (.row sz (b.map enc))) := by rw [e]; exact .rfl _
theorem sii {k : IntKind} {a b : Int} (e : a = b) : Tn (.imm (.val (.int k a))) (.imm (.val (.int k b))) := by rw [e]; exact .rfl _
end
end Go.Pm
