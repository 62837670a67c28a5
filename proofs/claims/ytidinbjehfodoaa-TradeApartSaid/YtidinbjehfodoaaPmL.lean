/- The pure machine, part L: how values go out, and a function's contract out of its body. Conditions: none (definitions and lemmas alone). -/
import Derived.Test.YtidinbjehfodoaaPmK
namespace Go.Pm
open Go
set_option linter.unusedVariables false
set_option linter.unusedSimpArgs false

mutual
/-- An abstract value goes out as x: the tokens C are handed over, the rows Z are only lent (nobody writes them any more). -/
inductive Cf (σ : St) : AV → X → List Nat → List Nat → Prop where
  | imm (x : T) : Cf σ (.imm x) (.imm x) [] []
  | nilrow (sz : Nat) : Cf σ (.imm (.val (.slice none 0 0))) (.imm (.row sz [])) [] []
  | nilown (e : TypeId) (sz : Nat) : Cf σ (.imm (.val (.slice none 0 0))) (.xown e sz []) [] []
  | own (k : Nat) (e : TypeId) (sz : Nat) (es : List (List T)) : σ.tk k = some (.rows e sz es false) → Cf σ (.own k) (.xown e sz es) [k] []
  | lend (k : Nat) (e : TypeId) (sz : Nat) (es : List (List T)) (f : Bool) : σ.tk k = some (.rows e sz es f) → Cf σ (.own k) (.imm (.row sz es)) [] [k]
  | view (k : Nat) (e : TypeId) (sz off n : Nat) (es : List (List T)) (f : Bool) : σ.tk k = some (.rows e sz es f) → off + n ≤ es.length → Cf σ (.view k sz off n) (.imm (.row sz ((es.drop off).take n))) [] [k]
  | ptr (k : Nat) (cs : List AV) (xs : List X) (C Z : List Nat) : σ.tk k = some (.box cs) → Cfs σ cs xs C Z → Cf σ (.ptr k 0) (.xbox xs) (k :: C) Z
  | agg (cs : List AV) (xs : List X) (C Z : List Nat) : Cfs σ cs xs C Z → Cf σ (.agg cs) (.agg xs) C Z
  | tup (cs : List AV) (xs : List X) (C Z : List Nat) : Cfs σ cs xs C Z → Cf σ (.tup cs) (.tup xs) C Z
  | fn (f : Nat) (cs : List AV) (xs : List X) (C Z : List Nat) : Cfs σ cs xs C Z → Cf σ (.fn f cs) (.fn f xs) C Z
inductive Cfs (σ : St) : List AV → List X → List Nat → List Nat → Prop where
  | nil : Cfs σ [] [] [] []
  | cons (a : AV) (l : List AV) (x : X) (xs : List X) (C C' Z Z' : List Nat) : Cf σ a x C Z → Cfs σ l xs C' Z' → Cfs σ (a :: l) (x :: xs) (C ++ C') (Z ++ Z')
end

/-- Some of the values go out. -/
inductive Cfo (σ : St) : List AV → List (Option X) → List Nat → List Nat → Prop where
  | nil : Cfo σ [] [] [] []
  | none (a : AV) (l : List AV) (ss : List (Option X)) (C Z : List Nat) : Cfo σ l ss C Z → Cfo σ (a :: l) (none :: ss) C Z
  | some (a : AV) (l : List AV) (x : X) (ss : List (Option X)) (C C' Z Z' : List Nat) : Cf σ a x C Z → Cfo σ l ss C' Z' → Cfo σ (a :: l) (some x :: ss) (C ++ C') (Z ++ Z')

/-- The blocks of tokens. -/
def bl (g : Gh) (ks : List Nat) : List Nat := ks.flatMap fun k => blkL (g.hv k)

theorem bl_append (g : Gh) (a b : List Nat) : bl g (a ++ b) = bl g a ++ bl g b := by simp [bl]
theorem bl_cons (g : Gh) (k : Nat) (b : List Nat) : bl g (k :: b) = blkL (g.hv k) ++ bl g b := by simp [bl]
theorem mem_bl {g : Gh} {ks : List Nat} {b : Nat} : b ∈ bl g ks ↔ ∃ k, k ∈ ks ∧ hblk (g.hv k) = some b := by
  simp only [bl, List.mem_flatMap, blkL]
  constructor
  · rintro ⟨k, hk, hb⟩
    refine ⟨k, hk, ?_⟩
    cases h : hblk (g.hv k) with
    | none => rw [h] at hb; cases hb
    | some c => rw [h] at hb; simp at hb; rw [hb]
  · rintro ⟨k, hk, hb⟩
    exact ⟨k, hk, by rw [hb]; simp⟩

section
variable {cx : Cx} {g : Gh} {σ : St} {a : Act} {w : World} {P : Program}

/-- A row that is lent. -/
theorem lend_rep (h : SR cx g σ a w) {av : AV} {v : Value} {sz : Nat} {es : List (List T)} {S' : Nat → Prop} {k : Nat} (hr : RepA g w av v) (hk : keyOf av = [k]) (hes : rowsOf σ sz av = some es)
    (hS : ∀ b, g.S b → S' b) (hZ : ∀ b, hblk (g.hv k) = some b → S' b) : RepT S' w (.row sz es) v := by
  obtain ⟨A, c, e1, hl⟩ := rowsOf_rep h hr hes
  by_cases hne : es = []
  · subst hne; rw [e1]; exact .nilrow _ _ _
  · obtain ⟨b, o, vs, rfl, hlies⟩ := hl hne
    have : es.length ≤ c ∧ hblk (g.hv k) = some b := by
      cases hr with
      | own q hq =>
        simp only [keyOf, List.cons.injEq, and_true] at hk; subst hk
        simp only [rowsOf] at hes
        cases ht : σ.tk q with
        | none => rw [ht] at hes; cases hes
        | some t =>
          cases h.tk q t ht with
          | box cs b2 C e2 f1 f2 f3 f4 => rw [ht] at hes; cases hes
          | iter s p b2 f1 f2 => rw [ht] at hes; cases hes
          | rows e2 sz2 es2 f xs t1 t2 t3 t4 t5 =>
            rw [ht] at hes
            simp only at hes
            split at hes
            · cases hes
              rcases t1.2 with ⟨f1, _⟩ | ⟨b2, cap, cur, f1, _, _, hcap, _⟩
              · rw [f1] at e1; cases e1
              · rw [f1] at e1; cases e1; exact ⟨hcap, by rw [f1]; rfl⟩
            · cases hes
      | view q sz' off n b2 n0 c0 c' hq f1 f2 f3 =>
        simp only [keyOf, List.cons.injEq, and_true] at hk; subst hk
        cases e1
        exact ⟨f3, by rw [f1]; rfl⟩
      | view0 q sz' off c' A hq =>
        simp only [rowsOf] at hes
        cases ht : σ.tk q with
        | none => rw [ht] at hes; cases hes
        | some t =>
          rw [ht] at hes
          cases t <;> simp only at hes <;> first | (cases hes; done) | skip
          split at hes
          · cases hes; simp at hne
          · cases hes
      | _ => simp [keyOf] at hk <;> cases hes
    rw [e1]
    exact hlies.toT hS (hZ b this.2) this.1

mutual
theorem cf_rep (h : SR cx g σ a w) {S' : Nat → Prop} (hS : ∀ b, g.S b → S' b) : ∀ (av : AV) (x : X) (C Z : List Nat) (v : Value), Cf σ av x C Z → (∀ b, b ∈ bl g Z → S' b) → RepA g w av v → RepX S' w x v (bl g C)
  | _, _, _, _, v, .imm x, _, hr => by
    cases hr with
    | imm _ _ hr => exact .imm x v (hr.mono hS (fun _ _ => rfl))
  | _, _, _, _, v, .nilrow sz, _, hr => by
    have := hr.valEq; subst this
    exact .imm _ _ (.nilrow sz 0 none)
  | _, _, _, _, v, .nilown e sz, _, hr => by
    have := hr.valEq; subst this
    exact .xown e sz [] _ [] (World.ownsRow_nil w 0 e sz) (fun z hz => by cases hz) (fun i j hi => by simp at hi) (fun u hu => by cases hu)
  | _, _, _, _, v, .own k e sz es hk, _, hr => by
    cases hr with
    | own _ hu =>
      rw [bl_cons, show bl g [] = [] from rfl, List.append_nil]
      cases h.tk k _ hk with
      | rows _ _ _ _ xs t1 t2 t3 t4 t5 => exact .xown e sz es _ xs t1 t2 (fun i j hi hj => (t3 i j hi hj).mono hS (fun _ _ => rfl)) t4
  | _, _, _, _, v, .lend k e sz es f hk, hZ, hr => .imm _ _ (lend_rep h hr rfl (by simp [rowsOf, hk]) hS (fun b hb => hZ b (mem_bl.2 ⟨k, by simp, hb⟩)))
  | _, _, _, _, v, .view k e sz off n es f hk hle, hZ, hr => .imm _ _ (lend_rep h hr rfl (by simp [rowsOf, hk, hle]) hS (fun b hb => hZ b (mem_bl.2 ⟨k, by simp, hb⟩)))
  | _, _, _, _, v, .ptr k cs xs C Z hk hcs, hZ, hr => by
    cases hr with
    | ptr _ _ b hu hv =>
      cases h.tk k _ hk with
      | box _ b' A e t1 t2 t3 t4 =>
        rw [hv] at t1; cases t1
        rw [bl_cons, hv]
        exact .xbox xs b A e _ t2 (cfs_rep h hS cs xs C Z A.toList hcs hZ (by simp [t3]) (fun i hi => by rw [toList_getD]; exact t4 i hi))
  | _, _, _, _, v, .agg cs xs C Z hcs, hZ, hr => by
    cases hr with
    | agg _ vs e1 e2 => exact .agg xs vs _ (cfs_rep h hS cs xs C Z vs.toList hcs hZ (by simp [e1]) (fun i hi => by rw [toList_getD]; exact e2 i hi))
  | _, _, _, _, v, .tup cs xs C Z hcs, hZ, hr => by
    cases hr with
    | tup _ vs e1 e2 => exact .tup xs vs _ (cfs_rep h hS cs xs C Z vs.toList hcs hZ (by simp [e1]) (fun i hi => by rw [toList_getD]; exact e2 i hi))
  | _, _, _, _, v, .fn f cs xs C Z hcs, hZ, hr => by
    cases hr with
    | fn _ _ vs e1 e2 => exact .fn f xs vs _ (cfs_rep h hS cs xs C Z vs.toList hcs hZ (by simp [e1]) (fun i hi => by rw [toList_getD]; exact e2 i hi))
theorem cfs_rep (h : SR cx g σ a w) {S' : Nat → Prop} (hS : ∀ b, g.S b → S' b) : ∀ (l : List AV) (xs : List X) (C Z : List Nat) (vs : List Value), Cfs σ l xs C Z → (∀ b, b ∈ bl g Z → S' b) → l.length = vs.length →
    (∀ i, i < l.length → RepA g w (l.getD i default) (vs.getD i undef)) → RepXs S' w xs vs (bl g C)
  | _, _, _, _, vs, .nil, _, hl, _ => by
    cases vs with
    | nil => exact .nil
    | cons v vs => cases hl
  | _, _, _, _, vs, .cons av l x xs C C' Z Z' h1 h2, hZ, hl, hr => by
    cases vs with
    | nil => cases hl
    | cons v vs =>
      rw [bl_append]
      rw [bl_append] at hZ
      exact .cons x xs v vs _ _ (cf_rep h hS av x C Z v h1 (fun b hb => hZ b (List.mem_append.2 (.inl hb))) (by simpa using hr 0 (by simp)))
        (cfs_rep h hS l xs C' Z' vs h2 (fun b hb => hZ b (List.mem_append.2 (.inr hb))) (by simpa using hl) (fun i hi => by simpa using hr (i + 1) (by simpa using hi)))
end

theorem cfo_rep (h : SR cx g σ a w) {S' : Nat → Prop} (hS : ∀ b, g.S b → S' b) {l : List AV} {ss : List (Option X)} {C Z : List Nat} (hc : Cfo σ l ss C Z) : ∀ (vs : List Value), (∀ b, b ∈ bl g Z → S' b) → l.length = vs.length →
    (∀ i, i < l.length → RepA g w (l.getD i default) (vs.getD i undef)) → RepSs S' w ss vs (bl g C) := by
  induction hc with
  | nil =>
    intro vs _ hl _
    cases vs with
    | nil => exact .nil
    | cons v vs => cases hl
  | none av l ss C Z _ ih =>
    intro vs hZ hl hr
    cases vs with
    | nil => cases hl
    | cons v vs => exact .none ss v vs _ (ih vs hZ (by simpa using hl) (fun i hi => by simpa using hr (i + 1) (by simpa using hi)))
  | some av l x ss C C' Z Z' h1 _ ih =>
    intro vs hZ hl hr
    cases vs with
    | nil => cases hl
    | cons v vs =>
      rw [bl_append]
      rw [bl_append] at hZ
      exact .some x ss v vs _ _ (cf_rep h hS av x C Z v h1 (fun b hb => hZ b (List.mem_append.2 (.inl hb))) (by simpa using hr 0 (by simp)))
        (ih vs (fun b hb => hZ b (List.mem_append.2 (.inr hb))) (by simpa using hl) (fun i hi => by simpa using hr (i + 1) (by simpa using hi)))

mutual
theorem cf_live : ∀ (av : AV) (x : X) (C Z : List Nat), Cf σ av x C Z → (∀ k, k ∈ C → ∃ t, σ.tk k = some t ∧ t.frozen = false) ∧ (∀ k, k ∈ Z → ∃ t, σ.tk k = some t)
  | _, _, _, _, .imm x => ⟨fun k hk => (by cases hk), fun k hk => (by cases hk)⟩
  | _, _, _, _, .nilrow sz => ⟨fun k hk => (by cases hk), fun k hk => (by cases hk)⟩
  | _, _, _, _, .nilown e sz => ⟨fun k hk => (by cases hk), fun k hk => (by cases hk)⟩
  | _, _, _, _, .own k e sz es hk => ⟨fun q hq => by simp at hq; subst hq; exact ⟨_, hk, rfl⟩, fun k hk => (by cases hk)⟩
  | _, _, _, _, .lend k e sz es f hk => ⟨fun k hk => (by cases hk), fun q hq => by simp at hq; subst hq; exact ⟨_, hk⟩⟩
  | _, _, _, _, .view k e sz off n es f hk hle => ⟨fun k hk => (by cases hk), fun q hq => by simp at hq; subst hq; exact ⟨_, hk⟩⟩
  | _, _, _, _, .ptr k cs xs C Z hk hcs => by
    obtain ⟨h1, h2⟩ := cfs_live cs xs C Z hcs
    refine ⟨fun q hq => ?_, h2⟩
    rcases List.mem_cons.1 hq with rfl | hq
    · exact ⟨_, hk, rfl⟩
    · exact h1 q hq
  | _, _, _, _, .agg cs xs C Z hcs => cfs_live cs xs C Z hcs
  | _, _, _, _, .tup cs xs C Z hcs => cfs_live cs xs C Z hcs
  | _, _, _, _, .fn f cs xs C Z hcs => cfs_live cs xs C Z hcs
theorem cfs_live : ∀ (l : List AV) (xs : List X) (C Z : List Nat), Cfs σ l xs C Z → (∀ k, k ∈ C → ∃ t, σ.tk k = some t ∧ t.frozen = false) ∧ (∀ k, k ∈ Z → ∃ t, σ.tk k = some t)
  | _, _, _, _, .nil => ⟨fun k hk => (by cases hk), fun k hk => (by cases hk)⟩
  | _, _, _, _, .cons av l x xs C C' Z Z' h1 h2 => by
    obtain ⟨a1, a2⟩ := cf_live av x C Z h1
    obtain ⟨b1, b2⟩ := cfs_live l xs C' Z' h2
    exact ⟨fun k hk => (List.mem_append.1 hk).elim (a1 k) (b1 k), fun k hk => (List.mem_append.1 hk).elim (a2 k) (b2 k)⟩
end

theorem cfo_live {l : List AV} {ss : List (Option X)} {C Z : List Nat} (hc : Cfo σ l ss C Z) : (∀ k, k ∈ C → ∃ t, σ.tk k = some t ∧ t.frozen = false) ∧ (∀ k, k ∈ Z → ∃ t, σ.tk k = some t) := by
  induction hc with
  | nil => exact ⟨fun k hk => (by cases hk), fun k hk => (by cases hk)⟩
  | none _ _ _ _ _ _ ih => exact ih
  | some av l x ss C C' Z Z' h1 _ ih =>
    obtain ⟨a1, a2⟩ := cf_live av x C Z h1
    exact ⟨fun k hk => (List.mem_append.1 hk).elim (a1 k) (ih.1 k), fun k hk => (List.mem_append.1 hk).elim (a2 k) (ih.2 k)⟩

/-- Blocks of tokens that are each once there. -/
theorem bl_nodup (h : SR cx g σ a w) : ∀ (C : List Nat), C.Nodup → (∀ k, k ∈ C → ∃ t, σ.tk k = some t) → (bl g C).Nodup
  | [], _, _ => List.nodup_nil
  | k :: C, hn, hl => by
    rw [List.nodup_cons] at hn
    rw [bl_cons, List.nodup_append]
    refine ⟨by unfold blkL; split <;> simp, bl_nodup h C hn.2 (fun q hq => hl q (by simp [hq])), fun b hb c hc e => ?_⟩
    subst e
    obtain ⟨q, hq, hbq⟩ := mem_bl.1 hc
    have hbk : hblk (g.hv k) = some b := by
      obtain ⟨q', hq', hb'⟩ := (mem_bl (g := g) (ks := [k]) (b := b)).1 (by rw [bl_cons]; simp [hb])
      simp at hq'; subst hq'; exact hb'
    obtain ⟨t, ht⟩ := hl k (by simp)
    obtain ⟨t', ht'⟩ := hl q (by simp [hq])
    exact hn.1 (h.inj k q t t' b ht ht' hbk hbq ▸ hq)

def tyV (P : Program) (t : TypeId) : Option (Bool × Nat) :=
  match P.underlying t, P.info? t with
  | some d, some i => some (d.isRow, i.size)
  | _, _ => none

/-- What a load of type t at a pointer gives. -/
noncomputable def loadA (P : Program) (σ : St) (p : AV) (t : TypeId) : Option AV :=
  match tyV P t with
  | some (true, n) => (seen σ p n).map .agg
  | some (false, _) => match seen σ p 1 with
    | some [y] => some y
    | _ => none
  | none => none

theorem tyV_some {t : TypeId} {b : Bool} {n : Nat} (h : tyV P t = some (b, n)) : ∃ d i, P.underlying t = some d ∧ P.info? t = some i ∧ d.isRow = b ∧ i.size = n := by
  unfold tyV at h
  cases hu : P.underlying t with
  | none => rw [hu] at h; cases h
  | some d =>
    cases hi : P.info? t with
    | none => rw [hu, hi] at h; cases h
    | some i => rw [hu, hi] at h; cases h; exact ⟨d, i, rfl, rfl, rfl, rfl⟩

theorem loadA_rep (h : SR cx g σ a w) {p y : AV} {v : Value} {t : TypeId} (hp : RepA g w p v) (hy : loadA P σ p t = some y) : ∃ b o u, v = .pointer (some ⟨b, o, none⟩) ∧ (loadVar t ⟨b, o, none⟩).run P w = .ok u w ∧ RepA g w y u := by
  unfold loadA at hy
  cases ht : tyV P t with
  | none => rw [ht] at hy; cases hy
  | some q =>
    obtain ⟨bb, n⟩ := q
    obtain ⟨d, i, hu, hi, hd, hn⟩ := tyV_some ht
    rw [ht] at hy
    cases bb with
    | true =>
      simp only at hy
      cases hs : seen σ p n with
      | none => rw [hs] at hy; cases hy
      | some cs =>
        rw [hs] at hy; cases hy
        obtain ⟨b, o', vs, e1, e2, e3, e4, e5⟩ := seen_rep h hp hs
        refine ⟨b, o', .agg vs.toArray, e1, run_loadVar_mid w b o' t vs d e4 hu hd (by rw [hi, e2, ← hn]; rfl), .agg cs vs.toArray (by simp [e2, e3]) (fun j hj => ?_)⟩
        rw [arr_list_getD]; exact e5 j (by omega)
    | false =>
      simp only at hy
      split at hy
      · rename_i y' hs
        cases hy
        obtain ⟨b, o', vs, e1, e2, e3, e4, e5⟩ := seen_rep h hp hs
        obtain ⟨u, rfl⟩ : ∃ u, vs = [u] := by
          match vs, e2 with
          | [u], _ => exact ⟨u, rfl⟩
        have := run_loadAt_one (P := P) w b o' t d u (e4 0 u rfl) hu hd
        simp only [Instr.loadAt, Instr.sureAddr, Sem.run_bind, Sem.run_pure, Result.andThen_ok] at this
        exact ⟨b, o', u, e1, this, by simpa using e5 0 (by omega)⟩
      · cases hy

noncomputable def resA (P : Program) (σ : St) : ResultVar → Option AV
  | .tmp t => σ.sl t
  | .cell p t => (σ.sl p).bind fun q => loadA P σ q t

noncomputable def resAs (P : Program) (σ : St) : List ResultVar → Option (List AV)
  | [] => some []
  | r :: l => match resA P σ r, resAs P σ l with
    | some y, some q => some (y :: q)
    | _, _ => none

/-- One result, or several. -/
def wrapRes : List AV → AV
  | [y] => y
  | l => .tup l

/-- How the machine reads a result. -/
def resF (tmps : Array Value) : ResultVar → Sem Value
  | .tmp t => pure (tmps.getD t undef)
  | .cell q t => do loadVar t (← asAddr (tmps.getD q undef))

theorem resA_run (h : SR cx g σ a w) {r : ResultVar} {y : AV} (hy : resA P σ r = some y) :
    ∃ v, (resF a.tmps r).run P w = .ok v w ∧ RepA g w y v := by
  cases r with
  | tmp t => exact ⟨a.tmps.getD t undef, rfl, h.sl t y hy⟩
  | cell q t =>
    simp only [resA] at hy
    cases hq : σ.sl q with
    | none => rw [hq] at hy; cases hy
    | some p =>
      rw [hq] at hy
      obtain ⟨b, o, u, e1, e2, e3⟩ := loadA_rep (P := P) h (h.sl q p hq) hy
      exact ⟨u, by simp only [resF, e1, asAddr, Sem.run_bind, Sem.run_pure, Result.andThen_ok, e2], e3⟩

theorem resAs_run (h : SR cx g σ a w) : ∀ (l : List ResultVar) (ys : List AV), resAs P σ l = some ys →
    ∃ vs : List Value, (l.mapM (resF a.tmps)).run P w = .ok vs w ∧ vs.length = ys.length ∧ ∀ i, i < ys.length → RepA g w (ys.getD i default) (vs.getD i undef)
  | [], ys, hy => by cases hy; exact ⟨[], by simp, rfl, fun i hi => by simp at hi⟩
  | r :: l, ys, hy => by
    simp only [resAs] at hy
    cases hr : resA P σ r with
    | none => rw [hr] at hy; cases hy
    | some y =>
      cases hl : resAs P σ l with
      | none => rw [hr, hl] at hy; cases hy
      | some q =>
        rw [hr, hl] at hy; cases hy
        obtain ⟨v, e1, e2⟩ := resA_run (P := P) h hr
        obtain ⟨vs, e3, e4, e5⟩ := resAs_run h l q hl
        refine ⟨v :: vs, ?_, by simp [e4], fun i hi => ?_⟩
        · simp only [List.mapM_cons, Sem.run_bind, e1, e3, Result.andThen_ok, Sem.run_pure]
        · cases i with
          | zero => simpa using e2
          | succ i => simpa using e5 i (by simpa using hi)

theorem results_run (h : SR cx g σ a w) (fn : Func) {ys : List AV} (hy : resAs P σ fn.results.toList = some ys) : ∃ v, (results fn a.tmps).run P w = .ok v w ∧ RepA g w (wrapRes ys) v := by
  obtain ⟨vs, e1, e2, e3⟩ := resAs_run (P := P) h _ ys hy
  refine ⟨if h : vs.length = 1 then vs[0] else .tuple vs.toArray, ?_, ?_⟩
  · have hres : results fn a.tmps = (do
        let vs ← fn.results.mapM (resF a.tmps)
        pure (if h : vs.size = 1 then vs[0] else .tuple vs)) := by
      unfold results
      congr 1
    rw [hres, Array.mapM_eq_mapM_toList]
    simp only [Sem.run_bind, Sem.run_map, e1, Result.andThen_ok, Sem.run_pure]
    congr 1
  · by_cases h1 : vs.length = 1
    · rw [dif_pos h1]
      obtain ⟨y, rfl⟩ : ∃ y, ys = [y] := by
        match ys, e2.symm.trans h1 with
        | [y], _ => exact ⟨y, rfl⟩
      obtain ⟨v, rfl⟩ : ∃ v, vs = [v] := by
        match vs, h1 with
        | [v], _ => exact ⟨v, rfl⟩
      simpa [wrapRes] using e3 0 (by simp)
    · rw [dif_neg h1]
      have : wrapRes ys = .tup ys := by
        unfold wrapRes
        split
        · simp at e2; omega
        · rfl
      rw [this]
      exact .tup ys vs.toArray (by simp [e2]) (fun i hi => by rw [arr_list_getD]; exact e3 i hi)

/-- The state at a function's entry. -/
def entry (xs : List X) : St where
  sl := fun i => (imps xs 0).1[i]?
  tk := fun k => lkp (imps xs 0).2.1 k
  free := fun k => 1000 ≤ k

/-- What stands at a function's end. -/
def Leaves (P : Program) (fn : Func) (xs : List X) (r : X) (ss : List (Option X)) (e : Px) (σ : St) : Prop :=
  (e = .normal ∨ e = .ret) ∧ ∃ ys C1 Z1 C2 Z2, resAs P σ fn.results.toList = some ys ∧ Cf σ (wrapRes ys) r C1 Z1 ∧ Cfo σ (imps xs 0).1 ss C2 Z2 ∧ (C1 ++ C2).Nodup ∧ ∀ k, k ∈ C1 ++ C2 → k ∉ Z1 ++ Z2

theorem lkp_mem {α : Type} : ∀ {l : List (Nat × α)} {k : Nat} {x : α}, lkp l k = some x → (k, x) ∈ l
  | (q, y) :: l, k, x, h => by
    simp only [lkp] at h
    split at h
    · rename_i e; cases h; simp [e]
    · exact List.mem_cons_of_mem _ (lkp_mem h)

theorem Spec.of_body {f : FuncId} {fn : Func} {c : Code} {xs : List X} {r : X} {ss : List (Option X)} (hf : P.funcs[f]? = some fn) (hb : fn.body = some c) (hd : dstOk fn.ntmps c = true) (hn : xs.length ≤ fn.ntmps)
    (hk : (imps xs 0).2.2 ≤ 1000) (hw : W P c (entry xs) (Leaves P fn xs r ss)) : Spec P f xs r ss := by
  intro S w vs F hS hxs hF hFS
  refine calls_of_wp hf hb ?_
  let g0 : Gh := { S := S, hv := fun _ => undef, used := fun _ => False }
  obtain ⟨_, g1, ho, hA, hc⟩ := imps_rep xs g0 0 vs.toList F hxs hF (fun q _ _ h => h)
  have hlen : (imps xs 0).1.length = vs.size := by simpa using hA.1
  have hxl : (imps xs 0).1.length = xs.length := by
    have : ∀ (l : List X) (k : Nat), (imps l k).1.length = l.length := by
      intro l
      induction l with
      | nil => intro k; rfl
      | cons x l ih => intro k; simp only [imps, List.length_cons, ih]
    exact this xs 0
  let cx : Cx := { S0 := S, w0 := w, F0 := fun b => b ∈ F, n := fn.ntmps, ent := (imps xs 0).1.zip vs.toList }
  have hSeq : g1.S = S := ho.2.1
  have hfrz : ∀ q t, (q, t) ∈ (imps xs 0).2.1 → t.frozen = false := fun q t hq => (hc.tok q t hq).2.2.2.1
  have hs : SR cx g1 (entry xs) { tmps := vs ++ Array.replicate (fn.ntmps - vs.size) undef, defers := [] } w := by
    refine { size := by show _ = fn.ntmps; simp; omega, defers := rfl, sl := ?_, tk := ?_, used := ?_, key := ?_, inj := ?_, live := ?_, blk := ?_, stab := fun b hb => hS b (by rwa [hSeq] at hb), frame := Fr.refl _ _, old := fun b hb => by rw [hSeq]; exact hb, grew := fun b hb => .inl (by rwa [hSeq] at hb), ent := ?_, low := fun k hk hf => by simp only [entry] at hf; omega }
    · intro i x hx
      simp only [entry] at hx
      have hi := (List.getElem?_eq_some_iff.1 hx).1
      have := hA.2 i hi
      rw [List.getD_eq_getElem?_getD, hx] at this
      have e : (vs ++ Array.replicate (fn.ntmps - vs.size) undef).getD i undef = vs.toList.getD i undef := by
        rw [toList_getD, Array.getD_eq_getD_getElem?, Array.getElem?_append_left (by omega), ← Array.getD_eq_getD_getElem?]
      rw [e]; exact this
    · intro k t ht
      exact (hc.tok k t (lkp_mem ht)).2.2.1
    · intro k hu hf
      simp only [entry] at hf
      rcases ho.2.2 k hu with h' | h'
      · exact h'
      · omega
    · intro k t ht
      exact (hc.tok k t (lkp_mem ht)).2.2.2.2.1
    · intro k k' t t' b h1 h2 hb hb'
      exact hc.inj k k' t t' b (lkp_mem h1) (lkp_mem h2) hb hb'
    · intro k t b ht _ hb
      have hbF := (hc.tok k t (lkp_mem ht)).2.2.2.2.2 b hb
      exact ⟨by rw [hSeq]; exact (hFS b hbF).2, .inr hbF⟩
    · intro k t b ht hb
      exact (hFS b ((hc.tok k t (lkp_mem ht)).2.2.2.2.2 b hb)).1
    · intro p hp
      obtain ⟨i, hi, rfl⟩ := List.getElem_of_mem hp
      have hi' : i < ((imps xs 0).1.zip vs.toList).length := hi
      have hi0 := hi'
      rw [List.length_zip] at hi'
      have hi1 : i < (imps xs 0).1.length := by omega
      have hi2 : i < vs.toList.length := by omega
      show RepA g1 w (((imps xs 0).1.zip vs.toList)[i]'hi0).1 (((imps xs 0).1.zip vs.toList)[i]'hi0).2 ∧ ∀ k, k ∈ (((imps xs 0).1.zip vs.toList)[i]'hi0).1.keys → k < 1000
      rw [List.getElem_zip]
      have := hA.2 i hi1
      rw [List.getD_eq_getElem?_getD, List.getD_eq_getElem?_getD, List.getElem?_eq_getElem hi1, List.getElem?_eq_getElem hi2] at this
      refine ⟨this, fun k hk' => ?_⟩
      rcases ho.2.2 k (RepA.keys_used this k hk') with h' | h'
      · exact h'.elim
      · omega
  refine hw cx g1 _ w hs hd _ (fun e σ' g' a' w' hK hs' => ?_)
  obtain ⟨he, ys, C1, Z1, C2, Z2, hy, hc1, hc2, hnd, hdis⟩ := hK
  obtain ⟨v, hrun, hrep⟩ := results_run (P := P) hs' fn hy
  have hpost : ∃ v S' Fr' Fs, Ending.returned v = .returned v ∧ (results fn a'.tmps).run P w' = .ok v w' ∧ Post S w F vs.toList r ss v w' S' Fr' Fs := by
    obtain ⟨l1, l2⟩ := cf_live (σ := σ') _ r C1 Z1 hc1
    obtain ⟨m1, m2⟩ := cfo_live (σ := σ') hc2
    have hlive : ∀ k, k ∈ C1 ++ C2 → ∃ t, σ'.tk k = some t ∧ t.frozen = false := fun k hk => (List.mem_append.1 hk).elim (l1 k) (m1 k)
    have hlend : ∀ k, k ∈ Z1 ++ Z2 → ∃ t, σ'.tk k = some t := fun k hk => (List.mem_append.1 hk).elim (l2 k) (m2 k)
    refine ⟨v, fun b => g'.S b ∨ b ∈ bl g' (Z1 ++ Z2), bl g' C1, bl g' C2, rfl, hrun, ?_⟩
    refine { more := fun b hb => .inl (hs'.old b hb), new := ?_, res := ?_, sts := ?_, nodup := ?_, own := ?_, frame := hs'.frame }
    · rintro b (hb | hb)
      · exact ⟨hs'.stab b hb, hs'.grew b hb⟩
      · obtain ⟨k, hk, hbk⟩ := mem_bl.1 hb
        obtain ⟨t, ht⟩ := hlend k hk
        refine ⟨hs'.blk k t b ht hbk, ?_⟩
        cases hfz : t.frozen with
        | false => exact (hs'.live k t b ht hfz hbk).2.elim (fun x => .inr (.inr x)) (fun x => .inr (.inl x))
        | true =>
          cases hs'.tk k t ht with
          | box => cases hfz
          | iter => cases hfz
          | rows e2 sz2 es2 f xs2 t1 t2 t3 t4 t5 => exact hs'.grew b (t5 hfz b hbk)
    · exact cf_rep hs' (fun b hb => .inl hb) _ r C1 Z1 v hc1 (fun b hb => .inr (by rw [bl_append]; exact List.mem_append.2 (.inl hb))) hrep
    · refine cfo_rep hs' (fun b hb => .inl hb) hc2 vs.toList (fun b hb => .inr (by rw [bl_append]; exact List.mem_append.2 (.inr hb))) (by simpa using hlen) (fun i hi => ?_)
      have hi2 : i < vs.toList.length := by simp; omega
      have := hs'.ent ((imps xs 0).1.getD i default, vs.toList.getD i undef) (by
        simp only [cx]
        rw [List.getD_eq_getElem?_getD, List.getD_eq_getElem?_getD, List.getElem?_eq_getElem hi, List.getElem?_eq_getElem hi2]
        have : i < ((imps xs 0).1.zip vs.toList).length := by simp; omega
        have e := List.getElem_zip (h := this)
        simp only [Option.getD_some]
        rw [← e]
        exact List.getElem_mem _)
      exact this.1
    · rw [← bl_append]
      exact bl_nodup hs' _ hnd (fun k hk => (hlive k hk).imp fun t ht => ht.1)
    · intro b hb
      rw [← bl_append] at hb
      obtain ⟨k, hk, hbk⟩ := mem_bl.1 hb
      obtain ⟨t, ht, hfz⟩ := hlive k hk
      obtain ⟨n1, n2⟩ := hs'.live k t b ht hfz hbk
      refine ⟨hs'.blk k t b ht hbk, ?_, n2.elim (fun x => .inr x) (fun x => .inl x)⟩
      rintro (h' | h')
      · exact n1 h'
      · obtain ⟨q, hq, hbq⟩ := mem_bl.1 h'
        obtain ⟨t', ht'⟩ := hlend q hq
        exact hdis k hk (hs'.inj k q t t' b ht ht' hbk hbq ▸ hq)
  obtain ⟨v', S', Fr', Fs, _, hrun', hp⟩ := hpost
  rcases he with rfl | rfl
  · exact ⟨hs'.defers, v', hrun', v', S', Fr', Fs, rfl, hp⟩
  · exact ⟨hs'.defers, v', hrun', v', S', Fr', Fs, rfl, hp⟩

end
end Go.Pm
