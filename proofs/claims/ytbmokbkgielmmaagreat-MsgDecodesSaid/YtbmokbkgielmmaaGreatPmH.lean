/- The pure machine, part H: a region whose order is drawn: each order leaves what the text's order leaves, if what is not ordered does not meet. Conditions: none (definitions and lemmas alone). -/
import Derived.Orders
import Derived.Test.YtbmokbkgielmmaaGreatPmI
namespace Go.Pm
open Go
set_option linter.unusedVariables false
set_option linter.unusedSimpArgs false
inductive Mv where
 | out (o : Out)
 | skip
def St.mv (σ : St) (d : Option Nat) : Mv → St
 | .out o => σ.out d o
 | .skip => σ.skip d
def Mv.val : Mv → Option AV
 | .out o => o.v
 | .skip => some (.imm (.val undef))
def Mv.tk : Mv → List (Nat × Option Tok)
 | .out o => o.tk
 | .skip => []
def Mv.use : Mv → List Nat
 | .out o => o.use
 | .skip => []
abbrev Stp := List Nat × Mv
inductive Run (P : Program) (ops : Array Oper) : List Oper → St → List Stp → St → Prop where
 | nil (σ : St) : Run P ops [] σ [] σ
 | step {o : Oper} {l : List Oper} {σ σ' : St} {fp : List Nat} {out : Out} {ms : List Stp} (hg : o.guard = none) (h : OpL P o σ fp out) (hu : ∀ k, k ∈ out.use → σ.free k) (k : Run P ops l (σ.out o.dst out) ms σ') :
  Run P ops (o :: l) σ ((fp, .out out) :: ms) σ'
 | yes {o oj : Oper} {l : List Oper} {σ σ' : St} {fp : List Nat} {out : Out} {ms : List Stp} {j dj : Nat} {want : Bool} {v : Value} (hg : o.guard = some (j, want)) (hj : ops[j]? = some oj) (hd : oj.dst = some dj)
  (hs : σ.sl dj = some (.imm (.val v))) (hb : (asB v == some want) = true) (h : OpL P o σ fp out) (hu : ∀ k, k ∈ out.use → σ.free k) (k : Run P ops l (σ.out o.dst out) ms σ') : Run P ops (o :: l) σ ((fp, .out out) :: ms) σ'
 | no {o oj : Oper} {l : List Oper} {σ σ' : St} {ms : List Stp} {j dj : Nat} {want : Bool} {v : Value} (hg : o.guard = some (j, want)) (hj : ops[j]? = some oj) (hd : oj.dst = some dj)
  (hs : σ.sl dj = some (.imm (.val v))) (hb : (asB v == some want) = false) (k : Run P ops l (σ.skip o.dst) ms σ') : Run P ops (o :: l) σ (([], .skip) :: ms) σ'
section
variable {P : Program} {ops : Array Oper} {l : List Oper} {σ σ' : St} {ms : List Stp} {o : Oper}
theorem Run.opsT (h : Run P ops l σ ms σ') : OpsT P ops l σ (fun τ => τ = σ') := by
 induction h with
 | nil σ => exact .nil rfl
 | step hg h hu k ih => exact .step hg (h _ (fun _ _ => rfl) (fun _ _ => rfl) hu) ih
 | yes hg hj hd hs hb h hu k ih => exact .guard hg hj hd hs (fun _ => ⟨_, h _ (fun _ _ => rfl) (fun _ _ => rfl) hu, ih⟩) (fun e => by rw [hb] at e; cases e)
 | no hg hj hd hs hb k ih => exact .guard hg hj hd hs (fun e => by rw [hb] at e; cases e) (fun _ => ih)
def GuardIs (ops : Array Oper) (o : Oper) (σ : St) (b : Bool) : Prop :=
 match o.guard with
 | none => b = true
 | some (j, want) => ∃ oj dj v, ops[j]? = some oj ∧ oj.dst = some dj ∧ σ.sl dj = some (.imm (.val v)) ∧ (asB v == some want) = b
def StepOk (P : Program) (ops : Array Oper) (o : Oper) (σ : St) (m : Stp) : Prop :=
 match m.2 with
 | .out out => OpL P o σ m.1 out ∧ GuardIs ops o σ true
 | .skip => GuardIs ops o σ false
theorem guard_wanted {cx : Cx} {g : Gh} {a : Act} {w : World} (hs : SR cx g σ' a w) {b : Bool} (h : GuardIs ops o σ b) (hrd : ∀ t, t ∈ o.looksAt ops → σ'.sl t = σ.sl t) : Region.wanted o (yielded ops a.tmps) = b := by
 unfold GuardIs at h
 unfold Region.wanted
 cases hg : o.guard with
 | none => rw [hg] at h; simp only at h ⊢; rw [h]
 | some p =>
  obtain ⟨j, want⟩ := p
  rw [hg] at h
  obtain ⟨oj, dj, v, h1, h2, h3, h4⟩ := h
  have hm : dj ∈ o.looksAt ops := List.mem_append_right _ (by simp only [hg, h1, Option.bind_some, h2]; simp)
  have hy := yielded_of (ops := ops) hs h1 h2 ((hrd dj hm).trans h3)
  simp only [hy]
  exact h4
theorem step_exec {cx : Cx} {g : Gh} {a : Act} {w : World} {m : Stp} {i : Nat} (hok : StepOk P ops o σ m) (hi : ops[i]? = some o) (hs : SR cx g σ' a w) (hd : ∀ d, o.dst = some d → d < cx.n)
 (hrd : ∀ t, t ∈ o.looksAt ops → σ'.sl t = σ.sl t) (hfp : ∀ k, k ∈ m.1 → σ'.tk k = σ.tk k) (huse : ∀ k, k ∈ m.2.use → σ'.free k) {Q : Exit → Act → World → Prop} {K : Act → World → Prop}
 (hK : ∀ g' a' w', SR cx g' (σ'.mv o.dst m.2) a' w' → K a' w') : wpOp P ops Q i K a w := by
 unfold wpOp
 rw [hi]
 obtain ⟨fp, mv⟩ := m
 cases mv with
 | out out =>
  obtain ⟨h1, h2⟩ := hok
  simp only
  rw [if_pos (guard_wanted hs h2 hrd)]
  have hop : ∀ x, x ∈ o.op.operands → rd σ' x = rd σ x := by
   intro x hx
   cases x with
   | tmp t => exact hrd t (List.mem_append_left _ (List.mem_filterMap.2 ⟨.tmp t, by simpa using hx, rfl⟩))
   | _ => rfl
  exact .inl (h1 σ' hop hfp huse cx g a w hd hs K Q hK)
 | skip =>
  simp only
  rw [if_neg (by rw [guard_wanted hs hok hrd]; simp)]
  refine hK g _ _ ?_
  show SR cx g (σ'.skip o.dst) (a.put o.dst undef) w
  cases hdst : o.dst with
  | none => exact hs
  | some d => exact hs.put d (hd d hdst) _ undef (.ofVal g w undef)
def appD (L : Nat → Bool) : List Oper → List Stp → Nat → St → St
 | o :: l, m :: ms, i, σ => appD L l ms (i + 1) (if L i then σ.mv o.dst m.2 else σ)
 | _, _, _, σ => σ
theorem appD_congr {L L' : Nat → Bool} : ∀ (l : List Oper) (ms : List Stp) (i : Nat) (σ : St), (∀ q, q < l.length → L (i + q) = L' (i + q)) → appD L l ms i σ = appD L' l ms i σ
 | [], _, _, _, _ => by simp [appD]
 | _ :: _, [], _, _, _ => by simp [appD]
 | o :: l, m :: ms, i, σ, h => by
  have h0 := h 0 (by simp)
  simp only [Nat.add_zero] at h0
  simp only [appD, h0]
  exact appD_congr l ms (i + 1) _ (fun q hq => by have := h (q + 1) (by simpa using hq); rwa [show i + 1 + q = i + (q + 1) by omega])
theorem appD_shift {L : Nat → Bool} : ∀ (l : List Oper) (ms : List Stp) (i : Nat) (σ : St), appD L l ms (i + 1) σ = appD (fun x => L (x + 1)) l ms i σ
 | [], _, _, _ => by simp [appD]
 | _ :: _, [], _, _ => by simp [appD]
 | o :: l, m :: ms, i, σ => by simp only [appD]; exact appD_shift l ms (i + 1) _
theorem appD_none : ∀ (l : List Oper) (ms : List Stp) (i : Nat) (σ : St), appD (fun _ => false) l ms i σ = σ
 | [], _, _, _ => by simp [appD]
 | _ :: _, [], _, _ => by simp [appD]
 | o :: l, m :: ms, i, σ => by simp only [appD]; exact appD_none l ms (i + 1) σ
theorem Run.len (h : Run P ops l σ ms σ') : ms.length = l.length := by
 induction h with
 | nil => rfl
 | _ => simp_all
theorem Run.final (h : Run P ops l σ ms σ') : appD (fun _ => true) l ms 0 σ = σ' := by
 induction h with
 | nil => rfl
 | step hg h hu k ih => simp only [appD, if_true]; rw [appD_shift]; exact ih
 | yes hg hj hd hs hb h hu k ih => simp only [appD, if_true]; rw [appD_shift]; exact ih
 | no hg hj hd hs hb k ih => simp only [appD, if_true]; rw [appD_shift]; exact ih
theorem Run.at (h : Run P ops l σ ms σ') : ∀ (q : Nat) (o : Oper) (m : Stp), l[q]? = some o → ms[q]? = some m → StepOk P ops o (appD (fun x => decide (x < q)) l ms 0 σ) m := by
 induction h with
 | nil => intro q o m h; simp at h
 | @step o l σ σ' fp out ms hg h hu k ih =>
  intro q o' m h1 h2
  cases q with
  | zero =>
   simp at h1 h2; subst h1 h2
   rw [show (fun x => decide (x < 0)) = (fun _ => false) from funext fun x => by simp, appD_none]
   exact ⟨h, by unfold GuardIs; rw [hg]⟩
  | succ q =>
   simp at h1 h2
   have := ih q o' m h1 h2
   simp only [appD]
   rw [appD_shift, if_pos (by simp)]
   have e : (fun x => decide (x + 1 < q + 1)) = (fun x => decide (x < q)) := funext fun x => by simp
   rw [e]; exact this
 | @yes o oj l σ σ' fp out ms j dj want v hg hj hd hs hb h hu k ih =>
  intro q o' m h1 h2
  cases q with
  | zero =>
   simp at h1 h2; subst h1 h2
   rw [show (fun x => decide (x < 0)) = (fun _ => false) from funext fun x => by simp, appD_none]
   refine ⟨h, ?_⟩
   unfold GuardIs; rw [hg]; exact ⟨oj, dj, v, hj, hd, hs, hb⟩
  | succ q =>
   simp at h1 h2
   have := ih q o' m h1 h2
   simp only [appD]
   rw [appD_shift, if_pos (by simp)]
   have e : (fun x => decide (x + 1 < q + 1)) = (fun x => decide (x < q)) := funext fun x => by simp
   rw [e]; exact this
 | @no o oj l σ σ' ms j dj want v hg hj hd hs hb k ih =>
  intro q o' m h1 h2
  cases q with
  | zero =>
   simp at h1 h2; subst h1 h2
   rw [show (fun x => decide (x < 0)) = (fun _ => false) from funext fun x => by simp, appD_none]
   show GuardIs ops o σ false
   unfold GuardIs; rw [hg]; exact ⟨oj, dj, v, hj, hd, hs, hb⟩
  | succ q =>
   simp at h1 h2
   have := ih q o' m h1 h2
   simp only [appD]
   rw [appD_shift, if_pos (by simp)]
   have e : (fun x => decide (x + 1 < q + 1)) = (fun x => decide (x < q)) := funext fun x => by simp
   rw [e]; exact this
theorem mv_sl (σ : St) (d : Option Nat) (m : Mv) (t : Nat) : (σ.mv d m).sl t = if d = some t then m.val else σ.sl t := by
 cases m with
 | out o =>
  cases d with
  | none => simp [St.mv, St.out]
  | some d =>
   simp only [St.mv, St.out, Mv.val, Option.some.injEq]
   by_cases e : t = d
   ·simp [e]
   ·simp [e, Ne.symm e]
 | skip =>
  cases d with
  | none => simp [St.mv, St.skip]
  | some d =>
   simp only [St.mv, St.skip, St.set, Mv.val, Option.some.injEq]
   by_cases e : t = d
   ·simp [e]
   ·simp [e, Ne.symm e]
theorem mv_tk (σ : St) (d : Option Nat) (m : Mv) (k : Nat) : (σ.mv d m).tk k = match lkp m.tk k with | some u => u | none => σ.tk k := by
 cases m with
 | out o => rfl
 | skip => cases d <;> rfl
theorem mv_free (σ : St) (d : Option Nat) (m : Mv) (k : Nat) : (σ.mv d m).free k ↔ σ.free k ∧ k ∉ m.use := by
 cases m with
 | out o => rfl
 | skip => cases d <;> simp [St.mv, St.skip, St.set, Mv.use]
def wrt (t : Nat) (o : Oper) : Prop := o.dst = some t
def wrk (k : Nat) (m : Stp) : Prop := ∃ u, lkp m.2.tk k = some u
theorem appD_sl_congr {L L' : Nat → Bool} (t : Nat) : ∀ (l : List Oper) (ms : List Stp) (i : Nat) (σ τ : St), σ.sl t = τ.sl t → (∀ q o, l[q]? = some o → wrt t o → L (i + q) = L' (i + q)) →
 (appD L l ms i σ).sl t = (appD L' l ms i τ).sl t
 | [], _, _, _, _, h, _ => by simpa [appD] using h
 | _ :: _, [], _, _, _, h, _ => by simpa [appD] using h
 | o :: l, m :: ms, i, σ, τ, h, hw => by
  simp only [appD]
  refine appD_sl_congr t l ms (i + 1) _ _ ?_ (fun q o' h1 h2 => by have := hw (q + 1) o' (by simpa using h1) h2; rwa [show i + 1 + q = i + (q + 1) by omega])
  by_cases e : o.dst = some t
  ·have h0 := hw 0 o (by simp) e
   simp only [Nat.add_zero] at h0
   rw [h0]
   split
   ·rw [mv_sl, mv_sl, if_pos e, if_pos e]
   ·exact h
  ·have e1 : ∀ (b : Bool) (ρ : St), (if b = true then ρ.mv o.dst m.2 else ρ).sl t = ρ.sl t := fun b ρ => by split <;> simp [mv_sl, e]
   rw [e1, e1]; exact h
theorem appD_tk_congr {L L' : Nat → Bool} (k : Nat) : ∀ (l : List Oper) (ms : List Stp) (i : Nat) (σ τ : St), σ.tk k = τ.tk k → (∀ q m, ms[q]? = some m → q < l.length → wrk k m → L (i + q) = L' (i + q)) →
 (appD L l ms i σ).tk k = (appD L' l ms i τ).tk k
 | [], _, _, _, _, h, _ => by simpa [appD] using h
 | _ :: _, [], _, _, _, h, _ => by simpa [appD] using h
 | o :: l, m :: ms, i, σ, τ, h, hw => by
  simp only [appD]
  refine appD_tk_congr k l ms (i + 1) _ _ ?_ (fun q m' h1 h2 h3 => by have := hw (q + 1) m' (by simpa using h1) (by simpa using h2) h3; rwa [show i + 1 + q = i + (q + 1) by omega])
  cases e : lkp m.2.tk k with
  | some u =>
   have h0 := hw 0 m (by simp) (by simp) ⟨u, e⟩
   simp only [Nat.add_zero] at h0
   rw [h0]
   split
   ·rw [mv_tk, mv_tk, e]
   ·exact h
  | none =>
   have e1 : ∀ (b : Bool) (ρ : St), (if b = true then ρ.mv o.dst m.2 else ρ).tk k = ρ.tk k := fun b ρ => by split <;> simp [mv_tk, e]
   rw [e1, e1]; exact h
theorem appD_free {L : Nat → Bool} (k : Nat) : ∀ (l : List Oper) (ms : List Stp) (i : Nat) (σ : St),
 (appD L l ms i σ).free k ↔ σ.free k ∧ ∀ q m, ms[q]? = some m → q < l.length → L (i + q) = true → k ∉ m.2.use
 | [], _, _, _ => by simp [appD]
 | _ :: _, [], _, _ => by simp [appD]
 | o :: l, m :: ms, i, σ => by
  simp only [appD]
  rw [appD_free k l ms (i + 1)]
  constructor
  ·rintro ⟨h1, h2⟩
   refine ⟨?_, fun q m' hq hl hL => ?_⟩
   ·by_cases e : L i = true
    ·rw [if_pos e, mv_free] at h1; exact h1.1
    ·rw [if_neg e] at h1; exact h1
   ·cases q with
    | zero =>
     simp at hq; subst hq
     simp only [Nat.add_zero] at hL
     rw [if_pos hL, mv_free] at h1; exact h1.2
    | succ q => exact h2 q m' (by simpa using hq) (by simpa using hl) (by rwa [show i + 1 + q = i + (q + 1) by omega])
  ·rintro ⟨h1, h2⟩
   refine ⟨?_, fun q m' hq hl hL => h2 (q + 1) m' (by simpa using hq) (by simpa using hl) (by rwa [show i + (q + 1) = i + 1 + q by omega])⟩
   by_cases e : L i = true
   ·rw [if_pos e, mv_free]; exact ⟨h1, h2 0 m (by simp) (by simp) (by simpa using e)⟩
   ·rw [if_neg e]; exact h1
theorem appD_sl_last {L : Nat → Bool} (t : Nat) : ∀ (l : List Oper) (ms : List Stp) (i : Nat) (σ : St) (j : Nat) (o : Oper) (m : Stp), l[j]? = some o → ms[j]? = some m → wrt t o → L (i + j) = true →
 (∀ q o', j < q → l[q]? = some o' → wrt t o' → L (i + q) = false) → (appD L l ms i σ).sl t = m.2.val
 | [], _, _, _, j, _, _, h, _, _, _, _ => by simp at h
 | _ :: _, [], _, _, j, _, _, _, h, _, _, _ => by simp at h
 | o :: l, m :: ms, i, σ, 0, o', m', h1, h2, hw, hL, hlast => by
  simp at h1 h2; subst h1 h2
  simp only [Nat.add_zero] at hL
  simp only [appD, hL, if_true]
  have := appD_sl_congr (L := L) (L' := fun _ => false) t l ms (i + 1) (σ.mv o.dst m.2) (σ.mv o.dst m.2) rfl (fun q o' hq hw' => by
   have := hlast (q + 1) o' (by omega) (by simpa using hq) hw'
   rwa [show i + 1 + q = i + (q + 1) by omega])
  rw [this, appD_none, mv_sl]; exact if_pos hw
 | o :: l, m :: ms, i, σ, j + 1, o', m', h1, h2, hw, hL, hlast => by
  simp only [appD]
  exact appD_sl_last t l ms (i + 1) _ j o' m' (by simpa using h1) (by simpa using h2) hw (by rwa [show i + 1 + j = i + (j + 1) by omega])
   (fun q o'' hq h3 h4 => by have := hlast (q + 1) o'' (by omega) (by simpa using h3) h4; rwa [show i + 1 + q = i + (q + 1) by omega])
theorem appD_tk_last {L : Nat → Bool} (k : Nat) : ∀ (l : List Oper) (ms : List Stp) (i : Nat) (σ : St) (j : Nat) (m : Stp) (u : Option Tok), j < l.length → ms[j]? = some m → lkp m.2.tk k = some u → L (i + j) = true →
 (∀ q m', j < q → ms[q]? = some m' → q < l.length → wrk k m' → L (i + q) = false) → (appD L l ms i σ).tk k = u
 | [], _, _, _, j, _, _, h, _, _, _, _ => by simp at h
 | _ :: _, [], _, _, j, _, _, _, h, _, _, _ => by simp at h
 | o :: l, m :: ms, i, σ, 0, m', u, h1, h2, hw, hL, hlast => by
  simp at h2; subst h2
  simp only [Nat.add_zero] at hL
  simp only [appD, hL, if_true]
  have := appD_tk_congr (L := L) (L' := fun _ => false) k l ms (i + 1) (σ.mv o.dst m.2) (σ.mv o.dst m.2) rfl (fun q m' hq hl hw' => by
   have := hlast (q + 1) m' (by omega) (by simpa using hq) (by simpa using hl) hw'
   rwa [show i + 1 + q = i + (q + 1) by omega])
  rw [this, appD_none, mv_tk, hw]
 | o :: l, m :: ms, i, σ, j + 1, m', u, h1, h2, hw, hL, hlast => by
  simp only [appD]
  exact appD_tk_last k l ms (i + 1) _ j m' u (by simpa using h1) (by simpa using h2) hw (by rwa [show i + 1 + j = i + (j + 1) by omega])
   (fun q m'' hq h3 h4 h5 => by have := hlast (q + 1) m'' (by omega) (by simpa using h3) (by simpa using h4) h5; rwa [show i + 1 + q = i + (q + 1) by omega])
def Mv.keys (m : Mv) : List Nat := m.tk.map (·.1)
theorem wrk_keys {k : Nat} {m : Stp} (h : wrk k m) : k ∈ m.2.keys := by
 obtain ⟨u, hu⟩ := h
 unfold Mv.keys
 generalize m.2.tk = l at hu
 induction l with
 | nil => cases hu
 | cons p l ih =>
  obtain ⟨q, x⟩ := p
  simp only [lkp] at hu
  split at hu
  ·rename_i e; subst e; simp
  ·simp [ih hu]
def meetOk (ops : Array Oper) (oi : Oper) (mi : Stp) (oj : Oper) (mj : Stp) : Bool :=
 oi.apart ops oj && mi.2.keys.all (fun k => !mj.1.contains k && !mj.2.keys.contains k) && mj.2.keys.all (fun k => !mi.1.contains k)
def befOk (ops : Array Oper) (bs : List (List Nat)) : Bool :=
 (List.range ops.size).all fun j => match ops[j]? with
  | none => true
  | some o => (o.after.all fun e => !Region.binds .any e || decide (e.on < j)) &&
   (bs.getD j []).all fun i => o.after.any fun e => Region.binds .any e && (e.on == i || (bs.getD e.on []).contains i)
def indep (ops : Array Oper) (ms : List Stp) (bs : List (List Nat)) : Bool :=
 (List.range ops.size).all fun j => match ops[j]?, ms[j]? with
  | some oj, some mj => (List.range j).all fun i => match ops[i]?, ms[i]? with
   | some oi, some mi => (mi.2.use.all fun k => !mj.2.use.contains k) && ((bs.getD j []).contains i || meetOk ops oi mi oj mj)
   | _, _ => true
  | _, _ => true
structure Cmp (ops : Array Oper) (ms : List Stp) (bs : List (List Nat)) : Prop where
 edge : ∀ (j : Nat) (o : Oper) (e : Edge), ops[j]? = some o → e ∈ o.after → Region.binds .any e = true → e.on < j
 bef : ∀ (j : Nat) (o : Oper) (i : Nat), ops[j]? = some o → i ∈ bs.getD j [] → ∃ e, e ∈ o.after ∧ Region.binds .any e = true ∧ (e.on = i ∨ i ∈ bs.getD e.on [])
 use : ∀ (i j : Nat) (oi oj : Oper) (mi mj : Stp), i < j → ops[i]? = some oi → ops[j]? = some oj → ms[i]? = some mi → ms[j]? = some mj → ∀ k, k ∈ mi.2.use → k ∉ mj.2.use
 meet : ∀ (i j : Nat) (oi oj : Oper) (mi mj : Stp), i < j → ops[i]? = some oi → ops[j]? = some oj → ms[i]? = some mi → ms[j]? = some mj → i ∈ bs.getD j [] ∨
  (oi.apart ops oj = true ∧ (∀ k, k ∈ mi.2.keys → k ∉ mj.1 ∧ k ∉ mj.2.keys) ∧ (∀ k, k ∈ mj.2.keys → k ∉ mi.1))
theorem Cmp.of {bs : List (List Nat)} (h1 : befOk ops bs = true) (h2 : indep ops ms bs = true) : Cmp ops ms bs where
 edge := by
  intro j o e hj he hb
  simp only [befOk, List.all_eq_true, List.mem_range] at h1
  have := h1 j (Array.getElem?_eq_some_iff.1 hj).1
  simp only [hj, Bool.and_eq_true, Array.all_eq_true_iff_forall_mem] at this
  have := this.1 e he
  simpa [hb] using this
 bef := by
  intro j o i hj hi
  simp only [befOk, List.all_eq_true, List.mem_range] at h1
  have := h1 j (Array.getElem?_eq_some_iff.1 hj).1
  simp only [hj, Bool.and_eq_true, List.all_eq_true] at this
  have h2 := this.2 i hi
  rw [Array.any_eq_true] at h2
  obtain ⟨q, hq, hh⟩ := h2
  exact ⟨o.after[q], Array.getElem_mem hq, by simpa using hh⟩
 use := by
  intro i j oi oj mi mj hij hi hj hmi hmj k hk
  simp only [indep, List.all_eq_true, List.mem_range] at h2
  have := h2 j (Array.getElem?_eq_some_iff.1 hj).1
  simp only [hj, hmj, List.all_eq_true, List.mem_range] at this
  have := this i hij
  simp only [hi, hmi, Bool.and_eq_true, List.all_eq_true] at this
  simpa using this.1 k hk
 meet := by
  intro i j oi oj mi mj hij hi hj hmi hmj
  simp only [indep, List.all_eq_true, List.mem_range] at h2
  have := h2 j (Array.getElem?_eq_some_iff.1 hj).1
  simp only [hj, hmj, List.all_eq_true, List.mem_range] at this
  have := this i hij
  simp only [hi, hmi, Bool.and_eq_true, Bool.or_eq_true] at this
  rcases this.2 with h | h
  ·exact .inl (by simpa using h)
  ·simp only [meetOk, Bool.and_eq_true, List.all_eq_true] at h
   exact .inr ⟨h.1.1, fun k hk => by simpa using h.1.2 k hk, fun k hk => by simpa using h.2 k hk⟩
structure Closed (ops : Array Oper) (L : Nat → Bool) : Prop where
 down : ∀ j o e, ops[j]? = some o → L j = true → e ∈ o.after → Region.binds .any e = true → L e.on = true
theorem Cmp.in {bs : List (List Nat)} (hc : Cmp ops ms bs) {L : Nat → Bool} (hL : Closed ops L) : ∀ (j : Nat) (o : Oper), ops[j]? = some o → (∀ e, e ∈ o.after → Region.binds .any e = true → L e.on = true) → ∀ i, i ∈ bs.getD j [] → L i = true := by
 intro j
 induction j using Nat.strongRecOn with
 | _ j ih =>
  intro o hj hp i hi
  obtain ⟨e, he, hb, h⟩ := hc.bef j o i hj hi
  have hon := hp e he hb
  rcases h with h | h
  ·exact h ▸ hon
  ·have hlt := hc.edge j o e hj he hb
   have hsz := (Array.getElem?_eq_some_iff.1 hj).1
   obtain ⟨oe, hoe⟩ : ∃ oe, ops[e.on]? = some oe := ⟨ops[e.on]'(by omega), Array.getElem?_eq_getElem (by omega)⟩
   exact ih e.on hlt oe hoe (fun e' he' hb' => hL.down e.on oe e' hoe hon he' hb') i h
theorem Cmp.order {bs : List (List Nat)} (hc : Cmp ops ms bs) {L : Nat → Bool} (hL : Closed ops L) {j : Nat} {oj : Oper} {mj : Stp} (hj : ops[j]? = some oj) (hmj : ms[j]? = some mj) (hn : L j = false)
 (hp : ∀ e, e ∈ oj.after → Region.binds .any e = true → L e.on = true) {i : Nat} {oi : Oper} {mi : Stp} (hi : ops[i]? = some oi) (hmi : ms[i]? = some mi) (hne : i ≠ j)
 (hmeet : ¬ (oi.apart ops oj = true ∧ (∀ k, k ∈ mi.2.keys → k ∉ mj.1 ∧ k ∉ mj.2.keys) ∧ (∀ k, k ∈ mj.2.keys → k ∉ mi.1)) ∨ ¬ (oj.apart ops oi = true ∧ (∀ k, k ∈ mj.2.keys → k ∉ mi.1 ∧ k ∉ mi.2.keys) ∧ (∀ k, k ∈ mi.2.keys → k ∉ mj.1))) :
 L i = decide (i < j) := by
 have sym : ∀ {x y : Oper}, x.apart ops y = true → y.apart ops x = true := by
  intro x y h
  simp only [Oper.apart, Bool.and_eq_true] at h ⊢
  cases hx : x.dst <;> cases hy : y.dst <;> simp_all
  exact fun e => h.1.2 e.symm
 rcases Nat.lt_or_gt_of_ne hne with h | h
 ·rw [decide_eq_true h]
  rcases hc.meet i j oi oj mi mj h hi hj hmi hmj with h' | ⟨h1, h2, h3⟩
  ·exact hc.in hL j oj hj hp i h'
  ·exact (hmeet.elim (fun x => x ⟨h1, h2, h3⟩) (fun x => x ⟨sym h1, fun k hk => ⟨h3 k hk, fun hk' => (h2 k hk').2 hk⟩, fun k hk => (h2 k hk).1⟩)).elim
 ·rw [decide_eq_false (by omega)]
  rcases hc.meet j i oj oi mj mi h hj hi hmj hmi with h' | ⟨h1, h2, h3⟩
  ·cases hLi : L i with
   | false => rfl
   | true =>
    have := hc.in hL i oi hi (fun e he hb => hL.down i oi e hi hLi he hb) j h'
    rw [hn] at this; cases this
  ·exact (hmeet.elim (fun x => x ⟨sym h1, fun k hk => ⟨h3 k hk, fun hk' => (h2 k hk').2 hk⟩, fun k hk => (h2 k hk).1⟩) (fun x => x ⟨h1, h2, h3⟩)).elim
theorem toList_get {i : Nat} {o : Oper} (h : ops[i]? = some o) : ops.toList[i]? = some o := by simpa using h
theorem toList_get' {i : Nat} {o : Oper} (h : ops.toList[i]? = some o) : ops[i]? = some o := by simpa using h
theorem not_apart_wr {x y : Oper} {t : Nat} (hx : x.dst = some t) (hy : y.dst = some t) : ¬ x.apart ops y = true := by
 intro h
 exact (Oper.apart_spec h).2.1 t hx hy
theorem not_apart_rd {x y : Oper} {t : Nat} (hx : x.dst = some t) (hy : t ∈ y.looksAt ops) : ¬ x.apart ops y = true := by
 intro h
 exact (Oper.apart_spec h).1 t hx hy
theorem Run.any {bs : List (List Nat)} (hr : Run P ops ops.toList σ ms σ') (hc : Cmp ops ms bs) (hfree : ∀ (q : Nat) (m : Stp), ms[q]? = some m → ∀ k, k ∈ m.2.use → σ.free k) {cx : Cx} (hd : ∀ o, o ∈ ops.toList → ∀ d, o.dst = some d → d < cx.n)
 (Q : Exit → Act → World → Prop) (hQ : ∀ g' a' w', SR cx g' σ' a' w' → Q .normal a' w') : ∀ (fuel : Nat) (U : List Nat) (listed : Array Bool) (g : Gh) (a : Act) (w : World), U.length ≤ fuel → listed.size = ops.size →
 (∀ i, i < ops.size → listed.getD i false = false → i ∈ U) → Closed ops (fun i => listed.getD i false) → SR cx g (appD (fun i => listed.getD i false) ops.toList ms 0 σ) a w → wpAny P .any ops Q fuel listed a w := by
 have hlen : ms.length = ops.size := by rw [hr.len, Array.length_toList]
 have hfin : ∀ (listed : Array Bool) (g : Gh) (a : Act) (w : World), (∀ i, i < ops.size → listed.getD i false = true) → SR cx g (appD (fun i => listed.getD i false) ops.toList ms 0 σ) a w → Q .normal a w := by
  intro listed g a w hall hs
  rw [appD_congr (L' := fun _ => true) _ _ _ _ (fun q hq => hall _ (by simpa using hq)), hr.final] at hs
  exact hQ g a w hs
 have hnone : ∀ (listed : Array Bool), listed.size = ops.size → Region.ready .any ops listed = [] → ∀ i, i < ops.size → listed.getD i false = true := by
  intro listed hsz h i
  induction i using Nat.strongRecOn with
  | _ i ih =>
   intro hi
   cases hLi : listed.getD i false with
   | true => rfl
   | false =>
    have hget : listed.getD i true = false := by
     rw [Array.getD_eq_getD_getElem?] at hLi ⊢
     rw [Array.getElem?_eq_getElem (by omega)] at hLi ⊢
     exact hLi
    have : i ∈ Region.ready .any ops listed := mem_ready.2 ⟨hget, ops[i], Array.getElem?_eq_getElem hi, fun e he hb => ih e.on (hc.edge i _ e (Array.getElem?_eq_getElem hi) he hb) (by
     have := hc.edge i _ e (Array.getElem?_eq_getElem hi) he hb; exact Nat.lt_trans this hi)⟩
    rw [h] at this; cases this
 intro fuel
 induction fuel with
 | zero =>
  intro U listed g a w hU hsz hun hcl hs
  have hU0 : U = [] := List.length_eq_zero_iff.1 (by omega)
  subst hU0
  have hall : ∀ i, i < ops.size → listed.getD i false = true := fun i hi => by
   cases h : listed.getD i false with
   | true => rfl
   | false => have := hun i hi h; cases this
  refine ⟨?_, hfin listed g a w hall hs⟩
  cases hrd : Region.ready .any ops listed with
  | nil => rfl
  | cons x xs =>
   have : x ∈ Region.ready .any ops listed := by rw [hrd]; simp
   obtain ⟨h1, o, h2, _⟩ := mem_ready.1 this
   have hx := (Array.getElem?_eq_some_iff.1 h2).1
   have := hall x hx
   rw [Array.getD_eq_getD_getElem?, Array.getElem?_eq_getElem (by omega)] at this h1
   simp at this h1
   rw [h1] at this; cases this
 | succ fuel ih =>
  intro U listed g a w hU hsz hun hcl hs
  refine ⟨fun h => hfin listed g a w (hnone listed hsz h) hs, fun j hj => ?_⟩
  obtain ⟨h1, oj, hoj, hp⟩ := mem_ready.1 hj
  have hjlt := (Array.getElem?_eq_some_iff.1 hoj).1
  have hLj : listed.getD j false = false := by
   rw [Array.getD_eq_getD_getElem?, Array.getElem?_eq_getElem (by omega)] at h1 ⊢
   exact h1
  obtain ⟨mj, hmj⟩ : ∃ mj, ms[j]? = some mj := ⟨ms[j]'(by omega), List.getElem?_eq_getElem (by omega)⟩
  have hmem : oj ∈ ops.toList := List.mem_of_getElem? (toList_get hoj)
  have hms : ∀ q o, ops[q]? = some o → ∃ m, ms[q]? = some m := fun q o ho => ⟨ms[q]'(by have := (Array.getElem?_eq_some_iff.1 ho).1; omega), List.getElem?_eq_getElem _⟩
  have hops : ∀ q m, ms[q]? = some m → ∃ o, ops[q]? = some o := fun q m hm => ⟨ops[q]'(by have := (List.getElem?_eq_some_iff.1 hm).1; omega), Array.getElem?_eq_getElem _⟩
  have hord : ∀ {i : Nat} {oi : Oper} {mi : Stp}, ops[i]? = some oi → ms[i]? = some mi → i ≠ j → _ → _ := fun {i} {oi} {mi} hi hmi hne => hc.order (L := fun i => listed.getD i false) hcl hoj hmj hLj hp hi hmi hne
  refine step_exec (hr.at j oj mj (toList_get hoj) hmj) hoj hs (hd oj hmem) ?_ ?_ ?_ (fun g' a' w' hs' => ?_)
  · -- slots that it looks at
   intro t ht
   refine appD_sl_congr t _ _ _ _ _ rfl (fun q o ho hw => ?_)
   rw [Nat.zero_add]
   have ho' := toList_get' ho
   obtain ⟨mq, hmq⟩ := hms q o ho'
   by_cases e : q = j
   ·subst e; simp [hLj]
   ·exact hord ho' hmq e (.inl (fun h => not_apart_rd hw ht h.1))
  · -- tokens that it looks at
   intro k hk
   refine appD_tk_congr k _ _ _ _ _ rfl (fun q m hm hl hw => ?_)
   rw [Nat.zero_add]
   obtain ⟨oq, hoq⟩ := hops q m hm
   by_cases e : q = j
   ·subst e; simp [hLj]
   ·exact hord hoq hm e (.inl (fun h => (h.2.1 k (wrk_keys hw)).1 hk))
  · -- new keys
   intro k hk
   rw [appD_free]
   refine ⟨hfree j mj hmj k hk, fun q m hm hl hL hk' => ?_⟩
   rw [Nat.zero_add] at hL
   obtain ⟨oq, hoq⟩ := hops q m hm
   by_cases e : q = j
   ·subst e; rw [hLj] at hL; cases hL
   ·rcases Nat.lt_or_gt_of_ne e with h | h
    ·exact hc.use q j oq oj m mj h hoq hoj hm hmj k hk' hk
    ·exact hc.use j q oj oq mj m h hoj hoq hmj hm k hk hk'
  · -- what stands then
   have hL' : ∀ i, (listed.setIfInBounds j true).getD i false = if i = j then true else listed.getD i false := by
    intro i
    by_cases e : i = j
    ·subst e; rw [if_pos rfl, Array.getD_eq_getD_getElem?, Array.getElem?_setIfInBounds_self_of_lt (by omega)]; rfl
    ·rw [if_neg e, getD_set_ne false (fun x => e x.symm)]
   refine ih (U.erase j) (listed.setIfInBounds j true) g' a' w' ?_ (by simpa using hsz) ?_ ?_ ?_
   ·have := hun j hjlt hLj
    rw [List.length_erase_of_mem this]; omega
   ·intro i hi h
    rw [hL' i] at h
    by_cases e : i = j
    ·rw [if_pos e] at h; cases h
    ·rw [if_neg e] at h
     exact (List.mem_erase_of_ne e).2 (hun i hi h)
   ·refine ⟨fun i o e ho hi he hb => ?_⟩
    simp only [hL'] at hi ⊢
    by_cases e' : i = j
    ·subst e'
     rw [hoj] at ho; cases ho
     have := hp e he hb
     split
     ·rfl
     ·exact this
    ·rw [if_neg e'] at hi
     have := hcl.down i o e ho hi he hb
     split
     ·rfl
     ·exact this
   ·refine hs'.eqv _ (fun t => ?_) (fun k => ?_) (fun k hk => ?_)
    ·rw [mv_sl]
     split
     ·rename_i hw
      refine appD_sl_last t _ _ _ _ j oj mj (toList_get hoj) hmj hw (by rw [Nat.zero_add, hL', if_pos rfl]) (fun q o hq ho hw' => ?_)
      rw [Nat.zero_add, hL', if_neg (by omega)]
      have ho' := toList_get' ho
      obtain ⟨mq, hmq⟩ := hms q o ho'
      have := hord ho' hmq (by omega) (.inl (fun h => not_apart_wr hw' hw h.1))
      rw [this]; simp; omega
     ·rename_i hw
      refine appD_sl_congr t _ _ _ _ _ rfl (fun q o ho hw' => ?_)
      rw [Nat.zero_add, hL', if_neg (fun e => ?_)]
      subst e
      have ho' := toList_get' ho
      rw [hoj] at ho'; cases ho'
      exact hw hw'
    ·rw [mv_tk]
     cases hl : lkp mj.2.tk k with
     | some u =>
      refine appD_tk_last k _ _ _ _ j mj u (by simpa using hjlt) hmj hl (by rw [Nat.zero_add, hL', if_pos rfl]) (fun q m hq hm hlt hw' => ?_)
      rw [Nat.zero_add, hL', if_neg (by omega)]
      obtain ⟨oq, hoq⟩ := hops q m hm
      have := hord hoq hm (by omega) (.inl (fun h => (h.2.1 k (wrk_keys hw')).2 (wrk_keys ⟨u, hl⟩)))
      rw [this]; simp; omega
     | none =>
      refine appD_tk_congr k _ _ _ _ _ rfl (fun q m hm hlt hw' => ?_)
      rw [Nat.zero_add, hL', if_neg (fun e => ?_)]
      subst e
      rw [hmj] at hm; cases hm
      obtain ⟨u, hu⟩ := hw'
      rw [hl] at hu; cases hu
    ·rw [appD_free] at hk
     rw [mv_free, appD_free]
     refine ⟨⟨hk.1, fun q m hm hl hL => hk.2 q m hm hl ?_⟩, hk.2 j mj hmj (by simpa using hjlt) (by rw [Nat.zero_add, hL', if_pos rfl])⟩
     rw [Nat.zero_add] at hL ⊢
     rw [hL']
     split
     ·rfl
     ·exact hL
variable {KK : Px → St → Prop}
theorem W.plain {id : Nat} (hr : Run P ops ops.toList σ ms σ') (hK : KK .normal σ') : W P (.region id ops false) σ KK :=
 .region (hr.opsT.mono fun τ e => e ▸ hK)
theorem W.draw {id : Nat} (bs : List (List Nat)) (hm : P.follows .mixedOrders = true) (hr : Run P ops ops.toList σ ms σ') (hK : KK .normal σ') (h1 : befOk ops bs = true) (h2 : indep ops ms bs = true)
 (hfree : ∀ (q : Nat) (m : Stp), ms[q]? = some m → ∀ k, k ∈ m.2.use → σ.free k) : W P (.region id ops true) σ KK := by
 intro cx g a w hs hd Q hQ
 refine wp_region_any hm ?_
 have hsz : (Array.replicate ops.size false).size = ops.size := by simp
 have hL : (fun i => (Array.replicate ops.size false).getD i false) = (fun _ => false) := funext fun i => by
  rw [Array.getD_eq_getD_getElem?, Array.getElem?_replicate]; split <;> rfl
 refine hr.any (Cmp.of h1 h2) hfree (mem_dstOk hd) Q (fun g' a' w' hs' => hQ .normal σ' g' a' w' hK hs') ops.size (List.range ops.size) _ g a _ (by simp) hsz (fun i hi _ => by simpa using hi) ?_ ?_
 ·rw [hL]; exact ⟨fun j o e _ h => by cases h⟩
 ·rw [hL, appD_none]; exact hs.world (Fr.drew w)
end
end Go.Pm
