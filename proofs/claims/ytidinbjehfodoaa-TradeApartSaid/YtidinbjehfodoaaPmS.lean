/- The pure machine, part S: a row's arguments as data: what reads as data of a type is an encoding of a plain value, within its bounds; and a contract as a row asks it. Conditions: none (definitions and lemmas alone). -/
import Derived.ChangeArms
import Derived.ChangeShapes
import Derived.ChangeMaps5
import Derived.WideShapes
import Derived.RowKit
import Derived.DataReads
import Derived.Below
import Derived.Test.YtidinbjehfodoaaPmAA
namespace Go.Pm
open Go Go.ChangeShapes Go.WideShapes Go.RowKit
set_option linter.unusedVariables false
set_option linter.unusedSimpArgs false
set_option linter.unusedSectionVars false

/-- All that is there. -/
def allB (w : World) : Nat → Prop := fun b => b < w.heap.size

theorem heap_lt {w : World} {a : Addr} {v : Value} (h : w.cell? a = some v) : a.block < w.heap.size ∧ a.spot = none := by
  unfold World.cell? at h
  split at h
  · rename_i c _ _ hb
    refine ⟨(Array.getElem?_eq_some_iff.1 hb).1, ?_⟩
    cases hs : a.spot with
    | none => rfl
    | some _ => rw [hs] at h; cases h
  · cases h

def reach : Nat := 140737488351232

/-- What reads as data of type t is an encoding. -/
structure Opens (P : Program) (t : TypeId) {α : Type} (enc : α → List T) (bd : α → Prop) : Prop where
  out : ∀ {H : Type} {e : TypeId × Value → H} {w : World} {spare : Nat → Bool} {held : Bool} {fuel : Nat} {cs : List Value} {d : DataW H} {ps : List MemPlace},
    DataW.trod e P w 0 spare held fuel t cs = some (d, ps) → (∀ n, n ∈ d.weights P t → n ≤ reach) →
    ∃ x, bd x ∧ cs.length = (enc x).length ∧ ∀ i, i < cs.length → RepT (allB w) w ((enc x).getD i default) (cs.getD i undef)

section
variable {P : Program} {t : TypeId}

def inK (k : IntKind) (n : Int) : Prop := k.min ≤ n ∧ n ≤ k.max

theorem Opens.int {k : IntKind} (ht : P.underlying t = some (.int k)) : Opens P t (encI k) (inK k) := by
  constructor
  intro H e w spare held fuel cs d ps h _
  obtain ⟨n, rfl, hx, hw⟩ := DataW.trod_int ht h
  refine ⟨n, ?_, rfl, fun i hi => ?_⟩
  · simp [Lit.wf] at hw
    exact hw
  · simp at hi; subst hi; exact .val _
theorem Opens.bool (ht : P.underlying t = some .bool) : Opens P t encBo (fun _ => True) := by
  constructor
  intro H e w spare held fuel cs d ps h _
  obtain ⟨b, rfl, hx⟩ := DataW.trod_bool ht h
  exact ⟨b, trivial, rfl, fun i hi => by simp at hi; subst hi; exact .val _⟩

theorem weightsAll_mem {H : Type} {e : TypeId} : ∀ {l : List (DataW H)} {d : DataW H}, d ∈ l → ∀ n, n ∈ d.weights P e → n ∈ DataW.weightsAll P e l
  | x :: l, d, hd, n, hn => by
    simp only [DataW.weightsAll, List.mem_append]
    rcases List.mem_cons.1 hd with rfl | hd
    · exact .inl hn
    · exact .inr (weightsAll_mem hd n hn)

theorem exists_list {α : Type} {Q : Nat → α → Prop} : ∀ (n : Nat), (∀ i, i < n → ∃ x, Q i x) → ∃ l : List α, l.length = n ∧ ∀ i (h : i < l.length), Q i l[i]
  | 0, _ => ⟨[], rfl, fun i h => by simp at h⟩
  | n + 1, h => by
    obtain ⟨l, h1, h2⟩ := exists_list n (fun i hi => h i (by omega))
    obtain ⟨x, hx⟩ := h n (by omega)
    refine ⟨l ++ [x], by simp [h1], fun i hi => ?_⟩
    simp at hi
    by_cases hin : i < l.length
    · rw [List.getElem_append_left hin]; exact h2 i hin
    · have : i = l.length := by omega
      subst this
      have e1 : (l ++ [x])[l.length] = x := by simp
      have e2 : Q l.length x := by rw [h1]; exact hx
      rw [e1]; exact e2

theorem Opens.slice {α : Type} {enc : α → List T} {bd : α → Prop} {e sz by_ : Nat} (ht : P.underlying t = some (.slice e)) (he : Opens P e enc bd) (hl : ∀ a, (enc a).length = sz) (hc : P.cellsOf e = sz) (hb : P.bytesOf e = by_) (hpos : 0 < sz) :
    Opens P t (encR sz enc) (fun l => l.length * by_ ≤ reach ∧ ∀ x ∈ l, bd x) := by
  constructor
  intro H en w spare held fuel cs d ps h hwt
  rcases DataW.trod_slice ht h with ⟨rfl, hx⟩ | ⟨a, len, cap, elems, rest, n, _, rfl, hx, _, hlc, hm, hlen, hel, _, _⟩
  · exact ⟨[], ⟨by simp, fun x hx => by cases hx⟩, rfl, fun i hi => by simp at hi; subst hi; exact .nilrow _ _ _⟩
  · cases hx
    simp only [DataW.weights, ht] at hwt
    have hlen' : len * by_ ≤ reach := by
      have h1 := hwt _ (List.mem_cons_self ..)
      simp only [List.length_map, hlen, hb] at h1
      exact Nat.le_trans (Nat.mul_le_mul_right _ (Nat.le_add_right _ _)) h1
    -- element by element
    have each : ∀ i, i < len → ∃ x, bd x ∧ ∀ j, j < sz → ∃ u, w.cell? (a.add (i * sz + j)) = some u ∧ RepT (allB w) w ((enc x).getD j default) u := by
      intro i hi
      have h1 := hel i hi
      rw [List.getElem?_eq_getElem (by omega), Option.bind_eq_some_iff, hc] at h1
      obtain ⟨cs, h2, h3⟩ := h1
      obtain ⟨_, h4, h5⟩ := World.cells?_some h2
      obtain ⟨x, hx1, hx2, hx3⟩ := he.out (d := elems[i].1) (ps := elems[i].2) h3 (fun m hm' => hwt m (List.mem_cons_of_mem _ (List.mem_append_left _ (weightsAll_mem (List.mem_map.2 ⟨elems[i], List.getElem_mem _, rfl⟩) m hm'))))
      refine ⟨x, hx1, fun j hj => ?_⟩
      have h6 := h5 j hj
      rw [List.getElem?_eq_getElem (by omega)] at h6
      have h7 := hx3 j (by omega)
      rw [show cs.getD j undef = cs[j]'(by omega) from by rw [List.getD_eq_getElem?_getD, List.getElem?_eq_getElem (by omega)]; rfl] at h7
      refine ⟨_, ?_, h7⟩
      rw [← h6]
      congr 1
      unfold Addr.add
      by_cases e1 : i * sz = 0
      · simp [e1]
      · by_cases e2 : j = 0
        · simp [e2]
        · have e3 : i * sz + j ≠ 0 := by omega
          simp [e1, e2, e3, Nat.add_assoc]
    obtain ⟨l, hl1, hl2⟩ := exists_list len each
    have hbd : ∀ x ∈ l, bd x := by
      intro x hx
      obtain ⟨i, hi, rfl⟩ := List.getElem_of_mem hx
      exact (hl2 i hi).1
    refine ⟨l, ⟨by rw [hl1]; exact hlen', hbd⟩, rfl, fun i hi => ?_⟩
    simp at hi; subst hi
    show RepT (allB w) w (.row sz (l.map enc)) (.slice (some a) len cap)
    by_cases h0 : len = 0
    · subst h0
      have : l = [] := List.length_eq_zero_iff.1 hl1
      subst this
      exact .nilrow _ _ _
    · obtain ⟨_, hc0⟩ := hl2 0 (by omega)
      obtain ⟨u0, hu0, _⟩ := hc0 0 hpos
      simp only [Nat.zero_mul, Nat.zero_add, Addr.add, if_pos] at hu0
      obtain ⟨hlt, hsp⟩ := heap_lt hu0
      obtain ⟨b, o, sp⟩ := a
      simp only at hlt hsp
      subst hsp
      have hadd : ∀ q, (⟨b, o, none⟩ : Addr).add q = ⟨b, o + q, none⟩ := fun q => by
        unfold Addr.add
        by_cases e : q = 0
        · simp [e]
        · simp [e]
      have key : ∀ i j, i < l.length → j < sz → ∃ u, w.cell? ⟨b, o + (i * sz + j), none⟩ = some u ∧ RepT (allB w) w (((l.map enc).getD i []).getD j default) u := by
        intro i j hi hj
        obtain ⟨_, h1⟩ := hl2 i hi
        obtain ⟨u, h2, h3⟩ := h1 j hj
        rw [hadd] at h2
        refine ⟨u, h2, ?_⟩
        have : (l.map enc).getD i [] = enc l[i] := by simp [List.getD_eq_getElem?_getD, List.getElem?_map, List.getElem?_eq_getElem hi]
        rw [this]; exact h3
      have hr := RepT.row (S := allB w) (w := w) sz (l.map enc) b o cap (fun i j => (w.cell? ⟨b, o + (i * sz + j), none⟩).getD undef) (by rw [List.length_map]; omega) (fun z hz => by
          obtain ⟨x, _, rfl⟩ := List.mem_map.1 hz
          exact hl x) hlt
        (fun i j hi hj => by
          rw [List.length_map] at hi
          obtain ⟨u, h1, _⟩ := key i j hi hj
          simp only [h1, Option.getD_some])
        (fun i j hi hj => by
          rw [List.length_map] at hi
          obtain ⟨u, h1, h2⟩ := key i j hi hj
          simp only [h1, Option.getD_some]; exact h2)
      rw [List.length_map, hl1] at hr
      exact hr

/-- The fields from cell off on. -/
structure OpensF (P : Program) (fs : List Field) (off : Nat) {α : Type} (enc : α → List T) (bd : α → Prop) : Prop where
  out : ∀ {H : Type} {e : TypeId × Value → H} {w : World} {spare : Nat → Bool} {held : Bool} {fuel : Nat} {cs : List Value} (xs : List (DataW H × List MemPlace)), xs.length = fs.length →
    (∀ (i : Nat) (f : Field), fs[i]? = some f → DataW.trod e P w 0 spare held fuel f.type ((cs.drop f.offset).take (P.cellsOf f.type)) = xs[i]?) → (∀ n, n ∈ DataW.weightsEach P (fs.map (·.type)) (xs.map (·.1)) → n ≤ reach) →
    ∃ x, bd x ∧ ∀ i, i < (enc x).length → RepT (allB w) w ((enc x).getD i default) (cs.getD (off + i) undef)

theorem OpensF.nil (off : Nat) : OpensF P [] off (fun _ : Unit => []) (fun _ => True) :=
  ⟨fun xs _ _ _ => ⟨(), trivial, fun i hi => by simp at hi⟩⟩

theorem OpensF.cons {f : Field} {fs : List Field} {off sz : Nat} {α β : Type} {enc : α → List T} {bd : α → Prop} {enc' : β → List T} {bd' : β → Prop} (h : Opens P f.type enc bd) (hl : ∀ a, (enc a).length = sz) (ho : f.offset = off)
    (k : OpensF P fs (off + sz) enc' bd') : OpensF P (f :: fs) off (fun p : α × β => enc p.1 ++ enc' p.2) (fun p => bd p.1 ∧ bd' p.2) := by
  constructor
  intro H e w spare held fuel cs xs hxs hi hwt
  cases xs with
  | nil => cases hxs
  | cons x xs =>
    obtain ⟨d, ps⟩ := x
    have h0 := hi 0 f rfl
    simp only [List.getElem?_cons_zero] at h0
    simp only [List.map_cons, DataW.weightsEach] at hwt
    obtain ⟨a, ha1, ha2, ha3⟩ := h.out h0 (fun n hn => hwt n (List.mem_append_left _ hn))
    obtain ⟨b, hb1, hb2⟩ := k.out xs (by simpa using hxs) (fun i g hg => by simpa using hi (i + 1) g (by simpa using hg)) (fun n hn => hwt n (List.mem_append_right _ hn))
    refine ⟨(a, b), ⟨ha1, hb1⟩, fun i hi' => ?_⟩
    simp only [List.length_append, hl] at hi'
    by_cases hlt : i < sz
    · have e1 : (enc a ++ enc' b).getD i default = (enc a).getD i default := by
        rw [List.getD_eq_getElem?_getD, List.getElem?_append_left (by rw [hl]; exact hlt), ← List.getD_eq_getElem?_getD]
      rw [e1]
      rw [hl] at ha2
      have h1 := ha3 i (by omega)
      have e2 : ((cs.drop f.offset).take (P.cellsOf f.type)).getD i undef = cs.getD (off + i) undef := by
        have h3 : i < ((cs.drop f.offset).take (P.cellsOf f.type)).length := by omega
        rw [List.length_take] at h3
        rw [List.getD_eq_getElem?_getD, List.getElem?_take, if_pos (by omega), List.getElem?_drop, ho, ← List.getD_eq_getElem?_getD]
      rw [e2] at h1; exact h1
    · obtain ⟨q, rfl⟩ : ∃ q, i = sz + q := ⟨i - sz, by omega⟩
      have e1 : (enc a ++ enc' b).getD (sz + q) default = (enc' b).getD q default := by
        rw [List.getD_eq_getElem?_getD, List.getElem?_append_right (by rw [hl]; omega), hl, Nat.add_sub_cancel_left, ← List.getD_eq_getElem?_getD]
      rw [e1]
      have h1 := hb2 q (by omega)
      rwa [Nat.add_assoc] at h1

theorem Opens.struct {α β : Type} {fs : Array Field} {enc : α → List T} {bd : α → Prop} {enc' : β → List T} {bd' : β → Prop} {n : Nat} (ht : P.underlying t = some (.struct fs)) (hn : P.cellsOf t = n) (h : OpensF P fs.toList 0 enc bd) (f : α → β)
    (he : ∀ a, enc' (f a) = enc a) (hl : ∀ b, (enc' b).length = n) (hb : ∀ a, bd a → bd' (f a)) : Opens P t enc' bd' := by
  constructor
  intro H e w spare held fuel cs d ps h0 hwt
  obtain ⟨xs, m, _, hx, hlen, hxs, hi⟩ := DataW.trod_struct ht h0
  cases hx
  simp only [DataW.weights, ht] at hwt
  obtain ⟨a, h1, h2⟩ := h.out (cs := cs) xs (by simpa using hxs) (fun i g hg => hi i g (by simpa using hg)) hwt
  refine ⟨f a, hb a h1, by rw [hl, hlen, hn], fun i hi' => ?_⟩
  rw [he]
  have h3 := h2 i (by rw [← he, hl, ← hn, ← hlen]; exact hi')
  rwa [Nat.zero_add] at h3
end

theorem repXs_imm {S : Nat → Prop} {w : World} : ∀ (l : List T) (vs : List Value), vs.length = l.length → (∀ i, i < l.length → RepT S w (l.getD i default) (vs.getD i undef)) → RepXs S w (l.map .imm) vs []
  | [], [], _, _ => .nil
  | x :: l, v :: vs, hl, h => by
    have h0 := h 0 (by simp)
    simp only [List.getD_cons_zero] at h0
    exact .cons _ _ _ _ [] [] (.imm x v h0) (repXs_imm l vs (by simpa using hl) (fun i hi => by simpa using h (i + 1) (by simpa using hi)))

theorem Opens.row {P : Program} {t : TypeId} {α : Type} {enc : α → List T} {bd : α → Prop} (h : Opens P t enc bd) {H : Type} {e : TypeId × Value → H} {w : World} {spare : Nat → Bool} {held : Bool} {v : Value} {d : DataW H} {ps : List MemPlace} {r : Reach} {b0 : Nat} {fs : Array Field}
    (ht : P.underlying t = some (.struct fs)) (hv : Value.okWide P w r b0 t v) (hd : DataW.Trod e P w 0 spare held t v d ps) (hw : ∀ n, n ∈ d.weights P t → n ≤ reach) : ∃ x, bd x ∧ RepX (allB w) w (.agg ((enc x).map .imm)) v [] := by
  unfold Value.okWide at hv
  rw [ht] at hv
  obtain ⟨cs, rfl, _, _⟩ := hv
  obtain ⟨fuel, hf⟩ := hd
  obtain ⟨x, h1, h2, h3⟩ := h.out hf hw
  simp only [Value.cells] at h2 h3
  exact ⟨x, h1, .agg _ cs [] (repXs_imm _ _ h2 (fun i hi => h3 i (by omega)))⟩

theorem cells_one {v : Value} (h : v.cells.toList.length = 1) (hn : ∀ cs, v ≠ .agg cs) : v.cells = #[v] := by
  cases v <;> first | rfl | exact (hn _ rfl).elim

theorem Opens.one {P : Program} {t : TypeId} {α : Type} {enc : α → List T} {bd : α → Prop} (h : Opens P t enc bd) (hl : ∀ a, (enc a).length = 1) {H : Type} {e : TypeId × Value → H} {w : World} {spare : Nat → Bool} {held : Bool} {v : Value} {d : DataW H} {ps : List MemPlace}
    (hn : ∀ cs, v ≠ .agg cs) (hd : DataW.Trod e P w 0 spare held t v d ps) (hw : ∀ n, n ∈ d.weights P t → n ≤ reach) : ∃ x, bd x ∧ RepX (allB w) w (.imm ((enc x).getD 0 default)) v [] := by
  obtain ⟨fuel, hf⟩ := hd
  obtain ⟨x, h1, h2, h3⟩ := h.out hf hw
  rw [hl] at h2
  have hc := cells_one h2 hn
  refine ⟨x, h1, .imm _ _ ?_⟩
  have h4 := h3 0 (by omega)
  rw [hc] at h4
  simpa using h4

theorem notAgg_slice {P : Program} {w : World} {r : Reach} {b0 : Nat} {t e : TypeId} {v : Value} (ht : P.underlying t = some (.slice e)) (h : Value.okWide P w r b0 t v) : ∀ cs, v ≠ .agg cs := by
  obtain ⟨a, n, c, rfl⟩ := okWide_slice ht h
  intro cs e; cases e

theorem weights_each {H : Type} {P : Program} : ∀ {ts : List TypeId} {ds : List (DataW H)} {j : Nat} {t : TypeId} {d : DataW H}, (DataW.weightsEach P ts ds).all (· ≤ reachBytes) = true → ts[j]? = some t → ds[j]? = some d → ∀ n, n ∈ d.weights P t → n ≤ reach
  | t :: ts, d :: ds, 0, _, _, h, ht, hd, n, hn => by
    cases ht; cases hd
    simp only [DataW.weightsEach, List.all_append, Bool.and_eq_true, List.all_eq_true, decide_eq_true_eq] at h
    exact h.1 n hn
  | t :: ts, d :: ds, j + 1, t', d', h, ht, hd, n, hn => by
    simp only [DataW.weightsEach, List.all_append, Bool.and_eq_true] at h
    exact weights_each h.2 (by simpa using ht) (by simpa using hd) n hn

/-- A contract that says true, as a row asks it. -/
theorem Spec.truth {P : Program} {f : FuncId} {xs : List X} {ss : List (Option X)} (h : Pm.Spec P f xs (.imm (.val (.bool true))) ss) {W : World} {vs : Array Value} (hr : RepXs (allB W) W xs vs.toList []) :
    Calls P f vs W fun e W' => e = .returned (.bool true) ∧ Below W.heap.size W W' := by
  refine (h (allB W) W vs [] (fun b hb => hb) hr List.nodup_nil (fun b hb => by cases hb)).mono ?_
  rintro e W' ⟨v, S', Fr', Fs, rfl, hp⟩
  refine ⟨?_, hp.frame.os, hp.frame.tape, hp.frame.output, hp.frame.size, fun k hk => hp.frame.block k hk (fun hF => by cases hF)⟩
  have := hp.res
  generalize hFr : Fr' = F0 at this
  cases this with
  | imm _ _ h1 => cases h1; rfl
end Go.Pm
