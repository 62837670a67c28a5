/- The pure machine, part AB: the call of a closure that comes to one store into an element of a row. Conditions: none (definitions and lemmas alone). -/
import Derived.Test.YtjdkibnhlmgppaaGreatPmAA
namespace Go.Pm
open Go
set_option linter.unusedVariables false
set_option linter.unusedSimpArgs false

/-- The function f, called with a pointer to sz cells (and, perhaps, one to a variable that holds u), stores v into cell j of them, and does nothing else. -/
def Sto (P : Program) (f : FuncId) (us : List Value) (sz j : Nat) (v : Value) : Prop :=
  ∀ (w : World) (b off : Nat) (cur : Array Value) (e : TypeId) (ks : List Nat), w.heap[b]? = some (.cells cur e (0, 0)) → off + sz ≤ cur.size → ks.length = us.length →
    (∀ i, i < us.length → ks.getD i 0 ≠ b ∧ ∃ e2, w.heap[ks.getD i 0]? = some (.cells #[us.getD i undef] e2 (0, 0))) →
    Calls P f (Value.pointer (some ⟨b, off, none⟩) :: ks.map fun k => Value.pointer (some ⟨k, 0, none⟩)).toArray w fun e' w' => e' = .returned (.tuple #[]) ∧ w' = w.setCells b (off + j) [v]

/-- The captured variables, as they stand. -/
inductive CapV (σ : St) (k : Nat) : List AV → List Value → List Nat → Prop where
  | nil : CapV σ k [] [] []
  | cons {q : Nat} {u : Value} {l : List AV} {us : List Value} {qs : List Nat} : σ.tk q = some (.box [.imm (.val u)]) → CapV σ k l us qs → CapV σ k (.ptr q 0 :: l) (u :: us) (q :: qs)

section
variable {P : Program} {σ : St} {o : Oper} {cx : Cx} {g : Gh} {a : Act} {w : World}

theorem CapV.agree {σ' : St} {k : Nat} {l : List AV} {us : List Value} {qs : List Nat} (h : CapV σ k l us qs) : (∀ q, q ∈ qs → σ'.tk q = σ.tk q) → CapV σ' k l us qs := by
  induction h with
  | nil => intro _; exact .nil
  | cons h1 h2 ih => intro hq; exact .cons ((hq _ (by simp)).trans h1) (ih fun q hm => hq q (by simp [hm]))

theorem CapV.vals {k : Nat} {l : List AV} {us : List Value} {qs : List Nat} {e sz : Nat} {es : List (List T)} {b n0 c0 : Nat} (hs : SR cx g σ a w) (hk : σ.tk k = some (.rows e sz es false)) (hv : g.hv k = .slice (some ⟨b, 0, none⟩) n0 c0) (h : CapV σ k l us qs) :
    ∀ (vs : List Value), vs.length = l.length → (∀ i, i < l.length → RepA g w (l.getD i default) (vs.getD i undef)) → ∃ ks : List Nat, vs = ks.map (fun k => Value.pointer (some ⟨k, 0, none⟩)) ∧ ks.length = us.length ∧
      (∀ i, i < us.length → ks.getD i 0 ≠ b ∧ ∃ e2, w.heap[ks.getD i 0]? = some (.cells #[us.getD i undef] e2 (0, 0))) := by
  induction h with
  | nil => intro vs hl _; cases vs with
    | nil => exact ⟨[], rfl, rfl, fun i hi => by simp at hi⟩
    | cons => simp at hl
  | @cons q u l us qs h1 h2 ih =>
    intro vs hl hr
    cases vs with
    | nil => simp at hl
    | cons v vs =>
      obtain ⟨ks, e1, e2, e3⟩ := ih vs (by simpa using hl) (fun i hi => by have := hr (i + 1) (by simp; omega); simpa using this)
      have h0 := hr 0 (by simp)
      simp only [List.getD_cons_zero] at h0
      cases h0 with
      | ptr _ _ bq hu hvq =>
        cases hs.tk q _ h1 with
        | box _ b2 C e4 t1 t2 t3 t4 =>
          rw [hvq] at t1; cases t1
          have hC : C = #[u] := by
            have h5 := t4 0 (by simp)
            simp only [List.length_singleton] at t3
            have h6 : C.getD 0 undef = u := by
              generalize C.getD 0 undef = x at h5
              simp only [List.getD_cons_zero] at h5
              cases h5 with
              | imm _ _ h7 => cases h7; rfl
            apply Array.ext
            · simpa using t3
            · intro i i1 i2
              have : i = 0 := by simp at i2; omega
              subst this
              rw [Array.getD_eq_getD_getElem?, Array.getElem?_eq_getElem i1] at h6
              simpa using h6
          subst hC
          refine ⟨bq :: ks, by simp [e1], by simp [e2], fun i hi => ?_⟩
          cases i with
          | zero =>
            refine ⟨fun e0 => ?_, e4, by simpa using t2⟩
            simp only [List.getD_cons_zero] at e0
            have := hs.inj q k _ _ b h1 hk (by rw [hvq]; simp [hblk, e0]) (by rw [hv]; simp [hblk])
            subst this; rw [h1] at hk; cases hk
          | succ i => have := e3 i (by simpa using hi); simpa using this

theorem OpD.callSt {f k sz i j e : Nat} {es : List (List T)} {v : Value} (hk : σ.tk k = some (.rows e sz es false)) (hi : i < es.length) (hj : j + 1 ≤ sz) (h1 : v.oneCell' = true) (hc : v.cells = #[v])
    (H : ∀ cx g a w, SR cx g σ a w → ∀ b n0 c0 cur, g.hv k = .slice (some ⟨b, 0, none⟩) n0 c0 → w.heap[b]? = some (.cells cur e (0, 0)) → i * sz + sz ≤ cur.size →
      ∃ vs, (execOp a.eval o).run P w = .ok (.enter f vs) w ∧ Calls P f vs w fun e' w' => e' = .returned (.tuple #[]) ∧ w' = w.setCells b (i * sz + j) [v]) :
    OpD P o σ ⟨some (.tup []), [(k, some (.rows e sz (es.set i (splice (es.getD i []) j [.val v])) false))], []⟩ := by
  intro cx g a w hd h next Q hK
  cases h.tk k _ hk with
  | rows _ _ _ _ xs t1 t2 t3 t4 t5 =>
    obtain ⟨hxl, hb⟩ := t1
    rcases hb with ⟨e1, e2⟩ | ⟨b, c0, cur, e1, e2, e3, e4, e5, e6, e7⟩
    · omega
    have hv := e1
    have hszi : i * sz + sz ≤ es.length * sz := by
      have := Nat.mul_le_mul_right sz (show i + 1 ≤ es.length by omega)
      rw [Nat.add_mul] at this; omega
    have hcap : es.length * sz ≤ c0 * sz := Nat.mul_le_mul_right sz e4
    obtain ⟨vs, hrun, hcall⟩ := H cx g a w h b _ c0 cur hv e3 (by rw [e6]; omega)
    show o.upon P a next Q ((execOp a.eval o).run P w)
    rw [hrun, Oper.upon_enter]
    refine hcall.mono ?_
    rintro _ _ ⟨rfl, rfl⟩
    show next (a.put o.dst (.tuple #[])) _
    refine hK g _ _ ?_
    have hfit : i * sz + j + [v].length ≤ cur.size := by rw [e6]; simp; omega
    obtain ⟨hf, C', hh', hs', hC'⟩ := heap_setCells b e [v] (i * sz + j) w cur e3 hfit
    have hkb : ∀ q, hblk (g.hv k) = some q ↔ q = b := fun q => by rw [hv]; simp [hblk, eq_comm]
    have hst : ∀ q, g.S q → (w.setCells b (i * sz + j) [v]).heap[q]? = w.heap[q]? := fun q hq =>
      hf.block q (h.stab q hq) (fun e => by subst e; exact (h.live k _ q hk rfl ((hkb q).2 rfl)).1 hq)
    have hcur : ∀ q, q < es.length * sz → xs.getD q undef = cur.getD q undef := by
      intro q hq
      rw [← e7, List.getD_eq_getElem?_getD, List.getElem?_take, if_pos hq, Array.getElem?_toList, Array.getD_eq_getD_getElem?]
    have hset := h.setTok k (.rows e sz es false) (.rows e sz (es.set i (splice (es.getD i []) j [.val v])) false) hk rfl (hf.mono (fun q _ e => (hkb q).2 e)) (by
      refine .rows e sz _ false (splice xs (i * sz + j) [v]) ?_ ?_ ?_ ?_ (fun hf => by cases hf)
      · rw [hv, List.length_set]
        refine ⟨by rw [splice_length _ _ _ (by rw [hxl]; simp; omega)]; exact hxl, .inr ⟨b, c0, C', rfl, e2, hh', e4, e5, by rw [hs', e6], ?_⟩⟩
        apply List.ext_getElem?
        intro q
        rw [List.getElem?_take]
        by_cases hq : q < es.length * sz
        · rw [if_pos hq]
          have hq1 : q < C'.size := by rw [hs', e6]; omega
          have hq2 : q < (splice xs (i * sz + j) [v]).length := by rw [splice_length _ _ _ (by rw [hxl]; simp; omega), hxl]; exact hq
          have g1 := hC' q
          have g2 := splice_getD xs (i * sz + j) [v] undef (by rw [hxl]; simp; omega) q
          rw [hcur q hq] at g2
          rw [← g2] at g1
          rw [Array.getD_eq_getD_getElem?, Array.getElem?_eq_getElem hq1, List.getD_eq_getElem?_getD, List.getElem?_eq_getElem hq2] at g1
          rw [Array.getElem?_toList, Array.getElem?_eq_getElem hq1, List.getElem?_eq_getElem hq2]
          exact congrArg some g1
        · rw [if_neg hq, List.getElem?_eq_none]
          rw [splice_length _ _ _ (by rw [hxl]; simp; omega), hxl]; omega
      · intro z' hz'
        rcases List.mem_or_eq_of_mem_set hz' with h' | h'
        · exact t2 _ h'
        · subst h'
          have hl : (es.getD i []).length = sz := t2 _ (getD_mem hi)
          rw [splice_length _ _ _ (by rw [hl]; simp; omega), hl]
      · intro i' q' hi' hq'
        rw [List.length_set] at hi'
        have hl : (es.getD i []).length = sz := t2 _ (getD_mem hi)
        rw [setAt, splice_getD xs (i * sz + j) [v] undef (by rw [hxl]; simp; omega)]
        by_cases e0 : i' = i
        · subst e0
          rw [if_pos ⟨rfl, hi⟩, splice_getD _ _ _ _ (by rw [hl]; simp; omega)]
          by_cases e9 : j ≤ q' ∧ q' < j + [T.val v].length
          · have : q' = j := by simp at e9; omega
            subst this
            rw [if_pos e9, if_pos (by simp), show i' * sz + q' - (i' * sz + q') = 0 by omega, Nat.sub_self]
            exact .val v
          · rw [if_neg e9, if_neg (by simp at e9 ⊢; omega)]
            exact (t3 i' q' hi hq').mono (fun _ x => x) hst
        · rw [if_neg (fun x => e0 x.1), if_neg (by
            intro ⟨x1, x2⟩
            simp at x2
            rcases Nat.lt_or_gt_of_ne e0 with h' | h'
            · have := blk_lt (q' := j) hq' h'; omega
            · have := blk_lt (q := j) (q' := q') (sz := sz) (i := i) (i' := i') (by omega) h'
              omega)]
          exact (t3 i' q' hi' hq').mono (fun _ x => x) hst
      · intro u hu
        exact .inr trivial)
    refine hset.outSlot o.dst hd _ (.tuple #[]) (fun y hy => by cases hy; exact .tup [] #[] rfl (fun i hi => by simp at hi)) (fun q => ?_) (fun q hq => hq.1)
    simp only [St.out, St.tok, lkp]
    by_cases e : q = k <;> simp [e]

theorem OpL.callSt {fo x : Operand} {ats : Array TypeId} {f k sz i j e : Nat} {es : List (List T)} {v : Value} {us : List Value} {cap : List AV} {qs : List Nat} (hS : Sto P f us sz j v) (ho : o.op = .call { callee := .value fo, args := #[x], argTypes := ats }) (hf : rd σ fo = some (.fn f cap)) (hok : callOk P f = true)
    (hx : rd σ x = some (.eptr k sz i 0)) (hk : σ.tk k = some (.rows e sz es false)) (hi : i < es.length) (hj : j + 1 ≤ sz) (h1 : v.oneCell' = true) (hc : v.cells = #[v]) (hq : CapV σ k cap us qs) :
    OpL P o σ (k :: qs) ⟨some (.tup []), [(k, some (.rows e sz (es.set i (splice (es.getD i []) j [.val v])) false))], []⟩ := by
  intro σ' hs hfp _
  have hf' : rd σ' fo = some (.fn f cap) := (hs fo (by simp [ho, Op.operands, Call.operands])).trans hf
  have hx' : rd σ' x = some (.eptr k sz i 0) := (hs x (by simp [ho, Op.operands, Call.operands])).trans hx
  have hk' := (hfp k (by simp)).trans hk
  have hq' : CapV σ' k cap us qs := hq.agree (fun q hm => hfp q (by simp [hm]))
  refine OpD.callSt (f := f) hk' hi hj h1 hc ?_
  intro cx g a w h b n0 c0 cur hv hb hfit
  have hfr := rd_rep h fo _ hf'
  have hxr := rd_rep h x _ hx'
  generalize hfo : a.eval fo = vf at hfr
  generalize hxo : a.eval x = vx at hxr
  cases hfr with
  | fn _ _ cvs c1 c2 =>
    cases hxr with
    | eptr _ _ _ _ b2 n2 c3 hu hv2 =>
      rw [hv] at hv2; cases hv2
      obtain ⟨ks, k1, k2, k3⟩ := hq'.vals h hk' hv cvs.toList (by simp [c1]) (fun i hi => by rw [toList_getD]; exact c2 i hi)
      refine ⟨#[.pointer (some ⟨b, i * sz + 0, none⟩)] ++ cvs, ?_, ?_⟩
      · simp [execOp, ho, resolve, hfo, hxo, Deferred.ofValue, invoke, run_callFunc hok]
      · have := hS w b (i * sz) cur e ks hb hfit k2 k3
        have e0 : (#[Value.pointer (some ⟨b, i * sz + 0, none⟩)] ++ cvs) = (Value.pointer (some ⟨b, i * sz, none⟩) :: ks.map fun k => Value.pointer (some ⟨k, 0, none⟩)).toArray := by
          apply Array.ext'
          simp [← k1]
        rw [e0]
        exact this

theorem O.callSt {α : Type} [Inhabited α] {enc : α → List T} {fo x : Operand} {ats : Array TypeId} {f k sz j e : Nat} {i : Int} {l : List α} {v : Value} {us : List Value} {cap : List AV} {qs : List Nat} {x' : α} (hS : Sto P f us sz j v) (h : 0 ≤ i ∧ i < (l.length : Int)) (hok : callOk P f = true) (ho : o.op = .call { callee := .value fo, args := #[x], argTypes := ats }) (hf : rd σ fo = some (.fn f cap))
    (hx : rd σ x = some (.eptr k sz i.toNat 0)) (hk : σ.tk k = some (.rows e sz (l.map enc) false)) (hj : Nat.ble (j + 1) sz = true) (h1 : v.oneCell' = true) (hc : v.cells = #[v]) (hq : CapV σ k cap us qs) (he : splice (enc (nth l i)) j [.val v] = enc x') :
    OpL P o σ (k :: qs) ⟨some (.tup []), [(k, some (.rows e sz ((l.set i.toNat x').map enc) false))], []⟩ := by
  rw [map_set, ← he, ← map_nthI enc h]
  exact .callSt hS ho hf hok hx hk (by rw [List.length_map]; omega) (Nat.le_of_ble_eq_true hj) h1 hc hq

variable {sl : List (Nat × Option AV)} {tk : List (Nat × Option Tok)} {n d : Nat} {ops : Array Oper} {l : List Oper} {fp : List Nat} {K : List Stp → St → Prop}
theorem RunK.k0 {v : AV} {ts : List (Nat × Option Tok)} (hd : o.dst = none) (hg : Met ops (mkSt sl tk n) o.guard true) (h : OpL P o (mkSt sl tk n) fp ⟨some v, ts, []⟩) (k : RunK P ops l (mkSt sl (ts ++ tk) n) (fun ms => K ((fp, .out ⟨some v, ts, []⟩) :: ms))) :
    RunK P ops (o :: l) (mkSt sl tk n) K := let ⟨_, _, k, hK⟩ := k; ⟨_, _, .c0 (m := 0) hd hg h k, hK⟩
end
end Go.Pm
