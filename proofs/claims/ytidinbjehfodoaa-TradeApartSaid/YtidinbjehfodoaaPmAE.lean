/- The pure machine, part AE: rows that lie away from given blocks; and a small machine of raw values, for writes into such rows. Conditions: none (definitions and lemmas alone). -/
import Derived.Test.YtidinbjehfodoaaPmS
import Derived.Test.YtidinbjehfodoaaPmAC
namespace Go.Pm
open Go
set_option linter.unusedVariables false
set_option linter.unusedSimpArgs false

/-- A row that is the call's own, in a variable beside a witness of A: a row away from A. -/
theorem Gives.away {σ : St} {k q e sz : Nat} {es : List (List T)} {cs cs' : List AV} {A : Nat → Prop} {v : Value} (hk : σ.tk k = some (.rows e sz es false)) (hq : σ.tk q = some (.box cs))
    (h0 : cs[0]? = some (.imm (.wit A v))) (hl : cs'.length = cs.length)
    (hc : ∀ i, i < cs.length → cs'.getD i default = cs.getD i default ∨ (cs.getD i default = .own k ∧ cs'.getD i default = .imm (.away A sz es))) :
    Gives σ ((σ.tok k (.rows e sz es true)).tok q (.box cs')) := by
  intro cx g a w h
  have hqk : q ≠ k := fun e => by subst e; rw [hk] at hq; cases hq
  have hbox := h.tk q _ hq
  have hrow := h.tk k _ hk
  cases hbox with
  | box _ bq Cq eq q1 q2 q3 q4 =>
    cases hrow with
    | rows _ _ _ _ xs r1 r2 r3 r4 r5 =>
      obtain ⟨hp, h0'⟩ := List.getElem?_eq_some_iff.1 h0
      have hA : ∀ b, A b → g.S b := by
        have := q4 0 hp
        rw [List.getD_eq_getElem?_getD, h0] at this
        cases this with
        | imm _ _ ht => cases ht with
          | wit _ _ hw => exact hw
      have s1 := h.freeze k e sz es false hk
      refine ⟨_, s1.setTok q (.box cs) (.box cs') (by simp only [St.tok]; rw [if_neg hqk]; exact hq) rfl (Fr.refl _ _) ?_⟩
      have hle : g.Le { g with S := fun b => g.S b ∨ hblk (g.hv k) = some b } := ⟨fun _ x => .inl x, fun _ _ => rfl, fun _ x => x⟩
      refine .box cs' bq Cq eq q1 q2 (q3.trans hl.symm) (fun i hi => ?_)
      rw [hl] at hi
      rcases hc i hi with e1 | ⟨e1, e2⟩
      · rw [e1]; exact (q4 i hi).mono hle (fun _ _ => rfl)
      · have hr := q4 i hi
        rw [e1] at hr
        rw [e2]
        generalize Cq.getD i undef = u at hr
        cases hr with
        | own _ hu =>
          refine .imm _ _ ?_
          rcases r1.2 with ⟨n1, n2⟩ | ⟨b, cap, cur, n1, _, n2, n3, n4, n5, n6⟩
          · have : es = [] := List.length_eq_zero_iff.1 n2
            subst this
            rw [n1]; exact .awaynil A sz 0 none
          · have hb : hblk (g.hv k) = some b := by rw [n1]; rfl
            rw [n1]
            refine .away A sz es b cap (fun i j => xs.getD (i * sz + j) undef) cur e (by omega) r2 (.inr rfl) (fun ha => (h.live k _ b hk rfl hb).1 (hA b ha)) n2 (by rw [n5]; exact Nat.mul_le_mul_right _ n3) n3
              (fun i j hi hj => by
                obtain ⟨_, _, _, _, _, _, hcell⟩ := own_cells r1 n1
                rw [Nat.zero_add]; exact hcell _ (row_index hi hj))
              (fun i j hi hj => (r3 i j hi hj).mono (fun _ x => .inl x) (fun _ _ => rfl))

abbrev Sl := Nat → Option Value
def Sl.set (s : Sl) (d : Nat) (v : Value) : Sl := fun i => bif Nat.beq i d then some v else s i

structure Rs (n : Nat) (s : Sl) (a : Act) : Prop where
  size : a.tmps.size = n
  defers : a.defers = []
  sl : ∀ i v, s i = some v → a.tmps.getD i undef = v

def rv (s : Sl) : Operand → Option Value
  | .tmp t => s t
  | .const v => some v
  | _ => none

section
variable {P : Program} {ops : Array Oper} {l : List Oper} {n : Nat} {s : Sl} {w : World} {a : Act} {o : Oper}

theorem rv_eval (h : Rs n s a) {x : Operand} {v : Value} (hx : rv s x = some v) : a.eval x = v := by
  cases x with
  | tmp t => exact h.sl t v hx
  | const u => cases hx; rfl
  | func f => cases hx
  | global q => cases hx

theorem Rs.put (h : Rs n s a) (d : Nat) (hd : d < n) (v : Value) : Rs n (s.set d v) (a.put (some d) v) := by
  have hs : d < a.tmps.size := by rw [h.size]; exact hd
  refine ⟨by simp [Act.put, h.size], h.defers, fun i u hi => ?_⟩
  simp only [Act.put, getD_setIfInBounds _ _ _ _ hs]
  simp only [Sl.set] at hi
  by_cases e : i = d
  · subst e
    simp only [Nat.beq_refl, cond_true] at hi
    rw [if_pos rfl]; cases hi; rfl
  · have : Nat.beq i d = false := by rw [Bool.eq_false_iff]; exact fun q => e (Nat.eq_of_beq_eq_true q)
    rw [this] at hi
    rw [if_neg e]; exact h.sl i u hi

def Sub (s s' : Sl) : Prop := ∀ t u, s t = some u → s' t = some u
theorem Sub.refl (s : Sl) : Sub s s := fun _ _ h => h
theorem Sub.trans {a b c : Sl} (h : Sub a b) (k : Sub b c) : Sub a c := fun t u x => k t u (h t u x)
theorem Sub.put {s s' : Sl} {d : Nat} {v : Value} (hd : s d = none) (h : Sub s s') : Sub s (s'.set d v) := fun t u x => by
  simp only [Sl.set]
  by_cases e : t = d
  · subst e; rw [hd] at x; cases x
  · have : Nat.beq t d = false := by rw [Bool.eq_false_iff]; exact fun q => e (Nat.eq_of_beq_eq_true q)
    rw [this]; exact h t u x
theorem Sub.set {s s' : Sl} {d : Nat} {v : Value} (h : Sub s s') : Sub (s.set d v) (s'.set d v) := fun t u x => by
  simp only [Sl.set] at x ⊢
  cases e : Nat.beq t d with
  | true => rw [e] at x; exact x
  | false => rw [e] at x; exact h t u x
theorem Rs.sub {s' : Sl} (h : Rs n s' a) (k : Sub s s') : Rs n s a := ⟨h.size, h.defers, fun i v hi => h.sl i v (k i v hi)⟩

def VL (P : Program) (ops : Array Oper) (n : Nat) (l : List Oper) (s : Sl) (w : World) (K : Sl → World → Prop) : Prop :=
  ∀ a, Rs n s a → (∀ o, o ∈ l → ∀ d, o.dst = some d → d < n) → ∀ (Q : Exit → Act → World → Prop), (∀ s' w' a', K s' w' → Rs n s' a' → Q .normal a' w') → wpList P ops Q l a w

def Ex (P : Program) (n : Nat) (o : Oper) (s : Sl) (w : World) (v : Value) : Prop := ∀ a, Rs n s a → (execOp a.eval o).run P w = .ok (.value v) w

variable {K : Sl → World → Prop}
theorem VL.nil (h : K s w) : VL P ops n [] s w K := fun a hs _ Q hQ => wpList_nil (hQ s w a h hs)

theorem VL.val {d : Nat} {v : Value} (hg : o.guard = none) (hd : o.dst = some d) (he : Ex P n o s w v) (k : VL P ops n l (s.set d v) w K) : VL P ops n (o :: l) s w K := by
  intro a hs hdd Q hQ
  refine wpList_plain hg fun K' hK' => ?_
  show o.upon P a K' Q ((execOp a.eval o).run P w)
  rw [he a hs]
  show K' (a.put o.dst v) w
  rw [hd]
  exact hK' _ _ (k _ (hs.put d (hdd o (by simp) d hd) v) (fun o' ho' => hdd o' (by simp [ho'])) Q hQ)

theorem VL.store {t : TypeId} {x y : Operand} {b q : Nat} {C : Array Value} {e : TypeId} {v : Value} (hg : o.guard = none) (hd : o.dst = none) (ho : o.op = .store t x y) (hx : rv s x = some (.pointer (some ⟨b, q, none⟩))) (hy : rv s y = some v)
    (hh : w.heap[b]? = some (.cells C e (0, 0))) (hq : q < C.size) (hi : (P.info? t).map (·.size) = some 1) (h1 : v.oneCell' = true) (k : VL P ops n l s (w.setCells b q [v]) K) : VL P ops n (o :: l) s w K := by
  intro a hs hdd Q hQ
  refine wpList_plain hg fun K' hK' => ?_
  show o.upon P a K' Q ((execOp a.eval o).run P w)
  have hc : w.cell? ⟨b, q, none⟩ = some C[q] := by rw [cell_of_row w b q C e (0, 0) hh, Array.getElem?_eq_getElem hq]
  have hrun : (execOp a.eval o).run P w = .ok .skip (w.setCells b q [v]) := by
    simp [execOp, ho, rv_eval hs hx, rv_eval hs hy, run_storeAt_one w b q t v _ hc (frozen_of_row w b q C e hh) hi h1]
  rw [hrun]
  show K' (a.put o.dst undef) _
  rw [hd]
  exact hK' _ _ (k _ hs (fun o' ho' => hdd o' (by simp [ho'])) Q hQ)

theorem VL.call {d : Nat} {x : Operand} {ats : Array TypeId} {f : Nat} {v : Value} {Φ : Value → World → Prop} (hg : o.guard = none) (hd : o.dst = some d) (ho : o.op = .call { callee := .value (.func f), args := #[x], argTypes := ats }) (hok : callOk P f = true)
    (hx : rv s x = some v) (hc : Calls P f #[v] w fun e w' => ∃ u, e = .returned u ∧ Φ u w') (k : ∀ u w', Φ u w' → VL P ops n l (s.set d u) w' K) : VL P ops n (o :: l) s w K := by
  intro a hs hdd Q hQ
  refine wpList_plain hg fun K' hK' => ?_
  show o.upon P a K' Q ((execOp a.eval o).run P w)
  have hf : a.eval (.func f) = .func (.func f) #[] #[] := rfl
  have hrun : (execOp a.eval o).run P w = .ok (.enter f #[v]) w := by
    simp [execOp, ho, resolve, hf, Deferred.ofValue, invoke, run_callFunc hok, rv_eval hs hx]
  rw [hrun, Oper.upon_enter]
  refine hc.mono ?_
  rintro e w' ⟨u, rfl, hu⟩
  show K' (a.put o.dst u) w'
  rw [hd]
  exact hK' _ _ (k u w' hu _ (hs.put d (hdd o (by simp) d hd) u) (fun o' ho' => hdd o' (by simp [ho'])) Q hQ)

theorem Ex.move {x : Operand} {v : Value} (ho : o.op = .move x ∨ o.op = .assign x) (hx : rv s x = some v) : Ex P n o s w v := fun a hs => by
  rcases ho with ho | ho <;> simp [execOp, ho, rv_eval hs hx]
theorem Ex.idx {t e : TypeId} {x y : Operand} {ie : TypeInfo} {b q m c : Nat} {k : IntKind} {i : Int} (ho : o.op = .indexAddr t x y) (ht : P.underlying t = some (.slice e)) (hi : P.info? e = some ie)
    (hx : rv s x = some (.slice (some ⟨b, q, none⟩) m c)) (hy : rv s y = some (.int k i)) (h0 : 0 ≤ i) (h1 : i.toNat < m) : Ex P n o s w (.pointer (some ⟨b, q + i.toNat * ie.size, none⟩)) := fun a hs => by
  simp [execOp, ho, rv_eval hs hx, rv_eval hs hy, run_indexAt_in w t e b q m c k i ie ht hi h0 h1]
theorem Ex.fld {t : TypeId} {x : Operand} {f : Nat} {fs : Array Field} {fd : Field} {i : TypeInfo} {b q : Nat} (ho : o.op = .fieldAddr t x f) (hs' : P.underlying t = some (.struct fs)) (hf : fs[f]? = some fd) (hi : P.info? fd.type = some i) (hz : i.size ≠ 0)
    (hx : rv s x = some (.pointer (some ⟨b, q, none⟩))) : Ex P n o s w (.pointer (some ⟨b, q + fd.offset, none⟩)) := fun a hs => by
  simp [execOp, ho, rv_eval hs hx, run_fieldAt_in w t f b q fs fd i hs' hf hi hz]
theorem Ex.ld {t : TypeId} {x : Operand} {d : TypeDesc} {b q : Nat} {v : Value} (ho : o.op = .load t x) (hu : P.underlying t = some d) (hd : d.isRow = false) (hx : rv s x = some (.pointer (some ⟨b, q, none⟩))) (hc : w.cell? ⟨b, q, none⟩ = some v) :
    Ex P n o s w v := fun a hs => by
  simp [execOp, ho, rv_eval hs hx, run_loadAt_one w b q t d v hc hu hd]
theorem Ex.len {t e : TypeId} {x : Operand} {A : Option Addr} {m c : Nat} (ho : o.op = .call { callee := .builtin .len, args := #[x], argTypes := #[t] }) (ht : P.underlying t = some (.slice e)) (hx : rv s x = some (.slice A m c)) :
    Ex P n o s w (.int .i64 m) := fun a hs => by
  simp [execOp, ho, rv_eval hs hx, resolve, invoke, builtin, Builtin.len_, run_underlying ht, goInt]
theorem Ex.lss {t t' : TypeId} {x y : Operand} {k : IntKind} {i j : Int} (ho : o.op = .binOp .lss t x y t') (hx : rv s x = some (.int k i)) (hy : rv s y = some (.int k j)) : Ex P n o s w (.bool (decide (i < j))) := fun a hs => by
  simp [execOp, ho, rv_eval hs hx, rv_eval hs hy, eqGuard_lss, binOp_lss, Op.intArith]
theorem Ex.add {t t' : TypeId} {x y : Operand} {k : IntKind} {i j : Int} (ho : o.op = .binOp .add t x y t') (hx : rv s x = some (.int k i)) (hy : rv s y = some (.int k j)) : Ex P n o s w (.int k (k.wrap (i + j))) := fun a hs => by
  simp [execOp, ho, rv_eval hs hx, rv_eval hs hy, eqGuard_add, binOp_add, Op.intArith]

theorem Ex.idxS {t e sz bytes : Nat} {zs : List Value} {x y : Operand} {b q m c : Nat} {k : IntKind} {i : Int} (S : SlT P t e sz bytes zs) (ho : o.op = .indexAddr t x y)
    (hx : rv s x = some (.slice (some ⟨b, q, none⟩) m c)) (hy : rv s y = some (.int k i)) (h0 : 0 ≤ i) (h1 : i.toNat < m) : Ex P n o s w (.pointer (some ⟨b, q + i.toNat * sz, none⟩)) := by
  obtain ⟨ie, z, h2, _, _, _, rfl, _⟩ := S.parts
  exact .idx ho S.ht h2 hx hy h0 h1
theorem Ex.fldB {t f off : Nat} {x : Operand} {b q : Nat} (h : fieldB P t f off = true) (ho : o.op = .fieldAddr t x f) (hx : rv s x = some (.pointer (some ⟨b, q, none⟩))) : Ex P n o s w (.pointer (some ⟨b, q + off, none⟩)) := by
  obtain ⟨fs, fd, i, h1, h2, h3, h4, rfl⟩ := fieldB_some h
  exact .fld ho h1 h2 h3 h4 hx
theorem Ex.ldT {t m : Nat} {x : Operand} {b q : Nat} {v : Value} (h : tyV P t = some (false, m)) (ho : o.op = .load t x) (hx : rv s x = some (.pointer (some ⟨b, q, none⟩))) (hc : w.cell? ⟨b, q, none⟩ = some v) : Ex P n o s w v := by
  obtain ⟨d, i, h1, h2, h3, h4⟩ := tyV_some h
  exact .ld ho h1 h3 hx hc
theorem Ex.lenS {t e sz bytes : Nat} {zs : List Value} {x : Operand} {A : Option Addr} {m c : Nat} (S : SlT P t e sz bytes zs) (ho : o.op = .call { callee := .builtin .len, args := #[x], argTypes := #[t] }) (hx : rv s x = some (.slice A m c)) :
    Ex P n o s w (.int .i64 m) := .len ho S.ht hx
theorem VL.storeT {t : TypeId} {x y : Operand} {b q : Nat} {C : Array Value} {e : TypeId} {v : Value} (hg : o.guard = none) (hd : o.dst = none) (h : tyV P t = some (false, 1)) (ho : o.op = .store t x y) (hx : rv s x = some (.pointer (some ⟨b, q, none⟩))) (hy : rv s y = some v)
    (hh : w.heap[b]? = some (.cells C e (0, 0))) (hq : q < C.size) (h1 : v.oneCell' = true) (k : VL P ops n l s (w.setCells b q [v]) K) : VL P ops n (o :: l) s w K := by
  obtain ⟨d, i, e1, e2, e3, e4⟩ := tyV_some h
  exact .store hg hd ho hx hy hh hq (by rw [e2]; exact congrArg some e4) h1 k

def V (P : Program) (n : Nat) (c : Code) (s : Sl) (w : World) (K : Px → Sl → World → Prop) : Prop :=
  ∀ a, Rs n s a → dstOk n c = true → ∀ (Q : Exit → Act → World → Prop), (∀ e s' w' a', K e s' w' → Rs n s' a' → Q e.to a' w') → c.wp P Q a w

variable {c d : Code} {KK : Px → Sl → World → Prop}
theorem V.skip (h : KK .normal s w) : V P n .skip s w KK := fun a hs _ Q hQ => wp_skip (hQ .normal s w a h hs)
theorem V.exit {id : Nat} (h : KK (.exit id) s w) : V P n (.exit id) s w KK := fun a hs _ Q hQ => wp_exit (hQ (.exit id) s w a h hs)
theorem V.region {id : Nat} (h : VL P ops n ops.toList s w (KK .normal)) : V P n (.region id ops false) s w KK := by
  intro a hs hd Q hQ
  refine wp_region ?_
  have := h a hs (mem_dstOk hd) Q (fun s' w' a' hK hs' => hQ .normal s' w' a' hK hs')
  have e := wpOps_eq_wpList (P := P) (ops := ops) (Q := Q) ops.toList 0 (fun j => by simp)
  rw [List.range_eq_range', ← Array.length_toList, e]
  exact this
def thenV (P : Program) (n : Nat) (d : Code) (KK : Px → Sl → World → Prop) : Px → Sl → World → Prop
  | .normal, s, w => V P n d s w KK
  | e, s, w => KK e s w
theorem V.seq (h : V P n c s w (thenV P n d KK)) : V P n (.seq c d) s w KK := by
  intro a hs hd Q hQ
  simp only [dstOk, Bool.and_eq_true] at hd
  refine wp_seq (h a hs hd.1 _ (fun e s' w' a' hK hs' => ?_))
  cases e with
  | normal => exact hK a' hs' hd.2 Q hQ
  | exit id => exact hQ (.exit id) s' w' a' hK hs'
  | ret => exact hQ .ret s' w' a' hK hs'
theorem V.cond {x : Operand} {b : Bool} (hx : rv s x = some (.bool b)) (ht : b = true → V P n c s w KK) (hf : b = false → V P n d s w KK) : V P n (.cond x c d) s w KK := by
  intro a hs hd Q hQ
  simp only [dstOk, Bool.and_eq_true] at hd
  exact wp_cond_split (rv_eval hs hx) (fun e => ht e a hs hd.1 Q hQ) (fun e => hf e a hs hd.2 Q hQ)
def blockV (id : Nat) (KK : Px → Sl → World → Prop) : Px → Sl → World → Prop
  | .exit id', s, w => if id' = id then KK .normal s w else KK (.exit id') s w
  | e, s, w => KK e s w
theorem V.block {id : Nat} (h : V P n c s w (blockV id KK)) : V P n (.block id c) s w KK := by
  intro a hs hd Q hQ
  refine wp_block (h a hs hd _ (fun e s' w' a' hK hs' => ?_))
  cases e with
  | normal => exact hQ .normal s' w' a' hK hs'
  | ret => exact hQ .ret s' w' a' hK hs'
  | exit id' =>
    simp only [blockV] at hK
    simp only [Px.to, Exit.inBlock]
    by_cases e : id' = id
    · rw [if_pos e] at hK ⊢; exact hQ .normal s' w' a' hK hs'
    · rw [if_neg e] at hK ⊢; exact hQ (.exit id') s' w' a' hK hs'
def againV (I : Nat → Sl → World → Prop) (m : Nat) (KK : Px → Sl → World → Prop) : Px → Sl → World → Prop
  | .normal, s, w => ∃ m' s', m' < m ∧ Sub s' s ∧ I m' s' w
  | e, s, w => KK e s w
theorem V.loop (I : Nat → Sl → World → Prop) (m : Nat) {s0 : Sl} (hs0 : Sub s0 s) (h0 : I m s0 w) (round : ∀ m s w, I m s w → V P n c s w (againV I m KK)) : V P n (.loop c) s w KK := by
  intro a hs hd Q hQ
  refine wp_loop_ghost (fun m a w => ∃ s, I m s w ∧ Rs n s a) m ⟨s0, h0, hs.sub hs0⟩ ?_
  rintro m a w ⟨s1, hI, hs1⟩
  refine round m s1 w hI a hs1 hd _ (fun e s' w' a' hK hs' => ?_)
  cases e with
  | normal =>
    obtain ⟨m', s'', hlt, hG, hI'⟩ := hK
    exact ⟨m', hlt, s'', hI', hs'.sub hG⟩
  | exit id => exact hQ (.exit id) s' w' a' hK hs'
  | ret => exact hQ .ret s' w' a' hK hs'
theorem V.weaken {s' : Sl} (h : Sub s' s) (k : V P n c s' w KK) : V P n c s w KK := fun a hs hd Q hQ => k a (hs.sub h) hd Q hQ

end

def inL (wr : List Nat) (i : Nat) : Bool := wr.any (Nat.beq i)
def base (wr : List Nat) (a : Act) : Sl := fun i => bif inL wr i then none else some (a.tmps.getD i undef)
def St.clrs (σ : St) (wr : List Nat) : St := { σ with sl := fun i => bif inL wr i then none else σ.sl i }

theorem W.raw {P : Program} {c1 c2 d : Code} {σ : St} {KK : Px → St → Prop} (wr : List Nat)
    (h : ∀ (cx : Cx) (g : Gh) (a : Act) (w : World), SR cx g σ a w → V P cx.n c1 (base wr a) w (fun e s1 w1 => e = .normal ∧ V P cx.n c2 s1 w1 (fun e s2 w2 => e = .normal ∧ Fr (fun _ => False) w w2 ∧ Sub (base wr a) s2)))
    (k : W P d (σ.clrs wr) KK) : W P (.seq c1 (.seq c2 d)) σ KK := by
  intro cx g a w hs hd Q hQ
  simp only [dstOk, Bool.and_eq_true] at hd
  have hb : Rs cx.n (base wr a) a := ⟨hs.size, hs.defers, fun i v hi => by
    simp only [base] at hi
    cases e : inL wr i with
    | true => rw [e] at hi; cases hi
    | false => rw [e] at hi; exact Option.some.inj hi⟩
  refine wp_seq (h cx g a w hs a hb hd.1 _ ?_)
  rintro e s1 w1 a1 ⟨rfl, hV⟩ hs1
  refine wp_seq (hV a1 hs1 hd.2.1 _ ?_)
  rintro e s2 w2 a2 ⟨rfl, hF, hS⟩ hs2
  have h2 : SR cx g σ a w2 := hs.world hF
  refine k cx g a2 w2 ?_ hd.2.2 Q hQ
  exact { h2 with
    size := hs2.size
    defers := hs2.defers
    sl := fun i x hx => by
      simp only [St.clrs] at hx
      cases e : inL wr i with
      | true => rw [e] at hx; cases hx
      | false =>
        rw [e] at hx
        have := hs2.sl i (a.tmps.getD i undef) (hS i _ (by simp only [base]; rw [e]; rfl))
        rw [this]; exact h2.sl i x hx }

end Go.Pm
