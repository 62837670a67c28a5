/- The pure machine, part P: closures, parts of structs, stores into rows; calls, forks, loops and ends over states as lists. Conditions: none (definitions and lemmas alone). -/
import Derived.Test.YtidinbjehfodoaaPmO
namespace Go.Pm
open Go
set_option linter.unusedVariables false
set_option linter.unusedSimpArgs false
set_option linter.unusedSectionVars false

section
variable {P : Program} {σ : St} {o : Oper} {cx : Cx} {g : Gh} {a : Act} {w : World}

theorem OpL.mkfn {f : Nat} {caps : Array Operand} {avs : List AV} (ho : o.op = .makeFunc (.func f) #[] caps) (hc : rds σ caps.toList = some avs) : OpL P o σ [] ⟨some (.fn f avs), [], []⟩ := by
  intro σ' hs _ _
  have hc' := (rds_agree (σ := σ) (σ' := σ') caps.toList (fun x hx => hs x (by simp [ho, Op.operands]; simpa using hx))).trans hc
  refine .of_value fun cx g a w h => ?_
  obtain ⟨e1, e2⟩ := rds_rep h caps.toList avs hc'
  refine ⟨.func (.func f) #[] (caps.map a.eval), by simp [execOp, ho, Instr.makeFunc], .fn f avs _ (by simp [e1]) (fun i hi => ?_)⟩
  have := e2 i hi
  have e3 : (caps.map a.eval).getD i undef = (caps.toList.map a.eval).getD i undef := by
    simp [Array.getD_eq_getD_getElem?, List.getD_eq_getElem?_getD]
  rw [e3]; exact this

theorem setAt {α : Type} (l : List α) (i : Nat) (x d : α) (q : Nat) : (l.set i x).getD q d = if q = i ∧ i < l.length then x else l.getD q d := by
  simp only [List.getD_eq_getElem?_getD, List.getElem?_set]
  by_cases h : i = q
  · subst h
    by_cases h2 : i < l.length
    · simp [h2]
    · simp [h2]
  · rw [if_neg h, if_neg (fun e => h e.1.symm)]

theorem blk_lt {i i' sz q q' : Nat} (hq : q < sz) (h : i < i') : i * sz + q < i' * sz + q' := by
  have : (i + 1) * sz ≤ i' * sz := Nat.mul_le_mul_right sz h
  rw [Nat.add_mul] at this; omega

theorem OpL.storeE {t : TypeId} {x y : Operand} {k sz i j e : Nat} {es : List (List T)} {z : AV} {ts : List T} (ho : o.op = .store t x y) (hdst : o.dst = none) (hn : (P.info? t).map (·.size) = some z.cells.length) (hx : rd σ x = some (.eptr k sz i j)) (hy : rd σ y = some z)
    (hk : σ.tk k = some (.rows e sz es false)) (hi : i < es.length) (hj : j + z.cells.length ≤ sz) (hts : cellsT z.cells = some ts) (h1 : ∀ c ∈ z.cells, c.one = true) :
    OpL P o σ [k] ⟨none, [(k, some (.rows e sz (es.set i (splice (es.getD i []) j ts)) false))], []⟩ := by
  intro σ' hop hfp _
  have hx' := (hop x (by simp [ho, Op.operands])).trans hx
  have hy' := (hop y (by simp [ho, Op.operands])).trans hy
  have hk' := (hfp k (by simp)).trans hk
  intro cx g a w hd h next Q hK
  have hrx := rd_rep h x _ hx'
  have hry := rd_rep h y _ hy'
  generalize hex : a.eval x = vx at hrx
  generalize hey : a.eval y = vy at hry
  obtain ⟨tl, tg⟩ := cellsT_get _ _ hts
  obtain ⟨hsz, hcells, hone⟩ := cells_rep hry h1 h (fun c hc q e => by
    subst e
    obtain ⟨j', hj', e'⟩ := List.getElem_of_mem hc
    have := tg j' hj'
    rw [List.getD_eq_getElem?_getD, List.getElem?_eq_getElem hj', e'] at this
    cases this)
  cases hrx with
  | eptr _ _ _ _ b n0 c0 hu hv =>
    cases h.tk k _ hk' with
    | rows _ _ _ _ xs t1 t2 t3 t4 t5 =>
      obtain ⟨hxl, hb⟩ := t1
      rcases hb with ⟨e1, e2⟩ | ⟨g0, cap, cur, e1, e2, e3, e4, e5, e6, e7⟩
      · omega
      rw [hv] at e1
      cases e1
      have hszi : i * sz + sz ≤ es.length * sz := by
        have := Nat.mul_le_mul_right sz (show i + 1 ≤ es.length by omega)
        rw [Nat.add_mul] at this; omega
      have hcap : es.length * sz ≤ c0 * sz := Nat.mul_le_mul_right sz e4
      have hfit : i * sz + j + vy.cells.size ≤ cur.size := by rw [e6, hsz]; omega
      have hrun := run_storeAt_cells (P := P) w b (i * sz + j) t vy cur e e3 hfit (by rw [hn, hsz]) hone
      obtain ⟨hf, C', hh', hs', hC'⟩ := heap_setCells b e vy.cells.toList (i * sz + j) w cur e3 (by simpa using hfit)
      show o.upon P a next Q ((execOp a.eval o).run P w)
      have hex' : (execOp a.eval o).run P w = .ok .skip (w.setCells b (i * sz + j) vy.cells.toList) := by simp [execOp, ho, hex, hey, hrun]
      rw [hex']
      show next (a.put o.dst undef) _
      rw [hdst]
      refine hK g _ _ ?_
      rw [hdst]
      have hkb : ∀ q, hblk (g.hv k) = some q ↔ q = b := fun q => by rw [hv]; simp [hblk, eq_comm]
      have hst : ∀ q, g.S q → (w.setCells b (i * sz + j) vy.cells.toList).heap[q]? = w.heap[q]? := fun q hq =>
        hf.block q (h.stab q hq) (fun e => by subst e; exact (h.live k _ q hk' rfl ((hkb q).2 rfl)).1 hq)
      have hcur : ∀ q, q < es.length * sz → xs.getD q undef = cur.getD q undef := by
        intro q hq
        rw [← e7, List.getD_eq_getElem?_getD, List.getElem?_take, if_pos hq, Array.getElem?_toList, Array.getD_eq_getD_getElem?]
      have hm : vy.cells.size = ts.length := by rw [hsz, tl]
      have hset := h.setTok k (.rows e sz es false) (.rows e sz (es.set i (splice (es.getD i []) j ts)) false) hk' rfl (hf.mono (fun q _ e => (hkb q).2 e)) (by
        refine .rows e sz _ false (splice xs (i * sz + j) vy.cells.toList) ?_ ?_ ?_ ?_ (fun hf => by cases hf)
        · rw [hv, List.length_set]
          refine ⟨by rw [splice_length _ _ _ (by rw [hxl, Array.length_toList, hsz]; omega)]; exact hxl, .inr ⟨b, c0, C', rfl, e2, hh', e4, e5, by rw [hs', e6], ?_⟩⟩
          apply List.ext_getElem?
          intro q
          rw [List.getElem?_take]
          by_cases hq : q < es.length * sz
          · rw [if_pos hq]
            have hq1 : q < C'.size := by rw [hs', e6]; omega
            have hq2 : q < (splice xs (i * sz + j) vy.cells.toList).length := by rw [splice_length _ _ _ (by rw [hxl, Array.length_toList, hsz]; omega), hxl]; exact hq
            have g1 := hC' q
            have g2 := splice_getD xs (i * sz + j) vy.cells.toList undef (by rw [hxl, Array.length_toList, hsz]; omega) q
            rw [hcur q hq] at g2
            rw [← g2] at g1
            rw [Array.getD_eq_getD_getElem?, Array.getElem?_eq_getElem hq1, List.getD_eq_getElem?_getD, List.getElem?_eq_getElem hq2] at g1
            rw [Array.getElem?_toList, Array.getElem?_eq_getElem hq1, List.getElem?_eq_getElem hq2]
            exact congrArg some g1
          · rw [if_neg hq, List.getElem?_eq_none]
            rw [splice_length _ _ _ (by rw [hxl, Array.length_toList, hsz]; omega), hxl]; omega
        · intro z' hz'
          rcases List.mem_or_eq_of_mem_set hz' with h' | h'
          · exact t2 _ h'
          · subst h'
            have hl : (es.getD i []).length = sz := t2 _ (getD_mem hi)
            rw [splice_length _ _ _ (by rw [tl, hl]; exact hj), hl]
        · intro i' q' hi' hq'
          rw [List.length_set] at hi'
          have hl : (es.getD i []).length = sz := t2 _ (getD_mem hi)
          rw [setAt, splice_getD xs (i * sz + j) vy.cells.toList undef (by rw [hxl, Array.length_toList, hsz]; omega)]
          simp only [Array.length_toList, hsz]
          by_cases e0 : i' = i
          · subst e0
            rw [if_pos ⟨rfl, hi⟩, splice_getD _ _ _ _ (by rw [tl, hl]; exact hj)]
            by_cases e9 : j ≤ q' ∧ q' < j + ts.length
            · rw [if_pos e9, if_pos (by omega), show i' * sz + q' - (i' * sz + j) = q' - j by omega]
              have hc := hcells (q' - j) (by omega)
              rw [tg (q' - j) (by omega)] at hc
              have e10 : vy.cells.toList.getD (q' - j) undef = vy.cells.getD (q' - j) undef := by simp [List.getD_eq_getElem?_getD, Array.getD_eq_getD_getElem?]
              rw [e10]
              cases hc with
              | imm _ _ hc => exact hc.mono (fun _ x => x) hst
            · rw [if_neg e9, if_neg (by omega)]
              exact (t3 i' q' hi hq').mono (fun _ x => x) hst
          · rw [if_neg (fun x => e0 x.1), if_neg (by
              intro ⟨x1, x2⟩
              rcases Nat.lt_or_gt_of_ne e0 with h' | h'
              · have := blk_lt (q' := j) hq' h'; omega
              · have := blk_lt (q := j + z.cells.length - 1) (q' := q') (sz := sz) (i := i) (i' := i') (by omega) h'
                omega)]
            exact (t3 i' q' hi' hq').mono (fun _ x => x) hst
        · intro u hu
          unfold splice at hu
          rcases List.mem_append.1 hu with hu | hu
          · rcases List.mem_append.1 hu with hu | hu
            · exact t4 u (List.mem_of_mem_take hu)
            · exact .inl (hone u hu)
          · exact t4 u (List.mem_of_mem_drop hu))
      exact hset.eqv _ (fun _ => rfl) (fun q => by
        simp only [St.out, St.tok, lkp]
        by_cases e : q = k <;> simp [e]) (fun q hq => hq.1)

theorem map_set {α : Type} (enc : α → List T) (l : List α) (i : Nat) (x : α) : (l.set i x).map enc = (l.map enc).set i (enc x) := by rw [List.map_set]

theorem O.stE {α : Type} [Inhabited α] {enc : α → List T} {t m k sz j e : Nat} {b : Bool} {i : Int} {x y : Operand} {l : List α} {cs : List AV} {ts : List T} {z : AV} {x' : α} (ht : tyV P t = some (b, m)) (h : 0 ≤ i ∧ i < (l.length : Int)) (ho : o.op = .store t x y) (hd : o.dst = none)
    (hx : rd σ x = some (.eptr k sz i.toNat j)) (hy : rd σ y = some z) (hc : z.cells = cs) (hm : cs.length = m) (hk : σ.tk k = some (.rows e sz (l.map enc) false)) (hj : Nat.ble (j + m) sz = true) (hts : cellsT cs = some ts) (h1 : ones cs = true)
    (he : splice (enc (nth l i)) j ts = enc x') : OpL P o σ [k] ⟨none, [(k, some (.rows e sz ((l.set i.toNat x').map enc) false))], []⟩ := by
  subst hc
  obtain ⟨d, it, e1, e2, e3, e4⟩ := tyV_some ht
  rw [map_set, ← he, ← map_nthI enc h]
  exact .storeE ho hd (by rw [e2, hm]; exact congrArg some e4) hx hy hk (by rw [List.length_map]; omega) (by rw [hm]; exact Nat.le_of_ble_eq_true hj) hts (ones_mem h1)

def nodupB : List Nat → Bool
  | [] => true
  | k :: l => !l.any (Nat.beq k) && nodupB l
def disjB (a b : List Nat) : Bool := a.all fun k => !b.any (Nat.beq k)

theorem any_beq {k : Nat} {l : List Nat} : l.any (Nat.beq k) = true ↔ k ∈ l := by
  rw [List.any_eq_true]
  constructor
  · rintro ⟨x, hx, e⟩; rw [Nat.eq_of_beq_eq_true e]; exact hx
  · intro h; exact ⟨k, h, Nat.beq_refl k⟩
theorem nodupB_some : ∀ {l : List Nat}, nodupB l = true → l.Nodup
  | [], _ => List.nodup_nil
  | k :: l, h => by
    simp only [nodupB, Bool.and_eq_true, Bool.not_eq_true'] at h
    refine List.nodup_cons.2 ⟨fun hm => ?_, nodupB_some h.2⟩
    rw [any_beq.2 hm] at h; cases h.1
theorem disjB_some {a b : List Nat} (h : disjB a b = true) : ∀ k, k ∈ a → k ∉ b := by
  intro k hk hb
  have := List.all_eq_true.1 h k hk
  rw [any_beq.2 hb] at this; cases this

theorem cC {av : AV} {l : List AV} {x : X} {xs : List X} {C C' Z Z' : List Nat} (h1 : Cf σ av x C Z) (h2 : Cfs σ l xs C' Z') : Cfs σ (av :: l) (x :: xs) (C ++ C') (Z ++ Z') := .cons _ _ _ _ _ _ _ _ h1 h2
theorem cS {av : AV} {l : List AV} {x : X} {ss : List (Option X)} {C C' Z Z' : List Nat} (h1 : Cf σ av x C Z) (h2 : Cfo σ l ss C' Z') : Cfo σ (av :: l) (some x :: ss) (C ++ C') (Z ++ Z') := .some _ _ _ _ _ _ _ _ h1 h2
theorem cN {av : AV} {l : List AV} {ss : List (Option X)} {C Z : List Nat} (h2 : Cfo σ l ss C Z) : Cfo σ (av :: l) (none :: ss) C Z := .none _ _ _ _ _ h2

variable {sl : List (Nat × Option AV)} {tk : List (Nat × Option Tok)} {n d m f : Nat} {ops : Array Oper} {l : List Oper} {σ' : St} {ms : List Stp} {fo : Operand} {args : Array Operand} {ats : Array TypeId} {cap avs : List AV} {xs : List X} {r : X} {ss : List (Option X)} {C Z : List Nat}
  {av : AV} {ts : List (Nat × Option Tok)}

theorem Run.call (hd : o.dst = some d) (hg : Met ops (mkSt sl tk n) o.guard true) (hsp : Spec P f xs r ss) (ho : o.op = .call { callee := .value fo, args := args, argTypes := ats }) (hok : callOk P f = true) (hf : rd (mkSt sl tk n) fo = some (.fn f cap)) (ha : rds (mkSt sl tk n) args.toList = some avs)
    (hc : Cfs (mkSt sl tk n) (avs ++ cap) xs C Z) (hC : nodupB C = true) (hZ : disjB C Z = true) (hav : (imp r n).1 = av)
    (hts : (callOut (mkSt sl tk n) (imp r n).1 (imp r n).2.1 (backo (avs ++ cap) xs ss (imp r n).2.2).1 C Z n (backo (avs ++ cap) xs ss (imp r n).2.2).2).tk = ts) (hm : (backo (avs ++ cap) xs ss (imp r n).2.2).2 = n + m)
    (k : Run P ops l (mkSt ((d, some av) :: sl) (ts ++ tk) (n + m)) ms σ') :
    Run P ops (o :: l) (mkSt sl tk n) ((C ++ Z, .out ⟨some av, ts, List.range' n m⟩) :: ms) σ' := by
  refine .c hd hg ?_ k
  have := OpL.call (P := P) (o := o) (σ := mkSt sl tk n) n ho hf hok ha hsp hc (nodupB_some hC) (disjB_some hZ)
  have e : callOut (mkSt sl tk n) (imp r n).1 (imp r n).2.1 (backo (avs ++ cap) xs ss (imp r n).2.2).1 C Z n (backo (avs ++ cap) xs ss (imp r n).2.2).2 = ⟨some av, ts, List.range' n m⟩ := by
    rw [← hts, ← hav]
    simp only [callOut, hm, Nat.add_sub_cancel_left]
  rw [e] at this
  exact this

/-- A slot's value, told otherwise. -/
theorem Run.know {x y : AV} (i : Nat) (hs : lks sl i = some x) (e : x = y) (k : Run P ops l (mkSt ((i, some y) :: sl) tk n) ms σ') : Run P ops l (mkSt sl tk n) ms σ' := by
  have : mkSt ((i, some y) :: sl) tk n = mkSt sl tk n := St.ext' (fun j => by
    simp only [mkSt, lks_cons]
    split
    · rename_i e'; rw [e', hs, e]
    · rfl) (fun _ => rfl) (fun _ => Iff.rfl)
  rw [← this]; exact k
end

section
variable {P : Program} {σ : St} {fn : Func} {xs : List X} {r : X} {ss : List (Option X)} {ys : List AV} {C1 Z1 C2 Z2 : List Nat} {e : Px}
theorem leaves (he : e = .normal ∨ e = .ret) (h1 : resAs P σ fn.results.toList = some ys) (h2 : Cf σ (wrapRes ys) r C1 Z1) (h3 : Cfo σ (imps xs 0).1 ss C2 Z2) (h4 : nodupB (C1 ++ C2) = true) (h5 : disjB (C1 ++ C2) (Z1 ++ Z2) = true) : Leaves P fn xs r ss e σ :=
  ⟨he, ys, C1, Z1, C2, Z2, h1, h2, h3, nodupB_some h4, disjB_some h5⟩
end

section
variable {P : Program} {c d : Code} {σ τ : St} {KK : Px → St → Prop}

theorem W.fork (τ : St) (k : KK .normal τ) (h : W P c σ (To .normal τ)) : W P c σ KK := by
  intro cx g a w hs hd Q hQ
  refine h cx g a w hs hd Q ?_
  rintro e σ' g' a' w' ⟨hg⟩ hs'
  obtain ⟨g'', hs''⟩ := hg cx g' a' w' hs'
  exact hQ .normal τ g'' a' w' k hs''

/-- Either the function ends there, or it goes on from τ. -/
inductive Fk {R V : Type} (KK : Px → St → Prop) (τ : V → St) : R ⊕ V → Px → St → Prop where
  | r {r : R} {σ : St} : KK .ret σ → Fk KK τ (.inl r) .ret σ
  | n {v : V} {σ : St} : Gives σ (τ v) → Fk KK τ (.inr v) .normal σ

theorem W.fork2 {R V : Type} (τ : V → St) {out : R ⊕ V} (h : W P c σ (Fk KK τ out)) (k : ∀ v, out = .inr v → KK .normal (τ v)) : W P c σ KK := by
  intro cx g a w hs hd Q hQ
  refine h cx g a w hs hd Q ?_
  intro e σ' g' a' w' hf hs'
  cases hf with
  | r hr => exact hQ .ret σ' g' a' w' hr hs'
  | n hg =>
    rename_i v
    obtain ⟨g'', hs''⟩ := hg cx g' a' w' hs'
    exact hQ .normal (τ v) g'' a' w' (k v rfl) hs''

/-- What a round leaves. -/
inductive Rd {α β : Type} (KK : Px → St → Prop) (st : α → St) (out : β) : α ⊕ β → Px → St → Prop where
  | n {v : α} {τ : St} : Gives τ (st v) → Rd KK st out (.inl v) .normal τ
  | x {b : β} {id : Nat} {τ : St} : (b = out → KK (.exit id) τ) → Rd KK st out (.inr b) (.exit id) τ
  | r {b : β} {τ : St} : (b = out → KK .ret τ) → Rd KK st out (.inr b) .ret τ

theorem W.loopF {α β : Type} {f : α → Option (α ⊕ β)} (st : α → St) {v : α} {out : β} (h : Pm.loop f v = some out) (hg : Gives σ (st v)) (round : ∀ v s, f v = some s → W P c (st v) (Rd KK st out s)) : W P (.loop c) σ KK := by
  obtain ⟨n, hn⟩ := loop_some h
  refine W.loop (fun n τ => ∃ v, τ = st v ∧ iter f n v = some out) n hg ⟨v, rfl, hn⟩ ?_
  rintro n _ ⟨v, rfl, hi⟩
  cases n with
  | zero => cases hi
  | succ n =>
    simp only [iter] at hi
    cases hf : f v with
    | none => rw [hf] at hi; cases hi
    | some s =>
      rw [hf] at hi
      refine (round v s hf).mono ?_
      intro e τ hr
      cases hr with
      | n hG => rename_i v'; exact ⟨n, st v', Nat.lt_succ_self n, hG, v', rfl, hi⟩
      | x hb => exact hb (by simpa using hi)
      | r hb => exact hb (by simpa using hi)

theorem thru {P : Program} {c : Code} {id : Nat} {KK : Px → St → Prop} {σ : St} (h : KK (.exit id) σ) : andThen P c KK (.exit id) σ := h
theorem hit {id : Nat} (h : KK .normal σ) : inBlock id KK (.exit id) σ := by simp only [inBlock]; rw [if_pos trivial]; exact h
theorem miss {id id' : Nat} (hn : Nat.beq id' id = false) (h : KK (.exit id') σ) : inBlock id KK (.exit id') σ := by
  simp only [inBlock]; rw [if_neg (fun e => by rw [e, Nat.beq_refl] at hn; cases hn)]; exact h
end

def RunK (P : Program) (ops : Array Oper) (l : List Oper) (σ : St) (K : List Stp → St → Prop) : Prop := ∃ ms σ', Run P ops l σ ms σ' ∧ K ms σ'

section
variable {P : Program} {ops : Array Oper} {l : List Oper} {o : Oper} {sl : List (Nat × Option AV)} {tk : List (Nat × Option Tok)} {n d m f : Nat} {fp : List Nat} {K : List Stp → St → Prop} {σ : St}

theorem RunK.nil (h : K [] σ) : RunK P ops [] σ K := ⟨[], σ, .nil σ, h⟩
theorem RunK.v {v : AV} (hd : o.dst = some d) (hg : Met ops (mkSt sl tk n) o.guard true) (h : OpL P o (mkSt sl tk n) fp ⟨some v, [], []⟩) (k : RunK P ops l (mkSt ((d, some v) :: sl) tk n) (fun ms => K ((fp, .out ⟨some v, [], []⟩) :: ms))) :
    RunK P ops (o :: l) (mkSt sl tk n) K := let ⟨_, _, k, hK⟩ := k; ⟨_, _, .v hd hg h k, hK⟩
theorem RunK.v0 {v : AV} (hd : o.dst = none) (hg : Met ops (mkSt sl tk n) o.guard true) (h : OpL P o (mkSt sl tk n) fp ⟨some v, [], []⟩) (k : RunK P ops l (mkSt sl tk n) (fun ms => K ((fp, .out ⟨some v, [], []⟩) :: ms))) :
    RunK P ops (o :: l) (mkSt sl tk n) K := let ⟨_, _, k, hK⟩ := k; ⟨_, _, .v0 hd hg h k, hK⟩
theorem RunK.t {v : AV} {ts : List (Nat × Option Tok)} (hd : o.dst = some d) (hg : Met ops (mkSt sl tk n) o.guard true) (h : OpL P o (mkSt sl tk n) fp ⟨some v, ts, [n]⟩) (k : RunK P ops l (mkSt ((d, some v) :: sl) (ts ++ tk) (n + 1)) (fun ms => K ((fp, .out ⟨some v, ts, [n]⟩) :: ms))) :
    RunK P ops (o :: l) (mkSt sl tk n) K := let ⟨_, _, k, hK⟩ := k; ⟨_, _, .t hd hg h k, hK⟩
theorem RunK.s {ts : List (Nat × Option Tok)} (hd : o.dst = none) (hg : Met ops (mkSt sl tk n) o.guard true) (h : OpL P o (mkSt sl tk n) fp ⟨none, ts, []⟩) (k : RunK P ops l (mkSt sl (ts ++ tk) n) (fun ms => K ((fp, .out ⟨none, ts, []⟩) :: ms))) :
    RunK P ops (o :: l) (mkSt sl tk n) K := let ⟨_, _, k, hK⟩ := k; ⟨_, _, .s hd hg h k, hK⟩
theorem RunK.x (hd : o.dst = some d) (hg : Met ops (mkSt sl tk n) o.guard false) (k : RunK P ops l (mkSt ((d, some (.imm (.val undef))) :: sl) tk n) (fun ms => K (([], .skip) :: ms))) :
    RunK P ops (o :: l) (mkSt sl tk n) K := let ⟨_, _, k, hK⟩ := k; ⟨_, _, .x hd hg k, hK⟩
theorem RunK.x0 (hd : o.dst = none) (hg : Met ops (mkSt sl tk n) o.guard false) (k : RunK P ops l (mkSt sl tk n) (fun ms => K (([], .skip) :: ms))) :
    RunK P ops (o :: l) (mkSt sl tk n) K := let ⟨_, _, k, hK⟩ := k; ⟨_, _, .x0 hd hg k, hK⟩

variable {fo : Operand} {args : Array Operand} {ats : Array TypeId} {cap avs : List AV} {xs : List X} {r : X} {ss : List (Option X)} {C Z : List Nat}
/-- A call: its value av, its tokens ts, m new keys. -/
theorem RunK.call (av : AV) (ts : List (Nat × Option Tok)) (m : Nat) (hsp : Spec P f xs r ss) (hd : o.dst = some d) (hg : Met ops (mkSt sl tk n) o.guard true) (ho : o.op = .call { callee := .value fo, args := args, argTypes := ats }) (hok : callOk P f = true)
    (hf : rd (mkSt sl tk n) fo = some (.fn f cap)) (ha : rds (mkSt sl tk n) args.toList = some avs) (hc : Cfs (mkSt sl tk n) (avs ++ cap) xs C Z) (hC : nodupB C = true) (hZ : disjB C Z = true) (hav : (imp r n).1 = av)
    (hts : (callOut (mkSt sl tk n) (imp r n).1 (imp r n).2.1 (backo (avs ++ cap) xs ss (imp r n).2.2).1 C Z n (backo (avs ++ cap) xs ss (imp r n).2.2).2).tk = ts) (hm : (backo (avs ++ cap) xs ss (imp r n).2.2).2 = n + m)
    (k : RunK P ops l (mkSt ((d, some av) :: sl) (ts ++ tk) (n + m)) (fun ms => K ((C ++ Z, .out ⟨some av, ts, List.range' n m⟩) :: ms))) :
    RunK P ops (o :: l) (mkSt sl tk n) K := let ⟨_, _, k, hK⟩ := k; ⟨_, _, .call hd hg hsp ho hok hf ha hc hC hZ hav hts hm k, hK⟩

variable {KK : Px → St → Prop}
theorem W.pk {id : Nat} (h : RunK P ops ops.toList σ (fun _ τ => KK .normal τ)) : W P (.region id ops false) σ KK := let ⟨_, _, h, hK⟩ := h; .plain h hK
theorem W.dk {id : Nat} (bs : List (List Nat)) (hm : P.follows .mixedOrders = true) (h1 : befOk ops bs = true) (h : RunK P ops ops.toList (mkSt sl tk n) (fun ms τ => indep ops ms bs = true ∧ usesOk n ms = true ∧ KK .normal τ)) : W P (.region id ops true) (mkSt sl tk n) KK :=
  let ⟨_, _, h, h2, h3, hK⟩ := h; .drawM bs h hm h1 h2 h3 hK

theorem O.pickT {c x y : Operand} {b : Bool} {z : AV} (hb : b = true) (ho : o.op = .pick c x y) (hc : rd σ c = some (.imm (.val (.bool b)))) (hz : rd σ x = some z) : OpL P o σ [] ⟨some z, [], []⟩ := OpL.pick ho hc (by rw [hb]; exact hz)
theorem O.pickF {c x y : Operand} {b : Bool} {z : AV} (hb : b = false) (ho : o.op = .pick c x y) (hc : rd σ c = some (.imm (.val (.bool b)))) (hz : rd σ y = some z) : OpL P o σ [] ⟨some z, [], []⟩ := OpL.pick ho hc (by rw [hb]; exact hz)
end

theorem ifT {α : Type} {b : Bool} {m m' : Option α} {r : α} (hb : b = true) (h : (if b = true then m else m') = some r) : m = some r := by rw [if_pos hb] at h; exact h
theorem ifF {α : Type} {b : Bool} {m m' : Option α} {r : α} (hb : b = false) (h : (if b = true then m else m') = some r) : m' = some r := by rw [if_neg (by rw [hb]; decide)] at h; exact h
theorem tf (b : Bool) : b = true ∨ b = false := by cases b <;> simp
end Go.Pm
