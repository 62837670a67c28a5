/- The pure machine, part T: a row of ours cut shorter, and its end cleared. Conditions: none (definitions and lemmas alone). -/
import Derived.Test.YtidinbjehfodoaaPmR
namespace Go.Pm
open Go
set_option linter.unusedVariables false
set_option linter.unusedSimpArgs false

/-- The front of a row of ours, in its place. -/
theorem OpL.cut {P : Program} {o : Oper} {σ : St} {t e sz bytes k n : Nat} {zs : List Value} {x : Operand} {hi : Option Operand} {u : Int} {es : List (List T)} (S : SlT P t e sz bytes zs) (h : 0 ≤ u ∧ u ≤ (es.length : Int)) (ho : o.op = .slice t x none hi none)
    (hx : rd σ x = some (.own k)) (hk : σ.tk k = some (.rows e sz es false)) (hhi : bnd σ es.length hi = some u) : OpL P o σ [k] ⟨some (.own n), [(k, none), (n, some (.rows e sz (es.take u.toNat) false))], [n]⟩ := by
  obtain ⟨ie, z, h1, h2, h3, h4, rfl, h6⟩ := S.parts
  intro σ' hs hfp hfree
  have hx' := (hs x (by simp [ho, Op.operands])).trans hx
  have hk' := (hfp k (by simp)).trans hk
  have hhi' := (bnd_agree (σ := σ) (σ' := σ') (d := es.length) (x := hi) (fun y e => hs y (by simp [ho, Op.operands, e]))).trans hhi
  refine OpD.of_instead (k := n) (j := k) (hfree n (by simp)) rfl hk' rfl (fun cx g a w hsr => ?_)
  have hv : a.eval x = g.hv k := by
    have hr := rd_rep hsr x _ hx'
    generalize a.eval x = v at hr
    cases hr; rfl
  have hhi2 : (hi = none ∧ u = es.length) ∨ ∃ x k, hi = some x ∧ a.eval x = .int k u := by
    cases hi with
    | none => cases hhi'; exact .inl ⟨rfl, rfl⟩
    | some y => obtain ⟨k, ek⟩ := rd_bnd hsr hhi'; exact .inr ⟨y, k, rfl, ek⟩
  have hown : ∀ v : Value, RepA (g.put n v) w (.own n) v := fun v => by
    have := RepA.own (g := g.put n v) (w := w) n (.inl rfl)
    rwa [Gh.put_same] at this
  have hput : g.Le (g.put n (a.eval x)) := g.put_le n _ (fun hu => hsr.used n hu (hfree n (by simp)))
  cases hsr.tk k _ hk' with
  | rows _ _ _ _ xs t1 t2 t3 t4 t5 =>
    have len : (es.take u.toNat).length = u.toNat := by rw [List.length_take]; omega
    have le : u.toNat * ie.size ≤ es.length * ie.size := Nat.mul_le_mul_right _ (by omega)
    have tok : ∀ v : Value, w.ownsRow 0 e ie.size v u.toNat (xs.take (u.toNat * ie.size)) → TokRep (g.put n v) w n (.rows e ie.size (es.take u.toNat) false) := fun v hr => by
      have hle : g.Le (g.put n v) := g.put_le n _ (fun hu => hsr.used n hu (hfree n (by simp)))
      refine .rows e _ _ false (xs.take (u.toNat * ie.size)) (by rw [Gh.put_same, len]; exact hr) (fun r hr => t2 r (List.mem_of_mem_take hr)) (fun i j hi' hj => ?_) (fun y hy => t4 y (List.mem_of_mem_take hy)) (fun hf => by cases hf)
      rw [len] at hi'
      have lt := row_index hi' hj
      have e1 : (es.take u.toNat).getD i [] = es.getD i [] := by rw [List.getD_eq_getElem?_getD, List.getElem?_take, if_pos hi', ← List.getD_eq_getElem?_getD]
      have e2 : (xs.take (u.toNat * ie.size)).getD (i * ie.size + j) undef = xs.getD (i * ie.size + j) undef := by rw [List.getD_eq_getElem?_getD, List.getElem?_take, if_pos lt, ← List.getD_eq_getElem?_getD]
      rw [e1, e2]
      exact (t3 i j (by omega) hj).mono hle.S (fun _ _ => rfl)
    rcases t1.2 with ⟨e1, e2⟩ | ⟨b, cap, cur, e1, e0, e2, e3, e4, e5, e6⟩
    · have u0 : u = 0 := by omega
      have hrun := run_slice_part (P := P) w a t e none hi none 0 0 0 u ie S.ht h1 (.inl ⟨rfl, rfl⟩) (by rw [← e2]; exact hhi2) (by omega) h.1 (by omega) (Nat.le_refl _)
      refine ⟨.slice none 0 0, .slice none 0 0, w, ?_, Fr.refl _ _, tok _ ⟨by rw [u0]; simp, .inl ⟨rfl, by omega⟩⟩, fun b hb => (by cases hb), hown _⟩
      subst u0
      rw [Option.map_none] at hrun
      simp only [execOp, ho, hv, e1, Option.map_none, hrun, Sem.run_bind, Sem.run_pure, Result.andThen_ok]
      rfl
    · have hrun := run_slice_part (P := P) w a t e none hi (some ⟨b, 0, none⟩) es.length cap 0 u ie S.ht h1 (.inl ⟨rfl, rfl⟩) hhi2 (by omega) h.1 h.2 e3
      have hval : (Value.slice (if cap = (0 : Int).toNat then some ⟨b, 0, none⟩ else (some (⟨b, 0, none⟩ : Addr)).map (·.add ((0 : Int).toNat * ie.size))) (u.toNat - (0 : Int).toNat) (cap - (0 : Int).toNat)) = .slice (some ⟨b, 0, none⟩) u.toNat cap := by
        simp only [Int.toNat_zero, Nat.zero_mul, Nat.sub_zero, Option.map_some, Addr.add_mid]
        split <;> rfl
      rw [hval, Option.map_none] at hrun
      refine ⟨.slice (some ⟨b, 0, none⟩) u.toNat cap, .slice (some ⟨b, 0, none⟩) u.toNat cap, w, ?_, Fr.refl _ _, tok _ ⟨?_, .inr ⟨b, cap, cur, rfl, e0, e2, by omega, e4, e5, ?_⟩⟩, fun q hq => ?_, hown _⟩
      · simp only [execOp, ho, hv, e1, Option.map_none, hrun, Sem.run_bind, Sem.run_pure, Result.andThen_ok]
      · rw [List.length_take, t1.1]; omega
      · rw [← e6, List.take_take, Nat.min_eq_left le]
      · have hb : hblk (g.hv k) = some q := by rw [e1]; exact hq
        exact ⟨hsr.blk k _ q hk' hb, .inr hb⟩

/-- The end of a row of ours cleared. -/
theorem OpL.clear {P : Program} {o : Oper} {σ : St} {t e sz bytes k off n : Nat} {zs : List Value} {x : Operand} {es : List (List T)} {z : List T} (S : SlT P t e sz bytes zs) (hz : TRow (zs.map .val) z) (h1z : (zs.all fun v => v.oneCell') = true)
    (ho : o.op = .call { callee := .builtin .clear, args := #[x], argTypes := #[t] }) (hd : o.dst = none) (hx : rd σ x = some (.view k sz off n)) (hk : σ.tk k = some (.rows e sz es false)) (hn : off + n = es.length) :
    OpL P o σ [k] ⟨none, [(k, some (.rows e sz (es.take off ++ List.replicate n z) false))], []⟩ := by
  obtain ⟨ie, zv, h1, h2, h3, h4, rfl, h6⟩ := S.parts
  have pos := S.pos.1
  have zl : zs.length = ie.size := S.hz
  have zl2 : z.length = ie.size := by have := hz.len; rw [List.length_map] at this; omega
  intro σ' hs hfp hfree cx g a w hdn h next Q hK
  have hx' := (hs x (by simp [ho, Op.operands, Call.operands])).trans hx
  have hk' := (hfp k (by simp)).trans hk
  have hrx := rd_rep h x _ hx'
  generalize hex : a.eval x = vx at hrx
  show o.upon P a next Q ((execOp a.eval o).run P w)
  have lenOff : (es.take off).length = off := by rw [List.length_take]; omega
  by_cases n0 : n = 0
  · have hrun : (execOp a.eval o).run P w = .ok (.value (.tuple #[])) w := by
      have : ∃ A c, vx = .slice A 0 c := by
        subst n0
        cases hrx with
        | view _ _ _ _ b n0 c0 c => exact ⟨_, c, rfl⟩
        | view0 _ _ _ c A => exact ⟨A, c, rfl⟩
      obtain ⟨A, c, rfl⟩ := this
      cases A <;> simp [execOp, ho, hex, resolve, invoke, builtin, Builtin.clear_, run_underlying S.ht]
    rw [hrun]
    show next (a.put o.dst _) _
    rw [hd]
    refine hK g _ _ ?_
    rw [hd]
    refine h.eqv _ (fun _ => rfl) (fun q => ?_) (fun q hq => hq.1)
    simp only [St.out, lkp]
    by_cases e : q = k
    · rw [e, hk', n0]
      simp [show off = es.length by omega]
    · simp [e]
  · cases hrx with
    | view0 => exact absurd rfl n0
    | view _ _ _ _ b m0 c0 c hu hv g1 g2 =>
    cases h.tk k _ hk' with
    | rows _ _ _ _ xs t1 t2 t3 t4 t5 =>
      rcases t1.2 with ⟨e1, e2⟩ | ⟨b', cap, cur, e1, e0, e2, e3, e4, e5, e6⟩
      · rw [hv] at e1; cases e1
      · rw [hv] at e1; cases e1
        obtain ⟨nn, rfl⟩ : ∃ q, n = q + 1 := ⟨n - 1, by omega⟩
        have hsz : off * ie.size + (nn + 1) * ie.size = es.length * ie.size := by rw [← Nat.add_mul, hn]
        have hcap : es.length * ie.size ≤ c0 * ie.size := Nat.mul_le_mul_right _ e3
        have hcl : ((Builtin.zeroCells zv.cells (nn + 1)).toList).length = (nn + 1) * ie.size := by simp [Builtin.zeroCells, h4]
        have hcv : ∀ q, q < (nn + 1) * ie.size → ((Builtin.zeroCells zv.cells (nn + 1)).toList).getD q undef = zs.getD (q % ie.size) undef := by
          intro q hq
          unfold Builtin.zeroCells
          rw [toList_getD, Array.getD_eq_getD_getElem?, Array.getElem?_map, Array.getElem?_range, h4, if_pos hq]
          have hm : q % ie.size < zv.cells.size := by rw [h4]; exact Nat.mod_lt _ pos
          simp only [Option.map_some, Option.getD_some]
          rw [getElem!_pos zv.cells _ hm, ← h3, toList_getD, Array.getD_eq_getD_getElem?, Array.getElem?_eq_getElem hm]; rfl
        have hone : ∀ v ∈ (Builtin.zeroCells zv.cells (nn + 1)).toList, v.oneCell' = true := by
          intro v hv'
          obtain ⟨q, hq, rfl⟩ := List.getElem_of_mem hv'
          have hq' : q < (nn + 1) * ie.size := by rw [← hcl]; exact hq
          have := hcv q hq'
          rw [List.getD_eq_getElem?_getD, List.getElem?_eq_getElem hq] at this
          simp only [Option.getD_some] at this
          rw [this]
          have hm : q % ie.size < zs.length := by rw [zl]; exact Nat.mod_lt _ pos
          refine List.all_eq_true.1 h1z _ ?_
          rw [List.getD_eq_getElem?_getD, List.getElem?_eq_getElem hm]
          exact List.getElem_mem hm
        have hst := run_storeCells_cells (P := P) b (off * ie.size) (Builtin.zeroCells zv.cells (nn + 1)).toList 0 w
          (fun j hj => by
            rw [hcl] at hj
            rw [cell_of_row w b (off * ie.size + 0 + j) cur e (0, 0) e2, Array.getElem?_eq_getElem (by omega)]; rfl)
          (fun j hj => frozen_of_row w b _ cur e e2) hone
        simp only [Nat.add_zero] at hst
        have hrun : (execOp a.eval o).run P w = .ok (.value (.tuple #[])) (w.setCells b (off * ie.size) (Builtin.zeroCells zv.cells (nn + 1)).toList) := by
          simp [execOp, ho, hex, resolve, invoke, builtin, Builtin.clear_, run_underlying S.ht, zeroValue, typeInfo, h1, h2, hst]
        obtain ⟨hf, C', hh', hs', hC'⟩ := heap_setCells b e (Builtin.zeroCells zv.cells (nn + 1)).toList (off * ie.size) w cur e2 (by rw [hcl]; omega)
        have lC : C'.toList.length = c0 * ie.size := by rw [Array.length_toList, hs', e5]
        rw [hrun]
        show next (a.put o.dst _) _
        rw [hd]
        refine hK g _ _ ?_
        rw [hd]
        have hkb : ∀ q, hblk (g.hv k) = some q ↔ q = b := fun q => by rw [hv]; simp [hblk, eq_comm]
        have hset := h.setTok k (.rows e ie.size es false) (.rows e ie.size (es.take off ++ List.replicate (nn + 1) z) false) hk' rfl (hf.mono (fun q _ e => (hkb q).2 e)) (by
          have hstb : ∀ q, g.S q → (w.setCells b (off * ie.size) (Builtin.zeroCells zv.cells (nn + 1)).toList).heap[q]? = w.heap[q]? := fun q hq =>
            hf.block q (h.stab q hq) (fun e => by subst e; exact (h.live k _ q hk' rfl ((hkb q).2 rfl)).1 hq)
          have L : (es.take off ++ List.replicate (nn + 1) z).length = es.length := by rw [List.length_append, lenOff, List.length_replicate]; omega
          refine .rows e _ _ false (C'.toList.take (es.length * ie.size)) ?_ (fun r hr => ?_) (fun i j hi hj => ?_) (fun y hy => ?_) (fun hf => by cases hf)
          · rw [L, hv]
            refine ⟨by rw [List.length_take, lC]; omega, .inr ⟨b, c0, C', rfl, e0, hh', e3, e4, by rw [hs', e5], rfl⟩⟩
          · rcases List.mem_append.1 hr with hr | hr
            · exact t2 r (List.mem_of_mem_take hr)
            · rw [List.eq_of_mem_replicate hr]; exact zl2
          · rw [L] at hi
            have lt := row_index hi hj
            rw [List.getD_eq_getElem?_getD (l := C'.toList.take _), List.getElem?_take, if_pos lt, ← List.getD_eq_getElem?_getD, toList_getD, hC', hcl]
            by_cases c1 : i < off
            · have lt2 := row_index c1 hj
              rw [if_neg (by omega), List.getD_eq_getElem?_getD (l := es.take off ++ _), List.getElem?_append_left (by omega), List.getElem?_take, if_pos c1, ← List.getD_eq_getElem?_getD]
              have := t3 i j hi hj
              rw [← e6, List.getD_eq_getElem?_getD (l := cur.toList.take _), List.getElem?_take, if_pos lt, ← List.getD_eq_getElem?_getD, toList_getD] at this
              exact this.mono (fun _ x => x) hstb
            · have ge : off * ie.size ≤ i * ie.size := Nat.mul_le_mul_right _ (by omega)
              rw [if_pos (by omega), hcv _ (by omega), List.getD_eq_getElem?_getD (l := es.take off ++ _), List.getElem?_append_right (by omega), lenOff, List.getElem?_replicate, if_pos (by omega), Option.getD_some]
              have em : (i * ie.size + j - off * ie.size) % ie.size = j := by
                have : i * ie.size + j - off * ie.size = (i - off) * ie.size + j := by rw [Nat.sub_mul]; omega
                rw [this, Nat.mul_comm, Nat.mul_add_mod, Nat.mod_eq_of_lt hj]
              rw [em]
              refine (hz.at j).rep ?_
              rw [listD_map (d := undef) _ _ _ _ (by omega)]
              exact .val _
          · obtain ⟨q', hq', e7⟩ := List.getElem_of_mem hy
            rw [List.length_take, lC] at hq'
            have e8 : y = C'.getD q' undef := by
              rw [← e7, List.getElem_take, Array.getElem_toList, Array.getD_eq_getD_getElem?, Array.getElem?_eq_getElem (by rw [hs', e5]; omega)]; rfl
            rw [e8, hC', hcl]
            split
            · rename_i hc
              have : ((Builtin.zeroCells zv.cells (nn + 1)).toList).getD (q' - off * ie.size) undef ∈ (Builtin.zeroCells zv.cells (nn + 1)).toList := by
                rw [List.getD_eq_getElem?_getD, List.getElem?_eq_getElem (by rw [hcl]; omega)]
                exact List.getElem_mem _
              exact .inl (hone _ this)
            · have lt3 : q' < xs.length := by rw [t1.1]; omega
              have : cur.getD q' undef = xs[q'] := by
                have : xs.getD q' undef = cur.getD q' undef := by
                  rw [← e6, List.getD_eq_getElem?_getD, List.getElem?_take, if_pos (by omega), ← List.getD_eq_getElem?_getD, toList_getD]
                rw [← this, List.getD_eq_getElem?_getD, List.getElem?_eq_getElem lt3]; rfl
              rw [this]
              exact t4 _ (List.getElem_mem lt3))
        exact hset.eqv _ (fun _ => rfl) (fun q => by
          simp only [St.out, St.tok, lkp]
          by_cases e : q = k <;> simp [e]) (fun q hq => hq.1)

section
variable {α : Type} {enc : α → List T} {P : Program} {o : Oper} {σ : St}
theorem O.cut {t e sz bytes k n : Nat} {zs : List Value} {x : Operand} {hi : Option Operand} {u : Int} {m : List α} (S : SlT P t e sz bytes zs) (h : (0 : Int) ≤ 0 ∧ 0 ≤ u ∧ u ≤ (m.length : Int)) (ho : o.op = .slice t x none hi none)
    (hx : rd σ x = some (.own k)) (hk : σ.tk k = some (.rows e sz (m.map enc) false)) (hhi : bnd σ m.length hi = some u) : OpL P o σ [k] ⟨some (.own n), [(k, none), (n, some (.rows e sz ((m.take u.toNat).map enc) false))], [n]⟩ := by
  have := OpL.cut (es := m.map enc) (n := n) S (by rw [List.length_map]; exact h.2) ho hx hk (by rw [List.length_map]; exact hhi)
  rwa [← List.map_take] at this
theorem viewEnd {l : Int} {n : Nat} (h : 0 ≤ l ∧ l ≤ (n : Int) ∧ (n : Int) ≤ (n : Int)) : l.toNat + ((n : Int).toNat - l.toNat) = n := by omega
theorem O.clear {t e sz bytes k off n : Nat} {zs : List Value} {x : Operand} {m : List α} {z : α} (S : SlT P t e sz bytes zs) (hz : TRow (zs.map .val) (enc z)) (h1z : (zs.all fun v => v.oneCell') = true)
    (hn : off + n = m.length) (ho : o.op = .call { callee := .builtin .clear, args := #[x], argTypes := #[t] }) (hd : o.dst = none) (hx : rd σ x = some (.view k sz off n)) (hk : σ.tk k = some (.rows e sz (m.map enc) false)) :
    OpL P o σ [k] ⟨none, [(k, some (.rows e sz ((m.take off ++ List.replicate n z).map enc) false))], []⟩ := by
  have := OpL.clear S hz h1z ho hd hx hk (by rw [List.length_map]; exact hn)
  rwa [← List.map_take, ← List.map_replicate, ← List.map_append] at this
end

end Go.Pm
