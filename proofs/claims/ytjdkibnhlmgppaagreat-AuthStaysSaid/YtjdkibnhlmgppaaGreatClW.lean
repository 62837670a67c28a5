/- The walks of the four closures of auth.List that change a member: each is one store. Conditions: none. -/
import Derived.Test.YtjdkibnhlmgppaaGreatFoldW
import Derived.Test.YtjdkibnhlmgppaaGreatPmAB
namespace Go.Proofs.YtjdkibnhlmgppaaGreat
open Go Go.Proofs Go.RowKit
theorem cl_facts {w : World} {b off j : Nat} {cur : Array Value} {e : TypeId} (h : w.heap[b]? = some (.cells cur e (0, 0))) (hfit : off + 5 ≤ cur.size) (hj : j < 5) :
    w.frozen? ⟨b, off + j, none⟩ = false ∧ ∃ x, w.cell? ⟨b, off + j, none⟩ = some x :=
  ⟨frozen_of_row w b (off + j) cur e h, by rw [cell_of_row w b (off + j) cur e (0, 0) h, Array.getElem?_eq_getElem (by omega)]; exact ⟨_, rfl⟩⟩
theorem set_twice (w : World) (b o : Nat) (u v : Value) : (w.setCell ⟨b, o, none⟩ u).setCell ⟨b, o, none⟩ v = w.setCell ⟨b, o, none⟩ v := by
  unfold World.setCell
  congr 1
  apply Array.ext_getElem?
  intro i
  simp only [Array.getElem?_modify]
  split
  · cases h : w.heap[i]? with
    | none => rfl
    | some x => cases x <;> simp
  · rfl
theorem cl_cell {w : World} {k : Nat} {u : Value} {e : TypeId} (h : w.heap[k]? = some (.cells #[u] e (0, 0))) : w.cell? ⟨k, 0, none⟩ = some u := by
  rw [cell_of_row w k 0 #[u] e (0, 0) h]; rfl
set_option maxHeartbeats 1000000 in
set_option maxRecDepth 1000000 in
theorem cl40 (w : World) (b off : Nat) (cur : Array Value) (e : TypeId) (h : w.heap[b]? = some (.cells cur e (0, 0))) (hfit : off + 5 ≤ cur.size) :
    Calls Tryz.prog 40 #[.pointer (some ⟨b, off, none⟩)] w fun e' w' => e' = .returned (.tuple #[]) ∧ w' = w.setCells b (off + 2) [.int .i64 3] := by
  obtain ⟨f1, x, f2⟩ := cl_facts (j := 2) h hfit (by omega)
  go_enter Tryz.func40, Tryz.ntmps40
  go_wp2
  all_goals first
    | (exfalso; simp_all; done)
    | skip
  refine bodyPost_end (results_none rfl _ _ _) rfl ?_
  exact ⟨rfl, rfl⟩
set_option maxHeartbeats 1000000 in
set_option maxRecDepth 1000000 in
theorem cl82 (w : World) (b off k : Nat) (cur : Array Value) (e e2 : TypeId) (u : Int) (h : w.heap[b]? = some (.cells cur e (0, 0))) (hk : w.heap[k]? = some (.cells #[.int .i64 u] e2 (0, 0))) (hfit : off + 5 ≤ cur.size) :
    Calls Tryz.prog 82 #[.pointer (some ⟨b, off, none⟩), .pointer (some ⟨k, 0, none⟩)] w fun e' w' => e' = .returned (.tuple #[]) ∧ w' = w.setCells b (off + 3) [.int .i64 u] := by
  obtain ⟨f1, x, f2⟩ := cl_facts (j := 3) h hfit (by omega)
  have f3 := cl_cell hk
  go_enter Tryz.func82, Tryz.ntmps82
  go_wp2
  all_goals first
    | (exfalso; simp_all; done)
    | skip
  refine bodyPost_end (results_none rfl _ _ _) rfl ?_
  exact ⟨rfl, rfl⟩
set_option maxHeartbeats 1000000 in
set_option maxRecDepth 1000000 in
theorem cl83 (w : World) (b off k : Nat) (cur : Array Value) (e e2 : TypeId) (u : Bool) (h : w.heap[b]? = some (.cells cur e (0, 0))) (hk : w.heap[k]? = some (.cells #[.bool u] e2 (0, 0))) (hfit : off + 5 ≤ cur.size) :
    Calls Tryz.prog 83 #[.pointer (some ⟨b, off, none⟩), .pointer (some ⟨k, 0, none⟩)] w fun e' w' => e' = .returned (.tuple #[]) ∧ w' = w.setCells b (off + 4) [.bool u] := by
  obtain ⟨f1, x, f2⟩ := cl_facts (j := 4) h hfit (by omega)
  have f3 := cl_cell hk
  go_enter Tryz.func83, Tryz.ntmps83
  go_wp2
  all_goals first
    | (exfalso; simp_all; done)
    | skip
  refine bodyPost_end (results_none rfl _ _ _) rfl ?_
  exact ⟨rfl, rfl⟩
set_option maxHeartbeats 1000000 in
set_option maxRecDepth 1000000 in
theorem cl49 (w : World) (b off k : Nat) (cur : Array Value) (e e2 : TypeId) (u : Bool) (h : w.heap[b]? = some (.cells cur e (0, 0))) (hk : w.heap[k]? = some (.cells #[.bool u] e2 (0, 0))) (hbk : k ≠ b) (hfit : off + 5 ≤ cur.size) :
    Calls Tryz.prog 49 #[.pointer (some ⟨b, off, none⟩), .pointer (some ⟨k, 0, none⟩)] w fun e' w' => e' = .returned (.tuple #[]) ∧ w' = w.setCells b (off + 2) [.int .i64 (if u then 2 else 1)] := by
  obtain ⟨f1, x, f2⟩ := cl_facts (j := 2) h hfit (by omega)
  obtain ⟨hf, C', hh', hs', hC'⟩ := Pm.heap_setCells b e [.int .i64 1] (off + 2) w cur h (by simp; omega)
  have hk' : (w.setCells b (off + 2) [.int .i64 1]).heap[k]? = some (.cells #[.bool u] e2 (0, 0)) := by
    have hlt : k < w.heap.size := (Array.getElem?_eq_some_iff.1 hk).1
    rw [hf.block k hlt hbk]; exact hk
  have f3 : (w.setCell ⟨b, off + 2, none⟩ (.int .i64 1)).cell? ⟨k, 0, none⟩ = some (.bool u) := cl_cell hk'
  obtain ⟨f4, x4, f5⟩ := cl_facts (off := off) (j := 2) hh' (by omega) (by omega)
  have f4' : (w.setCell ⟨b, off + 2, none⟩ (.int .i64 1)).frozen? ⟨b, off + 2, none⟩ = false := f4
  have f5' : (w.setCell ⟨b, off + 2, none⟩ (.int .i64 1)).cell? ⟨b, off + 2, none⟩ = some x4 := f5
  go_enter Tryz.func49, Tryz.ntmps49
  cases u
  all_goals go_wp2
  all_goals first
    | (exfalso; simp_all; done)
    | skip
  · refine bodyPost_end (results_none rfl _ _ _) rfl ?_
    exact ⟨rfl, rfl⟩
  · refine bodyPost_end (results_none rfl _ _ _) rfl ?_
    exact ⟨rfl, set_twice _ _ _ _ _⟩

theorem st40 : Pm.Sto Tryz.prog 40 [] 5 2 (.int .i64 3) := by
  intro w b off cur e ks h1 h2 h3 _
  cases ks with
  | nil => exact cl40 w b off cur e h1 h2
  | cons => cases h3
theorem st82 (u : Int) : Pm.Sto Tryz.prog 82 [.int .i64 u] 5 3 (.int .i64 u) := by
  intro w b off cur e ks h1 h2 h3 h4
  match ks, h3 with
  | [k], _ => obtain ⟨_, e2, hk⟩ := h4 0 (by simp); exact cl82 w b off k cur e e2 u h1 hk h2
theorem st83 (u : Bool) : Pm.Sto Tryz.prog 83 [.bool u] 5 4 (.bool u) := by
  intro w b off cur e ks h1 h2 h3 h4
  match ks, h3 with
  | [k], _ => obtain ⟨_, e2, hk⟩ := h4 0 (by simp); exact cl83 w b off k cur e e2 u h1 hk h2
theorem st49 (u : Bool) : Pm.Sto Tryz.prog 49 [.bool u] 5 2 (.int .i64 (if u = true then 2 else 1)) := by
  intro w b off cur e ks h1 h2 h3 h4
  match ks, h3 with
  | [k], _ => obtain ⟨hne, e2, hk⟩ := h4 0 (by simp); exact cl49 w b off k cur e e2 u h1 hk hne h2
end Go.Proofs.YtjdkibnhlmgppaaGreat
