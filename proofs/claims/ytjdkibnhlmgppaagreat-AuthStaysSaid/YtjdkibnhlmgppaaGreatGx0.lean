/- Shows what functions of the program come to, each as a plain function: written by a program of the author's for this claim. -/
import Derived.Test.YtjdkibnhlmgppaaGreatTy
import Derived.Test.YtjdkibnhlmgppaaGreatClW
namespace Go.Pm
open Go
theorem Z {α : Sort _} {a : α} : a = a := rfl
theorem L {a b : Nat} (h : Nat.ble a b = true) : a ≤ b := Nat.le_of_ble_eq_true h
abbrev im (l : List T) : List X := l.map X.imm
theorem cI {σ : St} {t : T} {l : List AV} {xs : List X} {C Z : List Nat} (h : Cfs σ l xs C Z) : Cfs σ (.imm t :: l) (.imm t :: xs) C Z := cC (.imm _) h
section
variable {P : Program} {ops : Array Oper} {o : Oper} {l : List Oper} {sl : List (Nat × Option AV)} {tk : List (Nat × Option Tok)} {n d : Nat} {K : List Stp → St → Prop}
theorem RunK.M {x : Operand} {y : AV} (h : @Eq (Option Nat × Option (Nat × Bool) × Op × Option AV) (o.dst, o.guard, o.op, rd (mkSt sl tk n) x) (some d, none, .move x, some y)) (k : RunK P ops l (mkSt ((d, some y) :: sl) tk n) (fun ms => K (([], .out ⟨some y, [], []⟩) :: ms))) :
    RunK P ops (o :: l) (mkSt sl tk n) K := by
  simp only [Prod.mk.injEq] at h; exact .m h.1 (by rw [h.2.1]; rfl) h.2.2.1 h.2.2.2 k
theorem RunK.A {x : Operand} {y : AV} (h : @Eq (Option Nat × Option (Nat × Bool) × Op × Option AV) (o.dst, o.guard, o.op, rd (mkSt sl tk n) x) (some d, none, .assign x, some y)) (k : RunK P ops l (mkSt ((d, some y) :: sl) tk n) (fun ms => K (([], .out ⟨some y, [], []⟩) :: ms))) :
    RunK P ops (o :: l) (mkSt sl tk n) K := by
  simp only [Prod.mk.injEq] at h; exact .a h.1 (by rw [h.2.1]; rfl) h.2.2.1 h.2.2.2 k
theorem RunK.B {op : BinOp} {t t' : TypeId} {x y : Operand} {k₀ : IntKind} {m m' : Int} {z : Value}
    (h : @Eq (Option Nat × Option (Nat × Bool) × Op × Option AV × Option AV × Option Value) (o.dst, o.guard, o.op, rd (mkSt sl tk n) x, rd (mkSt sl tk n) y, Pm.binI op k₀ m m') (some d, none, .binOp op t x y t', some (.imm (.val (.int k₀ m))), some (.imm (.val (.int k₀ m'))), some z))
    (k : RunK P ops l (mkSt ((d, some (.imm (.val z))) :: sl) tk n) (fun ms => K (([], .out ⟨some (.imm (.val z)), [], []⟩) :: ms))) :
    RunK P ops (o :: l) (mkSt sl tk n) K := by
  simp only [Prod.mk.injEq] at h; exact .v h.1 (by rw [h.2.1]; rfl) (OpL.binI h.2.2.1 h.2.2.2.1 h.2.2.2.2.1 h.2.2.2.2.2) k
theorem RunK.F {s f off : Nat} {x : Operand} {p q : AV} (hb : fieldB P s f off = true)
    (h : @Eq (Option Nat × Option (Nat × Bool) × Op × Option AV × Option AV) (o.dst, o.guard, o.op, rd (mkSt sl tk n) x, p.plus off) (some d, none, .fieldAddr s x f, some p, some q))
    (k : RunK P ops l (mkSt ((d, some q) :: sl) tk n) (fun ms => K (([], .out ⟨some q, [], []⟩) :: ms))) :
    RunK P ops (o :: l) (mkSt sl tk n) K := by
  simp only [Prod.mk.injEq] at h; exact .v h.1 (by rw [h.2.1]; rfl) (O.fld hb h.2.2.1 h.2.2.2.1 h.2.2.2.2) k
theorem RunK.V {v : AV} {fp : List Nat} (h0 : @Eq (Option Nat × Option (Nat × Bool)) (o.dst, o.guard) (some d, none)) (h : OpL P o (mkSt sl tk n) fp ⟨some v, [], []⟩) (k : RunK P ops l (mkSt ((d, some v) :: sl) tk n) (fun ms => K ((fp, .out ⟨some v, [], []⟩) :: ms))) :
    RunK P ops (o :: l) (mkSt sl tk n) K := by
  simp only [Prod.mk.injEq] at h0; exact .v h0.1 (by rw [h0.2]; rfl) h k
theorem RunK.S {t m k off : Nat} {b : Bool} {x y : Operand} {all cs : List AV} {z : AV} (ht : tyV P t = some (b, m))
    (h : @Eq (Op × Option Nat × Option (Nat × Bool) × Option AV × Option AV × List AV × Nat × Option Tok × Bool × Bool × Bool) (o.op, o.dst, o.guard, rd (mkSt sl tk n) x, rd (mkSt sl tk n) y, z.cells, cs.length, (mkSt sl tk n).tk k, Nat.ble (off + m) all.length, ones cs, live (mkSt sl tk n) (ownKeys cs))
      (.store t x y, none, none, some (.ptr k off), some z, cs, m, some (.box all), true, true, true))
    (all' : List AV) (ha : splice all off cs = all') (kk : RunK P ops l (mkSt sl ([(k, some (.box all'))] ++ tk) n) (fun ms => K ((k :: ownKeys cs, .out ⟨none, [(k, some (.box all'))], []⟩) :: ms))) :
    RunK P ops (o :: l) (mkSt sl tk n) K := by
  simp only [Prod.mk.injEq] at h
  obtain ⟨h1, h2, h3, h4, h5, h6, h7, h8, h9, h10, h11⟩ := h
  exact .s h2 (by rw [h3]; rfl) (O.st ht h1 h2 h4 h5 h6 h7 h8 h9 h10 h11 ha) kk
theorem RunK.C {f : Nat} {fo : Operand} {args : Array Operand} {ats : Array TypeId} {cap avs : List AV} {xs : List X} {r : X} {ss : List (Option X)} {C Z : List Nat}
    (av : AV) (ts : List (Nat × Option Tok)) (m : Nat) (hsp : Spec P f xs r ss) (hok : callOk P f = true)
    (h : @Eq (Option Nat × Option (Nat × Bool) × Op × Option AV × Option (List AV)) (o.dst, o.guard, o.op, rd (mkSt sl tk n) fo, rds (mkSt sl tk n) args.toList) (some d, none, .call { callee := .value fo, args := args, argTypes := ats }, some (.fn f cap), some avs))
    (hc : Cfs (mkSt sl tk n) (avs ++ cap) xs C Z)
    (h' : @Eq (Bool × Bool × AV × List (Nat × Option Tok) × Nat) (nodupB C, disjB C Z, (imp r n).1, (callOut (mkSt sl tk n) (imp r n).1 (imp r n).2.1 (backo (avs ++ cap) xs ss (imp r n).2.2).1 C Z n (backo (avs ++ cap) xs ss (imp r n).2.2).2).tk, (backo (avs ++ cap) xs ss (imp r n).2.2).2)
      (true, true, av, ts, n + m))
    (k : RunK P ops l (mkSt ((d, some av) :: sl) (ts ++ tk) (n + m)) (fun ms => K ((C ++ Z, .out ⟨some av, ts, List.range' n m⟩) :: ms))) :
    RunK P ops (o :: l) (mkSt sl tk n) K := by
  simp only [Prod.mk.injEq] at h h'
  obtain ⟨h1, h2, h3, h4, h5⟩ := h; obtain ⟨g1, g2, g3, g4, g5⟩ := h'
  exact .call av ts m hsp h1 (by rw [h2]; rfl) h3 hok h4 h5 hc g1 g2 g3 g4 g5 k
theorem RunK.U {v : AV} {fp : List Nat} {j dj : Nat} {want b : Bool} {oj : Oper} (h0 : @Eq (Option Nat × Option (Nat × Bool) × Option Oper × Option Nat × Option AV) (o.dst, o.guard, ops[j]?, oj.dst, lks sl dj) (some d, some (j, want), some oj, some dj, some (.imm (.val (.bool b))))) (hb : b = want)
    (h : OpL P o (mkSt sl tk n) fp ⟨some v, [], []⟩) (k : RunK P ops l (mkSt ((d, some v) :: sl) tk n) (fun ms => K ((fp, .out ⟨some v, [], []⟩) :: ms))) : RunK P ops (o :: l) (mkSt sl tk n) K := by
  simp only [Prod.mk.injEq] at h0; exact .v h0.1 (by rw [h0.2.1]; exact met h0.2.2.1 h0.2.2.2.1 h0.2.2.2.2 hb) h k
theorem RunK.X {j dj : Nat} {want b : Bool} {oj : Oper} (h0 : @Eq (Option Nat × Option (Nat × Bool) × Option Oper × Option Nat × Option AV) (o.dst, o.guard, ops[j]?, oj.dst, lks sl dj) (some d, some (j, want), some oj, some dj, some (.imm (.val (.bool b))))) (hb : b = !want)
    (k : RunK P ops l (mkSt ((d, some (.imm (.val undef))) :: sl) tk n) (fun ms => K (([], .skip) :: ms))) : RunK P ops (o :: l) (mkSt sl tk n) K := by
  simp only [Prod.mk.injEq] at h0; exact .x h0.1 (by rw [h0.2.1]; exact unmet h0.2.2.1 h0.2.2.2.1 h0.2.2.2.2 hb) k
theorem RunK.N {x : Operand} {y : AV} {j dj : Nat} {want b : Bool} {oj : Oper} (h0 : @Eq (Option Nat × Option (Nat × Bool) × Option Oper × Option Nat × Option AV × Op × Option AV) (o.dst, o.guard, ops[j]?, oj.dst, lks sl dj, o.op, rd (mkSt sl tk n) x) (some d, some (j, want), some oj, some dj, some (.imm (.val (.bool b))), .move x, some y)) (hb : b = want)
    (k : RunK P ops l (mkSt ((d, some y) :: sl) tk n) (fun ms => K (([], .out ⟨some y, [], []⟩) :: ms))) : RunK P ops (o :: l) (mkSt sl tk n) K := by
  simp only [Prod.mk.injEq] at h0; exact .m h0.1 (by rw [h0.2.1]; exact met h0.2.2.1 h0.2.2.2.1 h0.2.2.2.2.1 hb) h0.2.2.2.2.2.1 h0.2.2.2.2.2.2 k
theorem RunK.G {op : BinOp} {t t' : TypeId} {x y : Operand} {k₀ : IntKind} {m m' : Int} {z : Value} {j dj : Nat} {want b : Bool} {oj : Oper} (h0 : @Eq (Option Nat × Option (Nat × Bool) × Option Oper × Option Nat × Option AV) (o.dst, o.guard, ops[j]?, oj.dst, lks sl dj) (some d, some (j, want), some oj, some dj, some (.imm (.val (.bool b))))) (hb : b = want)
    (h : @Eq (Op × Option AV × Option AV × Option Value) (o.op, rd (mkSt sl tk n) x, rd (mkSt sl tk n) y, Pm.binI op k₀ m m') (.binOp op t x y t', some (.imm (.val (.int k₀ m))), some (.imm (.val (.int k₀ m'))), some z))
    (k : RunK P ops l (mkSt ((d, some (.imm (.val z))) :: sl) tk n) (fun ms => K (([], .out ⟨some (.imm (.val z)), [], []⟩) :: ms))) : RunK P ops (o :: l) (mkSt sl tk n) K := by
  simp only [Prod.mk.injEq] at h; exact .U h0 hb (OpL.binI h.1 h.2.1 h.2.2.1 h.2.2.2) k
theorem RunK.H {s f off : Nat} {x : Operand} {p q : AV} {j dj : Nat} {want b : Bool} {oj : Oper} (hf : fieldB P s f off = true) (h0 : @Eq (Option Nat × Option (Nat × Bool) × Option Oper × Option Nat × Option AV) (o.dst, o.guard, ops[j]?, oj.dst, lks sl dj) (some d, some (j, want), some oj, some dj, some (.imm (.val (.bool b))))) (hb : b = want)
    (h : @Eq (Op × Option AV × Option AV) (o.op, rd (mkSt sl tk n) x, p.plus off) (.fieldAddr s x f, some p, some q))
    (k : RunK P ops l (mkSt ((d, some q) :: sl) tk n) (fun ms => K (([], .out ⟨some q, [], []⟩) :: ms))) : RunK P ops (o :: l) (mkSt sl tk n) K := by
  simp only [Prod.mk.injEq] at h; exact .U h0 hb (O.fld hf h.1 h.2.1 h.2.2) k
theorem RunK.T {c x y : Operand} {b : Bool} {z : AV} (hb : b = true) (h : @Eq (Option Nat × Option (Nat × Bool) × Op × Option AV × Option AV) (o.dst, o.guard, o.op, rd (mkSt sl tk n) c, rd (mkSt sl tk n) x) (some d, none, .pick c x y, some (.imm (.val (.bool b))), some z))
    (k : RunK P ops l (mkSt ((d, some z) :: sl) tk n) (fun ms => K (([], .out ⟨some z, [], []⟩) :: ms))) : RunK P ops (o :: l) (mkSt sl tk n) K := by
  simp only [Prod.mk.injEq] at h; exact .v h.1 (by rw [h.2.1]; rfl) (O.pickT hb h.2.2.1 h.2.2.2.1 h.2.2.2.2) k
theorem RunK.E {c x y : Operand} {b : Bool} {z : AV} (hb : b = false) (h : @Eq (Option Nat × Option (Nat × Bool) × Op × Option AV × Option AV) (o.dst, o.guard, o.op, rd (mkSt sl tk n) c, rd (mkSt sl tk n) y) (some d, none, .pick c x y, some (.imm (.val (.bool b))), some z))
    (k : RunK P ops l (mkSt ((d, some z) :: sl) tk n) (fun ms => K (([], .out ⟨some z, [], []⟩) :: ms))) : RunK P ops (o :: l) (mkSt sl tk n) K := by
  simp only [Prod.mk.injEq] at h; exact .v h.1 (by rw [h.2.1]; rfl) (O.pickF hb h.2.2.1 h.2.2.2.1 h.2.2.2.2) k
end
theorem lv {P : Program} {σ : St} {fn : Func} {x : X} {r : T} {y : AV} (h1 : resAs P σ fn.results.toList = some [y]) (h2 : wrapRes [y] = .imm r) : Leaves P fn [x] (.imm r) [none] .ret σ :=
  leaves (C1 := []) (Z1 := []) (.inr rfl) h1 (by rw [h2]; exact Cf.imm r) (cN .nil) rfl rfl
theorem W.cnd {P : Program} {σ : St} {c d : Code} {KK : Px → St → Prop} {x : Operand} {b : Bool} {α : Type} {m m' : Option α} {r : α} (hx : rd σ x = some (.imm (.val (.bool b)))) (h : (if b = true then m else m') = some r)
    (ht : b = true → m = some r → W P c σ KK) (hf : b = false → m' = some r → W P d σ KK) : W P (.cond x c d) σ KK := W.cond hx (fun q => ht q (ifT q h)) (fun q => hf q (ifF q h))
theorem Gm {sl sl' : List (Nat × Option AV)} {tk tk' : List (Nat × Option Tok)} {n n' : Nat} (ρ : List (Nat × Nat)) (h1 : RS (lkr ρ) n' (lks sl) sl') (h2 : RT (lkr ρ) n' (lkt tk) tk')
    (h : @Eq (Bool × Bool × Bool) (nodupB ((tk'.map (·.1)).map (lkr ρ)), ρ.all fun p => Nat.ble 1000 p.1, Nat.ble 1000 n') (true, true, true)) : Gives (mkSt sl tk n) (mkSt sl' tk' n') := by
  simp only [Prod.mk.injEq] at h; exact Gives.mkR ρ h1 h2 h.1 h.2.1 h.2.2
end Go.Pm
namespace Go.Pm
abbrev zl1 : List AV := .b false :: []
abbrev zl2 : List AV := .i 0 :: zl1
abbrev zl3 : List AV := .i 0 :: zl2
abbrev zl4 : List AV := .s [] :: zl3
abbrev zl5 : List AV := .i 0 :: zl4
end Go.Pm
namespace Go.Proofs.YtjdkibnhlmgppaaGreat
open Go Go.Pm
set_option linter.unusedVariables false
set_option maxRecDepth 100000
set_option maxHeartbeats 4000000
set_option linter.unusedSimpArgs false
noncomputable def auth_New.f  : Option (auth_List) :=
 some (⟨[], true⟩ : auth_List)
theorem auth_New.ok  {r : auth_List} (h : auth_New.f  = some r) : Pm.Spec prog 29 [] (.xbox [.xown 32 5 (List.map auth_Member.enc r.l), .imm (.val (.bool r.made))]) [] := by
 unfold auth_New.f at h; refine Pm.Spec.of_body Tryz.func29 Z (by kernel_rfl) (L Z) (L Z) ?_; refine W.ghost (σ' := (mkSt [] [] 1000)) (Gives.entry .n .n) (W.seq (W.pk (.A Z (.nil (W.seq (W.pk (.V Z (O.build (out := [.imm (.val (.slice none 0 0)), .b true]) bl79 Z Z Z Z (by kernel_rfl)) ?_))))))); refine .t Z Z (O.box Z Z Z Z Z) (.A Z (.nil (W.ret ?_))); cases h; exact leaves (.inr Z) Z (.ptr _ _ _ _ _ Z (cC (.nilown _ _) (cI .nil))) .nil Z Z

noncomputable def lombardref05_digits.b0 (x0 : Bs) (v18 : Int) (v19 : List Int) : Option ((Int × (List Int)) ⊕ (((List Int) × Bool) ⊕ (List Int))) :=
 if (decide (v18 < (List.length x0 : Int))) = true then
 if (0 : Int) ≤ v18 ∧ v18 < (List.length x0 : Int) then
 if ((decide ((IntKind.wrap .i64 (byte x0 v18)) ≥ 48)) && (decide ((IntKind.wrap .i64 (byte x0 v18)) ≤ 57))) = true then
 if (List.length v19 + List.length [(IntKind.wrap .i64 ((IntKind.wrap .i64 (byte x0 v18)) - 48))]) * 8 ≤ 140737488355328 then
 some (.inl ((IntKind.wrap .i64 (v18 + 1)), (v19 ++ [(IntKind.wrap .i64 ((IntKind.wrap .i64 (byte x0 v18)) - 48))])))
 else none
 else if ((decide ((IntKind.wrap .i64 (byte x0 v18)) ≥ 65)) && (decide ((IntKind.wrap .i64 (byte x0 v18)) ≤ 90))) = true then
 if (List.length v19 + List.length [(IntKind.wrap .i64 (Int.tdiv (IntKind.wrap .i64 ((IntKind.wrap .i64 ((IntKind.wrap .i64 (byte x0 v18)) - 65)) + 10)) 10)), (Int.tmod (IntKind.wrap .i64 ((IntKind.wrap .i64 ((IntKind.wrap .i64 (byte x0 v18)) - 65)) + 10)) 10)]) * 8 ≤ 140737488355328 then
 some (.inl ((IntKind.wrap .i64 (v18 + 1)), (v19 ++ [(IntKind.wrap .i64 (Int.tdiv (IntKind.wrap .i64 ((IntKind.wrap .i64 ((IntKind.wrap .i64 (byte x0 v18)) - 65)) + 10)) 10)), (Int.tmod (IntKind.wrap .i64 ((IntKind.wrap .i64 ((IntKind.wrap .i64 (byte x0 v18)) - 65)) + 10)) 10)])))
 else none
 else some (.inr (.inl ([], false)))
 else none
 else some (.inr (.inr v19))
noncomputable def lombardref05_digits.r0 (x0 : Bs) (s : Int × (List Int)) : Option ((Int × (List Int)) ⊕ (((List Int) × Bool) ⊕ (List Int))) := lombardref05_digits.b0 x0 s.1 s.2
noncomputable def lombardref05_digits.f (x0 : Bs) : Option ((List Int) × Bool) :=
 (loop (lombardref05_digits.r0 x0) (0, [])).bind fun o37 =>
 match o37 with
 | .inl r48 => some r48
 | .inr w36 =>
 some (w36, true)
theorem lombardref05_digits.ok {x0 : Bs} {r : (List Int) × Bool} (h : lombardref05_digits.f x0 = some r) : Pm.Spec prog 120 [.imm (.val (.string (tx x0)))] (.tup [.xown 3 1 (List.map (encI .i64) r.1), .imm (.val (.bool r.2))]) [none] := by
 unfold lombardref05_digits.f at h; refine Pm.Spec.of_body Tryz.func120 Z (by kernel_rfl) (L Z) (L Z) ?_; refine W.ghost (σ' := (mkSt [(0, some (.s x0))] [] 1000)) (Gives.entry (.c Z .n) .n) (W.seq (W.pk (.A Z (.A Z (.nil (W.seq (W.pk (.A Z (.nil (W.seq (W.seq ?_))))))))))); refine W.pk (.A Z (.nil (W.ghost (Gives.mintS 4 3 1 Z) ?_))); obtain ⟨o37, b38, z39⟩ := bnd1 h; refine W.fork2 (out := o37) (fun (w36 : List Int) => mkSt [(4, some (.own 1000))] [(1000, some (.rows 3 1 (List.map (encI .i64) w36) false))] 1001) ?_ ?_
 ·clear h; refine W.block (W.loopF (fun (s_ : Int × (List Int)) => mkSt [(0, some (.s x0)), (4, some (.own 1000)), (5, some (.i s_.1))] [(1000, some (.rows 3 1 (List.map (encI .i64) s_.2) false))] 1001) b38 (Gm [] (.e Z Z) (.r Z Z Z .n) Z) ?_); rintro ⟨v18, v19⟩ s_ hr; have h : lombardref05_digits.b0 x0 v18 v19 = some s_ := hr; unfold lombardref05_digits.b0 at h; refine W.seq (W.seq (W.pk (.M Z (.M Z (.V Z (O.lenS u9 Z Z) (.B Z (.nil (W.cnd Z h (fun q40 h => ?_) (fun q40 h => ?_)))))))))
  ·refine W.skip (W.seq (W.block (W.seq ?_))); obtain ⟨c41, h⟩ := chk h; refine W.pk (.M Z (.M Z (.V Z (O.idxS u9 c41 Z Z Z) (.V Z (O.conv h5 u3 Z Z) (.A Z (.nil (W.seq (W.fork (mkSt [(0, some (.s x0)), (4, some (.own 1000)), (5, some (.i v18)), (6, some (.i (IntKind.wrap .i64 (byte x0 v18)))), (22, some (.b ((decide ((IntKind.wrap .i64 (byte x0 v18)) ≥ 48)) && (decide ((IntKind.wrap .i64 (byte x0 v18)) ≤ 57)))))] [(1000, some (.rows 3 1 (List.map (encI .i64) v19) false))] 1001) ?_ ?_))))))))
   ·refine W.cnd Z h (fun q43 h => ?_) (fun q43 h => ?_)
    ·obtain ⟨c44, h⟩ := chk h; refine W.pk (.M Z (.M Z (.B Z (.t Z Z (O.lit (enc := (encI .i64)) (l := [(IntKind.wrap .i64 ((IntKind.wrap .i64 (byte x0 v18)) - 48))]) sl54 Z Z Z Z Z Z Z Z Z) (.t Z Z (O.appO sl54 (EncOk.int .i64) c44 Z Z Z Z Z) (.A Z (.nil (W.pk (.M Z (.B Z (.A Z ?_))))))))))); refine .nil ?_; cases h; exact rdN (Gm [(1000, 1002)] (.e Z Z) (.r Z Z Z .n) Z)
    ·refine W.seq (W.fork (mkSt [(0, some (.s x0)), (4, some (.own 1000)), (5, some (.i v18)), (6, some (.i (IntKind.wrap .i64 (byte x0 v18)))), (33, some (.b ((decide ((IntKind.wrap .i64 (byte x0 v18)) ≥ 65)) && (decide ((IntKind.wrap .i64 (byte x0 v18)) ≤ 90)))))] [(1000, some (.rows 3 1 (List.map (encI .i64) v19) false))] 1001) ?_ ?_)
     ·refine W.cnd Z h (fun q46 h => ?_) (fun q46 h => ?_)
      ·obtain ⟨c47, h⟩ := chk h; refine W.pk (.M Z (.M Z (.B Z (.B Z (.V Z (O.quo Z Z Z (by decide)) ?_))))); refine .M Z (.B Z (.B Z (.V Z (O.rem Z Z Z (by decide)) ?_))); refine .t Z Z (O.lit (enc := (encI .i64)) (l := [(IntKind.wrap .i64 (Int.tdiv (IntKind.wrap .i64 ((IntKind.wrap .i64 ((IntKind.wrap .i64 (byte x0 v18)) - 65)) + 10)) 10)), (Int.tmod (IntKind.wrap .i64 ((IntKind.wrap .i64 ((IntKind.wrap .i64 (byte x0 v18)) - 65)) + 10)) 10)]) sl54 Z Z Z Z Z Z Z Z Z) (.t Z Z (O.appO sl54 (EncOk.int .i64) c47 Z Z Z Z Z) (.A Z (.nil (W.pk (.M Z (.B Z (.A Z (.nil ?_)))))))); cases h; exact rdN (Gm [(1000, 1002)] (.e Z Z) (.r Z Z Z .n) Z)
      ·refine W.seq (W.pk (.A Z (.A Z (.nil (W.ret ?_))))); cases h; refine rdR fun e_ => ?_; subst e_; have h := z39; dsimp only at h; refine fkR ?_; cases h; exact leaves (.inr Z) Z (.tup _ _ _ _ (cC (.nilown _ _) (cI .nil))) (cN .nil) Z Z
     ·clear h; refine W.pk (.M Z (.B Z (.M Z ?_))); rcases tf (decide ((IntKind.wrap .i64 (byte x0 v18)) ≥ 65)) with g45 | g45
      ·exact .N Z g45 (.G Z g45 Z (.T g45 Z (.nil (toN (Gm [] (.r Z Z (.r Z Z (.r Z Z (.r Z Z (.c Z (sbb (by simp only [g45, BL])) Z .n))))) (.r Z Z Z .n) Z)))))
      ·exact .X Z g45 (.X Z g45 (.E g45 Z (.nil (toN (Gm [] (.r Z Z (.r Z Z (.r Z Z (.r Z Z (.c Z (sbb (by simp only [g45, BL])) Z .n))))) (.r Z Z Z .n) Z)))))
   ·clear h; refine W.pk (.M Z (.B Z (.M Z ?_))); rcases tf (decide ((IntKind.wrap .i64 (byte x0 v18)) ≥ 48)) with g42 | g42
    ·exact .N Z g42 (.G Z g42 Z (.T g42 Z (.nil (toN (Gm [] (.r Z Z (.r Z Z (.r Z Z (.r Z Z (.c Z (sbb (by simp only [g42, BL])) Z .n))))) (.r Z Z Z .n) Z)))))
    ·exact .X Z g42 (.X Z g42 (.E g42 Z (.nil (toN (Gm [] (.r Z Z (.r Z Z (.r Z Z (.r Z Z (.c Z (sbb (by simp only [g42, BL])) Z .n))))) (.r Z Z Z .n) Z)))))
  ·refine W.exit ?_; cases h; refine rdX fun e_ => ?_; subst e_; (repeat with_reducible refine thru ?_); exact hit (fkN (Gm [] (.r Z Z .n) (.r Z Z Z .n) Z))
 ·intro w36 e_; subst e_; clear h; have h := z39; dsimp only at h; refine W.seq (W.pk (.M Z (.A Z (.A Z (.nil (W.ret ?_)))))); cases h; exact leaves (.inr Z) Z (.tup _ _ _ _ (cC (.own _ _ _ _ Z) (cI .nil))) (cN .nil) Z Z

noncomputable def lombardref05_shaped.f (x0 : Bs) : Option (Bool) :=
 (lombardref05_digits.f x0).bind fun t1 =>
 if ((t1.2 && ((List.length x0 : Int) == 11)) = true → (0 : Int) ≤ 0 ∧ 0 < (List.length x0 : Int)) then
 if (((t1.2 && ((List.length x0 : Int) == 11)) && (decide ((byte x0 0) ≥ 65))) = true → (0 : Int) ≤ 1 ∧ 1 < (List.length x0 : Int)) then
 some (((t1.2 && ((List.length x0 : Int) == 11)) && (decide ((byte x0 0) ≥ 65))) && (decide ((byte x0 1) ≥ 65)))
 else none
 else none
theorem lombardref05_shaped.ok {x0 : Bs} {r : Bool} (h : lombardref05_shaped.f x0 = some r) : Pm.Spec prog 111 [.imm (.val (.string (tx x0)))] (.imm (.val (.bool r))) [none] := by
 unfold lombardref05_shaped.f at h; refine Pm.Spec.of_body Tryz.func111 Z (by kernel_rfl) (L Z) (L Z) ?_; refine W.ghost (σ' := (mkSt [(0, some (.s x0))] [] 1000)) (Gives.entry (.c Z .n) .n) (W.seq (W.pk (.A Z (.nil (W.seq ?_))))); obtain ⟨t1, b2, h⟩ := bnd1 h; refine W.pk (.M Z (.C (.tup [.own 1000, .b t1.2]) [(1000, some (.rows 3 1 (List.map (encI .i64) t1.1) false))] 1 (lombardref05_digits.ok b2) ca120 Z (cI .nil) Z ?_)); refine .M Z ?_; (iterate 2 refine .V Z (OpL.extract Z Z Z) ?_); refine .A Z (.A Z (.nil (W.seq ?_))); obtain ⟨c3, h⟩ := chk h; obtain ⟨c4, h⟩ := chk h; refine W.fork (mkSt [(2, some (.b (((t1.2 && ((List.length x0 : Int) == 11)) && (decide ((byte x0 0) ≥ 65))) && (decide ((byte x0 1) ≥ 65)))))] [] 1001) ?_ ?_
 ·refine W.ret ?_; cases h; exact lv Z Z
 ·clear h; refine W.pk (.M Z (.M Z ?_)); rcases tf t1.2 with g5 | g5
  ·refine .N Z g5 (.U Z g5 (O.lenS u9 Z Z) (.G Z g5 Z (.T g5 Z (.M Z ?_)))); rcases tf ((List.length x0 : Int) == 11) with g6 | g6
   ·refine .N Z g6 (.U Z g6 (O.idxS u9 (c3 (by simp only [g5, g6, BL])) Z Z Z) ?_); refine .G Z g6 Z (.T g6 Z (.M Z ?_)); rcases tf (decide ((byte x0 0) ≥ 65)) with g7 | g7
    ·refine .N Z g7 (.U Z g7 (O.idxS u9 (c4 (by simp only [g5, g6, g7, BL])) Z Z Z) ?_); exact .G Z g7 Z (.T g7 Z (.A Z (.nil (toN (Gm [] (.c Z (sbb (by simp only [g5, g6, g7, BL])) Z .n) .n Z)))))
    ·exact .X Z g7 (.X Z g7 (.X Z g7 (.E g7 Z (.A Z (.nil (toN (Gm [] (.c Z (sbb (by simp only [g5, g6, g7, BL])) Z .n) .n Z)))))))
   ·exact .X Z g6 (.X Z g6 (.X Z g6 (.E g6 Z (.M Z (.X Z Z (.X Z Z (.X Z Z (.E Z Z (.A Z (.nil (toN (Gm [] (.c Z (sbb (by simp only [g5, g6, BL])) Z .n) .n Z))))))))))))
  ·refine .X Z g5 (.X Z g5 (.X Z g5 (.E g5 Z (.M Z (.X Z Z (.X Z Z (.X Z Z (.E Z Z (.M Z (.X Z Z (.X Z Z ?_))))))))))); exact .X Z Z (.E Z Z (.A Z (.nil (toN (Gm [] (.c Z (sbb (by simp only [g5, BL])) Z .n) .n Z)))))

noncomputable def lombardref05_right.b0 (t1 : (List Int) × Bool) (v10 : Int) (v11 : Int) : Option ((Int × Int) ⊕ Int) :=
 if (decide (v11 < (List.length t1.1 : Int))) = true then
 if (0 : Int) ≤ (IntKind.wrap .i64 ((IntKind.wrap .i64 ((List.length t1.1 : Int) - 1)) - v11)) ∧ (IntKind.wrap .i64 ((IntKind.wrap .i64 ((List.length t1.1 : Int) - 1)) - v11)) < (List.length t1.1 : Int) then
 ((
 if ((Int.tmod v11 2) == 1) = true then
 some (IntKind.wrap .i64 (2 * (nth t1.1 (IntKind.wrap .i64 ((IntKind.wrap .i64 ((List.length t1.1 : Int) - 1)) - v11)))))
 else some (nth t1.1 (IntKind.wrap .i64 ((IntKind.wrap .i64 ((List.length t1.1 : Int) - 1)) - v11))) : Option (Int))).bind fun o34 =>
 some (.inl ((IntKind.wrap .i64 ((IntKind.wrap .i64 (v10 + (IntKind.wrap .i64 (Int.tdiv o34 10)))) + (Int.tmod o34 10))), (IntKind.wrap .i64 (v11 + 1))))
 else none
 else some (.inr v10)
noncomputable def lombardref05_right.r0 (t1 : (List Int) × Bool) (s : Int × Int) : Option ((Int × Int) ⊕ Int) := lombardref05_right.b0 t1 s.1 s.2
noncomputable def lombardref05_right.f (x0 : Bs) : Option (Bool) :=
 (lombardref05_digits.f x0).bind fun t1 =>
 (loop (lombardref05_right.r0 t1) (0, 0)).bind fun o27 =>
 some (t1.2 && ((Int.tmod o27 10) == 0))
theorem lombardref05_right.ok {x0 : Bs} {r : Bool} (h : lombardref05_right.f x0 = some r) : Pm.Spec prog 112 [.imm (.val (.string (tx x0)))] (.imm (.val (.bool r))) [none] := by
 unfold lombardref05_right.f at h; refine Pm.Spec.of_body Tryz.func112 Z (by kernel_rfl) (L Z) (L Z) ?_; refine W.ghost (σ' := (mkSt [(0, some (.s x0))] [] 1000)) (Gives.entry (.c Z .n) .n) (W.seq (W.pk (.A Z (.nil (W.seq ?_))))); obtain ⟨t1, b2, h⟩ := bnd1 h; refine W.pk (.M Z (.C (.tup [.own 1000, .b t1.2]) [(1000, some (.rows 3 1 (List.map (encI .i64) t1.1) false))] 1 (lombardref05_digits.ok b2) ca120 Z (cI .nil) Z ?_)); refine .M Z ?_; (iterate 2 refine .V Z (OpL.extract Z Z Z) ?_); refine .A Z (.A Z (.nil (W.seq (W.pk (.A Z (.nil (W.seq (W.seq (W.pk (.A Z (.nil ?_))))))))))); obtain ⟨o27, b28, h⟩ := bnd1 h; refine W.fork (mkSt [(4, some (.b t1.2)), (5, some (.i o27))] [] 1001) ?_ ?_
 ·refine W.seq (W.fork (mkSt [(2, some (.b (t1.2 && ((Int.tmod o27 10) == 0))))] [] 1001) ?_ ?_)
  ·refine W.ret ?_; cases h; exact lv Z Z
  ·clear h; refine W.pk (.M Z (.M Z ?_)); rcases tf t1.2 with g37 | g37
   ·refine .N Z g37 (.U Z g37 (O.rem Z Z Z (by decide)) ?_); exact .G Z g37 Z (.T g37 Z (.A Z (.nil (toN (Gm [] (.c Z (sbb (by simp only [g37, BL])) Z .n) .n Z)))))
   ·(iterate 3 refine .X Z g37 ?_); exact .E g37 Z (.A Z (.nil (toN (Gm [] (.c Z (sbb (by simp only [g37, BL])) Z .n) .n Z))))
 ·clear h; refine W.block (W.loopF (fun (s_ : Int × Int) => mkSt [(3, some (.own 1000)), (4, some (.b t1.2)), (5, some (.i s_.1)), (6, some (.i s_.2))] [(1000, some (.rows 3 1 (List.map (encI .i64) t1.1) false))] 1001) b28 (Gm [] (.e Z Z) (.r Z Z Z .n) Z) ?_); rintro ⟨v10, v11⟩ s_ hr; have h : lombardref05_right.b0 t1 v10 v11 = some s_ := hr; unfold lombardref05_right.b0 at h; refine W.seq (W.seq (W.pk (.M Z (.M Z (.V Z (O.lenO sl54 Z Z Z) (.B Z (.nil (W.cnd Z h (fun q30 h => ?_) (fun q30 h => ?_)))))))))
  ·refine W.skip (W.seq (W.block (W.seq ?_))); obtain ⟨c31, h⟩ := chk h; refine W.pk (.M Z (.M Z (.V Z (O.lenO sl54 Z Z Z) (.B Z (.M Z (.B Z (.V Z (O.idxO sl54 c31 Z Z Z Z) (.V Z (O.ldE (c := (.val (.int .i64 (nth t1.1 (IntKind.wrap .i64 ((IntKind.wrap .i64 ((List.length t1.1 : Int) - 1)) - v11)))))) ty3 c31 Z Z Z Z Z) (.A Z (.nil (W.seq ?_))))))))))); refine W.seq (W.pk (.M Z (.V Z (O.rem Z Z Z (by decide)) ?_))); refine .B Z (.nil ?_); obtain ⟨o34, b35, h⟩ := bnd1 h; refine W.fork (mkSt [(3, some (.own 1000)), (4, some (.b t1.2)), (5, some (.i v10)), (6, some (.i v11)), (7, some (.i o34))] [(1000, some (.rows 3 1 (List.map (encI .i64) t1.1) false))] 1001) ?_ ?_
   ·refine W.pk (.M Z (.M Z (.V Z (O.quo Z Z Z (by decide)) ?_))); refine .B Z (.M Z (.V Z (O.rem Z Z Z (by decide)) ?_)); refine .B Z (.A Z (.nil (W.pk (.M Z (.B Z (.A Z (.nil ?_))))))); cases h; exact rdN (Gm [] (.e Z Z) (.r Z Z Z .n) Z)
   ·clear h; have h := b35; refine W.cnd Z h (fun q36 h => ?_) (fun q36 h => ?_)
    ·refine W.pk (.M Z (.B Z (.A Z (.nil ?_)))); cases h; exact toN (Gm [] (.e Z Z) (.r Z Z Z .n) Z)
    ·refine W.skip ?_; cases h; exact toN (Gm [] (.e Z Z) (.r Z Z Z .n) Z)
  ·refine W.exit ?_; cases h; refine rdX fun e_ => ?_; subst e_; (repeat with_reducible refine thru ?_); exact hit (toN (Gm [] (.e Z Z) .n Z))

noncomputable def lombardref05_Check.f (x0 : Bs) : Option (Int) :=
 if (((List.length x0 : Int) != 12) = false → (0 : Int) ≤ 11 ∧ 11 < (List.length x0 : Int)) then
 if ((((List.length x0 : Int) != 12) || (decide ((byte x0 11) < 48))) = false → (0 : Int) ≤ 11 ∧ 11 < (List.length x0 : Int)) then
 if (((((List.length x0 : Int) != 12) || (decide ((byte x0 11) < 48))) || (decide ((byte x0 11) > 57))) = false → (0 : Int) ≤ 0 ∧ (0 : Int) ≤ 11 ∧ 11 ≤ (List.length x0 : Int)) then
 (if ((((List.length x0 : Int) != 12) || (decide ((byte x0 11) < 48))) || (decide ((byte x0 11) > 57))) = false then lombardref05_shaped.f (List.take (Int.toNat 11 - Int.toNat 0) (List.drop (Int.toNat 0) x0)) else some default).bind fun t4 =>
 if (((((List.length x0 : Int) != 12) || (decide ((byte x0 11) < 48))) || (decide ((byte x0 11) > 57))) || (!t4)) = true then
 some 11
 else (lombardref05_right.f x0).bind fun t10 =>
 if (!t10) = true then
 some 12
 else some 0
 else none
 else none
 else none
theorem lombardref05_Check.ok {x0 : Bs} {r : Int} (h : lombardref05_Check.f x0 = some r) : Pm.Spec prog 96 [.imm (.val (.string (tx x0)))] (.imm (.val (.int .i64 r))) [none] := by
 unfold lombardref05_Check.f at h; refine Pm.Spec.of_body Tryz.func96 Z (by kernel_rfl) (L Z) (L Z) ?_; refine W.ghost (σ' := (mkSt [(0, some (.s x0))] [] 1000)) (Gives.entry (.c Z .n) .n) (W.seq (W.pk (.A Z (.nil (W.seq (W.seq ?_)))))); obtain ⟨c1, h⟩ := chk h; obtain ⟨c2, h⟩ := chk h; obtain ⟨c3, h⟩ := chk h; obtain ⟨t4, b5, h⟩ := bnd1 h; refine W.fork (mkSt [(0, some (.s x0)), (21, some (.b (((((List.length x0 : Int) != 12) || (decide ((byte x0 11) < 48))) || (decide ((byte x0 11) > 57))) || (!t4))))] [] 1000) ?_ ?_
 ·refine W.cnd Z h (fun q9 h => ?_) (fun q9 h => ?_)
  ·refine W.seq (W.pk (.A Z (.nil (W.ret ?_)))); cases h; exact lv Z Z
  ·refine W.skip (W.seq (W.seq ?_)); obtain ⟨t10, b11, h⟩ := bnd1 h; refine W.pk (.M Z (.C (.b t10) [] 0 (lombardref05_right.ok b11) ca112 Z (cI .nil) Z ?_)); refine .V Z (OpL.unV Z Z Z) (.nil (W.cnd Z h (fun q12 h => ?_) (fun q12 h => ?_)))
   ·refine W.seq (W.pk (.A Z (.nil (W.ret ?_)))); cases h; exact lv Z Z
   ·refine W.skip (W.seq (W.pk (.A Z (.nil (W.ret ?_))))); cases h; exact lv Z Z
 ·clear h; refine W.pk (.M Z (.V Z (O.lenS u9 Z Z) (.B Z (.M Z ?_)))); rcases tf ((List.length x0 : Int) != 12) with g6 | g6
  ·refine .X Z g6 (.X Z g6 (.X Z g6 (.T g6 Z (.M Z (.X Z Z (.X Z Z (.X Z Z (.T Z Z (.M Z ?_))))))))); (iterate 4 refine .X Z Z ?_); exact .T Z Z (.nil (toN (Gm [] (.r Z Z (.c Z (sbb (by simp only [g6, BL])) Z .n)) .n Z)))
  ·refine .N Z g6 (.U Z g6 (O.idxS u9 (c1 (by simp only [g6, BL])) Z Z Z) ?_); refine .G Z g6 Z (.E g6 Z (.M Z ?_)); rcases tf (decide ((byte x0 11) < 48)) with g7 | g7
   ·refine .X Z g7 (.X Z g7 (.X Z g7 (.T g7 Z (.M Z ?_)))); (iterate 4 refine .X Z Z ?_); exact .T Z Z (.nil (toN (Gm [] (.r Z Z (.c Z (sbb (by simp only [g6, g7, BL])) Z .n)) .n Z)))
   ·refine .N Z g7 (.U Z g7 (O.idxS u9 (c2 (by simp only [g6, g7, BL])) Z Z Z) ?_); refine .G Z g7 Z (.E g7 Z (.M Z ?_)); rcases tf (decide ((byte x0 11) > 57)) with g8 | g8
    ·(iterate 4 refine .X Z g8 ?_); exact .T g8 Z (.nil (toN (Gm [] (.r Z Z (.c Z (sbb (by simp only [g6, g7, g8, BL])) Z .n)) .n Z)))
    ·refine .N Z g8 (.U Z g8 (O.partS u9 (c3 (by simp only [g6, g7, g8, BL])) Z Z Z Z) ?_); refine .call (.b t4) [] 0 (lombardref05_shaped.ok ((if_pos (by simp only [g6, g7, g8, BL])).symm.trans b5)) Z (met Z Z Z g8) Z ca111 Z Z (cI .nil) Z Z Z Z Z ?_; exact .U Z g8 (OpL.unV Z Z Z) (.E g8 Z (.nil (toN (Gm [] (.r Z Z (.c Z (sbb (by simp only [g6, g7, g8, BL])) Z .n)) .n Z))))

noncomputable def lombardref05_Currency.b0 (x0 : Bs) (v4 : Int) : Option (Int ⊕ (Bool ⊕ Unit)) :=
 if (decide (v4 < 32)) = true then
 if (0 : Int) ≤ v4 ∧ v4 ≤ (IntKind.wrap .i64 (v4 + 3)) ∧ (IntKind.wrap .i64 (v4 + 3)) ≤ (List.length [69, 85, 82, 32, 85, 83, 68, 32, 71, 66, 80, 32, 67, 72, 70, 32, 74, 80, 89, 32, 83, 69, 75, 32, 78, 79, 75, 32, 68, 75, 75, 32] : Int) then
 if ((List.take (Int.toNat (IntKind.wrap .i64 (v4 + 3)) - Int.toNat v4) (List.drop (Int.toNat v4) [69, 85, 82, 32, 85, 83, 68, 32, 71, 66, 80, 32, 67, 72, 70, 32, 74, 80, 89, 32, 83, 69, 75, 32, 78, 79, 75, 32, 68, 75, 75, 32])) == x0) = true then
 some (.inr (.inl true))
 else some (.inl (IntKind.wrap .i64 (v4 + 4)))
 else none
 else some (.inr (.inr ()))
noncomputable def lombardref05_Currency.r0 (x0 : Bs) (s : Int) : Option (Int ⊕ (Bool ⊕ Unit)) := lombardref05_Currency.b0 x0 s
noncomputable def lombardref05_Currency.f (x0 : Bs) : Option (Bool) :=
 (loop (lombardref05_Currency.r0 x0) 0).bind fun o12 =>
 match o12 with
 | .inl r18 => some r18
 | .inr w11 =>
 some false
theorem lombardref05_Currency.ok {x0 : Bs} {r : Bool} (h : lombardref05_Currency.f x0 = some r) : Pm.Spec prog 77 [.imm (.val (.string (tx x0)))] (.imm (.val (.bool r))) [none] := by
 unfold lombardref05_Currency.f at h; refine Pm.Spec.of_body Tryz.func77 Z (by kernel_rfl) (L Z) (L Z) ?_; refine W.ghost (σ' := (mkSt [(0, some (.s x0))] [] 1000)) (Gives.entry (.c Z .n) .n) (W.seq (W.pk (.A Z (.nil (W.seq (W.seq (W.pk (.A Z (.nil ?_))))))))); obtain ⟨o12, b13, z14⟩ := bnd1 h; refine W.fork2 (out := o12) (fun (w11 : Unit) => mkSt [] [] 1000) ?_ ?_
 ·clear h; refine W.block (W.loopF (fun (s_ : Int) => mkSt [(0, some (.s x0)), (3, some (.i s_))] [] 1000) b13 (Gm [] (.e Z Z) .n Z) ?_); rintro v4 s_ hr; have h : lombardref05_Currency.b0 x0 v4 = some s_ := hr; unfold lombardref05_Currency.b0 at h; refine W.seq (W.seq (W.pk (.M Z (.B Z (.nil (W.cnd Z h (fun q15 h => ?_) (fun q15 h => ?_)))))))
  ·refine W.skip (W.seq (W.block (W.seq ?_))); obtain ⟨c16, h⟩ := chk h; refine W.pk (.M Z (.M Z (.B Z (.V Z (O.partS u9 c16 Z Z Z Z) (.M Z (.V Z (O.cmpS Z Z Z Z) (.nil (W.cnd Z h (fun q17 h => ?_) (fun q17 h => ?_)))))))))
   ·refine W.seq (W.pk (.A Z (.nil (W.ret ?_)))); cases h; refine rdR fun e_ => ?_; subst e_; have h := z14; dsimp only at h; refine fkR ?_; cases h; exact lv Z Z
   ·refine W.skip (W.pk (.M Z (.B Z (.A Z (.nil ?_))))); cases h; exact rdN (Gm [] (.e Z Z) .n Z)
  ·refine W.exit ?_; cases h; refine rdX fun e_ => ?_; subst e_; (repeat with_reducible refine thru ?_); exact hit (fkN (Gm [] .n .n Z))
 ·intro w11 e_; subst e_; clear h; have h := z14; dsimp only at h; refine W.seq (W.pk (.A Z (.nil (W.ret ?_)))); cases h; exact lv Z Z

noncomputable def lombardref05_Asset.f (x0 : api_Asset) : Option (Int) :=
 (lombardref05_Check.f x0.ISIN).bind fun t1 =>
 if (t1 != 0) = true then
 (lombardref05_Check.f x0.ISIN).bind fun t4 =>
 some t4
 else (lombardref05_Currency.f x0.Currency).bind fun t6 =>
 if (!t6) = true then
 some 11
 else if ((((decide (x0.Issuer < 0)) || (decide (x0.Issuer > 9999))) || (decide (x0.Rating < 0))) || (decide (x0.Rating > 20))) = true then
 some 1
 else if ((decide (x0.Maturity < 0)) || (decide (x0.Maturity > 200000))) = true then
 some 10
 else some 0
theorem lombardref05_Asset.ok {x0 : api_Asset} {r : Int} (h : lombardref05_Asset.f x0 = some r) : Pm.Spec prog 73 [.agg (im (api_Asset.enc x0))] (.imm (.val (.int .i64 r))) [none] := by
 unfold lombardref05_Asset.f at h; refine Pm.Spec.of_body Tryz.func73 Z (by kernel_rfl) (L Z) (L Z) ?_; refine W.ghost (σ' := (mkSt [(0, some (.agg (api_Asset.av x0)))] [] 1000)) (Gives.entry (.c Z .n) .n) (W.seq (W.pk (.t Z Z (O.box Z Z Z Z Z) (.A Z (.nil (W.seq (W.seq ?_))))))); obtain ⟨t1, b2, h⟩ := bnd1 h; refine W.pk (.F fld52_0 Z (.V Z (O.ld (y := .s x0.ISIN) ty9 Z Z Z) (.C (.i t1) [] 0 (lombardref05_Check.ok b2) ca96 Z (cI .nil) Z ?_))); refine .B Z (.nil (W.cnd Z h (fun q3 h => ?_) (fun q3 h => ?_)))
 ·refine W.seq ?_; obtain ⟨t4, b5, h⟩ := bnd1 h; refine W.pk (.F fld52_0 Z (.V Z (O.ld (y := .s x0.ISIN) ty9 Z Z Z) (.C (.i t4) [] 0 (lombardref05_Check.ok b5) ca96 Z (cI .nil) Z ?_))); refine .A Z (.nil (W.ret ?_)); cases h; exact lv Z Z
 ·refine W.skip (W.seq (W.seq ?_)); obtain ⟨t6, b7, h⟩ := bnd1 h; refine W.pk (.F fld52_4 Z (.V Z (O.ld (y := .s x0.Currency) ty9 Z Z Z) (.C (.b t6) [] 0 (lombardref05_Currency.ok b7) ca77 Z (cI .nil) Z ?_))); refine .V Z (OpL.unV Z Z Z) (.nil (W.cnd Z h (fun q8 h => ?_) (fun q8 h => ?_)))
  ·refine W.seq (W.pk (.A Z (.nil (W.ret ?_)))); cases h; exact lv Z Z
  ·refine W.skip (W.seq (W.seq (W.fork (mkSt [(1, some (.ptr 1000 0)), (31, some (.b ((((decide (x0.Issuer < 0)) || (decide (x0.Issuer > 9999))) || (decide (x0.Rating < 0))) || (decide (x0.Rating > 20)))))] [(1000, some (.box (api_Asset.av x0)))] 1001) ?_ ?_)))
   ·refine W.cnd Z h (fun q12 h => ?_) (fun q12 h => ?_)
    ·refine W.seq (W.pk (.A Z (.nil (W.ret ?_)))); cases h; exact lv Z Z
    ·refine W.skip (W.seq (W.seq (W.fork (mkSt [(39, some (.b ((decide (x0.Maturity < 0)) || (decide (x0.Maturity > 200000)))))] [] 1001) ?_ ?_)))
     ·refine W.cnd Z h (fun q14 h => ?_) (fun q14 h => ?_)
      ·refine W.seq (W.pk (.A Z (.nil (W.ret ?_)))); cases h; exact lv Z Z
      ·refine W.skip (W.seq (W.pk (.A Z (.nil (W.ret ?_))))); cases h; exact lv Z Z
     ·clear h; refine W.pk (.F fld52_3 Z (.V Z (O.ld (y := .i x0.Maturity) ty3 Z Z Z) (.B Z (.M Z ?_)))); rcases tf (decide (x0.Maturity < 0)) with g13 | g13
      ·(iterate 3 refine .X Z g13 ?_); exact .T g13 Z (.nil (toN (Gm [] (.c Z (sbb (by simp only [g13, BL])) Z .n) .n Z)))
      ·exact .H fld52_3 Z g13 Z (.U Z g13 (O.ld (y := .i x0.Maturity) ty3 Z Z Z) (.G Z g13 Z (.E g13 Z (.nil (toN (Gm [] (.c Z (sbb (by simp only [g13, BL])) Z .n) .n Z))))))
   ·clear h; refine W.pk (.F fld52_1 Z (.V Z (O.ld (y := .i x0.Issuer) ty3 Z Z Z) (.B Z (.M Z ?_)))); rcases tf (decide (x0.Issuer < 0)) with g9 | g9
    ·refine .X Z g9 (.X Z g9 (.X Z g9 (.T g9 Z (.M Z (.X Z Z (.X Z Z (.X Z Z (.T Z Z (.M Z (.X Z Z (.X Z Z ?_))))))))))); exact .X Z Z (.T Z Z (.nil (toN (Gm [] (.r Z Z (.c Z (sbb (by simp only [g9, BL])) Z .n)) (.r Z Z Z .n) Z))))
    ·refine .H fld52_1 Z g9 Z (.U Z g9 (O.ld (y := .i x0.Issuer) ty3 Z Z Z) (.G Z g9 Z (.E g9 Z (.M Z ?_)))); rcases tf (decide (x0.Issuer > 9999)) with g10 | g10
     ·(iterate 3 refine .X Z g10 ?_); exact .T g10 Z (.M Z (.X Z Z (.X Z Z (.X Z Z (.T Z Z (.nil (toN (Gm [] (.r Z Z (.c Z (sbb (by simp only [g9, g10, BL])) Z .n)) (.r Z Z Z .n) Z))))))))
     ·refine .H fld52_2 Z g10 Z (.U Z g10 (O.ld (y := .i x0.Rating) ty3 Z Z Z) (.G Z g10 Z (.E g10 Z (.M Z ?_)))); rcases tf (decide (x0.Rating < 0)) with g11 | g11
      ·(iterate 3 refine .X Z g11 ?_); exact .T g11 Z (.nil (toN (Gm [] (.r Z Z (.c Z (sbb (by simp only [g9, g10, g11, BL])) Z .n)) (.r Z Z Z .n) Z)))
      ·exact .H fld52_2 Z g11 Z (.U Z g11 (O.ld (y := .i x0.Rating) ty3 Z Z Z) (.G Z g11 Z (.E g11 Z (.nil (toN (Gm [] (.r Z Z (.c Z (sbb (by simp only [g9, g10, g11, BL])) Z .n)) (.r Z Z Z .n) Z))))))

noncomputable def lombardref10_in.f (x0 : Int) (x1 : Int) (x2 : Int) : Option (Bool) :=
 some ((decide (x0 ≥ x1)) && (decide (x0 ≤ x2)))
theorem lombardref10_in.ok {x0 : Int} {x1 : Int} {x2 : Int} {r : Bool} (h : lombardref10_in.f x0 x1 x2 = some r) : Pm.Spec prog 97 [.imm (.val (.int .i64 x0)), .imm (.val (.int .i64 x1)), .imm (.val (.int .i64 x2))] (.imm (.val (.bool r))) [none, none, none] := by
 unfold lombardref10_in.f at h; refine Pm.Spec.of_body Tryz.func97 Z (by kernel_rfl) (L Z) (L Z) ?_; refine W.ghost (σ' := (mkSt [(0, some (.i x0)), (1, some (.i x1)), (2, some (.i x2))] [] 1000)) (Gives.entry (.c Z (.c Z (.c Z .n))) .n) (W.seq (W.pk (.A Z (.nil (W.seq (W.fork (mkSt [(6, some (.b ((decide (x0 ≥ x1)) && (decide (x0 ≤ x2)))))] [] 1000) ?_ ?_))))))
 ·refine W.ret ?_; cases h; exact leaves (.inr Z) Z (.imm _) (cN (cN (cN .nil))) Z Z
 ·clear h; refine W.pk (.M Z (.M Z (.B Z (.M Z ?_)))); rcases tf (decide (x0 ≥ x1)) with g1 | g1
  ·exact .N Z g1 (.N Z g1 (.G Z g1 Z (.T g1 Z (.A Z (.nil (toN (Gm [] (.c Z (sbb (by simp only [g1, BL])) Z .n) .n Z)))))))
  ·exact .X Z g1 (.X Z g1 (.X Z g1 (.E g1 Z (.A Z (.nil (toN (Gm [] (.c Z (sbb (by simp only [g1, BL])) Z .n) .n Z)))))))

noncomputable def lombardref10_Amount.f (x0 : Int) : Option (Bool) :=
 some ((decide (x0 ≥ 1)) && (decide (x0 ≤ 1125899906842624)))
theorem lombardref10_Amount.ok {x0 : Int} {r : Bool} (h : lombardref10_Amount.f x0 = some r) : Pm.Spec prog 98 [.imm (.val (.int .i64 x0))] (.imm (.val (.bool r))) [none] := by
 unfold lombardref10_Amount.f at h; refine Pm.Spec.of_body Tryz.func98 Z (by kernel_rfl) (L Z) (L Z) ?_; refine W.ghost (σ' := (mkSt [(0, some (.i x0))] [] 1000)) (Gives.entry (.c Z .n) .n) (W.seq (W.pk (.A Z (.nil (W.seq (W.fork (mkSt [(2, some (.b ((decide (x0 ≥ 1)) && (decide (x0 ≤ 1125899906842624)))))] [] 1000) ?_ ?_))))))
 ·refine W.ret ?_; cases h; exact lv Z Z
 ·clear h; refine W.pk (.M Z (.B Z (.M Z ?_))); rcases tf (decide (x0 ≥ 1)) with g1 | g1
  ·exact .N Z g1 (.G Z g1 Z (.T g1 Z (.A Z (.nil (toN (Gm [] (.c Z (sbb (by simp only [g1, BL])) Z .n) .n Z))))))
  ·exact .X Z g1 (.X Z g1 (.E g1 Z (.A Z (.nil (toN (Gm [] (.c Z (sbb (by simp only [g1, BL])) Z .n) .n Z))))))

noncomputable def lombardref10_Basket.b0 (x0 : api_Basket) (v40 : Int) : Option (Int ⊕ (Int ⊕ Unit)) :=
 if (decide (v40 < (List.length x0.Cuts : Int))) = true then
 if (0 : Int) ≤ v40 ∧ v40 < (List.length x0.Cuts : Int) then
 (lombardref10_in.f ((nth x0.Cuts v40).Days) 0 200000).bind fun t73 =>
 if ((!t73) = false → (0 : Int) ≤ v40 ∧ v40 < (List.length x0.Cuts : Int)) then
 (if (!t73) = false then lombardref10_in.f ((nth x0.Cuts v40).Rating) 0 20 else some default).bind fun t76 =>
 if (((!t73) || (!t76)) = false → (0 : Int) ≤ v40 ∧ v40 < (List.length x0.Cuts : Int)) then
 (if ((!t73) || (!t76)) = false then lombardref10_in.f ((nth x0.Cuts v40).Cut) 0 999999 else some default).bind fun t79 =>
 if (((!t73) || (!t76)) || (!t79)) = true then
 some (.inr (.inl 1))
 else some (.inl (IntKind.wrap .i64 (v40 + 1)))
 else none
 else none
 else none
 else some (.inr (.inr ()))
noncomputable def lombardref10_Basket.r0 (x0 : api_Basket) (s : Int) : Option (Int ⊕ (Int ⊕ Unit)) := lombardref10_Basket.b0 x0 s
noncomputable def lombardref10_Basket.b1 (x0 : api_Basket) (v94 : Int) : Option (Int ⊕ (Int ⊕ Unit)) :=
 if (decide (v94 < (List.length x0.Barred : Int))) = true then
 if (0 : Int) ≤ v94 ∧ v94 < (List.length x0.Barred : Int) then
 (lombardref10_in.f (nth x0.Barred v94) 0 9999).bind fun t119 =>
 if ((!t119) = false ∧ (decide (v94 > 0)) = true → (0 : Int) ≤ v94 ∧ v94 < (List.length x0.Barred : Int)) then
 if ((!t119) = false ∧ (decide (v94 > 0)) = true → (0 : Int) ≤ (IntKind.wrap .i64 (v94 - 1)) ∧ (IntKind.wrap .i64 (v94 - 1)) < (List.length x0.Barred : Int)) then
 if ((!t119) || ((decide (v94 > 0)) && (decide ((nth x0.Barred v94) ≤ (nth x0.Barred (IntKind.wrap .i64 (v94 - 1))))))) = true then
 some (.inr (.inl 1))
 else some (.inl (IntKind.wrap .i64 (v94 + 1)))
 else none
 else none
 else none
 else some (.inr (.inr ()))
noncomputable def lombardref10_Basket.r1 (x0 : api_Basket) (s : Int) : Option (Int ⊕ (Int ⊕ Unit)) := lombardref10_Basket.b1 x0 s
noncomputable def lombardref10_Basket.f (x0 : api_Basket) : Option (Int) :=
 (lombardref10_in.f x0.ID 1 64).bind fun t1 =>
 (if (!t1) = false then lombardref10_Amount.f x0.Version else some default).bind fun t3 =>
 (if ((!t1) || (!t3)) = false then lombardref10_in.f x0.Rating 0 20 else some default).bind fun t5 =>
 (if (((!t1) || (!t3)) || (!t5)) = false then lombardref10_in.f x0.Issuer 0 1000000 else some default).bind fun t7 =>
 (if ((((!t1) || (!t3)) || (!t5)) || (!t7)) = false then lombardref10_in.f x0.Asset 0 1000000 else some default).bind fun t9 =>
 (if (((((!t1) || (!t3)) || (!t5)) || (!t7)) || (!t9)) = false then lombardref10_in.f (List.length x0.Cuts : Int) 1 64 else some default).bind fun t11 =>
 if (((((((!t1) || (!t3)) || (!t5)) || (!t7)) || (!t9)) || (!t11)) || (decide ((List.length x0.Barred : Int) > 64))) = true then
 some 1
 else (if (decide (x0.Least < 0)) = false then lombardref10_in.f x0.Most x0.Least 200000 else some default).bind fun t20 =>
 if ((decide (x0.Least < 0)) || (!t20)) = true then
 some 10
 else (lombardref05_Currency.f x0.Currency).bind fun t24 =>
 if (!t24) = true then
 some 11
 else (loop (lombardref10_Basket.r0 x0) 0).bind fun o68 =>
 match o68 with
 | .inl r84 => some r84
 | .inr w67 =>
 (loop (lombardref10_Basket.r1 x0) 0).bind fun o114 =>
 match o114 with
 | .inl r126 => some r126
 | .inr w113 =>
 some 0
theorem lombardref10_Basket.ok {x0 : api_Basket} {r : Int} (h : lombardref10_Basket.f x0 = some r) : Pm.Spec prog 74 [.agg (im (api_Basket.enc x0))] (.imm (.val (.int .i64 r))) [none] := by
 unfold lombardref10_Basket.f at h; refine Pm.Spec.of_body Tryz.func74 Z (by kernel_rfl) (L Z) (L Z) ?_; refine W.ghost (σ' := (mkSt [(0, some (.agg (api_Basket.av x0)))] [] 1000)) (Gives.entry (.c Z .n) .n) (W.seq (W.pk (.t Z Z (O.box Z Z Z Z Z) (.A Z (.nil (W.seq (W.seq ?_))))))); obtain ⟨t1, b2, h⟩ := bnd1 h; obtain ⟨t3, b4, h⟩ := bnd1 h; obtain ⟨t5, b6, h⟩ := bnd1 h; obtain ⟨t7, b8, h⟩ := bnd1 h; obtain ⟨t9, b10, h⟩ := bnd1 h; obtain ⟨t11, b12, h⟩ := bnd1 h; refine W.fork (mkSt [(1, some (.ptr 1000 0)), (45, some (.b (((((((!t1) || (!t3)) || (!t5)) || (!t7)) || (!t9)) || (!t11)) || (decide ((List.length x0.Barred : Int) > 64)))))] [(1000, some (.box (api_Basket.av x0)))] 1001) ?_ ?_
 ·refine W.cnd Z h (fun q19 h => ?_) (fun q19 h => ?_)
  ·refine W.seq (W.pk (.A Z (.nil (W.ret ?_)))); cases h; exact lv Z Z
  ·refine W.skip (W.seq (W.seq ?_)); obtain ⟨t20, b21, h⟩ := bnd1 h; refine W.fork (mkSt [(1, some (.ptr 1000 0)), (56, some (.b ((decide (x0.Least < 0)) || (!t20))))] [(1000, some (.box (api_Basket.av x0)))] 1001) ?_ ?_
   ·refine W.cnd Z h (fun q23 h => ?_) (fun q23 h => ?_)
    ·refine W.seq (W.pk (.A Z (.nil (W.ret ?_)))); cases h; exact lv Z Z
    ·refine W.skip (W.seq (W.seq ?_)); obtain ⟨t24, b25, h⟩ := bnd1 h; refine W.pk (.F fld56_2 Z (.V Z (O.ld (y := .s x0.Currency) ty9 Z Z Z) (.C (.b t24) [] 0 (lombardref05_Currency.ok b25) ca77 Z (cI .nil) Z ?_))); refine .V Z (OpL.unV Z Z Z) (.nil (W.cnd Z h (fun q26 h => ?_) (fun q26 h => ?_)))
     ·refine W.seq (W.pk (.A Z (.nil (W.ret ?_)))); cases h; exact lv Z Z
     ·refine W.skip (W.seq (W.seq (W.pk (.A Z (.nil ?_))))); obtain ⟨o68, b69, z70⟩ := bnd1 h; refine W.fork2 (out := o68) (fun (w67 : Unit) => mkSt [(1, some (.ptr 1000 0))] [(1000, some (.box (api_Basket.av x0)))] 1001) ?_ ?_
      ·clear h; refine W.block (W.loopF (fun (s_ : Int) => mkSt [(1, some (.ptr 1000 0)), (3, some (.i s_))] [(1000, some (.box (api_Basket.av x0)))] 1001) b69 (Gm [] (.e Z Z) (.r Z Z Z .n) Z) ?_); rintro v40 s_ hr; have h : lombardref10_Basket.b0 x0 v40 = some s_ := hr; unfold lombardref10_Basket.b0 at h; refine W.seq (W.seq (W.pk (.M Z (.F fld56_6 Z (.V Z (O.ld (y := .imm (.row 3 (List.map api_Cut.enc x0.Cuts))) ty53 Z Z Z) (.V Z (O.lenR sl53 Z Z) (.B Z (.nil (W.cnd Z h (fun q71 h => ?_) (fun q71 h => ?_))))))))))
       ·refine W.skip (W.seq (W.block (W.seq ?_))); obtain ⟨c72, h⟩ := chk h; obtain ⟨t73, b74, h⟩ := bnd1 h; obtain ⟨c75, h⟩ := chk h; obtain ⟨t76, b77, h⟩ := bnd1 h; obtain ⟨c78, h⟩ := chk h; obtain ⟨t79, b80, h⟩ := bnd1 h; refine W.fork (mkSt [(1, some (.ptr 1000 0)), (3, some (.i v40)), (95, some (.b (((!t73) || (!t76)) || (!t79))))] [(1000, some (.box (api_Basket.av x0)))] 1001) ?_ ?_
        ·refine W.cnd Z h (fun q83 h => ?_) (fun q83 h => ?_)
         ·refine W.seq (W.pk (.A Z (.nil (W.ret ?_)))); cases h; refine rdR fun e_ => ?_; subst e_; have h := z70; dsimp only at h; refine fkR ?_; cases h; exact lv Z Z
         ·refine W.skip (W.pk (.M Z (.B Z (.A Z (.nil ?_))))); cases h; exact rdN (Gm [] (.e Z Z) (.r Z Z Z .n) Z)
        ·clear h; refine W.pk (.F fld56_6 Z (.V Z (O.ld (y := .imm (.row 3 (List.map api_Cut.enc x0.Cuts))) ty53 Z Z Z) (.M Z (.V Z (O.idx sl53 c72 Z Z Z) (.F fld157_0 Z (.V Z (O.ld (y := .i ((nth x0.Cuts v40).Days)) ty3 Z Z Z) (.C (.b t73) [] 0 (lombardref10_in.ok b74) ca97 Z (cI (cI (cI .nil))) Z ?_))))))); refine .V Z (OpL.unV Z Z Z) (.M Z ?_); rcases tf t73 with g81 | g81
         ·refine .H fld56_6 Z (notT g81) Z (.U Z (notT g81) (O.ld (y := .imm (.row 3 (List.map api_Cut.enc x0.Cuts))) ty53 Z Z Z) (.N Z (notT g81) (.U Z (notT g81) (O.idx sl53 (c75 (by simp only [g81, BL])) Z Z Z) ?_))); refine .H fld157_1 Z (notT g81) Z (.U Z (notT g81) (O.ld (y := .i ((nth x0.Cuts v40).Rating)) ty3 Z Z Z) (.call (.b t76) [] 0 (lombardref10_in.ok ((if_pos (by simp only [g81, BL])).symm.trans b77)) Z (met Z Z Z (notT g81)) Z ca97 Z Z (cI (cI (cI .nil))) Z Z Z Z Z ?_)); refine .U Z (notT g81) (OpL.unV Z Z Z) (.E (notT g81) Z (.M Z ?_)); rcases tf t76 with g82 | g82
          ·refine .H fld56_6 Z (notT g82) Z (.U Z (notT g82) (O.ld (y := .imm (.row 3 (List.map api_Cut.enc x0.Cuts))) ty53 Z Z Z) (.N Z (notT g82) (.U Z (notT g82) (O.idx sl53 (c78 (by simp only [g81, g82, BL])) Z Z Z) ?_))); refine .H fld157_2 Z (notT g82) Z (.U Z (notT g82) (O.ld (y := .i ((nth x0.Cuts v40).Cut)) ty3 Z Z Z) (.call (.b t79) [] 0 (lombardref10_in.ok ((if_pos (by simp only [g81, g82, BL])).symm.trans b80)) Z (met Z Z Z (notT g82)) Z ca97 Z Z (cI (cI (cI .nil))) Z Z Z Z Z ?_)); exact .U Z (notT g82) (OpL.unV Z Z Z) (.E (notT g82) Z (.nil (toN (Gm [] (.r Z Z (.r Z Z (.c Z (sbb (by simp only [g81, g82, BL])) Z .n))) (.r Z Z Z .n) Z))))
          ·(iterate 8 refine .X Z (notF g82) ?_); exact .T (notF g82) Z (.nil (toN (Gm [] (.r Z Z (.r Z Z (.c Z (sbb (by simp only [g81, g82, BL])) Z .n))) (.r Z Z Z .n) Z)))
         ·(iterate 8 refine .X Z (notF g81) ?_); refine .T (notF g81) Z (.M Z ?_); (iterate 8 refine .X Z Z ?_); exact .T Z Z (.nil (toN (Gm [] (.r Z Z (.r Z Z (.c Z (sbb (by simp only [g81, BL])) Z .n))) (.r Z Z Z .n) Z)))
       ·refine W.exit ?_; cases h; refine rdX fun e_ => ?_; subst e_; (repeat with_reducible refine thru ?_); exact hit (fkN (Gm [] (.r Z Z .n) (.r Z Z Z .n) Z))
      ·intro w67 e_; subst e_; clear h; have h := z70; dsimp only at h; refine W.seq (W.seq (W.pk (.A Z (.nil ?_)))); obtain ⟨o114, b115, z116⟩ := bnd1 h; refine W.fork2 (out := o114) (fun (w113 : Unit) => mkSt [] [] 1001) ?_ ?_
       ·clear h; refine W.block (W.loopF (fun (s_ : Int) => mkSt [(1, some (.ptr 1000 0)), (4, some (.i s_))] [(1000, some (.box (api_Basket.av x0)))] 1001) b115 (Gm [] (.e Z Z) (.r Z Z Z .n) Z) ?_); rintro v94 s_ hr; have h : lombardref10_Basket.b1 x0 v94 = some s_ := hr; unfold lombardref10_Basket.b1 at h; refine W.seq (W.seq (W.pk (.M Z (.F fld56_9 Z (.V Z (O.ld (y := .imm (.row 1 (List.map (encI .i64) x0.Barred))) ty54 Z Z Z) (.V Z (O.lenR sl54 Z Z) (.B Z (.nil (W.cnd Z h (fun q117 h => ?_) (fun q117 h => ?_))))))))))
        ·refine W.skip (W.seq (W.block (W.seq ?_))); obtain ⟨c118, h⟩ := chk h; obtain ⟨t119, b120, h⟩ := bnd1 h; obtain ⟨c121, h⟩ := chk h; obtain ⟨c122, h⟩ := chk h; refine W.fork (mkSt [(1, some (.ptr 1000 0)), (4, some (.i v94)), (127, some (.b ((!t119) || ((decide (v94 > 0)) && (decide ((nth x0.Barred v94) ≤ (nth x0.Barred (IntKind.wrap .i64 (v94 - 1)))))))))] [(1000, some (.box (api_Basket.av x0)))] 1001) ?_ ?_
         ·refine W.cnd Z h (fun q125 h => ?_) (fun q125 h => ?_)
          ·refine W.seq (W.pk (.A Z (.nil (W.ret ?_)))); cases h; refine rdR fun e_ => ?_; subst e_; have h := z116; dsimp only at h; refine fkR ?_; cases h; exact lv Z Z
          ·refine W.skip (W.pk (.M Z (.B Z (.A Z (.nil ?_))))); cases h; exact rdN (Gm [] (.e Z Z) (.r Z Z Z .n) Z)
         ·clear h; refine W.dk (unm 25 [0, 1, 0, 7, 15, 31, 63, 127, 255, 511, 1023, 2047, 4095, 2047, 16383, 32767, 2047, 67583, 2047, 264191, 985087, 2033663, 4194303, 8388607, 16777215]) Z (by kernel_rfl) ?_; refine .F fld56_9 Z (.V Z (O.ld (y := .imm (.row 1 (List.map (encI .i64) x0.Barred))) ty54 Z Z Z) (.M Z (.V Z (O.idx sl54 c118 Z Z Z) (.V Z (O.ld (y := .i (nth x0.Barred v94)) ty3 Z Z Z) (.C (.b t119) [] 0 (lombardref10_in.ok b120) ca97 Z (cI (cI (cI .nil))) Z ?_))))); refine .V Z (OpL.unV Z Z Z) (.M Z ?_); rcases tf t119 with g123 | g123
          ·refine .N Z (notT g123) (.G Z (notT g123) Z (.N Z (notT g123) ?_)); rcases tf (decide (v94 > 0)) with g124 | g124
           ·refine .H fld56_9 Z g124 Z (.U Z g124 (O.ld (y := .imm (.row 1 (List.map (encI .i64) x0.Barred))) ty54 Z Z Z) (.N Z g124 (.U Z g124 (O.idx sl54 (c121 ⟨(by simp only [g123, g124, BL]), (by simp only [g123, g124, BL])⟩) Z Z Z) ?_))); refine .U Z g124 (O.ld (y := .i (nth x0.Barred v94)) ty3 Z Z Z) (.H fld56_9 Z g124 Z (.U Z g124 (O.ld (y := .imm (.row 1 (List.map (encI .i64) x0.Barred))) ty54 Z Z Z) (.N Z g124 (.G Z g124 Z (.U Z g124 (O.idx sl54 (c122 ⟨(by simp only [g123, g124, BL]), (by simp only [g123, g124, BL])⟩) Z Z Z) ?_))))); refine .U Z g124 (O.ld (y := .i (nth x0.Barred (IntKind.wrap .i64 (v94 - 1)))) ty3 Z Z Z) (.G Z g124 Z (.U Z (notT g123) (O.pickT g124 Z Z Z) (.E (notT g123) Z (.nil ?_)))); refine ⟨by kernel_rfl, by kernel_rfl, ?_⟩; exact toN (Gm [] (.r Z Z (.r Z Z (.c Z (sbb (by simp only [g123, g124, BL])) Z .n))) (.r Z Z Z .n) Z)
           ·(iterate 12 refine .X Z g124 ?_); refine .U Z (notT g123) (O.pickF g124 Z Z Z) (.E (notT g123) Z (.nil ?_)); refine ⟨by kernel_rfl, by kernel_rfl, ?_⟩; exact toN (Gm [] (.r Z Z (.r Z Z (.c Z (sbb (by simp only [g123, g124, BL])) Z .n))) (.r Z Z Z .n) Z)
          ·(iterate 3 refine .X Z (notF g123) ?_); (iterate 12 refine .x Z (unmetU Z Z Z) ?_); refine .X Z (notF g123) (.T (notF g123) Z (.nil ?_)); refine ⟨by kernel_rfl, by kernel_rfl, ?_⟩; exact toN (Gm [] (.r Z Z (.r Z Z (.c Z (sbb (by simp only [g123, BL])) Z .n))) (.r Z Z Z .n) Z)
        ·refine W.exit ?_; cases h; refine rdX fun e_ => ?_; subst e_; (repeat with_reducible refine thru ?_); exact hit (fkN (Gm [] .n .n Z))
       ·intro w113 e_; subst e_; clear h; have h := z116; dsimp only at h; refine W.seq (W.pk (.A Z (.nil (W.ret ?_)))); cases h; exact lv Z Z
   ·clear h; refine W.pk (.F fld56_4 Z (.V Z (O.ld (y := .i x0.Least) ty3 Z Z Z) (.B Z (.M Z ?_)))); rcases tf (decide (x0.Least < 0)) with g22 | g22
    ·(iterate 6 refine .X Z g22 ?_); exact .T g22 Z (.nil (toN (Gm [] (.r Z Z (.c Z (sbb (by simp only [g22, BL])) Z .n)) (.r Z Z Z .n) Z)))
    ·refine .H fld56_5 Z g22 Z (.U Z g22 (O.ld (y := .i x0.Most) ty3 Z Z Z) (.H fld56_4 Z g22 Z (.U Z g22 (O.ld (y := .i x0.Least) ty3 Z Z Z) (.call (.b t20) [] 0 (lombardref10_in.ok ((if_pos (by simp only [g22, BL])).symm.trans b21)) Z (met Z Z Z g22) Z ca97 Z Z (cI (cI (cI .nil))) Z Z Z Z Z ?_)))); exact .U Z g22 (OpL.unV Z Z Z) (.E g22 Z (.nil (toN (Gm [] (.r Z Z (.c Z (sbb (by simp only [g22, BL])) Z .n)) (.r Z Z Z .n) Z))))
 ·clear h; refine W.pk (.F fld56_0 Z (.V Z (O.ld (y := .i x0.ID) ty3 Z Z Z) (.C (.b t1) [] 0 (lombardref10_in.ok b2) ca97 Z (cI (cI (cI .nil))) Z ?_))); refine .V Z (OpL.unV Z Z Z) (.M Z ?_); rcases tf t1 with g13 | g13
  ·refine .H fld56_1 Z (notT g13) Z (.U Z (notT g13) (O.ld (y := .i x0.Version) ty3 Z Z Z) (.call (.b t3) [] 0 (lombardref10_Amount.ok ((if_pos (by simp only [g13, BL])).symm.trans b4)) Z (met Z Z Z (notT g13)) Z ca98 Z Z (cI .nil) Z Z Z Z Z ?_)); refine .U Z (notT g13) (OpL.unV Z Z Z) (.E (notT g13) Z (.M Z ?_)); rcases tf t3 with g14 | g14
   ·refine .H fld56_3 Z (notT g14) Z (.U Z (notT g14) (O.ld (y := .i x0.Rating) ty3 Z Z Z) (.call (.b t5) [] 0 (lombardref10_in.ok ((if_pos (by simp only [g13, g14, BL])).symm.trans b6)) Z (met Z Z Z (notT g14)) Z ca97 Z Z (cI (cI (cI .nil))) Z Z Z Z Z ?_)); refine .U Z (notT g14) (OpL.unV Z Z Z) (.E (notT g14) Z (.M Z ?_)); rcases tf t5 with g15 | g15
    ·refine .H fld56_7 Z (notT g15) Z (.U Z (notT g15) (O.ld (y := .i x0.Issuer) ty3 Z Z Z) (.call (.b t7) [] 0 (lombardref10_in.ok ((if_pos (by simp only [g13, g14, g15, BL])).symm.trans b8)) Z (met Z Z Z (notT g15)) Z ca97 Z Z (cI (cI (cI .nil))) Z Z Z Z Z ?_)); refine .U Z (notT g15) (OpL.unV Z Z Z) (.E (notT g15) Z (.M Z ?_)); rcases tf t7 with g16 | g16
     ·refine .H fld56_8 Z (notT g16) Z (.U Z (notT g16) (O.ld (y := .i x0.Asset) ty3 Z Z Z) (.call (.b t9) [] 0 (lombardref10_in.ok ((if_pos (by simp only [g13, g14, g15, g16, BL])).symm.trans b10)) Z (met Z Z Z (notT g16)) Z ca97 Z Z (cI (cI (cI .nil))) Z Z Z Z Z ?_)); refine .U Z (notT g16) (OpL.unV Z Z Z) (.E (notT g16) Z (.M Z ?_)); rcases tf t9 with g17 | g17
      ·refine .H fld56_6 Z (notT g17) Z (.U Z (notT g17) (O.ld (y := .imm (.row 3 (List.map api_Cut.enc x0.Cuts))) ty53 Z Z Z) (.U Z (notT g17) (O.lenR sl53 Z Z) (.call (.b t11) [] 0 (lombardref10_in.ok ((if_pos (by simp only [g13, g14, g15, g16, g17, BL])).symm.trans b12)) Z (met Z Z Z (notT g17)) Z ca97 Z Z (cI (cI (cI .nil))) Z Z Z Z Z ?_))); refine .U Z (notT g17) (OpL.unV Z Z Z) (.E (notT g17) Z (.M Z ?_)); rcases tf t11 with g18 | g18
       ·exact .H fld56_9 Z (notT g18) Z (.U Z (notT g18) (O.ld (y := .imm (.row 1 (List.map (encI .i64) x0.Barred))) ty54 Z Z Z) (.U Z (notT g18) (O.lenR sl54 Z Z) (.G Z (notT g18) Z (.E (notT g18) Z (.nil (toN (Gm [] (.r Z Z (.c Z (sbb (by simp only [g13, g14, g15, g16, g17, g18, BL])) Z .n)) (.r Z Z Z .n) Z)))))))
       ·(iterate 4 refine .X Z (notF g18) ?_); exact .T (notF g18) Z (.nil (toN (Gm [] (.r Z Z (.c Z (sbb (by simp only [g13, g14, g15, g16, g17, g18, BL])) Z .n)) (.r Z Z Z .n) Z)))
      ·(iterate 5 refine .X Z (notF g17) ?_); refine .T (notF g17) Z (.M Z ?_); (iterate 4 refine .X Z Z ?_); exact .T Z Z (.nil (toN (Gm [] (.r Z Z (.c Z (sbb (by simp only [g13, g14, g15, g16, g17, BL])) Z .n)) (.r Z Z Z .n) Z)))
     ·(iterate 4 refine .X Z (notF g16) ?_); refine .T (notF g16) Z (.M Z ?_); (iterate 5 refine .X Z Z ?_); refine .T Z Z (.M Z ?_); (iterate 4 refine .X Z Z ?_); exact .T Z Z (.nil (toN (Gm [] (.r Z Z (.c Z (sbb (by simp only [g13, g14, g15, g16, BL])) Z .n)) (.r Z Z Z .n) Z)))
    ·(iterate 4 refine .X Z (notF g15) ?_); refine .T (notF g15) Z (.M Z ?_); (iterate 4 refine .X Z Z ?_); refine .T Z Z (.M Z ?_); (iterate 5 refine .X Z Z ?_); refine .T Z Z (.M Z ?_); (iterate 4 refine .X Z Z ?_); exact .T Z Z (.nil (toN (Gm [] (.r Z Z (.c Z (sbb (by simp only [g13, g14, g15, BL])) Z .n)) (.r Z Z Z .n) Z)))
   ·(iterate 4 refine .X Z (notF g14) ?_); refine .T (notF g14) Z (.M Z ?_); (iterate 4 refine .X Z Z ?_); refine .T Z Z (.M Z ?_); (iterate 4 refine .X Z Z ?_); refine .T Z Z (.M Z ?_); (iterate 5 refine .X Z Z ?_); refine .T Z Z (.M Z ?_); (iterate 4 refine .X Z Z ?_); exact .T Z Z (.nil (toN (Gm [] (.r Z Z (.c Z (sbb (by simp only [g13, g14, BL])) Z .n)) (.r Z Z Z .n) Z)))
  ·(iterate 4 refine .X Z (notF g13) ?_); refine .T (notF g13) Z (.M Z ?_); (iterate 4 refine .X Z Z ?_); refine .T Z Z (.M Z ?_); (iterate 4 refine .X Z Z ?_); refine .T Z Z (.M Z ?_); (iterate 4 refine .X Z Z ?_); refine .T Z Z (.M Z ?_); (iterate 5 refine .X Z Z ?_); refine .T Z Z (.M Z ?_); (iterate 4 refine .X Z Z ?_); exact .T Z Z (.nil (toN (Gm [] (.r Z Z (.c Z (sbb (by simp only [g13, BL])) Z .n)) (.r Z Z Z .n) Z)))

noncomputable def lombardref10_prices.b0 (x0 : List api_Price) (v19 : Int) : Option (Int ⊕ (Int ⊕ Unit)) :=
 if (decide (v19 < (List.length x0 : Int))) = true then
 if (0 : Int) ≤ v19 ∧ v19 < (List.length x0 : Int) then
 (lombardref05_Check.f ((nth x0 v19).ISIN)).bind fun t58 =>
 if (t58 != 0) = true then
 if (0 : Int) ≤ v19 ∧ v19 < (List.length x0 : Int) then
 (lombardref05_Check.f ((nth x0 v19).ISIN)).bind fun t62 =>
 some (.inr (.inl t62))
 else none
 else if (0 : Int) ≤ v19 ∧ v19 < (List.length x0 : Int) then
 (lombardref10_in.f ((nth x0 v19).Price) 1 4294967296).bind fun t65 =>
 if ((!t65) = false ∧ (decide (v19 > 0)) = true → (0 : Int) ≤ v19 ∧ v19 < (List.length x0 : Int)) then
 if ((!t65) = false ∧ (decide (v19 > 0)) = true → (0 : Int) ≤ (IntKind.wrap .i64 (v19 - 1)) ∧ (IntKind.wrap .i64 (v19 - 1)) < (List.length x0 : Int)) then
 if ((!t65) || ((decide (v19 > 0)) && (Go.Op.bytesLess ((nth x0 v19).ISIN) ((nth x0 (IntKind.wrap .i64 (v19 - 1))).ISIN) || ((nth x0 v19).ISIN) == ((nth x0 (IntKind.wrap .i64 (v19 - 1))).ISIN)))) = true then
 some (.inr (.inl 31))
 else some (.inl (IntKind.wrap .i64 (v19 + 1)))
 else none
 else none
 else none
 else none
 else some (.inr (.inr ()))
noncomputable def lombardref10_prices.r0 (x0 : List api_Price) (s : Int) : Option (Int ⊕ (Int ⊕ Unit)) := lombardref10_prices.b0 x0 s
noncomputable def lombardref10_prices.f (x0 : List api_Price) : Option (Int) :=
 if (((List.length x0 : Int) == 0) || (decide ((List.length x0 : Int) > 64))) = true then
 some 2
 else (loop (lombardref10_prices.r0 x0) 0).bind fun o53 =>
 match o53 with
 | .inl r72 => some r72
 | .inr w52 =>
 some 0
theorem lombardref10_prices.ok {x0 : List api_Price} {r : Int} (h : lombardref10_prices.f x0 = some r) : Pm.Spec prog 75 [.imm (.row 2 (List.map api_Price.enc x0))] (.imm (.val (.int .i64 r))) [none] := by
 unfold lombardref10_prices.f at h; refine Pm.Spec.of_body Tryz.func75 Z (by kernel_rfl) (L Z) (L Z) ?_; refine W.ghost (σ' := (mkSt [(0, some (.imm (.row 2 (List.map api_Price.enc x0))))] [] 1000)) (Gives.entry (.c Z .n) .n) (W.seq (W.pk (.A Z (.nil (W.seq (W.seq (W.fork (mkSt [(0, some (.imm (.row 2 (List.map api_Price.enc x0)))), (11, some (.b (((List.length x0 : Int) == 0) || (decide ((List.length x0 : Int) > 64)))))] [] 1000) ?_ ?_)))))))
 ·refine W.cnd Z h (fun q2 h => ?_) (fun q2 h => ?_)
  ·refine W.seq (W.pk (.A Z (.nil (W.ret ?_)))); cases h; exact lv Z Z
  ·refine W.skip (W.seq (W.seq (W.pk (.A Z (.nil ?_))))); obtain ⟨o53, b54, z55⟩ := bnd1 h; refine W.fork2 (out := o53) (fun (w52 : Unit) => mkSt [] [] 1000) ?_ ?_
   ·clear h; refine W.block (W.loopF (fun (s_ : Int) => mkSt [(0, some (.imm (.row 2 (List.map api_Price.enc x0)))), (3, some (.i s_))] [] 1000) b54 (Gm [] (.e Z Z) .n Z) ?_); rintro v19 s_ hr; have h : lombardref10_prices.b0 x0 v19 = some s_ := hr; unfold lombardref10_prices.b0 at h; refine W.seq (W.seq (W.pk (.M Z (.M Z (.V Z (O.lenR sl57 Z Z) (.B Z (.nil (W.cnd Z h (fun q56 h => ?_) (fun q56 h => ?_)))))))))
    ·refine W.skip (W.seq (W.block (W.seq (W.seq ?_)))); obtain ⟨c57, h⟩ := chk h; obtain ⟨t58, b59, h⟩ := bnd1 h; refine W.pk (.M Z (.M Z (.V Z (O.idx sl57 c57 Z Z Z) (.F fld159_0 Z (.V Z (O.ld (y := .s ((nth x0 v19).ISIN)) ty9 Z Z Z) (.C (.i t58) [] 0 (lombardref05_Check.ok b59) ca96 Z (cI .nil) Z ?_)))))); refine .B Z (.nil (W.cnd Z h (fun q60 h => ?_) (fun q60 h => ?_)))
     ·refine W.seq ?_; obtain ⟨c61, h⟩ := chk h; obtain ⟨t62, b63, h⟩ := bnd1 h; refine W.pk (.M Z (.M Z (.V Z (O.idx sl57 c61 Z Z Z) (.F fld159_0 Z (.V Z (O.ld (y := .s ((nth x0 v19).ISIN)) ty9 Z Z Z) (.C (.i t62) [] 0 (lombardref05_Check.ok b63) ca96 Z (cI .nil) Z ?_)))))); refine .A Z (.nil (W.ret ?_)); cases h; refine rdR fun e_ => ?_; subst e_; have h := z55; dsimp only at h; refine fkR ?_; cases h; exact lv Z Z
     ·refine W.skip (W.seq ?_); obtain ⟨c64, h⟩ := chk h; obtain ⟨t65, b66, h⟩ := bnd1 h; obtain ⟨c67, h⟩ := chk h; obtain ⟨c68, h⟩ := chk h; refine W.fork (mkSt [(0, some (.imm (.row 2 (List.map api_Price.enc x0)))), (3, some (.i v19)), (55, some (.b ((!t65) || ((decide (v19 > 0)) && (Go.Op.bytesLess ((nth x0 v19).ISIN) ((nth x0 (IntKind.wrap .i64 (v19 - 1))).ISIN) || ((nth x0 v19).ISIN) == ((nth x0 (IntKind.wrap .i64 (v19 - 1))).ISIN))))))] [] 1000) ?_ ?_
      ·refine W.cnd Z h (fun q71 h => ?_) (fun q71 h => ?_)
       ·refine W.seq (W.pk (.A Z (.nil (W.ret ?_)))); cases h; refine rdR fun e_ => ?_; subst e_; have h := z55; dsimp only at h; refine fkR ?_; cases h; exact lv Z Z
       ·refine W.skip (W.pk (.M Z (.B Z (.A Z (.nil ?_))))); cases h; exact rdN (Gm [] (.e Z Z) .n Z)
      ·clear h; refine W.dk (unm 25 [0, 0, 3, 7, 15, 31, 63, 127, 255, 511, 1023, 2047, 2047, 8191, 16383, 32767, 2047, 2047, 133119, 460799, 985087, 2033663, 4194303, 8388607, 16777215]) Z (by kernel_rfl) ?_; refine .M Z (.M Z (.V Z (O.idx sl57 c64 Z Z Z) (.F fld159_1 Z (.V Z (O.ld (y := .i ((nth x0 v19).Price)) ty3 Z Z Z) (.C (.b t65) [] 0 (lombardref10_in.ok b66) ca97 Z (cI (cI (cI .nil))) Z ?_))))); refine .V Z (OpL.unV Z Z Z) (.M Z ?_); rcases tf t65 with g69 | g69
       ·refine .N Z (notT g69) (.G Z (notT g69) Z (.N Z (notT g69) ?_)); rcases tf (decide (v19 > 0)) with g70 | g70
        ·refine .N Z g70 (.N Z g70 (.U Z g70 (O.idx sl57 (c67 ⟨(by simp only [g69, g70, BL]), (by simp only [g69, g70, BL])⟩) Z Z Z) ?_)); refine .H fld159_0 Z g70 Z (.U Z g70 (O.ld (y := .s ((nth x0 v19).ISIN)) ty9 Z Z Z) (.N Z g70 (.N Z g70 (.G Z g70 Z (.U Z g70 (O.idx sl57 (c68 ⟨(by simp only [g69, g70, BL]), (by simp only [g69, g70, BL])⟩) Z Z Z) ?_))))); refine .H fld159_0 Z g70 Z (.U Z g70 (O.ld (y := .s ((nth x0 (IntKind.wrap .i64 (v19 - 1))).ISIN)) ty9 Z Z Z) (.U Z g70 (O.cmpS Z Z Z Z) (.U Z (notT g69) (O.pickT g70 Z Z Z) (.E (notT g69) Z (.nil ?_))))); refine ⟨by kernel_rfl, by kernel_rfl, ?_⟩; exact toN (Gm [] (.r Z Z (.r Z Z (.c Z (sbb (by simp only [g69, g70, BL])) Z .n))) .n Z)
        ·(iterate 12 refine .X Z g70 ?_); refine .U Z (notT g69) (O.pickF g70 Z Z Z) (.E (notT g69) Z (.nil ?_)); refine ⟨by kernel_rfl, by kernel_rfl, ?_⟩; exact toN (Gm [] (.r Z Z (.r Z Z (.c Z (sbb (by simp only [g69, g70, BL])) Z .n))) .n Z)
       ·(iterate 3 refine .X Z (notF g69) ?_); (iterate 12 refine .x Z (unmetU Z Z Z) ?_); refine .X Z (notF g69) (.T (notF g69) Z (.nil ?_)); refine ⟨by kernel_rfl, by kernel_rfl, ?_⟩; exact toN (Gm [] (.r Z Z (.r Z Z (.c Z (sbb (by simp only [g69, BL])) Z .n))) .n Z)
    ·refine W.exit ?_; cases h; refine rdX fun e_ => ?_; subst e_; (repeat with_reducible refine thru ?_); exact hit (fkN (Gm [] .n .n Z))
   ·intro w52 e_; subst e_; clear h; have h := z55; dsimp only at h; refine W.seq (W.pk (.A Z (.nil (W.ret ?_)))); cases h; exact lv Z Z
 ·clear h; refine W.pk (.M Z (.V Z (O.lenR sl57 Z Z) (.B Z (.M Z ?_)))); rcases tf ((List.length x0 : Int) == 0) with g1 | g1
  ·exact .X Z g1 (.X Z g1 (.X Z g1 (.T g1 Z (.nil (toN (Gm [] (.r Z Z (.c Z (sbb (by simp only [g1, BL])) Z .n)) .n Z))))))
  ·exact .N Z g1 (.U Z g1 (O.lenR sl57 Z Z) (.G Z g1 Z (.E g1 Z (.nil (toN (Gm [] (.r Z Z (.c Z (sbb (by simp only [g1, BL])) Z .n)) .n Z))))))

noncomputable def lombardref02_Good.f (x0 : Int) : Option (Bool) :=
 some ((decide (x0 ≥ 0)) && (decide (x0 ≤ 200000)))
theorem lombardref02_Good.ok {x0 : Int} {r : Bool} (h : lombardref02_Good.f x0 = some r) : Pm.Spec prog 99 [.imm (.val (.int .i64 x0))] (.imm (.val (.bool r))) [none] := by
 unfold lombardref02_Good.f at h; refine Pm.Spec.of_body Tryz.func99 Z (by kernel_rfl) (L Z) (L Z) ?_; refine W.ghost (σ' := (mkSt [(0, some (.i x0))] [] 1000)) (Gives.entry (.c Z .n) .n) (W.seq (W.pk (.A Z (.nil (W.seq (W.fork (mkSt [(2, some (.b ((decide (x0 ≥ 0)) && (decide (x0 ≤ 200000)))))] [] 1000) ?_ ?_))))))
 ·refine W.ret ?_; cases h; exact lv Z Z
 ·clear h; refine W.pk (.M Z (.B Z (.M Z ?_))); rcases tf (decide (x0 ≥ 0)) with g1 | g1
  ·exact .N Z g1 (.G Z g1 Z (.T g1 Z (.A Z (.nil (toN (Gm [] (.c Z (sbb (by simp only [g1, BL])) Z .n) .n Z))))))
  ·exact .X Z g1 (.X Z g1 (.E g1 Z (.A Z (.nil (toN (Gm [] (.c Z (sbb (by simp only [g1, BL])) Z .n) .n Z))))))

noncomputable def lombardref10_day.f (x0 : Int) : Option (Int) :=
 (lombardref02_Good.f x0).bind fun t1 =>
 if (!t1) = true then
 some 10
 else some 0
theorem lombardref10_day.ok {x0 : Int} {r : Int} (h : lombardref10_day.f x0 = some r) : Pm.Spec prog 76 [.imm (.val (.int .i64 x0))] (.imm (.val (.int .i64 r))) [none] := by
 unfold lombardref10_day.f at h; refine Pm.Spec.of_body Tryz.func76 Z (by kernel_rfl) (L Z) (L Z) ?_; refine W.ghost (σ' := (mkSt [(0, some (.i x0))] [] 1000)) (Gives.entry (.c Z .n) .n) (W.seq (W.pk (.A Z (.nil (W.seq (W.seq ?_)))))); obtain ⟨t1, b2, h⟩ := bnd1 h; refine W.pk (.M Z (.C (.b t1) [] 0 (lombardref02_Good.ok b2) ca99 Z (cI .nil) Z ?_)); refine .V Z (OpL.unV Z Z Z) (.nil (W.cnd Z h (fun q3 h => ?_) (fun q3 h => ?_)))
 ·refine W.seq (W.pk (.A Z (.nil (W.ret ?_)))); cases h; exact lv Z Z
 ·refine W.skip (W.seq (W.pk (.A Z (.nil (W.ret ?_))))); cases h; exact lv Z Z

noncomputable def lombardref10_Member.f (x0 : Int) : Option (Bool) :=
 some ((decide (x0 ≥ 1)) && (decide (x0 ≤ 32)))
theorem lombardref10_Member.ok {x0 : Int} {r : Bool} (h : lombardref10_Member.f x0 = some r) : Pm.Spec prog 78 [.imm (.val (.int .i64 x0))] (.imm (.val (.bool r))) [none] := by
 unfold lombardref10_Member.f at h; refine Pm.Spec.of_body Tryz.func78 Z (by kernel_rfl) (L Z) (L Z) ?_; refine W.ghost (σ' := (mkSt [(0, some (.i x0))] [] 1000)) (Gives.entry (.c Z .n) .n) (W.seq (W.pk (.A Z (.nil (W.seq (W.fork (mkSt [(2, some (.b ((decide (x0 ≥ 1)) && (decide (x0 ≤ 32)))))] [] 1000) ?_ ?_))))))
 ·refine W.ret ?_; cases h; exact lv Z Z
 ·clear h; refine W.pk (.M Z (.B Z (.M Z ?_))); rcases tf (decide (x0 ≥ 1)) with g1 | g1
  ·exact .N Z g1 (.G Z g1 Z (.T g1 Z (.A Z (.nil (toN (Gm [] (.c Z (sbb (by simp only [g1, BL])) Z .n) .n Z))))))
  ·exact .X Z g1 (.X Z g1 (.E g1 Z (.A Z (.nil (toN (Gm [] (.c Z (sbb (by simp only [g1, BL])) Z .n) .n Z))))))

noncomputable def lombardref10_Quote.f (x0 : api_Quote) : Option (Int) :=
 (lombardref10_Amount.f x0.ID).bind fun t1 =>
 (if (!t1) = false then lombardref10_in.f x0.Side 1 2 else some default).bind fun t3 =>
 (if ((!t1) || (!t3)) = false then lombardref10_in.f x0.Basket 1 64 else some default).bind fun t5 =>
 (if (((!t1) || (!t3)) || (!t5)) = false then lombardref10_Amount.f x0.Amount else some default).bind fun t7 =>
 (if ((((!t1) || (!t3)) || (!t5)) || (!t7)) = false then lombardref10_in.f x0.Rate (-1000000) 1000000 else some default).bind fun t9 =>
 if (((((!t1) || (!t3)) || (!t5)) || (!t7)) || (!t9)) = true then
 some 1
 else (lombardref02_Good.f x0.Start).bind fun t16 =>
 (if (!t16) = false ∧ (x0.End != 0) = true then lombardref02_Good.f x0.End else some default).bind fun t18 =>
 (if (!t16) = false ∧ (x0.End != 0) = true ∧ (!t18) = false then lombardref10_in.f (IntKind.wrap .i64 (x0.End - x0.Start)) 1 3660 else some default).bind fun t20 =>
 if ((!t16) || ((x0.End != 0) && ((!t18) || (!t20)))) = true then
 some 10
 else some 0
theorem lombardref10_Quote.ok {x0 : api_Quote} {r : Int} (h : lombardref10_Quote.f x0 = some r) : Pm.Spec prog 79 [.agg (im (api_Quote.enc x0))] (.imm (.val (.int .i64 r))) [none] := by
 unfold lombardref10_Quote.f at h; refine Pm.Spec.of_body Tryz.func79 Z (by kernel_rfl) (L Z) (L Z) ?_; refine W.ghost (σ' := (mkSt [(0, some (.agg (api_Quote.av x0)))] [] 1000)) (Gives.entry (.c Z .n) .n) (W.seq (W.pk (.t Z Z (O.box Z Z Z Z Z) (.A Z (.nil (W.seq (W.seq ?_))))))); obtain ⟨t1, b2, h⟩ := bnd1 h; obtain ⟨t3, b4, h⟩ := bnd1 h; obtain ⟨t5, b6, h⟩ := bnd1 h; obtain ⟨t7, b8, h⟩ := bnd1 h; obtain ⟨t9, b10, h⟩ := bnd1 h; refine W.fork (mkSt [(1, some (.ptr 1000 0)), (30, some (.b (((((!t1) || (!t3)) || (!t5)) || (!t7)) || (!t9))))] [(1000, some (.box (api_Quote.av x0)))] 1001) ?_ ?_
 ·refine W.cnd Z h (fun q15 h => ?_) (fun q15 h => ?_)
  ·refine W.seq (W.pk (.A Z (.nil (W.ret ?_)))); cases h; exact lv Z Z
  ·refine W.skip (W.seq (W.seq ?_)); obtain ⟨t16, b17, h⟩ := bnd1 h; obtain ⟨t18, b19, h⟩ := bnd1 h; obtain ⟨t20, b21, h⟩ := bnd1 h; refine W.fork (mkSt [(54, some (.b ((!t16) || ((x0.End != 0) && ((!t18) || (!t20))))))] [] 1001) ?_ ?_
   ·refine W.cnd Z h (fun q25 h => ?_) (fun q25 h => ?_)
    ·refine W.seq (W.pk (.A Z (.nil (W.ret ?_)))); cases h; exact lv Z Z
    ·refine W.skip (W.seq (W.pk (.A Z (.nil (W.ret ?_))))); cases h; exact lv Z Z
   ·clear h; refine W.pk (.F fld59_6 Z (.V Z (O.ld (y := .i x0.Start) ty3 Z Z Z) (.C (.b t16) [] 0 (lombardref02_Good.ok b17) ca99 Z (cI .nil) Z ?_))); refine .V Z (OpL.unV Z Z Z) (.M Z ?_); rcases tf t16 with g22 | g22
    ·refine .H fld59_7 Z (notT g22) Z (.U Z (notT g22) (O.ld (y := .i x0.End) ty3 Z Z Z) (.G Z (notT g22) Z (.N Z (notT g22) ?_))); rcases tf (x0.End != 0) with g23 | g23
     ·refine .H fld59_7 Z g23 Z (.U Z g23 (O.ld (y := .i x0.End) ty3 Z Z Z) (.call (.b t18) [] 0 (lombardref02_Good.ok ((if_pos ⟨(by simp only [g22, g23, BL]), (by simp only [g22, g23, BL])⟩).symm.trans b19)) Z (met Z Z Z g23) Z ca99 Z Z (cI .nil) Z Z Z Z Z ?_)); refine .U Z g23 (OpL.unV Z Z Z) (.N Z g23 ?_); rcases tf t18 with g24 | g24
      ·refine .H fld59_7 Z (notT g24) Z (.U Z (notT g24) (O.ld (y := .i x0.End) ty3 Z Z Z) (.H fld59_6 Z (notT g24) Z (.U Z (notT g24) (O.ld (y := .i x0.Start) ty3 Z Z Z) (.G Z (notT g24) Z (.call (.b t20) [] 0 (lombardref10_in.ok ((if_pos ⟨(by simp only [g22, g23, g24, BL]), (by simp only [g22, g23, g24, BL]), (by simp only [g22, g23, g24, BL])⟩).symm.trans b21)) Z (met Z Z Z (notT g24)) Z ca97 Z Z (cI (cI (cI .nil))) Z Z Z Z Z ?_))))); exact .U Z (notT g24) (OpL.unV Z Z Z) (.U Z g23 (O.pickF (notT g24) Z Z Z) (.U Z (notT g22) (O.pickT g23 Z Z Z) (.E (notT g22) Z (.nil (toN (Gm [] (.c Z (sbb (by simp only [g22, g23, g24, BL])) Z .n) .n Z))))))
      ·(iterate 7 refine .X Z (notF g24) ?_); exact .U Z g23 (O.pickT (notF g24) Z Z Z) (.U Z (notT g22) (O.pickT g23 Z Z Z) (.E (notT g22) Z (.nil (toN (Gm [] (.c Z (sbb (by simp only [g22, g23, g24, BL])) Z .n) .n Z)))))
     ·(iterate 5 refine .X Z g23 ?_); (iterate 7 refine .x Z (unmetU Z Z Z) ?_); exact .X Z g23 (.U Z (notT g22) (O.pickF g23 Z Z Z) (.E (notT g22) Z (.nil (toN (Gm [] (.c Z (sbb (by simp only [g22, g23, BL])) Z .n) .n Z)))))
    ·(iterate 4 refine .X Z (notF g22) ?_); (iterate 13 refine .x Z (unmetU Z Z Z) ?_); exact .X Z (notF g22) (.T (notF g22) Z (.nil (toN (Gm [] (.c Z (sbb (by simp only [g22, BL])) Z .n) .n Z))))
 ·clear h; refine W.pk (.F fld59_0 Z (.V Z (O.ld (y := .i x0.ID) ty3 Z Z Z) (.C (.b t1) [] 0 (lombardref10_Amount.ok b2) ca98 Z (cI .nil) Z ?_))); refine .V Z (OpL.unV Z Z Z) (.M Z ?_); rcases tf t1 with g11 | g11
  ·refine .H fld59_2 Z (notT g11) Z (.U Z (notT g11) (O.ld (y := .i x0.Side) ty3 Z Z Z) (.call (.b t3) [] 0 (lombardref10_in.ok ((if_pos (by simp only [g11, BL])).symm.trans b4)) Z (met Z Z Z (notT g11)) Z ca97 Z Z (cI (cI (cI .nil))) Z Z Z Z Z ?_)); refine .U Z (notT g11) (OpL.unV Z Z Z) (.E (notT g11) Z (.M Z ?_)); rcases tf t3 with g12 | g12
   ·refine .H fld59_3 Z (notT g12) Z (.U Z (notT g12) (O.ld (y := .i x0.Basket) ty3 Z Z Z) (.call (.b t5) [] 0 (lombardref10_in.ok ((if_pos (by simp only [g11, g12, BL])).symm.trans b6)) Z (met Z Z Z (notT g12)) Z ca97 Z Z (cI (cI (cI .nil))) Z Z Z Z Z ?_)); refine .U Z (notT g12) (OpL.unV Z Z Z) (.E (notT g12) Z (.M Z ?_)); rcases tf t5 with g13 | g13
    ·refine .H fld59_4 Z (notT g13) Z (.U Z (notT g13) (O.ld (y := .i x0.Amount) ty3 Z Z Z) (.call (.b t7) [] 0 (lombardref10_Amount.ok ((if_pos (by simp only [g11, g12, g13, BL])).symm.trans b8)) Z (met Z Z Z (notT g13)) Z ca98 Z Z (cI .nil) Z Z Z Z Z ?_)); refine .U Z (notT g13) (OpL.unV Z Z Z) (.E (notT g13) Z (.M Z ?_)); rcases tf t7 with g14 | g14
     ·refine .H fld59_5 Z (notT g14) Z (.U Z (notT g14) (O.ld (y := .i x0.Rate) ty3 Z Z Z) (.call (.b t9) [] 0 (lombardref10_in.ok ((if_pos (by simp only [g11, g12, g13, g14, BL])).symm.trans b10)) Z (met Z Z Z (notT g14)) Z ca97 Z Z (cI (cI (cI .nil))) Z Z Z Z Z ?_)); exact .U Z (notT g14) (OpL.unV Z Z Z) (.E (notT g14) Z (.nil (toN (Gm [] (.r Z Z (.c Z (sbb (by simp only [g11, g12, g13, g14, BL])) Z .n)) (.r Z Z Z .n) Z))))
     ·(iterate 4 refine .X Z (notF g14) ?_); exact .T (notF g14) Z (.nil (toN (Gm [] (.r Z Z (.c Z (sbb (by simp only [g11, g12, g13, g14, BL])) Z .n)) (.r Z Z Z .n) Z)))
    ·(iterate 4 refine .X Z (notF g13) ?_); refine .T (notF g13) Z (.M Z ?_); (iterate 4 refine .X Z Z ?_); exact .T Z Z (.nil (toN (Gm [] (.r Z Z (.c Z (sbb (by simp only [g11, g12, g13, BL])) Z .n)) (.r Z Z Z .n) Z)))
   ·(iterate 4 refine .X Z (notF g12) ?_); refine .T (notF g12) Z (.M Z ?_); (iterate 4 refine .X Z Z ?_); refine .T Z Z (.M Z ?_); (iterate 4 refine .X Z Z ?_); exact .T Z Z (.nil (toN (Gm [] (.r Z Z (.c Z (sbb (by simp only [g11, g12, BL])) Z .n)) (.r Z Z Z .n) Z)))
  ·(iterate 4 refine .X Z (notF g11) ?_); refine .T (notF g11) Z (.M Z ?_); (iterate 4 refine .X Z Z ?_); refine .T Z Z (.M Z ?_); (iterate 4 refine .X Z Z ?_); refine .T Z Z (.M Z ?_); (iterate 4 refine .X Z Z ?_); exact .T Z Z (.nil (toN (Gm [] (.r Z Z (.c Z (sbb (by simp only [g11, BL])) Z .n)) (.r Z Z Z .n) Z)))

noncomputable def lombardref04_at.f (x0 : Bs) (x1 : Int) : Option (Int) :=
 if (decide (x1 < (List.length x0 : Int))) = true then
 if (0 : Int) ≤ x1 ∧ x1 < (List.length x0 : Int) then
 some (IntKind.wrap .i64 (byte x0 x1))
 else none
 else some (-1)
theorem lombardref04_at.ok {x0 : Bs} {x1 : Int} {r : Int} (h : lombardref04_at.f x0 x1 = some r) : Pm.Spec prog 103 [.imm (.val (.string (tx x0))), .imm (.val (.int .i64 x1))] (.imm (.val (.int .i64 r))) [none, none] := by
 unfold lombardref04_at.f at h; refine Pm.Spec.of_body Tryz.func103 Z (by kernel_rfl) (L Z) (L Z) ?_; refine W.ghost (σ' := (mkSt [(0, some (.s x0)), (1, some (.i x1))] [] 1000)) (Gives.entry (.c Z (.c Z .n)) .n) (W.seq (W.pk (.A Z (.nil (W.seq (W.seq (W.pk (.M Z (.M Z (.V Z (O.lenS u9 Z Z) (.B Z ?_))))))))))); refine .nil (W.cnd Z h (fun q1 h => ?_) (fun q1 h => ?_))
 ·refine W.seq ?_; obtain ⟨c2, h⟩ := chk h; refine W.pk (.M Z (.M Z (.V Z (O.idxS u9 c2 Z Z Z) (.V Z (O.conv h5 u3 Z Z) (.A Z (.nil (W.ret ?_))))))); cases h; exact leaves (.inr Z) Z (.imm _) (cN (cN .nil)) Z Z
 ·refine W.skip (W.seq (W.pk (.A Z (.nil (W.ret ?_))))); cases h; exact leaves (.inr Z) Z (.imm _) (cN (cN .nil)) Z Z

noncomputable def lombardref04_tail.f (x0 : Int) : Option (Bool) :=
 some ((decide (x0 ≥ 128)) && (decide (x0 < 192)))
theorem lombardref04_tail.ok {x0 : Int} {r : Bool} (h : lombardref04_tail.f x0 = some r) : Pm.Spec prog 104 [.imm (.val (.int .i64 x0))] (.imm (.val (.bool r))) [none] := by
 unfold lombardref04_tail.f at h; refine Pm.Spec.of_body Tryz.func104 Z (by kernel_rfl) (L Z) (L Z) ?_; refine W.ghost (σ' := (mkSt [(0, some (.i x0))] [] 1000)) (Gives.entry (.c Z .n) .n) (W.seq (W.pk (.A Z (.nil (W.seq (W.fork (mkSt [(2, some (.b ((decide (x0 ≥ 128)) && (decide (x0 < 192)))))] [] 1000) ?_ ?_))))))
 ·refine W.ret ?_; cases h; exact lv Z Z
 ·clear h; refine W.pk (.M Z (.B Z (.M Z ?_))); rcases tf (decide (x0 ≥ 128)) with g1 | g1
  ·exact .N Z g1 (.G Z g1 Z (.T g1 Z (.A Z (.nil (toN (Gm [] (.c Z (sbb (by simp only [g1, BL])) Z .n) .n Z))))))
  ·exact .X Z g1 (.X Z g1 (.E g1 Z (.A Z (.nil (toN (Gm [] (.c Z (sbb (by simp only [g1, BL])) Z .n) .n Z))))))

noncomputable def lombardref04_Sign.f (x0 : Bs) (x1 : Int) : Option (Int × Int × Bool) :=
 (lombardref04_at.f x0 x1).bind fun t1 =>
 (lombardref04_at.f x0 (IntKind.wrap .i64 (x1 + 1))).bind fun t3 =>
 (lombardref04_at.f x0 (IntKind.wrap .i64 (x1 + 2))).bind fun t5 =>
 (lombardref04_at.f x0 (IntKind.wrap .i64 (x1 + 3))).bind fun t7 =>
 if (decide (t1 < 128)) = true then
 some (t1, 1, true)
 else (if ((decide (t1 ≥ 194)) && (decide (t1 < 224))) = true then lombardref04_tail.f t3 else some default).bind fun t10 =>
 if (((decide (t1 ≥ 194)) && (decide (t1 < 224))) && t10) = true then
 some ((IntKind.wrap .i64 ((IntKind.wrap .i64 ((IntKind.wrap .i64 ((IntKind.wrap .i64 (t1 - 192)) * 64)) + t3)) - 128)), 2, true)
 else (if ((decide (t1 ≥ 224)) && (decide (t1 < 240))) = true then lombardref04_tail.f t3 else some default).bind fun t15 =>
 (if (((decide (t1 ≥ 224)) && (decide (t1 < 240))) && t15) = true then lombardref04_tail.f t5 else some default).bind fun t17 =>
 ((
 if ((((decide (t1 ≥ 224)) && (decide (t1 < 240))) && t15) && t17) = true then
 if ((decide ((IntKind.wrap .i64 ((IntKind.wrap .i64 ((IntKind.wrap .i64 ((IntKind.wrap .i64 ((IntKind.wrap .i64 (t1 - 224)) * 4096)) + (IntKind.wrap .i64 ((IntKind.wrap .i64 (t3 - 128)) * 64)))) + t5)) - 128)) ≥ 2048)) && ((decide ((IntKind.wrap .i64 ((IntKind.wrap .i64 ((IntKind.wrap .i64 ((IntKind.wrap .i64 ((IntKind.wrap .i64 (t1 - 224)) * 4096)) + (IntKind.wrap .i64 ((IntKind.wrap .i64 (t3 - 128)) * 64)))) + t5)) - 128)) < 55296)) || (decide ((IntKind.wrap .i64 ((IntKind.wrap .i64 ((IntKind.wrap .i64 ((IntKind.wrap .i64 ((IntKind.wrap .i64 (t1 - 224)) * 4096)) + (IntKind.wrap .i64 ((IntKind.wrap .i64 (t3 - 128)) * 64)))) + t5)) - 128)) > 57343)))) = true then
 some (.inl ((IntKind.wrap .i64 ((IntKind.wrap .i64 ((IntKind.wrap .i64 ((IntKind.wrap .i64 ((IntKind.wrap .i64 (t1 - 224)) * 4096)) + (IntKind.wrap .i64 ((IntKind.wrap .i64 (t3 - 128)) * 64)))) + t5)) - 128)), 3, true))
 else some (.inr ())
 else some (.inr ()) : Option ((Int × Int × Bool) ⊕ Unit))).bind fun o26 =>
 match o26 with
 | .inl r47 => some r47
 | .inr w28 =>
 (if ((decide (t1 ≥ 240)) && (decide (t1 < 245))) = true then lombardref04_tail.f t3 else some default).bind fun t34 =>
 (if (((decide (t1 ≥ 240)) && (decide (t1 < 245))) && t34) = true then lombardref04_tail.f t5 else some default).bind fun t36 =>
 (if ((((decide (t1 ≥ 240)) && (decide (t1 < 245))) && t34) && t36) = true then lombardref04_tail.f t7 else some default).bind fun t38 =>
 if (((((decide (t1 ≥ 240)) && (decide (t1 < 245))) && t34) && t36) && t38) = true then
 if ((decide ((IntKind.wrap .i64 ((IntKind.wrap .i64 ((IntKind.wrap .i64 ((IntKind.wrap .i64 ((IntKind.wrap .i64 ((IntKind.wrap .i64 (t1 - 240)) * 262144)) + (IntKind.wrap .i64 ((IntKind.wrap .i64 (t3 - 128)) * 4096)))) + (IntKind.wrap .i64 ((IntKind.wrap .i64 (t5 - 128)) * 64)))) + t7)) - 128)) ≥ 65536)) && (decide ((IntKind.wrap .i64 ((IntKind.wrap .i64 ((IntKind.wrap .i64 ((IntKind.wrap .i64 ((IntKind.wrap .i64 ((IntKind.wrap .i64 (t1 - 240)) * 262144)) + (IntKind.wrap .i64 ((IntKind.wrap .i64 (t3 - 128)) * 4096)))) + (IntKind.wrap .i64 ((IntKind.wrap .i64 (t5 - 128)) * 64)))) + t7)) - 128)) < 1114112))) = true then
 some ((IntKind.wrap .i64 ((IntKind.wrap .i64 ((IntKind.wrap .i64 ((IntKind.wrap .i64 ((IntKind.wrap .i64 ((IntKind.wrap .i64 (t1 - 240)) * 262144)) + (IntKind.wrap .i64 ((IntKind.wrap .i64 (t3 - 128)) * 4096)))) + (IntKind.wrap .i64 ((IntKind.wrap .i64 (t5 - 128)) * 64)))) + t7)) - 128)), 4, true)
 else some (65533, 1, false)
 else some (65533, 1, false)
theorem lombardref04_Sign.ok {x0 : Bs} {x1 : Int} {r : Int × Int × Bool} (h : lombardref04_Sign.f x0 x1 = some r) : Pm.Spec prog 81 [.imm (.val (.string (tx x0))), .imm (.val (.int .i64 x1))] (.tup [.imm (.val (.int .i64 r.1)), .imm (.val (.int .i64 r.2.1)), .imm (.val (.bool r.2.2))]) [none, none] := by
 unfold lombardref04_Sign.f at h; refine Pm.Spec.of_body Tryz.func81 Z (by kernel_rfl) (L Z) (L Z) ?_; refine W.ghost (σ' := (mkSt [(0, some (.s x0)), (1, some (.i x1))] [] 1000)) (Gives.entry (.c Z (.c Z .n)) .n) (W.seq (W.pk (.A Z (.A Z (.A Z (.nil (W.seq ?_))))))); obtain ⟨t1, b2, h⟩ := bnd1 h; obtain ⟨t3, b4, h⟩ := bnd1 h; obtain ⟨t5, b6, h⟩ := bnd1 h; obtain ⟨t7, b8, h⟩ := bnd1 h; refine W.pk (.M Z (.M Z (.C (.i t1) [] 0 (lombardref04_at.ok b2) ca103 Z (cI (cI .nil)) Z ?_))); refine .M Z (.M Z (.B Z (.C (.i t3) [] 0 (lombardref04_at.ok b4) ca103 Z (cI (cI .nil)) Z ?_))); refine .M Z (.M Z (.B Z (.C (.i t5) [] 0 (lombardref04_at.ok b6) ca103 Z (cI (cI .nil)) Z ?_))); refine .M Z (.M Z (.B Z (.C (.i t7) [] 0 (lombardref04_at.ok b8) ca103 Z (cI (cI .nil)) Z ?_))); (iterate 4 refine .A Z ?_); refine .nil (W.seq (W.seq (W.pk (.M Z (.B Z (.nil (W.cnd Z h (fun q9 h => ?_) (fun q9 h => ?_))))))))
 ·refine W.seq (W.pk (.M Z (.A Z (.A Z (.A Z (.nil (W.ret ?_))))))); cases h; exact leaves (.inr Z) Z (.tup _ _ _ _ (cI (cI (cI .nil)))) (cN (cN .nil)) Z Z
 ·refine W.skip (W.seq (W.seq ?_)); obtain ⟨t10, b11, h⟩ := bnd1 h; refine W.fork (mkSt [(7, some (.i t1)), (8, some (.i t3)), (9, some (.i t5)), (10, some (.i t7)), (40, some (.b (((decide (t1 ≥ 194)) && (decide (t1 < 224))) && t10)))] [] 1000) ?_ ?_
  ·refine W.cnd Z h (fun q14 h => ?_) (fun q14 h => ?_)
   ·refine W.seq (W.pk (.M Z (.B Z (.B Z (.M Z (.B Z (.B Z (.A Z (.A Z (.A Z (.nil ?_))))))))))); refine W.ret ?_; cases h; exact leaves (.inr Z) Z (.tup _ _ _ _ (cI (cI (cI .nil)))) (cN (cN .nil)) Z Z
   ·refine W.skip (W.seq (W.seq ?_)); obtain ⟨t15, b16, h⟩ := bnd1 h; obtain ⟨t17, b18, h⟩ := bnd1 h; refine W.fork (mkSt [(7, some (.i t1)), (8, some (.i t3)), (9, some (.i t5)), (10, some (.i t7)), (60, some (.b ((((decide (t1 ≥ 224)) && (decide (t1 < 240))) && t15) && t17)))] [] 1000) ?_ ?_
    ·obtain ⟨o26, b27, z29⟩ := bnd1 h; refine W.fork2 (out := o26) (fun (w28 : Unit) => mkSt [(7, some (.i t1)), (8, some (.i t3)), (9, some (.i t5)), (10, some (.i t7))] [] 1000) ?_ ?_
     ·clear h; have h := b27; refine W.cnd Z h (fun q30 h => ?_) (fun q30 h => ?_)
      ·refine W.seq (W.pk (.M Z (.B Z (.B Z (.M Z (.B Z (.B Z (.B Z (.M Z (.B Z (.B Z ?_))))))))))); refine .A Z (.nil (W.seq (W.fork (mkSt [(7, some (.i t1)), (8, some (.i t3)), (9, some (.i t5)), (10, some (.i t7)), (11, some (.i (IntKind.wrap .i64 ((IntKind.wrap .i64 ((IntKind.wrap .i64 ((IntKind.wrap .i64 ((IntKind.wrap .i64 (t1 - 224)) * 4096)) + (IntKind.wrap .i64 ((IntKind.wrap .i64 (t3 - 128)) * 64)))) + t5)) - 128)))), (80, some (.b ((decide ((IntKind.wrap .i64 ((IntKind.wrap .i64 ((IntKind.wrap .i64 ((IntKind.wrap .i64 ((IntKind.wrap .i64 (t1 - 224)) * 4096)) + (IntKind.wrap .i64 ((IntKind.wrap .i64 (t3 - 128)) * 64)))) + t5)) - 128)) ≥ 2048)) && ((decide ((IntKind.wrap .i64 ((IntKind.wrap .i64 ((IntKind.wrap .i64 ((IntKind.wrap .i64 ((IntKind.wrap .i64 (t1 - 224)) * 4096)) + (IntKind.wrap .i64 ((IntKind.wrap .i64 (t3 - 128)) * 64)))) + t5)) - 128)) < 55296)) || (decide ((IntKind.wrap .i64 ((IntKind.wrap .i64 ((IntKind.wrap .i64 ((IntKind.wrap .i64 ((IntKind.wrap .i64 (t1 - 224)) * 4096)) + (IntKind.wrap .i64 ((IntKind.wrap .i64 (t3 - 128)) * 64)))) + t5)) - 128)) > 57343))))))] [] 1000) ?_ ?_)))
       ·refine W.cnd Z h (fun q33 h => ?_) (fun q33 h => ?_)
        ·refine W.seq (W.pk (.M Z (.A Z (.A Z (.A Z (.nil (W.ret ?_))))))); cases h; have h := z29; dsimp only at h; refine fkR ?_; cases h; exact leaves (.inr Z) Z (.tup _ _ _ _ (cI (cI (cI .nil)))) (cN (cN .nil)) Z Z
        ·refine W.skip ?_; cases h; exact fkN (Gm [] (.e Z Z) .n Z)
       ·clear h; refine W.pk (.M Z (.B Z (.M Z ?_))); rcases tf (decide ((IntKind.wrap .i64 ((IntKind.wrap .i64 ((IntKind.wrap .i64 ((IntKind.wrap .i64 ((IntKind.wrap .i64 (t1 - 224)) * 4096)) + (IntKind.wrap .i64 ((IntKind.wrap .i64 (t3 - 128)) * 64)))) + t5)) - 128)) ≥ 2048)) with g31 | g31
        ·refine .N Z g31 (.G Z g31 Z (.N Z g31 ?_)); rcases tf (decide ((IntKind.wrap .i64 ((IntKind.wrap .i64 ((IntKind.wrap .i64 ((IntKind.wrap .i64 ((IntKind.wrap .i64 (t1 - 224)) * 4096)) + (IntKind.wrap .i64 ((IntKind.wrap .i64 (t3 - 128)) * 64)))) + t5)) - 128)) < 55296)) with g32 | g32
         ·exact .X Z g32 (.X Z g32 (.U Z g31 (O.pickT g32 Z Z Z) (.T g31 Z (.nil (toN (Gm [] (.r Z Z (.r Z Z (.r Z Z (.r Z Z (.r Z Z (.c Z (sbb (by simp only [g31, g32, BL])) Z .n)))))) .n Z))))))
         ·exact .N Z g32 (.G Z g32 Z (.U Z g31 (O.pickF g32 Z Z Z) (.T g31 Z (.nil (toN (Gm [] (.r Z Z (.r Z Z (.r Z Z (.r Z Z (.r Z Z (.c Z (sbb (by simp only [g31, g32, BL])) Z .n)))))) .n Z))))))
        ·(iterate 3 refine .X Z g31 ?_); (iterate 2 refine .x Z (unmetU Z Z Z) ?_); exact .X Z g31 (.E g31 Z (.nil (toN (Gm [] (.r Z Z (.r Z Z (.r Z Z (.r Z Z (.r Z Z (.c Z (sbb (by simp only [g31, BL])) Z .n)))))) .n Z))))
      ·refine W.skip ?_; cases h; exact fkN (Gm [] (.e Z Z) .n Z)
     ·intro w28 e_; subst e_; clear h; have h := z29; dsimp only at h; refine W.seq (W.seq ?_); obtain ⟨t34, b35, h⟩ := bnd1 h; obtain ⟨t36, b37, h⟩ := bnd1 h; obtain ⟨t38, b39, h⟩ := bnd1 h; refine W.fork (mkSt [(7, some (.i t1)), (8, some (.i t3)), (9, some (.i t5)), (10, some (.i t7)), (99, some (.b (((((decide (t1 ≥ 240)) && (decide (t1 < 245))) && t34) && t36) && t38)))] [] 1000) ?_ ?_
      ·refine W.cnd Z h (fun q44 h => ?_) (fun q44 h => ?_)
       ·refine W.seq (W.pk (.M Z (.B Z (.B Z (.M Z (.B Z (.B Z (.B Z (.M Z (.B Z (.B Z ?_))))))))))); refine .B Z (.M Z (.B Z (.B Z (.A Z (.nil (W.seq (W.fork (mkSt [(12, some (.i (IntKind.wrap .i64 ((IntKind.wrap .i64 ((IntKind.wrap .i64 ((IntKind.wrap .i64 ((IntKind.wrap .i64 ((IntKind.wrap .i64 (t1 - 240)) * 262144)) + (IntKind.wrap .i64 ((IntKind.wrap .i64 (t3 - 128)) * 4096)))) + (IntKind.wrap .i64 ((IntKind.wrap .i64 (t5 - 128)) * 64)))) + t7)) - 128)))), (119, some (.b ((decide ((IntKind.wrap .i64 ((IntKind.wrap .i64 ((IntKind.wrap .i64 ((IntKind.wrap .i64 ((IntKind.wrap .i64 ((IntKind.wrap .i64 (t1 - 240)) * 262144)) + (IntKind.wrap .i64 ((IntKind.wrap .i64 (t3 - 128)) * 4096)))) + (IntKind.wrap .i64 ((IntKind.wrap .i64 (t5 - 128)) * 64)))) + t7)) - 128)) ≥ 65536)) && (decide ((IntKind.wrap .i64 ((IntKind.wrap .i64 ((IntKind.wrap .i64 ((IntKind.wrap .i64 ((IntKind.wrap .i64 ((IntKind.wrap .i64 (t1 - 240)) * 262144)) + (IntKind.wrap .i64 ((IntKind.wrap .i64 (t3 - 128)) * 4096)))) + (IntKind.wrap .i64 ((IntKind.wrap .i64 (t5 - 128)) * 64)))) + t7)) - 128)) < 1114112)))))] [] 1000) ?_ ?_)))))))
        ·refine W.cnd Z h (fun q46 h => ?_) (fun q46 h => ?_)
         ·refine W.seq (W.pk (.M Z (.A Z (.A Z (.A Z (.nil (W.ret ?_))))))); cases h; exact leaves (.inr Z) Z (.tup _ _ _ _ (cI (cI (cI .nil)))) (cN (cN .nil)) Z Z
         ·refine W.skip (W.seq (W.pk (.A Z (.A Z (.A Z (.nil (W.ret ?_))))))); cases h; exact leaves (.inr Z) Z (.tup _ _ _ _ (cI (cI (cI .nil)))) (cN (cN .nil)) Z Z
        ·clear h; refine W.pk (.M Z (.B Z (.M Z ?_))); rcases tf (decide ((IntKind.wrap .i64 ((IntKind.wrap .i64 ((IntKind.wrap .i64 ((IntKind.wrap .i64 ((IntKind.wrap .i64 ((IntKind.wrap .i64 (t1 - 240)) * 262144)) + (IntKind.wrap .i64 ((IntKind.wrap .i64 (t3 - 128)) * 4096)))) + (IntKind.wrap .i64 ((IntKind.wrap .i64 (t5 - 128)) * 64)))) + t7)) - 128)) ≥ 65536)) with g45 | g45
         ·exact .N Z g45 (.G Z g45 Z (.T g45 Z (.nil (toN (Gm [] (.r Z Z (.c Z (sbb (by simp only [g45, BL])) Z .n)) .n Z)))))
         ·exact .X Z g45 (.X Z g45 (.E g45 Z (.nil (toN (Gm [] (.r Z Z (.c Z (sbb (by simp only [g45, BL])) Z .n)) .n Z)))))
       ·refine W.skip (W.seq (W.pk (.A Z (.A Z (.A Z (.nil (W.ret ?_))))))); cases h; exact leaves (.inr Z) Z (.tup _ _ _ _ (cI (cI (cI .nil)))) (cN (cN .nil)) Z Z
      ·clear h; refine W.pk (.M Z (.B Z (.M Z ?_))); rcases tf (decide (t1 ≥ 240)) with g40 | g40
       ·refine .N Z g40 (.G Z g40 Z (.T g40 Z (.M Z ?_))); rcases tf (decide (t1 < 245)) with g41 | g41
        ·refine .N Z g41 (.call (.b t34) [] 0 (lombardref04_tail.ok ((if_pos (by simp only [g40, g41, BL])).symm.trans b35)) Z (met Z Z Z g41) Z ca104 Z Z (cI .nil) Z Z Z Z Z ?_); refine .T g41 Z (.M Z ?_); rcases tf t34 with g42 | g42
         ·refine .N Z g42 (.call (.b t36) [] 0 (lombardref04_tail.ok ((if_pos (by simp only [g40, g41, g42, BL])).symm.trans b37)) Z (met Z Z Z g42) Z ca104 Z Z (cI .nil) Z Z Z Z Z ?_); refine .T g42 Z (.M Z ?_); rcases tf t36 with g43 | g43
          ·refine .N Z g43 (.call (.b t38) [] 0 (lombardref04_tail.ok ((if_pos (by simp only [g40, g41, g42, g43, BL])).symm.trans b39)) Z (met Z Z Z g43) Z ca104 Z Z (cI .nil) Z Z Z Z Z ?_); exact .T g43 Z (.nil (toN (Gm [] (.r Z Z (.r Z Z (.r Z Z (.r Z Z (.c Z (sbb (by simp only [g40, g41, g42, g43, BL])) Z .n))))) .n Z)))
          ·exact .X Z g43 (.X Z g43 (.E g43 Z (.nil (toN (Gm [] (.r Z Z (.r Z Z (.r Z Z (.r Z Z (.c Z (sbb (by simp only [g40, g41, g42, g43, BL])) Z .n))))) .n Z)))))
         ·exact .X Z g42 (.X Z g42 (.E g42 Z (.M Z (.X Z Z (.X Z Z (.E Z Z (.nil (toN (Gm [] (.r Z Z (.r Z Z (.r Z Z (.r Z Z (.c Z (sbb (by simp only [g40, g41, g42, BL])) Z .n))))) .n Z)))))))))
        ·refine .X Z g41 (.X Z g41 (.E g41 Z (.M Z (.X Z Z (.X Z Z (.E Z Z (.M Z (.X Z Z (.X Z Z (.E Z Z (.nil ?_))))))))))); exact toN (Gm [] (.r Z Z (.r Z Z (.r Z Z (.r Z Z (.c Z (sbb (by simp only [g40, g41, BL])) Z .n))))) .n Z)
       ·refine .X Z g40 (.X Z g40 (.E g40 Z (.M Z (.X Z Z (.X Z Z (.E Z Z (.M Z (.X Z Z (.X Z Z (.E Z Z (.M Z ?_))))))))))); exact .X Z Z (.X Z Z (.E Z Z (.nil (toN (Gm [] (.r Z Z (.r Z Z (.r Z Z (.r Z Z (.c Z (sbb (by simp only [g40, BL])) Z .n))))) .n Z)))))
    ·clear h; refine W.pk (.M Z (.B Z (.M Z ?_))); rcases tf (decide (t1 ≥ 224)) with g19 | g19
     ·refine .N Z g19 (.G Z g19 Z (.T g19 Z (.M Z ?_))); rcases tf (decide (t1 < 240)) with g20 | g20
      ·refine .N Z g20 (.call (.b t15) [] 0 (lombardref04_tail.ok ((if_pos (by simp only [g19, g20, BL])).symm.trans b16)) Z (met Z Z Z g20) Z ca104 Z Z (cI .nil) Z Z Z Z Z ?_); refine .T g20 Z (.M Z ?_); rcases tf t15 with g21 | g21
       ·refine .N Z g21 (.call (.b t17) [] 0 (lombardref04_tail.ok ((if_pos (by simp only [g19, g20, g21, BL])).symm.trans b18)) Z (met Z Z Z g21) Z ca104 Z Z (cI .nil) Z Z Z Z Z ?_); exact .T g21 Z (.nil (toN (Gm [] (.r Z Z (.r Z Z (.r Z Z (.r Z Z (.c Z (sbb (by simp only [g19, g20, g21, BL])) Z .n))))) .n Z)))
       ·exact .X Z g21 (.X Z g21 (.E g21 Z (.nil (toN (Gm [] (.r Z Z (.r Z Z (.r Z Z (.r Z Z (.c Z (sbb (by simp only [g19, g20, g21, BL])) Z .n))))) .n Z)))))
      ·exact .X Z g20 (.X Z g20 (.E g20 Z (.M Z (.X Z Z (.X Z Z (.E Z Z (.nil (toN (Gm [] (.r Z Z (.r Z Z (.r Z Z (.r Z Z (.c Z (sbb (by simp only [g19, g20, BL])) Z .n))))) .n Z)))))))))
     ·refine .X Z g19 (.X Z g19 (.E g19 Z (.M Z (.X Z Z (.X Z Z (.E Z Z (.M Z (.X Z Z (.X Z Z (.E Z Z (.nil ?_))))))))))); exact toN (Gm [] (.r Z Z (.r Z Z (.r Z Z (.r Z Z (.c Z (sbb (by simp only [g19, BL])) Z .n))))) .n Z)
  ·clear h; refine W.pk (.M Z (.B Z (.M Z ?_))); rcases tf (decide (t1 ≥ 194)) with g12 | g12
   ·refine .N Z g12 (.G Z g12 Z (.T g12 Z (.M Z ?_))); rcases tf (decide (t1 < 224)) with g13 | g13
    ·refine .N Z g13 (.call (.b t10) [] 0 (lombardref04_tail.ok ((if_pos (by simp only [g12, g13, BL])).symm.trans b11)) Z (met Z Z Z g13) Z ca104 Z Z (cI .nil) Z Z Z Z Z ?_); exact .T g13 Z (.nil (toN (Gm [] (.r Z Z (.r Z Z (.r Z Z (.r Z Z (.c Z (sbb (by simp only [g12, g13, BL])) Z .n))))) .n Z)))
    ·exact .X Z g13 (.X Z g13 (.E g13 Z (.nil (toN (Gm [] (.r Z Z (.r Z Z (.r Z Z (.r Z Z (.c Z (sbb (by simp only [g12, g13, BL])) Z .n))))) .n Z)))))
   ·exact .X Z g12 (.X Z g12 (.E g12 Z (.M Z (.X Z Z (.X Z Z (.E Z Z (.nil (toN (Gm [] (.r Z Z (.r Z Z (.r Z Z (.r Z Z (.c Z (sbb (by simp only [g12, BL])) Z .n))))) .n Z)))))))))

noncomputable def lombardref04_Signs.b0 (x0 : Bs) (v14 : Bool) (v15 : Int) (v16 : List Int) (v17 : List Int) : Option ((Bool × Int × (List Int) × (List Int)) ⊕ (Bool × (List Int) × (List Int))) :=
 if (decide (v15 < (List.length x0 : Int))) = true then
 (lombardref04_Sign.f x0 v15).bind fun t35 =>
 if (List.length v16 + List.length [t35.1]) * 8 ≤ 140737488355328 then
 if (List.length v17 + List.length [v15]) * 8 ≤ 140737488355328 then
 some (.inl ((v14 && t35.2.2), (IntKind.wrap .i64 (v15 + t35.2.1)), (v16 ++ [t35.1]), (v17 ++ [v15])))
 else none
 else none
 else some (.inr (v14, v16, v17))
noncomputable def lombardref04_Signs.r0 (x0 : Bs) (s : Bool × Int × (List Int) × (List Int)) : Option ((Bool × Int × (List Int) × (List Int)) ⊕ (Bool × (List Int) × (List Int))) := lombardref04_Signs.b0 x0 s.1 s.2.1 s.2.2.1 s.2.2.2
noncomputable def lombardref04_Signs.f (x0 : Bs) : Option ((List Int) × (List Int) × Bool) :=
 (loop (lombardref04_Signs.r0 x0) (true, 0, [], [])).bind fun o31 =>
 some (o31.2.1, o31.2.2, o31.1)
theorem lombardref04_Signs.ok {x0 : Bs} {r : (List Int) × (List Int) × Bool} (h : lombardref04_Signs.f x0 = some r) : Pm.Spec prog 46 [.imm (.val (.string (tx x0)))] (.tup [.xown 3 1 (List.map (encI .i64) r.1), .xown 3 1 (List.map (encI .i64) r.2.1), .imm (.val (.bool r.2.2))]) [none] := by
 unfold lombardref04_Signs.f at h; refine Pm.Spec.of_body Tryz.func46 Z (by kernel_rfl) (L Z) (L Z) ?_; refine W.ghost (σ' := (mkSt [(0, some (.s x0))] [] 1000)) (Gives.entry (.c Z .n) .n) (W.seq (W.pk (.A Z (.A Z (.A Z (.nil (W.seq (W.pk (.A Z (.A Z (.nil ?_))))))))))); refine W.seq (W.pk (.A Z (.nil (W.seq (W.seq (W.pk (.A Z (.nil (W.ghost (Gives.mintS 5 3 1 Z) (W.ghost (Gives.mintS 6 3 1 Z) ?_)))))))))); obtain ⟨o31, b32, h⟩ := bnd1 h; refine W.fork (mkSt [(5, some (.own 1000)), (6, some (.own 1001)), (7, some (.b o31.1))] [(1000, some (.rows 3 1 (List.map (encI .i64) o31.2.1) false)), (1001, some (.rows 3 1 (List.map (encI .i64) o31.2.2) false))] 1002) ?_ ?_
 ·refine W.seq (W.pk (.M Z (.M Z (.M Z (.A Z (.A Z (.A Z (.nil (W.ret ?_))))))))); cases h; exact leaves (.inr Z) Z (.tup _ _ _ _ (cC (.own _ _ _ _ Z) (cC (.own _ _ _ _ Z) (cI .nil)))) (cN .nil) Z Z
 ·clear h; refine W.block (W.loopF (fun (s_ : Bool × Int × (List Int) × (List Int)) => mkSt [(0, some (.s x0)), (5, some (.own 1000)), (6, some (.own 1001)), (7, some (.b s_.1)), (8, some (.i s_.2.1))] [(1000, some (.rows 3 1 (List.map (encI .i64) s_.2.2.1) false)), (1001, some (.rows 3 1 (List.map (encI .i64) s_.2.2.2) false))] 1002) b32 (Gm [] (.e Z Z) (.e Z Z) Z) ?_); rintro ⟨v14, v15, v16, v17⟩ s_ hr; have h : lombardref04_Signs.b0 x0 v14 v15 v16 v17 = some s_ := hr; unfold lombardref04_Signs.b0 at h; refine W.seq (W.seq (W.pk (.M Z (.M Z (.V Z (O.lenS u9 Z Z) (.B Z (.nil (W.cnd Z h (fun q34 h => ?_) (fun q34 h => ?_)))))))))
  ·refine W.skip (W.block (W.seq ?_)); obtain ⟨t35, b36, h⟩ := bnd1 h; refine W.pk (.M Z (.M Z (.C (.tup [.i t35.1, .i t35.2.1, .b t35.2.2]) [] 0 (lombardref04_Sign.ok b36) ca81 Z (cI (cI .nil)) Z ?_))); refine .M Z ?_; (iterate 3 refine .V Z (OpL.extract Z Z Z) ?_); refine .A Z (.A Z (.A Z (.nil (W.seq ?_)))); obtain ⟨c37, h⟩ := chk h; refine W.pk (.M Z (.M Z (.t Z Z (O.lit (enc := (encI .i64)) (l := [t35.1]) sl54 Z Z Z Z Z Z Z Z Z) (.t Z Z (O.appO sl54 (EncOk.int .i64) c37 Z Z Z Z Z) (.A Z (.nil (W.seq ?_))))))); obtain ⟨c38, h⟩ := chk h; refine W.pk (.M Z (.M Z (.t Z Z (O.lit (enc := (encI .i64)) (l := [v15]) sl54 Z Z Z Z Z Z Z Z Z) (.t Z Z (O.appO sl54 (EncOk.int .i64) c38 Z Z Z Z Z) (.A Z (.nil (W.seq (W.fork (mkSt [(0, some (.s x0)), (5, some (.own 1003)), (6, some (.own 1005)), (7, some (.b (v14 && t35.2.2))), (8, some (.i v15)), (10, some (.i t35.2.1))] [(1003, some (.rows 3 1 (List.map (encI .i64) (v16 ++ [t35.1])) false)), (1005, some (.rows 3 1 (List.map (encI .i64) (v17 ++ [v15])) false))] 1006) ?_ ?_))))))))
   ·refine W.pk (.M Z (.M Z (.B Z (.A Z (.nil ?_))))); cases h; exact rdN (Gm [(1000, 1003), (1001, 1005)] (.e Z Z) (.e Z Z) Z)
   ·clear h; refine W.pk (.M Z (.M Z ?_)); rcases tf v14 with g39 | g39
    ·exact .N Z g39 (.T g39 Z (.A Z (.nil (toN (Gm [] (.r Z Z (.r Z Z (.r Z Z (.c Z (sbb (by simp only [g39, BL])) Z (.r Z Z (.r Z Z .n)))))) (.e Z Z) Z)))))
    ·exact .X Z g39 (.E g39 Z (.A Z (.nil (toN (Gm [] (.r Z Z (.r Z Z (.r Z Z (.c Z (sbb (by simp only [g39, BL])) Z (.r Z Z (.r Z Z .n)))))) (.e Z Z) Z)))))
  ·refine W.exit ?_; cases h; refine rdX fun e_ => ?_; subst e_; (repeat with_reducible refine thru ?_); exact hit (toN (Gm [] (.e Z Z) (.e Z Z) Z))

noncomputable def lombardref04_ascii.f (x0 : Int) : Option (Bool) :=
 some (((decide (x0 ≥ 97)) && (decide (x0 ≤ 122))) || ((decide (x0 ≥ 65)) && (decide (x0 ≤ 90))))
theorem lombardref04_ascii.ok {x0 : Int} {r : Bool} (h : lombardref04_ascii.f x0 = some r) : Pm.Spec prog 121 [.imm (.val (.int .i64 x0))] (.imm (.val (.bool r))) [none] := by
 unfold lombardref04_ascii.f at h; refine Pm.Spec.of_body Tryz.func121 Z (by kernel_rfl) (L Z) (L Z) ?_; refine W.ghost (σ' := (mkSt [(0, some (.i x0))] [] 1000)) (Gives.entry (.c Z .n) .n) (W.seq (W.pk (.A Z (.nil (W.seq (W.fork (mkSt [(2, some (.b (((decide (x0 ≥ 97)) && (decide (x0 ≤ 122))) || ((decide (x0 ≥ 65)) && (decide (x0 ≤ 90))))))] [] 1000) ?_ ?_))))))
 ·refine W.ret ?_; cases h; exact lv Z Z
 ·clear h; refine W.pk (.M Z (.B Z (.M Z ?_))); rcases tf (decide (x0 ≥ 97)) with g1 | g1
  ·refine .N Z g1 (.G Z g1 Z (.T g1 Z (.M Z ?_))); rcases tf (decide (x0 ≤ 122)) with g2 | g2
   ·refine .X Z g2 (.X Z g2 (.X Z g2 ?_)); (iterate 2 refine .x Z (unmetU Z Z Z) ?_); exact .X Z g2 (.T g2 Z (.A Z (.nil (toN (Gm [] (.c Z (sbb (by simp only [g1, g2, BL])) Z .n) .n Z)))))
   ·refine .N Z g2 (.G Z g2 Z (.N Z g2 ?_)); rcases tf (decide (x0 ≥ 65)) with g3 | g3
    ·exact .N Z g3 (.G Z g3 Z (.U Z g2 (O.pickT g3 Z Z Z) (.E g2 Z (.A Z (.nil (toN (Gm [] (.c Z (sbb (by simp only [g1, g2, g3, BL])) Z .n) .n Z)))))))
    ·exact .X Z g3 (.X Z g3 (.U Z g2 (O.pickF g3 Z Z Z) (.E g2 Z (.A Z (.nil (toN (Gm [] (.c Z (sbb (by simp only [g1, g2, g3, BL])) Z .n) .n Z)))))))
  ·refine .X Z g1 (.X Z g1 (.E g1 Z (.M Z (.N Z Z (.G Z Z Z (.N Z Z ?_)))))); rcases tf (decide (x0 ≥ 65)) with g4 | g4
   ·exact .N Z g4 (.G Z g4 Z (.U Z Z (O.pickT g4 Z Z Z) (.E Z Z (.A Z (.nil (toN (Gm [] (.c Z (sbb (by simp only [g1, g4, BL])) Z .n) .n Z)))))))
   ·exact .X Z g4 (.X Z g4 (.U Z Z (O.pickF g4 Z Z Z) (.E Z Z (.A Z (.nil (toN (Gm [] (.c Z (sbb (by simp only [g1, g4, BL])) Z .n) .n Z)))))))

noncomputable def lombardref04_letter.f (x0 : Int) : Option (Bool) :=
 (lombardref04_ascii.f x0).bind fun t1 =>
 some (t1 || ((((decide (x0 ≥ 192)) && (decide (x0 ≤ 383))) && (x0 != 215)) && (x0 != 247)))
theorem lombardref04_letter.ok {x0 : Int} {r : Bool} (h : lombardref04_letter.f x0 = some r) : Pm.Spec prog 113 [.imm (.val (.int .i64 x0))] (.imm (.val (.bool r))) [none] := by
 unfold lombardref04_letter.f at h; refine Pm.Spec.of_body Tryz.func113 Z (by kernel_rfl) (L Z) (L Z) ?_; refine W.ghost (σ' := (mkSt [(0, some (.i x0))] [] 1000)) (Gives.entry (.c Z .n) .n) (W.seq (W.pk (.A Z (.nil (W.seq ?_))))); obtain ⟨t1, b2, h⟩ := bnd1 h; refine W.fork (mkSt [(2, some (.b (t1 || ((((decide (x0 ≥ 192)) && (decide (x0 ≤ 383))) && (x0 != 215)) && (x0 != 247)))))] [] 1000) ?_ ?_
 ·refine W.ret ?_; cases h; exact lv Z Z
 ·clear h; refine W.pk (.M Z (.C (.b t1) [] 0 (lombardref04_ascii.ok b2) ca121 Z (cI .nil) Z ?_)); refine .M Z ?_; rcases tf t1 with g3 | g3
  ·refine .X Z g3 (.X Z g3 (.X Z g3 ?_)); (iterate 2 refine .x Z (unmetU Z Z Z) ?_); refine .X Z g3 (.X Z g3 ?_); (iterate 2 refine .x Z (unmetU Z Z Z) ?_); refine .X Z g3 (.X Z g3 ?_); (iterate 2 refine .x Z (unmetU Z Z Z) ?_); exact .X Z g3 (.T g3 Z (.A Z (.nil (toN (Gm [] (.c Z (sbb (by simp only [g3, BL])) Z .n) .n Z)))))
  ·refine .N Z g3 (.G Z g3 Z (.N Z g3 ?_)); rcases tf (decide (x0 ≥ 192)) with g4 | g4
   ·refine .N Z g4 (.G Z g4 Z (.U Z g3 (O.pickT g4 Z Z Z) (.N Z g3 ?_))); rcases tf (decide (x0 ≤ 383)) with g5 | g5
    ·refine .N Z g5 (.G Z g5 Z (.U Z g3 (O.pickT g5 Z Z Z) (.N Z g3 ?_))); rcases tf (x0 != 215) with g6 | g6
     ·exact .N Z g6 (.G Z g6 Z (.U Z g3 (O.pickT g6 Z Z Z) (.E g3 Z (.A Z (.nil (toN (Gm [] (.c Z (sbb (by simp only [g3, g4, g5, g6, BL])) Z .n) .n Z)))))))
     ·exact .X Z g6 (.X Z g6 (.U Z g3 (O.pickF g6 Z Z Z) (.E g3 Z (.A Z (.nil (toN (Gm [] (.c Z (sbb (by simp only [g3, g4, g5, g6, BL])) Z .n) .n Z)))))))
    ·exact .X Z g5 (.X Z g5 (.U Z g3 (O.pickF g5 Z Z Z) (.N Z g3 (.X Z Z (.X Z Z (.U Z g3 (O.pickF Z Z Z Z) (.E g3 Z (.A Z (.nil (toN (Gm [] (.c Z (sbb (by simp only [g3, g4, g5, BL])) Z .n) .n Z)))))))))))
   ·refine .X Z g4 (.X Z g4 (.U Z g3 (O.pickF g4 Z Z Z) (.N Z g3 (.X Z Z (.X Z Z (.U Z g3 (O.pickF Z Z Z Z) (.N Z g3 (.X Z Z (.X Z Z (.U Z g3 (O.pickF Z Z Z Z) (.E g3 Z ?_))))))))))); exact .A Z (.nil (toN (Gm [] (.c Z (sbb (by simp only [g3, g4, BL])) Z .n) .n Z)))

noncomputable def lombardref04_digit.f (x0 : Int) : Option (Bool) :=
 some ((decide (x0 ≥ 48)) && (decide (x0 ≤ 57)))
theorem lombardref04_digit.ok {x0 : Int} {r : Bool} (h : lombardref04_digit.f x0 = some r) : Pm.Spec prog 114 [.imm (.val (.int .i64 x0))] (.imm (.val (.bool r))) [none] := by
 unfold lombardref04_digit.f at h; refine Pm.Spec.of_body Tryz.func114 Z (by kernel_rfl) (L Z) (L Z) ?_; refine W.ghost (σ' := (mkSt [(0, some (.i x0))] [] 1000)) (Gives.entry (.c Z .n) .n) (W.seq (W.pk (.A Z (.nil (W.seq (W.fork (mkSt [(2, some (.b ((decide (x0 ≥ 48)) && (decide (x0 ≤ 57)))))] [] 1000) ?_ ?_))))))
 ·refine W.ret ?_; cases h; exact lv Z Z
 ·clear h; refine W.pk (.M Z (.B Z (.M Z ?_))); rcases tf (decide (x0 ≥ 48)) with g1 | g1
  ·exact .N Z g1 (.G Z g1 Z (.T g1 Z (.A Z (.nil (toN (Gm [] (.c Z (sbb (by simp only [g1, BL])) Z .n) .n Z))))))
  ·exact .X Z g1 (.X Z g1 (.E g1 Z (.A Z (.nil (toN (Gm [] (.c Z (sbb (by simp only [g1, BL])) Z .n) .n Z))))))

noncomputable def lombardref04_joint.f (x0 : Int) : Option (Bool) :=
 some (((((x0 == 32) || (x0 == 45)) || (x0 == 46)) || (x0 == 38)) || (x0 == 39))
theorem lombardref04_joint.ok {x0 : Int} {r : Bool} (h : lombardref04_joint.f x0 = some r) : Pm.Spec prog 115 [.imm (.val (.int .i64 x0))] (.imm (.val (.bool r))) [none] := by
 unfold lombardref04_joint.f at h; refine Pm.Spec.of_body Tryz.func115 Z (by kernel_rfl) (L Z) (L Z) ?_; refine W.ghost (σ' := (mkSt [(0, some (.i x0))] [] 1000)) (Gives.entry (.c Z .n) .n) (W.seq (W.pk (.A Z (.nil (W.seq (W.fork (mkSt [(2, some (.b (((((x0 == 32) || (x0 == 45)) || (x0 == 46)) || (x0 == 38)) || (x0 == 39))))] [] 1000) ?_ ?_))))))
 ·refine W.ret ?_; cases h; exact lv Z Z
 ·clear h; refine W.pk (.M Z (.B Z (.M Z ?_))); rcases tf (x0 == 32) with g1 | g1
  ·refine .X Z g1 (.X Z g1 (.T g1 Z (.M Z (.X Z Z (.X Z Z (.T Z Z (.M Z (.X Z Z (.X Z Z (.T Z Z (.M Z ?_))))))))))); exact .X Z Z (.X Z Z (.T Z Z (.A Z (.nil (toN (Gm [] (.c Z (sbb (by simp only [g1, BL])) Z .n) .n Z))))))
  ·refine .N Z g1 (.G Z g1 Z (.E g1 Z (.M Z ?_))); rcases tf (x0 == 45) with g2 | g2
   ·refine .X Z g2 (.X Z g2 (.T g2 Z (.M Z (.X Z Z (.X Z Z (.T Z Z (.M Z (.X Z Z (.X Z Z (.T Z Z (.A Z ?_))))))))))); exact .nil (toN (Gm [] (.c Z (sbb (by simp only [g1, g2, BL])) Z .n) .n Z))
   ·refine .N Z g2 (.G Z g2 Z (.E g2 Z (.M Z ?_))); rcases tf (x0 == 46) with g3 | g3
    ·exact .X Z g3 (.X Z g3 (.T g3 Z (.M Z (.X Z Z (.X Z Z (.T Z Z (.A Z (.nil (toN (Gm [] (.c Z (sbb (by simp only [g1, g2, g3, BL])) Z .n) .n Z))))))))))
    ·refine .N Z g3 (.G Z g3 Z (.E g3 Z (.M Z ?_))); rcases tf (x0 == 38) with g4 | g4
     ·exact .X Z g4 (.X Z g4 (.T g4 Z (.A Z (.nil (toN (Gm [] (.c Z (sbb (by simp only [g1, g2, g3, g4, BL])) Z .n) .n Z))))))
     ·exact .N Z g4 (.G Z g4 Z (.E g4 Z (.A Z (.nil (toN (Gm [] (.c Z (sbb (by simp only [g1, g2, g3, g4, BL])) Z .n) .n Z))))))

noncomputable def lombardref04_Check.b0 (t2 : (List Int) × (List Int) × Bool) (v30 : Int) : Option (Int ⊕ ((Int × Int) ⊕ Unit)) :=
 if (decide (v30 < (List.length t2.1 : Int))) = true then
 if (0 : Int) ≤ v30 ∧ v30 < (List.length t2.1 : Int) then
 if (v30 == 40) = true then
 if (0 : Int) ≤ v30 ∧ v30 < (List.length t2.2.1 : Int) then
 some (.inr (.inl ((nth t2.2.1 v30), 2)))
 else none
 else (lombardref04_letter.f (nth t2.1 v30)).bind fun t91 =>
 (if (!t91) = true ∧ (v30 == 0) = false then lombardref04_digit.f (nth t2.1 v30) else some default).bind fun t93 =>
 (if (!t91) = true ∧ (v30 == 0) = false ∧ (!t93) = true then lombardref04_joint.f (nth t2.1 v30) else some default).bind fun t95 =>
 if ((!t91) && ((v30 == 0) || ((!t93) && (!t95)))) = true then
 if (0 : Int) ≤ v30 ∧ v30 < (List.length t2.2.1 : Int) then
 some (.inr (.inl ((nth t2.2.1 v30), 11)))
 else none
 else if (((decide (v30 > 0)) && ((nth t2.1 v30) == 32)) = true → (0 : Int) ≤ (IntKind.wrap .i64 (v30 - 1)) ∧ (IntKind.wrap .i64 (v30 - 1)) < (List.length t2.1 : Int)) then
 (if ((decide (v30 > 0)) && ((nth t2.1 v30) == 32)) = true then lombardref04_joint.f (nth t2.1 (IntKind.wrap .i64 (v30 - 1))) else some default).bind fun t103 =>
 if ((((decide (v30 > 0)) && ((nth t2.1 v30) == 32)) && t103) = true → (0 : Int) ≤ (IntKind.wrap .i64 (v30 - 1)) ∧ (IntKind.wrap .i64 (v30 - 1)) < (List.length t2.1 : Int)) then
 if (((((decide (v30 > 0)) && ((nth t2.1 v30) == 32)) && t103) && ((nth t2.1 (IntKind.wrap .i64 (v30 - 1))) != 46)) = true → (0 : Int) ≤ (IntKind.wrap .i64 (v30 - 1)) ∧ (IntKind.wrap .i64 (v30 - 1)) < (List.length t2.1 : Int)) then
 if (((((decide (v30 > 0)) && ((nth t2.1 v30) == 32)) && t103) && ((nth t2.1 (IntKind.wrap .i64 (v30 - 1))) != 46)) && ((nth t2.1 (IntKind.wrap .i64 (v30 - 1))) != 38)) = true then
 if (0 : Int) ≤ v30 ∧ v30 < (List.length t2.2.1 : Int) then
 some (.inr (.inl ((nth t2.2.1 v30), 11)))
 else none
 else some (.inl (IntKind.wrap .i64 (v30 + 1)))
 else none
 else none
 else none
 else none
 else some (.inr (.inr ()))
noncomputable def lombardref04_Check.r0 (t2 : (List Int) × (List Int) × Bool) (s : Int) : Option (Int ⊕ ((Int × Int) ⊕ Unit)) := lombardref04_Check.b0 t2 s
noncomputable def lombardref04_Check.f (x0 : Bs) : Option (Int × Int) :=
 if (decide ((List.length x0 : Int) > 160)) = true then
 some (0, 2)
 else (lombardref04_Signs.f x0).bind fun t2 =>
 (loop (lombardref04_Check.r0 t2) 0).bind fun o84 =>
 match o84 with
 | .inl r113 => some r113
 | .inr w83 =>
 if (((List.length t2.1 : Int) == 0) = false → (0 : Int) ≤ (IntKind.wrap .i64 ((List.length t2.1 : Int) - 1)) ∧ (IntKind.wrap .i64 ((List.length t2.1 : Int) - 1)) < (List.length t2.1 : Int)) then
 if (((List.length t2.1 : Int) == 0) || ((nth t2.1 (IntKind.wrap .i64 ((List.length t2.1 : Int) - 1))) == 32)) = true then
 some ((List.length x0 : Int), 11)
 else some ((List.length x0 : Int), 0)
 else none
theorem lombardref04_Check.ok {x0 : Bs} {r : Int × Int} (h : lombardref04_Check.f x0 = some r) : Pm.Spec prog 100 [.imm (.val (.string (tx x0)))] (.tup [.imm (.val (.int .i64 r.1)), .imm (.val (.int .i64 r.2))]) [none] := by
 unfold lombardref04_Check.f at h; refine Pm.Spec.of_body Tryz.func100 Z (by kernel_rfl) (L Z) (L Z) ?_; refine W.ghost (σ' := (mkSt [(0, some (.s x0))] [] 1000)) (Gives.entry (.c Z .n) .n) (W.seq (W.pk (.A Z (.A Z (.nil (W.seq (W.seq (W.pk (.M Z (.V Z (O.lenS u9 Z Z) (.B Z ?_))))))))))); refine .nil (W.cnd Z h (fun q1 h => ?_) (fun q1 h => ?_))
 ·refine W.seq (W.pk (.A Z (.A Z (.nil (W.ret ?_))))); cases h; exact leaves (.inr Z) Z (.tup _ _ _ _ (cI (cI .nil))) (cN .nil) Z Z
 ·refine W.skip (W.seq ?_); obtain ⟨t2, b3, h⟩ := bnd1 h; refine W.pk (.M Z (.C (.tup [.own 1000, .own 1001, .b t2.2.2]) [(1000, some (.rows 3 1 (List.map (encI .i64) t2.1) false)), (1001, some (.rows 3 1 (List.map (encI .i64) t2.2.1) false))] 2 (lombardref04_Signs.ok b3) ca46 Z (cI .nil) Z ?_)); refine .M Z ?_; (iterate 3 refine .V Z (OpL.extract Z Z Z) ?_); refine .A Z (.A Z (.A Z (.nil (W.seq (W.seq (W.pk (.A Z (.nil ?_)))))))); obtain ⟨o84, b85, z86⟩ := bnd1 h; refine W.fork2 (out := o84) (fun (w83 : Unit) => mkSt [(0, some (.s x0)), (4, some (.own 1000))] [(1000, some (.rows 3 1 (List.map (encI .i64) t2.1) false))] 1002) ?_ ?_
  ·clear h; refine W.block (W.loopF (fun (s_ : Int) => mkSt [(0, some (.s x0)), (4, some (.own 1000)), (5, some (.own 1001)), (7, some (.i s_))] [(1000, some (.rows 3 1 (List.map (encI .i64) t2.1) false)), (1001, some (.rows 3 1 (List.map (encI .i64) t2.2.1) false))] 1002) b85 (Gm [] (.e Z Z) (.e Z Z) Z) ?_); rintro v30 s_ hr; have h : lombardref04_Check.b0 t2 v30 = some s_ := hr; unfold lombardref04_Check.b0 at h; refine W.seq (W.seq (W.pk (.M Z (.M Z (.V Z (O.lenO sl54 Z Z Z) (.B Z (.nil (W.cnd Z h (fun q87 h => ?_) (fun q87 h => ?_)))))))))
   ·refine W.skip (W.seq (W.block (W.seq ?_))); obtain ⟨c88, h⟩ := chk h; refine W.pk (.M Z (.M Z (.V Z (O.idxO sl54 c88 Z Z Z Z) (.V Z (O.ldE (c := (.val (.int .i64 (nth t2.1 v30)))) ty3 c88 Z Z Z Z Z) (.A Z (.nil (W.seq (W.seq (W.pk (.M Z (.B Z ?_))))))))))); refine .nil (W.cnd Z h (fun q89 h => ?_) (fun q89 h => ?_))
    ·refine W.seq ?_; obtain ⟨c90, h⟩ := chk h; refine W.pk (.M Z (.M Z (.V Z (O.idxO sl54 c90 Z Z Z Z) (.V Z (O.ldE (c := (.val (.int .i64 (nth t2.2.1 v30)))) ty3 c90 Z Z Z Z Z) (.A Z (.A Z (.nil (W.ret ?_)))))))); cases h; refine rdR fun e_ => ?_; subst e_; have h := z86; dsimp only at h; refine fkR ?_; cases h; exact leaves (.inr Z) Z (.tup _ _ _ _ (cI (cI .nil))) (cN .nil) Z Z
    ·refine W.skip (W.seq (W.seq ?_)); obtain ⟨t91, b92, h⟩ := bnd1 h; obtain ⟨t93, b94, h⟩ := bnd1 h; obtain ⟨t95, b96, h⟩ := bnd1 h; refine W.fork (mkSt [(0, some (.s x0)), (4, some (.own 1000)), (5, some (.own 1001)), (7, some (.i v30)), (8, some (.i (nth t2.1 v30))), (50, some (.b ((!t91) && ((v30 == 0) || ((!t93) && (!t95))))))] [(1000, some (.rows 3 1 (List.map (encI .i64) t2.1) false)), (1001, some (.rows 3 1 (List.map (encI .i64) t2.2.1) false))] 1002) ?_ ?_
     ·refine W.cnd Z h (fun q100 h => ?_) (fun q100 h => ?_)
      ·refine W.seq ?_; obtain ⟨c101, h⟩ := chk h; refine W.pk (.M Z (.M Z (.V Z (O.idxO sl54 c101 Z Z Z Z) (.V Z (O.ldE (c := (.val (.int .i64 (nth t2.2.1 v30)))) ty3 c101 Z Z Z Z Z) (.A Z (.A Z (.nil (W.ret ?_)))))))); cases h; refine rdR fun e_ => ?_; subst e_; have h := z86; dsimp only at h; refine fkR ?_; cases h; exact leaves (.inr Z) Z (.tup _ _ _ _ (cI (cI .nil))) (cN .nil) Z Z
      ·refine W.skip (W.seq ?_); obtain ⟨c102, h⟩ := chk h; obtain ⟨t103, b104, h⟩ := bnd1 h; obtain ⟨c105, h⟩ := chk h; obtain ⟨c106, h⟩ := chk h; refine W.fork (mkSt [(0, some (.s x0)), (4, some (.own 1000)), (5, some (.own 1001)), (7, some (.i v30)), (84, some (.b (((((decide (v30 > 0)) && ((nth t2.1 v30) == 32)) && t103) && ((nth t2.1 (IntKind.wrap .i64 (v30 - 1))) != 46)) && ((nth t2.1 (IntKind.wrap .i64 (v30 - 1))) != 38))))] [(1000, some (.rows 3 1 (List.map (encI .i64) t2.1) false)), (1001, some (.rows 3 1 (List.map (encI .i64) t2.2.1) false))] 1002) ?_ ?_
       ·refine W.cnd Z h (fun q111 h => ?_) (fun q111 h => ?_)
        ·refine W.seq ?_; obtain ⟨c112, h⟩ := chk h; refine W.pk (.M Z (.M Z (.V Z (O.idxO sl54 c112 Z Z Z Z) (.V Z (O.ldE (c := (.val (.int .i64 (nth t2.2.1 v30)))) ty3 c112 Z Z Z Z Z) (.A Z (.A Z (.nil (W.ret ?_)))))))); cases h; refine rdR fun e_ => ?_; subst e_; have h := z86; dsimp only at h; refine fkR ?_; cases h; exact leaves (.inr Z) Z (.tup _ _ _ _ (cI (cI .nil))) (cN .nil) Z Z
        ·refine W.skip (W.pk (.M Z (.B Z (.A Z (.nil ?_))))); cases h; exact rdN (Gm [] (.e Z Z) (.e Z Z) Z)
       ·clear h; refine W.pk (.M Z (.B Z (.M Z ?_))); rcases tf (decide (v30 > 0)) with g107 | g107
        ·refine .N Z g107 (.G Z g107 Z (.T g107 Z (.M Z ?_))); rcases tf ((nth t2.1 v30) == 32) with g108 | g108
         ·refine .N Z g108 (.N Z g108 (.G Z g108 Z (.U Z g108 (O.idxO sl54 (c102 (by simp only [g107, g108, BL])) Z Z Z Z) ?_))); refine .U Z g108 (O.ldE (c := (.val (.int .i64 (nth t2.1 (IntKind.wrap .i64 (v30 - 1)))))) ty3 (c102 (by simp only [g107, g108, BL])) Z Z Z Z Z) ?_; refine .call (.b t103) [] 0 (lombardref04_joint.ok ((if_pos (by simp only [g107, g108, BL])).symm.trans b104)) Z (met Z Z Z g108) Z ca115 Z Z (cI .nil) Z Z Z Z Z ?_; refine .T g108 Z (.M Z ?_); rcases tf t103 with g109 | g109
          ·refine .N Z g109 (.N Z g109 (.G Z g109 Z (.U Z g109 (O.idxO sl54 (c105 (by simp only [g107, g108, g109, BL])) Z Z Z Z) ?_))); refine .U Z g109 (O.ldE (c := (.val (.int .i64 (nth t2.1 (IntKind.wrap .i64 (v30 - 1)))))) ty3 (c105 (by simp only [g107, g108, g109, BL])) Z Z Z Z Z) ?_; refine .G Z g109 Z (.T g109 Z (.M Z ?_)); rcases tf ((nth t2.1 (IntKind.wrap .i64 (v30 - 1))) != 46) with g110 | g110
           ·refine .N Z g110 (.N Z g110 (.G Z g110 Z (.U Z g110 (O.idxO sl54 (c106 (by simp only [g107, g108, g109, g110, BL])) Z Z Z Z) ?_))); refine .U Z g110 (O.ldE (c := (.val (.int .i64 (nth t2.1 (IntKind.wrap .i64 (v30 - 1)))))) ty3 (c106 (by simp only [g107, g108, g109, g110, BL])) Z Z Z Z Z) ?_; exact .G Z g110 Z (.T g110 Z (.nil (toN (Gm [] (.r Z Z (.r Z Z (.r Z Z (.r Z Z (.c Z (sbb (by simp only [g107, g108, g109, g110, BL])) Z .n))))) (.e Z Z) Z))))
           ·(iterate 6 refine .X Z g110 ?_); exact .E g110 Z (.nil (toN (Gm [] (.r Z Z (.r Z Z (.r Z Z (.r Z Z (.c Z (sbb (by simp only [g107, g108, g109, g110, BL])) Z .n))))) (.e Z Z) Z)))
          ·(iterate 6 refine .X Z g109 ?_); refine .E g109 Z (.M Z ?_); (iterate 6 refine .X Z Z ?_); exact .E Z Z (.nil (toN (Gm [] (.r Z Z (.r Z Z (.r Z Z (.r Z Z (.c Z (sbb (by simp only [g107, g108, g109, BL])) Z .n))))) (.e Z Z) Z)))
         ·(iterate 6 refine .X Z g108 ?_); refine .E g108 Z (.M Z ?_); (iterate 6 refine .X Z Z ?_); refine .E Z Z (.M Z ?_); (iterate 6 refine .X Z Z ?_); exact .E Z Z (.nil (toN (Gm [] (.r Z Z (.r Z Z (.r Z Z (.r Z Z (.c Z (sbb (by simp only [g107, g108, BL])) Z .n))))) (.e Z Z) Z)))
        ·refine .X Z g107 (.X Z g107 (.E g107 Z (.M Z ?_))); (iterate 6 refine .X Z Z ?_); refine .E Z Z (.M Z ?_); (iterate 6 refine .X Z Z ?_); refine .E Z Z (.M Z ?_); (iterate 6 refine .X Z Z ?_); exact .E Z Z (.nil (toN (Gm [] (.r Z Z (.r Z Z (.r Z Z (.r Z Z (.c Z (sbb (by simp only [g107, BL])) Z .n))))) (.e Z Z) Z)))
     ·clear h; refine W.pk (.M Z (.C (.b t91) [] 0 (lombardref04_letter.ok b92) ca113 Z (cI .nil) Z ?_)); refine .V Z (OpL.unV Z Z Z) (.M Z ?_); rcases tf t91 with g97 | g97
      ·(iterate 3 refine .X Z (notT g97) ?_); (iterate 8 refine .x Z (unmetU Z Z Z) ?_); exact .X Z (notT g97) (.E (notT g97) Z (.nil (toN (Gm [] (.r Z Z (.r Z Z (.r Z Z (.r Z Z (.r Z Z (.c Z (sbb (by simp only [g97, BL])) Z .n)))))) (.e Z Z) Z))))
      ·refine .N Z (notF g97) (.G Z (notF g97) Z (.N Z (notF g97) ?_)); rcases tf (v30 == 0) with g98 | g98
       ·(iterate 4 refine .X Z g98 ?_); (iterate 3 refine .x Z (unmetU Z Z Z) ?_); exact .X Z g98 (.U Z (notF g97) (O.pickT g98 Z Z Z) (.T (notF g97) Z (.nil (toN (Gm [] (.r Z Z (.r Z Z (.r Z Z (.r Z Z (.r Z Z (.c Z (sbb (by simp only [g97, g98, BL])) Z .n)))))) (.e Z Z) Z)))))
       ·refine .N Z g98 (.call (.b t93) [] 0 (lombardref04_digit.ok ((if_pos ⟨(by simp only [g97, g98, BL]), (by simp only [g97, g98, BL])⟩).symm.trans b94)) Z (met Z Z Z g98) Z ca114 Z Z (cI .nil) Z Z Z Z Z ?_); refine .U Z g98 (OpL.unV Z Z Z) (.N Z g98 ?_); rcases tf t93 with g99 | g99
        ·(iterate 3 refine .X Z (notT g99) ?_); exact .U Z g98 (O.pickF (notT g99) Z Z Z) (.U Z (notF g97) (O.pickF g98 Z Z Z) (.T (notF g97) Z (.nil (toN (Gm [] (.r Z Z (.r Z Z (.r Z Z (.r Z Z (.r Z Z (.c Z (sbb (by simp only [g97, g98, g99, BL])) Z .n)))))) (.e Z Z) Z)))))
        ·refine .N Z (notF g99) (.call (.b t95) [] 0 (lombardref04_joint.ok ((if_pos ⟨(by simp only [g97, g98, g99, BL]), (by simp only [g97, g98, g99, BL]), (by simp only [g97, g98, g99, BL])⟩).symm.trans b96)) Z (met Z Z Z (notF g99)) Z ca115 Z Z (cI .nil) Z Z Z Z Z ?_); exact .U Z (notF g99) (OpL.unV Z Z Z) (.U Z g98 (O.pickT (notF g99) Z Z Z) (.U Z (notF g97) (O.pickF g98 Z Z Z) (.T (notF g97) Z (.nil (toN (Gm [] (.r Z Z (.r Z Z (.r Z Z (.r Z Z (.r Z Z (.c Z (sbb (by simp only [g97, g98, g99, BL])) Z .n)))))) (.e Z Z) Z))))))
   ·refine W.exit ?_; cases h; refine rdX fun e_ => ?_; subst e_; (repeat with_reducible refine thru ?_); exact hit (fkN (Gm [] (.e Z Z) (.r Z Z Z .n) Z))
  ·intro w83 e_; subst e_; clear h; have h := z86; dsimp only at h; refine W.seq (W.seq ?_); obtain ⟨c114, h⟩ := chk h; refine W.fork (mkSt [(0, some (.s x0)), (100, some (.b (((List.length t2.1 : Int) == 0) || ((nth t2.1 (IntKind.wrap .i64 ((List.length t2.1 : Int) - 1))) == 32))))] [] 1002) ?_ ?_
   ·refine W.cnd Z h (fun q116 h => ?_) (fun q116 h => ?_)
    ·refine W.seq (W.pk (.M Z (.V Z (O.lenS u9 Z Z) (.A Z (.A Z (.nil (W.ret ?_))))))); cases h; exact leaves (.inr Z) Z (.tup _ _ _ _ (cI (cI .nil))) (cN .nil) Z Z
    ·refine W.skip (W.seq (W.pk (.M Z (.V Z (O.lenS u9 Z Z) (.A Z (.A Z (.nil (W.ret ?_)))))))); cases h; exact leaves (.inr Z) Z (.tup _ _ _ _ (cI (cI .nil))) (cN .nil) Z Z
   ·clear h; refine W.pk (.M Z (.V Z (O.lenO sl54 Z Z Z) (.B Z (.M Z ?_)))); rcases tf ((List.length t2.1 : Int) == 0) with g115 | g115
    ·(iterate 7 refine .X Z g115 ?_); exact .T g115 Z (.nil (toN (Gm [] (.r Z Z (.c Z (sbb (by simp only [g115, BL])) Z .n)) .n Z)))
    ·refine .N Z g115 (.N Z g115 (.U Z g115 (O.lenO sl54 Z Z Z) (.G Z g115 Z (.U Z g115 (O.idxO sl54 (c114 (by simp only [g115, BL])) Z Z Z Z) ?_)))); refine .U Z g115 (O.ldE (c := (.val (.int .i64 (nth t2.1 (IntKind.wrap .i64 ((List.length t2.1 : Int) - 1)))))) ty3 (c114 (by simp only [g115, BL])) Z Z Z Z Z) ?_; exact .G Z g115 Z (.E g115 Z (.nil (toN (Gm [] (.r Z Z (.c Z (sbb (by simp only [g115, BL])) Z .n)) .n Z))))

noncomputable def lombardref10_signed.f (x0 : Int) : Option (Bool) :=
 (lombardref10_Amount.f x0).bind fun t1 =>
 some (t1 || ((decide (x0 < 0)) && (decide (x0 ≥ (-1125899906842624)))))
theorem lombardref10_signed.ok {x0 : Int} {r : Bool} (h : lombardref10_signed.f x0 = some r) : Pm.Spec prog 101 [.imm (.val (.int .i64 x0))] (.imm (.val (.bool r))) [none] := by
 unfold lombardref10_signed.f at h; refine Pm.Spec.of_body Tryz.func101 Z (by kernel_rfl) (L Z) (L Z) ?_; refine W.ghost (σ' := (mkSt [(0, some (.i x0))] [] 1000)) (Gives.entry (.c Z .n) .n) (W.seq (W.pk (.A Z (.nil (W.seq ?_))))); obtain ⟨t1, b2, h⟩ := bnd1 h; refine W.fork (mkSt [(2, some (.b (t1 || ((decide (x0 < 0)) && (decide (x0 ≥ (-1125899906842624)))))))] [] 1000) ?_ ?_
 ·refine W.ret ?_; cases h; exact lv Z Z
 ·clear h; refine W.pk (.M Z (.C (.b t1) [] 0 (lombardref10_Amount.ok b2) ca98 Z (cI .nil) Z ?_)); refine .M Z ?_; rcases tf t1 with g3 | g3
  ·refine .X Z g3 (.X Z g3 (.X Z g3 ?_)); (iterate 2 refine .x Z (unmetU Z Z Z) ?_); exact .X Z g3 (.T g3 Z (.A Z (.nil (toN (Gm [] (.c Z (sbb (by simp only [g3, BL])) Z .n) .n Z)))))
  ·refine .N Z g3 (.G Z g3 Z (.N Z g3 ?_)); rcases tf (decide (x0 < 0)) with g4 | g4
   ·exact .N Z g4 (.G Z g4 Z (.U Z g3 (O.pickT g4 Z Z Z) (.E g3 Z (.A Z (.nil (toN (Gm [] (.c Z (sbb (by simp only [g3, g4, BL])) Z .n) .n Z)))))))
   ·exact .X Z g4 (.X Z g4 (.U Z g3 (O.pickF g4 Z Z Z) (.E g3 Z (.A Z (.nil (toN (Gm [] (.c Z (sbb (by simp only [g3, g4, BL])) Z .n) .n Z)))))))

noncomputable def lombardref10_Lot.f (x0 : api_Lot) : Option (Int) :=
 (lombardref10_Amount.f x0.Qty).bind fun t1 =>
 if (!t1) = true then
 some 1
 else (lombardref05_Check.f x0.ISIN).bind fun t4 =>
 some t4
theorem lombardref10_Lot.ok {x0 : api_Lot} {r : Int} (h : lombardref10_Lot.f x0 = some r) : Pm.Spec prog 102 [.agg [.imm (.val (.string (tx x0.ISIN))), .imm (.val (.int .i64 x0.Qty))]] (.imm (.val (.int .i64 r))) [none] := by
 unfold lombardref10_Lot.f at h; refine Pm.Spec.of_body Tryz.func102 Z (by kernel_rfl) (L Z) (L Z) ?_; refine W.ghost (σ' := (mkSt [(0, some (.agg [.s x0.ISIN, .i x0.Qty]))] [] 1000)) (Gives.entry (.c Z .n) .n) (W.seq (W.pk (.t Z Z (O.box Z Z Z Z Z) (.A Z (.nil (W.seq (W.seq ?_))))))); obtain ⟨t1, b2, h⟩ := bnd1 h; refine W.pk (.F fld61_1 Z (.V Z (O.ld (y := .i x0.Qty) ty3 Z Z Z) (.C (.b t1) [] 0 (lombardref10_Amount.ok b2) ca98 Z (cI .nil) Z ?_))); refine .V Z (OpL.unV Z Z Z) (.nil (W.cnd Z h (fun q3 h => ?_) (fun q3 h => ?_)))
 ·refine W.seq (W.pk (.A Z (.nil (W.ret ?_)))); cases h; exact lv Z Z
 ·refine W.skip (W.seq ?_); obtain ⟨t4, b5, h⟩ := bnd1 h; refine W.pk (.F fld61_0 Z (.V Z (O.ld (y := .s x0.ISIN) ty9 Z Z Z) (.C (.i t4) [] 0 (lombardref05_Check.ok b5) ca96 Z (cI .nil) Z ?_))); refine .A Z (.nil (W.ret ?_)); cases h; exact lv Z Z
end Go.Proofs.YtjdkibnhlmgppaaGreat
