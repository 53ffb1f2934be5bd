/- A step of the machine at trace: the region that calls its root. No condition. -/
import Derived.Test.YtpgodgfkbkfpcaaGreatSth
import Derived.Test.YtpgodgfkbkfpcaaGreatJum
set_option linter.unusedVariables false
set_option linter.unusedSimpArgs false
namespace Go.Proofs.YtpgodgfkbkfpcaaGreat.Rin
open Go Go.RowKit
section
variable {P : Program} {ops : Array Oper} {Q : Exit → Act → World → Prop} {K : Act → World → Prop} {a : Act} {w : World}
theorem step_invoke {i f : Nat} {x : Operand} {name : String} {args : List Operand} {ts : Array TypeId} {d : Option Tmp} {t : TypeId} {v r : Value} (h : (ops[i]?).map (fun o => (o.op, o.dst, o.guard)) = some (.call { callee := .invoke x name, args := args.toArray, argTypes := ts }, d, none))
    (hx : a.eval x = .iface t v) (hm : (method (P.types.size + Made.depth) t v name).run P w = .ok (f, r) w) (he : ∀ vs w, (callFunc f vs).run P w = .ok (.enter f vs) w) (hC : Calls P f (#[r] ++ (args.map a.eval).toArray) w fun e w' => ∃ v, e = .returned v ∧ K (a.put d v) w') : wpOp P ops Q i K a w := by
  refine wpOp_at h fun o ho hd => ?_
  unfold Oper.wp execOp
  have hr : (do let d ← resolve a.eval { callee := .invoke x name, args := args.toArray, argTypes := ts } o.type; invoke d.target d.args : Sem Next).run P w = .ok (.enter f (#[r] ++ (args.map a.eval).toArray)) w := by
    have e : (args.map a.eval).toArray = args.toArray.map a.eval := by simp
    have e2 : ((#[a.eval x] ++ args.toArray.map a.eval) : Array Value).extract 1 (#[a.eval x] ++ args.toArray.map a.eval).size = args.toArray.map a.eval := by
      apply Array.ext
      · simp
      · intro j h1 h2
        simp
    have e3 : ((#[a.eval x] ++ args.toArray.map a.eval) : Array Value)[0]? = some (.iface t v) := by
      rw [hx]
      simp
    rw [e]
    simp only [resolve, Sem.run_bind, Sem.run_pure, Result.andThen_ok, invoke, e3, e2, callMethod, run_program, hm, he]
  simp only [ho]
  rw [hr, Oper.upon_enter]
  refine hC.mono ?_
  rintro e w' ⟨v, rfl, hk⟩
  rw [hd]
  exact hk
end
end Go.Proofs.YtpgodgfkbkfpcaaGreat.Rin
namespace Go.Proofs.YtpgodgfkbkfpcaaGreat.Tim
open Go.Shelf Go.RowKit Go.Proofs.YtpgodgfkbkfpcaaGreat.Trb Go.Proofs.YtpgodgfkbkfpcaaGreat.Bui Go.Proofs.YtpgodgfkbkfpcaaGreat.Fom
open Lathe (fadd fmul)
noncomputable def ops17 : Array Oper := opsIn Tryz.f17 5
theorem f94_2' (g : Nat) (w : World) : (Instr.fieldAt 94 (.pointer (some ⟨g, 0, none⟩)) 2).run Tryz.prog w = .ok (.pointer (some ⟨g, 2, none⟩)) w := by kernel_rfl
theorem load92 (w : World) (g k : Nat) (v : Value) (hc : w.cell? ⟨g, k, none⟩ = some v) : (Instr.loadAt 92 (.pointer (some ⟨g, k, none⟩))).run Tryz.prog w = .ok v w := by
  have hu := Tryz.underlying92
  simp [Instr.loadAt, Instr.sureAddr, loadVar, isAgg, run_underlying hu, hc]
theorem nilc_run {a : Act} {w : World} {x : Operand} {t : TypeId} {v : Value} (h : a.eval x = .iface t v) : ∀ o : Oper, o.op = .nilCheck x → (execOp a.eval o).run Tryz.prog w = .ok (.value (.iface t v)) w := by
  intro o ho
  unfold execOp
  simp [ho, h]
theorem ent43 : ∀ vs w, (callFunc 43 vs).run Tryz.prog w = .ok (.enter 43 vs) w := enters_of Tryz.func43 (by kernel_rfl) rfl
theorem ent315 : ∀ vs w, (callFunc 315 vs).run Tryz.prog w = .ok (.enter 315 vs) w := enters_of Tryz.func315 (by kernel_rfl) rfl
theorem meth_step' (k : Nat) (w : World) : (method (Tryz.prog.types.size + Made.depth) 165 (.pointer (some ⟨k, 0, none⟩)) "lathe/mealy.step").run Tryz.prog w = .ok (315, .pointer (some ⟨k, 0, none⟩)) w := by
  rw [show Tryz.prog.types.size + Made.depth = 458 by kernel_rfl]
  exact meth_step k w
/-- A list of one piece, with its number. -/
def PL (B : Nat) (x : Int) (v : Value) (w : World) : Prop := ∃ q cap g c, v = .slice (some ⟨q, 0, none⟩) 1 cap ∧ B ≤ q ∧ B ≤ g ∧ Pl w q g c ∧ w.cell? ⟨g, 0, none⟩ = some (.int .u32 x)
theorem PL.on {B : Nat} {x : Int} {v : Value} {w w' : World} (h : PL B x v w) (hB : Below w.heap.size w w') : PL B x v w' := by
  obtain ⟨q, cap, g, c, h1, h2, h3, h4, h5⟩ := h
  exact ⟨q, cap, g, c, h1, h2, h3, h4.on hB, (hB.cell (World.block_lt_of_cell? _ _ h5)).trans h5⟩
theorem PL.but {B : Nat} {x : Int} {v : Value} {w w' : World} {X : List Nat} (h : PL B x v w) (hB : But X w w') (hX : ∀ k, k ∈ X → k < B) : PL B x v w' := by
  obtain ⟨q, cap, g, c, h1, h2, h3, h4, h5⟩ := h
  exact ⟨q, cap, g, c, h1, h2, h3, h4.same (hB.block q (World.block_lt_of_cell? _ _ h4.c0) (fun hx => by have := hX q hx; omega)), hB.cell h5 (fun hx => by have := hX g hx; omega)⟩
/-- What the root answers. -/
def RES (B k gk : Nat) (n r : Int) (nums ints kept : Value) (v : Value) (w : World) : Prop := ∃ q cap g c, v = .slice (some ⟨q, 0, none⟩) 1 cap ∧ B ≤ q ∧ Pl w q g c ∧ Phi B gk r g c w ∧ Lea w k n 7 nums ints kept
theorem RES.on {B k gk : Nat} {n r : Int} {nums ints kept v : Value} {w w' : World} (h : RES B k gk n r nums ints kept v w) (hB : Below w.heap.size w w') : RES B k gk n r nums ints kept v w' := by
  obtain ⟨q, cap, g, c, h1, h2, h3, h4, h5⟩ := h
  exact ⟨q, cap, g, c, h1, h2, h3.on hB, h4.on hB, h5.on hB⟩
def T17 (B m k gk v1 c1 v2 c2 : Nat) (x y n r : Int) (nums ints kept : Value) (t : Nat) (v : Value) (w : World) : Prop :=
  if t = 41 then PL B x v w else if t = 44 then PL B y v w else if t = 47 then RES B k gk n r nums ints kept v w
  else if t = 37 then v = .pointer (some ⟨m, 2, none⟩) else if t = 38 then v = .iface 165 (.pointer (some ⟨k, 0, none⟩)) else if t = 45 then v = .iface 165 (.pointer (some ⟨k, 0, none⟩)) else if t = 46 then v = .iface 165 (.pointer (some ⟨k, 0, none⟩))
  else if t = 40 then v = .slice (some ⟨v1, 0, none⟩) 1 c1 else if t = 43 then v = .slice (some ⟨v2, 0, none⟩) 1 c2 else if t = 48 then v = .int .i64 1 else if t = 49 then v = .int .i64 0 else v = .pointer (some ⟨m, 0, none⟩)
theorem T17.on {B m k gk v1 c1 v2 c2 : Nat} {x y n r : Int} {nums ints kept : Value} {t : Nat} {v : Value} {w w' : World} (h : T17 B m k gk v1 c1 v2 c2 x y n r nums ints kept t v w) (hB : Below w.heap.size w w') : T17 B m k gk v1 c1 v2 c2 x y n r nums ints kept t v w' := by
  by_cases e1 : t = 41
  · subst e1; exact PL.on (show PL B x v w from h) hB
  · by_cases e2 : t = 44
    · subst e2; exact PL.on (show PL B y v w from h) hB
    · by_cases e3 : t = 47
      · subst e3; exact RES.on (show RES B k gk n r nums ints kept v w from h) hB
      · unfold T17 at h ⊢
        simp only [e1, e2, e3, if_false] at h ⊢
        exact h
theorem T17.but {B m k gk v1 c1 v2 c2 : Nat} {x y n r : Int} {nums ints kept : Value} {t : Nat} {v : Value} {w w' : World} (h : T17 B m k gk v1 c1 v2 c2 x y n r nums ints kept t v w) (hB : But [k, gk] w w') (h1 : k < B) (h2 : gk < B) (h3 : t ≠ 47) : T17 B m k gk v1 c1 v2 c2 x y n r nums ints kept t v w' := by
  have hX : ∀ j, j ∈ [k, gk] → j < B := fun j hj => by
    simp only [List.mem_cons, List.not_mem_nil, or_false] at hj
    rcases hj with rfl | rfl <;> assumption
  by_cases e1 : t = 41
  · subst e1; exact PL.but (show PL B x v w from h) hB hX
  · by_cases e2 : t = 44
    · subst e2; exact PL.but (show PL B y v w from h) hB hX
    · unfold T17 at h ⊢
      simp only [e1, e2, h3, if_false] at h ⊢
      exact h
set_option maxHeartbeats 1000000 in
set_option maxRecDepth 100000 in
theorem regS {Q : Exit → Act → World → Prop} {a0 : Act} {w0 : World} {m k ql qc v1 c1 v2 c2 g1 d1 g2 d2 gk kc gn gi gm cm : Nat} {N n x y mm : Int}
    (hcx : ∀ W, Calls Tryz.prog 68 #[.int .u32 x] W fun e w' => e = .returned (.int .u32 x) ∧ w' = W) (hcy : ∀ W, Calls Tryz.prog 68 #[.int .u32 y] W fun e w' => e = .returned (.int .u32 y) ∧ w' = W)
    (hN : a0.tmps.size = 81) (h0 : a0.eval (.tmp 0) = .pointer (some ⟨m, 0, none⟩)) (h1 : a0.eval (.tmp 1) = .slice (some ⟨v1, 0, none⟩) 1 c1) (h2 : a0.eval (.tmp 2) = .slice (some ⟨v2, 0, none⟩) 1 c2)
    (hM : Mac w0 m N (.slice (some ⟨ql, 0, none⟩) 1 qc) k) (hO : Mec.One w0 ql) (hv1 : w0.cell? ⟨v1, 0, none⟩ = some (.slice (some ⟨g1, 0, none⟩) 1 d1)) (hg1 : w0.cell? ⟨g1, 0, none⟩ = some (.int .u32 x)) (hv2 : w0.cell? ⟨v2, 0, none⟩ = some (.slice (some ⟨g2, 0, none⟩) 1 d2)) (hg2 : w0.cell? ⟨g2, 0, none⟩ = some (.int .u32 y))
    (n0 : 0 ≤ n) (n1 : n ≤ 2147483647) (hL : Lea w0 k n 7 (.slice (some ⟨gn, 0, none⟩) 1 1) (.slice (some ⟨gi, 0, none⟩) 1 1) (.slice (some ⟨gk, 0, none⟩) 1 kc)) (hk : Ke w0 gk gm cm)
    (hn : w0.cell? ⟨gn, 0, none⟩ = some (.int .u32 1056964608)) (hi0 : w0.cell? ⟨gi, 0, none⟩ = some (.int .i64 0)) (hm : w0.cell? ⟨gm, 0, none⟩ = some (.int .u32 mm))
    (e1 : gi ≠ gk) (e2 : k ≠ gk) (e5 : gn ≠ k) (e6 : gi ≠ k) (e10 : gm ≠ k)
    (hQ : ∀ (a : Act) (w : World), a.tmps.size = 81 → a.defers = a0.defers → (∀ t : Nat, t < 35 → a.eval (.tmp t) = a0.eval (.tmp t)) → (∀ t : Nat, 50 ≤ t → a.eval (.tmp t) = a0.eval (.tmp t)) → RES w0.heap.size k gk (nx n) (fadd x.toNat (fmul 1056964608 mm.toNat) : Nat) (.slice (some ⟨gn, 0, none⟩) 1 1) (.slice (some ⟨gi, 0, none⟩) 1 1) (.slice (some ⟨gk, 0, none⟩) 1 kc) (a.eval (.tmp 47)) w → a.eval (.tmp 48) = .int .i64 1 → a.eval (.tmp 49) = .int .i64 0 → But [k, gk] w0 w → Q .normal a w) :
    (Code.region 5 ops17 true).wp Tryz.prog Q a0 w0 := by
  have hmx : Tryz.prog.follows .mixedOrders = true := by kernel_rfl
  have kB : k < w0.heap.size := World.block_lt_of_cell? _ _ hL.c0
  have gkB : gk < w0.heap.size := World.block_lt_of_cell? _ _ hk.c0
  refine Rin.wp_region_all 15 81 (fun i => 35 + i) (T17 w0.heap.size m k gk v1 c1 v2 c2 x y (nx n) (fadd x.toNat (fmul 1056964608 mm.toNat) : Nat) (.slice (some ⟨gn, 0, none⟩) 1 1) (.slice (some ⟨gi, 0, none⟩) 1 1) (.slice (some ⟨gk, 0, none⟩) 1 kc)) (fun done w => But [k, gk] w0 w ∧ (¬ done 12 → Below w0.heap.size w0 w)) hmx (by kernel_rfl) (by kernel_rfl) hN (fun i hi => by show 35 + i < 81; omega) (fun i j hi hj h => by have h : 35 + i = 35 + j := h; omega) ⟨⟨rfl, rfl, rfl, Nat.le_refl _, fun _ _ _ => rfl⟩, fun _ => ⟨rfl, rfl, rfl, Nat.le_refl _, fun _ _ => rfl⟩⟩ ?_ ?_
  · intro i o done a w hi ho hnd hcl hdep hsz hrest hR hS
    have rest : ∀ t : Nat, t < 35 → a.eval (.tmp t) = a0.eval (.tmp t) := fun t ht => hrest t (fun i hi e => by have e : 35 + i = t := e; omega)
    have dep : ∀ j, j < 15 → ((ops17[i]?).map fun o => o.after.any fun e => e.on == j && Region.binds .any e) = some true → T17 w0.heap.size m k gk v1 c1 v2 c2 x y (nx n) (fadd x.toNat (fmul 1056964608 mm.toNat) : Nat) (.slice (some ⟨gn, 0, none⟩) 1 1) (.slice (some ⟨gi, 0, none⟩) 1 1) (.slice (some ⟨gk, 0, none⟩) 1 kc) (35 + j) (a.eval (.tmp (35 + j))) w := fun j hj he => by
      rw [ho] at he
      simp only [Option.map_some, Option.some.injEq] at he
      rw [← Array.any_toList, List.any_eq_true] at he
      obtain ⟨e, he, h2⟩ := he
      simp only [Bool.and_eq_true, beq_iff_eq] at h2
      have := hdep e (Array.mem_toList_iff.1 he) h2.2
      rw [h2.1] at this
      exact hS j hj this
    have dn : ∀ j l, done j → ((ops17[j]?).map fun o => o.after.any fun e => e.on == l && Region.binds .any e) = some true → done l := fun j l hj he => by
      cases ho' : ops17[j]? with
      | none => rw [ho'] at he; cases he
      | some o' =>
        rw [ho'] at he
        simp only [Option.map_some, Option.some.injEq] at he
        rw [← Array.any_toList, List.any_eq_true] at he
        obtain ⟨e, he, h2⟩ := he
        simp only [Bool.and_eq_true, beq_iff_eq] at h2
        have := hcl j o' ho' hj e (Array.mem_toList_iff.1 he) h2.2
        rw [h2.1] at this
        exact this
    have quiet : ∀ (i' : Nat) w', Below w.heap.size w w' → i' ≠ 12 → (But [k, gk] w0 w' ∧ (¬ (12 = i' ∨ done 12) → Below w0.heap.size w0 w')) ∧ ∀ j, j < 15 → done j → ∀ u, T17 w0.heap.size m k gk v1 c1 v2 c2 x y (nx n) (fadd x.toNat (fmul 1056964608 mm.toNat) : Nat) (.slice (some ⟨gn, 0, none⟩) 1 1) (.slice (some ⟨gi, 0, none⟩) 1 1) (.slice (some ⟨gk, 0, none⟩) 1 kc) (35 + j) u w → T17 w0.heap.size m k gk v1 c1 v2 c2 x y (nx n) (fadd x.toNat (fmul 1056964608 mm.toNat) : Nat) (.slice (some ⟨gn, 0, none⟩) 1 1) (.slice (some ⟨gi, 0, none⟩) 1 1) (.slice (some ⟨gk, 0, none⟩) 1 kc) (35 + j) u w' := fun i' w' hb hne =>
      ⟨⟨hR.1.on hb, fun h => Tab.then_ (hR.2 (fun h13 => h (Or.inr h13))) (hR.2 (fun h13 => h (Or.inr h13))).size hb⟩, fun j hj _ u hu => hu.on hb⟩
    have q0 : ∀ i' : Nat, i' ≠ 12 → _ := fun i' h => quiet i' w (Below.refl _ _) h
    match i, hi, ho, hnd, dep with
    | 0, _, ho, hnd, dep => exact Rin.step_move (d := some 35) (x := .tmp 0) (by kernel_rfl) ⟨_, rfl, (rest 0 (by omega)).trans h0, q0 0 (by omega)⟩
    | 1, _, ho, hnd, dep =>
      have h35 : a.eval (.tmp 35) = .pointer (some ⟨m, 0, none⟩) := dep 0 (by omega) (by kernel_rfl)
      exact Rin.step_run (d := some 36) (op := .nilCheck (.tmp 35)) (by kernel_rfl) _ _ (nil_run h35) ⟨_, rfl, rfl, q0 1 (by omega)⟩
    | 2, _, ho, hnd, dep =>
      have h36 : a.eval (.tmp 36) = .pointer (some ⟨m, 0, none⟩) := dep 1 (by omega) (by kernel_rfl)
      exact Rin.step_run (d := some 37) (op := .fieldAddr 94 (.tmp 36) 2) (by kernel_rfl) _ _ (field_run h36 (f94_2' _ _)) ⟨_, rfl, rfl, q0 2 (by omega)⟩
    | 3, _, ho, hnd, dep =>
      have h37 : a.eval (.tmp 37) = .pointer (some ⟨m, 2, none⟩) := dep 2 (by omega) (by kernel_rfl)
      have hB := hR.2 (fun h12 => hnd (dn 11 3 (dn 12 11 h12 (by kernel_rfl)) (by kernel_rfl)))
      exact Rin.step_load (d := some 38) (t := 92) (x := .tmp 37) (by kernel_rfl) (.iface 165 (.pointer (some ⟨k, 0, none⟩))) (by rw [h37]; exact load92 _ _ _ _ (hM.on hB).c2) ⟨_, rfl, rfl, q0 3 (by omega)⟩
    | 4, _, ho, hnd, dep => exact Rin.step_move (d := some 39) (x := .tmp 0) (by kernel_rfl) ⟨_, rfl, (rest 0 (by omega)).trans h0, q0 4 (by omega)⟩
    | 5, _, ho, hnd, dep => exact Rin.step_move (d := some 40) (x := .tmp 1) (by kernel_rfl) ⟨_, rfl, (rest 1 (by omega)).trans h1, q0 5 (by omega)⟩
    | 6, _, ho, hnd, dep =>
      have h39 : a.eval (.tmp 39) = .pointer (some ⟨m, 0, none⟩) := dep 4 (by omega) (by kernel_rfl)
      have h40 : a.eval (.tmp 40) = .slice (some ⟨v1, 0, none⟩) 1 c1 := dep 5 (by omega) (by kernel_rfl)
      have hB := hR.2 (fun h12 => hnd (dn 12 6 h12 (by kernel_rfl)))
      refine Rin.step_call (args := [.tmp 39, .tmp 40]) (ts := #[37, 48]) (d := some 41) (by kernel_rfl) ent43 ?_
      show Calls _ 43 #[a.eval (.tmp 39), a.eval (.tmp 40)] _ _
      rw [h39, h40]
      refine (pieces1 x hcx m v1 c1 ql qc g1 d1 k N w (hM.on hB) (one_on hO (hB.block ql (World.block_lt_of_cell? _ _ hO.c0))) ((hB.cell (World.block_lt_of_cell? _ _ hv1)).trans hv1) ((hB.cell (World.block_lt_of_cell? _ _ hg1)).trans hg1)).mono ?_
      rintro e w' ⟨⟨q, cap, g', c', rfl, hq, hpl, hg', hc'⟩, hb⟩
      exact ⟨_, rfl, _, rfl, ⟨q, cap, g', c', rfl, Nat.le_trans hB.size hq, Nat.le_trans hB.size hg', hpl, hc'⟩, quiet 6 _ hb (by omega)⟩
    | 7, _, ho, hnd, dep => exact Rin.step_move (d := some 42) (x := .tmp 0) (by kernel_rfl) ⟨_, rfl, (rest 0 (by omega)).trans h0, q0 7 (by omega)⟩
    | 8, _, ho, hnd, dep => exact Rin.step_move (d := some 43) (x := .tmp 2) (by kernel_rfl) ⟨_, rfl, (rest 2 (by omega)).trans h2, q0 8 (by omega)⟩
    | 9, _, ho, hnd, dep =>
      have h42 : a.eval (.tmp 42) = .pointer (some ⟨m, 0, none⟩) := dep 7 (by omega) (by kernel_rfl)
      have h43 : a.eval (.tmp 43) = .slice (some ⟨v2, 0, none⟩) 1 c2 := dep 8 (by omega) (by kernel_rfl)
      have hB := hR.2 (fun h12 => hnd (dn 12 9 h12 (by kernel_rfl)))
      refine Rin.step_call (args := [.tmp 42, .tmp 43]) (ts := #[37, 48]) (d := some 44) (by kernel_rfl) ent43 ?_
      show Calls _ 43 #[a.eval (.tmp 42), a.eval (.tmp 43)] _ _
      rw [h42, h43]
      refine (pieces1 y hcy m v2 c2 ql qc g2 d2 k N w (hM.on hB) (one_on hO (hB.block ql (World.block_lt_of_cell? _ _ hO.c0))) ((hB.cell (World.block_lt_of_cell? _ _ hv2)).trans hv2) ((hB.cell (World.block_lt_of_cell? _ _ hg2)).trans hg2)).mono ?_
      rintro e w' ⟨⟨q, cap, g', c', rfl, hq, hpl, hg', hc'⟩, hb⟩
      exact ⟨_, rfl, _, rfl, ⟨q, cap, g', c', rfl, Nat.le_trans hB.size hq, Nat.le_trans hB.size hg', hpl, hc'⟩, quiet 9 _ hb (by omega)⟩
    | 10, _, ho, hnd, dep =>
      have h38 : a.eval (.tmp 38) = .iface 165 (.pointer (some ⟨k, 0, none⟩)) := dep 3 (by omega) (by kernel_rfl)
      exact Rin.step_run (d := some 45) (op := .nilCheck (.tmp 38)) (by kernel_rfl) _ _ (nilc_run h38) ⟨_, rfl, rfl, q0 10 (by omega)⟩
    | 11, _, ho, hnd, dep =>
      have h38 : a.eval (.tmp 38) = .iface 165 (.pointer (some ⟨k, 0, none⟩)) := dep 3 (by omega) (by kernel_rfl)
      exact Rin.step_move (d := some 46) (x := .tmp 38) (by kernel_rfl) ⟨_, rfl, h38, q0 11 (by omega)⟩
    | 12, _, ho, hnd, dep =>
      have h46 : a.eval (.tmp 46) = .iface 165 (.pointer (some ⟨k, 0, none⟩)) := dep 11 (by omega) (by kernel_rfl)
      obtain ⟨q1, p1, y1, z1, h41, i1, i2, i3, i4⟩ : PL w0.heap.size x (a.eval (.tmp 41)) w := dep 6 (by omega) (by kernel_rfl)
      obtain ⟨q2, p2, y2, z2, h44, i5, i6, i7, i8⟩ : PL w0.heap.size y (a.eval (.tmp 44)) w := dep 9 (by omega) (by kernel_rfl)
      have hB := hR.2 hnd
      refine Rin.step_invoke (args := [.tmp 41, .tmp 44]) (ts := #[97, 97]) (d := some 47) (by kernel_rfl) h46 (meth_step' k w) ent315 ?_
      show Calls _ 315 #[.pointer (some ⟨k, 0, none⟩), a.eval (.tmp 41), a.eval (.tmp 44)] _ _
      rw [h41, h44]
      refine (step_tr k gk kc gn gi q1 p1 y1 z1 gm cm q2 p2 y2 z2 n x mm w n0 n1 (hL.on hB) (hk.on hB) ((hB.cell (World.block_lt_of_cell? _ _ hn)).trans hn) ((hB.cell (World.block_lt_of_cell? _ _ hi0)).trans hi0) i3 i7 i4 ((hB.cell (World.block_lt_of_cell? _ _ hm)).trans hm) e1 e2 (by omega) (by omega) e5 e6 (by omega) (by omega) (by omega) e10).mono ?_
      rintro e w' ⟨⟨q, cap, g, c, rfl, hq, hpl, hphi⟩, hL', hb⟩
      refine ⟨_, rfl, _, rfl, ⟨q, cap, g, c, rfl, Nat.le_trans hB.size hq, hpl, ⟨Nat.le_trans hB.size hphi.1, hphi.2⟩, hL'⟩, ⟨But.trans hR.1 hb, fun h => absurd (Or.inl rfl) h⟩, fun j hj hjd u hu => hu.but hb kB gkB ?_⟩
      intro e
      have e : 35 + j = 47 := e
      exact hnd ((show j = 12 by omega) ▸ hjd)
    | 13, _, ho, hnd, dep =>
      obtain ⟨q, cap, g, c, h47, -⟩ : RES w0.heap.size k gk (nx n) (fadd x.toNat (fmul 1056964608 mm.toNat) : Nat) (.slice (some ⟨gn, 0, none⟩) 1 1) (.slice (some ⟨gi, 0, none⟩) 1 1) (.slice (some ⟨gk, 0, none⟩) 1 kc) (a.eval (.tmp 47)) w := dep 12 (by omega) (by kernel_rfl)
      exact Rin.step_len (d := some 48) (x := .tmp 47) (t := 97) (by kernel_rfl) (by kernel_rfl) _ _ _ h47 ⟨_, rfl, rfl, q0 13 (by omega)⟩
    | 14, _, ho, hnd, dep => exact Rin.step_move (d := some 49) (x := .const (.int .i64 0)) (by kernel_rfl) ⟨_, rfl, rfl, q0 14 (by omega)⟩
    | i + 15, hi, _, _, _ => exact absurd hi (by omega)
  · intro done a w hsz hd hrest hR hS
    exact hQ a w hsz hd (fun t ht => hrest t (fun i hi e => by have e : 35 + i = t := e; omega)) (fun t ht => hrest t (fun i hi e => by have e : 35 + i = t := e; omega)) (hS 12 (by omega)) (hS 13 (by omega)) (hS 14 (by omega)) hR.1
end Go.Proofs.YtpgodgfkbkfpcaaGreat.Tim
