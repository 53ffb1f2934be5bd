/- Pieces of one real number: at, plus, times, each, made. No condition. -/
import Derived.Test.YtpgodgfkbkfpcaaGreatPaz
import Derived.Test.YtpgodgfkbkfpcaaGreatSte
import Derived.Deep.CutBlock
import Derived.Deep.DeepCutAuto
set_option linter.unusedVariables false
set_option linter.unusedSimpArgs false
namespace Go.Proofs.YtpgodgfkbkfpcaaGreat.Rin
open Go Go.RowKit
section
variable {P : Program} {ops : Array Oper} {Q : Exit → Act → World → Prop} {K : Act → World → Prop} {a : Act} {w : World}
theorem step_callv {i f : Nat} {x : Operand} {cap : Array Value} {args : List Operand} {ts : Array TypeId} {d : Option Tmp} (h : (ops[i]?).map (fun o => (o.op, o.dst, o.guard)) = some (.call { callee := .value x, args := args.toArray, argTypes := ts }, d, none)) (hx : a.eval x = .func (.func f) #[] cap)
    (he : ∀ vs w, (callFunc f vs).run P w = .ok (.enter f vs) w) (hC : Calls P f ((args.map a.eval).toArray ++ cap) w fun e w' => ∃ v, e = .returned v ∧ K (a.put d v) w') : wpOp P ops Q i K a w := by
  refine wpOp_at h fun o ho hd => ?_
  unfold Oper.wp execOp
  have hr : ∀ W, (do let d ← resolve a.eval { callee := .value x, args := args.toArray, argTypes := ts } o.type; invoke d.target d.args : Sem Next).run P W = .ok (.enter f ((args.map a.eval).toArray ++ cap)) W := by
    intro W
    have := he ((args.map a.eval).toArray ++ cap) W
    simp [resolve, hx, Deferred.ofValue, invoke, this, Result.andThen]
  simp only [ho]
  rw [hr w, Oper.upon_enter]
  refine hC.mono ?_
  rintro e w' ⟨v, rfl, hk⟩
  rw [hd]
  exact hk
/-- append to nothing, of a row that is known whole. -/
theorem step_append_nil {i : Nat} {s x : Operand} {t : TypeId} {d : Option Tmp} (h : (ops[i]?).map (fun o => (o.op, o.dst, o.guard)) = some (.call { callee := .builtin .append, args := #[s, x], argTypes := #[t, t] }, d, none))
    (e : TypeId) (ie : TypeInfo) (z : Value) (size bytes : Nat) (h1 : P.underlying t = some (.slice e)) (h2 : P.info? e = some ie) (h3 : ie.zero = some z) (h4 : ie.size = size) (h5 : ie.bytes = bytes) (h6 : z.cells.size = size) (h7 : 0 < size)
    (hs : a.eval s = .slice none 0 0)
    (g2 m c2 : Nat) (cs2 : Array Value) (f2 : Nat × Nat) (hx : a.eval x = .slice (some ⟨g2, 0, none⟩) m c2) (hg2 : w.heap[g2]? = some (.cells cs2 e f2)) (hl2 : cs2.size = m * size) (hone : cs2.all (·.oneCell') = true)
    (hm : 0 < m) (b1 : m ≤ maxLen) (b2 : m * bytes ≤ 140737488355328)
    (hK : ∀ g cap cur w', w.heap.size ≤ g → w'.heap[g]? = some (.cells cur e (0, 0)) → cur.toList.take (m * size) = cs2.toList → cur.size = cap * size → m ≤ cap → Below w.heap.size w w' → K (a.put d (.slice (some ⟨g, 0, none⟩) m cap)) w') : wpOp P ops Q i K a w := by
  refine wpOp_at h fun o ho hd => ?_
  refine wp_append_lies w s x t ho w.heap.size e ie z size bytes h1 h2 h3 h4 h5 h6 h7 _ 0 [] hs (World.ownsRow_nil w _ e size) ⟨g2, 0, none⟩ m c2 cs2.toList hx (by simpa using hl2) (row_cells hg2) (fun u hu => by rw [Array.all_eq_true_iff_forall_mem] at hone; exact hone u (Array.mem_toList_iff.1 hu)) hm (by omega) (by rw [Nat.zero_add]; exact b2) (Nat.le_refl _) _ rfl ?_
  rintro g cap w' ⟨-, h | ⟨g', cap', cur, h1, h2, h3, h4, -, h5, h6⟩⟩ hgr - -
  · cases h.1
  · injection h1 with e1 e2 e3
    injection e1 with e1
    injection e1 with e1
    subst e1 e3
    rw [Nat.zero_add] at h4 h6 ⊢
    rw [hd]
    exact hK g cap cur w' h2 h3 (by simpa using h6) h5 h4 ⟨hgr.os, hgr.tape, hgr.output, hgr.size, fun k hk => hgr.block k hk (by simp [Value.ownBlock])⟩
end
end Go.Proofs.YtpgodgfkbkfpcaaGreat.Rin
namespace Go.Proofs.YtpgodgfkbkfpcaaGreat.Tim
open Go.Shelf Go.RowKit Go.Proofs.YtpgodgfkbkfpcaaGreat.Trb Go.Proofs.YtpgodgfkbkfpcaaGreat.Bui
open Lathe (fadd fmul)
/-- A piece of one real number. -/
def pc (g c : Nat) : Value := .agg #[.int .i64 0, .int .i64 0, .bool false, .slice (some ⟨g, 0, none⟩) 1 c, .slice none 0 0]
set_option maxHeartbeats 400000 in
set_option maxRecDepth 100000 in
theorem at_ (g c : Nat) (x : Int) (W : World) (h : W.cell? ⟨g, 0, none⟩ = some (.int .u32 x)) : Calls Tryz.prog 308 #[pc g c, .int .i64 0] W fun e w' => e = .returned (.agg #[.int .u32 x, .int .u32 0]) ∧ Below W.heap.size W w' := by
  have hg : g < W.heap.size := World.block_lt_of_cell? _ _ h
  have hg1 : g < W.heap.size + 1 := by omega
  unfold pc
  go_enter Tryz.func308, Tryz.ntmps308
  go_wp2
  (try simp only [Exit.inBlock, Exit.then])
  refine bodyPost_ret (results_cell_row rfl _ _ (W.heap.size + 1) 105 #[.int .u32 x, .int .u32 0] (0, 0) _ rfl (Tab.new_at _ _ (by simp)) Tryz.underlying105 rfl (by kernel_rfl)) rfl ?_
  exact ⟨rfl, Tab.then_ (below_alloc _ _) (by simp) (below_alloc _ _)⟩
theorem store105 (w : World) (g : Nat) (a b x y : Value) (h1 : x.oneCell' = true) (h2 : y.oneCell' = true) (hg : w.heap[g]? = some (.cells #[a, b] 105 (0, 0))) : (Instr.storeAt 105 (.pointer (some ⟨g, 0, none⟩)) (.agg #[x, y])).run Tryz.prog w = .ok () (w.setRow g #[x, y]) := by
  have := run_storeVar_row (P := Tryz.prog) w g 105 105 #[a, b] #[x, y] hg (by kernel_rfl) rfl (by simp [h1, h2])
  simp [Instr.storeAt, Instr.sureAddr, this]
theorem ent308 : ∀ vs w, (callFunc 308 vs).run Tryz.prog w = .ok (.enter 308 vs) w := enters_of Tryz.func308 (by kernel_rfl) rfl
theorem ent312 : ∀ vs w, (callFunc 312 vs).run Tryz.prog w = .ok (.enter 312 vs) w := enters_of Tryz.func312 (by kernel_rfl) rfl
noncomputable def ops311 : Array Oper := Rin.opsOf Tryz.f311 1
def VT (x y : Int) (g c : Nat) (t : Nat) : Value := if t = 6 then .agg #[.int .u32 x, .int .u32 0] else if t = 7 then pc g c else if t = 8 then .int .i64 0 else if t = 9 then .agg #[.int .u32 y, .int .u32 0] else .agg #[.int .u32 (fadd x.toNat y.toNat : Nat), .int .u32 (fadd 0 0 : Nat)]
set_option maxHeartbeats 1000000 in
set_option maxRecDepth 100000 in
theorem plusc (q g c : Nat) (x y : Int) (W : World) (hq : W.heap[q]? = some (.cells #[.int .i64 0, .int .i64 0, .bool false, .slice (some ⟨g, 0, none⟩) 1 c, .slice none 0 0] 102 (0, 0))) (h : W.cell? ⟨g, 0, none⟩ = some (.int .u32 y)) :
    Calls Tryz.prog 311 #[.int .i64 0, .agg #[.int .u32 x, .int .u32 0], .pointer (some ⟨q, 0, none⟩)] W fun e w' => (∃ s, e = .returned (.agg #[.int .u32 (fadd x.toNat y.toNat : Nat), .int .u32 s])) ∧ Below W.heap.size W w' := by
  have hm : Tryz.prog.follows .mixedOrders = true := by kernel_rfl
  have hg : g < W.heap.size := World.block_lt_of_cell? _ _ h
  go_enter Tryz.func311, Tryz.ntmps311
  go_upto_region 1 with fail
  have hB0 : Below W.heap.size W ((W.alloc (.cells #[.int .u32 x, .int .u32 0] 105)).alloc (.cells #[.int .u32 0, .int .u32 0] 105)) := Tab.then_ (below_alloc _ _) (by simp) (below_alloc _ _)
  go_cut [0, 1, 2, 3, 4, 5] from 6 (fun v0 v1 v2 v3 v4 v5 w => v5 = .pointer (some ⟨W.heap.size + 1, 0, none⟩) ∧ w.heap[W.heap.size + 1]? = some (.cells #[.int .u32 (fadd x.toNat y.toNat : Nat), .int .u32 (fadd 0 0 : Nat)] 105 (0, 0)) ∧ Below W.heap.size W w)
  case first =>
    rename_i J K' hJ hK
    refine Rin.wp_region_to (l' := ops311) (by kernel_rfl) ?_
    refine Rin.wp_region_slots 5 11 (fun i => 6 + i) (fun t v _ => v = VT x y g c t) hm (by kernel_rfl) (by kernel_rfl) (by kernel_rfl) rfl (fun i hi => by show 6 + i < 11; omega) (fun i j hi hj h => by have h : 6 + i = 6 + j := h; omega) (fun _ _ _ _ h _ => h) ?_ ?_
    · intro i o a w hi ho hR hS
      have hS' : ∀ k, k < 5 → ((ops311[i]?).map fun o => o.after.any fun e => e.on == k && Region.binds .any e) = some true → a.eval (.tmp (6 + k)) = VT x y g c (6 + k) := fun k hk he => hS k hk (by rw [ho] at he; simpa using he)
      clear hS ho o
      match i, hi with
      | 0, _ => exact Rin.step_loadRow (d := some 6) (by kernel_rfl) W.heap.size ((hR.rest 4 (fun i hi => by show 6 + i ≠ 4; omega)).trans rfl) 105 #[.int .u32 x, .int .u32 0] (0, 0) _ (heap_on (heap_on (heap_alloc_new _ _) (below_alloc _ _)) hR.below) Tryz.underlying105 rfl (by kernel_rfl) ⟨_, rfl, rfl, Below.refl _ _⟩
      | 1, _ => exact Rin.step_loadRow (d := some 7) (by kernel_rfl) q ((hR.rest 2 (fun i hi => by show 6 + i ≠ 2; omega)).trans rfl) 102 _ (0, 0) _ (heap_on (heap_on (heap_on hq (below_alloc _ _)) (below_alloc _ _)) hR.below) Tryz.underlying102 rfl (by kernel_rfl) ⟨_, rfl, rfl, Below.refl _ _⟩
      | 2, _ => exact Rin.step_move (d := some 8) (x := .tmp 0) (by kernel_rfl) ⟨_, rfl, (hR.rest 0 (fun i hi => by show 6 + i ≠ 0; omega)).trans rfl, Below.refl _ _⟩
      | 3, _ =>
        have h7 : a.eval (.tmp 7) = pc g c := hS' 1 (by omega) (by kernel_rfl)
        have h8 : a.eval (.tmp 8) = .int .i64 0 := hS' 2 (by omega) (by kernel_rfl)
        refine Rin.step_call (args := [.tmp 7, .tmp 8]) (ts := #[102, 3]) (d := some 9) (by kernel_rfl) ent308 ?_
        show Calls _ 308 #[a.eval (.tmp 7), a.eval (.tmp 8)] _ _
        rw [h7, h8]
        refine (at_ g c y w (((Tab.then_ hB0 hB0.size hR.below).cell (p := ⟨g, 0, none⟩) hg).trans h)).mono ?_
        rintro e w' ⟨rfl, hb⟩
        exact ⟨_, rfl, _, rfl, rfl, hb⟩
      | 4, _ =>
        have h6 : a.eval (.tmp 6) = .agg #[.int .u32 x, .int .u32 0] := hS' 0 (by omega) (by kernel_rfl)
        have h9 : a.eval (.tmp 9) = .agg #[.int .u32 y, .int .u32 0] := hS' 3 (by omega) (by kernel_rfl)
        refine Rin.step_call (args := [.tmp 6, .tmp 9]) (ts := #[105, 105]) (d := some 10) (by kernel_rfl) ent312 ?_
        show Calls _ 312 #[a.eval (.tmp 6), a.eval (.tmp 9)] _ _
        rw [h6, h9]
        refine (Paz.Add_any x 0 y 0 w).mono ?_
        rintro e w' ⟨rfl, hb⟩
        exact ⟨_, rfl, _, rfl, rfl, hb⟩
      | i + 5, hi => exact absurd hi (by omega)
    · intro a w hR hS
      have h10 : a.eval (.tmp 10) = .agg #[.int .u32 (fadd x.toNat y.toNat : Nat), .int .u32 (fadd 0 0 : Nat)] := hS 4 (by omega)
      have h5 : a.eval (.tmp 5) = .pointer (some ⟨W.heap.size + 1, 0, none⟩) := (hR.rest 5 (fun i hi => by show 6 + i ≠ 5; omega)).trans rfl
      have hg5 : w.heap[W.heap.size + 1]? = some (.cells #[.int .u32 0, .int .u32 0] 105 (0, 0)) := heap_on (Tab.new_at _ _ (by simp)) hR.below
      refine Rin.step_store (d := none) (t := 105) (x := .tmp 5) (y := .tmp 10) (by kernel_rfl) _ (by rw [h5, h10]; exact store105 _ _ _ _ _ _ rfl rfl hg5) ?_
      refine hK _ _ (Met.intro (hJ _ _ ?_))
      (repeat apply Exists.intro)
      refine ⟨?_, Rin.act_list 11 _ hR.size hR.defers⟩
      exact ⟨h5, setRow_heap _ _ _ _ _ _ hg5, Trv.below_row (Tab.then_ hB0 hB0.size hR.below) (by omega) _⟩
  case rest =>
    obtain ⟨rfl, hr, hB⟩ := hcut
    go_wp2
    (try simp only [Exit.inBlock, Exit.then])
    refine bodyPost_ret (results_cell_row rfl _ _ (W.heap.size + 1) 105 _ (0, 0) _ rfl hr Tryz.underlying105 rfl (by kernel_rfl)) rfl ?_
    exact ⟨⟨_, rfl⟩, hB⟩
end Go.Proofs.YtpgodgfkbkfpcaaGreat.Tim
