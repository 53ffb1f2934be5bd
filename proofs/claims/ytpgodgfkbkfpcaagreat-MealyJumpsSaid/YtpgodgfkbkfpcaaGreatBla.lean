/- blank at one parameter. No condition. -/
import Derived.Test.YtpgodgfkbkfpcaaGreatLsv
import Derived.Laws.MakeOwn
set_option linter.unusedVariables false
set_option linter.unusedSimpArgs false
namespace Go.Proofs.YtpgodgfkbkfpcaaGreat.Tim
open Go.Shelf Go.RowKit Go.Proofs.YtpgodgfkbkfpcaaGreat.Trb Go.Proofs.YtpgodgfkbkfpcaaGreat.Bui Go.Proofs.YtpgodgfkbkfpcaaGreat.Fom
open Lathe (fadd fmul)
theorem mk22 (w : World) : (Instr.makeSlice 22 (.int .i64 1) (.int .i64 1)).run Tryz.prog w = .ok (.slice (some ⟨w.heap.size, 0, none⟩) 1 1) (w.alloc (.cells #[.int .u32 0] 81)) :=
  (run_make (P := Tryz.prog) w 22 81 tF (.int .u32 0) Tryz.underlying22 (by kernel_rfl) (by kernel_rfl) .i64 .i64 1 1 (by omega) (by omega) (by rw [show tF.bytes = 4 by kernel_rfl]; omega) (by omega)).trans (by
    rw [show (madeCells (Value.int .u32 0).cells (Int.toNat 1 * tF.size)) = #[.int .u32 0] by kernel_rfl]; rfl)
theorem take_at {cur cs : Array Value} {n k : Nat} (h : cur.toList.take n = cs.toList) (hk : k < n) : cur[k]? = cs[k]? := by
  rw [← Array.getElem?_toList, ← Array.getElem?_toList, ← h, List.getElem?_take, if_pos hk]
theorem pl_of {w : World} {q g c : Nat} {cur : Array Value} {fr : Nat × Nat} (h : w.heap[q]? = some (.cells cur 102 fr)) (ht : cur.toList.take 5 = (pcs g c).toList) : Pl w q g c :=
  have hc : ∀ j, j < 5 → w.cell? ⟨q, j, none⟩ = (pcs g c)[j]? := fun j hj => (cell_of_row _ _ j _ _ _ h).trans (take_at ht hj)
  ⟨hc 0 (by omega), hc 1 (by omega), hc 2 (by omega), hc 3 (by omega), hc 4 (by omega)⟩
set_option maxHeartbeats 1000000 in
set_option maxRecDepth 100000 in
theorem blank_w (gl cl ga ca : Nat) (W : World) (h : Mec.One W gl) (ha : W.cell? ⟨ga, 0, none⟩ = some (.int .i64 0)) : Calls Tryz.prog 80 #[.slice (some ⟨gl, 0, none⟩) 1 cl, .slice (some ⟨ga, 0, none⟩) 1 ca, .bool false] W fun e w' =>
    (∃ q cap g c, e = .returned (.slice (some ⟨q, 0, none⟩) 1 cap) ∧ W.heap.size ≤ q ∧ Pl w' q g c ∧ W.heap.size ≤ g ∧ w'.cell? ⟨g, 0, none⟩ = some (.int .u32 0)) ∧ Below W.heap.size W w' := by
  have hmk := mk22
  obtain ⟨c0, c1, c2⟩ := h
  have z0 : gl < W.heap.size := World.block_lt_of_cell? _ _ c0
  have z1 : gl < W.heap.size + 1 := by omega
  have z2 : gl < W.heap.size + 1 + 1 := by omega
  go_enter Tryz.func80, Tryz.ntmps80
  go_wp2
  refine wp_loop_rounds 2 ?_
  rw [rounds_succ]
  go_wp2_with (at_builtin; refine Mec.app_nil rfl (.tmp 45) (.tmp 47) 97 rfl 102 tP (.agg pz.toArray) 5 72 Tryz.underlying97 (by kernel_rfl) (by kernel_rfl) (by kernel_rfl) (by kernel_rfl) rfl (by decide) (by rfl) (W.heap.size + 1 + 1) 1 1 _ (0, 0) (by rfl) (Tab.new_at _ _ (by simp)) (by rfl) (by kernel_rfl) (by decide) (by unfold maxLen; omega) (by omega) ?_; intro k cap cur w1 hk h3 ht hcs hc hb)
  have hpl := pl_of h3 (by rw [show 1 * 5 = 5 from rfl] at ht; exact ht)
  have hcell : w1.cell? ⟨W.heap.size + 1, 0, none⟩ = some (.int .u32 0) := (hb.cell (p := ⟨W.heap.size + 1, 0, none⟩) (by simp)).trans (by go_simp)
  have hB : Below W.heap.size W w1 := Tab.then_ (Tab.then_ (Tab.then_ (below_alloc _ _) (by simp) (below_alloc _ _)) (by simp; omega) (below_alloc _ _)) (by simp; omega) hb
  have hk' : W.heap.size ≤ k := by simp at hk; omega
  clear hb ht h3 hk
  rw [rounds_succ]
  go_wp2
  go_ret
  exact ⟨⟨k, cap, W.heap.size + 1, 1, rfl, hk', hpl, by omega, hcell⟩, hB⟩
set_option maxHeartbeats 400000 in
set_option maxRecDepth 100000 in
theorem size1 (g c : Nat) (W : World) : Calls Tryz.prog 83 #[pc g c] W fun e w' => e = .returned (.int .i64 1) ∧ Below W.heap.size W w' := by
  unfold pc
  go_enter Tryz.func83, Tryz.ntmps83
  go_wp2
  go_ret
  exact ⟨rfl, below_alloc _ _⟩
set_option maxHeartbeats 400000 in
set_option maxRecDepth 100000 in
theorem fill1 (W : World) : Calls Tryz.prog 82 #[.int .i64 1, .int .u32 0] W fun e w' => (∃ g, e = .returned (.tuple #[.slice (some ⟨g, 0, none⟩) 1 1, .int .i64 0]) ∧ W.heap.size ≤ g ∧ w'.cell? ⟨g, 0, none⟩ = some (.int .u32 0)) ∧ Below W.heap.size W w' := by
  have hmk := mk22
  have hcn := Meb.canon_0
  go_enter Tryz.func82, Tryz.ntmps82
  go_wp2
  refine wp_loop_rounds 2 ?_
  rw [rounds_succ]
  go_wp2_with (go_at_call 68; refine (hcn _).mono ?_; rintro e w1 ⟨rfl, rfl⟩)
  rw [rounds_succ]
  go_wp2
  go_ret2
  exact ⟨⟨W.heap.size, rfl, Nat.le_refl _, by go_simp⟩, below_alloc _ _⟩
end Go.Proofs.YtpgodgfkbkfpcaaGreat.Tim
