/- New at identity: the machine and its leaf. No condition. -/
import Derived.Test.YtpgodgfkbkfpcaaGreatNew
import Derived.Deep.CutBlock
import Derived.Deep.DeepCutAuto
set_option linter.unusedVariables false
set_option linter.unusedSimpArgs false
namespace Go.Proofs.YtpgodgfkbkfpcaaGreat.Bui
open Go.Shelf Go.RowKit Go.Proofs.YtpgodgfkbkfpcaaGreat.Trb Go.Proofs.YtpgodgfkbkfpcaaGreat.Fom
/-- A machine: its count, its parameters, its root. -/
structure Mac (w : World) (m : Nat) (n : Int) (lv : Value) (k : Nat) : Prop where
  c0 : w.cell? ⟨m, 0, none⟩ = some (.int .i64 n)
  f0 : w.frozen? ⟨m, 0, none⟩ = false
  c1 : w.cell? ⟨m, 1, none⟩ = some lv
  c2 : w.cell? ⟨m, 2, none⟩ = some (.iface 165 (.pointer (some ⟨k, 0, none⟩)))
theorem Mac.on {w w' : World} {m k : Nat} {n : Int} {lv : Value} (h : Mac w m n lv k) (hB : Below w.heap.size w w') : Mac w' m n lv k := by
  have hb := hB.block m (World.block_lt_of_cell? _ _ h.c0)
  exact ⟨(World.cell?_of_block hb).trans h.c0, (World.frozen?_of_block hb).trans h.f0, (World.cell?_of_block hb).trans h.c1, (World.cell?_of_block hb).trans h.c2⟩
/-- A leaf: its count, its number, its kept pieces. -/
structure Lea (w : World) (k : Nat) (n op : Int) (nums ints kept : Value) : Prop where
  c0 : w.cell? ⟨k, 0, none⟩ = some (.int .i64 n)
  f0 : w.frozen? ⟨k, 0, none⟩ = false
  c1 : w.cell? ⟨k, 1, none⟩ = some (.int .i64 op)
  c2 : w.cell? ⟨k, 2, none⟩ = some nums
  c3 : w.cell? ⟨k, 3, none⟩ = some ints
  c4 : w.cell? ⟨k, 4, none⟩ = some (.slice none 0 0)
  c5 : w.cell? ⟨k, 5, none⟩ = some (.int .i64 0)
  c6 : w.cell? ⟨k, 6, none⟩ = some (.slice none 0 0)
  c7 : w.cell? ⟨k, 7, none⟩ = some (.slice none 0 0)
  c8 : w.cell? ⟨k, 8, none⟩ = some (.slice none 0 0)
  c9 : w.cell? ⟨k, 9, none⟩ = some (.slice none 0 0)
  c10 : w.cell? ⟨k, 10, none⟩ = some kept
theorem Lea.same {w w' : World} {k : Nat} {n op : Int} {nums ints kept : Value} (h : Lea w k n op nums ints kept) (hb : w'.heap[k]? = w.heap[k]?) : Lea w' k n op nums ints kept := by
  have c : ∀ j, w'.cell? ⟨k, j, none⟩ = w.cell? ⟨k, j, none⟩ := fun j => World.cell?_of_block hb
  exact ⟨(c 0).trans h.c0, (World.frozen?_of_block hb).trans h.f0, (c 1).trans h.c1, (c 2).trans h.c2, (c 3).trans h.c3, (c 4).trans h.c4, (c 5).trans h.c5, (c 6).trans h.c6, (c 7).trans h.c7, (c 8).trans h.c8, (c 9).trans h.c9, (c 10).trans h.c10⟩
theorem Lea.on {w w' : World} {k : Nat} {n op : Int} {nums ints kept : Value} (h : Lea w k n op nums ints kept) (hB : Below w.heap.size w w') : Lea w' k n op nums ints kept := h.same (hB.block k (World.block_lt_of_cell? _ _ h.c0))
theorem lea_of {w : World} {k : Nat} {n op : Int} {nums ints kept : Value} (h : w.heap[k]? = some (.cells #[.int .i64 n, .int .i64 op, nums, ints, .slice none 0 0, .int .i64 0, .slice none 0 0, .slice none 0 0, .slice none 0 0, .slice none 0 0, kept] 168 (0, 0))) : Lea w k n op nums ints kept :=
  ⟨cell_of_row _ _ 0 _ _ _ h, by simp [World.frozen?, h], cell_of_row _ _ 1 _ _ _ h, cell_of_row _ _ 2 _ _ _ h, cell_of_row _ _ 3 _ _ _ h, cell_of_row _ _ 4 _ _ _ h, cell_of_row _ _ 5 _ _ _ h, cell_of_row _ _ 6 _ _ _ h, cell_of_row _ _ 7 _ _ _ h, cell_of_row _ _ 8 _ _ _ h, cell_of_row _ _ 9 _ _ _ h, cell_of_row _ _ 10 _ _ _ h⟩
theorem mac_set {w : World} {m k : Nat} {lv x : Value} {ty : TypeId} (h : w.heap[m]? = some (.cells #[.int .i64 0, lv, x] ty (0, 0))) : Mac (w.setCell ⟨m, 2, none⟩ (.iface 165 (.pointer (some ⟨k, 0, none⟩)))) m 0 lv k := by
  have c0 := cell_of_row w m 0 _ _ _ h
  have c1 := cell_of_row w m 1 _ _ _ h
  have c2 : w.cell? ⟨m, 2, none⟩ = some x := cell_of_row w m 2 _ _ _ h
  have f0 : w.frozen? ⟨m, 0, none⟩ = false := by simp [World.frozen?, h]
  refine ⟨?_, ?_, ?_, World.cell?_setCell_same _ _ _ c2⟩
  · rw [World.cell?_setCell_other _ _ _ _ (by simp)]; exact c0
  · rw [World.frozen?_setCell]; exact f0
  · rw [World.cell?_setCell_other _ _ _ _ (by simp)]; exact c1
set_option maxHeartbeats 1000000 in
set_option maxRecDepth 100000 in
theorem New_id (W : World) : Calls Tryz.prog 21 #[Mea.tx 1 (.slice none 0 0) (.slice none 0 0), .slice none 0 0] W fun e w' => (∃ m k lp, e = .returned (.tuple #[.pointer (some ⟨m, 0, none⟩), .int .i64 0]) ∧ W.heap.size ≤ m ∧ W.heap.size ≤ k ∧ m ≠ k ∧ Mac w' m 0 (.slice lp 0 0) k ∧ Lea w' k 0 1 (.slice none 0 0) (.slice none 0 0) (.slice none 0 0)) ∧ Below W.heap.size W w' := by
  have hv := Valid_id
  unfold Mea.tx at hv ⊢
  go_enter Tryz.func21, Tryz.ntmps21
  go_upto_region 10 with (go_at_call 50; refine (hv _).mono ?_; rintro e w1 ⟨rfl, hb⟩; have v2 : w1.heap[W.heap.size]? = some (.cells #[.int .i64 1, .slice none 0 0, .slice none 0 0, .slice none 0 0, .int .i64 0, .slice none 0 0, .slice none 0 0, .slice none 0 0, .slice none 0 0] 30 (0, 0)) := heap_on (heap_alloc_new _ _) hb; obtain ⟨j0, j1, j2, j3, j4, j5, j6, j7, j8⟩ := nine v2)
  refine wp_loop_rounds 1 ?_
  rw [rounds_succ]
  go_upto_region 10 with fail
  have x0 : W.heap.size < w1.heap.size := World.block_lt_of_cell? _ _ j0
  have hB1 : Below W.heap.size W w1 := Tab.then_ (below_alloc _ _) (by simp) hb
  go_upto_region 11 with fail
  clear hv hb j0 j1 j2 j3 j4 j5 j6 j7 j8
  go_cut [0, 1, 2, 3, 4, 5, 6, 7, 8, 9] from 10 (fun v0 v1 v2 v3 v4 v5 v6 v7 v8 v9 w => ∃ m k lp, v9 = .pointer (some ⟨m, 0, none⟩) ∧ W.heap.size ≤ m ∧ W.heap.size ≤ k ∧ m ≠ k ∧ Mac w m 0 (.slice lp 0 0) k ∧ Lea w k 0 1 (.slice none 0 0) (.slice none 0 0) (.slice none 0 0) ∧ Below W.heap.size W w)
  case first =>
    rename_i J K' hJ hK
    refine Rin.wp_region_to (l' := ops21) (by kernel_rfl) ?_
    refine reg11 (op := 1) (gm := w1.heap.size + 1) (gt := W.heap.size) (lv := .slice (some ⟨w1.heap.size, 0, none⟩) 0 0) (av := .slice none 0 0) (nums := .slice none 0 0) (ints := .slice none 0 0)
      (fun k w => W.heap.size ≤ k ∧ w.heap[k]? = some (.cells #[.int .i64 0, .int .i64 1, .slice none 0 0, .slice none 0 0, .slice none 0 0, .int .i64 0, .slice none 0 0, .slice none 0 0, .slice none 0 0, .slice none 0 0, .slice none 0 0] 168 (0, 0)))
      (fun k w w' h hB => ⟨h.1, heap_on h.2 hB⟩) rfl rfl rfl rfl (Tab.new_at _ _ (by simp)) (heap_on (heap_on v2 (below_alloc _ _)) (below_alloc _ _)) (fun w hB => (build_id _ _ _ w).mono fun e w' h => ⟨by obtain ⟨⟨k, h1, h2, h3⟩, _⟩ := h; exact ⟨k, h1, by have h4 := hB.size; have h5 := hB1.size; simp at h4; omega, h3⟩, h.2⟩) ?_
    intro a w k hN hd ht hk hB
    obtain ⟨hkB, hk⟩ := hk
    refine hK _ _ (Met.intro (hJ _ _ ?_))
    (repeat apply Exists.intro)
    refine ⟨?_, Rin.act_list 42 _ hN hd⟩
    have hgm : w.heap[w1.heap.size + 1]? = some (.cells #[.int .i64 0, .slice (some ⟨w1.heap.size, 0, none⟩) 0 0, .nilIface] 94 (0, 0)) := heap_on (Tab.new_at _ _ (by simp)) hB
    have hne : w1.heap.size + 1 ≠ k := Trv.apart hgm hk (by show (3 : Nat) ≠ 11; decide)
    refine ⟨w1.heap.size + 1, k, _, (ht 9 (by omega)).trans rfl, by omega, hkB, hne, mac_set hgm, (lea_of hk).same (Below.heap_setCell _ _ _ _ (Ne.symm hne)), ?_⟩
    have hBW : Below W.heap.size W w := Tab.then_ (Tab.then_ (Tab.then_ hB1 (by omega) (below_alloc _ _)) (by simp; omega) (below_alloc _ _)) (by simp; omega) hB
    exact ⟨hBW.os, hBW.tape, hBW.output, by simpa [World.setCell] using hBW.size, fun g hg => (Below.heap_setCell _ _ _ _ (by show g ≠ w1.heap.size + 1; omega)).trans (hBW.block g hg)⟩
  case rest =>
    obtain ⟨m, k, lp, rfl, hm0, hk0, hne, hM, hL, hB⟩ := hcut
    go_wp2
    go_ret2
    exact ⟨⟨m, k, lp, rfl, hm0, hk0, hne, hM, hL⟩, hB⟩
end Go.Proofs.YtpgodgfkbkfpcaaGreat.Bui
