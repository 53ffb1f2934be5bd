/- A step of the machine at trace. No condition. -/
import Derived.Test.YtpgodgfkbkfpcaaGreatSti
import Derived.Test.YtpgodgfkbkfpcaaGreatSte
import Derived.Deep.CutBlock
import Derived.Deep.DeepCutAuto
set_option linter.unusedVariables false
set_option linter.unusedSimpArgs false
namespace Go.Proofs.YtpgodgfkbkfpcaaGreat.Tim
open Go.Shelf Go.RowKit Go.Proofs.YtpgodgfkbkfpcaaGreat.Trb Go.Proofs.YtpgodgfkbkfpcaaGreat.Bui Go.Proofs.YtpgodgfkbkfpcaaGreat.Fom
open Lathe (fadd fmul)
/-- A tracing machine of one real number. -/
structure Tr (w : World) (m ql qc k gn gi gk kc gm cm : Nat) (N n mm : Int) : Prop where
  mac : Mac w m N (.slice (some ⟨ql, 0, none⟩) 1 qc) k
  one : Mec.One w ql
  lea : Lea w k n 7 (.slice (some ⟨gn, 0, none⟩) 1 1) (.slice (some ⟨gi, 0, none⟩) 1 1) (.slice (some ⟨gk, 0, none⟩) 1 kc)
  ke : Ke w gk gm cm
  hn : w.cell? ⟨gn, 0, none⟩ = some (.int .u32 1056964608)
  hi : w.cell? ⟨gi, 0, none⟩ = some (.int .i64 0)
  hm : w.cell? ⟨gm, 0, none⟩ = some (.int .u32 mm)
  d1 : m ≠ k
  d2 : m ≠ gk
  d3 : m ≠ ql
  d4 : m ≠ gn
  d5 : m ≠ gi
  d6 : m ≠ gm
  e1 : gi ≠ gk
  e2 : k ≠ gk
  e3 : gn ≠ k
  e4 : gi ≠ k
  e5 : gm ≠ k
  e6 : ql ≠ k
  e7 : ql ≠ gk
  e8 : gn ≠ gk
theorem Tr.on {w w' : World} {m ql qc k gn gi gk kc gm cm : Nat} {N n mm : Int} (h : Tr w m ql qc k gn gi gk kc gm cm N n mm) (hB : Below w.heap.size w w') : Tr w' m ql qc k gn gi gk kc gm cm N n mm :=
  ⟨h.mac.on hB, one_on h.one (hB.block ql (World.block_lt_of_cell? _ _ h.one.c0)), h.lea.on hB, h.ke.on hB, (hB.cell (World.block_lt_of_cell? _ _ h.hn)).trans h.hn, (hB.cell (World.block_lt_of_cell? _ _ h.hi)).trans h.hi, (hB.cell (World.block_lt_of_cell? _ _ h.hm)).trans h.hm, h.d1, h.d2, h.d3, h.d4, h.d5, h.d6, h.e1, h.e2, h.e3, h.e4, h.e5, h.e6, h.e7, h.e8⟩
theorem Tr.tick {w : World} {m ql qc k gn gi gk kc gm cm : Nat} {N n mm : Int} (h : Tr w m ql qc k gn gi gk kc gm cm N n mm) (N' : Int) : Tr (w.setCell ⟨m, 0, none⟩ (.int .i64 N')) m ql qc k gn gi gk kc gm cm N' n mm :=
  ⟨h.mac.jump N', one_on h.one (heap_far (Ne.symm h.d3)), h.lea.same (heap_far (Ne.symm h.d1)), h.ke.same (heap_far (Ne.symm h.d2)), (cell_far h.d4).trans h.hn, (cell_far h.d5).trans h.hi, (cell_far h.d6).trans h.hm, h.d1, h.d2, h.d3, h.d4, h.d5, h.d6, h.e1, h.e2, h.e3, h.e4, h.e5, h.e6, h.e7, h.e8⟩
noncomputable def tS : TypeInfo := (Tryz.prog.info? 22).get (by kernel_rfl)
set_option maxHeartbeats 2000000 in
set_option maxRecDepth 100000 in
theorem Step_tr {x y mm : Int} (hcx : ∀ W, Calls Tryz.prog 68 #[.int .u32 x] W fun e w' => e = .returned (.int .u32 x) ∧ w' = W) (hcy : ∀ W, Calls Tryz.prog 68 #[.int .u32 y] W fun e w' => e = .returned (.int .u32 y) ∧ w' = W)
    (z : Int) (hz : (fadd x.toNat (fmul 1056964608 mm.toNat) : Nat) = z) (hcz : ∀ W, Calls Tryz.prog 68 #[.int .u32 z] W fun e w' => e = .returned (.int .u32 z) ∧ w' = W)
    (m ql qc k gn gi gk kc gm cm : Nat) (N n : Int) (W : World) (h : Tr W m ql qc k gn gi gk kc gm cm N n mm) (N0 : 0 ≤ N) (N1 : N ≤ 2147483647) (n0 : 0 ≤ n) (n1 : n ≤ 2147483647)
    (v1 c1 g1 d1 v2 c2 g2 d2 : Nat) (hv1 : W.cell? ⟨v1, 0, none⟩ = some (.slice (some ⟨g1, 0, none⟩) 1 d1)) (hg1 : W.cell? ⟨g1, 0, none⟩ = some (.int .u32 x)) (hv2 : W.cell? ⟨v2, 0, none⟩ = some (.slice (some ⟨g2, 0, none⟩) 1 d2)) (hg2 : W.cell? ⟨g2, 0, none⟩ = some (.int .u32 y))
    (a1 : m ≠ v1) (a2 : m ≠ g1) (a3 : m ≠ v2) (a4 : m ≠ g2) :
    Calls Tryz.prog 17 #[.pointer (some ⟨m, 0, none⟩), .slice (some ⟨v1, 0, none⟩) 1 c1, .slice (some ⟨v2, 0, none⟩) 1 c2] W fun e w' =>
      (∃ r rc s sc g c, e = .returned (.tuple #[.slice (some ⟨r, 0, none⟩) 1 rc, .int .i64 0]) ∧ W.heap.size ≤ r ∧ W.heap.size ≤ s ∧ w'.cell? ⟨r, 0, none⟩ = some (.slice (some ⟨s, 0, none⟩) 1 sc) ∧ w'.cell? ⟨s, 0, none⟩ = some (.int .u32 z) ∧ Tr w' m ql qc k gn gi gk kc g c (nx N) (nx n) z) ∧ But [m, k, gk] W w' := by
  have hf1 := fun w (hB : Below W.heap.size W w) => fits1 v1 c1 ql qc g1 d1 w (one_on h.one (hB.block ql (World.block_lt_of_cell? _ _ h.one.c0))) ((hB.cell (World.block_lt_of_cell? _ _ hv1)).trans hv1)
  have hf2 := fun w (hB : Below W.heap.size W w) => fits1 v2 c2 ql qc g2 d2 w (one_on h.one (hB.block ql (World.block_lt_of_cell? _ _ h.one.c0))) ((hB.cell (World.block_lt_of_cell? _ _ hv2)).trans hv2)
  have ht := fun w (hB : Below W.heap.size W w) => tick m N w N0 N1 (h.mac.on hB).c0 (h.mac.on hB).f0
  have m1 := h.mac.c1
  go_enter Tryz.func17, Tryz.ntmps17
  go_upto_region 5 with (first
    | (go_at_call 41; (with_reducible refine (hf1 _ (Below.refl _ _)).mono ?_); rintro e w1 ⟨rfl, hb1⟩; have m2 := (h.mac.on hb1).c1)
    | (go_at_call 41; (with_reducible refine (hf2 _ hb1).mono ?_); rintro e w2 ⟨rfl, hb2⟩; have hB2 : Below W.heap.size W w2 := Tab.then_ hb1 hb1.size hb2)
    | (go_at_call 42; (with_reducible refine (ht _ hB2).mono ?_); rintro e w3 ⟨rfl, rfl⟩))
  have H3 := (h.on hB2).tick (nx N)
  have hbw : But [m, k, gk] W (w2.setCell ⟨m, 0, none⟩ (.int .i64 (nx N))) := (⟨hB2.os, hB2.tape, hB2.output, hB2.size, fun j hj _ => hB2.block j hj⟩ : But [m, k, gk] W w2).set (by simp) _
  have y1 : (w2.setCell ⟨m, 0, none⟩ (.int .i64 (nx N))).cell? ⟨v1, 0, none⟩ = _ := (cell_far a1).trans ((hB2.cell (World.block_lt_of_cell? _ _ hv1)).trans hv1)
  have y2 : (w2.setCell ⟨m, 0, none⟩ (.int .i64 (nx N))).cell? ⟨g1, 0, none⟩ = _ := (cell_far a2).trans ((hB2.cell (World.block_lt_of_cell? _ _ hg1)).trans hg1)
  have y3 : (w2.setCell ⟨m, 0, none⟩ (.int .i64 (nx N))).cell? ⟨v2, 0, none⟩ = _ := (cell_far a3).trans ((hB2.cell (World.block_lt_of_cell? _ _ hv2)).trans hv2)
  have y4 : (w2.setCell ⟨m, 0, none⟩ (.int .i64 (nx N))).cell? ⟨g2, 0, none⟩ = _ := (cell_far a4).trans ((hB2.cell (World.block_lt_of_cell? _ _ hg2)).trans hg2)
  have s3 : W.heap.size ≤ (w2.setCell ⟨m, 0, none⟩ (.int .i64 (nx N))).heap.size := by simpa [World.setCell] using hB2.size
  generalize w2.setCell ⟨m, 0, none⟩ (.int .i64 (nx N)) = w3 at H3 hbw y1 y2 y3 y4 s3 ⊢
  clear hf1 hf2 ht m1 m2 hb1 hb2 hB2 hv1 hg1 hv2 hg2 a1 a2 a3 a4 h
  refine Rin.wp_region_to (l' := ops17) (by kernel_rfl) ?_
  refine regS (m := m) (k := k) (ql := ql) (qc := qc) (v1 := v1) (c1 := c1) (v2 := v2) (c2 := c2) (g1 := g1) (d1 := d1) (g2 := g2) (d2 := d2) (gk := gk) (kc := kc) (gn := gn) (gi := gi) (gm := gm) (cm := cm) (N := nx N) (n := n) (x := x) (y := y) (mm := mm) hcx hcy rfl rfl rfl rfl H3.mac H3.one y1 y2 y3 y4 n0 n1 H3.lea H3.ke H3.hn H3.hi H3.hm H3.e1 H3.e2 H3.e3 H3.e4 H3.e5 ?_
  intro a w hN hd ht hu hr h48 h49 hbt
  rw [hz] at hr
  obtain ⟨q, cap, g, c, h47, hq, hpl, ⟨hg, hg0, hke⟩, hlea⟩ := hr
  have zm : m < w3.heap.size := World.block_lt_of_cell? _ _ H3.mac.c0
  have zl : ql < w3.heap.size := World.block_lt_of_cell? _ _ H3.one.c0
  have zg : gk < w3.heap.size := World.block_lt_of_cell? _ _ H3.ke.c0
  have zk : k < w3.heap.size := World.block_lt_of_cell? _ _ H3.lea.c0
  have HW : Tr w m ql qc k gn gi gk kc g c (nx N) (nx n) z := by
    have nx2 : ∀ j : Nat, j ≠ k → j ≠ gk → j ∉ [k, gk] := fun j h1 h2 => by simp [h1, h2]
    exact ⟨⟨hbt.cell H3.mac.c0 (nx2 _ H3.d1 H3.d2), (World.frozen?_of_block (hbt.block m zm (nx2 _ H3.d1 H3.d2))).trans H3.mac.f0, hbt.cell H3.mac.c1 (nx2 _ H3.d1 H3.d2), hbt.cell H3.mac.c2 (nx2 _ H3.d1 H3.d2)⟩, one_on H3.one (hbt.block ql zl (nx2 _ H3.e6 H3.e7)), hlea, hke, hbt.cell H3.hn (nx2 _ H3.e3 H3.e8), hbt.cell H3.hi (nx2 _ H3.e4 H3.e1), hg0, H3.d1, H3.d2, H3.d3, H3.d4, H3.d5, by omega, H3.e1, H3.e2, H3.e3, H3.e4, by omega, H3.e6, H3.e7, H3.e8⟩
  have hbW : But [m, k, gk] W w := But.trans hbw (hbt.more (by simp))
  rw [Rin.act_list 81 a hN hd, show List.range 81 = [0, 1, 2, 3, 4, 5, 6, 7, 8, 9, 10, 11, 12, 13, 14, 15, 16, 17, 18, 19, 20, 21, 22, 23, 24, 25, 26, 27, 28, 29, 30, 31, 32, 33, 34, 35, 36, 37, 38, 39, 40, 41, 42, 43, 44, 45, 46, 47, 48, 49, 50, 51, 52, 53, 54, 55, 56, 57, 58, 59, 60, 61, 62, 63, 64, 65, 66, 67, 68, 69, 70, 71, 72, 73, 74, 75, 76, 77, 78, 79, 80] from rfl]
  simp only [List.map_cons, List.map_nil, ht 0 (by omega), ht 1 (by omega), ht 2 (by omega), ht 3 (by omega), ht 4 (by omega), ht 5 (by omega), ht 6 (by omega), ht 7 (by omega), ht 8 (by omega), ht 9 (by omega), ht 10 (by omega), ht 11 (by omega), ht 12 (by omega), ht 13 (by omega), ht 14 (by omega), ht 15 (by omega), ht 16 (by omega), ht 17 (by omega), ht 18 (by omega), ht 19 (by omega), ht 20 (by omega), ht 21 (by omega), ht 22 (by omega), ht 23 (by omega), ht 24 (by omega), ht 25 (by omega), ht 26 (by omega), ht 27 (by omega), ht 28 (by omega), ht 29 (by omega), ht 30 (by omega), ht 31 (by omega), ht 32 (by omega), ht 33 (by omega), ht 34 (by omega), h47, h48, h49, hu 50 (by omega), hu 51 (by omega), hu 52 (by omega), hu 53 (by omega), hu 54 (by omega), hu 55 (by omega), hu 56 (by omega), hu 57 (by omega), hu 58 (by omega), hu 59 (by omega), hu 60 (by omega), hu 61 (by omega), hu 62 (by omega), hu 63 (by omega), hu 64 (by omega), hu 65 (by omega), hu 66 (by omega), hu 67 (by omega), hu 68 (by omega), hu 69 (by omega), hu 70 (by omega), hu 71 (by omega), hu 72 (by omega), hu 73 (by omega), hu 74 (by omega), hu 75 (by omega), hu 76 (by omega), hu 77 (by omega), hu 78 (by omega), hu 79 (by omega), hu 80 (by omega)]
  generalize a.eval (.tmp 35) = u35
  generalize a.eval (.tmp 36) = u36
  generalize a.eval (.tmp 37) = u37
  generalize a.eval (.tmp 38) = u38
  generalize a.eval (.tmp 39) = u39
  generalize a.eval (.tmp 40) = u40
  generalize a.eval (.tmp 41) = u41
  generalize a.eval (.tmp 42) = u42
  generalize a.eval (.tmp 43) = u43
  generalize a.eval (.tmp 44) = u44
  generalize a.eval (.tmp 45) = u45
  generalize a.eval (.tmp 46) = u46
  simp only [Act.eval, Array.getD, List.size_toArray, List.length_cons, List.length_nil, Nat.reduceAdd, Nat.reduceLT, dite_true, List.getElem_toArray, List.getElem_cons_succ, List.getElem_cons_zero, Array.getInternal_eq_getElem]
  have HH : Hid _ := HW
  have HB : Hid _ := hbW
  have sW : W.heap.size ≤ w.heap.size := hbW.size
  obtain ⟨p0, p1, p2, p3, p4⟩ := hpl
  have x0 : q < w.heap.size := World.block_lt_of_cell? _ _ p0
  have x1 : g < w.heap.size := World.block_lt_of_cell? _ _ hg0
  clear ht hu hN hd h47 h48 h49 hbt hbw HW hbW H3 y1 y2 y3 y4 zm zl zg zk hke hlea
  go_wp2
  refine wp_loop_rounds 2 ?_
  rw [rounds_succ]
  go_wp2
  refine wp_loop_rounds 1 ?_
  rw [rounds_succ]
  go_upto_region 15 with fail
  generalize (Question.appendCap 1 0 81).cut (w.tape w.drawn (Question.appendCap 1 0 81)) = qe
  have o1 := Tab.new_at ((w.alloc (.cells #[.int .i64 0, .int .i64 0, .bool false, .slice (some ⟨g, 0, none⟩) 1 c, .slice none 0 0] 102)).alloc (.cells #[] 81)) (.cells (#[.int .u32 z] ++ Builtin.zeroCells #[.int .u32 0] (qe - 1)) 81) (n := w.heap.size + 1 + 1) (by simp)
  have hb4 := Tab.then_ (Tab.then_ (below_alloc w (.cells #[.int .i64 0, .int .i64 0, .bool false, .slice (some ⟨g, 0, none⟩) 1 c, .slice none 0 0] 102)) (by simp) (below_alloc _ (.cells #[] 81))) (by simp; omega) (below_alloc _ (.cells (#[.int .u32 z] ++ Builtin.zeroCells #[.int .u32 0] (qe - 1)) 81))
  have o2 := (cell_of_row _ _ 0 _ _ _ o1).trans ((Array.getElem?_append_left (show 0 < 1 by omega)).trans rfl)
  generalize (((w.alloc (.cells #[.int .i64 0, .int .i64 0, .bool false, .slice (some ⟨g, 0, none⟩) 1 c, .slice none 0 0] 102)).alloc (.cells #[] 81)).alloc (.cells (#[.int .u32 z] ++ Builtin.zeroCells #[.int .u32 0] (qe - 1)) 81)) = w4 at hb4 o2 ⊢
  clear o1 p0 p1 p2 p3 p4
  have hca := canon1 z hcz (w.heap.size + 1 + 1) qe w4.drew o2
  go_wp2_with (first
    | (go_at_call 45; (with_reducible refine hca.mono ?_); rintro e w5 ⟨⟨q1, p1, rfl, hq1, hc1⟩, hb5⟩)
    | (at_builtin; refine Mec.app_nil rfl (.tmp 74) (.tmp 77) 48 rfl 22 tS (.slice none 0 0) 1 24 Tryz.underlying48 (by kernel_rfl) (by kernel_rfl) (by kernel_rfl) (by kernel_rfl) rfl (by decide) (by rfl) w5.heap.size 1 1 _ (0, 0) (by rfl) (heap_alloc_new _ _) (by rfl) (by kernel_rfl) (by decide) (by unfold maxLen; omega) (by omega) ?_; intro r rc cur w6 hr h3 ht hcs hc hb6))
  have hB5 : Below w4.heap.size w4 w5 := ⟨hb5.os, hb5.tape, hb5.output, hb5.size, hb5.block⟩
  have hB : Below w.heap.size w w6 := Tab.then_ (Tab.then_ (Tab.then_ hb4 hb4.size hB5) (Nat.le_trans hb4.size hB5.size) (below_alloc _ _)) (by have := hb4.size; have := hB5.size; simp; omega) hb6
  have hrr := (cell_of_row _ _ 0 _ _ _ h3).trans (take_at (cs := #[.slice (some ⟨q1, 0, none⟩) 1 p1]) (n := 1) ht (by omega))
  have hss : w6.cell? ⟨q1, 0, none⟩ = some (.int .u32 z) := (hb6.cell (World.block_lt_of_cell? _ _ (((below_alloc _ _).cell (World.block_lt_of_cell? _ _ hc1)).trans hc1))).trans (((below_alloc _ _).cell (World.block_lt_of_cell? _ _ hc1)).trans hc1)
  have hr1 : W.heap.size ≤ r := by
    have := hb4.size
    have := hB5.size
    simp at hr
    omega
  have hq2 : W.heap.size ≤ q1 := by
    have := hb4.size
    have h2 : w4.heap.size ≤ q1 := hq1
    omega
  clear hb6 h3 ht hcs hc hr hb5 hB5 hq1 hc1 hca o2 hb4
  rw [rounds_succ]
  go_wp2
  go_ret2
  exact ⟨⟨r, rc, q1, p1, g, c, rfl, hr1, hq2, hrr, hss, HH.out.on hB⟩, HB.out.on hB⟩
end Go.Proofs.YtpgodgfkbkfpcaaGreat.Tim
