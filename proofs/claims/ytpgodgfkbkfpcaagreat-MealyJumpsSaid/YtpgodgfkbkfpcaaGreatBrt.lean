/- build at trace. No condition. -/
import Derived.Test.YtpgodgfkbkfpcaaGreatBrg
import Derived.Deep.CutBlock
import Derived.Deep.DeepCutAuto
set_option linter.unusedVariables false
set_option linter.unusedSimpArgs false
namespace Go.Proofs.YtpgodgfkbkfpcaaGreat.Tim
open Go.Shelf Go.RowKit Go.Proofs.YtpgodgfkbkfpcaaGreat.Trb Go.Proofs.YtpgodgfkbkfpcaaGreat.Bui Go.Proofs.YtpgodgfkbkfpcaaGreat.Fom
/-- A tracing leaf as build leaves it. -/
structure Fresh (B gn gi k : Nat) (gk kc gm cm : Nat) (w : World) : Prop where
  b1 : B ≤ k
  b2 : B ≤ gk
  b3 : B ≤ gm
  e1 : k ≠ gk
  e2 : gm ≠ k
  lea : Lea w k 0 7 (.slice (some ⟨gn, 0, none⟩) 1 1) (.slice (some ⟨gi, 0, none⟩) 1 1) (.slice (some ⟨gk, 0, none⟩) 1 kc)
  ke : Ke w gk gm cm
  m : w.cell? ⟨gm, 0, none⟩ = some (.int .u32 0)
theorem Fresh.on {B gn gi k gk kc gm cm : Nat} {w w' : World} (h : Fresh B gn gi k gk kc gm cm w) (hB : Below w.heap.size w w') : Fresh B gn gi k gk kc gm cm w' :=
  ⟨h.b1, h.b2, h.b3, h.e1, h.e2, h.lea.on hB, h.ke.on hB, (hB.cell (World.block_lt_of_cell? _ _ h.m)).trans h.m⟩
theorem lea_kept {w : World} {k : Nat} {n op : Int} {nums ints kept v : Value} (h : Lea w k n op nums ints kept) : Lea (w.setCell ⟨k, 10, none⟩ v) k n op nums ints v := by
  have c : ∀ j, j ≠ 10 → (w.setCell ⟨k, 10, none⟩ v).cell? ⟨k, j, none⟩ = w.cell? ⟨k, j, none⟩ := fun j hj => World.cell?_setCell_other _ _ _ _ (by simp [hj])
  exact ⟨(c 0 (by omega)).trans h.c0, (World.frozen?_setCell _ _ _ _).trans h.f0, (c 1 (by omega)).trans h.c1, (c 2 (by omega)).trans h.c2, (c 3 (by omega)).trans h.c3, (c 4 (by omega)).trans h.c4, (c 5 (by omega)).trans h.c5, (c 6 (by omega)).trans h.c6, (c 7 (by omega)).trans h.c7, (c 8 (by omega)).trans h.c8, (c 9 (by omega)).trans h.c9, World.cell?_setCell_same _ _ _ h.c10⟩
set_option maxHeartbeats 2000000 in
set_option maxRecDepth 100000 in
theorem build_tr (gl cl ga ca gn gi : Nat) (W : World) (h : Mec.One W gl) (ha : W.cell? ⟨ga, 0, none⟩ = some (.int .i64 0)) :
    Calls Tryz.prog 51 #[.slice (some ⟨gl, 0, none⟩) 1 cl, .slice (some ⟨ga, 0, none⟩) 1 ca, .bool false, Mea.tx 7 (.slice (some ⟨gn, 0, none⟩) 1 1) (.slice (some ⟨gi, 0, none⟩) 1 1)] W fun e w' =>
      (∃ k, e = .returned (.iface 165 (.pointer (some ⟨k, 0, none⟩))) ∧ ∃ gk kc gm cm, Fresh W.heap.size gn gi k gk kc gm cm w') ∧ Below W.heap.size W w' := by
  have hbl := fun w hB => blank_w gl cl ga ca w (show Mec.One w gl from ⟨(hB.cell (World.block_lt_of_cell? _ _ h.c0)).trans h.c0, (hB.cell (World.block_lt_of_cell? _ _ h.c1)).trans h.c1, (hB.cell (World.block_lt_of_cell? _ _ h.c2)).trans h.c2⟩) (((hB : Below W.heap.size W w).cell (World.block_lt_of_cell? _ _ ha)).trans ha)
  have hsz := size1
  have hfl := fill1
  clear h ha
  unfold pc at hsz
  unfold Mea.tx
  go_enter Tryz.func51, Tryz.ntmps51
  go_upto_block 0 with (go_at_call 80; refine (hbl _ (below_alloc _ _)).mono ?_; rintro e w1 ⟨⟨q, cap, g, c, rfl, hq, hpl, hg, hg0⟩, hb⟩; have v2 : w1.heap[W.heap.size]? = some (.cells #[.int .i64 7, .slice (some ⟨gn, 0, none⟩) 1 1, .slice (some ⟨gi, 0, none⟩) 1 1, .slice none 0 0, .int .i64 0, .slice none 0 0, .slice none 0 0, .slice none 0 0, .slice none 0 0] 30 (0, 0)) := heap_on (heap_alloc_new _ _) hb; obtain ⟨j0, j1, j2, j3, j4, j5, j6, j7, j8⟩ := nine v2)
  have x0 : W.heap.size < w1.heap.size := World.block_lt_of_cell? _ _ j0
  have hB1 : Below W.heap.size W w1 := Tab.then_ (below_alloc _ _) (by simp) hb
  obtain ⟨p0, p1, p2, p3, p4⟩ := hpl
  have x1 : q < w1.heap.size := World.block_lt_of_cell? _ _ p0
  have x2 : g < w1.heap.size := World.block_lt_of_cell? _ _ hg0
  have hq' : W.heap.size ≤ q := by simp at hq; omega
  have hg' : W.heap.size ≤ g := by simp at hg; omega
  clear hbl hb hq hg
  go_wp2
  refine wp_loop_rounds 2 ?_
  rw [rounds_succ]
  go_upto_region 44 with (first | (go_at_call 83; refine (hsz _ _ _).mono ?_; rintro e w2 ⟨rfl, hb2⟩) | (go_at_call 82; refine (hfl _).mono ?_; rintro e w3 ⟨⟨z, rfl, hz, hz0⟩, hb3⟩))
  have hB2 : Below W.heap.size W w2 := Tab.then_ (Tab.then_ (Tab.then_ hB1 (by omega) (below_alloc _ _)) (by simp; omega) (below_alloc _ _)) (by simp; omega) hb2
  have hB3 : Below W.heap.size W w3 := Tab.then_ hB2 hB2.size hb3
  have h19 : w3.heap[w1.heap.size + 1]? = some (.cells (pcs g c) 102 (0, 0)) := heap_on (heap_on (Tab.new_at _ _ (by simp)) hb2) hb3
  have h16 := heap_on (heap_on (heap_on (heap_alloc_new w1 (.cells #[.int .i64 0, .int .i64 7, .slice (some ⟨gn, 0, none⟩) 1 1, .slice (some ⟨gi, 0, none⟩) 1 1, .slice none 0 0, .int .i64 0, .slice none 0 0, .slice none 0 0, .slice none 0 0, .slice none 0 0, .slice none 0 0] 168)) (below_alloc _ (.cells #[.int .i64 0, .int .i64 0, .bool false, .slice (some ⟨g, 0, none⟩) 1 c, .slice none 0 0] 102))) hb2) hb3
  have v3 := heap_on (heap_on (heap_on (heap_on v2 (below_alloc _ (.cells #[.int .i64 0, .int .i64 7, .slice (some ⟨gn, 0, none⟩) 1 1, .slice (some ⟨gi, 0, none⟩) 1 1, .slice none 0 0, .int .i64 0, .slice none 0 0, .slice none 0 0, .slice none 0 0, .slice none 0 0, .slice none 0 0] 168))) (below_alloc _ (.cells #[.int .i64 0, .int .i64 0, .bool false, .slice (some ⟨g, 0, none⟩) 1 c, .slice none 0 0] 102))) hb2) hb3
  have g3 : w3.cell? ⟨g, 0, none⟩ = some (.int .u32 0) := (hb3.cell (World.block_lt_of_cell? _ _ ((hb2.cell (by simp; omega)).trans (show _ = some (.int .u32 0) by go_simp)))).trans ((hb2.cell (by simp; omega)).trans (by go_simp))
  have s1 : w1.heap.size ≤ w3.heap.size := by have h2 := hb2.size; have h3 := hb3.size; simp at h2; omega
  clear j0 j1 j2 j3 j4 j5 j6 j7 j8 p0 p1 p2 p3 p4 v2 hb2 hb3 hz0 hz hg0 hsz hfl hB1 hB2
  refine Rin.wp_region_to (l' := ops44) (by kernel_rfl) ?_
  refine reg44 (b19 := w1.heap.size + 1) (g := g) (c := c) (z := z) rfl rfl rfl h19 ?_
  intro a w p y hN hd ht h22 hp0 hp hBr
  have v4 := heap_on v3 hBr
  have h16b := heap_on h16 hBr
  have g4 := (hBr.cell (World.block_lt_of_cell? _ _ g3)).trans g3
  have hB4 := Tab.then_ hB3 hB3.size hBr
  have s2 : w1.heap.size ≤ w.heap.size := Nat.le_trans s1 hBr.size
  obtain ⟨i0, i1, i2, i3, i4, i5, i6, i7, i8⟩ := nine v4
  rw [Rin.act_list 230 a hN hd, show List.range 230 = [0, 1, 2, 3, 4, 5, 6, 7, 8, 9, 10, 11, 12, 13, 14, 15, 16, 17, 18, 19, 20, 21, 22, 23, 24, 25, 26, 27, 28, 29, 30, 31, 32, 33, 34, 35, 36, 37, 38, 39, 40, 41, 42, 43, 44, 45, 46, 47, 48, 49, 50, 51, 52, 53, 54, 55, 56, 57, 58, 59, 60, 61, 62, 63, 64, 65, 66, 67, 68, 69, 70, 71, 72, 73, 74, 75, 76, 77, 78, 79, 80, 81, 82, 83, 84, 85, 86, 87, 88, 89, 90, 91, 92, 93, 94, 95, 96, 97, 98, 99, 100, 101, 102, 103, 104, 105, 106, 107, 108, 109, 110, 111, 112, 113, 114, 115, 116, 117, 118, 119, 120, 121, 122, 123, 124, 125, 126, 127, 128, 129, 130, 131, 132, 133, 134, 135, 136, 137, 138, 139, 140, 141, 142, 143, 144, 145, 146, 147, 148, 149, 150, 151, 152, 153, 154, 155, 156, 157, 158, 159, 160, 161, 162, 163, 164, 165, 166, 167, 168, 169, 170, 171, 172, 173, 174, 175, 176, 177, 178, 179, 180, 181, 182, 183, 184, 185, 186, 187, 188, 189, 190, 191, 192, 193, 194, 195, 196, 197, 198, 199, 200, 201, 202, 203, 204, 205, 206, 207, 208, 209, 210, 211, 212, 213, 214, 215, 216, 217, 218, 219, 220, 221, 222, 223, 224, 225, 226, 227, 228, 229] from rfl]
  simp only [List.map_cons, List.map_nil, ht 0 (by omega) (by omega), ht 1 (by omega) (by omega), ht 2 (by omega) (by omega), ht 3 (by omega) (by omega), ht 4 (by omega) (by omega), ht 5 (by omega) (by omega), ht 6 (by omega) (by omega), ht 7 (by omega) (by omega), ht 8 (by omega) (by omega), ht 9 (by omega) (by omega), ht 10 (by omega) (by omega), ht 11 (by omega) (by omega), ht 12 (by omega) (by omega), ht 13 (by omega) (by omega), ht 14 (by omega) (by omega), ht 15 (by omega) (by omega), ht 16 (by omega) (by omega), ht 17 (by omega) (by omega), ht 18 (by omega) (by omega), ht 19 (by omega) (by omega), ht 20 (by omega) (by omega), ht 21 (by omega) (by omega), ht 23 (by omega) (by omega), ht 24 (by omega) (by omega), ht 25 (by omega) (by omega), ht 26 (by omega) (by omega), ht 27 (by omega) (by omega), ht 28 (by omega) (by omega), ht 29 (by omega) (by omega), ht 30 (by omega) (by omega), ht 31 (by omega) (by omega), ht 32 (by omega) (by omega), ht 33 (by omega) (by omega), ht 34 (by omega) (by omega), ht 35 (by omega) (by omega), ht 36 (by omega) (by omega), ht 37 (by omega) (by omega), ht 38 (by omega) (by omega), ht 39 (by omega) (by omega), ht 40 (by omega) (by omega), ht 41 (by omega) (by omega), ht 42 (by omega) (by omega), ht 43 (by omega) (by omega), ht 44 (by omega) (by omega), ht 45 (by omega) (by omega), ht 46 (by omega) (by omega), ht 47 (by omega) (by omega), ht 48 (by omega) (by omega), ht 49 (by omega) (by omega), ht 50 (by omega) (by omega), ht 51 (by omega) (by omega), ht 52 (by omega) (by omega), ht 53 (by omega) (by omega), ht 54 (by omega) (by omega), ht 55 (by omega) (by omega), ht 56 (by omega) (by omega), ht 57 (by omega) (by omega), ht 58 (by omega) (by omega), ht 59 (by omega) (by omega), ht 60 (by omega) (by omega), ht 61 (by omega) (by omega), ht 62 (by omega) (by omega), ht 63 (by omega) (by omega), ht 64 (by omega) (by omega), ht 65 (by omega) (by omega), ht 66 (by omega) (by omega), ht 67 (by omega) (by omega), ht 68 (by omega) (by omega), ht 69 (by omega) (by omega), ht 70 (by omega) (by omega), ht 71 (by omega) (by omega), ht 72 (by omega) (by omega), ht 73 (by omega) (by omega), ht 74 (by omega) (by omega), ht 75 (by omega) (by omega), ht 76 (by omega) (by omega), ht 77 (by omega) (by omega), ht 78 (by omega) (by omega), ht 79 (by omega) (by omega), ht 80 (by omega) (by omega), ht 81 (by omega) (by omega), ht 82 (by omega) (by omega), ht 83 (by omega) (by omega), ht 84 (by omega) (by omega), ht 85 (by omega) (by omega), ht 86 (by omega) (by omega), ht 87 (by omega) (by omega), ht 88 (by omega) (by omega), ht 89 (by omega) (by omega), ht 90 (by omega) (by omega), ht 91 (by omega) (by omega), ht 92 (by omega) (by omega), ht 93 (by omega) (by omega), ht 94 (by omega) (by omega), ht 95 (by omega) (by omega), ht 96 (by omega) (by omega), ht 97 (by omega) (by omega), ht 98 (by omega) (by omega), ht 99 (by omega) (by omega), ht 100 (by omega) (by omega), ht 101 (by omega) (by omega), ht 102 (by omega) (by omega), ht 103 (by omega) (by omega), ht 104 (by omega) (by omega), ht 105 (by omega) (by omega), ht 106 (by omega) (by omega), ht 107 (by omega) (by omega), ht 108 (by omega) (by omega), ht 109 (by omega) (by omega), ht 110 (by omega) (by omega), ht 111 (by omega) (by omega), ht 112 (by omega) (by omega), ht 113 (by omega) (by omega), ht 114 (by omega) (by omega), ht 115 (by omega) (by omega), ht 116 (by omega) (by omega), ht 117 (by omega) (by omega), ht 118 (by omega) (by omega), ht 119 (by omega) (by omega), ht 120 (by omega) (by omega), ht 121 (by omega) (by omega), ht 122 (by omega) (by omega), ht 123 (by omega) (by omega), ht 124 (by omega) (by omega), ht 125 (by omega) (by omega), ht 126 (by omega) (by omega), ht 127 (by omega) (by omega), ht 128 (by omega) (by omega), ht 129 (by omega) (by omega), ht 130 (by omega) (by omega), ht 131 (by omega) (by omega), ht 132 (by omega) (by omega), ht 133 (by omega) (by omega), ht 134 (by omega) (by omega), ht 135 (by omega) (by omega), ht 136 (by omega) (by omega), ht 137 (by omega) (by omega), ht 138 (by omega) (by omega), ht 139 (by omega) (by omega), ht 140 (by omega) (by omega), ht 141 (by omega) (by omega), ht 142 (by omega) (by omega), ht 143 (by omega) (by omega), ht 144 (by omega) (by omega), ht 145 (by omega) (by omega), ht 146 (by omega) (by omega), ht 147 (by omega) (by omega), ht 148 (by omega) (by omega), ht 149 (by omega) (by omega), ht 150 (by omega) (by omega), ht 151 (by omega) (by omega), ht 152 (by omega) (by omega), ht 153 (by omega) (by omega), ht 154 (by omega) (by omega), ht 155 (by omega) (by omega), ht 156 (by omega) (by omega), ht 157 (by omega) (by omega), ht 158 (by omega) (by omega), ht 159 (by omega) (by omega), ht 160 (by omega) (by omega), ht 161 (by omega) (by omega), ht 162 (by omega) (by omega), ht 163 (by omega) (by omega), ht 164 (by omega) (by omega), ht 165 (by omega) (by omega), ht 166 (by omega) (by omega), ht 167 (by omega) (by omega), ht 168 (by omega) (by omega), ht 169 (by omega) (by omega), ht 170 (by omega) (by omega), ht 171 (by omega) (by omega), ht 172 (by omega) (by omega), ht 173 (by omega) (by omega), ht 174 (by omega) (by omega), ht 175 (by omega) (by omega), ht 176 (by omega) (by omega), ht 177 (by omega) (by omega), ht 178 (by omega) (by omega), ht 179 (by omega) (by omega), ht 180 (by omega) (by omega), ht 181 (by omega) (by omega), ht 182 (by omega) (by omega), ht 183 (by omega) (by omega), ht 184 (by omega) (by omega), ht 185 (by omega) (by omega), ht 186 (by omega) (by omega), ht 187 (by omega) (by omega), ht 188 (by omega) (by omega), ht 189 (by omega) (by omega), ht 190 (by omega) (by omega), ht 191 (by omega) (by omega), ht 192 (by omega) (by omega), ht 193 (by omega) (by omega), ht 194 (by omega) (by omega), ht 195 (by omega) (by omega), ht 196 (by omega) (by omega), ht 197 (by omega) (by omega), ht 198 (by omega) (by omega), ht 199 (by omega) (by omega), ht 200 (by omega) (by omega), ht 201 (by omega) (by omega), ht 202 (by omega) (by omega), ht 203 (by omega) (by omega)]
  rw [h22]
  generalize a.eval (.tmp 204) = u204
  generalize a.eval (.tmp 205) = u205
  generalize a.eval (.tmp 206) = u206
  generalize a.eval (.tmp 207) = u207
  generalize a.eval (.tmp 208) = u208
  generalize a.eval (.tmp 209) = u209
  generalize a.eval (.tmp 210) = u210
  generalize a.eval (.tmp 211) = u211
  generalize a.eval (.tmp 212) = u212
  generalize a.eval (.tmp 213) = u213
  generalize a.eval (.tmp 214) = u214
  generalize a.eval (.tmp 215) = u215
  generalize a.eval (.tmp 216) = u216
  generalize a.eval (.tmp 217) = u217
  generalize a.eval (.tmp 218) = u218
  generalize a.eval (.tmp 219) = u219
  generalize a.eval (.tmp 220) = u220
  generalize a.eval (.tmp 221) = u221
  generalize a.eval (.tmp 222) = u222
  generalize a.eval (.tmp 223) = u223
  generalize a.eval (.tmp 224) = u224
  generalize a.eval (.tmp 225) = u225
  generalize a.eval (.tmp 226) = u226
  generalize a.eval (.tmp 227) = u227
  generalize a.eval (.tmp 228) = u228
  generalize a.eval (.tmp 229) = u229
  simp only [Act.eval, Array.getD, List.size_toArray, List.length_cons, List.length_nil, Nat.reduceAdd, Nat.reduceLT, dite_true, List.getElem_toArray, List.getElem_cons_succ, List.getElem_cons_zero, Array.getInternal_eq_getElem]
  clear ht hBr hB3 h19 h16 v3 g3 hN hd
  go_upto_region 47 with fail
  refine Rin.wp_region_to (l' := ops47) (by kernel_rfl) ?_
  refine reg47 (k := w1.heap.size) (p := p) (g := g) (c := c) (z := z) (q := y) rfl rfl rfl (lea_of h16b) (by simp [World.frozen?, h16b]) hp ?_
  intro a wf gk kc hN hd ht hgk hke hBr
  have h16c := heap_on h16b hBr
  have g5 := (hBr.cell (World.block_lt_of_cell? _ _ g4)).trans g4
  have hB5 := Tab.then_ hB4 hB4.size hBr
  have s3 : w1.heap.size < w.heap.size := (Array.getElem?_eq_some_iff.1 h16b).1
  rw [Rin.act_list 230 a hN hd, show List.range 230 = [0, 1, 2, 3, 4, 5, 6, 7, 8, 9, 10, 11, 12, 13, 14, 15, 16, 17, 18, 19, 20, 21, 22, 23, 24, 25, 26, 27, 28, 29, 30, 31, 32, 33, 34, 35, 36, 37, 38, 39, 40, 41, 42, 43, 44, 45, 46, 47, 48, 49, 50, 51, 52, 53, 54, 55, 56, 57, 58, 59, 60, 61, 62, 63, 64, 65, 66, 67, 68, 69, 70, 71, 72, 73, 74, 75, 76, 77, 78, 79, 80, 81, 82, 83, 84, 85, 86, 87, 88, 89, 90, 91, 92, 93, 94, 95, 96, 97, 98, 99, 100, 101, 102, 103, 104, 105, 106, 107, 108, 109, 110, 111, 112, 113, 114, 115, 116, 117, 118, 119, 120, 121, 122, 123, 124, 125, 126, 127, 128, 129, 130, 131, 132, 133, 134, 135, 136, 137, 138, 139, 140, 141, 142, 143, 144, 145, 146, 147, 148, 149, 150, 151, 152, 153, 154, 155, 156, 157, 158, 159, 160, 161, 162, 163, 164, 165, 166, 167, 168, 169, 170, 171, 172, 173, 174, 175, 176, 177, 178, 179, 180, 181, 182, 183, 184, 185, 186, 187, 188, 189, 190, 191, 192, 193, 194, 195, 196, 197, 198, 199, 200, 201, 202, 203, 204, 205, 206, 207, 208, 209, 210, 211, 212, 213, 214, 215, 216, 217, 218, 219, 220, 221, 222, 223, 224, 225, 226, 227, 228, 229] from rfl]
  simp only [List.map_cons, List.map_nil, ht 0 (by omega), ht 1 (by omega), ht 2 (by omega), ht 3 (by omega), ht 4 (by omega), ht 5 (by omega), ht 6 (by omega), ht 7 (by omega), ht 8 (by omega), ht 9 (by omega), ht 10 (by omega), ht 11 (by omega), ht 12 (by omega), ht 13 (by omega), ht 14 (by omega), ht 15 (by omega), ht 16 (by omega), ht 17 (by omega), ht 18 (by omega), ht 19 (by omega), ht 20 (by omega), ht 21 (by omega), ht 22 (by omega), ht 23 (by omega), ht 24 (by omega), ht 25 (by omega), ht 26 (by omega), ht 27 (by omega), ht 28 (by omega), ht 29 (by omega), ht 30 (by omega), ht 31 (by omega), ht 32 (by omega), ht 33 (by omega), ht 34 (by omega), ht 35 (by omega), ht 36 (by omega), ht 37 (by omega), ht 38 (by omega), ht 39 (by omega), ht 40 (by omega), ht 41 (by omega), ht 42 (by omega), ht 43 (by omega), ht 44 (by omega), ht 45 (by omega), ht 46 (by omega), ht 47 (by omega), ht 48 (by omega), ht 49 (by omega), ht 50 (by omega), ht 51 (by omega), ht 52 (by omega), ht 53 (by omega), ht 54 (by omega), ht 55 (by omega), ht 56 (by omega), ht 57 (by omega), ht 58 (by omega), ht 59 (by omega), ht 60 (by omega), ht 61 (by omega), ht 62 (by omega), ht 63 (by omega), ht 64 (by omega), ht 65 (by omega), ht 66 (by omega), ht 67 (by omega), ht 68 (by omega), ht 69 (by omega), ht 70 (by omega), ht 71 (by omega), ht 72 (by omega), ht 73 (by omega), ht 74 (by omega), ht 75 (by omega), ht 76 (by omega), ht 77 (by omega), ht 78 (by omega), ht 79 (by omega), ht 80 (by omega), ht 81 (by omega), ht 82 (by omega), ht 83 (by omega), ht 84 (by omega), ht 85 (by omega), ht 86 (by omega), ht 87 (by omega), ht 88 (by omega), ht 89 (by omega), ht 90 (by omega), ht 91 (by omega), ht 92 (by omega), ht 93 (by omega), ht 94 (by omega), ht 95 (by omega), ht 96 (by omega), ht 97 (by omega), ht 98 (by omega), ht 99 (by omega), ht 100 (by omega), ht 101 (by omega), ht 102 (by omega), ht 103 (by omega), ht 104 (by omega), ht 105 (by omega), ht 106 (by omega), ht 107 (by omega), ht 108 (by omega), ht 109 (by omega), ht 110 (by omega), ht 111 (by omega), ht 112 (by omega), ht 113 (by omega), ht 114 (by omega), ht 115 (by omega), ht 116 (by omega), ht 117 (by omega), ht 118 (by omega), ht 119 (by omega), ht 120 (by omega), ht 121 (by omega), ht 122 (by omega), ht 123 (by omega), ht 124 (by omega), ht 125 (by omega), ht 126 (by omega), ht 127 (by omega), ht 128 (by omega), ht 129 (by omega), ht 130 (by omega), ht 131 (by omega), ht 132 (by omega), ht 133 (by omega), ht 134 (by omega), ht 135 (by omega), ht 136 (by omega), ht 137 (by omega), ht 138 (by omega), ht 139 (by omega), ht 140 (by omega), ht 141 (by omega), ht 142 (by omega), ht 143 (by omega), ht 144 (by omega), ht 145 (by omega), ht 146 (by omega), ht 147 (by omega), ht 148 (by omega), ht 149 (by omega), ht 150 (by omega), ht 151 (by omega), ht 152 (by omega), ht 153 (by omega), ht 154 (by omega), ht 155 (by omega), ht 156 (by omega), ht 157 (by omega), ht 158 (by omega), ht 159 (by omega), ht 160 (by omega), ht 161 (by omega), ht 162 (by omega), ht 163 (by omega), ht 164 (by omega), ht 165 (by omega), ht 166 (by omega), ht 167 (by omega), ht 168 (by omega), ht 169 (by omega), ht 170 (by omega), ht 171 (by omega), ht 172 (by omega), ht 173 (by omega), ht 174 (by omega), ht 175 (by omega), ht 176 (by omega), ht 177 (by omega), ht 178 (by omega), ht 179 (by omega), ht 180 (by omega), ht 181 (by omega), ht 182 (by omega), ht 183 (by omega), ht 184 (by omega), ht 185 (by omega), ht 186 (by omega), ht 187 (by omega), ht 188 (by omega), ht 189 (by omega), ht 190 (by omega), ht 191 (by omega), ht 192 (by omega), ht 193 (by omega), ht 194 (by omega), ht 195 (by omega), ht 196 (by omega), ht 197 (by omega), ht 198 (by omega), ht 199 (by omega), ht 200 (by omega), ht 201 (by omega), ht 202 (by omega), ht 203 (by omega), ht 204 (by omega), ht 205 (by omega), ht 206 (by omega), ht 207 (by omega), ht 208 (by omega), ht 209 (by omega), ht 210 (by omega), ht 211 (by omega), ht 212 (by omega), ht 213 (by omega), ht 214 (by omega), ht 215 (by omega), ht 216 (by omega)]
  generalize a.eval (.tmp 217) = v217
  generalize a.eval (.tmp 218) = v218
  generalize a.eval (.tmp 219) = v219
  generalize a.eval (.tmp 220) = v220
  generalize a.eval (.tmp 221) = v221
  generalize a.eval (.tmp 222) = v222
  generalize a.eval (.tmp 223) = v223
  generalize a.eval (.tmp 224) = v224
  generalize a.eval (.tmp 225) = v225
  generalize a.eval (.tmp 226) = v226
  generalize a.eval (.tmp 227) = v227
  generalize a.eval (.tmp 228) = v228
  generalize a.eval (.tmp 229) = v229
  simp only [Act.eval, Array.getD, List.size_toArray, List.length_cons, List.length_nil, Nat.reduceAdd, Nat.reduceLT, dite_true, List.getElem_toArray, List.getElem_cons_succ, List.getElem_cons_zero, Array.getInternal_eq_getElem]
  clear ht hBr hB4 h16b v4 g4 hN hd i0 i1 i2 i3 i4 i5 i6 i7 i8
  go_wp2
  rw [rounds_succ]
  go_wp2
  go_ret
  refine ⟨⟨w1.heap.size, rfl, gk, kc, g, c, by omega, by omega, hg', by omega, by omega, lea_kept (lea_of h16c), hke.same (heap_far (by omega)), (cell_far (by omega)).trans g5⟩, Paz.bs hB5 (by omega)⟩
end Go.Proofs.YtpgodgfkbkfpcaaGreat.Tim
