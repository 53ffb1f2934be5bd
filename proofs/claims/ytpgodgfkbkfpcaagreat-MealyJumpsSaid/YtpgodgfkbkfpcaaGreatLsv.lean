/- A leaf's step at trace, one piece. No condition. -/
import Derived.Test.YtpgodgfkbkfpcaaGreatLss
import Derived.Deep.CutBlock
import Derived.Deep.DeepCutAuto
set_option linter.unusedVariables false
set_option linter.unusedSimpArgs false
namespace Go.Proofs.YtpgodgfkbkfpcaaGreat.Tim
open Go.Shelf Go.RowKit Go.Proofs.YtpgodgfkbkfpcaaGreat.Trb Go.Proofs.YtpgodgfkbkfpcaaGreat.Bui Go.Proofs.YtpgodgfkbkfpcaaGreat.Fom
open Lathe (fadd fmul)
set_option maxHeartbeats 1000000 in
set_option maxRecDepth 100000 in
theorem step_tr (k gk kc gn gi px pxc gx cx gm cm pp ppc gp cp : Nat) (n : Int) (x m : Int) (W : World) (h0 : 0 ≤ n) (h1 : n ≤ 2147483647) (hL : Lea W k n 7 (.slice (some ⟨gn, 0, none⟩) 1 1) (.slice (some ⟨gi, 0, none⟩) 1 1) (.slice (some ⟨gk, 0, none⟩) 1 kc)) (hk : Ke W gk gm cm)
    (hn : W.cell? ⟨gn, 0, none⟩ = some (.int .u32 1056964608)) (hi : W.cell? ⟨gi, 0, none⟩ = some (.int .i64 0)) (hpx : Pl W px gx cx) (hpp : Pl W pp gp cp) (hx : W.cell? ⟨gx, 0, none⟩ = some (.int .u32 x)) (hm : W.cell? ⟨gm, 0, none⟩ = some (.int .u32 m))
    (e1 : gi ≠ gk) (e2 : k ≠ gk) (e3 : px ≠ gk) (e4 : pp ≠ gk) (e5 : gn ≠ k) (e6 : gi ≠ k) (e7 : px ≠ k) (e8 : pp ≠ k) (e9 : gx ≠ k) (e10 : gm ≠ k) :
    Calls Tryz.prog 315 #[.pointer (some ⟨k, 0, none⟩), .slice (some ⟨px, 0, none⟩) 1 pxc, .slice (some ⟨pp, 0, none⟩) 1 ppc] W fun e w' =>
      (∃ q cap g c, e = .returned (.slice (some ⟨q, 0, none⟩) 1 cap) ∧ W.heap.size ≤ q ∧ Pl w' q g c ∧ Phi W.heap.size gk (fadd x.toNat (fmul 1056964608 m.toNat) : Nat) g c w') ∧ Lea w' k (nx n) 7 (.slice (some ⟨gn, 0, none⟩) 1 1) (.slice (some ⟨gi, 0, none⟩) 1 1) (.slice (some ⟨gk, 0, none⟩) 1 kc) ∧ But [k, gk] W w' := by
  have ht := tick k n W h0 h1 hL.c0 hL.f0
  have hL1 := hL.jump (nx n)
  have hk1 := hk.same (Below.heap_setCell W ⟨k, 0, none⟩ (.int .i64 (nx n)) gk (Ne.symm e2))
  have hpx1 := hpx.same (Below.heap_setCell W ⟨k, 0, none⟩ (.int .i64 (nx n)) px e7)
  have hpp1 := hpp.same (Below.heap_setCell W ⟨k, 0, none⟩ (.int .i64 (nx n)) pp e8)
  have hn1 : (W.setCell ⟨k, 0, none⟩ (.int .i64 (nx n))).cell? ⟨gn, 0, none⟩ = _ := (cell_far (Ne.symm e5)).trans hn
  have hi1 : (W.setCell ⟨k, 0, none⟩ (.int .i64 (nx n))).cell? ⟨gi, 0, none⟩ = _ := (cell_far (Ne.symm e6)).trans hi
  have hx1 : (W.setCell ⟨k, 0, none⟩ (.int .i64 (nx n))).cell? ⟨gx, 0, none⟩ = _ := (cell_far (Ne.symm e9)).trans hx
  have hm1 : (W.setCell ⟨k, 0, none⟩ (.int .i64 (nx n))).cell? ⟨gm, 0, none⟩ = _ := (cell_far (Ne.symm e10)).trans hm
  have hW : (W.setCell ⟨k, 0, none⟩ (.int .i64 (nx n))).heap.size = W.heap.size := by simp [World.setCell]
  have hBt : But [k, gk] W (W.setCell ⟨k, 0, none⟩ (.int .i64 (nx n))) := (But.refl _ _).set (by simp) _
  have l1 := hL.c1
  generalize W.setCell ⟨k, 0, none⟩ (.int .i64 (nx n)) = W1 at ht hL1 hk1 hpx1 hpp1 hn1 hi1 hx1 hm1 hW hBt
  have HW : Hid _ := hW
  have b1 := hL1.c1
  have b10 := hL1.c10
  obtain ⟨y0, y1, y2, y3, y4⟩ := id hpx1
  have HL1 : Hid _ := hL1
  have HK1 : Hid _ := hk1
  have HX1 : Hid _ := hpx1
  have HP1 : Hid _ := hpp1
  have HB : Hid _ := hBt
  clear hW hL hn hi hx hm hpx hpp e5 e6 e7 e8 e9 e10 hk hL1 hk1 hpx1 hpp1 hBt
  have zx : px < W1.heap.size := World.block_lt_of_cell? _ _ y0
  have zk : k < W1.heap.size := World.block_lt_of_cell? _ _ b1
  have zg : gk < W1.heap.size := World.block_lt_of_cell? _ _ HK1.out.c0
  go_enter Tryz.func315, Tryz.ntmps315
  go_wp2_with (go_at_call 42; refine ht.mono ?_; rintro e w1 ⟨rfl, rfl⟩)
  refine wp_loop_rounds 2 ?_
  rw [rounds_succ]
  go_upto_region 12 with fail
  have hb := below_alloc w1 (.cells #[.int .i64 0, .int .i64 0, .bool false, .slice (some ⟨gx, 0, none⟩) 1 cx, .slice none 0 0] 102)
  have hnew := five (heap_alloc_new w1 (.cells #[.int .i64 0, .int .i64 0, .bool false, .slice (some ⟨gx, 0, none⟩) 1 cx, .slice none 0 0] 102))
  refine Rin.wp_region_to (l' := ops315) (by kernel_rfl) ?_
  refine reg12 (k := k) (gk := gk) (kc := kc) (gn := gn) (gi := gi) (b11 := w1.heap.size) (gx := gx) (cx := cx) (pp := pp) (ppc := ppc) (gp := gp) (cp := cp) (gm := gm) (cm := cm) (n := nx n) (x := x) (m := m) rfl rfl rfl rfl rfl rfl (HL1.out.on hb) (HK1.out.on hb) ⟨hnew.1.1, hnew.1.2.1, hnew.1.2.2.1, hnew.1.2.2.2.1, hnew.1.2.2.2.2⟩ (HP1.out.on hb)
    ((hb.cell (World.block_lt_of_cell? _ _ hn1)).trans hn1) ((hb.cell (World.block_lt_of_cell? _ _ hi1)).trans hi1) ((hb.cell (World.block_lt_of_cell? _ _ hx1)).trans hx1) ((hb.cell (World.block_lt_of_cell? _ _ hm1)).trans hm1) e1 e2 (by omega) e4 ?_
  intro a w q cap g c hN hd ht hq hpl hphi hbut
  have hLw : Lea w k (nx n) 7 (.slice (some ⟨gn, 0, none⟩) 1 1) (.slice (some ⟨gi, 0, none⟩) 1 1) (.slice (some ⟨gk, 0, none⟩) 1 kc) := (HL1.out.on hb).same (hbut.block k (by simp; omega) (by simpa using e2))
  have hBW : But [k, gk] W w := But.trans HB.out (But.trans ⟨hb.os, hb.tape, hb.output, hb.size, fun j hj _ => hb.block j hj⟩ (hbut.more (by simp)))
  have hz := HW.out
  rw [Rin.act_list 127 a hN hd, show List.range 127 = [0, 1, 2, 3, 4, 5, 6, 7, 8, 9, 10, 11, 12, 13, 14, 15, 16, 17, 18, 19, 20, 21, 22, 23, 24, 25, 26, 27, 28, 29, 30, 31, 32, 33, 34, 35, 36, 37, 38, 39, 40, 41, 42, 43, 44, 45, 46, 47, 48, 49, 50, 51, 52, 53, 54, 55, 56, 57, 58, 59, 60, 61, 62, 63, 64, 65, 66, 67, 68, 69, 70, 71, 72, 73, 74, 75, 76, 77, 78, 79, 80, 81, 82, 83, 84, 85, 86, 87, 88, 89, 90, 91, 92, 93, 94, 95, 96, 97, 98, 99, 100, 101, 102, 103, 104, 105, 106, 107, 108, 109, 110, 111, 112, 113, 114, 115, 116, 117, 118, 119, 120, 121, 122, 123, 124, 125, 126] from rfl]
  simp only [List.map_cons, List.map_nil, ht 0 (by omega) (by omega), ht 1 (by omega) (by omega), ht 2 (by omega) (by omega), ht 3 (by omega) (by omega), ht 4 (by omega) (by omega), ht 5 (by omega) (by omega), ht 6 (by omega) (by omega), ht 7 (by omega) (by omega), ht 8 (by omega) (by omega), ht 10 (by omega) (by omega), ht 11 (by omega) (by omega), ht 12 (by omega) (by omega), ht 13 (by omega) (by omega), ht 14 (by omega) (by omega), ht 15 (by omega) (by omega), ht 16 (by omega) (by omega), ht 17 (by omega) (by omega), ht 18 (by omega) (by omega), ht 19 (by omega) (by omega), ht 20 (by omega) (by omega), ht 21 (by omega) (by omega), ht 22 (by omega) (by omega), ht 23 (by omega) (by omega), ht 24 (by omega) (by omega), ht 25 (by omega) (by omega), ht 26 (by omega) (by omega), ht 27 (by omega) (by omega), ht 28 (by omega) (by omega), ht 29 (by omega) (by omega), ht 30 (by omega) (by omega), ht 31 (by omega) (by omega), ht 32 (by omega) (by omega), ht 33 (by omega) (by omega), ht 34 (by omega) (by omega), ht 35 (by omega) (by omega), ht 36 (by omega) (by omega), ht 37 (by omega) (by omega), ht 38 (by omega) (by omega), ht 39 (by omega) (by omega), ht 40 (by omega) (by omega), ht 41 (by omega) (by omega), ht 42 (by omega) (by omega), ht 43 (by omega) (by omega), ht 44 (by omega) (by omega), ht 45 (by omega) (by omega), ht 46 (by omega) (by omega), ht 47 (by omega) (by omega), ht 48 (by omega) (by omega), ht 49 (by omega) (by omega), ht 50 (by omega) (by omega), ht 51 (by omega) (by omega), ht 52 (by omega) (by omega), ht 53 (by omega) (by omega), ht 54 (by omega) (by omega), ht 55 (by omega) (by omega), ht 56 (by omega) (by omega), ht 57 (by omega) (by omega), ht 58 (by omega) (by omega), ht 59 (by omega) (by omega), ht 60 (by omega) (by omega)]
  generalize a.eval (.tmp 61) = u61
  generalize a.eval (.tmp 62) = u62
  generalize a.eval (.tmp 63) = u63
  generalize a.eval (.tmp 64) = u64
  generalize a.eval (.tmp 65) = u65
  generalize a.eval (.tmp 66) = u66
  generalize a.eval (.tmp 67) = u67
  generalize a.eval (.tmp 68) = u68
  generalize a.eval (.tmp 69) = u69
  generalize a.eval (.tmp 70) = u70
  generalize a.eval (.tmp 71) = u71
  generalize a.eval (.tmp 72) = u72
  generalize a.eval (.tmp 73) = u73
  generalize a.eval (.tmp 74) = u74
  generalize a.eval (.tmp 75) = u75
  generalize a.eval (.tmp 76) = u76
  generalize a.eval (.tmp 77) = u77
  generalize a.eval (.tmp 78) = u78
  generalize a.eval (.tmp 79) = u79
  generalize a.eval (.tmp 80) = u80
  generalize a.eval (.tmp 81) = u81
  generalize a.eval (.tmp 82) = u82
  generalize a.eval (.tmp 83) = u83
  generalize a.eval (.tmp 84) = u84
  generalize a.eval (.tmp 85) = u85
  generalize a.eval (.tmp 86) = u86
  generalize a.eval (.tmp 87) = u87
  generalize a.eval (.tmp 88) = u88
  generalize a.eval (.tmp 89) = u89
  generalize a.eval (.tmp 90) = u90
  generalize a.eval (.tmp 91) = u91
  generalize a.eval (.tmp 92) = u92
  generalize a.eval (.tmp 93) = u93
  generalize a.eval (.tmp 94) = u94
  generalize a.eval (.tmp 95) = u95
  generalize a.eval (.tmp 96) = u96
  generalize a.eval (.tmp 97) = u97
  generalize a.eval (.tmp 98) = u98
  generalize a.eval (.tmp 99) = u99
  generalize a.eval (.tmp 100) = u100
  generalize a.eval (.tmp 101) = u101
  generalize a.eval (.tmp 102) = u102
  generalize a.eval (.tmp 103) = u103
  generalize a.eval (.tmp 104) = u104
  generalize a.eval (.tmp 105) = u105
  generalize a.eval (.tmp 106) = u106
  generalize a.eval (.tmp 107) = u107
  generalize a.eval (.tmp 108) = u108
  generalize a.eval (.tmp 109) = u109
  generalize a.eval (.tmp 110) = u110
  generalize a.eval (.tmp 111) = u111
  generalize a.eval (.tmp 112) = u112
  generalize a.eval (.tmp 113) = u113
  generalize a.eval (.tmp 114) = u114
  generalize a.eval (.tmp 115) = u115
  generalize a.eval (.tmp 116) = u116
  generalize a.eval (.tmp 117) = u117
  generalize a.eval (.tmp 118) = u118
  generalize a.eval (.tmp 119) = u119
  generalize a.eval (.tmp 120) = u120
  generalize a.eval (.tmp 121) = u121
  generalize a.eval (.tmp 122) = u122
  generalize a.eval (.tmp 123) = u123
  generalize a.eval (.tmp 124) = u124
  generalize a.eval (.tmp 125) = u125
  generalize a.eval (.tmp 126) = u126
  generalize a.eval (.tmp 9) = u9
  simp only [Act.eval, Array.getD, List.size_toArray, List.length_cons, List.length_nil, Nat.reduceAdd, Nat.reduceLT, dite_true, List.getElem_toArray, List.getElem_cons_succ, List.getElem_cons_zero, Array.getInternal_eq_getElem]
  clear HL1 HK1 HX1 HP1 HB b1 b10 y0 y1 y2 y3 y4 hn1 hi1 hx1 hm1 ht hnew
  go_wp2
  rw [rounds_succ]
  go_wp2
  go_ret
  refine ⟨⟨q, cap, g, c, rfl, ?_, hpl, ?_, hphi.2.1, hphi.2.2⟩, hLw, hBW⟩
  · have := hb.size; omega
  · have := hb.size; have := hphi.1; omega
end Go.Proofs.YtpgodgfkbkfpcaaGreat.Tim
