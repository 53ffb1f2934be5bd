/- What must come whatever the input is. No condition. -/
import Derived.Test.YtpgodgfkbkfpcaaGreatStk
set_option linter.unusedVariables false
set_option linter.unusedSimpArgs false
namespace Go.Proofs.YtpgodgfkbkfpcaaGreat.Tim
open Go.Shelf Go.RowKit Go.Proofs.YtpgodgfkbkfpcaaGreat.Trb Go.Proofs.YtpgodgfkbkfpcaaGreat.Bui Go.Proofs.YtpgodgfkbkfpcaaGreat.Fom
open Lathe (fadd fmul)
theorem z1 : ((fadd (1073741824 : Int).toNat (fmul 1056964608 (0 : Int).toNat) : Nat) : Int) = 1073741824 := by kernel_rfl
theorem z2 : ((fadd (1073741824 : Int).toNat (fmul 1056964608 (1073741824 : Int).toNat) : Nat) : Int) = 1077936128 := by kernel_rfl
theorem nx0 : nx 0 = 1 := by decide
theorem nx1 : nx 1 = 2 := by decide
set_option maxHeartbeats 2000000 in
set_option maxRecDepth 100000 in
theorem sure (W : World) : Calls Tryz.prog 11 #[] W fun e w' => e = .returned (.bool true) ∧ Below W.heap.size W w' := by
  have hNew := New_tr
  unfold Mea.tx at hNew
  go_enter Tryz.func11, Tryz.ntmps11
  go_upto_region 2 with (go_at_call 21; refine (hNew (W.heap.size + 1 + 1) 1 W.heap.size (W.heap.size + 1) _ ⟨by go_simp, by go_simp, by go_simp⟩ (by go_simp) (by go_simp)).mono ?_; rintro e w1 ⟨⟨m, k, ql, qc, B, gk, kc, gm, cm, rfl, m1, m2, m3, m4, m5, hM, hO, hF⟩, hb⟩)
  have s0 : (((W.alloc (.cells #[.int .u32 1056964608] 81)).alloc (.cells #[.int .i64 0] 3)).alloc (.cells #[.string ⟨#[119]⟩, .int .i64 1, .int .i64 1] 79)).heap.size = W.heap.size + 3 := by simp
  rw [s0] at m1 m2
  have hn := (hb.cell (p := ⟨W.heap.size, 0, none⟩) (by simp; omega)).trans (show _ = some (.int .u32 1056964608) by go_simp)
  have hi := (hb.cell (p := ⟨W.heap.size + 1, 0, none⟩) (by simp)).trans (show _ = some (.int .i64 0) by go_simp)
  have hB1 : Below W.heap.size W w1 := Tab.then_ (Tab.then_ (Tab.then_ (below_alloc _ _) (by simp) (below_alloc _ _)) (by simp; omega) (below_alloc _ _)) (by simp; omega) hb
  have HT : Tr w1 m ql qc k W.heap.size (W.heap.size + 1) gk kc gm cm 0 0 0 := by
    have f1 := hF.b1
    have f2 := hF.b2
    have f3 := hF.b3
    exact ⟨hM, hO, hF.lea, hF.ke, hn, hi, hF.m, by omega, by omega, m5, by omega, by omega, by omega, by omega, hF.e1, by omega, by omega, hF.e2, by omega, by omega, by omega⟩
  have y1 : m < w1.heap.size := World.block_lt_of_cell? _ _ HT.mac.c0
  have y2 : k < w1.heap.size := World.block_lt_of_cell? _ _ HT.lea.c0
  have y3 : gk < w1.heap.size := World.block_lt_of_cell? _ _ HT.ke.c0
  have hX : ∀ j, j ∈ [m, k, gk] → W.heap.size ≤ j := fun j hj => by
    have f1 := hF.b1
    have f2 := hF.b2
    simp only [List.mem_cons, List.not_mem_nil, or_false] at hj
    rcases hj with rfl | rfl | rfl <;> omega
  have hX2 : ∀ j : Nat, w1.heap.size ≤ j → j ∉ [m, k, gk] := fun j hj => by
    simp only [List.mem_cons, List.not_mem_nil, or_false]
    omega
  clear hNew hb s0 hM hO hF hn hi m1 m2 m3 m4 m5
  go_upto_region 5 with (first
    | (go_at_call 36; (with_reducible refine (one1 1073741824 _).mono ?_); rintro e w2 ⟨⟨v1, g1, rfl, b1, b2, b3, b4⟩, hb2⟩)
    | (go_at_call 36; (with_reducible refine (one1 1065353216 _).mono ?_); rintro e w3 ⟨⟨v2, g2, rfl, b5, b6, b7, b8⟩, hb3⟩)
    | (go_at_call 17; (with_reducible refine (Step_tr (x := 1073741824) (y := 1065353216) (mm := 0) Meb.canon_1073741824 Meb.canon_1065353216 1073741824 z1 Meb.canon_1073741824 m ql qc k _ _ gk kc gm cm 0 0 w3 ((HT.on hb2).on hb3) (by omega) (by omega) (by omega) (by omega) v1 1 g1 1 v2 1 g2 1 ((hb3.cell (World.block_lt_of_cell? _ _ b3)).trans b3) ((hb3.cell (World.block_lt_of_cell? _ _ b4)).trans b4) b7 b8 (by omega) (by omega) (by have := hb2.size; omega) (by have := hb2.size; omega)).mono ?_); rintro e w4 ⟨⟨r1, rc1, s1, sc1, g3, c3, rfl, i1, i2, i3, i4, HT2⟩, hbt⟩))
  rw [nx0] at HT2
  have B3 := Tab.then_ hb2 hb2.size hb3
  have B14 : But [m, k, gk] w1 w4 := But.trans ⟨B3.os, B3.tape, B3.output, B3.size, fun j hj _ => B3.block j hj⟩ hbt
  have s14 := B14.size
  have s13 := B3.size
  clear hb2 hb3 hbt b1 b2 b3 b4 b5 b6 b7 b8 HT B3
  go_upto_region 6 with (first
    | (go_at_call 36; (with_reducible refine (one1 1073741824 _).mono ?_); rintro e w5 ⟨⟨v3, g4, rfl, b1, b2, b3, b4⟩, hb5⟩)
    | (go_at_call 36; (with_reducible refine (one1 1065353216 _).mono ?_); rintro e w6 ⟨⟨v4, g5, rfl, b5, b6, b7, b8⟩, hb6⟩)
    | (go_at_call 17; (with_reducible refine (Step_tr (x := 1073741824) (y := 1065353216) (mm := 1073741824) Meb.canon_1073741824 Meb.canon_1065353216 1077936128 z2 Meb.canon_1077936128 m ql qc k _ _ gk kc g3 c3 1 1 w6 ((HT2.on hb5).on hb6) (by omega) (by omega) (by omega) (by omega) v3 1 g4 1 v4 1 g5 1 ((hb6.cell (World.block_lt_of_cell? _ _ b3)).trans b3) ((hb6.cell (World.block_lt_of_cell? _ _ b4)).trans b4) b7 b8 (by omega) (by omega) (by have := hb5.size; omega) (by have := hb5.size; omega)).mono ?_); rintro e w7 ⟨⟨r2, rc2, s2, sc2, g6, c6, rfl, i5, i6, i7, i8, HT3⟩, hbt2⟩))
  rw [nx1] at HT3
  have L5 := Tab.then_ hb5 hb5.size hb6
  have k1 := hbt2.cell ((L5.cell (World.block_lt_of_cell? _ _ i3)).trans i3) (hX2 r1 (by omega))
  have k2 := hbt2.cell ((L5.cell (World.block_lt_of_cell? _ _ i4)).trans i4) (hX2 s1 (by omega))
  have B17 : But [m, k, gk] w1 w7 := But.trans B14 (But.trans ⟨L5.os, L5.tape, L5.output, L5.size, fun j hj _ => L5.block j hj⟩ hbt2)
  have BW : Below W.heap.size W w7 := hB1.trans (B17.below hB1.size hX)
  have hsb := Step_bad m ql qc k 2 w7 HT3.mac
  clear hb5 hb6 hbt2 b1 b2 b3 b4 b5 b6 b7 b8 HT2 L5 B14 B17 i3 i4 hX hX2
  go_upto_region 7 with (go_at_call 17; (with_reducible refine hsb.mono ?_); rintro e w8 ⟨rfl, hw⟩; have hw := hw.symm; subst hw)
  clear hsb
  go_wp2_with (first
    | (go_at_call 36; (with_reducible refine (one1 1073741824 _).mono ?_); rintro e w9 ⟨⟨v5, g7, rfl, -, -, l1, l2⟩, hb9⟩)
    | (go_at_call 36; (with_reducible refine (one1 1077936128 _).mono ?_); rintro e w11 ⟨⟨v6, g8, rfl, -, -, l3, l4⟩, hb11⟩)
    | (go_at_call 19; (with_reducible refine (same1 1073741824 r1 rc1 s1 sc1 v5 1 g7 1 w9 ((hb9.cell (World.block_lt_of_cell? _ _ k1)).trans k1) ((hb9.cell (World.block_lt_of_cell? _ _ k2)).trans k2) l1 l2).mono ?_); rintro e w10 ⟨rfl, hb10⟩; have L10 := Tab.then_ hb9 hb9.size hb10)
    | (go_at_call 19; (with_reducible refine (same1 1077936128 r2 rc2 s2 sc2 v6 1 g8 1 w11 (((Tab.then_ L10 L10.size hb11).cell (World.block_lt_of_cell? _ _ i7)).trans i7) (((Tab.then_ L10 L10.size hb11).cell (World.block_lt_of_cell? _ _ i8)).trans i8) l3 l4).mono ?_); rintro e w12 ⟨rfl, hb12⟩; have L12 := Tab.then_ (Tab.then_ L10 L10.size hb11) (Tab.then_ L10 L10.size hb11).size hb12)
    | (go_at_call 20; (with_reducible refine (Count m k 2 _ w12 (HT3.on L12).mac).mono ?_); rintro e w13 ⟨rfl, hw⟩; have hw := hw.symm; subst hw))
  go_ret
  exact ⟨rfl, Tab.then_ BW BW.size L12⟩
end Go.Proofs.YtpgodgfkbkfpcaaGreat.Tim
