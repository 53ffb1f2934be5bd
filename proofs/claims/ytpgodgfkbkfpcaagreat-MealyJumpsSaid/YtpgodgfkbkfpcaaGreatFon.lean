/- The form of trace. No condition. -/
import Derived.Test.YtpgodgfkbkfpcaaGreatFom
import Derived.Test.YtpgodgfkbkfpcaaGreatMeb
set_option linter.unusedVariables false
set_option linter.unusedSimpArgs false
namespace Go.Proofs.YtpgodgfkbkfpcaaGreat.Fom
open Go.Shelf Go.RowKit Go.Sort Go.Proofs.YtpgodgfkbkfpcaaGreat.Sra Go.Proofs.YtpgodgfkbkfpcaaGreat.Trb
def trRow (g : Nat) : Rw := ⟨⟨#[116, 114, 97, 99, 101]⟩, 7, some ⟨g, 0, none⟩, 2, 2, false, false⟩
theorem is_tr {r : Rw} {w : World} (h : key r = ((trRow 0).name, 7, false, false)) (hf : Fine r w) : ∃ g, r = trRow g ∧ w.heap[g]? = some (.cells (flatV trc) 244 (0, 0)) := by
  cases r with
  | mk nm op ap al ac dots star =>
    simp only [key, Prod.mk.injEq] at h
    obtain ⟨rfl, rfl, rfl, rfl⟩ := h
    obtain ⟨g, h1, h2, h3, h4⟩ := hf.2 rfl
    simp only at h1 h2 h3
    subst h1 h2 h3
    exact ⟨g, rfl, h4⟩
theorem Lies.drewN {w : World} {g : Nat} {r : Rw} (l : Lies w g r) (q : Nat) : Lies (w.drewN q) g r := ⟨l.c0, l.c1, l.c2, l.c3, l.c4, l.f0, l.f1, l.f2, l.f3, l.f4⟩
theorem But.drewN {X : List Nat} {w w' : World} (h : But X w w') (q : Nat) : But X w (w'.drewN q) := ⟨h.os, h.tape, h.output, h.size, h.block⟩
theorem twelve {w : World} {g : Nat} (h : w.heap[g]? = some (.cells (flatV trc) 244 (0, 0))) :
    w.cell? ⟨g, 0, none⟩ = some (.string ⟨#[100, 101, 99, 97, 121]⟩) ∧ w.cell? ⟨g, 1, none⟩ = some (.int .i64 0) ∧ w.cell? ⟨g, 2, none⟩ = some (.string ⟨#[]⟩) ∧ w.cell? ⟨g, 3, none⟩ = some (.func (.func 203) #[] #[]) ∧ w.cell? ⟨g, 4, none⟩ = some (.int .i64 0) ∧ w.cell? ⟨g, 5, none⟩ = some (.int .i64 0) ∧
    w.cell? ⟨g, 6, none⟩ = some (.string ⟨#[110, 101, 115, 116, 101, 114, 111, 118]⟩) ∧ w.cell? ⟨g, 7, none⟩ = some (.int .i64 2) ∧ w.cell? ⟨g, 8, none⟩ = some (.string ⟨#[102, 97, 108, 115, 101]⟩) ∧ w.cell? ⟨g, 9, none⟩ = some .nilFunc ∧ w.cell? ⟨g, 10, none⟩ = some (.int .i64 0) ∧ w.cell? ⟨g, 11, none⟩ = some (.int .i64 0) :=
  ⟨cell_of_row _ _ 0 _ _ _ h, cell_of_row _ _ 1 _ _ _ h, cell_of_row _ _ 2 _ _ _ h, cell_of_row _ _ 3 _ _ _ h, cell_of_row _ _ 4 _ _ _ h, cell_of_row _ _ 5 _ _ _ h, cell_of_row _ _ 6 _ _ _ h, cell_of_row _ _ 7 _ _ _ h, cell_of_row _ _ 8 _ _ _ h, cell_of_row _ _ 9 _ _ _ h, cell_of_row _ _ 10 _ _ _ h, cell_of_row _ _ 11 _ _ _ h⟩
set_option maxHeartbeats 1000000 in
set_option maxRecDepth 100000 in
theorem form_tr (lp ap : Option Addr) (ll lc al ac gn gi : Nat) (W : World) (hn : W.cell? ⟨gn, 0, none⟩ = some (.int .u32 1056964608)) (hi0 : W.cell? ⟨gi, 0, none⟩ = some (.int .i64 0)) : Calls Tryz.prog 132 #[view lp ll lc ap al ac, Mea.tx 7 (.slice (some ⟨gn, 0, none⟩) 1 1) (.slice (some ⟨gi, 0, none⟩) 1 1)] W fun e w' => (∃ gt, e = .returned (.tuple #[.agg (enc (trRow gt)).toArray, .bool true])) ∧ Below W.heap.size W w' := by
  unfold view Mea.tx
  go_enter Tryz.func132, Tryz.ntmps132
  go_wp2_with (go_at_call 176; refine (Trv.transforms _).mono ?_; rintro e w1 ⟨g, c, d, rfl, hg0, hH, hd, hp, hf, hB⟩)
  have hg1 : W.heap.size + 4 ≤ g := by simpa using hg0
  have hk : w1.heap[W.heap.size + 1]? = some (.cells #[.int .i64 7, .slice (some ⟨gn, 0, none⟩) 1 1, .slice (some ⟨gi, 0, none⟩) 1 1, .slice none 0 0, .int .i64 0, .slice none 0 0, .slice none 0 0, .slice none 0 0, .slice none 0 0] 30 (0, 0)) := (hB.block (W.heap.size + 1) (by simp)).trans (heap_on (heap_on (Tab.new_at _ _ (by simp)) (below_alloc _ _)) (below_alloc _ _))
  have hl0 : Lies w1 (W.heap.size + 3) zr := ⟨(hB.cell (p := ⟨W.heap.size + 3, 0, none⟩) (by simp)).trans (by go_simp; simp [zr]), (hB.cell (p := ⟨W.heap.size + 3, 1, none⟩) (by simp)).trans (by go_simp; simp [zr]), (hB.cell (p := ⟨W.heap.size + 3, 2, none⟩) (by simp)).trans (by go_simp; simp [zr]), (hB.cell (p := ⟨W.heap.size + 3, 3, none⟩) (by simp)).trans (by go_simp; simp [zr]), (hB.cell (p := ⟨W.heap.size + 3, 4, none⟩) (by simp)).trans (by go_simp; simp [zr]), (World.frozen?_of_block (hB.block (W.heap.size + 3) (by simp))).trans (by go_simp), (World.frozen?_of_block (hB.block (W.heap.size + 3) (by simp))).trans (by go_simp), (World.frozen?_of_block (hB.block (W.heap.size + 3) (by simp))).trans (by go_simp), (World.frozen?_of_block (hB.block (W.heap.size + 3) (by simp))).trans (by go_simp), (World.frozen?_of_block (hB.block (W.heap.size + 3) (by simp))).trans (by go_simp)⟩
  have hm0 : Lies w1 (W.heap.size + 2) zr := ⟨(hB.cell (p := ⟨W.heap.size + 2, 0, none⟩) (by simp)).trans (by go_simp; simp [zr]), (hB.cell (p := ⟨W.heap.size + 2, 1, none⟩) (by simp)).trans (by go_simp; simp [zr]), (hB.cell (p := ⟨W.heap.size + 2, 2, none⟩) (by simp)).trans (by go_simp; simp [zr]), (hB.cell (p := ⟨W.heap.size + 2, 3, none⟩) (by simp)).trans (by go_simp; simp [zr]), (hB.cell (p := ⟨W.heap.size + 2, 4, none⟩) (by simp)).trans (by go_simp; simp [zr]), (World.frozen?_of_block (hB.block (W.heap.size + 2) (by simp))).trans (by go_simp), (World.frozen?_of_block (hB.block (W.heap.size + 2) (by simp))).trans (by go_simp), (World.frozen?_of_block (hB.block (W.heap.size + 2) (by simp))).trans (by go_simp), (World.frozen?_of_block (hB.block (W.heap.size + 2) (by simp))).trans (by go_simp), (World.frozen?_of_block (hB.block (W.heap.size + 2) (by simp))).trans (by go_simp)⟩
  have h6 : w1.heap[W.heap.size + 3]? = some (.cells #[.string ⟨#[]⟩, .int .i64 0, .slice none 0 0, .bool false, .bool false] 207 (0, 0)) := (hB.block (W.heap.size + 3) (by simp)).trans (Tab.new_at _ _ (by simp))
  have hs1 : W.heap.size + 4 ≤ w1.heap.size := by have := hB.size; simpa using this
  have hBW : Below W.heap.size W w1 := Tab.then_ (((((Below.refl _ _).alloc (Nat.le_refl _) _).alloc (by simp) _).alloc (by simp; omega) _).alloc (by simp; omega) _) (by simp; omega) hB
  clear hB hg0
  go_loopw [23] (fun v wr => ∃ i : Nat, v = .int .i64 i ∧ i ≤ 42 ∧ But [W.heap.size + 3] w1 wr ∧ Lies wr (W.heap.size + 3) (pick 7 (d.toList.take i) zr)) (fun v _ => 43 - (intOf v).toNat)
  case atStart => exact ⟨0, rfl, by omega, But.refl _ _, hl0⟩
  case round =>
    obtain ⟨i, rfl, hi, hb, hl⟩ := hrel
    have ht := (hb.block (W.heap.size + 1) (by omega) (by simp)).trans hk
    obtain ⟨j0, j1, j2, j3, j4, j5, j6, j7, j8⟩ := nine ht
    by_cases ci : i < 42
    · have n0 := hb.cell (HoldsK.cell hH (i := i) (c := 0) (by omega) (by omega)).1 (by simp; omega)
      have n1 := hb.cell (HoldsK.cell hH (i := i) (c := 1) (by omega) (by omega)).1 (by simp; omega)
      have n2 := hb.cell (HoldsK.cell hH (i := i) (c := 2) (by omega) (by omega)).1 (by simp; omega)
      have n3 := hb.cell (HoldsK.cell hH (i := i) (c := 3) (by omega) (by omega)).1 (by simp; omega)
      have n4 := hb.cell (HoldsK.cell hH (i := i) (c := 4) (by omega) (by omega)).1 (by simp; omega)
      simp only [enc, List.getElem!_cons_zero, List.getElem!_cons_succ, Nat.zero_add, Nat.add_zero] at n0 n1 n2 n3 n4
      obtain ⟨l0, l1, l2, l3, l4, f0, f1, f2, f3, f4⟩ := hl
      have hpk := pick_take 7 d zr i (by omega)
      have x0 : W.heap.size + 1 < wr.heap.size := World.block_lt_of_cell? _ _ j0
      have x1 : W.heap.size + 3 < wr.heap.size := World.block_lt_of_cell? _ _ l0
      have HP : Hid _ := hpk
      clear hpk
      generalize d[i]! = x at n0 n1 n2 n3 n4 HP
      by_cases hop : x.op = 7
      · have hpt := Lies.put (w := wr) ⟨l0, l1, l2, l3, l4, f0, f1, f2, f3, f4⟩ x
        rw [hop] at hpt
        have HT : Hid _ := hpt
        clear hpt
        go_wp2
        go_roundw
        case rel => exact ⟨i + 1, by go_num, by omega, (((((hb.set (by simp) _).set (by simp) _).set (by simp) _).set (by simp) _).set (by simp) _).alloc _, by rw [HP.out, if_pos hop]; exact HT.out _⟩
        case measure => simp [intOf]; omega
      · go_wp2
        go_roundw
        case rel => exact ⟨i + 1, by go_num, by omega, hb.alloc _, by rw [HP.out, if_neg hop]; exact Lies.alloc ⟨l0, l1, l2, l3, l4, f0, f1, f2, f3, f4⟩ _⟩
        case measure => simp [intOf]; omega
    · obtain rfl : i = 42 := by omega
      obtain ⟨r, hr, hkey, he⟩ := pick_one (K := 7) (k := ((trRow 0).name, 7, false, false)) hp (by decide +kernel) zr
      obtain ⟨gt, rfl, hgt⟩ := is_tr hkey (hf r hr)
      rw [List.take_of_length_le (by simp [hd]), he] at hl
      have hne : gt ≠ W.heap.size + 3 := Trv.apart hgt h6 (by rw [Trv.trc_size]; decide)
      have hgt' := (hb.block gt (Array.getElem?_eq_some_iff.1 hgt).1 (by simp; exact hne)).trans hgt
      obtain ⟨z0, z1, z2, z3, z4, z5, y0, y1, y2, y3, y4, y5⟩ := twelve hgt'
      have hnn := hb.cell (hBW.cell (World.block_lt_of_cell? _ _ hn) |>.trans hn) (by have := World.block_lt_of_cell? _ _ hn; simp at this ⊢; omega)
      have hii := hb.cell (hBW.cell (World.block_lt_of_cell? _ _ hi0) |>.trans hi0) (by have := World.block_lt_of_cell? _ _ hi0; simp at this ⊢; omega)
      have hm := hm0.same (hb.block (W.heap.size + 2) (by omega) (by simp))
      have hln := hl
      have hmn := hm
      obtain ⟨l0, l1, l2, l3, l4, f0, f1, f2, f3, f4⟩ := hln
      obtain ⟨m0, m1, m2, m3, m4, g0, g1, g2, g3, g4⟩ := hmn
      simp only [trRow] at l0 l1 l2 l3 l4
      have x0 : W.heap.size + 1 < wr.heap.size := World.block_lt_of_cell? _ _ j0
      have x1 : W.heap.size + 3 < wr.heap.size := World.block_lt_of_cell? _ _ l0
      have x2 : W.heap.size + 2 < wr.heap.size := World.block_lt_of_cell? _ _ m0
      have xt : gt < wr.heap.size := World.block_lt_of_cell? _ _ z0
      have xn : gn < wr.heap.size := World.block_lt_of_cell? _ _ hnn
      have xi : gi < wr.heap.size := World.block_lt_of_cell? _ _ hii
      have xa0 : W.heap.size < wr.heap.size := by omega
      have xa1 : W.heap.size < wr.heap.size + 1 := by omega
      have xa2 : W.heap.size < wr.heap.size + 1 + 1 := by omega
      have xa3 : W.heap.size < wr.heap.size + 1 + 1 + 1 := by omega
      have ygt1 : gt < wr.heap.size + 1 := by omega
      have ygt2 : gt < wr.heap.size + 1 + 1 := by omega
      have ygt3 : gt < wr.heap.size + 1 + 1 + 1 := by omega
      have ygn1 : gn < wr.heap.size + 1 := by omega
      have ygn2 : gn < wr.heap.size + 1 + 1 := by omega
      have ygn3 : gn < wr.heap.size + 1 + 1 + 1 := by omega
      have ygi1 : gi < wr.heap.size + 1 := by omega
      have ygi2 : gi < wr.heap.size + 1 + 1 := by omega
      have ygi3 : gi < wr.heap.size + 1 + 1 + 1 := by omega
      clear hl0 hm0 hf hr hp hH hgt hgt' hk h6 ht hn hi0
      go_wp2
      refine wp_loop_rounds 3 ?_
      rw [rounds_succ]
      go_upto_region 15 with fail
      go_region_held3 (fun w' => w'.cell? ⟨W.heap.size + 1, 1, none⟩ = some (.slice (some ⟨gn, 0, none⟩) 1 1) ∧ w'.cell? ⟨gn, 0, none⟩ = some (.int .u32 1056964608) ∧ w'.cell? ⟨wr.heap.size, 3, none⟩ = some (.func (.func 203) #[] #[])) (go_keep)
        (first | (go_at_call 177; refine (Meb.finite_half _).mono ?_; rintro e w' ⟨rfl, rfl⟩) | (go_at_call 203; refine (Meb.to1_half _).mono ?_; rintro e w' ⟨rfl, rfl⟩))
      go_wp2
      rw [rounds_succ]
      go_wp2
      go_quiet (fail)
      go_wp2
      rw [rounds_succ]
      go_wp2
      refine wp_loop_rounds 1 ?_
      rw [rounds_succ]
      go_wp2
      (try simp only [Exit.inBlock, Exit.then])
      refine bodyPost_ret (results_row_tmp rfl _ _ (W.heap.size + 2) (trRow gt) rfl (Lies.put (w := World.drewN _ _) (Lies.drewN ((hm.alloc _).alloc _) _) (trRow gt) _)) rfl ?_
      refine ⟨⟨gt, rfl⟩, ?_⟩
      have hfin := fun (o1 o2 o3 : Obj) (q : Nat) (v0 v1 v2 v3 v4 : Value) => ((((((((((hb.more (Y := [W.heap.size + 3, W.heap.size + 2]) (by simp)).alloc o1).alloc o2).drewN q).set (p := ⟨W.heap.size + 2, 0, none⟩) (by simp) v0).set (p := ⟨W.heap.size + 2, 1, none⟩) (by simp) v1).set (p := ⟨W.heap.size + 2, 2, none⟩) (by simp) v2).set (p := ⟨W.heap.size + 2, 3, none⟩) (by simp) v3).set (p := ⟨W.heap.size + 2, 4, none⟩) (by simp) v4).alloc o3)
      exact hBW.trans ((hfin _ _ _ _ _ _ _ _ _).below (by omega) (by intro k hk; simp at hk; omega))
end Go.Proofs.YtpgodgfkbkfpcaaGreat.Fom
