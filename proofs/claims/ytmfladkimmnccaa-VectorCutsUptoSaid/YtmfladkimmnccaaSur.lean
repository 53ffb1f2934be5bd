/- What Apply answers at the statements' own two calls. No condition. -/
import Derived.Test.YtmfladkimmnccaaWal
import Derived.Test.YtmfladkimmnccaaFlo
import Derived.Test.YtmfladkimmnccaaFpc
import Derived.LoopTactic
import Derived.LoopN
set_option linter.unusedVariables false
set_option linter.unusedSimpArgs false
namespace Go.Proofs.Ytmfladkimmnccaa.Sur
open Go.RowKit Lathe Go.Proofs.YtmfladkimmnccaaW.PrintWords Go.Proofs.YtmfladkimmnccaaW.PrintMore Go.Proofs.Ytmfladkimmnccaa.Flo

theorem kernel_none (w : World) : Calls Try.prog 66 #[.int .i64 19] w fun e w' => e = .returned (.tuple #[.int .i64 0, .nilFunc]) ∧ w = w' := by
  go_enter Try.func66, Try.ntmps66
  go_wp2
  exact bodyPost_ret (v := .tuple #[.int .i64 0, .nilFunc]) (by simp [results, Try.results66, go_sem]) rfl ⟨rfl, rfl⟩
theorem info_u32 : (Try.prog.info? 52).map (fun i => (i.zero, i.size, i.bytes)) = some (some (.int .u32 0), 1, 4) := by kernel_rfl
theorem hmf : ∀ (fn : Fn) (first cap : Array Value) (w : World), (Instr.makeFunc fn first cap).run Try.prog w = .ok (.func fn first cap) w := fun _ _ _ _ => rfl
abbrev plus : Value := .func (.func 70) #[] #[]
abbrev made (g : Nat) : Value := .func (.func 100) #[] #[.pointer (some ⟨g, 0, none⟩)]
theorem kernel2 (w : World) : Calls Try.prog 99 #[plus] w fun e w' => e = .returned (made w.heap.size) ∧ w.alloc (.cells #[plus] 95) = w' := by
  have hmf := hmf
  go_enter Try.func99, Try.ntmps99
  go_wp2
  go_ret
  exact ⟨rfl, rfl⟩
theorem kernel_add (w : World) : Calls Try.prog 66 #[.int .i64 4] w fun e w' => e = .returned (.tuple #[.int .i64 2, made w.heap.size]) ∧ w.alloc (.cells #[plus] 95) = w' := by
  have hmf := hmf
  go_enter Try.func66, Try.ntmps66
  go_wp2_with (go_at_call 99; refine (kernel2 _).mono ?_; rintro e w' ⟨rfl, rfl⟩)
  exact bodyPost_ret (v := .tuple #[.int .i64 2, made w.heap.size]) (by simp [results, Try.results66, go_sem]) rfl ⟨rfl, rfl⟩
theorem closure_add (s : Int) (g : Nat) (x y z : Int) (w : World) (hs : ((fadd x.toNat y.toNat : Nat) : Int) = s) (hgn : g < w.heap.size) (hg : w.cell? ⟨g, 0, none⟩ = some plus) : Calls Try.prog 100 #[.agg #[.int .u32 x, .int .u32 y, .int .u32 z], .pointer (some ⟨g, 0, none⟩)] w fun e w' => e = .returned (.int .u32 s) ∧ ∃ n, (w.alloc (.cells #[.int .u32 x, .int .u32 y, .int .u32 z] 90)).drewN n = w' := by
  subst hs
  go_enter Try.func100, Try.ntmps100
  go_wp2_with (go_at_call 70; refine (Add x y _).mono ?_; rintro e w' ⟨rfl, ⟨⟨nq, rfl⟩⟩⟩)
  go_ret
  exact ⟨rfl, _, rfl⟩
theorem kernel_add' (w : World) : Calls Try.prog 66 #[.int .i64 4] w fun e w' => ∃ g, e = .returned (.tuple #[.int .i64 2, made g]) ∧ w'.cell? ⟨g, 0, none⟩ = some plus ∧ Below w.heap.size w w' :=
  (kernel_add w).mono fun e w' ⟨h1, h2⟩ => ⟨w.heap.size, h1, by subst h2; simp [World.cell?_alloc_at], by subst h2; exact below_alloc (Below.refl _ _) _⟩
theorem Apply_none (A1 : Option Addr) (c1 : Nat) (l1 : List (List Int)) (w : World) : Calls Try.prog 24 #[.int .i64 19, .slice A1 l1.length c1] w fun e w' => ∃ v0_ : Value, e = .returned (.tuple #[v0_, .int .i64 1]) ∧ Kd.R (Kd.int .u32) 52 w' w.heap.size (fun _ => True) v0_ [] ∧ Below w.heap.size w w' := by
  go_enter Try.func24, Try.ntmps24
  go_wp2_with (go_at_call 66; refine (kernel_none _).mono ?_; rintro e w' ⟨rfl, rfl⟩)
  exact bodyPost_ret (v := .tuple #[.slice none 0 0, .int .i64 1]) (by simp [results, Try.results24, go_sem]) rfl ⟨_, rfl, Kd.R_nil _ _ _ _ _, Below.refl _ _⟩
def rows (xs : List (List Int)) (i : Int) : List Int := xs.getD i.toNat ([] : List Int)
theorem at_rows {w : World} {A : Option Addr} {n : Nat} {xs : List (List Int)} (h : Kd.C (Kd.slice 52 (Kd.int .u32)) w A n xs) (i : Int) (h0 : 0 ≤ i) (h1 : i < n) : ∃ ad A0 c0, A = some ad ∧ w.cell? (ad.add i.toNat) = some (.slice A0 (rows xs i).length c0) ∧ (rows xs i).length ≤ c0 ∧ (Kd.int .u32).C w A0 (rows xs i).length (rows xs i) := by
  obtain ⟨ad, c, e, _, hK, hc0⟩ := Kd.C_get h ([] : List Int) i h0 h1
  have hc : ∀ j u, c[j]? = some u → w.cell? (ad.add (i.toNat * 1 + j)) = some u := hc0
  obtain ⟨A0, c0, rfl, l0, g0⟩ := hK
  exact ⟨ad, A0, c0, e, by have hq := hc 0 _ rfl; rwa [Nat.mul_one, Nat.add_zero] at hq, l0, g0⟩
/-- What the two lists' memory says. -/
structure Fs (W : World) (ad b0 b1 : Addr) (d0 d1 g : Nat) : Prop where
  x0 : W.cell? ad = some (.slice (some b0) 2 d0)
  x1 : W.cell? ⟨ad.block, ad.off + 1, none⟩ = some (.slice (some b1) 1 d1)
  y0 : W.cell? b0 = some (.int .u32 1065353216)
  y1 : W.cell? ⟨b0.block, b0.off + 1, none⟩ = some (.int .u32 1073741824)
  z0 : W.cell? b1 = some (.int .u32 1065353216)
  g0 : W.cell? ⟨g, 0, none⟩ = some plus
theorem Fs.below {W W' : World} {ad b0 b1 : Addr} {d0 d1 g : Nat} (h : Fs W ad b0 b1 d0 d1 g) (hb : Below W.heap.size W W') : Fs W' ad b0 b1 d0 d1 g := by
  have move {p : Addr} {v : Value} (h : W.cell? p = some v) : W'.cell? p = some v := (hb.cell (World.block_lt_of_cell? W _ h)).trans h
  exact ⟨move h.x0, move h.x1, move h.y0, move h.y1, move h.z0, move h.g0⟩
set_option maxHeartbeats 8000000 in
set_option maxRecDepth 100000 in
theorem Apply_add (A1 : Option Addr) (c1 : Nat) (w : World) (hr1 : Kd.C (Kd.slice 52 (Kd.int .u32)) w A1 2 [[1065353216, 1073741824], [1065353216]]) (hc1 : 2 ≤ c1) : Calls Try.prog 24 #[.int .i64 4, .slice A1 2 c1] w fun e w' => ∃ v0_ : Value, e = .returned (.tuple #[v0_, .int .i64 0]) ∧ Kd.R (Kd.int .u32) 52 w' w.heap.size (fun _ => True) v0_ [1073741824, 1077936128] ∧ Below w.heap.size w w' := by
  obtain ⟨ad, B0, d0, rfl, hx0, hd0, hr0⟩ := at_rows hr1 0 (by omega) (by omega)
  obtain ⟨ad', B1, d1, e1, hx1, hd1, hr2⟩ := at_rows hr1 1 (by omega) (by omega)
  cases e1
  obtain ⟨b0, rfl, hy0⟩ := Kd.at_int hr0 0 (by omega) (by decide)
  obtain ⟨b0', e2, hy1⟩ := Kd.at_int hr0 1 (by omega) (by decide)
  cases e2
  obtain ⟨b1, rfl, hz0⟩ := Kd.at_int hr2 0 (by omega) (by decide)
  clear hr0 hr2 hr1 hc1 hd0 hd1
  have z (a : Addr) : a.add 0 = a := by simp [Addr.add]
  have z1 (a : Addr) : a.add 1 = ⟨a.block, a.off + 1, none⟩ := by simp [Addr.add]
  have hx0 : w.cell? ad = some (.slice (some b0) 2 d0) := by rw [← z ad]; exact hx0
  have hx1 : w.cell? ⟨ad.block, ad.off + 1, none⟩ = some (.slice (some b1) 1 d1) := by rw [← z1 ad]; exact hx1
  have hy0 : w.cell? b0 = some (.int .u32 1065353216) := by rw [← z b0]; exact hy0
  have hy1 : w.cell? ⟨b0.block, b0.off + 1, none⟩ = some (.int .u32 1073741824) := by rw [← z1 b0]; exact hy1
  have hz0 : w.cell? b1 = some (.int .u32 1065353216) := by rw [← z b1]; exact hz0
  clear z z1
  go_enter Try.func24, Try.ntmps24
  go_wp2_with (go_at_call 66; refine (kernel_add' _).mono ?_; rintro e w1 ⟨g, rfl, hg, hb0⟩)
  have move {p : Addr} {v : Value} (h : w.cell? p = some v) : w1.cell? p = some v := (hb0.cell (World.block_lt_of_cell? w _ h)).trans h
  replace hx0 := move hx0
  replace hx1 := move hx1
  replace hy0 := move hy0
  replace hy1 := move hy1
  replace hz0 := move hz0
  have F : Fs w1 ad b0 b1 d0 d1 g := ⟨hx0, hx1, hy0, hy1, hz0, hg⟩
  clear move
  refine wp_loop_rounds 3 ?_
  rw [rounds_succ]
  go_wp2
  rw [rounds_succ]
  go_wp2
  rw [rounds_succ]
  go_wp2
  refine wp_loop_rounds 3 ?_
  rw [rounds_succ]
  go_wp2
  rw [rounds_succ]
  go_wp2
  rw [rounds_succ]
  go_wp2
  have s1 : ((fadd (1065353216 : Int).toNat (1065353216 : Int).toNat : Nat) : Int) = 1073741824 := by decide +kernel
  have s2 : ((fadd (1073741824 : Int).toNat (1065353216 : Int).toNat : Nat) : Int) = 1077936128 := by decide +kernel
  clear hx0 hx1 hy0 hy1 hz0 hg
  have ho0 : Kd.R (Kd.int .u32) 52 w1 w1.heap.size (fun _ => True) (.slice none 0 0) [] := Kd.R_nil _ _ _ _ _
  generalize Value.slice none 0 0 = v0 at ho0 ⊢
  refine wp_loop_rounds 3 ?_
  rw [rounds_succ]
  go_wp2
  have HB1 : Below w1.heap.size w1 (w1.alloc (.cells #[.int .u32 0, .int .u32 0, .int .u32 0] 90)) := below_alloc (Below.refl _ _) _
  have BK1 : (w1.alloc (.cells #[.int .u32 0, .int .u32 0, .int .u32 0] 90)).heap[w1.heap.size]? = some (.cells #[.int .u32 0, .int .u32 0, .int .u32 0] 90 (0, 0)) := blk_new _ _
  obtain ⟨hx0, hx1, hy0, hy1, hz0, hg⟩ := F.below HB1
  have hc0 := blk_cell BK1 0
  have hc1 := blk_cell BK1 1
  have hc2 := blk_cell BK1 2
  refine wp_loop_rounds 3 ?_
  rw [rounds_succ]
  go_wp2
  clear hx0 hx1 hy0 hy1 hz0 hg hc0 hc1 hc2
  have HB2 : Below w1.heap.size w1 (w1.alloc (.cells #[.int .u32 1065353216, .int .u32 0, .int .u32 0] 90)) := below_alloc (Below.refl _ _) _
  have BK2 : (w1.alloc (.cells #[.int .u32 1065353216, .int .u32 0, .int .u32 0] 90)).heap[w1.heap.size]? = some (.cells #[.int .u32 1065353216, .int .u32 0, .int .u32 0] 90 (0, 0)) := blk_new _ _
  obtain ⟨hx0, hx1, hy0, hy1, hz0, hg⟩ := F.below HB2
  have hc0 := blk_cell BK2 0
  have hc1 := blk_cell BK2 1
  have hc2 := blk_cell BK2 2
  rw [rounds_succ]
  go_wp2
  clear hx0 hx1 hy0 hy1 hz0 hg hc0 hc1 hc2
  have HB3 : Below w1.heap.size w1 (w1.alloc (.cells #[.int .u32 1065353216, .int .u32 1065353216, .int .u32 0] 90)) := below_alloc (Below.refl _ _) _
  have BK3 : (w1.alloc (.cells #[.int .u32 1065353216, .int .u32 1065353216, .int .u32 0] 90)).heap[w1.heap.size]? = some (.cells #[.int .u32 1065353216, .int .u32 1065353216, .int .u32 0] 90 (0, 0)) := blk_new _ _
  obtain ⟨hx0, hx1, hy0, hy1, hz0, hg⟩ := F.below HB3
  have hc0 := blk_cell BK3 0
  have hc1 := blk_cell BK3 1
  have hc2 := blk_cell BK3 2
  rw [rounds_succ]
  go_wp2_with (first | (go_at_call 100; refine (closure_add 1073741824 g 1065353216 1065353216 0 _ s1 (World.block_lt_of_cell? _ _ hg) hg).mono ?_; rintro e wc ⟨rfl, nq, hwc⟩; have HBz : Below w1.heap.size w1 wc := (by rw [← hwc]; exact pw_below_drewN (below_alloc HB3 _) _); have HBy : Below w1.heap.size w1 wc := (by rw [← hwc]; exact pw_below_drewN (below_alloc (below_alloc (Below.refl _ _) _) _) _); clear hwc) | ((with_reducible refine gate_builtin (b := .append) (xs := #[.tmp 84, .tmp 88]) rfl ?_); at_builtin; refine Kd.R_append (Kd.int .u32) (w0 := w1) w1.heap.size rfl (.tmp 84) (.tmp 88) 40 52 (.int .u32 0) 4 rfl Try.underlying40 info_u32 rfl (by decide) (by omega) v0 [] 1073741824 [.int .u32 1073741824] (fun _ => True) (fun _ => False) rfl rfl ?aP (fun _ hk => hk.elim) ?aF ?aO ?aB ?aS ?aL ?_; (case aP => exact rfl); (case aB => exact (by repeat (first | (with_reducible first | exact HBz | apply below_alloc | apply pw_below_drewN | apply below_drew1) | exact HBz))); (case aF => exact (fun _ _ => trivial)); (case aO => exact (Kd.R_below ho0 HBz)); (case aS => exact (below_size (by repeat (first | (with_reducible first | exact HBz | apply below_alloc | apply pw_below_drewN | apply below_drew1) | exact HBz)))); (case aL => first | decide | simp | omega); intro v1 w7 ho hb hgr hat))
  clear hx0 hx1 hy0 hy1 hz0 hg hc0 hc1 hc2 HBz HBy HB1 HB2 HB3 BK1 BK2 BK3 hgr hat s1
  have F2 := F.below hb
  rw [rounds_succ]
  go_wp2
  have HB1 : Below w1.heap.size w1 (w7.alloc (.cells #[.int .u32 0, .int .u32 0, .int .u32 0] 90)) := below_alloc hb _
  have BK1 : (w7.alloc (.cells #[.int .u32 0, .int .u32 0, .int .u32 0] 90)).heap[w7.heap.size]? = some (.cells #[.int .u32 0, .int .u32 0, .int .u32 0] 90 (0, 0)) := blk_new _ _
  obtain ⟨hx0, hx1, hy0, hy1, hz0, hg⟩ := F.below HB1
  have hc0 := blk_cell BK1 0
  have hc1 := blk_cell BK1 1
  have hc2 := blk_cell BK1 2
  refine wp_loop_rounds 3 ?_
  rw [rounds_succ]
  go_wp2
  clear hx0 hx1 hy0 hy1 hz0 hg hc0 hc1 hc2
  have HB2 : Below w1.heap.size w1 (w7.alloc (.cells #[.int .u32 1073741824, .int .u32 0, .int .u32 0] 90)) := below_alloc hb _
  have BK2 : (w7.alloc (.cells #[.int .u32 1073741824, .int .u32 0, .int .u32 0] 90)).heap[w7.heap.size]? = some (.cells #[.int .u32 1073741824, .int .u32 0, .int .u32 0] 90 (0, 0)) := blk_new _ _
  obtain ⟨hx0, hx1, hy0, hy1, hz0, hg⟩ := F.below HB2
  have hc0 := blk_cell BK2 0
  have hc1 := blk_cell BK2 1
  have hc2 := blk_cell BK2 2
  rw [rounds_succ]
  go_wp2
  clear hx0 hx1 hy0 hy1 hz0 hg hc0 hc1 hc2
  have HB3 : Below w1.heap.size w1 (w7.alloc (.cells #[.int .u32 1073741824, .int .u32 1065353216, .int .u32 0] 90)) := below_alloc hb _
  have BK3 : (w7.alloc (.cells #[.int .u32 1073741824, .int .u32 1065353216, .int .u32 0] 90)).heap[w7.heap.size]? = some (.cells #[.int .u32 1073741824, .int .u32 1065353216, .int .u32 0] 90 (0, 0)) := blk_new _ _
  obtain ⟨hx0, hx1, hy0, hy1, hz0, hg⟩ := F.below HB3
  have hc0 := blk_cell BK3 0
  have hc1 := blk_cell BK3 1
  have hc2 := blk_cell BK3 2
  rw [rounds_succ]
  go_wp2_with (first | (go_at_call 100; refine (closure_add 1077936128 g 1073741824 1065353216 0 _ s2 (World.block_lt_of_cell? _ _ hg) hg).mono ?_; rintro e wc ⟨rfl, nq, hwc⟩; have HBz : Below w1.heap.size w1 wc := (by rw [← hwc]; exact pw_below_drewN (below_alloc HB3 _) _); have HBy : Below w7.heap.size w7 wc := (by rw [← hwc]; exact pw_below_drewN (below_alloc (below_alloc (Below.refl _ _) _) _) _); clear hwc) | ((with_reducible refine gate_builtin (b := .append) (xs := #[.tmp 84, .tmp 88]) rfl ?_); at_builtin; refine Kd.R_append (Kd.int .u32) (w0 := w1) w1.heap.size rfl (.tmp 84) (.tmp 88) 40 52 (.int .u32 0) 4 rfl Try.underlying40 info_u32 rfl (by decide) (by omega) v1 ([] ++ [1073741824]) 1077936128 [.int .u32 1077936128] (fun _ => True) (fun _ => False) rfl rfl ?aP (fun _ hk => hk.elim) ?aF ?aO ?aB ?aS ?aL ?_; (case aP => exact rfl); (case aB => exact (by repeat (first | (with_reducible first | exact HBz | apply below_alloc | apply pw_below_drewN | apply below_drew1) | exact HBz))); (case aF => exact (fun _ _ => trivial)); (case aO => exact (Kd.R_below ho HBy)); (case aS => exact (below_size (by repeat (first | (with_reducible first | exact HBz | apply below_alloc | apply pw_below_drewN | apply below_drew1) | exact HBz)))); (case aL => first | decide | simp | omega); intro v2 w8 ho2 hb3 hgr hat))
  clear hx0 hx1 hy0 hy1 hz0 hg hc0 hc1 hc2 HBz HBy HB1 HB2 HB3 BK1 BK2 BK3 hgr hat s2
  rw [rounds_succ]
  go_wp2
  exact bodyPost_ret (v := .tuple #[v2, .int .i64 0]) (by simp [results, Try.results24, go_sem]) rfl ⟨_, rfl, Kd.R_lower ho2 hb0.size, below_then hb0 hb0.size hb3⟩
end Go.Proofs.Ytmfladkimmnccaa.Sur
