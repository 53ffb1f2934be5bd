/- A leaf's step at trace: the region of the default case, walked. No condition. -/
import Derived.Test.YtpgodgfkbkfpcaaGreatLsr
set_option linter.unusedVariables false
set_option linter.unusedSimpArgs false
namespace Go.Proofs.YtpgodgfkbkfpcaaGreat.Tim
open Go.Shelf Go.RowKit Go.Proofs.YtpgodgfkbkfpcaaGreat.Trb Go.Proofs.YtpgodgfkbkfpcaaGreat.Bui Go.Proofs.YtpgodgfkbkfpcaaGreat.Fom
open Lathe (fadd fmul)
set_option maxHeartbeats 1000000 in
set_option maxRecDepth 100000 in
theorem reg12 {Q : Exit → Act → World → Prop} {a0 : Act} {w0 : World} {k gk kc gn gi b11 gx cx pp ppc gp cp gm cm : Nat} {n x m : Int}
    (hN : a0.tmps.size = 127) (h9 : a0.eval (.tmp 9) = .slice none 0 0) (h0 : a0.eval (.tmp 0) = .pointer (some ⟨k, 0, none⟩)) (h10 : a0.eval (.tmp 10) = .int .i64 0) (h11 : a0.eval (.tmp 11) = .pointer (some ⟨b11, 0, none⟩)) (h2 : a0.eval (.tmp 2) = .slice (some ⟨pp, 0, none⟩) 1 ppc)
    (hL : Lea w0 k n 7 (.slice (some ⟨gn, 0, none⟩) 1 1) (.slice (some ⟨gi, 0, none⟩) 1 1) (.slice (some ⟨gk, 0, none⟩) 1 kc)) (hk : Ke w0 gk gm cm) (hb11 : Pl w0 b11 gx cx) (hpp : Pl w0 pp gp cp)
    (hn : w0.cell? ⟨gn, 0, none⟩ = some (.int .u32 1056964608)) (hi0 : w0.cell? ⟨gi, 0, none⟩ = some (.int .i64 0)) (hx : w0.cell? ⟨gx, 0, none⟩ = some (.int .u32 x)) (hm : w0.cell? ⟨gm, 0, none⟩ = some (.int .u32 m))
    (e1 : gi ≠ gk) (e2 : k ≠ gk) (e3 : b11 ≠ gk) (e4 : pp ≠ gk)
    (hQ : ∀ (a : Act) (w : World) (q cap g c : Nat), a.tmps.size = 127 → a.defers = a0.defers → (∀ t : Nat, t < 61 → t ≠ 9 → a.eval (.tmp t) = a0.eval (.tmp t)) → w0.heap.size ≤ q → Pl w q g c → Phi w0.heap.size gk (fadd x.toNat (fmul 1056964608 m.toNat) : Nat) g c w → But [gk] w0 w → Q .normal (a.put (some 9) (.slice (some ⟨q, 0, none⟩) 1 cap)) w) :
    (Code.region 12 ops315 true).wp Tryz.prog Q a0 w0 := by
  have hmx : Tryz.prog.follows .mixedOrders = true := by kernel_rfl
  refine Rin.wp_region_done 16 127 (fun i => 61 + i) (T12 w0.heap.size k gk kc gx cx pp ppc gp cp (fadd x.toNat (fmul 1056964608 m.toNat) : Nat)) (fun done w => But [gk] w0 w ∧ (¬ done 13 → Below w0.heap.size w0 w)) hmx (by kernel_rfl) (by kernel_rfl) (by kernel_rfl) hN (fun i hi => by show 61 + i < 127; omega) (fun i j hi hj h => by have h : 61 + i = 61 + j := h; omega) ⟨⟨rfl, rfl, rfl, Nat.le_refl _, fun _ _ _ => rfl⟩, fun _ => ⟨rfl, rfl, rfl, Nat.le_refl _, fun _ _ => rfl⟩⟩ ?_ ?_
  · intro i o done a w hi ho hnd hcl hdep hsz hrest hR hS
    have rest : ∀ t : Nat, t < 61 → a.eval (.tmp t) = a0.eval (.tmp t) := fun t ht => hrest t (fun i hi e => by have e : 61 + i = t := e; omega)
    have dep : ∀ j, j < 16 → ((ops315[i]?).map fun o => o.after.any fun e => e.on == j && Region.binds .any e) = some true → T12 w0.heap.size k gk kc gx cx pp ppc gp cp (fadd x.toNat (fmul 1056964608 m.toNat) : Nat) (61 + j) (a.eval (.tmp (61 + j))) w := fun j hj he => by
      rw [ho] at he
      simp only [Option.map_some, Option.some.injEq] at he
      rw [← Array.any_toList, List.any_eq_true] at he
      obtain ⟨e, he, h2⟩ := he
      simp only [Bool.and_eq_true, beq_iff_eq] at h2
      have := hdep e (Array.mem_toList_iff.1 he) h2.2
      rw [h2.1] at this
      exact hS j hj this
    have quiet : ∀ (i' : Nat) w', Below w.heap.size w w' → i' ≠ 13 → (But [gk] w0 w' ∧ (¬ (13 = i' ∨ done 13) → Below w0.heap.size w0 w')) ∧ ∀ j, j < 16 → done j → ∀ u, T12 w0.heap.size k gk kc gx cx pp ppc gp cp (fadd x.toNat (fmul 1056964608 m.toNat) : Nat) (61 + j) u w → T12 w0.heap.size k gk kc gx cx pp ppc gp cp (fadd x.toNat (fmul 1056964608 m.toNat) : Nat) (61 + j) u w' := fun i' w' hb hne =>
      ⟨⟨hR.1.on hb, fun h => Tab.then_ (hR.2 (fun h13 => h (Or.inr h13))) (hR.2 (fun h13 => h (Or.inr h13))).size hb⟩, fun j hj _ u hu => hu.on hb⟩
    have q0 : ∀ i' : Nat, i' ≠ 13 → _ := fun i' h => quiet i' w (Below.refl _ _) h
    match i, hi, ho, hnd, dep with
    | 0, _, ho, hnd, dep => exact Rin.step_move (d := some 61) (x := .tmp 9) (by kernel_rfl) ⟨_, rfl, (rest 9 (by omega)).trans h9, q0 0 (by omega)⟩
    | 1, _, ho, hnd, dep => exact Rin.step_move (d := some 62) (x := .tmp 0) (by kernel_rfl) ⟨_, rfl, (rest 0 (by omega)).trans h0, q0 1 (by omega)⟩
    | 2, _, ho, hnd, dep => exact Rin.step_move (d := some 63) (x := .tmp 0) (by kernel_rfl) ⟨_, rfl, (rest 0 (by omega)).trans h0, q0 2 (by omega)⟩
    | 3, _, ho, hnd, dep =>
      have h63 : a.eval (.tmp 63) = .pointer (some ⟨k, 0, none⟩) := dep 2 (by omega) (by kernel_rfl)
      exact Rin.step_run (d := some 64) (op := .nilCheck (.tmp 63)) (by kernel_rfl) _ _ (nil_run h63) ⟨_, rfl, rfl, q0 3 (by omega)⟩
    | 4, _, ho, hnd, dep =>
      have h64 : a.eval (.tmp 64) = .pointer (some ⟨k, 0, none⟩) := dep 3 (by omega) (by kernel_rfl)
      exact Rin.step_run (d := some 65) (op := .fieldAddr 168 (.tmp 64) 2) (by kernel_rfl) _ _ (field_run h64 (f168_2 _ _)) ⟨_, rfl, rfl, q0 4 (by omega)⟩
    | 5, _, ho, hnd, dep =>
      have h65 : a.eval (.tmp 65) = .pointer (some ⟨k, 10, none⟩) := dep 4 (by omega) (by kernel_rfl)
      exact Rin.step_load (d := some 66) (t := 166) (x := .tmp 65) (by kernel_rfl) (.slice (some ⟨gk, 0, none⟩) 1 kc) (by rw [h65]; exact load166 _ _ _ _ (hR.1.cell hL.c10 (by simpa using e2))) ⟨_, rfl, rfl, q0 5 (by omega)⟩
    | 6, _, ho, hnd, dep => exact Rin.step_move (d := some 67) (x := .tmp 10) (by kernel_rfl) ⟨_, rfl, (rest 10 (by omega)).trans h10, q0 6 (by omega)⟩
    | 7, _, ho, hnd, dep =>
      have h66 : a.eval (.tmp 66) = .slice (some ⟨gk, 0, none⟩) 1 kc := dep 5 (by omega) (by kernel_rfl)
      have h67 : a.eval (.tmp 67) = .int .i64 0 := dep 6 (by omega) (by kernel_rfl)
      exact Rin.step_run (d := some 68) (op := .indexAddr 166 (.tmp 66) (.tmp 67)) (by kernel_rfl) _ _ (ix_run h66 h67 (ix166 _ _ _)) ⟨_, rfl, rfl, q0 7 (by omega)⟩
    | 8, _, ho, hnd, dep => exact Rin.step_load (d := some 69) (t := 102) (x := .tmp 11) (by kernel_rfl) (pc gx cx) (by rw [(rest 11 (by omega)).trans h11]; exact pl_load (hb11.same (hR.1.block _ (World.block_lt_of_cell? _ _ hb11.c0) (by simpa using e3)))) ⟨_, rfl, rfl, q0 8 (by omega)⟩
    | 9, _, ho, hnd, dep => exact Rin.step_move (d := some 70) (x := .tmp 2) (by kernel_rfl) ⟨_, rfl, (rest 2 (by omega)).trans h2, q0 9 (by omega)⟩
    | 10, _, ho, hnd, dep => exact Rin.step_move (d := some 71) (x := .tmp 10) (by kernel_rfl) ⟨_, rfl, (rest 10 (by omega)).trans h10, q0 10 (by omega)⟩
    | 11, _, ho, hnd, dep =>
      have h70 : a.eval (.tmp 70) = .slice (some ⟨pp, 0, none⟩) 1 ppc := dep 9 (by omega) (by kernel_rfl)
      have h71 : a.eval (.tmp 71) = .int .i64 0 := dep 10 (by omega) (by kernel_rfl)
      exact Rin.step_run (d := some 72) (op := .indexAddr 97 (.tmp 70) (.tmp 71)) (by kernel_rfl) _ _ (ix_run h70 h71 (ix97 _ _ _)) ⟨_, rfl, rfl, q0 11 (by omega)⟩
    | 12, _, ho, hnd, dep =>
      have h72 : a.eval (.tmp 72) = .pointer (some ⟨pp, 0, none⟩) := dep 11 (by omega) (by kernel_rfl)
      exact Rin.step_load (d := some 73) (t := 102) (x := .tmp 72) (by kernel_rfl) (pc gp cp) (by rw [h72]; exact pl_load (hpp.same (hR.1.block _ (World.block_lt_of_cell? _ _ hpp.c0) (by simpa using e4)))) ⟨_, rfl, rfl, q0 12 (by omega)⟩
    | 13, _, ho, hnd, dep =>
      have h62 : a.eval (.tmp 62) = .pointer (some ⟨k, 0, none⟩) := dep 1 (by omega) (by kernel_rfl)
      have h68 : a.eval (.tmp 68) = .pointer (some ⟨gk, 0, none⟩) := dep 7 (by omega) (by kernel_rfl)
      have h69 : a.eval (.tmp 69) = pc gx cx := dep 8 (by omega) (by kernel_rfl)
      have h73 : a.eval (.tmp 73) = pc gp cp := dep 12 (by omega) (by kernel_rfl)
      have hB := hR.2 hnd
      refine Rin.step_call (args := [.tmp 62, .tmp 68, .tmp 69, .tmp 73]) (ts := #[165, 334, 102, 102]) (d := some 74) (by kernel_rfl) ent321 ?_
      show Calls _ 321 #[a.eval (.tmp 62), a.eval (.tmp 68), a.eval (.tmp 69), a.eval (.tmp 73)] _ _
      rw [h62, h68, h69, h73]
      refine (one_tr k gk gn gi gx cx gm cm gp cp n _ x m w (hL.on hB) (hk.on hB) ((hB.cell (World.block_lt_of_cell? _ _ hn)).trans hn) ((hB.cell (World.block_lt_of_cell? _ _ hi0)).trans hi0) ((hB.cell (World.block_lt_of_cell? _ _ hx)).trans hx) ((hB.cell (World.block_lt_of_cell? _ _ hm)).trans hm) e1).mono ?_
      rintro e w' ⟨⟨g', c', rfl, hg', hc', hk'⟩, hb⟩
      refine ⟨_, rfl, _, rfl, ⟨g', c', rfl, Nat.le_trans hB.size hg', hc', hk'⟩, ⟨But.trans hR.1 hb, fun h => absurd (Or.inl rfl) h⟩, fun j hj hjd u hu => ?_⟩
      have n13 : j ≠ 13 := fun e => hnd (e ▸ hjd)
      have n14 : j ≠ 14 := fun e => by
        subst e
        obtain ⟨o14, ho14⟩ : ∃ o14, ops315[14]? = some o14 := ⟨_, Array.getElem?_eq_getElem (by rw [show ops315.size = 17 by kernel_rfl]; omega)⟩
        have h1 : ((ops315[14]?).map fun o => o.after.any fun e => e.on == 13 && Region.binds .any e) = some true := by kernel_rfl
        rw [ho14] at h1
        simp only [Option.map_some, Option.some.injEq] at h1
        rw [← Array.any_toList, List.any_eq_true] at h1
        obtain ⟨e, he, h2⟩ := h1
        simp only [Bool.and_eq_true, beq_iff_eq] at h2
        have := hcl 14 o14 ho14 hjd e (Array.mem_toList_iff.1 he) h2.2
        rw [h2.1] at this
        exact hnd this
      have n15 : j ≠ 15 := fun e => by
        subst e
        obtain ⟨o15, ho15⟩ : ∃ o15, ops315[15]? = some o15 := ⟨_, Array.getElem?_eq_getElem (by rw [show ops315.size = 17 by kernel_rfl]; omega)⟩
        have h1 : ((ops315[15]?).map fun o => o.after.any fun e => e.on == 13 && Region.binds .any e) = some true := by kernel_rfl
        rw [ho15] at h1
        simp only [Option.map_some, Option.some.injEq] at h1
        rw [← Array.any_toList, List.any_eq_true] at h1
        obtain ⟨e, he, h2⟩ := h1
        simp only [Bool.and_eq_true, beq_iff_eq] at h2
        have := hcl 15 o15 ho15 hjd e (Array.mem_toList_iff.1 he) h2.2
        rw [h2.1] at this
        exact hnd this
      exact hu.free (by show 61 + j ≠ 74; omega) (by show 61 + j ≠ 75; omega) (by show 61 + j ≠ 76; omega)
    | 14, _, ho, hnd, dep =>
      obtain ⟨g, c, h74, hphi⟩ : ∃ g c, a.eval (.tmp 74) = pc g c ∧ Phi w0.heap.size gk (fadd x.toNat (fmul 1056964608 m.toNat) : Nat) g c w := dep 13 (by omega) (by kernel_rfl)
      exact Rin.step_rows (d := some 75) (l := [(0, .tmp 74)]) (by kernel_rfl) [pc g c] (by show [(0, a.eval (.tmp 74))] = _; rw [h74]; rfl) rfl (s := 5) (n := 1) (by decide) (by decide) (by decide) Tryz.underlying97 (by kernel_rfl) (by kernel_rfl) (by intro v hv; simp only [List.mem_cons, List.not_mem_nil, or_false] at hv; subst hv; rfl) ⟨_, rfl, ⟨_, g, c, rfl, heap_alloc_new _ _, hphi.on (below_alloc _ _)⟩, quiet 14 _ (below_alloc _ _) (by omega)⟩
    | 15, _, ho, hnd, dep =>
      have h61 : a.eval (.tmp 61) = .slice none 0 0 := dep 0 (by omega) (by kernel_rfl)
      obtain ⟨q, g, c, h75, hq, hphi⟩ : ∃ q g c, a.eval (.tmp 75) = .slice (some ⟨q, 0, none⟩) 1 1 ∧ w.heap[q]? = some (.cells (pcs g c) 102 (0, 0)) ∧ Phi w0.heap.size gk (fadd x.toNat (fmul 1056964608 m.toNat) : Nat) g c w := dep 14 (by omega) (by kernel_rfl)
      refine Rin.step_append_nil (d := some 76) (by kernel_rfl) 102 tP (.agg pz.toArray) 5 72 Tryz.underlying97 (by kernel_rfl) (by kernel_rfl) (by kernel_rfl) (by kernel_rfl) rfl (by decide) h61 q 1 1 (pcs g c) (0, 0) h75 hq rfl (by kernel_rfl) (by decide) (by unfold maxLen; omega) (by omega) ?_
      intro b cap cur w' hb hcur ht hcs hcap hB
      have hc : ∀ j, j < 5 → w'.cell? ⟨b, j, none⟩ = (pcs g c)[j]? := fun j hj => by
        rw [cell_of_row _ _ j _ _ _ hcur, ← Array.getElem?_toList, ← Array.getElem?_toList, ← ht, List.getElem?_take, if_pos (by omega)]
      exact ⟨_, rfl, ⟨b, cap, g, c, rfl, Nat.le_trans hR.1.size hb, ⟨hc 0 (by omega), hc 1 (by omega), hc 2 (by omega), hc 3 (by omega), hc 4 (by omega)⟩, hphi.on hB⟩, quiet 15 _ hB (by omega)⟩
    | i + 16, hi, _, _, _ => exact absurd hi (by omega)
  · intro done a w hsz hd hrest hR hS
    obtain ⟨q, cap, g, c, h76, hq, hpl, hphi⟩ : ∃ q cap g c, a.eval (.tmp 76) = .slice (some ⟨q, 0, none⟩) 1 cap ∧ w0.heap.size ≤ q ∧ Pl w q g c ∧ Phi w0.heap.size gk (fadd x.toNat (fmul 1056964608 m.toNat) : Nat) g c w := hS 15 (by omega)
    refine Rin.step_assign (d := some 9) (x := .tmp 76) (by kernel_rfl) ?_
    rw [h76]
    exact hQ a w q cap g c hsz hd (fun t ht _ => hrest t (fun i hi e => by have e : 61 + i = t := e; omega)) hq hpl hphi hR.1
end Go.Proofs.YtpgodgfkbkfpcaaGreat.Tim
