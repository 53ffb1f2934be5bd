/- Valid at identity and at trace. No condition. -/
import Derived.Test.YtpgodgfkbkfpcaaGreatFoq
import Derived.Test.YtpgodgfkbkfpcaaGreatMed
import Derived.Deep.CutBlock
import Derived.Deep.DeepCutAuto
set_option linter.unusedVariables false
set_option linter.unusedSimpArgs false
namespace Go.Proofs.YtpgodgfkbkfpcaaGreat.Fom
open Go.Shelf Go.RowKit Go.Sort Go.Proofs.YtpgodgfkbkfpcaaGreat.Sra Go.Proofs.YtpgodgfkbkfpcaaGreat.Trb
theorem ent78 : ∀ vs w, (callFunc 78 vs).run Tryz.prog w = .ok (.enter 78 vs) w := enters_of Tryz.func78 (by kernel_rfl) rfl
theorem ent79 : ∀ vs w, (callFunc 79 vs).run Tryz.prog w = .ok (.enter 79 vs) w := enters_of Tryz.func79 (by kernel_rfl) rfl
noncomputable def ops50 : Array Oper := Rin.opsOf Tryz.f50 9
def T50 (lp : Option Addr) (ll lc : Nat) (tv : Value) (t : Nat) (v : Value) : Prop :=
  if t = 26 then ∃ p l c, v = .slice p l c else if t = 27 then ∃ p l c, v = view lp ll lc p l c else if t = 28 then v = tv else if t = 29 then v = .int .i64 0 else v = .slice lp ll lc
set_option maxHeartbeats 1000000 in
set_option maxRecDepth 100000 in
theorem Valid_gen (op : Int) (an ai lp : Option Addr) (nl nc il ic ll lc : Nat) (W : World)
    (h76 : ∀ w, Below W.heap.size W w → Calls Tryz.prog 76 #[.slice lp ll lc] w fun e w' => e = .returned (.int .i64 0) ∧ Below w.heap.size w w')
    (h78 : ∀ w, Calls Tryz.prog 78 #[.slice lp ll lc] w fun e w' => (∃ p l c, e = .returned (.slice p l c)) ∧ Below w.heap.size w w')
    (h79 : ∀ ap al ac w, Below W.heap.size W w → Calls Tryz.prog 79 #[view lp ll lc ap al ac, Mea.tx op (.slice an nl nc) (.slice ai il ic)] w fun e w' => e = .returned (.int .i64 0) ∧ Below w.heap.size w w') :
    Calls Tryz.prog 50 #[Mea.tx op (.slice an nl nc) (.slice ai il ic), .slice lp ll lc] W fun e w' => e = .returned (.int .i64 0) ∧ Below W.heap.size W w' := by
  have hm : Tryz.prog.follows .mixedOrders = true := by kernel_rfl
  have h77 := Mea.sizes op an ai nl il nc ic
  unfold Mea.tx at h77 h79 ⊢
  go_enter Tryz.func50, Tryz.ntmps50
  go_upto_region 9 with (first
    | (go_at_call 76; refine (h76 _ (below_alloc _ _)).mono ?_; rintro e w1 ⟨rfl, hb1⟩
       have v2 : w1.heap[W.heap.size]? = some (.cells #[.int .i64 op, .slice an nl nc, .slice ai il ic, .slice none 0 0, .int .i64 0, .slice none 0 0, .slice none 0 0, .slice none 0 0, .slice none 0 0] 30 (0, 0)) := heap_on (heap_alloc_new _ _) hb1
       obtain ⟨j0, j1, j2, j3, j4, j5, j6, j7, j8⟩ := nine v2)
    | (go_at_call 77; refine (h77 _).mono ?_; rintro e w2 ⟨rfl, hb2⟩))
  have v3 := heap_on v2 hb2
  have hB1 : Below W.heap.size W w1 := Tab.then_ (below_alloc _ _) (by simp) hb1
  have hB2 : Below W.heap.size W w2 := Tab.then_ hB1 hB1.size hb2
  clear h76 h77 j0 j1 j2 j3 j4 j5 j6 j7 j8 hb1 hb2 v2 hB1
  go_cut [0, 1, 2, 3, 4] from 5 (fun v0 v1 v2 v3 v4 w => v4 = .int .i64 0 ∧ Below W.heap.size W w)
  case first =>
    rename_i J K' hJ hK
    refine Rin.wp_region_to (l' := ops50) (by kernel_rfl) ?_
    refine Rin.wp_region_slots 6 30 (fun i => 24 + i) (fun t v _ => T50 lp ll lc (Mea.tx op (.slice an nl nc) (.slice ai il ic)) t v) hm (by kernel_rfl) (by kernel_rfl) (by kernel_rfl) rfl (fun i hi => by show 24 + i < 30; omega) (fun i j hi hj h => by have h : 24 + i = 24 + j := h; omega) (fun _ _ _ _ h _ => h) ?_ ?_
    · intro i o a w hi ho hR hS
      have hS' : ∀ k, k < 6 → ((ops50[i]?).map fun o => o.after.any fun e => e.on == k && Region.binds .any e) = some true → T50 lp ll lc (Mea.tx op (.slice an nl nc) (.slice ai il ic)) (24 + k) (a.eval (.tmp (24 + k))) := fun k hk he => hS k hk (by rw [ho] at he; simpa using he)
      clear hS ho o
      have hB : Below W.heap.size W w := Tab.then_ hB2 hB2.size hR.below
      match i, hi with
      | 0, _ => exact Rin.step_move (d := some 24) (x := .tmp 1) (by kernel_rfl) ⟨_, rfl, (hR.rest 1 (fun i hi => by show 24 + i ≠ 1; omega)).trans rfl, Below.refl _ _⟩
      | 1, _ => exact Rin.step_move (d := some 25) (x := .tmp 1) (by kernel_rfl) ⟨_, rfl, (hR.rest 1 (fun i hi => by show 24 + i ≠ 1; omega)).trans rfl, Below.refl _ _⟩
      | 2, _ =>
        have h25 : a.eval (.tmp 25) = .slice lp ll lc := hS' 1 (by omega) (by kernel_rfl)
        refine Rin.step_call (args := [.tmp 25]) (ts := #[31]) (d := some 26) (by kernel_rfl) ent78 ?_
        show Calls _ 78 #[a.eval (.tmp 25)] _ _
        rw [h25]
        refine (h78 w).mono ?_
        rintro e w' ⟨⟨p, l, c, rfl⟩, hb⟩
        exact ⟨_, rfl, _, rfl, ⟨p, l, c, rfl⟩, hb⟩
      | 3, _ =>
        have h24 : a.eval (.tmp 24) = .slice lp ll lc := hS' 0 (by omega) (by kernel_rfl)
        obtain ⟨p, l, c, h26⟩ : ∃ p l c, a.eval (.tmp 26) = .slice p l c := hS' 2 (by omega) (by kernel_rfl)
        refine Rin.step_build (t := 147) (l := [(0, .tmp 24), (1, .tmp 26)]) (d := some 27) (by kernel_rfl) #[.slice lp ll lc, .slice p l c, .bool false] (by show Tryz.prog.built 147 [(0, a.eval (.tmp 24)), (1, a.eval (.tmp 26))] = _; rw [h24, h26]; kernel_rfl) ⟨_, rfl, ⟨p, l, c, rfl⟩, Below.refl _ _⟩
      | 4, _ => exact Rin.step_loadRow (d := some 28) (by kernel_rfl) W.heap.size ((hR.rest 2 (fun i hi => by show 24 + i ≠ 2; omega)).trans rfl) 30 _ (0, 0) _ (heap_on v3 hR.below) Tryz.underlying30 rfl (by kernel_rfl) ⟨_, rfl, rfl, Below.refl _ _⟩
      | 5, _ =>
        obtain ⟨p, l, c, h27⟩ : ∃ p l c, a.eval (.tmp 27) = view lp ll lc p l c := hS' 3 (by omega) (by kernel_rfl)
        have h28 : a.eval (.tmp 28) = Mea.tx op (.slice an nl nc) (.slice ai il ic) := hS' 4 (by omega) (by kernel_rfl)
        refine Rin.step_call (args := [.tmp 27, .tmp 28]) (ts := #[147, 30]) (d := some 29) (by kernel_rfl) ent79 ?_
        show Calls _ 79 #[a.eval (.tmp 27), a.eval (.tmp 28)] _ _
        rw [h27, h28]
        refine (h79 p l c w hB).mono ?_
        rintro e w' ⟨rfl, hb⟩
        exact ⟨_, rfl, _, rfl, rfl, hb⟩
      | i + 6, hi => exact absurd hi (by omega)
    · intro a w hR hS
      have h29 : a.eval (.tmp 29) = .int .i64 0 := hS 5 (by omega)
      refine Rin.step_assign (d := some 4) (x := .tmp 29) (by kernel_rfl) ?_
      refine hK _ _ (Met.intro (hJ _ _ ?_))
      (repeat apply Exists.intro)
      refine ⟨?_, Rin.act_list 30 _ ?_ ?_⟩
      rotate_left
      · show (a.tmps.setIfInBounds 4 _).size = 30
        rw [Array.size_setIfInBounds]; exact hR.size
      · exact hR.defers
      refine ⟨?_, Tab.then_ hB2 hB2.size hR.below⟩
      show (a.put (some 4) (a.eval (.tmp 29))).eval (.tmp 4) = _
      rw [Rin.eval_put _ _ _ (by rw [hR.size]; decide)]; exact h29
  case rest =>
    obtain ⟨rfl, hB⟩ := hcut
    go_wp2
    go_ret
    exact ⟨rfl, hB⟩
theorem Valid_id (W : World) : Calls Tryz.prog 50 #[Mea.tx 1 (.slice none 0 0) (.slice none 0 0), .slice none 0 0] W fun e w' => e = .returned (.int .i64 0) ∧ Below W.heap.size W w' :=
  Valid_gen 1 none none none 0 0 0 0 0 0 W (fun w _ => Mea.check0 w) (fun w => (Mea.all0 w).mono fun e w' h => ⟨⟨_, _, _, h.1⟩, h.2⟩) (fun ap al ac w _ => valid_id none ap 0 0 al ac w)
theorem Valid_tr (g c gn gi : Nat) (W : World) (h : Mec.One W g) (hn : W.cell? ⟨gn, 0, none⟩ = some (.int .u32 1056964608)) (hi : W.cell? ⟨gi, 0, none⟩ = some (.int .i64 0)) : Calls Tryz.prog 50 #[Mea.tx 7 (.slice (some ⟨gn, 0, none⟩) 1 1) (.slice (some ⟨gi, 0, none⟩) 1 1), .slice (some ⟨g, 0, none⟩) 1 c] W fun e w' => e = .returned (.int .i64 0) ∧ Below W.heap.size W w' :=
  have hg : g < W.heap.size := World.block_lt_of_cell? _ _ h.c0
  Valid_gen 7 _ _ _ 1 1 1 1 1 c W (fun w hB => Mec.check_w g c w ⟨(hB.cell (p := ⟨g, 0, none⟩) hg).trans h.c0, (hB.cell (p := ⟨g, 1, none⟩) hg).trans h.c1, (hB.cell (p := ⟨g, 2, none⟩) hg).trans h.c2⟩) (fun w => (Mec.all_w g c w).mono fun e w' h => ⟨by obtain ⟨⟨k, cap, h1, _⟩, _⟩ := h; exact ⟨_, _, _, h1⟩, h.2⟩)
    (fun ap al ac w hB => valid_tr (some ⟨g, 0, none⟩) ap 1 c al ac gn gi w ((hB.cell (p := ⟨gn, 0, none⟩) (World.block_lt_of_cell? _ _ hn)).trans hn) ((hB.cell (p := ⟨gi, 0, none⟩) (World.block_lt_of_cell? _ _ hi)).trans hi))
end Go.Proofs.YtpgodgfkbkfpcaaGreat.Fom
