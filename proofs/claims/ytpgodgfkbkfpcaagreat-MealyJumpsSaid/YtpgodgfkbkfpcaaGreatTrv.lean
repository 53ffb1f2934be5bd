/- check's table, sorted. No condition. -/
import Derived.Test.YtpgodgfkbkfpcaaGreatTrw
import Derived.Deep.CutBlock
import Derived.Deep.DeepCutAuto
set_option linter.unusedVariables false
set_option linter.unusedSimpArgs false
namespace Go.Proofs.YtpgodgfkbkfpcaaGreat.Trv
open Go.Shelf Go.RowKit Go.Sort Go.Proofs.YtpgodgfkbkfpcaaGreat.Sra Go.Proofs.YtpgodgfkbkfpcaaGreat.Trb
theorem run_store240 (w : World) (g : Nat) (old v : Value) (h1 : v.oneCell' = true) (hg : w.heap[g]? = some (.cells #[old] 240 (0, 0))) : (Instr.storeAt 240 (.pointer (some ⟨g, 0, none⟩)) v).run Tryz.prog w = .ok () (w.setRow g #[v]) := by
  have := run_storeVar_one (P := Tryz.prog) w g 240 240 old v hg (by kernel_rfl) h1
  simp [Instr.storeAt, Instr.sureAddr, this]
theorem apart {w : World} {g k : Nat} {a b : Array Value} {t u : TypeId} {f1 f2 : Nat × Nat} (h1 : w.heap[g]? = some (.cells a t f1)) (h2 : w.heap[k]? = some (.cells b u f2)) (h : a.size ≠ b.size) : g ≠ k := by
  rintro rfl
  rw [h1] at h2
  injection h2 with h2
  injection h2 with h2
  exact h (by rw [h2])
theorem below_row {B g : Nat} {w0 w : World} (h : Below B w0 w) (hg : B ≤ g) (cs : Array Value) : Below B w0 (w.setRow g cs) :=
  ⟨h.os, h.tape, h.output, by rw [setRow_size]; exact h.size, fun k hk => by rw [setRow_other _ _ _ _ (by omega)]; exact h.block k hk⟩
theorem trc_size : (flatV trc).size = 12 := by kernel_rfl
theorem Fine.set {r : Rw} {w : World} {g : Nat} {v old : Value} {f : Nat × Nat} (h : Fine r w) (hg : w.heap[g]? = some (.cells #[old] 240 f)) : Fine r (w.setRow g #[v]) :=
  ⟨h.1, fun e => by
    obtain ⟨k, h1, h2, h3, h4⟩ := h.2 e
    exact ⟨k, h1, h2, h3, by rw [setRow_other _ _ _ _ (apart h4 hg (by rw [trc_size]; show (12 : Nat) ≠ 1; decide))]; exact h4⟩⟩
theorem run_load240 (w : World) (g : Nat) (v : Value) (hg : w.heap[g]? = some (.cells #[v] 240 (0, 0))) : (Instr.loadAt 240 (.pointer (some ⟨g, 0, none⟩))).run Tryz.prog w = .ok v w := by
  have hc : w.cell? ⟨g, 0, none⟩ = some v := cell_of_row w g 0 _ _ _ hg
  have hu := Tryz.underlying240
  simp [Instr.loadAt, Instr.sureAddr, loadVar, isAgg, run_underlying hu, hc]
def KL3 (B g : Nat) : List Kd := List.replicate 86 .any ++ [.val (.slice (some ⟨g, 0, none⟩) 30 30), .val (.agg Trs.avInner), .rows Trs.L208, .grown B (Trt.L176 ++ Trs.L208)]
noncomputable def ops3 : Array Oper := Rin.opsOf Tryz.f176 3
set_option maxHeartbeats 1000000 in
set_option maxRecDepth 100000 in
theorem steps3 {a0 : Act} {w0 : World} {B g g1 g2 : Nat} {d : List Rw} (h1 : a0.eval (.tmp 1) = .pointer (some ⟨g1, 0, none⟩)) (h2 : a0.eval (.tmp 2) = .pointer (some ⟨g2, 0, none⟩)) (hg1 : w0.heap[g1]? = some (.cells Trs.avInner 244 (0, 0))) (hg2 : w0.heap[g2]? = some (.cells #[.slice (some ⟨g, 0, none⟩) 30 30] 240 (0, 0)))
    (hg : w0.heap[g]? = some (.cells (flatV (d.map rowV)) 207 (0, 0))) (hk : d.map key = Trt.L176) (hf : ∀ r ∈ d, Fine r w0) (hB : B ≤ w0.heap.size) : ∀ i, i < 4 → Step ops3 (KL3 B g) 4 95 (fun i => 86 + i) a0 w0 i
  | 0, _ => fun Q a w hR hS => Rin.step_load (d := some 86) (t := 240) (x := .tmp 2) (by kernel_rfl) (.slice (some ⟨g, 0, none⟩) 30 30) (by rw [hR.rest 2 (fun i hi => by show 86 + i ≠ 2; omega), h2]; exact run_load240 _ _ _ (heap_on hg2 hR.below)) ⟨_, rfl, rfl, Below.refl _ _⟩
  | 1, _ => fun Q a w hR hS => Rin.step_loadRow (d := some 87) (by kernel_rfl) g1 ((hR.rest 1 (fun i hi => by show 86 + i ≠ 1; omega)).trans h1) 244 Trs.avInner (0, 0) _ (heap_on hg1 hR.below) Tryz.underlying244 rfl (by kernel_rfl) ⟨_, rfl, rfl, Below.refl _ _⟩
  | 2, _ => fun Q a w hR hS => by
    have h87 : a.eval (.tmp 87) = .agg Trs.avInner := hS 1 (by omega) (by kernel_rfl)
    refine Rin.step_call (args := [.tmp 87]) (ts := #[244]) (d := some 88) (by kernel_rfl) ent208 ?_
    show Calls _ 208 #[a.eval (.tmp 87)] _ _
    rw [h87]
    refine (Tru.later w).mono ?_
    rintro e w' ⟨v, rfl, hv, hb⟩
    exact ⟨_, rfl, _, rfl, hv, hb⟩
  | 3, _ => fun Q a w hR hS => by
    have h86 : a.eval (.tmp 86) = .slice (some ⟨g, 0, none⟩) 30 30 := hS 0 (by omega) (by kernel_rfl)
    obtain ⟨g8, d8, h88, hg8, hk8, hf8⟩ : Kd.holds (.rows Trs.L208) (a.eval (.tmp 88)) w := hS 2 (by omega) (by kernel_rfl)
    have n1 : d.length = 30 := by rw [← List.length_map (f := key), hk]; rfl
    have n2 : d8.length = 12 := by rw [← List.length_map (f := key), hk8]; rfl
    refine Rin.step_append (d := some 89) (by kernel_rfl) 207 tE zE 5 56 Tryz.underlying240 (by kernel_rfl) (by kernel_rfl) (by kernel_rfl) (by kernel_rfl) (by kernel_rfl) (by decide) g 30 _ (0, 0) h86 (heap_on hg hR.below) (by rw [flat_len, n1]) g8 12 _ (0, 0) h88 hg8 (by rw [flat_len, n2]) (flat_one _) (by decide) (by unfold maxLen; omega) (by omega) ?_
    rintro v' w' ⟨-, h | ⟨k, cap, cur, rfl, hb, hk', hc, -, hs, ht⟩⟩ hB'
    · exact absurd h.2 (by decide)
    · refine ⟨_, rfl, ⟨k, cap, cur, d ++ d8, rfl, Nat.le_trans hB (Nat.le_trans hR.below.size hb), hk', hc, hs, ?_, ?_, fun r hr => ?_⟩, hB'⟩
      · rw [flat_app] at ht; exact ht
      · rw [List.map_append, hk, hk8]
      · rcases List.mem_append.1 hr with hr | hr
        · exact ((hf r hr).on hR.below).on hB'
        · exact (hf8 r hr).on hB'
  | i + 4, h => absurd h (by omega)
set_option maxHeartbeats 1000000 in
set_option maxRecDepth 100000 in
theorem transforms (W : World) : Calls Tryz.prog 176 #[] W fun e w' => ∃ (g c : Nat) (d : Array Rw), e = .returned (.slice (some ⟨g, 0, none⟩) 42 c) ∧ W.heap.size ≤ g ∧ HoldsK enc 5 w' g 0 d ∧ d.size = 42 ∧ (d.toList.map key).Perm (Trt.L176 ++ Trs.L208) ∧ (∀ r ∈ d.toList, Fine r w') ∧ Below W.heap.size W w' := by
  have hm : Tryz.prog.follows .mixedOrders = true := by kernel_rfl
  go_enter Tryz.func176, Tryz.ntmps176
  go_upto_region 2 with fail
  go_cut [0, 1, 2] from 3 (fun v0 v1 v2 w => ∃ (g1 g2 g : Nat) (d : List Rw), v1 = .pointer (some ⟨g1, 0, none⟩) ∧ v2 = .pointer (some ⟨g2, 0, none⟩) ∧ W.heap.size ≤ g2 ∧ w.heap[g1]? = some (.cells Trs.avInner 244 (0, 0)) ∧ w.heap[g2]? = some (.cells #[.slice (some ⟨g, 0, none⟩) 30 30] 240 (0, 0)) ∧ w.heap[g]? = some (.cells (flatV (d.map rowV)) 207 (0, 0)) ∧ d.map key = Trt.L176 ∧ (∀ r ∈ d, Fine r w) ∧ Below W.heap.size W w)
  case first =>
    rename_i J K' hJ hK
    refine Rin.wp_region_to (l' := Trt.ops) (by kernel_rfl) ?_
    refine Rin.wp_region_slots 83 95 Trt.D (T (Trt.KL W.heap.size)) hm (by kernel_rfl) (by kernel_rfl) (by kernel_rfl) rfl (by decide +kernel) (fun i j hi hj => (by decide +kernel : ∀ i, i < 83 → ∀ j, j < 83 → Trt.D i = Trt.D j → i = j) i hi j hj) (fun _ _ _ _ => T.on) ?_ ?_
    · intro i o a w hi ho hR hS
      exact Trt.steps rfl (heap_alloc_new _ _) (by simp) i hi _ a w hR fun k hk he => hS k hk (by rw [ho] at he; simpa using he)
    · intro a w hR hS
      obtain ⟨g, d, h85, hg, hk, hf⟩ : Kd.holds (.rows Trt.L176) (a.eval (.tmp 85)) w := hS 81 (by omega)
      obtain ⟨g2, h2, hB2, hg2⟩ : Kd.holds (.ptr W.heap.size) (a.eval (.tmp 2)) w := hS 82 (by omega)
      have h1 : a.eval (.tmp 1) = .pointer (some ⟨W.heap.size, 0, none⟩) := (hR.rest 1 (by decide +kernel)).trans rfl
      have hg1 : w.heap[W.heap.size]? = some (.cells Trs.avInner 244 (0, 0)) := heap_on (heap_alloc_new _ _) hR.below
      refine Rin.step_store (d := none) (t := 240) (x := .tmp 2) (y := .tmp 85) (by kernel_rfl) _ (by rw [h2, h85]; exact run_store240 _ _ _ _ rfl hg2) ?_
      refine hK _ _ (Met.intro (hJ _ _ ?_))
      (repeat apply Exists.intro)
      refine ⟨?_, Rin.act_list 95 _ ?_ ?_⟩
      rotate_left
      · exact hR.size
      · exact hR.defers
      refine ⟨W.heap.size, g2, g, d, h1, h2, hB2, ?_, setRow_heap _ _ _ _ _ _ hg2, ?_, hk, fun r hr => Fine.set (hf r hr) hg2, ?_⟩
      · rw [setRow_other _ _ _ _ (apart hg1 hg2 (by decide))]; exact hg1
      · rw [setRow_other _ _ _ _ (apart hg hg2 (by rw [flat_len, ← List.length_map (f := key), hk]; decide))]; exact hg
      · exact below_row (Tab.then_ (below_alloc _ _) (by simp) hR.below) hB2 _
  case rest =>
    obtain ⟨g1, g2, g, d, rfl, rfl, hB2, hg1, hg2, hg, hk, hf, hB⟩ := hcut
    go_upto_region 3 with fail
    go_cut [0, 1, 2] from 3 (fun v0 v1 v2 w => ∃ (g3 cap : Nat) (cur : Array Value) (d3 : List Rw), v1 = .pointer (some ⟨g1, 0, none⟩) ∧ v2 = .pointer (some ⟨g2, 0, none⟩) ∧ W.heap.size ≤ g3 ∧ w.heap[g2]? = some (.cells #[.slice (some ⟨g3, 0, none⟩) 42 cap] 240 (0, 0)) ∧ w.heap[g3]? = some (.cells cur 207 (0, 0)) ∧ 42 ≤ cap ∧ cur.size = cap * 5 ∧ cur.toList.take (42 * 5) = (flatV (d3.map rowV)).toList ∧ d3.map key = Trt.L176 ++ Trs.L208 ∧ (∀ r ∈ d3, Fine r w) ∧ Below W.heap.size W w)
    case first =>
      rename_i J K' hJ hK
      refine Rin.wp_region_to (l' := ops3) (by kernel_rfl) ?_
      refine Rin.wp_region_slots 4 95 (fun i => 86 + i) (T (KL3 W.heap.size g)) hm (by kernel_rfl) (by kernel_rfl) (by kernel_rfl) rfl (fun i hi => by show 86 + i < 95; omega) (fun i j hi hj h => by have h : 86 + i = 86 + j := h; omega) (fun _ _ _ _ => T.on) ?_ ?_
      · intro i o a w hi ho hR hS
        exact steps3 rfl rfl hg1 hg2 hg hk hf hB.size i hi _ a w hR fun k hk he => hS k hk (by rw [ho] at he; simpa using he)
      · intro a w hR hS
        obtain ⟨g3, cap, cur, d3, h89, hB3, hg3, hcap, hcs, htk, hk3, hf3⟩ : Kd.holds (.grown W.heap.size (Trt.L176 ++ Trs.L208)) (a.eval (.tmp 89)) w := hS 3 (by omega)
        have h2 : a.eval (.tmp 2) = .pointer (some ⟨g2, 0, none⟩) := (hR.rest 2 (fun i hi => by show 86 + i ≠ 2; omega)).trans rfl
        have h1 : a.eval (.tmp 1) = .pointer (some ⟨g1, 0, none⟩) := (hR.rest 1 (fun i hi => by show 86 + i ≠ 1; omega)).trans rfl
        have hg2' := heap_on hg2 hR.below
        refine Rin.step_store (d := none) (t := 240) (x := .tmp 2) (y := .tmp 89) (by kernel_rfl) _ (by rw [h2, h89]; exact run_store240 _ _ _ _ rfl hg2') ?_
        refine hK _ _ (Met.intro (hJ _ _ ?_))
        (repeat apply Exists.intro)
        refine ⟨?_, Rin.act_list 95 _ ?_ ?_⟩
        rotate_left
        · exact hR.size
        · exact hR.defers
        refine ⟨g3, cap, cur, d3, h1, h2, hB3, setRow_heap _ _ _ _ _ _ hg2', ?_, hcap, hcs, htk, hk3, fun r hr => Fine.set (hf3 r hr) hg2', below_row (Tab.then_ hB hB.size hR.below) hB2 _⟩
        rw [setRow_other _ _ _ _ (apart hg3 hg2' (by rw [hcs]; have : 42 ≤ cap := hcap; show cap * 5 ≠ 1; omega))]
        exact hg3
    case rest =>
      obtain ⟨g3, cap, cur, d3, rfl, rfl, hB3, hg2', hg3, hcap, hcs, htk, hk3, hf3, hB'⟩ := hcut
      have n3 : d3.length = 42 := by rw [← List.length_map (f := key), hk3]; rfl
      have c2 := cell_of_row wc g2 0 _ _ _ hg2'
      have hlt3 : g3 < wc.heap.size := (Array.getElem?_eq_some_iff.1 hg3).1
      have hne : g2 ≠ g3 := apart hg2' hg3 (by rw [hcs]; show 1 ≠ cap * 5; omega)
      have hlt2 : g2 < wc.heap.size := (Array.getElem?_eq_some_iff.1 hg2').1
      have hsrt := Sra.sorted g3 cap g2 d3.toArray (by simpa using n3) wc (holds_rows d3 hg3 hcs (by omega) (by rw [n3]; exact htk)) hlt3 c2 hne
      clear hg2 hg1 hg
      go_wp2_with (go_at_call 209; refine hsrt.mono ?_; rintro e w' ⟨rfl, d', hp, hH', ho, ht, hou, hsz, hbl⟩; have c2' : w'.cell? ⟨g2, 0, none⟩ = some (.slice (some ⟨g3, 0, none⟩) 42 cap) := (World.cell?_of_block (hbl g2 hlt2 hne)).trans c2)
      go_ret
      have s42 : d'.size = 42 := hp.1.trans (by simpa using n3)
      have e1 : d'.extract 0 42 = d' := by rw [← s42]; simp
      have e2 : d3.toArray.extract 0 42 = d3.toArray := by rw [← n3]; simp
      have hperm := hp.2.2
      rw [e1, e2] at hperm
      refine ⟨g3, cap, d', rfl, hB3, hH', s42, (hperm.map key).trans (by rw [hk3]), fun r hr => ?_, ?_⟩
      · have hr3 := hf3 r (hperm.mem_iff.1 hr)
        refine ⟨hr3.1, fun e => ?_⟩
        obtain ⟨k, h1, h2, h3, h4⟩ := hr3.2 e
        refine ⟨k, h1, h2, h3, ?_⟩
        rw [hbl k (Array.getElem?_eq_some_iff.1 h4).1 (apart h4 hg3 (by rw [trc_size, hcs]; show 12 ≠ cap * 5; omega))]
        exact h4
      · exact ⟨ho.trans hB'.os, ht.trans hB'.tape, hou.trans hB'.output, Nat.le_trans hB'.size hsz, fun k hk => (hbl k (Nat.lt_of_lt_of_le hk hB'.size) (by omega)).trans (hB'.block k hk)⟩
end Go.Proofs.YtpgodgfkbkfpcaaGreat.Trv
