/- New at trace. No condition. -/
import Derived.Test.YtpgodgfkbkfpcaaGreatBrt
import Derived.Test.YtpgodgfkbkfpcaaGreatNed
import Derived.Deep.CutBlock
import Derived.Deep.DeepCutAuto
set_option linter.unusedVariables false
set_option linter.unusedSimpArgs false
namespace Go.Proofs.YtpgodgfkbkfpcaaGreat.Tim
open Go.Shelf Go.RowKit Go.Proofs.YtpgodgfkbkfpcaaGreat.Trb Go.Proofs.YtpgodgfkbkfpcaaGreat.Bui Go.Proofs.YtpgodgfkbkfpcaaGreat.Fom
theorem app_e {P : Program} {ops : Array Oper} {rest : List Oper} {o : Oper} {a : Act} {w : World} {Q : Exit → Act → World → Prop} (hgd : o.guard = none) (s x : Operand) (t : TypeId)
    (ho : o.op = .call { callee := .builtin .append, args := #[s, x], argTypes := #[t, t] })
    (e : TypeId) (i : TypeInfo) (z : Value) (size bytes : Nat) (ht : P.underlying t = some (.slice e)) (hi : P.info? e = some i) (hz : i.zero = some z)
    (hsize : i.size = size) (hby : i.bytes = bytes) (hzs : z.cells.size = size) (hsz : 0 < size) (g1 : Nat) (hs : a.eval s = .slice (some ⟨g1, 0, none⟩) 0 0) (hg1 : w.heap[g1]? = some (.cells #[] e (0, 0)))
    (g2 m c2 : Nat) (l : List Value) (hx : a.eval x = .slice (some ⟨g2, 0, none⟩) m c2) (hl : l.length = m * size) (hc : ∀ j u, l[j]? = some u → w.cell? ⟨g2, j, none⟩ = some u) (hone : ∀ u ∈ l, u.oneCell' = true)
    (hm : 0 < m) (h63 : m ≤ maxLen) (hbytes : m * bytes ≤ 140737488355328)
    (hK : ∀ g cap cur w', g1 ≤ g → w'.heap[g]? = some (.cells cur e (0, 0)) → cur.toList.take (m * size) = l → cur.size = cap * size → m ≤ cap → Below g1 w w' → wpList P ops Q rest (a.put o.dst (.slice (some ⟨g, 0, none⟩) m cap)) w') : wpList P ops Q (o :: rest) a w := by
  have hlt : g1 < w.heap.size := (Array.getElem?_eq_some_iff.1 hg1).1
  refine wpList_append_lies w hgd s x t ho g1 e i z size bytes ht hi hz hsize hby hzs hsz _ 0 [] hs ⟨by simp, .inr ⟨g1, 0, #[], rfl, Nat.le_refl _, hg1, Nat.le_refl _, Nat.zero_le _, by simp, by simp⟩⟩ ⟨g2, 0, none⟩ m c2 l hx hl (fun j u hu => by rw [Rin.add_zero]; exact hc j u hu) hone hm (by omega) (by rw [Nat.zero_add]; exact hbytes) (Nat.le_of_lt hlt) _ rfl ?_
  rintro g cap w' ⟨-, h | ⟨g', cap', cur, h1, h2, h3, h4, -, h5, h6⟩⟩ hgr - -
  · cases h.1
  · injection h1 with e1 e2 e3
    injection e1 with e1
    injection e1 with e1
    subst e1 e3
    rw [Nat.zero_add] at h4 h6 ⊢
    exact hK g cap cur w' h2 h3 (by simpa using h6) h5 h4 ⟨hgr.os, hgr.tape, hgr.output, hgr.size, fun k hk => hgr.block k (by omega) (by simp only [Value.ownBlock, ne_eq, Option.some.injEq]; omega)⟩
theorem Fresh.le {B B' gn gi k gk kc gm cm : Nat} {w : World} (h : Fresh B gn gi k gk kc gm cm w) (hB : B' ≤ B) : Fresh B' gn gi k gk kc gm cm w :=
  ⟨Nat.le_trans hB h.b1, Nat.le_trans hB h.b2, Nat.le_trans hB h.b3, h.e1, h.e2, h.lea, h.ke, h.m⟩
theorem Fresh.far {B gn gi k gk kc gm cm g j : Nat} {w : World} {v : Value} (h : Fresh B gn gi k gk kc gm cm w) (hg : g < B) : Fresh B gn gi k gk kc gm cm (w.setCell ⟨g, j, none⟩ v) := by
  have := h.b1
  have := h.b2
  have := h.b3
  exact ⟨h.b1, h.b2, h.b3, h.e1, h.e2, h.lea.same (heap_far (by omega)), h.ke.same (heap_far (by omega)), (cell_far (by omega)).trans h.m⟩
theorem one_on {w w' : World} {g : Nat} (h : Mec.One w g) (hb : w'.heap[g]? = w.heap[g]?) : Mec.One w' g := ⟨(World.cell?_of_block hb).trans h.c0, (World.cell?_of_block hb).trans h.c1, (World.cell?_of_block hb).trans h.c2⟩
noncomputable def tW : TypeInfo := (Tryz.prog.info? 79).get (by kernel_rfl)
set_option maxHeartbeats 1000000 in
set_option maxRecDepth 100000 in
theorem New_tr (gl cl gn gi : Nat) (W : World) (h : Mec.One W gl) (hn : W.cell? ⟨gn, 0, none⟩ = some (.int .u32 1056964608)) (hi : W.cell? ⟨gi, 0, none⟩ = some (.int .i64 0)) :
    Calls Tryz.prog 21 #[Mea.tx 7 (.slice (some ⟨gn, 0, none⟩) 1 1) (.slice (some ⟨gi, 0, none⟩) 1 1), .slice (some ⟨gl, 0, none⟩) 1 cl] W fun e w' =>
      (∃ m k ql qc B gk kc gm cm, e = .returned (.tuple #[.pointer (some ⟨m, 0, none⟩), .int .i64 0]) ∧ W.heap.size ≤ m ∧ W.heap.size ≤ ql ∧ m < B ∧ ql < B ∧ m ≠ ql ∧ Mac w' m 0 (.slice (some ⟨ql, 0, none⟩) 1 qc) k ∧ Mec.One w' ql ∧ Fresh B gn gi k gk kc gm cm w') ∧ Below W.heap.size W w' := by
  have z0 : gl < W.heap.size := World.block_lt_of_cell? _ _ h.c0
  have hv := fun w (hB : Below W.heap.size W w) => Valid_tr gl cl gn gi w (one_on h (hB.block gl z0)) ((hB.cell (World.block_lt_of_cell? _ _ hn)).trans hn) ((hB.cell (World.block_lt_of_cell? _ _ hi)).trans hi)
  unfold Mea.tx at hv ⊢
  go_enter Tryz.func21, Tryz.ntmps21
  go_upto_block 0 with (go_at_call 50; refine (hv _ (below_alloc _ _)).mono ?_; rintro e w1 ⟨rfl, hb⟩; have v2 : w1.heap[W.heap.size]? = some (.cells #[.int .i64 7, .slice (some ⟨gn, 0, none⟩) 1 1, .slice (some ⟨gi, 0, none⟩) 1 1, .slice none 0 0, .int .i64 0, .slice none 0 0, .slice none 0 0, .slice none 0 0, .slice none 0 0] 30 (0, 0)) := heap_on (heap_alloc_new _ _) hb; obtain ⟨j0, j1, j2, j3, j4, j5, j6, j7, j8⟩ := nine v2)
  have x0 : W.heap.size < w1.heap.size := World.block_lt_of_cell? _ _ j0
  have hB1 : Below W.heap.size W w1 := Tab.then_ (below_alloc _ _) (by simp) hb
  obtain ⟨c0, c1, c2⟩ := one_on h (hB1.block gl z0)
  have x1 : gl < w1.heap.size := by omega
  have HH : Hid _ := h
  clear hv hb h j0 j1 j2 j3 j4 j5 j6 j7 j8
  go_wp2
  refine wp_loop_rounds 2 ?_
  rw [rounds_succ]
  go_wp2_with (at_builtin; refine Mec.app_nil rfl (.tmp 21) (.tmp 23) 23 rfl 3 Mec.tInt (.int .i64 0) 1 8 Tryz.underlying23 (by kernel_rfl) (by kernel_rfl) (by kernel_rfl) (by kernel_rfl) rfl (by decide) (by rfl) w1.heap.size 1 1 _ (0, 0) (by rfl) (heap_alloc_new _ _) (by rfl) (by kernel_rfl) (by decide) (by unfold maxLen; omega) (by omega) ?_; intro ga ca cur w2 hk h3 ht hcs hc hb)
  have ha : w2.cell? ⟨ga, 0, none⟩ = some (.int .i64 0) := (cell_of_row _ _ 0 _ _ _ h3).trans (take_at (cs := #[.int .i64 0]) (n := 1) ht (by omega))
  have hB2 : Below W.heap.size W w2 := Tab.then_ (Tab.then_ hB1 (by omega) (below_alloc _ _)) (by simp; omega) hb
  have v3 := heap_on (heap_on v2 (below_alloc w1 (.cells #[.int .i64 0] 3))) hb
  have x2 : W.heap.size < w2.heap.size := (Array.getElem?_eq_some_iff.1 v3).1
  have x3 : gl < w2.heap.size := by omega
  have x4 : ga < w2.heap.size := World.block_lt_of_cell? _ _ ha
  obtain ⟨d0, d1, d2⟩ := one_on HH.out (hB2.block gl z0)
  clear hb h3 ht hcs hc hk v2 hB1 x0 x1 c0 c1 c2
  rw [rounds_succ]
  go_upto_region 11 with fail
  generalize hqc : (Question.appendCap 1 0 79).cut (w2.tape w2.drawn (Question.appendCap 1 0 79)) = qc
  have o1 := Tab.new_at (w2.alloc (.cells #[] 79)) (.cells (#[.string ⟨#[119]⟩, .int .i64 1, .int .i64 1] ++ Builtin.zeroCells #[.string ⟨#[]⟩, .int .i64 0, .int .i64 0] (qc - 1)) 79) (n := w2.heap.size + 1) (by simp)
  have m0 := Tab.new_at ((w2.alloc (.cells #[] 79)).alloc (.cells (#[.string ⟨#[119]⟩, .int .i64 1, .int .i64 1] ++ Builtin.zeroCells #[.string ⟨#[]⟩, .int .i64 0, .int .i64 0] (qc - 1)) 79)) (.cells #[.int .i64 0, .slice (some ⟨w2.heap.size + 1, 0, none⟩) 1 qc, .nilIface] 94) (n := w2.heap.size + 1 + 1) (by simp)
  have o2 := heap_on o1 (below_alloc _ (.cells #[.int .i64 0, .slice (some ⟨w2.heap.size + 1, 0, none⟩) 1 qc, .nilIface] 94))
  have v4 := heap_on (heap_on (heap_on v3 (below_alloc w2 (.cells #[] 79))) (below_alloc _ (.cells (#[.string ⟨#[119]⟩, .int .i64 1, .int .i64 1] ++ Builtin.zeroCells #[.string ⟨#[]⟩, .int .i64 0, .int .i64 0] (qc - 1)) 79))) (below_alloc _ (.cells #[.int .i64 0, .slice (some ⟨w2.heap.size + 1, 0, none⟩) 1 qc, .nilIface] 94))
  have hb3 := Tab.then_ (Tab.then_ (below_alloc w2 (.cells #[] 79)) (by simp) (below_alloc _ (.cells (#[.string ⟨#[119]⟩, .int .i64 1, .int .i64 1] ++ Builtin.zeroCells #[.string ⟨#[]⟩, .int .i64 0, .int .i64 0] (qc - 1)) 79))) (by simp; omega) (below_alloc _ (.cells #[.int .i64 0, .slice (some ⟨w2.heap.size + 1, 0, none⟩) 1 qc, .nilIface] 94))
  have hs3 : (((w2.alloc (.cells #[] 79)).alloc (.cells (#[.string ⟨#[119]⟩, .int .i64 1, .int .i64 1] ++ Builtin.zeroCells #[.string ⟨#[]⟩, .int .i64 0, .int .i64 0] (qc - 1)) 79)).alloc (.cells #[.int .i64 0, .slice (some ⟨w2.heap.size + 1, 0, none⟩) 1 qc, .nilIface] 94)).heap.size = w2.heap.size + 3 := by simp
  have hone : Mec.One (((w2.alloc (.cells #[] 79)).alloc (.cells (#[.string ⟨#[119]⟩, .int .i64 1, .int .i64 1] ++ Builtin.zeroCells #[.string ⟨#[]⟩, .int .i64 0, .int .i64 0] (qc - 1)) 79)).alloc (.cells #[.int .i64 0, .slice (some ⟨w2.heap.size + 1, 0, none⟩) 1 qc, .nilIface] 94)) (w2.heap.size + 1) :=
    ⟨(cell_of_row _ _ 0 _ _ _ o2).trans ((Array.getElem?_append_left (show 0 < 3 by omega)).trans rfl), (cell_of_row _ _ 1 _ _ _ o2).trans ((Array.getElem?_append_left (show 1 < 3 by omega)).trans rfl), (cell_of_row _ _ 2 _ _ _ o2).trans ((Array.getElem?_append_left (show 2 < 3 by omega)).trans rfl)⟩
  have ha3 := (hb3.cell (World.block_lt_of_cell? _ _ ha)).trans ha
  have hB3 := Tab.then_ hB2 hB2.size hb3
  generalize (((w2.alloc (.cells #[] 79)).alloc (.cells (#[.string ⟨#[119]⟩, .int .i64 1, .int .i64 1] ++ Builtin.zeroCells #[.string ⟨#[]⟩, .int .i64 0, .int .i64 0] (qc - 1)) 79)).alloc (.cells #[.int .i64 0, .slice (some ⟨w2.heap.size + 1, 0, none⟩) 1 qc, .nilIface] 94)) = w3 at m0 v4 hs3 hone ha3 hB3 ⊢
  clear o1 o2 hb3 d0 d1 d2 hqc v3 ha
  go_cut [0, 1, 2, 3, 4, 5, 6, 7, 8, 9] from 10 (fun v0 v1 v2 v3 v4 v5 v6 v7 v8 v9 w => ∃ k gk kc gm cm, v9 = .pointer (some ⟨w2.heap.size + 1 + 1, 0, none⟩) ∧ Mac w (w2.heap.size + 1 + 1) 0 (.slice (some ⟨w2.heap.size + 1, 0, none⟩) 1 qc) k ∧ Mec.One w (w2.heap.size + 1) ∧ Fresh (w2.heap.size + 3) gn gi k gk kc gm cm w ∧ Below W.heap.size W w)
  case first =>
    rename_i J K' hJ hK
    refine Rin.wp_region_to (l' := ops21) (by kernel_rfl) ?_
    refine reg11 (op := 7) (gm := w2.heap.size + 1 + 1) (gt := W.heap.size) (lv := .slice (some ⟨w2.heap.size + 1, 0, none⟩) 1 qc) (av := .slice (some ⟨ga, 0, none⟩) 1 ca) (nums := .slice (some ⟨gn, 0, none⟩) 1 1) (ints := .slice (some ⟨gi, 0, none⟩) 1 1)
      (fun k w => ∃ gk kc gm cm, Fresh (w2.heap.size + 3) gn gi k gk kc gm cm w)
      (fun k w w' h hB => by obtain ⟨gk, kc, gm, cm, h⟩ := h; exact ⟨gk, kc, gm, cm, h.on hB⟩) rfl rfl rfl rfl m0 v4 (fun w hB => by
        have hw : Below w3.heap.size w3 w := ⟨hB.os, hB.tape, hB.output, hB.size, hB.block⟩
        refine (build_tr _ qc ga ca gn gi w (one_on hone (hw.block _ (by omega))) ((hw.cell (World.block_lt_of_cell? _ _ ha3)).trans ha3)).mono fun e w' h => ⟨?_, h.2⟩
        obtain ⟨⟨k, h1, gk, kc, gm, cm, h2⟩, _⟩ := h
        exact ⟨k, h1, gk, kc, gm, cm, h2.le (by have := hw.size; omega)⟩) ?_
    intro a w k hN hd ht hk hB
    obtain ⟨gk, kc, gm, cm, hk⟩ := hk
    have hw : Below w3.heap.size w3 w := ⟨hB.os, hB.tape, hB.output, hB.size, hB.block⟩
    refine hK _ _ (Met.intro (hJ _ _ ?_))
    (repeat apply Exists.intro)
    refine ⟨?_, Rin.act_list 42 _ hN hd⟩
    have hgm := heap_on m0 hw
    have hBW : Below W.heap.size W w := Tab.then_ hB3 hB3.size hw
    refine ⟨k, gk, kc, gm, cm, (ht 9 (by omega)).trans rfl, mac_set hgm, (one_on hone (hw.block _ (by omega))) |> fun h => one_on h (heap_far (by omega)), hk.far (by omega), Paz.bs hBW (by have := hB2.size; omega)⟩
  case rest =>
    obtain ⟨k, gk, kc, gm, cm, rfl, hM, hO, hF, hB⟩ := hcut
    go_wp2
    go_ret2
    have := hB2.size
    exact ⟨⟨w2.heap.size + 1 + 1, k, w2.heap.size + 1, qc, w2.heap.size + 3, gk, kc, gm, cm, rfl, by omega, by omega, by omega, by omega, by omega, hM, hO, hF⟩, hB⟩
end Go.Proofs.YtpgodgfkbkfpcaaGreat.Tim
