/- append to nothing; the parameters of one. No condition. -/
import Derived.Test.YtpgodgfkbkfpcaaGreatMec
import Derived.Test.YtpgodgfkbkfpcaaGreatRio
import Derived.Deep.CutBlock
import Derived.Deep.DeepCutAuto
set_option linter.unusedVariables false
set_option linter.unusedSimpArgs false
namespace Go.Proofs.YtpgodgfkbkfpcaaGreat.Mec
open Go.RowKit
theorem app_nil {P : Program} {ops : Array Oper} {rest : List Oper} {o : Oper} {a : Act} {w : World} {Q : Exit → Act → World → Prop} (hgd : o.guard = none) (s x : Operand) (t : TypeId)
    (ho : o.op = .call { callee := .builtin .append, args := #[s, x], argTypes := #[t, t] })
    (e : TypeId) (i : TypeInfo) (z : Value) (size bytes : Nat) (ht : P.underlying t = some (.slice e)) (hi : P.info? e = some i) (hz : i.zero = some z)
    (hsize : i.size = size) (hby : i.bytes = bytes) (hzs : z.cells.size = size) (hsz : 0 < size) (hs : a.eval s = .slice none 0 0)
    (g2 m c2 : Nat) (cs2 : Array Value) (fr : Nat × Nat) (hx : a.eval x = .slice (some ⟨g2, 0, none⟩) m c2) (hg2 : w.heap[g2]? = some (.cells cs2 e fr)) (hl2 : cs2.size = m * size) (hone : cs2.all (·.oneCell') = true)
    (hm : 0 < m) (h63 : m ≤ maxLen) (hbytes : m * bytes ≤ 140737488355328)
    (hK : ∀ g cap cur w', w.heap.size ≤ g → w'.heap[g]? = some (.cells cur e (0, 0)) → cur.toList.take (m * size) = cs2.toList → cur.size = cap * size → m ≤ cap → Below w.heap.size w w' → wpList P ops Q rest (a.put o.dst (.slice (some ⟨g, 0, none⟩) m cap)) w') : wpList P ops Q (o :: rest) a w := by
  refine wpList_append_lies w hgd s x t ho w.heap.size e i z size bytes ht hi hz hsize hby hzs hsz _ 0 [] hs (World.ownsRow_nil w _ e size) ⟨g2, 0, none⟩ m c2 cs2.toList hx (by simpa using hl2) (Rin.row_cells hg2) (fun u hu => by rw [Array.all_eq_true_iff_forall_mem] at hone; exact hone u (Array.mem_toList_iff.1 hu)) hm (by omega) (by rw [Nat.zero_add]; exact hbytes) (Nat.le_refl _) _ rfl ?_
  rintro g cap w' ⟨-, h | ⟨g', cap', cur, h1, h2, h3, h4, -, h5, h6⟩⟩ hgr - -
  · cases h.1
  · injection h1 with e1 e2 e3
    injection e1 with e1
    injection e1 with e1
    subst e1 e3
    rw [Nat.zero_add] at h4 h6 ⊢
    exact hK g cap cur w' h2 h3 (by simpa using h6) h5 h4 ⟨hgr.os, hgr.tape, hgr.output, hgr.size, fun k hk => hgr.block k hk (by simp [Value.ownBlock])⟩
noncomputable def tInt : TypeInfo := (Tryz.prog.info? 3).get (by kernel_rfl)
set_option maxHeartbeats 400000 in
set_option maxRecDepth 100000 in
theorem all_w (g c : Nat) (W : World) : Calls Tryz.prog 78 #[.slice (some ⟨g, 0, none⟩) 1 c] W fun e w' => (∃ k cap, e = .returned (.slice (some ⟨k, 0, none⟩) 1 cap) ∧ W.heap.size ≤ k ∧ w'.cell? ⟨k, 0, none⟩ = some (.int .i64 0)) ∧ Below W.heap.size W w' := by
  go_enter Tryz.func78, Tryz.ntmps78
  go_wp2
  refine wp_loop_rounds 2 ?_
  rw [rounds_succ]
  go_wp2_with (at_builtin; refine app_nil rfl (.tmp 10) (.tmp 12) 23 rfl 3 tInt (.int .i64 0) 1 8 Tryz.underlying23 (by kernel_rfl) (by kernel_rfl) (by kernel_rfl) (by kernel_rfl) rfl (by decide) (by rfl) W.heap.size 1 1 _ (0, 0) (by rfl) (heap_alloc_new _ _) (by rfl) (by kernel_rfl) (by decide) (by unfold maxLen; omega) (by omega) ?_; intro k cap cur w1 hk h3 ht hcs hc hb)
  have c0 : w1.cell? ⟨k, 0, none⟩ = some (.int .i64 0) := by
    rw [cell_of_row _ _ 0 _ _ _ h3, ← Array.getElem?_toList]
    have := congrArg (fun l => l[0]?) ht
    simpa using this
  rw [rounds_succ]
  go_wp2
  go_ret
  exact ⟨⟨k, cap, rfl, by simp at hk; omega, c0⟩, Tab.then_ ((Below.refl _ _).alloc (Nat.le_refl _) _) (by simp) hb⟩
theorem look0 (w : World) (b : Nat) (s : ByteArray) (hb : w.heap[b]? = some (.map #[] 0)) : (Instr.lookup 203 (.map (some b)) (.string s) false).run Tryz.prog w = .ok (.int .i64 0) w := by
  have h1 := Tryz.underlying203
  have h2 := Tryz.underlying9
  have hc : ∀ b, (Instr.checkKey b 10000 9 (.string s)).run Tryz.prog w = .ok () w := fun b => by
    rw [show (10000 : Nat) = 9999 + 1 from rfl, Instr.checkKey]
    simp [run_underlying h2]
  have hg : (getObj b).run Tryz.prog w = .ok (.map #[] 0) w := by simp [getObj, Sem.run, hb]
  simp [Instr.lookup, run_underlying h1, hg, hc, Instr.findKey, run_underlying h2, Instr.findNow]
theorem upd0 (w : World) (b : Nat) (s : ByteArray) (v : Value) (hb : w.heap[b]? = some (.map #[] 0)) : (Instr.mapUpdate 203 (.map (some b)) (.string s) v).run Tryz.prog w = .ok () { w with heap := w.heap.setIfInBounds b (.map #[{ key := .string s, val := v, born := 0 }] 1) } := by
  have h1 := Tryz.underlying203
  have h2 := Tryz.underlying9
  have hc : ∀ b, (Instr.checkKey b 10000 9 (.string s)).run Tryz.prog w = .ok () w := fun b => by
    rw [show (10000 : Nat) = 9999 + 1 from rfl, Instr.checkKey]
    simp [run_underlying h2]
  have hg : (getObj b).run Tryz.prog w = .ok (.map #[] 0) w := by simp [getObj, Sem.run, hb]
  have hs : ∀ o : Obj, (setObj b o).run Tryz.prog w = .ok () { w with heap := w.heap.setIfInBounds b o } := fun o => by simp [setObj, Sem.run, hb]
  simp [Instr.mapUpdate, run_underlying h1, hg, hc, Instr.findKey, run_underlying h2, Instr.findNow, hs]
set_option maxHeartbeats 1000000 in
set_option maxRecDepth 100000 in
theorem check_w (g c : Nat) (W : World) (h : One W g) : Calls Tryz.prog 76 #[.slice (some ⟨g, 0, none⟩) 1 c] W fun e w' => e = .returned (.int .i64 0) ∧ Below W.heap.size W w' := by
  have hmm := @run_makeMap Tryz.prog
  have hm := may_w
  unfold pw at hm
  obtain ⟨c0, c1, c2⟩ := h
  have hg : g < W.heap.size := World.block_lt_of_cell? _ _ c0
  have hg2 : g < W.heap.size + 1 := by omega
  go_enter Tryz.func76, Tryz.ntmps76
  go_wp2
  refine wp_loop_rounds 2 ?_
  rw [rounds_succ]
  go_upto_region 9 with (go_at_call 92; refine (hm _).mono ?_; rintro e w1 ⟨rfl, hb⟩)
  have hmap : w1.heap[W.heap.size]? = some (.map #[] 0) := (hb.block W.heap.size (by simp; omega)).trans ((heap_alloc_old _ _ (by simp)).trans (heap_alloc_new _ _))
  have m0 : w1.cell? ⟨W.heap.size + 1, 0, none⟩ = some (.string ⟨#[119]⟩) := (hb.cell (p := ⟨W.heap.size + 1, 0, none⟩) (by simp)).trans (by go_simp)
  have hlt : W.heap.size < w1.heap.size := (Array.getElem?_eq_some_iff.1 hmap).1
  have hB1 : Below W.heap.size W w1 := Tab.then_ (((Below.refl _ _).alloc (Nat.le_refl _) _).alloc (by simp) _) (by simp; omega) hb
  have hl := look0 w1 W.heap.size ⟨#[119]⟩ hmap
  have hu := upd0 w1 W.heap.size ⟨#[119]⟩ (.int .i64 1) hmap
  have hB2 : Below W.heap.size W { w1 with heap := w1.heap.setIfInBounds W.heap.size (.map #[{ key := .string ⟨#[119]⟩, val := .int .i64 1, born := 0 }] 1) } := by
    refine ⟨hB1.os, hB1.tape, hB1.output, by simpa using hB1.size, fun k hk => ?_⟩
    show (w1.heap.setIfInBounds W.heap.size _)[k]? = _
    rw [Array.getElem?_setIfInBounds_ne (by omega)]
    exact hB1.block k hk
  have hm2 : ({ w1 with heap := w1.heap.setIfInBounds W.heap.size (.map #[{ key := .string ⟨#[119]⟩, val := .int .i64 1, born := 0 }] 1) } : World).heap[W.heap.size]? = some (.map #[{ key := .string ⟨#[119]⟩, val := .int .i64 1, born := 0 }] 1) := by
    show (w1.heap.setIfInBounds W.heap.size _)[W.heap.size]? = _
    simp [hlt]
  generalize ({ w1 with heap := w1.heap.setIfInBounds W.heap.size (.map #[{ key := .string ⟨#[119]⟩, val := .int .i64 1, born := 0 }] 1) } : World) = w2 at hu hB2 hm2
  have hlen : (Builtin.len_ #[203] 3 #[.map (some W.heap.size)]).run Tryz.prog w2 = .ok (.int .i64 1) w2 := run_len_map (P := Tryz.prog) (w := w2) 203 3 W.heap.size _ 1 (by kernel_rfl) hm2
  have ht := total_w g c w2 ⟨(hB2.cell (p := ⟨g, 0, none⟩) hg).trans c0, (hB2.cell (p := ⟨g, 1, none⟩) hg).trans c1, (hB2.cell (p := ⟨g, 2, none⟩) hg).trans c2⟩
  clear hmap hb hm
  go_wp2
  rw [rounds_succ]
  go_wp2_with (go_at_call 129; refine ht.mono ?_; rintro e w3 ⟨rfl, hb3⟩)
  go_ret
  exact ⟨rfl, Tab.then_ hB2 hB2.size hb3⟩
end Go.Proofs.YtpgodgfkbkfpcaaGreat.Mec
