/- build at trace: its two regions that draw their order. No condition. -/
import Derived.Test.YtpgodgfkbkfpcaaGreatBla
set_option linter.unusedVariables false
set_option linter.unusedSimpArgs false
namespace Go.Proofs.YtpgodgfkbkfpcaaGreat.Tim
open Go.Shelf Go.RowKit Go.Proofs.YtpgodgfkbkfpcaaGreat.Trb Go.Proofs.YtpgodgfkbkfpcaaGreat.Bui Go.Proofs.YtpgodgfkbkfpcaaGreat.Fom
noncomputable def ops44 : Array Oper := opsIn Tryz.f51 44
noncomputable def ops47 : Array Oper := opsIn Tryz.f51 47
def D44 (i : Nat) : Nat := if i < 6 then 204 + i else 22
def row172 (g c z q : Nat) : Array Value := #[.int .i64 0, .int .i64 0, .bool false, .slice (some ⟨g, 0, none⟩) 1 c, .slice none 0 0, .slice (some ⟨z, 0, none⟩) 1 1, .slice (some ⟨q, 0, none⟩) 1 1]
def nil172 : Array Value := #[.int .i64 0, .int .i64 0, .bool false, .slice none 0 0, .slice none 0 0, .slice none 0 0, .slice none 0 0]
noncomputable def tK : TypeInfo := (Tryz.prog.info? 172).get (by kernel_rfl)
theorem alloc172 (w : World) : (Instr.alloc 172 true (.tuple #[])).run Tryz.prog w = .ok (.pointer (some ⟨w.heap.size, 0, none⟩)) (w.alloc (.cells nil172 172)) := by
  have h1 : Tryz.prog.info? 172 = some tK := by kernel_rfl
  have h2 : tK.zero = some (.agg nil172) := by kernel_rfl
  simp [Instr.alloc, zeroValue, typeInfo, h1, h2, newVar, newRow, Value.cells]
theorem store172 (w : World) (p g c z q : Nat) (hg : w.heap[p]? = some (.cells nil172 172 (0, 0))) : (Instr.storeAt 172 (.pointer (some ⟨p, 0, none⟩)) (.agg (row172 g c z q))).run Tryz.prog w = .ok () (w.setRow p (row172 g c z q)) := by
  have := run_storeVar_row (P := Tryz.prog) w p 172 172 nil172 (row172 g c z q) hg (by kernel_rfl) rfl (by kernel_rfl)
  simp [Instr.storeAt, Instr.sureAddr, this]
theorem store166 (w : World) (g k : Nat) (x : Value) (b : Addr) (n c : Nat) (hc : w.cell? ⟨g, k, none⟩ = some x) (hf : w.frozen? ⟨g, k, none⟩ = false) : (Instr.storeAt 166 (.pointer (some ⟨g, k, none⟩)) (.slice (some b) n c)).run Tryz.prog w = .ok () (w.setCell ⟨g, k, none⟩ (.slice (some b) n c)) := by
  have hi : Tryz.prog.info? 166 = some Tryz.t166 := by kernel_rfl
  have hs : Tryz.t166.size = 1 := by kernel_rfl
  have ha : (⟨g, k, none⟩ : Addr).add 0 = ⟨g, k, none⟩ := by unfold Addr.add; split <;> simp_all
  simp [Instr.storeAt, Instr.sureAddr, storeVar, sizeOf, typeInfo, hi, hs, Value.cells, storeCells, ha, hc, hf, run_store Tryz.prog w ⟨g, k, none⟩ (.slice (some b) n c) .plain rfl]
theorem ent83 : ∀ vs w, (callFunc 83 vs).run Tryz.prog w = .ok (.enter 83 vs) w := enters_of Tryz.func83 (by kernel_rfl) rfl
def T44 (B g c z : Nat) (t : Nat) (v : Value) (w : World) : Prop :=
  if t = 204 then v = pc g c else if t = 205 then v = .slice (some ⟨z, 0, none⟩) 1 1 else if t = 206 then v = pc g c else if t = 207 then v = .int .i64 1 else if t = 208 then ∃ q, v = .slice (some ⟨q, 0, none⟩) 1 1
  else if t = 209 then ∃ q, v = .agg (row172 g c z q) else ∃ p, v = .pointer (some ⟨p, 0, none⟩) ∧ B ≤ p ∧ w.heap[p]? = some (.cells nil172 172 (0, 0))
theorem T44.on {B g c z t : Nat} {v : Value} {w w' : World} (h : T44 B g c z t v w) (hB : Below w.heap.size w w') : T44 B g c z t v w' := by
  unfold T44 at h ⊢
  split <;> rename_i e1 <;> simp only [e1, if_true, if_false] at h <;> try exact h
  split <;> rename_i e2 <;> simp only [e2, if_true, if_false] at h <;> try exact h
  split <;> rename_i e3 <;> simp only [e3, if_true, if_false] at h <;> try exact h
  split <;> rename_i e4 <;> simp only [e4, if_true, if_false] at h <;> try exact h
  split <;> rename_i e5 <;> simp only [e5, if_true, if_false] at h <;> try exact h
  split <;> rename_i e6 <;> simp only [e6, if_true, if_false] at h <;> try exact h
  obtain ⟨p, h1, h2, h3⟩ := h
  exact ⟨p, h1, h2, heap_on h3 hB⟩
set_option maxHeartbeats 1000000 in
set_option maxRecDepth 100000 in
theorem reg44 {Q : Exit → Act → World → Prop} {a0 : Act} {w0 : World} {b19 g c z : Nat}
    (hN : a0.tmps.size = 230) (h19 : a0.eval (.tmp 19) = .pointer (some ⟨b19, 0, none⟩)) (h20 : a0.eval (.tmp 20) = .slice (some ⟨z, 0, none⟩) 1 1) (hb : w0.heap[b19]? = some (.cells (pcs g c) 102 (0, 0)))
    (hQ : ∀ (a : Act) (w : World) (p q : Nat), a.tmps.size = 230 → a.defers = a0.defers → (∀ t : Nat, t < 204 → t ≠ 22 → a.eval (.tmp t) = a0.eval (.tmp t)) → a.eval (.tmp 22) = .pointer (some ⟨p, 0, none⟩) → w0.heap.size ≤ p → w.heap[p]? = some (.cells (row172 g c z q) 172 (0, 0)) → Below w0.heap.size w0 w → Q .normal a w) :
    (Code.region 44 ops44 true).wp Tryz.prog Q a0 w0 := by
  have hm : Tryz.prog.follows .mixedOrders = true := by kernel_rfl
  refine Rin.wp_region_slots 7 230 D44 (T44 w0.heap.size g c z) hm (by kernel_rfl) (by kernel_rfl) (by kernel_rfl) hN (by decide +kernel) (fun i j hi hj => (by decide +kernel : ∀ i, i < 7 → ∀ j, j < 7 → D44 i = D44 j → i = j) i hi j hj) (fun t v w w' h hB => h.on hB) ?_ ?_
  · intro i o a w hi ho hR hS
    have rest : ∀ t : Nat, t < 204 → t ≠ 22 → a.eval (.tmp t) = a0.eval (.tmp t) := fun t ht h22 => hR.rest t (fun i hi e => by have e : (if i < 6 then 204 + i else 22 : Nat) = t := e; split at e <;> omega)
    have hS' : ∀ k, k < 7 → ((ops44[i]?).map fun o => o.after.any fun e => e.on == k && Region.binds .any e) = some true → T44 w0.heap.size g c z (D44 k) (a.eval (.tmp (D44 k))) w := fun k hk he => hS k hk (by rw [ho] at he; simpa using he)
    clear hS ho o
    match i, hi with
    | 0, _ => exact Rin.step_loadRow (d := some 204) (by kernel_rfl) b19 ((rest 19 (by omega) (by omega)).trans h19) 102 _ (0, 0) _ (heap_on hb hR.below) Tryz.underlying102 rfl (by kernel_rfl) ⟨_, rfl, rfl, Below.refl _ _⟩
    | 1, _ => exact Rin.step_move (d := some 205) (x := .tmp 20) (by kernel_rfl) ⟨_, rfl, (rest 20 (by omega) (by omega)).trans h20, Below.refl _ _⟩
    | 2, _ => exact Rin.step_loadRow (d := some 206) (by kernel_rfl) b19 ((rest 19 (by omega) (by omega)).trans h19) 102 _ (0, 0) _ (heap_on hb hR.below) Tryz.underlying102 rfl (by kernel_rfl) ⟨_, rfl, rfl, Below.refl _ _⟩
    | 3, _ =>
      have h206 : a.eval (.tmp 206) = pc g c := hS' 2 (by omega) (by kernel_rfl)
      refine Rin.step_call (args := [.tmp 206]) (ts := #[102]) (d := some 207) (by kernel_rfl) ent83 ?_
      show Calls _ 83 #[a.eval (.tmp 206)] _ _
      rw [h206]
      refine (size1 g c w).mono ?_
      rintro e w' ⟨rfl, hB⟩
      exact ⟨_, rfl, _, rfl, rfl, hB⟩
    | 4, _ =>
      have h207 : a.eval (.tmp 207) = .int .i64 1 := hS' 3 (by omega) (by kernel_rfl)
      exact Rin.step_run (d := some 208) (op := .makeSlice 22 (.tmp 207) (.tmp 207)) (by kernel_rfl) _ _ (by
        intro o ho
        unfold execOp
        simp [ho, h207, mk22, Result.andThen]
        exact ⟨rfl, rfl⟩) ⟨_, rfl, ⟨_, rfl⟩, below_alloc _ _⟩
    | 5, _ =>
      have h204 : a.eval (.tmp 204) = pc g c := hS' 0 (by omega) (by kernel_rfl)
      have h205 : a.eval (.tmp 205) = .slice (some ⟨z, 0, none⟩) 1 1 := hS' 1 (by omega) (by kernel_rfl)
      obtain ⟨q, h208⟩ : ∃ q, a.eval (.tmp 208) = .slice (some ⟨q, 0, none⟩) 1 1 := hS' 4 (by omega) (by kernel_rfl)
      exact Rin.step_build (t := 172) (l := [(0, .tmp 204), (1, .tmp 205), (2, .tmp 208)]) (d := some 209) (by kernel_rfl) (row172 g c z q) (by show Tryz.prog.built 172 [(0, a.eval (.tmp 204)), (1, a.eval (.tmp 205)), (2, a.eval (.tmp 208))] = _; rw [h204, h205, h208]; kernel_rfl) ⟨_, rfl, ⟨q, rfl⟩, Below.refl _ _⟩
    | 6, _ => exact Rin.step_alloc (d := some 22) (t := 172) (by kernel_rfl) _ _ (alloc172 w) ⟨_, rfl, ⟨_, rfl, hR.below.size, heap_alloc_new _ _⟩, below_alloc _ _⟩
    | i + 7, hi => exact absurd hi (by omega)
  · intro a w hR hS
    obtain ⟨q, h209⟩ : ∃ q, a.eval (.tmp 209) = .agg (row172 g c z q) := hS 5 (by omega)
    obtain ⟨p, h22, hBp, hp⟩ : ∃ p, a.eval (.tmp 22) = .pointer (some ⟨p, 0, none⟩) ∧ w0.heap.size ≤ p ∧ w.heap[p]? = some (.cells nil172 172 (0, 0)) := hS 6 (by omega)
    refine Rin.step_store (d := none) (t := 172) (x := .tmp 22) (y := .tmp 209) (by kernel_rfl) _ (by rw [h22, h209]; exact store172 _ _ _ _ _ _ hp) ?_
    exact hQ a _ p q hR.size hR.defers (fun t ht h22 => hR.rest t (fun i hi e => by have e : (if i < 6 then 204 + i else 22 : Nat) = t := e; split at e <;> omega)) h22 hBp (setRow_heap _ _ _ _ _ _ hp) (Trv.below_row hR.below hBp _)
def T47 (B k g c z q : Nat) (t : Nat) (v : Value) (w : World) : Prop :=
  if t = 223 then ∃ b, v = .slice (some ⟨b, 0, none⟩) 1 1 ∧ w.heap[b]? = some (.cells (row172 g c z q) 172 (0, 0)) else if t = 224 then ∃ gk cap, v = .slice (some ⟨gk, 0, none⟩) 1 cap ∧ B ≤ gk ∧ Ke w gk g c
  else if t = 220 then v = .pointer (some ⟨k, 10, none⟩) else if t = 226 then v = .pointer (some ⟨k, 10, none⟩) else if t = 221 then v = .slice none 0 0 else if t = 222 then v = .agg (row172 g c z q) else v = .pointer (some ⟨k, 0, none⟩)
theorem T47.on {B k g c z q t : Nat} {v : Value} {w w' : World} (h : T47 B k g c z q t v w) (hB : Below w.heap.size w w') : T47 B k g c z q t v w' := by
  by_cases e1 : t = 223
  · subst e1
    obtain ⟨b, h1, h2⟩ : ∃ b, v = .slice (some ⟨b, 0, none⟩) 1 1 ∧ w.heap[b]? = some (.cells (row172 g c z q) 172 (0, 0)) := h
    exact ⟨b, h1, heap_on h2 hB⟩
  · by_cases e2 : t = 224
    · subst e2
      obtain ⟨gk, cap, h1, h2, h3⟩ : ∃ gk cap, v = .slice (some ⟨gk, 0, none⟩) 1 cap ∧ B ≤ gk ∧ Ke w gk g c := h
      exact ⟨gk, cap, h1, h2, h3.on hB⟩
    · unfold T47 at h ⊢
      simp only [e1, e2, if_false] at h ⊢
      exact h
theorem ke_of {w : World} {q g c z y : Nat} {cur : Array Value} (h : w.heap[q]? = some (.cells cur 172 (0, 0))) (ht : cur.toList.take 7 = (row172 g c z y).toList) : Ke w q g c :=
  have hc : ∀ j, j < 7 → w.cell? ⟨q, j, none⟩ = (row172 g c z y)[j]? := fun j hj => (cell_of_row _ _ j _ _ _ h).trans (take_at ht hj)
  ⟨hc 0 (by omega), hc 1 (by omega), hc 2 (by omega), hc 3 (by omega), hc 4 (by omega), fun j hj => by simp [World.frozen?, h]⟩
set_option maxHeartbeats 1000000 in
set_option maxRecDepth 100000 in
theorem reg47 {Q : Exit → Act → World → Prop} {a0 : Act} {w0 : World} {k p g c z q : Nat} {n op : Int} {nums ints : Value}
    (hN : a0.tmps.size = 230) (h16 : a0.eval (.tmp 16) = .pointer (some ⟨k, 0, none⟩)) (h22 : a0.eval (.tmp 22) = .pointer (some ⟨p, 0, none⟩)) (hL : Lea w0 k n op nums ints (.slice none 0 0)) (hf : w0.frozen? ⟨k, 10, none⟩ = false) (hp : w0.heap[p]? = some (.cells (row172 g c z q) 172 (0, 0)))
    (hQ : ∀ (a : Act) (w : World) (gk cap : Nat), a.tmps.size = 230 → a.defers = a0.defers → (∀ t : Nat, t < 217 → a.eval (.tmp t) = a0.eval (.tmp t)) → w0.heap.size ≤ gk → Ke w gk g c → Below w0.heap.size w0 w → Q .normal a (w.setCell ⟨k, 10, none⟩ (.slice (some ⟨gk, 0, none⟩) 1 cap))) :
    (Code.region 47 ops47 true).wp Tryz.prog Q a0 w0 := by
  have hm : Tryz.prog.follows .mixedOrders = true := by kernel_rfl
  refine Rin.wp_region_slots 10 230 (fun i => 217 + i) (T47 w0.heap.size k g c z q) hm (by kernel_rfl) (by kernel_rfl) (by kernel_rfl) hN (fun i hi => by show 217 + i < 230; omega) (fun i j hi hj h => by have h : 217 + i = 217 + j := h; omega) (fun t v w w' h hB => h.on hB) ?_ ?_
  · intro i o a w hi ho hR hS
    have rest : ∀ t : Nat, t < 217 → a.eval (.tmp t) = a0.eval (.tmp t) := fun t ht => hR.rest t (fun i hi e => by have e : 217 + i = t := e; omega)
    have hS' : ∀ j, j < 10 → ((ops47[i]?).map fun o => o.after.any fun e => e.on == j && Region.binds .any e) = some true → T47 w0.heap.size k g c z q (217 + j) (a.eval (.tmp (217 + j))) w := fun j hj he => hS j hj (by rw [ho] at he; simpa using he)
    clear hS ho o
    match i, hi with
    | 0, _ => exact Rin.step_move (d := some 217) (x := .tmp 16) (by kernel_rfl) ⟨_, rfl, (rest 16 (by omega)).trans h16, Below.refl _ _⟩
    | 1, _ => exact Rin.step_move (d := some 218) (x := .tmp 16) (by kernel_rfl) ⟨_, rfl, (rest 16 (by omega)).trans h16, Below.refl _ _⟩
    | 2, _ =>
      have h218 : a.eval (.tmp 218) = .pointer (some ⟨k, 0, none⟩) := hS' 1 (by omega) (by kernel_rfl)
      exact Rin.step_run (d := some 219) (op := .nilCheck (.tmp 218)) (by kernel_rfl) _ _ (nil_run h218) ⟨_, rfl, rfl, Below.refl _ _⟩
    | 3, _ =>
      have h219 : a.eval (.tmp 219) = .pointer (some ⟨k, 0, none⟩) := hS' 2 (by omega) (by kernel_rfl)
      exact Rin.step_run (d := some 220) (op := .fieldAddr 168 (.tmp 219) 2) (by kernel_rfl) _ _ (field_run h219 (f168_2 _ _)) ⟨_, rfl, rfl, Below.refl _ _⟩
    | 4, _ =>
      have h220 : a.eval (.tmp 220) = .pointer (some ⟨k, 10, none⟩) := hS' 3 (by omega) (by kernel_rfl)
      exact Rin.step_load (d := some 221) (t := 166) (x := .tmp 220) (by kernel_rfl) (.slice none 0 0) (by rw [h220]; exact load166 _ _ _ _ (hL.on hR.below).c10) ⟨_, rfl, rfl, Below.refl _ _⟩
    | 5, _ => exact Rin.step_loadRow (d := some 222) (by kernel_rfl) p ((rest 22 (by omega)).trans h22) 172 _ (0, 0) _ (heap_on hp hR.below) Tryz.underlying172 rfl (by kernel_rfl) ⟨_, rfl, rfl, Below.refl _ _⟩
    | 6, _ =>
      have h222 : a.eval (.tmp 222) = .agg (row172 g c z q) := hS' 5 (by omega) (by kernel_rfl)
      exact Rin.step_rows (d := some 223) (l := [(0, .tmp 222)]) (by kernel_rfl) [.agg (row172 g c z q)] (by show [(0, a.eval (.tmp 222))] = _; rw [h222]; rfl) rfl (s := 7) (n := 1) (by decide) (by decide) (by decide) Tryz.underlying166 (by kernel_rfl) (by kernel_rfl) (by intro v hv; simp only [List.mem_cons, List.not_mem_nil, or_false] at hv; subst hv; rfl) ⟨_, rfl, ⟨_, rfl, heap_alloc_new _ _⟩, below_alloc _ _⟩
    | 7, _ =>
      have h221 : a.eval (.tmp 221) = .slice none 0 0 := hS' 4 (by omega) (by kernel_rfl)
      obtain ⟨b, h223, hb⟩ : ∃ b, a.eval (.tmp 223) = .slice (some ⟨b, 0, none⟩) 1 1 ∧ w.heap[b]? = some (.cells (row172 g c z q) 172 (0, 0)) := hS' 6 (by omega) (by kernel_rfl)
      refine Rin.step_append_nil (d := some 224) (by kernel_rfl) 172 tK (.agg nil172) 7 120 Tryz.underlying166 (by kernel_rfl) (by kernel_rfl) (by kernel_rfl) (by kernel_rfl) rfl (by decide) h221 b 1 1 (row172 g c z q) (0, 0) h223 hb rfl (by kernel_rfl) (by decide) (by unfold maxLen; omega) (by omega) ?_
      intro gk cap cur w' hgk hcur ht hcs hcap hB
      exact ⟨_, rfl, ⟨gk, cap, rfl, Nat.le_trans hR.below.size hgk, ke_of hcur (by rw [show 1 * 7 = 7 from rfl] at ht; exact ht)⟩, hB⟩
    | 8, _ =>
      have h217 : a.eval (.tmp 217) = .pointer (some ⟨k, 0, none⟩) := hS' 0 (by omega) (by kernel_rfl)
      exact Rin.step_run (d := some 225) (op := .nilCheck (.tmp 217)) (by kernel_rfl) _ _ (nil_run h217) ⟨_, rfl, rfl, Below.refl _ _⟩
    | 9, _ =>
      have h225 : a.eval (.tmp 225) = .pointer (some ⟨k, 0, none⟩) := hS' 8 (by omega) (by kernel_rfl)
      exact Rin.step_run (d := some 226) (op := .fieldAddr 168 (.tmp 225) 2) (by kernel_rfl) _ _ (field_run h225 (f168_2 _ _)) ⟨_, rfl, rfl, Below.refl _ _⟩
    | i + 10, hi => exact absurd hi (by omega)
  · intro a w hR hS
    have h226 : a.eval (.tmp 226) = .pointer (some ⟨k, 10, none⟩) := hS 9 (by omega)
    obtain ⟨gk, cap, h224, hgk, hke⟩ : ∃ gk cap, a.eval (.tmp 224) = .slice (some ⟨gk, 0, none⟩) 1 cap ∧ w0.heap.size ≤ gk ∧ Ke w gk g c := hS 7 (by omega)
    have hk : k < w0.heap.size := World.block_lt_of_cell? _ _ hL.c0
    refine Rin.step_store (d := none) (t := 166) (x := .tmp 226) (y := .tmp 224) (by kernel_rfl) _ (by rw [h226, h224]; exact store166 _ _ _ _ _ _ _ (hL.on hR.below).c10 ((World.frozen?_of_block (hR.below.block k hk)).trans hf)) ?_
    exact hQ a w gk cap hR.size hR.defers (fun t ht => hR.rest t (fun i hi e => by have e : 217 + i = t := e; omega)) hgk hke hR.below
end Go.Proofs.YtpgodgfkbkfpcaaGreat.Tim
