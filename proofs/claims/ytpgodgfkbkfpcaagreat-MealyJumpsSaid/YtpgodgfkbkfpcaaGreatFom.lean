/- The form of identity and of trace. No condition. -/
import Derived.Test.YtpgodgfkbkfpcaaGreatTrv
import Derived.Test.YtpgodgfkbkfpcaaGreatMea
import Derived.Deep.CutBlock
import Derived.Deep.DeepCutAuto
import Derived.Deep.RegionHeld3
set_option linter.unusedVariables false
set_option linter.unusedSimpArgs false
namespace Go.Proofs.YtpgodgfkbkfpcaaGreat.Fom
open Go.Shelf Go.RowKit Go.Sort Go.Proofs.YtpgodgfkbkfpcaaGreat.Sra Go.Proofs.YtpgodgfkbkfpcaaGreat.Trb
/-- The blocks that were there are as they were, but for those of X; the streams too. -/
structure But (X : List Nat) (w w' : World) : Prop where
  os : w'.os = w.os
  tape : w'.tape = w.tape
  output : w'.output = w.output
  size : w.heap.size ≤ w'.heap.size
  block : ∀ k, k < w.heap.size → k ∉ X → w'.heap[k]? = w.heap[k]?
theorem But.refl (X : List Nat) (w : World) : But X w w := ⟨rfl, rfl, rfl, Nat.le_refl _, fun _ _ _ => rfl⟩
theorem But.on {X : List Nat} {w w1 w2 : World} (h : But X w w1) (k : Below w1.heap.size w1 w2) : But X w w2 :=
  ⟨k.os.trans h.os, k.tape.trans h.tape, k.output.trans h.output, Nat.le_trans h.size k.size, fun g hg hx => (k.block g (Nat.lt_of_lt_of_le hg h.size)).trans (h.block g hg hx)⟩
theorem But.alloc {X : List Nat} {w w1 : World} (h : But X w w1) (o : Obj) : But X w (w1.alloc o) := h.on (below_alloc _ _)
theorem But.set {X : List Nat} {w w1 : World} (h : But X w w1) {p : Addr} (hp : p.block ∈ X) (v : Value) : But X w (w1.setCell p v) := by
  refine ⟨h.os, h.tape, h.output, by simpa [World.setCell] using h.size, fun g hg hx => (Below.heap_setCell w1 p v g ?_).trans (h.block g hg hx)⟩
  rintro rfl
  exact hx hp
theorem But.cell {X : List Nat} {w w' : World} (h : But X w w') {a : Addr} {v : Value} (hc : w.cell? a = some v) (hx : a.block ∉ X) : w'.cell? a = some v :=
  (World.cell?_of_block (w := w) (h.block a.block (World.block_lt_of_cell? w _ hc) hx)).trans hc
theorem But.below {X : List Nat} {w w' : World} (h : But X w w') {B : Nat} (hB : B ≤ w.heap.size) (hx : ∀ k, k ∈ X → B ≤ k) : Below B w w' :=
  ⟨h.os, h.tape, h.output, h.size, fun k hk => h.block k (by omega) (fun hm => by have := hx k hm; omega)⟩
/-- A row laid in a block. -/
structure Lies (w : World) (g : Nat) (r : Rw) : Prop where
  c0 : w.cell? ⟨g, 0, none⟩ = some (.string r.name)
  c1 : w.cell? ⟨g, 1, none⟩ = some (.int .i64 r.op)
  c2 : w.cell? ⟨g, 2, none⟩ = some (.slice r.ap r.al r.ac)
  c3 : w.cell? ⟨g, 3, none⟩ = some (.bool r.dots)
  c4 : w.cell? ⟨g, 4, none⟩ = some (.bool r.star)
  f0 : w.frozen? ⟨g, 0, none⟩ = false
  f1 : w.frozen? ⟨g, 1, none⟩ = false
  f2 : w.frozen? ⟨g, 2, none⟩ = false
  f3 : w.frozen? ⟨g, 3, none⟩ = false
  f4 : w.frozen? ⟨g, 4, none⟩ = false
theorem Lies.put {w : World} {g : Nat} {r : Rw} (l : Lies w g r) (x : Rw) (o : Obj) : Lies ((((((w.setCell ⟨g, 0, none⟩ (.string x.name)).setCell ⟨g, 1, none⟩ (.int .i64 x.op)).setCell ⟨g, 2, none⟩ (.slice x.ap x.al x.ac)).setCell ⟨g, 3, none⟩ (.bool x.dots)).setCell ⟨g, 4, none⟩ (.bool x.star)).alloc o) g x := by
  have hg : g < w.heap.size := World.block_lt_of_cell? w _ l.c0
  obtain ⟨l0, l1, l2, l3, l4, f0, f1, f2, f3, f4⟩ := l
  constructor <;> go_simp
theorem Lies.alloc {w : World} {g : Nat} {r : Rw} (l : Lies w g r) (o : Obj) : Lies (w.alloc o) g r := by
  have hg : g < w.heap.size := World.block_lt_of_cell? w _ l.c0
  obtain ⟨l0, l1, l2, l3, l4, f0, f1, f2, f3, f4⟩ := l
  constructor <;> go_simp
theorem But.more {X Y : List Nat} {w w1 : World} (h : But X w w1) (hX : ∀ k, k ∈ X → k ∈ Y) : But Y w w1 := ⟨h.os, h.tape, h.output, h.size, fun k hk hy => h.block k hk fun hx => hy (hX k hx)⟩
theorem run_loadVar_lies {w : World} {g : Nat} {r : Rw} (l : Lies w g r) : (loadVar 207 ⟨g, 0, none⟩).run Tryz.prog w = .ok (.agg (enc r).toArray) w := by
  obtain ⟨l0, l1, l2, l3, l4, -, -, -, -, -⟩ := l
  have hl : (loadCells ⟨g, 0, none⟩ 5).run Tryz.prog w = .ok (enc r).toArray w :=
    run_loadCells_list (P := Tryz.prog) w ⟨g, 0, none⟩ (enc r) (fun j v hv => by
      rw [Rin.add_zero]
      have hj : j < 5 := (List.getElem?_eq_some_iff.1 hv).1
      match j, hj with
      | 0, _ => injection hv with hv; subst hv; exact l0
      | 1, _ => injection hv with hv; subst hv; exact l1
      | 2, _ => injection hv with hv; subst hv; exact l2
      | 3, _ => injection hv with hv; subst hv; exact l3
      | 4, _ => injection hv with hv; subst hv; exact l4)
  have hq : Tryz.prog.info? 207 = some Sra.tE := by kernel_rfl
  have hs : Sra.tE.size = 5 := by kernel_rfl
  have hagg : (isAgg 207).run Tryz.prog w = .ok true w := by
    unfold isAgg
    rw [Sem.run_bind, run_underlying Tryz.underlying207 w]
    rfl
  simp [loadVar, Sem.run_bind, hagg, sizeOf, typeInfo, hq, hs, hl]
theorem results_row_tmp {fn : Func} {p u : Tmp} (h : fn.results = #[.cell p 207, .tmp u]) (tmps : Array Value) (w : World) (g : Nat) (r : Rw) (hp : tmps.getD p undef = .pointer (some ⟨g, 0, none⟩)) (l : Lies w g r) :
    (results fn tmps).run Tryz.prog w = .ok (.tuple #[.agg (enc r).toArray, tmps.getD u undef]) w := by
  have hp' : tmps[p]?.getD undef = .pointer (some ⟨g, 0, none⟩) := by simpa using hp
  simp [results, h, hp', asAddr, run_loadVar_lies l]
/-- The last row with a number. -/
def pick (K : Int) (l : List Rw) (z : Rw) : Rw := l.foldl (fun r x => if x.op = K then x else r) z
def zr : Rw := ⟨⟨#[]⟩, 0, none, 0, 0, false, false⟩
theorem pick_take (K : Int) (d : Array Rw) (z : Rw) (i : Nat) (h : i < d.size) : pick K (d.toList.take (i + 1)) z = if d[i]!.op = K then d[i]! else pick K (d.toList.take i) z := by
  have h' : i < d.toList.length := by simpa using h
  rw [List.take_succ_eq_append_getElem h', pick, List.foldl_append]
  have e : d.toList[i] = d[i]! := by rw [getElem!_pos d i h]; simp
  simp only [List.foldl_cons, List.foldl_nil, e]
  rfl
theorem pick_filter (K : Int) : ∀ (l : List Rw) (z : Rw), pick K l z = ((l.filter fun r => decide (r.op = K)).getLast?).getD z
  | [], z => rfl
  | x :: l, z => by
    have h : pick K (x :: l) z = pick K l (if x.op = K then x else z) := rfl
    rw [h, pick_filter K l]
    by_cases c : x.op = K
    · rw [if_pos c, List.filter_cons_of_pos (by simpa using c), List.getLast?_cons]
      rfl
    · rw [if_neg c, List.filter_cons_of_neg (by simpa using c)]
theorem pick_one {K : Int} {l : List Rw} {L : List (ByteArray × Int × Bool × Bool)} {k : ByteArray × Int × Bool × Bool} (hp : (l.map key).Perm L) (hL : (L.filter fun k => decide (k.2.1 = K)) = [k]) (z : Rw) : ∃ r, r ∈ l ∧ key r = k ∧ pick K l z = r := by
  have h1 := hp.filter fun k => decide (k.2.1 = K)
  rw [hL, List.filter_map] at h1
  have h2 := List.perm_singleton.1 h1
  have h3 : (l.filter ((fun k => decide (k.2.1 = K)) ∘ key)) = l.filter fun r => decide (r.op = K) := rfl
  rw [h3] at h2
  rw [pick_filter]
  cases hl : l.filter fun r => decide (r.op = K) with
  | nil => rw [hl] at h2; cases h2
  | cons r t =>
    rw [hl] at h2
    simp only [List.map_cons, List.cons.injEq, List.map_eq_nil_iff] at h2
    obtain ⟨h4, rfl⟩ := h2
    have hm : r ∈ l.filter fun r => decide (r.op = K) := by rw [hl]; exact List.mem_singleton.2 rfl
    exact ⟨r, (List.mem_filter.1 hm).1, h4, rfl⟩
theorem nine {w : World} {g : Nat} {a0 a1 a2 a3 a4 a5 a6 a7 a8 : Value} (h : w.heap[g]? = some (.cells #[a0, a1, a2, a3, a4, a5, a6, a7, a8] 30 (0, 0))) :
    w.cell? ⟨g, 0, none⟩ = some a0 ∧ w.cell? ⟨g, 1, none⟩ = some a1 ∧ w.cell? ⟨g, 2, none⟩ = some a2 ∧ w.cell? ⟨g, 3, none⟩ = some a3 ∧ w.cell? ⟨g, 4, none⟩ = some a4 ∧ w.cell? ⟨g, 5, none⟩ = some a5 ∧ w.cell? ⟨g, 6, none⟩ = some a6 ∧ w.cell? ⟨g, 7, none⟩ = some a7 ∧ w.cell? ⟨g, 8, none⟩ = some a8 :=
  ⟨cell_of_row _ _ 0 _ _ _ h, cell_of_row _ _ 1 _ _ _ h, cell_of_row _ _ 2 _ _ _ h, cell_of_row _ _ 3 _ _ _ h, cell_of_row _ _ 4 _ _ _ h, cell_of_row _ _ 5 _ _ _ h, cell_of_row _ _ 6 _ _ _ h, cell_of_row _ _ 7 _ _ _ h, cell_of_row _ _ 8 _ _ _ h⟩
theorem Lies.same {w w' : World} {g : Nat} {r : Rw} (l : Lies w g r) (h : w'.heap[g]? = w.heap[g]?) : Lies w' g r := by
  have c : ∀ k, w'.cell? ⟨g, k, none⟩ = w.cell? ⟨g, k, none⟩ := fun k => World.cell?_of_block h
  have f : ∀ k, w'.frozen? ⟨g, k, none⟩ = w.frozen? ⟨g, k, none⟩ := fun k => World.frozen?_of_block h
  exact ⟨(c 0).trans l.c0, (c 1).trans l.c1, (c 2).trans l.c2, (c 3).trans l.c3, (c 4).trans l.c4, (f 0).trans l.f0, (f 1).trans l.f1, (f 2).trans l.f2, (f 3).trans l.f3, (f 4).trans l.f4⟩
def idRow : Rw := ⟨⟨#[105, 100, 101, 110, 116, 105, 116, 121]⟩, 1, none, 0, 0, false, false⟩
theorem is_id {r : Rw} {w : World} (h : key r = (idRow.name, 1, false, false)) (hf : Fine r w) : r = idRow := by
  cases r with
  | mk nm op ap al ac dots star =>
    simp only [key, Prod.mk.injEq] at h
    obtain ⟨rfl, rfl, rfl, rfl⟩ := h
    obtain ⟨h1, h2, h3⟩ := hf.1 rfl
    simp only at h1 h2 h3
    subst h1 h2 h3
    rfl
/-- No parameters, or some: what form and valid work on. -/
def view (lp : Option Addr) (ll lc : Nat) (ap : Option Addr) (al ac : Nat) : Value := .agg #[.slice lp ll lc, .slice ap al ac, .bool false]
set_option maxHeartbeats 1000000 in
set_option maxRecDepth 100000 in
theorem form_id (lp ap : Option Addr) (ll lc al ac : Nat) (W : World) : Calls Tryz.prog 132 #[view lp ll lc ap al ac, Mea.tx 1 (.slice none 0 0) (.slice none 0 0)] W fun e w' => e = .returned (.tuple #[.agg (enc idRow).toArray, .bool true]) ∧ Below W.heap.size W w' := by
  unfold view Mea.tx
  go_enter Tryz.func132, Tryz.ntmps132
  go_wp2_with (go_at_call 176; refine (Trv.transforms _).mono ?_; rintro e w1 ⟨g, c, d, rfl, hg0, hH, hd, hp, hf, hB⟩)
  have hg1 : W.heap.size + 4 ≤ g := by simpa using hg0
  have hk : w1.heap[W.heap.size + 1]? = some (.cells #[.int .i64 1, .slice none 0 0, .slice none 0 0, .slice none 0 0, .int .i64 0, .slice none 0 0, .slice none 0 0, .slice none 0 0, .slice none 0 0] 30 (0, 0)) := (hB.block (W.heap.size + 1) (by simp)).trans (heap_on (heap_on (Tab.new_at _ _ (by simp)) (below_alloc _ _)) (below_alloc _ _))
  have hl0 : Lies w1 (W.heap.size + 3) zr := ⟨(hB.cell (p := ⟨W.heap.size + 3, 0, none⟩) (by simp)).trans (by go_simp; simp [zr]), (hB.cell (p := ⟨W.heap.size + 3, 1, none⟩) (by simp)).trans (by go_simp; simp [zr]), (hB.cell (p := ⟨W.heap.size + 3, 2, none⟩) (by simp)).trans (by go_simp; simp [zr]), (hB.cell (p := ⟨W.heap.size + 3, 3, none⟩) (by simp)).trans (by go_simp; simp [zr]), (hB.cell (p := ⟨W.heap.size + 3, 4, none⟩) (by simp)).trans (by go_simp; simp [zr]), (World.frozen?_of_block (hB.block (W.heap.size + 3) (by simp))).trans (by go_simp), (World.frozen?_of_block (hB.block (W.heap.size + 3) (by simp))).trans (by go_simp), (World.frozen?_of_block (hB.block (W.heap.size + 3) (by simp))).trans (by go_simp), (World.frozen?_of_block (hB.block (W.heap.size + 3) (by simp))).trans (by go_simp), (World.frozen?_of_block (hB.block (W.heap.size + 3) (by simp))).trans (by go_simp)⟩
  have hm0 : Lies w1 (W.heap.size + 2) zr := ⟨(hB.cell (p := ⟨W.heap.size + 2, 0, none⟩) (by simp)).trans (by go_simp; simp [zr]), (hB.cell (p := ⟨W.heap.size + 2, 1, none⟩) (by simp)).trans (by go_simp; simp [zr]), (hB.cell (p := ⟨W.heap.size + 2, 2, none⟩) (by simp)).trans (by go_simp; simp [zr]), (hB.cell (p := ⟨W.heap.size + 2, 3, none⟩) (by simp)).trans (by go_simp; simp [zr]), (hB.cell (p := ⟨W.heap.size + 2, 4, none⟩) (by simp)).trans (by go_simp; simp [zr]), (World.frozen?_of_block (hB.block (W.heap.size + 2) (by simp))).trans (by go_simp), (World.frozen?_of_block (hB.block (W.heap.size + 2) (by simp))).trans (by go_simp), (World.frozen?_of_block (hB.block (W.heap.size + 2) (by simp))).trans (by go_simp), (World.frozen?_of_block (hB.block (W.heap.size + 2) (by simp))).trans (by go_simp), (World.frozen?_of_block (hB.block (W.heap.size + 2) (by simp))).trans (by go_simp)⟩
  have hs1 : W.heap.size + 4 ≤ w1.heap.size := by have := hB.size; simpa using this
  have hBW : Below W.heap.size W w1 := Tab.then_ (((((Below.refl _ _).alloc (Nat.le_refl _) _).alloc (by simp) _).alloc (by simp; omega) _).alloc (by simp; omega) _) (by simp; omega) hB
  clear hB hg0
  go_loopw [23] (fun v wr => ∃ i : Nat, v = .int .i64 i ∧ i ≤ 42 ∧ But [W.heap.size + 3] w1 wr ∧ Lies wr (W.heap.size + 3) (pick 1 (d.toList.take i) zr)) (fun v _ => 43 - (intOf v).toNat)
  case atStart => exact ⟨0, rfl, by omega, But.refl _ _, hl0⟩
  case round =>
    obtain ⟨i, rfl, hi, hb, hl⟩ := hrel
    have ht := (hb.block (W.heap.size + 1) (by omega) (by simp)).trans hk
    obtain ⟨j0, j1, j2, j3, j4, j5, j6, j7, j8⟩ := nine ht
    by_cases ci : i < 42
    · have n0 := hb.cell (HoldsK.cell hH (i := i) (c := 0) (by omega) (by omega)).1 (by simp; omega)
      have n1 := hb.cell (HoldsK.cell hH (i := i) (c := 1) (by omega) (by omega)).1 (by simp; omega)
      have n2 := hb.cell (HoldsK.cell hH (i := i) (c := 2) (by omega) (by omega)).1 (by simp; omega)
      have n3 := hb.cell (HoldsK.cell hH (i := i) (c := 3) (by omega) (by omega)).1 (by simp; omega)
      have n4 := hb.cell (HoldsK.cell hH (i := i) (c := 4) (by omega) (by omega)).1 (by simp; omega)
      simp only [enc, List.getElem!_cons_zero, List.getElem!_cons_succ, Nat.zero_add, Nat.add_zero] at n0 n1 n2 n3 n4
      obtain ⟨l0, l1, l2, l3, l4, f0, f1, f2, f3, f4⟩ := hl
      have hpk := pick_take 1 d zr i (by omega)
      have x0 : W.heap.size + 1 < wr.heap.size := World.block_lt_of_cell? _ _ j0
      have x1 : W.heap.size + 3 < wr.heap.size := World.block_lt_of_cell? _ _ l0
      have HP : Hid _ := hpk
      clear hpk
      generalize d[i]! = x at n0 n1 n2 n3 n4 HP
      by_cases hop : x.op = 1
      · have hpt := Lies.put (w := wr) ⟨l0, l1, l2, l3, l4, f0, f1, f2, f3, f4⟩ x
        rw [hop] at hpt
        have HT : Hid _ := hpt
        clear hpt
        go_wp2
        go_roundw
        case rel => exact ⟨i + 1, by go_num, by omega, (((((hb.set (by simp) _).set (by simp) _).set (by simp) _).set (by simp) _).set (by simp) _).alloc _, by rw [HP.out, if_pos hop]; exact HT.out _⟩
        case measure => simp [intOf]; omega
      · go_wp2
        go_roundw
        case rel => exact ⟨i + 1, by go_num, by omega, hb.alloc _, by rw [HP.out, if_neg hop]; exact Lies.alloc ⟨l0, l1, l2, l3, l4, f0, f1, f2, f3, f4⟩ _⟩
        case measure => simp [intOf]; omega
    · obtain rfl : i = 42 := by omega
      obtain ⟨r, hr, hkey, he⟩ := pick_one (K := 1) (k := (idRow.name, 1, false, false)) hp (by decide +kernel) zr
      rw [List.take_of_length_le (by simp [hd]), he, is_id hkey (hf r hr)] at hl
      have hm := hm0.same (hb.block (W.heap.size + 2) (by omega) (by simp))
      have hln := hl
      have hmn := hm
      obtain ⟨l0, l1, l2, l3, l4, f0, f1, f2, f3, f4⟩ := hln
      obtain ⟨m0, m1, m2, m3, m4, g0, g1, g2, g3, g4⟩ := hmn
      simp only [idRow] at l0 l1 l2 l3 l4
      have x0 : W.heap.size + 1 < wr.heap.size := World.block_lt_of_cell? _ _ j0
      have x1 : W.heap.size + 3 < wr.heap.size := World.block_lt_of_cell? _ _ l0
      have x2 : W.heap.size + 2 < wr.heap.size := World.block_lt_of_cell? _ _ m0
      have hpt := Lies.put hm idRow (.cells #[.int .i64 0, .slice none 0 0, .slice none 0 0, .slice none 0 0] 27)
      have HT : Hid _ := hpt
      clear hpt
      go_wp2
      refine wp_loop_rounds 1 ?_
      rw [rounds_succ]
      go_wp2
      refine wp_loop_rounds 1 ?_
      rw [rounds_succ]
      go_wp2
      (try simp only [Exit.inBlock, Exit.then])
      refine bodyPost_ret (results_row_tmp rfl _ _ (W.heap.size + 2) idRow rfl HT.out) rfl ?_
      refine ⟨rfl, ?_⟩
      have hfin := ((((((hb.more (Y := [W.heap.size + 3, W.heap.size + 2]) (by simp)).set (p := ⟨W.heap.size + 2, 0, none⟩) (by simp) (.string idRow.name)).set (p := ⟨W.heap.size + 2, 1, none⟩) (by simp) (.int .i64 1)).set (p := ⟨W.heap.size + 2, 2, none⟩) (by simp) (.slice none 0 0)).set (p := ⟨W.heap.size + 2, 3, none⟩) (by simp) (.bool false)).set (p := ⟨W.heap.size + 2, 4, none⟩) (by simp) (.bool false)).alloc (.cells #[.int .i64 0, .slice none 0 0, .slice none 0 0, .slice none 0 0] 27)
      exact hBW.trans (hfin.below (by omega) (by intro k hk; simp at hk; omega))
end Go.Proofs.YtpgodgfkbkfpcaaGreat.Fom
