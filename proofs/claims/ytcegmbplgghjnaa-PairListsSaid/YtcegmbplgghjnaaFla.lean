/- The contract of package pair's Flat. Condition: fewer than 2^44 numbers. -/
import Derived.Test.YtcegmbplgghjnaaWal
import Derived.Test.YtcegmbplgghjnaaWam
import Derived.Test.YtcegmbplgghjnaaProg
import Derived.OwnWalk
import Derived.LoopTactic
set_option linter.unusedVariables false
set_option linter.unusedSimpArgs false
namespace Go.Proofs.Ytcegmbplgghjnaa.Fla
open Go.RowKit Go.Proofs.YtcegmbplgghjnaaW.PrintWords Go.Proofs.YtcegmbplgghjnaaW.PrintMore

def fl (x y : Nat → Int) : Nat → List Int
  | 0 => []
  | i + 1 => fl x y i ++ [x i, y i]
theorem fl_len (x y : Nat → Int) : ∀ i, (fl x y i).length = 2 * i
  | 0 => rfl
  | i + 1 => by rw [fl, List.length_append, fl_len x y i]; simp; omega
theorem info_f : (Try.prog.info? 23).map (fun i => (i.zero, i.size, i.bytes)) = some (some (.int .u32 0), 1, 4) := by kernel_rfl
theorem row2 (w : World) (x y : Int) (o : Obj) (e : TypeId) : ReadsRow (fun p c => c = [Value.int .u32 p]) (Kd.int .u32).sz ((w.alloc o).alloc (Obj.cells #[Value.int IntKind.u32 x, Value.int IntKind.u32 y] e)) (some ⟨w.heap.size + 1, 0, none⟩) 2 [x, y] := by
  refine ⟨rfl, by decide, fun _ => ⟨_, rfl, fun j p hj => ⟨[Value.int .u32 p], rfl, rfl, fun i u hu => ?_⟩⟩⟩
  have hi : i = 0 := by
    have := (List.getElem?_eq_some_iff.1 hu).1
    simpa using this
  subst hi
  obtain rfl : Value.int .u32 p = u := by simpa using hu
  have hj2 : j < 2 := (List.getElem?_eq_some_iff.1 hj).1
  obtain rfl | rfl : j = 0 ∨ j = 1 := by omega
  · obtain rfl : x = p := by simpa using hj
    exact (World.cell?_alloc_at (w := w.alloc o) _ e (w.heap.size + 1) _ (by simp [World.alloc_eq])).trans rfl
  · obtain rfl : y = p := by simpa using hj
    exact (World.cell?_alloc_at (w := w.alloc o) _ e (w.heap.size + 1) _ (by simp [World.alloc_eq])).trans rfl
set_option maxHeartbeats 4000000 in
set_option maxRecDepth 100000 in
theorem Flat (A0 : Option Addr) (c0 n : Nat) (x y : Nat → Int) (w : World) (hn : n < 17592186044416)
    (hr : ∀ i, i < n → ∃ ad, A0 = some ad ∧ w.cell? (ad.add (i * 2)) = some (.int .u32 (x i)) ∧ w.cell? ⟨(ad.add (i * 2)).block, (ad.add (i * 2)).off + 1, none⟩ = some (.int .u32 (y i))) :
    Calls Try.prog 43 #[.slice A0 n c0] w fun e w' => ∃ v0_ : Value, e = .returned v0_ ∧ Kd.R (Kd.int .u32) 23 w' w.heap.size (fun _ => True) v0_ (fl x y n) ∧ Below w.heap.size w w' := by
  obtain ⟨ti, i1, i2, i3, i4⟩ := info_parts info_f
  have HR := Aside0.mk hr
  clear hr
  have hw2 : wrap64 (2 * (n : Int)) = ((2 * n : Nat) : Int) := by unfold wrap64; omega
  go_enter Try.func43, Try.ntmps43
  have hb2 : ti.bytes * (2 * n) ≤ 281474976710656 := by rw [i4]; omega
  have hb3 : 2 * n ≤ maxLen := by unfold maxLen; omega
  go_wp2_with ((with_reducible refine gate_dst (N := 9) rfl ?_); refine wpList_make_own w rfl (.const (.int .i64 0)) (.tmp 8) 40 rfl w.heap.size 23 ti (.int .u32 0) 1 Try.underlying40 i1 i2 i3 .i64 .i64 (2 * (n : Int)) (2 * n) rfl rfl (by omega) hb2 hb3 (Nat.le_refl _) ?_; intro w1 ho hg)
  have HO1 : Aside0 (Kd.R (Kd.int .u32) 23 w1 w.heap.size (fun _ => True) (.slice (some ⟨w.heap.size, 0, none⟩) 0 (2 * n)) (fl x y 0)) := ⟨Kd.R_of_own (enc := Value.int .u32) (h1 := fun _ => rfl) ho (fun _ _ => trivial)⟩
  have HB1 : Aside0 (Below w.heap.size w w1) := ⟨(Below.refl _ w).grown hg (Nat.le_refl _) (fun k hk => by cases hk)⟩
  clear ho hg hb2 hb3
  generalize Value.slice (some ⟨w.heap.size, 0, none⟩) 0 (2 * n) = v0 at HO1 ⊢
  go_loopw [3, 12] (fun v3 v12 wr => ∃ (i : Nat), i ≤ n ∧ v12 = .int .i64 i ∧ Aside0 (Kd.R (Kd.int .u32) 23 wr w.heap.size (fun _ => True) v3 (fl x y i)) ∧ Aside0 (Below w.heap.size w wr)) (fun _ v12 _ => n - (intOf v12).toNat)
  case atStart => exact ⟨0, by omega, rfl, HO1, HB1⟩
  case round =>
    obtain ⟨i, hi, rfl, HO, HB⟩ := hrel
    clear HO1 HB1
    by_cases hlt : i < n
    · obtain ⟨ad, rfl, hx, hy⟩ := HR.out i hlt
      replace hx := (HB.out.cell (World.block_lt_of_cell? w _ hx)).trans hx
      replace hy := (HB.out.cell (World.block_lt_of_cell? w _ hy)).trans hy
      have hw1 : wrap64 ((i : Int) + 1) = ((i + 1 : Nat) : Int) := by unfold wrap64; omega
      have hlen : (fl x y i).length = 2 * i := fl_len x y i
      have hb0 : w.heap.size ≤ wr.heap.size := HB.out.size
      go_wp2_with ((with_reducible refine gate_builtin (b := .append) (xs := #[.tmp 16, .tmp 21]) rfl ?_); (generalize hW : (wr.alloc (Obj.cells #[Value.int IntKind.u32 (x i), Value.int IntKind.u32 (y i)] 25)).alloc (Obj.cells #[Value.int IntKind.u32 (x i), Value.int IntKind.u32 (y i)] 23) = W); refine Kd.R_append_rows (Kd.int .u32) (Rr := fun p c => c = [Value.int .u32 p]) (w0 := w) (W := W) w.heap.size rfl (.tmp 16) (.tmp 21) 40 23 (.int .u32 0) 4 rfl Try.underlying40 info_f rfl (Nat.le_refl _) (by decide) _ (fl x y i) [x i, y i] (some ⟨wr.heap.size + 1, 0, none⟩) 2 2 (fun _ => True) (fun _ => False) rfl rfl (hW ▸ Kd.R_alloc (Kd.R_alloc HO.out _) _) (by rw [← hW]; exact row2 wr _ _ _ _) (fun _ _ h => h) (fun _ h => h.elim) (fun _ _ => trivial) (hW ▸ (HB.out.alloc hb0 _).alloc (by simp only [World.alloc, Array.size_push]; omega) _) (by rw [← hW]; simp only [World.alloc, Array.size_push]; omega) (by rw [hlen]; omega) ?_; (intro v1 w1 hR hB hg hv); clear hW hg hv HO HB)
      go_roundw
      · exact ⟨i + 1, by omega, congrArg (Value.int .i64) (by omega), ⟨hR⟩, ⟨hB⟩⟩
      · show n - ((i : Int) + 1).toNat < n - ((i : Nat) : Int).toNat
        omega
    · obtain rfl : i = n := by omega
      go_wp2
      go_ret
      exact ⟨_, rfl, HO.out, HB.out⟩
end Go.Proofs.Ytcegmbplgghjnaa.Fla
