/- The contract of package sched's Wave. Condition: the six cells of the package's list. -/
import Derived.Test.YtmfladkimmnccaaDoorWal
import Derived.Test.YtmfladkimmnccaaDoorPow
import Derived.Test.YtmfladkimmnccaaDoorFpc
import Derived.LoopTactic
import Derived.LoopN
import Derived.Deep.RegionHeld3
set_option linter.unusedVariables false
set_option linter.unusedSimpArgs false
namespace Go.Proofs.YtmfladkimmnccaaDoor.Wav
open Go.RowKit Lathe Go.Proofs.YtmfladkimmnccaaDoorW.PrintWords Go.Proofs.YtmfladkimmnccaaDoorW.PrintMore Go.Proofs.YtmfladkimmnccaaDoor.Flo

/-- The list lies where it was laid. -/
structure Lies (w : World) : Prop where
  c0 : w.cell? ⟨0, 0, none⟩ = some (.int .u32 3231574502)
  c1 : w.cell? ⟨0, 1, none⟩ = some (.int .u32 1082253560)
  c2 : w.cell? ⟨0, 2, none⟩ = some (.int .u32 3215649252)
  c3 : w.cell? ⟨0, 3, none⟩ = some (.int .u32 1047591555)
  c4 : w.cell? ⟨0, 4, none⟩ = some (.int .u32 3167971577)
  c5 : w.cell? ⟨0, 5, none⟩ = some (.int .u32 989653445)
theorem cell_lt {w : World} {a : Addr} {v : Value} (h : w.cell? a = some v) : a.block < w.heap.size := by
  unfold World.cell? at h
  split at h
  · rename_i hb; exact (Array.getElem?_eq_some_iff.1 hb).1
  · cases h
theorem Lies.keep {w w' : World} {n : Nat} (h : Lies w) (hb : Below n w w') (hn : n = w.heap.size := by rfl) : Lies w' := by
  subst hn
  have k : ∀ {j : Nat} {v : Value}, w.cell? ⟨0, j, none⟩ = some v → w'.cell? ⟨0, j, none⟩ = some v := fun hc => (hb.cell (cell_lt hc)).trans hc
  exact ⟨k h.c0, k h.c1, k h.c2, k h.c3, k h.c4, k h.c5⟩
def poly (u : Nat) : Nat := fadd (fmul (fadd (fmul (fadd (fmul (fadd (fmul (fadd (fmul (fadd (fmul 989653445 u) 3167971577) u) 1047591555) u) 3215649252) u) 1082253560) u) 3231574502) u) 1065353216
def wv (x : Int) : Nat :=
  if Go.bits .andNot .u32 x 2147483648 > 2139095040 then 2143289344
  else if fmin (fmax x.toNat 0) 1065353216 = 1056964608 then 0
  else if flt 1056964608 (fmin (fmax x.toNat 0) 1065353216) = true then fneg (poly (fmul (fsub 1065353216 (fmin (fmax x.toNat 0) 1065353216)) (fsub 1065353216 (fmin (fmax x.toNat 0) 1065353216))))
  else poly (fmul (fmin (fmax x.toNat 0) 1065353216) (fmin (fmax x.toNat 0) 1065353216))
set_option maxHeartbeats 8000000 in
set_option maxRecDepth 100000 in
theorem Wave (x : Int) (w : World) (hl : Lies w) : Calls Tryd.prog 18 #[.int .u32 x] w fun e w' => e = .returned (.int .u32 (wv x : Nat)) ∧ Drawn0 w w' := by
  obtain ⟨c0, c1, c2, c3, c4, c5⟩ := hl
  obtain ⟨y, hy⟩ : ∃ y, fmin (fmax x.toNat 0) 1065353216 = y := ⟨_, rfl⟩
  have hmin : ∀ w, Calls Tryd.prog 36 #[.int .u32 (fmax x.toNat 0 : Nat), .int .u32 1065353216] w fun e w' => e = .returned (.int .u32 (y : Nat)) ∧ Drawn0 w w' := fun w => by
    have := Min (fmax x.toNat 0 : Nat) 1065353216 w
    rw [Int.toNat_natCast, show (1065353216 : Int).toNat = 1065353216 from rfl, hy] at this
    exact this
  have e : wv x = if Go.bits .andNot .u32 x 2147483648 > 2139095040 then 2143289344 else if y = 1056964608 then 0 else if flt 1056964608 y = true then fneg (poly (fmul (fsub 1065353216 y) (fsub 1065353216 y))) else poly (fmul y y) := by
    unfold wv
    rw [hy]
  rw [e]
  clear e hy
  go_enter Tryd.func18, Tryd.ntmps18
  by_cases h1 : Go.bits .andNot .u32 x 2147483648 > 2139095040
  · rw [if_pos h1]
    go_wp2
    go_ret
    exact ⟨rfl, Drawn0.refl _⟩
  rw [if_neg h1]
  by_cases h2 : y = 1056964608
  · rw [if_pos h2]
    go_wp2_with first
      | (go_at_call 36; refine (hmin _).mono ?_; rintro e w' ⟨rfl, ⟨⟨nq1, rfl⟩⟩⟩)
      | (go_at_call 37; refine (Max _ _ _).mono ?_; rintro e w' ⟨rfl, ⟨⟨nq2, rfl⟩⟩⟩)
    go_ret
    exact ⟨rfl, ⟨⟨_, rfl⟩⟩⟩
  rw [if_neg h2]
  by_cases h3 : flt 1056964608 y = true
  · rw [if_pos h3]
    obtain ⟨t, ht⟩ : ∃ t, fsub 1065353216 y = t := ⟨_, rfl⟩
    rw [ht]
    go_wp2_with first
      | (go_at_call 36; refine (hmin _).mono ?_; rintro e w' ⟨rfl, ⟨⟨nq1, rfl⟩⟩⟩)
      | (go_at_call 37; refine (Max _ _ _).mono ?_; rintro e w' ⟨rfl, ⟨⟨nq2, rfl⟩⟩⟩)
      | (go_at_call 38; refine (Less _ _ _).mono ?_; rintro e w' ⟨rfl, rfl⟩)
      | (go_at_call 39; refine (Sub _ _ _).mono ?_; rintro e w' ⟨rfl, ⟨⟨nq3, rfl⟩⟩⟩)
      | (go_at_call 40; refine (Mul _ _ _).mono ?_; rintro e w' ⟨rfl, ⟨⟨nq4, rfl⟩⟩⟩)
      | (go_at_call 41; refine (Add _ _ _).mono ?_; rintro e w' ⟨rfl, ⟨⟨nq5, rfl⟩⟩⟩)
    refine wp_loop_rounds 6 ?_
    rw [rounds_succ]
    go_wp2
    go_region_held3 (fun w' => w'.cell? ⟨0, 4, none⟩ = some (.int .u32 3167971577)) (go_keep) (first
      | (go_at_call 40; refine (Mul _ _ _).mono ?_; rintro e w' ⟨rfl, ⟨⟨nq4, rfl⟩⟩⟩)
      | (go_at_call 41; refine (Add _ _ _).mono ?_; rintro e w' ⟨rfl, ⟨⟨nq5, rfl⟩⟩⟩))
    go_wp2
    rw [rounds_succ]
    go_wp2
    go_region_held3 (fun w' => w'.cell? ⟨0, 3, none⟩ = some (.int .u32 1047591555)) (go_keep) (first
      | (go_at_call 40; refine (Mul _ _ _).mono ?_; rintro e w' ⟨rfl, ⟨⟨nq4, rfl⟩⟩⟩)
      | (go_at_call 41; refine (Add _ _ _).mono ?_; rintro e w' ⟨rfl, ⟨⟨nq5, rfl⟩⟩⟩))
    go_wp2
    rw [rounds_succ]
    go_wp2
    go_region_held3 (fun w' => w'.cell? ⟨0, 2, none⟩ = some (.int .u32 3215649252)) (go_keep) (first
      | (go_at_call 40; refine (Mul _ _ _).mono ?_; rintro e w' ⟨rfl, ⟨⟨nq4, rfl⟩⟩⟩)
      | (go_at_call 41; refine (Add _ _ _).mono ?_; rintro e w' ⟨rfl, ⟨⟨nq5, rfl⟩⟩⟩))
    go_wp2
    rw [rounds_succ]
    go_wp2
    go_region_held3 (fun w' => w'.cell? ⟨0, 1, none⟩ = some (.int .u32 1082253560)) (go_keep) (first
      | (go_at_call 40; refine (Mul _ _ _).mono ?_; rintro e w' ⟨rfl, ⟨⟨nq4, rfl⟩⟩⟩)
      | (go_at_call 41; refine (Add _ _ _).mono ?_; rintro e w' ⟨rfl, ⟨⟨nq5, rfl⟩⟩⟩))
    go_wp2
    rw [rounds_succ]
    go_wp2
    go_region_held3 (fun w' => w'.cell? ⟨0, 0, none⟩ = some (.int .u32 3231574502)) (go_keep) (first
      | (go_at_call 40; refine (Mul _ _ _).mono ?_; rintro e w' ⟨rfl, ⟨⟨nq4, rfl⟩⟩⟩)
      | (go_at_call 41; refine (Add _ _ _).mono ?_; rintro e w' ⟨rfl, ⟨⟨nq5, rfl⟩⟩⟩))
    go_wp2
    rw [rounds_succ]
    go_wp2_with first
      | (go_at_call 40; refine (Mul _ _ _).mono ?_; rintro e w' ⟨rfl, ⟨⟨nq4, rfl⟩⟩⟩)
      | (go_at_call 41; refine (Add _ _ _).mono ?_; rintro e w' ⟨rfl, ⟨⟨nq5, rfl⟩⟩⟩)
      | (go_at_call 42; refine (Neg _ _).mono ?_; rintro e w' ⟨rfl, rfl⟩)
    go_ret
    exact ⟨rfl, ⟨⟨_, rfl⟩⟩⟩
  · rw [if_neg h3]
    go_wp2_with first
      | (go_at_call 36; refine (hmin _).mono ?_; rintro e w' ⟨rfl, ⟨⟨nq1, rfl⟩⟩⟩)
      | (go_at_call 37; refine (Max _ _ _).mono ?_; rintro e w' ⟨rfl, ⟨⟨nq2, rfl⟩⟩⟩)
      | (go_at_call 38; refine (Less _ _ _).mono ?_; rintro e w' ⟨rfl, rfl⟩)
      | (go_at_call 39; refine (Sub _ _ _).mono ?_; rintro e w' ⟨rfl, ⟨⟨nq3, rfl⟩⟩⟩)
      | (go_at_call 40; refine (Mul _ _ _).mono ?_; rintro e w' ⟨rfl, ⟨⟨nq4, rfl⟩⟩⟩)
      | (go_at_call 41; refine (Add _ _ _).mono ?_; rintro e w' ⟨rfl, ⟨⟨nq5, rfl⟩⟩⟩)
    refine wp_loop_rounds 6 ?_
    rw [rounds_succ]
    go_wp2
    go_region_held3 (fun w' => w'.cell? ⟨0, 4, none⟩ = some (.int .u32 3167971577)) (go_keep) (first
      | (go_at_call 40; refine (Mul _ _ _).mono ?_; rintro e w' ⟨rfl, ⟨⟨nq4, rfl⟩⟩⟩)
      | (go_at_call 41; refine (Add _ _ _).mono ?_; rintro e w' ⟨rfl, ⟨⟨nq5, rfl⟩⟩⟩))
    go_wp2
    rw [rounds_succ]
    go_wp2
    go_region_held3 (fun w' => w'.cell? ⟨0, 3, none⟩ = some (.int .u32 1047591555)) (go_keep) (first
      | (go_at_call 40; refine (Mul _ _ _).mono ?_; rintro e w' ⟨rfl, ⟨⟨nq4, rfl⟩⟩⟩)
      | (go_at_call 41; refine (Add _ _ _).mono ?_; rintro e w' ⟨rfl, ⟨⟨nq5, rfl⟩⟩⟩))
    go_wp2
    rw [rounds_succ]
    go_wp2
    go_region_held3 (fun w' => w'.cell? ⟨0, 2, none⟩ = some (.int .u32 3215649252)) (go_keep) (first
      | (go_at_call 40; refine (Mul _ _ _).mono ?_; rintro e w' ⟨rfl, ⟨⟨nq4, rfl⟩⟩⟩)
      | (go_at_call 41; refine (Add _ _ _).mono ?_; rintro e w' ⟨rfl, ⟨⟨nq5, rfl⟩⟩⟩))
    go_wp2
    rw [rounds_succ]
    go_wp2
    go_region_held3 (fun w' => w'.cell? ⟨0, 1, none⟩ = some (.int .u32 1082253560)) (go_keep) (first
      | (go_at_call 40; refine (Mul _ _ _).mono ?_; rintro e w' ⟨rfl, ⟨⟨nq4, rfl⟩⟩⟩)
      | (go_at_call 41; refine (Add _ _ _).mono ?_; rintro e w' ⟨rfl, ⟨⟨nq5, rfl⟩⟩⟩))
    go_wp2
    rw [rounds_succ]
    go_wp2
    go_region_held3 (fun w' => w'.cell? ⟨0, 0, none⟩ = some (.int .u32 3231574502)) (go_keep) (first
      | (go_at_call 40; refine (Mul _ _ _).mono ?_; rintro e w' ⟨rfl, ⟨⟨nq4, rfl⟩⟩⟩)
      | (go_at_call 41; refine (Add _ _ _).mono ?_; rintro e w' ⟨rfl, ⟨⟨nq5, rfl⟩⟩⟩))
    go_wp2
    rw [rounds_succ]
    go_wp2_with first
      | (go_at_call 40; refine (Mul _ _ _).mono ?_; rintro e w' ⟨rfl, ⟨⟨nq4, rfl⟩⟩⟩)
      | (go_at_call 41; refine (Add _ _ _).mono ?_; rintro e w' ⟨rfl, ⟨⟨nq5, rfl⟩⟩⟩)
      | (go_at_call 42; refine (Neg _ _).mono ?_; rintro e w' ⟨rfl, rfl⟩)
    go_ret
    exact ⟨rfl, ⟨⟨_, rfl⟩⟩⟩
end Go.Proofs.YtmfladkimmnccaaDoor.Wav
