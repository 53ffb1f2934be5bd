/- The contract of package sched's may at a polynomial schedule of two numbers without kids. Condition: where its rows lie. -/
import Derived.Test.YtmfladkimmnccaaDoorRow
set_option linter.unusedVariables false
set_option linter.unusedSimpArgs false
namespace Go.Proofs.YtmfladkimmnccaaDoor.May
open Go.RowKit Lathe Go.Proofs.YtmfladkimmnccaaDoor.PW Go.Proofs.YtmfladkimmnccaaDoorW.PrintWords Go.Proofs.YtmfladkimmnccaaDoorW.PrintMore Go.Proofs.YtmfladkimmnccaaDoor.Flo Go.Proofs.YtmfladkimmnccaaDoor.Row

def fin (x : Int) : Bool := Go.bits .and .u32 x 2139095040 != 2139095040
set_option maxHeartbeats 8000000 in
set_option maxRecDepth 100000 in
theorem finite (x : Int) (w : World) : Calls Tryd.prog 64 #[.int .u32 x] w fun e w' => e = .returned (.bool (fin x)) ∧ w = w' := by
  go_enter Tryd.func64, Tryd.ntmps64
  go_wp2
  go_ret
  exact ⟨rfl, rfl⟩
theorem may1 (x : Int) (w : World) : Calls Tryd.prog 63 #[.int .u32 x] w fun e w' => e = .returned (.bool (!fin x)) ∧ w = w' := by
  go_enter Tryd.func63, Tryd.ntmps63
  go_wp2_with (go_at_call 64; refine (finite _ _).mono ?_; rintro e w' ⟨rfl, rfl⟩)
  go_ret
  exact ⟨rfl, rfl⟩
set_option maxHeartbeats 8000000 in
set_option maxRecDepth 100000 in
theorem index2 (ad : Addr) (x y : Int) (c : Nat) (w : World) (h0 : w.cell? ad = some (.int .u32 x)) (h1 : w.cell? (ad.add 1) = some (.int .u32 y)) : Calls Tryd.prog 79 #[.slice (some ad) 2 c, .func (.func 63) #[] #[]] w fun e w' => e = .returned (.int .i64 (if fin x = true then if fin y = true then -1 else 1 else 0)) ∧ w = w' := by
  have h2 : w.cell? ⟨ad.block, ad.off + 1, none⟩ = some (.int .u32 y) := h1
  by_cases f1 : fin x = true
  · rw [if_pos f1]
    by_cases f2 : fin y = true
    · rw [if_pos f2]
      go_enter Tryd.func79, Tryd.ntmps79
      go_wp2
      refine wp_loop_rounds 3 ?_
      rw [rounds_succ]
      go_wp2_with (go_at_call 63; refine (may1 _ _).mono ?_; rintro e w' ⟨rfl, rfl⟩)
      rw [rounds_succ]
      go_wp2_with (go_at_call 63; refine (may1 _ _).mono ?_; rintro e w' ⟨rfl, rfl⟩)
      rw [rounds_succ]
      go_wp2
      go_ret
      exact ⟨rfl, rfl⟩
    · rw [if_neg f2]
      have f3 : fin y = false := by simpa using f2
      go_enter Tryd.func79, Tryd.ntmps79
      go_wp2
      refine wp_loop_rounds 3 ?_
      rw [rounds_succ]
      go_wp2_with (go_at_call 63; refine (may1 _ _).mono ?_; rintro e w' ⟨rfl, rfl⟩)
      rw [rounds_succ]
      go_wp2_with (go_at_call 63; refine (may1 _ _).mono ?_; rintro e w' ⟨rfl, rfl⟩)
      go_ret
      exact ⟨rfl, rfl⟩
  · rw [if_neg f1]
    have f3 : fin x = false := by simpa using f1
    go_enter Tryd.func79, Tryd.ntmps79
    go_wp2
    refine wp_loop_rounds 3 ?_
    rw [rounds_succ]
    go_wp2_with (go_at_call 63; refine (may1 _ _).mono ?_; rintro e w' ⟨rfl, rfl⟩)
    go_ret
    exact ⟨rfl, rfl⟩
set_option maxHeartbeats 8000000 in
set_option maxRecDepth 100000 in
theorem contains2 (ad : Addr) (x y : Int) (c : Nat) (w : World) (h0 : w.cell? ad = some (.int .u32 x)) (h1 : w.cell? (ad.add 1) = some (.int .u32 y)) : Calls Tryd.prog 62 #[.slice (some ad) 2 c, .func (.func 63) #[] #[]] w fun e w' => e = .returned (.bool (!(fin x && fin y))) ∧ w = w' := by
  go_enter Tryd.func62, Tryd.ntmps62
  go_wp2_with (go_at_call 79; refine (index2 ad x y c _ h0 h1).mono ?_; rintro e w' ⟨rfl, rfl⟩)
  all_goals go_ret
  all_goals first | exact ⟨rfl, rfl⟩ | simp [*]
set_option maxHeartbeats 8000000 in
set_option maxRecDepth 100000 in
theorem index0 (A : Option Addr) (c : Nat) (f : Value) (w : World) : Calls Tryd.prog 84 #[.slice A 0 c, f] w fun e w' => e = .returned (.int .i64 (-1)) ∧ w = w' := by
  go_enter Tryd.func84, Tryd.ntmps84
  go_wp2
  refine wp_loop_rounds 1 ?_
  rw [rounds_succ]
  go_wp2
  go_ret
  exact ⟨rfl, rfl⟩
set_option maxHeartbeats 8000000 in
set_option maxRecDepth 100000 in
theorem contains0 (A : Option Addr) (c : Nat) (f : Value) (w : World) : Calls Tryd.prog 66 #[.slice A 0 c, f] w fun e w' => e = .returned (.bool false) ∧ w = w' := by
  go_enter Tryd.func66, Tryd.ntmps66
  go_wp2_with (go_at_call 84; refine (index0 A c f _).mono ?_; rintro e w' ⟨rfl, rfl⟩)
  go_ret
  exact ⟨rfl, rfl⟩
set_option maxHeartbeats 8000000 in
set_option maxRecDepth 100000 in
theorem may (ad : Addr) (A2 A3 : Option Addr) (x y : Int) (c1 c2 c3 : Nat) (l2 : List Int) (w : World) (h0 : w.cell? ad = some (.int .u32 x)) (h1 : w.cell? (ad.add 1) = some (.int .u32 y)) (hr : Kd.C (Kd.int .i64) w A2 l2.length l2) : Calls Tryd.prog 34 #[.agg #[.int .i64 2, .slice (some ad) 2 c1, .slice A2 l2.length c2, .slice A3 0 c3]] w fun e w' => e = .returned (.bool ((fin x && fin y) && (has 2 l2.length 0 2 3 && (win (rd l2 0) 1 1024 && (win (rd l2 1) 1 2147483647 && win (rd l2 2) 0 2147483647))))) ∧ Below w.heap.size w w' := by
  have hmf : ∀ (fn : Fn) (first cap : Array Value) (w : World), (Instr.makeFunc fn first cap).run Tryd.prog w = .ok (.func fn first cap) w := fun _ _ _ _ => rfl
  generalize hb : (has 2 l2.length 0 2 3 && (win (rd l2 0) 1 1024 && (win (rd l2 1) 1 2147483647 && win (rd l2 2) 0 2147483647))) = b
  have hrow := fun w' (hw : Kd.C (Kd.int .i64) w' A2 l2.length l2) => row_2 (some ad) A2 A3 2 0 c1 c2 c3 l2 w' hw
  rw [hb] at hrow
  go_enter Tryd.func34, Tryd.ntmps34
  go_wp2_with first
    | (go_at_call 62; refine (contains2 ad x y c1 _ (keepA h0) (keepA h1)).mono ?_; rintro e w' ⟨rfl, rfl⟩)
    | (go_at_call 66; refine (contains0 A3 c3 _ _).mono ?_; rintro e w' ⟨rfl, rfl⟩)
    | (go_at_call 65; refine (hrow _ (Kd.C_below hr (below_alloc (Below.refl _ _) _))).mono ?_; rintro e w' ⟨rfl, hB⟩; have hk : w'.cell? ⟨w.heap.size, 3, none⟩ = some (.slice A3 0 c3) := (hB.cell (by simp [World.alloc_eq])).trans (by go_simp))
  all_goals go_ret
  all_goals refine ⟨?_, ?_⟩
  all_goals first
    | exact below_alloc (Below.refl _ _) _
    | exact below_then (below_alloc (Below.refl _ _) _) (by simp [World.alloc_eq]) hB
    | (simp [*]; done)
    | (rename_i hx; rcases hx with hx | hx <;> simp [hx])
end Go.Proofs.YtmfladkimmnccaaDoor.May
