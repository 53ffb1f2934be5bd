/- The contract of package sched's at, at a polynomial schedule. Condition: where its rows lie. -/
import Derived.Test.YtmfladkimmnccaaDoorMay
import Derived.Test.YtmfladkimmnccaaDoorPow
import Derived.Test.YtmfladkimmnccaaDoorPWxa
set_option linter.unusedVariables false
set_option linter.unusedSimpArgs false
namespace Go.Proofs.YtmfladkimmnccaaDoor.Atp
open Go.RowKit Lathe Go.Proofs.YtmfladkimmnccaaDoor.PW Go.Proofs.YtmfladkimmnccaaDoorW.PrintWords Go.Proofs.YtmfladkimmnccaaDoorW.PrintMore Go.Proofs.YtmfladkimmnccaaDoor.Flo Go.Proofs.YtmfladkimmnccaaDoor.Row

def lim (n st fr : Int) : Int := min (max (wrap64 (n - fr)) 0) st
theorem keepN {W : World} {a : Addr} {v : Value} (m : Nat) (h : W.cell? a = some v) : (W.drewN m).cell? a = some v := h
def fra (c st : Int) : Nat := fsub 1065353216 (fdiv (tl (fint c)) (tl (fint st)))
set_option maxHeartbeats 8000000 in
set_option maxRecDepth 100000 in
theorem part (a b : Int) (w : World) : Calls Tryd.prog 54 #[.int .i64 a, .int .i64 b] w fun e w' => e = .returned (.int .u32 (fdiv (tl (fint a)) (tl (fint b)) : Nat)) ∧ Drawn0 w w' := by
  go_enter Tryd.func54, Tryd.ntmps54
  go_wp2_with first
    | (go_at_call 75; refine (FromInt _ _).mono ?_; rintro e w' ⟨rfl, rfl⟩)
    | (go_at_call 74; refine (Div _ _ _).mono ?_; rintro e w' ⟨rfl, ⟨⟨nq, rfl⟩⟩⟩)
  go_ret
  exact ⟨rfl, ⟨⟨_, rfl⟩⟩⟩
set_option maxHeartbeats 8000000 in
set_option maxRecDepth 100000 in
theorem at_poly (n : Int) (ad be : Addr) (A3 : Option Addr) (x y p st fr : Int) (c1 c2 n3 c3 : Nat) (w : World) (h0 : w.cell? ad = some (.int .u32 x)) (h1 : w.cell? (ad.add 1) = some (.int .u32 y)) (g0 : w.cell? be = some (.int .i64 p)) (g1 : w.cell? (be.add 1) = some (.int .i64 st)) (g2 : w.cell? (be.add 2) = some (.int .i64 fr)) (hx : 0 ≤ x) (hp : p ≤ 9223372036854775807) :
    Calls Tryd.prog 30 #[.agg #[.int .i64 2, .slice (some ad) 2 c1, .slice (some be) 3 c2, .slice A3 n3 c3], .int .i64 n] w fun e w' => e = .returned (.int .u32 (fadd (fmul (fsub x.toNat y.toNat) (fpow (fra (lim n st fr) st) p)) y.toNat : Nat)) ∧ Below w.heap.size w w' := by
  go_enter Tryd.func30, Tryd.ntmps30
  go_wp2
  go_region_held3 (fun w' => w'.cell? ⟨w.heap.size, 1, none⟩ = some (.slice (some ad) 2 c1) ∧ w'.cell? ⟨w.heap.size, 2, none⟩ = some (.slice (some be) 3 c2) ∧ w'.cell? ad = some (.int .u32 x) ∧ w'.cell? ⟨ad.block, ad.off + 1, none⟩ = some (.int .u32 y) ∧ w'.cell? be = some (.int .i64 p) ∧ w'.cell? ⟨be.block, be.off + 1, none⟩ = some (.int .i64 st) ∧ w'.cell? ⟨be.block, be.off + 2, none⟩ = some (.int .i64 fr)) ((refine ⟨?_, ?_, ?_, ?_, ?_, ?_, ?_⟩) <;> (first | (go_simp; done) | (repeat (first | exact h0 | exact h1 | exact g0 | exact g1 | exact g2 | refine keepN _ ?_ | refine keepD ?_ | refine keepA ?_)))) (fail)
  all_goals go_wp2_with first
    | (go_at_call 54; refine (part _ _ _).mono ?_; rintro e w' ⟨rfl, ⟨⟨nq1, rfl⟩⟩⟩)
    | (go_at_call 39; refine (Sub _ _ _).mono ?_; rintro e w' ⟨rfl, ⟨⟨nq2, rfl⟩⟩⟩)
    | (go_at_call 40; refine (Mul _ _ _).mono ?_; rintro e w' ⟨rfl, ⟨⟨nq3, rfl⟩⟩⟩)
    | (go_at_call 55; refine (Pow.Power _ _ _ hp (Int.natCast_nonneg _)).mono ?_; rintro e w' ⟨rfl, ⟨⟨nq4, rfl⟩⟩⟩)
    | (go_at_call 41; refine (Add _ _ _).mono ?_; rintro e w' ⟨rfl, ⟨⟨nq5, rfl⟩⟩⟩)
  go_region_held3 (fun w' => w'.cell? ⟨w.heap.size, 1, none⟩ = some (.slice (some ad) 2 c1) ∧ w'.cell? ⟨w.heap.size, 2, none⟩ = some (.slice (some be) 3 c2) ∧ w'.cell? ad = some (.int .u32 x) ∧ w'.cell? ⟨ad.block, ad.off + 1, none⟩ = some (.int .u32 y) ∧ w'.cell? be = some (.int .i64 p) ∧ w'.cell? ⟨be.block, be.off + 1, none⟩ = some (.int .i64 st) ∧ w'.cell? ⟨be.block, be.off + 2, none⟩ = some (.int .i64 fr)) ((refine ⟨?_, ?_, ?_, ?_, ?_, ?_, ?_⟩) <;> (first | (go_simp; done) | (repeat (first | exact h0 | exact h1 | exact g0 | exact g1 | exact g2 | refine keepN _ ?_ | refine keepD ?_ | refine keepA ?_)))) (first
    | (go_at_call 54; refine (part _ _ _).mono ?_; rintro e w' ⟨rfl, ⟨⟨nq1, rfl⟩⟩⟩)
    | (go_at_call 39; refine (Sub _ _ _).mono ?_; rintro e w' ⟨rfl, ⟨⟨nq2, rfl⟩⟩⟩)
    | (go_at_call 40; refine (Mul _ _ _).mono ?_; rintro e w' ⟨rfl, ⟨⟨nq3, rfl⟩⟩⟩)
    | (go_at_call 55; refine (Pow.Power _ _ _ hp (Int.natCast_nonneg _)).mono ?_; rintro e w' ⟨rfl, ⟨⟨nq4, rfl⟩⟩⟩)
    | (go_at_call 41; refine (Add _ _ _).mono ?_; rintro e w' ⟨rfl, ⟨⟨nq5, rfl⟩⟩⟩))
  all_goals go_wp2_with first
    | (go_at_call 54; refine (part _ _ _).mono ?_; rintro e w' ⟨rfl, ⟨⟨nq1, rfl⟩⟩⟩)
    | (go_at_call 39; refine (Sub _ _ _).mono ?_; rintro e w' ⟨rfl, ⟨⟨nq2, rfl⟩⟩⟩)
    | (go_at_call 40; refine (Mul _ _ _).mono ?_; rintro e w' ⟨rfl, ⟨⟨nq3, rfl⟩⟩⟩)
    | (go_at_call 55; refine (Pow.Power _ _ _ hp (Int.natCast_nonneg _)).mono ?_; rintro e w' ⟨rfl, ⟨⟨nq4, rfl⟩⟩⟩)
    | (go_at_call 41; refine (Add _ _ _).mono ?_; rintro e w' ⟨rfl, ⟨⟨nq5, rfl⟩⟩⟩)
  all_goals go_region_held3 (fun w' => w'.cell? ⟨w.heap.size, 1, none⟩ = some (.slice (some ad) 2 c1) ∧ w'.cell? ⟨w.heap.size, 2, none⟩ = some (.slice (some be) 3 c2) ∧ w'.cell? ad = some (.int .u32 x) ∧ w'.cell? ⟨ad.block, ad.off + 1, none⟩ = some (.int .u32 y) ∧ w'.cell? be = some (.int .i64 p) ∧ w'.cell? ⟨be.block, be.off + 1, none⟩ = some (.int .i64 st) ∧ w'.cell? ⟨be.block, be.off + 2, none⟩ = some (.int .i64 fr)) ((refine ⟨?_, ?_, ?_, ?_, ?_, ?_, ?_⟩) <;> (first | (go_simp; done) | (repeat (first | exact h0 | exact h1 | exact g0 | exact g1 | exact g2 | refine keepN _ ?_ | refine keepD ?_ | refine keepA ?_)))) (first
    | (go_at_call 54; refine (part _ _ _).mono ?_; rintro e w' ⟨rfl, ⟨⟨nq1, rfl⟩⟩⟩)
    | (go_at_call 39; refine (Sub _ _ _).mono ?_; rintro e w' ⟨rfl, ⟨⟨nq2, rfl⟩⟩⟩)
    | (go_at_call 40; refine (Mul _ _ _).mono ?_; rintro e w' ⟨rfl, ⟨⟨nq3, rfl⟩⟩⟩)
    | (go_at_call 55; refine (Pow.Power _ _ _ hp (Int.natCast_nonneg _)).mono ?_; rintro e w' ⟨rfl, ⟨⟨nq4, rfl⟩⟩⟩)
    | (go_at_call 41; refine (Add _ _ _).mono ?_; rintro e w' ⟨rfl, ⟨⟨nq5, rfl⟩⟩⟩))
  all_goals go_wp2_with first
    | (go_at_call 54; refine (part _ _ _).mono ?_; rintro e w' ⟨rfl, ⟨⟨nq1, rfl⟩⟩⟩)
    | (go_at_call 39; refine (Sub _ _ _).mono ?_; rintro e w' ⟨rfl, ⟨⟨nq2, rfl⟩⟩⟩)
    | (go_at_call 40; refine (Mul _ _ _).mono ?_; rintro e w' ⟨rfl, ⟨⟨nq3, rfl⟩⟩⟩)
    | (go_at_call 55; refine (Pow.Power _ _ _ hp (Int.natCast_nonneg _)).mono ?_; rintro e w' ⟨rfl, ⟨⟨nq4, rfl⟩⟩⟩)
    | (go_at_call 41; refine (Add _ _ _).mono ?_; rintro e w' ⟨rfl, ⟨⟨nq5, rfl⟩⟩⟩)
  all_goals go_ret
  all_goals refine ⟨rfl, ?_⟩
  all_goals repeat (first | exact Below.refl _ _ | refine below_drew ?_ | refine pw_below_drewN ?_ _ | refine below_alloc ?_ _)
end Go.Proofs.YtmfladkimmnccaaDoor.Atp
