/- The scanner's add: a token more. Conditions: the scanner's cells, its list, a text of at most 65536 bytes. -/
import Derived.Test.YtmfladkimmnccaaLxw
import Derived.Deep.RegionLaw
import Derived.BigRegion
import Derived.Deep.RegionHeld3
set_option linter.unusedVariables false
set_option linter.unusedSimpArgs false
namespace Go.Proofs.Ytmfladkimmnccaa.Lx
open Go.RowKit Go.Proofs.YtmfladkimmnccaaW.PrintWords Go.Proofs.YtmfladkimmnccaaW.PrintMore
attribute [local go_sem ↓] Go.wp_at_zero Go.wp_at_succ
theorem infoTk : (Try.prog.info? 32).map (fun i => (i.zero, i.size, i.bytes)) = some (some (.agg #[(.int .i64 0), (.string ⟨#[]⟩), (.int .i64 0)]), 3, 32) := by kernel_rfl
/-- Tokens in memory. -/
def kT : Kd Tk := Kd.pair (Kd.int .i64) (Kd.pair Kd.string (Kd.int .i64))
theorem kT_mkM (w : World) (base : Nat) (ok : Nat → Prop) (x : Tk) : kT.M w base ok x [.int .i64 x.1, .string x.2.1, .int .i64 x.2.2] :=
  ⟨[.int .i64 x.1], [.string x.2.1, .int .i64 x.2.2], rfl, rfl, ⟨[.string x.2.1], [.int .i64 x.2.2], rfl, rfl, rfl⟩⟩
set_option maxHeartbeats 8000000 in
set_option maxRecDepth 100000 in
theorem add (B g i from_ : Nat) (kind : Int) (s : ByteArray) (v : Value) (l : List Tk) (w0 w : World) (h : SC w g s i v) (hl : kT.R 32 w B (fun k => k ≠ g) v l) (hB : Below B w0 w) (hBw : B ≤ w.heap.size) (hBg : B ≤ g)
    (hf : from_ ≤ i) (hi : i ≤ s.size) (hs : s.size ≤ 65536) (hn : l.length ≤ 65536) :
    Calls Try.prog 59 #[.pointer (some ⟨g, 0, none⟩), .int .i64 kind, .int .i64 from_] w fun e w' => e = .returned (.tuple #[]) ∧
      ∃ u, SC w' g s i u ∧ kT.R 32 w' B (fun k => k ≠ g) u (l ++ [(kind, s.extract from_ i, (from_ : Int))]) ∧ Below B w0 w' := by
  have c0 := h.c0
  have c1 := h.c1
  have c2 := h.c2
  have f2 := h.f2
  have hg := blk_lt h.heap
  have b0 := eq_true (show (0 : Int) ≤ (from_ : Int) by omega)
  have b1 := eq_true (show (from_ : Int) ≤ (i : Int) by omega)
  have b2 := eq_true (show (i : Int) ≤ (s.size : Int) by omega)
  have hH := Aside0.mk h
  have hne : v.ownBlock ≠ some g := fun e => hl.1 g e rfl
  clear h
  go_enter Try.func59, Try.ntmps59
  go_wp2
  go_region_law ((refine Kd.R_append_step (W := w.drew) kT (w0 := w0) B (by rfl) (.tmp 10) (.tmp 24) 22 32 (.agg #[(.int .i64 0), (.string ⟨#[]⟩), (.int .i64 0)]) 32 (by rfl) Try.underlying22 infoTk rfl (by decide) (by omega) v l (kind, s.extract from_ i, (from_ : Int)) [.int .i64 kind, .string (s.extract from_ i), .int .i64 from_] (fun k => k ≠ g) (fun _ => False) (by rfl) (by rfl) (kT_mkM _ _ _ _) (fun _ hk => hk.elim) (fun k hk e => by subst e; exact absurd hg (Nat.not_lt.mpr hk)) (Kd.R_drew hl) (below_drew hB) hBw (by omega) ?_; intro u w1 hR1 hB1 hgrow hat; obtain ⟨A1, k1, hu⟩ := Kd.R_slice hR1; subst hu; have f2' : w1.frozen? ⟨g, 2, none⟩ = false := (hgrow.frozen_far ⟨g, 2, none⟩ hg (Ne.symm hne)).trans f2; have c2' : w1.cell? ⟨g, 2, none⟩ = some v := (hgrow.cell_far ⟨g, 2, none⟩ hg (Ne.symm hne)).trans c2))
  all_goals go_wp2
  all_goals go_end0
  all_goals
    simp only [List.length_append, List.length_singleton] at hR1
    have hsc : SC w1 g s i v := ⟨(hgrow.block g hg (Ne.symm hne)).trans hH.out.heap⟩
    exact ⟨rfl, _, hsc.set2 _, Kd.R_grown hR1 (grown_set (World.grownBy.refl w1 (some g)) _) (fun k hk e => hk (Option.some.inj e)), hB1.setCell hBg _⟩
end Go.Proofs.Ytmfladkimmnccaa.Lx
