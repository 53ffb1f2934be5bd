/- A leaf's step at trace: the region of the default case. No condition. -/
import Derived.Test.YtpgodgfkbkfpcaaGreatRir
set_option linter.unusedVariables false
set_option linter.unusedSimpArgs false
namespace Go.Proofs.YtpgodgfkbkfpcaaGreat.Tim
open Go.Shelf Go.RowKit Go.Proofs.YtpgodgfkbkfpcaaGreat.Trb Go.Proofs.YtpgodgfkbkfpcaaGreat.Bui Go.Proofs.YtpgodgfkbkfpcaaGreat.Fom
open Lathe (fadd fmul)
/-- A list of one piece. -/
structure Pl (w : World) (p g c : Nat) : Prop where
  c0 : w.cell? ⟨p, 0, none⟩ = some (.int .i64 0)
  c1 : w.cell? ⟨p, 1, none⟩ = some (.int .i64 0)
  c2 : w.cell? ⟨p, 2, none⟩ = some (.bool false)
  c3 : w.cell? ⟨p, 3, none⟩ = some (.slice (some ⟨g, 0, none⟩) 1 c)
  c4 : w.cell? ⟨p, 4, none⟩ = some (.slice none 0 0)
theorem Pl.same {w w' : World} {k g c : Nat} (h : Pl w k g c) (hb : w'.heap[k]? = w.heap[k]?) : Pl w' k g c :=
  ⟨(World.cell?_of_block hb).trans h.c0, (World.cell?_of_block hb).trans h.c1, (World.cell?_of_block hb).trans h.c2, (World.cell?_of_block hb).trans h.c3, (World.cell?_of_block hb).trans h.c4⟩
theorem Pl.on {w w' : World} {k g c : Nat} (h : Pl w k g c) (hB : Below w.heap.size w w') : Pl w' k g c := h.same (hB.block k (World.block_lt_of_cell? _ _ h.c0))
theorem pl_load {w : World} {k g c : Nat} (h : Pl w k g c) : (Instr.loadAt 102 (.pointer (some ⟨k, 0, none⟩))).run Tryz.prog w = .ok (pc g c) w := by
  have := load102 w k _ _ _ _ _ h.c0 h.c1 h.c2 h.c3 h.c4
  simp [Instr.loadAt, Instr.sureAddr, this, pc]
theorem But.trans {X : List Nat} {w w1 w2 : World} (h : But X w w1) (k : But X w1 w2) : But X w w2 :=
  ⟨k.os.trans h.os, k.tape.trans h.tape, k.output.trans h.output, Nat.le_trans h.size k.size, fun g hg hx => (k.block g (Nat.lt_of_lt_of_le hg h.size) hx).trans (h.block g hg hx)⟩
noncomputable def ops315 : Array Oper := opsIn Tryz.f315 12
def Phi (B gk : Nat) (r : Int) (g c : Nat) (w : World) : Prop := B ≤ g ∧ w.cell? ⟨g, 0, none⟩ = some (.int .u32 r) ∧ Ke w gk g c
theorem Phi.on {B gk g c : Nat} {r : Int} {w w' : World} (h : Phi B gk r g c w) (hB : Below w.heap.size w w') : Phi B gk r g c w' := ⟨h.1, (hB.cell (World.block_lt_of_cell? _ _ h.2.1)).trans h.2.1, h.2.2.on hB⟩
def pcs (g c : Nat) : Array Value := #[.int .i64 0, .int .i64 0, .bool false, .slice (some ⟨g, 0, none⟩) 1 c, .slice none 0 0]
def V12 (k gk kc gx cx pp ppc gp cp : Nat) (t : Nat) : Value :=
  if t = 61 then .slice none 0 0 else if t = 65 then .pointer (some ⟨k, 10, none⟩) else if t = 66 then .slice (some ⟨gk, 0, none⟩) 1 kc else if t = 67 then .int .i64 0 else if t = 68 then .pointer (some ⟨gk, 0, none⟩) else if t = 69 then pc gx cx
  else if t = 70 then .slice (some ⟨pp, 0, none⟩) 1 ppc else if t = 71 then .int .i64 0 else if t = 72 then .pointer (some ⟨pp, 0, none⟩) else if t = 73 then pc gp cp else .pointer (some ⟨k, 0, none⟩)
def T12 (B k gk kc gx cx pp ppc gp cp : Nat) (r : Int) (t : Nat) (v : Value) (w : World) : Prop :=
  if t = 74 then ∃ g c, v = pc g c ∧ Phi B gk r g c w else if t = 75 then ∃ q g c, v = .slice (some ⟨q, 0, none⟩) 1 1 ∧ w.heap[q]? = some (.cells (pcs g c) 102 (0, 0)) ∧ Phi B gk r g c w
  else if t = 76 then ∃ q cap g c, v = .slice (some ⟨q, 0, none⟩) 1 cap ∧ B ≤ q ∧ Pl w q g c ∧ Phi B gk r g c w else v = V12 k gk kc gx cx pp ppc gp cp t
theorem T12.free {B k gk kc gx cx pp ppc gp cp : Nat} {r : Int} {t : Nat} {v : Value} {w w' : World} (h : T12 B k gk kc gx cx pp ppc gp cp r t v w) (h1 : t ≠ 74) (h2 : t ≠ 75) (h3 : t ≠ 76) : T12 B k gk kc gx cx pp ppc gp cp r t v w' := by
  unfold T12 at h ⊢
  simp only [h1, h2, h3, if_false] at h ⊢
  exact h
theorem T12.on {B k gk kc gx cx pp ppc gp cp : Nat} {r : Int} {t : Nat} {v : Value} {w w' : World} (h : T12 B k gk kc gx cx pp ppc gp cp r t v w) (hB : Below w.heap.size w w') : T12 B k gk kc gx cx pp ppc gp cp r t v w' := by
  by_cases e1 : t = 74
  · subst e1
    obtain ⟨g, c, h1, h2⟩ : ∃ g c, v = pc g c ∧ Phi B gk r g c w := h
    exact ⟨g, c, h1, h2.on hB⟩
  · by_cases e2 : t = 75
    · subst e2
      obtain ⟨q, g, c, h1, h2, h3⟩ : ∃ q g c, v = .slice (some ⟨q, 0, none⟩) 1 1 ∧ w.heap[q]? = some (.cells (pcs g c) 102 (0, 0)) ∧ Phi B gk r g c w := h
      exact ⟨q, g, c, h1, heap_on h2 hB, h3.on hB⟩
    · by_cases e3 : t = 76
      · subst e3
        obtain ⟨q, cap, g, c, h1, h2, h3, h4⟩ : ∃ q cap g c, v = .slice (some ⟨q, 0, none⟩) 1 cap ∧ B ≤ q ∧ Pl w q g c ∧ Phi B gk r g c w := h
        exact ⟨q, cap, g, c, h1, h2, h3.on hB, h4.on hB⟩
      · exact h.free e1 e2 e3
theorem f168_2 (g : Nat) (w : World) : (Instr.fieldAt 168 (.pointer (some ⟨g, 0, none⟩)) 2).run Tryz.prog w = .ok (.pointer (some ⟨g, 10, none⟩)) w := by kernel_rfl
theorem ix166 (g c : Nat) (w : World) : (Instr.indexAt 166 (.slice (some ⟨g, 0, none⟩) 1 c) (.int .i64 0)).run Tryz.prog w = .ok (.pointer (some ⟨g, 0, none⟩)) w := by kernel_rfl
theorem ix97 (g c : Nat) (w : World) : (Instr.indexAt 97 (.slice (some ⟨g, 0, none⟩) 1 c) (.int .i64 0)).run Tryz.prog w = .ok (.pointer (some ⟨g, 0, none⟩)) w := by kernel_rfl
theorem load166 (w : World) (g k : Nat) (v : Value) (hc : w.cell? ⟨g, k, none⟩ = some v) : (Instr.loadAt 166 (.pointer (some ⟨g, k, none⟩))).run Tryz.prog w = .ok v w := by
  have hu := Tryz.underlying166
  simp [Instr.loadAt, Instr.sureAddr, loadVar, isAgg, run_underlying hu, hc]
theorem ix_run {a : Act} {w : World} {x y : Operand} {t : Nat} {v i b : Value} (h : a.eval x = v) (hi : a.eval y = i) (hr : (Instr.indexAt t v i).run Tryz.prog w = .ok b w) : ∀ o : Oper, o.op = .indexAddr t x y → (execOp a.eval o).run Tryz.prog w = .ok (.value b) w := by
  intro o ho
  unfold execOp
  simp [ho, h, hi, hr, Result.andThen]
theorem ent321 : ∀ vs w, (callFunc 321 vs).run Tryz.prog w = .ok (.enter 321 vs) w := enters_of Tryz.func321 (by kernel_rfl) rfl
end Go.Proofs.YtpgodgfkbkfpcaaGreat.Tim
