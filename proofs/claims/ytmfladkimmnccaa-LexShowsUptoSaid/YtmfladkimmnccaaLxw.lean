/- The scanner's small functions: what they answer and what becomes of the scanner. Conditions: the scanner's cells; a text of at most 65536 bytes. -/
import Derived.Test.YtmfladkimmnccaaProg
import Derived.Test.YtmfladkimmnccaaWWords
import Derived.Test.YtmfladkimmnccaaWMore
import Derived.Test.YtmfladkimmnccaaWGuard
import Derived.Test.YtmfladkimmnccaaLxa
import Derived.LoopTactic
import Derived.LoopN
import Derived.Outline
import Derived.Deep.DrawnRows
import Derived.BigQuiet
import Derived.Deep.QuietTactic
set_option linter.unusedVariables false
set_option linter.unusedSimpArgs false
namespace Go.Proofs.Ytmfladkimmnccaa.Lx
open Go.RowKit Go.Proofs.YtmfladkimmnccaaW.PrintWords Go.Proofs.YtmfladkimmnccaaW.PrintMore

/-- The scanner: its text, its place, its list. -/
structure SC (W : World) (g : Nat) (s : ByteArray) (i : Nat) (v : Value) : Prop where
  heap : W.heap[g]? = some (.cells #[.string s, .int .i64 i, v] 75 (0, 0))
theorem SC.c0 {W : World} {g : Nat} {s : ByteArray} {i : Nat} {v : Value} (h : SC W g s i v) : W.cell? ⟨g, 0, none⟩ = some (.string s) := (blk_cell h.heap 0).trans rfl
theorem SC.c1 {W : World} {g : Nat} {s : ByteArray} {i : Nat} {v : Value} (h : SC W g s i v) : W.cell? ⟨g, 1, none⟩ = some (.int .i64 i) := (blk_cell h.heap 1).trans rfl
theorem SC.c2 {W : World} {g : Nat} {s : ByteArray} {i : Nat} {v : Value} (h : SC W g s i v) : W.cell? ⟨g, 2, none⟩ = some v := (blk_cell h.heap 2).trans rfl
theorem SC.f1 {W : World} {g : Nat} {s : ByteArray} {i : Nat} {v : Value} (h : SC W g s i v) : W.frozen? ⟨g, 1, none⟩ = false := blk_frozen h.heap 1
theorem SC.f2 {W : World} {g : Nat} {s : ByteArray} {i : Nat} {v : Value} (h : SC W g s i v) : W.frozen? ⟨g, 2, none⟩ = false := blk_frozen h.heap 2
theorem SC.drewN {W : World} {g : Nat} {s : ByteArray} {i : Nat} {v : Value} (h : SC W g s i v) (n : Nat) : SC (W.drewN n) g s i v := ⟨h.heap⟩
theorem SC.drew {W : World} {g : Nat} {s : ByteArray} {i : Nat} {v : Value} (h : SC W g s i v) : SC W.drew g s i v := ⟨h.heap⟩
theorem SC.set1 {W : World} {g : Nat} {s : ByteArray} {i : Nat} {v : Value} (h : SC W g s i v) (j : Nat) : SC (W.setCell ⟨g, 1, none⟩ (.int .i64 j)) g s j v := ⟨by simpa using blk_set h.heap 1 (.int .i64 j)⟩
theorem SC.set2 {W : World} {g : Nat} {s : ByteArray} {i : Nat} {v : Value} (h : SC W g s i v) (u : Value) : SC (W.setCell ⟨g, 2, none⟩ u) g s i u := ⟨by simpa using blk_set h.heap 2 u⟩
/-- What a byte is, to the walk. -/
theorem nw_of {s : ByteArray} {i : Nat} (h : i < s.size) : (nw s i : Int) = ((s[i]).toNat : Int) := by
  unfold nw
  rw [dif_pos h]
set_option maxHeartbeats 4000000 in
set_option maxRecDepth 100000 in
theorem now (g i : Nat) (s : ByteArray) (v : Value) (w : World) (h : SC w g s i v) (hi : i ≤ s.size) (hs : s.size ≤ 65536) :
    Calls Try.prog 54 #[.pointer (some ⟨g, 0, none⟩)] w fun e w' => e = .returned (.int .u8 (nw s i)) ∧ Drawn0 w w' := by
  have c0 := h.c0
  have c1 := h.c1
  by_cases hlt : i < s.size
  · have b0 : decide ((i : Int) < (s.size : Int)) = true := decide_eq_true (by omega)
    have b1 : decide (i < s.size) = true := decide_eq_true hlt
    have p0 := eq_true (show (0 : Int) ≤ (i : Int) by omega)
    have p1 := eq_true (show (i : Int) < (s.size : Int) by omega)
    go_enter Try.func54, Try.ntmps54
    go_wp2
    repeat (go_quiet (fail); try go_wp2)
    go_ret
    exact ⟨by rw [nw_of hlt]; rfl, ((Drawn0.refl _).step _).step _⟩
  · have b0 : decide ((i : Int) < (s.size : Int)) = false := decide_eq_false (by omega)
    have b1 : decide (i < s.size) = false := decide_eq_false hlt
    have e : nw s i = 0 := by unfold nw; rw [dif_neg hlt]
    rw [e]
    clear e
    go_enter Try.func54, Try.ntmps54
    go_wp2
    repeat (go_quiet (fail); try go_wp2)
    go_ret
    exact ⟨rfl, ⟨⟨_, rfl⟩⟩⟩

theorem grown_trans {w w1 w2 : World} {row : Option Nat} (h : w.grownBy w1 row) (k : w1.grownBy w2 row) : w.grownBy w2 row :=
  ⟨k.os.trans h.os, k.tape.trans h.tape, k.output.trans h.output, Nat.le_trans h.size k.size, fun i hi hr => (k.block i (Nat.lt_of_lt_of_le hi h.size) hr).trans (h.block i hi hr)⟩
theorem grown_drewN {w w1 : World} {row : Option Nat} (h : w.grownBy w1 row) (n : Nat) : w.grownBy (w1.drewN n) row := ⟨h.os, h.tape, h.output, h.size, h.block⟩
theorem grown_set {w w1 : World} {g j : Nat} (h : w.grownBy w1 (some g)) (u : Value) : w.grownBy (w1.setCell ⟨g, j, none⟩ u) (some g) :=
  grown_trans h ⟨rfl, rfl, rfl, by simp [World.setCell], fun k hk hne => Below.heap_setCell w1 ⟨g, j, none⟩ u k (fun e => hne (by rw [e]))⟩
theorem ret_int {k : IntKind} {a b : Int} (h : a = b) : Ending.returned (.int k a) = .returned (.int k b) := by rw [h]
theorem ret_bool {a b : Bool} (h : a = b) : Ending.returned (.bool a) = .returned (.bool b) := by rw [h]
set_option maxHeartbeats 4000000 in
theorem cls_letter (c : Nat) (w : World) (hc : c < 256) : Calls Try.prog 56 #[.int .u8 (c : Int)] w fun e w' => e = .returned (.bool (letter c)) ∧ w' = w := by
  go_enter Try.func56, Try.ntmps56
  go_wp2
  all_goals go_ret
  all_goals exact ⟨ret_bool (by rw [Bool.eq_iff_iff]; simp [letter, lord, letter, digit] <;> omega), rfl⟩
set_option maxHeartbeats 4000000 in
theorem cls_digit (c : Nat) (w : World) (hc : c < 256) : Calls Try.prog 57 #[.int .u8 (c : Int)] w fun e w' => e = .returned (.bool (digit c)) ∧ w' = w := by
  go_enter Try.func57, Try.ntmps57
  go_wp2
  all_goals go_ret
  all_goals exact ⟨ret_bool (by rw [Bool.eq_iff_iff]; simp [digit, lord, letter, digit] <;> omega), rfl⟩
set_option maxHeartbeats 4000000 in
theorem cls_blank (c : Nat) (w : World) (hc : c < 256) : Calls Try.prog 53 #[.int .u8 (c : Int)] w fun e w' => e = .returned (.bool (blank c)) ∧ w' = w := by
  go_enter Try.func53, Try.ntmps53
  go_wp2
  all_goals go_ret
  all_goals exact ⟨ret_bool (by rw [Bool.eq_iff_iff]; simp [blank, lord, letter, digit] <;> omega), rfl⟩
set_option maxHeartbeats 4000000 in
theorem cls_line (c : Nat) (w : World) (hc : c < 256) : Calls Try.prog 55 #[.int .u8 (c : Int)] w fun e w' => e = .returned (.bool (line c)) ∧ w' = w := by
  go_enter Try.func55, Try.ntmps55
  go_wp2
  all_goals go_ret
  all_goals exact ⟨ret_bool (by rw [Bool.eq_iff_iff]; simp [line, lord, letter, digit] <;> omega), rfl⟩
set_option maxHeartbeats 4000000 in
theorem cls_quot (c : Nat) (w : World) (hc : c < 256) : Calls Try.prog 62 #[.int .u8 (c : Int)] w fun e w' => e = .returned (.bool (quot c)) ∧ w' = w := by
  go_enter Try.func62, Try.ntmps62
  go_wp2
  all_goals go_ret
  all_goals exact ⟨ret_bool (by rw [Bool.eq_iff_iff]; simp [quot, lord, letter, digit] <;> omega), rfl⟩
set_option maxHeartbeats 4000000 in
theorem cls_lord (c : Nat) (w : World) (hc : c < 256) : Calls Try.prog 60 #[.int .u8 (c : Int)] w fun e w' => e = .returned (.bool (lord c)) ∧ w' = w := by
  unfold lord
  by_cases h1 : letter c = true
  · rw [h1, Bool.true_or]
    have hL : ∀ w, Calls Try.prog 56 #[.int .u8 (c : Int)] w fun e w' => e = .returned (.bool true) ∧ w' = w := fun w => by
      have := cls_letter c w hc
      rw [h1] at this
      exact this
    clear h1
    go_enter Try.func60, Try.ntmps60
    go_wp2_with (go_at_call 56; refine (hL _).mono ?_; rintro e w' ⟨rfl, rfl⟩)
    go_ret
    exact ⟨rfl, rfl⟩
  · have h2 : letter c = false := by simpa using h1
    rw [h2, Bool.false_or]
    have hL : ∀ w, Calls Try.prog 56 #[.int .u8 (c : Int)] w fun e w' => e = .returned (.bool false) ∧ w' = w := fun w => by
      have := cls_letter c w hc
      rw [h2] at this
      exact this
    clear h1 h2
    go_enter Try.func60, Try.ntmps60
    go_wp2_with first
      | (go_at_call 56; refine (hL _).mono ?_; rintro e w' ⟨rfl, rfl⟩)
      | (go_at_call 57; refine (cls_digit c _ hc).mono ?_; rintro e w' ⟨rfl, rfl⟩)
    go_ret
    exact ⟨rfl, rfl⟩
end Go.Proofs.Ytmfladkimmnccaa.Lx
