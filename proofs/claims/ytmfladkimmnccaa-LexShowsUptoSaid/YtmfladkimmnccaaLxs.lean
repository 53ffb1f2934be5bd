/- The scanner's skip, at each class of bytes. Conditions: the scanner's cells; a text of at most 65536 bytes. -/
import Derived.Test.YtmfladkimmnccaaLxw
set_option linter.unusedVariables false
set_option linter.unusedSimpArgs false
namespace Go.Proofs.Ytmfladkimmnccaa.Lx
open Go.RowKit Go.Proofs.YtmfladkimmnccaaW.PrintWords Go.Proofs.YtmfladkimmnccaaW.PrintMore

set_option maxHeartbeats 8000000 in
set_option maxRecDepth 100000 in
theorem skip_blank (g i : Nat) (s : ByteArray) (v : Value) (w : World) (h : SC w g s i v) (hi : i ≤ s.size) (hs : s.size ≤ 65536) :
    Calls Try.prog 52 #[.pointer (some ⟨g, 0, none⟩), .func (.func 53) #[] #[]] w fun e w' => e = .returned (.int .i64 (skp blank s i - i : Nat)) ∧ SC w' g s (skp blank s i) v ∧ w.grownBy w' (some g) := by
  have c1 := h.c1
  go_enter Try.func52, Try.ntmps52
  go_wp2
  clear c1
  go_loopg [] (s.size - i) (fun q wr => ∃ k : Nat, k + q = s.size ∧ i ≤ k ∧ Aside0 (skp blank s k = skp blank s i) ∧ SC wr g s k v ∧ w.grownBy wr (some g))
  case atStart => exact ⟨i, by omega, Nat.le_refl _, ⟨rfl⟩, h, World.grownBy.refl _ _⟩
  case round =>
    obtain ⟨k, hq, hk, he, hsc, hg⟩ := hrel
    have c0 := hsc.c0
    have c1 := hsc.c1
    have f1 := hsc.f1
    have hk2 : k ≤ s.size := by omega
    have hq' := Aside0.mk hq
    clear hq
    by_cases hlt : k < s.size
    · have b0 : decide ((k : Int) < (s.size : Int)) = true := decide_eq_true (by omega)
      have b1 : decide (k < s.size) = true := decide_eq_true hlt
      have p0 := eq_true (show (0 : Int) ≤ (k : Int) by omega)
      have p1 := eq_true (show (k : Int) < (s.size : Int) by omega)
      by_cases hp : blank (nw s k) = true
      · have hfc : ∀ w, Calls Try.prog 53 #[.int .u8 ((s[k]).toNat : Int)] w fun e w' => e = .returned (.bool true) ∧ w' = w := fun w => by
          have := cls_blank (nw s k) w (nw_byte _ _)
          rw [nw_of hlt, hp] at this
          exact this
        have hst := Aside0.mk ((skp_step hlt hp).symm.trans he.out)
        clear hp he
        go_wp2
        go_quiet ((go_at_call 53; exact Calls.quiet_of_same (hfc _)))
        go_wp2
        go_roundg (gk - 1)
        case measure => have := hq'.out; omega
        case rel => exact ⟨k + 1, by have := hq'.out; omega, by omega, hst, (hsc.drewN nq).set1 (k + 1), grown_set (grown_drewN hg _) _⟩
      · have hfc : ∀ w, Calls Try.prog 53 #[.int .u8 ((s[k]).toNat : Int)] w fun e w' => e = .returned (.bool false) ∧ w' = w := fun w => by
          have := cls_blank (nw s k) w (nw_byte _ _)
          rw [nw_of hlt, show blank (nw s k) = false by simpa using hp] at this
          exact this
        have hst := Aside0.mk ((skp_stop (fun h => hp h.2)).symm.trans he.out)
        clear hp he
        go_wp2
        go_quiet ((go_at_call 53; exact Calls.quiet_of_same (hfc _)))
        go_wp2
        go_ret
        rw [← hst.out]
        exact ⟨ret_int (by first | omega | (unfold wrap64; omega)), hsc.drewN nq, grown_drewN hg _⟩
    · have b0 : decide ((k : Int) < (s.size : Int)) = false := decide_eq_false (by omega)
      have b1 : decide (k < s.size) = false := decide_eq_false hlt
      have hst := Aside0.mk ((skp_stop (fun h => hlt h.1)).symm.trans he.out)
      clear he
      go_wp2
      go_quiet (fail)
      go_wp2
      go_ret
      rw [← hst.out]
      exact ⟨ret_int (by first | omega | (unfold wrap64; omega)), hsc.drewN nq, grown_drewN hg _⟩

set_option maxHeartbeats 8000000 in
set_option maxRecDepth 100000 in
theorem skip_line (g i : Nat) (s : ByteArray) (v : Value) (w : World) (h : SC w g s i v) (hi : i ≤ s.size) (hs : s.size ≤ 65536) :
    Calls Try.prog 52 #[.pointer (some ⟨g, 0, none⟩), .func (.func 55) #[] #[]] w fun e w' => e = .returned (.int .i64 (skp line s i - i : Nat)) ∧ SC w' g s (skp line s i) v ∧ w.grownBy w' (some g) := by
  have c1 := h.c1
  go_enter Try.func52, Try.ntmps52
  go_wp2
  clear c1
  go_loopg [] (s.size - i) (fun q wr => ∃ k : Nat, k + q = s.size ∧ i ≤ k ∧ Aside0 (skp line s k = skp line s i) ∧ SC wr g s k v ∧ w.grownBy wr (some g))
  case atStart => exact ⟨i, by omega, Nat.le_refl _, ⟨rfl⟩, h, World.grownBy.refl _ _⟩
  case round =>
    obtain ⟨k, hq, hk, he, hsc, hg⟩ := hrel
    have c0 := hsc.c0
    have c1 := hsc.c1
    have f1 := hsc.f1
    have hk2 : k ≤ s.size := by omega
    have hq' := Aside0.mk hq
    clear hq
    by_cases hlt : k < s.size
    · have b0 : decide ((k : Int) < (s.size : Int)) = true := decide_eq_true (by omega)
      have b1 : decide (k < s.size) = true := decide_eq_true hlt
      have p0 := eq_true (show (0 : Int) ≤ (k : Int) by omega)
      have p1 := eq_true (show (k : Int) < (s.size : Int) by omega)
      by_cases hp : line (nw s k) = true
      · have hfc : ∀ w, Calls Try.prog 55 #[.int .u8 ((s[k]).toNat : Int)] w fun e w' => e = .returned (.bool true) ∧ w' = w := fun w => by
          have := cls_line (nw s k) w (nw_byte _ _)
          rw [nw_of hlt, hp] at this
          exact this
        have hst := Aside0.mk ((skp_step hlt hp).symm.trans he.out)
        clear hp he
        go_wp2
        go_quiet ((go_at_call 55; exact Calls.quiet_of_same (hfc _)))
        go_wp2
        go_roundg (gk - 1)
        case measure => have := hq'.out; omega
        case rel => exact ⟨k + 1, by have := hq'.out; omega, by omega, hst, (hsc.drewN nq).set1 (k + 1), grown_set (grown_drewN hg _) _⟩
      · have hfc : ∀ w, Calls Try.prog 55 #[.int .u8 ((s[k]).toNat : Int)] w fun e w' => e = .returned (.bool false) ∧ w' = w := fun w => by
          have := cls_line (nw s k) w (nw_byte _ _)
          rw [nw_of hlt, show line (nw s k) = false by simpa using hp] at this
          exact this
        have hst := Aside0.mk ((skp_stop (fun h => hp h.2)).symm.trans he.out)
        clear hp he
        go_wp2
        go_quiet ((go_at_call 55; exact Calls.quiet_of_same (hfc _)))
        go_wp2
        go_ret
        rw [← hst.out]
        exact ⟨ret_int (by first | omega | (unfold wrap64; omega)), hsc.drewN nq, grown_drewN hg _⟩
    · have b0 : decide ((k : Int) < (s.size : Int)) = false := decide_eq_false (by omega)
      have b1 : decide (k < s.size) = false := decide_eq_false hlt
      have hst := Aside0.mk ((skp_stop (fun h => hlt h.1)).symm.trans he.out)
      clear he
      go_wp2
      go_quiet (fail)
      go_wp2
      go_ret
      rw [← hst.out]
      exact ⟨ret_int (by first | omega | (unfold wrap64; omega)), hsc.drewN nq, grown_drewN hg _⟩

set_option maxHeartbeats 8000000 in
set_option maxRecDepth 100000 in
theorem skip_lord (g i : Nat) (s : ByteArray) (v : Value) (w : World) (h : SC w g s i v) (hi : i ≤ s.size) (hs : s.size ≤ 65536) :
    Calls Try.prog 52 #[.pointer (some ⟨g, 0, none⟩), .func (.func 60) #[] #[]] w fun e w' => e = .returned (.int .i64 (skp lord s i - i : Nat)) ∧ SC w' g s (skp lord s i) v ∧ w.grownBy w' (some g) := by
  have c1 := h.c1
  go_enter Try.func52, Try.ntmps52
  go_wp2
  clear c1
  go_loopg [] (s.size - i) (fun q wr => ∃ k : Nat, k + q = s.size ∧ i ≤ k ∧ Aside0 (skp lord s k = skp lord s i) ∧ SC wr g s k v ∧ w.grownBy wr (some g))
  case atStart => exact ⟨i, by omega, Nat.le_refl _, ⟨rfl⟩, h, World.grownBy.refl _ _⟩
  case round =>
    obtain ⟨k, hq, hk, he, hsc, hg⟩ := hrel
    have c0 := hsc.c0
    have c1 := hsc.c1
    have f1 := hsc.f1
    have hk2 : k ≤ s.size := by omega
    have hq' := Aside0.mk hq
    clear hq
    by_cases hlt : k < s.size
    · have b0 : decide ((k : Int) < (s.size : Int)) = true := decide_eq_true (by omega)
      have b1 : decide (k < s.size) = true := decide_eq_true hlt
      have p0 := eq_true (show (0 : Int) ≤ (k : Int) by omega)
      have p1 := eq_true (show (k : Int) < (s.size : Int) by omega)
      by_cases hp : lord (nw s k) = true
      · have hfc : ∀ w, Calls Try.prog 60 #[.int .u8 ((s[k]).toNat : Int)] w fun e w' => e = .returned (.bool true) ∧ w' = w := fun w => by
          have := cls_lord (nw s k) w (nw_byte _ _)
          rw [nw_of hlt, hp] at this
          exact this
        have hst := Aside0.mk ((skp_step hlt hp).symm.trans he.out)
        clear hp he
        go_wp2
        go_quiet ((go_at_call 60; exact Calls.quiet_of_same (hfc _)))
        go_wp2
        go_roundg (gk - 1)
        case measure => have := hq'.out; omega
        case rel => exact ⟨k + 1, by have := hq'.out; omega, by omega, hst, (hsc.drewN nq).set1 (k + 1), grown_set (grown_drewN hg _) _⟩
      · have hfc : ∀ w, Calls Try.prog 60 #[.int .u8 ((s[k]).toNat : Int)] w fun e w' => e = .returned (.bool false) ∧ w' = w := fun w => by
          have := cls_lord (nw s k) w (nw_byte _ _)
          rw [nw_of hlt, show lord (nw s k) = false by simpa using hp] at this
          exact this
        have hst := Aside0.mk ((skp_stop (fun h => hp h.2)).symm.trans he.out)
        clear hp he
        go_wp2
        go_quiet ((go_at_call 60; exact Calls.quiet_of_same (hfc _)))
        go_wp2
        go_ret
        rw [← hst.out]
        exact ⟨ret_int (by first | omega | (unfold wrap64; omega)), hsc.drewN nq, grown_drewN hg _⟩
    · have b0 : decide ((k : Int) < (s.size : Int)) = false := decide_eq_false (by omega)
      have b1 : decide (k < s.size) = false := decide_eq_false hlt
      have hst := Aside0.mk ((skp_stop (fun h => hlt h.1)).symm.trans he.out)
      clear he
      go_wp2
      go_quiet (fail)
      go_wp2
      go_ret
      rw [← hst.out]
      exact ⟨ret_int (by first | omega | (unfold wrap64; omega)), hsc.drewN nq, grown_drewN hg _⟩

set_option maxHeartbeats 8000000 in
set_option maxRecDepth 100000 in
theorem skip_quot (g i : Nat) (s : ByteArray) (v : Value) (w : World) (h : SC w g s i v) (hi : i ≤ s.size) (hs : s.size ≤ 65536) :
    Calls Try.prog 52 #[.pointer (some ⟨g, 0, none⟩), .func (.func 62) #[] #[]] w fun e w' => e = .returned (.int .i64 (skp quot s i - i : Nat)) ∧ SC w' g s (skp quot s i) v ∧ w.grownBy w' (some g) := by
  have c1 := h.c1
  go_enter Try.func52, Try.ntmps52
  go_wp2
  clear c1
  go_loopg [] (s.size - i) (fun q wr => ∃ k : Nat, k + q = s.size ∧ i ≤ k ∧ Aside0 (skp quot s k = skp quot s i) ∧ SC wr g s k v ∧ w.grownBy wr (some g))
  case atStart => exact ⟨i, by omega, Nat.le_refl _, ⟨rfl⟩, h, World.grownBy.refl _ _⟩
  case round =>
    obtain ⟨k, hq, hk, he, hsc, hg⟩ := hrel
    have c0 := hsc.c0
    have c1 := hsc.c1
    have f1 := hsc.f1
    have hk2 : k ≤ s.size := by omega
    have hq' := Aside0.mk hq
    clear hq
    by_cases hlt : k < s.size
    · have b0 : decide ((k : Int) < (s.size : Int)) = true := decide_eq_true (by omega)
      have b1 : decide (k < s.size) = true := decide_eq_true hlt
      have p0 := eq_true (show (0 : Int) ≤ (k : Int) by omega)
      have p1 := eq_true (show (k : Int) < (s.size : Int) by omega)
      by_cases hp : quot (nw s k) = true
      · have hfc : ∀ w, Calls Try.prog 62 #[.int .u8 ((s[k]).toNat : Int)] w fun e w' => e = .returned (.bool true) ∧ w' = w := fun w => by
          have := cls_quot (nw s k) w (nw_byte _ _)
          rw [nw_of hlt, hp] at this
          exact this
        have hst := Aside0.mk ((skp_step hlt hp).symm.trans he.out)
        clear hp he
        go_wp2
        go_quiet ((go_at_call 62; exact Calls.quiet_of_same (hfc _)))
        go_wp2
        go_roundg (gk - 1)
        case measure => have := hq'.out; omega
        case rel => exact ⟨k + 1, by have := hq'.out; omega, by omega, hst, (hsc.drewN nq).set1 (k + 1), grown_set (grown_drewN hg _) _⟩
      · have hfc : ∀ w, Calls Try.prog 62 #[.int .u8 ((s[k]).toNat : Int)] w fun e w' => e = .returned (.bool false) ∧ w' = w := fun w => by
          have := cls_quot (nw s k) w (nw_byte _ _)
          rw [nw_of hlt, show quot (nw s k) = false by simpa using hp] at this
          exact this
        have hst := Aside0.mk ((skp_stop (fun h => hp h.2)).symm.trans he.out)
        clear hp he
        go_wp2
        go_quiet ((go_at_call 62; exact Calls.quiet_of_same (hfc _)))
        go_wp2
        go_ret
        rw [← hst.out]
        exact ⟨ret_int (by first | omega | (unfold wrap64; omega)), hsc.drewN nq, grown_drewN hg _⟩
    · have b0 : decide ((k : Int) < (s.size : Int)) = false := decide_eq_false (by omega)
      have b1 : decide (k < s.size) = false := decide_eq_false hlt
      have hst := Aside0.mk ((skp_stop (fun h => hlt h.1)).symm.trans he.out)
      clear he
      go_wp2
      go_quiet (fail)
      go_wp2
      go_ret
      rw [← hst.out]
      exact ⟨ret_int (by first | omega | (unfold wrap64; omega)), hsc.drewN nq, grown_drewN hg _⟩

set_option maxHeartbeats 8000000 in
set_option maxRecDepth 100000 in
theorem skip_digit (g i : Nat) (s : ByteArray) (v : Value) (w : World) (h : SC w g s i v) (hi : i ≤ s.size) (hs : s.size ≤ 65536) :
    Calls Try.prog 52 #[.pointer (some ⟨g, 0, none⟩), .func (.func 57) #[] #[]] w fun e w' => e = .returned (.int .i64 (skp digit s i - i : Nat)) ∧ SC w' g s (skp digit s i) v ∧ w.grownBy w' (some g) := by
  have c1 := h.c1
  go_enter Try.func52, Try.ntmps52
  go_wp2
  clear c1
  go_loopg [] (s.size - i) (fun q wr => ∃ k : Nat, k + q = s.size ∧ i ≤ k ∧ Aside0 (skp digit s k = skp digit s i) ∧ SC wr g s k v ∧ w.grownBy wr (some g))
  case atStart => exact ⟨i, by omega, Nat.le_refl _, ⟨rfl⟩, h, World.grownBy.refl _ _⟩
  case round =>
    obtain ⟨k, hq, hk, he, hsc, hg⟩ := hrel
    have c0 := hsc.c0
    have c1 := hsc.c1
    have f1 := hsc.f1
    have hk2 : k ≤ s.size := by omega
    have hq' := Aside0.mk hq
    clear hq
    by_cases hlt : k < s.size
    · have b0 : decide ((k : Int) < (s.size : Int)) = true := decide_eq_true (by omega)
      have b1 : decide (k < s.size) = true := decide_eq_true hlt
      have p0 := eq_true (show (0 : Int) ≤ (k : Int) by omega)
      have p1 := eq_true (show (k : Int) < (s.size : Int) by omega)
      by_cases hp : digit (nw s k) = true
      · have hfc : ∀ w, Calls Try.prog 57 #[.int .u8 ((s[k]).toNat : Int)] w fun e w' => e = .returned (.bool true) ∧ w' = w := fun w => by
          have := cls_digit (nw s k) w (nw_byte _ _)
          rw [nw_of hlt, hp] at this
          exact this
        have hst := Aside0.mk ((skp_step hlt hp).symm.trans he.out)
        clear hp he
        go_wp2
        go_quiet ((go_at_call 57; exact Calls.quiet_of_same (hfc _)))
        go_wp2
        go_roundg (gk - 1)
        case measure => have := hq'.out; omega
        case rel => exact ⟨k + 1, by have := hq'.out; omega, by omega, hst, (hsc.drewN nq).set1 (k + 1), grown_set (grown_drewN hg _) _⟩
      · have hfc : ∀ w, Calls Try.prog 57 #[.int .u8 ((s[k]).toNat : Int)] w fun e w' => e = .returned (.bool false) ∧ w' = w := fun w => by
          have := cls_digit (nw s k) w (nw_byte _ _)
          rw [nw_of hlt, show digit (nw s k) = false by simpa using hp] at this
          exact this
        have hst := Aside0.mk ((skp_stop (fun h => hp h.2)).symm.trans he.out)
        clear hp he
        go_wp2
        go_quiet ((go_at_call 57; exact Calls.quiet_of_same (hfc _)))
        go_wp2
        go_ret
        rw [← hst.out]
        exact ⟨ret_int (by first | omega | (unfold wrap64; omega)), hsc.drewN nq, grown_drewN hg _⟩
    · have b0 : decide ((k : Int) < (s.size : Int)) = false := decide_eq_false (by omega)
      have b1 : decide (k < s.size) = false := decide_eq_false hlt
      have hst := Aside0.mk ((skp_stop (fun h => hlt h.1)).symm.trans he.out)
      clear he
      go_wp2
      go_quiet (fail)
      go_wp2
      go_ret
      rw [← hst.out]
      exact ⟨ret_int (by first | omega | (unfold wrap64; omega)), hsc.drewN nq, grown_drewN hg _⟩
end Go.Proofs.Ytmfladkimmnccaa.Lx
