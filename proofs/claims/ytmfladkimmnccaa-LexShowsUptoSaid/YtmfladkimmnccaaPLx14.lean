/- The functions of the program that a statement reaches, as plain functions, and that the machine's calls do what these say. No condition. (Printed by a program.) -/
import Derived.Test.YtmfladkimmnccaaPLx0
namespace Go.Proofs.Ytmfladkimmnccaa.PL
open Go.RowKit Go.Proofs.YtmfladkimmnccaaW.PrintWords Go.Proofs.YtmfladkimmnccaaW.PrintLast Go.Proofs.YtmfladkimmnccaaW.PrintMore
attribute [local go_sem] max2_int min2_int max_two min_two max_three min_three max_four min_four   -- for this text's walks alone
set_option linter.unusedVariables false
set_option linter.unusedSimpArgs false

/-! ### latheref06_Show: function 22 -/
mutual
def latheref06_Show.l0 : Nat → List (S32) → ByteArray → Bool → Int → Option (ByteArray)
  | 0, _, _, _, _ => none
  | k + 1, x0, x3, x4, x5 => if x5 < (x0.length : Int) then (if 0 ≤ x5 then (if ((rd_T32 x0 x5).f0) = 4 then (if 1 + ((rd_T32 x0 x5).f1).size ≤ 9223372036854775807 then (if ((⟨#[34]⟩ : ByteArray) ++ ((rd_T32 x0 x5).f1)).size + 1 ≤ 9223372036854775807 then (if x4 = true then (if x3.size + (((⟨#[34]⟩ : ByteArray) ++ ((rd_T32 x0 x5).f1)) ++ (⟨#[34]⟩ : ByteArray)).size ≤ 9223372036854775807 then (latheref06_Show.l0 k x0 (x3 ++ (((⟨#[34]⟩ : ByteArray) ++ ((rd_T32 x0 x5).f1)) ++ (⟨#[34]⟩ : ByteArray))) false (wrap64 (x5 + 1))) else (none)) else (if x3.size + 1 ≤ 9223372036854775807 then (if (x3 ++ (⟨#[32]⟩ : ByteArray)).size + (((⟨#[34]⟩ : ByteArray) ++ ((rd_T32 x0 x5).f1)) ++ (⟨#[34]⟩ : ByteArray)).size ≤ 9223372036854775807 then (latheref06_Show.l0 k x0 ((x3 ++ (⟨#[32]⟩ : ByteArray)) ++ (((⟨#[34]⟩ : ByteArray) ++ ((rd_T32 x0 x5).f1)) ++ (⟨#[34]⟩ : ByteArray))) false (wrap64 (x5 + 1))) else (none)) else (none))) else (none)) else (none)) else (if ((rd_T32 x0 x5).f0) ≥ 5 then (latheref06_Show.j1 k x0 x3 x4 x5 ((rd_T32 x0 x5).f1) (decide (((rd_T32 x0 x5).f0) ≤ 10))) else (latheref06_Show.j1 k x0 x3 x4 x5 ((rd_T32 x0 x5).f1) false))) else (none)) else (some x3)
def latheref06_Show.j1 : Nat → List (S32) → ByteArray → Bool → Int → ByteArray → Bool → Option (ByteArray)
  | 0, _, _, _, _, _, _ => none
  | k + 1, x0, x3, x4, x5, x6, x28 => if x28 = true then (if 0 ≤ x5 then (if x5 < (x0.length : Int) then (if 0 ≤ (wrap64 (((rd_T32 x0 x5).f0) - 5)) then (if (wrap64 (((rd_T32 x0 x5).f0) - 5)) ≤ (wrap64 ((wrap64 (((rd_T32 x0 x5).f0) - 5)) + 1)) then (if (wrap64 ((wrap64 (((rd_T32 x0 x5).f0) - 5)) + 1)) ≤ 6 then (if x4 = true then (if x3.size + ((⟨#[40, 41, 44, 61, 45, 59]⟩ : ByteArray).extract ((wrap64 (((rd_T32 x0 x5).f0) - 5)) : Int).toNat ((wrap64 ((wrap64 (((rd_T32 x0 x5).f0) - 5)) + 1)) : Int).toNat).size ≤ 9223372036854775807 then (latheref06_Show.l0 k x0 (x3 ++ ((⟨#[40, 41, 44, 61, 45, 59]⟩ : ByteArray).extract ((wrap64 (((rd_T32 x0 x5).f0) - 5)) : Int).toNat ((wrap64 ((wrap64 (((rd_T32 x0 x5).f0) - 5)) + 1)) : Int).toNat)) false (wrap64 (x5 + 1))) else (none)) else (if x3.size + 1 ≤ 9223372036854775807 then (if (x3 ++ (⟨#[32]⟩ : ByteArray)).size + ((⟨#[40, 41, 44, 61, 45, 59]⟩ : ByteArray).extract ((wrap64 (((rd_T32 x0 x5).f0) - 5)) : Int).toNat ((wrap64 ((wrap64 (((rd_T32 x0 x5).f0) - 5)) + 1)) : Int).toNat).size ≤ 9223372036854775807 then (latheref06_Show.l0 k x0 ((x3 ++ (⟨#[32]⟩ : ByteArray)) ++ ((⟨#[40, 41, 44, 61, 45, 59]⟩ : ByteArray).extract ((wrap64 (((rd_T32 x0 x5).f0) - 5)) : Int).toNat ((wrap64 ((wrap64 (((rd_T32 x0 x5).f0) - 5)) + 1)) : Int).toNat)) false (wrap64 (x5 + 1))) else (none)) else (none))) else (none)) else (none)) else (none)) else (none)) else (none)) else (if 0 ≤ x5 then (if x5 < (x0.length : Int) then (if ((rd_T32 x0 x5).f0) < 1 then (latheref06_Show.j2 k x0 x3 x4 x5 x6 true) else (latheref06_Show.j2 k x0 x3 x4 x5 x6 (decide (((rd_T32 x0 x5).f0) > 3)))) else (none)) else (none))
def latheref06_Show.j2 : Nat → List (S32) → ByteArray → Bool → Int → ByteArray → Bool → Option (ByteArray)
  | 0, _, _, _, _, _, _ => none
  | k + 1, x0, x3, x4, x5, x6, x57 => if x57 = true then (latheref06_Show.l0 k x0 x3 x4 (wrap64 (x5 + 1))) else (if x4 = true then (if x3.size + x6.size ≤ 9223372036854775807 then (latheref06_Show.l0 k x0 (x3 ++ x6) false (wrap64 (x5 + 1))) else (none)) else (if x3.size + 1 ≤ 9223372036854775807 then (if (x3 ++ (⟨#[32]⟩ : ByteArray)).size + x6.size ≤ 9223372036854775807 then (latheref06_Show.l0 k x0 ((x3 ++ (⟨#[32]⟩ : ByteArray)) ++ x6) false (wrap64 (x5 + 1))) else (none)) else (none)))
end
def latheref06_Show.f (k : Nat) (l0 : List (S32)) : Option (ByteArray) := latheref06_Show.l0 k l0 (⟨#[]⟩ : ByteArray) true 0
theorem latheref06_Show.mono_l : ∀ k, (∀ y0 y1 y2 y3, LeO (latheref06_Show.l0 k y0 y1 y2 y3) (latheref06_Show.l0 (k + 1) y0 y1 y2 y3)) ∧ (∀ y0 y1 y2 y3 y4 y5, LeO (latheref06_Show.j1 k y0 y1 y2 y3 y4 y5) (latheref06_Show.j1 (k + 1) y0 y1 y2 y3 y4 y5)) ∧ (∀ y0 y1 y2 y3 y4 y5, LeO (latheref06_Show.j2 k y0 y1 y2 y3 y4 y5) (latheref06_Show.j2 (k + 1) y0 y1 y2 y3 y4 y5))
  | 0 => ⟨fun _ _ _ _ r h => by simp [latheref06_Show.l0] at h, fun _ _ _ _ _ _ r h => by simp [latheref06_Show.j1] at h, fun _ _ _ _ _ _ r h => by simp [latheref06_Show.j2] at h⟩
  | k + 1 => by
    obtain ⟨ih0, ih1, ih2⟩ := latheref06_Show.mono_l k
    refine ⟨?_, ?_, ?_⟩
    · intro y0 y1 y2 y3
      unfold latheref06_Show.l0
      repeat' first
      | (with_reducible exact ih0 _ _ _ _)
      | (with_reducible exact ih1 _ _ _ _ _ _)
      | (with_reducible exact ih2 _ _ _ _ _ _)
      | (with_reducible exact LeO.refl _)
      | (with_reducible exact LeO.none _)
      | (with_reducible refine LeO.ite ?_ ?_)
      | (with_reducible refine LeO.bind ?_ (fun _ => ?_))
      | exact ih0 _ _ _ _
      | exact ih1 _ _ _ _ _ _
      | exact ih2 _ _ _ _ _ _
      | exact LeO.none _
      | refine LeO.ite ?_ ?_
      | refine LeO.bind ?_ (fun _ => ?_)
    · intro y0 y1 y2 y3 y4 y5
      unfold latheref06_Show.j1
      repeat' first
      | (with_reducible exact ih0 _ _ _ _)
      | (with_reducible exact ih1 _ _ _ _ _ _)
      | (with_reducible exact ih2 _ _ _ _ _ _)
      | (with_reducible exact LeO.refl _)
      | (with_reducible exact LeO.none _)
      | (with_reducible refine LeO.ite ?_ ?_)
      | (with_reducible refine LeO.bind ?_ (fun _ => ?_))
      | exact ih0 _ _ _ _
      | exact ih1 _ _ _ _ _ _
      | exact ih2 _ _ _ _ _ _
      | exact LeO.none _
      | refine LeO.ite ?_ ?_
      | refine LeO.bind ?_ (fun _ => ?_)
    · intro y0 y1 y2 y3 y4 y5
      unfold latheref06_Show.j2
      repeat' first
      | (with_reducible exact ih0 _ _ _ _)
      | (with_reducible exact ih1 _ _ _ _ _ _)
      | (with_reducible exact ih2 _ _ _ _ _ _)
      | (with_reducible exact LeO.refl _)
      | (with_reducible exact LeO.none _)
      | (with_reducible refine LeO.ite ?_ ?_)
      | (with_reducible refine LeO.bind ?_ (fun _ => ?_))
      | exact ih0 _ _ _ _
      | exact ih1 _ _ _ _ _ _
      | exact ih2 _ _ _ _ _ _
      | exact LeO.none _
      | refine LeO.ite ?_ ?_
      | refine LeO.bind ?_ (fun _ => ?_)
theorem latheref06_Show.mono : ∀ a0 k, LeO (latheref06_Show.f k a0) (latheref06_Show.f (k + 1) a0) := by
  intro a0 k
  obtain ⟨ih0, ih1, ih2⟩ := latheref06_Show.mono_l k
  unfold latheref06_Show.f
  repeat' first
      | (with_reducible exact ih0 _ _ _ _)
      | (with_reducible exact ih1 _ _ _ _ _ _)
      | (with_reducible exact ih2 _ _ _ _ _ _)
      | (with_reducible exact LeO.refl _)
      | (with_reducible exact LeO.none _)
      | (with_reducible refine LeO.ite ?_ ?_)
      | (with_reducible refine LeO.bind ?_ (fun _ => ?_))
      | exact ih0 _ _ _ _
      | exact ih1 _ _ _ _ _ _
      | exact ih2 _ _ _ _ _ _
      | exact LeO.none _
      | refine LeO.ite ?_ ?_
      | refine LeO.bind ?_ (fun _ => ?_)
set_option maxHeartbeats 8000000 in
set_option maxRecDepth 100000 in
theorem latheref06_Show.calls (k : Nat) (A0 : Option Addr) (c0 : Nat) (l0 : List (S32)) (r : ByteArray) (w : World) (hr0 : Kd.C k32 w A0 l0.length l0) (hc0 : l0.length ≤ c0) (h : latheref06_Show.f k l0 = some r) :
    Calls Try.prog 22 #[.slice A0 l0.length c0] w fun e w' => e = .returned (.string r) ∧ Drawn0 w w' := by
  have HR0 := Aside0.mk hr0
  have HC0 := Aside0.mk hc0
  clear hr0 hc0
  have H : (latheref06_Show.l0 k l0 (⟨#[]⟩ : ByteArray) true 0) = some r := h
  clear h
  have H' := Aside0.mk H
  clear H
  go_enter Try.func22, Try.ntmps22
  go_wp2
  repeat (go_quiet (fail); try go_wp2)
  go_loopg [3, 4, 5] k (fun kq v3 v4 v5 w' => ∃ (x3_1 : ByteArray) (x4_1 : Bool) (x5_1 : Int), v3 = .string x3_1 ∧ v4 = .bool x4_1 ∧ v5 = .int .i64 x5_1 ∧ Aside0 (latheref06_Show.l0 kq l0 x3_1 x4_1 x5_1 = some r) ∧ Aside0 (kq ≤ k) ∧ Drawn0 w w')
  case atStart => exact ⟨((⟨#[]⟩ : ByteArray)), (true), (0), (by first | rfl | (simp; done) | (simp [*]; done)), (by first | rfl | (simp; done) | (simp [*]; done)), (by first | rfl | (simp; done) | (simp [*]; done)), H', ⟨Nat.le_refl _⟩, by repeat (first | exact Drawn0.refl _ | apply Drawn0.step)⟩
  case round =>
    clear H'
    obtain ⟨x3_1, x4_1, x5_1, rfl, rfl, rfl, HA, HK1, ⟨m1, rfl⟩⟩ := hrel
    cases gk with
    | zero => exact absurd HA.out (by simp [latheref06_Show.l0])
    | succ k1 =>
      have H := HA.out
      clear HA
      simp only [latheref06_Show.l0] at H
      by_cases c2 : x5_1 < (l0.length : Int)
      · rw [if_pos c2] at H
        have c2b0 : decide (x5_1 < (l0.length : Int)) = true := decide_eq_true c2
        clear c2
        by_cases c3 : 0 ≤ x5_1
        · rw [if_pos c3] at H
          have c3b0 : decide (0 ≤ x5_1) = true := decide_eq_true c3
          clear c3
          by_cases c4 : ((rd_T32 l0 x5_1).f0) = 4
          · rw [if_pos c4] at H
            have c4b0 : (((rd_T32 l0 x5_1).f0) == 4) = true := beq_iff_eq.mpr c4
            have c4b1 : (((rd_T32 l0 x5_1).f0) != 4) = false := bne_eq_false_iff_eq.mpr c4
            clear c4
            by_cases c5 : 1 + ((rd_T32 l0 x5_1).f1).size ≤ 9223372036854775807
            · rw [if_pos c5] at H
              have c5b0 := eq_true c5
              have c5b1 : decide (1 + ((rd_T32 l0 x5_1).f1).size ≤ 9223372036854775807) = true := decide_eq_true c5
              try have c5b2 : (9223372036854775807 < 1 + ((rd_T32 l0 x5_1).f1).size) = False := eq_false (Nat.not_lt.2 c5)
              by_cases c6 : ((⟨#[34]⟩ : ByteArray) ++ ((rd_T32 l0 x5_1).f1)).size + 1 ≤ 9223372036854775807
              · rw [if_pos c6] at H
                have c6b0 := eq_true c6
                have c6b1 : decide (((⟨#[34]⟩ : ByteArray) ++ ((rd_T32 l0 x5_1).f1)).size + 1 ≤ 9223372036854775807) = true := decide_eq_true c6
                try have c6b2 : (9223372036854775807 < ((⟨#[34]⟩ : ByteArray) ++ ((rd_T32 l0 x5_1).f1)).size + 1) = False := eq_false (Nat.not_lt.2 c6)
                (try (have c6b3 := c6; simp only [ByteArray.size_append, Lx.sz34, Lx.sz32] at c6b3; have c6b4 := eq_true c6b3; have c6b5 := eq_false (Nat.not_lt.2 c6b3)))
                by_cases c7 : x4_1 = true
                · subst c7
                  have H1 : (if x3_1.size + (((⟨#[34]⟩ : ByteArray) ++ ((rd_T32 l0 x5_1).f1)) ++ (⟨#[34]⟩ : ByteArray)).size ≤ 9223372036854775807 then (latheref06_Show.l0 k1 l0 (x3_1 ++ (((⟨#[34]⟩ : ByteArray) ++ ((rd_T32 l0 x5_1).f1)) ++ (⟨#[34]⟩ : ByteArray))) false (wrap64 (x5_1 + 1))) else (none)) = some r := by rw [if_pos rfl] at H; exact H
                  clear H
                  have H := H1
                  clear H1
                  by_cases c8 : x3_1.size + (((⟨#[34]⟩ : ByteArray) ++ ((rd_T32 l0 x5_1).f1)) ++ (⟨#[34]⟩ : ByteArray)).size ≤ 9223372036854775807
                  · rw [if_pos c8] at H
                    have c8b0 := eq_true c8
                    have c8b1 : decide (x3_1.size + (((⟨#[34]⟩ : ByteArray) ++ ((rd_T32 l0 x5_1).f1)) ++ (⟨#[34]⟩ : ByteArray)).size ≤ 9223372036854775807) = true := decide_eq_true c8
                    try have c8b2 : (9223372036854775807 < x3_1.size + (((⟨#[34]⟩ : ByteArray) ++ ((rd_T32 l0 x5_1).f1)) ++ (⟨#[34]⟩ : ByteArray)).size) = False := eq_false (Nat.not_lt.2 c8)
                    (try (have c8b3 := c8; simp only [ByteArray.size_append, Lx.sz34, Lx.sz32] at c8b3; have c8b4 := eq_true c8b3; have c8b5 := eq_false (Nat.not_lt.2 c8b3)))
                    have H' := Aside0.mk H
                    clear H
                    have p250 : 0 ≤ (x5_1 : Int) := of_decide_eq_true (by first | (with_reducible assumption) | assumption)
                    have q250 : x5_1 < (l0.length : Int) := of_decide_eq_true (by first | (with_reducible assumption) | assumption)
                    obtain ⟨ad250, e250, hx250_0, hx250_1, hx250_2⟩ := at_T32 HR0.out x5_1 p250 q250
                    cases e250
                    replace p250 := eq_true p250
                    replace q250 := eq_true q250
                    have p251 : 0 ≤ (x5_1 : Int) := of_decide_eq_true (by first | (with_reducible assumption) | assumption)
                    have q251 : x5_1 < (l0.length : Int) := of_decide_eq_true (by first | (with_reducible assumption) | assumption)
                    obtain ⟨ad251, e251, hx251_0, hx251_1, hx251_2⟩ := at_T32 HR0.out x5_1 p251 q251
                    obtain rfl : ad250 = ad251 := (by injection e251)
                    replace p251 := eq_true p251
                    replace q251 := eq_true q251
                    go_wp2
                    repeat (go_quiet (fail); try go_wp2)
                    go_roundg k1
                    case measure => have := HK1.out; omega
                    case rel => exact ⟨(x3_1 ++ (((⟨#[34]⟩ : ByteArray) ++ ((rd_T32 l0 x5_1).f1)) ++ (⟨#[34]⟩ : ByteArray))), (false), (wrap64 (x5_1 + 1)), (by first | rfl | (simp; done) | (simp [*]; done)), (by first | rfl | (simp; done) | (simp [*]; done)), (by first | rfl | (simp; done) | (simp [*]; done)), H', ⟨by have := HK1.out; omega⟩, by repeat (first | exact Drawn0.refl _ | apply Drawn0.step)⟩
                  · rw [if_neg c8] at H
                    exact absurd H (by simp)
                · replace c7 := Bool.eq_false_iff.mpr c7
                  subst c7
                  have H1 : (if x3_1.size + 1 ≤ 9223372036854775807 then (if (x3_1 ++ (⟨#[32]⟩ : ByteArray)).size + (((⟨#[34]⟩ : ByteArray) ++ ((rd_T32 l0 x5_1).f1)) ++ (⟨#[34]⟩ : ByteArray)).size ≤ 9223372036854775807 then (latheref06_Show.l0 k1 l0 ((x3_1 ++ (⟨#[32]⟩ : ByteArray)) ++ (((⟨#[34]⟩ : ByteArray) ++ ((rd_T32 l0 x5_1).f1)) ++ (⟨#[34]⟩ : ByteArray))) false (wrap64 (x5_1 + 1))) else (none)) else (none)) = some r := by rw [if_neg (show ¬ (false = true) by decide)] at H; exact H
                  clear H
                  have H := H1
                  clear H1
                  by_cases c9 : x3_1.size + 1 ≤ 9223372036854775807
                  · rw [if_pos c9] at H
                    have c9b0 := eq_true c9
                    have c9b1 : decide (x3_1.size + 1 ≤ 9223372036854775807) = true := decide_eq_true c9
                    try have c9b2 : (9223372036854775807 < x3_1.size + 1) = False := eq_false (Nat.not_lt.2 c9)
                    by_cases c10 : (x3_1 ++ (⟨#[32]⟩ : ByteArray)).size + (((⟨#[34]⟩ : ByteArray) ++ ((rd_T32 l0 x5_1).f1)) ++ (⟨#[34]⟩ : ByteArray)).size ≤ 9223372036854775807
                    · rw [if_pos c10] at H
                      have c10b0 := eq_true c10
                      have c10b1 : decide ((x3_1 ++ (⟨#[32]⟩ : ByteArray)).size + (((⟨#[34]⟩ : ByteArray) ++ ((rd_T32 l0 x5_1).f1)) ++ (⟨#[34]⟩ : ByteArray)).size ≤ 9223372036854775807) = true := decide_eq_true c10
                      try have c10b2 : (9223372036854775807 < (x3_1 ++ (⟨#[32]⟩ : ByteArray)).size + (((⟨#[34]⟩ : ByteArray) ++ ((rd_T32 l0 x5_1).f1)) ++ (⟨#[34]⟩ : ByteArray)).size) = False := eq_false (Nat.not_lt.2 c10)
                      (try (have c10b3 := c10; simp only [ByteArray.size_append, Lx.sz34, Lx.sz32] at c10b3; have c10b4 := eq_true c10b3; have c10b5 := eq_false (Nat.not_lt.2 c10b3)))
                      have H' := Aside0.mk H
                      clear H
                      have p250 : 0 ≤ (x5_1 : Int) := of_decide_eq_true (by first | (with_reducible assumption) | assumption)
                      have q250 : x5_1 < (l0.length : Int) := of_decide_eq_true (by first | (with_reducible assumption) | assumption)
                      obtain ⟨ad250, e250, hx250_0, hx250_1, hx250_2⟩ := at_T32 HR0.out x5_1 p250 q250
                      cases e250
                      replace p250 := eq_true p250
                      replace q250 := eq_true q250
                      have p251 : 0 ≤ (x5_1 : Int) := of_decide_eq_true (by first | (with_reducible assumption) | assumption)
                      have q251 : x5_1 < (l0.length : Int) := of_decide_eq_true (by first | (with_reducible assumption) | assumption)
                      obtain ⟨ad251, e251, hx251_0, hx251_1, hx251_2⟩ := at_T32 HR0.out x5_1 p251 q251
                      obtain rfl : ad250 = ad251 := (by injection e251)
                      replace p251 := eq_true p251
                      replace q251 := eq_true q251
                      go_wp2
                      repeat (go_quiet (fail); try go_wp2)
                      go_roundg k1
                      case measure => have := HK1.out; omega
                      case rel => exact ⟨((x3_1 ++ (⟨#[32]⟩ : ByteArray)) ++ (((⟨#[34]⟩ : ByteArray) ++ ((rd_T32 l0 x5_1).f1)) ++ (⟨#[34]⟩ : ByteArray))), (false), (wrap64 (x5_1 + 1)), (by first | rfl | (simp; done) | (simp [*]; done)), (by first | rfl | (simp; done) | (simp [*]; done)), (by first | rfl | (simp; done) | (simp [*]; done)), H', ⟨by have := HK1.out; omega⟩, by repeat (first | exact Drawn0.refl _ | apply Drawn0.step)⟩
                    · rw [if_neg c10] at H
                      exact absurd H (by simp)
                  · rw [if_neg c9] at H
                    exact absurd H (by simp)
              · rw [if_neg c6] at H
                exact absurd H (by simp)
            · rw [if_neg c5] at H
              exact absurd H (by simp)
          · rw [if_neg c4] at H
            have c4b0 : (((rd_T32 l0 x5_1).f0) == 4) = false := beq_eq_false_iff_ne.mpr c4
            have c4b1 : (((rd_T32 l0 x5_1).f0) != 4) = true := bne_iff_ne.mpr c4
            have HC11 := Aside0.mk H
            clear H
            have p250 : 0 ≤ (x5_1 : Int) := of_decide_eq_true (by first | (with_reducible assumption) | assumption)
            have q250 : x5_1 < (l0.length : Int) := of_decide_eq_true (by first | (with_reducible assumption) | assumption)
            obtain ⟨ad250, e250, hx250_0, hx250_1, hx250_2⟩ := at_T32 HR0.out x5_1 p250 q250
            cases e250
            replace p250 := eq_true p250
            replace q250 := eq_true q250
            have p251 : 0 ≤ (x5_1 : Int) := of_decide_eq_true (by first | (with_reducible assumption) | assumption)
            have q251 : x5_1 < (l0.length : Int) := of_decide_eq_true (by first | (with_reducible assumption) | assumption)
            obtain ⟨ad251, e251, hx251_0, hx251_1, hx251_2⟩ := at_T32 HR0.out x5_1 p251 q251
            obtain rfl : ad250 = ad251 := (by injection e251)
            replace p251 := eq_true p251
            replace q251 := eq_true q251
            go_upto_region 9 with (fail)
            repeat (go_quiet (fail); go_upto_region 9 with (fail))
            go_cut [28] (fun v28 wc => ∃ (kq : Nat) (x28_10 : Bool), v28 = .bool x28_10 ∧ Aside0 (latheref06_Show.j1 kq l0 x3_1 x4_1 x5_1 ((rd_T32 l0 x5_1).f1) x28_10 = some r) ∧ Aside0 (kq ≤ k1) ∧ Drawn0 w wc)
            case first =>
              have H := HC11.out
              clear HC11
              by_cases c12 : ((rd_T32 l0 x5_1).f0) ≥ 5
              · rw [if_pos c12] at H
                have c12b0 : decide (5 ≤ ((rd_T32 l0 x5_1).f0)) = true := decide_eq_true c12
                clear c12
                (first | rw [c12b0] | (simp only [i64_w, i32_w]; rw [c12b0]) | skip)
                have H' := Aside0.mk H
                clear H
                have p252 : 0 ≤ (x5_1 : Int) := of_decide_eq_true (by first | (with_reducible assumption) | assumption)
                have q252 : x5_1 < (l0.length : Int) := of_decide_eq_true (by first | (with_reducible assumption) | assumption)
                obtain ⟨ad252, e252, hx252_0, hx252_1, hx252_2⟩ := at_T32 HR0.out x5_1 p252 q252
                obtain rfl : ad250 = ad252 := (by injection e252)
                replace p252 := eq_true p252
                replace q252 := eq_true q252
                have p253 : 0 ≤ (x5_1 : Int) := of_decide_eq_true (by first | (with_reducible assumption) | assumption)
                have q253 : x5_1 < (l0.length : Int) := of_decide_eq_true (by first | (with_reducible assumption) | assumption)
                obtain ⟨ad253, e253, hx253_0, hx253_1, hx253_2⟩ := at_T32 HR0.out x5_1 p253 q253
                obtain rfl : ad250 = ad253 := (by injection e253)
                replace p253 := eq_true p253
                replace q253 := eq_true q253
                go_wp2
                repeat (go_quiet (fail); try go_wp2)
                go_meet
                case rel => exact ⟨_, (decide (((rd_T32 l0 x5_1).f0) ≤ 10)), (by first | rfl | (simp; done) | (simp [*]; done)), H', ⟨by have := HK1.out; first | omega | exact Nat.le_refl _⟩, by repeat (first | exact Drawn0.refl _ | apply Drawn0.step)⟩
              · rw [if_neg c12] at H
                have c12b0 : decide (5 ≤ ((rd_T32 l0 x5_1).f0)) = false := decide_eq_false c12
                clear c12
                (first | rw [c12b0] | (simp only [i64_w, i32_w]; rw [c12b0]) | skip)
                have H' := Aside0.mk H
                clear H
                have p252 : 0 ≤ (x5_1 : Int) := of_decide_eq_true (by first | (with_reducible assumption) | assumption)
                have q252 : x5_1 < (l0.length : Int) := of_decide_eq_true (by first | (with_reducible assumption) | assumption)
                obtain ⟨ad252, e252, hx252_0, hx252_1, hx252_2⟩ := at_T32 HR0.out x5_1 p252 q252
                obtain rfl : ad250 = ad252 := (by injection e252)
                replace p252 := eq_true p252
                replace q252 := eq_true q252
                go_wp2
                repeat (go_quiet (fail); try go_wp2)
                go_meet
                case rel => exact ⟨_, (false), (by first | rfl | (simp; done) | (simp [*]; done)), H', ⟨by have := HK1.out; first | omega | exact Nat.le_refl _⟩, by repeat (first | exact Drawn0.refl _ | apply Drawn0.step)⟩
            case rest =>
              clear HC11
              try clear c1
              try clear c2
              try clear c2b0
              try clear p2
              try clear q2
              try clear hx2
              try clear c3
              try clear c3b0
              try clear c4
              try clear c4b0
              try clear c4b1
              try clear c5
              try clear c5b0
              try clear c5b1
              try clear c5b2
              try clear c6
              try clear c6b0
              try clear c6b1
              try clear c6b2
              try clear p6
              try clear c7
              try clear c8
              try clear c8b0
              try clear c8b1
              try clear c8b2
              try clear c9
              try clear c9b0
              try clear c9b1
              try clear c9b2
              try clear c10
              try clear c10b0
              try clear c10b1
              try clear c10b2
              try clear c12
              try clear c12b0
              try clear hx250_0
              try clear hx250_1
              try clear hx250_2
              try clear hx251_0
              try clear hx251_1
              try clear hx251_2
              try clear hx252_0
              try clear hx252_1
              try clear hx252_2
              try clear hx253_0
              try clear hx253_1
              try clear hx253_2
              try clear p250
              try clear p251
              try clear p252
              try clear p253
              try clear q250
              try clear q251
              try clear q252
              try clear q253
              obtain ⟨kq, x28_10, rfl, HA, HJ10, ⟨mc10, rfl⟩⟩ := hcut
              cases kq with
              | zero => exact absurd HA.out (by simp [latheref06_Show.j1])
              | succ kj10 =>
                have H := HA.out
                clear HA
                simp only [latheref06_Show.j1] at H
                by_cases c13 : x28_10 = true
                · subst c13
                  have H1 : (if 0 ≤ x5_1 then (if x5_1 < (l0.length : Int) then (if 0 ≤ (wrap64 (((rd_T32 l0 x5_1).f0) - 5)) then (if (wrap64 (((rd_T32 l0 x5_1).f0) - 5)) ≤ (wrap64 ((wrap64 (((rd_T32 l0 x5_1).f0) - 5)) + 1)) then (if (wrap64 ((wrap64 (((rd_T32 l0 x5_1).f0) - 5)) + 1)) ≤ 6 then (if x4_1 = true then (if x3_1.size + ((⟨#[40, 41, 44, 61, 45, 59]⟩ : ByteArray).extract ((wrap64 (((rd_T32 l0 x5_1).f0) - 5)) : Int).toNat ((wrap64 ((wrap64 (((rd_T32 l0 x5_1).f0) - 5)) + 1)) : Int).toNat).size ≤ 9223372036854775807 then (latheref06_Show.l0 kj10 l0 (x3_1 ++ ((⟨#[40, 41, 44, 61, 45, 59]⟩ : ByteArray).extract ((wrap64 (((rd_T32 l0 x5_1).f0) - 5)) : Int).toNat ((wrap64 ((wrap64 (((rd_T32 l0 x5_1).f0) - 5)) + 1)) : Int).toNat)) false (wrap64 (x5_1 + 1))) else (none)) else (if x3_1.size + 1 ≤ 9223372036854775807 then (if (x3_1 ++ (⟨#[32]⟩ : ByteArray)).size + ((⟨#[40, 41, 44, 61, 45, 59]⟩ : ByteArray).extract ((wrap64 (((rd_T32 l0 x5_1).f0) - 5)) : Int).toNat ((wrap64 ((wrap64 (((rd_T32 l0 x5_1).f0) - 5)) + 1)) : Int).toNat).size ≤ 9223372036854775807 then (latheref06_Show.l0 kj10 l0 ((x3_1 ++ (⟨#[32]⟩ : ByteArray)) ++ ((⟨#[40, 41, 44, 61, 45, 59]⟩ : ByteArray).extract ((wrap64 (((rd_T32 l0 x5_1).f0) - 5)) : Int).toNat ((wrap64 ((wrap64 (((rd_T32 l0 x5_1).f0) - 5)) + 1)) : Int).toNat)) false (wrap64 (x5_1 + 1))) else (none)) else (none))) else (none)) else (none)) else (none)) else (none)) else (none)) = some r := by rw [if_pos rfl] at H; exact H
                  clear H
                  have H := H1
                  clear H1
                  by_cases c14 : 0 ≤ x5_1
                  · rw [if_pos c14] at H
                    have c14b0 : decide (0 ≤ x5_1) = true := decide_eq_true c14
                    clear c14
                    by_cases c15 : x5_1 < (l0.length : Int)
                    · rw [if_pos c15] at H
                      have c15b0 : decide (x5_1 < (l0.length : Int)) = true := decide_eq_true c15
                      clear c15
                      obtain ⟨ji16, hji16⟩ : ∃ j_ : Int, (wrap64 (((rd_T32 l0 x5_1).f0) - 5)) = j_ := ⟨_, rfl⟩
                      replace H : (if 0 ≤ (ji16) then (if (ji16) ≤ (wrap64 ((ji16) + 1)) then (if (wrap64 ((ji16) + 1)) ≤ 6 then (if x4_1 = true then (if x3_1.size + ((⟨#[40, 41, 44, 61, 45, 59]⟩ : ByteArray).extract ((ji16) : Int).toNat ((wrap64 ((ji16) + 1)) : Int).toNat).size ≤ 9223372036854775807 then (latheref06_Show.l0 kj10 l0 (x3_1 ++ ((⟨#[40, 41, 44, 61, 45, 59]⟩ : ByteArray).extract ((ji16) : Int).toNat ((wrap64 ((ji16) + 1)) : Int).toNat)) false (wrap64 (x5_1 + 1))) else (none)) else (if x3_1.size + 1 ≤ 9223372036854775807 then (if (x3_1 ++ (⟨#[32]⟩ : ByteArray)).size + ((⟨#[40, 41, 44, 61, 45, 59]⟩ : ByteArray).extract ((ji16) : Int).toNat ((wrap64 ((ji16) + 1)) : Int).toNat).size ≤ 9223372036854775807 then (latheref06_Show.l0 kj10 l0 ((x3_1 ++ (⟨#[32]⟩ : ByteArray)) ++ ((⟨#[40, 41, 44, 61, 45, 59]⟩ : ByteArray).extract ((ji16) : Int).toNat ((wrap64 ((ji16) + 1)) : Int).toNat)) false (wrap64 (x5_1 + 1))) else (none)) else (none))) else (none)) else (none)) else (none)) = some r := by first | (rw [hji16] at H; exact H) | (simp only [hji16] at H ⊢; exact H)
                      have hji16w : (IntKind.i64.wrap (((rd_T32 l0 x5_1).f0) - 5)) = ji16 := (i64_w _).trans hji16
                      by_cases c17 : 0 ≤ (ji16)
                      · rw [if_pos c17] at H
                        have c17b0 := eq_true c17
                        have c17b1 : decide (0 ≤ (ji16)) = true := decide_eq_true c17
                        clear c17
                        by_cases c18 : (ji16) ≤ (wrap64 ((ji16) + 1))
                        · rw [if_pos c18] at H
                          have c18b0 := eq_true c18
                          have c18b1 : decide ((ji16) ≤ (wrap64 ((ji16) + 1))) = true := decide_eq_true c18
                          by_cases c19 : (wrap64 ((ji16) + 1)) ≤ 6
                          · rw [if_pos c19] at H
                            have c19b0 := eq_true c19
                            have c19b1 : decide ((wrap64 ((ji16) + 1)) ≤ 6) = true := decide_eq_true c19
                            by_cases c20 : x4_1 = true
                            · subst c20
                              have H1 : (if x3_1.size + ((⟨#[40, 41, 44, 61, 45, 59]⟩ : ByteArray).extract ((ji16) : Int).toNat ((wrap64 ((ji16) + 1)) : Int).toNat).size ≤ 9223372036854775807 then (latheref06_Show.l0 kj10 l0 (x3_1 ++ ((⟨#[40, 41, 44, 61, 45, 59]⟩ : ByteArray).extract ((ji16) : Int).toNat ((wrap64 ((ji16) + 1)) : Int).toNat)) false (wrap64 (x5_1 + 1))) else (none)) = some r := by rw [if_pos rfl] at H; exact H
                              clear H
                              have H := H1
                              clear H1
                              by_cases c21 : x3_1.size + ((⟨#[40, 41, 44, 61, 45, 59]⟩ : ByteArray).extract ((ji16) : Int).toNat ((wrap64 ((ji16) + 1)) : Int).toNat).size ≤ 9223372036854775807
                              · rw [if_pos c21] at H
                                have c21b0 := eq_true c21
                                have c21b1 : decide (x3_1.size + ((⟨#[40, 41, 44, 61, 45, 59]⟩ : ByteArray).extract ((ji16) : Int).toNat ((wrap64 ((ji16) + 1)) : Int).toNat).size ≤ 9223372036854775807) = true := decide_eq_true c21
                                try have c21b2 : (9223372036854775807 < x3_1.size + ((⟨#[40, 41, 44, 61, 45, 59]⟩ : ByteArray).extract ((ji16) : Int).toNat ((wrap64 ((ji16) + 1)) : Int).toNat).size) = False := eq_false (Nat.not_lt.2 c21)
                                have H' := Aside0.mk H
                                clear H
                                have p254 : 0 ≤ (x5_1 : Int) := of_decide_eq_true (by first | (with_reducible assumption) | assumption)
                                have q254 : x5_1 < (l0.length : Int) := of_decide_eq_true (by first | (with_reducible assumption) | assumption)
                                obtain ⟨ad254, e254, hx254_0, hx254_1, hx254_2⟩ := at_T32 HR0.out x5_1 p254 q254
                                obtain rfl : ad250 = ad254 := (by injection e254)
                                replace p254 := eq_true p254
                                replace q254 := eq_true q254
                                have p255 : 0 ≤ (x5_1 : Int) := of_decide_eq_true (by first | (with_reducible assumption) | assumption)
                                have q255 : x5_1 < (l0.length : Int) := of_decide_eq_true (by first | (with_reducible assumption) | assumption)
                                obtain ⟨ad255, e255, hx255_0, hx255_1, hx255_2⟩ := at_T32 HR0.out x5_1 p255 q255
                                obtain rfl : ad250 = ad255 := (by injection e255)
                                replace p255 := eq_true p255
                                replace q255 := eq_true q255
                                go_wp2
                                repeat (go_quiet (fail); try go_wp2)
                                go_roundg kj10
                                case measure => have := HK1.out; have := HJ10.out; omega
                                case rel => exact ⟨(x3_1 ++ ((⟨#[40, 41, 44, 61, 45, 59]⟩ : ByteArray).extract ((ji16) : Int).toNat ((wrap64 ((ji16) + 1)) : Int).toNat)), (false), (wrap64 (x5_1 + 1)), (by first | rfl | (simp; done) | (simp only [← hji16] <;> (first | rfl | simp)) | (simp [*]; done)), (by first | rfl | (simp; done) | (simp [*]; done)), (by first | rfl | (simp; done) | (simp [*]; done)), (by first | exact H' | (rw [hji16]; exact H')), ⟨by have := HK1.out; have := HJ10.out; omega⟩, by repeat (first | exact Drawn0.refl _ | apply Drawn0.step)⟩
                              · rw [if_neg c21] at H
                                exact absurd H (by simp)
                            · replace c20 := Bool.eq_false_iff.mpr c20
                              subst c20
                              have H1 : (if x3_1.size + 1 ≤ 9223372036854775807 then (if (x3_1 ++ (⟨#[32]⟩ : ByteArray)).size + ((⟨#[40, 41, 44, 61, 45, 59]⟩ : ByteArray).extract ((ji16) : Int).toNat ((wrap64 ((ji16) + 1)) : Int).toNat).size ≤ 9223372036854775807 then (latheref06_Show.l0 kj10 l0 ((x3_1 ++ (⟨#[32]⟩ : ByteArray)) ++ ((⟨#[40, 41, 44, 61, 45, 59]⟩ : ByteArray).extract ((ji16) : Int).toNat ((wrap64 ((ji16) + 1)) : Int).toNat)) false (wrap64 (x5_1 + 1))) else (none)) else (none)) = some r := by rw [if_neg (show ¬ (false = true) by decide)] at H; exact H
                              clear H
                              have H := H1
                              clear H1
                              by_cases c22 : x3_1.size + 1 ≤ 9223372036854775807
                              · rw [if_pos c22] at H
                                have c22b0 := eq_true c22
                                have c22b1 : decide (x3_1.size + 1 ≤ 9223372036854775807) = true := decide_eq_true c22
                                try have c22b2 : (9223372036854775807 < x3_1.size + 1) = False := eq_false (Nat.not_lt.2 c22)
                                by_cases c23 : (x3_1 ++ (⟨#[32]⟩ : ByteArray)).size + ((⟨#[40, 41, 44, 61, 45, 59]⟩ : ByteArray).extract ((ji16) : Int).toNat ((wrap64 ((ji16) + 1)) : Int).toNat).size ≤ 9223372036854775807
                                · rw [if_pos c23] at H
                                  have c23b0 := eq_true c23
                                  have c23b1 : decide ((x3_1 ++ (⟨#[32]⟩ : ByteArray)).size + ((⟨#[40, 41, 44, 61, 45, 59]⟩ : ByteArray).extract ((ji16) : Int).toNat ((wrap64 ((ji16) + 1)) : Int).toNat).size ≤ 9223372036854775807) = true := decide_eq_true c23
                                  try have c23b2 : (9223372036854775807 < (x3_1 ++ (⟨#[32]⟩ : ByteArray)).size + ((⟨#[40, 41, 44, 61, 45, 59]⟩ : ByteArray).extract ((ji16) : Int).toNat ((wrap64 ((ji16) + 1)) : Int).toNat).size) = False := eq_false (Nat.not_lt.2 c23)
                                  (try (have c23b3 := c23; simp only [ByteArray.size_append, Lx.sz34, Lx.sz32] at c23b3; have c23b4 := eq_true c23b3; have c23b5 := eq_false (Nat.not_lt.2 c23b3)))
                                  have H' := Aside0.mk H
                                  clear H
                                  have p254 : 0 ≤ (x5_1 : Int) := of_decide_eq_true (by first | (with_reducible assumption) | assumption)
                                  have q254 : x5_1 < (l0.length : Int) := of_decide_eq_true (by first | (with_reducible assumption) | assumption)
                                  obtain ⟨ad254, e254, hx254_0, hx254_1, hx254_2⟩ := at_T32 HR0.out x5_1 p254 q254
                                  obtain rfl : ad250 = ad254 := (by injection e254)
                                  replace p254 := eq_true p254
                                  replace q254 := eq_true q254
                                  have p255 : 0 ≤ (x5_1 : Int) := of_decide_eq_true (by first | (with_reducible assumption) | assumption)
                                  have q255 : x5_1 < (l0.length : Int) := of_decide_eq_true (by first | (with_reducible assumption) | assumption)
                                  obtain ⟨ad255, e255, hx255_0, hx255_1, hx255_2⟩ := at_T32 HR0.out x5_1 p255 q255
                                  obtain rfl : ad250 = ad255 := (by injection e255)
                                  replace p255 := eq_true p255
                                  replace q255 := eq_true q255
                                  go_wp2
                                  repeat (go_quiet (fail); try go_wp2)
                                  go_roundg kj10
                                  case measure => have := HK1.out; have := HJ10.out; omega
                                  case rel => exact ⟨((x3_1 ++ (⟨#[32]⟩ : ByteArray)) ++ ((⟨#[40, 41, 44, 61, 45, 59]⟩ : ByteArray).extract ((ji16) : Int).toNat ((wrap64 ((ji16) + 1)) : Int).toNat)), (false), (wrap64 (x5_1 + 1)), (by first | rfl | (simp; done) | (simp only [← hji16] <;> (first | rfl | simp)) | (simp [*]; done)), (by first | rfl | (simp; done) | (simp [*]; done)), (by first | rfl | (simp; done) | (simp [*]; done)), H', ⟨by have := HK1.out; have := HJ10.out; omega⟩, by repeat (first | exact Drawn0.refl _ | apply Drawn0.step)⟩
                                · rw [if_neg c23] at H
                                  exact absurd H (by simp)
                              · rw [if_neg c22] at H
                                exact absurd H (by simp)
                          · rw [if_neg c19] at H
                            exact absurd H (by simp)
                        · rw [if_neg c18] at H
                          exact absurd H (by simp)
                      · rw [if_neg c17] at H
                        exact absurd H (by simp)
                    · rw [if_neg c15] at H
                      exact absurd H (by simp)
                  · rw [if_neg c14] at H
                    exact absurd H (by simp)
                · replace c13 := Bool.eq_false_iff.mpr c13
                  subst c13
                  have H1 : (if 0 ≤ x5_1 then (if x5_1 < (l0.length : Int) then (if ((rd_T32 l0 x5_1).f0) < 1 then (latheref06_Show.j2 kj10 l0 x3_1 x4_1 x5_1 ((rd_T32 l0 x5_1).f1) true) else (latheref06_Show.j2 kj10 l0 x3_1 x4_1 x5_1 ((rd_T32 l0 x5_1).f1) (decide (((rd_T32 l0 x5_1).f0) > 3)))) else (none)) else (none)) = some r := by rw [if_neg (show ¬ (false = true) by decide)] at H; exact H
                  clear H
                  have H := H1
                  clear H1
                  have HC24 := Aside0.mk H
                  clear H
                  go_upto_region 11 with (fail)
                  repeat (go_quiet (fail); go_upto_region 11 with (fail))
                  go_cut [57] (fun v57 wc => ∃ (kq : Nat) (x57_23 : Bool), v57 = .bool x57_23 ∧ Aside0 (latheref06_Show.j2 kq l0 x3_1 x4_1 x5_1 ((rd_T32 l0 x5_1).f1) x57_23 = some r) ∧ Aside0 (kq ≤ kj10) ∧ Drawn0 w wc)
                  case first =>
                    have H := HC24.out
                    clear HC24
                    by_cases c25 : 0 ≤ x5_1
                    · rw [if_pos c25] at H
                      have c25b0 : decide (0 ≤ x5_1) = true := decide_eq_true c25
                      clear c25
                      (first | rw [c25b0] | (simp only [i64_w, i32_w]; rw [c25b0]) | skip)
                      by_cases c26 : x5_1 < (l0.length : Int)
                      · rw [if_pos c26] at H
                        have c26b0 : decide (x5_1 < (l0.length : Int)) = true := decide_eq_true c26
                        clear c26
                        by_cases c27 : ((rd_T32 l0 x5_1).f0) < 1
                        · rw [if_pos c27] at H
                          have c27b0 : decide (((rd_T32 l0 x5_1).f0) < 1) = true := decide_eq_true c27
                          clear c27
                          have H' := Aside0.mk H
                          clear H
                          have p256 : 0 ≤ (x5_1 : Int) := of_decide_eq_true (by first | (with_reducible assumption) | assumption)
                          have q256 : x5_1 < (l0.length : Int) := of_decide_eq_true (by first | (with_reducible assumption) | assumption)
                          obtain ⟨ad256, e256, hx256_0, hx256_1, hx256_2⟩ := at_T32 HR0.out x5_1 p256 q256
                          obtain rfl : ad250 = ad256 := (by injection e256)
                          replace p256 := eq_true p256
                          replace q256 := eq_true q256
                          go_wp2
                          repeat (go_quiet (fail); try go_wp2)
                          go_meet
                          case rel => exact ⟨_, (true), (by first | rfl | (simp; done) | (simp [*]; done)), H', ⟨by have := HK1.out; have := HJ10.out; first | omega | exact Nat.le_refl _⟩, by repeat (first | exact Drawn0.refl _ | apply Drawn0.step)⟩
                        · rw [if_neg c27] at H
                          have c27b0 : decide (((rd_T32 l0 x5_1).f0) < 1) = false := decide_eq_false c27
                          clear c27
                          have H' := Aside0.mk H
                          clear H
                          have p256 : 0 ≤ (x5_1 : Int) := of_decide_eq_true (by first | (with_reducible assumption) | assumption)
                          have q256 : x5_1 < (l0.length : Int) := of_decide_eq_true (by first | (with_reducible assumption) | assumption)
                          obtain ⟨ad256, e256, hx256_0, hx256_1, hx256_2⟩ := at_T32 HR0.out x5_1 p256 q256
                          obtain rfl : ad250 = ad256 := (by injection e256)
                          replace p256 := eq_true p256
                          replace q256 := eq_true q256
                          have p257 : 0 ≤ (x5_1 : Int) := of_decide_eq_true (by first | (with_reducible assumption) | assumption)
                          have q257 : x5_1 < (l0.length : Int) := of_decide_eq_true (by first | (with_reducible assumption) | assumption)
                          obtain ⟨ad257, e257, hx257_0, hx257_1, hx257_2⟩ := at_T32 HR0.out x5_1 p257 q257
                          obtain rfl : ad250 = ad257 := (by injection e257)
                          replace p257 := eq_true p257
                          replace q257 := eq_true q257
                          go_wp2
                          repeat (go_quiet (fail); try go_wp2)
                          go_meet
                          case rel => exact ⟨_, (decide (((rd_T32 l0 x5_1).f0) > 3)), (by first | rfl | (simp; done) | (simp [*]; done)), H', ⟨by have := HK1.out; have := HJ10.out; first | omega | exact Nat.le_refl _⟩, by repeat (first | exact Drawn0.refl _ | apply Drawn0.step)⟩
                      · rw [if_neg c26] at H
                        exact absurd H (by simp)
                    · rw [if_neg c25] at H
                      exact absurd H (by simp)
                  case rest =>
                    clear HC24
                    try clear c1
                    try clear c2
                    try clear c2b0
                    try clear p2
                    try clear q2
                    try clear hx2
                    try clear c3
                    try clear c3b0
                    try clear c4
                    try clear c4b0
                    try clear c4b1
                    try clear c5
                    try clear c5b0
                    try clear c5b1
                    try clear c5b2
                    try clear c6
                    try clear c6b0
                    try clear c6b1
                    try clear c6b2
                    try clear p6
                    try clear c7
                    try clear c8
                    try clear c8b0
                    try clear c8b1
                    try clear c8b2
                    try clear c9
                    try clear c9b0
                    try clear c9b1
                    try clear c9b2
                    try clear c10
                    try clear c10b0
                    try clear c10b1
                    try clear c10b2
                    try clear c12
                    try clear c12b0
                    try clear c13
                    try clear c14
                    try clear c14b0
                    try clear c15
                    try clear c15b0
                    try clear c17
                    try clear c17b0
                    try clear c17b1
                    try clear c18
                    try clear c18b0
                    try clear c18b1
                    try clear c19
                    try clear c19b0
                    try clear c19b1
                    try clear c20
                    try clear c21
                    try clear c21b0
                    try clear c21b1
                    try clear c21b2
                    try clear c22
                    try clear c22b0
                    try clear c22b1
                    try clear c22b2
                    try clear c23
                    try clear c23b0
                    try clear c23b1
                    try clear c23b2
                    try clear c25
                    try clear c25b0
                    try clear p25
                    try clear q25
                    try clear hx25
                    try clear c26
                    try clear c26b0
                    try clear c27
                    try clear c27b0
                    try clear hx250_0
                    try clear hx250_1
                    try clear hx250_2
                    try clear hx251_0
                    try clear hx251_1
                    try clear hx251_2
                    try clear hx252_0
                    try clear hx252_1
                    try clear hx252_2
                    try clear hx253_0
                    try clear hx253_1
                    try clear hx253_2
                    try clear hx254_0
                    try clear hx254_1
                    try clear hx254_2
                    try clear hx255_0
                    try clear hx255_1
                    try clear hx255_2
                    try clear hx256_0
                    try clear hx256_1
                    try clear hx256_2
                    try clear hx257_0
                    try clear hx257_1
                    try clear hx257_2
                    try clear p2
                    try clear p250
                    try clear p251
                    try clear p252
                    try clear p253
                    try clear p254
                    try clear p255
                    try clear p256
                    try clear p257
                    try clear p6
                    try clear q2
                    try clear q250
                    try clear q251
                    try clear q252
                    try clear q253
                    try clear q254
                    try clear q255
                    try clear q256
                    try clear q257
                    obtain ⟨kq, x57_23, rfl, HA, HJ23, ⟨mc23, rfl⟩⟩ := hcut
                    cases kq with
                    | zero => exact absurd HA.out (by simp [latheref06_Show.j2])
                    | succ kj23 =>
                      have H := HA.out
                      clear HA
                      simp only [latheref06_Show.j2] at H
                      by_cases c28 : x57_23 = true
                      · subst c28
                        have H1 : (latheref06_Show.l0 kj23 l0 x3_1 x4_1 (wrap64 (x5_1 + 1))) = some r := by rw [if_pos rfl] at H; exact H
                        clear H
                        have H := H1
                        clear H1
                        have H' := Aside0.mk H
                        clear H
                        go_wp2
                        repeat (go_quiet (fail); try go_wp2)
                        go_roundg kj23
                        case measure => have := HK1.out; have := HJ10.out; have := HJ23.out; omega
                        case rel => exact ⟨(x3_1), (x4_1), (wrap64 (x5_1 + 1)), (by first | rfl | (simp; done) | (simp [*]; done)), (by first | rfl | (simp; done) | (simp [*]; done)), (by first | rfl | (simp; done) | (simp [*]; done)), H', ⟨by have := HK1.out; have := HJ10.out; have := HJ23.out; omega⟩, by repeat (first | exact Drawn0.refl _ | apply Drawn0.step)⟩
                      · replace c28 := Bool.eq_false_iff.mpr c28
                        subst c28
                        have H1 : (if x4_1 = true then (if x3_1.size + ((rd_T32 l0 x5_1).f1).size ≤ 9223372036854775807 then (latheref06_Show.l0 kj23 l0 (x3_1 ++ ((rd_T32 l0 x5_1).f1)) false (wrap64 (x5_1 + 1))) else (none)) else (if x3_1.size + 1 ≤ 9223372036854775807 then (if (x3_1 ++ (⟨#[32]⟩ : ByteArray)).size + ((rd_T32 l0 x5_1).f1).size ≤ 9223372036854775807 then (latheref06_Show.l0 kj23 l0 ((x3_1 ++ (⟨#[32]⟩ : ByteArray)) ++ ((rd_T32 l0 x5_1).f1)) false (wrap64 (x5_1 + 1))) else (none)) else (none))) = some r := by rw [if_neg (show ¬ (false = true) by decide)] at H; exact H
                        clear H
                        have H := H1
                        clear H1
                        by_cases c29 : x4_1 = true
                        · subst c29
                          have H1 : (if x3_1.size + ((rd_T32 l0 x5_1).f1).size ≤ 9223372036854775807 then (latheref06_Show.l0 kj23 l0 (x3_1 ++ ((rd_T32 l0 x5_1).f1)) false (wrap64 (x5_1 + 1))) else (none)) = some r := by rw [if_pos rfl] at H; exact H
                          clear H
                          have H := H1
                          clear H1
                          by_cases c30 : x3_1.size + ((rd_T32 l0 x5_1).f1).size ≤ 9223372036854775807
                          · rw [if_pos c30] at H
                            have c30b0 := eq_true c30
                            have c30b1 : decide (x3_1.size + ((rd_T32 l0 x5_1).f1).size ≤ 9223372036854775807) = true := decide_eq_true c30
                            try have c30b2 : (9223372036854775807 < x3_1.size + ((rd_T32 l0 x5_1).f1).size) = False := eq_false (Nat.not_lt.2 c30)
                            have H' := Aside0.mk H
                            clear H
                            go_wp2
                            repeat (go_quiet (fail); try go_wp2)
                            go_roundg kj23
                            case measure => have := HK1.out; have := HJ10.out; have := HJ23.out; omega
                            case rel => exact ⟨(x3_1 ++ ((rd_T32 l0 x5_1).f1)), (false), (wrap64 (x5_1 + 1)), (by first | rfl | (simp; done) | (simp [*]; done)), (by first | rfl | (simp; done) | (simp [*]; done)), (by first | rfl | (simp; done) | (simp [*]; done)), H', ⟨by have := HK1.out; have := HJ10.out; have := HJ23.out; omega⟩, by repeat (first | exact Drawn0.refl _ | apply Drawn0.step)⟩
                          · rw [if_neg c30] at H
                            exact absurd H (by simp)
                        · replace c29 := Bool.eq_false_iff.mpr c29
                          subst c29
                          have H1 : (if x3_1.size + 1 ≤ 9223372036854775807 then (if (x3_1 ++ (⟨#[32]⟩ : ByteArray)).size + ((rd_T32 l0 x5_1).f1).size ≤ 9223372036854775807 then (latheref06_Show.l0 kj23 l0 ((x3_1 ++ (⟨#[32]⟩ : ByteArray)) ++ ((rd_T32 l0 x5_1).f1)) false (wrap64 (x5_1 + 1))) else (none)) else (none)) = some r := by rw [if_neg (show ¬ (false = true) by decide)] at H; exact H
                          clear H
                          have H := H1
                          clear H1
                          by_cases c31 : x3_1.size + 1 ≤ 9223372036854775807
                          · rw [if_pos c31] at H
                            have c31b0 := eq_true c31
                            have c31b1 : decide (x3_1.size + 1 ≤ 9223372036854775807) = true := decide_eq_true c31
                            try have c31b2 : (9223372036854775807 < x3_1.size + 1) = False := eq_false (Nat.not_lt.2 c31)
                            by_cases c32 : (x3_1 ++ (⟨#[32]⟩ : ByteArray)).size + ((rd_T32 l0 x5_1).f1).size ≤ 9223372036854775807
                            · rw [if_pos c32] at H
                              have c32b0 := eq_true c32
                              have c32b1 : decide ((x3_1 ++ (⟨#[32]⟩ : ByteArray)).size + ((rd_T32 l0 x5_1).f1).size ≤ 9223372036854775807) = true := decide_eq_true c32
                              try have c32b2 : (9223372036854775807 < (x3_1 ++ (⟨#[32]⟩ : ByteArray)).size + ((rd_T32 l0 x5_1).f1).size) = False := eq_false (Nat.not_lt.2 c32)
                              (try (have c32b3 := c32; simp only [ByteArray.size_append, Lx.sz34, Lx.sz32] at c32b3; have c32b4 := eq_true c32b3; have c32b5 := eq_false (Nat.not_lt.2 c32b3)))
                              have H' := Aside0.mk H
                              clear H
                              go_wp2
                              repeat (go_quiet (fail); try go_wp2)
                              go_roundg kj23
                              case measure => have := HK1.out; have := HJ10.out; have := HJ23.out; omega
                              case rel => exact ⟨((x3_1 ++ (⟨#[32]⟩ : ByteArray)) ++ ((rd_T32 l0 x5_1).f1)), (false), (wrap64 (x5_1 + 1)), (by first | rfl | (simp; done) | (simp [*]; done)), (by first | rfl | (simp; done) | (simp [*]; done)), (by first | rfl | (simp; done) | (simp [*]; done)), H', ⟨by have := HK1.out; have := HJ10.out; have := HJ23.out; omega⟩, by repeat (first | exact Drawn0.refl _ | apply Drawn0.step)⟩
                            · rw [if_neg c32] at H
                              exact absurd H (by simp)
                          · rw [if_neg c31] at H
                            exact absurd H (by simp)
        · rw [if_neg c3] at H
          exact absurd H (by simp)
      · rw [if_neg c2] at H
        have c2b0 : decide (x5_1 < (l0.length : Int)) = false := decide_eq_false c2
        clear c2
        obtain rfl := Option.some.inj H
        go_wp2
        repeat (go_quiet (fail); try go_wp2)
        go_ret
        exact ⟨by first | rfl | (simp; done) | (simp [*]; done), by repeat (first | exact Drawn0.refl _ | apply Drawn0.step)⟩

end Go.Proofs.Ytmfladkimmnccaa.PL
