/- The functions of the program that a statement reaches, as plain functions, and that the machine's calls do what these say. No condition. (Printed by a program.) -/
import Derived.Test.YtmfladkimmnccaaPGx0
import Derived.Test.YtmfladkimmnccaaPGx2
import Derived.Test.YtmfladkimmnccaaPGx11
namespace Go.Proofs.Ytmfladkimmnccaa.PG
open Go.RowKit Go.Proofs.YtmfladkimmnccaaW.PrintWords Go.Proofs.YtmfladkimmnccaaW.PrintLast Go.Proofs.YtmfladkimmnccaaW.PrintMore
attribute [local go_sem] max2_int min2_int max_two min_two max_three min_three max_four min_four   -- for this text's walks alone
set_option linter.unusedVariables false
set_option linter.unusedSimpArgs false

/-! ### latheref05_Apply: function 25 (given) -/
namespace Rap
open Go.RowKit Lathe Go.Proofs.YtmfladkimmnccaaW.PrintWords Go.Proofs.YtmfladkimmnccaaW.PrintMore Go.Proofs.YtmfladkimmnccaaW.PrintLast Go.Proofs.Ytmfladkimmnccaa.Sur Go.Proofs.Ytmfladkimmnccaa.Ker Go.Proofs.Ytmfladkimmnccaa.Apl
theorem takes_f (op : Int) : latheref05_Takes.f 10 op = some ((ar op : Nat) : Int) := by
  by_cases h : op = 3 ∨ op = 11 ∨ op = 12 ∨ op = 13 ∨ op = 14 ∨ op = 4 ∨ op = 5 ∨ op = 6 ∨ op = 7 ∨ op = 8 ∨ op = 9 ∨ op = 10 ∨ op = 15
  · rcases h with rfl | rfl | rfl | rfl | rfl | rfl | rfl | rfl | rfl | rfl | rfl | rfl | rfl <;> decide
  · simp only [not_or] at h
    obtain ⟨h1, h2, h3, h4, h5, h6, h7, h8, h9, h10, h11, h12, h13⟩ := h
    simp [latheref05_Takes.f, latheref05_Takes.j0, latheref05_Takes.j1, ar, *]
theorem at_rowi {w : World} {A : Option Addr} {n : Nat} {xs : List (List Int)} (h : Kd.C (Kd.slice 3 (Kd.int .i64)) w A n xs) (i : Int) (h0 : 0 ≤ i) (h1 : i < n) : ∃ ad A0 c0, A = some ad ∧ w.cell? (ad.add i.toNat) = some (.slice A0 (rows xs i).length c0) ∧ (rows xs i).length ≤ c0 ∧ (Kd.int .i64).C w A0 (rows xs i).length (rows xs i) := by
  obtain ⟨ad, c, e, _, hK, hc0⟩ := Kd.C_get h ([] : List Int) i h0 h1
  have hc : ∀ j u, c[j]? = some u → w.cell? (ad.add (i.toNat * 1 + j)) = some u := hc0
  obtain ⟨A0, c0, rfl, l0, g0⟩ := hK
  exact ⟨ad, A0, c0, e, by have hq := hc 0 _ rfl; rwa [Nat.mul_one, Nat.add_zero] at hq, l0, g0⟩
def szstep (n : Int) (a : List Int) : Int := if n = 1 ∨ (a.length : Int) = 0 then (a.length : Int) else n
def szr (l : List (List Int)) : Int := l.foldl szstep ((rows l 0).length : Int)
theorem take_step (l : List (List Int)) (s : Int) (i : Int) (h0 : 0 ≤ i) (h1 : i < (l.length : Int)) : (l.take (i + 1).toNat).foldl szstep s = szstep ((l.take i.toNat).foldl szstep s) (rows l i) := by
  rw [take_snoc l i h0 h1, List.foldl_append]
  rfl
theorem szr_nonneg (l : List (List Int)) : 0 ≤ szr l := by
  have key : ∀ (l : List (List Int)) (s : Int), 0 ≤ s → 0 ≤ l.foldl szstep s := by
    intro l
    induction l with
    | nil => intro s h; exact h
    | cons a l ih => intro s h; rw [List.foldl_cons]; exact ih _ (by unfold szstep; split <;> omega)
  exact key l _ (by omega)
def fitr (n : Int) (a : List Int) : Prop := (a.length : Int) = n ∨ (n ≠ 0 ∧ (a.length : Int) = 1)
def er (l : List (List Int)) (i j : Int) : Int := if ((rows l j).length : Int) = 1 then rd (rows l j) 0 else rd (rows l j) i
def xr (l : List (List Int)) (i n j : Int) : Int := if j < n then er l i j else 0
theorem at_f {l : List (List Int)} {n x j : Int} (h : fitr n (rows l j)) (h0 : 0 ≤ x) (h1 : x < n) : latheref05_at.f (rows l j) x = some (er l x j) := by
  unfold latheref05_at.f er
  by_cases c : ((rows l j).length : Int) = 1
  · rw [if_pos c, if_pos c, if_pos (by omega)]
  · have hl : ((rows l j).length : Int) = n := by rcases h with h | h <;> omega
    rw [if_neg c, if_neg c, if_pos h0, if_pos (by omega)]
/-- The fuel that the reference's Do is asked with. -/
abbrev K0 : Nat := 400
def dof (op : Int) (l : List (List Int)) (i : Int) : Option Int := latheref05_Do.f K0 op (xr l i (l.length : Int) 0) (xr l i (l.length : Int) 1) (xr l i (l.length : Int) 2)
def outr (op : Int) (l : List (List Int)) : Nat → List Int
  | 0 => []
  | i + 1 => outr op l i ++ [(dof op l (i : Int)).getD 0]
theorem outr_length (op : Int) (l : List (List Int)) (n : Nat) : (outr op l n).length = n := by
  induction n with
  | zero => rfl
  | succ n ih => rw [outr, List.length_append, ih]; rfl
theorem outr_snoc (op : Int) (l : List (List Int)) (x : Int) (h : 0 ≤ x) : outr op l (x + 1).toNat = outr op l x.toNat ++ [(dof op l x).getD 0] := by
  have e : (x + 1).toNat = x.toNat + 1 := by omega
  have e2 : ((x.toNat : Nat) : Int) = x := by omega
  rw [e, outr, e2]
theorem setCell_drewN (W : World) (p : Addr) (v : Value) (n : Nat) : (W.drewN n).setCell p v = (W.setCell p v).drewN n := rfl
theorem info_i64 : (Try.prog.info? 3).map (fun i => (i.zero, i.size, i.bytes)) = some (some (.int .i64 0), 1, 8) := by kernel_rfl
set_option maxHeartbeats 8000000 in
set_option maxRecDepth 100000 in
theorem RApply (op : Int) (A1 : Option Addr) (c1 : Nat) (l1 : List (List Int)) (w : World) (hr1 : Kd.C (Kd.slice 3 (Kd.int .i64)) w A1 l1.length l1) (hc1 : l1.length ≤ c1) (hop : ar op ≠ 0) (hn : ar op = l1.length) (h3 : l1.length ≤ 3) (hm : szr l1 ≤ 1048576) (hd : ∀ i : Int, 0 ≤ i → i < szr l1 → (dof op l1 i).isSome = true) : Calls Try.prog 25 #[.int .i64 op, .slice A1 l1.length c1] w fun e w' => ∃ (v0_ : Value) (xs : List Int) (c : Int), e = .returned (.tuple #[v0_, .int .i64 c]) ∧ Kd.R (Kd.int .i64) 3 w' w.heap.size (fun _ => True) v0_ xs ∧ (((∀ i : Int, 0 ≤ i → i < (l1.length : Int) → fitr (szr l1) (rows l1 i)) ∧ c = 0 ∧ xs = outr op l1 (szr l1).toNat) ∨ ((∃ i : Int, 0 ≤ i ∧ i < (l1.length : Int) ∧ ¬ fitr (szr l1) (rows l1 i)) ∧ c = 50 ∧ xs = [])) ∧ Below w.heap.size w w' := by
  have c0 : ((l1.length : Int) == 0) = false := beq_eq_false_iff_ne.mpr (by omega)
  have q0 : (0 < l1.length) = True := eq_true (by omega)
  have tk := latheref05_Takes.calls 10 op _ w (takes_f op)
  rw [hn] at tk
  have HR := Aside0.mk hr1
  have H3 := Aside0.mk h3
  have HM := Aside0.mk hm
  have HD := Aside0.mk hd
  have p0 : (0 : Int) ≤ 0 := Int.le_refl _
  obtain ⟨ad, A0, e0, ea, hx, hl, hi⟩ := at_rowi hr1 0 p0 (by omega)
  subst ea
  have hx0 : w.cell? ad = some (.slice A0 (rows l1 0).length e0) := by rw [← za0 ad]; exact hx
  clear hr1 h3 hc1 hl hi hx p0 hm hd hop hn
  go_enter Try.func25, Try.ntmps25
  go_wp2_with (go_at_call 67; refine tk.mono ?_; rintro e w1 ⟨rfl, ⟨m1, rfl⟩⟩)
  clear tk q0 hx0
  go_loopg [7, 8] (l1.length + 1) (fun kq v7 v8 w' => ∃ x7 x8 : Int, v7 = .int .i64 x7 ∧ v8 = .int .i64 x8 ∧ Aside0 (0 ≤ x8 ∧ x8 ≤ (l1.length : Int) ∧ x8 + (kq : Int) = (l1.length : Int) + 1) ∧ Aside0 (x7 = (l1.take x8.toNat).foldl szstep ((rows l1 0).length : Int)) ∧ Drawn0 w w')
  case atStart => exact ⟨_, 0, rfl, rfl, ⟨by omega, by omega, by omega⟩, ⟨rfl⟩, by repeat (first | exact Drawn0.refl _ | apply Drawn0.step)⟩
  case round =>
    obtain ⟨x7, x8, rfl, rfl, HX, HS, ⟨m2, rfl⟩⟩ := hrel
    cases gk with
    | zero => exact absurd HX.out (by omega)
    | succ k1 =>
      by_cases c2 : x8 < (l1.length : Int)
      · have c2b : decide (x8 < (l1.length : Int)) = true := decide_eq_true c2
        have p : 0 ≤ x8 := HX.out.1
        obtain ⟨ad', A2, e2, ea, hx, hl, hi⟩ := at_rowi HR.out x8 p c2
        cases ea
        have HSN := Aside0.mk (take_step l1 ((rows l1 0).length : Int) x8 p c2)
        have HC2 := Aside0.mk c2
        have HP := Aside0.mk p
        have q := eq_true c2
        clear hl hi c2
        replace p := eq_true p
        by_cases c3 : x7 = 1
        · have c3b : (x7 == 1) = true := beq_iff_eq.mpr c3
          have HC3 := Aside0.mk c3
          clear c3
          go_wp2
          go_roundg k1
          case measure => omega
          case rel => exact ⟨((rows l1 x8).length : Int), x8 + 1, rfl, by have := HC2.out; have := H3.out; have := HP.out; rw [show wrap64 (x8 + 1) = x8 + 1 by unfold wrap64; omega], ⟨by have := HX.out; have := HC2.out; omega⟩, ⟨by rw [HSN.out, ← HS.out]; unfold szstep; rw [if_pos (.inl HC3.out)]⟩, by repeat (first | exact Drawn0.refl _ | apply Drawn0.step)⟩
        · have c3b : (x7 == 1) = false := beq_eq_false_iff_ne.mpr c3
          have HC3 := Aside0.mk c3
          clear c3
          by_cases c4 : rows l1 x8 = []
          · have c4b : (rows l1 x8 = []) = True := eq_true c4
            have c4c : (((rows l1 x8).length : Int) == 0) = true := by rw [c4]; rfl
            have HC4 := Aside0.mk c4
            clear c4
            go_wp2
            go_roundg k1
            case measure => omega
            case rel => exact ⟨((rows l1 x8).length : Int), x8 + 1, rfl, by have := HC2.out; have := H3.out; have := HP.out; rw [show wrap64 (x8 + 1) = x8 + 1 by unfold wrap64; omega], ⟨by have := HX.out; have := HC2.out; omega⟩, ⟨by rw [HSN.out, ← HS.out]; unfold szstep; rw [if_pos (.inr (by rw [HC4.out]; rfl))]⟩, by repeat (first | exact Drawn0.refl _ | apply Drawn0.step)⟩
          · have c4b : (rows l1 x8 = []) = False := eq_false c4
            have c4c : (((rows l1 x8).length : Int) == 0) = false := beq_eq_false_iff_ne.mpr (fun h => c4 (List.length_eq_zero_iff.1 (by omega)))
            have HC4 := Aside0.mk c4
            clear c4
            go_wp2
            go_roundg k1
            case measure => omega
            case rel => exact ⟨x7, x8 + 1, rfl, by have := HC2.out; have := H3.out; have := HP.out; rw [show wrap64 (x8 + 1) = x8 + 1 by unfold wrap64; omega], ⟨by have := HX.out; have := HC2.out; omega⟩, ⟨by rw [HSN.out, ← HS.out]; unfold szstep; rw [if_neg (fun h => h.elim HC3.out (fun h => HC4.out (List.length_eq_zero_iff.1 (by omega))))]⟩, by repeat (first | exact Drawn0.refl _ | apply Drawn0.step)⟩
      · have c2b : decide (x8 < (l1.length : Int)) = false := decide_eq_false c2
        obtain rfl : x8 = (l1.length : Int) := by have := HX.out; omega
        replace HS : x7 = szr l1 := by rw [HS.out, Int.toNat_natCast, List.take_length]; rfl
        have HZ := Aside0.mk HS
        clear HS c2 HX
        go_wp2
        go_loopg [9] (l1.length + 1) (fun kq v9 w' => ∃ x9 : Int, v9 = .int .i64 x9 ∧ Aside0 (0 ≤ x9 ∧ x9 ≤ (l1.length : Int) ∧ x9 + (kq : Int) = (l1.length : Int) + 1) ∧ Aside0 (∀ i : Int, 0 ≤ i → i < x9 → fitr (szr l1) (rows l1 i)) ∧ Drawn0 w w')
        case atStart => exact ⟨0, rfl, ⟨by omega, by omega, by omega⟩, ⟨fun i h0 h1 => absurd h1 (by omega)⟩, by repeat (first | exact Drawn0.refl _ | apply Drawn0.step)⟩
        case round =>
          obtain ⟨x9, rfl, HX, HF, ⟨m3, rfl⟩⟩ := hrel
          cases gk with
          | zero => exact absurd HX.out (by omega)
          | succ k2 =>
            by_cases c2 : x9 < (l1.length : Int)
            · have c2b : decide (x9 < (l1.length : Int)) = true := decide_eq_true c2
              have p : 0 ≤ x9 := HX.out.1
              obtain ⟨ad', A2, e2, ea, hx, hl, hi⟩ := at_rowi HR.out x9 p c2
              cases ea
              have HC2 := Aside0.mk c2
              have HP := Aside0.mk p
              have q := eq_true c2
              clear hl hi c2
              replace p := eq_true p
              by_cases c3 : ((rows l1 x9).length : Int) = x7
              · have c3b : (((rows l1 x9).length : Int) != x7) = false := bne_eq_false_iff_eq.mpr c3
                have HC3 := Aside0.mk c3
                clear c3
                go_wp2
                go_roundg k2
                case measure => omega
                case rel => exact ⟨x9 + 1, by have := HC2.out; have := H3.out; have := HP.out; rw [show wrap64 (x9 + 1) = x9 + 1 by unfold wrap64; omega], ⟨by have := HX.out; have := HC2.out; omega⟩, ⟨fun i h0 h1 => by
                  by_cases hi : i < x9
                  · exact HF.out i h0 hi
                  · obtain rfl : i = x9 := by omega
                    exact .inl (HC3.out.trans HZ.out)⟩, by repeat (first | exact Drawn0.refl _ | apply Drawn0.step)⟩
              · have c3b : (((rows l1 x9).length : Int) != x7) = true := bne_iff_ne.mpr c3
                have HC3 := Aside0.mk c3
                clear c3
                by_cases c5 : x7 = 0
                · have c5b : (x7 == 0) = true := beq_iff_eq.mpr c5
                  have HC5 := Aside0.mk c5
                  clear c5
                  go_wp2
                  exact bodyPost_ret (v := .tuple #[.slice none 0 0, .int .i64 50]) (by simp [results, Try.results25, go_sem]) rfl ⟨_, [], 50, rfl, Kd.R_nil _ _ _ _ _, .inr ⟨⟨x9, HP.out, HC2.out, fun hf => hf.elim (fun h => HC3.out (h.trans HZ.out.symm)) (fun h => h.1 (HZ.out.symm.trans HC5.out))⟩, rfl, rfl⟩, by repeat (first | exact Below.refl _ _ | apply pw_below_drewN)⟩
                · have c5b : (x7 == 0) = false := beq_eq_false_iff_ne.mpr c5
                  have HC5 := Aside0.mk c5
                  clear c5
                  by_cases c4 : ((rows l1 x9).length : Int) = 1
                  · have c4b : (((rows l1 x9).length : Int) != 1) = false := bne_eq_false_iff_eq.mpr c4
                    have HC4 := Aside0.mk c4
                    clear c4
                    go_wp2
                    go_roundg k2
                    case measure => omega
                    case rel => exact ⟨x9 + 1, by have := HC2.out; have := H3.out; have := HP.out; rw [show wrap64 (x9 + 1) = x9 + 1 by unfold wrap64; omega], ⟨by have := HX.out; have := HC2.out; omega⟩, ⟨fun i h0 h1 => by
                      by_cases hi : i < x9
                      · exact HF.out i h0 hi
                      · obtain rfl : i = x9 := by omega
                        exact .inr ⟨by rw [← HZ.out]; exact HC5.out, HC4.out⟩⟩, by repeat (first | exact Drawn0.refl _ | apply Drawn0.step)⟩
                  · have c4b : (((rows l1 x9).length : Int) != 1) = true := bne_iff_ne.mpr c4
                    have HC4 := Aside0.mk c4
                    clear c4
                    go_wp2
                    exact bodyPost_ret (v := .tuple #[.slice none 0 0, .int .i64 50]) (by simp [results, Try.results25, go_sem]) rfl ⟨_, [], 50, rfl, Kd.R_nil _ _ _ _ _, .inr ⟨⟨x9, HP.out, HC2.out, fun hf => hf.elim (fun h => HC3.out (h.trans HZ.out.symm)) (fun h => HC4.out h.2)⟩, rfl, rfl⟩, by repeat (first | exact Below.refl _ _ | apply pw_below_drewN)⟩
            · have c2b : decide (x9 < (l1.length : Int)) = false := decide_eq_false c2
              obtain rfl : x9 = (l1.length : Int) := by have := HX.out; omega
              clear c2 HX
              have HB1 : Below w.heap.size w (w.drewN m3) := pw_below_drewN (Below.refl _ _) _
              go_wp2
              generalize w.drewN m3 = w2 at HB1 ⊢
              have HBS := Aside0.mk HB1
              clear HB1
              obtain ⟨SN, hSN⟩ : ∃ k : Nat, x7 = (k : Int) := ⟨x7.toNat, by have := szr_nonneg l1; have := HZ.out; omega⟩
              have HSN := Aside0.mk hSN
              clear hSN
              go_loopg [10, 11] (SN + 1) (fun kq v10 v11 w' => ∃ x11 : Int, v11 = .int .i64 x11 ∧ Aside0 (0 ≤ x11 ∧ x11 ≤ x7 ∧ x11 + (kq : Int) = x7 + 1) ∧ Aside0 (Kd.R (Kd.int .i64) 3 w' w.heap.size (fun _ => True) v10 (outr op l1 x11.toNat)) ∧ Aside0 (Below w.heap.size w w'))
              case atStart => exact ⟨0, rfl, ⟨by have := HSN.out; omega, by have := HSN.out; omega, by have := HSN.out; omega⟩, ⟨Kd.R_nil _ _ _ _ _⟩, HBS⟩
              case round =>
                obtain ⟨x11, rfl, HX, HO, HBW⟩ := hrel
                cases gk with
                | zero => exact absurd HX.out (by omega)
                | succ k3 =>
                  by_cases c2 : x11 < x7
                  · have c2b : decide (x11 < x7) = true := decide_eq_true c2
                    have HC2 := Aside0.mk c2
                    clear c2
                    go_wp2
                    go_loopg [13] (l1.length + 1) (fun kq v13 w' => ∃ x13 : Int, v13 = .int .i64 x13 ∧ Aside0 (0 ≤ x13 ∧ x13 ≤ (l1.length : Int) ∧ x13 + (kq : Int) = (l1.length : Int) + 1) ∧ ∃ q : Nat, w' = (wr.alloc (.cells #[.int .i64 (xr l1 x11 x13 0), .int .i64 (xr l1 x11 x13 1), .int .i64 (xr l1 x11 x13 2)] 92)).drewN q)
                    case atStart => exact ⟨0, rfl, ⟨by omega, by omega, by omega⟩, 0, rfl⟩
                    case round =>
                      obtain ⟨x13, rfl, HY, qd, rfl⟩ := hrel
                      cases gk with
                      | zero => exact absurd HY.out (by omega)
                      | succ k4 =>
                        by_cases c3 : x13 < (l1.length : Int)
                        · have c3b : decide (x13 < (l1.length : Int)) = true := decide_eq_true c3
                          have HC3 := Aside0.mk c3
                          clear c3
                          have hcs : x13 = 0 ∨ x13 = 1 ∨ x13 = 2 := by have := HY.out; have := HC3.out; have := H3.out; omega
                          rcases hcs with e0 | e1 | e2
                          · subst e0
                            have p0 : (0 : Int) ≤ 0 := by decide
                            obtain ⟨ad', A3, e3, ea, hx, hl, hi⟩ := at_rowi HR.out 0 p0 HC3.out
                            cases ea
                            have hat := at_f (HF.out 0 p0 HC3.out) HX.out.1 (by rw [← HZ.out]; exact HC2.out)
                            have hw2 : Below w.heap.size w (wr.alloc (.cells #[.int .i64 (xr l1 x11 0 0), .int .i64 (xr l1 x11 0 1), .int .i64 (xr l1 x11 0 2)] 92)) := below_alloc HBW.out _
                            replace hx := (hw2.cell (World.block_lt_of_cell? w _ hx)).trans hx
                            have hx : (wr.alloc (.cells #[.int .i64 (xr l1 x11 0 0), .int .i64 (xr l1 x11 0 1), .int .i64 (xr l1 x11 0 2)] 92)).cell? ad = some (.slice A3 (rows l1 0).length e3) := by rw [← za0 ad]; exact hx
                            have BK : (wr.alloc (.cells #[.int .i64 (xr l1 x11 0 0), .int .i64 (xr l1 x11 0 1), .int .i64 (xr l1 x11 0 2)] 92)).heap[wr.heap.size]? = some (.cells #[.int .i64 (xr l1 x11 0 0), .int .i64 (xr l1 x11 0 1), .int .i64 (xr l1 x11 0 2)] 92 (0, 0)) := blk_new _ _
                            have hc0 := blk_cell BK 0
                            have hc1 := blk_cell BK 1
                            have hc2 := blk_cell BK 2
                            have HCI := Aside0.mk (Kd.C_below hi hw2)
                            have HLI := Aside0.mk hl
                            have HAT := Aside0.mk hat
                            clear BK hw2 hl hi hat
                            replace p0 := eq_true p0
                            have q0 : (0 < l1.length) = True := eq_true (by have := HC3.out; omega)
                            go_wp2_with (go_at_call 68; refine (latheref05_at.calls A3 e3 (rows l1 0) x11 _ _ (Kd.C_drewN HCI.out _) HLI.out HAT.out).mono ?_; rintro e w' ⟨rfl, ⟨nd, rfl⟩⟩)
                            go_roundg k4
                            case measure => omega
                            case rel => exact ⟨1, rfl, ⟨by have := HY.out; have := HC3.out; omega⟩, qd + nd, by rw [setCell_drewN, World.setCell_alloc_at _ _ _ _ _ rfl]; simp [xr]⟩
                          · subst e1
                            have p0 : (0 : Int) ≤ 1 := by decide
                            obtain ⟨ad', A3, e3, ea, hx, hl, hi⟩ := at_rowi HR.out 1 p0 HC3.out
                            cases ea
                            have hat := at_f (HF.out 1 p0 HC3.out) HX.out.1 (by rw [← HZ.out]; exact HC2.out)
                            have hw2 : Below w.heap.size w (wr.alloc (.cells #[.int .i64 (xr l1 x11 1 0), .int .i64 (xr l1 x11 1 1), .int .i64 (xr l1 x11 1 2)] 92)) := below_alloc HBW.out _
                            replace hx := (hw2.cell (World.block_lt_of_cell? w _ hx)).trans hx
                            have hx : (wr.alloc (.cells #[.int .i64 (xr l1 x11 1 0), .int .i64 (xr l1 x11 1 1), .int .i64 (xr l1 x11 1 2)] 92)).cell? ⟨ad.block, ad.off + 1, none⟩ = some (.slice A3 (rows l1 1).length e3) := by rw [← za1 ad]; exact hx
                            have BK : (wr.alloc (.cells #[.int .i64 (xr l1 x11 1 0), .int .i64 (xr l1 x11 1 1), .int .i64 (xr l1 x11 1 2)] 92)).heap[wr.heap.size]? = some (.cells #[.int .i64 (xr l1 x11 1 0), .int .i64 (xr l1 x11 1 1), .int .i64 (xr l1 x11 1 2)] 92 (0, 0)) := blk_new _ _
                            have hc0 := blk_cell BK 0
                            have hc1 := blk_cell BK 1
                            have hc2 := blk_cell BK 2
                            have HCI := Aside0.mk (Kd.C_below hi hw2)
                            have HLI := Aside0.mk hl
                            have HAT := Aside0.mk hat
                            clear BK hw2 hl hi hat
                            replace p0 := eq_true p0
                            have q0 := eq_true HC3.out
                            go_wp2_with (go_at_call 68; refine (latheref05_at.calls A3 e3 (rows l1 1) x11 _ _ (Kd.C_drewN HCI.out _) HLI.out HAT.out).mono ?_; rintro e w' ⟨rfl, ⟨nd, rfl⟩⟩)
                            go_roundg k4
                            case measure => omega
                            case rel => exact ⟨2, rfl, ⟨by have := HY.out; have := HC3.out; omega⟩, qd + nd, by rw [setCell_drewN, World.setCell_alloc_at _ _ _ _ _ rfl]; simp [xr]⟩
                          · subst e2
                            have p0 : (0 : Int) ≤ 2 := by decide
                            obtain ⟨ad', A3, e3, ea, hx, hl, hi⟩ := at_rowi HR.out 2 p0 HC3.out
                            cases ea
                            have hat := at_f (HF.out 2 p0 HC3.out) HX.out.1 (by rw [← HZ.out]; exact HC2.out)
                            have hw2 : Below w.heap.size w (wr.alloc (.cells #[.int .i64 (xr l1 x11 2 0), .int .i64 (xr l1 x11 2 1), .int .i64 (xr l1 x11 2 2)] 92)) := below_alloc HBW.out _
                            replace hx := (hw2.cell (World.block_lt_of_cell? w _ hx)).trans hx
                            have hx : (wr.alloc (.cells #[.int .i64 (xr l1 x11 2 0), .int .i64 (xr l1 x11 2 1), .int .i64 (xr l1 x11 2 2)] 92)).cell? ⟨ad.block, ad.off + 2, none⟩ = some (.slice A3 (rows l1 2).length e3) := by rw [← za2 ad]; exact hx
                            have BK : (wr.alloc (.cells #[.int .i64 (xr l1 x11 2 0), .int .i64 (xr l1 x11 2 1), .int .i64 (xr l1 x11 2 2)] 92)).heap[wr.heap.size]? = some (.cells #[.int .i64 (xr l1 x11 2 0), .int .i64 (xr l1 x11 2 1), .int .i64 (xr l1 x11 2 2)] 92 (0, 0)) := blk_new _ _
                            have hc0 := blk_cell BK 0
                            have hc1 := blk_cell BK 1
                            have hc2 := blk_cell BK 2
                            have HCI := Aside0.mk (Kd.C_below hi hw2)
                            have HLI := Aside0.mk hl
                            have HAT := Aside0.mk hat
                            clear BK hw2 hl hi hat
                            replace p0 := eq_true p0
                            have q0 := eq_true HC3.out
                            go_wp2_with (go_at_call 68; refine (latheref05_at.calls A3 e3 (rows l1 2) x11 _ _ (Kd.C_drewN HCI.out _) HLI.out HAT.out).mono ?_; rintro e w' ⟨rfl, ⟨nd, rfl⟩⟩)
                            go_roundg k4
                            case measure => omega
                            case rel => exact ⟨3, rfl, ⟨by have := HY.out; have := HC3.out; omega⟩, qd + nd, by rw [setCell_drewN, World.setCell_alloc_at _ _ _ _ _ rfl]; simp [xr]⟩
                        · have c3b : decide (x13 < (l1.length : Int)) = false := decide_eq_false c3
                          have e9 : x13 = (l1.length : Int) := by have := HY.out; omega
                          subst e9
                          clear c3 HY
                          obtain ⟨dv, hdv⟩ := Option.isSome_iff_exists.1 (HD.out x11 HX.out.1 (by rw [← HZ.out]; exact HC2.out))
                          have HDV := Aside0.mk hdv
                          clear hdv
                          have BK : (wr.alloc (.cells #[.int .i64 (xr l1 x11 (l1.length : Int) 0), .int .i64 (xr l1 x11 (l1.length : Int) 1), .int .i64 (xr l1 x11 (l1.length : Int) 2)] 92)).heap[wr.heap.size]? = some (.cells #[.int .i64 (xr l1 x11 (l1.length : Int) 0), .int .i64 (xr l1 x11 (l1.length : Int) 1), .int .i64 (xr l1 x11 (l1.length : Int) 2)] 92 (0, 0)) := blk_new _ _
                          have hc0 := blk_cell BK 0
                          have hc1 := blk_cell BK 1
                          have hc2 := blk_cell BK 2
                          clear BK
                          go_wp2_with (first | (go_at_call 69; refine (latheref05_Do.calls K0 op _ _ _ dv _ HDV.out).mono ?_; rintro e wc ⟨rfl, hbc⟩; have HBz : Below w.heap.size w wc := below_then (pw_below_drewN (below_alloc HBW.out _) qd) (pw_below_drewN (below_alloc HBW.out _) qd).size hbc; have HBy : Below wr.heap.size wr wc := below_then (pw_below_drewN (below_alloc (Below.refl _ _) _) qd) (pw_below_drewN (below_alloc (Below.refl _ _) _) qd).size hbc; clear hbc) | ((with_reducible refine gate_builtin (b := .append) (xs := #[.tmp 91, .tmp 100]) rfl ?_); at_builtin; refine Kd.R_append (Kd.int .i64) (w0 := w) w.heap.size rfl (.tmp 91) (.tmp 100) 43 3 (.int .i64 0) 8 rfl Try.underlying43 info_i64 rfl (by decide) (by omega) u10 (outr op l1 x11.toNat) dv [.int .i64 dv] (fun _ => True) (fun _ => False) rfl rfl ?aP (fun _ hk => hk.elim) ?aF ?aO ?aB ?aS ?aL ?_; (case aP => exact rfl); (case aB => exact (by repeat (first | (with_reducible first | exact HBz | apply below_alloc | apply pw_below_drewN | apply below_drew1) | exact HBz))); (case aF => exact (fun _ _ => trivial)); (case aO => exact (Kd.R_below HO.out HBy)); (case aS => exact (below_size (by repeat (first | (with_reducible first | exact HBz | apply below_alloc | apply pw_below_drewN | apply below_drew1) | exact HBz)))); (case aL => have h1 := outr_length op l1 x11.toNat; have h2 := HX.out; have h3 := HZ.out; have h4 := HM.out; first | omega | (rw [h1]; omega)); intro v1 w7 ho hb hgr hat))
                          go_roundg k3
                          case measure => omega
                          case rel => exact ⟨x11 + 1, by have h2 := HX.out; have h3 := HZ.out; have h4 := HM.out; have h5 := HC2.out; rw [show wrap64 (x11 + 1) = x11 + 1 by unfold wrap64; omega], ⟨by have := HX.out; have := HC2.out; omega⟩, ⟨by rw [outr_snoc op l1 x11 HX.out.1, HDV.out]; exact ho⟩, ⟨hb⟩⟩
                  · have c2b : decide (x11 < x7) = false := decide_eq_false c2
                    have HC2 := Aside0.mk c2
                    clear c2
                    go_wp2
                    have hx : x11 = x7 := by have := HX.out; have := HC2.out; omega
                    exact bodyPost_ret (v := .tuple #[u10, .int .i64 0]) (by simp [results, Try.results25, go_sem]) rfl ⟨_, _, 0, rfl, HO.out, .inl ⟨HF.out, rfl, by rw [hx, HZ.out]⟩, HBW.out⟩
theorem RApply_none (op : Int) (A1 : Option Addr) (c1 : Nat) (l1 : List (List Int)) (w : World) (h : ar op = 0 ∨ ar op ≠ l1.length) : Calls Try.prog 25 #[.int .i64 op, .slice A1 l1.length c1] w fun e w' => ∃ v0_ : Value, e = .returned (.tuple #[v0_, .int .i64 1]) ∧ Kd.R (Kd.int .i64) 3 w' w.heap.size (fun _ => True) v0_ [] ∧ Below w.heap.size w w' := by
  have tk := latheref05_Takes.calls 10 op _ w (takes_f op)
  obtain ⟨m, hm⟩ : ∃ m : Int, m = ((ar op : Nat) : Int) := ⟨_, rfl⟩
  rw [← hm] at tk
  by_cases h0 : m = 0
  · subst h0
    clear h hm
    go_enter Try.func25, Try.ntmps25
    go_wp2_with (go_at_call 67; refine tk.mono ?_; rintro e w1 ⟨rfl, ⟨m1, rfl⟩⟩)
    exact bodyPost_ret (v := .tuple #[.slice none 0 0, .int .i64 1]) (by simp [results, Try.results25, go_sem]) rfl ⟨_, rfl, Kd.R_nil _ _ _ _ _, by repeat (first | exact Below.refl _ _ | apply pw_below_drewN)⟩
  · have c0 : (m == 0) = false := beq_eq_false_iff_ne.mpr h0
    have c1' : ((l1.length : Int) != m) = true := bne_iff_ne.mpr (by omega)
    clear hm h0 h
    go_enter Try.func25, Try.ntmps25
    go_wp2_with (go_at_call 67; refine tk.mono ?_; rintro e w1 ⟨rfl, ⟨m1, rfl⟩⟩)
    exact bodyPost_ret (v := .tuple #[.slice none 0 0, .int .i64 1]) (by simp [results, Try.results25, go_sem]) rfl ⟨_, rfl, Kd.R_nil _ _ _ _ _, by repeat (first | exact Below.refl _ _ | apply pw_below_drewN)⟩
def fitrb (n : Int) (a : List Int) : Bool := decide ((a.length : Int) = n) || (decide (n ≠ 0) && decide ((a.length : Int) = 1))
theorem fitrb_iff (n : Int) (a : List Int) : fitrb n a = true ↔ fitr n a := by
  unfold fitrb fitr
  simp only [Bool.or_eq_true, Bool.and_eq_true, decide_eq_true_eq]
theorem allr_iff (s : Int) (l : List (List Int)) : l.all (fitrb s) = true ↔ ∀ i : Int, 0 ≤ i → i < (l.length : Int) → fitr s (rows l i) := by
  rw [List.all_eq_true]
  constructor
  · intro h i h0 h1
    rw [← fitrb_iff]
    refine h _ ?_
    unfold rows
    rw [List.getD_eq_getElem?_getD, List.getElem?_eq_getElem (by omega : i.toNat < l.length)]
    exact List.getElem_mem _
  · intro h x hx
    obtain ⟨i, hi, rfl⟩ := List.getElem_of_mem hx
    have := h (i : Int) (by omega) (by omega)
    rw [fitrb_iff]
    unfold rows at this
    rwa [List.getD_eq_getElem?_getD, Int.toNat_natCast, List.getElem?_eq_getElem hi] at this
/-- What the reference's Apply answers. -/
def apR (op : Int) (l : List (List Int)) : Option (List Int × Int) := if ar op = 0 ∨ ar op ≠ l.length then some ([], 1) else if szr l ≤ 1048576 ∧ (List.range (szr l).toNat).all (fun i => (dof op l (i : Int)).isSome) = true then (if l.all (fitrb (szr l)) = true then some (outr op l (szr l).toNat, 0) else some ([], 50)) else none
theorem RApply_any (op : Int) (A1 : Option Addr) (c1 : Nat) (l1 : List (List Int)) (r1 : List Int) (r2 : Int) (w : World) (hr1 : Kd.C (Kd.slice 3 (Kd.int .i64)) w A1 l1.length l1) (hc1 : l1.length ≤ c1) (h : apR op l1 = some (r1, r2)) :
    Calls Try.prog 25 #[.int .i64 op, .slice A1 l1.length c1] w fun e w' => ∃ v0_ : Value, e = .returned (.tuple #[v0_, .int .i64 r2]) ∧ Kd.R (Kd.int .i64) 3 w' w.heap.size (fun _ => True) v0_ r1 ∧ Below w.heap.size w w' := by
  unfold apR at h
  by_cases c : ar op = 0 ∨ ar op ≠ l1.length
  · rw [if_pos c] at h
    simp only [Option.some.injEq, Prod.mk.injEq] at h
    obtain ⟨rfl, rfl⟩ := h
    exact RApply_none op A1 c1 l1 w c
  · rw [if_neg c] at h
    by_cases c2 : szr l1 ≤ 1048576 ∧ (List.range (szr l1).toNat).all (fun i => (dof op l1 (i : Int)).isSome) = true
    · rw [if_pos c2] at h
      have hd : ∀ i : Int, 0 ≤ i → i < szr l1 → (dof op l1 i).isSome = true := by
        intro i h0 h1
        have := List.all_eq_true.1 c2.2 i.toNat (List.mem_range.2 (by omega))
        rwa [Int.toNat_of_nonneg h0] at this
      refine (RApply op A1 c1 l1 w hr1 hc1 (by omega) (by omega) (by have := ar_le op; omega) c2.1 hd).mono ?_
      rintro e w' ⟨v, xs, c, rfl, hR, hc, hB⟩
      rcases hc with ⟨hf, rfl, rfl⟩ | ⟨hf, rfl, rfl⟩
      · rw [if_pos ((allr_iff _ _).2 hf)] at h
        simp only [Option.some.injEq, Prod.mk.injEq] at h
        obtain ⟨rfl, rfl⟩ := h
        exact ⟨v, rfl, hR, hB⟩
      · rw [if_neg (fun hh => by obtain ⟨i, h0, h1, h2⟩ := hf; exact h2 ((allr_iff _ _).1 hh i h0 h1))] at h
        simp only [Option.some.injEq, Prod.mk.injEq] at h
        obtain ⟨rfl, rfl⟩ := h
        exact ⟨v, rfl, hR, hB⟩
    · rw [if_neg c2] at h
      cases h
end Rap
def latheref05_Apply.f (a0 : Int) (l1 : List (List Int)) : Option (List Int × Int) := Rap.apR a0 l1
theorem latheref05_Apply.calls (a0 : Int) (A1 : Option Addr) (c1 : Nat) (l1 : List (List Int)) (r1 : List Int) (r2 : Int) (w : World) (hr1 : Kd.C (Kd.slice 3 (Kd.int .i64)) w A1 l1.length l1) (hc1 : l1.length ≤ c1) (h : latheref05_Apply.f a0 l1 = some (r1, r2)) :
    Calls Try.prog 25 #[.int .i64 a0, .slice A1 l1.length c1] w fun e w' => ∃ v0_ : Value, e = .returned (.tuple #[v0_, .int .i64 r2]) ∧ Kd.R (Kd.int .i64) 3 w' w.heap.size (fun _ => True) v0_ r1 ∧ Below w.heap.size w w' := Rap.RApply_any a0 A1 c1 l1 r1 r2 w hr1 hc1 h


/-! ### lathelaw05_ints: function 36 -/
def lathelaw05_ints.l0 : Nat → List Int → List Int → Int → Option (List Int)
  | 0, _, _, _ => none
  | k + 1, x0, x3, x4 => if x4 < (x0.length : Int) then (if 0 ≤ x4 then (if x3.length < 17592186044416 then (lathelaw05_ints.l0 k x0 (x3 ++ [wrap64 (rd x0 x4)]) (wrap64 (x4 + 1))) else (none)) else (none)) else (some x3)
def lathelaw05_ints.f (k : Nat) (l0 : List Int) : Option (List Int) := lathelaw05_ints.l0 k l0 ([] : List Int) 0
theorem lathelaw05_ints.mono_l : ∀ k, (∀ y0 y1 y2, LeO (lathelaw05_ints.l0 k y0 y1 y2) (lathelaw05_ints.l0 (k + 1) y0 y1 y2))
  | 0 => fun _ _ _ r h => by simp [lathelaw05_ints.l0] at h
  | k + 1 => by
    have ih0 := lathelaw05_ints.mono_l k
    · intro y0 y1 y2
      unfold lathelaw05_ints.l0
      repeat' first
      | (with_reducible exact ih0 _ _ _)
      | (with_reducible exact LeO.refl _)
      | (with_reducible exact LeO.none _)
      | (with_reducible refine LeO.ite ?_ ?_)
      | (with_reducible refine LeO.bind ?_ (fun _ => ?_))
      | exact ih0 _ _ _
      | exact LeO.none _
      | refine LeO.ite ?_ ?_
      | refine LeO.bind ?_ (fun _ => ?_)
theorem lathelaw05_ints.mono : ∀ a0 k, LeO (lathelaw05_ints.f k a0) (lathelaw05_ints.f (k + 1) a0) := by
  intro a0 k
  have ih0 := lathelaw05_ints.mono_l k
  unfold lathelaw05_ints.f
  repeat' first
      | (with_reducible exact ih0 _ _ _)
      | (with_reducible exact LeO.refl _)
      | (with_reducible exact LeO.none _)
      | (with_reducible refine LeO.ite ?_ ?_)
      | (with_reducible refine LeO.bind ?_ (fun _ => ?_))
      | exact ih0 _ _ _
      | exact LeO.none _
      | refine LeO.ite ?_ ?_
      | refine LeO.bind ?_ (fun _ => ?_)
set_option maxHeartbeats 8000000 in
set_option maxRecDepth 100000 in
theorem lathelaw05_ints.calls (k : Nat) (A0 : Option Addr) (c0 : Nat) (l0 : List Int) (r : List Int) (w : World) (hr0 : Kd.C (Kd.int .u32) w A0 l0.length l0) (hc0 : l0.length ≤ c0) (h : lathelaw05_ints.f k l0 = some r) :
    Calls Try.prog 36 #[.slice A0 l0.length c0] w fun e w' => ∃ v0_ : Value, e = .returned (v0_) ∧ Kd.R (Kd.int .i64) 3 w' w.heap.size (fun _ => True) v0_ r ∧ Below w.heap.size w w' := by
  have HR0 := Aside0.mk hr0
  have HC0 := Aside0.mk hc0
  clear hr0 hc0
  have HB := Aside0.mk (Below.refl w.heap.size w)
  have H : (lathelaw05_ints.l0 k l0 ([] : List Int) 0) = some r := h
  clear h
  have H' := Aside0.mk H
  clear H
  go_enter Try.func36, Try.ntmps36
  go_wp2
  go_loopg [3, 4] k (fun kq v3 v4 w' => ∃ (x3_1 : List Int) (x4_1 : Int), v4 = .int .i64 x4_1 ∧ Aside0 (lathelaw05_ints.l0 kq l0 x3_1 x4_1 = some r) ∧ Aside0 (kq ≤ k) ∧ Aside0 (Kd.R (Kd.int .i64) 3 w' w.heap.size (fun _ => True) v3 x3_1) ∧ Aside0 (Below w.heap.size w w'))
  case atStart => exact ⟨(([] : List Int)), (0), (by first | rfl | (simp; done) | (simp [*]; done)), H', ⟨Nat.le_refl _⟩, ⟨by first | exact Kd.R_nil _ _ _ _ _ | exact Kd.N_nil _ _ _ _ _ | exact Kd.V_nil _ _ _ _ _ | exact Kd.Q_nil _ _ _ _ _ | exact Kd.S_nil _ _ _ _ _⟩, ⟨by repeat (first | (with_reducible first | exact HB.out | apply below_alloc | apply pw_below_drewN | apply below_drew1) | exact HB.out)⟩⟩
  case round =>
    clear H'
    obtain ⟨x3_1, x4_1, rfl, HA, HK1, HO_3, HB⟩ := hrel
    cases gk with
    | zero => exact absurd HA.out (by simp [lathelaw05_ints.l0])
    | succ k1 =>
      have H := HA.out
      clear HA
      simp only [lathelaw05_ints.l0] at H
      by_cases c2 : x4_1 < (l0.length : Int)
      · rw [if_pos c2] at H
        have c2b0 : decide (x4_1 < (l0.length : Int)) = true := decide_eq_true c2
        clear c2
        by_cases c3 : 0 ≤ x4_1
        · rw [if_pos c3] at H
          have c3b0 : decide (0 ≤ x4_1) = true := decide_eq_true c3
          clear c3
          by_cases c4 : x3_1.length < 17592186044416
          · rw [if_pos c4] at H
            have LMc4 := Aside0.mk c4
            clear c4
            obtain ⟨y292, hy292⟩ : ∃ y_ : List Int, y_ = (x3_1 ++ [wrap64 (rd l0 x4_1)]) := ⟨_, rfl⟩
            replace H : (lathelaw05_ints.l0 k1 l0 y292 (wrap64 (x4_1 + 1))) = some r := by first | (rw [hy292]; with_reducible exact H) | (have H2_ := (Option.bind_some _ _).symm.trans H; rw [hy292]; with_reducible exact H2_) | (have H2_ := (Option.bind_some _ _).symm.trans H; with_reducible exact H2_) | with_reducible exact H | (rw [hy292]; exact H) | exact H
            have Ny292 := Aside0.mk hy292
            clear hy292
            have H' := Aside0.mk H
            clear H
            have p291 : 0 ≤ (x4_1 : Int) := of_decide_eq_true (by first | (with_reducible assumption) | assumption)
            have q291 : x4_1 < (l0.length : Int) := of_decide_eq_true (by first | (with_reducible assumption) | assumption)
            obtain ⟨ad291, e291, hx291_0⟩ := Kd.at_int HR0.out x4_1 p291 q291
            cases e291
            replace hx291_0 := (HB.out.cell (World.block_lt_of_cell? w _ hx291_0)).trans hx291_0
            replace p291 := eq_true p291
            replace q291 := eq_true q291
            go_wp2_with (first | ((with_reducible refine gate_builtin (b := .append) (xs := #[.tmp 11, .tmp 17]) rfl ?_); at_builtin; refine Kd.R_append (Kd.int .i64) (w0 := w) w.heap.size rfl (.tmp 11) (.tmp 17) 43 3 (.int .i64 0) 8 rfl Try.underlying43 info3 rfl (by decide) (by omega) u3 x3_1 (wrap64 (rd l0 x4_1)) [.int .i64 (wrap64 (rd l0 x4_1))] (fun _ => True) (fun _ => False) rfl rfl ?aP (fun _ hk => hk.elim) ?aF ?aO ?aB ?aS ?aL ?_; (case aP => exact rfl); (case aB => exact (by repeat (first | (with_reducible first | exact HB.out | apply below_alloc | apply pw_below_drewN | apply below_drew1) | exact HB.out))); (case aF => exact (fun _ _ => trivial)); (case aO => exact (by (with_reducible repeat (first | apply Kd.R_alloc | apply Kd.R_drewN | apply Kd.R_drew)); exact HO_3.out)); (case aS => exact (below_size (by repeat (first | (with_reducible first | exact HB.out | apply below_alloc | apply pw_below_drewN | apply below_drew1) | exact HB.out)))); (case aL => have := LMc4.out; omega); intro v293 w5 ho hb hg hat; rw [← Ny292.out] at ho; have n0_ := Aside0.mk (hb); have n1_ := Aside0.mk (ho); clear HB; clear HO_3; have HB := n0_; have HO294 := n1_; clear n0_ n1_; clear ho hb hg hat))
            go_roundg k1
            case measure => have := HK1.out; omega
            case rel => exact ⟨(y292), (wrap64 (x4_1 + 1)), (by first | rfl | (simp; done) | (simp [*]; done)), H', ⟨by have := HK1.out; omega⟩, ⟨by (with_reducible repeat (first | apply Kd.R_alloc | apply Kd.R_drewN | apply Kd.R_drew)); exact HO294.out⟩, ⟨by repeat (first | (with_reducible first | exact HB.out | apply below_alloc | apply pw_below_drewN | apply below_drew1) | exact HB.out)⟩⟩
          · rw [if_neg c4] at H
            exact absurd H (by simp)
        · rw [if_neg c3] at H
          exact absurd H (by simp)
      · rw [if_neg c2] at H
        have c2b0 : decide (x4_1 < (l0.length : Int)) = false := decide_eq_false c2
        clear c2
        obtain rfl := Option.some.inj H
        go_wp2
        go_ret
        exact ⟨_, by first | rfl | (simp [errW_none, errW_some] <;> rfl) | (simp [*, errW_none, errW_some] <;> rfl), by (with_reducible repeat (first | apply Kd.R_alloc | apply Kd.R_drewN | apply Kd.R_drew)); exact HO_3.out, by repeat (first | (with_reducible first | exact HB.out | apply below_alloc | apply pw_below_drewN | apply below_drew1) | exact HB.out)⟩

/-! ### lathelaw05_lists: function 26 -/
def lathelaw05_lists.l0 : Nat → List (List Int) → List (List Int) → Int → Option ((List (List Int)))
  | 0, _, _, _ => none
  | k + 1, x0, x3, x4 => if x4 < (x0.length : Int) then (if 0 ≤ x4 then ((lathelaw05_ints.f k (rd_L1 x0 x4)).bind fun t296 => (if x3.length < 5864062014805 then (lathelaw05_lists.l0 k x0 (x3 ++ [t296]) (wrap64 (x4 + 1))) else (none))) else (none)) else (some x3)
def lathelaw05_lists.f (k : Nat) (l0 : List (List Int)) : Option ((List (List Int))) := lathelaw05_lists.l0 k l0 ([] : List (List Int)) 0
theorem lathelaw05_lists.mono_l : ∀ k, (∀ y0 y1 y2, LeO (lathelaw05_lists.l0 k y0 y1 y2) (lathelaw05_lists.l0 (k + 1) y0 y1 y2))
  | 0 => fun _ _ _ r h => by simp [lathelaw05_lists.l0] at h
  | k + 1 => by
    have ih0 := lathelaw05_lists.mono_l k
    · intro y0 y1 y2
      unfold lathelaw05_lists.l0
      repeat' first
      | (with_reducible exact ih0 _ _ _)
      | (with_reducible exact lathelaw05_ints.mono _ _)
      | (with_reducible exact LeO.refl _)
      | (with_reducible exact LeO.none _)
      | (with_reducible refine LeO.ite ?_ ?_)
      | (with_reducible refine LeO.bind ?_ (fun _ => ?_))
      | exact ih0 _ _ _
      | exact lathelaw05_ints.mono _ _
      | exact LeO.none _
      | refine LeO.ite ?_ ?_
      | refine LeO.bind ?_ (fun _ => ?_)
theorem lathelaw05_lists.mono : ∀ a0 k, LeO (lathelaw05_lists.f k a0) (lathelaw05_lists.f (k + 1) a0) := by
  intro a0 k
  have ih0 := lathelaw05_lists.mono_l k
  unfold lathelaw05_lists.f
  repeat' first
      | (with_reducible exact ih0 _ _ _)
      | (with_reducible exact lathelaw05_ints.mono _ _)
      | (with_reducible exact LeO.refl _)
      | (with_reducible exact LeO.none _)
      | (with_reducible refine LeO.ite ?_ ?_)
      | (with_reducible refine LeO.bind ?_ (fun _ => ?_))
      | exact ih0 _ _ _
      | exact lathelaw05_ints.mono _ _
      | exact LeO.none _
      | refine LeO.ite ?_ ?_
      | refine LeO.bind ?_ (fun _ => ?_)
set_option maxHeartbeats 8000000 in
set_option maxRecDepth 100000 in
theorem lathelaw05_lists.calls (k : Nat) (A0 : Option Addr) (c0 : Nat) (l0 : List (List Int)) (r : List (List Int)) (w : World) (hr0 : Kd.C (Kd.slice 52 (Kd.int .u32)) w A0 l0.length l0) (hc0 : l0.length ≤ c0) (h : lathelaw05_lists.f k l0 = some r) :
    Calls Try.prog 26 #[.slice A0 l0.length c0] w fun e w' => ∃ v0_ : Value, e = .returned (v0_) ∧ Kd.S (Kd.slice 3 (Kd.int .i64)) 43 w' w.heap.size (fun _ => True) v0_ r ∧ Below w.heap.size w w' := by
  have HR0 := Aside0.mk hr0
  have HC0 := Aside0.mk hc0
  clear hr0 hc0
  have HB := Aside0.mk (Below.refl w.heap.size w)
  have H : (lathelaw05_lists.l0 k l0 ([] : List (List Int)) 0) = some r := h
  clear h
  have H' := Aside0.mk H
  clear H
  go_enter Try.func26, Try.ntmps26
  go_wp2
  go_loopg [3, 4] k (fun kq v3 v4 w' => ∃ (x3_1 : List (List Int)) (x4_1 : Int), v4 = .int .i64 x4_1 ∧ Aside0 (lathelaw05_lists.l0 kq l0 x3_1 x4_1 = some r) ∧ Aside0 (kq ≤ k) ∧ Aside0 (Kd.S (Kd.slice 3 (Kd.int .i64)) 43 w' w.heap.size (fun _ => True) v3 x3_1) ∧ Aside0 (Below w.heap.size w w'))
  case atStart => exact ⟨(([] : List (List Int))), (0), (by first | rfl | (simp; done) | (simp [*]; done)), H', ⟨Nat.le_refl _⟩, ⟨by first | exact Kd.S_nil _ _ _ _ _ | exact Kd.N_nil _ _ _ _ _ | exact Kd.V_nil _ _ _ _ _ | exact Kd.Q_nil _ _ _ _ _ | exact Kd.R_nil _ _ _ _ _⟩, ⟨by repeat (first | (with_reducible first | exact HB.out | apply below_alloc | apply pw_below_drewN | apply below_drew1) | exact HB.out)⟩⟩
  case round =>
    clear H'
    obtain ⟨x3_1, x4_1, rfl, HA, HK1, HO_3, HB⟩ := hrel
    cases gk with
    | zero => exact absurd HA.out (by simp [lathelaw05_lists.l0])
    | succ k1 =>
      have H := HA.out
      clear HA
      simp only [lathelaw05_lists.l0] at H
      by_cases c2 : x4_1 < (l0.length : Int)
      · rw [if_pos c2] at H
        have c2b0 : decide (x4_1 < (l0.length : Int)) = true := decide_eq_true c2
        clear c2
        by_cases c3 : 0 ≤ x4_1
        · rw [if_pos c3] at H
          have c3b0 : decide (0 ≤ x4_1) = true := decide_eq_true c3
          clear c3
          replace H := Option.bind_eq_some_iff.mp H
          obtain ⟨t296, A40, H⟩ := H
          replace H : (if x3_1.length < 5864062014805 then (lathelaw05_lists.l0 k1 l0 (x3_1 ++ [t296]) (wrap64 (x4_1 + 1))) else (none)) = some r := H
          have A4 := Aside0.mk A40
          clear A40
          by_cases c5 : x3_1.length < 5864062014805
          · rw [if_pos c5] at H
            have LMc5 := Aside0.mk c5
            clear c5
            obtain ⟨y299, hy299⟩ : ∃ y_ : List (List Int), y_ = (x3_1 ++ [t296]) := ⟨_, rfl⟩
            replace H : (lathelaw05_lists.l0 k1 l0 y299 (wrap64 (x4_1 + 1))) = some r := by first | (rw [hy299]; with_reducible exact H) | (have H2_ := (Option.bind_some _ _).symm.trans H; rw [hy299]; with_reducible exact H2_) | (have H2_ := (Option.bind_some _ _).symm.trans H; with_reducible exact H2_) | with_reducible exact H | (rw [hy299]; exact H) | exact H
            have Ny299 := Aside0.mk hy299
            clear hy299
            have H' := Aside0.mk H
            clear H
            have p295 : 0 ≤ (x4_1 : Int) := of_decide_eq_true (by first | (with_reducible assumption) | assumption)
            have q295 : x4_1 < (l0.length : Int) := of_decide_eq_true (by first | (with_reducible assumption) | assumption)
            obtain ⟨ad295, A295_0, c295_0, e295, hx295_0, hl295_0, hi295_0⟩ := at_L1 HR0.out x4_1 p295 q295
            cases e295
            replace hx295_0 := (HB.out.cell (World.block_lt_of_cell? w _ hx295_0)).trans hx295_0
            have HR295_0 := Aside0.mk hi295_0
            have HC295_0 := Aside0.mk hl295_0
            clear hi295_0 hl295_0
            replace p295 := eq_true p295
            replace q295 := eq_true q295
            go_wp2_with (first | ((with_reducible refine gate_callee (f := 36) rfl ?_); refine goesL_ (some 16) rfl rfl Try.func36 (by kernel_rfl) rfl #[.slice A295_0 (rd_L1 l0 x4_1).length c295_0] rfl (by (try simp only [List.map_toArray, List.map_cons, List.map_nil]); first | done | rfl | (simp only [List.length_drop, List.length_take]; rfl)) ?_; (with_reducible refine (lathelaw05_ints.calls k1 _ _ (rd_L1 l0 x4_1) t296 _ ?side1 ?side2 A4.out).mono ?_); (case side1 => repeat (first | exact (Kd.C_below HR295_0.out HB.out) | (with_reducible refine Kd.C_alloc ?_ _) | (with_reducible refine Kd.C_drewN ?_ _) | (with_reducible refine Kd.C_drew ?_))); (case side2 => exact HC295_0.out); clear A4; rintro e w6 ⟨v297, rfl, ho0, hb⟩; refine ⟨_, rfl, ?_⟩; have n0_ := Aside0.mk (Kd.S_elder' (by (with_reducible repeat (first | apply Kd.S_alloc | apply Kd.S_drewN | apply Kd.S_drew)); exact HO_3.out) (Kd.R_base ho0) hb); have n1_ := Aside0.mk (Kd.R_lower ho0 (below_size (by repeat (first | (with_reducible first | exact HB.out | apply below_alloc | apply pw_below_drewN | apply below_drew1) | exact HB.out)))); have n2_ := Aside0.mk (below_step (by repeat (first | (with_reducible first | exact HB.out | apply below_alloc | apply pw_below_drewN | apply below_drew1) | exact HB.out)) hb); clear HO_3; clear HB; have HO_3 := n0_; have HO298 := n1_; have HB := n2_; clear n0_ n1_ n2_; (try clear hb); (try clear hb2); (try clear hk); (try clear hi); (try clear ho0); obtain ⟨Ao8, co8, eo8⟩ := Kd.R_slice HO298.out; subst eo8) | ((with_reducible refine gate_builtin (b := .append) (xs := #[.tmp 11, .tmp 17]) rfl ?_); at_builtin; refine Kd.S_append (Kd.slice 3 (Kd.int .i64)) (w0 := w) w.heap.size rfl (.tmp 11) (.tmp 17) 46 43 (.slice none 0 0) 24 rfl Try.underlying46 info43 rfl (by decide) (by omega) u3 x3_1 t296 [.slice Ao8 t296.length co8] (fun _ => True) (fun k_ => some k_ = (.slice Ao8 t296.length co8 : Value).ownBlock) rfl rfl ?aP (fun k_ hk_ => ((Kd.R_mono (ok' := fun k_ => ((fun _ => True)) k_ ∧ some k_ ≠ (u3 : Value).ownBlock) (Kd.R_apart' (HO298.out) (Kd.S_typed HO_3.out) (by decide)) (fun k_ hk => ⟨trivial, hk.2⟩))).1 k_ hk_.symm) ?aF ?aO ?aB ?aS ?aL ?_; (case aP => exact Kd.M_row (Kd.R_mono (Kd.R_tight rfl (Kd.R_mono (ok' := fun k_ => ((fun _ => True)) k_ ∧ some k_ ≠ (u3 : Value).ownBlock) (Kd.R_apart' (HO298.out) (Kd.S_typed HO_3.out) (by decide)) (fun k_ hk => ⟨trivial, hk.2⟩))) (fun _ h_ => h_))); (case aB => exact (by repeat (first | (with_reducible first | exact HB.out | apply below_alloc | apply pw_below_drewN | apply below_drew1) | exact HB.out))); (case aF => exact (fun _ _ => trivial)); (case aO => exact (by (with_reducible repeat (first | apply Kd.S_alloc | apply Kd.S_drewN | apply Kd.S_drew)); exact Kd.S_mono HO_3.out (fun k_ hk => ⟨trivial, fun e_ => hk.2 e_⟩))); (case aS => exact (below_size (by repeat (first | (with_reducible first | exact HB.out | apply below_alloc | apply pw_below_drewN | apply below_drew1) | exact HB.out)))); (case aL => have := LMc5.out; omega); intro v300 w7 ho hb hg hat; rw [← Ny299.out] at ho; have n0_ := Aside0.mk (hb); have n1_ := Aside0.mk (ho); clear HB; clear HO_3; clear HO298; have HB := n0_; have HO301 := n1_; clear n0_ n1_; clear ho hb hg hat))
            go_roundg k1
            case measure => have := HK1.out; omega
            case rel => exact ⟨(y299), (wrap64 (x4_1 + 1)), (by first | rfl | (simp; done) | (simp [*]; done)), H', ⟨by have := HK1.out; omega⟩, ⟨by (with_reducible repeat (first | apply Kd.S_alloc | apply Kd.S_drewN | apply Kd.S_drew)); exact HO301.out⟩, ⟨by repeat (first | (with_reducible first | exact HB.out | apply below_alloc | apply pw_below_drewN | apply below_drew1) | exact HB.out)⟩⟩
          · rw [if_neg c5] at H
            exact absurd H (by simp)
        · rw [if_neg c3] at H
          exact absurd H (by simp)
      · rw [if_neg c2] at H
        have c2b0 : decide (x4_1 < (l0.length : Int)) = false := decide_eq_false c2
        (try (have c2b0h := c2b0; rw [hl295_0] at c2b0h))
        clear c2
        obtain rfl := Option.some.inj H
        go_wp2
        go_ret
        exact ⟨_, by first | rfl | (simp [errW_none, errW_some] <;> rfl) | (simp [*, errW_none, errW_some] <;> rfl), by (with_reducible repeat (first | apply Kd.S_alloc | apply Kd.S_drewN | apply Kd.S_drew)); exact HO_3.out, by repeat (first | (with_reducible first | exact HB.out | apply below_alloc | apply pw_below_drewN | apply below_drew1) | exact HB.out)⟩

end Go.Proofs.Ytmfladkimmnccaa.PG
