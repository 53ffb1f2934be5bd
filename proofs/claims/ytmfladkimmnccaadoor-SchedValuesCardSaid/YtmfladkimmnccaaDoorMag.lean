/- The contract of package sched's may at a polynomial schedule of two numbers without kids. Condition: where its rows lie. -/
import Derived.Test.YtmfladkimmnccaaDoorRow
import Derived.Test.YtmfladkimmnccaaDoorRww
set_option linter.unusedVariables false
set_option linter.unusedSimpArgs false
namespace Go.Proofs.YtmfladkimmnccaaDoor.May
open Go.RowKit Lathe Go.Proofs.YtmfladkimmnccaaDoor.PW Go.Proofs.YtmfladkimmnccaaDoorW.PrintWords Go.Proofs.YtmfladkimmnccaaDoorW.PrintMore Go.Proofs.YtmfladkimmnccaaDoor.Flo Go.Proofs.YtmfladkimmnccaaDoor.Row

def fin (x : Int) : Bool := Go.bits .and .u32 x 2139095040 != 2139095040
set_option maxHeartbeats 8000000 in
set_option maxRecDepth 100000 in
theorem finite (x : Int) (w : World) : Calls Tryd.prog 64 #[.int .u32 x] w fun e w' => e = .returned (.bool (fin x)) ∧ w = w' := by
  go_enter Tryd.func64, Tryd.ntmps64
  go_wp2
  go_ret
  exact ⟨rfl, rfl⟩
theorem may1 (x : Int) (w : World) : Calls Tryd.prog 63 #[.int .u32 x] w fun e w' => e = .returned (.bool (!fin x)) ∧ w = w' := by
  go_enter Tryd.func63, Tryd.ntmps63
  go_wp2_with (go_at_call 64; refine (finite _ _).mono ?_; rintro e w' ⟨rfl, rfl⟩)
  go_ret
  exact ⟨rfl, rfl⟩
set_option maxHeartbeats 8000000 in
set_option maxRecDepth 100000 in
theorem index2 (ad : Addr) (x y : Int) (c : Nat) (w : World) (h0 : w.cell? ad = some (.int .u32 x)) (h1 : w.cell? (ad.add 1) = some (.int .u32 y)) : Calls Tryd.prog 79 #[.slice (some ad) 2 c, .func (.func 63) #[] #[]] w fun e w' => e = .returned (.int .i64 (if fin x = true then if fin y = true then -1 else 1 else 0)) ∧ w = w' := by
  have h2 : w.cell? ⟨ad.block, ad.off + 1, none⟩ = some (.int .u32 y) := h1
  by_cases f1 : fin x = true
  · rw [if_pos f1]
    by_cases f2 : fin y = true
    · rw [if_pos f2]
      go_enter Tryd.func79, Tryd.ntmps79
      go_wp2
      refine wp_loop_rounds 3 ?_
      rw [rounds_succ]
      go_wp2_with (go_at_call 63; refine (may1 _ _).mono ?_; rintro e w' ⟨rfl, rfl⟩)
      rw [rounds_succ]
      go_wp2_with (go_at_call 63; refine (may1 _ _).mono ?_; rintro e w' ⟨rfl, rfl⟩)
      rw [rounds_succ]
      go_wp2
      go_ret
      exact ⟨rfl, rfl⟩
    · rw [if_neg f2]
      have f3 : fin y = false := by simpa using f2
      go_enter Tryd.func79, Tryd.ntmps79
      go_wp2
      refine wp_loop_rounds 3 ?_
      rw [rounds_succ]
      go_wp2_with (go_at_call 63; refine (may1 _ _).mono ?_; rintro e w' ⟨rfl, rfl⟩)
      rw [rounds_succ]
      go_wp2_with (go_at_call 63; refine (may1 _ _).mono ?_; rintro e w' ⟨rfl, rfl⟩)
      go_ret
      exact ⟨rfl, rfl⟩
  · rw [if_neg f1]
    have f3 : fin x = false := by simpa using f1
    go_enter Tryd.func79, Tryd.ntmps79
    go_wp2
    refine wp_loop_rounds 3 ?_
    rw [rounds_succ]
    go_wp2_with (go_at_call 63; refine (may1 _ _).mono ?_; rintro e w' ⟨rfl, rfl⟩)
    go_ret
    exact ⟨rfl, rfl⟩
set_option maxHeartbeats 8000000 in
set_option maxRecDepth 100000 in
theorem contains2 (ad : Addr) (x y : Int) (c : Nat) (w : World) (h0 : w.cell? ad = some (.int .u32 x)) (h1 : w.cell? (ad.add 1) = some (.int .u32 y)) : Calls Tryd.prog 62 #[.slice (some ad) 2 c, .func (.func 63) #[] #[]] w fun e w' => e = .returned (.bool (!(fin x && fin y))) ∧ w = w' := by
  go_enter Tryd.func62, Tryd.ntmps62
  go_wp2_with (go_at_call 79; refine (index2 ad x y c _ h0 h1).mono ?_; rintro e w' ⟨rfl, rfl⟩)
  all_goals go_ret
  all_goals first | exact ⟨rfl, rfl⟩ | simp [*]
set_option maxHeartbeats 8000000 in
set_option maxRecDepth 100000 in
theorem index0 (A : Option Addr) (c : Nat) (f : Value) (w : World) : Calls Tryd.prog 84 #[.slice A 0 c, f] w fun e w' => e = .returned (.int .i64 (-1)) ∧ w = w' := by
  go_enter Tryd.func84, Tryd.ntmps84
  go_wp2
  refine wp_loop_rounds 1 ?_
  rw [rounds_succ]
  go_wp2
  go_ret
  exact ⟨rfl, rfl⟩
set_option maxHeartbeats 8000000 in
set_option maxRecDepth 100000 in
theorem contains0 (A : Option Addr) (c : Nat) (f : Value) (w : World) : Calls Tryd.prog 66 #[.slice A 0 c, f] w fun e w' => e = .returned (.bool false) ∧ w = w' := by
  go_enter Tryd.func66, Tryd.ntmps66
  go_wp2_with (go_at_call 84; refine (index0 A c f _).mono ?_; rintro e w' ⟨rfl, rfl⟩)
  go_ret
  exact ⟨rfl, rfl⟩
set_option maxHeartbeats 8000000 in
set_option maxRecDepth 100000 in
theorem may (ad : Addr) (A2 A3 : Option Addr) (x y : Int) (c1 c2 c3 : Nat) (l2 : List Int) (w : World) (h0 : w.cell? ad = some (.int .u32 x)) (h1 : w.cell? (ad.add 1) = some (.int .u32 y)) (hr : Kd.C (Kd.int .i64) w A2 l2.length l2) : Calls Tryd.prog 34 #[.agg #[.int .i64 2, .slice (some ad) 2 c1, .slice A2 l2.length c2, .slice A3 0 c3]] w fun e w' => e = .returned (.bool ((fin x && fin y) && (has 2 l2.length 0 2 3 && (win (rd l2 0) 1 1024 && (win (rd l2 1) 1 2147483647 && win (rd l2 2) 0 2147483647))))) ∧ Below w.heap.size w w' := by
  have hmf : ∀ (fn : Fn) (first cap : Array Value) (w : World), (Instr.makeFunc fn first cap).run Tryd.prog w = .ok (.func fn first cap) w := fun _ _ _ _ => rfl
  generalize hb : (has 2 l2.length 0 2 3 && (win (rd l2 0) 1 1024 && (win (rd l2 1) 1 2147483647 && win (rd l2 2) 0 2147483647))) = b
  have hrow := fun w' (hw : Kd.C (Kd.int .i64) w' A2 l2.length l2) => row_2 (some ad) A2 A3 2 0 c1 c2 c3 l2 w' hw
  rw [hb] at hrow
  go_enter Tryd.func34, Tryd.ntmps34
  go_wp2_with first
    | (go_at_call 62; refine (contains2 ad x y c1 _ (keepA h0) (keepA h1)).mono ?_; rintro e w' ⟨rfl, rfl⟩)
    | (go_at_call 66; refine (contains0 A3 c3 _ _).mono ?_; rintro e w' ⟨rfl, rfl⟩)
    | (go_at_call 65; refine (hrow _ (Kd.C_below hr (below_alloc (Below.refl _ _) _))).mono ?_; rintro e w' ⟨rfl, hB⟩; have hk : w'.cell? ⟨w.heap.size, 3, none⟩ = some (.slice A3 0 c3) := (hB.cell (by simp [World.alloc_eq])).trans (by go_simp))
  all_goals go_ret
  all_goals refine ⟨?_, ?_⟩
  all_goals first
    | exact below_alloc (Below.refl _ _) _
    | exact below_then (below_alloc (Below.refl _ _) _) (by simp [World.alloc_eq]) hB
    | (simp [*]; done)
    | (rename_i hx; rcases hx with hx | hx <;> simp [hx])
end Go.Proofs.YtmfladkimmnccaaDoor.May
set_option linter.unusedVariables false
set_option linter.unusedSimpArgs false
namespace Go.Proofs.YtmfladkimmnccaaDoor.Mag
open Go.RowKit Lathe Go.Proofs.YtmfladkimmnccaaDoor.PW Go.Proofs.YtmfladkimmnccaaDoorW.PrintWords Go.Proofs.YtmfladkimmnccaaDoorW.PrintMore Go.Proofs.YtmfladkimmnccaaDoor.Flo Go.Proofs.YtmfladkimmnccaaDoor.Row Go.Proofs.YtmfladkimmnccaaDoor.May

theorem all_take (l : List Int) (i : Int) (h0 : 0 ≤ i) (h1 : i < (l.length : Int)) : (l.take (i + 1).toNat).all fin = ((l.take i.toNat).all fin && fin (rd l i)) := by
  have e : (i + 1).toNat = i.toNat + 1 := by omega
  have hl : i.toNat < l.length := by omega
  rw [e, List.take_add_one, List.getElem?_eq_getElem hl, List.all_append]
  unfold rd
  rw [List.getD_eq_getElem?_getD, List.getElem?_eq_getElem hl]
  simp
theorem not_all (l : List Int) (i : Int) (h0 : 0 ≤ i) (h1 : i < (l.length : Int)) (h : fin (rd l i) = false) : l.all fin = false := by
  rw [List.all_eq_false]
  have hl : i.toNat < l.length := by omega
  refine ⟨l[i.toNat], List.getElem_mem _, ?_⟩
  unfold rd at h
  rw [List.getD_eq_getElem?_getD, List.getElem?_eq_getElem hl] at h
  simp at h
  simp [h]
set_option maxHeartbeats 8000000 in
set_option maxRecDepth 100000 in
theorem indexN (A : Option Addr) (c : Nat) (l : List Int) (w : World) (hr : Kd.C (Kd.int .u32) w A l.length l) (hc : l.length ≤ c) : Calls Tryd.prog 79 #[.slice A l.length c, .func (.func 63) #[] #[]] w fun e w' => ∃ r : Int, e = .returned (.int .i64 r) ∧ -1 ≤ r ∧ (r = -1 ↔ l.all fin = true) ∧ w = w' := by
  have HL := Aside0.mk (show l.length ≤ 9223372036854775807 from hr.2.1)
  have HR := Aside0.mk hr
  clear hr hc
  go_enter Tryd.func79, Tryd.ntmps79
  go_wp2
  go_loopg [8] (l.length + 1) (fun kq v8 w' => ∃ x8 : Int, v8 = .int .i64 x8 ∧ Aside0 (0 ≤ x8 ∧ x8 ≤ (l.length : Int) ∧ x8 + (kq : Int) = (l.length : Int) + 1) ∧ Aside0 ((l.take x8.toNat).all fin = true) ∧ w' = w)
  case atStart => exact ⟨0, rfl, ⟨by omega, by omega, by omega⟩, ⟨rfl⟩, rfl⟩
  case round =>
    obtain ⟨x8, rfl, HX, HA, rfl⟩ := hrel
    cases gk with
    | zero => exact absurd HX.out (by omega)
    | succ k1 =>
      by_cases c2 : x8 < (l.length : Int)
      · have c2b : decide (x8 < (l.length : Int)) = true := decide_eq_true c2
        have p : 0 ≤ x8 := HX.out.1
        obtain ⟨ad, ea, hx⟩ := Kd.at_int HR.out x8 p c2
        cases ea
        have HP := Aside0.mk p
        have HC2 := Aside0.mk c2
        have q := eq_true c2
        have HT := Aside0.mk (all_take l x8 p c2)
        clear c2
        replace p := eq_true p
        cases hf : fin (rd l x8) with
        | true =>
          have HF := Aside0.mk hf
          have hm := fun w => may1 (rd l x8) w
          rw [hf] at hm
          clear hf
          go_wp2_with (go_at_call 63; refine (hm _).mono ?_; rintro e w' ⟨rfl, rfl⟩)
          go_roundg k1
          case measure => omega
          case rel => exact ⟨x8 + 1, by have := HC2.out; have := HP.out; have := HL.out; rw [show wrap64 (x8 + 1) = x8 + 1 by unfold wrap64; omega], ⟨by have := HX.out; have := HC2.out; omega⟩, ⟨by rw [HT.out, HA.out, HF.out]; rfl⟩, rfl⟩
        | false =>
          have HF := Aside0.mk hf
          have hm := fun w => may1 (rd l x8) w
          rw [hf] at hm
          clear hf
          go_wp2_with (go_at_call 63; refine (hm _).mono ?_; rintro e w' ⟨rfl, rfl⟩)
          go_ret
          exact ⟨x8, rfl, by have := HP.out; omega, by rw [not_all l x8 HP.out HC2.out HF.out]; exact ⟨fun h => absurd h (by have := HP.out; omega), fun h => absurd h (by decide)⟩, rfl⟩
      · have c2b : decide (x8 < (l.length : Int)) = false := decide_eq_false c2
        obtain rfl : x8 = (l.length : Int) := by have := HX.out; omega
        clear c2
        have HA' : Aside0 (l.all fin = true) := ⟨by have := HA.out; rwa [Int.toNat_natCast, List.take_length] at this⟩
        go_wp2
        go_ret
        exact ⟨-1, rfl, by omega, ⟨fun _ => HA'.out, fun _ => rfl⟩, rfl⟩
set_option maxHeartbeats 8000000 in
set_option maxRecDepth 100000 in
theorem containsN (A : Option Addr) (c : Nat) (l : List Int) (w : World) (hr : Kd.C (Kd.int .u32) w A l.length l) (hc : l.length ≤ c) : Calls Tryd.prog 62 #[.slice A l.length c, .func (.func 63) #[] #[]] w fun e w' => e = .returned (.bool (!(l.all fin))) ∧ w = w' := by
  go_enter Tryd.func62, Tryd.ntmps62
  go_wp2_with (go_at_call 79; refine (indexN A c l _ hr hc).mono ?_; rintro e w' ⟨r, rfl, h1, h2, rfl⟩)
  go_ret
  refine ⟨?_, rfl⟩
  congr 2
  cases hf : l.all fin with
  | true =>
    have := h2.2 hf
    subst this
    rfl
  | false =>
    have : r ≠ -1 := fun e => by have := h2.1 e; rw [hf] at this; cases this
    have h3 : 0 ≤ r := by omega
    simp [h3]
/-- Whether all of a list may be, in order. -/
def kidsF (G : S26 → Option Bool) : List S26 → Option Bool
  | [] => some true
  | x :: r => (G x).bind fun b => if b = true then kidsF G r else some false
theorem kids_step (G : S26 → Option Bool) (l : List S26) (i : Int) (h0 : 0 ≤ i) (h1 : i < (l.length : Int)) : kidsF G (l.drop i.toNat) = (G (rd_T26 l i)).bind fun b => if b = true then kidsF G (l.drop (i + 1).toNat) else some false := by
  have e : (i + 1).toNat = i.toNat + 1 := by omega
  have hl : i.toNat < l.length := by omega
  rw [List.drop_eq_getElem_cons hl, kidsF, e]
  unfold rd_T26
  rw [List.getD_eq_getElem?_getD, List.getElem?_eq_getElem hl]
  rfl
/-- What is known of may at the kids of a schedule. -/
def Knows (G : S26 → Option Bool) : Prop := ∀ (x : S26) (A1 : Option Addr) (c1 : Nat) (A2 : Option Addr) (c2 : Nat) (A3 : Option Addr) (c3 : Nat) (r : Bool) (W : World), Kd.C (Kd.int .u32) W A1 x.f1.length x.f1 → x.f1.length ≤ c1 → Kd.C (Kd.int .i64) W A2 x.f2.length x.f2 → x.f2.length ≤ c2 → Kd.C k26 W A3 x.f3.length x.f3 → x.f3.length ≤ c3 → G x = some r →
  Calls Tryd.prog 34 #[.agg #[.int .i64 x.f0, .slice A1 x.f1.length c1, .slice A2 x.f2.length c2, .slice A3 x.f3.length c3]] W fun e W' => e = .returned (.bool r) ∧ Below W.heap.size W W'
set_option maxHeartbeats 8000000 in
set_option maxRecDepth 100000 in
theorem may2 (op : Int) (v1 v2 v3 : Value) (r : Bool) (w : World) (h : ∀ W, Below w.heap.size w W → Calls Tryd.prog 34 #[.agg #[.int .i64 op, v1, v2, v3]] W fun e w' => e = .returned (.bool r) ∧ Below W.heap.size W w') : Calls Tryd.prog 67 #[.agg #[.int .i64 op, v1, v2, v3]] w fun e w' => e = .returned (.bool (!r)) ∧ Below w.heap.size w w' := by
  go_enter Tryd.func67, Tryd.ntmps67
  go_wp2_with (go_at_call 34; refine (h _ (below_alloc (Below.refl _ _) _)).mono ?_; rintro e w' ⟨rfl, hb⟩)
  go_ret
  exact ⟨rfl, below_then (below_alloc (Below.refl _ _) _) (below_alloc (Below.refl _ _) _).size hb⟩
set_option maxHeartbeats 8000000 in
set_option maxRecDepth 100000 in
theorem indexK (G : S26 → Option Bool) (hG : Knows G) (A : Option Addr) (c : Nat) (l : List S26) (b : Bool) (w : World) (hr : Kd.C k26 w A l.length l) (hc : l.length ≤ c) (h : kidsF G l = some b) : Calls Tryd.prog 84 #[.slice A l.length c, .func (.func 67) #[] #[]] w fun e w' => ∃ r : Int, e = .returned (.int .i64 r) ∧ -1 ≤ r ∧ (r = -1 ↔ b = true) ∧ Below w.heap.size w w' := by
  have HL := Aside0.mk (show l.length ≤ 9223372036854775807 from hr.2.1)
  have HR := Aside0.mk hr
  have HG := Aside0.mk hG
  have HK0 := Aside0.mk h
  clear hr hc hG h
  go_enter Tryd.func84, Tryd.ntmps84
  go_wp2
  go_loopg [8] (l.length + 1) (fun kq v8 w' => ∃ x8 : Int, v8 = .int .i64 x8 ∧ Aside0 (0 ≤ x8 ∧ x8 ≤ (l.length : Int) ∧ x8 + (kq : Int) = (l.length : Int) + 1) ∧ Aside0 (kidsF G (l.drop x8.toNat) = some b) ∧ Aside0 (Below w.heap.size w w'))
  case atStart => exact ⟨0, rfl, ⟨by omega, by omega, by omega⟩, HK0, ⟨Below.refl _ _⟩⟩
  case round =>
    clear HK0
    obtain ⟨x8, rfl, HX, HA, HB⟩ := hrel
    cases gk with
    | zero => exact absurd HX.out (by omega)
    | succ k1 =>
      by_cases c2 : x8 < (l.length : Int)
      · have c2b : decide (x8 < (l.length : Int)) = true := decide_eq_true c2
        have p : 0 ≤ x8 := HX.out.1
        obtain ⟨ad, A1, c1, A2, c2', A3, c3, ea, hx0, hx1, hx2, hx3, l1, g1, l2, g2, l3, g3⟩ := at_T26 HR.out x8 p c2
        cases ea
        replace hx0 := (HB.out.cell (World.block_lt_of_cell? w _ hx0)).trans hx0
        replace hx1 := (HB.out.cell (World.block_lt_of_cell? w _ hx1)).trans hx1
        replace hx2 := (HB.out.cell (World.block_lt_of_cell? w _ hx2)).trans hx2
        replace hx3 := (HB.out.cell (World.block_lt_of_cell? w _ hx3)).trans hx3
        have HS := HA.out
        rw [kids_step G l x8 p c2] at HS
        obtain ⟨r, hr, HS⟩ := Option.bind_eq_some_iff.1 HS
        have may : ∀ W, Below w.heap.size w W → Calls Tryd.prog 34 #[.agg #[.int .i64 (rd_T26 l x8).f0, .slice A1 (rd_T26 l x8).f1.length c1, .slice A2 (rd_T26 l x8).f2.length c2', .slice A3 (rd_T26 l x8).f3.length c3]] W fun e W' => e = .returned (.bool r) ∧ Below W.heap.size W W' :=
          fun W hW => HG.out _ A1 c1 A2 c2' A3 c3 r W (Kd.C_below g1 hW) l1 (Kd.C_below g2 hW) l2 (Kd.C_below g3 hW) l3 hr
        have HM := Aside0.mk may
        have HP := Aside0.mk p
        have HC2 := Aside0.mk c2
        have q := eq_true c2
        clear c2 may l1 g1 l2 g2 l3 g3 hr HA
        replace p := eq_true p
        cases r with
        | true =>
          have HS' : Aside0 (kidsF G (l.drop (x8 + 1).toNat) = some b) := ⟨by rw [if_pos rfl] at HS; exact HS⟩
          clear HS
          go_wp2_with (go_at_call 67; refine (may2 _ _ _ _ true _ (fun W hW => HM.out W (below_then HB.out HB.out.size hW))).mono ?_; rintro e w' ⟨rfl, hb⟩; have HB' := Aside0.mk (below_then HB.out HB.out.size hb); clear hb)
          go_roundg k1
          case measure => omega
          case rel => exact ⟨x8 + 1, by have := HC2.out; have := HP.out; have := HL.out; rw [show wrap64 (x8 + 1) = x8 + 1 by unfold wrap64; omega], ⟨by have := HX.out; have := HC2.out; omega⟩, HS', HB'⟩
        | false =>
          have HS' : Aside0 (b = false) := ⟨by rw [if_neg (by decide)] at HS; exact (Option.some.inj HS).symm⟩
          clear HS
          go_wp2_with (go_at_call 67; refine (may2 _ _ _ _ false _ (fun W hW => HM.out W (below_then HB.out HB.out.size hW))).mono ?_; rintro e w' ⟨rfl, hb⟩; have HB' := Aside0.mk (below_then HB.out HB.out.size hb); clear hb)
          go_ret
          exact ⟨x8, rfl, by have := HP.out; omega, by rw [HS'.out]; exact ⟨fun h => absurd h (by have := HP.out; omega), fun h => absurd h (by decide)⟩, HB'.out⟩
      · have c2b : decide (x8 < (l.length : Int)) = false := decide_eq_false c2
        obtain rfl : x8 = (l.length : Int) := by have := HX.out; omega
        clear c2
        have HA' : Aside0 (b = true) := ⟨by have := HA.out; rw [Int.toNat_natCast, List.drop_length] at this; exact (Option.some.inj this).symm⟩
        go_wp2
        go_ret
        exact ⟨-1, rfl, by omega, ⟨fun _ => HA'.out, fun _ => rfl⟩, HB.out⟩
set_option maxHeartbeats 8000000 in
set_option maxRecDepth 100000 in
theorem containsK (G : S26 → Option Bool) (hG : Knows G) (A : Option Addr) (c : Nat) (l : List S26) (b : Bool) (w : World) (hr : Kd.C k26 w A l.length l) (hc : l.length ≤ c) (h : kidsF G l = some b) : Calls Tryd.prog 66 #[.slice A l.length c, .func (.func 67) #[] #[]] w fun e w' => e = .returned (.bool (!b)) ∧ Below w.heap.size w w' := by
  go_enter Tryd.func66, Tryd.ntmps66
  go_wp2_with (go_at_call 84; refine (indexK G hG A c l b _ hr hc h).mono ?_; rintro e w' ⟨r, rfl, h1, h2, hb⟩)
  go_ret
  refine ⟨?_, hb⟩
  congr 2
  cases b with
  | true =>
    have := h2.2 rfl
    subst this
    rfl
  | false =>
    have : r ≠ -1 := fun e => by have := h2.1 e; cases this
    have h3 : 0 ≤ r := by omega
    simp [h3]
set_option maxHeartbeats 8000000 in
set_option maxRecDepth 100000 in
theorem may_walk (G : S26 → Option Bool) (hG : Knows G) (k : Nat) (op : Int) (A1 : Option Addr) (c1 : Nat) (l1 : List Int) (A2 : Option Addr) (c2 : Nat) (l2 : List Int) (A3 : Option Addr) (c3 : Nat) (l3 : List S26) (r : Bool) (w : World) (hr1 : Kd.C (Kd.int .u32) w A1 l1.length l1) (hc1 : l1.length ≤ c1) (hr2 : Kd.C (Kd.int .i64) w A2 l2.length l2) (hc2 : l2.length ≤ c2) (hr3 : Kd.C k26 w A3 l3.length l3) (hc3 : l3.length ≤ c3) (hs : l2.length ≤ 9223372036854775806)
    (h : (if l1.all fin = true then ((rowO k op l1 l2 l3.length).bind fun b => if b = true then kidsF G l3 else some false) else some false) = some r) :
    Calls Tryd.prog 34 #[.agg #[.int .i64 op, .slice A1 l1.length c1, .slice A2 l2.length c2, .slice A3 l3.length c3]] w fun e w' => e = .returned (.bool r) ∧ Below w.heap.size w w' := by
  have hmf : ∀ (fn : Fn) (first cap : Array Value) (w : World), (Instr.makeFunc fn first cap).run Tryd.prog w = .ok (.func fn first cap) w := fun _ _ _ _ => rfl
  have hn := fun W (hW : Kd.C (Kd.int .u32) W A1 l1.length l1) => containsN A1 c1 l1 W hW hc1
  cases hf : l1.all fin with
  | false =>
    rw [hf, if_neg (by decide)] at h
    obtain rfl := Option.some.inj h
    rw [hf] at hn
    have HN := Aside0.mk hn
    have HR1 := Aside0.mk hr1
    clear hn hr1 hr2 hr3 h hf
    go_enter Tryd.func34, Tryd.ntmps34
    go_wp2_with (go_at_call 62; refine (HN.out _ (Kd.C_alloc HR1.out _)).mono ?_; rintro e w' ⟨rfl, rfl⟩)
    go_ret
    exact ⟨rfl, below_alloc (Below.refl _ _) _⟩
  | true =>
    rw [hf, if_pos rfl] at h
    rw [hf] at hn
    obtain ⟨b, hb, h⟩ := Option.bind_eq_some_iff.1 h
    have hrow := fun W (h1 : Kd.C (Kd.int .u32) W A1 l1.length l1) (h2 : Kd.C (Kd.int .i64) W A2 l2.length l2) => row_any k op A1 A2 A3 l3.length c1 c2 c3 l1 l2 b W h1 h2 hc2 hs hb
    have HN := Aside0.mk hn
    have HR1 := Aside0.mk hr1
    have HR2 := Aside0.mk hr2
    have HR3 := Aside0.mk hr3
    have HRW := Aside0.mk hrow
    have HG := Aside0.mk hG
    have HC3 := Aside0.mk hc3
    clear hn hr1 hr2 hr3 hf hb hrow hG hs hc1 hc2 hc3
    cases b with
    | false =>
      rw [if_neg (by decide)] at h
      obtain rfl := Option.some.inj h
      clear h
      go_enter Tryd.func34, Tryd.ntmps34
      go_wp2_with first
        | (go_at_call 62; refine (HN.out _ (Kd.C_alloc HR1.out _)).mono ?_; rintro e w' ⟨rfl, rfl⟩)
        | (go_at_call 65; refine (HRW.out _ (Kd.C_alloc HR1.out _) (Kd.C_alloc HR2.out _)).mono ?_; rintro e w' ⟨rfl, hB⟩)
      go_ret
      exact ⟨rfl, below_then (below_alloc (Below.refl _ _) _) (below_alloc (Below.refl _ _) _).size hB⟩
    | true =>
      rw [if_pos rfl] at h
      have HK := Aside0.mk h
      clear h
      go_enter Tryd.func34, Tryd.ntmps34
      go_wp2_with first
        | (go_at_call 62; refine (HN.out _ (Kd.C_alloc HR1.out _)).mono ?_; rintro e w' ⟨rfl, rfl⟩)
        | (go_at_call 65; refine (HRW.out _ (Kd.C_alloc HR1.out _) (Kd.C_alloc HR2.out _)).mono ?_; rintro e w' ⟨rfl, hB⟩; have hk : w'.cell? ⟨w.heap.size, 3, none⟩ = some (.slice A3 l3.length c3) := (hB.cell (by simp [World.alloc_eq])).trans (by go_simp); have HB := Aside0.mk (below_then (below_alloc (Below.refl w.heap.size w) _) (below_alloc (Below.refl _ _) _).size hB); clear hB)
        | (go_at_call 66; refine (containsK G HG.out A3 c3 l3 r _ (Kd.C_below HR3.out HB.out) HC3.out HK.out).mono ?_; rintro e w' ⟨rfl, hB2⟩)
      go_ret
      exact ⟨by cases r <;> rfl, below_then HB.out HB.out.size hB2⟩
/-- What may answers, with fuel. -/
def mayF : Nat → Int → List Int → List Int → List S26 → Option Bool
  | 0, _, _, _, _ => none
  | k + 1, op, l1, l2, l3 => if l2.length ≤ 9223372036854775806 then (if l1.all fin = true then ((rowO k op l1 l2 l3.length).bind fun b => if b = true then kidsF (fun x => mayF k x.f0 x.f1 x.f2 x.f3) l3 else some false) else some false) else none
theorem may_any : ∀ (k : Nat) (op : Int) (A1 : Option Addr) (c1 : Nat) (l1 : List Int) (A2 : Option Addr) (c2 : Nat) (l2 : List Int) (A3 : Option Addr) (c3 : Nat) (l3 : List S26) (r : Bool) (w : World), Kd.C (Kd.int .u32) w A1 l1.length l1 → l1.length ≤ c1 → Kd.C (Kd.int .i64) w A2 l2.length l2 → l2.length ≤ c2 → Kd.C k26 w A3 l3.length l3 → l3.length ≤ c3 → mayF k op l1 l2 l3 = some r →
    Calls Tryd.prog 34 #[.agg #[.int .i64 op, .slice A1 l1.length c1, .slice A2 l2.length c2, .slice A3 l3.length c3]] w fun e w' => e = .returned (.bool r) ∧ Below w.heap.size w w'
  | 0, _, _, _, _, _, _, _, _, _, _, _, _, _, _, _, _, _, _, h => by simp [mayF] at h
  | k + 1, op, A1, c1, l1, A2, c2, l2, A3, c3, l3, r, w, hr1, hc1, hr2, hc2, hr3, hc3, h => by
    have hG : Knows (fun x => mayF k x.f0 x.f1 x.f2 x.f3) := fun x A1 c1 A2 c2 A3 c3 r W h1 h1' h2 h2' h3 h3' h => may_any k x.f0 A1 c1 x.f1 A2 c2 x.f2 A3 c3 x.f3 r W h1 h1' h2 h2' h3 h3' h
    rw [mayF] at h
    by_cases hs : l2.length ≤ 9223372036854775806
    · rw [if_pos hs] at h
      exact may_walk _ hG k op A1 c1 l1 A2 c2 l2 A3 c3 l3 r w hr1 hc1 hr2 hc2 hr3 hc3 hs h
    · rw [if_neg hs] at h
      cases h
theorem row_mono (k : Nat) (op : Int) (l1 l2 : List Int) (n3 : Nat) : LeO (rowO k op l1 l2 n3) (rowO (k + 1) op l1 l2 n3) := by
  unfold rowO
  repeat' first
    | exact LeO.refl _
    | exact LeO.map _ (sched_rising.mono _ _)
    | refine LeO.ite ?_ ?_
theorem kids_mono {G G' : S26 → Option Bool} (h : ∀ x, LeO (G x) (G' x)) : ∀ l, LeO (kidsF G l) (kidsF G' l)
  | [] => LeO.refl _
  | x :: r => LeO.bind (h x) (fun b => LeO.ite (kids_mono h r) (LeO.refl _))
theorem may_mono : ∀ (k : Nat) (op : Int) (l1 l2 : List Int) (l3 : List S26), LeO (mayF k op l1 l2 l3) (mayF (k + 1) op l1 l2 l3)
  | 0, _, _, _, _ => fun r h => by simp [mayF] at h
  | k + 1, op, l1, l2, l3 => by
    rw [mayF, mayF]
    exact LeO.ite (LeO.ite (LeO.bind (row_mono k op l1 l2 _) (fun b => LeO.ite (kids_mono (fun x => may_mono k x.f0 x.f1 x.f2 x.f3) l3) (LeO.refl _))) (LeO.refl _)) (LeO.refl _)
end Go.Proofs.YtmfladkimmnccaaDoor.Mag
