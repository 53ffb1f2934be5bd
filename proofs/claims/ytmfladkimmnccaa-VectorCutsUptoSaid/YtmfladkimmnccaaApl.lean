/- What vector.Apply answers, at every operation and all lists. Condition: memory says the lists. -/
import Derived.Test.YtmfladkimmnccaaKer
set_option linter.unusedVariables false
set_option linter.unusedSimpArgs false
namespace Go.Proofs.Ytmfladkimmnccaa.Apl
open Go.RowKit Lathe Go.Proofs.YtmfladkimmnccaaW.PrintWords Go.Proofs.YtmfladkimmnccaaW.PrintMore Go.Proofs.YtmfladkimmnccaaW.PrintLast Go.Proofs.Ytmfladkimmnccaa.Flo Go.Proofs.Ytmfladkimmnccaa.Sur Go.Proofs.Ytmfladkimmnccaa.Ker

/-- The size that the lists tell. -/
def szs (l : List (List Int)) : Int := l.foldl (fun s a => if (a.length : Int) = 1 then s else (a.length : Int)) 1
theorem szs_nil : szs [] = 1 := rfl
theorem szs_snoc (l : List (List Int)) (a : List Int) : szs (l ++ [a]) = if (a.length : Int) = 1 then szs l else (a.length : Int) := by
  unfold szs
  rw [List.foldl_append]
  rfl
theorem take_snoc (l : List (List Int)) (i : Int) (h0 : 0 ≤ i) (h1 : i < (l.length : Int)) : l.take (i + 1).toNat = l.take i.toNat ++ [rows l i] := by
  have e : (i + 1).toNat = i.toNat + 1 := by omega
  have hl : i.toNat < l.length := by omega
  rw [e, List.take_add_one, List.getElem?_eq_getElem hl]
  unfold rows
  rw [List.getD_eq_getElem?_getD, List.getElem?_eq_getElem hl]
  rfl
def fits (s : Int) (a : List Int) : Prop := (a.length : Int) = s ∨ ((a.length : Int) = 1 ∧ s ≠ 0)
/-- An element of the array that the function value is called with. -/
def el (l : List (List Int)) (i j : Int) : Int := rd (rows l j) (i.tmod ((rows l j).length : Int))
def xk (l : List (List Int)) (i n j : Int) : Int := if j < n then el l i j else 0
theorem szs_nonneg (l : List (List Int)) : 0 ≤ szs l := by
  have key : ∀ (l : List (List Int)) (s : Int), 0 ≤ s → 0 ≤ l.foldl (fun s a => if (a.length : Int) = 1 then s else (a.length : Int)) s := by
    intro l
    induction l with
    | nil => intro s h; exact h
    | cons a l ih => intro s h; rw [List.foldl_cons]; exact ih _ (by split <;> omega)
  exact key l 1 (by decide)
theorem fits_pos {s x : Int} {a : List Int} (h : fits s a) (h0 : 0 ≤ x) (h1 : x < s) : 0 < (a.length : Int) := by
  rcases h with h | ⟨h, _⟩ <;> omega
theorem za0 (a : Addr) : a.add 0 = a := by simp [Addr.add]
theorem za1 (a : Addr) : a.add 1 = ⟨a.block, a.off + 1, none⟩ := by simp [Addr.add]
theorem za2 (a : Addr) : a.add 2 = ⟨a.block, a.off + 2, none⟩ := by simp [Addr.add]
def outs (op : Int) (l : List (List Int)) : Nat → List Int
  | 0 => []
  | i + 1 => outs op l i ++ [doF op (xk l (i : Int) (l.length : Int) 0) (xk l (i : Int) (l.length : Int) 1) (xk l (i : Int) (l.length : Int) 2)]
theorem outs_length (op : Int) (l : List (List Int)) (n : Nat) : (outs op l n).length = n := by
  induction n with
  | zero => rfl
  | succ n ih => rw [outs, List.length_append, ih]; rfl
theorem outs_snoc (op : Int) (l : List (List Int)) (x : Int) (h : 0 ≤ x) : outs op l (x + 1).toNat = outs op l x.toNat ++ [doF op (xk l x (l.length : Int) 0) (xk l x (l.length : Int) 1) (xk l x (l.length : Int) 2)] := by
  have e : (x + 1).toNat = x.toNat + 1 := by omega
  have e2 : ((x.toNat : Nat) : Int) = x := by omega
  rw [e, outs, e2]
set_option maxHeartbeats 8000000 in
set_option maxRecDepth 100000 in
theorem Apply (op : Int) (A1 : Option Addr) (c1 : Nat) (l1 : List (List Int)) (w : World) (hr1 : Kd.C (Kd.slice 52 (Kd.int .u32)) w A1 l1.length l1) (hc1 : l1.length ≤ c1) (hop : ar op ≠ 0) (hn : ar op = l1.length) (h3 : l1.length ≤ 3) (hm : szs l1 ≤ 1048576) : Calls Try.prog 24 #[.int .i64 op, .slice A1 l1.length c1] w fun e w' => ∃ (v0_ : Value) (xs : List Int) (c : Int), e = .returned (.tuple #[v0_, .int .i64 c]) ∧ Kd.R (Kd.int .u32) 52 w' w.heap.size (fun _ => True) v0_ xs ∧ (((∀ i : Int, 0 ≤ i → i < (l1.length : Int) → fits (szs l1) (rows l1 i)) ∧ c = 0 ∧ xs = outs op l1 (szs l1).toNat) ∨ ((∃ i : Int, 0 ≤ i ∧ i < (l1.length : Int) ∧ ¬ fits (szs l1) (rows l1 i)) ∧ c = 50 ∧ xs = [])) ∧ Below w.heap.size w w' := by
  have c0 : ((l1.length : Int) == 0) = false := beq_eq_false_iff_ne.mpr (by omega)
  have ker := kernel op hop
  rw [hn] at ker
  clear hn hop
  have HR := Aside0.mk hr1
  have H3 := Aside0.mk h3
  have HM := Aside0.mk hm
  clear hr1 h3 hc1 hm
  go_enter Try.func24, Try.ntmps24
  go_wp2_with (go_at_call 66; refine (ker _).mono ?_; rintro e w1 ⟨n, cap, rfl, hb0, hdo, hen⟩)
  clear ker
  have HEN := Aside0.mk hen
  clear hen
  have HB0 := Aside0.mk hb0
  have HDO := Aside0.mk hdo
  clear hb0 hdo
  go_loopg [8, 33] (l1.length + 1) (fun kq v8 v33 w' => ∃ x8 x33 : Int, v8 = .int .i64 x8 ∧ v33 = .int .i64 x33 ∧ Aside0 (0 ≤ x33 ∧ x33 ≤ (l1.length : Int) ∧ x33 + (kq : Int) = (l1.length : Int) + 1) ∧ Aside0 (x8 = szs (l1.take x33.toNat)) ∧ Drawn0 w1 w')
  case atStart => exact ⟨1, 0, rfl, rfl, ⟨by omega, by omega, by omega⟩, ⟨rfl⟩, Drawn0.refl _⟩
  case round =>
    obtain ⟨x8, x33, rfl, rfl, HX, HS, ⟨m1, rfl⟩⟩ := hrel
    cases gk with
    | zero => exact absurd HX.out (by omega)
    | succ k1 =>
      by_cases c2 : x33 < (l1.length : Int)
      · have c2b : decide (x33 < (l1.length : Int)) = true := decide_eq_true c2
        have p : 0 ≤ x33 := HX.out.1
        obtain ⟨ad, A0, e0, ea, hx, hl, hi⟩ := at_rows HR.out x33 p c2
        cases ea
        replace hx := (HB0.out.cell (World.block_lt_of_cell? w _ hx)).trans hx
        have HSN := Aside0.mk (take_snoc l1 x33 p c2)
        have HC2 := Aside0.mk c2
        have HP := Aside0.mk p
        have q := eq_true c2
        clear hl hi c2
        replace p := eq_true p
        by_cases c3 : ((rows l1 x33).length : Int) = 1
        · have c3b : (((rows l1 x33).length : Int) != 1) = false := bne_eq_false_iff_eq.mpr c3
          have HC3 := Aside0.mk c3
          clear c3
          go_wp2
          go_roundg k1
          case measure => omega
          case rel => exact ⟨x8, x33 + 1, rfl, by have := HC2.out; have := H3.out; have := HP.out; rw [show wrap64 (x33 + 1) = x33 + 1 by unfold wrap64; omega], ⟨by have := HX.out; have := HC2.out; omega⟩, ⟨by rw [HSN.out, szs_snoc, if_pos HC3.out, HS.out]⟩, by repeat (first | exact Drawn0.refl _ | apply Drawn0.step)⟩
        · have c3b : (((rows l1 x33).length : Int) != 1) = true := bne_iff_ne.mpr c3
          have HC3 := Aside0.mk c3
          clear c3
          go_wp2
          go_roundg k1
          case measure => omega
          case rel => exact ⟨((rows l1 x33).length : Int), x33 + 1, rfl, by have := HC2.out; have := H3.out; have := HP.out; rw [show wrap64 (x33 + 1) = x33 + 1 by unfold wrap64; omega], ⟨by have := HX.out; have := HC2.out; omega⟩, ⟨by rw [HSN.out, szs_snoc, if_neg HC3.out]⟩, by repeat (first | exact Drawn0.refl _ | apply Drawn0.step)⟩
      · have c2b : decide (x33 < (l1.length : Int)) = false := decide_eq_false c2
        obtain rfl : x33 = (l1.length : Int) := by have := HX.out; omega
        replace HS : x8 = szs l1 := by rw [HS.out, Int.toNat_natCast, List.take_length]
        have HZ := Aside0.mk HS
        clear HS c2 HX
        go_wp2
        go_loopg [45] (l1.length + 1) (fun kq v45 w' => ∃ x45 : Int, v45 = .int .i64 x45 ∧ Aside0 (0 ≤ x45 ∧ x45 ≤ (l1.length : Int) ∧ x45 + (kq : Int) = (l1.length : Int) + 1) ∧ Aside0 (∀ i : Int, 0 ≤ i → i < x45 → fits (szs l1) (rows l1 i)) ∧ Drawn0 w1 w')
        case atStart => exact ⟨0, rfl, ⟨by omega, by omega, by omega⟩, ⟨fun i h0 h1 => absurd h1 (by omega)⟩, by repeat (first | exact Drawn0.refl _ | apply Drawn0.step)⟩
        case round =>
          obtain ⟨x45, rfl, HX, HF, ⟨m2, rfl⟩⟩ := hrel
          cases gk with
          | zero => exact absurd HX.out (by omega)
          | succ k2 =>
            by_cases c2 : x45 < (l1.length : Int)
            · have c2b : decide (x45 < (l1.length : Int)) = true := decide_eq_true c2
              have p : 0 ≤ x45 := HX.out.1
              obtain ⟨ad, A0, e0, ea, hx, hl, hi⟩ := at_rows HR.out x45 p c2
              cases ea
              replace hx := (HB0.out.cell (World.block_lt_of_cell? w _ hx)).trans hx
              have HC2 := Aside0.mk c2
              have HP := Aside0.mk p
              have q := eq_true c2
              clear hl hi c2
              replace p := eq_true p
              by_cases c3 : ((rows l1 x45).length : Int) = x8
              · have c3b : (((rows l1 x45).length : Int) != x8) = false := bne_eq_false_iff_eq.mpr c3
                have HC3 := Aside0.mk c3
                clear c3
                go_wp2
                go_roundg k2
                case measure => omega
                case rel => exact ⟨x45 + 1, by have := HC2.out; have := H3.out; have := HP.out; rw [show wrap64 (x45 + 1) = x45 + 1 by unfold wrap64; omega], ⟨by have := HX.out; have := HC2.out; omega⟩, ⟨fun i h0 h1 => by
                  by_cases hi : i < x45
                  · exact HF.out i h0 hi
                  · obtain rfl : i = x45 := by omega
                    exact .inl (HC3.out.trans HZ.out)⟩, by repeat (first | exact Drawn0.refl _ | apply Drawn0.step)⟩
              · have c3b : (((rows l1 x45).length : Int) != x8) = true := bne_iff_ne.mpr c3
                have HC3 := Aside0.mk c3
                clear c3
                by_cases c4 : ((rows l1 x45).length : Int) = 1
                · have c4b : (((rows l1 x45).length : Int) != 1) = false := bne_eq_false_iff_eq.mpr c4
                  have HC4 := Aside0.mk c4
                  clear c4
                  by_cases c5 : x8 = 0
                  · have c5b : (x8 == 0) = true := beq_iff_eq.mpr c5
                    have HC5 := Aside0.mk c5
                    clear c5
                    go_wp2
                    exact bodyPost_ret (v := .tuple #[.slice none 0 0, .int .i64 50]) (by simp [results, Try.results24, go_sem]) rfl ⟨_, [], 50, rfl, Kd.R_nil _ _ _ _ _, .inr ⟨⟨x45, HP.out, HC2.out, fun hf => hf.elim (fun h => HC3.out (h.trans HZ.out.symm)) (fun h => h.2 (HZ.out.symm.trans HC5.out))⟩, rfl, rfl⟩, by repeat (first | exact HB0.out | apply pw_below_drewN)⟩
                  · have c5b : (x8 == 0) = false := beq_eq_false_iff_ne.mpr c5
                    have HC5 := Aside0.mk c5
                    clear c5
                    go_wp2
                    go_roundg k2
                    case measure => omega
                    case rel => exact ⟨x45 + 1, by have := HC2.out; have := H3.out; have := HP.out; rw [show wrap64 (x45 + 1) = x45 + 1 by unfold wrap64; omega], ⟨by have := HX.out; have := HC2.out; omega⟩, ⟨fun i h0 h1 => by
                      by_cases hi : i < x45
                      · exact HF.out i h0 hi
                      · obtain rfl : i = x45 := by omega
                        exact .inr ⟨HC4.out, by rw [← HZ.out]; exact HC5.out⟩⟩, by repeat (first | exact Drawn0.refl _ | apply Drawn0.step)⟩
                · have c4b : (((rows l1 x45).length : Int) != 1) = true := bne_iff_ne.mpr c4
                  have HC4 := Aside0.mk c4
                  clear c4
                  go_wp2
                  exact bodyPost_ret (v := .tuple #[.slice none 0 0, .int .i64 50]) (by simp [results, Try.results24, go_sem]) rfl ⟨_, [], 50, rfl, Kd.R_nil _ _ _ _ _, .inr ⟨⟨x45, HP.out, HC2.out, fun hf => hf.elim (fun h => HC3.out (h.trans HZ.out.symm)) (fun h => HC4.out h.1)⟩, rfl, rfl⟩, by repeat (first | exact HB0.out | apply pw_below_drewN)⟩
            · have c2b : decide (x45 < (l1.length : Int)) = false := decide_eq_false c2
              obtain rfl : x45 = (l1.length : Int) := by have := HX.out; omega
              clear c2 HX
              have HB1 : Below w1.heap.size w1 (w1.drewN m2) := pw_below_drewN (Below.refl _ _) _
              go_wp2
              generalize w1.drewN m2 = w2 at HB1 ⊢
              have HBS := Aside0.mk HB1
              clear HB1
              obtain ⟨SN, hSN⟩ : ∃ k : Nat, x8 = (k : Int) := ⟨x8.toNat, by have := szs_nonneg l1; have := HZ.out; omega⟩
              have HSN := Aside0.mk hSN
              clear hSN
              go_loopg [13, 64] (SN + 1) (fun kq v13 v64 w' => ∃ x64 : Int, v64 = .int .i64 x64 ∧ Aside0 (0 ≤ x64 ∧ x64 ≤ x8 ∧ x64 + (kq : Int) = x8 + 1) ∧ Aside0 (Kd.R (Kd.int .u32) 52 w' w1.heap.size (fun _ => True) v13 (outs op l1 x64.toNat)) ∧ Aside0 (Below w1.heap.size w1 w'))
              case atStart => exact ⟨0, rfl, ⟨by have := HSN.out; omega, by have := HSN.out; omega, by have := HSN.out; omega⟩, ⟨Kd.R_nil _ _ _ _ _⟩, HBS⟩
              case round =>
                obtain ⟨x64, rfl, HX, HO, HBW⟩ := hrel
                cases gk with
                | zero => exact absurd HX.out (by omega)
                | succ k3 =>
                  by_cases c2 : x64 < x8
                  · have c2b : decide (x64 < x8) = true := decide_eq_true c2
                    have HC2 := Aside0.mk c2
                    clear c2
                    go_wp2
                    go_loopg [69] (l1.length + 1) (fun kq v69 w' => ∃ x69 : Int, v69 = .int .i64 x69 ∧ Aside0 (0 ≤ x69 ∧ x69 ≤ (l1.length : Int) ∧ x69 + (kq : Int) = (l1.length : Int) + 1) ∧ w' = wr.alloc (.cells #[.int .u32 (xk l1 x64 x69 0), .int .u32 (xk l1 x64 x69 1), .int .u32 (xk l1 x64 x69 2)] 90))
                    case atStart => exact ⟨0, rfl, ⟨by omega, by omega, by omega⟩, rfl⟩
                    case round =>
                      obtain ⟨x69, rfl, HY, rfl⟩ := hrel
                      cases gk with
                      | zero => exact absurd HY.out (by omega)
                      | succ k4 =>
                        by_cases c3 : x69 < (l1.length : Int)
                        · have c3b : decide (x69 < (l1.length : Int)) = true := decide_eq_true c3
                          have HC3 := Aside0.mk c3
                          clear c3
                          have hcs : x69 = 0 ∨ x69 = 1 ∨ x69 = 2 := by have := HY.out; have := HC3.out; have := H3.out; omega
                          rcases hcs with e0 | e1 | e2
                          · subst e0
                            have p0 : (0 : Int) ≤ 0 := by decide
                            obtain ⟨ad, A0, e0, ea, hx, hl, hi⟩ := at_rows HR.out 0 p0 HC3.out
                            cases ea
                            have hpos := fits_pos (HF.out 0 p0 HC3.out) HX.out.1 (by rw [← HZ.out]; exact HC2.out)
                            have t0 : 0 ≤ x64.tmod ((rows l1 0).length : Int) := Int.tmod_nonneg _ HX.out.1
                            have t1 : x64.tmod ((rows l1 0).length : Int) < ((rows l1 0).length : Int) := Int.tmod_lt_of_pos _ hpos
                            obtain ⟨ad2, ea, hy⟩ := Kd.at_int hi _ t0 t1
                            cases ea
                            have hw2 : Below w.heap.size w (wr.alloc (.cells #[.int .u32 (xk l1 x64 0 0), .int .u32 (xk l1 x64 0 1), .int .u32 (xk l1 x64 0 2)] 90)) := below_then HB0.out HB0.out.size (below_alloc HBW.out _)
                            replace hx := (hw2.cell (World.block_lt_of_cell? w _ hx)).trans hx
                            replace hy := (hw2.cell (World.block_lt_of_cell? w _ hy)).trans hy
                            clear hw2 hl hi
                            have hz : (rows l1 0 = []) = False := eq_false (fun he => by rw [he] at hpos; exact absurd hpos (by decide))
                            replace p0 := eq_true p0
                            replace t0 := eq_true t0
                            replace t1 := eq_true t1
                            have q0 : (0 < l1.length) = True := eq_true (by have := HC3.out; omega)
                            clear hpos
                            have hx : (wr.alloc (.cells #[.int .u32 (xk l1 x64 0 0), .int .u32 (xk l1 x64 0 1), .int .u32 (xk l1 x64 0 2)] 90)).cell? ad = some (.slice (some ad2) (rows l1 0).length e0) := by rw [← za0 ad]; exact hx
                            have BK : (wr.alloc (.cells #[.int .u32 (xk l1 x64 0 0), .int .u32 (xk l1 x64 0 1), .int .u32 (xk l1 x64 0 2)] 90)).heap[wr.heap.size]? = some (.cells #[.int .u32 (xk l1 x64 0 0), .int .u32 (xk l1 x64 0 1), .int .u32 (xk l1 x64 0 2)] 90 (0, 0)) := blk_new _ _
                            have hc0 := blk_cell BK 0
                            have hc1 := blk_cell BK 1
                            have hc2 := blk_cell BK 2
                            clear BK
                            go_wp2
                            go_roundg k4
                            case measure => omega
                            case rel => exact ⟨1, rfl, ⟨by have := HY.out; have := HC3.out; omega⟩, by simp [xk, el]⟩
                          · subst e1
                            have p0 : (0 : Int) ≤ 1 := by decide
                            obtain ⟨ad, A0, e0, ea, hx, hl, hi⟩ := at_rows HR.out 1 p0 HC3.out
                            cases ea
                            have hpos := fits_pos (HF.out 1 p0 HC3.out) HX.out.1 (by rw [← HZ.out]; exact HC2.out)
                            have t0 : 0 ≤ x64.tmod ((rows l1 1).length : Int) := Int.tmod_nonneg _ HX.out.1
                            have t1 : x64.tmod ((rows l1 1).length : Int) < ((rows l1 1).length : Int) := Int.tmod_lt_of_pos _ hpos
                            obtain ⟨ad2, ea, hy⟩ := Kd.at_int hi _ t0 t1
                            cases ea
                            have hw2 : Below w.heap.size w (wr.alloc (.cells #[.int .u32 (xk l1 x64 1 0), .int .u32 (xk l1 x64 1 1), .int .u32 (xk l1 x64 1 2)] 90)) := below_then HB0.out HB0.out.size (below_alloc HBW.out _)
                            replace hx := (hw2.cell (World.block_lt_of_cell? w _ hx)).trans hx
                            replace hy := (hw2.cell (World.block_lt_of_cell? w _ hy)).trans hy
                            clear hw2 hl hi
                            have hz : (rows l1 1 = []) = False := eq_false (fun he => by rw [he] at hpos; exact absurd hpos (by decide))
                            replace p0 := eq_true p0
                            replace t0 := eq_true t0
                            replace t1 := eq_true t1
                            have q0 := eq_true HC3.out
                            clear hpos
                            have hx : (wr.alloc (.cells #[.int .u32 (xk l1 x64 1 0), .int .u32 (xk l1 x64 1 1), .int .u32 (xk l1 x64 1 2)] 90)).cell? ⟨ad.block, ad.off + 1, none⟩ = some (.slice (some ad2) (rows l1 1).length e0) := by rw [← za1 ad]; exact hx
                            have BK : (wr.alloc (.cells #[.int .u32 (xk l1 x64 1 0), .int .u32 (xk l1 x64 1 1), .int .u32 (xk l1 x64 1 2)] 90)).heap[wr.heap.size]? = some (.cells #[.int .u32 (xk l1 x64 1 0), .int .u32 (xk l1 x64 1 1), .int .u32 (xk l1 x64 1 2)] 90 (0, 0)) := blk_new _ _
                            have hc0 := blk_cell BK 0
                            have hc1 := blk_cell BK 1
                            have hc2 := blk_cell BK 2
                            clear BK
                            go_wp2
                            go_roundg k4
                            case measure => omega
                            case rel => exact ⟨2, rfl, ⟨by have := HY.out; have := HC3.out; omega⟩, by simp [xk, el]⟩
                          · subst e2
                            have p0 : (0 : Int) ≤ 2 := by decide
                            obtain ⟨ad, A0, e0, ea, hx, hl, hi⟩ := at_rows HR.out 2 p0 HC3.out
                            cases ea
                            have hpos := fits_pos (HF.out 2 p0 HC3.out) HX.out.1 (by rw [← HZ.out]; exact HC2.out)
                            have t0 : 0 ≤ x64.tmod ((rows l1 2).length : Int) := Int.tmod_nonneg _ HX.out.1
                            have t1 : x64.tmod ((rows l1 2).length : Int) < ((rows l1 2).length : Int) := Int.tmod_lt_of_pos _ hpos
                            obtain ⟨ad2, ea, hy⟩ := Kd.at_int hi _ t0 t1
                            cases ea
                            have hw2 : Below w.heap.size w (wr.alloc (.cells #[.int .u32 (xk l1 x64 2 0), .int .u32 (xk l1 x64 2 1), .int .u32 (xk l1 x64 2 2)] 90)) := below_then HB0.out HB0.out.size (below_alloc HBW.out _)
                            replace hx := (hw2.cell (World.block_lt_of_cell? w _ hx)).trans hx
                            replace hy := (hw2.cell (World.block_lt_of_cell? w _ hy)).trans hy
                            clear hw2 hl hi
                            have hz : (rows l1 2 = []) = False := eq_false (fun he => by rw [he] at hpos; exact absurd hpos (by decide))
                            replace p0 := eq_true p0
                            replace t0 := eq_true t0
                            replace t1 := eq_true t1
                            have q0 := eq_true HC3.out
                            clear hpos
                            have hx : (wr.alloc (.cells #[.int .u32 (xk l1 x64 2 0), .int .u32 (xk l1 x64 2 1), .int .u32 (xk l1 x64 2 2)] 90)).cell? ⟨ad.block, ad.off + 2, none⟩ = some (.slice (some ad2) (rows l1 2).length e0) := by rw [← za2 ad]; exact hx
                            have BK : (wr.alloc (.cells #[.int .u32 (xk l1 x64 2 0), .int .u32 (xk l1 x64 2 1), .int .u32 (xk l1 x64 2 2)] 90)).heap[wr.heap.size]? = some (.cells #[.int .u32 (xk l1 x64 2 0), .int .u32 (xk l1 x64 2 1), .int .u32 (xk l1 x64 2 2)] 90 (0, 0)) := blk_new _ _
                            have hc0 := blk_cell BK 0
                            have hc1 := blk_cell BK 1
                            have hc2 := blk_cell BK 2
                            clear BK
                            go_wp2
                            go_roundg k4
                            case measure => omega
                            case rel => exact ⟨3, rfl, ⟨by have := HY.out; have := HC3.out; omega⟩, by simp [xk, el]⟩
                        · have c3b : decide (x69 < (l1.length : Int)) = false := decide_eq_false c3
                          have e9 : x69 = (l1.length : Int) := by have := HY.out; omega
                          subst e9
                          clear c3 HY
                          go_wp2_with (first | (rw [HEN.out, Oper.upon_enter]; refine (HDO.out _ _ _ _ (below_alloc HBW.out _)).mono ?_; rintro e wc ⟨rfl, hbc⟩; have HBz : Below w1.heap.size w1 wc := below_then (below_alloc HBW.out _) (below_alloc HBW.out _).size hbc; have HBy : Below wr.heap.size wr wc := below_then (below_alloc (Below.refl _ _) _) (below_alloc (Below.refl _ _) _).size hbc; clear hbc) | ((with_reducible refine gate_builtin (b := .append) (xs := #[.tmp 84, .tmp 88]) rfl ?_); at_builtin; refine Kd.R_append (Kd.int .u32) (w0 := w1) w1.heap.size rfl (.tmp 84) (.tmp 88) 40 52 (.int .u32 0) 4 rfl Try.underlying40 info_u32 rfl (by decide) (by omega) u13 (outs op l1 x64.toNat) (doF op (xk l1 x64 (l1.length : Int) 0) (xk l1 x64 (l1.length : Int) 1) (xk l1 x64 (l1.length : Int) 2)) [.int .u32 (doF op (xk l1 x64 (l1.length : Int) 0) (xk l1 x64 (l1.length : Int) 1) (xk l1 x64 (l1.length : Int) 2))] (fun _ => True) (fun _ => False) rfl rfl ?aP (fun _ hk => hk.elim) ?aF ?aO ?aB ?aS ?aL ?_; (case aP => exact rfl); (case aB => exact (by repeat (first | (with_reducible first | exact HBz | apply below_alloc | apply pw_below_drewN | apply below_drew1) | exact HBz))); (case aF => exact (fun _ _ => trivial)); (case aO => exact (Kd.R_below HO.out HBy)); (case aS => exact (below_size (by repeat (first | (with_reducible first | exact HBz | apply below_alloc | apply pw_below_drewN | apply below_drew1) | exact HBz)))); (case aL => have h1 := outs_length op l1 x64.toNat; have h2 := HX.out; have h3 := HZ.out; have h4 := HM.out; first | omega | (rw [h1]; omega)); intro v1 w7 ho hb hgr hat))
                          clear hgr hat HBz HBy
                          go_roundg k3
                          case measure => omega
                          case rel => exact ⟨x64 + 1, by have h2 := HX.out; have h3 := HZ.out; have h4 := HM.out; have h5 := HC2.out; rw [show wrap64 (x64 + 1) = x64 + 1 by unfold wrap64; omega], ⟨by have := HX.out; have := HC2.out; omega⟩, ⟨by rw [outs_snoc op l1 x64 HX.out.1]; exact ho⟩, ⟨hb⟩⟩
                  · have c2b : decide (x64 < x8) = false := decide_eq_false c2
                    have HC2 := Aside0.mk c2
                    clear c2
                    go_wp2
                    have hx : x64 = x8 := by have := HX.out; have := HC2.out; omega
                    exact bodyPost_ret (v := .tuple #[u13, .int .i64 0]) (by simp [results, Try.results24, go_sem]) rfl ⟨_, _, 0, rfl, Kd.R_lower HO.out HB0.out.size, .inl ⟨HF.out, rfl, by rw [hx, HZ.out]⟩, below_then HB0.out HB0.out.size HBW.out⟩
theorem Apply_none (op : Int) (A1 : Option Addr) (c1 : Nat) (l1 : List (List Int)) (w : World) (hop : ar op = 0) : Calls Try.prog 24 #[.int .i64 op, .slice A1 l1.length c1] w fun e w' => ∃ v0_ : Value, e = .returned (.tuple #[v0_, .int .i64 1]) ∧ Kd.R (Kd.int .u32) 52 w' w.heap.size (fun _ => True) v0_ [] ∧ Below w.heap.size w w' := by
  have ker := kn0 op hop
  clear hop
  go_enter Try.func24, Try.ntmps24
  go_wp2_with (go_at_call 66; refine (ker _).mono ?_; rintro e w' ⟨rfl, rfl⟩)
  exact bodyPost_ret (v := .tuple #[.slice none 0 0, .int .i64 1]) (by simp [results, Try.results24, go_sem]) rfl ⟨_, rfl, Kd.R_nil _ _ _ _ _, Below.refl _ _⟩
theorem Apply_other (op : Int) (A1 : Option Addr) (c1 : Nat) (l1 : List (List Int)) (w : World) (hop : ar op ≠ 0) (hn : ar op ≠ l1.length) : Calls Try.prog 24 #[.int .i64 op, .slice A1 l1.length c1] w fun e w' => ∃ v0_ : Value, e = .returned (.tuple #[v0_, .int .i64 1]) ∧ Kd.R (Kd.int .u32) 52 w' w.heap.size (fun _ => True) v0_ [] ∧ Below w.heap.size w w' := by
  have ker := kernel op hop
  obtain ⟨m, hm⟩ : ∃ m : Int, m = ((ar op : Nat) : Int) := ⟨_, rfl⟩
  rw [← hm] at ker
  have c0 : (m == 0) = false := beq_eq_false_iff_ne.mpr (by omega)
  have c1' : (m != (l1.length : Int)) = true := bne_iff_ne.mpr (by omega)
  clear hm hn hop
  go_enter Try.func24, Try.ntmps24
  go_wp2_with (go_at_call 66; refine (ker _).mono ?_; rintro e w1 ⟨n, cap, rfl, hb0, hdo, hen⟩)
  exact bodyPost_ret (v := .tuple #[.slice none 0 0, .int .i64 1]) (by simp [results, Try.results24, go_sem]) rfl ⟨_, rfl, Kd.R_nil _ _ _ _ _, hb0⟩
def fitb (s : Int) (a : List Int) : Bool := decide ((a.length : Int) = s) || (decide ((a.length : Int) = 1) && decide (s ≠ 0))
theorem fitb_iff (s : Int) (a : List Int) : fitb s a = true ↔ fits s a := by
  unfold fitb fits
  simp only [Bool.or_eq_true, Bool.and_eq_true, decide_eq_true_eq]
theorem all_iff (s : Int) (l : List (List Int)) : l.all (fitb s) = true ↔ ∀ i : Int, 0 ≤ i → i < (l.length : Int) → fits s (rows l i) := by
  rw [List.all_eq_true]
  constructor
  · intro h i h0 h1
    rw [← fitb_iff]
    refine h _ ?_
    unfold rows
    rw [List.getD_eq_getElem?_getD, List.getElem?_eq_getElem (by omega : i.toNat < l.length)]
    exact List.getElem_mem _
  · intro h x hx
    obtain ⟨i, hi, rfl⟩ := List.getElem_of_mem hx
    have := h (i : Int) (by omega) (by omega)
    rw [fitb_iff]
    unfold rows at this
    rwa [List.getD_eq_getElem?_getD, Int.toNat_natCast, List.getElem?_eq_getElem hi] at this
theorem ar_le (op : Int) : ar op ≤ 3 := by unfold ar; repeat (first | split | omega)
/-- What Apply answers. -/
def apF (op : Int) (l : List (List Int)) : Option (List Int × Int) := if ar op = 0 ∨ ar op ≠ l.length then some ([], 1) else if szs l ≤ 1048576 then (if l.all (fitb (szs l)) = true then some (outs op l (szs l).toNat, 0) else some ([], 50)) else none
theorem Apply_any (op : Int) (A1 : Option Addr) (c1 : Nat) (l1 : List (List Int)) (r1 : List Int) (r2 : Int) (w : World) (hr1 : Kd.C (Kd.slice 52 (Kd.int .u32)) w A1 l1.length l1) (hc1 : l1.length ≤ c1) (h : apF op l1 = some (r1, r2)) :
    Calls Try.prog 24 #[.int .i64 op, .slice A1 l1.length c1] w fun e w' => ∃ v0_ : Value, e = .returned (.tuple #[v0_, .int .i64 r2]) ∧ Kd.R (Kd.int .u32) 52 w' w.heap.size (fun _ => True) v0_ r1 ∧ Below w.heap.size w w' := by
  unfold apF at h
  by_cases c : ar op = 0 ∨ ar op ≠ l1.length
  · rw [if_pos c] at h
    simp only [Option.some.injEq, Prod.mk.injEq] at h
    obtain ⟨rfl, rfl⟩ := h
    by_cases c0 : ar op = 0
    · exact Apply_none op A1 c1 l1 w c0
    · exact Apply_other op A1 c1 l1 w c0 (by omega)
  · rw [if_neg c] at h
    by_cases c2 : szs l1 ≤ 1048576
    · rw [if_pos c2] at h
      refine (Apply op A1 c1 l1 w hr1 hc1 (by omega) (by omega) (by have := ar_le op; omega) c2).mono ?_
      rintro e w' ⟨v, xs, c, rfl, hR, hc, hB⟩
      rcases hc with ⟨hf, rfl, rfl⟩ | ⟨hf, rfl, rfl⟩
      · rw [if_pos ((all_iff _ _).2 hf)] at h
        simp only [Option.some.injEq, Prod.mk.injEq] at h
        obtain ⟨rfl, rfl⟩ := h
        exact ⟨v, rfl, hR, hB⟩
      · rw [if_neg (fun hh => by obtain ⟨i, h0, h1, h2⟩ := hf; exact h2 ((all_iff _ _).1 hh i h0 h1))] at h
        simp only [Option.some.injEq, Prod.mk.injEq] at h
        obtain ⟨rfl, rfl⟩ := h
        exact ⟨v, rfl, hR, hB⟩
    · rw [if_neg c2] at h
      cases h
end Go.Proofs.Ytmfladkimmnccaa.Apl
