/- lex.Scan: what it answers. No condition. -/
import Derived.Test.YtmfladkimmnccaaLxn
import Derived.Test.YtmfladkimmnccaaShelf
import Derived.Deep.RegionLaw
import Derived.BigRegion
import Derived.WalkMore
import Derived.ScopeJumps
set_option linter.unusedVariables false
set_option linter.unusedSimpArgs false
namespace Go.Proofs.Ytmfladkimmnccaa.Lx
open Go.RowKit Go.Proofs.YtmfladkimmnccaaW.PrintWords Go.Proofs.YtmfladkimmnccaaW.PrintMore
attribute [local go_sem ↓] Go.wp_at_zero Go.wp_at_succ

/-- As Q; by a goto to a label: what holds there. -/
def jumps (J : Nat → Act → World → Prop) (Q : Exit → Act → World → Prop) : Exit → Act → World → Prop
  | .goto l, a, w => J l a w
  | e, a, w => Q e a w
theorem wp_scope_labels {P : Program} {a : Act} {w : World} {Q : Exit → Act → World → Prop} {c Y : Code} (J : Nat → Act → World → Prop) (μ : Nat → Act → World → Nat)
    (hY : findLabel c 0 = some (.seq .skip Y))
    (pass0 : ∀ a w, J 0 a w → Y.wp P (jumps (fun l a' w' => J l a' w' ∧ μ l a' w' < μ 0 a w) Q) a w)
    (pass : ∀ l a w, l ≠ 0 → J l a w → ∃ rest, findLabel c l = some rest ∧ rest.wp P (jumps (fun l' a' w' => J l' a' w' ∧ μ l' a' w' < μ l a w) Q) a w)
    (first : (∀ a w, J 0 a w → Y.wp P (jumps J Q) a w) → c.wp P (jumps J Q) a w) : (Code.scope c).wp P Q a w := by
  have all : ∀ l a w, J l a w → ∃ rest, findLabel c l = some rest ∧ rest.wp P (jumps (fun l' a' w' => J l' a' w' ∧ μ l' a' w' < μ l a w) Q) a w := by
    intro l a w hJ
    by_cases hl : l = 0
    · subst hl
      exact ⟨_, hY, wp_seq (wp_skip (pass0 a w hJ))⟩
    · exact pass l a w hl hJ
  have weak : ∀ n e a w, jumps (fun l' a' w' => J l' a' w' ∧ μ l' a' w' < n) Q e a w → jumps J Q e a w := by
    intro n e a w h
    cases e with
    | goto l => exact h.1
    | normal => exact h
    | exit id => exact h
    | ret => exact h
    | panic ch => exact h
    | outgrown => exact h
  intro b k cs
  have key : ∀ n l a w rest, μ l a w = n → J l a w → findLabel c l = some rest → ∃ e a' w', Q e a' w' ∧ Arrives P (lone (b.at a (.code rest :: .inScope c :: k)) cs w) b k cs e a' w' := by
    intro n
    induction n using Nat.strongRecOn with
    | _ n ih =>
      intro l a w rest hn hJ hrest
      obtain ⟨rest', hr', hwp⟩ := all l a w hJ
      obtain rfl : rest' = rest := Option.some.inj (hr'.symm.trans hrest)
      obtain ⟨e, a₁, w₁, hq, harr⟩ := hwp b (.inScope c :: k) cs
      cases e with
      | normal => exact ⟨.normal, a₁, w₁, hq, Steps.trans harr (.one step_inScope)⟩
      | exit id => exact ⟨.exit id, a₁, w₁, hq, fun k' hk => harr k' (by simp [exitTo, hk])⟩
      | goto l' =>
        obtain ⟨hJ', hlt⟩ := hq
        obtain ⟨r2, hr2, _⟩ := all l' a₁ w₁ hJ'
        have hg : gotoIn l' (.inScope c :: k) = some (.code r2 :: .inScope c :: k) := by simp [gotoIn, hr2]
        obtain ⟨e₂, a₂, w₂, hq₂, harr₂⟩ := ih _ (by omega) l' a₁ w₁ r2 rfl hJ' hr2
        exact ⟨e₂, a₂, w₂, hq₂, .of_steps (harr _ hg) harr₂⟩
      | ret => exact ⟨_, a₁, w₁, hq, harr⟩
      | panic ch => exact ⟨_, a₁, w₁, hq, harr⟩
      | outgrown => exact ⟨_, a₁, w₁, hq, harr⟩
  obtain ⟨e, a₁, w₁, hq, harr⟩ := first (fun a w hJ => wp_mono (pass0 a w hJ) (weak _)) b (.inScope c :: k) cs
  cases e with
  | normal => exact ⟨.normal, a₁, w₁, hq, .head step_scope (Steps.trans harr (.one step_inScope))⟩
  | exit id => exact ⟨.exit id, a₁, w₁, hq, fun k' hk => .head step_scope (harr k' (by simp [exitTo, hk]))⟩
  | goto l' =>
    obtain ⟨r2, hr2, _⟩ := all l' a₁ w₁ hq
    have hg : gotoIn l' (.inScope c :: k) = some (.code r2 :: .inScope c :: k) := by simp [gotoIn, hr2]
    obtain ⟨e₂, a₂, w₂, hq₂, harr₂⟩ := key _ l' a₁ w₁ r2 rfl hq hr2
    exact ⟨e₂, a₂, w₂, hq₂, .of_steps (.head step_scope (harr _ hg)) harr₂⟩
  | ret => exact ⟨_, a₁, w₁, hq, .of_steps (.one step_scope) harr⟩
  | panic ch => exact ⟨_, a₁, w₁, hq, .of_steps (.one step_scope) harr⟩
  | outgrown => exact ⟨_, a₁, w₁, hq, .of_steps (.one step_scope) harr⟩

theorem list_lit (l : List Value) (n : Nat) (h : l.length = n) : l = (List.range n).map (fun i => l.toArray.getD i undef) := by
  subst h
  apply List.ext_getElem (by simp)
  intro i h1 h2
  simp [h1]
set_option maxRecDepth 100000 in
theorem frame (tm : Array Value) (h : tm.size = 137) : tm = #[tm.getD 0 undef, tm.getD 1 undef, tm.getD 2 undef, tm.getD 3 undef, tm.getD 4 undef, tm.getD 5 undef, tm.getD 6 undef, tm.getD 7 undef, tm.getD 8 undef, tm.getD 9 undef, tm.getD 10 undef, tm.getD 11 undef, tm.getD 12 undef, tm.getD 13 undef, tm.getD 14 undef, tm.getD 15 undef, tm.getD 16 undef, tm.getD 17 undef, tm.getD 18 undef, tm.getD 19 undef, tm.getD 20 undef, tm.getD 21 undef, tm.getD 22 undef, tm.getD 23 undef, tm.getD 24 undef, tm.getD 25 undef, tm.getD 26 undef, tm.getD 27 undef, tm.getD 28 undef, tm.getD 29 undef, tm.getD 30 undef, tm.getD 31 undef, tm.getD 32 undef, tm.getD 33 undef, tm.getD 34 undef, tm.getD 35 undef, tm.getD 36 undef, tm.getD 37 undef, tm.getD 38 undef, tm.getD 39 undef, tm.getD 40 undef, tm.getD 41 undef, tm.getD 42 undef, tm.getD 43 undef, tm.getD 44 undef, tm.getD 45 undef, tm.getD 46 undef, tm.getD 47 undef, tm.getD 48 undef, tm.getD 49 undef, tm.getD 50 undef, tm.getD 51 undef, tm.getD 52 undef, tm.getD 53 undef, tm.getD 54 undef, tm.getD 55 undef, tm.getD 56 undef, tm.getD 57 undef, tm.getD 58 undef, tm.getD 59 undef, tm.getD 60 undef, tm.getD 61 undef, tm.getD 62 undef, tm.getD 63 undef, tm.getD 64 undef, tm.getD 65 undef, tm.getD 66 undef, tm.getD 67 undef, tm.getD 68 undef, tm.getD 69 undef, tm.getD 70 undef, tm.getD 71 undef, tm.getD 72 undef, tm.getD 73 undef, tm.getD 74 undef, tm.getD 75 undef, tm.getD 76 undef, tm.getD 77 undef, tm.getD 78 undef, tm.getD 79 undef, tm.getD 80 undef, tm.getD 81 undef, tm.getD 82 undef, tm.getD 83 undef, tm.getD 84 undef, tm.getD 85 undef, tm.getD 86 undef, tm.getD 87 undef, tm.getD 88 undef, tm.getD 89 undef, tm.getD 90 undef, tm.getD 91 undef, tm.getD 92 undef, tm.getD 93 undef, tm.getD 94 undef, tm.getD 95 undef, tm.getD 96 undef, tm.getD 97 undef, tm.getD 98 undef, tm.getD 99 undef, tm.getD 100 undef, tm.getD 101 undef, tm.getD 102 undef, tm.getD 103 undef, tm.getD 104 undef, tm.getD 105 undef, tm.getD 106 undef, tm.getD 107 undef, tm.getD 108 undef, tm.getD 109 undef, tm.getD 110 undef, tm.getD 111 undef, tm.getD 112 undef, tm.getD 113 undef, tm.getD 114 undef, tm.getD 115 undef, tm.getD 116 undef, tm.getD 117 undef, tm.getD 118 undef, tm.getD 119 undef, tm.getD 120 undef, tm.getD 121 undef, tm.getD 122 undef, tm.getD 123 undef, tm.getD 124 undef, tm.getD 125 undef, tm.getD 126 undef, tm.getD 127 undef, tm.getD 128 undef, tm.getD 129 undef, tm.getD 130 undef, tm.getD 131 undef, tm.getD 132 undef, tm.getD 133 undef, tm.getD 134 undef, tm.getD 135 undef, tm.getD 136 undef] := by
  have := congrArg List.toArray (list_lit tm.toList 137 h)
  rw [Array.toArray_toList] at this
  exact this
theorem SC.set1' {W : World} {g : Nat} {s : ByteArray} {i : Nat} {v : Value} (h : SC W g s i v) (j : Nat) (x : Int) (hx : x = j) : SC (W.setCell ⟨g, 1, none⟩ (.int .i64 x)) g s j v := by
  subst hx
  exact h.set1 j
/-- What is so at the labels: the text, the scanner, its place, its list; r: what is answered at the end. -/
structure At (s : ByteArray) (g B : Nat) (r : List Tk × Int × Int) (w0 : World) (tm : Array Value) (df : Bool) (w : World) (i : Nat) (v : Value) (l : List Tk) : Prop where
  size : tm.size = 137
  t0 : tm.getD 0 undef = .string s
  t5 : tm.getD 5 undef = .pointer (some ⟨g, 0, none⟩)
  sc : SC w g s i v
  own : kT.R 32 w B (fun k => k ≠ g) v l
  bel : Below B w0 w
  bw : B ≤ w.heap.size
  bg : B ≤ g
  le : i ≤ s.size
  len : l.length ≤ i
  sz : s.size ≤ 65536
def idx (g : Nat) (w : World) : Nat := match w.cell? ⟨g, 1, none⟩ with
  | some (.int _ n) => n.toNat
  | _ => 0
theorem idx_of {w : World} {g i : Nat} {s : ByteArray} {v : Value} (h : SC w g s i v) : idx g w = i := by unfold idx; rw [h.c1]; simp
def mu (s : ByteArray) (g l : Nat) (w : World) : Nat := 3 * (s.size - idx g w) + (if l = 0 then 2 else 1)
def Jn (s : ByteArray) (g B : Nat) (r : List Tk × Int × Int) (w0 : World) (l : Nat) (a : Act) (w : World) : Prop :=
  a.defers = [] ∧ ∃ (i : Nat) (v : Value) (li : List Tk), At s g B r w0 a.tmps true w i v li ∧
    ((l = 0 ∧ ∃ k, scn k s i li = some r) ∨
     (l = 1 ∧ a.tmps.getD 6 undef = .int .i64 i ∧ i = s.size ∧ r = (li ++ [(0, s.extract i i, (i : Int))], 0, 0)) ∨
     (l = 2 ∧ a.tmps.getD 6 undef = .int .i64 i ∧ letter (nw s i) = true ∧ ∃ k, (if skp lord s i - i > 64 then some ([], 2, (i : Int)) else scn k s (skp lord s i) (li ++ [(1, s.extract i (skp lord s i), (i : Int))])) = some r) ∨
     (l = 3 ∧ a.tmps.getD 6 undef = .int .i64 i ∧ digit (nw s i) = true ∧ ∃ k, (if (num s i).2.2 ≠ 0 then some ([], ((num s i).2.2 : Int), (i : Int)) else scn k s (num s i).2.1 (li ++ [(((num s i).1 : Int), s.extract i (num s i).2.1, (i : Int))])) = some r) ∨
     (l = 4 ∧ a.tmps.getD 6 undef = .int .i64 i ∧ nw s i = 34 ∧ ∃ k, (if nw s (skp quot s (i + 1)) ≠ 34 then some ([], 61, (i : Int)) else if skp quot s (i + 1) - i - 1 > 64 then some ([], 2, (i : Int))
       else scn k s (skp quot s (i + 1) + 1) (li ++ [(4, s.extract (i + 1) (skp quot s (i + 1)), (i : Int))])) = some r))
theorem idx_mk : ∀ c : Nat, c < 256 → Lib.indexByte (⟨#[40, 41, 44, 61, 45, 59]⟩ : ByteArray).data.toList ((c : Int).toNat.toUInt8) = mk c := by
  intro c hc
  rw [Int.toNat_natCast]
  revert c
  decide +kernel
theorem mk_le (c : Nat) : mk c ≤ 5 := by
  unfold mk
  repeat' split
  all_goals decide
theorem mu_lt {s : ByteArray} {g l l' i i' : Nat} {w w' : World} {v v' : Value} (h : SC w g s i v) (h' : SC w' g s i' v') (hlt : 3 * (s.size - i') + (if l' = 0 then 2 else 1) < 3 * (s.size - i) + (if l = 0 then 2 else 1)) : mu s g l' w' < mu s g l w := by
  unfold mu
  rw [idx_of h, idx_of h']
  exact hlt
theorem At.frame {s : ByteArray} {g B : Nat} {r : List Tk × Int × Int} {w0 : World} {tm : Array Value} {w : World} {i : Nat} {v : Value} {l : List Tk} (h : At s g B r w0 tm true w i v l) : ∃ u : Nat → Value, tm = #[u 0, u 1, u 2, u 3, u 4, u 5, u 6, u 7, u 8, u 9, u 10, u 11, u 12, u 13, u 14, u 15, u 16, u 17, u 18, u 19, u 20, u 21, u 22, u 23, u 24, u 25, u 26, u 27, u 28, u 29, u 30, u 31, u 32, u 33, u 34, u 35, u 36, u 37, u 38, u 39, u 40, u 41, u 42, u 43, u 44, u 45, u 46, u 47, u 48, u 49, u 50, u 51, u 52, u 53, u 54, u 55, u 56, u 57, u 58, u 59, u 60, u 61, u 62, u 63, u 64, u 65, u 66, u 67, u 68, u 69, u 70, u 71, u 72, u 73, u 74, u 75, u 76, u 77, u 78, u 79, u 80, u 81, u 82, u 83, u 84, u 85, u 86, u 87, u 88, u 89, u 90, u 91, u 92, u 93, u 94, u 95, u 96, u 97, u 98, u 99, u 100, u 101, u 102, u 103, u 104, u 105, u 106, u 107, u 108, u 109, u 110, u 111, u 112, u 113, u 114, u 115, u 116, u 117, u 118, u 119, u 120, u 121, u 122, u 123, u 124, u 125, u 126, u 127, u 128, u 129, u 130, u 131, u 132, u 133, u 134, u 135, u 136] ∧ u 0 = .string s ∧ u 5 = .pointer (some ⟨g, 0, none⟩) ∧ u 6 = tm.getD 6 undef :=
  ⟨fun n => tm.getD n undef, Lx.frame tm h.size, h.t0, h.t5, rfl⟩
set_option maxHeartbeats 64000000 in
set_option maxRecDepth 1000000 in
theorem Scan_small (s : ByteArray) (w : World) (hs : s.size ≤ 65536) : Calls Try.prog 15 #[.string s] w fun e w' => ∃ v0_ : Value, e = .returned (.tuple #[v0_, .int .i64 (scan s).2.1, .int .i64 (scan s).2.2]) ∧ kT.R 32 w' w.heap.size (fun _ => True) v0_ (scan s).1 ∧ Below w.heap.size w w' := by
  have hscn := @scan_eq s (by omega)
  generalize scan s = r at hscn ⊢
  have b0 : decide ((65536 : Int) < (s.size : Int)) = false := decide_eq_false (by omega)
  have b1 : decide (65536 < s.size) = false := decide_eq_false (by omega)
  have H := Aside0.mk hscn
  clear hscn
  go_enter Try.func15, Try.ntmps15
  go_wp2
  refine @wp_scope_labels _ _ _ _ _ ?Y (Jn s w.heap.size w.heap.size r w) (fun l _ w' => mu s w.heap.size l w') ?hY ?_ ?_ ?_
  case hY => exact rfl
  · rintro ⟨tm, df⟩ w1 ⟨hdf, i, v, li, hA, hcase⟩
    have hscn : ∃ k, scn k s i li = some r := by rcases hcase with ⟨_, h⟩ | ⟨h, _⟩ | ⟨h, _⟩ | ⟨h, _⟩ | ⟨h, _⟩ <;> first | exact h | exact absurd h (by decide)
    clear hcase H
    obtain ⟨k, hk⟩ := hscn
    simp only at hdf
    subst hdf
    obtain ⟨u, rfl, t0, t5, -⟩ := hA.frame
    rw [t0, t5]
    cases k with
    | zero => exact absurd hk (by simp [scn])
    | succ k =>
      rw [scn] at hk
      have hsk := skip_blank w.heap.size i s v w1 hA.sc hA.le hs
      have hj1 := skp_ge blank s i
      have hj2 : skp blank s i ≤ s.size := skp_le hA.le
      generalize skp blank s i = j at hk hsk hj1 hj2
      have HA := Aside0.mk hA
      have hR := hA.own
      have hB := hA.bel
      have hBw := hA.bw
      have hBg := hA.bg
      have hlen := hA.len
      clear hA t0 t5
      by_cases h35 : nw s j = 35
      · rw [if_pos h35] at hk
        have HK := Aside0.mk hk
        have c35 : ((nw s j : Int) == 35) = true := beqT (by omega)
        have hlt : j < s.size := nw_lt (by omega)
        have hj3 : j < skp line s j := by
          rw [skp_step hlt (by rw [h35]; rfl)]
          exact skp_ge _ _ _
        have hj4 : skp line s j ≤ s.size := skp_le hj2
        clear h35 hk
        go_wp2_with (first
          | (go_at_call 52; (with_reducible refine (hsk).mono ?_); rintro e w2 ⟨rfl, h2, hg2⟩)
          | (go_at_call 54; refine (now _ j s v _ h2 hj2 hs).mono ?_; rintro e w3 ⟨rfl, ⟨⟨nq3, rfl⟩⟩⟩)
          | (go_at_call 52; refine (skip_line _ j s v _ (h2.drewN nq3) hj2 hs).mono ?_; rintro e w4 ⟨rfl, h4, hg4⟩))
        go_step3
        have hG := grown_trans (grown_drewN hg2 nq3) hg4
        refine ⟨⟨rfl, skp line s j, v, li, ⟨?_, ?_, ?_, h4, Kd.R_grown hR hG (fun k hk e => hk (Option.some.inj e)), grown_below hB hBw hBg hG, Nat.le_trans hBw hG.size, hBg, hj4, by omega, hs⟩, .inl ⟨rfl, k, HK.out⟩⟩, mu_lt HA.out.sc h4 (by simp; omega)⟩
        all_goals rfl
      · rw [if_neg h35] at hk
        have c35 : ((nw s j : Int) == 35) = false := beqF (by omega)
        clear h35
        have hG2 := fun (w2 : World) (hg2 : w1.grownBy w2 (some w.heap.size)) => Kd.R_grown hR hg2 (fun k hk e => hk (Option.some.inj e))
        by_cases hend : j = s.size
        · rw [if_pos hend] at hk
          have HK := Aside0.mk (Option.some.inj hk)
          have cend : ((j : Int) == (s.size : Int)) = true := beqT (by omega)
          have HE := Aside0.mk hend
          clear hend hk
          go_wp2_with (first
            | (go_at_call 52; (with_reducible refine (hsk).mono ?_); rintro e w2 ⟨rfl, h2, hg2⟩)
            | (go_at_call 54; (with_reducible refine (now _ j s v _ h2 hj2 hs).mono ?_); rintro e w3 ⟨rfl, ⟨⟨nq3, rfl⟩⟩⟩; have c1 := (h2.drewN nq3).c1))
          go_step3
          refine ⟨⟨rfl, j, v, li, ⟨?_, ?_, ?_, h2.drewN nq3, Kd.R_drewN (hG2 _ hg2) nq3, pw_below_drewN (grown_below hB hBw hBg hg2) nq3, Nat.le_trans hBw hg2.size, hBg, hj2, by omega, hs⟩, .inr (.inl ⟨rfl, rfl, HE.out, HK.out.symm⟩)⟩, mu_lt HA.out.sc (h2.drewN nq3) (by simp; omega)⟩
          all_goals rfl
        · rw [if_neg hend] at hk
          have cend : ((j : Int) == (s.size : Int)) = false := beqF (by omega)
          have hjlt : j < s.size := by omega
          clear hend
          by_cases hL : letter (nw s j) = true
          · rw [if_pos hL] at hk
            have HK := Aside0.mk hk
            have HL := Aside0.mk hL
            have hLc := fun w => cls_letter (nw s j) w (nw_byte _ _)
            rw [hL] at hLc
            clear hk hL
            go_wp2_with (first
              | (go_at_call 52; (with_reducible refine (hsk).mono ?_); rintro e w2 ⟨rfl, h2, hg2⟩)
              | (go_at_call 54; (with_reducible refine (now _ j s v _ h2 hj2 hs).mono ?_); rintro e w3 ⟨rfl, ⟨⟨nq3, rfl⟩⟩⟩; have c1 := (h2.drewN nq3).c1)
              | (go_at_call 54; (with_reducible refine (now _ j s v _ (h2.drewN nq3) hj2 hs).mono ?_); rintro e w3 ⟨rfl, ⟨⟨nq4, rfl⟩⟩⟩)
              | (go_at_call 56; (with_reducible refine (hLc _).mono ?_); rintro e w3 ⟨rfl, rfl⟩))
            go_step3
            refine ⟨⟨rfl, j, v, li, ⟨?_, ?_, ?_, h2.drewN (nq3 + nq4), Kd.R_drewN (hG2 _ hg2) (nq3 + nq4), pw_below_drewN (grown_below hB hBw hBg hg2) (nq3 + nq4), Nat.le_trans hBw hg2.size, hBg, hj2, by omega, hs⟩, .inr (.inr (.inl ⟨rfl, rfl, HL.out, k, HK.out⟩))⟩, mu_lt HA.out.sc (h2.drewN (nq3 + nq4)) (by simp; omega)⟩
            all_goals rfl
          · rw [if_neg hL] at hk
            have hLc := fun w => cls_letter (nw s j) w (nw_byte _ _)
            rw [show letter (nw s j) = false by simpa using hL] at hLc
            clear hL
            by_cases hD : digit (nw s j) = true
            · rw [if_pos hD] at hk
              have HK := Aside0.mk hk
              have HD := Aside0.mk hD
              have hDc := fun w => cls_digit (nw s j) w (nw_byte _ _)
              rw [hD] at hDc
              clear hk hD
              go_wp2_with (first
                | (go_at_call 52; (with_reducible refine (hsk).mono ?_); rintro e w2 ⟨rfl, h2, hg2⟩)
                | (go_at_call 54; (with_reducible refine (now _ j s v _ h2 hj2 hs).mono ?_); rintro e w3 ⟨rfl, ⟨⟨nq3, rfl⟩⟩⟩; have c1 := (h2.drewN nq3).c1)
                | (go_at_call 54; (with_reducible refine (now _ j s v _ (h2.drewN nq3) hj2 hs).mono ?_); rintro e w3 ⟨rfl, ⟨⟨nq4, rfl⟩⟩⟩)
                | (go_at_call 56; (with_reducible refine (hLc _).mono ?_); rintro e w3 ⟨rfl, rfl⟩)
                | (go_at_call 57; (with_reducible refine (hDc _).mono ?_); rintro e w3 ⟨rfl, rfl⟩))
              go_step3
              refine ⟨⟨rfl, j, v, li, ⟨?_, ?_, ?_, h2.drewN (nq3 + nq4), Kd.R_drewN (hG2 _ hg2) (nq3 + nq4), pw_below_drewN (grown_below hB hBw hBg hg2) (nq3 + nq4), Nat.le_trans hBw hg2.size, hBg, hj2, by omega, hs⟩, .inr (.inr (.inr (.inl ⟨rfl, rfl, HD.out, k, HK.out⟩)))⟩, mu_lt HA.out.sc (h2.drewN (nq3 + nq4)) (by simp; omega)⟩
              all_goals rfl
            · rw [if_neg hD] at hk
              have hDc := fun w => cls_digit (nw s j) w (nw_byte _ _)
              rw [show digit (nw s j) = false by simpa using hD] at hDc
              clear hD
              by_cases hQ : nw s j = 34
              · rw [if_pos hQ] at hk
                have HK := Aside0.mk hk
                have HQ := Aside0.mk hQ
                have cQ : ((nw s j : Int) == 34) = true := beqT (by omega)
                clear hk hQ
                go_wp2_with (first
                  | (go_at_call 52; (with_reducible refine (hsk).mono ?_); rintro e w2 ⟨rfl, h2, hg2⟩)
                  | (go_at_call 54; (with_reducible refine (now _ j s v _ h2 hj2 hs).mono ?_); rintro e w3 ⟨rfl, ⟨⟨nq3, rfl⟩⟩⟩; have c1 := (h2.drewN nq3).c1)
                  | (go_at_call 54; (with_reducible refine (now _ j s v _ (h2.drewN nq3) hj2 hs).mono ?_); rintro e w3 ⟨rfl, ⟨⟨nq4, rfl⟩⟩⟩)
                  | (go_at_call 56; (with_reducible refine (hLc _).mono ?_); rintro e w3 ⟨rfl, rfl⟩)
                  | (go_at_call 57; (with_reducible refine (hDc _).mono ?_); rintro e w3 ⟨rfl, rfl⟩))
                go_step3
                refine ⟨⟨rfl, j, v, li, ⟨?_, ?_, ?_, h2.drewN (nq3 + nq4), Kd.R_drewN (hG2 _ hg2) (nq3 + nq4), pw_below_drewN (grown_below hB hBw hBg hg2) (nq3 + nq4), Nat.le_trans hBw hg2.size, hBg, hj2, by omega, hs⟩, .inr (.inr (.inr (.inr ⟨rfl, rfl, HQ.out, k, HK.out⟩)))⟩, mu_lt HA.out.sc (h2.drewN (nq3 + nq4)) (by simp; omega)⟩
                all_goals rfl
              · rw [if_neg hQ] at hk
                have cQ : ((nw s j : Int) == 34) = false := beqF (by omega)
                have hI := fun w => Try.strings_IndexByte (⟨#[40, 41, 44, 61, 45, 59]⟩ : ByteArray) (nw s j : Int) w
                rw [idx_mk _ (nw_byte _ _)] at hI
                have hm5 := mk_le (nw s j)
                generalize mk (nw s j) = m at hk hI hm5
                clear hQ
                by_cases hM : 0 ≤ m
                · rw [if_pos hM] at hk
                  have HK := Aside0.mk hk
                  have hM2 := decide_eq_true hM
                  clear hk
                  go_wp2_with (first
                    | (go_at_call 52; (with_reducible refine (hsk).mono ?_); rintro e w2 ⟨rfl, h2, hg2⟩)
                    | (go_at_call 54; (with_reducible refine (now _ j s v _ h2 hj2 hs).mono ?_); rintro e w3 ⟨rfl, ⟨⟨nq3, rfl⟩⟩⟩; have c1 := (h2.drewN nq3).c1)
                    | (go_at_call 54; (with_reducible refine (now _ j s v _ (h2.drewN nq3) hj2 hs).mono ?_); rintro e w3 ⟨rfl, ⟨⟨nq4, rfl⟩⟩⟩; have c1' := (h2.drewN (nq3 + nq4)).c1; have f1' := (h2.drewN (nq3 + nq4)).f1; have hs1 := (h2.drewN (nq3 + nq4)).set1 (j + 1); have hG4 := grown_set (grown_drewN hg2 (nq3 + nq4)) (j := 1) (.int .i64 ((j + 1 : Nat) : Int)))
                    | (go_at_call 56; (with_reducible refine (hLc _).mono ?_); rintro e w3 ⟨rfl, rfl⟩)
                    | (go_at_call 57; (with_reducible refine (hDc _).mono ?_); rintro e w3 ⟨rfl, rfl⟩)
                    | (go_at_call 58; refine (hI _).mono ?_; rintro e w3 ⟨rfl, rfl⟩)
                    | (go_at_call 59; go_loud ((refine (add w.heap.size _ (j + 1) j (5 + m) s v li w _ hs1 (hG2 _ hG4) (grown_below hB hBw hBg hG4) (Nat.le_trans hBw hG4.size) hBg (by omega) (by omega) hs (by omega)).mono ?_); rintro e w4 ⟨rfl, x, hx1, hx2, hx3⟩)))
                  go_step3
                  refine ⟨⟨rfl, j + 1, x, li ++ [(5 + m, s.extract j (j + 1), (j : Int))], ⟨?_, ?_, ?_, hx1, hx2, hx3, hx3.size, hBg, by omega, by simp; omega, hs⟩, .inl ⟨rfl, k, HK.out⟩⟩, mu_lt HA.out.sc hx1 (by simp; omega)⟩
                  all_goals rfl
                · rw [if_neg hM] at hk
                  have HK := Aside0.mk (Option.some.inj hk)
                  have hM2 := decide_eq_false hM
                  clear hk
                  go_wp2_with (first
                    | (go_at_call 52; (with_reducible refine (hsk).mono ?_); rintro e w2 ⟨rfl, h2, hg2⟩)
                    | (go_at_call 54; (with_reducible refine (now _ j s v _ h2 hj2 hs).mono ?_); rintro e w3 ⟨rfl, ⟨⟨nq3, rfl⟩⟩⟩; have c1 := (h2.drewN nq3).c1)
                    | (go_at_call 54; (with_reducible refine (now _ j s v _ (h2.drewN nq3) hj2 hs).mono ?_); rintro e w3 ⟨rfl, ⟨⟨nq4, rfl⟩⟩⟩)
                    | (go_at_call 56; (with_reducible refine (hLc _).mono ?_); rintro e w3 ⟨rfl, rfl⟩)
                    | (go_at_call 57; (with_reducible refine (hDc _).mono ?_); rintro e w3 ⟨rfl, rfl⟩)
                    | (go_at_call 58; refine (hI _).mono ?_; rintro e w3 ⟨rfl, rfl⟩))
                  simp only [jumps]
                  go_ret3
                  rw [← HK.out]
                  exact ⟨_, rfl, Kd.R_nil _ _ _ _ _, pw_below_drewN (grown_below hB hBw hBg hg2) (nq3 + nq4)⟩
  · rintro l ⟨tm, df⟩ w1 hl ⟨hdf, i, v, li, hA, hcase⟩
    clear H
    simp only at hdf
    subst hdf
    obtain ⟨u, rfl, t0, t5, -⟩ := hA.frame
    rcases hcase with ⟨h, _⟩ | ⟨rfl, t6, he, hr⟩ | ⟨rfl, t6, hc, k, hr⟩ | ⟨rfl, t6, hc, k, hr⟩ | ⟨rfl, t6, hc, k, hr⟩
    · exact absurd h hl
    · refine ⟨_, rfl, ?_⟩
      replace t6 : u 6 = .int .i64 i := t6
      rw [t0, t5, t6]
      have HR := Aside0.mk hr
      have HA := Aside0.mk hA
      clear hA hr t0 t5 t6 he
      go_wp2_with (go_at_call 59; refine (add w.heap.size _ i i 0 s v li w _ HA.out.sc HA.out.own HA.out.bel HA.out.bw HA.out.bg (Nat.le_refl _) HA.out.le hs (Nat.le_trans HA.out.len (Nat.le_trans HA.out.le hs))).mono ?_; rintro e w4 ⟨rfl, x, hx1, hx2, hx3⟩; obtain ⟨xA, xc, hx⟩ := Kd.R_slice hx2; have c2 := hx1.c2; rw [hx] at c2)
      simp only [jumps]
      go_ret3
      rw [HR.out]
      have hx2' := hx ▸ hx2
      simp only [List.length_append, List.length_singleton] at hx2'
      exact ⟨_, rfl, Kd.R_mono hx2' (fun _ _ => trivial), hx3⟩
    · refine ⟨_, rfl, ?_⟩
      replace t6 : u 6 = .int .i64 i := t6
      rw [t0, t5, t6]
      have hlt : i < s.size := nw_lt (letter_ne hc)
      have hsk := skip_lord w.heap.size i s v w1 hA.sc hA.le hs
      have he1 : i < skp lord s i := by
        rw [skp_step hlt (lord_of_letter hc)]
        exact skp_ge _ _ _
      have he2 : skp lord s i ≤ s.size := skp_le hA.le
      generalize skp lord s i = e at hr hsk he1 he2
      have HA := Aside0.mk hA
      have hlen := hA.len
      have hR := fun (w2 : World) (hg2 : w1.grownBy w2 (some w.heap.size)) => Kd.R_grown hA.own hg2 (fun k hk e => hk (Option.some.inj e))
      clear hA t0 t5 t6 hc
      by_cases h64 : e - i > 64
      · rw [if_pos h64] at hr
        have HR := Aside0.mk (Option.some.inj hr)
        have b64 : decide ((64 : Int) < (e : Int) - (i : Int)) = true := decide_eq_true (by omega)
        clear hr h64
        go_wp2_with (go_at_call 52; (with_reducible refine hsk.mono ?_); rintro e' w2 ⟨rfl, h2, hg2⟩; have c1 := h2.c1)
        simp only [jumps]
        go_ret3
        rw [← HR.out]
        exact ⟨_, rfl, Kd.R_nil _ _ _ _ _, grown_below HA.out.bel HA.out.bw HA.out.bg hg2⟩
      · rw [if_neg h64] at hr
        have HR := Aside0.mk hr
        have b64 : decide ((64 : Int) < (e : Int) - (i : Int)) = false := decide_eq_false (by omega)
        clear hr h64
        go_wp2_with (first
          | (go_at_call 52; (with_reducible refine hsk.mono ?_); rintro e' w2 ⟨rfl, h2, hg2⟩; have c1 := h2.c1)
          | (go_at_call 59; refine (add w.heap.size _ e i 1 s v li w _ h2 (hR _ hg2) (grown_below HA.out.bel HA.out.bw HA.out.bg hg2) (Nat.le_trans HA.out.bw hg2.size) HA.out.bg (by omega) (by omega) hs (by omega)).mono ?_; rintro e' w4 ⟨rfl, x, hx1, hx2, hx3⟩))
        go_step3
        refine ⟨⟨rfl, e, x, li ++ [(1, s.extract i e, (i : Int))], ⟨?_, ?_, ?_, hx1, hx2, hx3, hx3.size, HA.out.bg, by omega, by simp; omega, hs⟩, .inl ⟨rfl, k, HR.out⟩⟩, mu_lt HA.out.sc hx1 (by simp; omega)⟩
        all_goals rfl
    · refine ⟨_, rfl, ?_⟩
      replace t6 : u 6 = .int .i64 i := t6
      rw [t0, t5, t6]
      have hlt : i < s.size := nw_lt (digit_ne hc)
      have hnm := number w.heap.size w.heap.size i s v li w w1 hA.sc hA.own hA.bel hA.bw hA.bg hlt hs (Nat.le_trans hA.len (Nat.le_trans hA.le hs)) hc
      have hin := @num_in s i hlt hc
      generalize num s i = q at hr hnm hin
      obtain ⟨q1, q2, q3⟩ := q
      simp only at hr hnm hin
      have HA := Aside0.mk hA
      have hlen := hA.len
      clear hA t0 t5 t6 hc
      by_cases h0 : q3 ≠ 0
      · rw [if_pos h0] at hr
        have HR := Aside0.mk (Option.some.inj hr)
        have b0' : ((q3 : Int) != 0) = true := neqF (by omega)
        clear hr h0 hin
        go_wp2_with (go_at_call 61; (with_reducible refine hnm.mono ?_); rintro e' w2 ⟨rfl, hB2, _⟩)
        simp only [jumps]
        go_ret3
        rw [← HR.out]
        exact ⟨_, rfl, Kd.R_nil _ _ _ _ _, hB2⟩
      · rw [if_neg h0] at hr
        have HR := Aside0.mk hr
        have h0' : q3 = 0 := by omega
        subst h0'
        have hin' := hin rfl
        clear hr h0 hin
        go_wp2_with (go_at_call 61; (with_reducible refine hnm.mono ?_); rintro e' w2 ⟨rfl, hB2, hN⟩; obtain ⟨x, hx1, hx2⟩ := hN rfl; clear hN)
        go_step3
        refine ⟨⟨rfl, q2, x, li ++ [((q1 : Int), s.extract i q2, (i : Int))], ⟨?_, ?_, ?_, hx1, hx2, hB2, hB2.size, HA.out.bg, by omega, by simp; omega, hs⟩, .inl ⟨rfl, k, HR.out⟩⟩, mu_lt HA.out.sc hx1 (by simp; omega)⟩
        all_goals rfl
    · refine ⟨_, rfl, ?_⟩
      replace t6 : u 6 = .int .i64 i := t6
      rw [t0, t5, t6]
      have hlt : i < s.size := nw_lt (by omega)
      have c1 := hA.sc.c1
      have f1 := hA.sc.f1
      have hs1 := hA.sc.set1' (i + 1) ((i : Int) + 1) (by omega)
      have hG1 := grown_set (World.grownBy.refl w1 (some w.heap.size)) (j := 1) (.int .i64 ((i : Int) + 1))
      have hsk := fun w' h => skip_quot w.heap.size (i + 1) s v w' h (by omega) hs
      have he1 := skp_ge quot s (i + 1)
      have he2 : skp quot s (i + 1) ≤ s.size := skp_le (by omega)
      generalize skp quot s (i + 1) = e at hr hsk he1 he2
      have hsk1 := hsk _ hs1
      clear hsk
      have HA := Aside0.mk hA
      have hlen := hA.len
      have hR := fun (w2 : World) (hg2 : w1.grownBy w2 (some w.heap.size)) => Kd.R_grown hA.own hg2 (fun k hk e => hk (Option.some.inj e))
      have hBl := fun (w2 : World) (hg2 : w1.grownBy w2 (some w.heap.size)) => grown_below hA.bel hA.bw hA.bg hg2
      clear hA t0 t5 t6 hc
      by_cases hq : nw s e ≠ 34
      · rw [if_pos hq] at hr
        have HR := Aside0.mk (Option.some.inj hr)
        have bq : ((nw s e : Int) != 34) = true := neqF (by omega)
        clear hr hq
        go_wp2_with (first
          | (go_at_call 52; (with_reducible refine hsk1.mono ?_); rintro e' w2 ⟨rfl, h2, hg2⟩)
          | (go_at_call 54; refine (now _ e s v _ h2 he2 hs).mono ?_; rintro e' w3 ⟨rfl, ⟨⟨nq3, rfl⟩⟩⟩))
        simp only [jumps]
        go_ret3
        rw [← HR.out]
        exact ⟨_, rfl, Kd.R_nil _ _ _ _ _, hBl _ (grown_drewN (grown_trans hG1 hg2) nq3)⟩
      · rw [if_neg hq] at hr
        have bq : ((nw s e : Int) != 34) = false := neqT (by omega)
        have helt : e < s.size := nw_lt (by omega)
        clear hq
        by_cases h64 : e - i - 1 > 64
        · rw [if_pos h64] at hr
          have HR := Aside0.mk (Option.some.inj hr)
          have b64 : decide ((64 : Int) < (e : Int) - (i : Int) - 1) = true := decide_eq_true (by omega)
          clear hr h64
          go_wp2_with (first
            | (go_at_call 52; (with_reducible refine hsk1.mono ?_); rintro e' w2 ⟨rfl, h2, hg2⟩)
            | (go_at_call 54; refine (now _ e s v _ h2 he2 hs).mono ?_; rintro e' w3 ⟨rfl, ⟨⟨nq3, rfl⟩⟩⟩; have c1' := (h2.drewN nq3).c1))
          simp only [jumps]
          go_ret3
          rw [← HR.out]
          exact ⟨_, rfl, Kd.R_nil _ _ _ _ _, hBl _ (grown_drewN (grown_trans hG1 hg2) nq3)⟩
        · rw [if_neg h64] at hr
          have HR := Aside0.mk hr
          have b64 : decide ((64 : Int) < (e : Int) - (i : Int) - 1) = false := decide_eq_false (by omega)
          have b2 := eq_true (show (0 : Int) ≤ (i : Int) + 1 by omega)
          have b3 := eq_true (show (i : Int) + 1 ≤ (e : Int) by omega)
          have b4 := eq_true (show (e : Int) ≤ (s.size : Int) by omega)
          clear hr h64
          go_wp2_with (first
            | (go_at_call 52; (with_reducible refine hsk1.mono ?_); rintro e' w2 ⟨rfl, h2, hg2⟩)
            | (go_at_call 54; refine (now _ e s v _ h2 he2 hs).mono ?_; rintro e' w3 ⟨rfl, ⟨⟨nq3, rfl⟩⟩⟩; have c1' := (h2.drewN nq3).c1; have c2' := (h2.drewN nq3).c2; have f2' := (h2.drewN nq3).f2))
          have h3 := h2.drewN nq3
          have hR3 := Kd.R_drewN (hR _ (grown_trans hG1 hg2)) nq3
          have hB3 := pw_below_drewN (hBl _ (grown_trans hG1 hg2)) nq3
          have hz3 : w.heap.size ≤ (w2.drewN nq3).heap.size := hB3.size
          clear hsk1 hg2 h2 hG1 hs1 c1 f1
          generalize w2.drewN nq3 = W at h3 hR3 hB3 hz3 c1' c2' f2' ⊢
          have c0' := h3.c0
          have hw1 : IntKind.i64.wrap ((i : Int) + 1) = (i : Int) + 1 := IntWalk.i64_in _ (by omega)
          have hw2 : ((i : Int) + 1).toNat = i + 1 := by omega
          have hg := blk_lt h3.heap
          have hne : v.ownBlock ≠ some w.heap.size := fun e => hR3.1 _ e rfl
          have hH := Aside0.mk h3
          clear h3
          go_region_law ((refine Kd.R_append_step (W := W.drew) kT (w0 := w) w.heap.size (by rfl) (.tmp 108) (.tmp 119) 22 32 (.agg #[(.int .i64 0), (.string ⟨#[]⟩), (.int .i64 0)]) 32 (by rfl) Try.underlying22 infoTk rfl (by decide) (by omega) v li (4, s.extract (i + 1) e, (i : Int)) [.int .i64 4, .string (s.extract (i + 1) e), .int .i64 i] (fun k => k ≠ w.heap.size) (fun _ => False) (by rfl) (by rfl) (kT_mkM _ _ _ _) (fun _ hk => hk.elim) (fun k hk e => by subst e; exact absurd hg (Nat.not_lt.mpr hk)) (Kd.R_drew hR3) (below_drew hB3) hz3 (by omega) ?_; intro x w4 hR4 hB4 hgrow hat; obtain ⟨A1, k1, hx⟩ := Kd.R_slice hR4; subst hx; have f2'' : w4.frozen? ⟨w.heap.size, 2, none⟩ = false := (hgrow.frozen_far ⟨w.heap.size, 2, none⟩ hg (Ne.symm hne)).trans f2'; have c2'' : w4.cell? ⟨w.heap.size, 2, none⟩ = some v := (hgrow.cell_far ⟨w.heap.size, 2, none⟩ hg (Ne.symm hne)).trans c2'; have hs4 := Aside0.mk (SC.mk ((hgrow.block _ hg (Ne.symm hne)).trans hH.out.heap))))
          all_goals simp only [List.length_append, List.length_singleton] at hR4
          all_goals
            have h5 := hs4.out.set2 (.slice A1 (li.length + 1) k1)
            have hR5 := Kd.R_grown hR4 (grown_set (World.grownBy.refl w4 (some w.heap.size)) (j := 2) (.slice A1 (li.length + 1) k1)) (fun k hk e => hk (Option.some.inj e))
            have hB5 := hB4.setCell (p := ⟨w.heap.size, 2, none⟩) (Nat.le_refl _) (.slice A1 (li.length + 1) k1)
            clear hs4 hR4 hB4 f2'' c2'' hgrow hat
            generalize w4.setCell ⟨w.heap.size, 2, none⟩ (.slice A1 (li.length + 1) k1) = W5 at h5 hR5 hB5 ⊢
            have c1'' := h5.c1
            have f1'' := h5.f1
          all_goals go_wp2
          all_goals go_step3
          all_goals
            have h6 := h5.set1' (e + 1) ((e : Int) + 1) (by omega)
            have hR6 := Kd.R_grown hR5 (grown_set (World.grownBy.refl W5 (some w.heap.size)) (j := 1) (.int .i64 ((e : Int) + 1))) (fun k hk e => hk (Option.some.inj e))
            have hB6 := hB5.setCell (p := ⟨w.heap.size, 1, none⟩) (Nat.le_refl _) (.int .i64 ((e : Int) + 1))
            refine ⟨⟨rfl, e + 1, _, _, ⟨?_, ?_, ?_, h6, hR6, hB6, hB6.size, HA.out.bg, by omega, by simp; omega, hs⟩, .inl ⟨rfl, k, HR.out⟩⟩, mu_lt HA.out.sc h6 (by simp; omega)⟩
            all_goals rfl
  · intro hP
    go_wp2
    go_step3
    go_step
    go_step
    refine hP _ _ ?_
    exact ⟨rfl, 0, .slice none 0 0, [], ⟨by rfl, by rfl, by rfl, ⟨blk_new w _⟩, Kd.R_nil _ _ _ _ _, below_alloc (Below.refl _ _) _, by simp [World.alloc_eq], Nat.le_refl _, Nat.zero_le _, Nat.le_refl _, hs⟩, .inl ⟨rfl, _, H.out⟩⟩
set_option maxHeartbeats 4000000 in
set_option maxRecDepth 1000000 in
theorem Scan (s : ByteArray) (w : World) : Calls Try.prog 15 #[.string s] w fun e w' => ∃ v0_ : Value, e = .returned (.tuple #[v0_, .int .i64 (scan s).2.1, .int .i64 (scan s).2.2]) ∧ kT.R 32 w' w.heap.size (fun _ => True) v0_ (scan s).1 ∧ Below w.heap.size w w' := by
  by_cases hs : s.size ≤ 65536
  · exact Scan_small s w hs
  · have e : scan s = ([], 2, 0) := by unfold scan; rw [if_pos (by omega)]
    rw [e]
    have b0 : decide ((65536 : Int) < (s.size : Int)) = true := decide_eq_true (by omega)
    have b1 : decide (65536 < s.size) = true := decide_eq_true (by omega)
    clear e
    go_enter Try.func15, Try.ntmps15
    go_wp2
    go_step3
    go_wp2
    rw [Exit.noGoto_ret]
    go_ret3
    exact ⟨_, rfl, Kd.R_nil _ _ _ _ _, Below.refl _ _⟩
end Go.Proofs.Ytmfladkimmnccaa.Lx
