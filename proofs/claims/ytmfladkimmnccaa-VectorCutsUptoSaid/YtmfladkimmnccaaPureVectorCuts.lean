/- The pure form of VectorCuts: what its walk asks of the functions that it calls. Condition: at most 1048576 numbers in each list. -/
import Derived.Test.YtmfladkimmnccaaRlw
import Derived.Test.YtmfladkimmnccaaVcu
set_option linter.unusedVariables false
set_option linter.unusedSimpArgs false
namespace Go.Proofs.Ytmfladkimmnccaa.Pure
open Go.RowKit Lathe Go.Proofs.Ytmfladkimmnccaa.PG Go.Proofs.Ytmfladkimmnccaa.Rla Go.Proofs.Ytmfladkimmnccaa.Rlc Go.Proofs.Ytmfladkimmnccaa.Rlw Go.Proofs.YtmfladkimmnccaaW.PrintWords Go.Proofs.YtmfladkimmnccaaW.PrintMore
open Go.Proofs.Ytmfladkimmnccaa.Apl Go.Proofs.Ytmfladkimmnccaa.Sur Go.Proofs.Ytmfladkimmnccaa.Vcu

/-! ### 0 plus what a sum is -/
def Good (s : Nat) : Prop := s = 2143289344 ∨ (rg s ≤ 2139095040 ∧ s ≠ 2147483648 ∧ s < 4294967296)
theorem V_zero_of {s : Nat} (h : V s = 0) : rg s = 0 := by
  unfold V at h
  have h0 : U 23 (rg s) = 0 := by split at h <;> omega
  rcases Nat.eq_zero_or_pos (rg s) with c | c
  · exact c
  · have := U_pos (f := 23) c; omega
theorem rg_is' {s : Bool} {c : Nat → Ordering} {x : Nat} (h : Is s c x) : rg x ≤ 2139095040 := by
  obtain ⟨R, g, rfl⟩ := h
  rw [rg_pk (by omega)]
  omega
theorem add0_fin {s : Nat} (h : rg s < 2139095040) (h1 : s ≠ 2147483648) (h2 : s < 4294967296) : fadd 0 s = s := by
  have h0 := fadd_fin (a := 0) (b := s) (by decide) h
  have hv : V 0 = 0 := by decide
  rw [hv, Int.zero_add] at h0
  have ha : (V s).natAbs = U 23 (rg s) := by unfold V; split <;> omega
  rw [ha] at h0
  have hn := near_iff.1 (Near.self 23 (rg s))
  refine Is.unique h0 ⟨rg s, hn, ?_⟩ (sane_cq _ _ (by decide))
  rw [Nat.min_eq_left (by omega)]
  by_cases c : V s = 0
  · rw [if_pos c]
    have hz := V_zero_of c
    have e := pk_of h2
    rw [hz] at e ⊢
    have : sg s = false := by
      cases hs : sg s with
      | false => rfl
      | true => rw [hs] at e; exact absurd e.symm h1
    rw [show (sg 0 && sg s) = false from rfl]
    rw [this] at e
    exact e.symm
  · rw [if_neg c]
    have : decide (V s < 0) = sg s := by
      unfold V at c ⊢
      cases hs : sg s with
      | false => rw [hs] at c; simp at c ⊢
      | true => rw [hs] at c; simp at c ⊢; omega
    rw [this]
    exact (pk_of h2).symm
theorem add0 {s : Nat} (h : Good s) : fadd 0 s = s := by
  rcases h with rfl | ⟨h0, h1, h2⟩
  · exact fadd_nan (.inr (by decide))
  · by_cases c : rg s = 2139095040
    · rw [fadd_fin_inf (by decide) c, ← c]
      exact pk_of h2
    · exact add0_fin (by omega) h1 h2
theorem pk_inf (b : Bool) : Good (pk b 2139095040) := by
  cases b
  · exact .inr (by decide)
  · exact .inr (by decide)
theorem good_add {s x : Nat} (h : Good s) (hx : x < 4294967296) : Good (fadd s x) := by
  rcases h with rfl | ⟨h0, h1, h2⟩
  · exact .inl (fadd_nan (.inl (by decide)))
  by_cases cx : 2139095040 < rg x
  · exact .inl (fadd_nan (.inr cx))
  by_cases cs : rg s = 2139095040
  · by_cases cx2 : rg x = 2139095040
    · rw [fadd_inf_inf cs cx2]
      split
      · exact pk_inf _
      · exact .inl rfl
    · rw [fadd_inf_fin cs (by omega)]
      exact pk_inf _
  by_cases cx2 : rg x = 2139095040
  · rw [fadd_fin_inf (by omega) cx2]
    exact pk_inf _
  have hI := fadd_fin (a := s) (b := x) (by omega) (by omega)
  refine .inr ⟨rg_is' hI, fun he => ?_, fadd_lt _ _⟩
  obtain ⟨R, hn, hp⟩ := hI
  rw [he] at hp
  by_cases c : V s + V x = 0
  · rw [if_pos c] at hp
    cases hs : sg s with
    | false =>
      rw [hs] at hp
      unfold pk at hp
      simp at hp
      omega
    | true =>
      have hvs : V s ≤ 0 := by unfold V; rw [hs]; simp
      cases hx' : sg x with
      | false =>
        rw [hs, hx'] at hp
        unfold pk at hp
        simp at hp
        omega
      | true =>
        have hvx : V x ≤ 0 := by unfold V; rw [hx']; simp
        have hz := V_zero_of (show V s = 0 by omega)
        have e := pk_of h2
        rw [hz, hs] at e
        exact h1 e.symm
  · rw [if_neg c] at hp
    unfold pk at hp
    split at hp
    · have hR : R = 0 := by omega
      subst hR
      have hn' := near_iff.2 hn
      have h1' := Near.self 23 1
      rw [U_small (by decide)] at h1'
      have := Near.mono h1' hn' (by decide) (by decide) (by omega)
      omega
    · omega
theorem lp_fold (m : List Nat) : ∀ (d i s : Nat), i + d = m.length → lp (sumF m) d i s = (m.drop i).foldl fadd s
  | 0, i, s, h => by
    rw [List.drop_eq_nil_of_le (by omega)]
    rfl
  | d + 1, i, s, h => by
    rw [lp, lp_fold m d (i + 1) _ (by omega), drop_cons (show i < m.length by omega)]
    rfl
theorem good_fold : ∀ (m : List Nat) (s : Nat), (∀ x ∈ m, x < 4294967296) → Good s → Good (m.foldl fadd s)
  | [], _, _, h => h
  | x :: m, s, hm, h => good_fold m _ (fun y hy => hm y (List.mem_cons_of_mem _ hy)) (good_add h (hm x List.mem_cons_self))
theorem vSum1_l (m : List Nat) (hm : m.length ≤ 1048577) : ∀ (d i s k : Nat), i + d = m.length → d < k → vector_Sum.l0 k (s : Int) (C m) (m.length : Int) (i : Int) = some ((lp (sumF m) d i s : Nat) : Int)
  | 0, i, s, k, h, hk => by
    obtain ⟨k, rfl⟩ : ∃ j, k = j + 1 := ⟨k - 1, by omega⟩
    rw [vector_Sum.l0, if_neg (by omega)]; rfl
  | d + 1, i, s, k, h, hk => by
    obtain ⟨k, rfl⟩ : ∃ j, k = j + 1 := ⟨k - 1, by omega⟩
    rw [vector_Sum.l0, if_pos (by omega), if_pos (by omega), if_pos (by rw [C_len]; omega), rd_c, add_p]
    simp -implicitDefEqProofs only [Option.bind_some]
    rw [up1 (by omega)]
    exact vSum1_l m hm d (i + 1) _ k (by omega) (by omega)
theorem vSum1 (m : List Nat) (hm : m.length ≤ 1048577) (k : Nat) (hk : m.length < k) : vector_Sum.f k (C m) = some ((lp (sumF m) m.length 0 0 : Nat) : Int) := by
  unfold vector_Sum.f
  rw [C_len]
  exact vSum1_l m hm m.length 0 0 k (by omega) hk
theorem vSum_fold (m : List Nat) (hm : m.length ≤ 1048577) (k : Nat) (hk : 1048600 < k) (h0 : m.length ≤ 1048576) : vector_Sum.f k (C m) = some ((m.foldl fadd 0 : Nat) : Int) := by
  rw [vSum m h0 k (by omega), lp_fold m m.length 0 0 (by omega)]
  rfl
theorem vDot_l (m : List Nat) (hm : m.length ≤ 1048576) : ∀ (d i s k : Nat), i + d = m.length → d < k → vector_Dot.l0 k (C m) (s : Int) (C m) (m.length : Int) (i : Int) = some (((lp (sqF m) d i s : Nat) : Int), 0)
  | 0, i, s, k, h, hk => by
    obtain ⟨k, rfl⟩ : ∃ j, k = j + 1 := ⟨k - 1, by omega⟩
    rw [vector_Dot.l0, if_neg (by omega)]; rfl
  | d + 1, i, s, k, h, hk => by
    obtain ⟨k, rfl⟩ : ∃ j, k = j + 1 := ⟨k - 1, by omega⟩
    rw [vector_Dot.l0, if_pos (by omega), if_pos (by omega), if_pos (by rw [C_len]; omega), if_pos (by rw [C_len]; omega), rd_c, mul_p]
    simp -implicitDefEqProofs only [Option.bind_some]
    rw [add_p]
    simp -implicitDefEqProofs only [Option.bind_some]
    rw [up1 (by omega)]
    exact vDot_l m hm d (i + 1) _ k (by omega) (by omega)

/-! ### Apply of two lists of one length -/
theorem outs_range (op : Int) (l : List (List Int)) (g : Nat → Int) : ∀ n : Nat, (∀ i, i < n → Ker.doF op (xk l (i : Int) (l.length : Int) 0) (xk l (i : Int) (l.length : Int) 1) (xk l (i : Int) (l.length : Int) 2) = g i) → outs op l n = (List.range n).map g
  | 0, _ => rfl
  | n + 1, h => by
    rw [outs, outs_range op l g n (fun i hi => h i (by omega)), h n (by omega), List.range_succ, List.map_append]
    rfl
def two (op : Int) (a b : List Nat) (i : Nat) : Int := Ker.doF op ((a.getD i 0 : Nat) : Int) ((b.getD i 0 : Nat) : Int) 0
theorem ar_opn (op : Int) : Ker.ar (opn op) = 2 := by
  unfold opn
  split
  · rename_i h
    rcases h with rfl | rfl | rfl | rfl | rfl | rfl <;> rfl
  · rfl
theorem apply_two (op : Int) (a b : List Nat) (h : a.length = b.length) (hl : a.length ≤ 1048576) : apF (opn op) [C a, C b] = some ((List.range a.length).map (two (opn op) a b), 0) := by
  have hs : szs [C a, C b] = (a.length : Int) := by
    unfold szs
    simp only [List.foldl, C_len, ← h]
    split <;> omega
  unfold apF
  rw [if_neg (by rw [ar_opn]; simp), hs, if_pos (by omega), if_pos]
  · congr 2
    rw [Int.toNat_natCast]
    refine outs_range _ _ _ _ (fun i hi => ?_)
    have hlen : ([C a, C b].length : Int) = 2 := rfl
    have e : ∀ m : List Nat, m.length = a.length → rd (C m) (Int.tmod (i : Int) ((C m).length : Int)) = ((m.getD i 0 : Nat) : Int) := by
      intro m hm
      rw [C_len, hm, show Int.tmod (i : Int) (a.length : Int) = ((i % a.length : Nat) : Int) from rfl, Nat.mod_eq_of_lt hi, rd_c]
    have e0 : xk [C a, C b] (i : Int) ([C a, C b].length : Int) 0 = ((a.getD i 0 : Nat) : Int) := by
      unfold xk el
      rw [hlen, if_pos (by decide)]
      exact e a rfl
    have e1 : xk [C a, C b] (i : Int) ([C a, C b].length : Int) 1 = ((b.getD i 0 : Nat) : Int) := by
      unfold xk el
      rw [hlen, if_pos (by decide)]
      exact e b h.symm
    have e2 : xk [C a, C b] (i : Int) ([C a, C b].length : Int) 2 = 0 := by
      unfold xk
      rw [hlen, if_neg (by decide)]
    rw [e0, e1, e2]
    rfl
  · simp only [List.all_cons, List.all_nil, Bool.and_true, Bool.and_eq_true, fitb_iff]
    exact ⟨.inl (by rw [C_len]), .inl (by rw [C_len, h])⟩
theorem C_take (m : List Nat) (t : Nat) : (C m).take t = C (m.take t) := by unfold C; rw [List.map_take]
theorem C_drop (m : List Nat) (t : Nat) : (C m).drop t = C (m.drop t) := by unfold C; rw [List.map_drop]
theorem pats_mem {m : List Nat} (h : Pats m) : ∀ x ∈ m, x < 4294967296 := by
  intro x hx
  obtain ⟨i, hi, rfl⟩ := List.getElem_of_mem hx
  have := h i
  rwa [List.getD_eq_getElem?_getD, List.getElem?_eq_getElem hi] at this
theorem pats_take {m : List Nat} (h : Pats m) (t : Nat) : Pats (m.take t) := by
  intro i
  rw [List.getD_eq_getElem?_getD, List.getElem?_take]
  split
  · have := h i
    rwa [List.getD_eq_getElem?_getD] at this
  · exact Nat.zero_lt_succ _
theorem VectorCuts (A0 : Option Addr) (c0 : Nat) (l0 : List Int) (A1 : Option Addr) (c1 : Nat) (l1 : List Int) (at_ op : Int) (w : World) (hr0 : Kd.C (Kd.int .u32) w A0 l0.length l0) (hc0 : l0.length ≤ c0) (hr1 : Kd.C (Kd.int .u32) w A1 l1.length l1) (hc1 : l1.length ≤ c1) (hl0 : l0.length ≤ 1048576) (hl1 : l1.length ≤ 1048576) (hw0 : ∀ y ∈ l0, (Lit.int .u32 y).wf = true) (hw1 : ∀ y ∈ l1, (Lit.int .u32 y).wf = true) :
    Calls Try.prog 11 #[.agg #[.slice A0 l0.length c0, .slice A1 l1.length c1, .int .i64 at_, .int .i64 op]] w fun e w' => e = .returned (.bool true) ∧ Below w.heap.size w w' := by
  obtain ⟨m0, rfl, hp0⟩ := of_wf hw0
  obtain ⟨m1, rfl, hp1⟩ := of_wf hw1
  rw [C_len] at hl0 hl1
  obtain ⟨y, hy⟩ : ∃ y, y = m1.take m0.length := ⟨_, rfl⟩
  obtain ⟨x, hx⟩ : ∃ x, x = m0.take y.length := ⟨_, rfl⟩
  have hyl : y.length ≤ m0.length := by rw [hy, List.length_take]; omega
  have hxy : x.length = y.length := by rw [hx, List.length_take]; omega
  have hxl : x.length ≤ 1048576 := by omega
  have hpx : Pats x := by rw [hx]; exact pats_take hp0 _
  have hpy : Pats y := by rw [hy]; exact pats_take hp1 _
  obtain ⟨t, ht⟩ : ∃ t : Nat, mx 0 (mn at_ (x.length : Int)) = (t : Int) := ⟨(mx 0 (mn at_ (x.length : Int))).toNat, by have := mx_mn at_ x.length; omega⟩
  have htl : t ≤ x.length := by have := mx_mn at_ x.length; omega
  obtain ⟨k, hk⟩ : ∃ k, 2097152 + 1000 ≤ k := ⟨2097152 + 1000, Nat.le_refl _⟩
  have ha : All [x, y] := fun i => by
    match i with
    | 0 => exact ⟨hxl, hpx⟩
    | 1 => exact ⟨by show y.length ≤ 1048576; omega, hpy⟩
    | i + 2 => exact ⟨by simp, fun j => by simp⟩
  obtain ⟨p, e, a1, _, hpp, hpl⟩ := applies [x, y] (by show 2 ≤ 1048576; decide) ha (opn op)
  have a0 := apply_two op x y hxy hxl
  have a1 : apF (opn op) [C x, C y] = some (C p, e) := a1
  rw [a0] at a1
  simp only [Option.some.injEq, Prod.mk.injEq] at a1
  obtain ⟨ep, rfl⟩ := a1
  have at1 := apply_two op (x.take t) (y.take t) (by rw [List.length_take, List.length_take]; omega) (by rw [List.length_take]; omega)
  have at2 := apply_two op (x.drop t) (y.drop t) (by rw [List.length_drop, List.length_drop]; omega) (by rw [List.length_drop]; omega)
  have cut : (List.range (x.take t).length).map (two (opn op) (x.take t) (y.take t)) ++ (List.range (x.drop t).length).map (two (opn op) (x.drop t) (y.drop t)) = C p := by
    rw [← ep]
    have h1 : (List.range (x.take t).length).map (two (opn op) (x.take t) (y.take t)) = (List.range t).map (two (opn op) x y) := by
      rw [List.length_take, Nat.min_eq_left htl]
      refine List.map_congr_left (fun i hi => ?_)
      have hi := List.mem_range.1 hi
      unfold two
      simp only [List.getD_eq_getElem?_getD, List.getElem?_take, if_pos hi]
    have h2 : (List.range (x.drop t).length).map (two (opn op) (x.drop t) (y.drop t)) = ((List.range (x.length - t)).map (t + ·)).map (two (opn op) x y) := by
      rw [List.length_drop, List.map_map]
      refine List.map_congr_left (fun i hi => ?_)
      unfold two
      simp only [List.getD_eq_getElem?_getD, List.getElem?_drop, Function.comp]
    rw [h1, h2, ← List.map_append]
    congr 1
    have := List.range_add (n := t) (m := x.length - t)
    rw [← this]
    congr 1
    omega
  have f1 := vSum_fold (x.take t) (by rw [List.length_take]; omega) k (by omega) (by rw [List.length_take]; omega)
  have f3 := vSum_fold x (by omega) k (by omega) hxl
  have gd : Good ((x.take t).foldl fadd 0) := good_fold _ _ (pats_mem (pats_take hpx t)) (.inr (by decide))
  have fe : (((x.take t).foldl fadd 0) :: x.drop t).foldl fadd 0 = x.foldl fadd 0 := by
    rw [List.foldl_cons, add0 gd, ← List.foldl_append, List.take_append_drop]
  have f2 : vector_Sum.f k ([(((x.take t).foldl fadd 0 : Nat) : Int)] ++ C (x.drop t)) = some ((x.foldl fadd 0 : Nat) : Int) := by
    have hlen : (((x.take t).foldl fadd 0) :: x.drop t).length ≤ 1048577 := by rw [List.length_cons, List.length_drop]; omega
    have := vSum1 (((x.take t).foldl fadd 0) :: x.drop t) hlen k (by omega)
    rw [lp_fold _ _ 0 0 (Nat.zero_add _), List.drop_zero, fe] at this
    exact this
  have sq := vSq x hxl k (by omega)
  have dt : vector_Dot.f k (C x) (C x) = some (((lp (sqF x) x.length 0 0 : Nat) : Int), 0) := by
    unfold vector_Dot.f
    rw [if_pos rfl, C_len]
    exact vDot_l x hxl x.length 0 0 k (by omega) (by omega)
  refine cuts k A0 c0 (C m0) A1 c1 (C m1) at_ op w hr0 hc0 hr1 hc1 (by rw [C_len]; exact hl1) (by rw [C_len]; exact hl0) ((x.take t).foldl fadd 0 : Nat) (x.foldl fadd 0 : Nat) (lp (sqF x) x.length 0 0 : Nat) (C p) _ _ cut (by rw [C_len]; exact hpl) (alike_p p hpl hpp k (by omega)) (sure_p k (by omega)) ?_
  intro X Y tn hX hXY hY htn
  have eY : Y = C y := by rw [hY, C_len, C_take, ← hy]
  subst eY
  have eX : X = C x := by rw [hX, C_len, C_take, ← hx]
  subst eX
  rw [C_len, ht] at htn
  have etn : tn = t := by omega
  subst etn
  rw [C_take, C_take, C_drop, C_drop]
  exact ⟨f1, f2, f3, dt, sq, a0.trans (by rw [ep]), at1, at2⟩
end Go.Proofs.Ytmfladkimmnccaa.Pure
