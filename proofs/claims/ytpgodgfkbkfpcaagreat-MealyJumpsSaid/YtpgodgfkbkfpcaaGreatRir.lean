/- A region that draws its order: the law told what is done: an operation may turn what lay. No condition. -/
import Derived.Test.YtpgodgfkbkfpcaaGreatOnf
set_option linter.unusedVariables false
set_option linter.unusedSimpArgs false
namespace Go.Proofs.YtpgodgfkbkfpcaaGreat.Rin
open Go Go.RowKit
section
variable {P : Program} {ops : Array Oper} {Q : Exit → Act → World → Prop}
/-- The law, told what is done. -/
theorem wpAny_done' (n : Nat) (hn : ops.size = n + 1) (hb : backB ops = true) (hc : coverB ops n = true) (G : Array Bool → Act → World → Prop) (S : Nat → Act → World → Prop)
    (hstep : ∀ i o (listed : Array Bool) a w, i < n → ops[i]? = some o → listed.getD i false = false → Closed ops listed → (∀ e ∈ o.after, Region.binds .any e = true → listed.getD e.on false = true) → G listed a w → (∀ j, j < n → listed.getD j false = true → S j a w) →
      wpOp P ops Q i (fun a' w' => G (listed.setIfInBounds i true) a' w' ∧ S i a' w' ∧ ∀ j, j < n → j ≠ i → listed.getD j false = true → S j a' w') a w)
    (hlast : ∀ listed a w, G listed a w → (∀ i, i < n → S i a w) → wpOp P ops Q n (Q .normal) a w) :
    ∀ fuel listed a w, listed.size = n + 1 → listed.toList.count false ≤ fuel → listed.getD n true = false → Closed ops listed → G listed a w → (∀ i, i < n → listed.getD i true = true → S i a w) → wpAny P .any ops Q fuel listed a w := by
  intro fuel
  induction fuel with
  | zero =>
    intro listed a w hs hf hl _
    exfalso
    have : false ∈ listed.toList := by
      have h1 : n < listed.size := by omega
      have h2 : listed[n] = false := by simpa [Array.getD, h1] using hl
      rw [← h2]
      exact Array.getElem_mem_toList h1
    have := List.count_pos_iff.2 this
    omega
  | succ fuel ih =>
    intro listed a w hs hf hl hcl hG hS
    refine ⟨fun hr => ?_, fun i hi => ?_⟩
    · have := all_done hb hr n (by omega)
      rw [hl] at this
      cases this
    · obtain ⟨h0, o, ho, hall⟩ := mem_ready.1 hi
      have hio : i < ops.size := (Array.getElem?_eq_some_iff.1 ho).1
      have hil : i < listed.size := by omega
      have hcnt : (listed.setIfInBounds i true).toList.count false ≤ fuel := by
        have h2 : listed[i] = false := by simpa [Array.getD, hil] using h0
        have hil' : i < listed.toList.length := by simpa using hil
        rw [Array.toList_setIfInBounds, List.count_set hil']
        have : listed.toList[i] = false := by simpa using h2
        have hp : 0 < listed.toList.count false := List.count_pos_iff.2 (by rw [← this]; exact List.getElem_mem hil')
        rw [this, if_pos (by rfl), if_neg (by decide)]
        omega
      by_cases hin : i = n
      · subst hin
        have hD : ∀ j, j < i → S j a w := fun j hj => by
          have := cover_spec hc ho hcl hall j hj
          refine hS j hj ?_
          have hjl : j < listed.size := by omega
          simpa [Array.getD, hjl] using this
        refine wpOp_mono (fun a' w' hQ => ?_) (hlast listed a w hG hD)
        refine wpAny_done ?_ hQ fuel
        rw [List.eq_nil_iff_forall_not_mem]
        intro j hj
        obtain ⟨j0, o', ho', hall'⟩ := mem_ready.1 hj
        have hjo : j < ops.size := (Array.getElem?_eq_some_iff.1 ho').1
        by_cases hji : i = j
        · subst hji
          simp [hil] at j0
        · rw [getD_set_ne true hji] at j0
          have := cover_spec hc ho hcl hall j (by omega)
          have hjl : j < listed.size := by omega
          simp [Array.getD, hjl] at this j0
          rw [this] at j0
          cases j0
      · have hin' : i < n := by omega
        have hil2 : listed.getD i false = false := by simpa [Array.getD, hil] using h0
        refine wpOp_mono (fun a' w' hQ => ?_) (hstep i o listed a w hin' ho hil2 hcl hall hG fun j hj hjt => hS j hj ?_)
        · obtain ⟨g, s, k⟩ := hQ
          refine ih _ _ _ (by simpa using hs) hcnt ?_ (hcl.set ho hall) g fun j hj hjt => ?_
          · rw [getD_set_ne true hin]; exact hl
          · by_cases hji : j = i
            · subst hji; exact s
            · rw [getD_set_ne true (Ne.symm hji)] at hjt
              have hjl : j < listed.size := by omega
              exact k j hj hji (by simpa [Array.getD, hjl] using hjt)
        · have hjl : j < listed.size := by omega
          simpa [Array.getD, hjl] using hjt
theorem wp_region_done {id : Nat} {a0 : Act} {w0 : World} (n N : Nat) (D : Nat → Tmp) (T : Tmp → Value → World → Prop) (R : (Nat → Prop) → World → Prop)
    (hm : P.follows .mixedOrders = true) (hn : ops.size = n + 1) (hb : backB ops = true) (hc : coverB ops n = true)
    (hN : a0.tmps.size = N) (hDN : ∀ i, i < n → D i < N) (hinj : ∀ i j, i < n → j < n → D i = D j → i = j) (hR0 : R (fun _ => False) (w0.drewN 1))
    (hstep : ∀ i o (done : Nat → Prop) a w, i < n → ops[i]? = some o → ¬ done i → (∀ j o', ops[j]? = some o' → done j → ∀ e ∈ o'.after, Region.binds .any e = true → done e.on) → (∀ e ∈ o.after, Region.binds .any e = true → done e.on) →
      a.tmps.size = N → (∀ t, (∀ i, i < n → D i ≠ t) → a.eval (.tmp t) = a0.eval (.tmp t)) → R done w → (∀ j, j < n → done j → T (D j) (a.eval (.tmp (D j))) w) →
      wpOp P ops Q i (fun a' w' => ∃ v, a' = a.put (some (D i)) v ∧ T (D i) v w' ∧ R (fun j => j = i ∨ done j) w' ∧ ∀ j, j < n → done j → ∀ u, T (D j) u w → T (D j) u w') a w)
    (hlast : ∀ done a w, a.tmps.size = N → a.defers = a0.defers → (∀ t, (∀ i, i < n → D i ≠ t) → a.eval (.tmp t) = a0.eval (.tmp t)) → R done w → (∀ i, i < n → T (D i) (a.eval (.tmp (D i))) w) → wpOp P ops Q n (Q .normal) a w) : (Code.region id ops true).wp P Q a0 w0 := by
  refine wp_region_any hm ?_
  refine wpAny_done' n hn hb hc (fun listed a w => a.tmps.size = N ∧ a.defers = a0.defers ∧ (∀ t, (∀ i, i < n → D i ≠ t) → a.eval (.tmp t) = a0.eval (.tmp t)) ∧ listed.size = n + 1 ∧ R (fun j => listed.getD j false = true) w) (fun i a w => T (D i) (a.eval (.tmp (D i))) w) ?_ (fun listed a w hG hS => hlast _ a w hG.1 hG.2.1 hG.2.2.1 hG.2.2.2.2 hS) _ _ _ _ (by simp [hn]) ?_ ?_ ?_ ?_ ?_
  · intro i o listed a w hi ho hl hcl hall hG hS
    refine wpOp_mono (fun a' w' h => ?_) (hstep i o (fun j => listed.getD j false = true) a w hi ho (by rw [hl]; decide) (fun j o' ho' hj e he hb => hcl j o' ho' hj e he hb) hall hG.1 hG.2.2.1 hG.2.2.2.2 hS)
    obtain ⟨v, rfl, hv, hR, hst⟩ := h
    have hd : D i < a.tmps.size := by rw [hG.1]; exact hDN i hi
    have hR' : R (fun j => (listed.setIfInBounds i true).getD j false = true) w' := by
      have e : (fun j => (listed.setIfInBounds i true).getD j false = true) = fun j => j = i ∨ listed.getD j false = true := by
        funext j
        apply propext
        by_cases hij : i = j
        · subst hij
          have : i < listed.size := by have := hG.2.2.2.1; omega
          simp [this]
        · rw [getD_set_ne false hij]
          simp [Ne.symm hij]
      rw [e]; exact hR
    refine ⟨⟨?_, hG.2.1, fun t ht => ?_, by simpa using hG.2.2.2.1, hR'⟩, ?_, fun j hj hji hjl => ?_⟩
    · show (a.tmps.setIfInBounds (D i) v).size = N
      rw [Array.size_setIfInBounds]; exact hG.1
    · rw [eval_put_ne _ _ _ _ (ht i hi)]; exact hG.2.2.1 t ht
    · rw [eval_put _ _ _ hd]; exact hv
    · rw [eval_put_ne _ _ _ _ (fun e => hji (hinj j i hj hi e.symm))]
      exact hst j hj hjl _ (hS j hj hjl)
  · simp [hn, List.count_replicate]
  · simp [hn, Array.getD]
  · intro j o ho hj
    exfalso
    have : j < ops.size := (Array.getElem?_eq_some_iff.1 ho).1
    simp [Array.getD, this] at hj
  · refine ⟨hN, rfl, fun _ _ => rfl, by simp [hn], ?_⟩
    have e : (fun j => (Array.replicate ops.size false).getD j false = true) = fun _ => False := by
      funext j
      apply propext
      by_cases hj : j < ops.size <;> simp [Array.getD, hj]
    rw [e]; exact hR0
  · intro i hi h
    exfalso
    have : i < ops.size := by omega
    simp [Array.getD, this] at h
end
end Go.Proofs.YtpgodgfkbkfpcaaGreat.Rin
