/- A law for a region that draws the order of its operations, by an invariant over those that are done. No condition. -/
import Derived.Orders
import Derived.Below
import Derived.Laws.Tables
import Derived.Great.BuildSlice
set_option linter.unusedVariables false
set_option linter.unusedSimpArgs false
namespace Go.Proofs.YtpgodgfkbkfpcaaGreat.Rin
open Go Go.RowKit
section
variable {P : Program} {ops : Array Oper} {Q : Exit → Act → World → Prop}
/-- Each operation waits for such alone as stand ahead of it. -/
def backB (ops : Array Oper) : Bool := (List.range ops.size).all fun i => ((ops[i]?).map fun o => o.after.all fun e => decide (e.on < i)).getD true
/-- Operation n waits for all that stand ahead of it, or for one that does. -/
def coverB (ops : Array Oper) (n : Nat) : Bool := ((ops[n]?).map fun o => (List.range n).all fun j => o.after.any fun e => Region.binds .any e && (e.on == j || ((ops[e.on]?).map fun o' => o'.after.any fun e' => e'.on == j && Region.binds .any e').getD false)).getD true
theorem back_spec (h : backB ops = true) {i : Nat} {o : Oper} (ho : ops[i]? = some o) : ∀ e ∈ o.after, e.on < i := by
  intro e he
  have hi : i < ops.size := (Array.getElem?_eq_some_iff.1 ho).1
  have := List.all_eq_true.1 h i (List.mem_range.2 hi)
  rw [ho] at this
  simp only [Option.map_some, Option.getD_some, Array.all_eq_true_iff_forall_mem, decide_eq_true_eq] at this
  exact this e he
/-- What is done has all that it waits for done. -/
def Closed (ops : Array Oper) (listed : Array Bool) : Prop := ∀ i o, ops[i]? = some o → listed.getD i false = true → ∀ e ∈ o.after, Region.binds .any e = true → listed.getD e.on false = true
theorem cover_spec {n : Nat} (h : coverB ops n = true) {o : Oper} (ho : ops[n]? = some o) {listed : Array Bool} (hc : Closed ops listed) (hall : ∀ e ∈ o.after, Region.binds .any e = true → listed.getD e.on false = true) : ∀ j, j < n → listed.getD j false = true := by
  intro j hj
  unfold coverB at h
  rw [ho] at h
  simp only [Option.map_some, Option.getD_some] at h
  have := List.all_eq_true.1 h j (List.mem_range.2 hj)
  rw [← Array.any_toList, List.any_eq_true] at this
  obtain ⟨e, he, h2⟩ := this
  simp only [Bool.and_eq_true, Bool.or_eq_true, beq_iff_eq] at h2
  have he' := Array.mem_toList_iff.1 he
  have h1 := hall e he' h2.1
  rcases h2.2 with h3 | h3
  · rw [← h3]; exact h1
  · cases ho' : ops[e.on]? with
    | none => rw [ho'] at h3; cases h3
    | some o' =>
      rw [ho'] at h3
      simp only [Option.map_some, Option.getD_some] at h3
      rw [← Array.any_toList, List.any_eq_true] at h3
      obtain ⟨e', he2, h4⟩ := h3
      simp only [Bool.and_eq_true, beq_iff_eq] at h4
      rw [← h4.1]
      exact hc e.on o' ho' h1 e' (Array.mem_toList_iff.1 he2) h4.2
theorem Closed.set {listed : Array Bool} {i : Nat} {o : Oper} (hc : Closed ops listed) (ho : ops[i]? = some o) (hall : ∀ e ∈ o.after, Region.binds .any e = true → listed.getD e.on false = true) : Closed ops (listed.setIfInBounds i true) := by
  intro j o' ho' hj e he hb
  by_cases hij : i = j
  · subst hij
    rw [ho] at ho'
    injection ho' with ho'
    subst ho'
    exact getD_set_true (hall e he hb)
  · rw [getD_set_ne false hij] at hj
    exact getD_set_true (hc j o' ho' hj e he hb)
/-- Nothing is ready: all are done. -/
theorem all_done {listed : Array Bool} (hb : backB ops = true) (hr : Region.ready .any ops listed = []) : ∀ i, i < ops.size → listed.getD i true = true := by
  intro i
  induction i using Nat.strongRecOn with
  | ind i ih =>
    intro hi
    cases c : listed.getD i true with
    | true => rfl
    | false =>
      exfalso
      have hm : i ∈ Region.ready .any ops listed := by
        rw [mem_ready]
        refine ⟨c, ops[i], (Array.getElem?_eq_getElem hi), fun e he _ => ?_⟩
        have hlt := back_spec hb (Array.getElem?_eq_getElem hi) e he
        have h1 := ih e.on hlt (by omega)
        have hs : e.on < listed.size := by
          rcases Nat.lt_or_ge i listed.size with h' | h'
          · omega
          · simp [Array.getElem?_eq_none h'] at c
        simpa [Array.getD, hs] using h1
      rw [hr] at hm
      cases hm
/-- THE LAW: an invariant over what is done. The last operation waits for all others. -/
theorem wpAny_inv (n : Nat) (hn : ops.size = n + 1) (hb : backB ops = true) (hc : coverB ops n = true) (G : Act → World → Prop) (S : Nat → Act → World → Prop)
    (hstep : ∀ i o a w, i < n → ops[i]? = some o → G a w → (∀ e ∈ o.after, Region.binds .any e = true → S e.on a w) →
      wpOp P ops Q i (fun a' w' => G a' w' ∧ S i a' w' ∧ ∀ j, j < n → j ≠ i → S j a w → S j a' w') a w)
    (hlast : ∀ a w, G a w → (∀ i, i < n → S i a w) → wpOp P ops Q n (Q .normal) a w) :
    ∀ fuel listed a w, listed.size = n + 1 → listed.toList.count false ≤ fuel → listed.getD n true = false → Closed ops listed → G a w → (∀ i, i < n → listed.getD i true = true → S i a w) → wpAny P .any ops Q fuel listed a w := by
  intro fuel
  induction fuel with
  | zero =>
    intro listed a w hs hf hl _
    exfalso
    have : false ∈ listed.toList := by
      have h1 : n < listed.size := by omega
      have h2 : listed[n] = false := by simpa [Array.getD, h1] using hl
      rw [← h2]
      exact Array.getElem_mem_toList h1
    have := List.count_pos_iff.2 this
    omega
  | succ fuel ih =>
    intro listed a w hs hf hl hcl hG hS
    refine ⟨fun hr => ?_, fun i hi => ?_⟩
    · have := all_done hb hr n (by omega)
      rw [hl] at this
      cases this
    · obtain ⟨h0, o, ho, hall⟩ := mem_ready.1 hi
      have hio : i < ops.size := (Array.getElem?_eq_some_iff.1 ho).1
      have hil : i < listed.size := by omega
      have hcnt : (listed.setIfInBounds i true).toList.count false ≤ fuel := by
        have h2 : listed[i] = false := by simpa [Array.getD, hil] using h0
        have hil' : i < listed.toList.length := by simpa using hil
        rw [Array.toList_setIfInBounds, List.count_set hil']
        have : listed.toList[i] = false := by simpa using h2
        have hp : 0 < listed.toList.count false := List.count_pos_iff.2 (by rw [← this]; exact List.getElem_mem hil')
        rw [this, if_pos (by rfl), if_neg (by decide)]
        omega
      by_cases hin : i = n
      · subst hin
        have hD : ∀ j, j < i → S j a w := fun j hj => by
          have := cover_spec hc ho hcl hall j hj
          refine hS j hj ?_
          have hjl : j < listed.size := by omega
          simpa [Array.getD, hjl] using this
        refine wpOp_mono (fun a' w' hQ => ?_) (hlast a w hG hD)
        refine wpAny_done ?_ hQ fuel
        rw [List.eq_nil_iff_forall_not_mem]
        intro j hj
        obtain ⟨j0, o', ho', hall'⟩ := mem_ready.1 hj
        have hjo : j < ops.size := (Array.getElem?_eq_some_iff.1 ho').1
        by_cases hji : i = j
        · subst hji
          simp [hil] at j0
        · rw [getD_set_ne true hji] at j0
          have := cover_spec hc ho hcl hall j (by omega)
          have hjl : j < listed.size := by omega
          simp [Array.getD, hjl] at this j0
          rw [this] at j0
          cases j0
      · have hin' : i < n := by omega
        refine wpOp_mono (fun a' w' hQ => ?_) (hstep i o a w hin' ho hG fun e he e2 => ?_)
        · obtain ⟨g, s, k⟩ := hQ
          refine ih _ _ _ (by simpa using hs) hcnt ?_ (hcl.set ho hall) g fun j hj hjt => ?_
          · rw [getD_set_ne true hin]; exact hl
          · by_cases hji : j = i
            · subst hji; exact s
            · rw [getD_set_ne true (Ne.symm hji)] at hjt
              exact k j hj hji (hS j hj hjt)
        · have h1 := hall e he e2
          have hlt := back_spec hb ho e he
          refine hS e.on (by omega) ?_
          have hjl : e.on < listed.size := by omega
          simpa [Array.getD, hjl] using h1

/-- A world from which w0 can be read still; the frame: as it was but for what was done. -/
structure Reach (a0 : Act) (w0 : World) (N n : Nat) (D : Nat → Tmp) (a : Act) (w : World) : Prop where
  size : a.tmps.size = N
  defers : a.defers = a0.defers
  rest : ∀ t, (∀ i, i < n → D i ≠ t) → a.eval (.tmp t) = a0.eval (.tmp t)
  below : Below w0.heap.size w0 w
theorem eval_put (a : Act) (d : Tmp) (v : Value) (h : d < a.tmps.size) : (a.put (some d) v).eval (.tmp d) = v := by
  show (a.tmps.setIfInBounds d v).getD d undef = v
  simp [h]
theorem eval_put_ne (a : Act) (d t : Tmp) (v : Value) (h : d ≠ t) : (a.put (some d) v).eval (.tmp t) = a.eval (.tmp t) := by
  show (a.tmps.setIfInBounds d v).getD t undef = a.tmps.getD t undef
  simp [Array.getElem?_setIfInBounds_ne h]
/-- THE LAW FOR A REGION WHOSE OPERATIONS BUT THE LAST PUT A VALUE EACH INTO A SLOT OF ITS OWN AND TURN NOTHING THAT LAY. -/
theorem wp_region_slots {id : Nat} {a0 : Act} {w0 : World} (n N : Nat) (D : Nat → Tmp) (T : Tmp → Value → World → Prop)
    (hm : P.follows .mixedOrders = true) (hn : ops.size = n + 1) (hb : backB ops = true) (hc : coverB ops n = true)
    (hN : a0.tmps.size = N) (hDN : ∀ i, i < n → D i < N) (hinj : ∀ i j, i < n → j < n → D i = D j → i = j)
    (hT : ∀ t v w w', T t v w → Below w.heap.size w w' → T t v w')
    (hstep : ∀ i o a w, i < n → ops[i]? = some o → Reach a0 w0 N n D a w → (∀ k, k < n → (o.after.any fun e => e.on == k && Region.binds .any e) = true → T (D k) (a.eval (.tmp (D k))) w) →
      wpOp P ops Q i (fun a' w' => ∃ v, a' = a.put (some (D i)) v ∧ T (D i) v w' ∧ Below w.heap.size w w') a w)
    (hlast : ∀ a w, Reach a0 w0 N n D a w → (∀ i, i < n → T (D i) (a.eval (.tmp (D i))) w) → wpOp P ops Q n (Q .normal) a w) : (Code.region id ops true).wp P Q a0 w0 := by
  refine wp_region_any hm ?_
  refine wpAny_inv n hn hb hc (Reach a0 w0 N n D) (fun i a w => T (D i) (a.eval (.tmp (D i))) w) ?_ hlast _ _ _ _ (by simp [hn]) ?_ ?_ ?_ ?_ ?_
  · intro i o a w hi ho hR hS
    refine wpOp_mono (fun a' w' h => ?_) (hstep i o a w hi ho hR fun k hk he => ?_)
    · obtain ⟨v, rfl, hv, hB⟩ := h
      have hd : D i < a.tmps.size := by rw [hR.size]; exact hDN i hi
      refine ⟨⟨?_, hR.defers, fun t ht => ?_, ?_⟩, ?_, fun j hj hji hs => ?_⟩
      · show (a.tmps.setIfInBounds (D i) v).size = N
        rw [Array.size_setIfInBounds]; exact hR.size
      · rw [eval_put_ne _ _ _ _ (ht i hi)]; exact hR.rest t ht
      · exact hR.below.trans ⟨hB.os, hB.tape, hB.output, hB.size, fun g hg => hB.block g (Nat.lt_of_lt_of_le hg hR.below.size)⟩
      · rw [eval_put _ _ _ hd]; exact hv
      · rw [eval_put_ne _ _ _ _ (fun e => hji (hinj j i hj hi e.symm))]
        exact hT _ _ _ _ hs hB
    · rw [← Array.any_toList, List.any_eq_true] at he
      obtain ⟨e, he, h2⟩ := he
      simp only [Bool.and_eq_true, beq_iff_eq] at h2
      have := hS e (Array.mem_toList_iff.1 he) h2.2
      rw [h2.1] at this
      exact this
  · simp [hn, List.count_replicate]
  · simp [hn, Array.getD]
  · intro j o ho hj
    exfalso
    have : j < ops.size := (Array.getElem?_eq_some_iff.1 ho).1
    simp [Array.getD, this] at hj
  · exact ⟨hN, rfl, fun _ _ => rfl, ⟨rfl, rfl, rfl, Nat.le_refl _, fun _ _ => rfl⟩⟩
  · intro i hi h
    exfalso
    have : i < ops.size := by omega
    simp [Array.getD, this] at h
end
end Go.Proofs.YtpgodgfkbkfpcaaGreat.Rin
