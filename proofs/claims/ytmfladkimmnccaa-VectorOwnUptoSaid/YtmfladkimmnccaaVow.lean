/- lathelaw05.VectorOwn as a walk: five rows of their own, written over and made longer. Conditions: as the hypotheses say. -/
import Derived.Test.YtmfladkimmnccaaApl
import Derived.Test.YtmfladkimmnccaaPGx1
import Derived.Test.YtmfladkimmnccaaPGx13
import Derived.Test.YtmfladkimmnccaaPGx14
import Derived.Test.YtmfladkimmnccaaPGx15
set_option linter.unusedVariables false
set_option linter.unusedSimpArgs false
namespace Go.Proofs.Ytmfladkimmnccaa.Vow
open Go.RowKit Lathe Go.Proofs.YtmfladkimmnccaaW.PrintWords Go.Proofs.YtmfladkimmnccaaW.PrintMore Go.Proofs.YtmfladkimmnccaaW.PrintLast Go.Proofs.Ytmfladkimmnccaa.Sur Go.Proofs.Ytmfladkimmnccaa.Ker Go.Proofs.Ytmfladkimmnccaa.Apl Go.Proofs.Ytmfladkimmnccaa.PG

abbrev RI (W : World) (base : Nat) (v : Value) (x : List Int) : Prop := Kd.R (Kd.int .u32) 52 W base (fun k => some k = v.ownBlock) v x
def upd {α : Type} (f : Nat → α) (i : Nat) (a : α) : Nat → α := fun j => if j = i then a else f j
theorem upd_at {α : Type} (f : Nat → α) (i : Nat) (a : α) : upd f i a i = a := if_pos rfl
theorem upd_other {α : Type} (f : Nat → α) {i j : Nat} (a : α) (h : j ≠ i) : upd f i a j = f j := if_neg h
/-- Five rows, each in blocks of its own. -/
structure St (W : World) (base : Nat) (v : Nat → Value) (x : Nat → List Int) : Prop where
  r : ∀ i, i < 5 → RI W base (v i) (x i)
  ap : ∀ i j, i < 5 → j < 5 → i ≠ j → ∀ k, (v i).ownBlock = some k → (v j).ownBlock ≠ some k
theorem St.below {W W' : World} {base : Nat} {v : Nat → Value} {x : Nat → List Int} (h : St W base v x) (hb : Below W.heap.size W W') : St W' base v x := ⟨fun i hi => Kd.R_below (h.r i hi) hb, h.ap⟩
theorem St.put {W : World} {base : Nat} {v : Nat → Value} {x : Nat → List Int} (h : St W base v x) (i : Nat) (hi : i < 5) {g n cap : Nat} (hv : v i = .slice (some ⟨g, 0, none⟩) n cap) (j y : Int) :
    St (W.setCell ⟨g, j.toNat, none⟩ (.int .u32 y)) base v (upd x i ((x i).set j.toNat y)) ∧ W.grownBy (W.setCell ⟨g, j.toNat, none⟩ (.int .u32 y)) (some g) := by
  have hr := h.r i hi
  have hp := hr
  unfold RI at hp
  rw [hv] at hp
  have hq := Kd.R_putg hp j y
  refine ⟨⟨fun m hm => ?_, h.ap⟩, hq.2⟩
  by_cases c : m = i
  · subst c
    unfold RI
    rw [upd_at, hv]
    exact hq.1
  · rw [upd_other _ _ c]
    refine Kd.R_step (h.r m hm) (fun k hk hlt => hq.2.block k hlt (fun he => ?_))
    exact h.ap m i hm hi c k hk.symm (by rw [hv]; exact he.symm)
theorem St.app {W W1 : World} {base : Nat} {v : Nat → Value} {x : Nat → List Int} (h : St W base v x) (i : Nat) (hi : i < 5) {v1 : Value} {y : List Int} (hr : Kd.R (Kd.int .u32) 52 W1 base (fun _ => True) v1 y) (hg : W.grownBy W1 (v i).ownBlock) (hat : v1.ownBlock = (v i).ownBlock ∨ ∃ b, v1.ownBlock = some b ∧ W.heap.size ≤ b) :
    St W1 base (upd v i v1) (upd x i y) := by
  have far : ∀ m, m < 5 → m ≠ i → ∀ k, (v m).ownBlock = some k → v1.ownBlock ≠ some k := by
    intro m hm hne k hk he
    rcases hat with hat | ⟨b, hb, hlt⟩
    · exact h.ap m i hm hi hne k hk (hat.symm.trans he)
    · have := Kd.R_lt (h.r m hm) k hk
      rw [hb] at he
      cases he
      omega
  refine ⟨fun m hm => ?_, fun m n hm hn hne k hk => ?_⟩
  · by_cases c : m = i
    · subst c
      unfold RI
      rw [upd_at, upd_at]
      exact Kd.R_tight rfl hr
    · rw [upd_other _ _ c, upd_other _ _ c]
      exact Kd.R_step (h.r m hm) (fun k hk hlt => hg.block k hlt (fun he => h.ap m i hm hi c k hk.symm he.symm))
  · by_cases cm : m = i
    · subst cm
      rw [upd_at] at hk
      rw [upd_other _ _ (fun e => hne e.symm)]
      intro hn'
      exact far n hn (fun e => hne e.symm) k hn' hk
    · rw [upd_other _ _ cm] at hk
      by_cases cn : n = i
      · subst cn
        rw [upd_at]
        exact far m hm cm k hk
      · rw [upd_other _ _ cn]
        exact h.ap m n hm hn hne k hk
def five {α : Type} (a b c d e : α) : Nat → α
  | 0 => a | 1 => b | 2 => c | 3 => d | _ => e
theorem St.mk5 {W W1 W2 W3 W4 W5 : World} {base b2 b3 b4 b5 : Nat} {v1 v2 v3 v4 v5 : Value} {x1 x2 x3 x4 x5 : List Int}
    (h1 : Kd.R (Kd.int .u32) 52 W1 base (fun _ => True) v1 x1) (h2 : Kd.R (Kd.int .u32) 52 W2 b2 (fun _ => True) v2 x2) (h3 : Kd.R (Kd.int .u32) 52 W3 b3 (fun _ => True) v3 x3) (h4 : Kd.R (Kd.int .u32) 52 W4 b4 (fun _ => True) v4 x4) (h5 : Kd.R (Kd.int .u32) 52 W5 b5 (fun _ => True) v5 x5)
    (s1 : base ≤ W1.heap.size) (s2 : W1.heap.size ≤ b2) (s3 : b2 ≤ W2.heap.size) (s4 : W2.heap.size ≤ b3) (s5 : b3 ≤ W3.heap.size) (s6 : W3.heap.size ≤ b4) (s7 : b4 ≤ W4.heap.size) (s8 : W4.heap.size ≤ b5)
    (g1 : Below W1.heap.size W1 W) (g2 : Below W2.heap.size W2 W) (g3 : Below W3.heap.size W3 W) (g4 : Below W4.heap.size W4 W) (g5 : Below W5.heap.size W5 W) : St W base (five v1 v2 v3 v4 v5) (five x1 x2 x3 x4 x5) := by
  have r1 := Kd.R_lt h1; have r2 := Kd.R_lt h2; have r3 := Kd.R_lt h3; have r4 := Kd.R_lt h4
  have q2 := Kd.R_base h2; have q3 := Kd.R_base h3; have q4 := Kd.R_base h4; have q5 := Kd.R_base h5
  refine ⟨fun i hi => ?_, fun i j hi hj hne k hk hk' => ?_⟩
  · match i, hi with
    | 0, _ => exact Kd.R_tight rfl (Kd.R_below h1 g1)
    | 1, _ => exact Kd.R_tight rfl (Kd.R_lower (Kd.R_below h2 g2) (by omega))
    | 2, _ => exact Kd.R_tight rfl (Kd.R_lower (Kd.R_below h3 g3) (by omega))
    | 3, _ => exact Kd.R_tight rfl (Kd.R_lower (Kd.R_below h4 g4) (by omega))
    | 4, _ => exact Kd.R_tight rfl (Kd.R_lower (Kd.R_below h5 g5) (by omega))
  · have key : ∀ i j, i < 5 → j < 5 → i < j → (five v1 v2 v3 v4 v5 i).ownBlock = some k → (five v1 v2 v3 v4 v5 j).ownBlock = some k → False := by
      intro i j hi hj hlt hk hk'
      have ci : i = 0 ∨ i = 1 ∨ i = 2 ∨ i = 3 := by omega
      have cj : j = 1 ∨ j = 2 ∨ j = 3 ∨ j = 4 := by omega
      have f1 : i = 0 → base ≤ k ∧ k < W1.heap.size := fun e => by subst e; exact ⟨Kd.R_base h1 k hk, r1 k hk⟩
      have f2 : i = 1 → k < W2.heap.size := fun e => by subst e; exact r2 k hk
      have f3 : i = 2 → k < W3.heap.size := fun e => by subst e; exact r3 k hk
      have f4 : i = 3 → k < W4.heap.size := fun e => by subst e; exact r4 k hk
      have e2 : j = 1 → b2 ≤ k := fun e => by subst e; exact q2 k hk'
      have e3 : j = 2 → b3 ≤ k := fun e => by subst e; exact q3 k hk'
      have e4 : j = 3 → b4 ≤ k := fun e => by subst e; exact q4 k hk'
      have e5 : j = 4 → b5 ≤ k := fun e => by subst e; exact q5 k hk'
      omega
    rcases Nat.lt_or_ge i j with c | c
    · exact key i j hi hj c hk hk'
    · exact key j i hj hi (by omega) hk' hk
theorem lit1 {W : World} {A : Option Addr} {l : List Int} {c : Nat} (h : Kd.C (Kd.int .u32) W A l.length l) (hc : l.length ≤ c) : Kd.C (Kd.slice 52 (Kd.int .u32)) (W.alloc (.cells #[.slice A l.length c] 40)) (some ⟨W.heap.size, 0, none⟩) [l].length [l] := by
  refine ⟨rfl, by show 1 ≤ maxLen; decide, fun _ => ⟨⟨W.heap.size, 0, none⟩, rfl, fun j q hq => ?_⟩⟩
  have hj : j = 0 := by
    have := (List.getElem?_eq_some_iff.1 hq).1
    simp at this
    exact this
  subst hj
  simp at hq
  subst hq
  refine ⟨[.slice A l.length c], rfl, ⟨A, c, rfl, hc, Kd.C_alloc h _⟩, fun i u hu => ?_⟩
  have hi0 : i = 0 := by
    have := (List.getElem?_eq_some_iff.1 hu).1
    simp at this
    exact this
  subst hi0
  simp at hu
  subst hu
  simp [Addr.add, World.cell?_alloc_at]
abbrev ones : List Int := [1065353216, 1065353216, 1065353216]
/-- The five rows: the first and the last as they were made, the others of these lengths. -/
def Ok (W : World) (base : Nat) (v : Nat → Value) (l0 : List Int) (n1 n2 n3 : Nat) : Prop :=
  ∃ x, St W base v x ∧ x 0 = l0 ∧ x 4 = ones ∧ (x 1).length = n1 ∧ (x 2).length = n2 ∧ (x 3).length = n3
section
variable {W : World} {base : Nat} {v : Nat → Value} {l0 : List Int} {n1 n2 n3 : Nat}
theorem Ok.below {W' : World} (h : Ok W base v l0 n1 n2 n3) (hb : Below W.heap.size W W') : Ok W' base v l0 n1 n2 n3 := by
  obtain ⟨x, hx, hr⟩ := h
  exact ⟨x, hx.below hb, hr⟩
theorem Ok.form (h : Ok W base v l0 n1 n2 n3) (i : Nat) (hi : i < 5) {A : Option Addr} {n cap : Nat} (hv : v i = .slice A n cap) (hn : 0 < n) : ∃ g, A = some ⟨g, 0, none⟩ ∧ base ≤ g := by
  obtain ⟨x, hx, _⟩ := h
  have hr := hx.r i hi
  unfold RI at hr
  rw [hv] at hr
  have hl := (Kd.R_reads' hr).1
  obtain ⟨g, c, e, hb, _⟩ := Kd.R_form hr (by omega)
  cases e
  exact ⟨g, rfl, hb⟩
theorem Ok.cell (h : Ok W base v l0 n1 n2 n3) (i : Nat) (hi : i < 5) {g n cap : Nat} (hv : v i = .slice (some ⟨g, 0, none⟩) n cap) (j : Int) (h0 : 0 ≤ j) (h1 : j < n) : ∃ u, W.cell? ⟨g, j.toNat, none⟩ = some u ∧ W.frozen? ⟨g, j.toNat, none⟩ = false := by
  obtain ⟨x, hx, _⟩ := h
  have hr := hx.r i hi
  unfold RI at hr
  rw [hv] at hr
  exact ⟨_, Kd.R_celln 0 hr j h0 h1⟩
theorem Ok.put (h : Ok W base v l0 n1 n2 n3) (i : Nat) (hi : i = 1 ∨ i = 2 ∨ i = 3) {g n cap : Nat} (hv : v i = .slice (some ⟨g, 0, none⟩) n cap) (j y : Int) : Ok (W.setCell ⟨g, j.toNat, none⟩ (.int .u32 y)) base v l0 n1 n2 n3 := by
  obtain ⟨x, hx, a0, a4, a1, a2, a3⟩ := h
  refine ⟨_, (hx.put i (by omega) hv j y).1, ?_, ?_, ?_, ?_, ?_⟩
  · rw [upd_other _ _ (by omega)]; exact a0
  · rw [upd_other _ _ (by omega)]; exact a4
  · rcases hi with rfl | rfl | rfl
    · rw [upd_at, List.length_set]; exact a1
    · rw [upd_other _ _ (by decide)]; exact a1
    · rw [upd_other _ _ (by decide)]; exact a1
  · rcases hi with rfl | rfl | rfl
    · rw [upd_other _ _ (by decide)]; exact a2
    · rw [upd_at, List.length_set]; exact a2
    · rw [upd_other _ _ (by decide)]; exact a2
  · rcases hi with rfl | rfl | rfl
    · rw [upd_other _ _ (by decide)]; exact a3
    · rw [upd_other _ _ (by decide)]; exact a3
    · rw [upd_at, List.length_set]; exact a3
end
/-- The same, with any facts of the five rows. -/
def OkG (W : World) (base : Nat) (v : Nat → Value) (F : Nat → List Int → Prop) : Prop := ∃ x, St W base v x ∧ ∀ i, i < 5 → F i (x i)
theorem OkG.below {W W' : World} {base : Nat} {v : Nat → Value} {F : Nat → List Int → Prop} (h : OkG W base v F) (hb : Below W.heap.size W W') : OkG W' base v F := by
  obtain ⟨x, hx, hr⟩ := h
  exact ⟨x, hx.below hb, hr⟩
def F0 (l0 : List Int) (n1 n2 n3 : Nat) : Nat → List Int → Prop := five (fun x => x = l0) (fun x => x.length = n1) (fun x => x.length = n2) (fun x => x.length = n3) (fun x => x = ones)
theorem Ok.g {W : World} {base : Nat} {v : Nat → Value} {l0 : List Int} {n1 n2 n3 : Nat} (h : Ok W base v l0 n1 n2 n3) : OkG W base v (F0 l0 n1 n2 n3) := by
  obtain ⟨x, hx, a0, a4, a1, a2, a3⟩ := h
  refine ⟨x, hx, fun i hi => ?_⟩
  match i, hi with
  | 0, _ => exact a0
  | 1, _ => exact a1
  | 2, _ => exact a2
  | 3, _ => exact a3
  | 4, _ => exact a4
theorem info_u32' : (Try.prog.info? 52).map (fun i => (i.zero, i.size, i.bytes)) = some (some (.int .u32 0), (Kd.int .u32).sz, 4) := by kernel_rfl
theorem lit_row (W : World) (ys : List Int) (hm : ys.length ≤ maxLen) (hp : 0 < ys.length) : Kd.C (Kd.int .u32) (W.alloc (.cells (ys.map (fun y => Value.int .u32 y)).toArray 52)) (some ⟨W.heap.size, 0, none⟩) ys.length ys := by
  refine ⟨rfl, hm, fun _ => ⟨⟨W.heap.size, 0, none⟩, rfl, fun j q hq => ⟨[.int .u32 q], rfl, rfl, fun i u hu => ?_⟩⟩⟩
  have hi0 : i = 0 := by
    have := (List.getElem?_eq_some_iff.1 hu).1
    simp at this
    exact this
  subst hi0
  simp at hu
  subst hu
  rw [show (Kd.int .u32).sz = 1 from rfl, Nat.mul_one, Nat.add_zero]
  have e : (⟨W.heap.size, 0, none⟩ : Addr).add j = ⟨W.heap.size, j, none⟩ := by
    by_cases c : j = 0
    · subst c; exact za0 _
    · simp [Addr.add, c]
  rw [e]
  exact (blk_cell (blk_new _ _) j).trans (by simp [hq])
theorem app_row {P : Program} {ops : Array Oper} {o : Oper} {a : Act} {Q : Exit → Act → World → Prop} {rest : List Oper} {W w0 : World} {v : Nat → Value} {F : Nat → List Int → Prop} (i : Nat) (hi : i < 5) (ys : List Int) (hgd : o.guard = none) (s x : Operand)
    (ho : o.op = .call { callee := .builtin .append, args := #[s, x], argTypes := #[40, 40] }) (ht : P.underlying 40 = some (.slice 52)) (hinfo : (P.info? 52).map (fun i => (i.zero, i.size, i.bytes)) = some (some (.int .u32 0), (Kd.int .u32).sz, 4))
    (hs : a.eval s = v i) (hx : a.eval x = .slice (some ⟨W.heap.size, 0, none⟩) ys.length ys.length) (hp : 0 < ys.length) (HO : OkG W w0.heap.size v F) (HB : Below w0.heap.size w0 W) (hl : ∀ z, F i z → z.length + ys.length ≤ 4000000)
    (h : ∀ v1 w1, OkG w1 w0.heap.size (upd v i v1) (upd F i (fun y => ∃ z, F i z ∧ y = z ++ ys)) → Below w0.heap.size w0 w1 → wpList P ops Q rest (a.put o.dst v1) w1) :
    wpList P ops Q (o :: rest) a (W.alloc (.cells (ys.map (fun y => Value.int .u32 y)).toArray 52)) := by
  have HO1 := HO.below (below_alloc (Below.refl W.heap.size W) (.cells (ys.map (fun y => Value.int .u32 y)).toArray 52))
  have HB1 : Below w0.heap.size w0 (W.alloc (.cells (ys.map (fun y => Value.int .u32 y)).toArray 52)) := below_alloc HB _
  obtain ⟨xx, hst, hF⟩ := HO1
  have hlen := hl (xx i) (hF i hi)
  refine Kd.R_append_rows (Kd.int .u32) (w0 := w0) w0.heap.size hgd s x 40 52 (.int .u32 0) 4 ho ht hinfo rfl (by decide) (by omega) (v i) (xx i) ys _ _ _ (fun _ => True) (fun _ => False) hs hx (Kd.R_mono (hst.r i hi) (fun _ _ => trivial)) (lit_row W ys (by unfold maxLen; omega) hp) (fun _ _ h => h) (fun _ h => h.elim) (fun _ _ => trivial) HB1 HB1.size (by omega) ?_
  intro v1 w1 hr hb hg hat
  refine h v1 w1 ⟨_, hst.app i hi hr hg hat, fun j hj => ?_⟩ hb
  by_cases c : j = i
  · subst c
    rw [upd_at, upd_at]
    exact ⟨_, hF j hj, rfl⟩
  · rw [upd_other _ _ c, upd_other _ _ c]
    exact hF j hj
theorem OkG.reads {W : World} {base : Nat} {v : Nat → Value} {F : Nat → List Int → Prop} (h : OkG W base v F) (i : Nat) (hi : i < 5) {A : Option Addr} {n c : Nat} (hv : v i = .slice A n c) : ∃ z, F i z ∧ n = z.length ∧ z.length ≤ c ∧ Kd.C (Kd.int .u32) W A z.length z := by
  obtain ⟨x, hx, hF⟩ := h
  have hr := hx.r i hi
  unfold RI at hr
  rw [hv] at hr
  obtain ⟨e1, e2, e3⟩ := Kd.R_reads' hr
  exact ⟨x i, hF i hi, e1, by omega, e3⟩
theorem OkG.last {W : World} {base : Nat} {v : Nat → Value} {F : Nat → List Int → Prop} (h : OkG W base v F) (i : Nat) (hi : i < 5) {A : Option Addr} {n c : Nat} (hv : v i = .slice A (n + 1) c) {y : Int} (hy : ∀ z, F i z → rd z (n : Int) = y) : ∃ g, A = some ⟨g, 0, none⟩ ∧ W.cell? ⟨g, n, none⟩ = some (.int .u32 y) := by
  obtain ⟨x, hx, hF⟩ := h
  have hr := hx.r i hi
  unfold RI at hr
  rw [hv] at hr
  have hl := (Kd.R_reads' hr).1
  obtain ⟨g, c', e, _⟩ := Kd.R_form hr (by omega)
  injection e with ea en ec
  subst ea
  have hq := (Kd.R_celln 0 hr (n : Int) (by omega) (by omega)).1
  rw [Int.toNat_natCast] at hq
  refine ⟨g, rfl, hq.trans ?_⟩
  have := hy _ (hF i hi)
  rw [← this]
  rfl
theorem rd_last (z ys : List Int) (j : Nat) : rd (z ++ ys) ((z.length + j : Nat) : Int) = ys.getD j 0 := by
  unfold rd
  rw [Int.toNat_natCast, List.getD_eq_getElem?_getD, List.getElem?_append_right (by omega), List.getD_eq_getElem?_getD]
  congr 2
  omega
theorem OkG.len {W : World} {base : Nat} {v : Nat → Value} {F : Nat → List Int → Prop} (h : OkG W base v F) (i : Nat) (hi : i < 5) {n : Nat} (hn : ∀ z, F i z → z.length = n) : ∃ A c, v i = .slice A n c := by
  obtain ⟨x, hx, hF⟩ := h
  obtain ⟨A, c, e⟩ := Kd.R_slice (hx.r i hi)
  rw [hn _ (hF i hi)] at e
  exact ⟨A, c, e⟩
set_option maxHeartbeats 8000000 in
set_option maxRecDepth 100000 in
theorem own (k : Nat) (A0 : Option Addr) (c0 : Nat) (l0 : List Int) (w : World) (hr0 : Kd.C (Kd.int .u32) w A0 l0.length l0) (hc0 : l0.length ≤ c0) (B C : List Int) (e1 : Int) (hl : l0.length ≤ 1048576) (hB : B.length ≤ 1048576) (hC : C.length ≤ 1048576)
    (htw : lathelaw05_twin.f l0 = some l0) (hap : vector_Apply.f 3 [l0] = some (B, e1)) (hcn : vector_Canon.f k l0 = some C) (hfi : vector_Fill.f k 3 1065353216 = some ([1065353216, 1065353216, 1065353216], 0)) (hal : lathelaw05_alike.f k l0 l0 = some true) (hae : lathelaw05_alike.f k [1065353216, 1065353216, 1065353216] [1065353216, 1065353216, 1065353216] = some true) (hsu : lathelaw05_sure.f k = some true) :
    Calls Try.prog 13 #[.slice A0 l0.length c0] w fun e w' => e = .returned (.bool true) ∧ Below w.heap.size w w' := by
  have HR0 := Aside0.mk hr0
  have HC0 := Aside0.mk hc0
  have T1 := Aside0.mk htw
  have T2 := Aside0.mk hap
  have T3 := Aside0.mk hcn
  have T4 := Aside0.mk hfi
  have T5 := Aside0.mk hal
  have T6 := Aside0.mk hae
  have T7 := Aside0.mk hsu
  have HL := Aside0.mk hl
  have HLB := Aside0.mk hB
  have HLC := Aside0.mk hC
  clear hr0 hc0 htw hap hcn hfi hal hae hsu hl hB hC
  go_enter Try.func13, Try.ntmps13
  go_wp2_with (first | (go_at_call 41; refine (lathelaw05_twin.calls A0 c0 l0 l0 _ HR0.out HC0.out T1.out).mono ?_; rintro e w1 ⟨v1, rfl, hR1, hB1⟩; obtain ⟨A1, d1, rfl⟩ := Kd.R_slice hR1; have R1 := Aside0.mk hR1; have B1 := Aside0.mk hB1; clear hR1 hB1))
  refine (vector_Apply.calls 3 _ 1 [l0] B e1 _ (lit1 (Kd.R_reads' R1.out).2.2 (Kd.R_reads' R1.out).2.1) (Nat.le_refl 1) T2.out).mono ?_
  rintro e w2 ⟨v2, rfl, hR2, hB2⟩
  obtain ⟨A2, d2, rfl⟩ := Kd.R_slice hR2
  have R2 := Aside0.mk hR2
  have B2 := Aside0.mk (below_then (below_alloc (Below.refl w1.heap.size w1) _) (below_alloc (Below.refl _ _) _).size hB2)
  have S2 : Aside0 (w1.heap.size ≤ (w1.alloc (.cells #[.slice A1 l0.length d1] 40)).heap.size ∧ (w1.alloc (.cells #[.slice A1 l0.length d1] 40)).heap.size ≤ w2.heap.size) := ⟨(below_alloc (Below.refl w1.heap.size w1) _).size, hB2.size⟩
  clear hR2 hB2
  go_wp2_with (first | (go_at_call 42; refine (vector_Canon.calls k A1 d1 l0 C w2 (Kd.C_below (Kd.R_reads' R1.out).2.2 B2.out) (Kd.R_reads' R1.out).2.1 T3.out).mono ?_; rintro e w3 ⟨v3, rfl, hR3, hB3⟩; obtain ⟨A3, d3, rfl⟩ := Kd.R_slice hR3; have R3 := Aside0.mk hR3; have B3 := Aside0.mk hB3; clear hR3 hB3) | (go_at_call 43; refine (vector_Fill.calls k 3 1065353216 _ 0 w3 T4.out).mono ?_; rintro e w4 ⟨v4, rfl, hR4, hB4⟩; obtain ⟨A4, d4, rfl⟩ := Kd.R_slice hR4; have R4 := Aside0.mk hR4; have B4 := Aside0.mk hB4; clear hR4 hB4) | (go_at_call 43; refine (vector_Fill.calls k 3 1065353216 _ 0 w4 T4.out).mono ?_; rintro e w5 ⟨v5, rfl, hR5, hB5⟩; obtain ⟨A5, d5, rfl⟩ := Kd.R_slice hR5; have R5 := Aside0.mk hR5; have B5 := Aside0.mk hB5; clear hR5 hB5))
  have q1 := B1.out.size
  have q2 := B2.out.size
  have q3 := B3.out.size
  have q4 := B4.out.size
  have q5 := B5.out.size
  have b45 := B5.out
  have b35 := below_then B4.out q4 B5.out
  have b25 := below_then B3.out q3 b35
  have b15 := below_then B2.out q2 b25
  have b05 := below_then B1.out q1 b15
  have hst : St w5 w.heap.size (five (.slice A1 l0.length d1) (.slice A2 B.length d2) (.slice A3 C.length d3) (.slice A4 3 d4) (.slice A5 3 d5)) (five l0 B C [1065353216, 1065353216, 1065353216] [1065353216, 1065353216, 1065353216]) := St.mk5 R1.out R2.out R3.out R4.out R5.out q1 S2.out.1 S2.out.2 (Nat.le_refl _) q3 (Nat.le_refl _) q4 (Nat.le_refl _) b15 b25 b35 b45 (Below.refl _ _)
  have ST := Aside0.mk (show Ok w5 w.heap.size (five (.slice A1 l0.length d1) (.slice A2 B.length d2) (.slice A3 C.length d3) (.slice A4 3 d4) (.slice A5 3 d5)) l0 B.length C.length 3 from ⟨_, hst, rfl, rfl, rfl, rfl, rfl⟩)
  have HB := Aside0.mk b05
  clear q1 q2 q3 q4 q5 b45 b35 b25 b15 b05 hst
  clear R1 R2 R3 R4 R5 B1 B2 B3 B4 B5 S2 T1 T2 T3 T4
  go_loopg [11] (B.length + 1) (fun kq vv w' => ∃ x : Int, vv = .int .i64 x ∧ Aside0 (0 ≤ x ∧ x ≤ (B.length : Int) ∧ x + (kq : Int) = (B.length : Int) + 1) ∧ Aside0 (Ok w' w.heap.size (five (.slice A1 l0.length d1) (.slice A2 B.length d2) (.slice A3 C.length d3) (.slice A4 3 d4) (.slice A5 3 d5)) l0 B.length C.length 3) ∧ Aside0 (Below w.heap.size w w'))
  case atStart => exact ⟨0, rfl, ⟨by omega, by omega, by omega⟩, ST, HB⟩
  case round =>
    clear ST HB
    obtain ⟨x, rfl, HX, ST, HB⟩ := hrel
    cases gk with
    | zero => exact absurd HX.out (by omega)
    | succ k1 =>
      by_cases c2 : x < (B.length : Int)
      · have c2b : decide (x < (B.length : Int)) = true := decide_eq_true c2
        have p : 0 ≤ x := HX.out.1
        obtain ⟨g, ea, hg⟩ := ST.out.form 1 (by decide) rfl (show 0 < B.length by omega)
        subst ea
        obtain ⟨u, hc, hf⟩ := ST.out.cell 1 (by decide) rfl x p c2
        have HP := Aside0.mk (ST.out.put 1 (by decide) rfl x 5)
        have HG := Aside0.mk hg
        have HC2 := Aside0.mk c2
        have q := eq_true c2
        have HP0 := Aside0.mk p
        clear c2 hg
        replace p := eq_true p
        go_wp2
        go_roundg k1
        case measure => omega
        case rel => exact ⟨x + 1, by have := HC2.out; have := HP0.out; have := HLB.out; rw [show wrap64 (x + 1) = x + 1 by unfold wrap64; omega], ⟨by have := HX.out; have := HC2.out; omega⟩, HP, ⟨Below.setCell HB.out HG.out _⟩⟩
      · have c2b : decide (x < (B.length : Int)) = false := decide_eq_false c2
        clear c2 HX
        go_wp2
        go_loopg [12] (C.length + 1) (fun kq vv w' => ∃ x : Int, vv = .int .i64 x ∧ Aside0 (0 ≤ x ∧ x ≤ (C.length : Int) ∧ x + (kq : Int) = (C.length : Int) + 1) ∧ Aside0 (Ok w' w.heap.size (five (.slice A1 l0.length d1) (.slice A2 B.length d2) (.slice A3 C.length d3) (.slice A4 3 d4) (.slice A5 3 d5)) l0 B.length C.length 3) ∧ Aside0 (Below w.heap.size w w'))
        case atStart => exact ⟨0, rfl, ⟨by omega, by omega, by omega⟩, ST, HB⟩
        case round =>
          clear ST HB
          obtain ⟨x, rfl, HX, ST, HB⟩ := hrel
          cases gk with
          | zero => exact absurd HX.out (by omega)
          | succ k2 =>
            by_cases c2 : x < (C.length : Int)
            · have c2b : decide (x < (C.length : Int)) = true := decide_eq_true c2
              have p : 0 ≤ x := HX.out.1
              obtain ⟨g, ea, hg⟩ := ST.out.form 2 (by decide) rfl (show 0 < C.length by omega)
              subst ea
              obtain ⟨u, hc, hf⟩ := ST.out.cell 2 (by decide) rfl x p c2
              have HP := Aside0.mk (ST.out.put 2 (by decide) rfl x 6)
              have HG := Aside0.mk hg
              have HC2 := Aside0.mk c2
              have q := eq_true c2
              have HP0 := Aside0.mk p
              clear c2 hg
              replace p := eq_true p
              go_wp2
              go_roundg k2
              case measure => omega
              case rel => exact ⟨x + 1, by have := HC2.out; have := HP0.out; have := HLC.out; rw [show wrap64 (x + 1) = x + 1 by unfold wrap64; omega], ⟨by have := HX.out; have := HC2.out; omega⟩, HP, ⟨Below.setCell HB.out HG.out _⟩⟩
            · have c2b : decide (x < (C.length : Int)) = false := decide_eq_false c2
              clear c2 HX
              go_wp2
              go_loopg [13] (3 + 1) (fun kq vv w' => ∃ x : Int, vv = .int .i64 x ∧ Aside0 (0 ≤ x ∧ x ≤ 3 ∧ x + (kq : Int) = 3 + 1) ∧ Aside0 (Ok w' w.heap.size (five (.slice A1 l0.length d1) (.slice A2 B.length d2) (.slice A3 C.length d3) (.slice A4 3 d4) (.slice A5 3 d5)) l0 B.length C.length 3) ∧ Aside0 (Below w.heap.size w w'))
              case atStart => exact ⟨0, rfl, ⟨by omega, by omega, by omega⟩, ST, HB⟩
              case round =>
                clear ST HB
                obtain ⟨x, rfl, HX, ST, HB⟩ := hrel
                cases gk with
                | zero => exact absurd HX.out (by omega)
                | succ k3 =>
                  by_cases c2 : x < 3
                  · have c2b : decide (x < 3) = true := decide_eq_true c2
                    have p : 0 ≤ x := HX.out.1
                    obtain ⟨g, ea, hg⟩ := ST.out.form 3 (by decide) rfl (show 0 < 3 by omega)
                    subst ea
                    obtain ⟨u, hc, hf⟩ := ST.out.cell 3 (by decide) rfl x p c2
                    have HP := Aside0.mk (ST.out.put 3 (by decide) rfl x 7)
                    have HG := Aside0.mk hg
                    have HC2 := Aside0.mk c2
                    have q := eq_true c2
                    have HP0 := Aside0.mk p
                    clear c2 hg
                    replace p := eq_true p
                    go_wp2
                    go_roundg k3
                    case measure => omega
                    case rel => exact ⟨x + 1, by have := HC2.out; have := HP0.out; have := HLC.out; rw [show wrap64 (x + 1) = x + 1 by unfold wrap64; omega], ⟨by have := HX.out; have := HC2.out; omega⟩, HP, ⟨Below.setCell HB.out HG.out _⟩⟩
                  · have c2b : decide (x < 3) = false := decide_eq_false c2
                    clear c2 HX
                    have SG := Aside0.mk ST.out.g
                    clear ST
                    go_wp2_with (first | ((with_reducible refine gate_builtin (b := .append) (xs := #[.tmp 59, .tmp 60]) rfl ?_); at_builtin; refine app_row 1 (by decide) [8, 8, 8, 8] rfl (.tmp 59) (.tmp 60) rfl Try.underlying40 info_u32' rfl rfl (by decide) SG.out HB.out (fun z hz => by have hz : z.length = B.length := hz; have := HLB.out; show z.length + 4 ≤ 4000000; omega) ?_; intro u1 y1 hk1 hb1; have SG1 := Aside0.mk hk1; have HB1 := Aside0.mk hb1; clear hk1 hb1 SG HB) | ((with_reducible refine gate_builtin (b := .append) (xs := #[.tmp 62, .tmp 63]) rfl ?_); at_builtin; refine app_row 2 (by decide) [9, 9, 9, 9] rfl (.tmp 62) (.tmp 63) rfl Try.underlying40 info_u32' rfl rfl (by decide) SG1.out HB1.out (fun z hz => by have hz : z.length = C.length := hz; have := HLC.out; show z.length + 4 ≤ 4000000; omega) ?_; intro u2 y2 hk2 hb2; have SG2 := Aside0.mk hk2; have HB2 := Aside0.mk hb2; clear hk2 hb2 SG1 HB1) | ((with_reducible refine gate_builtin (b := .append) (xs := #[.tmp 65, .tmp 66]) rfl ?_); at_builtin; refine app_row 3 (by decide) [4, 4] rfl (.tmp 65) (.tmp 66) rfl Try.underlying40 info_u32' rfl rfl (by decide) SG2.out HB2.out (fun z hz => by have hz : z.length = 3 := hz; show z.length + 2 ≤ 4000000; omega) ?_; intro u3 y3 hk3 hb3; have SG3 := Aside0.mk hk3; have HB3 := Aside0.mk hb3; clear hk3 hb3 SG2 HB2; obtain ⟨P1, p1, eu1⟩ := SG3.out.len 1 (by decide) (n := B.length + 4) (fun z hz => by obtain ⟨z0, h0, rfl⟩ := (show ∃ z0 : List Int, z0.length = B.length ∧ z = z0 ++ [8, 8, 8, 8] from hz); rw [List.length_append, h0]; rfl); have eu1 : u1 = .slice P1 (B.length + 4) p1 := eu1; subst eu1; obtain ⟨P2, p2, eu2⟩ := SG3.out.len 2 (by decide) (n := C.length + 4) (fun z hz => by obtain ⟨z0, h0, rfl⟩ := (show ∃ z0 : List Int, z0.length = C.length ∧ z = z0 ++ [9, 9, 9, 9] from hz); rw [List.length_append, h0]; rfl); have eu2 : u2 = .slice P2 (C.length + 4) p2 := eu2; subst eu2; obtain ⟨P3, p3, eu3⟩ := SG3.out.len 3 (by decide) (n := 5) (fun z hz => by obtain ⟨z0, h0, rfl⟩ := (show ∃ z0 : List Int, z0.length = 3 ∧ z = z0 ++ [4, 4] from hz); rw [List.length_append, h0]; rfl); have eu3 : u3 = .slice P3 5 p3 := eu3; subst eu3))
                    have HM : Aside0 (l0.length ≤ d1 ∧ Kd.C (Kd.int .u32) y3 A1 l0.length l0) := ⟨by obtain ⟨z, hz, e1, e2, e3⟩ := SG3.out.reads 0 (by decide) rfl; have hz : z = l0 := hz; subst hz; exact ⟨e2, e3⟩⟩
                    have HE : Aside0 (3 ≤ d5 ∧ Kd.C (Kd.int .u32) y3 A5 3 ones) := ⟨by obtain ⟨z, hz, e1, e2, e3⟩ := SG3.out.reads 4 (by decide) rfl; have hz : z = ones := hz; subst hz; exact ⟨e2, e3⟩⟩
                    obtain ⟨g1, e1', hx1⟩ := SG3.out.last 1 (by decide) (n := B.length + 3) rfl (y := 8) (fun z hz => by obtain ⟨z0, h0, rfl⟩ := (show ∃ z0 : List Int, z0.length = B.length ∧ z = z0 ++ [8, 8, 8, 8] from hz); rw [← h0, rd_last]; rfl)
                    obtain ⟨g2, e2', hx2⟩ := SG3.out.last 2 (by decide) (n := C.length + 3) rfl (y := 9) (fun z hz => by obtain ⟨z0, h0, rfl⟩ := (show ∃ z0 : List Int, z0.length = C.length ∧ z = z0 ++ [9, 9, 9, 9] from hz); rw [← h0, rd_last]; rfl)
                    obtain ⟨g3, e3', hx3⟩ := SG3.out.last 3 (by decide) (n := 4) rfl (y := 4) (fun z hz => by obtain ⟨z0, h0, rfl⟩ := (show ∃ z0 : List Int, z0.length = 3 ∧ z = z0 ++ [4, 4] from hz); rw [show (4 : Nat) = z0.length + 1 by omega, rd_last]; rfl)
                    subst e1'
                    subst e2'
                    subst e3'
                    have X1 := Aside0.mk hx1
                    have X2 := Aside0.mk hx2
                    have X3 := Aside0.mk hx3
                    clear hx1 hx2 hx3
                    go_wp2_with (first | (go_at_call 28; refine (lathelaw05_alike.calls k A1 d1 l0 A0 c0 l0 true y3 HM.out.2 HM.out.1 (Kd.C_below HR0.out HB3.out) HC0.out T5.out).mono ?_; rintro e z1 ⟨rfl, hz1⟩; have Z1 := Aside0.mk hz1; clear hz1) | (go_at_call 28; refine (lathelaw05_alike.calls k A5 d5 ones (some ⟨z1.heap.size, 0, none⟩) 3 ones true (z1.alloc (.cells #[.int .u32 1065353216, .int .u32 1065353216, .int .u32 1065353216] 52)) (Kd.C_below HE.out.2 (below_alloc Z1.out _)) HE.out.1 (lit_row z1 ones (by decide) (by decide)) (Nat.le_refl 3) T6.out).mono ?_; rintro e z2 ⟨rfl, hz2⟩; have Z2 := Aside0.mk (below_then (below_alloc Z1.out (.cells #[.int .u32 1065353216, .int .u32 1065353216, .int .u32 1065353216] 52)) (below_alloc Z1.out (.cells #[.int .u32 1065353216, .int .u32 1065353216, .int .u32 1065353216] 52)).size hz2); clear hz2; have hx1 := (Z2.out.cell (World.block_lt_of_cell? _ _ X1.out)).trans X1.out; have hx2 := (Z2.out.cell (World.block_lt_of_cell? _ _ X2.out)).trans X2.out; have hx3 := (Z2.out.cell (World.block_lt_of_cell? _ _ X3.out)).trans X3.out; have w1 : wrap64 ((B.length : Int) + 4 - 1) = ((B.length + 3 : Nat) : Int) := (by have := HLB.out; unfold wrap64; omega); have w2 : wrap64 ((C.length : Int) + 4 - 1) = ((C.length + 3 : Nat) : Int) := (by have := HLC.out; unfold wrap64; omega); have t1 : (wrap64 ((B.length : Int) + 4 - 1)).toNat = B.length + 3 := (by rw [w1, Int.toNat_natCast]); have t2 : (wrap64 ((C.length : Int) + 4 - 1)).toNat = C.length + 3 := (by rw [w2, Int.toNat_natCast]); rw [← t1] at hx1; rw [← t2] at hx2; have p1 : (0 ≤ wrap64 ((B.length : Int) + 4 - 1)) = True := eq_true (by rw [w1]; omega); have p2 : (0 ≤ wrap64 ((C.length : Int) + 4 - 1)) = True := eq_true (by rw [w2]; omega); have q1 : (wrap64 ((B.length : Int) + 4 - 1) < (B.length : Int) + 4) = True := eq_true (by rw [w1]; omega); have q2 : (wrap64 ((C.length : Int) + 4 - 1) < (C.length : Int) + 4) = True := eq_true (by rw [w2]; omega); clear w1 w2 t1 t2) | (go_at_call 29; refine (lathelaw05_sure.calls k true _ T7.out).mono ?_; rintro e z3 ⟨rfl, hz3⟩; have Z3 := Aside0.mk hz3; clear hz3))
                    go_ret
                    exact ⟨rfl, below_then (below_then HB3.out HB3.out.size Z2.out) (below_then HB3.out HB3.out.size Z2.out).size Z3.out⟩
end Go.Proofs.Ytmfladkimmnccaa.Vow
