/- The operations of a region that draws its order, one at a time. No condition. -/
import Derived.Test.YtpgodgfkbkfpcaaGreatRin
import Derived.Deep.RegionLawGrows
set_option linter.unusedVariables false
set_option linter.unusedSimpArgs false
namespace Go.Proofs.YtpgodgfkbkfpcaaGreat.Rin
open Go Go.RowKit
section
variable {P : Program} {ops : Array Oper} {Q : Exit → Act → World → Prop} {K : Act → World → Prop} {a : Act} {w : World}
theorem wpOp_at {i : Nat} {op : Op} {d : Option Tmp} (h : (ops[i]?).map (fun o => (o.op, o.dst, o.guard)) = some (op, d, none)) (k : ∀ o : Oper, o.op = op → o.dst = d → o.wp P a w K Q) : wpOp P ops Q i K a w := by
  unfold wpOp
  cases ho : ops[i]? with
  | none => rw [ho] at h; cases h
  | some o =>
    rw [ho] at h
    simp only [Option.map_some, Option.some.injEq, Prod.mk.injEq] at h
    obtain ⟨h1, h2, h3⟩ := h
    have hw : Region.wanted o (yielded ops a.tmps) = true := by simp [Region.wanted, h3]
    simp only [hw, if_true]
    exact Or.inl (k o h1 h2)
theorem step_build {i : Nat} {t : TypeId} {l : List (Nat × Operand)} {d : Option Tmp} (h : (ops[i]?).map (fun o => (o.op, o.dst, o.guard)) = some (.build t l.toArray, d, none)) (cells : Array Value)
    (hb : P.built t (l.map fun x => (x.1, a.eval x.2)) = some cells) (hk : K (a.put d (.agg cells)) w) : wpOp P ops Q i K a w := by
  refine wpOp_at h fun o ho hd => ?_
  have e : (l.toArray.map fun (x : Nat × Operand) => (x.1, a.eval x.2)).toList = l.map fun x => (x.1, a.eval x.2) := by simp
  refine wp_build t l.toArray ho ?_ ?_
  · rw [show (l.toArray.map fun (i, x) => (i, a.eval x)).toList = l.map fun x => (x.1, a.eval x.2) from e, hb]; rfl
  · rw [show (l.toArray.map fun (i, x) => (i, a.eval x)).toList = l.map fun x => (x.1, a.eval x.2) from e, hb, hd]; exact hk
theorem step_slice {i : Nat} {t e : TypeId} {len : Nat} {l : List (Nat × Operand)} {d : Option Tmp} (h : (ops[i]?).map (fun o => (o.op, o.dst, o.guard)) = some (.buildSlice t len l.toArray, d, none)) (cells : Array Value) (ie : TypeInfo) (z : Value)
    (hu : P.underlying t = some (.slice e)) (hie : P.info? e = some ie) (hz : ie.zero = some z) (hsmall : ¬ len * ie.size > 2 ^ 24) (hpos : ¬ len * ie.size = 0)
    (hb : Instr.fill (fun i => some (i * ie.size, ie.size)) ((Array.range (len * ie.size)).map (z.cells[· % z.cells.size]!)) (l.map fun x => (x.1, a.eval x.2)) = some cells)
    (hk : K (a.put d (.slice (some ⟨w.heap.size, 0, none⟩) len len)) (w.alloc (.cells cells e))) : wpOp P ops Q i K a w := by
  refine wpOp_at h fun o ho hd => ?_
  have e : (l.toArray.map fun (x : Nat × Operand) => (x.1, a.eval x.2)).toList = l.map fun x => (x.1, a.eval x.2) := by simp
  refine wp_buildSlice t _ len l.toArray ho cells ie z hu hie hz hsmall hpos ?_ (by rw [hd]; exact hk)
  rw [show (l.toArray.map fun (i, x) => (i, a.eval x)).toList = l.map fun x => (x.1, a.eval x.2) from e]
  exact hb
theorem step_call {i f : Nat} {args : List Operand} {ts : Array TypeId} {d : Option Tmp} (h : (ops[i]?).map (fun o => (o.op, o.dst, o.guard)) = some (.call { callee := .value (.func f), args := args.toArray, argTypes := ts }, d, none))
    (he : ∀ vs w, (callFunc f vs).run P w = .ok (.enter f vs) w) (hC : Calls P f (args.map a.eval).toArray w fun e w' => ∃ v, e = .returned v ∧ K (a.put d v) w') : wpOp P ops Q i K a w := by
  refine wpOp_at h fun o ho hd => ?_
  unfold Oper.wp execOp
  have hr : ∀ W, (do let d ← resolve a.eval { callee := .value (.func f), args := args.toArray, argTypes := ts } o.type; invoke d.target d.args : Sem Next).run P W = .ok (.enter f (args.map a.eval).toArray) W := by
    intro W
    have := he (args.map a.eval).toArray W
    simp [resolve, Deferred.ofValue, invoke, Act.eval, this, Result.andThen]
  simp only [ho]
  rw [hr w, Oper.upon_enter]
  refine hC.mono ?_
  rintro e w' ⟨v, rfl, hk⟩
  rw [hd]
  exact hk
theorem step_load {i : Nat} {t : TypeId} {x : Operand} {d : Option Tmp} (h : (ops[i]?).map (fun o => (o.op, o.dst, o.guard)) = some (.load t x, d, none)) (v : Value) (hr : (Instr.loadAt t (a.eval x)).run P w = .ok v w)
    (hk : K (a.put d v) w) : wpOp P ops Q i K a w := by
  refine wpOp_at h fun o ho hd => ?_
  unfold Oper.wp execOp
  simp only [ho, Sem.run_bind, hr, Result.andThen_ok]
  rw [← hd] at hk
  exact hk
theorem step_alloc {i : Nat} {t : TypeId} {d : Option Tmp} (h : (ops[i]?).map (fun o => (o.op, o.dst, o.guard)) = some (.alloc t, d, none)) (v : Value) (w' : World) (hr : (Instr.alloc t true (.tuple #[])).run P w = .ok v w')
    (hk : K (a.put d v) w') : wpOp P ops Q i K a w := by
  refine wpOp_at h fun o ho hd => ?_
  unfold Oper.wp execOp
  simp only [ho, Sem.run_bind, hr, Result.andThen_ok]
  rw [← hd] at hk
  exact hk
theorem step_store {i : Nat} {t : TypeId} {x y : Operand} {d : Option Tmp} (h : (ops[i]?).map (fun o => (o.op, o.dst, o.guard)) = some (.store t x y, d, none)) (w' : World) (hr : (Instr.storeAt t (a.eval x) (a.eval y)).run P w = .ok () w')
    (hk : K (a.put d undef) w') : wpOp P ops Q i K a w := by
  refine wpOp_at h fun o ho hd => ?_
  unfold Oper.wp execOp
  simp only [ho, Sem.run_bind, hr, Result.andThen_ok]
  rw [← hd] at hk
  exact hk
/-- The region with a number, out of a body. -/
def regionOf (id : Nat) : Code → Option (Array Oper)
  | .region k ops _ => if k = id then some ops else none
  | .seq s t => (regionOf id s).orElse fun _ => regionOf id t
  | _ => none
def opsOf (f : Func) (id : Nat) : Array Oper := ((f.body).bind (regionOf id)).getD #[]
theorem wp_region_to {id : Nat} {b : Bool} {l l' : Array Oper} (e : l = l') (h : (Code.region id l' b).wp P Q a w) : (Code.region id l b).wp P Q a w := by rw [e]; exact h
theorem step_rows {i : Nat} {t e : TypeId} {n s : Nat} {l : List (Nat × Operand)} {d : Option Tmp} (h : (ops[i]?).map (fun o => (o.op, o.dst, o.guard)) = some (.buildSlice t n l.toArray, d, none)) (vs : List Value)
    (hl : l.map (fun x => (x.1, a.eval x.2)) = (vs.zipIdx 0).map fun x => (x.2, x.1)) (hn : n = vs.length) (hs : 0 < s) (hpos : 0 < n) (hsmall : n * s ≤ 2 ^ 24)
    (hu : P.underlying t = some (.slice e)) (hsz : (P.info? e).map (·.size) = some s) (hz : ((P.info? e).bind (·.zero)).isSome = true) (h1 : ∀ v ∈ vs, v.cells.size = s)
    (hk : K (a.put d (.slice (some ⟨w.heap.size, 0, none⟩) n n)) (w.alloc (.cells (vs.flatMap fun v => v.cells.toList).toArray e))) : wpOp P ops Q i K a w := by
  cases hie : P.info? e with
  | none => simp [hie] at hsz
  | some ie =>
    simp only [hie, Option.map_some, Option.some.injEq, Option.bind_some] at hsz hz
    obtain ⟨z, hzz⟩ := Option.isSome_iff_exists.1 hz
    have hp := Nat.mul_pos hpos hs
    refine step_slice h _ ie z hu hie hzz (by rw [hsz]; omega) (by rw [hsz]; omega) ?_ hk
    rw [hl, hsz]
    exact Great.fill_whole hs vs ((Array.range (n * s)).map (z.cells[· % z.cells.size]!)) h1 (by simp [hn])
theorem step_loadRow {i : Nat} {t : TypeId} {x : Operand} {d : Option Tmp} (h : (ops[i]?).map (fun o => (o.op, o.dst, o.guard)) = some (.load t x, d, none)) (g : Nat) (hx : a.eval x = .pointer (some ⟨g, 0, none⟩)) (ty : TypeId) (cs : Array Value) (fr : Nat × Nat) (ds : TypeDesc)
    (hg : w.heap[g]? = some (.cells cs ty fr)) (hu : P.underlying t = some ds) (hd : (match ds with | .struct _ | .array _ _ => true | _ => false) = true) (hi : (P.info? t).map (·.size) = some cs.size)
    (hk : K (a.put d (.agg cs)) w) : wpOp P ops Q i K a w := by
  refine wpOp_at h fun o ho hd' => ?_
  refine wp_load_row t x ho g hx ty cs fr ds hg hu hd hi ?_
  rw [hd']
  exact hk
theorem step_assign {i : Nat} {x : Operand} {d : Option Tmp} (h : (ops[i]?).map (fun o => (o.op, o.dst, o.guard)) = some (.assign x, d, none)) (hk : K (a.put d (a.eval x)) w) : wpOp P ops Q i K a w := by
  refine wpOp_at h fun o ho hd => ?_
  unfold Oper.wp execOp
  simp only [ho, Sem.run_pure]
  rw [← hd] at hk
  exact hk
theorem step_move {i : Nat} {x : Operand} {d : Option Tmp} (h : (ops[i]?).map (fun o => (o.op, o.dst, o.guard)) = some (.move x, d, none)) (hk : K (a.put d (a.eval x)) w) : wpOp P ops Q i K a w := by
  refine wpOp_at h fun o ho hd => ?_
  unfold Oper.wp execOp
  simp only [ho, Sem.run_pure]
  rw [← hd] at hk
  exact hk
theorem wpOp_at_guard {i : Nat} {op : Op} {d : Option Tmp} (h : (ops[i]?).map (fun o => (o.op, o.dst, o.guard)) = some (op, d, none)) (k : ∀ o : Oper, o.op = op → o.dst = d → o.guard = none → o.wp P a w K Q) : wpOp P ops Q i K a w := by
  unfold wpOp
  cases ho : ops[i]? with
  | none => rw [ho] at h; cases h
  | some o =>
    rw [ho] at h
    simp only [Option.map_some, Option.some.injEq, Prod.mk.injEq] at h
    obtain ⟨h1, h2, h3⟩ := h
    have hw : Region.wanted o (yielded ops a.tmps) = true := by simp [Region.wanted, h3]
    simp only [hw, if_true]
    exact Or.inl (k o h1 h2 h3)
theorem add_zero (g j : Nat) : (⟨g, 0, none⟩ : Addr).add j = ⟨g, j, none⟩ := by unfold Addr.add; split <;> simp_all
theorem row_cells {w : World} {g : Nat} {cs : Array Value} {e : TypeId} {fr : Nat × Nat} (h : w.heap[g]? = some (.cells cs e fr)) : ∀ j u, cs.toList[j]? = some u → w.cell? ((⟨g, 0, none⟩ : Addr).add j) = some u := by
  intro j u hu
  rw [add_zero, cell_of_row w g j cs e fr h]
  simpa using hu
/-- append of a full slice, of a row that is known whole: a new block. -/
theorem step_append {i : Nat} {s x : Operand} {t : TypeId} {d : Option Tmp} (h : (ops[i]?).map (fun o => (o.op, o.dst, o.guard)) = some (.call { callee := .builtin .append, args := #[s, x], argTypes := #[t, t] }, d, none))
    (e : TypeId) (ie : TypeInfo) (z : Value) (size bytes : Nat) (h1 : P.underlying t = some (.slice e)) (h2 : P.info? e = some ie) (h3 : ie.zero = some z) (h4 : ie.size = size) (h5 : ie.bytes = bytes) (h6 : z.cells.size = size) (h7 : 0 < size)
    (g1 n : Nat) (cs1 : Array Value) (f1 : Nat × Nat) (hs : a.eval s = .slice (some ⟨g1, 0, none⟩) n n) (hg1 : w.heap[g1]? = some (.cells cs1 e f1)) (hl1 : cs1.size = n * size)
    (g2 m : Nat) (cs2 : Array Value) (f2 : Nat × Nat) (hx : a.eval x = .slice (some ⟨g2, 0, none⟩) m m) (hg2 : w.heap[g2]? = some (.cells cs2 e f2)) (hl2 : cs2.size = m * size) (hone : cs2.all (·.oneCell') = true)
    (hm : 0 < m) (b1 : n + m ≤ maxLen) (b2 : (n + m) * bytes ≤ 140737488355328)
    (hK : ∀ v' w', w'.ownsRow w.heap.size e size v' (n + m) (cs1.toList ++ cs2.toList) → Below w.heap.size w w' → K (a.put d v') w') : wpOp P ops Q i K a w := by
  refine wpOp_at_guard h fun o ho hd hgd => ?_
  have := step_append_grows (P := P) (ops := ops) (o := o) (a := a) (w := w) (K := K) (Q := Q) (E := True) hgd s x t ho e ie z size bytes h1 h2 h3 h4 h5 h6 h7
    (some ⟨g1, 0, none⟩) n n cs1.toList hs (by simp) (by simpa using hl1) (fun b hb => by injection hb with hb; subst hb; exact row_cells hg1)
    ⟨g2, 0, none⟩ m m cs2.toList hx (by simpa using hl2) (row_cells hg2) (fun u hu => by rw [Array.all_eq_true_iff_forall_mem] at hone; exact hone u (Array.mem_toList_iff.1 hu))
    (by omega) b1 b2 (fun v' w' r1 r2 => by rw [hd]; exact hK v' w' r1 ⟨r2.os, r2.tape, r2.output, r2.size, fun k hk => r2.block k hk (by simp)⟩)
  rwa [if_pos (by simp [Region.wanted, hgd])] at this
theorem act_list (N : Nat) (x : Act) {ds : List Deferred} (h : x.tmps.size = N) (hd : x.defers = ds) : x = { tmps := ((List.range N).map fun i => x.eval (.tmp i)).toArray, defers := ds } := by
  subst hd
  cases x with
  | mk tm df =>
    congr 1
    subst h
    apply Array.ext
    · simp
    · intro i h1 h2
      simp [Act.eval, h1]
end
end Go.Proofs.YtpgodgfkbkfpcaaGreat.Rin
