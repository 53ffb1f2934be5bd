/- Rows that lie in a block. No condition. -/
import Derived.Test.YtpgodgfkbkfpcaaGreatTru
import Derived.Test.YtpgodgfkbkfpcaaGreatTrt
set_option linter.unusedVariables false
set_option linter.unusedSimpArgs false
namespace Go.Proofs.YtpgodgfkbkfpcaaGreat.Trb
open Go.Shelf Go.RowKit Go.Sort Go.Proofs.YtpgodgfkbkfpcaaGreat.Sra
theorem rowV_cells (r : Rw) : (rowV r).cells.toList = enc r := rfl
theorem flat_get (L : List Rw) (t : Nat) (ht : t < L.length * 5) : (flatV (L.map rowV)).toList[t]? = some (enc L.toArray[t / 5]!)[t % 5]! := by
  have h := Great.flat_get (s := 5) (by omega) (L.map rowV) (fun v hv => by obtain ⟨r, _, rfl⟩ := List.mem_map.1 hv; rfl) t
  have hlt : t / 5 < L.length := by omega
  show (((L.map rowV).flatMap fun v => v.cells.toList))[t]? = _
  rw [h, List.getElem?_map, List.getElem?_eq_getElem hlt]
  simp only [Option.map_some, Option.bind_some]
  have e : L.toArray[t / 5]! = L[t / 5] := by
    rw [getElem!_pos L.toArray (t / 5) (by simpa using hlt)]; simp
  rw [e]
  generalize L[t / 5] = r
  have h5 : t % 5 < (enc r).length := by show t % 5 < 5; omega
  rw [getElem!_pos (enc r) (t % 5) h5]
  have : (rowV r).cells = (enc r).toArray := rfl
  rw [this]
  simp [h5]
theorem flat_len (L : List Rw) : (flatV (L.map rowV)).size = L.length * 5 := by
  induction L with
  | nil => rfl
  | cons r L ih =>
    have : (flatV ((r :: L).map rowV)).size = 5 + (flatV (L.map rowV)).size := by
      simp [flatV, rowV, Value.cells]
      omega
    rw [this, ih, List.length_cons]; omega
theorem flat_app (L M : List Rw) : (flatV (L.map rowV)).toList ++ (flatV (M.map rowV)).toList = (flatV ((L ++ M).map rowV)).toList := by simp [flatV]
theorem flat_one (L : List Rw) : (flatV (L.map rowV)).all (·.oneCell') = true := by
  rw [Array.all_eq_true_iff_forall_mem]
  intro v hv
  rw [← Array.mem_toList_iff] at hv
  simp only [flatV, List.mem_flatMap, List.mem_map] at hv
  obtain ⟨x, ⟨r, _, rfl⟩, hx⟩ := hv
  rw [rowV_cells] at hx
  simp only [enc, List.mem_cons, List.not_mem_nil, or_false] at hx
  rcases hx with rfl | rfl | rfl | rfl | rfl <;> rfl
theorem holds_rows {w : World} {g cap : Nat} {cur : Array Value} {ty : TypeId} (L : List Rw) (hg : w.heap[g]? = some (.cells cur ty (0, 0))) (hs : cur.size = cap * 5) (hc : L.length ≤ cap) (ht : cur.toList.take (L.length * 5) = (flatV (L.map rowV)).toList) : HoldsK enc 5 w g 0 L.toArray := by
  intro t h
  have h' : t < L.length * 5 := by simpa using h
  have e1 := flat_get L t h'
  rw [← ht, List.getElem?_take, if_pos h'] at e1
  have e2 : w.cell? ⟨g, 0 + t, none⟩ = cur[t]? := by rw [Nat.zero_add]; exact cell_of_row w g t cur ty (0, 0) hg
  refine ⟨?_, ?_⟩
  · rw [e2, get_flatK _ _ _ t (by simpa using h)]
    simpa using e1
  · have : t < cur.size := by rw [hs]; have := Nat.mul_le_mul_right 5 hc; omega
    simp [World.frozen?, hg]
end Go.Proofs.YtpgodgfkbkfpcaaGreat.Trb
