/- The steps of the region of check's table (function 208) that draws its order. No condition. (Printed by a program.) -/
import Derived.Test.YtpgodgfkbkfpcaaGreatTrb
set_option linter.unusedVariables false
set_option linter.unusedSimpArgs false
namespace Go.Proofs.YtpgodgfkbkfpcaaGreat.Trs
open Go.Shelf Go.RowKit Go.Proofs.YtpgodgfkbkfpcaaGreat.Sra Go.Proofs.YtpgodgfkbkfpcaaGreat.Trb
noncomputable def ops : Array Oper := Rin.opsOf Tryz.f208 2
def avInner : Array Value := av ⟨#[105, 110, 110, 101, 114]⟩ 5 ⟨#[]⟩ .nilFunc 0 0
def avFirst : Array Value := av ⟨#[102, 105, 114, 115, 116]⟩ 5 ⟨#[]⟩ .nilFunc 0 0
def avThen : Array Value := av ⟨#[116, 104, 101, 110]⟩ 5 ⟨#[]⟩ .nilFunc 0 0
def L208 : List (ByteArray × Int × Bool × Bool) := [(⟨#[115, 99, 97, 108, 101, 95, 98, 121, 95, 97, 100, 97, 100, 101, 108, 116, 97]⟩, 31, false, false), (⟨#[115, 99, 97, 108, 101, 95, 98, 121, 95, 97, 100, 97, 109, 97, 120]⟩, 32, false, false), (⟨#[115, 99, 97, 108, 101, 95, 98, 121, 95, 115, 116, 100, 100, 101, 118]⟩, 33, false, false), (⟨#[115, 99, 97, 108, 101, 95, 98, 121, 95, 110, 111, 118, 111, 103, 114, 97, 100]⟩, 34, false, false), (⟨#[110, 111, 114, 109, 97, 108, 105, 122, 101, 95, 98, 121, 95, 117, 112, 100, 97, 116, 101, 95, 110, 111, 114, 109]⟩, 35, false, false), (⟨#[115, 99, 97, 108, 101, 95, 98, 121, 95, 112, 97, 114, 97, 109, 95, 98, 108, 111, 99, 107, 95, 110, 111, 114, 109]⟩, 36, false, false), (⟨#[99, 108, 105, 112, 95, 98, 121, 95, 98, 108, 111, 99, 107, 95, 110, 111, 114, 109]⟩, 37, false, false), (⟨#[97, 100, 97, 112, 116, 105, 118, 101, 95, 103, 114, 97, 100, 95, 99, 108, 105, 112]⟩, 38, false, false), (⟨#[115, 99, 97, 108, 101, 95, 98, 121, 95, 111, 112, 116, 105, 109, 105, 115, 116, 105, 99, 95, 103, 114, 97, 100, 105, 101, 110, 116]⟩, 39, false, false), (⟨#[107, 101, 101, 112, 95, 112, 97, 114, 97, 109, 115, 95, 105, 110, 95, 98, 111, 120]⟩, 40, false, true), (⟨#[115, 107, 105, 112, 95, 108, 97, 114, 103, 101]⟩, 41, false, false), (⟨#[117, 110, 116, 105, 108]⟩, 42, false, false)]
def KL (B : Nat) : List Kd := [.any, .any, .any, .any, .any, .any, .any, .val (.agg (av ⟨#[114, 104, 111]⟩ 0 ⟨#[48, 46, 57]⟩ (.func (.func 205) #[] #[]) 0 0)), .val (.agg (av ⟨#[101, 112, 115]⟩ 0 ⟨#[49, 101, 45, 54]⟩ (.func (.func 201) #[] #[]) 0 0)), .full [(.agg (av ⟨#[114, 104, 111]⟩ 0 ⟨#[48, 46, 57]⟩ (.func (.func 205) #[] #[]) 0 0)), (.agg (av ⟨#[101, 112, 115]⟩ 0 ⟨#[49, 101, 45, 54]⟩ (.func (.func 201) #[] #[]) 0 0))], .row ⟨#[115, 99, 97, 108, 101, 95, 98, 121, 95, 97, 100, 97, 100, 101, 108, 116, 97]⟩ 31 false false, .val (.agg (av ⟨#[98, 49]⟩ 0 ⟨#[48, 46, 57]⟩ (.func (.func 205) #[] #[]) 0 0)), .val (.agg (av ⟨#[98, 50]⟩ 0 ⟨#[48, 46, 57, 57, 57]⟩ (.func (.func 205) #[] #[]) 0 0)), .val (.agg (av ⟨#[101, 112, 115]⟩ 0 ⟨#[49, 101, 45, 56]⟩ (.func (.func 201) #[] #[]) 0 0)), .full [(.agg (av ⟨#[98, 49]⟩ 0 ⟨#[48, 46, 57]⟩ (.func (.func 205) #[] #[]) 0 0)), (.agg (av ⟨#[98, 50]⟩ 0 ⟨#[48, 46, 57, 57, 57]⟩ (.func (.func 205) #[] #[]) 0 0)), (.agg (av ⟨#[101, 112, 115]⟩ 0 ⟨#[49, 101, 45, 56]⟩ (.func (.func 201) #[] #[]) 0 0))], .row ⟨#[115, 99, 97, 108, 101, 95, 98, 121, 95, 97, 100, 97, 109, 97, 120]⟩ 32 false false, .val (.agg (av ⟨#[100, 101, 99, 97, 121]⟩ 0 ⟨#[48, 46, 57]⟩ (.func (.func 205) #[] #[]) 0 0)), .val (.agg (av ⟨#[101, 112, 115]⟩ 0 ⟨#[49, 101, 45, 56]⟩ (.func (.func 201) #[] #[]) 0 0)), .val (.agg (av ⟨#[105, 110, 105, 116, 105, 97, 108]⟩ 0 ⟨#[48, 46, 48]⟩ (.func (.func 201) #[] #[]) 0 0)), .full [(.agg (av ⟨#[100, 101, 99, 97, 121]⟩ 0 ⟨#[48, 46, 57]⟩ (.func (.func 205) #[] #[]) 0 0)), (.agg (av ⟨#[101, 112, 115]⟩ 0 ⟨#[49, 101, 45, 56]⟩ (.func (.func 201) #[] #[]) 0 0)), (.agg (av ⟨#[105, 110, 105, 116, 105, 97, 108]⟩ 0 ⟨#[48, 46, 48]⟩ (.func (.func 201) #[] #[]) 0 0))], .row ⟨#[115, 99, 97, 108, 101, 95, 98, 121, 95, 115, 116, 100, 100, 101, 118]⟩ 33 false false, .mom, .val (.agg (av ⟨#[119, 101, 105, 103, 104, 116, 95, 100, 101, 99, 97, 121]⟩ 0 ⟨#[48, 46, 48]⟩ (.func (.func 200) #[] #[]) 0 0)), .full [(.agg (av ⟨#[119, 101, 105, 103, 104, 116, 95, 100, 101, 99, 97, 121]⟩ 0 ⟨#[48, 46, 48]⟩ (.func (.func 200) #[] #[]) 0 0))], .sl 5, .row ⟨#[115, 99, 97, 108, 101, 95, 98, 121, 95, 110, 111, 118, 111, 103, 114, 97, 100]⟩ 34 false false, .val (.agg (av ⟨#[115, 99, 97, 108, 101]⟩ 0 ⟨#[49, 46, 48]⟩ (.func (.func 200) #[] #[]) 0 0)), .val (.agg (av ⟨#[101, 112, 115]⟩ 0 ⟨#[49, 101, 45, 54]⟩ (.func (.func 201) #[] #[]) 0 0)), .full [(.agg (av ⟨#[115, 99, 97, 108, 101]⟩ 0 ⟨#[49, 46, 48]⟩ (.func (.func 200) #[] #[]) 0 0)), (.agg (av ⟨#[101, 112, 115]⟩ 0 ⟨#[49, 101, 45, 54]⟩ (.func (.func 201) #[] #[]) 0 0))], .row ⟨#[110, 111, 114, 109, 97, 108, 105, 122, 101, 95, 98, 121, 95, 117, 112, 100, 97, 116, 101, 95, 110, 111, 114, 109]⟩ 35 false false, .val (.agg (av ⟨#[109, 105, 110, 95, 115, 99, 97, 108, 101]⟩ 0 ⟨#[49, 101, 45, 51]⟩ (.func (.func 201) #[] #[]) 0 0)), .full [(.agg (av ⟨#[109, 105, 110, 95, 115, 99, 97, 108, 101]⟩ 0 ⟨#[49, 101, 45, 51]⟩ (.func (.func 201) #[] #[]) 0 0))], .row ⟨#[115, 99, 97, 108, 101, 95, 98, 121, 95, 112, 97, 114, 97, 109, 95, 98, 108, 111, 99, 107, 95, 110, 111, 114, 109]⟩ 36 false false, .val (.agg (av ⟨#[109, 97, 120, 95, 110, 111, 114, 109]⟩ 0 ⟨#[]⟩ (.func (.func 202) #[] #[]) 0 0)), .full [(.agg (av ⟨#[109, 97, 120, 95, 110, 111, 114, 109]⟩ 0 ⟨#[]⟩ (.func (.func 202) #[] #[]) 0 0))], .row ⟨#[99, 108, 105, 112, 95, 98, 121, 95, 98, 108, 111, 99, 107, 95, 110, 111, 114, 109]⟩ 37 false false, .val (.agg (av ⟨#[99, 108, 105, 112, 112, 105, 110, 103]⟩ 0 ⟨#[]⟩ (.func (.func 202) #[] #[]) 0 0)), .val (.agg (av ⟨#[101, 112, 115]⟩ 0 ⟨#[49, 101, 45, 51]⟩ (.func (.func 201) #[] #[]) 0 0)), .full [(.agg (av ⟨#[99, 108, 105, 112, 112, 105, 110, 103]⟩ 0 ⟨#[]⟩ (.func (.func 202) #[] #[]) 0 0)), (.agg (av ⟨#[101, 112, 115]⟩ 0 ⟨#[49, 101, 45, 51]⟩ (.func (.func 201) #[] #[]) 0 0))], .row ⟨#[97, 100, 97, 112, 116, 105, 118, 101, 95, 103, 114, 97, 100, 95, 99, 108, 105, 112]⟩ 38 false false, .val (.agg (av ⟨#[97, 108, 112, 104, 97]⟩ 0 ⟨#[49, 46, 48]⟩ (.func (.func 200) #[] #[]) 0 0)), .val (.agg (av ⟨#[98, 101, 116, 97]⟩ 0 ⟨#[49, 46, 48]⟩ (.func (.func 200) #[] #[]) 0 0)), .full [(.agg (av ⟨#[97, 108, 112, 104, 97]⟩ 0 ⟨#[49, 46, 48]⟩ (.func (.func 200) #[] #[]) 0 0)), (.agg (av ⟨#[98, 101, 116, 97]⟩ 0 ⟨#[49, 46, 48]⟩ (.func (.func 200) #[] #[]) 0 0))], .row ⟨#[115, 99, 97, 108, 101, 95, 98, 121, 95, 111, 112, 116, 105, 109, 105, 115, 116, 105, 99, 95, 103, 114, 97, 100, 105, 101, 110, 116]⟩ 39 false false, .val (.agg (av ⟨#[108, 111, 119]⟩ 0 ⟨#[]⟩ (.func (.func 200) #[] #[]) 0 0)), .val (.agg (av ⟨#[104, 105, 103, 104]⟩ 0 ⟨#[]⟩ (.func (.func 200) #[] #[]) 0 0)), .full [(.agg (av ⟨#[108, 111, 119]⟩ 0 ⟨#[]⟩ (.func (.func 200) #[] #[]) 0 0)), (.agg (av ⟨#[104, 105, 103, 104]⟩ 0 ⟨#[]⟩ (.func (.func 200) #[] #[]) 0 0))], .row ⟨#[107, 101, 101, 112, 95, 112, 97, 114, 97, 109, 115, 95, 105, 110, 95, 98, 111, 120]⟩ 40 false true, .val (.agg avInner), .val (.agg (av ⟨#[109, 97, 120, 95, 110, 111, 114, 109]⟩ 0 ⟨#[]⟩ (.func (.func 202) #[] #[]) 0 0)), .full [(.agg avInner), (.agg (av ⟨#[109, 97, 120, 95, 110, 111, 114, 109]⟩ 0 ⟨#[]⟩ (.func (.func 202) #[] #[]) 0 0))], .row ⟨#[115, 107, 105, 112, 95, 108, 97, 114, 103, 101]⟩ 41 false false, .val (.agg (av ⟨#[115, 116, 101, 112, 115]⟩ 1 ⟨#[]⟩ .nilFunc 1 2147483647)), .val (.agg avFirst), .val (.agg avThen), .full [(.agg (av ⟨#[115, 116, 101, 112, 115]⟩ 1 ⟨#[]⟩ .nilFunc 1 2147483647)), (.agg avFirst), (.agg avThen)], .row ⟨#[117, 110, 116, 105, 108]⟩ 42 false false, .rows L208]
def DL : List Nat := [7, 8, 9, 10, 11, 12, 13, 14, 15, 16, 17, 18, 19, 20, 21, 22, 23, 24, 25, 26, 27, 28, 29, 30, 31, 32, 33, 34, 35, 36, 37, 38, 39, 40, 41, 42, 43, 44, 45, 46, 47, 48, 49, 50, 51, 52, 53, 54, 55, 56, 57]
def D (i : Nat) : Nat := (DL[i]?).getD 0
section
variable {a0 : Act} {w0 : World} {B : Nat}
theorem s0 : Step ops (KL B) 51 58 D a0 w0 0 := fun Q a w hR hS => Rin.step_call (args := [.const (.string ⟨#[114, 104, 111]⟩), .func 205, .const (.string ⟨#[48, 46, 57]⟩)]) (ts := #[9, 242, 9]) (by kernel_rfl) ent199 ((Tab.n ⟨#[114, 104, 111]⟩ ⟨#[48, 46, 57]⟩ 205 w).mono fun e w' h => by
    obtain ⟨rfl, o, rfl⟩ := h
    exact ⟨_, rfl, _, rfl, rfl, below_alloc _ _⟩)
theorem s1 : Step ops (KL B) 51 58 D a0 w0 1 := fun Q a w hR hS => Rin.step_call (args := [.const (.string ⟨#[101, 112, 115]⟩), .func 201, .const (.string ⟨#[49, 101, 45, 54]⟩)]) (ts := #[9, 242, 9]) (by kernel_rfl) ent199 ((Tab.n ⟨#[101, 112, 115]⟩ ⟨#[49, 101, 45, 54]⟩ 201 w).mono fun e w' h => by
    obtain ⟨rfl, o, rfl⟩ := h
    exact ⟨_, rfl, _, rfl, rfl, below_alloc _ _⟩)
theorem s2 : Step ops (KL B) 51 58 D a0 w0 2 := fun Q a w hR hS => by
  have h7 : a.eval (.tmp 7) = (.agg (av ⟨#[114, 104, 111]⟩ 0 ⟨#[48, 46, 57]⟩ (.func (.func 205) #[] #[]) 0 0)) := hS 0 (by omega) (by kernel_rfl)
  have h8 : a.eval (.tmp 8) = (.agg (av ⟨#[101, 112, 115]⟩ 0 ⟨#[49, 101, 45, 54]⟩ (.func (.func 201) #[] #[]) 0 0)) := hS 1 (by omega) (by kernel_rfl)
  refine Rin.step_rows (l := [(0, .tmp 7), (1, .tmp 8)]) (by kernel_rfl) [(.agg (av ⟨#[114, 104, 111]⟩ 0 ⟨#[48, 46, 57]⟩ (.func (.func 205) #[] #[]) 0 0)), (.agg (av ⟨#[101, 112, 115]⟩ 0 ⟨#[49, 101, 45, 54]⟩ (.func (.func 201) #[] #[]) 0 0))] (by show [(0, a.eval (.tmp 7)), (1, a.eval (.tmp 8))] = _; rw [h7, h8]; rfl) rfl (s := 6) (n := 2) (by decide) (by decide) (by decide) Tryz.underlying205 (by kernel_rfl) (by kernel_rfl) (by intro v hv; simp only [List.mem_cons, List.not_mem_nil, or_false] at hv; rcases hv with rfl | rfl <;> rfl) ⟨_, rfl, ⟨_, rfl, heap_alloc_new _ _⟩, below_alloc _ _⟩
theorem s3 : Step ops (KL B) 51 58 D a0 w0 3 := fun Q a w hR hS => by
  obtain ⟨g, hs, hg⟩ : Kd.holds (.full [(.agg (av ⟨#[114, 104, 111]⟩ 0 ⟨#[48, 46, 57]⟩ (.func (.func 205) #[] #[]) 0 0)), (.agg (av ⟨#[101, 112, 115]⟩ 0 ⟨#[49, 101, 45, 54]⟩ (.func (.func 201) #[] #[]) 0 0))]) (a.eval (.tmp 9)) w := hS 2 (by omega) (by kernel_rfl)
  refine Rin.step_build (l := [(0, .const (.string ⟨#[115, 99, 97, 108, 101, 95, 98, 121, 95, 97, 100, 97, 100, 101, 108, 116, 97]⟩)), (1, .const (.int .i64 31)), (2, .tmp 9)]) (by kernel_rfl) #[.string ⟨#[115, 99, 97, 108, 101, 95, 98, 121, 95, 97, 100, 97, 100, 101, 108, 116, 97]⟩, .int .i64 31, .slice (some ⟨g, 0, none⟩) 2 2, .bool false, .bool false] (by show Tryz.prog.built 207 [(0, _), (1, _), (2, a.eval (.tmp 9))] = _; rw [hs]; kernel_rfl) ⟨_, rfl, ⟨_, _, _, rfl, fine_other (show (31 : Int) ≠ 1 by decide) (show (31 : Int) ≠ 7 by decide)⟩, Below.refl _ _⟩
theorem s4 : Step ops (KL B) 51 58 D a0 w0 4 := fun Q a w hR hS => Rin.step_call (args := [.const (.string ⟨#[98, 49]⟩), .func 205, .const (.string ⟨#[48, 46, 57]⟩)]) (ts := #[9, 242, 9]) (by kernel_rfl) ent199 ((Tab.n ⟨#[98, 49]⟩ ⟨#[48, 46, 57]⟩ 205 w).mono fun e w' h => by
    obtain ⟨rfl, o, rfl⟩ := h
    exact ⟨_, rfl, _, rfl, rfl, below_alloc _ _⟩)
theorem s5 : Step ops (KL B) 51 58 D a0 w0 5 := fun Q a w hR hS => Rin.step_call (args := [.const (.string ⟨#[98, 50]⟩), .func 205, .const (.string ⟨#[48, 46, 57, 57, 57]⟩)]) (ts := #[9, 242, 9]) (by kernel_rfl) ent199 ((Tab.n ⟨#[98, 50]⟩ ⟨#[48, 46, 57, 57, 57]⟩ 205 w).mono fun e w' h => by
    obtain ⟨rfl, o, rfl⟩ := h
    exact ⟨_, rfl, _, rfl, rfl, below_alloc _ _⟩)
theorem s6 : Step ops (KL B) 51 58 D a0 w0 6 := fun Q a w hR hS => Rin.step_call (args := [.const (.string ⟨#[101, 112, 115]⟩), .func 201, .const (.string ⟨#[49, 101, 45, 56]⟩)]) (ts := #[9, 242, 9]) (by kernel_rfl) ent199 ((Tab.n ⟨#[101, 112, 115]⟩ ⟨#[49, 101, 45, 56]⟩ 201 w).mono fun e w' h => by
    obtain ⟨rfl, o, rfl⟩ := h
    exact ⟨_, rfl, _, rfl, rfl, below_alloc _ _⟩)
theorem s7 : Step ops (KL B) 51 58 D a0 w0 7 := fun Q a w hR hS => by
  have h11 : a.eval (.tmp 11) = (.agg (av ⟨#[98, 49]⟩ 0 ⟨#[48, 46, 57]⟩ (.func (.func 205) #[] #[]) 0 0)) := hS 4 (by omega) (by kernel_rfl)
  have h12 : a.eval (.tmp 12) = (.agg (av ⟨#[98, 50]⟩ 0 ⟨#[48, 46, 57, 57, 57]⟩ (.func (.func 205) #[] #[]) 0 0)) := hS 5 (by omega) (by kernel_rfl)
  have h13 : a.eval (.tmp 13) = (.agg (av ⟨#[101, 112, 115]⟩ 0 ⟨#[49, 101, 45, 56]⟩ (.func (.func 201) #[] #[]) 0 0)) := hS 6 (by omega) (by kernel_rfl)
  refine Rin.step_rows (l := [(0, .tmp 11), (1, .tmp 12), (2, .tmp 13)]) (by kernel_rfl) [(.agg (av ⟨#[98, 49]⟩ 0 ⟨#[48, 46, 57]⟩ (.func (.func 205) #[] #[]) 0 0)), (.agg (av ⟨#[98, 50]⟩ 0 ⟨#[48, 46, 57, 57, 57]⟩ (.func (.func 205) #[] #[]) 0 0)), (.agg (av ⟨#[101, 112, 115]⟩ 0 ⟨#[49, 101, 45, 56]⟩ (.func (.func 201) #[] #[]) 0 0))] (by show [(0, a.eval (.tmp 11)), (1, a.eval (.tmp 12)), (2, a.eval (.tmp 13))] = _; rw [h11, h12, h13]; rfl) rfl (s := 6) (n := 3) (by decide) (by decide) (by decide) Tryz.underlying205 (by kernel_rfl) (by kernel_rfl) (by intro v hv; simp only [List.mem_cons, List.not_mem_nil, or_false] at hv; rcases hv with rfl | rfl | rfl <;> rfl) ⟨_, rfl, ⟨_, rfl, heap_alloc_new _ _⟩, below_alloc _ _⟩
theorem s8 : Step ops (KL B) 51 58 D a0 w0 8 := fun Q a w hR hS => by
  obtain ⟨g, hs, hg⟩ : Kd.holds (.full [(.agg (av ⟨#[98, 49]⟩ 0 ⟨#[48, 46, 57]⟩ (.func (.func 205) #[] #[]) 0 0)), (.agg (av ⟨#[98, 50]⟩ 0 ⟨#[48, 46, 57, 57, 57]⟩ (.func (.func 205) #[] #[]) 0 0)), (.agg (av ⟨#[101, 112, 115]⟩ 0 ⟨#[49, 101, 45, 56]⟩ (.func (.func 201) #[] #[]) 0 0))]) (a.eval (.tmp 14)) w := hS 7 (by omega) (by kernel_rfl)
  refine Rin.step_build (l := [(0, .const (.string ⟨#[115, 99, 97, 108, 101, 95, 98, 121, 95, 97, 100, 97, 109, 97, 120]⟩)), (1, .const (.int .i64 32)), (2, .tmp 14)]) (by kernel_rfl) #[.string ⟨#[115, 99, 97, 108, 101, 95, 98, 121, 95, 97, 100, 97, 109, 97, 120]⟩, .int .i64 32, .slice (some ⟨g, 0, none⟩) 3 3, .bool false, .bool false] (by show Tryz.prog.built 207 [(0, _), (1, _), (2, a.eval (.tmp 14))] = _; rw [hs]; kernel_rfl) ⟨_, rfl, ⟨_, _, _, rfl, fine_other (show (32 : Int) ≠ 1 by decide) (show (32 : Int) ≠ 7 by decide)⟩, Below.refl _ _⟩
theorem s9 : Step ops (KL B) 51 58 D a0 w0 9 := fun Q a w hR hS => Rin.step_call (args := [.const (.string ⟨#[100, 101, 99, 97, 121]⟩), .func 205, .const (.string ⟨#[48, 46, 57]⟩)]) (ts := #[9, 242, 9]) (by kernel_rfl) ent199 ((Tab.n ⟨#[100, 101, 99, 97, 121]⟩ ⟨#[48, 46, 57]⟩ 205 w).mono fun e w' h => by
    obtain ⟨rfl, o, rfl⟩ := h
    exact ⟨_, rfl, _, rfl, rfl, below_alloc _ _⟩)
theorem s10 : Step ops (KL B) 51 58 D a0 w0 10 := fun Q a w hR hS => Rin.step_call (args := [.const (.string ⟨#[101, 112, 115]⟩), .func 201, .const (.string ⟨#[49, 101, 45, 56]⟩)]) (ts := #[9, 242, 9]) (by kernel_rfl) ent199 ((Tab.n ⟨#[101, 112, 115]⟩ ⟨#[49, 101, 45, 56]⟩ 201 w).mono fun e w' h => by
    obtain ⟨rfl, o, rfl⟩ := h
    exact ⟨_, rfl, _, rfl, rfl, below_alloc _ _⟩)
theorem s11 : Step ops (KL B) 51 58 D a0 w0 11 := fun Q a w hR hS => Rin.step_call (args := [.const (.string ⟨#[105, 110, 105, 116, 105, 97, 108]⟩), .func 201, .const (.string ⟨#[48, 46, 48]⟩)]) (ts := #[9, 242, 9]) (by kernel_rfl) ent199 ((Tab.n ⟨#[105, 110, 105, 116, 105, 97, 108]⟩ ⟨#[48, 46, 48]⟩ 201 w).mono fun e w' h => by
    obtain ⟨rfl, o, rfl⟩ := h
    exact ⟨_, rfl, _, rfl, rfl, below_alloc _ _⟩)
theorem s12 : Step ops (KL B) 51 58 D a0 w0 12 := fun Q a w hR hS => by
  have h16 : a.eval (.tmp 16) = (.agg (av ⟨#[100, 101, 99, 97, 121]⟩ 0 ⟨#[48, 46, 57]⟩ (.func (.func 205) #[] #[]) 0 0)) := hS 9 (by omega) (by kernel_rfl)
  have h17 : a.eval (.tmp 17) = (.agg (av ⟨#[101, 112, 115]⟩ 0 ⟨#[49, 101, 45, 56]⟩ (.func (.func 201) #[] #[]) 0 0)) := hS 10 (by omega) (by kernel_rfl)
  have h18 : a.eval (.tmp 18) = (.agg (av ⟨#[105, 110, 105, 116, 105, 97, 108]⟩ 0 ⟨#[48, 46, 48]⟩ (.func (.func 201) #[] #[]) 0 0)) := hS 11 (by omega) (by kernel_rfl)
  refine Rin.step_rows (l := [(0, .tmp 16), (1, .tmp 17), (2, .tmp 18)]) (by kernel_rfl) [(.agg (av ⟨#[100, 101, 99, 97, 121]⟩ 0 ⟨#[48, 46, 57]⟩ (.func (.func 205) #[] #[]) 0 0)), (.agg (av ⟨#[101, 112, 115]⟩ 0 ⟨#[49, 101, 45, 56]⟩ (.func (.func 201) #[] #[]) 0 0)), (.agg (av ⟨#[105, 110, 105, 116, 105, 97, 108]⟩ 0 ⟨#[48, 46, 48]⟩ (.func (.func 201) #[] #[]) 0 0))] (by show [(0, a.eval (.tmp 16)), (1, a.eval (.tmp 17)), (2, a.eval (.tmp 18))] = _; rw [h16, h17, h18]; rfl) rfl (s := 6) (n := 3) (by decide) (by decide) (by decide) Tryz.underlying205 (by kernel_rfl) (by kernel_rfl) (by intro v hv; simp only [List.mem_cons, List.not_mem_nil, or_false] at hv; rcases hv with rfl | rfl | rfl <;> rfl) ⟨_, rfl, ⟨_, rfl, heap_alloc_new _ _⟩, below_alloc _ _⟩
theorem s13 : Step ops (KL B) 51 58 D a0 w0 13 := fun Q a w hR hS => by
  obtain ⟨g, hs, hg⟩ : Kd.holds (.full [(.agg (av ⟨#[100, 101, 99, 97, 121]⟩ 0 ⟨#[48, 46, 57]⟩ (.func (.func 205) #[] #[]) 0 0)), (.agg (av ⟨#[101, 112, 115]⟩ 0 ⟨#[49, 101, 45, 56]⟩ (.func (.func 201) #[] #[]) 0 0)), (.agg (av ⟨#[105, 110, 105, 116, 105, 97, 108]⟩ 0 ⟨#[48, 46, 48]⟩ (.func (.func 201) #[] #[]) 0 0))]) (a.eval (.tmp 19)) w := hS 12 (by omega) (by kernel_rfl)
  refine Rin.step_build (l := [(0, .const (.string ⟨#[115, 99, 97, 108, 101, 95, 98, 121, 95, 115, 116, 100, 100, 101, 118]⟩)), (1, .const (.int .i64 33)), (2, .tmp 19)]) (by kernel_rfl) #[.string ⟨#[115, 99, 97, 108, 101, 95, 98, 121, 95, 115, 116, 100, 100, 101, 118]⟩, .int .i64 33, .slice (some ⟨g, 0, none⟩) 3 3, .bool false, .bool false] (by show Tryz.prog.built 207 [(0, _), (1, _), (2, a.eval (.tmp 19))] = _; rw [hs]; kernel_rfl) ⟨_, rfl, ⟨_, _, _, rfl, fine_other (show (33 : Int) ≠ 1 by decide) (show (33 : Int) ≠ 7 by decide)⟩, Below.refl _ _⟩
theorem s14 : Step ops (KL B) 51 58 D a0 w0 14 := fun Q a w hR hS => Rin.step_call (args := [.const (.string ⟨#[48, 46, 50, 53]⟩), .const (.string ⟨#[49, 101, 45, 54]⟩), .const (.string ⟨#[101, 112, 115, 95, 114, 111, 111, 116]⟩), .const (.string ⟨#[48, 46, 48]⟩)]) (ts := #[9, 9, 9, 9]) (by kernel_rfl) ent206 ((Tab.moments ⟨#[48, 46, 50, 53]⟩ ⟨#[49, 101, 45, 54]⟩ ⟨#[101, 112, 115, 95, 114, 111, 111, 116]⟩ ⟨#[48, 46, 48]⟩ w).mono fun e w' h => by
    obtain ⟨⟨g, cs, rfl, h1, h2, h3⟩, h4⟩ := h
    exact ⟨_, rfl, _, rfl, ⟨g, cs, rfl, h1, h2, h3⟩, h4⟩)
theorem s15 : Step ops (KL B) 51 58 D a0 w0 15 := fun Q a w hR hS => Rin.step_call (args := [.const (.string ⟨#[119, 101, 105, 103, 104, 116, 95, 100, 101, 99, 97, 121]⟩), .func 200, .const (.string ⟨#[48, 46, 48]⟩)]) (ts := #[9, 242, 9]) (by kernel_rfl) ent199 ((Tab.n ⟨#[119, 101, 105, 103, 104, 116, 95, 100, 101, 99, 97, 121]⟩ ⟨#[48, 46, 48]⟩ 200 w).mono fun e w' h => by
    obtain ⟨rfl, o, rfl⟩ := h
    exact ⟨_, rfl, _, rfl, rfl, below_alloc _ _⟩)
theorem s16 : Step ops (KL B) 51 58 D a0 w0 16 := fun Q a w hR hS => by
  have h22 : a.eval (.tmp 22) = (.agg (av ⟨#[119, 101, 105, 103, 104, 116, 95, 100, 101, 99, 97, 121]⟩ 0 ⟨#[48, 46, 48]⟩ (.func (.func 200) #[] #[]) 0 0)) := hS 15 (by omega) (by kernel_rfl)
  refine Rin.step_rows (l := [(0, .tmp 22)]) (by kernel_rfl) [(.agg (av ⟨#[119, 101, 105, 103, 104, 116, 95, 100, 101, 99, 97, 121]⟩ 0 ⟨#[48, 46, 48]⟩ (.func (.func 200) #[] #[]) 0 0))] (by show [(0, a.eval (.tmp 22))] = _; rw [h22]; rfl) rfl (s := 6) (n := 1) (by decide) (by decide) (by decide) Tryz.underlying205 (by kernel_rfl) (by kernel_rfl) (by intro v hv; simp only [List.mem_cons, List.not_mem_nil, or_false] at hv; rcases hv with rfl <;> rfl) ⟨_, rfl, ⟨_, rfl, heap_alloc_new _ _⟩, below_alloc _ _⟩
theorem s17 : Step ops (KL B) 51 58 D a0 w0 17 := fun Q a w hR hS => by
  obtain ⟨g1, cs1, h1, hg1, hl1, ho1⟩ : Kd.holds .mom (a.eval (.tmp 21)) w := hS 14 (by omega) (by kernel_rfl)
  obtain ⟨g2, h2, hg2⟩ : Kd.holds (.full [(.agg (av ⟨#[119, 101, 105, 103, 104, 116, 95, 100, 101, 99, 97, 121]⟩ 0 ⟨#[48, 46, 48]⟩ (.func (.func 200) #[] #[]) 0 0))]) (a.eval (.tmp 23)) w := hS 16 (by omega) (by kernel_rfl)
  refine Rin.step_append (d := some 24) (by kernel_rfl) 244 tA zA 6 64 Tryz.underlying205 (by kernel_rfl) (by kernel_rfl) (by kernel_rfl) (by kernel_rfl) (by kernel_rfl) (by decide) g1 4 cs1 (0, 0) h1 hg1 hl1 g2 1 _ (0, 0) h2 hg2 (by kernel_rfl) (by kernel_rfl) (by decide) (by unfold maxLen; omega) (by omega) ?_
  rintro v' w' ⟨-, h | ⟨g, cap, cur, rfl, -, -⟩⟩ hB
  · exact absurd h.2 (by decide)
  · exact ⟨_, rfl, ⟨g, cap, rfl⟩, hB⟩
theorem s18 : Step ops (KL B) 51 58 D a0 w0 18 := fun Q a w hR hS => by
  obtain ⟨g, c, hs⟩ : Kd.holds (.sl 5) (a.eval (.tmp 24)) w := hS 17 (by omega) (by kernel_rfl)
  refine Rin.step_build (l := [(0, .const (.string ⟨#[115, 99, 97, 108, 101, 95, 98, 121, 95, 110, 111, 118, 111, 103, 114, 97, 100]⟩)), (1, .const (.int .i64 34)), (2, .tmp 24)]) (by kernel_rfl) #[.string ⟨#[115, 99, 97, 108, 101, 95, 98, 121, 95, 110, 111, 118, 111, 103, 114, 97, 100]⟩, .int .i64 34, .slice (some ⟨g, 0, none⟩) 5 c, .bool false, .bool false] (by show Tryz.prog.built 207 [(0, _), (1, _), (2, a.eval (.tmp 24))] = _; rw [hs]; kernel_rfl) ⟨_, rfl, ⟨_, _, _, rfl, fine_other (show (34 : Int) ≠ 1 by decide) (show (34 : Int) ≠ 7 by decide)⟩, Below.refl _ _⟩
theorem s19 : Step ops (KL B) 51 58 D a0 w0 19 := fun Q a w hR hS => Rin.step_call (args := [.const (.string ⟨#[115, 99, 97, 108, 101]⟩), .func 200, .const (.string ⟨#[49, 46, 48]⟩)]) (ts := #[9, 242, 9]) (by kernel_rfl) ent199 ((Tab.n ⟨#[115, 99, 97, 108, 101]⟩ ⟨#[49, 46, 48]⟩ 200 w).mono fun e w' h => by
    obtain ⟨rfl, o, rfl⟩ := h
    exact ⟨_, rfl, _, rfl, rfl, below_alloc _ _⟩)
theorem s20 : Step ops (KL B) 51 58 D a0 w0 20 := fun Q a w hR hS => Rin.step_call (args := [.const (.string ⟨#[101, 112, 115]⟩), .func 201, .const (.string ⟨#[49, 101, 45, 54]⟩)]) (ts := #[9, 242, 9]) (by kernel_rfl) ent199 ((Tab.n ⟨#[101, 112, 115]⟩ ⟨#[49, 101, 45, 54]⟩ 201 w).mono fun e w' h => by
    obtain ⟨rfl, o, rfl⟩ := h
    exact ⟨_, rfl, _, rfl, rfl, below_alloc _ _⟩)
theorem s21 : Step ops (KL B) 51 58 D a0 w0 21 := fun Q a w hR hS => by
  have h26 : a.eval (.tmp 26) = (.agg (av ⟨#[115, 99, 97, 108, 101]⟩ 0 ⟨#[49, 46, 48]⟩ (.func (.func 200) #[] #[]) 0 0)) := hS 19 (by omega) (by kernel_rfl)
  have h27 : a.eval (.tmp 27) = (.agg (av ⟨#[101, 112, 115]⟩ 0 ⟨#[49, 101, 45, 54]⟩ (.func (.func 201) #[] #[]) 0 0)) := hS 20 (by omega) (by kernel_rfl)
  refine Rin.step_rows (l := [(0, .tmp 26), (1, .tmp 27)]) (by kernel_rfl) [(.agg (av ⟨#[115, 99, 97, 108, 101]⟩ 0 ⟨#[49, 46, 48]⟩ (.func (.func 200) #[] #[]) 0 0)), (.agg (av ⟨#[101, 112, 115]⟩ 0 ⟨#[49, 101, 45, 54]⟩ (.func (.func 201) #[] #[]) 0 0))] (by show [(0, a.eval (.tmp 26)), (1, a.eval (.tmp 27))] = _; rw [h26, h27]; rfl) rfl (s := 6) (n := 2) (by decide) (by decide) (by decide) Tryz.underlying205 (by kernel_rfl) (by kernel_rfl) (by intro v hv; simp only [List.mem_cons, List.not_mem_nil, or_false] at hv; rcases hv with rfl | rfl <;> rfl) ⟨_, rfl, ⟨_, rfl, heap_alloc_new _ _⟩, below_alloc _ _⟩
theorem s22 : Step ops (KL B) 51 58 D a0 w0 22 := fun Q a w hR hS => by
  obtain ⟨g, hs, hg⟩ : Kd.holds (.full [(.agg (av ⟨#[115, 99, 97, 108, 101]⟩ 0 ⟨#[49, 46, 48]⟩ (.func (.func 200) #[] #[]) 0 0)), (.agg (av ⟨#[101, 112, 115]⟩ 0 ⟨#[49, 101, 45, 54]⟩ (.func (.func 201) #[] #[]) 0 0))]) (a.eval (.tmp 28)) w := hS 21 (by omega) (by kernel_rfl)
  refine Rin.step_build (l := [(0, .const (.string ⟨#[110, 111, 114, 109, 97, 108, 105, 122, 101, 95, 98, 121, 95, 117, 112, 100, 97, 116, 101, 95, 110, 111, 114, 109]⟩)), (1, .const (.int .i64 35)), (2, .tmp 28)]) (by kernel_rfl) #[.string ⟨#[110, 111, 114, 109, 97, 108, 105, 122, 101, 95, 98, 121, 95, 117, 112, 100, 97, 116, 101, 95, 110, 111, 114, 109]⟩, .int .i64 35, .slice (some ⟨g, 0, none⟩) 2 2, .bool false, .bool false] (by show Tryz.prog.built 207 [(0, _), (1, _), (2, a.eval (.tmp 28))] = _; rw [hs]; kernel_rfl) ⟨_, rfl, ⟨_, _, _, rfl, fine_other (show (35 : Int) ≠ 1 by decide) (show (35 : Int) ≠ 7 by decide)⟩, Below.refl _ _⟩
theorem s23 : Step ops (KL B) 51 58 D a0 w0 23 := fun Q a w hR hS => Rin.step_call (args := [.const (.string ⟨#[109, 105, 110, 95, 115, 99, 97, 108, 101]⟩), .func 201, .const (.string ⟨#[49, 101, 45, 51]⟩)]) (ts := #[9, 242, 9]) (by kernel_rfl) ent199 ((Tab.n ⟨#[109, 105, 110, 95, 115, 99, 97, 108, 101]⟩ ⟨#[49, 101, 45, 51]⟩ 201 w).mono fun e w' h => by
    obtain ⟨rfl, o, rfl⟩ := h
    exact ⟨_, rfl, _, rfl, rfl, below_alloc _ _⟩)
theorem s24 : Step ops (KL B) 51 58 D a0 w0 24 := fun Q a w hR hS => by
  have h30 : a.eval (.tmp 30) = (.agg (av ⟨#[109, 105, 110, 95, 115, 99, 97, 108, 101]⟩ 0 ⟨#[49, 101, 45, 51]⟩ (.func (.func 201) #[] #[]) 0 0)) := hS 23 (by omega) (by kernel_rfl)
  refine Rin.step_rows (l := [(0, .tmp 30)]) (by kernel_rfl) [(.agg (av ⟨#[109, 105, 110, 95, 115, 99, 97, 108, 101]⟩ 0 ⟨#[49, 101, 45, 51]⟩ (.func (.func 201) #[] #[]) 0 0))] (by show [(0, a.eval (.tmp 30))] = _; rw [h30]; rfl) rfl (s := 6) (n := 1) (by decide) (by decide) (by decide) Tryz.underlying205 (by kernel_rfl) (by kernel_rfl) (by intro v hv; simp only [List.mem_cons, List.not_mem_nil, or_false] at hv; rcases hv with rfl <;> rfl) ⟨_, rfl, ⟨_, rfl, heap_alloc_new _ _⟩, below_alloc _ _⟩
theorem s25 : Step ops (KL B) 51 58 D a0 w0 25 := fun Q a w hR hS => by
  obtain ⟨g, hs, hg⟩ : Kd.holds (.full [(.agg (av ⟨#[109, 105, 110, 95, 115, 99, 97, 108, 101]⟩ 0 ⟨#[49, 101, 45, 51]⟩ (.func (.func 201) #[] #[]) 0 0))]) (a.eval (.tmp 31)) w := hS 24 (by omega) (by kernel_rfl)
  refine Rin.step_build (l := [(0, .const (.string ⟨#[115, 99, 97, 108, 101, 95, 98, 121, 95, 112, 97, 114, 97, 109, 95, 98, 108, 111, 99, 107, 95, 110, 111, 114, 109]⟩)), (1, .const (.int .i64 36)), (2, .tmp 31)]) (by kernel_rfl) #[.string ⟨#[115, 99, 97, 108, 101, 95, 98, 121, 95, 112, 97, 114, 97, 109, 95, 98, 108, 111, 99, 107, 95, 110, 111, 114, 109]⟩, .int .i64 36, .slice (some ⟨g, 0, none⟩) 1 1, .bool false, .bool false] (by show Tryz.prog.built 207 [(0, _), (1, _), (2, a.eval (.tmp 31))] = _; rw [hs]; kernel_rfl) ⟨_, rfl, ⟨_, _, _, rfl, fine_other (show (36 : Int) ≠ 1 by decide) (show (36 : Int) ≠ 7 by decide)⟩, Below.refl _ _⟩
theorem s26 : Step ops (KL B) 51 58 D a0 w0 26 := fun Q a w hR hS => Rin.step_call (args := [.const (.string ⟨#[109, 97, 120, 95, 110, 111, 114, 109]⟩), .func 202, .const (.string ⟨#[]⟩)]) (ts := #[9, 242, 9]) (by kernel_rfl) ent199 ((Tab.n ⟨#[109, 97, 120, 95, 110, 111, 114, 109]⟩ ⟨#[]⟩ 202 w).mono fun e w' h => by
    obtain ⟨rfl, o, rfl⟩ := h
    exact ⟨_, rfl, _, rfl, rfl, below_alloc _ _⟩)
theorem s27 : Step ops (KL B) 51 58 D a0 w0 27 := fun Q a w hR hS => by
  have h33 : a.eval (.tmp 33) = (.agg (av ⟨#[109, 97, 120, 95, 110, 111, 114, 109]⟩ 0 ⟨#[]⟩ (.func (.func 202) #[] #[]) 0 0)) := hS 26 (by omega) (by kernel_rfl)
  refine Rin.step_rows (l := [(0, .tmp 33)]) (by kernel_rfl) [(.agg (av ⟨#[109, 97, 120, 95, 110, 111, 114, 109]⟩ 0 ⟨#[]⟩ (.func (.func 202) #[] #[]) 0 0))] (by show [(0, a.eval (.tmp 33))] = _; rw [h33]; rfl) rfl (s := 6) (n := 1) (by decide) (by decide) (by decide) Tryz.underlying205 (by kernel_rfl) (by kernel_rfl) (by intro v hv; simp only [List.mem_cons, List.not_mem_nil, or_false] at hv; rcases hv with rfl <;> rfl) ⟨_, rfl, ⟨_, rfl, heap_alloc_new _ _⟩, below_alloc _ _⟩
theorem s28 : Step ops (KL B) 51 58 D a0 w0 28 := fun Q a w hR hS => by
  obtain ⟨g, hs, hg⟩ : Kd.holds (.full [(.agg (av ⟨#[109, 97, 120, 95, 110, 111, 114, 109]⟩ 0 ⟨#[]⟩ (.func (.func 202) #[] #[]) 0 0))]) (a.eval (.tmp 34)) w := hS 27 (by omega) (by kernel_rfl)
  refine Rin.step_build (l := [(0, .const (.string ⟨#[99, 108, 105, 112, 95, 98, 121, 95, 98, 108, 111, 99, 107, 95, 110, 111, 114, 109]⟩)), (1, .const (.int .i64 37)), (2, .tmp 34)]) (by kernel_rfl) #[.string ⟨#[99, 108, 105, 112, 95, 98, 121, 95, 98, 108, 111, 99, 107, 95, 110, 111, 114, 109]⟩, .int .i64 37, .slice (some ⟨g, 0, none⟩) 1 1, .bool false, .bool false] (by show Tryz.prog.built 207 [(0, _), (1, _), (2, a.eval (.tmp 34))] = _; rw [hs]; kernel_rfl) ⟨_, rfl, ⟨_, _, _, rfl, fine_other (show (37 : Int) ≠ 1 by decide) (show (37 : Int) ≠ 7 by decide)⟩, Below.refl _ _⟩
theorem s29 : Step ops (KL B) 51 58 D a0 w0 29 := fun Q a w hR hS => Rin.step_call (args := [.const (.string ⟨#[99, 108, 105, 112, 112, 105, 110, 103]⟩), .func 202, .const (.string ⟨#[]⟩)]) (ts := #[9, 242, 9]) (by kernel_rfl) ent199 ((Tab.n ⟨#[99, 108, 105, 112, 112, 105, 110, 103]⟩ ⟨#[]⟩ 202 w).mono fun e w' h => by
    obtain ⟨rfl, o, rfl⟩ := h
    exact ⟨_, rfl, _, rfl, rfl, below_alloc _ _⟩)
theorem s30 : Step ops (KL B) 51 58 D a0 w0 30 := fun Q a w hR hS => Rin.step_call (args := [.const (.string ⟨#[101, 112, 115]⟩), .func 201, .const (.string ⟨#[49, 101, 45, 51]⟩)]) (ts := #[9, 242, 9]) (by kernel_rfl) ent199 ((Tab.n ⟨#[101, 112, 115]⟩ ⟨#[49, 101, 45, 51]⟩ 201 w).mono fun e w' h => by
    obtain ⟨rfl, o, rfl⟩ := h
    exact ⟨_, rfl, _, rfl, rfl, below_alloc _ _⟩)
theorem s31 : Step ops (KL B) 51 58 D a0 w0 31 := fun Q a w hR hS => by
  have h36 : a.eval (.tmp 36) = (.agg (av ⟨#[99, 108, 105, 112, 112, 105, 110, 103]⟩ 0 ⟨#[]⟩ (.func (.func 202) #[] #[]) 0 0)) := hS 29 (by omega) (by kernel_rfl)
  have h37 : a.eval (.tmp 37) = (.agg (av ⟨#[101, 112, 115]⟩ 0 ⟨#[49, 101, 45, 51]⟩ (.func (.func 201) #[] #[]) 0 0)) := hS 30 (by omega) (by kernel_rfl)
  refine Rin.step_rows (l := [(0, .tmp 36), (1, .tmp 37)]) (by kernel_rfl) [(.agg (av ⟨#[99, 108, 105, 112, 112, 105, 110, 103]⟩ 0 ⟨#[]⟩ (.func (.func 202) #[] #[]) 0 0)), (.agg (av ⟨#[101, 112, 115]⟩ 0 ⟨#[49, 101, 45, 51]⟩ (.func (.func 201) #[] #[]) 0 0))] (by show [(0, a.eval (.tmp 36)), (1, a.eval (.tmp 37))] = _; rw [h36, h37]; rfl) rfl (s := 6) (n := 2) (by decide) (by decide) (by decide) Tryz.underlying205 (by kernel_rfl) (by kernel_rfl) (by intro v hv; simp only [List.mem_cons, List.not_mem_nil, or_false] at hv; rcases hv with rfl | rfl <;> rfl) ⟨_, rfl, ⟨_, rfl, heap_alloc_new _ _⟩, below_alloc _ _⟩
theorem s32 : Step ops (KL B) 51 58 D a0 w0 32 := fun Q a w hR hS => by
  obtain ⟨g, hs, hg⟩ : Kd.holds (.full [(.agg (av ⟨#[99, 108, 105, 112, 112, 105, 110, 103]⟩ 0 ⟨#[]⟩ (.func (.func 202) #[] #[]) 0 0)), (.agg (av ⟨#[101, 112, 115]⟩ 0 ⟨#[49, 101, 45, 51]⟩ (.func (.func 201) #[] #[]) 0 0))]) (a.eval (.tmp 38)) w := hS 31 (by omega) (by kernel_rfl)
  refine Rin.step_build (l := [(0, .const (.string ⟨#[97, 100, 97, 112, 116, 105, 118, 101, 95, 103, 114, 97, 100, 95, 99, 108, 105, 112]⟩)), (1, .const (.int .i64 38)), (2, .tmp 38)]) (by kernel_rfl) #[.string ⟨#[97, 100, 97, 112, 116, 105, 118, 101, 95, 103, 114, 97, 100, 95, 99, 108, 105, 112]⟩, .int .i64 38, .slice (some ⟨g, 0, none⟩) 2 2, .bool false, .bool false] (by show Tryz.prog.built 207 [(0, _), (1, _), (2, a.eval (.tmp 38))] = _; rw [hs]; kernel_rfl) ⟨_, rfl, ⟨_, _, _, rfl, fine_other (show (38 : Int) ≠ 1 by decide) (show (38 : Int) ≠ 7 by decide)⟩, Below.refl _ _⟩
theorem s33 : Step ops (KL B) 51 58 D a0 w0 33 := fun Q a w hR hS => Rin.step_call (args := [.const (.string ⟨#[97, 108, 112, 104, 97]⟩), .func 200, .const (.string ⟨#[49, 46, 48]⟩)]) (ts := #[9, 242, 9]) (by kernel_rfl) ent199 ((Tab.n ⟨#[97, 108, 112, 104, 97]⟩ ⟨#[49, 46, 48]⟩ 200 w).mono fun e w' h => by
    obtain ⟨rfl, o, rfl⟩ := h
    exact ⟨_, rfl, _, rfl, rfl, below_alloc _ _⟩)
theorem s34 : Step ops (KL B) 51 58 D a0 w0 34 := fun Q a w hR hS => Rin.step_call (args := [.const (.string ⟨#[98, 101, 116, 97]⟩), .func 200, .const (.string ⟨#[49, 46, 48]⟩)]) (ts := #[9, 242, 9]) (by kernel_rfl) ent199 ((Tab.n ⟨#[98, 101, 116, 97]⟩ ⟨#[49, 46, 48]⟩ 200 w).mono fun e w' h => by
    obtain ⟨rfl, o, rfl⟩ := h
    exact ⟨_, rfl, _, rfl, rfl, below_alloc _ _⟩)
theorem s35 : Step ops (KL B) 51 58 D a0 w0 35 := fun Q a w hR hS => by
  have h40 : a.eval (.tmp 40) = (.agg (av ⟨#[97, 108, 112, 104, 97]⟩ 0 ⟨#[49, 46, 48]⟩ (.func (.func 200) #[] #[]) 0 0)) := hS 33 (by omega) (by kernel_rfl)
  have h41 : a.eval (.tmp 41) = (.agg (av ⟨#[98, 101, 116, 97]⟩ 0 ⟨#[49, 46, 48]⟩ (.func (.func 200) #[] #[]) 0 0)) := hS 34 (by omega) (by kernel_rfl)
  refine Rin.step_rows (l := [(0, .tmp 40), (1, .tmp 41)]) (by kernel_rfl) [(.agg (av ⟨#[97, 108, 112, 104, 97]⟩ 0 ⟨#[49, 46, 48]⟩ (.func (.func 200) #[] #[]) 0 0)), (.agg (av ⟨#[98, 101, 116, 97]⟩ 0 ⟨#[49, 46, 48]⟩ (.func (.func 200) #[] #[]) 0 0))] (by show [(0, a.eval (.tmp 40)), (1, a.eval (.tmp 41))] = _; rw [h40, h41]; rfl) rfl (s := 6) (n := 2) (by decide) (by decide) (by decide) Tryz.underlying205 (by kernel_rfl) (by kernel_rfl) (by intro v hv; simp only [List.mem_cons, List.not_mem_nil, or_false] at hv; rcases hv with rfl | rfl <;> rfl) ⟨_, rfl, ⟨_, rfl, heap_alloc_new _ _⟩, below_alloc _ _⟩
theorem s36 : Step ops (KL B) 51 58 D a0 w0 36 := fun Q a w hR hS => by
  obtain ⟨g, hs, hg⟩ : Kd.holds (.full [(.agg (av ⟨#[97, 108, 112, 104, 97]⟩ 0 ⟨#[49, 46, 48]⟩ (.func (.func 200) #[] #[]) 0 0)), (.agg (av ⟨#[98, 101, 116, 97]⟩ 0 ⟨#[49, 46, 48]⟩ (.func (.func 200) #[] #[]) 0 0))]) (a.eval (.tmp 42)) w := hS 35 (by omega) (by kernel_rfl)
  refine Rin.step_build (l := [(0, .const (.string ⟨#[115, 99, 97, 108, 101, 95, 98, 121, 95, 111, 112, 116, 105, 109, 105, 115, 116, 105, 99, 95, 103, 114, 97, 100, 105, 101, 110, 116]⟩)), (1, .const (.int .i64 39)), (2, .tmp 42)]) (by kernel_rfl) #[.string ⟨#[115, 99, 97, 108, 101, 95, 98, 121, 95, 111, 112, 116, 105, 109, 105, 115, 116, 105, 99, 95, 103, 114, 97, 100, 105, 101, 110, 116]⟩, .int .i64 39, .slice (some ⟨g, 0, none⟩) 2 2, .bool false, .bool false] (by show Tryz.prog.built 207 [(0, _), (1, _), (2, a.eval (.tmp 42))] = _; rw [hs]; kernel_rfl) ⟨_, rfl, ⟨_, _, _, rfl, fine_other (show (39 : Int) ≠ 1 by decide) (show (39 : Int) ≠ 7 by decide)⟩, Below.refl _ _⟩
theorem s37 : Step ops (KL B) 51 58 D a0 w0 37 := fun Q a w hR hS => Rin.step_call (args := [.const (.string ⟨#[108, 111, 119]⟩), .func 200, .const (.string ⟨#[]⟩)]) (ts := #[9, 242, 9]) (by kernel_rfl) ent199 ((Tab.n ⟨#[108, 111, 119]⟩ ⟨#[]⟩ 200 w).mono fun e w' h => by
    obtain ⟨rfl, o, rfl⟩ := h
    exact ⟨_, rfl, _, rfl, rfl, below_alloc _ _⟩)
theorem s38 : Step ops (KL B) 51 58 D a0 w0 38 := fun Q a w hR hS => Rin.step_call (args := [.const (.string ⟨#[104, 105, 103, 104]⟩), .func 200, .const (.string ⟨#[]⟩)]) (ts := #[9, 242, 9]) (by kernel_rfl) ent199 ((Tab.n ⟨#[104, 105, 103, 104]⟩ ⟨#[]⟩ 200 w).mono fun e w' h => by
    obtain ⟨rfl, o, rfl⟩ := h
    exact ⟨_, rfl, _, rfl, rfl, below_alloc _ _⟩)
theorem s39 : Step ops (KL B) 51 58 D a0 w0 39 := fun Q a w hR hS => by
  have h44 : a.eval (.tmp 44) = (.agg (av ⟨#[108, 111, 119]⟩ 0 ⟨#[]⟩ (.func (.func 200) #[] #[]) 0 0)) := hS 37 (by omega) (by kernel_rfl)
  have h45 : a.eval (.tmp 45) = (.agg (av ⟨#[104, 105, 103, 104]⟩ 0 ⟨#[]⟩ (.func (.func 200) #[] #[]) 0 0)) := hS 38 (by omega) (by kernel_rfl)
  refine Rin.step_rows (l := [(0, .tmp 44), (1, .tmp 45)]) (by kernel_rfl) [(.agg (av ⟨#[108, 111, 119]⟩ 0 ⟨#[]⟩ (.func (.func 200) #[] #[]) 0 0)), (.agg (av ⟨#[104, 105, 103, 104]⟩ 0 ⟨#[]⟩ (.func (.func 200) #[] #[]) 0 0))] (by show [(0, a.eval (.tmp 44)), (1, a.eval (.tmp 45))] = _; rw [h44, h45]; rfl) rfl (s := 6) (n := 2) (by decide) (by decide) (by decide) Tryz.underlying205 (by kernel_rfl) (by kernel_rfl) (by intro v hv; simp only [List.mem_cons, List.not_mem_nil, or_false] at hv; rcases hv with rfl | rfl <;> rfl) ⟨_, rfl, ⟨_, rfl, heap_alloc_new _ _⟩, below_alloc _ _⟩
theorem s40 : Step ops (KL B) 51 58 D a0 w0 40 := fun Q a w hR hS => by
  obtain ⟨g, hs, hg⟩ : Kd.holds (.full [(.agg (av ⟨#[108, 111, 119]⟩ 0 ⟨#[]⟩ (.func (.func 200) #[] #[]) 0 0)), (.agg (av ⟨#[104, 105, 103, 104]⟩ 0 ⟨#[]⟩ (.func (.func 200) #[] #[]) 0 0))]) (a.eval (.tmp 46)) w := hS 39 (by omega) (by kernel_rfl)
  refine Rin.step_build (l := [(0, .const (.string ⟨#[107, 101, 101, 112, 95, 112, 97, 114, 97, 109, 115, 95, 105, 110, 95, 98, 111, 120]⟩)), (1, .const (.int .i64 40)), (2, .tmp 46), (4, .const (.bool true))]) (by kernel_rfl) #[.string ⟨#[107, 101, 101, 112, 95, 112, 97, 114, 97, 109, 115, 95, 105, 110, 95, 98, 111, 120]⟩, .int .i64 40, .slice (some ⟨g, 0, none⟩) 2 2, .bool false, .bool true] (by show Tryz.prog.built 207 [(0, _), (1, _), (2, a.eval (.tmp 46)), (4, _)] = _; rw [hs]; kernel_rfl) ⟨_, rfl, ⟨_, _, _, rfl, fine_other (show (40 : Int) ≠ 1 by decide) (show (40 : Int) ≠ 7 by decide)⟩, Below.refl _ _⟩
theorem s41 {b : Nat} (hp : a0.eval (.tmp 1) = .pointer (some ⟨b, 0, none⟩)) (hb : w0.heap[b]? = some (.cells avInner 244 (0, 0))) : Step ops (KL B) 51 58 D a0 w0 41 := fun Q a w hR hS => Rin.step_loadRow (by kernel_rfl) b ((hR.rest 1 (by decide +kernel)).trans hp) 244 avInner (0, 0) _ (heap_on hb hR.below) Tryz.underlying244 rfl (by kernel_rfl) ⟨_, rfl, rfl, Below.refl _ _⟩
theorem s42 : Step ops (KL B) 51 58 D a0 w0 42 := fun Q a w hR hS => Rin.step_call (args := [.const (.string ⟨#[109, 97, 120, 95, 110, 111, 114, 109]⟩), .func 202, .const (.string ⟨#[]⟩)]) (ts := #[9, 242, 9]) (by kernel_rfl) ent199 ((Tab.n ⟨#[109, 97, 120, 95, 110, 111, 114, 109]⟩ ⟨#[]⟩ 202 w).mono fun e w' h => by
    obtain ⟨rfl, o, rfl⟩ := h
    exact ⟨_, rfl, _, rfl, rfl, below_alloc _ _⟩)
theorem s43 : Step ops (KL B) 51 58 D a0 w0 43 := fun Q a w hR hS => by
  have h48 : a.eval (.tmp 48) = (.agg avInner) := hS 41 (by omega) (by kernel_rfl)
  have h49 : a.eval (.tmp 49) = (.agg (av ⟨#[109, 97, 120, 95, 110, 111, 114, 109]⟩ 0 ⟨#[]⟩ (.func (.func 202) #[] #[]) 0 0)) := hS 42 (by omega) (by kernel_rfl)
  refine Rin.step_rows (l := [(0, .tmp 48), (1, .tmp 49)]) (by kernel_rfl) [(.agg avInner), (.agg (av ⟨#[109, 97, 120, 95, 110, 111, 114, 109]⟩ 0 ⟨#[]⟩ (.func (.func 202) #[] #[]) 0 0))] (by show [(0, a.eval (.tmp 48)), (1, a.eval (.tmp 49))] = _; rw [h48, h49]; rfl) rfl (s := 6) (n := 2) (by decide) (by decide) (by decide) Tryz.underlying205 (by kernel_rfl) (by kernel_rfl) (by intro v hv; simp only [List.mem_cons, List.not_mem_nil, or_false] at hv; rcases hv with rfl | rfl <;> rfl) ⟨_, rfl, ⟨_, rfl, heap_alloc_new _ _⟩, below_alloc _ _⟩
theorem s44 : Step ops (KL B) 51 58 D a0 w0 44 := fun Q a w hR hS => by
  obtain ⟨g, hs, hg⟩ : Kd.holds (.full [(.agg avInner), (.agg (av ⟨#[109, 97, 120, 95, 110, 111, 114, 109]⟩ 0 ⟨#[]⟩ (.func (.func 202) #[] #[]) 0 0))]) (a.eval (.tmp 50)) w := hS 43 (by omega) (by kernel_rfl)
  refine Rin.step_build (l := [(0, .const (.string ⟨#[115, 107, 105, 112, 95, 108, 97, 114, 103, 101]⟩)), (1, .const (.int .i64 41)), (2, .tmp 50)]) (by kernel_rfl) #[.string ⟨#[115, 107, 105, 112, 95, 108, 97, 114, 103, 101]⟩, .int .i64 41, .slice (some ⟨g, 0, none⟩) 2 2, .bool false, .bool false] (by show Tryz.prog.built 207 [(0, _), (1, _), (2, a.eval (.tmp 50))] = _; rw [hs]; kernel_rfl) ⟨_, rfl, ⟨_, _, _, rfl, fine_other (show (41 : Int) ≠ 1 by decide) (show (41 : Int) ≠ 7 by decide)⟩, Below.refl _ _⟩
theorem s45 : Step ops (KL B) 51 58 D a0 w0 45 := fun Q a w hR hS => Rin.step_call (args := [.const (.string ⟨#[115, 116, 101, 112, 115]⟩), .const (.int .i64 1), .const (.int .i64 2147483647), .const (.string ⟨#[]⟩)]) (ts := #[9, 3, 3, 9]) (by kernel_rfl) ent207 ((Tab.w ⟨#[115, 116, 101, 112, 115]⟩ ⟨#[]⟩ 1 2147483647 w).mono fun e w' h => by
    obtain ⟨rfl, o, rfl⟩ := h
    exact ⟨_, rfl, _, rfl, rfl, below_alloc _ _⟩)
theorem s46 {b : Nat} (hp : a0.eval (.tmp 3) = .pointer (some ⟨b, 0, none⟩)) (hb : w0.heap[b]? = some (.cells avFirst 244 (0, 0))) : Step ops (KL B) 51 58 D a0 w0 46 := fun Q a w hR hS => Rin.step_loadRow (by kernel_rfl) b ((hR.rest 3 (by decide +kernel)).trans hp) 244 avFirst (0, 0) _ (heap_on hb hR.below) Tryz.underlying244 rfl (by kernel_rfl) ⟨_, rfl, rfl, Below.refl _ _⟩
theorem s47 {b : Nat} (hp : a0.eval (.tmp 4) = .pointer (some ⟨b, 0, none⟩)) (hb : w0.heap[b]? = some (.cells avThen 244 (0, 0))) : Step ops (KL B) 51 58 D a0 w0 47 := fun Q a w hR hS => Rin.step_loadRow (by kernel_rfl) b ((hR.rest 4 (by decide +kernel)).trans hp) 244 avThen (0, 0) _ (heap_on hb hR.below) Tryz.underlying244 rfl (by kernel_rfl) ⟨_, rfl, rfl, Below.refl _ _⟩
theorem s48 : Step ops (KL B) 51 58 D a0 w0 48 := fun Q a w hR hS => by
  have h52 : a.eval (.tmp 52) = (.agg (av ⟨#[115, 116, 101, 112, 115]⟩ 1 ⟨#[]⟩ .nilFunc 1 2147483647)) := hS 45 (by omega) (by kernel_rfl)
  have h53 : a.eval (.tmp 53) = (.agg avFirst) := hS 46 (by omega) (by kernel_rfl)
  have h54 : a.eval (.tmp 54) = (.agg avThen) := hS 47 (by omega) (by kernel_rfl)
  refine Rin.step_rows (l := [(0, .tmp 52), (1, .tmp 53), (2, .tmp 54)]) (by kernel_rfl) [(.agg (av ⟨#[115, 116, 101, 112, 115]⟩ 1 ⟨#[]⟩ .nilFunc 1 2147483647)), (.agg avFirst), (.agg avThen)] (by show [(0, a.eval (.tmp 52)), (1, a.eval (.tmp 53)), (2, a.eval (.tmp 54))] = _; rw [h52, h53, h54]; rfl) rfl (s := 6) (n := 3) (by decide) (by decide) (by decide) Tryz.underlying205 (by kernel_rfl) (by kernel_rfl) (by intro v hv; simp only [List.mem_cons, List.not_mem_nil, or_false] at hv; rcases hv with rfl | rfl | rfl <;> rfl) ⟨_, rfl, ⟨_, rfl, heap_alloc_new _ _⟩, below_alloc _ _⟩
theorem s49 : Step ops (KL B) 51 58 D a0 w0 49 := fun Q a w hR hS => by
  obtain ⟨g, hs, hg⟩ : Kd.holds (.full [(.agg (av ⟨#[115, 116, 101, 112, 115]⟩ 1 ⟨#[]⟩ .nilFunc 1 2147483647)), (.agg avFirst), (.agg avThen)]) (a.eval (.tmp 55)) w := hS 48 (by omega) (by kernel_rfl)
  refine Rin.step_build (l := [(0, .const (.string ⟨#[117, 110, 116, 105, 108]⟩)), (1, .const (.int .i64 42)), (2, .tmp 55)]) (by kernel_rfl) #[.string ⟨#[117, 110, 116, 105, 108]⟩, .int .i64 42, .slice (some ⟨g, 0, none⟩) 3 3, .bool false, .bool false] (by show Tryz.prog.built 207 [(0, _), (1, _), (2, a.eval (.tmp 55))] = _; rw [hs]; kernel_rfl) ⟨_, rfl, ⟨_, _, _, rfl, fine_other (show (42 : Int) ≠ 1 by decide) (show (42 : Int) ≠ 7 by decide)⟩, Below.refl _ _⟩
set_option maxRecDepth 100000 in
theorem s50 : Step ops (KL B) 51 58 D a0 w0 50 := fun Q a w hR hS => by
  obtain ⟨p10, l10, c10, h10, f10⟩ : Kd.holds (.row ⟨#[115, 99, 97, 108, 101, 95, 98, 121, 95, 97, 100, 97, 100, 101, 108, 116, 97]⟩ 31 false false) (a.eval (.tmp 10)) w := hS 3 (by omega) (by kernel_rfl)
  obtain ⟨p15, l15, c15, h15, f15⟩ : Kd.holds (.row ⟨#[115, 99, 97, 108, 101, 95, 98, 121, 95, 97, 100, 97, 109, 97, 120]⟩ 32 false false) (a.eval (.tmp 15)) w := hS 8 (by omega) (by kernel_rfl)
  obtain ⟨p20, l20, c20, h20, f20⟩ : Kd.holds (.row ⟨#[115, 99, 97, 108, 101, 95, 98, 121, 95, 115, 116, 100, 100, 101, 118]⟩ 33 false false) (a.eval (.tmp 20)) w := hS 13 (by omega) (by kernel_rfl)
  obtain ⟨p25, l25, c25, h25, f25⟩ : Kd.holds (.row ⟨#[115, 99, 97, 108, 101, 95, 98, 121, 95, 110, 111, 118, 111, 103, 114, 97, 100]⟩ 34 false false) (a.eval (.tmp 25)) w := hS 18 (by omega) (by kernel_rfl)
  obtain ⟨p29, l29, c29, h29, f29⟩ : Kd.holds (.row ⟨#[110, 111, 114, 109, 97, 108, 105, 122, 101, 95, 98, 121, 95, 117, 112, 100, 97, 116, 101, 95, 110, 111, 114, 109]⟩ 35 false false) (a.eval (.tmp 29)) w := hS 22 (by omega) (by kernel_rfl)
  obtain ⟨p32, l32, c32, h32, f32⟩ : Kd.holds (.row ⟨#[115, 99, 97, 108, 101, 95, 98, 121, 95, 112, 97, 114, 97, 109, 95, 98, 108, 111, 99, 107, 95, 110, 111, 114, 109]⟩ 36 false false) (a.eval (.tmp 32)) w := hS 25 (by omega) (by kernel_rfl)
  obtain ⟨p35, l35, c35, h35, f35⟩ : Kd.holds (.row ⟨#[99, 108, 105, 112, 95, 98, 121, 95, 98, 108, 111, 99, 107, 95, 110, 111, 114, 109]⟩ 37 false false) (a.eval (.tmp 35)) w := hS 28 (by omega) (by kernel_rfl)
  obtain ⟨p39, l39, c39, h39, f39⟩ : Kd.holds (.row ⟨#[97, 100, 97, 112, 116, 105, 118, 101, 95, 103, 114, 97, 100, 95, 99, 108, 105, 112]⟩ 38 false false) (a.eval (.tmp 39)) w := hS 32 (by omega) (by kernel_rfl)
  obtain ⟨p43, l43, c43, h43, f43⟩ : Kd.holds (.row ⟨#[115, 99, 97, 108, 101, 95, 98, 121, 95, 111, 112, 116, 105, 109, 105, 115, 116, 105, 99, 95, 103, 114, 97, 100, 105, 101, 110, 116]⟩ 39 false false) (a.eval (.tmp 43)) w := hS 36 (by omega) (by kernel_rfl)
  obtain ⟨p47, l47, c47, h47, f47⟩ : Kd.holds (.row ⟨#[107, 101, 101, 112, 95, 112, 97, 114, 97, 109, 115, 95, 105, 110, 95, 98, 111, 120]⟩ 40 false true) (a.eval (.tmp 47)) w := hS 40 (by omega) (by kernel_rfl)
  obtain ⟨p51, l51, c51, h51, f51⟩ : Kd.holds (.row ⟨#[115, 107, 105, 112, 95, 108, 97, 114, 103, 101]⟩ 41 false false) (a.eval (.tmp 51)) w := hS 44 (by omega) (by kernel_rfl)
  obtain ⟨p56, l56, c56, h56, f56⟩ : Kd.holds (.row ⟨#[117, 110, 116, 105, 108]⟩ 42 false false) (a.eval (.tmp 56)) w := hS 49 (by omega) (by kernel_rfl)
  refine Rin.step_rows (l := [(0, .tmp 10), (1, .tmp 15), (2, .tmp 20), (3, .tmp 25), (4, .tmp 29), (5, .tmp 32), (6, .tmp 35), (7, .tmp 39), (8, .tmp 43), (9, .tmp 47), (10, .tmp 51), (11, .tmp 56)]) (by kernel_rfl) (List.map rowV [⟨⟨#[115, 99, 97, 108, 101, 95, 98, 121, 95, 97, 100, 97, 100, 101, 108, 116, 97]⟩, 31, p10, l10, c10, false, false⟩, ⟨⟨#[115, 99, 97, 108, 101, 95, 98, 121, 95, 97, 100, 97, 109, 97, 120]⟩, 32, p15, l15, c15, false, false⟩, ⟨⟨#[115, 99, 97, 108, 101, 95, 98, 121, 95, 115, 116, 100, 100, 101, 118]⟩, 33, p20, l20, c20, false, false⟩, ⟨⟨#[115, 99, 97, 108, 101, 95, 98, 121, 95, 110, 111, 118, 111, 103, 114, 97, 100]⟩, 34, p25, l25, c25, false, false⟩, ⟨⟨#[110, 111, 114, 109, 97, 108, 105, 122, 101, 95, 98, 121, 95, 117, 112, 100, 97, 116, 101, 95, 110, 111, 114, 109]⟩, 35, p29, l29, c29, false, false⟩, ⟨⟨#[115, 99, 97, 108, 101, 95, 98, 121, 95, 112, 97, 114, 97, 109, 95, 98, 108, 111, 99, 107, 95, 110, 111, 114, 109]⟩, 36, p32, l32, c32, false, false⟩, ⟨⟨#[99, 108, 105, 112, 95, 98, 121, 95, 98, 108, 111, 99, 107, 95, 110, 111, 114, 109]⟩, 37, p35, l35, c35, false, false⟩, ⟨⟨#[97, 100, 97, 112, 116, 105, 118, 101, 95, 103, 114, 97, 100, 95, 99, 108, 105, 112]⟩, 38, p39, l39, c39, false, false⟩, ⟨⟨#[115, 99, 97, 108, 101, 95, 98, 121, 95, 111, 112, 116, 105, 109, 105, 115, 116, 105, 99, 95, 103, 114, 97, 100, 105, 101, 110, 116]⟩, 39, p43, l43, c43, false, false⟩, ⟨⟨#[107, 101, 101, 112, 95, 112, 97, 114, 97, 109, 115, 95, 105, 110, 95, 98, 111, 120]⟩, 40, p47, l47, c47, false, true⟩, ⟨⟨#[115, 107, 105, 112, 95, 108, 97, 114, 103, 101]⟩, 41, p51, l51, c51, false, false⟩, ⟨⟨#[117, 110, 116, 105, 108]⟩, 42, p56, l56, c56, false, false⟩]) (by show [(0, a.eval (.tmp 10)), (1, a.eval (.tmp 15)), (2, a.eval (.tmp 20)), (3, a.eval (.tmp 25)), (4, a.eval (.tmp 29)), (5, a.eval (.tmp 32)), (6, a.eval (.tmp 35)), (7, a.eval (.tmp 39)), (8, a.eval (.tmp 43)), (9, a.eval (.tmp 47)), (10, a.eval (.tmp 51)), (11, a.eval (.tmp 56))] = _; rw [h10, h15, h20, h25, h29, h32, h35, h39, h43, h47, h51, h56]; rfl) rfl (s := 5) (n := 12) (by decide) (by decide) (by decide) Tryz.underlying240 (by kernel_rfl) (by kernel_rfl) (by intro v hv; obtain ⟨r, _, rfl⟩ := List.mem_map.1 hv; rfl) ⟨_, rfl, ⟨_, _, rfl, heap_alloc_new _ _, rfl, (List.forall_mem_cons.2 ⟨f10.on (below_alloc _ _), (List.forall_mem_cons.2 ⟨f15.on (below_alloc _ _), (List.forall_mem_cons.2 ⟨f20.on (below_alloc _ _), (List.forall_mem_cons.2 ⟨f25.on (below_alloc _ _), (List.forall_mem_cons.2 ⟨f29.on (below_alloc _ _), (List.forall_mem_cons.2 ⟨f32.on (below_alloc _ _), (List.forall_mem_cons.2 ⟨f35.on (below_alloc _ _), (List.forall_mem_cons.2 ⟨f39.on (below_alloc _ _), (List.forall_mem_cons.2 ⟨f43.on (below_alloc _ _), (List.forall_mem_cons.2 ⟨f47.on (below_alloc _ _), (List.forall_mem_cons.2 ⟨f51.on (below_alloc _ _), (List.forall_mem_cons.2 ⟨f56.on (below_alloc _ _), (fun _ h => nomatch h)⟩)⟩)⟩)⟩)⟩)⟩)⟩)⟩)⟩)⟩)⟩)⟩)⟩, below_alloc _ _⟩
theorem steps {b1 : Nat} (hp1 : a0.eval (.tmp 1) = .pointer (some ⟨b1, 0, none⟩)) (hb1 : w0.heap[b1]? = some (.cells avInner 244 (0, 0))) {b3 : Nat} (hp3 : a0.eval (.tmp 3) = .pointer (some ⟨b3, 0, none⟩)) (hb3 : w0.heap[b3]? = some (.cells avFirst 244 (0, 0))) {b4 : Nat} (hp4 : a0.eval (.tmp 4) = .pointer (some ⟨b4, 0, none⟩)) (hb4 : w0.heap[b4]? = some (.cells avThen 244 (0, 0))) : ∀ i, i < 51 → Step ops (KL B) 51 58 D a0 w0 i
  | 0, _ => s0
  | 1, _ => s1
  | 2, _ => s2
  | 3, _ => s3
  | 4, _ => s4
  | 5, _ => s5
  | 6, _ => s6
  | 7, _ => s7
  | 8, _ => s8
  | 9, _ => s9
  | 10, _ => s10
  | 11, _ => s11
  | 12, _ => s12
  | 13, _ => s13
  | 14, _ => s14
  | 15, _ => s15
  | 16, _ => s16
  | 17, _ => s17
  | 18, _ => s18
  | 19, _ => s19
  | 20, _ => s20
  | 21, _ => s21
  | 22, _ => s22
  | 23, _ => s23
  | 24, _ => s24
  | 25, _ => s25
  | 26, _ => s26
  | 27, _ => s27
  | 28, _ => s28
  | 29, _ => s29
  | 30, _ => s30
  | 31, _ => s31
  | 32, _ => s32
  | 33, _ => s33
  | 34, _ => s34
  | 35, _ => s35
  | 36, _ => s36
  | 37, _ => s37
  | 38, _ => s38
  | 39, _ => s39
  | 40, _ => s40
  | 41, _ => s41 hp1 hb1
  | 42, _ => s42
  | 43, _ => s43
  | 44, _ => s44
  | 45, _ => s45
  | 46, _ => s46 hp3 hb3
  | 47, _ => s47 hp4 hb4
  | 48, _ => s48
  | 49, _ => s49
  | 50, _ => s50
  | i + 51, h => absurd h (by omega)
end
end Go.Proofs.YtpgodgfkbkfpcaaGreat.Trs
