/- The statement SlipFetched holds for every input that its row lets in. Conditions: none. -/
import Derived.KernelRfl
import Derived.Test.YtobbgcagbnhecaaDoorE
set_option linter.all false
set_option linter.unusedVariables false
namespace Go.AM
open Go
def zod (x : zp) : Prop := (-9223372036854775808 ≤ x.Low ∧ x.Low ≤ 9223372036854775807) ∧ (-9223372036854775808 ≤ x.High ∧ x.High ≤ 9223372036854775807) ∧ True
def ztf (x : zi) : Prop := (-9223372036854775808 ≤ x.Shelf ∧ x.Shelf ≤ 9223372036854775807) ∧ (-9223372036854775808 ≤ x.Many ∧ x.Many ≤ 9223372036854775807) ∧ True
def zef (x : zl) : Prop := z9h 16 (fun (a : zi) => ztf a) x.Lines ∧ (-9223372036854775808 ≤ x.Until ∧ x.Until ≤ 9223372036854775807) ∧ True
def zPc (x : zd) : Prop := zMm (fun (a : Int) => (-9223372036854775808 ≤ a ∧ a ≤ 9223372036854775807)) x.Far ∧ zod x.Step ∧ z9h 16 (fun (a : zp) => zod a) x.Pick ∧ (-9223372036854775808 ≤ x.Carry ∧ x.Carry ≤ 9223372036854775807) ∧ z9h 32 (fun (a : zl) => zef a) x.Slips ∧ True
end Go.AM
set_option maxRecDepth 1000000
namespace Go.AM
open Go
theorem z2v (k : Nat) : zwc (k + 300) = some true := by kernel_rfl
end Go.AM
set_option linter.unusedVariables false
namespace Go.AM
open Go
theorem zJu {f : zd} (h : zPc f) : zZd f := by
 obtain ⟨h1, h2, h3, h4, h5, _⟩ := h
 have e : maxLen = 9223372036854775807 := by decide
 have l1 := h1.2.2
 have l3 := h3.2.2
 have l5 := h5.2.2
 rw [e] at l1 l3 l5
 refine ⟨show f.Far.1.length < _ by omega, by omega, show f.Slips.1.length < _ by omega, fun s hs => ?_⟩
 have := (h5.1 s hs).1.2.2
 rw [e] at this
 omega
def zvv (f : zd) : Nat := 500000 + f.Far.1.length + f.Pick.1.length + f.Slips.1.length + (f.Slips.1.map fun s => s.Lines.1.length).sum
theorem z3x {l : List Nat} {n : Nat} : n ∈ l → n ≤ l.sum := by
 induction l with
 | nil => intro h; simp at h
 | cons x t ih =>
  intro h
  rw [List.sum_cons]
  rcases List.mem_cons.1 h with rfl | h
  ·omega
  ·have := ih h
   omega
theorem zGx (f : zd) (m : Nat) : Fuel (zvv f + m + 300) f := by
 unfold zvv
 refine ⟨by omega, show f.Far.1.length < _ by omega, by omega, show f.Slips.1.length < _ by omega, fun s hs => ?_⟩
 have := z3x (List.mem_map.2 ⟨s, hs, rfl⟩ : s.Lines.1.length ∈ f.Slips.1.map fun s => s.Lines.1.length)
 omega
end Go.AM
set_option linter.unusedVariables false
namespace Go.AM
open Go
theorem zYw (f : zd) (n : Int) (b : SL Int) (hf : zPc f) (hn : -9223372036854775808 ≤ n ∧ n ≤ 9223372036854775807) (hb : zMm (fun (a : Int) => (-9223372036854775808 ≤ a ∧ a ≤ 9223372036854775807)) b) : ∃ k, zEb k f n b = some true := by
 have h1 := hb.2.2
 have e : maxLen = 9223372036854775807 := by decide
 exact ⟨_, z9q (zJu hf) (zGx f 0) (z2v _) n (by omega)⟩
end Go.AM
