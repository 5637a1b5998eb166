/- The statement ShelfIdle holds for every input that its row lets in. Conditions: none. -/
import Derived.Test.YtfoohlabifhplaaDoorE
set_option linter.all false
set_option linter.unusedVariables false
namespace Go.AM
open Go
def zPb (x : zt) : Prop := (-9223372036854775808 ≤ x.Low ∧ x.Low ≤ 9223372036854775807) ∧ (-9223372036854775808 ≤ x.High ∧ x.High ≤ 9223372036854775807) ∧ True
def zzf (x : zS) : Prop := zPb x.Begin ∧ (-9223372036854775808 ≤ x.Room ∧ x.Room ≤ 9223372036854775807) ∧ True
def zVf (x : zD) : Prop := (-9223372036854775808 ≤ x.Day ∧ x.Day ≤ 9223372036854775807) ∧ (-9223372036854775808 ≤ x.Shelf ∧ x.Shelf ≤ 9223372036854775807) ∧ True ∧ zPb x.By ∧ True
def zje (x : zy) : Prop := (-9223372036854775808 ≤ x.Shelf ∧ x.Shelf ≤ 9223372036854775807) ∧ zPb x.Days ∧ zPb x.By ∧ True
def zsf (x : zo) : Prop := (-9223372036854775808 ≤ x.Day ∧ x.Day ≤ 9223372036854775807) ∧ (-9223372036854775808 ≤ x.Shelf ∧ x.Shelf ≤ 9223372036854775807) ∧ (-9223372036854775808 ≤ x.Read ∧ x.Read ≤ 9223372036854775807) ∧ (-9223372036854775808 ≤ x.Err ∧ x.Err ≤ 9223372036854775807) ∧ True
def zxd (x : za) : Prop := (-9223372036854775808 ≤ x.Days ∧ x.Days ≤ 9223372036854775807) ∧ zkh (fun a => zzf a) x.Shelves ∧ zkh (fun a => zVf a) x.Moves ∧ zkh (fun a => zje a) x.Deliveries ∧ zkh (fun a => zsf a) x.Counts ∧ True
end Go.AM
set_option maxRecDepth 1000000
namespace Go.AM
open Go
theorem zis (k : Nat) : zHb (k + 300) = some true := by kernel_rfl
end Go.AM
set_option linter.unusedVariables false
namespace Go.AM
open Go
theorem zEt {b : za} (h : zxd b) : zcd b ∧ b.Days ≤ 9223372036854775807 := by
 obtain ⟨⟨_, h0⟩, h1, h2, h3, h4, _⟩ := h
 have e : maxLen = 9223372036854775807 := by decide
 have l1 := h1.2.2
 have l2 := h2.2.2
 have l3 := h3.2.2
 have l4 := h4.2.2
 rw [e] at l1 l2 l3 l4
 exact ⟨⟨by omega, by omega, by omega, by omega⟩, h0⟩
def zqu (b : za) : Nat := 500000 + b.Shelves.1.length + b.Moves.1.length + b.Deliveries.1.length + b.Counts.1.length
theorem zrw (b : za) : Fuel (zqu b + 300) b := by
 unfold zqu
 exact ⟨by omega, by omega, by omega, by omega, by omega⟩
end Go.AM
set_option linter.unusedVariables false
namespace Go.AM
open Go
theorem zTw (b : za) (n : Int) (hb : zxd b) (hn : -9223372036854775808 ≤ n ∧ n ≤ 9223372036854775807) : ∃ k, z0b k b n = some true := by
 obtain ⟨hs, hd⟩ := zEt hb
 exact ⟨_, zws hs hd (zrw b) (zis _) n⟩
end Go.AM
