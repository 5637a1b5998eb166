/-
  NARROWER THAN 'FOR EVERY INPUT', by the rows' own cells (each row's printed sentence says how): SlipTours: laid · SlipRosters: laid · SlipLates: laid · SlipFetched: laid · SlipTrue: laid · SlipGiven: laid · SlipEnds: laid · SlipLate: laid · SlipSpared: laid · SlipEasier: laid · SlipKnown: laid.
  DERIVED. THE GIVEN ROWS OF THIS SEAT. 11 by the template 'for every input the law returns true; each argument reads behind the call as it read before'; 0 by the template 'total and deterministic' (their statements: YtobbgcagbnhecaaDoorTotals.lean).
  GIVEN WITH THE SEED: the statements are not yours to turn. If you find one false, say at which input.
  Laid BY PROGRAM, IN A SANDBOX (cutbox-rows.mjs): the forced cells as the released guide's own fill.sh prints them over the translation 2b905d6337b46661… (all of the seat's roots in one cut). By AI agents, Wed Nov 11 2026. No macro, syntax, notation, axiom, sorry.
-/
import Derived.Test.YtobbgcagbnhecaaDoorChecked
import GoSem.Claim
import GoSem.ClaimJoined
import GoSem.ClaimMapViews
import Derived.JoinedTies
import Derived.KernelRfl
namespace Go.Proofs.YtobbgcagbnhecaaDoor
/- THE CELL 'sum', in the pinned program and in every row, IS THE sha256 OF THE DUMP (.gsa) THAT YtobbgcagbnhecaaDoorProg.lean LOADS. Nothing in Lean hashes anything: it is a label: what it is worth is what the hold of that sum in a sandbox is worth. -/
noncomputable def Tryd.pinned : Pinned := { name := "ytobbgcagbnhecaadoor", sum := "2b905d6337b46661f39f6e36d0a0ca60e6858164ffaeb072177d88801a2d7ead", checked := Tryd.checked }
namespace Rows
def none {H : Type} : Left H := { results := [], args := [] }

/- WHAT THE LISTED PACKAGE-LEVEL VARIABLES READ AS WHEN THE CALL BEGINS. Each datum BY PROGRAM (the guide's laid-datum.mjs) off the statement by which the dump's own 'gosem.cut.vars' lays the variable. In a bare row this is a premise. The card (YtobbgcagbnhecaaDoorCards.lean) ties it to the program's text. -/
def laid_wishbook_slip_ends {H : Type} : DataW H := .iface "func table" (.agg [.iface "func" (.lit (.string [40, 119, 105, 115, 104, 98, 111, 111, 107, 47, 115, 108, 105, 112, 46, 102, 108, 111, 111, 114, 41, 46, 108, 101, 97, 115, 116])), .iface "func" (.lit (.string [40, 119, 105, 115, 104, 98, 111, 111, 107, 47, 115, 108, 105, 112, 46, 102, 108, 111, 111, 114, 41, 46, 109, 111, 115, 116]))])

/-- 'wishbooklaw03.SlipTours': WHATEVER THE INPUT: true; the input reads as it did. -/
def slipToursSpec : ChangeSpec := { name := "slipTours", fn := fun _ => fun
  | [d1, d2, d3] => { results := [.lit (.bool true)], args := [d1, d2, d3] }
  | _ => none }
def slipToursRow : OpenClaim := { program := "ytobbgcagbnhecaadoor", sum := "2b905d6337b46661f39f6e36d0a0ca60e6858164ffaeb072177d88801a2d7ead", func := "wishbook/wishbooklaw03.SlipTours", spec := "slipTours", unfollowed := true, recurses := true, named := ["wishbook/slip.ends"], plainKeys := false, apart := false, laid := [("wishbook/slip.ends", laid_wishbook_slip_ends)] }
def SlipToursSaid : Prop := slipToursRow.holds Tryd.pinned (OpenSpec.ofChange slipToursSpec)

/-- ITS FALSE NEIGHBOUR: 'it returns false'. Refute it at one input. -/
def slipToursWrong : ChangeSpec := { name := "slipTours", fn := fun _ => fun
  | [d1, d2, d3] => { results := [.lit (.bool false)], args := [d1, d2, d3] }
  | _ => none }
def SlipToursWrongFalsely : Prop := slipToursRow.holds Tryd.pinned (OpenSpec.ofChange slipToursWrong)

/-- 'wishbooklaw03.SlipRosters': WHATEVER THE INPUT: true; the input reads as it did. -/
def slipRostersSpec : ChangeSpec := { name := "slipRosters", fn := fun _ => fun
  | [d1, d2] => { results := [.lit (.bool true)], args := [d1, d2] }
  | _ => none }
def slipRostersRow : OpenClaim := { program := "ytobbgcagbnhecaadoor", sum := "2b905d6337b46661f39f6e36d0a0ca60e6858164ffaeb072177d88801a2d7ead", func := "wishbook/wishbooklaw03.SlipRosters", spec := "slipRosters", unfollowed := true, recurses := true, named := ["wishbook/slip.ends"], plainKeys := false, apart := false, laid := [("wishbook/slip.ends", laid_wishbook_slip_ends)] }
def SlipRostersSaid : Prop := slipRostersRow.holds Tryd.pinned (OpenSpec.ofChange slipRostersSpec)

/-- ITS FALSE NEIGHBOUR: 'it returns false'. Refute it at one input. -/
def slipRostersWrong : ChangeSpec := { name := "slipRosters", fn := fun _ => fun
  | [d1, d2] => { results := [.lit (.bool false)], args := [d1, d2] }
  | _ => none }
def SlipRostersWrongFalsely : Prop := slipRostersRow.holds Tryd.pinned (OpenSpec.ofChange slipRostersWrong)

/-- 'wishbooklaw03.SlipLates': WHATEVER THE INPUT: true; the input reads as it did. -/
def slipLatesSpec : ChangeSpec := { name := "slipLates", fn := fun _ => fun
  | [d1, d2] => { results := [.lit (.bool true)], args := [d1, d2] }
  | _ => none }
def slipLatesRow : OpenClaim := { program := "ytobbgcagbnhecaadoor", sum := "2b905d6337b46661f39f6e36d0a0ca60e6858164ffaeb072177d88801a2d7ead", func := "wishbook/wishbooklaw03.SlipLates", spec := "slipLates", unfollowed := true, recurses := true, named := ["wishbook/slip.ends"], plainKeys := false, apart := false, laid := [("wishbook/slip.ends", laid_wishbook_slip_ends)] }
def SlipLatesSaid : Prop := slipLatesRow.holds Tryd.pinned (OpenSpec.ofChange slipLatesSpec)

/-- ITS FALSE NEIGHBOUR: 'it returns false'. Refute it at one input. -/
def slipLatesWrong : ChangeSpec := { name := "slipLates", fn := fun _ => fun
  | [d1, d2] => { results := [.lit (.bool false)], args := [d1, d2] }
  | _ => none }
def SlipLatesWrongFalsely : Prop := slipLatesRow.holds Tryd.pinned (OpenSpec.ofChange slipLatesWrong)

/-- 'wishbooklaw03.SlipFetched': WHATEVER THE INPUT: true; the input reads as it did. -/
def slipFetchedSpec : ChangeSpec := { name := "slipFetched", fn := fun _ => fun
  | [d1, d2, d3] => { results := [.lit (.bool true)], args := [d1, d2, d3] }
  | _ => none }
def slipFetchedRow : OpenClaim := { program := "ytobbgcagbnhecaadoor", sum := "2b905d6337b46661f39f6e36d0a0ca60e6858164ffaeb072177d88801a2d7ead", func := "wishbook/wishbooklaw03.SlipFetched", spec := "slipFetched", unfollowed := true, recurses := true, named := ["wishbook/slip.ends"], plainKeys := false, apart := false, laid := [("wishbook/slip.ends", laid_wishbook_slip_ends)] }
def SlipFetchedSaid : Prop := slipFetchedRow.holds Tryd.pinned (OpenSpec.ofChange slipFetchedSpec)

/-- ITS FALSE NEIGHBOUR: 'it returns false'. Refute it at one input. -/
def slipFetchedWrong : ChangeSpec := { name := "slipFetched", fn := fun _ => fun
  | [d1, d2, d3] => { results := [.lit (.bool false)], args := [d1, d2, d3] }
  | _ => none }
def SlipFetchedWrongFalsely : Prop := slipFetchedRow.holds Tryd.pinned (OpenSpec.ofChange slipFetchedWrong)

/-- 'wishbooklaw03.SlipTrue': WHATEVER THE INPUT: true; the input reads as it did. -/
def slipTrueSpec : ChangeSpec := { name := "slipTrue", fn := fun _ => fun
  | [d1, d2] => { results := [.lit (.bool true)], args := [d1, d2] }
  | _ => none }
def slipTrueRow : OpenClaim := { program := "ytobbgcagbnhecaadoor", sum := "2b905d6337b46661f39f6e36d0a0ca60e6858164ffaeb072177d88801a2d7ead", func := "wishbook/wishbooklaw03.SlipTrue", spec := "slipTrue", unfollowed := true, recurses := true, named := ["wishbook/slip.ends"], plainKeys := false, apart := false, laid := [("wishbook/slip.ends", laid_wishbook_slip_ends)] }
def SlipTrueSaid : Prop := slipTrueRow.holds Tryd.pinned (OpenSpec.ofChange slipTrueSpec)

/-- ITS FALSE NEIGHBOUR: 'it returns false'. Refute it at one input. -/
def slipTrueWrong : ChangeSpec := { name := "slipTrue", fn := fun _ => fun
  | [d1, d2] => { results := [.lit (.bool false)], args := [d1, d2] }
  | _ => none }
def SlipTrueWrongFalsely : Prop := slipTrueRow.holds Tryd.pinned (OpenSpec.ofChange slipTrueWrong)

/-- 'wishbooklaw03.SlipGiven': WHATEVER THE INPUT: true; the input reads as it did. -/
def slipGivenSpec : ChangeSpec := { name := "slipGiven", fn := fun _ => fun
  | [d1, d2, d3] => { results := [.lit (.bool true)], args := [d1, d2, d3] }
  | _ => none }
def slipGivenRow : OpenClaim := { program := "ytobbgcagbnhecaadoor", sum := "2b905d6337b46661f39f6e36d0a0ca60e6858164ffaeb072177d88801a2d7ead", func := "wishbook/wishbooklaw03.SlipGiven", spec := "slipGiven", unfollowed := true, recurses := true, named := ["wishbook/slip.ends"], plainKeys := false, apart := false, laid := [("wishbook/slip.ends", laid_wishbook_slip_ends)] }
def SlipGivenSaid : Prop := slipGivenRow.holds Tryd.pinned (OpenSpec.ofChange slipGivenSpec)

/-- ITS FALSE NEIGHBOUR: 'it returns false'. Refute it at one input. -/
def slipGivenWrong : ChangeSpec := { name := "slipGiven", fn := fun _ => fun
  | [d1, d2, d3] => { results := [.lit (.bool false)], args := [d1, d2, d3] }
  | _ => none }
def SlipGivenWrongFalsely : Prop := slipGivenRow.holds Tryd.pinned (OpenSpec.ofChange slipGivenWrong)

/-- 'wishbooklaw03.SlipEnds': WHATEVER THE INPUT: true; the input reads as it did. -/
def slipEndsSpec : ChangeSpec := { name := "slipEnds", fn := fun _ => fun
  | [d1, d2] => { results := [.lit (.bool true)], args := [d1, d2] }
  | _ => none }
def slipEndsRow : OpenClaim := { program := "ytobbgcagbnhecaadoor", sum := "2b905d6337b46661f39f6e36d0a0ca60e6858164ffaeb072177d88801a2d7ead", func := "wishbook/wishbooklaw03.SlipEnds", spec := "slipEnds", unfollowed := true, recurses := true, named := ["wishbook/slip.ends"], plainKeys := false, apart := false, laid := [("wishbook/slip.ends", laid_wishbook_slip_ends)] }
def SlipEndsSaid : Prop := slipEndsRow.holds Tryd.pinned (OpenSpec.ofChange slipEndsSpec)

/-- ITS FALSE NEIGHBOUR: 'it returns false'. Refute it at one input. -/
def slipEndsWrong : ChangeSpec := { name := "slipEnds", fn := fun _ => fun
  | [d1, d2] => { results := [.lit (.bool false)], args := [d1, d2] }
  | _ => none }
def SlipEndsWrongFalsely : Prop := slipEndsRow.holds Tryd.pinned (OpenSpec.ofChange slipEndsWrong)

/-- 'wishbooklaw03.SlipLate': WHATEVER THE INPUT: true; the input reads as it did. -/
def slipLateSpec : ChangeSpec := { name := "slipLate", fn := fun _ => fun
  | [d1, d2, d3] => { results := [.lit (.bool true)], args := [d1, d2, d3] }
  | _ => none }
def slipLateRow : OpenClaim := { program := "ytobbgcagbnhecaadoor", sum := "2b905d6337b46661f39f6e36d0a0ca60e6858164ffaeb072177d88801a2d7ead", func := "wishbook/wishbooklaw03.SlipLate", spec := "slipLate", unfollowed := true, recurses := true, named := ["wishbook/slip.ends"], plainKeys := false, apart := false, laid := [("wishbook/slip.ends", laid_wishbook_slip_ends)] }
def SlipLateSaid : Prop := slipLateRow.holds Tryd.pinned (OpenSpec.ofChange slipLateSpec)

/-- ITS FALSE NEIGHBOUR: 'it returns false'. Refute it at one input. -/
def slipLateWrong : ChangeSpec := { name := "slipLate", fn := fun _ => fun
  | [d1, d2, d3] => { results := [.lit (.bool false)], args := [d1, d2, d3] }
  | _ => none }
def SlipLateWrongFalsely : Prop := slipLateRow.holds Tryd.pinned (OpenSpec.ofChange slipLateWrong)

/-- 'wishbooklaw03.SlipSpared': WHATEVER THE INPUT: true; the input reads as it did. -/
def slipSparedSpec : ChangeSpec := { name := "slipSpared", fn := fun _ => fun
  | [d1, d2, d3] => { results := [.lit (.bool true)], args := [d1, d2, d3] }
  | _ => none }
def slipSparedRow : OpenClaim := { program := "ytobbgcagbnhecaadoor", sum := "2b905d6337b46661f39f6e36d0a0ca60e6858164ffaeb072177d88801a2d7ead", func := "wishbook/wishbooklaw03.SlipSpared", spec := "slipSpared", unfollowed := true, recurses := true, named := ["wishbook/slip.ends"], plainKeys := false, apart := false, laid := [("wishbook/slip.ends", laid_wishbook_slip_ends)] }
def SlipSparedSaid : Prop := slipSparedRow.holds Tryd.pinned (OpenSpec.ofChange slipSparedSpec)

/-- ITS FALSE NEIGHBOUR: 'it returns false'. Refute it at one input. -/
def slipSparedWrong : ChangeSpec := { name := "slipSpared", fn := fun _ => fun
  | [d1, d2, d3] => { results := [.lit (.bool false)], args := [d1, d2, d3] }
  | _ => none }
def SlipSparedWrongFalsely : Prop := slipSparedRow.holds Tryd.pinned (OpenSpec.ofChange slipSparedWrong)

/-- 'wishbooklaw03.SlipEasier': WHATEVER THE INPUT: true; the input reads as it did. -/
def slipEasierSpec : ChangeSpec := { name := "slipEasier", fn := fun _ => fun
  | [d1, d2] => { results := [.lit (.bool true)], args := [d1, d2] }
  | _ => none }
def slipEasierRow : OpenClaim := { program := "ytobbgcagbnhecaadoor", sum := "2b905d6337b46661f39f6e36d0a0ca60e6858164ffaeb072177d88801a2d7ead", func := "wishbook/wishbooklaw03.SlipEasier", spec := "slipEasier", unfollowed := true, recurses := true, named := ["wishbook/slip.ends"], plainKeys := false, apart := false, laid := [("wishbook/slip.ends", laid_wishbook_slip_ends)] }
def SlipEasierSaid : Prop := slipEasierRow.holds Tryd.pinned (OpenSpec.ofChange slipEasierSpec)

/-- ITS FALSE NEIGHBOUR: 'it returns false'. Refute it at one input. -/
def slipEasierWrong : ChangeSpec := { name := "slipEasier", fn := fun _ => fun
  | [d1, d2] => { results := [.lit (.bool false)], args := [d1, d2] }
  | _ => none }
def SlipEasierWrongFalsely : Prop := slipEasierRow.holds Tryd.pinned (OpenSpec.ofChange slipEasierWrong)

/-- 'wishbooklaw03.SlipKnown': WHATEVER THE INPUT: true; the input reads as it did. -/
def slipKnownSpec : ChangeSpec := { name := "slipKnown", fn := fun _ => fun
  | [] => { results := [.lit (.bool true)], args := [] }
  | _ => none }
def slipKnownRow : OpenClaim := { program := "ytobbgcagbnhecaadoor", sum := "2b905d6337b46661f39f6e36d0a0ca60e6858164ffaeb072177d88801a2d7ead", func := "wishbook/wishbooklaw03.SlipKnown", spec := "slipKnown", unfollowed := true, recurses := true, named := ["wishbook/slip.ends"], plainKeys := false, apart := false, laid := [("wishbook/slip.ends", laid_wishbook_slip_ends)] }
def SlipKnownSaid : Prop := slipKnownRow.holds Tryd.pinned (OpenSpec.ofChange slipKnownSpec)

/-- ITS FALSE NEIGHBOUR: 'it returns false'. Refute it at one input. -/
def slipKnownWrong : ChangeSpec := { name := "slipKnown", fn := fun _ => fun
  | [] => { results := [.lit (.bool false)], args := [] }
  | _ => none }
def SlipKnownWrongFalsely : Prop := slipKnownRow.holds Tryd.pinned (OpenSpec.ofChange slipKnownWrong)

/- THE SECOND FORM. 'bulk': how many values and letters a reading holds, each counted each time it is reached (what is shared counts as often as it is met; a slice's spare places count too). A statement '..UptoSaid' is the law's where the arguments, and the package variables that the reading takes, are together of bulk at most 1048576: NARROWER than '..Said'. Prove '..Said' where nothing that the law and all that it calls make is longer than what came in: it says more and counts as full. Else prove '..UptoSaid'. A law counts once. -/
mutual
def uptoBulk {H : Type} : DataW H → Nat
  | .lit (.string bytes) => bytes.length + 1
  | .lit _ => 1
  | .nil => 1
  | .ptr d => uptoBulk d + 1
  | .slice elems spare => uptoBulkAll elems + uptoBulkAll spare + 1
  | .agg parts => uptoBulkAll parts + 1
  | .iface _ d => uptoBulk d + 1
  | .map entries => uptoBulkEntries entries + 1
  | .held _ => 1
def uptoBulkAll {H : Type} : List (DataW H) → Nat
  | [] => 0
  | d :: r => uptoBulk d + uptoBulkAll r
def uptoBulkEntries {H : Type} : List (Lit × DataW H) → Nat
  | [] => 0
  | x :: r => uptoBulkEntry x + uptoBulkEntries r
def uptoBulkEntry {H : Type} : Lit × DataW H → Nat
  | (.string bytes, d) => bytes.length + uptoBulk d + 1
  | (_, d) => uptoBulk d + 1
 end
def uptoSmall : (H : Type) → List (DataW H) → Bool := fun _ ds => decide (uptoBulkAll ds ≤ 1048576)
def OpenSpec.upto (s : _root_.Go.ChangeSpec) : _root_.Go.OpenSpec := { _root_.Go.OpenSpec.ofChange s with cond := some uptoSmall }

/-- 'wishbooklaw03.SlipTours', WHERE WHAT IT READS IS OF BULK AT MOST 1048576: true; the input reads as it did. -/
def slipToursUptoRow : OpenClaim := { program := "ytobbgcagbnhecaadoor", sum := "2b905d6337b46661f39f6e36d0a0ca60e6858164ffaeb072177d88801a2d7ead", func := "wishbook/wishbooklaw03.SlipTours", spec := "slipTours", unfollowed := true, recurses := true, named := ["wishbook/slip.ends"], plainKeys := false, apart := false, laid := [("wishbook/slip.ends", laid_wishbook_slip_ends)], narrowed := true }
def SlipToursUptoSaid : Prop := slipToursUptoRow.holds Tryd.pinned (OpenSpec.upto slipToursSpec)

/-- 'wishbooklaw03.SlipRosters', WHERE WHAT IT READS IS OF BULK AT MOST 1048576: true; the input reads as it did. -/
def slipRostersUptoRow : OpenClaim := { program := "ytobbgcagbnhecaadoor", sum := "2b905d6337b46661f39f6e36d0a0ca60e6858164ffaeb072177d88801a2d7ead", func := "wishbook/wishbooklaw03.SlipRosters", spec := "slipRosters", unfollowed := true, recurses := true, named := ["wishbook/slip.ends"], plainKeys := false, apart := false, laid := [("wishbook/slip.ends", laid_wishbook_slip_ends)], narrowed := true }
def SlipRostersUptoSaid : Prop := slipRostersUptoRow.holds Tryd.pinned (OpenSpec.upto slipRostersSpec)

/-- 'wishbooklaw03.SlipLates', WHERE WHAT IT READS IS OF BULK AT MOST 1048576: true; the input reads as it did. -/
def slipLatesUptoRow : OpenClaim := { program := "ytobbgcagbnhecaadoor", sum := "2b905d6337b46661f39f6e36d0a0ca60e6858164ffaeb072177d88801a2d7ead", func := "wishbook/wishbooklaw03.SlipLates", spec := "slipLates", unfollowed := true, recurses := true, named := ["wishbook/slip.ends"], plainKeys := false, apart := false, laid := [("wishbook/slip.ends", laid_wishbook_slip_ends)], narrowed := true }
def SlipLatesUptoSaid : Prop := slipLatesUptoRow.holds Tryd.pinned (OpenSpec.upto slipLatesSpec)

/-- 'wishbooklaw03.SlipFetched', WHERE WHAT IT READS IS OF BULK AT MOST 1048576: true; the input reads as it did. -/
def slipFetchedUptoRow : OpenClaim := { program := "ytobbgcagbnhecaadoor", sum := "2b905d6337b46661f39f6e36d0a0ca60e6858164ffaeb072177d88801a2d7ead", func := "wishbook/wishbooklaw03.SlipFetched", spec := "slipFetched", unfollowed := true, recurses := true, named := ["wishbook/slip.ends"], plainKeys := false, apart := false, laid := [("wishbook/slip.ends", laid_wishbook_slip_ends)], narrowed := true }
def SlipFetchedUptoSaid : Prop := slipFetchedUptoRow.holds Tryd.pinned (OpenSpec.upto slipFetchedSpec)

/-- 'wishbooklaw03.SlipTrue', WHERE WHAT IT READS IS OF BULK AT MOST 1048576: true; the input reads as it did. -/
def slipTrueUptoRow : OpenClaim := { program := "ytobbgcagbnhecaadoor", sum := "2b905d6337b46661f39f6e36d0a0ca60e6858164ffaeb072177d88801a2d7ead", func := "wishbook/wishbooklaw03.SlipTrue", spec := "slipTrue", unfollowed := true, recurses := true, named := ["wishbook/slip.ends"], plainKeys := false, apart := false, laid := [("wishbook/slip.ends", laid_wishbook_slip_ends)], narrowed := true }
def SlipTrueUptoSaid : Prop := slipTrueUptoRow.holds Tryd.pinned (OpenSpec.upto slipTrueSpec)

/-- 'wishbooklaw03.SlipGiven', WHERE WHAT IT READS IS OF BULK AT MOST 1048576: true; the input reads as it did. -/
def slipGivenUptoRow : OpenClaim := { program := "ytobbgcagbnhecaadoor", sum := "2b905d6337b46661f39f6e36d0a0ca60e6858164ffaeb072177d88801a2d7ead", func := "wishbook/wishbooklaw03.SlipGiven", spec := "slipGiven", unfollowed := true, recurses := true, named := ["wishbook/slip.ends"], plainKeys := false, apart := false, laid := [("wishbook/slip.ends", laid_wishbook_slip_ends)], narrowed := true }
def SlipGivenUptoSaid : Prop := slipGivenUptoRow.holds Tryd.pinned (OpenSpec.upto slipGivenSpec)

/-- 'wishbooklaw03.SlipEnds', WHERE WHAT IT READS IS OF BULK AT MOST 1048576: true; the input reads as it did. -/
def slipEndsUptoRow : OpenClaim := { program := "ytobbgcagbnhecaadoor", sum := "2b905d6337b46661f39f6e36d0a0ca60e6858164ffaeb072177d88801a2d7ead", func := "wishbook/wishbooklaw03.SlipEnds", spec := "slipEnds", unfollowed := true, recurses := true, named := ["wishbook/slip.ends"], plainKeys := false, apart := false, laid := [("wishbook/slip.ends", laid_wishbook_slip_ends)], narrowed := true }
def SlipEndsUptoSaid : Prop := slipEndsUptoRow.holds Tryd.pinned (OpenSpec.upto slipEndsSpec)

/-- 'wishbooklaw03.SlipLate', WHERE WHAT IT READS IS OF BULK AT MOST 1048576: true; the input reads as it did. -/
def slipLateUptoRow : OpenClaim := { program := "ytobbgcagbnhecaadoor", sum := "2b905d6337b46661f39f6e36d0a0ca60e6858164ffaeb072177d88801a2d7ead", func := "wishbook/wishbooklaw03.SlipLate", spec := "slipLate", unfollowed := true, recurses := true, named := ["wishbook/slip.ends"], plainKeys := false, apart := false, laid := [("wishbook/slip.ends", laid_wishbook_slip_ends)], narrowed := true }
def SlipLateUptoSaid : Prop := slipLateUptoRow.holds Tryd.pinned (OpenSpec.upto slipLateSpec)

/-- 'wishbooklaw03.SlipSpared', WHERE WHAT IT READS IS OF BULK AT MOST 1048576: true; the input reads as it did. -/
def slipSparedUptoRow : OpenClaim := { program := "ytobbgcagbnhecaadoor", sum := "2b905d6337b46661f39f6e36d0a0ca60e6858164ffaeb072177d88801a2d7ead", func := "wishbook/wishbooklaw03.SlipSpared", spec := "slipSpared", unfollowed := true, recurses := true, named := ["wishbook/slip.ends"], plainKeys := false, apart := false, laid := [("wishbook/slip.ends", laid_wishbook_slip_ends)], narrowed := true }
def SlipSparedUptoSaid : Prop := slipSparedUptoRow.holds Tryd.pinned (OpenSpec.upto slipSparedSpec)

/-- 'wishbooklaw03.SlipEasier', WHERE WHAT IT READS IS OF BULK AT MOST 1048576: true; the input reads as it did. -/
def slipEasierUptoRow : OpenClaim := { program := "ytobbgcagbnhecaadoor", sum := "2b905d6337b46661f39f6e36d0a0ca60e6858164ffaeb072177d88801a2d7ead", func := "wishbook/wishbooklaw03.SlipEasier", spec := "slipEasier", unfollowed := true, recurses := true, named := ["wishbook/slip.ends"], plainKeys := false, apart := false, laid := [("wishbook/slip.ends", laid_wishbook_slip_ends)], narrowed := true }
def SlipEasierUptoSaid : Prop := slipEasierUptoRow.holds Tryd.pinned (OpenSpec.upto slipEasierSpec)

/-- 'wishbooklaw03.SlipKnown', WHERE WHAT IT READS IS OF BULK AT MOST 1048576: true; the input reads as it did. -/
def slipKnownUptoRow : OpenClaim := { program := "ytobbgcagbnhecaadoor", sum := "2b905d6337b46661f39f6e36d0a0ca60e6858164ffaeb072177d88801a2d7ead", func := "wishbook/wishbooklaw03.SlipKnown", spec := "slipKnown", unfollowed := true, recurses := true, named := ["wishbook/slip.ends"], plainKeys := false, apart := false, laid := [("wishbook/slip.ends", laid_wishbook_slip_ends)], narrowed := true }
def SlipKnownUptoSaid : Prop := slipKnownUptoRow.holds Tryd.pinned (OpenSpec.upto slipKnownSpec)

end Rows
end Go.Proofs.YtobbgcagbnhecaaDoor
