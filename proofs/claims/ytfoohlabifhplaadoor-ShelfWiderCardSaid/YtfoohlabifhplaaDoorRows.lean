/-
  NARROWER THAN 'FOR EVERY INPUT', by the rows' own cells (each row's printed sentence says how): ShelfWas: laid · ShelfDues: laid · ShelfPasts: laid · ShelfWrongs: laid · ShelfTrue: laid · ShelfEnds: laid · ShelfPast: laid · ShelfMore: laid · ShelfWider: laid · ShelfLeft: laid · ShelfSure: laid · ShelfIdle: laid · ShelfKnown: laid.
  DERIVED. THE GIVEN ROWS OF THIS SEAT. 13 by the template 'for every input the law returns true; each argument reads behind the call as it read before'; 0 by the template 'total and deterministic' (their statements: YtfoohlabifhplaaDoorTotals.lean).
  GIVEN WITH THE SEED: the statements are not yours to turn. If you find one false, say at which input.
  Laid BY PROGRAM, IN A SANDBOX (cutbox-rows.mjs): the forced cells as the released guide's own fill.sh prints them over the translation b9230f7d83179e84… (all of the seat's roots in one cut). By AI agents, Wed Nov 11 2026. No macro, syntax, notation, axiom, sorry.
-/
import Derived.Test.YtfoohlabifhplaaDoorChecked
import GoSem.Claim
import GoSem.ClaimJoined
import GoSem.ClaimMapViews
import Derived.JoinedTies
import Derived.KernelRfl
namespace Go.Proofs.YtfoohlabifhplaaDoor
/- THE CELL 'sum', in the pinned program and in every row, IS THE sha256 OF THE DUMP (.gsa) THAT YtfoohlabifhplaaDoorProg.lean LOADS. Nothing in Lean hashes anything: it is a label: what it is worth is what the hold of that sum in a sandbox is worth. -/
noncomputable def Tryd.pinned : Pinned := { name := "ytfoohlabifhplaadoor", sum := "b9230f7d83179e8465bd2b976504cadd1e97cb491bbc761df3f04f99b626d799", checked := Tryd.checked }
namespace Rows
def none {H : Type} : Left H := { results := [], args := [] }

/- WHAT THE LISTED PACKAGE-LEVEL VARIABLES READ AS WHEN THE CALL BEGINS. Each datum BY PROGRAM (the guide's laid-datum.mjs) off the statement by which the dump's own 'gosem.cut.vars' lays the variable. In a bare row this is a premise. The card (YtfoohlabifhplaaDoorCards.lean) ties it to the program's text. -/
def laid_wishbook_shelf_steps {H : Type} : DataW H := .iface "func table" (.agg [.iface "func" (.lit (.string [40, 119, 105, 115, 104, 98, 111, 111, 107, 47, 115, 104, 101, 108, 102, 46, 98, 111, 111, 107, 41, 46, 108, 101, 115, 115])), .iface "func" (.lit (.string [40, 119, 105, 115, 104, 98, 111, 111, 107, 47, 115, 104, 101, 108, 102, 46, 98, 111, 111, 107, 41, 46, 109, 111, 114, 101]))])

/-- 'wishbooklaw04.ShelfWas': WHATEVER THE INPUT: true; the input reads as it did. -/
def shelfWasSpec : ChangeSpec := { name := "shelfWas", fn := fun _ => fun
  | [d1, d2] => { results := [.lit (.bool true)], args := [d1, d2] }
  | _ => none }
def shelfWasRow : OpenClaim := { program := "ytfoohlabifhplaadoor", sum := "b9230f7d83179e8465bd2b976504cadd1e97cb491bbc761df3f04f99b626d799", func := "wishbook/wishbooklaw04.ShelfWas", spec := "shelfWas", unfollowed := true, recurses := true, named := ["wishbook/shelf.steps"], plainKeys := false, apart := false, laid := [("wishbook/shelf.steps", laid_wishbook_shelf_steps)] }
def ShelfWasSaid : Prop := shelfWasRow.holds Tryd.pinned (OpenSpec.ofChange shelfWasSpec)

/-- ITS FALSE NEIGHBOUR: 'it returns false'. Refute it at one input. -/
def shelfWasWrong : ChangeSpec := { name := "shelfWas", fn := fun _ => fun
  | [d1, d2] => { results := [.lit (.bool false)], args := [d1, d2] }
  | _ => none }
def ShelfWasWrongFalsely : Prop := shelfWasRow.holds Tryd.pinned (OpenSpec.ofChange shelfWasWrong)

/-- 'wishbooklaw04.ShelfDues': WHATEVER THE INPUT: true; the input reads as it did. -/
def shelfDuesSpec : ChangeSpec := { name := "shelfDues", fn := fun _ => fun
  | [d1, d2] => { results := [.lit (.bool true)], args := [d1, d2] }
  | _ => none }
def shelfDuesRow : OpenClaim := { program := "ytfoohlabifhplaadoor", sum := "b9230f7d83179e8465bd2b976504cadd1e97cb491bbc761df3f04f99b626d799", func := "wishbook/wishbooklaw04.ShelfDues", spec := "shelfDues", unfollowed := true, recurses := true, named := ["wishbook/shelf.steps"], plainKeys := false, apart := false, laid := [("wishbook/shelf.steps", laid_wishbook_shelf_steps)] }
def ShelfDuesSaid : Prop := shelfDuesRow.holds Tryd.pinned (OpenSpec.ofChange shelfDuesSpec)

/-- ITS FALSE NEIGHBOUR: 'it returns false'. Refute it at one input. -/
def shelfDuesWrong : ChangeSpec := { name := "shelfDues", fn := fun _ => fun
  | [d1, d2] => { results := [.lit (.bool false)], args := [d1, d2] }
  | _ => none }
def ShelfDuesWrongFalsely : Prop := shelfDuesRow.holds Tryd.pinned (OpenSpec.ofChange shelfDuesWrong)

/-- 'wishbooklaw04.ShelfPasts': WHATEVER THE INPUT: true; the input reads as it did. -/
def shelfPastsSpec : ChangeSpec := { name := "shelfPasts", fn := fun _ => fun
  | [d1, d2] => { results := [.lit (.bool true)], args := [d1, d2] }
  | _ => none }
def shelfPastsRow : OpenClaim := { program := "ytfoohlabifhplaadoor", sum := "b9230f7d83179e8465bd2b976504cadd1e97cb491bbc761df3f04f99b626d799", func := "wishbook/wishbooklaw04.ShelfPasts", spec := "shelfPasts", unfollowed := true, recurses := true, named := ["wishbook/shelf.steps"], plainKeys := false, apart := false, laid := [("wishbook/shelf.steps", laid_wishbook_shelf_steps)] }
def ShelfPastsSaid : Prop := shelfPastsRow.holds Tryd.pinned (OpenSpec.ofChange shelfPastsSpec)

/-- ITS FALSE NEIGHBOUR: 'it returns false'. Refute it at one input. -/
def shelfPastsWrong : ChangeSpec := { name := "shelfPasts", fn := fun _ => fun
  | [d1, d2] => { results := [.lit (.bool false)], args := [d1, d2] }
  | _ => none }
def ShelfPastsWrongFalsely : Prop := shelfPastsRow.holds Tryd.pinned (OpenSpec.ofChange shelfPastsWrong)

/-- 'wishbooklaw04.ShelfWrongs': WHATEVER THE INPUT: true; the input reads as it did. -/
def shelfWrongsSpec : ChangeSpec := { name := "shelfWrongs", fn := fun _ => fun
  | [d] => { results := [.lit (.bool true)], args := [d] }
  | _ => none }
def shelfWrongsRow : OpenClaim := { program := "ytfoohlabifhplaadoor", sum := "b9230f7d83179e8465bd2b976504cadd1e97cb491bbc761df3f04f99b626d799", func := "wishbook/wishbooklaw04.ShelfWrongs", spec := "shelfWrongs", unfollowed := true, recurses := true, named := ["wishbook/shelf.steps"], plainKeys := false, apart := false, laid := [("wishbook/shelf.steps", laid_wishbook_shelf_steps)] }
def ShelfWrongsSaid : Prop := shelfWrongsRow.holds Tryd.pinned (OpenSpec.ofChange shelfWrongsSpec)

/-- ITS FALSE NEIGHBOUR: 'it returns false'. Refute it at one input. -/
def shelfWrongsWrong : ChangeSpec := { name := "shelfWrongs", fn := fun _ => fun
  | [d] => { results := [.lit (.bool false)], args := [d] }
  | _ => none }
def ShelfWrongsWrongFalsely : Prop := shelfWrongsRow.holds Tryd.pinned (OpenSpec.ofChange shelfWrongsWrong)

/-- 'wishbooklaw04.ShelfTrue': WHATEVER THE INPUT: true; the input reads as it did. -/
def shelfTrueSpec : ChangeSpec := { name := "shelfTrue", fn := fun _ => fun
  | [d1, d2] => { results := [.lit (.bool true)], args := [d1, d2] }
  | _ => none }
def shelfTrueRow : OpenClaim := { program := "ytfoohlabifhplaadoor", sum := "b9230f7d83179e8465bd2b976504cadd1e97cb491bbc761df3f04f99b626d799", func := "wishbook/wishbooklaw04.ShelfTrue", spec := "shelfTrue", unfollowed := true, recurses := true, named := ["wishbook/shelf.steps"], plainKeys := false, apart := false, laid := [("wishbook/shelf.steps", laid_wishbook_shelf_steps)] }
def ShelfTrueSaid : Prop := shelfTrueRow.holds Tryd.pinned (OpenSpec.ofChange shelfTrueSpec)

/-- ITS FALSE NEIGHBOUR: 'it returns false'. Refute it at one input. -/
def shelfTrueWrong : ChangeSpec := { name := "shelfTrue", fn := fun _ => fun
  | [d1, d2] => { results := [.lit (.bool false)], args := [d1, d2] }
  | _ => none }
def ShelfTrueWrongFalsely : Prop := shelfTrueRow.holds Tryd.pinned (OpenSpec.ofChange shelfTrueWrong)

/-- 'wishbooklaw04.ShelfEnds': WHATEVER THE INPUT: true; the input reads as it did. -/
def shelfEndsSpec : ChangeSpec := { name := "shelfEnds", fn := fun _ => fun
  | [d1, d2] => { results := [.lit (.bool true)], args := [d1, d2] }
  | _ => none }
def shelfEndsRow : OpenClaim := { program := "ytfoohlabifhplaadoor", sum := "b9230f7d83179e8465bd2b976504cadd1e97cb491bbc761df3f04f99b626d799", func := "wishbook/wishbooklaw04.ShelfEnds", spec := "shelfEnds", unfollowed := true, recurses := true, named := ["wishbook/shelf.steps"], plainKeys := false, apart := false, laid := [("wishbook/shelf.steps", laid_wishbook_shelf_steps)] }
def ShelfEndsSaid : Prop := shelfEndsRow.holds Tryd.pinned (OpenSpec.ofChange shelfEndsSpec)

/-- ITS FALSE NEIGHBOUR: 'it returns false'. Refute it at one input. -/
def shelfEndsWrong : ChangeSpec := { name := "shelfEnds", fn := fun _ => fun
  | [d1, d2] => { results := [.lit (.bool false)], args := [d1, d2] }
  | _ => none }
def ShelfEndsWrongFalsely : Prop := shelfEndsRow.holds Tryd.pinned (OpenSpec.ofChange shelfEndsWrong)

/-- 'wishbooklaw04.ShelfPast': WHATEVER THE INPUT: true; the input reads as it did. -/
def shelfPastSpec : ChangeSpec := { name := "shelfPast", fn := fun _ => fun
  | [d1, d2] => { results := [.lit (.bool true)], args := [d1, d2] }
  | _ => none }
def shelfPastRow : OpenClaim := { program := "ytfoohlabifhplaadoor", sum := "b9230f7d83179e8465bd2b976504cadd1e97cb491bbc761df3f04f99b626d799", func := "wishbook/wishbooklaw04.ShelfPast", spec := "shelfPast", unfollowed := true, recurses := true, named := ["wishbook/shelf.steps"], plainKeys := false, apart := false, laid := [("wishbook/shelf.steps", laid_wishbook_shelf_steps)] }
def ShelfPastSaid : Prop := shelfPastRow.holds Tryd.pinned (OpenSpec.ofChange shelfPastSpec)

/-- ITS FALSE NEIGHBOUR: 'it returns false'. Refute it at one input. -/
def shelfPastWrong : ChangeSpec := { name := "shelfPast", fn := fun _ => fun
  | [d1, d2] => { results := [.lit (.bool false)], args := [d1, d2] }
  | _ => none }
def ShelfPastWrongFalsely : Prop := shelfPastRow.holds Tryd.pinned (OpenSpec.ofChange shelfPastWrong)

/-- 'wishbooklaw04.ShelfMore': WHATEVER THE INPUT: true; the input reads as it did. -/
def shelfMoreSpec : ChangeSpec := { name := "shelfMore", fn := fun _ => fun
  | [d1, d2, d3] => { results := [.lit (.bool true)], args := [d1, d2, d3] }
  | _ => none }
def shelfMoreRow : OpenClaim := { program := "ytfoohlabifhplaadoor", sum := "b9230f7d83179e8465bd2b976504cadd1e97cb491bbc761df3f04f99b626d799", func := "wishbook/wishbooklaw04.ShelfMore", spec := "shelfMore", unfollowed := true, recurses := true, named := ["wishbook/shelf.steps"], plainKeys := false, apart := false, laid := [("wishbook/shelf.steps", laid_wishbook_shelf_steps)] }
def ShelfMoreSaid : Prop := shelfMoreRow.holds Tryd.pinned (OpenSpec.ofChange shelfMoreSpec)

/-- ITS FALSE NEIGHBOUR: 'it returns false'. Refute it at one input. -/
def shelfMoreWrong : ChangeSpec := { name := "shelfMore", fn := fun _ => fun
  | [d1, d2, d3] => { results := [.lit (.bool false)], args := [d1, d2, d3] }
  | _ => none }
def ShelfMoreWrongFalsely : Prop := shelfMoreRow.holds Tryd.pinned (OpenSpec.ofChange shelfMoreWrong)

/-- 'wishbooklaw04.ShelfWider': WHATEVER THE INPUT: true; the input reads as it did. -/
def shelfWiderSpec : ChangeSpec := { name := "shelfWider", fn := fun _ => fun
  | [d1, d2] => { results := [.lit (.bool true)], args := [d1, d2] }
  | _ => none }
def shelfWiderRow : OpenClaim := { program := "ytfoohlabifhplaadoor", sum := "b9230f7d83179e8465bd2b976504cadd1e97cb491bbc761df3f04f99b626d799", func := "wishbook/wishbooklaw04.ShelfWider", spec := "shelfWider", unfollowed := true, recurses := true, named := ["wishbook/shelf.steps"], plainKeys := false, apart := false, laid := [("wishbook/shelf.steps", laid_wishbook_shelf_steps)] }
def ShelfWiderSaid : Prop := shelfWiderRow.holds Tryd.pinned (OpenSpec.ofChange shelfWiderSpec)

/-- ITS FALSE NEIGHBOUR: 'it returns false'. Refute it at one input. -/
def shelfWiderWrong : ChangeSpec := { name := "shelfWider", fn := fun _ => fun
  | [d1, d2] => { results := [.lit (.bool false)], args := [d1, d2] }
  | _ => none }
def ShelfWiderWrongFalsely : Prop := shelfWiderRow.holds Tryd.pinned (OpenSpec.ofChange shelfWiderWrong)

/-- 'wishbooklaw04.ShelfLeft': WHATEVER THE INPUT: true; the input reads as it did. -/
def shelfLeftSpec : ChangeSpec := { name := "shelfLeft", fn := fun _ => fun
  | [d1, d2] => { results := [.lit (.bool true)], args := [d1, d2] }
  | _ => none }
def shelfLeftRow : OpenClaim := { program := "ytfoohlabifhplaadoor", sum := "b9230f7d83179e8465bd2b976504cadd1e97cb491bbc761df3f04f99b626d799", func := "wishbook/wishbooklaw04.ShelfLeft", spec := "shelfLeft", unfollowed := true, recurses := true, named := ["wishbook/shelf.steps"], plainKeys := false, apart := false, laid := [("wishbook/shelf.steps", laid_wishbook_shelf_steps)] }
def ShelfLeftSaid : Prop := shelfLeftRow.holds Tryd.pinned (OpenSpec.ofChange shelfLeftSpec)

/-- ITS FALSE NEIGHBOUR: 'it returns false'. Refute it at one input. -/
def shelfLeftWrong : ChangeSpec := { name := "shelfLeft", fn := fun _ => fun
  | [d1, d2] => { results := [.lit (.bool false)], args := [d1, d2] }
  | _ => none }
def ShelfLeftWrongFalsely : Prop := shelfLeftRow.holds Tryd.pinned (OpenSpec.ofChange shelfLeftWrong)

/-- 'wishbooklaw04.ShelfSure': WHATEVER THE INPUT: true; the input reads as it did. -/
def shelfSureSpec : ChangeSpec := { name := "shelfSure", fn := fun _ => fun
  | [d1, d2, d3] => { results := [.lit (.bool true)], args := [d1, d2, d3] }
  | _ => none }
def shelfSureRow : OpenClaim := { program := "ytfoohlabifhplaadoor", sum := "b9230f7d83179e8465bd2b976504cadd1e97cb491bbc761df3f04f99b626d799", func := "wishbook/wishbooklaw04.ShelfSure", spec := "shelfSure", unfollowed := true, recurses := true, named := ["wishbook/shelf.steps"], plainKeys := false, apart := false, laid := [("wishbook/shelf.steps", laid_wishbook_shelf_steps)] }
def ShelfSureSaid : Prop := shelfSureRow.holds Tryd.pinned (OpenSpec.ofChange shelfSureSpec)

/-- ITS FALSE NEIGHBOUR: 'it returns false'. Refute it at one input. -/
def shelfSureWrong : ChangeSpec := { name := "shelfSure", fn := fun _ => fun
  | [d1, d2, d3] => { results := [.lit (.bool false)], args := [d1, d2, d3] }
  | _ => none }
def ShelfSureWrongFalsely : Prop := shelfSureRow.holds Tryd.pinned (OpenSpec.ofChange shelfSureWrong)

/-- 'wishbooklaw04.ShelfIdle': WHATEVER THE INPUT: true; the input reads as it did. -/
def shelfIdleSpec : ChangeSpec := { name := "shelfIdle", fn := fun _ => fun
  | [d1, d2] => { results := [.lit (.bool true)], args := [d1, d2] }
  | _ => none }
def shelfIdleRow : OpenClaim := { program := "ytfoohlabifhplaadoor", sum := "b9230f7d83179e8465bd2b976504cadd1e97cb491bbc761df3f04f99b626d799", func := "wishbook/wishbooklaw04.ShelfIdle", spec := "shelfIdle", unfollowed := true, recurses := true, named := ["wishbook/shelf.steps"], plainKeys := false, apart := false, laid := [("wishbook/shelf.steps", laid_wishbook_shelf_steps)] }
def ShelfIdleSaid : Prop := shelfIdleRow.holds Tryd.pinned (OpenSpec.ofChange shelfIdleSpec)

/-- ITS FALSE NEIGHBOUR: 'it returns false'. Refute it at one input. -/
def shelfIdleWrong : ChangeSpec := { name := "shelfIdle", fn := fun _ => fun
  | [d1, d2] => { results := [.lit (.bool false)], args := [d1, d2] }
  | _ => none }
def ShelfIdleWrongFalsely : Prop := shelfIdleRow.holds Tryd.pinned (OpenSpec.ofChange shelfIdleWrong)

/-- 'wishbooklaw04.ShelfKnown': WHATEVER THE INPUT: true; the input reads as it did. -/
def shelfKnownSpec : ChangeSpec := { name := "shelfKnown", fn := fun _ => fun
  | [] => { results := [.lit (.bool true)], args := [] }
  | _ => none }
def shelfKnownRow : OpenClaim := { program := "ytfoohlabifhplaadoor", sum := "b9230f7d83179e8465bd2b976504cadd1e97cb491bbc761df3f04f99b626d799", func := "wishbook/wishbooklaw04.ShelfKnown", spec := "shelfKnown", unfollowed := true, recurses := true, named := ["wishbook/shelf.steps"], plainKeys := false, apart := false, laid := [("wishbook/shelf.steps", laid_wishbook_shelf_steps)] }
def ShelfKnownSaid : Prop := shelfKnownRow.holds Tryd.pinned (OpenSpec.ofChange shelfKnownSpec)

/-- ITS FALSE NEIGHBOUR: 'it returns false'. Refute it at one input. -/
def shelfKnownWrong : ChangeSpec := { name := "shelfKnown", fn := fun _ => fun
  | [] => { results := [.lit (.bool false)], args := [] }
  | _ => none }
def ShelfKnownWrongFalsely : Prop := shelfKnownRow.holds Tryd.pinned (OpenSpec.ofChange shelfKnownWrong)

/- THE SECOND FORM. 'bulk': how many values and letters a reading holds, each counted each time it is reached (what is shared counts as often as it is met; a slice's spare places count too). A statement '..UptoSaid' is the law's where the arguments, and the package variables that the reading takes, are together of bulk at most 1048576: NARROWER than '..Said'. Prove '..Said' where nothing that the law and all that it calls make is longer than what came in: it says more and counts as full. Else prove '..UptoSaid'. A law counts once. -/
mutual
def uptoBulk {H : Type} : DataW H → Nat
  | .lit (.string bytes) => bytes.length + 1
  | .lit _ => 1
  | .nil => 1
  | .ptr d => uptoBulk d + 1
  | .slice elems spare => uptoBulkAll elems + uptoBulkAll spare + 1
  | .agg parts => uptoBulkAll parts + 1
  | .iface _ d => uptoBulk d + 1
  | .map entries => uptoBulkEntries entries + 1
  | .held _ => 1
def uptoBulkAll {H : Type} : List (DataW H) → Nat
  | [] => 0
  | d :: r => uptoBulk d + uptoBulkAll r
def uptoBulkEntries {H : Type} : List (Lit × DataW H) → Nat
  | [] => 0
  | x :: r => uptoBulkEntry x + uptoBulkEntries r
def uptoBulkEntry {H : Type} : Lit × DataW H → Nat
  | (.string bytes, d) => bytes.length + uptoBulk d + 1
  | (_, d) => uptoBulk d + 1
 end
def uptoSmall : (H : Type) → List (DataW H) → Bool := fun _ ds => decide (uptoBulkAll ds ≤ 1048576)
def OpenSpec.upto (s : _root_.Go.ChangeSpec) : _root_.Go.OpenSpec := { _root_.Go.OpenSpec.ofChange s with cond := some uptoSmall }

/-- 'wishbooklaw04.ShelfWas', WHERE WHAT IT READS IS OF BULK AT MOST 1048576: true; the input reads as it did. -/
def shelfWasUptoRow : OpenClaim := { program := "ytfoohlabifhplaadoor", sum := "b9230f7d83179e8465bd2b976504cadd1e97cb491bbc761df3f04f99b626d799", func := "wishbook/wishbooklaw04.ShelfWas", spec := "shelfWas", unfollowed := true, recurses := true, named := ["wishbook/shelf.steps"], plainKeys := false, apart := false, laid := [("wishbook/shelf.steps", laid_wishbook_shelf_steps)], narrowed := true }
def ShelfWasUptoSaid : Prop := shelfWasUptoRow.holds Tryd.pinned (OpenSpec.upto shelfWasSpec)

/-- 'wishbooklaw04.ShelfDues', WHERE WHAT IT READS IS OF BULK AT MOST 1048576: true; the input reads as it did. -/
def shelfDuesUptoRow : OpenClaim := { program := "ytfoohlabifhplaadoor", sum := "b9230f7d83179e8465bd2b976504cadd1e97cb491bbc761df3f04f99b626d799", func := "wishbook/wishbooklaw04.ShelfDues", spec := "shelfDues", unfollowed := true, recurses := true, named := ["wishbook/shelf.steps"], plainKeys := false, apart := false, laid := [("wishbook/shelf.steps", laid_wishbook_shelf_steps)], narrowed := true }
def ShelfDuesUptoSaid : Prop := shelfDuesUptoRow.holds Tryd.pinned (OpenSpec.upto shelfDuesSpec)

/-- 'wishbooklaw04.ShelfPasts', WHERE WHAT IT READS IS OF BULK AT MOST 1048576: true; the input reads as it did. -/
def shelfPastsUptoRow : OpenClaim := { program := "ytfoohlabifhplaadoor", sum := "b9230f7d83179e8465bd2b976504cadd1e97cb491bbc761df3f04f99b626d799", func := "wishbook/wishbooklaw04.ShelfPasts", spec := "shelfPasts", unfollowed := true, recurses := true, named := ["wishbook/shelf.steps"], plainKeys := false, apart := false, laid := [("wishbook/shelf.steps", laid_wishbook_shelf_steps)], narrowed := true }
def ShelfPastsUptoSaid : Prop := shelfPastsUptoRow.holds Tryd.pinned (OpenSpec.upto shelfPastsSpec)

/-- 'wishbooklaw04.ShelfWrongs', WHERE WHAT IT READS IS OF BULK AT MOST 1048576: true; the input reads as it did. -/
def shelfWrongsUptoRow : OpenClaim := { program := "ytfoohlabifhplaadoor", sum := "b9230f7d83179e8465bd2b976504cadd1e97cb491bbc761df3f04f99b626d799", func := "wishbook/wishbooklaw04.ShelfWrongs", spec := "shelfWrongs", unfollowed := true, recurses := true, named := ["wishbook/shelf.steps"], plainKeys := false, apart := false, laid := [("wishbook/shelf.steps", laid_wishbook_shelf_steps)], narrowed := true }
def ShelfWrongsUptoSaid : Prop := shelfWrongsUptoRow.holds Tryd.pinned (OpenSpec.upto shelfWrongsSpec)

/-- 'wishbooklaw04.ShelfTrue', WHERE WHAT IT READS IS OF BULK AT MOST 1048576: true; the input reads as it did. -/
def shelfTrueUptoRow : OpenClaim := { program := "ytfoohlabifhplaadoor", sum := "b9230f7d83179e8465bd2b976504cadd1e97cb491bbc761df3f04f99b626d799", func := "wishbook/wishbooklaw04.ShelfTrue", spec := "shelfTrue", unfollowed := true, recurses := true, named := ["wishbook/shelf.steps"], plainKeys := false, apart := false, laid := [("wishbook/shelf.steps", laid_wishbook_shelf_steps)], narrowed := true }
def ShelfTrueUptoSaid : Prop := shelfTrueUptoRow.holds Tryd.pinned (OpenSpec.upto shelfTrueSpec)

/-- 'wishbooklaw04.ShelfEnds', WHERE WHAT IT READS IS OF BULK AT MOST 1048576: true; the input reads as it did. -/
def shelfEndsUptoRow : OpenClaim := { program := "ytfoohlabifhplaadoor", sum := "b9230f7d83179e8465bd2b976504cadd1e97cb491bbc761df3f04f99b626d799", func := "wishbook/wishbooklaw04.ShelfEnds", spec := "shelfEnds", unfollowed := true, recurses := true, named := ["wishbook/shelf.steps"], plainKeys := false, apart := false, laid := [("wishbook/shelf.steps", laid_wishbook_shelf_steps)], narrowed := true }
def ShelfEndsUptoSaid : Prop := shelfEndsUptoRow.holds Tryd.pinned (OpenSpec.upto shelfEndsSpec)

/-- 'wishbooklaw04.ShelfPast', WHERE WHAT IT READS IS OF BULK AT MOST 1048576: true; the input reads as it did. -/
def shelfPastUptoRow : OpenClaim := { program := "ytfoohlabifhplaadoor", sum := "b9230f7d83179e8465bd2b976504cadd1e97cb491bbc761df3f04f99b626d799", func := "wishbook/wishbooklaw04.ShelfPast", spec := "shelfPast", unfollowed := true, recurses := true, named := ["wishbook/shelf.steps"], plainKeys := false, apart := false, laid := [("wishbook/shelf.steps", laid_wishbook_shelf_steps)], narrowed := true }
def ShelfPastUptoSaid : Prop := shelfPastUptoRow.holds Tryd.pinned (OpenSpec.upto shelfPastSpec)

/-- 'wishbooklaw04.ShelfMore', WHERE WHAT IT READS IS OF BULK AT MOST 1048576: true; the input reads as it did. -/
def shelfMoreUptoRow : OpenClaim := { program := "ytfoohlabifhplaadoor", sum := "b9230f7d83179e8465bd2b976504cadd1e97cb491bbc761df3f04f99b626d799", func := "wishbook/wishbooklaw04.ShelfMore", spec := "shelfMore", unfollowed := true, recurses := true, named := ["wishbook/shelf.steps"], plainKeys := false, apart := false, laid := [("wishbook/shelf.steps", laid_wishbook_shelf_steps)], narrowed := true }
def ShelfMoreUptoSaid : Prop := shelfMoreUptoRow.holds Tryd.pinned (OpenSpec.upto shelfMoreSpec)

/-- 'wishbooklaw04.ShelfWider', WHERE WHAT IT READS IS OF BULK AT MOST 1048576: true; the input reads as it did. -/
def shelfWiderUptoRow : OpenClaim := { program := "ytfoohlabifhplaadoor", sum := "b9230f7d83179e8465bd2b976504cadd1e97cb491bbc761df3f04f99b626d799", func := "wishbook/wishbooklaw04.ShelfWider", spec := "shelfWider", unfollowed := true, recurses := true, named := ["wishbook/shelf.steps"], plainKeys := false, apart := false, laid := [("wishbook/shelf.steps", laid_wishbook_shelf_steps)], narrowed := true }
def ShelfWiderUptoSaid : Prop := shelfWiderUptoRow.holds Tryd.pinned (OpenSpec.upto shelfWiderSpec)

/-- 'wishbooklaw04.ShelfLeft', WHERE WHAT IT READS IS OF BULK AT MOST 1048576: true; the input reads as it did. -/
def shelfLeftUptoRow : OpenClaim := { program := "ytfoohlabifhplaadoor", sum := "b9230f7d83179e8465bd2b976504cadd1e97cb491bbc761df3f04f99b626d799", func := "wishbook/wishbooklaw04.ShelfLeft", spec := "shelfLeft", unfollowed := true, recurses := true, named := ["wishbook/shelf.steps"], plainKeys := false, apart := false, laid := [("wishbook/shelf.steps", laid_wishbook_shelf_steps)], narrowed := true }
def ShelfLeftUptoSaid : Prop := shelfLeftUptoRow.holds Tryd.pinned (OpenSpec.upto shelfLeftSpec)

/-- 'wishbooklaw04.ShelfSure', WHERE WHAT IT READS IS OF BULK AT MOST 1048576: true; the input reads as it did. -/
def shelfSureUptoRow : OpenClaim := { program := "ytfoohlabifhplaadoor", sum := "b9230f7d83179e8465bd2b976504cadd1e97cb491bbc761df3f04f99b626d799", func := "wishbook/wishbooklaw04.ShelfSure", spec := "shelfSure", unfollowed := true, recurses := true, named := ["wishbook/shelf.steps"], plainKeys := false, apart := false, laid := [("wishbook/shelf.steps", laid_wishbook_shelf_steps)], narrowed := true }
def ShelfSureUptoSaid : Prop := shelfSureUptoRow.holds Tryd.pinned (OpenSpec.upto shelfSureSpec)

/-- 'wishbooklaw04.ShelfIdle', WHERE WHAT IT READS IS OF BULK AT MOST 1048576: true; the input reads as it did. -/
def shelfIdleUptoRow : OpenClaim := { program := "ytfoohlabifhplaadoor", sum := "b9230f7d83179e8465bd2b976504cadd1e97cb491bbc761df3f04f99b626d799", func := "wishbook/wishbooklaw04.ShelfIdle", spec := "shelfIdle", unfollowed := true, recurses := true, named := ["wishbook/shelf.steps"], plainKeys := false, apart := false, laid := [("wishbook/shelf.steps", laid_wishbook_shelf_steps)], narrowed := true }
def ShelfIdleUptoSaid : Prop := shelfIdleUptoRow.holds Tryd.pinned (OpenSpec.upto shelfIdleSpec)

/-- 'wishbooklaw04.ShelfKnown', WHERE WHAT IT READS IS OF BULK AT MOST 1048576: true; the input reads as it did. -/
def shelfKnownUptoRow : OpenClaim := { program := "ytfoohlabifhplaadoor", sum := "b9230f7d83179e8465bd2b976504cadd1e97cb491bbc761df3f04f99b626d799", func := "wishbook/wishbooklaw04.ShelfKnown", spec := "shelfKnown", unfollowed := true, recurses := true, named := ["wishbook/shelf.steps"], plainKeys := false, apart := false, laid := [("wishbook/shelf.steps", laid_wishbook_shelf_steps)], narrowed := true }
def ShelfKnownUptoSaid : Prop := shelfKnownUptoRow.holds Tryd.pinned (OpenSpec.upto shelfKnownSpec)

end Rows
end Go.Proofs.YtfoohlabifhplaaDoor
