/-
  DERIVED. GIVEN WITH THE SEED: THE PROGRAM's TIES (one call each: nine closed facts by the kernel) AND EACH ROW's TIE, after the 31st guide's Derived/Test/Toyas{Tie, Card}.lean. No idea stands in it: it is a product of the set-up. Laid BY PROGRAM, IN A SANDBOX (cutbox-door.mjs). By AI agents, Wed Nov 11 2026. No macro, syntax, notation, axiom, sorry.
-/
import Derived.Test.YtlliglddpleenabGreatDoorRows
import Derived.LaidByTextLater
import Derived.SevenTiedAt
import Derived.LaidSub
import Derived.LaidOnce
namespace Go.Proofs.YtlliglddpleenabGreatDoor
open Go
set_option maxRecDepth 100000
theorem seatTie1 : Tryz.prog.laidByTextLater [("wishbook/book.kinds", Rows.laid_wishbook_book_kinds), ("wishbook/letter.fields", Rows.laid_wishbook_letter_fields), ("wishbook/parcel.parts", Rows.laid_wishbook_parcel_parts), ("wishbook/shelf.steps", Rows.laid_wishbook_shelf_steps), ("wishbook/slip.ends", Rows.laid_wishbook_slip_ends), ("wishbook/chute.ways", Rows.laid_wishbook_chute_ways)] [.funcs, .funcs, .funcs, .funcs, .funcs, .funcs] true :=
  Program.laidByTextLater_by_one 39 8 2 (by kernel_rfl) (by kernel_rfl) (by kernel_rfl) (by kernel_rfl) (by kernel_rfl) (by kernel_rfl) (fun _ _ => by kernel_rfl)
theorem noOwnUnsafe : Tryz.pinned.checked.prog.headLifts.contains "ownunsafe" = false := by kernel_rfl
theorem tie : Tryz.prog.laidByTextLater [("wishbook/book.kinds", Rows.laid_wishbook_book_kinds), ("wishbook/shelf.steps", Rows.laid_wishbook_shelf_steps)] [.funcs, .funcs] true :=
  Program.laidByTextLater.sub seatTie1 ["wishbook/book.kinds", "wishbook/shelf.steps"] (by kernel_rfl) (by kernel_rfl)
theorem topPicked_row_tie : Rows.topPickedRow.laidByTextAt .later Tryz.pinned [.funcs, .funcs] true :=
  OpenClaim.laidByTextAt_later rfl rfl tie noOwnUnsafe
theorem tie2 : Tryz.prog.laidByTextLater [("wishbook/book.kinds", Rows.laid_wishbook_book_kinds), ("wishbook/parcel.parts", Rows.laid_wishbook_parcel_parts), ("wishbook/slip.ends", Rows.laid_wishbook_slip_ends), ("wishbook/chute.ways", Rows.laid_wishbook_chute_ways)] [.funcs, .funcs, .funcs, .funcs] true :=
  Program.laidByTextLater.sub seatTie1 ["wishbook/book.kinds", "wishbook/parcel.parts", "wishbook/slip.ends", "wishbook/chute.ways"] (by kernel_rfl) (by kernel_rfl)
theorem topBoxed_row_tie : Rows.topBoxedRow.laidByTextAt .later Tryz.pinned [.funcs, .funcs, .funcs, .funcs] true :=
  OpenClaim.laidByTextAt_later rfl rfl tie2 noOwnUnsafe
theorem tie3 : Tryz.prog.laidByTextLater [("wishbook/book.kinds", Rows.laid_wishbook_book_kinds), ("wishbook/letter.fields", Rows.laid_wishbook_letter_fields), ("wishbook/slip.ends", Rows.laid_wishbook_slip_ends)] [.funcs, .funcs, .funcs] true :=
  Program.laidByTextLater.sub seatTie1 ["wishbook/book.kinds", "wishbook/letter.fields", "wishbook/slip.ends"] (by kernel_rfl) (by kernel_rfl)
theorem topMeant_row_tie : Rows.topMeantRow.laidByTextAt .later Tryz.pinned [.funcs, .funcs, .funcs] true :=
  OpenClaim.laidByTextAt_later rfl rfl tie3 noOwnUnsafe
theorem topPickedUpto_row_tie : Rows.topPickedUptoRow.laidByTextAt .later Tryz.pinned [.funcs, .funcs] true :=
  OpenClaim.laidByTextAt_later rfl rfl tie noOwnUnsafe
theorem topBoxedUpto_row_tie : Rows.topBoxedUptoRow.laidByTextAt .later Tryz.pinned [.funcs, .funcs, .funcs, .funcs] true :=
  OpenClaim.laidByTextAt_later rfl rfl tie2 noOwnUnsafe
theorem topMeantUpto_row_tie : Rows.topMeantUptoRow.laidByTextAt .later Tryz.pinned [.funcs, .funcs, .funcs] true :=
  OpenClaim.laidByTextAt_later rfl rfl tie3 noOwnUnsafe
end Go.Proofs.YtlliglddpleenabGreatDoor
