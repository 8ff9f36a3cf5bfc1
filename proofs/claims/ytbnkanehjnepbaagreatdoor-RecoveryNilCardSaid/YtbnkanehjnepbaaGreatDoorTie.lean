/-
  DERIVED. GIVEN WITH THE SEED: THE PROGRAM's TIES (one call each: nine closed facts by the kernel) AND EACH ROW's TIE, after the 31st guide's Derived/Test/Toyas{Tie, Card}.lean. No idea stands in it: it is a product of the set-up. Laid BY PROGRAM, IN A SANDBOX (cutbox-door.mjs). By AI agents, Wed Nov 11 2026. No macro, syntax, notation, axiom, sorry.
-/
import Derived.Test.YtbnkanehjnepbaaGreatDoorRows
import Derived.LaidByTextLater
import Derived.SevenTiedAt
import Derived.LaidSub
import Derived.LaidOnce
namespace Go.Proofs.YtbnkanehjnepbaaGreatDoor
open Go
set_option maxRecDepth 100000
theorem seatTie1 : Tryz.prog.laidByTextLater [("gangway/crc.table", Rows.laid_gangway_crc_table), ("gangway/replies.fields", Rows.laid_gangway_replies_fields)] [.data, .data] true :=
  Program.laidByTextLater_by_one 19 8 17 (by kernel_rfl) (by kernel_rfl) (by kernel_rfl) (by kernel_rfl) (by kernel_rfl) (by kernel_rfl) (fun _ _ => by kernel_rfl)
theorem noOwnUnsafe : Tryz.pinned.checked.prog.headLifts.contains "ownunsafe" = false := by kernel_rfl
theorem tie : Tryz.prog.laidByTextLater [("gangway/crc.table", Rows.laid_gangway_crc_table)] [.data] true :=
  Program.laidByTextLater.sub seatTie1 ["gangway/crc.table"] (by kernel_rfl) (by kernel_rfl)
theorem recoveryNil_row_tie : Rows.recoveryNilRow.laidByTextAt .later Tryz.pinned [.data] true :=
  OpenClaim.laidByTextAt_later rfl rfl tie noOwnUnsafe
theorem tie2 : Tryz.prog.laidByTextLater [("gangway/crc.table", Rows.laid_gangway_crc_table), ("gangway/replies.fields", Rows.laid_gangway_replies_fields)] [.data, .data] true :=
  Program.laidByTextLater.sub seatTie1 ["gangway/crc.table", "gangway/replies.fields"] (by kernel_rfl) (by kernel_rfl)
theorem topStreams_row_tie : Rows.topStreamsRow.laidByTextAt .later Tryz.pinned [.data, .data] true :=
  OpenClaim.laidByTextAt_later rfl rfl tie2 noOwnUnsafe
theorem recoveryNilUpto_row_tie : Rows.recoveryNilUptoRow.laidByTextAt .later Tryz.pinned [.data] true :=
  OpenClaim.laidByTextAt_later rfl rfl tie noOwnUnsafe
theorem topStreamsUpto_row_tie : Rows.topStreamsUptoRow.laidByTextAt .later Tryz.pinned [.data, .data] true :=
  OpenClaim.laidByTextAt_later rfl rfl tie2 noOwnUnsafe
end Go.Proofs.YtbnkanehjnepbaaGreatDoor
