/-
  DERIVED. GIVEN WITH THE SEED: THE PROGRAM's TIES (one call each: nine closed facts by the kernel) AND EACH ROW's TIE, after the 31st guide's Derived/Test/Toyas{Tie, Card}.lean. No idea stands in it: it is a product of the set-up. Laid BY PROGRAM, IN A SANDBOX (cutbox-door.mjs). By AI agents, Wed Nov 11 2026. No macro, syntax, notation, axiom, sorry.
-/
import Derived.Test.YtoffobakidenhaaDoorRows
import Derived.LaidByTextLater
import Derived.SevenTiedAt
import Derived.LaidSub
import Derived.LaidOnce
namespace Go.Proofs.YtoffobakidenhaaDoor
open Go
set_option maxRecDepth 100000
theorem seatTie1 : Tryd.prog.laidByTextLater [("wordbook/hash.constants", Rows.laid_wordbook_hash_constants), ("wordbook/wordbookref02.constants", Rows.laid_wordbook_wordbookref02_constants)] [.data, .data] true :=
  Program.laidByTextLater_by_one 19 8 65 (by kernel_rfl) (by kernel_rfl) (by kernel_rfl) (by kernel_rfl) (by kernel_rfl) (by kernel_rfl) (fun _ _ => by kernel_rfl)
theorem noOwnUnsafe : Tryd.pinned.checked.prog.headLifts.contains "ownunsafe" = false := by kernel_rfl
theorem tie : Tryd.prog.laidByTextLater [("wordbook/hash.constants", Rows.laid_wordbook_hash_constants)] [.data] true :=
  Program.laidByTextLater.sub seatTie1 ["wordbook/hash.constants"] (by kernel_rfl) (by kernel_rfl)
theorem signDigitsMatchSpec_row_tie : Rows.signDigitsMatchSpecRow.laidByTextAt .later Tryd.pinned [.data] true :=
  OpenClaim.laidByTextAt_later rfl rfl tie noOwnUnsafe
theorem signIsAccepted_row_tie : Rows.signIsAcceptedRow.laidByTextAt .later Tryd.pinned [.data] true :=
  OpenClaim.laidByTextAt_later rfl rfl tie noOwnUnsafe
theorem signDigitsCross_row_tie : Rows.signDigitsCrossRow.laidByTextAt .later Tryd.pinned [.data] true :=
  OpenClaim.laidByTextAt_later rfl rfl tie noOwnUnsafe
theorem tie2 : Tryd.prog.laidByTextLater [("wordbook/hash.constants", Rows.laid_wordbook_hash_constants), ("wordbook/wordbookref02.constants", Rows.laid_wordbook_wordbookref02_constants)] [.data, .data] true :=
  Program.laidByTextLater.sub seatTie1 ["wordbook/hash.constants", "wordbook/wordbookref02.constants"] (by kernel_rfl) (by kernel_rfl)
theorem signMakesAsSpecified_row_tie : Rows.signMakesAsSpecifiedRow.laidByTextAt .later Tryd.pinned [.data, .data] true :=
  OpenClaim.laidByTextAt_later rfl rfl tie2 noOwnUnsafe
theorem signVerifiesAsSpecified_row_tie : Rows.signVerifiesAsSpecifiedRow.laidByTextAt .later Tryd.pinned [.data, .data] true :=
  OpenClaim.laidByTextAt_later rfl rfl tie2 noOwnUnsafe
theorem signBindsTheIndex_row_tie : Rows.signBindsTheIndexRow.laidByTextAt .later Tryd.pinned [.data, .data] true :=
  OpenClaim.laidByTextAt_later rfl rfl tie2 noOwnUnsafe
theorem signDigitsMatchSpecUpto_row_tie : Rows.signDigitsMatchSpecUptoRow.laidByTextAt .later Tryd.pinned [.data] true :=
  OpenClaim.laidByTextAt_later rfl rfl tie noOwnUnsafe
theorem signMakesAsSpecifiedUpto_row_tie : Rows.signMakesAsSpecifiedUptoRow.laidByTextAt .later Tryd.pinned [.data, .data] true :=
  OpenClaim.laidByTextAt_later rfl rfl tie2 noOwnUnsafe
theorem signVerifiesAsSpecifiedUpto_row_tie : Rows.signVerifiesAsSpecifiedUptoRow.laidByTextAt .later Tryd.pinned [.data, .data] true :=
  OpenClaim.laidByTextAt_later rfl rfl tie2 noOwnUnsafe
theorem signIsAcceptedUpto_row_tie : Rows.signIsAcceptedUptoRow.laidByTextAt .later Tryd.pinned [.data] true :=
  OpenClaim.laidByTextAt_later rfl rfl tie noOwnUnsafe
theorem signDigitsCrossUpto_row_tie : Rows.signDigitsCrossUptoRow.laidByTextAt .later Tryd.pinned [.data] true :=
  OpenClaim.laidByTextAt_later rfl rfl tie noOwnUnsafe
theorem signBindsTheIndexUpto_row_tie : Rows.signBindsTheIndexUptoRow.laidByTextAt .later Tryd.pinned [.data, .data] true :=
  OpenClaim.laidByTextAt_later rfl rfl tie2 noOwnUnsafe
end Go.Proofs.YtoffobakidenhaaDoor
