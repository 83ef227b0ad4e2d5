/-
  DERIVED. GIVEN WITH THE SEED: THE CARDS: each row of YtcafgpfecfocnaaDoorRows.lean that lists a variable, with what it lists TIED to the program's text (the seventh form; the later family's looks); each row that meets fmt, with fmt's text TOLD by the authors' own Lean function (tested against real Go, not proved from fmt's source: count such statements apart). THE CARD IS WHAT COUNTS. Prove the row's statement (the work); the ties are given (YtcafgpfecfocnaaDoorTie.lean); close each card by the builder's one call (the guide's Derived/Test/ToyasCard.lean, 'card_holds'). Laid BY PROGRAM, IN A SANDBOX (cutbox-door.mjs). By AI agents, Wed Nov 11 2026. No macro, syntax, notation, axiom, sorry.
-/
import Derived.Test.YtcafgpfecfocnaaDoorRows
import GoSem.ClaimSeven
namespace Go.Proofs.YtcafgpfecfocnaaDoor
namespace Rows

/-- THE TIED CARD OF 'cleanselaw18.ReapMatchesReference'. -/
def reapMatchesReferenceCard : Claim7 := { stood := { row := reapMatchesReferenceRow, standIns := [], harness := (true, "e16b5636421bb83462a2604fd7a0f0518041671f83f6c656485730886cbc5527"), looks := false }, kinds := [], alts := [], laidByText := true, laidKinds := [.data, .data, .data], laidTests := true, laidLooks := .later }
def ReapMatchesReferenceCardSaid : Prop := Claim7.holds Tryd.pinned (.plain (OpenSpec.ofChange reapMatchesReferenceSpec)) reapMatchesReferenceCard

/-- THE TIED CARD OF 'cleanselaw18.ReapFew'. -/
def reapFewCard : Claim7 := { stood := { row := reapFewRow, standIns := [], harness := (true, "e16b5636421bb83462a2604fd7a0f0518041671f83f6c656485730886cbc5527"), looks := false }, kinds := [], alts := [], laidByText := true, laidKinds := [.data, .data, .data], laidTests := true, laidLooks := .later }
def ReapFewCardSaid : Prop := Claim7.holds Tryd.pinned (.plain (OpenSpec.ofChange reapFewSpec)) reapFewCard

/-- THE TIED CARD OF 'cleanselaw18.ReapSteps'. -/
def reapStepsCard : Claim7 := { stood := { row := reapStepsRow, standIns := [], harness := (true, "e16b5636421bb83462a2604fd7a0f0518041671f83f6c656485730886cbc5527"), looks := false }, kinds := [], alts := [], laidByText := true, laidKinds := [.data, .data, .data], laidTests := true, laidLooks := .later }
def ReapStepsCardSaid : Prop := Claim7.holds Tryd.pinned (.plain (OpenSpec.ofChange reapStepsSpec)) reapStepsCard

/-- THE TIED CARD OF 'cleanselaw18.ReapRoots'. -/
def reapRootsCard : Claim7 := { stood := { row := reapRootsRow, standIns := [], harness := (true, "e16b5636421bb83462a2604fd7a0f0518041671f83f6c656485730886cbc5527"), looks := false }, kinds := [], alts := [], laidByText := true, laidKinds := [.data, .data, .data], laidTests := true, laidLooks := .later }
def ReapRootsCardSaid : Prop := Claim7.holds Tryd.pinned (.plain (OpenSpec.ofChange reapRootsSpec)) reapRootsCard

/-- THE TIED CARD OF 'cleanselaw15.PolyMatchesReference'. -/
def polyMatchesReferenceCard : Claim7 := { stood := { row := polyMatchesReferenceRow, standIns := [], harness := (true, "e16b5636421bb83462a2604fd7a0f0518041671f83f6c656485730886cbc5527"), looks := false }, kinds := [], alts := [], laidByText := true, laidKinds := [.data, .data, .data], laidTests := true, laidLooks := .later }
def PolyMatchesReferenceCardSaid : Prop := Claim7.holds Tryd.pinned (.plain (OpenSpec.ofChange polyMatchesReferenceSpec)) polyMatchesReferenceCard

/-- THE TIED CARD OF 'cleanselaw15.PolyForm'. -/
def polyFormCard : Claim7 := { stood := { row := polyFormRow, standIns := [], harness := (true, "e16b5636421bb83462a2604fd7a0f0518041671f83f6c656485730886cbc5527"), looks := false }, kinds := [], alts := [], laidByText := true, laidKinds := [.data, .data, .data], laidTests := true, laidLooks := .later }
def PolyFormCardSaid : Prop := Claim7.holds Tryd.pinned (.plain (OpenSpec.ofChange polyFormSpec)) polyFormCard

/-- THE TIED CARD OF 'cleanselaw15.PolyLaws'. -/
def polyLawsCard : Claim7 := { stood := { row := polyLawsRow, standIns := [], harness := (true, "e16b5636421bb83462a2604fd7a0f0518041671f83f6c656485730886cbc5527"), looks := false }, kinds := [], alts := [], laidByText := true, laidKinds := [.data, .data, .data], laidTests := true, laidLooks := .later }
def PolyLawsCardSaid : Prop := Claim7.holds Tryd.pinned (.plain (OpenSpec.ofChange polyLawsSpec)) polyLawsCard

/-- THE TIED CARD OF 'cleanselaw15.PolyValues'. -/
def polyValuesCard : Claim7 := { stood := { row := polyValuesRow, standIns := [], harness := (true, "e16b5636421bb83462a2604fd7a0f0518041671f83f6c656485730886cbc5527"), looks := false }, kinds := [], alts := [], laidByText := true, laidKinds := [.data, .data, .data], laidTests := true, laidLooks := .later }
def PolyValuesCardSaid : Prop := Claim7.holds Tryd.pinned (.plain (OpenSpec.ofChange polyValuesSpec)) polyValuesCard

/-- THE TIED CARD OF 'cleanselaw15.PolyUnits'. -/
def polyUnitsCard : Claim7 := { stood := { row := polyUnitsRow, standIns := [], harness := (true, "e16b5636421bb83462a2604fd7a0f0518041671f83f6c656485730886cbc5527"), looks := false }, kinds := [], alts := [], laidByText := true, laidKinds := [.data, .data, .data], laidTests := true, laidLooks := .later }
def PolyUnitsCardSaid : Prop := Claim7.holds Tryd.pinned (.plain (OpenSpec.ofChange polyUnitsSpec)) polyUnitsCard

/-- THE TIED CARD OF 'cleanselaw15.PolyDeletes'. -/
def polyDeletesCard : Claim7 := { stood := { row := polyDeletesRow, standIns := [], harness := (true, "e16b5636421bb83462a2604fd7a0f0518041671f83f6c656485730886cbc5527"), looks := false }, kinds := [], alts := [], laidByText := true, laidKinds := [.data, .data, .data], laidTests := true, laidLooks := .later }
def PolyDeletesCardSaid : Prop := Claim7.holds Tryd.pinned (.plain (OpenSpec.ofChange polyDeletesSpec)) polyDeletesCard

/-- THE TIED CARD OF 'cleanselaw15.PolyTexts'. -/
def polyTextsCard : Claim7 := { stood := { row := polyTextsRow, standIns := [], harness := (true, "e16b5636421bb83462a2604fd7a0f0518041671f83f6c656485730886cbc5527"), looks := false }, kinds := [], alts := [], laidByText := true, laidKinds := [.data, .data, .data], laidTests := true, laidLooks := .later }
def PolyTextsCardSaid : Prop := Claim7.holds Tryd.pinned (.plain (OpenSpec.ofChange polyTextsSpec)) polyTextsCard

/-- THE SECOND FORM's CARD OF 'cleanselaw18.ReapMatchesReference'. -/
def reapMatchesReferenceUptoCard : Claim7 := { stood := { row := reapMatchesReferenceUptoRow, standIns := [], harness := (true, "e16b5636421bb83462a2604fd7a0f0518041671f83f6c656485730886cbc5527"), looks := false }, kinds := [], alts := [], laidByText := true, laidKinds := [.data, .data, .data], laidTests := true, laidLooks := .later }
def ReapMatchesReferenceUptoCardSaid : Prop := Claim7.holds Tryd.pinned (.plain (OpenSpec.upto reapMatchesReferenceSpec)) reapMatchesReferenceUptoCard

/-- THE SECOND FORM's CARD OF 'cleanselaw18.ReapFew'. -/
def reapFewUptoCard : Claim7 := { stood := { row := reapFewUptoRow, standIns := [], harness := (true, "e16b5636421bb83462a2604fd7a0f0518041671f83f6c656485730886cbc5527"), looks := false }, kinds := [], alts := [], laidByText := true, laidKinds := [.data, .data, .data], laidTests := true, laidLooks := .later }
def ReapFewUptoCardSaid : Prop := Claim7.holds Tryd.pinned (.plain (OpenSpec.upto reapFewSpec)) reapFewUptoCard

/-- THE SECOND FORM's CARD OF 'cleanselaw18.ReapSteps'. -/
def reapStepsUptoCard : Claim7 := { stood := { row := reapStepsUptoRow, standIns := [], harness := (true, "e16b5636421bb83462a2604fd7a0f0518041671f83f6c656485730886cbc5527"), looks := false }, kinds := [], alts := [], laidByText := true, laidKinds := [.data, .data, .data], laidTests := true, laidLooks := .later }
def ReapStepsUptoCardSaid : Prop := Claim7.holds Tryd.pinned (.plain (OpenSpec.upto reapStepsSpec)) reapStepsUptoCard

/-- THE SECOND FORM's CARD OF 'cleanselaw18.ReapRoots'. -/
def reapRootsUptoCard : Claim7 := { stood := { row := reapRootsUptoRow, standIns := [], harness := (true, "e16b5636421bb83462a2604fd7a0f0518041671f83f6c656485730886cbc5527"), looks := false }, kinds := [], alts := [], laidByText := true, laidKinds := [.data, .data, .data], laidTests := true, laidLooks := .later }
def ReapRootsUptoCardSaid : Prop := Claim7.holds Tryd.pinned (.plain (OpenSpec.upto reapRootsSpec)) reapRootsUptoCard

/-- THE SECOND FORM's CARD OF 'cleanselaw15.PolyMatchesReference'. -/
def polyMatchesReferenceUptoCard : Claim7 := { stood := { row := polyMatchesReferenceUptoRow, standIns := [], harness := (true, "e16b5636421bb83462a2604fd7a0f0518041671f83f6c656485730886cbc5527"), looks := false }, kinds := [], alts := [], laidByText := true, laidKinds := [.data, .data, .data], laidTests := true, laidLooks := .later }
def PolyMatchesReferenceUptoCardSaid : Prop := Claim7.holds Tryd.pinned (.plain (OpenSpec.upto polyMatchesReferenceSpec)) polyMatchesReferenceUptoCard

/-- THE SECOND FORM's CARD OF 'cleanselaw15.PolyForm'. -/
def polyFormUptoCard : Claim7 := { stood := { row := polyFormUptoRow, standIns := [], harness := (true, "e16b5636421bb83462a2604fd7a0f0518041671f83f6c656485730886cbc5527"), looks := false }, kinds := [], alts := [], laidByText := true, laidKinds := [.data, .data, .data], laidTests := true, laidLooks := .later }
def PolyFormUptoCardSaid : Prop := Claim7.holds Tryd.pinned (.plain (OpenSpec.upto polyFormSpec)) polyFormUptoCard

/-- THE SECOND FORM's CARD OF 'cleanselaw15.PolyLaws'. -/
def polyLawsUptoCard : Claim7 := { stood := { row := polyLawsUptoRow, standIns := [], harness := (true, "e16b5636421bb83462a2604fd7a0f0518041671f83f6c656485730886cbc5527"), looks := false }, kinds := [], alts := [], laidByText := true, laidKinds := [.data, .data, .data], laidTests := true, laidLooks := .later }
def PolyLawsUptoCardSaid : Prop := Claim7.holds Tryd.pinned (.plain (OpenSpec.upto polyLawsSpec)) polyLawsUptoCard

/-- THE SECOND FORM's CARD OF 'cleanselaw15.PolyValues'. -/
def polyValuesUptoCard : Claim7 := { stood := { row := polyValuesUptoRow, standIns := [], harness := (true, "e16b5636421bb83462a2604fd7a0f0518041671f83f6c656485730886cbc5527"), looks := false }, kinds := [], alts := [], laidByText := true, laidKinds := [.data, .data, .data], laidTests := true, laidLooks := .later }
def PolyValuesUptoCardSaid : Prop := Claim7.holds Tryd.pinned (.plain (OpenSpec.upto polyValuesSpec)) polyValuesUptoCard

/-- THE SECOND FORM's CARD OF 'cleanselaw15.PolyUnits'. -/
def polyUnitsUptoCard : Claim7 := { stood := { row := polyUnitsUptoRow, standIns := [], harness := (true, "e16b5636421bb83462a2604fd7a0f0518041671f83f6c656485730886cbc5527"), looks := false }, kinds := [], alts := [], laidByText := true, laidKinds := [.data, .data, .data], laidTests := true, laidLooks := .later }
def PolyUnitsUptoCardSaid : Prop := Claim7.holds Tryd.pinned (.plain (OpenSpec.upto polyUnitsSpec)) polyUnitsUptoCard

/-- THE SECOND FORM's CARD OF 'cleanselaw15.PolyDeletes'. -/
def polyDeletesUptoCard : Claim7 := { stood := { row := polyDeletesUptoRow, standIns := [], harness := (true, "e16b5636421bb83462a2604fd7a0f0518041671f83f6c656485730886cbc5527"), looks := false }, kinds := [], alts := [], laidByText := true, laidKinds := [.data, .data, .data], laidTests := true, laidLooks := .later }
def PolyDeletesUptoCardSaid : Prop := Claim7.holds Tryd.pinned (.plain (OpenSpec.upto polyDeletesSpec)) polyDeletesUptoCard

/-- THE SECOND FORM's CARD OF 'cleanselaw15.PolyTexts'. -/
def polyTextsUptoCard : Claim7 := { stood := { row := polyTextsUptoRow, standIns := [], harness := (true, "e16b5636421bb83462a2604fd7a0f0518041671f83f6c656485730886cbc5527"), looks := false }, kinds := [], alts := [], laidByText := true, laidKinds := [.data, .data, .data], laidTests := true, laidLooks := .later }
def PolyTextsUptoCardSaid : Prop := Claim7.holds Tryd.pinned (.plain (OpenSpec.upto polyTextsSpec)) polyTextsUptoCard
end Rows
end Go.Proofs.YtcafgpfecfocnaaDoor
