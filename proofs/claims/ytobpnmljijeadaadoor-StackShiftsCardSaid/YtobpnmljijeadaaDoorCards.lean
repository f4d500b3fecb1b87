/-
  DERIVED. GIVEN WITH THE SEED: THE CARDS: each row of YtobpnmljijeadaaDoorRows.lean that lists a variable, with what it lists TIED to the program's text (the seventh form; the later family's looks); each row that meets fmt, with fmt's text TOLD by the authors' own Lean function (tested against real Go, not proved from fmt's source: count such statements apart). THE CARD IS WHAT COUNTS. Prove the row's statement (the work); the ties are given (YtobpnmljijeadaaDoorTie.lean); close each card by the builder's one call (the guide's Derived/Test/ToyasCard.lean, 'card_holds'). Laid BY PROGRAM, IN A SANDBOX (cutbox-door.mjs). By AI agents, Wed Nov 11 2026. No macro, syntax, notation, axiom, sorry.
-/
import Derived.Test.YtobpnmljijeadaaDoorRows
import GoSem.ClaimSeven
namespace Go.Proofs.YtobpnmljijeadaaDoor
namespace Rows

/-- THE TIED CARD OF 'paravanelaw09.StackArrives'. -/
def stackArrivesCard : Claim7 := { stood := { row := stackArrivesRow, standIns := [], harness := (true, "cca61c2ba53a0d9f84ddbcd0609e2c308d8f5be75e9aeeaf19be9e5cbdc858f6"), looks := false }, kinds := [], alts := [], laidByText := true, laidKinds := [.data], laidTests := true, laidLooks := .later }
def StackArrivesCardSaid : Prop := Claim7.holds Tryd.pinned (.plain (OpenSpec.ofChange stackArrivesSpec)) stackArrivesCard

/-- THE TIED CARD OF 'paravanelaw09.StackLines'. -/
def stackLinesCard : Claim7 := { stood := { row := stackLinesRow, standIns := [], harness := (true, "cca61c2ba53a0d9f84ddbcd0609e2c308d8f5be75e9aeeaf19be9e5cbdc858f6"), looks := false }, kinds := [], alts := [], laidByText := true, laidKinds := [.data], laidTests := true, laidLooks := .later }
def StackLinesCardSaid : Prop := Claim7.holds Tryd.pinned (.plain (OpenSpec.ofChange stackLinesSpec)) stackLinesCard

/-- THE TIED CARD OF 'paravanelaw09.StackPicks'. -/
def stackPicksCard : Claim7 := { stood := { row := stackPicksRow, standIns := [], harness := (true, "cca61c2ba53a0d9f84ddbcd0609e2c308d8f5be75e9aeeaf19be9e5cbdc858f6"), looks := false }, kinds := [], alts := [], laidByText := true, laidKinds := [.data], laidTests := true, laidLooks := .later }
def StackPicksCardSaid : Prop := Claim7.holds Tryd.pinned (.plain (OpenSpec.ofChange stackPicksSpec)) stackPicksCard

/-- THE TIED CARD OF 'paravanelaw09.StackShifts'. -/
def stackShiftsCard : Claim7 := { stood := { row := stackShiftsRow, standIns := [], harness := (true, "cca61c2ba53a0d9f84ddbcd0609e2c308d8f5be75e9aeeaf19be9e5cbdc858f6"), looks := false }, kinds := [], alts := [], laidByText := true, laidKinds := [.data], laidTests := true, laidLooks := .later }
def StackShiftsCardSaid : Prop := Claim7.holds Tryd.pinned (.plain (OpenSpec.ofChange stackShiftsSpec)) stackShiftsCard

/-- THE TIED CARD OF 'paravanelaw09.StackTogether'. -/
def stackTogetherCard : Claim7 := { stood := { row := stackTogetherRow, standIns := [], harness := (true, "cca61c2ba53a0d9f84ddbcd0609e2c308d8f5be75e9aeeaf19be9e5cbdc858f6"), looks := false }, kinds := [], alts := [], laidByText := true, laidKinds := [.data], laidTests := true, laidLooks := .later }
def StackTogetherCardSaid : Prop := Claim7.holds Tryd.pinned (.plain (OpenSpec.ofChange stackTogetherSpec)) stackTogetherCard

/-- THE TIED CARD OF 'paravanelaw09.StackLike'. -/
def stackLikeCard : Claim7 := { stood := { row := stackLikeRow, standIns := [], harness := (true, "cca61c2ba53a0d9f84ddbcd0609e2c308d8f5be75e9aeeaf19be9e5cbdc858f6"), looks := false }, kinds := [], alts := [], laidByText := true, laidKinds := [.data], laidTests := true, laidLooks := .later }
def StackLikeCardSaid : Prop := Claim7.holds Tryd.pinned (.plain (OpenSpec.ofChange stackLikeSpec)) stackLikeCard

/-- THE TIED CARD OF 'paravanelaw09.StackMoved'. -/
def stackMovedCard : Claim7 := { stood := { row := stackMovedRow, standIns := [], harness := (true, "cca61c2ba53a0d9f84ddbcd0609e2c308d8f5be75e9aeeaf19be9e5cbdc858f6"), looks := false }, kinds := [], alts := [], laidByText := true, laidKinds := [.data], laidTests := true, laidLooks := .later }
def StackMovedCardSaid : Prop := Claim7.holds Tryd.pinned (.plain (OpenSpec.ofChange stackMovedSpec)) stackMovedCard

/-- THE TIED CARD OF 'paravanelaw09.StackEchoes'. -/
def stackEchoesCard : Claim7 := { stood := { row := stackEchoesRow, standIns := [], harness := (true, "cca61c2ba53a0d9f84ddbcd0609e2c308d8f5be75e9aeeaf19be9e5cbdc858f6"), looks := false }, kinds := [], alts := [], laidByText := true, laidKinds := [.data], laidTests := true, laidLooks := .later }
def StackEchoesCardSaid : Prop := Claim7.holds Tryd.pinned (.plain (OpenSpec.ofChange stackEchoesSpec)) stackEchoesCard

/-- THE TIED CARD OF 'paravanelaw09.StackBack'. -/
def stackBackCard : Claim7 := { stood := { row := stackBackRow, standIns := [], harness := (true, "cca61c2ba53a0d9f84ddbcd0609e2c308d8f5be75e9aeeaf19be9e5cbdc858f6"), looks := false }, kinds := [], alts := [], laidByText := true, laidKinds := [.data], laidTests := true, laidLooks := .later }
def StackBackCardSaid : Prop := Claim7.holds Tryd.pinned (.plain (OpenSpec.ofChange stackBackSpec)) stackBackCard

/-- THE TIED CARD OF 'paravanelaw09.StackHonest'. -/
def stackHonestCard : Claim7 := { stood := { row := stackHonestRow, standIns := [], harness := (true, "cca61c2ba53a0d9f84ddbcd0609e2c308d8f5be75e9aeeaf19be9e5cbdc858f6"), looks := false }, kinds := [], alts := [], laidByText := true, laidKinds := [.data], laidTests := true, laidLooks := .later }
def StackHonestCardSaid : Prop := Claim7.holds Tryd.pinned (.plain (OpenSpec.ofChange stackHonestSpec)) stackHonestCard

/-- THE TIED CARD OF 'paravanelaw09.StackNames'. -/
def stackNamesCard : Claim7 := { stood := { row := stackNamesRow, standIns := [], harness := (true, "cca61c2ba53a0d9f84ddbcd0609e2c308d8f5be75e9aeeaf19be9e5cbdc858f6"), looks := false }, kinds := [], alts := [], laidByText := true, laidKinds := [.data], laidTests := true, laidLooks := .later }
def StackNamesCardSaid : Prop := Claim7.holds Tryd.pinned (.plain (OpenSpec.ofChange stackNamesSpec)) stackNamesCard

/-- THE TIED CARD OF 'paravanelaw09.StackLies'. -/
def stackLiesCard : Claim7 := { stood := { row := stackLiesRow, standIns := [], harness := (true, "cca61c2ba53a0d9f84ddbcd0609e2c308d8f5be75e9aeeaf19be9e5cbdc858f6"), looks := false }, kinds := [], alts := [], laidByText := true, laidKinds := [.data], laidTests := true, laidLooks := .later }
def StackLiesCardSaid : Prop := Claim7.holds Tryd.pinned (.plain (OpenSpec.ofChange stackLiesSpec)) stackLiesCard

/-- THE SECOND FORM's CARD OF 'paravanelaw09.StackArrives'. -/
def stackArrivesUptoCard : Claim7 := { stood := { row := stackArrivesUptoRow, standIns := [], harness := (true, "cca61c2ba53a0d9f84ddbcd0609e2c308d8f5be75e9aeeaf19be9e5cbdc858f6"), looks := false }, kinds := [], alts := [], laidByText := true, laidKinds := [.data], laidTests := true, laidLooks := .later }
def StackArrivesUptoCardSaid : Prop := Claim7.holds Tryd.pinned (.plain (OpenSpec.upto stackArrivesSpec)) stackArrivesUptoCard

/-- THE SECOND FORM's CARD OF 'paravanelaw09.StackLines'. -/
def stackLinesUptoCard : Claim7 := { stood := { row := stackLinesUptoRow, standIns := [], harness := (true, "cca61c2ba53a0d9f84ddbcd0609e2c308d8f5be75e9aeeaf19be9e5cbdc858f6"), looks := false }, kinds := [], alts := [], laidByText := true, laidKinds := [.data], laidTests := true, laidLooks := .later }
def StackLinesUptoCardSaid : Prop := Claim7.holds Tryd.pinned (.plain (OpenSpec.upto stackLinesSpec)) stackLinesUptoCard

/-- THE SECOND FORM's CARD OF 'paravanelaw09.StackPicks'. -/
def stackPicksUptoCard : Claim7 := { stood := { row := stackPicksUptoRow, standIns := [], harness := (true, "cca61c2ba53a0d9f84ddbcd0609e2c308d8f5be75e9aeeaf19be9e5cbdc858f6"), looks := false }, kinds := [], alts := [], laidByText := true, laidKinds := [.data], laidTests := true, laidLooks := .later }
def StackPicksUptoCardSaid : Prop := Claim7.holds Tryd.pinned (.plain (OpenSpec.upto stackPicksSpec)) stackPicksUptoCard

/-- THE SECOND FORM's CARD OF 'paravanelaw09.StackShifts'. -/
def stackShiftsUptoCard : Claim7 := { stood := { row := stackShiftsUptoRow, standIns := [], harness := (true, "cca61c2ba53a0d9f84ddbcd0609e2c308d8f5be75e9aeeaf19be9e5cbdc858f6"), looks := false }, kinds := [], alts := [], laidByText := true, laidKinds := [.data], laidTests := true, laidLooks := .later }
def StackShiftsUptoCardSaid : Prop := Claim7.holds Tryd.pinned (.plain (OpenSpec.upto stackShiftsSpec)) stackShiftsUptoCard

/-- THE SECOND FORM's CARD OF 'paravanelaw09.StackTogether'. -/
def stackTogetherUptoCard : Claim7 := { stood := { row := stackTogetherUptoRow, standIns := [], harness := (true, "cca61c2ba53a0d9f84ddbcd0609e2c308d8f5be75e9aeeaf19be9e5cbdc858f6"), looks := false }, kinds := [], alts := [], laidByText := true, laidKinds := [.data], laidTests := true, laidLooks := .later }
def StackTogetherUptoCardSaid : Prop := Claim7.holds Tryd.pinned (.plain (OpenSpec.upto stackTogetherSpec)) stackTogetherUptoCard

/-- THE SECOND FORM's CARD OF 'paravanelaw09.StackLike'. -/
def stackLikeUptoCard : Claim7 := { stood := { row := stackLikeUptoRow, standIns := [], harness := (true, "cca61c2ba53a0d9f84ddbcd0609e2c308d8f5be75e9aeeaf19be9e5cbdc858f6"), looks := false }, kinds := [], alts := [], laidByText := true, laidKinds := [.data], laidTests := true, laidLooks := .later }
def StackLikeUptoCardSaid : Prop := Claim7.holds Tryd.pinned (.plain (OpenSpec.upto stackLikeSpec)) stackLikeUptoCard

/-- THE SECOND FORM's CARD OF 'paravanelaw09.StackMoved'. -/
def stackMovedUptoCard : Claim7 := { stood := { row := stackMovedUptoRow, standIns := [], harness := (true, "cca61c2ba53a0d9f84ddbcd0609e2c308d8f5be75e9aeeaf19be9e5cbdc858f6"), looks := false }, kinds := [], alts := [], laidByText := true, laidKinds := [.data], laidTests := true, laidLooks := .later }
def StackMovedUptoCardSaid : Prop := Claim7.holds Tryd.pinned (.plain (OpenSpec.upto stackMovedSpec)) stackMovedUptoCard

/-- THE SECOND FORM's CARD OF 'paravanelaw09.StackEchoes'. -/
def stackEchoesUptoCard : Claim7 := { stood := { row := stackEchoesUptoRow, standIns := [], harness := (true, "cca61c2ba53a0d9f84ddbcd0609e2c308d8f5be75e9aeeaf19be9e5cbdc858f6"), looks := false }, kinds := [], alts := [], laidByText := true, laidKinds := [.data], laidTests := true, laidLooks := .later }
def StackEchoesUptoCardSaid : Prop := Claim7.holds Tryd.pinned (.plain (OpenSpec.upto stackEchoesSpec)) stackEchoesUptoCard

/-- THE SECOND FORM's CARD OF 'paravanelaw09.StackBack'. -/
def stackBackUptoCard : Claim7 := { stood := { row := stackBackUptoRow, standIns := [], harness := (true, "cca61c2ba53a0d9f84ddbcd0609e2c308d8f5be75e9aeeaf19be9e5cbdc858f6"), looks := false }, kinds := [], alts := [], laidByText := true, laidKinds := [.data], laidTests := true, laidLooks := .later }
def StackBackUptoCardSaid : Prop := Claim7.holds Tryd.pinned (.plain (OpenSpec.upto stackBackSpec)) stackBackUptoCard

/-- THE SECOND FORM's CARD OF 'paravanelaw09.StackHonest'. -/
def stackHonestUptoCard : Claim7 := { stood := { row := stackHonestUptoRow, standIns := [], harness := (true, "cca61c2ba53a0d9f84ddbcd0609e2c308d8f5be75e9aeeaf19be9e5cbdc858f6"), looks := false }, kinds := [], alts := [], laidByText := true, laidKinds := [.data], laidTests := true, laidLooks := .later }
def StackHonestUptoCardSaid : Prop := Claim7.holds Tryd.pinned (.plain (OpenSpec.upto stackHonestSpec)) stackHonestUptoCard

/-- THE SECOND FORM's CARD OF 'paravanelaw09.StackNames'. -/
def stackNamesUptoCard : Claim7 := { stood := { row := stackNamesUptoRow, standIns := [], harness := (true, "cca61c2ba53a0d9f84ddbcd0609e2c308d8f5be75e9aeeaf19be9e5cbdc858f6"), looks := false }, kinds := [], alts := [], laidByText := true, laidKinds := [.data], laidTests := true, laidLooks := .later }
def StackNamesUptoCardSaid : Prop := Claim7.holds Tryd.pinned (.plain (OpenSpec.upto stackNamesSpec)) stackNamesUptoCard

/-- THE SECOND FORM's CARD OF 'paravanelaw09.StackLies'. -/
def stackLiesUptoCard : Claim7 := { stood := { row := stackLiesUptoRow, standIns := [], harness := (true, "cca61c2ba53a0d9f84ddbcd0609e2c308d8f5be75e9aeeaf19be9e5cbdc858f6"), looks := false }, kinds := [], alts := [], laidByText := true, laidKinds := [.data], laidTests := true, laidLooks := .later }
def StackLiesUptoCardSaid : Prop := Claim7.holds Tryd.pinned (.plain (OpenSpec.upto stackLiesSpec)) stackLiesUptoCard
end Rows
end Go.Proofs.YtobpnmljijeadaaDoor
