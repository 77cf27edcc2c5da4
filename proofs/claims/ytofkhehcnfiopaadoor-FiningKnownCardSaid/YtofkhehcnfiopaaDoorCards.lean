/-
  DERIVED. GIVEN WITH THE SEED: THE CARDS: each row of YtofkhehcnfiopaaDoorRows.lean that lists a variable, with what it lists TIED to the program's text (the seventh form; the later family's looks); each row that meets fmt, with fmt's text TOLD by the authors' own Lean function (tested against real Go, not proved from fmt's source: count such statements apart). THE CARD IS WHAT COUNTS. Prove the row's statement (the work); the ties are given (YtofkhehcnfiopaaDoorTie.lean); close each card by the builder's one call (the guide's Derived/Test/ToyasCard.lean, 'card_holds'). Laid BY PROGRAM, IN A SANDBOX (cutbox-door.mjs). By AI agents, Wed Nov 11 2026. No macro, syntax, notation, axiom, sorry.
-/
import Derived.Test.YtofkhehcnfiopaaDoorRows
import GoSem.ClaimSeven
namespace Go.Proofs.YtofkhehcnfiopaaDoor
namespace Rows

/-- THE TIED CARD OF 'muscovadolaw09.FiningBoths'. -/
def finingBothsCard : Claim7 := { stood := { row := finingBothsRow, standIns := [], harness := (true, "437321f70021d751b7f694fe6f46c0bce8118bd37f4e411ca5cd723b0e0592db"), looks := true }, kinds := [], alts := [], goes := true, laidByText := true, laidKinds := [.handle], laidTests := true, laidLooks := .later }
def FiningBothsCardSaid : Prop := Claim7.holds Tryd.pinned (.plain (OpenSpec.ofChange finingBothsSpec)) finingBothsCard

/-- THE TIED CARD OF 'muscovadolaw09.FiningCheapest'. -/
def finingCheapestCard : Claim7 := { stood := { row := finingCheapestRow, standIns := [], harness := (true, "437321f70021d751b7f694fe6f46c0bce8118bd37f4e411ca5cd723b0e0592db"), looks := true }, kinds := [], alts := [], goes := true, laidByText := true, laidKinds := [.handle], laidTests := true, laidLooks := .later }
def FiningCheapestCardSaid : Prop := Claim7.holds Tryd.pinned (.plain (OpenSpec.ofChange finingCheapestSpec)) finingCheapestCard

/-- THE TIED CARD OF 'muscovadolaw09.FiningBoth'. -/
def finingBothCard : Claim7 := { stood := { row := finingBothRow, standIns := [], harness := (true, "437321f70021d751b7f694fe6f46c0bce8118bd37f4e411ca5cd723b0e0592db"), looks := true }, kinds := [], alts := [], goes := true, laidByText := true, laidKinds := [.handle], laidTests := true, laidLooks := .later }
def FiningBothCardSaid : Prop := Claim7.holds Tryd.pinned (.plain (OpenSpec.ofChange finingBothSpec)) finingBothCard

/-- THE TIED CARD OF 'muscovadolaw09.FiningTells'. -/
def finingTellsCard : Claim7 := { stood := { row := finingTellsRow, standIns := [], harness := (true, "437321f70021d751b7f694fe6f46c0bce8118bd37f4e411ca5cd723b0e0592db"), looks := true }, kinds := [], alts := [], goes := true, laidByText := true, laidKinds := [.handle], laidTests := true, laidLooks := .later }
def FiningTellsCardSaid : Prop := Claim7.holds Tryd.pinned (.plain (OpenSpec.ofChange finingTellsSpec)) finingTellsCard

/-- THE TIED CARD OF 'muscovadolaw09.FiningPut'. -/
def finingPutCard : Claim7 := { stood := { row := finingPutRow, standIns := [], harness := (true, "437321f70021d751b7f694fe6f46c0bce8118bd37f4e411ca5cd723b0e0592db"), looks := true }, kinds := [], alts := [], goes := true, laidByText := true, laidKinds := [.handle], laidTests := true, laidLooks := .later }
def FiningPutCardSaid : Prop := Claim7.holds Tryd.pinned (.plain (OpenSpec.ofChange finingPutSpec)) finingPutCard

/-- THE TIED CARD OF 'muscovadolaw09.FiningPuts'. -/
def finingPutsCard : Claim7 := { stood := { row := finingPutsRow, standIns := [], harness := (true, "437321f70021d751b7f694fe6f46c0bce8118bd37f4e411ca5cd723b0e0592db"), looks := true }, kinds := [], alts := [], goes := true, laidByText := true, laidKinds := [.handle], laidTests := true, laidLooks := .later }
def FiningPutsCardSaid : Prop := Claim7.holds Tryd.pinned (.plain (OpenSpec.ofChange finingPutsSpec)) finingPutsCard

/-- THE TIED CARD OF 'muscovadolaw09.FiningMore'. -/
def finingMoreCard : Claim7 := { stood := { row := finingMoreRow, standIns := [], harness := (true, "437321f70021d751b7f694fe6f46c0bce8118bd37f4e411ca5cd723b0e0592db"), looks := true }, kinds := [], alts := [], goes := true, laidByText := true, laidKinds := [.handle], laidTests := true, laidLooks := .later }
def FiningMoreCardSaid : Prop := Claim7.holds Tryd.pinned (.plain (OpenSpec.ofChange finingMoreSpec)) finingMoreCard

/-- THE TIED CARD OF 'muscovadolaw09.FiningNumbered'. -/
def finingNumberedCard : Claim7 := { stood := { row := finingNumberedRow, standIns := [], harness := (true, "437321f70021d751b7f694fe6f46c0bce8118bd37f4e411ca5cd723b0e0592db"), looks := true }, kinds := [], alts := [], goes := true, laidByText := true, laidKinds := [.handle], laidTests := true, laidLooks := .later }
def FiningNumberedCardSaid : Prop := Claim7.holds Tryd.pinned (.plain (OpenSpec.ofChange finingNumberedSpec)) finingNumberedCard

/-- THE TIED CARD OF 'muscovadolaw09.FiningNeeds'. -/
def finingNeedsCard : Claim7 := { stood := { row := finingNeedsRow, standIns := [], harness := (true, "437321f70021d751b7f694fe6f46c0bce8118bd37f4e411ca5cd723b0e0592db"), looks := true }, kinds := [], alts := [], goes := true, laidByText := true, laidKinds := [.handle], laidTests := true, laidLooks := .later }
def FiningNeedsCardSaid : Prop := Claim7.holds Tryd.pinned (.plain (OpenSpec.ofChange finingNeedsSpec)) finingNeedsCard

/-- THE TIED CARD OF 'muscovadolaw09.FiningNeeded'. -/
def finingNeededCard : Claim7 := { stood := { row := finingNeededRow, standIns := [], harness := (true, "437321f70021d751b7f694fe6f46c0bce8118bd37f4e411ca5cd723b0e0592db"), looks := true }, kinds := [], alts := [], goes := true, laidByText := true, laidKinds := [.handle], laidTests := true, laidLooks := .later }
def FiningNeededCardSaid : Prop := Claim7.holds Tryd.pinned (.plain (OpenSpec.ofChange finingNeededSpec)) finingNeededCard

/-- THE TIED CARD OF 'muscovadolaw09.FiningWays'. -/
def finingWaysCard : Claim7 := { stood := { row := finingWaysRow, standIns := [], harness := (true, "437321f70021d751b7f694fe6f46c0bce8118bd37f4e411ca5cd723b0e0592db"), looks := true }, kinds := [], alts := [], goes := true, laidByText := true, laidKinds := [.handle], laidTests := true, laidLooks := .later }
def FiningWaysCardSaid : Prop := Claim7.holds Tryd.pinned (.plain (OpenSpec.ofChange finingWaysSpec)) finingWaysCard

/-- THE TIED CARD OF 'muscovadolaw09.FiningReach'. -/
def finingReachCard : Claim7 := { stood := { row := finingReachRow, standIns := [], harness := (true, "437321f70021d751b7f694fe6f46c0bce8118bd37f4e411ca5cd723b0e0592db"), looks := true }, kinds := [], alts := [], goes := true, laidByText := true, laidKinds := [.handle], laidTests := true, laidLooks := .later }
def FiningReachCardSaid : Prop := Claim7.holds Tryd.pinned (.plain (OpenSpec.ofChange finingReachSpec)) finingReachCard

/-- THE TIED CARD OF 'muscovadolaw09.FiningShortest'. -/
def finingShortestCard : Claim7 := { stood := { row := finingShortestRow, standIns := [], harness := (true, "437321f70021d751b7f694fe6f46c0bce8118bd37f4e411ca5cd723b0e0592db"), looks := true }, kinds := [], alts := [], goes := true, laidByText := true, laidKinds := [.handle], laidTests := true, laidLooks := .later }
def FiningShortestCardSaid : Prop := Claim7.holds Tryd.pinned (.plain (OpenSpec.ofChange finingShortestSpec)) finingShortestCard

/-- THE TIED CARD OF 'muscovadolaw09.FiningHopeless'. -/
def finingHopelessCard : Claim7 := { stood := { row := finingHopelessRow, standIns := [], harness := (true, "437321f70021d751b7f694fe6f46c0bce8118bd37f4e411ca5cd723b0e0592db"), looks := true }, kinds := [], alts := [], goes := true, laidByText := true, laidKinds := [.handle], laidTests := true, laidLooks := .later }
def FiningHopelessCardSaid : Prop := Claim7.holds Tryd.pinned (.plain (OpenSpec.ofChange finingHopelessSpec)) finingHopelessCard

/-- THE TIED CARD OF 'muscovadolaw09.FiningFaults'. -/
def finingFaultsCard : Claim7 := { stood := { row := finingFaultsRow, standIns := [], harness := (true, "437321f70021d751b7f694fe6f46c0bce8118bd37f4e411ca5cd723b0e0592db"), looks := true }, kinds := [], alts := [], goes := true, laidByText := true, laidKinds := [.handle], laidTests := true, laidLooks := .later }
def FiningFaultsCardSaid : Prop := Claim7.holds Tryd.pinned (.plain (OpenSpec.ofChange finingFaultsSpec)) finingFaultsCard

/-- THE TIED CARD OF 'muscovadolaw09.FiningHopes'. -/
def finingHopesCard : Claim7 := { stood := { row := finingHopesRow, standIns := [], harness := (true, "437321f70021d751b7f694fe6f46c0bce8118bd37f4e411ca5cd723b0e0592db"), looks := true }, kinds := [], alts := [], goes := true, laidByText := true, laidKinds := [.handle], laidTests := true, laidLooks := .later }
def FiningHopesCardSaid : Prop := Claim7.holds Tryd.pinned (.plain (OpenSpec.ofChange finingHopesSpec)) finingHopesCard

/-- THE TIED CARD OF 'muscovadolaw09.FiningFewest'. -/
def finingFewestCard : Claim7 := { stood := { row := finingFewestRow, standIns := [], harness := (true, "437321f70021d751b7f694fe6f46c0bce8118bd37f4e411ca5cd723b0e0592db"), looks := true }, kinds := [], alts := [], goes := true, laidByText := true, laidKinds := [.handle], laidTests := true, laidLooks := .later }
def FiningFewestCardSaid : Prop := Claim7.holds Tryd.pinned (.plain (OpenSpec.ofChange finingFewestSpec)) finingFewestCard

/-- THE TIED CARD OF 'muscovadolaw09.FiningKnown'. -/
def finingKnownCard : Claim7 := { stood := { row := finingKnownRow, standIns := [], harness := (true, "437321f70021d751b7f694fe6f46c0bce8118bd37f4e411ca5cd723b0e0592db"), looks := true }, kinds := [], alts := [], goes := true, laidByText := true, laidKinds := [.handle], laidTests := true, laidLooks := .later }
def FiningKnownCardSaid : Prop := Claim7.holds Tryd.pinned (.plain (OpenSpec.ofChange finingKnownSpec)) finingKnownCard

/-- THE SECOND FORM's CARD OF 'muscovadolaw09.FiningBoths'. -/
def finingBothsUptoCard : Claim7 := { stood := { row := finingBothsUptoRow, standIns := [], harness := (true, "437321f70021d751b7f694fe6f46c0bce8118bd37f4e411ca5cd723b0e0592db"), looks := true }, kinds := [], alts := [], goes := true, laidByText := true, laidKinds := [.handle], laidTests := true, laidLooks := .later }
def FiningBothsUptoCardSaid : Prop := Claim7.holds Tryd.pinned (.plain (OpenSpec.upto finingBothsSpec)) finingBothsUptoCard

/-- THE SECOND FORM's CARD OF 'muscovadolaw09.FiningCheapest'. -/
def finingCheapestUptoCard : Claim7 := { stood := { row := finingCheapestUptoRow, standIns := [], harness := (true, "437321f70021d751b7f694fe6f46c0bce8118bd37f4e411ca5cd723b0e0592db"), looks := true }, kinds := [], alts := [], goes := true, laidByText := true, laidKinds := [.handle], laidTests := true, laidLooks := .later }
def FiningCheapestUptoCardSaid : Prop := Claim7.holds Tryd.pinned (.plain (OpenSpec.upto finingCheapestSpec)) finingCheapestUptoCard

/-- THE SECOND FORM's CARD OF 'muscovadolaw09.FiningBoth'. -/
def finingBothUptoCard : Claim7 := { stood := { row := finingBothUptoRow, standIns := [], harness := (true, "437321f70021d751b7f694fe6f46c0bce8118bd37f4e411ca5cd723b0e0592db"), looks := true }, kinds := [], alts := [], goes := true, laidByText := true, laidKinds := [.handle], laidTests := true, laidLooks := .later }
def FiningBothUptoCardSaid : Prop := Claim7.holds Tryd.pinned (.plain (OpenSpec.upto finingBothSpec)) finingBothUptoCard

/-- THE SECOND FORM's CARD OF 'muscovadolaw09.FiningTells'. -/
def finingTellsUptoCard : Claim7 := { stood := { row := finingTellsUptoRow, standIns := [], harness := (true, "437321f70021d751b7f694fe6f46c0bce8118bd37f4e411ca5cd723b0e0592db"), looks := true }, kinds := [], alts := [], goes := true, laidByText := true, laidKinds := [.handle], laidTests := true, laidLooks := .later }
def FiningTellsUptoCardSaid : Prop := Claim7.holds Tryd.pinned (.plain (OpenSpec.upto finingTellsSpec)) finingTellsUptoCard

/-- THE SECOND FORM's CARD OF 'muscovadolaw09.FiningPut'. -/
def finingPutUptoCard : Claim7 := { stood := { row := finingPutUptoRow, standIns := [], harness := (true, "437321f70021d751b7f694fe6f46c0bce8118bd37f4e411ca5cd723b0e0592db"), looks := true }, kinds := [], alts := [], goes := true, laidByText := true, laidKinds := [.handle], laidTests := true, laidLooks := .later }
def FiningPutUptoCardSaid : Prop := Claim7.holds Tryd.pinned (.plain (OpenSpec.upto finingPutSpec)) finingPutUptoCard

/-- THE SECOND FORM's CARD OF 'muscovadolaw09.FiningPuts'. -/
def finingPutsUptoCard : Claim7 := { stood := { row := finingPutsUptoRow, standIns := [], harness := (true, "437321f70021d751b7f694fe6f46c0bce8118bd37f4e411ca5cd723b0e0592db"), looks := true }, kinds := [], alts := [], goes := true, laidByText := true, laidKinds := [.handle], laidTests := true, laidLooks := .later }
def FiningPutsUptoCardSaid : Prop := Claim7.holds Tryd.pinned (.plain (OpenSpec.upto finingPutsSpec)) finingPutsUptoCard

/-- THE SECOND FORM's CARD OF 'muscovadolaw09.FiningMore'. -/
def finingMoreUptoCard : Claim7 := { stood := { row := finingMoreUptoRow, standIns := [], harness := (true, "437321f70021d751b7f694fe6f46c0bce8118bd37f4e411ca5cd723b0e0592db"), looks := true }, kinds := [], alts := [], goes := true, laidByText := true, laidKinds := [.handle], laidTests := true, laidLooks := .later }
def FiningMoreUptoCardSaid : Prop := Claim7.holds Tryd.pinned (.plain (OpenSpec.upto finingMoreSpec)) finingMoreUptoCard

/-- THE SECOND FORM's CARD OF 'muscovadolaw09.FiningNumbered'. -/
def finingNumberedUptoCard : Claim7 := { stood := { row := finingNumberedUptoRow, standIns := [], harness := (true, "437321f70021d751b7f694fe6f46c0bce8118bd37f4e411ca5cd723b0e0592db"), looks := true }, kinds := [], alts := [], goes := true, laidByText := true, laidKinds := [.handle], laidTests := true, laidLooks := .later }
def FiningNumberedUptoCardSaid : Prop := Claim7.holds Tryd.pinned (.plain (OpenSpec.upto finingNumberedSpec)) finingNumberedUptoCard

/-- THE SECOND FORM's CARD OF 'muscovadolaw09.FiningNeeds'. -/
def finingNeedsUptoCard : Claim7 := { stood := { row := finingNeedsUptoRow, standIns := [], harness := (true, "437321f70021d751b7f694fe6f46c0bce8118bd37f4e411ca5cd723b0e0592db"), looks := true }, kinds := [], alts := [], goes := true, laidByText := true, laidKinds := [.handle], laidTests := true, laidLooks := .later }
def FiningNeedsUptoCardSaid : Prop := Claim7.holds Tryd.pinned (.plain (OpenSpec.upto finingNeedsSpec)) finingNeedsUptoCard

/-- THE SECOND FORM's CARD OF 'muscovadolaw09.FiningNeeded'. -/
def finingNeededUptoCard : Claim7 := { stood := { row := finingNeededUptoRow, standIns := [], harness := (true, "437321f70021d751b7f694fe6f46c0bce8118bd37f4e411ca5cd723b0e0592db"), looks := true }, kinds := [], alts := [], goes := true, laidByText := true, laidKinds := [.handle], laidTests := true, laidLooks := .later }
def FiningNeededUptoCardSaid : Prop := Claim7.holds Tryd.pinned (.plain (OpenSpec.upto finingNeededSpec)) finingNeededUptoCard

/-- THE SECOND FORM's CARD OF 'muscovadolaw09.FiningWays'. -/
def finingWaysUptoCard : Claim7 := { stood := { row := finingWaysUptoRow, standIns := [], harness := (true, "437321f70021d751b7f694fe6f46c0bce8118bd37f4e411ca5cd723b0e0592db"), looks := true }, kinds := [], alts := [], goes := true, laidByText := true, laidKinds := [.handle], laidTests := true, laidLooks := .later }
def FiningWaysUptoCardSaid : Prop := Claim7.holds Tryd.pinned (.plain (OpenSpec.upto finingWaysSpec)) finingWaysUptoCard

/-- THE SECOND FORM's CARD OF 'muscovadolaw09.FiningReach'. -/
def finingReachUptoCard : Claim7 := { stood := { row := finingReachUptoRow, standIns := [], harness := (true, "437321f70021d751b7f694fe6f46c0bce8118bd37f4e411ca5cd723b0e0592db"), looks := true }, kinds := [], alts := [], goes := true, laidByText := true, laidKinds := [.handle], laidTests := true, laidLooks := .later }
def FiningReachUptoCardSaid : Prop := Claim7.holds Tryd.pinned (.plain (OpenSpec.upto finingReachSpec)) finingReachUptoCard

/-- THE SECOND FORM's CARD OF 'muscovadolaw09.FiningShortest'. -/
def finingShortestUptoCard : Claim7 := { stood := { row := finingShortestUptoRow, standIns := [], harness := (true, "437321f70021d751b7f694fe6f46c0bce8118bd37f4e411ca5cd723b0e0592db"), looks := true }, kinds := [], alts := [], goes := true, laidByText := true, laidKinds := [.handle], laidTests := true, laidLooks := .later }
def FiningShortestUptoCardSaid : Prop := Claim7.holds Tryd.pinned (.plain (OpenSpec.upto finingShortestSpec)) finingShortestUptoCard

/-- THE SECOND FORM's CARD OF 'muscovadolaw09.FiningHopeless'. -/
def finingHopelessUptoCard : Claim7 := { stood := { row := finingHopelessUptoRow, standIns := [], harness := (true, "437321f70021d751b7f694fe6f46c0bce8118bd37f4e411ca5cd723b0e0592db"), looks := true }, kinds := [], alts := [], goes := true, laidByText := true, laidKinds := [.handle], laidTests := true, laidLooks := .later }
def FiningHopelessUptoCardSaid : Prop := Claim7.holds Tryd.pinned (.plain (OpenSpec.upto finingHopelessSpec)) finingHopelessUptoCard

/-- THE SECOND FORM's CARD OF 'muscovadolaw09.FiningFaults'. -/
def finingFaultsUptoCard : Claim7 := { stood := { row := finingFaultsUptoRow, standIns := [], harness := (true, "437321f70021d751b7f694fe6f46c0bce8118bd37f4e411ca5cd723b0e0592db"), looks := true }, kinds := [], alts := [], goes := true, laidByText := true, laidKinds := [.handle], laidTests := true, laidLooks := .later }
def FiningFaultsUptoCardSaid : Prop := Claim7.holds Tryd.pinned (.plain (OpenSpec.upto finingFaultsSpec)) finingFaultsUptoCard

/-- THE SECOND FORM's CARD OF 'muscovadolaw09.FiningHopes'. -/
def finingHopesUptoCard : Claim7 := { stood := { row := finingHopesUptoRow, standIns := [], harness := (true, "437321f70021d751b7f694fe6f46c0bce8118bd37f4e411ca5cd723b0e0592db"), looks := true }, kinds := [], alts := [], goes := true, laidByText := true, laidKinds := [.handle], laidTests := true, laidLooks := .later }
def FiningHopesUptoCardSaid : Prop := Claim7.holds Tryd.pinned (.plain (OpenSpec.upto finingHopesSpec)) finingHopesUptoCard

/-- THE SECOND FORM's CARD OF 'muscovadolaw09.FiningFewest'. -/
def finingFewestUptoCard : Claim7 := { stood := { row := finingFewestUptoRow, standIns := [], harness := (true, "437321f70021d751b7f694fe6f46c0bce8118bd37f4e411ca5cd723b0e0592db"), looks := true }, kinds := [], alts := [], goes := true, laidByText := true, laidKinds := [.handle], laidTests := true, laidLooks := .later }
def FiningFewestUptoCardSaid : Prop := Claim7.holds Tryd.pinned (.plain (OpenSpec.upto finingFewestSpec)) finingFewestUptoCard

/-- THE SECOND FORM's CARD OF 'muscovadolaw09.FiningKnown'. -/
def finingKnownUptoCard : Claim7 := { stood := { row := finingKnownUptoRow, standIns := [], harness := (true, "437321f70021d751b7f694fe6f46c0bce8118bd37f4e411ca5cd723b0e0592db"), looks := true }, kinds := [], alts := [], goes := true, laidByText := true, laidKinds := [.handle], laidTests := true, laidLooks := .later }
def FiningKnownUptoCardSaid : Prop := Claim7.holds Tryd.pinned (.plain (OpenSpec.upto finingKnownSpec)) finingKnownUptoCard
end Rows
end Go.Proofs.YtofkhehcnfiopaaDoor
