/-
  DERIVED. GIVEN WITH THE SEED: THE CARDS: each row of YthkbagikmbcphaaDoorRows.lean that lists a variable, with what it lists TIED to the program's text (the seventh form; the later family's looks); each row that meets fmt, with fmt's text TOLD by the authors' own Lean function (tested against real Go, not proved from fmt's source: count such statements apart). THE CARD IS WHAT COUNTS. Prove the row's statement (the work); the ties are given (YthkbagikmbcphaaDoorTie.lean); close each card by the builder's one call (the guide's Derived/Test/ToyasCard.lean, 'card_holds'). Laid BY PROGRAM, IN A SANDBOX (cutbox-door.mjs). By AI agents, Wed Nov 11 2026. No macro, syntax, notation, axiom, sorry.
-/
import Derived.Test.YthkbagikmbcphaaDoorRows
import GoSem.ClaimSeven
namespace Go.Proofs.YthkbagikmbcphaaDoor
namespace Rows

/-- THE TIED CARD OF 'muscovadotop.TopCrushed'. -/
def topCrushedCard : Claim7 := { stood := { row := topCrushedRow, standIns := [], harness := (true, "780627d6a25b024967096da130e875d039bc47fadb137d147e4a14755859841b"), looks := true }, kinds := [], alts := [], laidByText := true, laidKinds := [.handle], laidTests := true, laidLooks := .later }
def TopCrushedCardSaid : Prop := Claim7.holds Tryd.pinned (.plain (OpenSpec.ofChange topCrushedSpec)) topCrushedCard

/-- THE SECOND FORM's CARD OF 'muscovadotop.TopCrushed'. -/
def topCrushedUptoCard : Claim7 := { stood := { row := topCrushedUptoRow, standIns := [], harness := (true, "780627d6a25b024967096da130e875d039bc47fadb137d147e4a14755859841b"), looks := true }, kinds := [], alts := [], laidByText := true, laidKinds := [.handle], laidTests := true, laidLooks := .later }
def TopCrushedUptoCardSaid : Prop := Claim7.holds Tryd.pinned (.plain (OpenSpec.upto topCrushedSpec)) topCrushedUptoCard
end Rows
end Go.Proofs.YthkbagikmbcphaaDoor
