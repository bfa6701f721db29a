/-
  DERIVED. GIVEN WITH THE SEED: THE CARDS: each row of YtcjngpfigpglfaaGreatDoorRows.lean that lists a variable, with what it lists TIED to the program's text (the seventh form; the later family's looks); each row that meets fmt, with fmt's text TOLD by the authors' own Lean function (tested against real Go, not proved from fmt's source: count such statements apart). THE CARD IS WHAT COUNTS. Prove the row's statement (the work); the ties are given (YtcjngpfigpglfaaGreatDoorTie.lean); close each card by the builder's one call (the guide's Derived/Test/ToyasCard.lean, 'card_holds'). Laid BY PROGRAM, IN A SANDBOX (cutbox-door.mjs). By AI agents, Wed Nov 11 2026. No macro, syntax, notation, axiom, sorry.
-/
import Derived.Test.YtcjngpfigpglfaaGreatDoorRows
import GoSem.ClaimSeven
namespace Go.Proofs.YtcjngpfigpglfaaGreatDoor
namespace Rows

/-- THE TIED CARD OF 'laws.FnExactFindWorkers'. -/
def fnExactFindWorkersCard : Claim7 := { stood := { row := fnExactFindWorkersRow, standIns := [], harness := (true, "aefe0ff74265404070a116b12097d551a083de430656f66265e143dcb0df5c6b"), looks := false }, kinds := [], alts := [], laidByText := true, laidKinds := [.data, .data, .data], laidTests := true, laidLooks := .later }
def FnExactFindWorkersCardSaid : Prop := Claim7.holds Tryz.pinned (.plain (OpenSpec.ofChange fnExactFindWorkersSpec)) fnExactFindWorkersCard

/-- THE TIED CARD OF 'laws.FnExactExplorePool'. -/
def fnExactExplorePoolCard : Claim7 := { stood := { row := fnExactExplorePoolRow, standIns := [], harness := (true, "aefe0ff74265404070a116b12097d551a083de430656f66265e143dcb0df5c6b"), looks := false }, kinds := [], alts := [], laidByText := true, laidKinds := [.data, .data, .data], laidTests := true, laidLooks := .later }
def FnExactExplorePoolCardSaid : Prop := Claim7.holds Tryz.pinned (.plain (OpenSpec.ofChange fnExactExplorePoolSpec)) fnExactExplorePoolCard

/-- THE SECOND FORM's CARD OF 'laws.FnExactFindWorkers'. -/
def fnExactFindWorkersUptoCard : Claim7 := { stood := { row := fnExactFindWorkersUptoRow, standIns := [], harness := (true, "aefe0ff74265404070a116b12097d551a083de430656f66265e143dcb0df5c6b"), looks := false }, kinds := [], alts := [], laidByText := true, laidKinds := [.data, .data, .data], laidTests := true, laidLooks := .later }
def FnExactFindWorkersUptoCardSaid : Prop := Claim7.holds Tryz.pinned (.plain (OpenSpec.upto fnExactFindWorkersSpec)) fnExactFindWorkersUptoCard

/-- THE SECOND FORM's CARD OF 'laws.FnExactExplorePool'. -/
def fnExactExplorePoolUptoCard : Claim7 := { stood := { row := fnExactExplorePoolUptoRow, standIns := [], harness := (true, "aefe0ff74265404070a116b12097d551a083de430656f66265e143dcb0df5c6b"), looks := false }, kinds := [], alts := [], laidByText := true, laidKinds := [.data, .data, .data], laidTests := true, laidLooks := .later }
def FnExactExplorePoolUptoCardSaid : Prop := Claim7.holds Tryz.pinned (.plain (OpenSpec.upto fnExactExplorePoolSpec)) fnExactExplorePoolUptoCard
end Rows
end Go.Proofs.YtcjngpfigpglfaaGreatDoor
