/-
  DERIVED. GIVEN WITH THE SEED: THE CARDS: each row of YtdenddhdeloceaaGreatDoorRows.lean that lists a variable, with what it lists TIED to the program's text (the seventh form; the later family's looks); each row that meets fmt, with fmt's text TOLD by the authors' own Lean function (tested against real Go, not proved from fmt's source: count such statements apart). THE CARD IS WHAT COUNTS. Prove the row's statement (the work); the ties are given (YtdenddhdeloceaaGreatDoorTie.lean); close each card by the builder's one call (the guide's Derived/Test/ToyasCard.lean, 'card_holds'). Laid BY PROGRAM, IN A SANDBOX (cutbox-door.mjs). By AI agents, Wed Nov 11 2026. No macro, syntax, notation, axiom, sorry.
-/
import Derived.Test.YtdenddhdeloceaaGreatDoorRows
import GoSem.ClaimSeven
namespace Go.Proofs.YtdenddhdeloceaaGreatDoor
namespace Rows

/-- THE TIED CARD OF 'undercroftlaw17.PointTells'. -/
def pointTellsCard : Claim7 := { stood := { row := pointTellsRow, standIns := [], harness := (true, "aa74f24332c74db69e73ce1555986e631bb891cb65d7a93f2a358045c9259968"), looks := true }, kinds := [], alts := [], laidByText := true, laidKinds := [.data, .handle, .pinned], laidTests := true, laidLooks := .later }
def PointTellsCardSaid : Prop := Claim7.holds Tryz.pinned (.plain (OpenSpec.ofChange pointTellsSpec)) pointTellsCard

/-- THE TIED CARD OF 'undercroftlaw17.PointDisks'. -/
def pointDisksCard : Claim7 := { stood := { row := pointDisksRow, standIns := [], harness := (true, "aa74f24332c74db69e73ce1555986e631bb891cb65d7a93f2a358045c9259968"), looks := true }, kinds := [], alts := [], laidByText := true, laidKinds := [.data, .handle, .pinned], laidTests := true, laidLooks := .later }
def PointDisksCardSaid : Prop := Claim7.holds Tryz.pinned (.plain (OpenSpec.ofChange pointDisksSpec)) pointDisksCard

/-- THE TIED CARD OF 'undercroftlaw17.PointTurns'. -/
def pointTurnsCard : Claim7 := { stood := { row := pointTurnsRow, standIns := [], harness := (true, "aa74f24332c74db69e73ce1555986e631bb891cb65d7a93f2a358045c9259968"), looks := true }, kinds := [], alts := [], laidByText := true, laidKinds := [.data, .handle, .pinned], laidTests := true, laidLooks := .later }
def PointTurnsCardSaid : Prop := Claim7.holds Tryz.pinned (.plain (OpenSpec.ofChange pointTurnsSpec)) pointTurnsCard

/-- THE TIED CARD OF 'undercroftlaw17.PointOwn'. -/
def pointOwnCard : Claim7 := { stood := { row := pointOwnRow, standIns := [], harness := (true, "aa74f24332c74db69e73ce1555986e631bb891cb65d7a93f2a358045c9259968"), looks := true }, kinds := [], alts := [], laidByText := true, laidKinds := [.data, .handle, .pinned], laidTests := true, laidLooks := .later }
def PointOwnCardSaid : Prop := Claim7.holds Tryz.pinned (.plain (OpenSpec.ofChange pointOwnSpec)) pointOwnCard

/-- THE TIED CARD OF 'undercroftlaw17.PointOldOrNew'. -/
def pointOldOrNewCard : Claim7 := { stood := { row := pointOldOrNewRow, standIns := [], harness := (true, "aa74f24332c74db69e73ce1555986e631bb891cb65d7a93f2a358045c9259968"), looks := true }, kinds := [], alts := [], laidByText := true, laidKinds := [.data, .handle, .pinned], laidTests := true, laidLooks := .later }
def PointOldOrNewCardSaid : Prop := Claim7.holds Tryz.pinned (.plain (OpenSpec.ofChange pointOldOrNewSpec)) pointOldOrNewCard

/-- THE SECOND FORM's CARD OF 'undercroftlaw17.PointTells'. -/
def pointTellsUptoCard : Claim7 := { stood := { row := pointTellsUptoRow, standIns := [], harness := (true, "aa74f24332c74db69e73ce1555986e631bb891cb65d7a93f2a358045c9259968"), looks := true }, kinds := [], alts := [], laidByText := true, laidKinds := [.data, .handle, .pinned], laidTests := true, laidLooks := .later }
def PointTellsUptoCardSaid : Prop := Claim7.holds Tryz.pinned (.plain (OpenSpec.upto pointTellsSpec)) pointTellsUptoCard

/-- THE SECOND FORM's CARD OF 'undercroftlaw17.PointDisks'. -/
def pointDisksUptoCard : Claim7 := { stood := { row := pointDisksUptoRow, standIns := [], harness := (true, "aa74f24332c74db69e73ce1555986e631bb891cb65d7a93f2a358045c9259968"), looks := true }, kinds := [], alts := [], laidByText := true, laidKinds := [.data, .handle, .pinned], laidTests := true, laidLooks := .later }
def PointDisksUptoCardSaid : Prop := Claim7.holds Tryz.pinned (.plain (OpenSpec.upto pointDisksSpec)) pointDisksUptoCard

/-- THE SECOND FORM's CARD OF 'undercroftlaw17.PointTurns'. -/
def pointTurnsUptoCard : Claim7 := { stood := { row := pointTurnsUptoRow, standIns := [], harness := (true, "aa74f24332c74db69e73ce1555986e631bb891cb65d7a93f2a358045c9259968"), looks := true }, kinds := [], alts := [], laidByText := true, laidKinds := [.data, .handle, .pinned], laidTests := true, laidLooks := .later }
def PointTurnsUptoCardSaid : Prop := Claim7.holds Tryz.pinned (.plain (OpenSpec.upto pointTurnsSpec)) pointTurnsUptoCard

/-- THE SECOND FORM's CARD OF 'undercroftlaw17.PointOwn'. -/
def pointOwnUptoCard : Claim7 := { stood := { row := pointOwnUptoRow, standIns := [], harness := (true, "aa74f24332c74db69e73ce1555986e631bb891cb65d7a93f2a358045c9259968"), looks := true }, kinds := [], alts := [], laidByText := true, laidKinds := [.data, .handle, .pinned], laidTests := true, laidLooks := .later }
def PointOwnUptoCardSaid : Prop := Claim7.holds Tryz.pinned (.plain (OpenSpec.upto pointOwnSpec)) pointOwnUptoCard

/-- THE SECOND FORM's CARD OF 'undercroftlaw17.PointOldOrNew'. -/
def pointOldOrNewUptoCard : Claim7 := { stood := { row := pointOldOrNewUptoRow, standIns := [], harness := (true, "aa74f24332c74db69e73ce1555986e631bb891cb65d7a93f2a358045c9259968"), looks := true }, kinds := [], alts := [], laidByText := true, laidKinds := [.data, .handle, .pinned], laidTests := true, laidLooks := .later }
def PointOldOrNewUptoCardSaid : Prop := Claim7.holds Tryz.pinned (.plain (OpenSpec.upto pointOldOrNewSpec)) pointOldOrNewUptoCard
end Rows
end Go.Proofs.YtdenddhdeloceaaGreatDoor
