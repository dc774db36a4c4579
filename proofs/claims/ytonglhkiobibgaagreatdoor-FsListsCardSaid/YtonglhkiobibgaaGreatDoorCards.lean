/-
  DERIVED. GIVEN WITH THE SEED: THE CARDS: each row of YtonglhkiobibgaaGreatDoorRows.lean that lists a variable, with what it lists TIED to the program's text (the seventh form; the later family's looks); each row that meets fmt, with fmt's text TOLD by the authors' own Lean function (tested against real Go, not proved from fmt's source: count such statements apart). THE CARD IS WHAT COUNTS. Prove the row's statement (the work); the ties are given (YtonglhkiobibgaaGreatDoorTie.lean); close each card by the builder's one call (the guide's Derived/Test/ToyasCard.lean, 'card_holds'). Laid BY PROGRAM, IN A SANDBOX (cutbox-door.mjs). By AI agents, Wed Nov 11 2026. No macro, syntax, notation, axiom, sorry.
-/
import Derived.Test.YtonglhkiobibgaaGreatDoorRows
import GoSem.ClaimSeven
namespace Go.Proofs.YtonglhkiobibgaaGreatDoor
namespace Rows

/-- THE TIED CARD OF 'undercroftlaw10.FsUndone'. -/
def fsUndoneCard : Claim7 := { stood := { row := fsUndoneRow, standIns := [], harness := (true, "99614a6981dfa3949a41461e4baab9d71b1d837fc286f2318c98390de9c6db5d"), looks := true }, kinds := [], alts := [], laidByText := true, laidKinds := [.data, .handle, .pinned], laidTests := true, laidLooks := .later }
def FsUndoneCardSaid : Prop := Claim7.holds Tryz.pinned (.plain (OpenSpec.ofChange fsUndoneSpec)) fsUndoneCard

/-- THE TIED CARD OF 'undercroftlaw10.FsLinks'. -/
def fsLinksCard : Claim7 := { stood := { row := fsLinksRow, standIns := [], harness := (true, "99614a6981dfa3949a41461e4baab9d71b1d837fc286f2318c98390de9c6db5d"), looks := true }, kinds := [], alts := [], laidByText := true, laidKinds := [.data, .handle, .pinned], laidTests := true, laidLooks := .later }
def FsLinksCardSaid : Prop := Claim7.holds Tryz.pinned (.plain (OpenSpec.ofChange fsLinksSpec)) fsLinksCard

/-- THE TIED CARD OF 'undercroftlaw10.FsLists'. -/
def fsListsCard : Claim7 := { stood := { row := fsListsRow, standIns := [], harness := (true, "99614a6981dfa3949a41461e4baab9d71b1d837fc286f2318c98390de9c6db5d"), looks := true }, kinds := [], alts := [], laidByText := true, laidKinds := [.data, .handle, .pinned], laidTests := true, laidLooks := .later }
def FsListsCardSaid : Prop := Claim7.holds Tryz.pinned (.plain (OpenSpec.ofChange fsListsSpec)) fsListsCard

/-- THE TIED CARD OF 'undercroftlaw10.FsThere'. -/
def fsThereCard : Claim7 := { stood := { row := fsThereRow, standIns := [], harness := (true, "99614a6981dfa3949a41461e4baab9d71b1d837fc286f2318c98390de9c6db5d"), looks := true }, kinds := [], alts := [], laidByText := true, laidKinds := [.data, .handle, .pinned], laidTests := true, laidLooks := .later }
def FsThereCardSaid : Prop := Claim7.holds Tryz.pinned (.plain (OpenSpec.ofChange fsThereSpec)) fsThereCard

/-- THE TIED CARD OF 'undercroftlaw10.FsKeeps'. -/
def fsKeepsCard : Claim7 := { stood := { row := fsKeepsRow, standIns := [], harness := (true, "99614a6981dfa3949a41461e4baab9d71b1d837fc286f2318c98390de9c6db5d"), looks := true }, kinds := [], alts := [], laidByText := true, laidKinds := [.data, .handle, .pinned], laidTests := true, laidLooks := .later }
def FsKeepsCardSaid : Prop := Claim7.holds Tryz.pinned (.plain (OpenSpec.ofChange fsKeepsSpec)) fsKeepsCard

/-- THE TIED CARD OF 'undercroftlaw11.OpsLook'. -/
def opsLookCard : Claim7 := { stood := { row := opsLookRow, standIns := [], harness := (true, "99614a6981dfa3949a41461e4baab9d71b1d837fc286f2318c98390de9c6db5d"), looks := true }, kinds := [], alts := [], laidByText := true, laidKinds := [.data, .handle, .pinned], laidTests := true, laidLooks := .later }
def OpsLookCardSaid : Prop := Claim7.holds Tryz.pinned (.plain (OpenSpec.ofChange opsLookSpec)) opsLookCard

/-- THE TIED CARD OF 'undercroftlaw11.OpsRuns'. -/
def opsRunsCard : Claim7 := { stood := { row := opsRunsRow, standIns := [], harness := (true, "99614a6981dfa3949a41461e4baab9d71b1d837fc286f2318c98390de9c6db5d"), looks := true }, kinds := [], alts := [], laidByText := true, laidKinds := [.data, .handle, .pinned], laidTests := true, laidLooks := .later }
def OpsRunsCardSaid : Prop := Claim7.holds Tryz.pinned (.plain (OpenSpec.ofChange opsRunsSpec)) opsRunsCard

/-- THE TIED CARD OF 'undercroftlaw11.OpsTells'. -/
def opsTellsCard : Claim7 := { stood := { row := opsTellsRow, standIns := [], harness := (true, "99614a6981dfa3949a41461e4baab9d71b1d837fc286f2318c98390de9c6db5d"), looks := true }, kinds := [], alts := [], laidByText := true, laidKinds := [.data, .handle, .pinned], laidTests := true, laidLooks := .later }
def OpsTellsCardSaid : Prop := Claim7.holds Tryz.pinned (.plain (OpenSpec.ofChange opsTellsSpec)) opsTellsCard

/-- THE TIED CARD OF 'undercroftlaw11.OpsReplies'. -/
def opsRepliesCard : Claim7 := { stood := { row := opsRepliesRow, standIns := [], harness := (true, "99614a6981dfa3949a41461e4baab9d71b1d837fc286f2318c98390de9c6db5d"), looks := true }, kinds := [], alts := [], laidByText := true, laidKinds := [.data, .handle, .pinned], laidTests := true, laidLooks := .later }
def OpsRepliesCardSaid : Prop := Claim7.holds Tryz.pinned (.plain (OpenSpec.ofChange opsRepliesSpec)) opsRepliesCard

/-- THE TIED CARD OF 'undercroftlaw11.OpsBack'. -/
def opsBackCard : Claim7 := { stood := { row := opsBackRow, standIns := [], harness := (true, "99614a6981dfa3949a41461e4baab9d71b1d837fc286f2318c98390de9c6db5d"), looks := true }, kinds := [], alts := [], laidByText := true, laidKinds := [.data, .handle, .pinned], laidTests := true, laidLooks := .later }
def OpsBackCardSaid : Prop := Claim7.holds Tryz.pinned (.plain (OpenSpec.ofChange opsBackSpec)) opsBackCard

/-- THE TIED CARD OF 'undercroftlaw23.AuditCommon'. -/
def auditCommonCard : Claim7 := { stood := { row := auditCommonRow, standIns := [], harness := (true, "99614a6981dfa3949a41461e4baab9d71b1d837fc286f2318c98390de9c6db5d"), looks := true }, kinds := [], alts := [], laidByText := true, laidKinds := [.data, .handle, .pinned], laidTests := true, laidLooks := .later }
def AuditCommonCardSaid : Prop := Claim7.holds Tryz.pinned (.plain (OpenSpec.ofChange auditCommonSpec)) auditCommonCard

/-- THE TIED CARD OF 'undercroftlaw23.AuditBegins'. -/
def auditBeginsCard : Claim7 := { stood := { row := auditBeginsRow, standIns := [], harness := (true, "99614a6981dfa3949a41461e4baab9d71b1d837fc286f2318c98390de9c6db5d"), looks := true }, kinds := [], alts := [], laidByText := true, laidKinds := [.data, .handle, .pinned], laidTests := true, laidLooks := .later }
def AuditBeginsCardSaid : Prop := Claim7.holds Tryz.pinned (.plain (OpenSpec.ofChange auditBeginsSpec)) auditBeginsCard

/-- THE SECOND FORM's CARD OF 'undercroftlaw10.FsUndone'. -/
def fsUndoneUptoCard : Claim7 := { stood := { row := fsUndoneUptoRow, standIns := [], harness := (true, "99614a6981dfa3949a41461e4baab9d71b1d837fc286f2318c98390de9c6db5d"), looks := true }, kinds := [], alts := [], laidByText := true, laidKinds := [.data, .handle, .pinned], laidTests := true, laidLooks := .later }
def FsUndoneUptoCardSaid : Prop := Claim7.holds Tryz.pinned (.plain (OpenSpec.upto fsUndoneSpec)) fsUndoneUptoCard

/-- THE SECOND FORM's CARD OF 'undercroftlaw10.FsLinks'. -/
def fsLinksUptoCard : Claim7 := { stood := { row := fsLinksUptoRow, standIns := [], harness := (true, "99614a6981dfa3949a41461e4baab9d71b1d837fc286f2318c98390de9c6db5d"), looks := true }, kinds := [], alts := [], laidByText := true, laidKinds := [.data, .handle, .pinned], laidTests := true, laidLooks := .later }
def FsLinksUptoCardSaid : Prop := Claim7.holds Tryz.pinned (.plain (OpenSpec.upto fsLinksSpec)) fsLinksUptoCard

/-- THE SECOND FORM's CARD OF 'undercroftlaw10.FsLists'. -/
def fsListsUptoCard : Claim7 := { stood := { row := fsListsUptoRow, standIns := [], harness := (true, "99614a6981dfa3949a41461e4baab9d71b1d837fc286f2318c98390de9c6db5d"), looks := true }, kinds := [], alts := [], laidByText := true, laidKinds := [.data, .handle, .pinned], laidTests := true, laidLooks := .later }
def FsListsUptoCardSaid : Prop := Claim7.holds Tryz.pinned (.plain (OpenSpec.upto fsListsSpec)) fsListsUptoCard

/-- THE SECOND FORM's CARD OF 'undercroftlaw10.FsThere'. -/
def fsThereUptoCard : Claim7 := { stood := { row := fsThereUptoRow, standIns := [], harness := (true, "99614a6981dfa3949a41461e4baab9d71b1d837fc286f2318c98390de9c6db5d"), looks := true }, kinds := [], alts := [], laidByText := true, laidKinds := [.data, .handle, .pinned], laidTests := true, laidLooks := .later }
def FsThereUptoCardSaid : Prop := Claim7.holds Tryz.pinned (.plain (OpenSpec.upto fsThereSpec)) fsThereUptoCard

/-- THE SECOND FORM's CARD OF 'undercroftlaw10.FsKeeps'. -/
def fsKeepsUptoCard : Claim7 := { stood := { row := fsKeepsUptoRow, standIns := [], harness := (true, "99614a6981dfa3949a41461e4baab9d71b1d837fc286f2318c98390de9c6db5d"), looks := true }, kinds := [], alts := [], laidByText := true, laidKinds := [.data, .handle, .pinned], laidTests := true, laidLooks := .later }
def FsKeepsUptoCardSaid : Prop := Claim7.holds Tryz.pinned (.plain (OpenSpec.upto fsKeepsSpec)) fsKeepsUptoCard

/-- THE SECOND FORM's CARD OF 'undercroftlaw11.OpsLook'. -/
def opsLookUptoCard : Claim7 := { stood := { row := opsLookUptoRow, standIns := [], harness := (true, "99614a6981dfa3949a41461e4baab9d71b1d837fc286f2318c98390de9c6db5d"), looks := true }, kinds := [], alts := [], laidByText := true, laidKinds := [.data, .handle, .pinned], laidTests := true, laidLooks := .later }
def OpsLookUptoCardSaid : Prop := Claim7.holds Tryz.pinned (.plain (OpenSpec.upto opsLookSpec)) opsLookUptoCard

/-- THE SECOND FORM's CARD OF 'undercroftlaw11.OpsRuns'. -/
def opsRunsUptoCard : Claim7 := { stood := { row := opsRunsUptoRow, standIns := [], harness := (true, "99614a6981dfa3949a41461e4baab9d71b1d837fc286f2318c98390de9c6db5d"), looks := true }, kinds := [], alts := [], laidByText := true, laidKinds := [.data, .handle, .pinned], laidTests := true, laidLooks := .later }
def OpsRunsUptoCardSaid : Prop := Claim7.holds Tryz.pinned (.plain (OpenSpec.upto opsRunsSpec)) opsRunsUptoCard

/-- THE SECOND FORM's CARD OF 'undercroftlaw11.OpsTells'. -/
def opsTellsUptoCard : Claim7 := { stood := { row := opsTellsUptoRow, standIns := [], harness := (true, "99614a6981dfa3949a41461e4baab9d71b1d837fc286f2318c98390de9c6db5d"), looks := true }, kinds := [], alts := [], laidByText := true, laidKinds := [.data, .handle, .pinned], laidTests := true, laidLooks := .later }
def OpsTellsUptoCardSaid : Prop := Claim7.holds Tryz.pinned (.plain (OpenSpec.upto opsTellsSpec)) opsTellsUptoCard

/-- THE SECOND FORM's CARD OF 'undercroftlaw11.OpsReplies'. -/
def opsRepliesUptoCard : Claim7 := { stood := { row := opsRepliesUptoRow, standIns := [], harness := (true, "99614a6981dfa3949a41461e4baab9d71b1d837fc286f2318c98390de9c6db5d"), looks := true }, kinds := [], alts := [], laidByText := true, laidKinds := [.data, .handle, .pinned], laidTests := true, laidLooks := .later }
def OpsRepliesUptoCardSaid : Prop := Claim7.holds Tryz.pinned (.plain (OpenSpec.upto opsRepliesSpec)) opsRepliesUptoCard

/-- THE SECOND FORM's CARD OF 'undercroftlaw11.OpsBack'. -/
def opsBackUptoCard : Claim7 := { stood := { row := opsBackUptoRow, standIns := [], harness := (true, "99614a6981dfa3949a41461e4baab9d71b1d837fc286f2318c98390de9c6db5d"), looks := true }, kinds := [], alts := [], laidByText := true, laidKinds := [.data, .handle, .pinned], laidTests := true, laidLooks := .later }
def OpsBackUptoCardSaid : Prop := Claim7.holds Tryz.pinned (.plain (OpenSpec.upto opsBackSpec)) opsBackUptoCard

/-- THE SECOND FORM's CARD OF 'undercroftlaw23.AuditCommon'. -/
def auditCommonUptoCard : Claim7 := { stood := { row := auditCommonUptoRow, standIns := [], harness := (true, "99614a6981dfa3949a41461e4baab9d71b1d837fc286f2318c98390de9c6db5d"), looks := true }, kinds := [], alts := [], laidByText := true, laidKinds := [.data, .handle, .pinned], laidTests := true, laidLooks := .later }
def AuditCommonUptoCardSaid : Prop := Claim7.holds Tryz.pinned (.plain (OpenSpec.upto auditCommonSpec)) auditCommonUptoCard

/-- THE SECOND FORM's CARD OF 'undercroftlaw23.AuditBegins'. -/
def auditBeginsUptoCard : Claim7 := { stood := { row := auditBeginsUptoRow, standIns := [], harness := (true, "99614a6981dfa3949a41461e4baab9d71b1d837fc286f2318c98390de9c6db5d"), looks := true }, kinds := [], alts := [], laidByText := true, laidKinds := [.data, .handle, .pinned], laidTests := true, laidLooks := .later }
def AuditBeginsUptoCardSaid : Prop := Claim7.holds Tryz.pinned (.plain (OpenSpec.upto auditBeginsSpec)) auditBeginsUptoCard
end Rows
end Go.Proofs.YtonglhkiobibgaaGreatDoor
