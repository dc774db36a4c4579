/-
  NARROWER THAN 'FOR EVERY INPUT', by the rows' own cells (each row's printed sentence says how): FsUndone: laid · FsLinks: laid · FsLists: laid · FsThere: laid · FsKeeps: laid · OpsLook: laid · OpsRuns: laid · OpsTells: laid · OpsReplies: laid · OpsBack: laid · AuditCommon: laid · AuditBegins: laid.
  DERIVED. THE GIVEN ROWS OF THIS SEAT. 12 by the template 'for every input the law returns true; each argument reads behind the call as it read before'; 0 by the template 'total and deterministic' (their statements: YtonglhkiobibgaaGreatDoorTotals.lean).
  GIVEN WITH THE SEED: the statements are not yours to turn. If you find one false, say at which input.
  Laid BY PROGRAM, IN A SANDBOX (cutbox-rows.mjs): the forced cells as the released guide's own fill.sh prints them over the translation 2dc44f7a5a1037b8… (all of the seat's roots in one cut). By AI agents, Wed Nov 11 2026. No macro, syntax, notation, axiom, sorry.
-/
import Derived.Test.YtonglhkiobibgaaGreatDoorChecked
import GoSem.PinnedTables
import GoSem.Claim
import GoSem.ClaimJoined
import GoSem.ClaimMapViews
import Derived.JoinedTies
import Derived.KernelRfl
namespace Go.Proofs.YtonglhkiobibgaaGreatDoor
/- THE CELL 'sum', in the pinned program and in every row, IS THE sha256 OF THE DUMP (.gsa) THAT YtonglhkiobibgaaGreatDoorProg.lean LOADS. Nothing in Lean hashes anything: it is a label: what it is worth is what the hold of that sum in a sandbox is worth. -/
noncomputable def Tryz.pinned : Pinned := { name := "ytonglhkiobibgaagreatdoor", sum := "2dc44f7a5a1037b81ec2555f6ceeb61f49d536991c3a7546bc2658c9f8a09252", checked := Tryz.checked }
namespace Rows
def none {H : Type} : Left H := { results := [], args := [] }

/- WHAT THE LISTED PACKAGE-LEVEL VARIABLES READ AS WHEN THE CALL BEGINS. Each datum BY PROGRAM (the guide's laid-datum.mjs) off the statement by which the dump's own 'gosem.cut.vars' lays the variable. In a bare row this is a premise. The card (YtonglhkiobibgaaGreatDoorCards.lean) ties it to the program's text. -/
def laid_unicode_utf8_acceptRanges {H : Type} : DataW H := .agg [.agg [.lit (.int .u8 128), .lit (.int .u8 191)], .agg [.lit (.int .u8 160), .lit (.int .u8 191)], .agg [.lit (.int .u8 128), .lit (.int .u8 159)], .agg [.lit (.int .u8 144), .lit (.int .u8 191)], .agg [.lit (.int .u8 128), .lit (.int .u8 143)], .agg [.lit (.int .u8 0), .lit (.int .u8 0)], .agg [.lit (.int .u8 0), .lit (.int .u8 0)], .agg [.lit (.int .u8 0), .lit (.int .u8 0)], .agg [.lit (.int .u8 0), .lit (.int .u8 0)], .agg [.lit (.int .u8 0), .lit (.int .u8 0)], .agg [.lit (.int .u8 0), .lit (.int .u8 0)], .agg [.lit (.int .u8 0), .lit (.int .u8 0)], .agg [.lit (.int .u8 0), .lit (.int .u8 0)], .agg [.lit (.int .u8 0), .lit (.int .u8 0)], .agg [.lit (.int .u8 0), .lit (.int .u8 0)], .agg [.lit (.int .u8 0), .lit (.int .u8 0)]]
def laid_errors_errorType {H : Type} : DataW H := .iface "internal/reflectlite.rtype" (.agg [.ptr (.lit (.string [101, 114, 114, 111, 114]))])
/-- One of Go's own tables, pinned by name: the form's constant. -/
def laid_unicode_utf8_first : DataW Unit := Go.Pinned.utf8First

/-- 'undercroftlaw10.FsUndone': WHATEVER THE INPUT: true; the input reads as it did. -/
def fsUndoneSpec : ChangeSpec := { name := "fsUndone", fn := fun _ => fun
  | [d1, d2] => { results := [.lit (.bool true)], args := [d1, d2] }
  | _ => none }
def fsUndoneRow : OpenClaim := { program := "ytonglhkiobibgaagreatdoor", sum := "2dc44f7a5a1037b81ec2555f6ceeb61f49d536991c3a7546bc2658c9f8a09252", func := "undercroft/undercroftlaw10.FsUndone", spec := "fsUndone", inPlace := ["internal/bytealg.IndexByteString", "internal/bytealg.IndexString", "internal/reflectlite.ValueOf", "(internal/reflectlite.Value).Type", "(internal/reflectlite.Value).IsNil", "internal/reflectlite.TypeOf", "(internal/reflectlite.Value).Elem", "(internal/reflectlite.Value).Set", "slices.overlaps[undercroft/dir.Entry]"], unfollowed := true, recurses := true, named := ["internal/bytealg.MaxLen", "unicode/utf8.first", "unicode/utf8.acceptRanges", "errors.errorType"], plainKeys := false, apart := false, laid := [("unicode/utf8.acceptRanges", laid_unicode_utf8_acceptRanges), ("errors.errorType", laid_errors_errorType), ("unicode/utf8.first", laid_unicode_utf8_first)] }
def FsUndoneSaid : Prop := fsUndoneRow.holds Tryz.pinned (OpenSpec.ofChange fsUndoneSpec)

/-- ITS FALSE NEIGHBOUR: 'it returns false'. Refute it at one input. -/
def fsUndoneWrong : ChangeSpec := { name := "fsUndone", fn := fun _ => fun
  | [d1, d2] => { results := [.lit (.bool false)], args := [d1, d2] }
  | _ => none }
def FsUndoneWrongFalsely : Prop := fsUndoneRow.holds Tryz.pinned (OpenSpec.ofChange fsUndoneWrong)

/-- 'undercroftlaw10.FsLinks': WHATEVER THE INPUT: true; the input reads as it did. -/
def fsLinksSpec : ChangeSpec := { name := "fsLinks", fn := fun _ => fun
  | [d1, d2, d3, d4] => { results := [.lit (.bool true)], args := [d1, d2, d3, d4] }
  | _ => none }
def fsLinksRow : OpenClaim := { program := "ytonglhkiobibgaagreatdoor", sum := "2dc44f7a5a1037b81ec2555f6ceeb61f49d536991c3a7546bc2658c9f8a09252", func := "undercroft/undercroftlaw10.FsLinks", spec := "fsLinks", inPlace := ["internal/bytealg.IndexByteString", "internal/bytealg.IndexString", "internal/reflectlite.ValueOf", "(internal/reflectlite.Value).Type", "(internal/reflectlite.Value).IsNil", "internal/reflectlite.TypeOf", "(internal/reflectlite.Value).Elem", "(internal/reflectlite.Value).Set", "slices.overlaps[undercroft/dir.Entry]"], unfollowed := true, recurses := true, named := ["internal/bytealg.MaxLen", "unicode/utf8.first", "unicode/utf8.acceptRanges", "errors.errorType"], plainKeys := false, apart := false, laid := [("unicode/utf8.acceptRanges", laid_unicode_utf8_acceptRanges), ("errors.errorType", laid_errors_errorType), ("unicode/utf8.first", laid_unicode_utf8_first)] }
def FsLinksSaid : Prop := fsLinksRow.holds Tryz.pinned (OpenSpec.ofChange fsLinksSpec)

/-- ITS FALSE NEIGHBOUR: 'it returns false'. Refute it at one input. -/
def fsLinksWrong : ChangeSpec := { name := "fsLinks", fn := fun _ => fun
  | [d1, d2, d3, d4] => { results := [.lit (.bool false)], args := [d1, d2, d3, d4] }
  | _ => none }
def FsLinksWrongFalsely : Prop := fsLinksRow.holds Tryz.pinned (OpenSpec.ofChange fsLinksWrong)

/-- 'undercroftlaw10.FsLists': WHATEVER THE INPUT: true; the input reads as it did. -/
def fsListsSpec : ChangeSpec := { name := "fsLists", fn := fun _ => fun
  | [d1, d2] => { results := [.lit (.bool true)], args := [d1, d2] }
  | _ => none }
def fsListsRow : OpenClaim := { program := "ytonglhkiobibgaagreatdoor", sum := "2dc44f7a5a1037b81ec2555f6ceeb61f49d536991c3a7546bc2658c9f8a09252", func := "undercroft/undercroftlaw10.FsLists", spec := "fsLists", inPlace := ["internal/bytealg.IndexByteString", "internal/bytealg.IndexString", "internal/reflectlite.ValueOf", "(internal/reflectlite.Value).Type", "(internal/reflectlite.Value).IsNil", "internal/reflectlite.TypeOf", "(internal/reflectlite.Value).Elem", "(internal/reflectlite.Value).Set", "slices.overlaps[undercroft/dir.Entry]"], unfollowed := true, recurses := true, named := ["internal/bytealg.MaxLen", "unicode/utf8.first", "unicode/utf8.acceptRanges", "errors.errorType"], plainKeys := false, apart := false, laid := [("unicode/utf8.acceptRanges", laid_unicode_utf8_acceptRanges), ("errors.errorType", laid_errors_errorType), ("unicode/utf8.first", laid_unicode_utf8_first)] }
def FsListsSaid : Prop := fsListsRow.holds Tryz.pinned (OpenSpec.ofChange fsListsSpec)

/-- ITS FALSE NEIGHBOUR: 'it returns false'. Refute it at one input. -/
def fsListsWrong : ChangeSpec := { name := "fsLists", fn := fun _ => fun
  | [d1, d2] => { results := [.lit (.bool false)], args := [d1, d2] }
  | _ => none }
def FsListsWrongFalsely : Prop := fsListsRow.holds Tryz.pinned (OpenSpec.ofChange fsListsWrong)

/-- 'undercroftlaw10.FsThere': WHATEVER THE INPUT: true; the input reads as it did. -/
def fsThereSpec : ChangeSpec := { name := "fsThere", fn := fun _ => fun
  | [d1, d2, d3] => { results := [.lit (.bool true)], args := [d1, d2, d3] }
  | _ => none }
def fsThereRow : OpenClaim := { program := "ytonglhkiobibgaagreatdoor", sum := "2dc44f7a5a1037b81ec2555f6ceeb61f49d536991c3a7546bc2658c9f8a09252", func := "undercroft/undercroftlaw10.FsThere", spec := "fsThere", inPlace := ["internal/bytealg.IndexByteString", "internal/bytealg.IndexString", "internal/reflectlite.ValueOf", "(internal/reflectlite.Value).Type", "(internal/reflectlite.Value).IsNil", "internal/reflectlite.TypeOf", "(internal/reflectlite.Value).Elem", "(internal/reflectlite.Value).Set", "slices.overlaps[undercroft/dir.Entry]"], unfollowed := true, recurses := true, named := ["internal/bytealg.MaxLen", "unicode/utf8.first", "unicode/utf8.acceptRanges", "errors.errorType"], plainKeys := false, apart := false, laid := [("unicode/utf8.acceptRanges", laid_unicode_utf8_acceptRanges), ("errors.errorType", laid_errors_errorType), ("unicode/utf8.first", laid_unicode_utf8_first)] }
def FsThereSaid : Prop := fsThereRow.holds Tryz.pinned (OpenSpec.ofChange fsThereSpec)

/-- ITS FALSE NEIGHBOUR: 'it returns false'. Refute it at one input. -/
def fsThereWrong : ChangeSpec := { name := "fsThere", fn := fun _ => fun
  | [d1, d2, d3] => { results := [.lit (.bool false)], args := [d1, d2, d3] }
  | _ => none }
def FsThereWrongFalsely : Prop := fsThereRow.holds Tryz.pinned (OpenSpec.ofChange fsThereWrong)

/-- 'undercroftlaw10.FsKeeps': WHATEVER THE INPUT: true; the input reads as it did. -/
def fsKeepsSpec : ChangeSpec := { name := "fsKeeps", fn := fun _ => fun
  | [d1, d2, d3, d4] => { results := [.lit (.bool true)], args := [d1, d2, d3, d4] }
  | _ => none }
def fsKeepsRow : OpenClaim := { program := "ytonglhkiobibgaagreatdoor", sum := "2dc44f7a5a1037b81ec2555f6ceeb61f49d536991c3a7546bc2658c9f8a09252", func := "undercroft/undercroftlaw10.FsKeeps", spec := "fsKeeps", inPlace := ["internal/bytealg.IndexByteString", "internal/bytealg.IndexString", "internal/reflectlite.ValueOf", "(internal/reflectlite.Value).Type", "(internal/reflectlite.Value).IsNil", "internal/reflectlite.TypeOf", "(internal/reflectlite.Value).Elem", "(internal/reflectlite.Value).Set", "slices.overlaps[undercroft/dir.Entry]"], unfollowed := true, recurses := true, named := ["internal/bytealg.MaxLen", "unicode/utf8.first", "unicode/utf8.acceptRanges", "errors.errorType"], plainKeys := false, apart := false, laid := [("unicode/utf8.acceptRanges", laid_unicode_utf8_acceptRanges), ("errors.errorType", laid_errors_errorType), ("unicode/utf8.first", laid_unicode_utf8_first)] }
def FsKeepsSaid : Prop := fsKeepsRow.holds Tryz.pinned (OpenSpec.ofChange fsKeepsSpec)

/-- ITS FALSE NEIGHBOUR: 'it returns false'. Refute it at one input. -/
def fsKeepsWrong : ChangeSpec := { name := "fsKeeps", fn := fun _ => fun
  | [d1, d2, d3, d4] => { results := [.lit (.bool false)], args := [d1, d2, d3, d4] }
  | _ => none }
def FsKeepsWrongFalsely : Prop := fsKeepsRow.holds Tryz.pinned (OpenSpec.ofChange fsKeepsWrong)

/-- 'undercroftlaw11.OpsLook': WHATEVER THE INPUT: true; the input reads as it did. -/
def opsLookSpec : ChangeSpec := { name := "opsLook", fn := fun _ => fun
  | [d1, d2] => { results := [.lit (.bool true)], args := [d1, d2] }
  | _ => none }
def opsLookRow : OpenClaim := { program := "ytonglhkiobibgaagreatdoor", sum := "2dc44f7a5a1037b81ec2555f6ceeb61f49d536991c3a7546bc2658c9f8a09252", func := "undercroft/undercroftlaw11.OpsLook", spec := "opsLook", inPlace := ["internal/bytealg.IndexByteString", "internal/bytealg.IndexString", "internal/reflectlite.ValueOf", "(internal/reflectlite.Value).Type", "(internal/reflectlite.Value).IsNil", "internal/reflectlite.TypeOf", "(internal/reflectlite.Value).Elem", "(internal/reflectlite.Value).Set", "slices.overlaps[undercroft/dir.Entry]"], unfollowed := true, recurses := true, named := ["internal/bytealg.MaxLen", "unicode/utf8.first", "unicode/utf8.acceptRanges", "errors.errorType"], plainKeys := false, apart := false, laid := [("unicode/utf8.acceptRanges", laid_unicode_utf8_acceptRanges), ("errors.errorType", laid_errors_errorType), ("unicode/utf8.first", laid_unicode_utf8_first)] }
def OpsLookSaid : Prop := opsLookRow.holds Tryz.pinned (OpenSpec.ofChange opsLookSpec)

/-- ITS FALSE NEIGHBOUR: 'it returns false'. Refute it at one input. -/
def opsLookWrong : ChangeSpec := { name := "opsLook", fn := fun _ => fun
  | [d1, d2] => { results := [.lit (.bool false)], args := [d1, d2] }
  | _ => none }
def OpsLookWrongFalsely : Prop := opsLookRow.holds Tryz.pinned (OpenSpec.ofChange opsLookWrong)

/-- 'undercroftlaw11.OpsRuns': WHATEVER THE INPUT: true; the input reads as it did. -/
def opsRunsSpec : ChangeSpec := { name := "opsRuns", fn := fun _ => fun
  | [d] => { results := [.lit (.bool true)], args := [d] }
  | _ => none }
def opsRunsRow : OpenClaim := { program := "ytonglhkiobibgaagreatdoor", sum := "2dc44f7a5a1037b81ec2555f6ceeb61f49d536991c3a7546bc2658c9f8a09252", func := "undercroft/undercroftlaw11.OpsRuns", spec := "opsRuns", inPlace := ["internal/bytealg.IndexByteString", "internal/bytealg.IndexString", "internal/reflectlite.ValueOf", "(internal/reflectlite.Value).Type", "(internal/reflectlite.Value).IsNil", "internal/reflectlite.TypeOf", "(internal/reflectlite.Value).Elem", "(internal/reflectlite.Value).Set", "slices.overlaps[undercroft/dir.Entry]"], unfollowed := true, recurses := true, named := ["internal/bytealg.MaxLen", "unicode/utf8.first", "unicode/utf8.acceptRanges", "errors.errorType"], plainKeys := false, apart := false, laid := [("unicode/utf8.acceptRanges", laid_unicode_utf8_acceptRanges), ("errors.errorType", laid_errors_errorType), ("unicode/utf8.first", laid_unicode_utf8_first)] }
def OpsRunsSaid : Prop := opsRunsRow.holds Tryz.pinned (OpenSpec.ofChange opsRunsSpec)

/-- ITS FALSE NEIGHBOUR: 'it returns false'. Refute it at one input. -/
def opsRunsWrong : ChangeSpec := { name := "opsRuns", fn := fun _ => fun
  | [d] => { results := [.lit (.bool false)], args := [d] }
  | _ => none }
def OpsRunsWrongFalsely : Prop := opsRunsRow.holds Tryz.pinned (OpenSpec.ofChange opsRunsWrong)

/-- 'undercroftlaw11.OpsTells': WHATEVER THE INPUT: true; the input reads as it did. -/
def opsTellsSpec : ChangeSpec := { name := "opsTells", fn := fun _ => fun
  | [d1, d2] => { results := [.lit (.bool true)], args := [d1, d2] }
  | _ => none }
def opsTellsRow : OpenClaim := { program := "ytonglhkiobibgaagreatdoor", sum := "2dc44f7a5a1037b81ec2555f6ceeb61f49d536991c3a7546bc2658c9f8a09252", func := "undercroft/undercroftlaw11.OpsTells", spec := "opsTells", inPlace := ["internal/reflectlite.ValueOf", "(internal/reflectlite.Value).Type", "(internal/reflectlite.Value).IsNil", "internal/reflectlite.TypeOf", "(internal/reflectlite.Value).Elem", "(internal/reflectlite.Value).Set", "internal/bytealg.IndexByteString", "internal/bytealg.IndexString", "slices.overlaps[undercroft/dir.Entry]"], unfollowed := true, recurses := true, named := ["errors.errorType", "internal/bytealg.MaxLen", "unicode/utf8.first", "unicode/utf8.acceptRanges"], plainKeys := false, apart := false, laid := [("unicode/utf8.acceptRanges", laid_unicode_utf8_acceptRanges), ("errors.errorType", laid_errors_errorType), ("unicode/utf8.first", laid_unicode_utf8_first)] }
def OpsTellsSaid : Prop := opsTellsRow.holds Tryz.pinned (OpenSpec.ofChange opsTellsSpec)

/-- ITS FALSE NEIGHBOUR: 'it returns false'. Refute it at one input. -/
def opsTellsWrong : ChangeSpec := { name := "opsTells", fn := fun _ => fun
  | [d1, d2] => { results := [.lit (.bool false)], args := [d1, d2] }
  | _ => none }
def OpsTellsWrongFalsely : Prop := opsTellsRow.holds Tryz.pinned (OpenSpec.ofChange opsTellsWrong)

/-- 'undercroftlaw11.OpsReplies': WHATEVER THE INPUT: true; the input reads as it did. -/
def opsRepliesSpec : ChangeSpec := { name := "opsReplies", fn := fun _ => fun
  | [d1, d2] => { results := [.lit (.bool true)], args := [d1, d2] }
  | _ => none }
def opsRepliesRow : OpenClaim := { program := "ytonglhkiobibgaagreatdoor", sum := "2dc44f7a5a1037b81ec2555f6ceeb61f49d536991c3a7546bc2658c9f8a09252", func := "undercroft/undercroftlaw11.OpsReplies", spec := "opsReplies", inPlace := ["internal/reflectlite.ValueOf", "(internal/reflectlite.Value).Type", "(internal/reflectlite.Value).IsNil", "internal/reflectlite.TypeOf", "(internal/reflectlite.Value).Elem", "(internal/reflectlite.Value).Set", "internal/bytealg.IndexByteString", "internal/bytealg.IndexString", "slices.overlaps[undercroft/dir.Entry]"], unfollowed := true, recurses := true, named := ["errors.errorType", "internal/bytealg.MaxLen", "unicode/utf8.first", "unicode/utf8.acceptRanges"], plainKeys := false, apart := false, laid := [("unicode/utf8.acceptRanges", laid_unicode_utf8_acceptRanges), ("errors.errorType", laid_errors_errorType), ("unicode/utf8.first", laid_unicode_utf8_first)] }
def OpsRepliesSaid : Prop := opsRepliesRow.holds Tryz.pinned (OpenSpec.ofChange opsRepliesSpec)

/-- ITS FALSE NEIGHBOUR: 'it returns false'. Refute it at one input. -/
def opsRepliesWrong : ChangeSpec := { name := "opsReplies", fn := fun _ => fun
  | [d1, d2] => { results := [.lit (.bool false)], args := [d1, d2] }
  | _ => none }
def OpsRepliesWrongFalsely : Prop := opsRepliesRow.holds Tryz.pinned (OpenSpec.ofChange opsRepliesWrong)

/-- 'undercroftlaw11.OpsBack': WHATEVER THE INPUT: true; the input reads as it did. -/
def opsBackSpec : ChangeSpec := { name := "opsBack", fn := fun _ => fun
  | [d1, d2, d3] => { results := [.lit (.bool true)], args := [d1, d2, d3] }
  | _ => none }
def opsBackRow : OpenClaim := { program := "ytonglhkiobibgaagreatdoor", sum := "2dc44f7a5a1037b81ec2555f6ceeb61f49d536991c3a7546bc2658c9f8a09252", func := "undercroft/undercroftlaw11.OpsBack", spec := "opsBack", inPlace := ["internal/bytealg.IndexByteString", "internal/bytealg.IndexString", "internal/reflectlite.ValueOf", "(internal/reflectlite.Value).Type", "(internal/reflectlite.Value).IsNil", "internal/reflectlite.TypeOf", "(internal/reflectlite.Value).Elem", "(internal/reflectlite.Value).Set", "slices.overlaps[undercroft/dir.Entry]"], unfollowed := true, recurses := true, named := ["internal/bytealg.MaxLen", "unicode/utf8.first", "unicode/utf8.acceptRanges", "errors.errorType"], plainKeys := false, apart := false, laid := [("unicode/utf8.acceptRanges", laid_unicode_utf8_acceptRanges), ("errors.errorType", laid_errors_errorType), ("unicode/utf8.first", laid_unicode_utf8_first)] }
def OpsBackSaid : Prop := opsBackRow.holds Tryz.pinned (OpenSpec.ofChange opsBackSpec)

/-- ITS FALSE NEIGHBOUR: 'it returns false'. Refute it at one input. -/
def opsBackWrong : ChangeSpec := { name := "opsBack", fn := fun _ => fun
  | [d1, d2, d3] => { results := [.lit (.bool false)], args := [d1, d2, d3] }
  | _ => none }
def OpsBackWrongFalsely : Prop := opsBackRow.holds Tryz.pinned (OpenSpec.ofChange opsBackWrong)

/-- 'undercroftlaw23.AuditCommon': WHATEVER THE INPUT: true; the input reads as it did. -/
def auditCommonSpec : ChangeSpec := { name := "auditCommon", fn := fun _ => fun
  | [d1, d2, d3] => { results := [.lit (.bool true)], args := [d1, d2, d3] }
  | _ => none }
def auditCommonRow : OpenClaim := { program := "ytonglhkiobibgaagreatdoor", sum := "2dc44f7a5a1037b81ec2555f6ceeb61f49d536991c3a7546bc2658c9f8a09252", func := "undercroft/undercroftlaw23.AuditCommon", spec := "auditCommon", inPlace := ["internal/reflectlite.ValueOf", "(internal/reflectlite.Value).Type", "(internal/reflectlite.Value).IsNil", "internal/reflectlite.TypeOf", "(internal/reflectlite.Value).Elem", "(internal/reflectlite.Value).Set", "internal/bytealg.IndexByteString", "internal/bytealg.IndexString", "slices.overlaps[undercroft/dir.Entry]", "slices.overlaps[undercroft/client.Last]"], unfollowed := true, recurses := true, named := ["errors.errorType", "internal/bytealg.MaxLen", "unicode/utf8.first", "unicode/utf8.acceptRanges"], plainKeys := false, apart := false, laid := [("unicode/utf8.acceptRanges", laid_unicode_utf8_acceptRanges), ("errors.errorType", laid_errors_errorType), ("unicode/utf8.first", laid_unicode_utf8_first)] }
def AuditCommonSaid : Prop := auditCommonRow.holds Tryz.pinned (OpenSpec.ofChange auditCommonSpec)

/-- ITS FALSE NEIGHBOUR: 'it returns false'. Refute it at one input. -/
def auditCommonWrong : ChangeSpec := { name := "auditCommon", fn := fun _ => fun
  | [d1, d2, d3] => { results := [.lit (.bool false)], args := [d1, d2, d3] }
  | _ => none }
def AuditCommonWrongFalsely : Prop := auditCommonRow.holds Tryz.pinned (OpenSpec.ofChange auditCommonWrong)

/-- 'undercroftlaw23.AuditBegins': WHATEVER THE INPUT: true; the input reads as it did. -/
def auditBeginsSpec : ChangeSpec := { name := "auditBegins", fn := fun _ => fun
  | [d1, d2, d3] => { results := [.lit (.bool true)], args := [d1, d2, d3] }
  | _ => none }
def auditBeginsRow : OpenClaim := { program := "ytonglhkiobibgaagreatdoor", sum := "2dc44f7a5a1037b81ec2555f6ceeb61f49d536991c3a7546bc2658c9f8a09252", func := "undercroft/undercroftlaw23.AuditBegins", spec := "auditBegins", inPlace := ["internal/reflectlite.ValueOf", "(internal/reflectlite.Value).Type", "(internal/reflectlite.Value).IsNil", "internal/reflectlite.TypeOf", "(internal/reflectlite.Value).Elem", "(internal/reflectlite.Value).Set", "internal/bytealg.IndexByteString", "internal/bytealg.IndexString", "slices.overlaps[undercroft/dir.Entry]", "slices.overlaps[undercroft/client.Last]"], unfollowed := true, recurses := true, named := ["errors.errorType", "internal/bytealg.MaxLen", "unicode/utf8.first", "unicode/utf8.acceptRanges"], plainKeys := false, apart := false, laid := [("unicode/utf8.acceptRanges", laid_unicode_utf8_acceptRanges), ("errors.errorType", laid_errors_errorType), ("unicode/utf8.first", laid_unicode_utf8_first)] }
def AuditBeginsSaid : Prop := auditBeginsRow.holds Tryz.pinned (OpenSpec.ofChange auditBeginsSpec)

/-- ITS FALSE NEIGHBOUR: 'it returns false'. Refute it at one input. -/
def auditBeginsWrong : ChangeSpec := { name := "auditBegins", fn := fun _ => fun
  | [d1, d2, d3] => { results := [.lit (.bool false)], args := [d1, d2, d3] }
  | _ => none }
def AuditBeginsWrongFalsely : Prop := auditBeginsRow.holds Tryz.pinned (OpenSpec.ofChange auditBeginsWrong)

/- THE SECOND FORM. 'bulk': how many values and letters a reading holds, each counted each time it is reached (what is shared counts as often as it is met; a slice's spare places count too). A statement '..UptoSaid' is the law's where the arguments, and the package variables that the reading takes, are together of bulk at most 1048576: NARROWER than '..Said'. Prove '..Said' where nothing that the law and all that it calls make is longer than what came in: it says more and counts as full. Else prove '..UptoSaid'. A law counts once. -/
mutual
def uptoBulk {H : Type} : DataW H → Nat
  | .lit (.string bytes) => bytes.length + 1
  | .lit _ => 1
  | .nil => 1
  | .ptr d => uptoBulk d + 1
  | .slice elems spare => uptoBulkAll elems + uptoBulkAll spare + 1
  | .agg parts => uptoBulkAll parts + 1
  | .iface _ d => uptoBulk d + 1
  | .map entries => uptoBulkEntries entries + 1
  | .held _ => 1
def uptoBulkAll {H : Type} : List (DataW H) → Nat
  | [] => 0
  | d :: r => uptoBulk d + uptoBulkAll r
def uptoBulkEntries {H : Type} : List (Lit × DataW H) → Nat
  | [] => 0
  | x :: r => uptoBulkEntry x + uptoBulkEntries r
def uptoBulkEntry {H : Type} : Lit × DataW H → Nat
  | (.string bytes, d) => bytes.length + uptoBulk d + 1
  | (_, d) => uptoBulk d + 1
 end
def uptoSmall : (H : Type) → List (DataW H) → Bool := fun _ ds => decide (uptoBulkAll ds ≤ 1048576)
def OpenSpec.upto (s : _root_.Go.ChangeSpec) : _root_.Go.OpenSpec := { _root_.Go.OpenSpec.ofChange s with cond := some uptoSmall }

/-- 'undercroftlaw10.FsUndone', WHERE WHAT IT READS IS OF BULK AT MOST 1048576: true; the input reads as it did. -/
def fsUndoneUptoRow : OpenClaim := { program := "ytonglhkiobibgaagreatdoor", sum := "2dc44f7a5a1037b81ec2555f6ceeb61f49d536991c3a7546bc2658c9f8a09252", func := "undercroft/undercroftlaw10.FsUndone", spec := "fsUndone", inPlace := ["internal/bytealg.IndexByteString", "internal/bytealg.IndexString", "internal/reflectlite.ValueOf", "(internal/reflectlite.Value).Type", "(internal/reflectlite.Value).IsNil", "internal/reflectlite.TypeOf", "(internal/reflectlite.Value).Elem", "(internal/reflectlite.Value).Set", "slices.overlaps[undercroft/dir.Entry]"], unfollowed := true, recurses := true, named := ["internal/bytealg.MaxLen", "unicode/utf8.first", "unicode/utf8.acceptRanges", "errors.errorType"], plainKeys := false, apart := false, laid := [("unicode/utf8.acceptRanges", laid_unicode_utf8_acceptRanges), ("errors.errorType", laid_errors_errorType), ("unicode/utf8.first", laid_unicode_utf8_first)], narrowed := true }
def FsUndoneUptoSaid : Prop := fsUndoneUptoRow.holds Tryz.pinned (OpenSpec.upto fsUndoneSpec)

/-- 'undercroftlaw10.FsLinks', WHERE WHAT IT READS IS OF BULK AT MOST 1048576: true; the input reads as it did. -/
def fsLinksUptoRow : OpenClaim := { program := "ytonglhkiobibgaagreatdoor", sum := "2dc44f7a5a1037b81ec2555f6ceeb61f49d536991c3a7546bc2658c9f8a09252", func := "undercroft/undercroftlaw10.FsLinks", spec := "fsLinks", inPlace := ["internal/bytealg.IndexByteString", "internal/bytealg.IndexString", "internal/reflectlite.ValueOf", "(internal/reflectlite.Value).Type", "(internal/reflectlite.Value).IsNil", "internal/reflectlite.TypeOf", "(internal/reflectlite.Value).Elem", "(internal/reflectlite.Value).Set", "slices.overlaps[undercroft/dir.Entry]"], unfollowed := true, recurses := true, named := ["internal/bytealg.MaxLen", "unicode/utf8.first", "unicode/utf8.acceptRanges", "errors.errorType"], plainKeys := false, apart := false, laid := [("unicode/utf8.acceptRanges", laid_unicode_utf8_acceptRanges), ("errors.errorType", laid_errors_errorType), ("unicode/utf8.first", laid_unicode_utf8_first)], narrowed := true }
def FsLinksUptoSaid : Prop := fsLinksUptoRow.holds Tryz.pinned (OpenSpec.upto fsLinksSpec)

/-- 'undercroftlaw10.FsLists', WHERE WHAT IT READS IS OF BULK AT MOST 1048576: true; the input reads as it did. -/
def fsListsUptoRow : OpenClaim := { program := "ytonglhkiobibgaagreatdoor", sum := "2dc44f7a5a1037b81ec2555f6ceeb61f49d536991c3a7546bc2658c9f8a09252", func := "undercroft/undercroftlaw10.FsLists", spec := "fsLists", inPlace := ["internal/bytealg.IndexByteString", "internal/bytealg.IndexString", "internal/reflectlite.ValueOf", "(internal/reflectlite.Value).Type", "(internal/reflectlite.Value).IsNil", "internal/reflectlite.TypeOf", "(internal/reflectlite.Value).Elem", "(internal/reflectlite.Value).Set", "slices.overlaps[undercroft/dir.Entry]"], unfollowed := true, recurses := true, named := ["internal/bytealg.MaxLen", "unicode/utf8.first", "unicode/utf8.acceptRanges", "errors.errorType"], plainKeys := false, apart := false, laid := [("unicode/utf8.acceptRanges", laid_unicode_utf8_acceptRanges), ("errors.errorType", laid_errors_errorType), ("unicode/utf8.first", laid_unicode_utf8_first)], narrowed := true }
def FsListsUptoSaid : Prop := fsListsUptoRow.holds Tryz.pinned (OpenSpec.upto fsListsSpec)

/-- 'undercroftlaw10.FsThere', WHERE WHAT IT READS IS OF BULK AT MOST 1048576: true; the input reads as it did. -/
def fsThereUptoRow : OpenClaim := { program := "ytonglhkiobibgaagreatdoor", sum := "2dc44f7a5a1037b81ec2555f6ceeb61f49d536991c3a7546bc2658c9f8a09252", func := "undercroft/undercroftlaw10.FsThere", spec := "fsThere", inPlace := ["internal/bytealg.IndexByteString", "internal/bytealg.IndexString", "internal/reflectlite.ValueOf", "(internal/reflectlite.Value).Type", "(internal/reflectlite.Value).IsNil", "internal/reflectlite.TypeOf", "(internal/reflectlite.Value).Elem", "(internal/reflectlite.Value).Set", "slices.overlaps[undercroft/dir.Entry]"], unfollowed := true, recurses := true, named := ["internal/bytealg.MaxLen", "unicode/utf8.first", "unicode/utf8.acceptRanges", "errors.errorType"], plainKeys := false, apart := false, laid := [("unicode/utf8.acceptRanges", laid_unicode_utf8_acceptRanges), ("errors.errorType", laid_errors_errorType), ("unicode/utf8.first", laid_unicode_utf8_first)], narrowed := true }
def FsThereUptoSaid : Prop := fsThereUptoRow.holds Tryz.pinned (OpenSpec.upto fsThereSpec)

/-- 'undercroftlaw10.FsKeeps', WHERE WHAT IT READS IS OF BULK AT MOST 1048576: true; the input reads as it did. -/
def fsKeepsUptoRow : OpenClaim := { program := "ytonglhkiobibgaagreatdoor", sum := "2dc44f7a5a1037b81ec2555f6ceeb61f49d536991c3a7546bc2658c9f8a09252", func := "undercroft/undercroftlaw10.FsKeeps", spec := "fsKeeps", inPlace := ["internal/bytealg.IndexByteString", "internal/bytealg.IndexString", "internal/reflectlite.ValueOf", "(internal/reflectlite.Value).Type", "(internal/reflectlite.Value).IsNil", "internal/reflectlite.TypeOf", "(internal/reflectlite.Value).Elem", "(internal/reflectlite.Value).Set", "slices.overlaps[undercroft/dir.Entry]"], unfollowed := true, recurses := true, named := ["internal/bytealg.MaxLen", "unicode/utf8.first", "unicode/utf8.acceptRanges", "errors.errorType"], plainKeys := false, apart := false, laid := [("unicode/utf8.acceptRanges", laid_unicode_utf8_acceptRanges), ("errors.errorType", laid_errors_errorType), ("unicode/utf8.first", laid_unicode_utf8_first)], narrowed := true }
def FsKeepsUptoSaid : Prop := fsKeepsUptoRow.holds Tryz.pinned (OpenSpec.upto fsKeepsSpec)

/-- 'undercroftlaw11.OpsLook', WHERE WHAT IT READS IS OF BULK AT MOST 1048576: true; the input reads as it did. -/
def opsLookUptoRow : OpenClaim := { program := "ytonglhkiobibgaagreatdoor", sum := "2dc44f7a5a1037b81ec2555f6ceeb61f49d536991c3a7546bc2658c9f8a09252", func := "undercroft/undercroftlaw11.OpsLook", spec := "opsLook", inPlace := ["internal/bytealg.IndexByteString", "internal/bytealg.IndexString", "internal/reflectlite.ValueOf", "(internal/reflectlite.Value).Type", "(internal/reflectlite.Value).IsNil", "internal/reflectlite.TypeOf", "(internal/reflectlite.Value).Elem", "(internal/reflectlite.Value).Set", "slices.overlaps[undercroft/dir.Entry]"], unfollowed := true, recurses := true, named := ["internal/bytealg.MaxLen", "unicode/utf8.first", "unicode/utf8.acceptRanges", "errors.errorType"], plainKeys := false, apart := false, laid := [("unicode/utf8.acceptRanges", laid_unicode_utf8_acceptRanges), ("errors.errorType", laid_errors_errorType), ("unicode/utf8.first", laid_unicode_utf8_first)], narrowed := true }
def OpsLookUptoSaid : Prop := opsLookUptoRow.holds Tryz.pinned (OpenSpec.upto opsLookSpec)

/-- 'undercroftlaw11.OpsRuns', WHERE WHAT IT READS IS OF BULK AT MOST 1048576: true; the input reads as it did. -/
def opsRunsUptoRow : OpenClaim := { program := "ytonglhkiobibgaagreatdoor", sum := "2dc44f7a5a1037b81ec2555f6ceeb61f49d536991c3a7546bc2658c9f8a09252", func := "undercroft/undercroftlaw11.OpsRuns", spec := "opsRuns", inPlace := ["internal/bytealg.IndexByteString", "internal/bytealg.IndexString", "internal/reflectlite.ValueOf", "(internal/reflectlite.Value).Type", "(internal/reflectlite.Value).IsNil", "internal/reflectlite.TypeOf", "(internal/reflectlite.Value).Elem", "(internal/reflectlite.Value).Set", "slices.overlaps[undercroft/dir.Entry]"], unfollowed := true, recurses := true, named := ["internal/bytealg.MaxLen", "unicode/utf8.first", "unicode/utf8.acceptRanges", "errors.errorType"], plainKeys := false, apart := false, laid := [("unicode/utf8.acceptRanges", laid_unicode_utf8_acceptRanges), ("errors.errorType", laid_errors_errorType), ("unicode/utf8.first", laid_unicode_utf8_first)], narrowed := true }
def OpsRunsUptoSaid : Prop := opsRunsUptoRow.holds Tryz.pinned (OpenSpec.upto opsRunsSpec)

/-- 'undercroftlaw11.OpsTells', WHERE WHAT IT READS IS OF BULK AT MOST 1048576: true; the input reads as it did. -/
def opsTellsUptoRow : OpenClaim := { program := "ytonglhkiobibgaagreatdoor", sum := "2dc44f7a5a1037b81ec2555f6ceeb61f49d536991c3a7546bc2658c9f8a09252", func := "undercroft/undercroftlaw11.OpsTells", spec := "opsTells", inPlace := ["internal/reflectlite.ValueOf", "(internal/reflectlite.Value).Type", "(internal/reflectlite.Value).IsNil", "internal/reflectlite.TypeOf", "(internal/reflectlite.Value).Elem", "(internal/reflectlite.Value).Set", "internal/bytealg.IndexByteString", "internal/bytealg.IndexString", "slices.overlaps[undercroft/dir.Entry]"], unfollowed := true, recurses := true, named := ["errors.errorType", "internal/bytealg.MaxLen", "unicode/utf8.first", "unicode/utf8.acceptRanges"], plainKeys := false, apart := false, laid := [("unicode/utf8.acceptRanges", laid_unicode_utf8_acceptRanges), ("errors.errorType", laid_errors_errorType), ("unicode/utf8.first", laid_unicode_utf8_first)], narrowed := true }
def OpsTellsUptoSaid : Prop := opsTellsUptoRow.holds Tryz.pinned (OpenSpec.upto opsTellsSpec)

/-- 'undercroftlaw11.OpsReplies', WHERE WHAT IT READS IS OF BULK AT MOST 1048576: true; the input reads as it did. -/
def opsRepliesUptoRow : OpenClaim := { program := "ytonglhkiobibgaagreatdoor", sum := "2dc44f7a5a1037b81ec2555f6ceeb61f49d536991c3a7546bc2658c9f8a09252", func := "undercroft/undercroftlaw11.OpsReplies", spec := "opsReplies", inPlace := ["internal/reflectlite.ValueOf", "(internal/reflectlite.Value).Type", "(internal/reflectlite.Value).IsNil", "internal/reflectlite.TypeOf", "(internal/reflectlite.Value).Elem", "(internal/reflectlite.Value).Set", "internal/bytealg.IndexByteString", "internal/bytealg.IndexString", "slices.overlaps[undercroft/dir.Entry]"], unfollowed := true, recurses := true, named := ["errors.errorType", "internal/bytealg.MaxLen", "unicode/utf8.first", "unicode/utf8.acceptRanges"], plainKeys := false, apart := false, laid := [("unicode/utf8.acceptRanges", laid_unicode_utf8_acceptRanges), ("errors.errorType", laid_errors_errorType), ("unicode/utf8.first", laid_unicode_utf8_first)], narrowed := true }
def OpsRepliesUptoSaid : Prop := opsRepliesUptoRow.holds Tryz.pinned (OpenSpec.upto opsRepliesSpec)

/-- 'undercroftlaw11.OpsBack', WHERE WHAT IT READS IS OF BULK AT MOST 1048576: true; the input reads as it did. -/
def opsBackUptoRow : OpenClaim := { program := "ytonglhkiobibgaagreatdoor", sum := "2dc44f7a5a1037b81ec2555f6ceeb61f49d536991c3a7546bc2658c9f8a09252", func := "undercroft/undercroftlaw11.OpsBack", spec := "opsBack", inPlace := ["internal/bytealg.IndexByteString", "internal/bytealg.IndexString", "internal/reflectlite.ValueOf", "(internal/reflectlite.Value).Type", "(internal/reflectlite.Value).IsNil", "internal/reflectlite.TypeOf", "(internal/reflectlite.Value).Elem", "(internal/reflectlite.Value).Set", "slices.overlaps[undercroft/dir.Entry]"], unfollowed := true, recurses := true, named := ["internal/bytealg.MaxLen", "unicode/utf8.first", "unicode/utf8.acceptRanges", "errors.errorType"], plainKeys := false, apart := false, laid := [("unicode/utf8.acceptRanges", laid_unicode_utf8_acceptRanges), ("errors.errorType", laid_errors_errorType), ("unicode/utf8.first", laid_unicode_utf8_first)], narrowed := true }
def OpsBackUptoSaid : Prop := opsBackUptoRow.holds Tryz.pinned (OpenSpec.upto opsBackSpec)

/-- 'undercroftlaw23.AuditCommon', WHERE WHAT IT READS IS OF BULK AT MOST 1048576: true; the input reads as it did. -/
def auditCommonUptoRow : OpenClaim := { program := "ytonglhkiobibgaagreatdoor", sum := "2dc44f7a5a1037b81ec2555f6ceeb61f49d536991c3a7546bc2658c9f8a09252", func := "undercroft/undercroftlaw23.AuditCommon", spec := "auditCommon", inPlace := ["internal/reflectlite.ValueOf", "(internal/reflectlite.Value).Type", "(internal/reflectlite.Value).IsNil", "internal/reflectlite.TypeOf", "(internal/reflectlite.Value).Elem", "(internal/reflectlite.Value).Set", "internal/bytealg.IndexByteString", "internal/bytealg.IndexString", "slices.overlaps[undercroft/dir.Entry]", "slices.overlaps[undercroft/client.Last]"], unfollowed := true, recurses := true, named := ["errors.errorType", "internal/bytealg.MaxLen", "unicode/utf8.first", "unicode/utf8.acceptRanges"], plainKeys := false, apart := false, laid := [("unicode/utf8.acceptRanges", laid_unicode_utf8_acceptRanges), ("errors.errorType", laid_errors_errorType), ("unicode/utf8.first", laid_unicode_utf8_first)], narrowed := true }
def AuditCommonUptoSaid : Prop := auditCommonUptoRow.holds Tryz.pinned (OpenSpec.upto auditCommonSpec)

/-- 'undercroftlaw23.AuditBegins', WHERE WHAT IT READS IS OF BULK AT MOST 1048576: true; the input reads as it did. -/
def auditBeginsUptoRow : OpenClaim := { program := "ytonglhkiobibgaagreatdoor", sum := "2dc44f7a5a1037b81ec2555f6ceeb61f49d536991c3a7546bc2658c9f8a09252", func := "undercroft/undercroftlaw23.AuditBegins", spec := "auditBegins", inPlace := ["internal/reflectlite.ValueOf", "(internal/reflectlite.Value).Type", "(internal/reflectlite.Value).IsNil", "internal/reflectlite.TypeOf", "(internal/reflectlite.Value).Elem", "(internal/reflectlite.Value).Set", "internal/bytealg.IndexByteString", "internal/bytealg.IndexString", "slices.overlaps[undercroft/dir.Entry]", "slices.overlaps[undercroft/client.Last]"], unfollowed := true, recurses := true, named := ["errors.errorType", "internal/bytealg.MaxLen", "unicode/utf8.first", "unicode/utf8.acceptRanges"], plainKeys := false, apart := false, laid := [("unicode/utf8.acceptRanges", laid_unicode_utf8_acceptRanges), ("errors.errorType", laid_errors_errorType), ("unicode/utf8.first", laid_unicode_utf8_first)], narrowed := true }
def AuditBeginsUptoSaid : Prop := auditBeginsUptoRow.holds Tryz.pinned (OpenSpec.upto auditBeginsSpec)

end Rows
end Go.Proofs.YtonglhkiobibgaaGreatDoor
