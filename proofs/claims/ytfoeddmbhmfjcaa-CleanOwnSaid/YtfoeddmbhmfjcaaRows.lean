/-
  No cell of these rows narrows 'for every input' (looked for: loops, veiled, ifaces, maps, wideKeys, modest, calm, conditions, laid).
  DERIVED. THE GIVEN ROWS OF THIS SEAT. 12 by the template 'for every input the law returns true; each argument reads behind the call as it read before'; 0 by the template 'total and deterministic' (their statements: YtfoeddmbhmfjcaaTotals.lean).
  GIVEN WITH THE SEED: the statements are not yours to turn. If you find one false, say at which input.
  Laid BY PROGRAM, IN A SANDBOX (cutbox-rows.mjs): the forced cells as the released guide's own fill.sh prints them over the translation 3d6ccdaf70e59f29… (all of the seat's roots in one cut). By AI agents, Wed Nov 11 2026. No macro, syntax, notation, axiom, sorry.
-/
import Derived.Test.YtfoeddmbhmfjcaaChecked
import GoSem.Claim
import GoSem.ClaimJoined
import GoSem.ClaimMapViews
import Derived.JoinedTies
import Derived.KernelRfl
namespace Go.Proofs.Ytfoeddmbhmfjcaa
/- THE CELL 'sum', in the pinned program and in every row, IS THE sha256 OF THE DUMP (.gsa) THAT YtfoeddmbhmfjcaaProg.lean LOADS. Nothing in Lean hashes anything: it is a label: what it is worth is what the hold of that sum in a sandbox is worth. -/
noncomputable def Try.pinned : Pinned := { name := "ytfoeddmbhmfjcaa", sum := "3d6ccdaf70e59f29093bf1fc6fa03e4fc785b907d5c2182efd132df15baa4ecd", checked := Try.checked }
namespace Rows
def none {H : Type} : Left H := { results := [], args := [] }

/-- 'undercroftlaw16.CleanScores': WHATEVER THE INPUT: true; the input reads as it did. -/
def cleanScoresSpec : ChangeSpec := { name := "cleanScores", fn := fun _ => fun
  | [d1, d2, d3] => { results := [.lit (.bool true)], args := [d1, d2, d3] }
  | _ => none }
def cleanScoresRow : OpenClaim := { program := "ytfoeddmbhmfjcaa", sum := "3d6ccdaf70e59f29093bf1fc6fa03e4fc785b907d5c2182efd132df15baa4ecd", func := "undercroft/undercroftlaw16.CleanScores", spec := "cleanScores", plainKeys := false, apart := false }
def CleanScoresSaid : Prop := cleanScoresRow.holds Try.pinned (OpenSpec.ofChange cleanScoresSpec)

/-- ITS FALSE NEIGHBOUR: 'it returns false'. Refute it at one input. -/
def cleanScoresWrong : ChangeSpec := { name := "cleanScores", fn := fun _ => fun
  | [d1, d2, d3] => { results := [.lit (.bool false)], args := [d1, d2, d3] }
  | _ => none }
def CleanScoresWrongFalsely : Prop := cleanScoresRow.holds Try.pinned (OpenSpec.ofChange cleanScoresWrong)

/-- 'undercroftlaw15.LogSeals': WHATEVER THE INPUT: true; the input reads as it did. -/
def logSealsSpec : ChangeSpec := { name := "logSeals", fn := fun _ => fun
  | [d1, d2] => { results := [.lit (.bool true)], args := [d1, d2] }
  | _ => none }
def logSealsRow : OpenClaim := { program := "ytfoeddmbhmfjcaa", sum := "3d6ccdaf70e59f29093bf1fc6fa03e4fc785b907d5c2182efd132df15baa4ecd", func := "undercroft/undercroftlaw15.LogSeals", spec := "logSeals", unfollowed := true, recurses := true, plainKeys := false, apart := false }
def LogSealsSaid : Prop := logSealsRow.holds Try.pinned (OpenSpec.ofChange logSealsSpec)

/-- ITS FALSE NEIGHBOUR: 'it returns false'. Refute it at one input. -/
def logSealsWrong : ChangeSpec := { name := "logSeals", fn := fun _ => fun
  | [d1, d2] => { results := [.lit (.bool false)], args := [d1, d2] }
  | _ => none }
def LogSealsWrongFalsely : Prop := logSealsRow.holds Try.pinned (OpenSpec.ofChange logSealsWrong)

/-- 'undercroftlaw15.LogOwn': WHATEVER THE INPUT: true; the input reads as it did. -/
def logOwnSpec : ChangeSpec := { name := "logOwn", fn := fun _ => fun
  | [d1, d2] => { results := [.lit (.bool true)], args := [d1, d2] }
  | _ => none }
def logOwnRow : OpenClaim := { program := "ytfoeddmbhmfjcaa", sum := "3d6ccdaf70e59f29093bf1fc6fa03e4fc785b907d5c2182efd132df15baa4ecd", func := "undercroft/undercroftlaw15.LogOwn", spec := "logOwn", unfollowed := true, recurses := true, plainKeys := false, apart := false }
def LogOwnSaid : Prop := logOwnRow.holds Try.pinned (OpenSpec.ofChange logOwnSpec)

/-- ITS FALSE NEIGHBOUR: 'it returns false'. Refute it at one input. -/
def logOwnWrong : ChangeSpec := { name := "logOwn", fn := fun _ => fun
  | [d1, d2] => { results := [.lit (.bool false)], args := [d1, d2] }
  | _ => none }
def LogOwnWrongFalsely : Prop := logOwnRow.holds Try.pinned (OpenSpec.ofChange logOwnWrong)

/-- 'undercroftlaw16.CleanNever': WHATEVER THE INPUT: true; the input reads as it did. -/
def cleanNeverSpec : ChangeSpec := { name := "cleanNever", fn := fun _ => fun
  | [d1, d2, d3] => { results := [.lit (.bool true)], args := [d1, d2, d3] }
  | _ => none }
def cleanNeverRow : OpenClaim := { program := "ytfoeddmbhmfjcaa", sum := "3d6ccdaf70e59f29093bf1fc6fa03e4fc785b907d5c2182efd132df15baa4ecd", func := "undercroft/undercroftlaw16.CleanNever", spec := "cleanNever", unfollowed := true, recurses := true, plainKeys := false, apart := false }
def CleanNeverSaid : Prop := cleanNeverRow.holds Try.pinned (OpenSpec.ofChange cleanNeverSpec)

/-- ITS FALSE NEIGHBOUR: 'it returns false'. Refute it at one input. -/
def cleanNeverWrong : ChangeSpec := { name := "cleanNever", fn := fun _ => fun
  | [d1, d2, d3] => { results := [.lit (.bool false)], args := [d1, d2, d3] }
  | _ => none }
def CleanNeverWrongFalsely : Prop := cleanNeverRow.holds Try.pinned (OpenSpec.ofChange cleanNeverWrong)

/-- 'undercroftlaw16.CleanOwn': WHATEVER THE INPUT: true; the input reads as it did. -/
def cleanOwnSpec : ChangeSpec := { name := "cleanOwn", fn := fun _ => fun
  | [d1, d2] => { results := [.lit (.bool true)], args := [d1, d2] }
  | _ => none }
def cleanOwnRow : OpenClaim := { program := "ytfoeddmbhmfjcaa", sum := "3d6ccdaf70e59f29093bf1fc6fa03e4fc785b907d5c2182efd132df15baa4ecd", func := "undercroft/undercroftlaw16.CleanOwn", spec := "cleanOwn", unfollowed := true, recurses := true, plainKeys := false, apart := false }
def CleanOwnSaid : Prop := cleanOwnRow.holds Try.pinned (OpenSpec.ofChange cleanOwnSpec)

/-- ITS FALSE NEIGHBOUR: 'it returns false'. Refute it at one input. -/
def cleanOwnWrong : ChangeSpec := { name := "cleanOwn", fn := fun _ => fun
  | [d1, d2] => { results := [.lit (.bool false)], args := [d1, d2] }
  | _ => none }
def CleanOwnWrongFalsely : Prop := cleanOwnRow.holds Try.pinned (OpenSpec.ofChange cleanOwnWrong)

/-- 'undercroftlaw16.CleanBest': WHATEVER THE INPUT: true; the input reads as it did. -/
def cleanBestSpec : ChangeSpec := { name := "cleanBest", fn := fun _ => fun
  | [d] => { results := [.lit (.bool true)], args := [d] }
  | _ => none }
def cleanBestRow : OpenClaim := { program := "ytfoeddmbhmfjcaa", sum := "3d6ccdaf70e59f29093bf1fc6fa03e4fc785b907d5c2182efd132df15baa4ecd", func := "undercroft/undercroftlaw16.CleanBest", spec := "cleanBest", unfollowed := true, recurses := true, plainKeys := false, apart := false }
def CleanBestSaid : Prop := cleanBestRow.holds Try.pinned (OpenSpec.ofChange cleanBestSpec)

/-- ITS FALSE NEIGHBOUR: 'it returns false'. Refute it at one input. -/
def cleanBestWrong : ChangeSpec := { name := "cleanBest", fn := fun _ => fun
  | [d] => { results := [.lit (.bool false)], args := [d] }
  | _ => none }
def CleanBestWrongFalsely : Prop := cleanBestRow.holds Try.pinned (OpenSpec.ofChange cleanBestWrong)

/-- 'undercroftlaw16.CleanTells': WHATEVER THE INPUT: true; the input reads as it did. -/
def cleanTellsSpec : ChangeSpec := { name := "cleanTells", fn := fun _ => fun
  | [d1, d2, d3, d4, d5] => { results := [.lit (.bool true)], args := [d1, d2, d3, d4, d5] }
  | _ => none }
def cleanTellsRow : OpenClaim := { program := "ytfoeddmbhmfjcaa", sum := "3d6ccdaf70e59f29093bf1fc6fa03e4fc785b907d5c2182efd132df15baa4ecd", func := "undercroft/undercroftlaw16.CleanTells", spec := "cleanTells", unfollowed := true, recurses := true, plainKeys := false, apart := false }
def CleanTellsSaid : Prop := cleanTellsRow.holds Try.pinned (OpenSpec.ofChange cleanTellsSpec)

/-- ITS FALSE NEIGHBOUR: 'it returns false'. Refute it at one input. -/
def cleanTellsWrong : ChangeSpec := { name := "cleanTells", fn := fun _ => fun
  | [d1, d2, d3, d4, d5] => { results := [.lit (.bool false)], args := [d1, d2, d3, d4, d5] }
  | _ => none }
def CleanTellsWrongFalsely : Prop := cleanTellsRow.holds Try.pinned (OpenSpec.ofChange cleanTellsWrong)

/-- 'undercroftlaw15.LogTells': WHATEVER THE INPUT: true; the input reads as it did. -/
def logTellsSpec : ChangeSpec := { name := "logTells", fn := fun _ => fun
  | [d1, d2, d3, d4] => { results := [.lit (.bool true)], args := [d1, d2, d3, d4] }
  | _ => none }
def logTellsRow : OpenClaim := { program := "ytfoeddmbhmfjcaa", sum := "3d6ccdaf70e59f29093bf1fc6fa03e4fc785b907d5c2182efd132df15baa4ecd", func := "undercroft/undercroftlaw15.LogTells", spec := "logTells", unfollowed := true, recurses := true, plainKeys := false, apart := false }
def LogTellsSaid : Prop := logTellsRow.holds Try.pinned (OpenSpec.ofChange logTellsSpec)

/-- ITS FALSE NEIGHBOUR: 'it returns false'. Refute it at one input. -/
def logTellsWrong : ChangeSpec := { name := "logTells", fn := fun _ => fun
  | [d1, d2, d3, d4] => { results := [.lit (.bool false)], args := [d1, d2, d3, d4] }
  | _ => none }
def LogTellsWrongFalsely : Prop := logTellsRow.holds Try.pinned (OpenSpec.ofChange logTellsWrong)

/-- 'undercroftlaw15.LogMap': WHATEVER THE INPUT: true; the input reads as it did. -/
def logMapSpec : ChangeSpec := { name := "logMap", fn := fun _ => fun
  | [d1, d2] => { results := [.lit (.bool true)], args := [d1, d2] }
  | _ => none }
def logMapRow : OpenClaim := { program := "ytfoeddmbhmfjcaa", sum := "3d6ccdaf70e59f29093bf1fc6fa03e4fc785b907d5c2182efd132df15baa4ecd", func := "undercroft/undercroftlaw15.LogMap", spec := "logMap", unfollowed := true, recurses := true, plainKeys := false, apart := false }
def LogMapSaid : Prop := logMapRow.holds Try.pinned (OpenSpec.ofChange logMapSpec)

/-- ITS FALSE NEIGHBOUR: 'it returns false'. Refute it at one input. -/
def logMapWrong : ChangeSpec := { name := "logMap", fn := fun _ => fun
  | [d1, d2] => { results := [.lit (.bool false)], args := [d1, d2] }
  | _ => none }
def LogMapWrongFalsely : Prop := logMapRow.holds Try.pinned (OpenSpec.ofChange logMapWrong)

/-- 'undercroftlaw15.LogFrees': WHATEVER THE INPUT: true; the input reads as it did. -/
def logFreesSpec : ChangeSpec := { name := "logFrees", fn := fun _ => fun
  | [d1, d2] => { results := [.lit (.bool true)], args := [d1, d2] }
  | _ => none }
def logFreesRow : OpenClaim := { program := "ytfoeddmbhmfjcaa", sum := "3d6ccdaf70e59f29093bf1fc6fa03e4fc785b907d5c2182efd132df15baa4ecd", func := "undercroft/undercroftlaw15.LogFrees", spec := "logFrees", unfollowed := true, recurses := true, plainKeys := false, apart := false }
def LogFreesSaid : Prop := logFreesRow.holds Try.pinned (OpenSpec.ofChange logFreesSpec)

/-- ITS FALSE NEIGHBOUR: 'it returns false'. Refute it at one input. -/
def logFreesWrong : ChangeSpec := { name := "logFrees", fn := fun _ => fun
  | [d1, d2] => { results := [.lit (.bool false)], args := [d1, d2] }
  | _ => none }
def LogFreesWrongFalsely : Prop := logFreesRow.holds Try.pinned (OpenSpec.ofChange logFreesWrong)

/-- 'undercroftlaw15.LogAgain': WHATEVER THE INPUT: true; the input reads as it did. -/
def logAgainSpec : ChangeSpec := { name := "logAgain", fn := fun _ => fun
  | [d1, d2] => { results := [.lit (.bool true)], args := [d1, d2] }
  | _ => none }
def logAgainRow : OpenClaim := { program := "ytfoeddmbhmfjcaa", sum := "3d6ccdaf70e59f29093bf1fc6fa03e4fc785b907d5c2182efd132df15baa4ecd", func := "undercroft/undercroftlaw15.LogAgain", spec := "logAgain", unfollowed := true, recurses := true, plainKeys := false, apart := false }
def LogAgainSaid : Prop := logAgainRow.holds Try.pinned (OpenSpec.ofChange logAgainSpec)

/-- ITS FALSE NEIGHBOUR: 'it returns false'. Refute it at one input. -/
def logAgainWrong : ChangeSpec := { name := "logAgain", fn := fun _ => fun
  | [d1, d2] => { results := [.lit (.bool false)], args := [d1, d2] }
  | _ => none }
def LogAgainWrongFalsely : Prop := logAgainRow.holds Try.pinned (OpenSpec.ofChange logAgainWrong)

/-- 'undercroftlaw16.CleanKeeps': WHATEVER THE INPUT: true; the input reads as it did. -/
def cleanKeepsSpec : ChangeSpec := { name := "cleanKeeps", fn := fun _ => fun
  | [d1, d2] => { results := [.lit (.bool true)], args := [d1, d2] }
  | _ => none }
def cleanKeepsRow : OpenClaim := { program := "ytfoeddmbhmfjcaa", sum := "3d6ccdaf70e59f29093bf1fc6fa03e4fc785b907d5c2182efd132df15baa4ecd", func := "undercroft/undercroftlaw16.CleanKeeps", spec := "cleanKeeps", unfollowed := true, recurses := true, plainKeys := false, apart := false }
def CleanKeepsSaid : Prop := cleanKeepsRow.holds Try.pinned (OpenSpec.ofChange cleanKeepsSpec)

/-- ITS FALSE NEIGHBOUR: 'it returns false'. Refute it at one input. -/
def cleanKeepsWrong : ChangeSpec := { name := "cleanKeeps", fn := fun _ => fun
  | [d1, d2] => { results := [.lit (.bool false)], args := [d1, d2] }
  | _ => none }
def CleanKeepsWrongFalsely : Prop := cleanKeepsRow.holds Try.pinned (OpenSpec.ofChange cleanKeepsWrong)

/- THE SECOND FORM. 'bulk': how many values and letters a reading holds, each counted each time it is reached (what is shared counts as often as it is met; a slice's spare places count too). A statement '..UptoSaid' is the law's where the arguments, and the package variables that the reading takes, are together of bulk at most 1048576: NARROWER than '..Said'. Prove '..Said' where nothing that the law and all that it calls make is longer than what came in: it says more and counts as full. Else prove '..UptoSaid'. A law counts once. -/
mutual
def uptoBulk {H : Type} : DataW H → Nat
  | .lit (.string bytes) => bytes.length + 1
  | .lit _ => 1
  | .nil => 1
  | .ptr d => uptoBulk d + 1
  | .slice elems spare => uptoBulkAll elems + uptoBulkAll spare + 1
  | .agg parts => uptoBulkAll parts + 1
  | .iface _ d => uptoBulk d + 1
  | .map entries => uptoBulkEntries entries + 1
  | .held _ => 1
def uptoBulkAll {H : Type} : List (DataW H) → Nat
  | [] => 0
  | d :: r => uptoBulk d + uptoBulkAll r
def uptoBulkEntries {H : Type} : List (Lit × DataW H) → Nat
  | [] => 0
  | x :: r => uptoBulkEntry x + uptoBulkEntries r
def uptoBulkEntry {H : Type} : Lit × DataW H → Nat
  | (.string bytes, d) => bytes.length + uptoBulk d + 1
  | (_, d) => uptoBulk d + 1
 end
def uptoSmall : (H : Type) → List (DataW H) → Bool := fun _ ds => decide (uptoBulkAll ds ≤ 1048576)
def OpenSpec.upto (s : _root_.Go.ChangeSpec) : _root_.Go.OpenSpec := { _root_.Go.OpenSpec.ofChange s with cond := some uptoSmall }

/-- 'undercroftlaw16.CleanScores', WHERE WHAT IT READS IS OF BULK AT MOST 1048576: true; the input reads as it did. -/
def cleanScoresUptoRow : OpenClaim := { program := "ytfoeddmbhmfjcaa", sum := "3d6ccdaf70e59f29093bf1fc6fa03e4fc785b907d5c2182efd132df15baa4ecd", func := "undercroft/undercroftlaw16.CleanScores", spec := "cleanScores", plainKeys := false, apart := false, narrowed := true }
def CleanScoresUptoSaid : Prop := cleanScoresUptoRow.holds Try.pinned (OpenSpec.upto cleanScoresSpec)

/-- 'undercroftlaw15.LogSeals', WHERE WHAT IT READS IS OF BULK AT MOST 1048576: true; the input reads as it did. -/
def logSealsUptoRow : OpenClaim := { program := "ytfoeddmbhmfjcaa", sum := "3d6ccdaf70e59f29093bf1fc6fa03e4fc785b907d5c2182efd132df15baa4ecd", func := "undercroft/undercroftlaw15.LogSeals", spec := "logSeals", unfollowed := true, recurses := true, plainKeys := false, apart := false, narrowed := true }
def LogSealsUptoSaid : Prop := logSealsUptoRow.holds Try.pinned (OpenSpec.upto logSealsSpec)

/-- 'undercroftlaw15.LogOwn', WHERE WHAT IT READS IS OF BULK AT MOST 1048576: true; the input reads as it did. -/
def logOwnUptoRow : OpenClaim := { program := "ytfoeddmbhmfjcaa", sum := "3d6ccdaf70e59f29093bf1fc6fa03e4fc785b907d5c2182efd132df15baa4ecd", func := "undercroft/undercroftlaw15.LogOwn", spec := "logOwn", unfollowed := true, recurses := true, plainKeys := false, apart := false, narrowed := true }
def LogOwnUptoSaid : Prop := logOwnUptoRow.holds Try.pinned (OpenSpec.upto logOwnSpec)

/-- 'undercroftlaw16.CleanNever', WHERE WHAT IT READS IS OF BULK AT MOST 1048576: true; the input reads as it did. -/
def cleanNeverUptoRow : OpenClaim := { program := "ytfoeddmbhmfjcaa", sum := "3d6ccdaf70e59f29093bf1fc6fa03e4fc785b907d5c2182efd132df15baa4ecd", func := "undercroft/undercroftlaw16.CleanNever", spec := "cleanNever", unfollowed := true, recurses := true, plainKeys := false, apart := false, narrowed := true }
def CleanNeverUptoSaid : Prop := cleanNeverUptoRow.holds Try.pinned (OpenSpec.upto cleanNeverSpec)

/-- 'undercroftlaw16.CleanOwn', WHERE WHAT IT READS IS OF BULK AT MOST 1048576: true; the input reads as it did. -/
def cleanOwnUptoRow : OpenClaim := { program := "ytfoeddmbhmfjcaa", sum := "3d6ccdaf70e59f29093bf1fc6fa03e4fc785b907d5c2182efd132df15baa4ecd", func := "undercroft/undercroftlaw16.CleanOwn", spec := "cleanOwn", unfollowed := true, recurses := true, plainKeys := false, apart := false, narrowed := true }
def CleanOwnUptoSaid : Prop := cleanOwnUptoRow.holds Try.pinned (OpenSpec.upto cleanOwnSpec)

/-- 'undercroftlaw16.CleanBest', WHERE WHAT IT READS IS OF BULK AT MOST 1048576: true; the input reads as it did. -/
def cleanBestUptoRow : OpenClaim := { program := "ytfoeddmbhmfjcaa", sum := "3d6ccdaf70e59f29093bf1fc6fa03e4fc785b907d5c2182efd132df15baa4ecd", func := "undercroft/undercroftlaw16.CleanBest", spec := "cleanBest", unfollowed := true, recurses := true, plainKeys := false, apart := false, narrowed := true }
def CleanBestUptoSaid : Prop := cleanBestUptoRow.holds Try.pinned (OpenSpec.upto cleanBestSpec)

/-- 'undercroftlaw16.CleanTells', WHERE WHAT IT READS IS OF BULK AT MOST 1048576: true; the input reads as it did. -/
def cleanTellsUptoRow : OpenClaim := { program := "ytfoeddmbhmfjcaa", sum := "3d6ccdaf70e59f29093bf1fc6fa03e4fc785b907d5c2182efd132df15baa4ecd", func := "undercroft/undercroftlaw16.CleanTells", spec := "cleanTells", unfollowed := true, recurses := true, plainKeys := false, apart := false, narrowed := true }
def CleanTellsUptoSaid : Prop := cleanTellsUptoRow.holds Try.pinned (OpenSpec.upto cleanTellsSpec)

/-- 'undercroftlaw15.LogTells', WHERE WHAT IT READS IS OF BULK AT MOST 1048576: true; the input reads as it did. -/
def logTellsUptoRow : OpenClaim := { program := "ytfoeddmbhmfjcaa", sum := "3d6ccdaf70e59f29093bf1fc6fa03e4fc785b907d5c2182efd132df15baa4ecd", func := "undercroft/undercroftlaw15.LogTells", spec := "logTells", unfollowed := true, recurses := true, plainKeys := false, apart := false, narrowed := true }
def LogTellsUptoSaid : Prop := logTellsUptoRow.holds Try.pinned (OpenSpec.upto logTellsSpec)

/-- 'undercroftlaw15.LogMap', WHERE WHAT IT READS IS OF BULK AT MOST 1048576: true; the input reads as it did. -/
def logMapUptoRow : OpenClaim := { program := "ytfoeddmbhmfjcaa", sum := "3d6ccdaf70e59f29093bf1fc6fa03e4fc785b907d5c2182efd132df15baa4ecd", func := "undercroft/undercroftlaw15.LogMap", spec := "logMap", unfollowed := true, recurses := true, plainKeys := false, apart := false, narrowed := true }
def LogMapUptoSaid : Prop := logMapUptoRow.holds Try.pinned (OpenSpec.upto logMapSpec)

/-- 'undercroftlaw15.LogFrees', WHERE WHAT IT READS IS OF BULK AT MOST 1048576: true; the input reads as it did. -/
def logFreesUptoRow : OpenClaim := { program := "ytfoeddmbhmfjcaa", sum := "3d6ccdaf70e59f29093bf1fc6fa03e4fc785b907d5c2182efd132df15baa4ecd", func := "undercroft/undercroftlaw15.LogFrees", spec := "logFrees", unfollowed := true, recurses := true, plainKeys := false, apart := false, narrowed := true }
def LogFreesUptoSaid : Prop := logFreesUptoRow.holds Try.pinned (OpenSpec.upto logFreesSpec)

/-- 'undercroftlaw15.LogAgain', WHERE WHAT IT READS IS OF BULK AT MOST 1048576: true; the input reads as it did. -/
def logAgainUptoRow : OpenClaim := { program := "ytfoeddmbhmfjcaa", sum := "3d6ccdaf70e59f29093bf1fc6fa03e4fc785b907d5c2182efd132df15baa4ecd", func := "undercroft/undercroftlaw15.LogAgain", spec := "logAgain", unfollowed := true, recurses := true, plainKeys := false, apart := false, narrowed := true }
def LogAgainUptoSaid : Prop := logAgainUptoRow.holds Try.pinned (OpenSpec.upto logAgainSpec)

/-- 'undercroftlaw16.CleanKeeps', WHERE WHAT IT READS IS OF BULK AT MOST 1048576: true; the input reads as it did. -/
def cleanKeepsUptoRow : OpenClaim := { program := "ytfoeddmbhmfjcaa", sum := "3d6ccdaf70e59f29093bf1fc6fa03e4fc785b907d5c2182efd132df15baa4ecd", func := "undercroft/undercroftlaw16.CleanKeeps", spec := "cleanKeeps", unfollowed := true, recurses := true, plainKeys := false, apart := false, narrowed := true }
def CleanKeepsUptoSaid : Prop := cleanKeepsUptoRow.holds Try.pinned (OpenSpec.upto cleanKeepsSpec)

end Rows
end Go.Proofs.Ytfoeddmbhmfjcaa
