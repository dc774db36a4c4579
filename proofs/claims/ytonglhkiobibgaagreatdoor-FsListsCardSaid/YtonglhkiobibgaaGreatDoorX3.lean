/- Merged texts: RB, RD, KM, H1, H2, H3, G0, G1, KF, G2, G3, G4, G5, H4, H5, H6, H7, H8, UJ, UK, UC, T3, KD, UD, UE, UF, UG, UH, UI, UL, UM, UN, UO, KE, UP, UQ, UR, US, H9, AU, IE, HA, IH, AQ, AS, BM, BZ, II, IJ, IF, BT. -/
import Derived.Test.YtonglhkiobibgaaGreatDoorX2
import Derived.Test.YtonglhkiobibgaaGreatDoorRows
import Derived.LaidLaws
import Derived.LaidHandle
import Derived.LaidMore
import Derived.Lay
import Derived.SevenTiedAt
import Derived.Stop.Joined
import Derived.Lib.Bytealg
import Derived.Test.YtonglhkiobibgaaGreatDoorProg
import Derived.WalkKit
import Derived.LaidEql
import Derived.Stop.Asserts
import Derived.RowKitTokens
import Derived.Test.YtonglhkiobibgaaGreatDoorX1
import Derived.RangeFuncNested
import Derived.RangeFuncBound
import Derived.RangeFuncCalls
import Derived.Maps.RangeWalk
import Derived.Lib.SliceRun
import Derived.Shelf.SlSortCmp.NoneTotal
import Derived.Test.YtonglhkiobibgaaGreatDoorX0
set_option linter.unusedSimpArgs false
set_option linter.unusedVariables false
namespace Go.Proofs.YtonglhkiobibgaaGreatDoor
open Go.RowKit
set_option maxRecDepth 100000
def okBytes (l : List Int) : Prop := l.length * 1 ≤ reachB ∧ ∀ x ∈ l, (Lit.int .u8 x).wf = true
def wf64 (x : Int) : Prop := (Lit.int .i64 x).wf = true
theorem okBytes_le {l : List Int} (h : okBytes l) : l.length ≤ 140737488351232 := by have := h.1; unfold reachB at this; omega
theorem eB_flat (l : List Int) : eB l = l.flatMap fun x => [.v (.int .u8 x)] := by simp [eB, List.map_eq_flatMap]
theorem rdt_bytes : Rd Tryz.prog 37 (fun fr l => [fB fr l]) okBytes :=
  (rd_slice (B := 1) Tryz.underlying37 (by kernel_rfl) (by kernel_rfl) (by rw [show Tryz.prog.cellsOf 5 = 1 from by kernel_rfl]; decide) (rd_int Tryz.underlying5 (by kernel_rfl))).map id id (fun fr b => by simp [fB, eB_flat]) (fun fr b => by simp [fB, eB_flat]) fun a h => h
theorem rdt_num : Rd Tryz.prog 3 (fun _ x => [.v (.int .i64 x)]) wf64 := rd_int Tryz.underlying3 (by kernel_rfl)
theorem laid : laidOutB Tryz.prog = true := by kernel_rfl
def lst : List (String × DataW Unit) := [("unicode/utf8.acceptRanges", Rows.laid_unicode_utf8_acceptRanges), ("errors.errorType", Rows.laid_errors_errorType), ("unicode/utf8.first", Rows.laid_unicode_utf8_first)]
theorem own : ownKnob Tryz.prog.godebug = none := by kernel_rfl
theorem et : Tryz.prog.globalNamed "errors.errorType" = some 0 := by kernel_rfl
theorem rtT : (Tryz.prog.cutTypes.find? (·.1 == "internal/reflectlite.rtype")).map (·.2) = some 342 := by kernel_rfl
theorem tsize : Tryz.prog.types.size = 459 := by kernel_rfl
theorem oneRow : ((List.range 459).filter fun t => Tryz.prog.rowNamed t [101, 114, 114, 111, 114]) = [102] := by kernel_rfl
theorem glob_of_laid {W : World} (h : laidMetH Tryz.prog lst W) : ∀ b v, GLOB b = some v → W.cell? ⟨b, 0, none⟩ = some v := by
  intro b v hb
  have h' : laidMet Tryz.prog (lst.filter fun x => x.2.handleName?.isNone) W ∧ handlesMet Tryz.prog (lst.filter fun x => x.2.handleName?.isSome) W := h
  obtain ⟨name, u, ty, e1, e2, e3, e4, e5⟩ := h'.2 ("errors.errorType", Rows.laid_errors_errorType) (by simp [lst]; decide)
  have en : name = [101, 114, 114, 111, 114] := (Option.some.inj e1).symm
  subst en
  obtain rfl := Option.some.inj (rtT.symm.trans e2)
  have hm : ty ∈ (List.range 459).filter fun t => Tryz.prog.rowNamed t [101, 114, 114, 111, 114] := List.mem_filter.2 ⟨List.mem_range.2 (by rw [← tsize]; exact e3), e4⟩
  rw [oneRow] at hm
  obtain rfl := List.mem_singleton.1 hm
  have hh : typeHandle Tryz.prog 102 = .pointer (some ⟨4, 102, none⟩) := by kernel_rfl
  rw [hh] at e5
  have hc : W.cell? ⟨0, 0, none⟩ = some (.iface 342 (.agg #[.pointer (some ⟨4, 102, none⟩)])) := by simpa using World.var?_cell et e5 0
  unfold GLOB at hb
  split at hb
  · rename_i e; subst e; cases hb; exact hc
  · cases hb
/-- a world that holds it -/
noncomputable def laidW0 (os : Os) : World :=
  let w0 := World.holding Tryz.prog os ⟨#[], #[], []⟩
  { w0 with heap := w0.heap.modify 0 fun
      | .cells _ t frozen => .cells #[.iface 342 (.agg #[.pointer (some ⟨4, 102, none⟩)])] t frozen
      | o => o }
def lstD : List (String × DataW Unit) := [("unicode/utf8.acceptRanges", Rows.laid_unicode_utf8_acceptRanges), ("unicode/utf8.first", Rows.laid_unicode_utf8_first)]
noncomputable def laidWorld (os : Os) : World := (laidW0 os).layVars Tryz.prog lstD
theorem laidWorld_os (os : Os) : (laidWorld os).os = os := World.layVars_os _ _ _
theorem laidWorld_met (os : Os) (args : Array Value) : laidMetH Tryz.prog lst ((laidWorld os).forCall (fun _ _ => 0) ⟨#[], args, []⟩).memory := by
  refine laidMetH_of_parts ?_ (by kernel_rfl)
  have e : (lst.filter fun x => x.2.handleName?.isNone) = lstD := by rfl
  rw [e]
  have e1 : (lstD.filter fun x => ["unicode/utf8.acceptRanges", "unicode/utf8.first"].contains x.1) = lstD := by rfl
  have e2 : (lstD.filter fun x => !["unicode/utf8.acceptRanges", "unicode/utf8.first"].contains x.1) = [] := by rfl
  have h : laidMet Tryz.prog lstD (laidWorld os) := laidMet_layVars (w0 := laidW0 os) ["unicode/utf8.acceptRanges", "unicode/utf8.first"] [] (by rw [e1]; rfl) (by rw [e1]; kernel_rfl) (by rw [e1]; kernel_rfl) (by rw [e2]; exact LaidIn.none)
  exact h.of_heap (by simp [World.memory, World.forCall, Input.heap])
theorem laidWorld_shaped (os : Os) (args : Array Value) : ((laidWorld os).forCall (fun _ _ => 0) ⟨#[], args, []⟩).Shaped Tryz.prog := World.shaped_of_ZipB (by kernel_rfl) (by kernel_rfl)
theorem looksT : true = Tryz.pinned.checked.prog.looks [] := by kernel_rfl
theorem mainT : Tryz.pinned.checked.prog.mainIs = some ((true, "99614a6981dfa3949a41461e4baab9d71b1d837fc286f2318c98390de9c6db5d").1, (true, "99614a6981dfa3949a41461e4baab9d71b1d837fc286f2318c98390de9c6db5d").2.toList) := by kernel_rfl
end Go.Proofs.YtonglhkiobibgaaGreatDoor
namespace Go.Proofs.YtonglhkiobibgaaGreatDoor
open Go.RowKit
set_option maxRecDepth 100000
theorem rd_string {P : Program} {t : TypeId} (ht : P.underlying t = some .string) (hc : P.cellsOf t = 1) : Rd P t (fun _ x => [.v (.string x)]) (fun x => x.size ≤ maxLen) where
  len _ := hc.symm
  rd := by
    intro H enc W fuel cs x h _
    obtain ⟨n, rfl, _, hw⟩ := DataW.trod_string ht h
    exact ⟨n, hw, _, [], rfl, rfl, rfl, rfl⟩
theorem rdt_str : Rd Tryz.prog 9 (fun _ x => [.v (.string x)]) (fun x => x.size ≤ maxLen) := rd_string Tryz.underlying9 (by kernel_rfl)
end Go.Proofs.YtonglhkiobibgaaGreatDoor
namespace Go.Proofs.YtonglhkiobibgaaGreatDoor
open Go.RowKit
set_option maxRecDepth 100000
end Go.Proofs.YtonglhkiobibgaaGreatDoor
namespace Go.Proofs.YtonglhkiobibgaaGreatDoor
open Go.RowKit
set_option maxRecDepth 100000
end Go.Proofs.YtonglhkiobibgaaGreatDoor
namespace Go.Proofs.YtonglhkiobibgaaGreatDoor
open Go.RowKit
set_option maxRecDepth 100000
structure Ent where
  name : ByteArray
  ino : Int
structure Bk where
  index : Int
  data : List Int
structure Fl where
  size : Int
  blocks : List Bk
structure Nd where
  ino : Int
  dir : Bool
  links : Int
  entries : List Ent
  file : Fl
structure FSt where
  nodes : List Nd
  next : Int
def eEnt (e : Ent) : List AV := [.v (.string e.name), .v (.int .i64 e.ino)]
def eEnts (l : List Ent) : List AV := l.flatMap eEnt
def fEnts (fr : Bool) (l : List Ent) : AV := .fs fr (eEnts l) l.length
def eBk (fr : Bool) (b : Bk) : List AV := [.v (.int .i64 b.index), .fs fr (eB b.data) b.data.length]
def eBks (fr : Bool) (l : List Bk) : List AV := l.flatMap (eBk fr)
def fBks (fr : Bool) (l : List Bk) : AV := .fs fr (eBks fr l) l.length
def aFl (fr : Bool) (f : Fl) : AV := .agg [.v (.int .i64 f.size), fBks fr f.blocks]
def eNd (fr : Bool) (n : Nd) : List AV := [.v (.int .i64 n.ino), .v (.bool n.dir), .v (.int .i64 n.links), fEnts fr n.entries, .v (.int .i64 n.file.size), fBks fr n.file.blocks]
def eNds (fr : Bool) (l : List Nd) : List AV := l.flatMap (eNd fr)
def fNds (fr : Bool) (l : List Nd) : AV := .fs fr (eNds fr l) l.length
def aFs (fr : Bool) (s : FSt) : AV := .agg [fNds fr s.nodes, .v (.int .i64 s.next)]
section
variable {fr : Bool} {p : Nat → Prop}
theorem al_Ents (l : List Ent) : AlL p (eEnts l) := AlL_flat (e := eEnt) (fun e => ⟨trivial, trivial, trivial⟩) l
theorem al_fEnts (l : List Ent) : Al p (fEnts fr l) := al_Ents l
theorem al_Bks (l : List Bk) : AlL p (eBks fr l) := AlL_flat (e := eBk fr) (fun b => ⟨trivial, al_B _, trivial⟩) l
theorem al_fBks (l : List Bk) : Al p (fBks fr l) := al_Bks l
theorem al_aFl (f : Fl) : Al p (aFl fr f) := ⟨trivial, al_fBks _, trivial⟩
theorem al_Nd (n : Nd) : AlL p (eNd fr n) := ⟨trivial, trivial, trivial, al_fEnts _, trivial, al_fBks _, trivial⟩
theorem al_Nds (l : List Nd) : AlL p (eNds fr l) := AlL_flat (fun n => al_Nd n) l
theorem al_fNds (l : List Nd) : Al p (fNds fr l) := al_Nds l
theorem al_aFs (s : FSt) : Al p (aFs fr s) := ⟨al_fNds _, trivial, trivial⟩
theorem ren_Ents {ρ : Nat → Nat} (l : List Ent) : renL ρ (eEnts l) = eEnts l := renL_id (p := fun _ => False) (fun _ h => h.elim) (al_Ents l)
theorem ren_Bks {ρ : Nat → Nat} (l : List Bk) : renL ρ (eBks fr l) = eBks fr l := renL_id (p := fun _ => False) (fun _ h => h.elim) (al_Bks l)
theorem ren_Nds {ρ : Nat → Nat} (l : List Nd) : renL ρ (eNds fr l) = eNds fr l := renL_id (p := fun _ => False) (fun _ h => h.elim) (al_Nds l)
theorem len_Ents (l : List Ent) : (eEnts l).length = l.length * 2 := flat_len (e := eEnt) (k := 2) (fun _ => rfl) l
theorem len_Bks (l : List Bk) : (eBks fr l).length = l.length * 2 := flat_len (e := eBk fr) (k := 2) (fun _ => rfl) l
theorem len_Nds (l : List Nd) : (eNds fr l).length = l.length * 6 := flat_len (e := eNd fr) (k := 6) (fun _ => rfl) l
theorem get_Ents {l : List Ent} {i : Nat} {e : Ent} (h : l[i]? = some e) : (eEnts l)[i * 2]? = some (.v (.string e.name)) ∧ (eEnts l)[i * 2 + 1]? = some (.v (.int .i64 e.ino)) :=
  ⟨flat_get (e := eEnt) (k := 2) (fun _ => rfl) h 0 (by omega), flat_get (e := eEnt) (k := 2) (fun _ => rfl) h 1 (by omega)⟩
theorem get_Bks {l : List Bk} {i : Nat} {b : Bk} (h : l[i]? = some b) : (eBks fr l)[i * 2]? = some (.v (.int .i64 b.index)) ∧ (eBks fr l)[i * 2 + 1]? = some (.fs fr (eB b.data) b.data.length) :=
  ⟨flat_get (e := eBk fr) (k := 2) (fun _ => rfl) h 0 (by omega), flat_get (e := eBk fr) (k := 2) (fun _ => rfl) h 1 (by omega)⟩
theorem get_Nds {l : List Nd} {i : Nat} {n : Nd} (h : l[i]? = some n) : (eNds fr l)[i * 6]? = some (.v (.int .i64 n.ino)) ∧ (eNds fr l)[i * 6 + 1]? = some (.v (.bool n.dir)) ∧ (eNds fr l)[i * 6 + 2]? = some (.v (.int .i64 n.links)) ∧
    (eNds fr l)[i * 6 + 3]? = some (.fs fr (eEnts n.entries) n.entries.length) ∧ (eNds fr l)[i * 6 + 4]? = some (.v (.int .i64 n.file.size)) ∧ (eNds fr l)[i * 6 + 5]? = some (.fs fr (eBks fr n.file.blocks) n.file.blocks.length) :=
  ⟨flat_get (e := eNd fr) (k := 6) (fun _ => rfl) h 0 (by omega), flat_get (e := eNd fr) (k := 6) (fun _ => rfl) h 1 (by omega), flat_get (e := eNd fr) (k := 6) (fun _ => rfl) h 2 (by omega),
   flat_get (e := eNd fr) (k := 6) (fun _ => rfl) h 3 (by omega), flat_get (e := eNd fr) (k := 6) (fun _ => rfl) h 4 (by omega), flat_get (e := eNd fr) (k := 6) (fun _ => rfl) h 5 (by omega)⟩
theorem tk_Ents (l : List Ent) : List.take (l.length * 2) (eEnts l) = eEnts l := List.take_of_length_le (by rw [len_Ents]; exact Nat.le_refl _)
theorem tk_Bks (l : List Bk) : List.take (l.length * 2) (eBks fr l) = eBks fr l := List.take_of_length_le (by rw [len_Bks]; exact Nat.le_refl _)
theorem tk_Nds (l : List Nd) : List.take (l.length * 6) (eNds fr l) = eNds fr l := List.take_of_length_le (by rw [len_Nds]; exact Nat.le_refl _)
end
/-- the root alone -/
def newF : FSt := ⟨[⟨1, true, 0, [], ⟨0, []⟩⟩], 2⟩
theorem new_spec (nb : Nat) : ASound Tryz.prog 37 [] nb (.ret (aFs true newF) []) := by
  refine ok_37.sound (by simp) trivial ?_
  simp only [ac_37, TT, ↓reduceIte, Nat.reduceEqDiff, Nat.reduceAdd, Nat.reduceMul, reduceCtorEq, Nat.reduceLeDiff]
  refine Ends.weak (Weak.freezeC 200000 rfl (l := [(0, .op 0 0)]) (h := [(0, .row true 28 [.fs true [.v (.int .i64 1), .v (.bool true), .v (.int .i64 0), .v (.slice none 0 0), .v (.int .i64 0), .v (.slice none 0 0)] 1, .v (.int .i64 2)])]) ?_ ?_)
    (Ends.imp (.inr rfl) (r0 := .agg [.fs true [.v (.int .i64 1), .v (.bool true), .v (.int .i64 0), .v (.slice none 0 0), .v (.int .i64 0), .v (.slice none 0 0)] 1, .v (.int .i64 2)]) (by simp [ET]) ⟨⟨trivial, trivial, trivial, trivial, trivial, trivial, trivial⟩, trivial, trivial⟩ ?_)
  · simp [WT]
  · simp [WT]
  · refine Imp.agg rfl (fun j a' hj => ?_)
    match j with
    | 0 =>
      simp [aFs, fNds, eNds, newF, eNd] at hj
      subst hj
      refine ⟨_, rfl, Imp.fs (fun h => h) rfl (fun j a' hj => ?_)⟩
      match j with
      | 0 => simp at hj; subst hj; exact ⟨_, rfl, Imp.refl _⟩
      | 1 => simp at hj; subst hj; exact ⟨_, rfl, Imp.refl _⟩
      | 2 => simp at hj; subst hj; exact ⟨_, rfl, Imp.refl _⟩
      | 3 => simp at hj; subst hj; exact ⟨_, rfl, Imp.nil _⟩
      | 4 => simp at hj; subst hj; exact ⟨_, rfl, Imp.refl _⟩
      | 5 => simp at hj; subst hj; exact ⟨_, rfl, Imp.nil _⟩
      | j + 6 => simp at hj
    | 1 => simp [aFs, newF] at hj; subst hj; exact ⟨_, rfl, Imp.refl _⟩
    | j + 2 => simp [aFs] at hj
end Go.Proofs.YtonglhkiobibgaaGreatDoor
namespace Go.Proofs.YtonglhkiobibgaaGreatDoor
open Go.RowKit
abbrev Ls := List (List Int)
/-- is a log the beginning of another one? -/
def begL (a b : Ls) : Prop := a.length ≤ b.length ∧ a = b.take a.length
instance (a b : Ls) : Decidable (begL a b) := inferInstanceAs (Decidable (_ ∧ _))
end Go.Proofs.YtonglhkiobibgaaGreatDoor
namespace Go.Proofs.YtonglhkiobibgaaGreatDoor
open Go.RowKit
set_option maxRecDepth 100000
end Go.Proofs.YtonglhkiobibgaaGreatDoor
namespace Go.Proofs.YtonglhkiobibgaaGreatDoor
open Go.RowKit
set_option maxRecDepth 100000
end Go.Proofs.YtonglhkiobibgaaGreatDoor
namespace Go.Proofs.YtonglhkiobibgaaGreatDoor
open Go.RowKit
set_option maxRecDepth 100000
end Go.Proofs.YtonglhkiobibgaaGreatDoor
namespace Go.Proofs.YtonglhkiobibgaaGreatDoor
open Go.RowKit
set_option maxRecDepth 100000
end Go.Proofs.YtonglhkiobibgaaGreatDoor
namespace Go.Proofs.YtonglhkiobibgaaGreatDoor
open Go.RowKit
set_option maxRecDepth 100000
end Go.Proofs.YtonglhkiobibgaaGreatDoor
namespace Go.Proofs.YtonglhkiobibgaaGreatDoor
open Go.RowKit
set_option maxRecDepth 100000
end Go.Proofs.YtonglhkiobibgaaGreatDoor
namespace Go.Proofs.YtonglhkiobibgaaGreatDoor
open Go.RowKit
set_option maxRecDepth 100000
def cmpI (a b : Int) : Int := if a < b then -1 else if b < a then 1 else 0
theorem cmpI_neg {a b : Int} : cmpI a b < 0 ↔ a < b := by unfold cmpI; split <;> (try split) <;> omega
theorem cmpI_zero {a b : Int} : cmpI a b = 0 ↔ a = b := by unfold cmpI; split <;> (try split) <;> omega
theorem nanI_spec (a : Int) (nb : Nat) : ASound Tryz.prog 127 [.v (.int .i64 a)] nb (.ret (.v (.bool false)) []) := by
  refine ok_127.sound (by simp) ⟨trivial, trivial⟩ ?_
  simp only [ac_127, TT, ↓reduceIte, Nat.reduceEqDiff, Nat.reduceAdd, Nat.reduceMul, reduceCtorEq, Nat.reduceLeDiff]
  exact Ends.data (.inr rfl) (by simp [ET]) trivial
theorem cmpI_spec (a b : Int) (nb : Nat) : ASound Tryz.prog 85 [.v (.int .i64 a), .v (.int .i64 b)] nb (.ret (.v (.int .i64 (cmpI a b))) []) := by
  refine ok_85.sound (by simp) ⟨trivial, trivial, trivial⟩ ?_
  simp only [ac_85, TT, ↓reduceIte, Nat.reduceEqDiff, Nat.reduceAdd, Nat.reduceMul, reduceCtorEq, Nat.reduceLeDiff]
  refine ⟨_, nanI_spec a _, ?_⟩
  simp only [TT, ↓reduceIte, Nat.reduceEqDiff, Nat.reduceAdd, Nat.reduceMul, reduceCtorEq, Nat.reduceLeDiff]
  refine ⟨_, nanI_spec b _, ?_⟩
  by_cases h1 : a < b
  · simp only [h1, TT, ↓reduceIte, Nat.reduceEqDiff, Nat.reduceAdd, Nat.reduceMul, reduceCtorEq, Nat.reduceLeDiff]
    exact Ends.data (.inr rfl) (by simp [ET, cmpI, h1]) trivial
  · by_cases h2 : b < a
    · simp only [h1, h2, TT, ↓reduceIte, Nat.reduceEqDiff, Nat.reduceAdd, Nat.reduceMul, reduceCtorEq, Nat.reduceLeDiff]
      exact Ends.data (.inr rfl) (by simp [ET, cmpI, h1, h2]) trivial
    · simp only [h1, h2, TT, ↓reduceIte, Nat.reduceEqDiff, Nat.reduceAdd, Nat.reduceMul, reduceCtorEq, Nat.reduceLeDiff]
      exact Ends.data (.inr rfl) (by simp [ET, cmpI, h1, h2]) trivial
theorem cmpN1_spec (fr : Bool) (n : Nd) (t : Int) (nb : Nat) : ASound Tryz.prog 84 [.agg (eNd fr n), .v (.int .i64 t)] nb (.ret (.v (.int .i64 (cmpI n.ino t))) []) := by
  refine ok_84.sound (by simp) ⟨al_Nd n, trivial, trivial⟩ ?_
  simp only [ac_84, eNd, TT, ↓reduceIte, Nat.reduceEqDiff, Nat.reduceAdd, Nat.reduceMul, reduceCtorEq, Nat.reduceLeDiff]
  refine ⟨_, cmpI_spec _ _ _, ?_⟩
  simp only [TT, ↓reduceIte, Nat.reduceEqDiff, Nat.reduceAdd, Nat.reduceMul, reduceCtorEq, Nat.reduceLeDiff]
  exact Ends.data (.inr rfl) (by simp [ET]) trivial
theorem cmpN2_spec (fr : Bool) (n : Nd) (t : Int) (nb : Nat) : ASound Tryz.prog 223 [.agg (eNd fr n), .v (.int .i64 t)] nb (.ret (.v (.int .i64 (cmpI n.ino t))) []) := by
  refine ok_223.sound (by simp) ⟨al_Nd n, trivial, trivial⟩ ?_
  simp only [ac_223, eNd, TT, ↓reduceIte, Nat.reduceEqDiff, Nat.reduceAdd, Nat.reduceMul, reduceCtorEq, Nat.reduceLeDiff]
  refine ⟨_, cmpI_spec _ _ _, ?_⟩
  simp only [TT, ↓reduceIte, Nat.reduceEqDiff, Nat.reduceAdd, Nat.reduceMul, reduceCtorEq, Nat.reduceLeDiff]
  exact Ends.data (.inr rfl) (by simp [ET]) trivial
/-- a search by halves: the first place from which on numbers are not less -/
def bsI (f : Nat → Int) (t : Int) : Nat → Nat → Nat → Nat
  | 0, i, _ => i
  | k + 1, i, j => if i < j then (if f ((i + j) / 2) < t then bsI f t k ((i + j) / 2 + 1) j else bsI f t k i ((i + j) / 2)) else i
theorem bsI_stop {f : Nat → Int} {t : Int} {k i j : Nat} (h : ¬ i < j) : bsI f t k i j = i := by
  cases k with
  | zero => rfl
  | succ k => rw [bsI, if_neg h]
def inoA (l : List Nd) (h : Nat) : Int := match l[h]? with | some n => n.ino | none => 0
theorem inoA_at {l : List Nd} {h : Nat} {n : Nd} (e : l[h]? = some n) : inoA l h = n.ino := by rw [inoA, e]
def plc (l : List Nd) (t : Int) : Nat := bsI (inoA l) t l.length 0 l.length
abbrev hasN (l : List Nd) (t : Int) : Prop := plc l t < l.length ∧ inoA l (plc l t) = t
structure Bs where
  k : Nat
  i : Nat
  j : Nat
theorem shr1 (m : Nat) : shVal .shr .u64 (m : Int) 1 = some (.int .u64 ((m / 2 : Nat) : Int)) := by
  have h : Int.fdiv (m : Int) (2 ^ min (Int.toNat 1) IntKind.u64.bits) = ((m / 2 : Nat) : Int) := by
    show Int.fdiv (m : Int) 2 = _
    rw [Int.fdiv_eq_ediv_of_nonneg _ (by decide)]
    omega
  simp only [shVal, if_neg (show ¬ ((1 : Int) < 0) by decide), h]
theorem wu64 {m : Nat} (h : m ≤ 281474976710656) : IntKind.u64.wrap (m : Int) = (m : Int) := by
  have e3 : (2 : Nat) ^ 64 = 18446744073709551616 := by decide
  rw [u64_mod]; omega
abbrev L_bs (f : Nat) (fr : Bool) (l : List Nd) (t : Int) (q : Bs) : ASt := ⟨envOf [(0, fNds fr l), (1, .v (.int .i64 t)), (2, .fn f []), (8, .v (.int .i64 l.length)), (9, .v (.int .i64 q.i)), (10, .v (.int .i64 q.j))], heapOf [], 1⟩
set_option maxHeartbeats 1000000 in
theorem bsearch_spec (f : Nat) (fr : Bool) (l : List Nd) (t : Int) (nb : Nat) (hl : l.length ≤ 140737488355328) (hf : ∀ (n : Nd) (nb : Nat), ASound Tryz.prog f [.agg (eNd fr n), .v (.int .i64 t)] nb (.ret (.v (.int .i64 (cmpI n.ino t))) [])) :
    ASound Tryz.prog 83 [fNds fr l, .v (.int .i64 t), .fn f []] nb (.ret (.tup [.v (.int .i64 (plc l t)), .v (.bool (decide (hasN l t)))]) []) := by
  refine ok_83.sound (by simp) ⟨al_fNds l, trivial, trivial, trivial⟩ ?_
  simp only [ac_83, fNds, TT, ↓reduceIte, Nat.reduceEqDiff, Nat.reduceAdd, Nat.reduceMul, reduceCtorEq, Nat.reduceLeDiff]
  refine AWc.family (L_bs f fr l t) (fun q => (q.i ≤ q.j ∧ q.j ≤ l.length ∧ q.j - q.i ≤ q.k) ∧ bsI (inoA l) t q.k q.i q.j = plc l t) (fun q => q.j - q.i) ⟨l.length, 0, l.length⟩ ⟨⟨Nat.zero_le _, Nat.le_refl _, Nat.le_refl _⟩, rfl⟩ ?_ ?_
  · refine Weak.calc [] (by decide) ?_ ?_ <;> simp [WT, al_Nds, ren_Nds, fNds]
  · rintro ⟨k, i, j⟩ ⟨⟨hi, hj, hk⟩, he⟩
    simp only at hi hj hk he
    by_cases hlt : i < j
    · obtain ⟨k, rfl⟩ : ∃ k', k = k' + 1 := ⟨k - 1, by omega⟩
      have g1 : ((i : Int) < (j : Int)) = True := eq_true (by omega)
      have w1 : IntKind.i64.wrap ((i : Int) + (j : Int)) = ((i + j : Nat) : Int) := by rw [wrap64 (by omega)]; omega
      have w2 := wu64 (m := i + j) (by omega)
      have w3 : IntKind.i64.wrap (((i + j) / 2 : Nat) : Int) = (((i + j) / 2 : Nat) : Int) := wrap64 (by omega)
      rw [bsI, if_pos hlt] at he
      generalize hm : (i + j) / 2 = m at he w3
      obtain ⟨n, hx, e1, e0⟩ := lt_at (show m < l.length by omega)
      obtain ⟨a0, a1, a2, a3, a4, a5⟩ := get_Nds (fr := fr) hx
      rw [inoA_at hx] at he
      have ho := hf n
      simp only [eNd, fEnts, fBks] at ho
      simp only [L_bs, fNds, g1, w1, w2, shr1, hm, w3, e1, e0, a0, a1, a2, a3, a4, a5, Int.toNat_natCast, TT, ↓reduceIte, Nat.reduceEqDiff, Nat.reduceAdd, Nat.reduceMul, reduceCtorEq, Nat.reduceLeDiff]
      refine ⟨_, _, _, rfl, ho _, ?_⟩
      by_cases h : n.ino < t
      · rw [if_pos h] at he
        have c1 : (cmpI n.ino t < 0) = True := eq_true (cmpI_neg.2 h)
        simp only [c1, decide_true, TT, ↓reduceIte, Nat.reduceEqDiff, Nat.reduceAdd, Nat.reduceMul, reduceCtorEq, Nat.reduceLeDiff]
        refine famC_next ⟨k, m + 1, j⟩ (by show j - (m + 1) < j - i; omega) ⟨⟨by show m + 1 ≤ j; omega, hj, by show j - (m + 1) ≤ k; omega⟩, he⟩ ?_
        refine Weak.calc [] (by decide) ?_ ?_ <;> simp [WT, al_Nds, ren_Nds, fNds, wrap64 (x := (m : Int) + 1) (by omega)]
      · rw [if_neg h] at he
        have c1 : (cmpI n.ino t < 0) = False := eq_false fun h9 => h (cmpI_neg.1 h9)
        simp only [c1, decide_false, TT, ↓reduceIte, Nat.reduceEqDiff, Nat.reduceAdd, Nat.reduceMul, reduceCtorEq, Nat.reduceLeDiff]
        refine famC_next ⟨k, i, m⟩ (by show m - i < j - i; omega) ⟨⟨by show i ≤ m; omega, by show m ≤ l.length; omega, by show m - i ≤ k; omega⟩, he⟩ ?_
        refine Weak.calc [] (by decide) ?_ ?_ <;> simp [WT, al_Nds, ren_Nds, fNds]
    · obtain rfl : i = j := by omega
      rw [bsI_stop hlt] at he
      subst he
      have g1 : ((plc l t : Int) < (plc l t : Int)) = False := eq_false (by omega)
      by_cases h9 : plc l t < l.length
      · have g2 : ((plc l t : Int) < (l.length : Int)) = True := eq_true (by omega)
        obtain ⟨n, hx, e1, e0⟩ := lt_at h9
        obtain ⟨a0, a1, a2, a3, a4, a5⟩ := get_Nds (fr := fr) hx
        have ho := hf n
        simp only [eNd, fEnts, fBks] at ho
        have hd : decide (hasN l t) = decide (cmpI n.ino t = 0) := by
          by_cases h : n.ino = t
          · rw [decide_eq_true (cmpI_zero.2 h), decide_eq_true ⟨h9, by rw [inoA_at hx, h]⟩]
          · rw [decide_eq_false fun h8 => h (cmpI_zero.1 h8), decide_eq_false fun h8 => h (by rw [← inoA_at hx]; exact h8.2)]
        rw [hd]
        simp only [L_bs, fNds, g1, g2, decide_true, e0, a0, a1, a2, a3, a4, a5, Int.toNat_natCast, TT, ↓reduceIte, Nat.reduceEqDiff, Nat.reduceAdd, Nat.reduceMul, reduceCtorEq, Nat.reduceLeDiff]
        refine ⟨_, _, _, rfl, ho _, ?_⟩
        simp only [TT, ↓reduceIte, Nat.reduceEqDiff, Nat.reduceAdd, Nat.reduceMul, reduceCtorEq, Nat.reduceLeDiff]
        exact Ends.data (.inr rfl) (by simp [ET]) ⟨trivial, trivial, trivial⟩
      · have g2 : ((plc l t : Int) < (l.length : Int)) = False := eq_false (by omega)
        have hd : decide (hasN l t) = false := decide_eq_false fun h => h9 h.1
        rw [hd]
        simp only [L_bs, fNds, g1, g2, decide_false, TT, ↓reduceIte, Nat.reduceEqDiff, Nat.reduceAdd, Nat.reduceMul, reduceCtorEq, Nat.reduceLeDiff]
        exact Ends.data (.inr rfl) (by simp [ET]) ⟨trivial, trivial, trivial⟩
/-- the state, at a pointer -/
def pFs (f fr : Bool) (s : FSt) : AV := .fp f [fNds fr s.nodes, .v (.int .i64 s.next)] 0
theorem al_pFs {f fr : Bool} {p : Nat → Prop} (s : FSt) : Al p (pFs f fr s) := ⟨al_fNds _, trivial, trivial⟩
theorem place_spec (f fr : Bool) (s : FSt) (t : Int) (nb : Nat) (hl : s.nodes.length ≤ 140737488355328) :
    ASound Tryz.prog 174 [pFs f fr s, .v (.int .i64 t)] nb (.ret (.tup [.v (.int .i64 (plc s.nodes t)), .v (.bool (decide (hasN s.nodes t)))]) []) := by
  refine ok_174.sound (by simp) ⟨al_pFs s, trivial, trivial⟩ ?_
  have h := fun nb => bsearch_spec 223 fr s.nodes t nb hl (fun n nb => cmpN2_spec fr n t nb)
  simp only [fNds] at h
  simp only [ac_174, pFs, fNds, List.getElem?_cons_zero, TT, ↓reduceIte, Nat.reduceEqDiff, Nat.reduceAdd, Nat.reduceMul, reduceCtorEq, Nat.reduceLeDiff]
  refine ⟨_, h _, ?_⟩
  simp only [TT, ↓reduceIte, Nat.reduceEqDiff, Nat.reduceAdd, Nat.reduceMul, reduceCtorEq, Nat.reduceLeDiff]
  exact Ends.data (.inr rfl) (by simp [ET]) ⟨trivial, trivial, trivial⟩
theorem node_spec (f fr : Bool) (s : FSt) (t : Int) (nb : Nat) (hl : s.nodes.length ≤ 140737488355328) (h : plc s.nodes t < s.nodes.length) :
    ASound Tryz.prog 116 [pFs f fr s, .v (.int .i64 t)] nb (.ret (.fp fr (eNds fr s.nodes) (plc s.nodes t * 6)) []) := by
  refine ok_116.sound (by simp) ⟨al_pFs s, trivial, trivial⟩ ?_
  have h1 := fun nb => place_spec f fr s t nb hl
  obtain ⟨n, hx, e1, e0⟩ := lt_at h
  simp only [pFs, fNds] at h1
  simp only [ac_116, pFs, fNds, List.getElem?_cons_zero, TT, ↓reduceIte, Nat.reduceEqDiff, Nat.reduceAdd, Nat.reduceMul, reduceCtorEq, Nat.reduceLeDiff]
  refine ⟨_, h1 _, ?_⟩
  simp only [e0, e1, Int.toNat_natCast, List.getElem?_cons_zero, TT, ↓reduceIte, Nat.reduceEqDiff, Nat.reduceAdd, Nat.reduceMul, reduceCtorEq, Nat.reduceLeDiff]
  exact Ends.data (.inr rfl) (by simp [ET]) (al_Nds _)
end Go.Proofs.YtonglhkiobibgaaGreatDoor
namespace Go.Proofs.YtonglhkiobibgaaGreatDoor
open Go.RowKit
set_option maxRecDepth 100000
theorem hasN_get {l : List Nd} {t : Int} (h : hasN l t) : ∃ n, l[plc l t]? = some n ∧ n ∈ l ∧ n.ino = t := by
  obtain ⟨n, hx⟩ : ∃ n, l[plc l t]? = some n := ⟨_, List.getElem?_eq_getElem h.1⟩
  exact ⟨n, hx, List.mem_of_getElem? hx, by rw [← inoA_at hx]; exact h.2⟩
def nodA (s : FSt) (t : Int) : Nd := match s.nodes[plc s.nodes t]? with | some n => n | none => ⟨0, false, 0, [], ⟨0, []⟩⟩
/-- every name leads to a node -/
def okE (s : FSt) : Prop := ∀ n ∈ s.nodes, n.entries.length ≤ 140737488355328 ∧ ∀ e ∈ n.entries, hasN s.nodes e.ino
def mxI (a b : Int) : Int := if a < b then b else a
theorem mxI_bd {a b k : Int} (h1 : 0 ≤ a) (h2 : a ≤ k) (h3 : 0 ≤ b) (h4 : b ≤ k) : 0 ≤ mxI a b ∧ mxI a b ≤ k := by unfold mxI; split <;> omega
def dpt (s : FSt) : Nat → Int → Int
  | 0, _ => 0
  | k + 1, t => if (nodA s t).dir = true then (nodA s t).entries.foldl (fun d e => mxI d (1 + dpt s k e.ino)) 0 else 0
theorem fold_bd {g : Ent → Int} {k : Int} (hg : ∀ e, 0 ≤ g e ∧ g e ≤ k) : ∀ (l : List Ent) (d : Int), 0 ≤ d → d ≤ k + 1 → 0 ≤ l.foldl (fun d e => mxI d (1 + g e)) d ∧ l.foldl (fun d e => mxI d (1 + g e)) d ≤ k + 1
  | [], d, h1, h2 => ⟨h1, h2⟩
  | e :: l, d, h1, h2 => by
    have h := hg e
    have hm := mxI_bd (a := d) (b := 1 + g e) (k := k + 1) h1 h2 (by omega) (by omega)
    exact fold_bd hg l _ hm.1 hm.2
theorem dpt_bd (s : FSt) : ∀ (k : Nat) (t : Int), 0 ≤ dpt s k t ∧ dpt s k t ≤ k
  | 0, t => ⟨Int.le_refl _, Int.le_refl _⟩
  | k + 1, t => by
    rw [dpt]
    split
    · have h := fold_bd (g := fun e => dpt s k e.ino) (fun e => dpt_bd s k e.ino) (nodA s t).entries 0 (Int.le_refl _) (by omega)
      exact ⟨h.1, by have := h.2; omega⟩
    · omega
abbrev dpI (s : FSt) (k : Nat) (n : Nd) (i : Nat) : Int := (n.entries.take i).foldl (fun d e => mxI d (1 + dpt s k e.ino)) 0
theorem dpI_s {s : FSt} {k : Nat} {n : Nd} {i : Nat} {e : Ent} (h : n.entries[i]? = some e) : dpI s k n (i + 1) = mxI (dpI s k n i) (1 + dpt s k e.ino) := by
  unfold dpI
  rw [take_snoc h, List.foldl_append]
  rfl
abbrev L_dp (f fr : Bool) (s : FSt) (k : Nat) (n : Nd) (i : Nat) : ASt := ⟨envOf [(0, pFs f fr s), (2, .v (.int .i64 k)), (8, .v (.int .i64 (dpI s k n i))), (26, fEnts fr n.entries), (27, .v (.int .i64 n.entries.length)), (28, .v (.int .i64 i))], heapOf [], 1⟩
set_option maxHeartbeats 1000000 in
theorem depth_spec (f fr : Bool) (s : FSt) (hl : s.nodes.length ≤ 140737488355328) (hok : okE s) (k : Nat) : ∀ (t left : Int) (nb : Nat), k ≤ 100 → left = (k : Int) - 1 → hasN s.nodes t →
    ASound Tryz.prog 88 [pFs f fr s, .v (.int .i64 t), .v (.int .i64 left)] nb (.ret (.v (.int .i64 (dpt s k t))) []) := by
  induction k with
  | zero =>
    intro t left nb hk hleft hh
    have hn := fun nb => node_spec f fr s t nb hl hh.1
    obtain ⟨n, hx, hmem, _⟩ := hasN_get hh
    obtain ⟨a0, a1, a2, a3, a4, a5⟩ := get_Nds (fr := fr) hx
    refine ok_88.sound (by simp) ⟨al_pFs s, trivial, trivial, trivial⟩ ?_
    simp only [pFs, fNds] at hn
    have g1 : (left < 0) = True := eq_true (by omega)
    simp only [ac_88, pFs, fNds, TT, ↓reduceIte, Nat.reduceEqDiff, Nat.reduceAdd, Nat.reduceMul, reduceCtorEq, Nat.reduceLeDiff]
    refine ⟨_, hn _, ?_⟩
    cases hd : n.dir <;> simp only [a1, hd, g1, decide_true, TT, ↓reduceIte, Nat.reduceEqDiff, Nat.reduceAdd, Nat.reduceMul, reduceCtorEq, Nat.reduceLeDiff] <;> exact Ends.data (.inr rfl) (by simp [ET, dpt]) trivial
  | succ k ih =>
    intro t left nb hk hleft hh
    have hn := fun nb => node_spec f fr s t nb hl hh.1
    obtain ⟨n, hx, hmem, _⟩ := hasN_get hh
    have hA : nodA s t = n := by rw [nodA, hx]
    obtain ⟨a0, a1, a2, a3, a4, a5⟩ := get_Nds (fr := fr) hx
    obtain ⟨hle, hoke⟩ := hok n hmem
    obtain rfl : left = (k : Int) := by omega
    refine ok_88.sound (by simp) ⟨al_pFs s, trivial, trivial, trivial⟩ ?_
    simp only [pFs, fNds] at hn
    have g1 : ((k : Int) < 0) = False := eq_false (by omega)
    simp only [ac_88, pFs, fNds, TT, ↓reduceIte, Nat.reduceEqDiff, Nat.reduceAdd, Nat.reduceMul, reduceCtorEq, Nat.reduceLeDiff]
    refine ⟨_, hn _, ?_⟩
    cases hd : n.dir
    · simp only [a1, hd, TT, ↓reduceIte, Nat.reduceEqDiff, Nat.reduceAdd, Nat.reduceMul, reduceCtorEq, Nat.reduceLeDiff]
      exact Ends.data (.inr rfl) (by simp [ET, dpt, hA, hd]) trivial
    · simp only [a1, a3, hd, g1, decide_false, TT, ↓reduceIte, Nat.reduceEqDiff, Nat.reduceAdd, Nat.reduceMul, reduceCtorEq, Nat.reduceLeDiff]
      refine AWc.family (L_dp f fr s k n) (fun i => i ≤ n.entries.length) (fun i => n.entries.length - i) 0 (Nat.zero_le _) ?_ ?_
      · refine Weak.calc [] (by decide) ?_ ?_ <;> simp [WT, dpI, pFs, fNds, al_Nds, ren_Nds, fEnts, al_Ents, ren_Ents]
      · intro i hi
        by_cases hlt : i < n.entries.length
        · obtain ⟨e, hx2, e1, e0⟩ := lt_at hlt
          obtain ⟨b0, b1⟩ := get_Ents hx2
          have hb := dpt_bd s k e.ino
          have hb2 := fold_bd (g := fun e => dpt s k e.ino) (fun e => dpt_bd s k e.ino) (n.entries.take i) 0 (Int.le_refl _) (by omega)
          have w1 : IntKind.i64.wrap ((k : Int) - 1) = (k : Int) - 1 := wrap64 (by omega)
          have w2 : IntKind.i64.wrap (1 + dpt s k e.ino) = 1 + dpt s k e.ino := wrap64 (by omega)
          have hi2 := fun nb => ih e.ino ((k : Int) - 1) nb (by omega) rfl (hoke e (List.mem_of_getElem? hx2))
          simp only [pFs, fNds] at hi2
          simp only [L_dp, pFs, fNds, fEnts, e1, e0, b0, b1, w1, Int.toNat_natCast, TT, ↓reduceIte, Nat.reduceEqDiff, Nat.reduceAdd, Nat.reduceMul, reduceCtorEq, Nat.reduceLeDiff]
          refine ⟨_, hi2 _, ?_⟩
          simp only [w2, TT, ↓reduceIte, Nat.reduceEqDiff, Nat.reduceAdd, Nat.reduceMul, reduceCtorEq, Nat.reduceLeDiff]
          refine famC_next (i + 1) (by omega) (by omega) ?_
          have hs := dpI_s (s := s) (k := k) hx2
          simp only [mxI] at hs
          refine Weak.calc [] (by decide) ?_ ?_ <;> simp [WT, hs, pFs, fNds, al_Nds, ren_Nds, fEnts, al_Ents, ren_Ents, wrap64 (x := (i : Int) + 1) (by omega)]
        · obtain rfl : i = n.entries.length := by omega
          have e1 : ¬ ((n.entries.length : Int) < (n.entries.length : Int)) := by omega
          have hd2 : dpt s (k + 1) t = dpI s k n n.entries.length := by rw [dpt, hA, if_pos hd, dpI, List.take_length]
          rw [hd2]
          simp only [L_dp, pFs, fNds, fEnts, e1, TT, ↓reduceIte, Nat.reduceEqDiff, Nat.reduceAdd, Nat.reduceMul, reduceCtorEq, Nat.reduceLeDiff]
          exact Ends.data (.inr rfl) (by simp [ET]) trivial
/-- a key more, if it is not there -/
def addK (t : Int) (l : List Int) : List Int := if t ∈ l then l else l ++ [t]
def encB (l : List Int) : List AV := l.flatMap fun k => [.v (.int .i64 k), .v (.bool true)]
theorem al_encB {p : Nat → Prop} (l : List Int) : AlL p (encB l) := AlL_flat (e := fun k => [AV.v (.int .i64 k), .v (.bool true)]) (fun _ => ⟨trivial, trivial, trivial⟩) l
theorem ren_encB {ρ : Nat → Nat} (l : List Int) : renL ρ (encB l) = encB l := renL_id (p := fun _ => False) (fun _ h => h.elim) (al_encB l)
theorem len_encB (l : List Int) : (encB l).length = l.length * 2 := flat_len (e := fun k => [AV.v (.int .i64 k), .v (.bool true)]) (k := 2) (fun _ => rfl) l
theorem mput_encB (t : Int) : ∀ l : List Int, mput t (.v (.bool true)) (encB l) = some (encB (addK t l))
  | [] => by simp [addK, encB, mput]
  | k :: l => by
    show mput t (.v (.bool true)) (.v (.int .i64 k) :: .v (.bool true) :: encB l) = _
    rw [mput]
    by_cases h : k = t
    · subst h; simp [addK, encB]
    · rw [if_neg h, mput_encB t l]
      have h' : ¬ t = k := fun h9 => h h9.symm
      by_cases h2 : t ∈ l <;> simp [addK, h2, h', encB]
def rch (s : FSt) : Nat → Int → List Int → List Int
  | 0, t, l => addK t l
  | k + 1, t, l => (nodA s t).entries.foldl (fun l e => rch s k e.ino l) (addK t l)
abbrev rcI (s : FSt) (k : Nat) (n : Nd) (l : List Int) (i : Nat) : List Int := (n.entries.take i).foldl (fun l e => rch s k e.ino l) l
theorem rcI_s {s : FSt} {k : Nat} {n : Nd} {l : List Int} {i : Nat} {e : Ent} (h : n.entries[i]? = some e) : rcI s k n l (i + 1) = rch s k e.ino (rcI s k n l i) := by
  unfold rcI
  rw [take_snoc h, List.foldl_append]
  rfl
abbrev L_rc (f fr y : Bool) (s : FSt) (k : Nat) (n : Nd) (l : List Int) (i : Nat) : ASt := ⟨envOf [(0, pFs f fr s), (2, .v (.int .i64 ((k + 1 : Nat) : Int))), (3, .mp 0), (19, fEnts fr n.entries), (20, .v (.int .i64 n.entries.length)), (21, .v (.int .i64 i))], heapOf [(0, .row y MAPE (encB (rcI s k n l i)))], 1⟩
set_option maxHeartbeats 1000000 in
theorem reached_spec (f fr y : Bool) (s : FSt) (hl : s.nodes.length ≤ 140737488355328) (hok : okE s) (k : Nat) : ∀ (t left : Int) (l : List Int) (id nb : Nat), id < nb → k ≤ 100 → left = (k : Int) → hasN s.nodes t →
    ASound Tryz.prog 87 [pFs f fr s, .v (.int .i64 t), .v (.int .i64 left), .mp id] nb (rowsM [(id, y, MAPE, encB l)] (.ret (.tup []) (outW [(id, y, MAPE, encB l)] [some (encB (rch s k t l))] ++ []))) := by
  induction k with
  | zero =>
    intro t left l id nb hid hk hleft hh
    obtain rfl : left = 0 := hleft
    refine ok_87.soundX 1 [(id, y, MAPE, encB l)] [some (encB (rch s 0 t l))] (by simp) ⟨al_pFs s, trivial, trivial, by simp [Al], trivial⟩ (by simp) (fun x hx => ?_) rfl (by simp) (fun k cl hk => ?_) ?_
    · simp at hx; subst hx; exact ⟨.inr rfl, al_encB _, hid⟩
    · rcases k with _ | k
      · decide
      · simp at hk
    · have hrn : rn [(id, 0)] id = 0 := by simp [rn]
      simp only [ac_87, pFs, fNds, renL, ren, hrn, rowsIn, ren_Nds, mput_encB, List.map_cons, List.map_nil, List.zipIdx_cons, List.zipIdx_nil, TT, ↓reduceIte, Nat.reduceEqDiff, Nat.reduceAdd, Nat.reduceMul, reduceCtorEq, Nat.reduceLeDiff]
      refine EndsX.data (r := .tup []) (.inl rfl) (by simp [ET]) trivial ?_
      exact ⟨⟨by simp [WT, rch], by simp, al_encB _⟩, trivial⟩
  | succ k ih =>
    intro t left l id nb hid hk hleft hh
    have hn := fun nb => node_spec f fr s t nb hl hh.1
    obtain ⟨n, hx, hmem, _⟩ := hasN_get hh
    have hA : nodA s t = n := by rw [nodA, hx]
    obtain ⟨a0, a1, a2, a3, a4, a5⟩ := get_Nds (fr := fr) hx
    obtain ⟨hle, hoke⟩ := hok n hmem
    subst hleft
    refine ok_87.soundX 1 [(id, y, MAPE, encB l)] [some (encB (rch s (k + 1) t l))] (by simp) ⟨al_pFs s, trivial, trivial, by simp [Al], trivial⟩ (by simp) (fun x hx => ?_) rfl (by simp) (fun k cl hk => ?_) ?_
    · simp at hx; subst hx; exact ⟨.inr rfl, al_encB _, hid⟩
    · rcases k with _ | k
      · decide
      · simp at hk
    · have g1 : ((0 : Int) < ((k + 1 : Nat) : Int)) = True := eq_true (by omega)
      have hrn : rn [(id, 0)] id = 0 := by simp [rn]
      simp only [pFs, fNds] at hn
      simp only [ac_87, pFs, fNds, renL, ren, hrn, rowsIn, ren_Nds, mput_encB, List.map_cons, List.map_nil, List.zipIdx_cons, List.zipIdx_nil, g1, decide_true, TT, ↓reduceIte, Nat.reduceEqDiff, Nat.reduceAdd, Nat.reduceMul, reduceCtorEq, Nat.reduceLeDiff]
      refine ⟨_, hn _, ?_⟩
      simp only [a3, TT, ↓reduceIte, Nat.reduceEqDiff, Nat.reduceAdd, Nat.reduceMul, reduceCtorEq, Nat.reduceLeDiff]
      refine AWc.family (L_rc f fr y s k n (addK t l)) (fun i => i ≤ n.entries.length) (fun i => n.entries.length - i) 0 (Nat.zero_le _) ?_ ?_
      · refine Weak.calc [(0, 0)] (by decide) ?_ ?_ <;> simp [WT, rcI, al_encB, ren_encB, pFs, fNds, al_Nds, ren_Nds, fEnts, al_Ents, ren_Ents]
      · intro i hi
        by_cases hlt : i < n.entries.length
        · obtain ⟨e, hx2, e1, e0⟩ := lt_at hlt
          obtain ⟨b0, b1⟩ := get_Ents hx2
          have w1 : IntKind.i64.wrap (((k + 1 : Nat) : Int) - 1) = (k : Int) := by rw [wrap64 (by omega)]; omega
          have hi2 := fun nb hid => ih e.ino (k : Int) (rcI s k n (addK t l) i) 0 nb hid (by omega) rfl (hoke e (List.mem_of_getElem? hx2))
          simp only [pFs, fNds, rowsM, outW, Option.map_some] at hi2
          simp only [L_rc, pFs, fNds, fEnts, e1, e0, b0, b1, w1, Int.toNat_natCast, TT, ↓reduceIte, Nat.reduceEqDiff, Nat.reduceAdd, Nat.reduceMul, reduceCtorEq, Nat.reduceLeDiff]
          refine ⟨_, hi2 _ (by decide), ?_⟩
          simp only [TT, ↓reduceIte, Nat.reduceEqDiff, Nat.reduceAdd, Nat.reduceMul, reduceCtorEq, Nat.reduceLeDiff]
          refine famC_next (i + 1) (by omega) (by omega) ?_
          refine Weak.calc [(0, 0)] (by decide) ?_ ?_ <;> simp [WT, rcI_s hx2, pFs, fNds, al_Nds, ren_Nds, fEnts, al_Ents, ren_Ents, al_encB, ren_encB, wrap64 (x := (i : Int) + 1) (by omega)]
        · obtain rfl : i = n.entries.length := by omega
          have e1 : ¬ ((n.entries.length : Int) < (n.entries.length : Int)) := by omega
          have hd2 : rch s (k + 1) t l = rcI s k n (addK t l) n.entries.length := by rw [rch, hA, rcI, List.take_length]
          rw [hd2]
          simp only [L_rc, pFs, fNds, fEnts, e1, TT, ↓reduceIte, Nat.reduceEqDiff, Nat.reduceAdd, Nat.reduceMul, reduceCtorEq, Nat.reduceLeDiff]
          refine EndsX.data (r := .tup []) (.inl rfl) (by simp [ET]) trivial ?_
          exact ⟨⟨by simp [WT], by simp, al_encB _⟩, trivial⟩
end Go.Proofs.YtonglhkiobibgaaGreatDoor
namespace Go.Proofs.YtonglhkiobibgaaGreatDoor
open Go.RowKit
set_option maxRecDepth 100000
theorem ixB_nn (c : UInt8) : ∀ l : List UInt8, 0 ≤ Lib.indexByte l c ↔ c ∈ l
  | [] => by simp [Lib.indexByte]
  | x :: r => by
    have h2 := ixB_nn c r
    have h3 := Lib.indexByte_ge r c
    rw [Lib.indexByte]
    by_cases h : x = c
    · subst h; simp
    · have h' : ¬ c = x := fun h9 => h h9.symm
      rw [if_neg (by simpa using h), List.mem_cons]
      by_cases h4 : Lib.indexByte r c = -1
      · rw [if_pos (by simpa using h4)]
        simp only [h', false_or, ← h2]; omega
      · rw [if_neg (by simpa using h4)]
        simp only [h', false_or, ← h2]; omega
set_option maxHeartbeats 1000000 in
theorem indexL_walk (s : ByteArray) (c : UInt8) (w : World) :
    Calls Tryz.prog 298 #[.string s, .int .u8 c.toNat] w fun e w' => e = .returned (.int .i64 (Lib.indexByte s.data.toList c)) ∧ w' = w := by
  have hx := @run_callFunc_extern Tryz.prog 307 _ Extern.BytealgIndexByte.indexByte Tryz.func307 (by kernel_rfl) (by kernel_rfl) (by kernel_rfl) (by kernel_rfl)
  have hc : ((c.toNat : Int)).toNat.toUInt8 = c := by simp
  go_enter Tryz.func298, Tryz.ntmps298
  go_wp2
  rw [Lib.run_indexByteString, hc]
  simp only [Result.andThen]
  rw [Oper.upon_value]
  go_wp2
  go_ret
  exact ⟨rfl, rfl⟩
theorem indexL_spec (s : ByteArray) (c : UInt8) (nb : Nat) : ASound Tryz.prog 298 [.v (.string s), .v (.int .u8 c.toNat)] nb (.ret (.v (.int .i64 (Lib.indexByte s.data.toList c))) []) := by
  refine ⟨by kernel_rfl, fun x us r R W hrun hr hfr hv => ?_⟩
  simp [AM.run] at hrun
  obtain ⟨rfl, _, rfl⟩ := hrun
  obtain ⟨u, us', rfl, hu, v, vs, rfl, hv, hn⟩ := hv
  rw [VRt] at hn
  subst hn
  rw [VR] at hu hv
  subst hu
  subst hv
  refine (indexL_walk s c x.w).mono ?_
  rintro ev w' ⟨rfl, rfl⟩
  exact ⟨_, x, rfl, rfl, rfl, Then.refl hr nb⟩
/-- a string of one octet -/
abbrev one (c : UInt8) : ByteArray := ByteArray.mk #[c]
theorem one_get (c : UInt8) : (ByteArray.mk #[c])[0]? = some c := rfl
theorem index1_spec (s : ByteArray) (c : UInt8) (nb : Nat) : ASound Tryz.prog 281 [.v (.string s), .v (.string (ByteArray.mk #[c]))] nb (.ret (.v (.int .i64 (Lib.indexByte s.data.toList c))) []) := by
  refine ok_281.sound (by simp) ⟨trivial, trivial, trivial⟩ ?_
  have hz : (((ByteArray.mk #[c]).size : Nat) : Int) = 1 := rfl
  have z2 : ((1 : Int) = 0) = False := eq_false (by decide)
  have z3 : ((1 : Int) = 1) = True := eq_true rfl
  have z1 : ((0 : Int) ≤ 0) = True := eq_true (Int.le_refl 0)
  have hc := fun nb => indexL_spec s c nb
  by_cases h : ByteArray.mk #[c] = s
  · have e : Lib.indexByte s.data.toList c = 0 := by subst h; simp [Lib.indexByte]
    simp only [ac_281, hz, z1, z2, z3, strOp, decide_eq_true h, e, decide_false, TT, ↓reduceIte, Nat.reduceEqDiff, Nat.reduceAdd, Nat.reduceMul, reduceCtorEq, Nat.reduceLeDiff]
    exact Ends.data (.inr rfl) (by simp [ET]) trivial
  simp only [ac_281, hz, z1, z2, z3, strOp, h, one_get, Int.toNat_zero, decide_true, decide_false, TT, ↓reduceIte, Nat.reduceEqDiff, Nat.reduceAdd, Nat.reduceMul, reduceCtorEq, Nat.reduceLeDiff]
  refine ⟨_, hc _, ?_⟩
  simp only [TT, ↓reduceIte, Nat.reduceEqDiff, Nat.reduceAdd, Nat.reduceMul, reduceCtorEq, Nat.reduceLeDiff]
  exact Ends.data (.inr rfl) (by simp [ET]) trivial
theorem indexS1_spec (s : ByteArray) (c : UInt8) (nb : Nat) : ASound Tryz.prog 251 [.v (.string s), .v (.string (ByteArray.mk #[c]))] nb (.ret (.v (.int .i64 (Lib.indexByte s.data.toList c))) []) := by
  refine ok_251.sound (by simp) ⟨trivial, trivial, trivial⟩ ?_
  simp only [ac_251, TT, ↓reduceIte, Nat.reduceEqDiff, Nat.reduceAdd, Nat.reduceMul, reduceCtorEq, Nat.reduceLeDiff]
  refine ⟨_, index1_spec s c _, ?_⟩
  simp only [TT, ↓reduceIte, Nat.reduceEqDiff, Nat.reduceAdd, Nat.reduceMul, reduceCtorEq, Nat.reduceLeDiff]
  exact Ends.data (.inr rfl) (by simp [ET]) trivial
theorem contains1_spec (s : ByteArray) (c : UInt8) (nb : Nat) : ASound Tryz.prog 252 [.v (.string s), .v (.string (ByteArray.mk #[c]))] nb (.ret (.v (.bool (decide (c ∈ s.data.toList)))) []) := by
  refine ok_252.sound (by simp) ⟨trivial, trivial, trivial⟩ ?_
  have hd : decide (0 ≤ Lib.indexByte s.data.toList c) = decide (c ∈ s.data.toList) := by
    by_cases h : c ∈ s.data.toList
    · rw [decide_eq_true h, decide_eq_true ((ixB_nn c _).2 h)]
    · rw [decide_eq_false h, decide_eq_false fun h9 => h ((ixB_nn c _).1 h9)]
  rw [← hd]
  simp only [ac_252, TT, ↓reduceIte, Nat.reduceEqDiff, Nat.reduceAdd, Nat.reduceMul, reduceCtorEq, Nat.reduceLeDiff]
  refine ⟨_, indexS1_spec s c _, ?_⟩
  simp only [TT, ↓reduceIte, Nat.reduceEqDiff, Nat.reduceAdd, Nat.reduceMul, reduceCtorEq, Nat.reduceLeDiff]
  exact Ends.data (.inr rfl) (by simp [ET]) trivial
/-- may a name be? -/
def nameE (s : ByteArray) : Int := if s = ByteArray.mk #[] ∨ s = ByteArray.mk #[46] ∨ s = ByteArray.mk #[46, 46] ∨ 16 < s.size ∨ 47 ∈ s.data.toList ∨ 0 ∈ s.data.toList then 106 else 0
theorem name_spec (s : ByteArray) (nb : Nat) : ASound Tryz.prog 219 [.v (.string s)] nb (.ret (.v (.int .i64 (nameE s))) []) := by
  refine ok_219.sound (by simp) ⟨trivial, trivial⟩ ?_
  by_cases c1 : s = ByteArray.mk #[]
  · have e : nameE s = 106 := if_pos (.inl c1)
    simp only [ac_219, c1 ▸ e, c1, strOp, decide_true, TT, ↓reduceIte, Nat.reduceEqDiff, Nat.reduceAdd, Nat.reduceMul, reduceCtorEq, Nat.reduceLeDiff]
    exact Ends.data (.inr rfl) (by simp [ET]) trivial
  by_cases c2 : s = ByteArray.mk #[46]
  · have e : nameE s = 106 := if_pos (.inr (.inl c2))
    simp only [ac_219, e, c1, decide_eq_true c2, strOp, decide_false, TT, ↓reduceIte, Nat.reduceEqDiff, Nat.reduceAdd, Nat.reduceMul, reduceCtorEq, Nat.reduceLeDiff]
    exact Ends.data (.inr rfl) (by simp [ET]) trivial
  by_cases c3 : s = ByteArray.mk #[46, 46]
  · have e : nameE s = 106 := if_pos (.inr (.inr (.inl c3)))
    simp only [ac_219, e, c1, c2, decide_eq_true c3, strOp, decide_false, TT, ↓reduceIte, Nat.reduceEqDiff, Nat.reduceAdd, Nat.reduceMul, reduceCtorEq, Nat.reduceLeDiff]
    exact Ends.data (.inr rfl) (by simp [ET]) trivial
  by_cases c4 : 16 < s.size
  · have e : nameE s = 106 := if_pos (.inr (.inr (.inr (.inl c4))))
    have d4 : ((16 : Int) < (s.size : Int)) = True := eq_true (by omega)
    simp only [ac_219, e, c1, c2, c3, d4, strOp, decide_false, decide_true, TT, ↓reduceIte, Nat.reduceEqDiff, Nat.reduceAdd, Nat.reduceMul, reduceCtorEq, Nat.reduceLeDiff]
    exact Ends.data (.inr rfl) (by simp [ET]) trivial
  have d4 : ((16 : Int) < (s.size : Int)) = False := eq_false (by omega)
  have k1 := fun nb => contains1_spec s 47 nb
  have k2 := fun nb => contains1_spec s 0 nb
  simp only [ac_219, c1, c2, c3, d4, strOp, decide_false, TT, ↓reduceIte, Nat.reduceEqDiff, Nat.reduceAdd, Nat.reduceMul, reduceCtorEq, Nat.reduceLeDiff]
  refine ⟨_, k1 _, ?_⟩
  by_cases c5 : (47 : UInt8) ∈ s.data.toList
  · have e : nameE s = 106 := if_pos (.inr (.inr (.inr (.inr (.inl c5)))))
    simp only [e, decide_eq_true c5, TT, ↓reduceIte, Nat.reduceEqDiff, Nat.reduceAdd, Nat.reduceMul, reduceCtorEq, Nat.reduceLeDiff]
    exact Ends.data (.inr rfl) (by simp [ET]) trivial
  simp only [decide_eq_false c5, TT, ↓reduceIte, Nat.reduceEqDiff, Nat.reduceAdd, Nat.reduceMul, reduceCtorEq, Nat.reduceLeDiff]
  refine ⟨_, k2 _, ?_⟩
  by_cases c6 : (0 : UInt8) ∈ s.data.toList
  · have e : nameE s = 106 := if_pos (.inr (.inr (.inr (.inr (.inr c6)))))
    simp only [e, decide_eq_true c6, TT, ↓reduceIte, Nat.reduceEqDiff, Nat.reduceAdd, Nat.reduceMul, reduceCtorEq, Nat.reduceLeDiff]
    exact Ends.data (.inr rfl) (by simp [ET]) trivial
  have e : nameE s = 0 := by
    rw [nameE, if_neg]
    intro h; rcases h with h | h | h | h | h | h <;> contradiction
  simp only [e, decide_eq_false c6, TT, ↓reduceIte, Nat.reduceEqDiff, Nat.reduceAdd, Nat.reduceMul, reduceCtorEq, Nat.reduceLeDiff]
  exact Ends.data (.inr rfl) (by simp [ET]) trivial
end Go.Proofs.YtonglhkiobibgaaGreatDoor
namespace Go.Proofs.YtonglhkiobibgaaGreatDoor
open Go.RowKit
set_option maxRecDepth 100000
abbrev aEnt (e : Ent) : AV := .agg [.v (.string e.name), .v (.int .i64 e.ino)]
def mayE (e : Ent) : Bool := decide (nameE e.name = 0) && (decide (1 ≤ e.ino) && decide (e.ino ≤ 2147483647))
theorem mayE_spec (e : Ent) (nb : Nat) : ASound Tryz.prog 186 [aEnt e] nb (.ret (.v (.bool (mayE e))) []) := by
  refine ok_186.sound (by simp) ⟨⟨trivial, trivial, trivial⟩, trivial⟩ ?_
  simp only [ac_186, aEnt, TT, ↓reduceIte, Nat.reduceEqDiff, Nat.reduceAdd, Nat.reduceMul, reduceCtorEq, Nat.reduceLeDiff]
  refine ⟨_, name_spec e.name _, ?_⟩
  by_cases h : nameE e.name = 0
  · by_cases h1 : 1 ≤ e.ino
    · simp only [h, h1, decide_true, TT, ↓reduceIte, Nat.reduceEqDiff, Nat.reduceAdd, Nat.reduceMul, reduceCtorEq, Nat.reduceLeDiff]
      exact Ends.data (.inr rfl) (by simp [ET, mayE, h, h1]) trivial
    · simp only [h, h1, decide_true, decide_false, TT, ↓reduceIte, Nat.reduceEqDiff, Nat.reduceAdd, Nat.reduceMul, reduceCtorEq, Nat.reduceLeDiff]
      exact Ends.data (.inr rfl) (by simp [ET, mayE, h, h1]) trivial
  · simp only [h, decide_false, TT, ↓reduceIte, Nat.reduceEqDiff, Nat.reduceAdd, Nat.reduceMul, reduceCtorEq, Nat.reduceLeDiff]
    exact Ends.data (.inr rfl) (by simp [ET, mayE, h]) trivial
def lessS (a b : ByteArray) : Bool := Op.bytesLess a.toList b.toList
/-- do the names rise, and may each entry be? -/
def okD : Option ByteArray → List Ent → Bool
  | _, [] => true
  | p, e :: r => mayE e && ((match p with | none => true | some q => lessS q e.name) && okD (some e.name) r)
def prevE (l : List Ent) (i : Nat) : Option ByteArray := if i = 0 then none else (l[i - 1]?).map Ent.name
theorem prevE_s {l : List Ent} {i : Nat} {e : Ent} (h : l[i]? = some e) : prevE l (i + 1) = some e.name := by simp [prevE, h]
theorem okD_drop {l : List Ent} {i : Nat} {e : Ent} (h : l[i]? = some e) : okD (prevE l i) (l.drop i) = (mayE e && ((match prevE l i with | none => true | some q => lessS q e.name) && okD (prevE l (i + 1)) (l.drop (i + 1)))) := by
  have hi := (List.getElem?_eq_some_iff.1 h)
  rw [List.drop_eq_getElem_cons hi.1, hi.2, prevE_s h]; rfl
def chkD (l : List Ent) : Int := if 63 < l.length then 9 else if okD none l = true then 0 else 9
abbrev L_dc (fr : Bool) (l : List Ent) (i : Nat) : ASt := ⟨envOf [(0, fEnts fr l), (8, fEnts fr l), (9, .v (.int .i64 l.length)), (10, .v (.int .i64 i))], heapOf [], 1⟩
set_option maxHeartbeats 2000000 in
theorem dchk_spec (fr : Bool) (l : List Ent) (nb : Nat) : ASound Tryz.prog 128 [fEnts fr l] nb (.ret (.v (.int .i64 (chkD l))) []) := by
  refine ok_128.sound (by simp) ⟨al_fEnts l, trivial⟩ ?_
  by_cases hl : 63 < l.length
  · have d : ((63 : Int) < (l.length : Int)) = True := eq_true (by omega)
    simp only [ac_128, fEnts, d, decide_true, TT, ↓reduceIte, Nat.reduceEqDiff, Nat.reduceAdd, Nat.reduceMul, reduceCtorEq, Nat.reduceLeDiff]
    exact Ends.data (.inr rfl) (by simp [ET, chkD, hl]) trivial
  have d : ((63 : Int) < (l.length : Int)) = False := eq_false (by omega)
  have e0 : chkD l = if okD none l = true then 0 else 9 := if_neg hl
  rw [e0]
  simp only [ac_128, fEnts, d, decide_false, TT, ↓reduceIte, Nat.reduceEqDiff, Nat.reduceAdd, Nat.reduceMul, reduceCtorEq, Nat.reduceLeDiff]
  refine AWc.family (L_dc fr l) (fun i => i ≤ l.length ∧ okD (prevE l i) (l.drop i) = okD none l) (fun i => l.length - i) 0 ⟨Nat.zero_le _, rfl⟩ ?_ ?_
  · refine Weak.calc [] (by decide) ?_ ?_ <;> simp [WT, al_Ents, ren_Ents, fEnts]
  · rintro i ⟨hi, he⟩
    by_cases hlt : i < l.length
    · obtain ⟨e, hx, e1, e0⟩ := lt_at hlt
      obtain ⟨b0, b1⟩ := get_Ents hx
      rw [okD_drop hx] at he
      simp only [L_dc, fEnts, e1, e0, b0, b1, Int.toNat_natCast, TT, ↓reduceIte, Nat.reduceEqDiff, Nat.reduceAdd, Nat.reduceMul, reduceCtorEq, Nat.reduceLeDiff]
      refine ⟨_, mayE_spec e _, ?_⟩
      cases hm : mayE e
      · rw [hm, Bool.false_and] at he
        simp only [TT, ↓reduceIte, Nat.reduceEqDiff, Nat.reduceAdd, Nat.reduceMul, reduceCtorEq, Nat.reduceLeDiff]
        exact ⟨by rfl, Ends.data (.inr rfl) (by simp [ET, ← he]) trivial⟩
      rw [hm, Bool.true_and] at he
      rcases Nat.eq_zero_or_pos i with h0 | h0
      · subst h0
        have g : ((0 : Int) < ((0 : Nat) : Int)) = False := eq_false (by omega)
        have w0 : IntKind.i64.wrap 1 = 1 := by rfl
        simp only [g, decide_false, TT, ↓reduceIte, Nat.reduceEqDiff, Nat.reduceAdd, Nat.reduceMul, reduceCtorEq, Nat.reduceLeDiff]
        refine ⟨by rfl, famC_next 1 (by omega) ⟨by omega, by rw [← he]; simp [prevE]⟩ ?_⟩
        refine Weak.calc [] (by decide) ?_ ?_ <;> simp [WT, w0, al_Ents, ren_Ents, fEnts]
      · have g : ((0 : Int) < (i : Int)) = True := eq_true (by omega)
        obtain ⟨p, hp, p1, p0⟩ := lt_at (show i - 1 < l.length by omega)
        obtain ⟨q0, q1⟩ := get_Ents hp
        have hpr : prevE l i = some p.name := by rw [prevE, if_neg (by omega), hp]; rfl
        rw [hpr] at he
        simp only [lessS] at he
        have w1 : IntKind.i64.wrap ((i : Int) - 1) = ((i - 1 : Nat) : Int) := by rw [wrap64 (by omega)]; omega
        simp only [g, decide_true, w1, p1, p0, q0, q1, Int.toNat_natCast, strOp, TT, ↓reduceIte, Nat.reduceEqDiff, Nat.reduceAdd, Nat.reduceMul, reduceCtorEq, Nat.reduceLeDiff]
        cases hls : Op.bytesLess p.name.toList e.name.toList
        · rw [hls] at he
          simp only [Bool.false_and] at he
          simp only [hls, Bool.not_true, Bool.not_false, TT, ↓reduceIte, Nat.reduceEqDiff, Nat.reduceAdd, Nat.reduceMul, reduceCtorEq, Nat.reduceLeDiff]
          exact ⟨by rfl, Ends.data (.inr rfl) (by simp [ET, ← he]) trivial⟩
        · rw [hls] at he
          simp only [Bool.true_and] at he
          simp only [hls, Bool.not_true, Bool.not_false, TT, ↓reduceIte, Nat.reduceEqDiff, Nat.reduceAdd, Nat.reduceMul, reduceCtorEq, Nat.reduceLeDiff]
          refine ⟨by rfl, famC_next (i + 1) (by omega) ⟨by omega, he⟩ ?_⟩
          refine Weak.calc [] (by decide) ?_ ?_ <;> simp [WT, al_Ents, ren_Ents, fEnts, wrap64 (x := (i : Int) + 1) (by omega)]
    · obtain rfl : i = l.length := by omega
      have e1 : ¬ ((l.length : Int) < (l.length : Int)) := by omega
      have h9 : okD none l = true := by rw [← he, List.drop_length]; rfl
      simp only [L_dc, fEnts, e1, TT, ↓reduceIte, Nat.reduceEqDiff, Nat.reduceAdd, Nat.reduceMul, reduceCtorEq, Nat.reduceLeDiff]
      exact Ends.data (.inr rfl) (by simp [ET, h9]) trivial
/-- may names be? -/
def namI : List ByteArray → Int
  | [] => 0
  | s :: r => if nameE s = 0 then namI r else nameE s
theorem namI_drop {l : List ByteArray} {i : Nat} {s : ByteArray} (h : l[i]? = some s) : namI (l.drop i) = if nameE s = 0 then namI (l.drop (i + 1)) else nameE s := by
  have hi := (List.getElem?_eq_some_iff.1 h)
  rw [List.drop_eq_getElem_cons hi.1, hi.2]; rfl
def namedL (l : List ByteArray) : Int := if namI l = 0 then (if 8 < l.length then 5 else 0) else namI l
abbrev L_nm (fr : Bool) (l : List ByteArray) (i : Nat) : ASt := ⟨envOf [(0, fS fr l), (6, fS fr l), (7, .v (.int .i64 l.length)), (8, .v (.int .i64 i))], heapOf [], 1⟩
theorem named_spec (fr : Bool) (l : List ByteArray) (nb : Nat) (hl : l.length ≤ 140737488355328) : ASound Tryz.prog 170 [fS fr l] nb (.ret (.v (.int .i64 (namedL l))) []) := by
  refine ok_170.sound (by simp) ⟨al_fS l, trivial⟩ ?_
  simp only [ac_170, fS, TT, ↓reduceIte, Nat.reduceEqDiff, Nat.reduceAdd, Nat.reduceMul, reduceCtorEq, Nat.reduceLeDiff]
  refine AWc.family (L_nm fr l) (fun i => i ≤ l.length ∧ namI (l.drop i) = namI l) (fun i => l.length - i) 0 ⟨Nat.zero_le _, rfl⟩ ?_ ?_
  · refine Weak.calc [] (by decide) ?_ ?_ <;> simp [WT, al_S, ren_S, fS]
  · rintro i ⟨hi, he⟩
    by_cases hlt : i < l.length
    · obtain ⟨s, hx, e1, e0⟩ := lt_at hlt
      rw [namI_drop hx] at he
      simp only [L_nm, fS, e1, e0, get_S hx, Int.toNat_natCast, TT, ↓reduceIte, Nat.reduceEqDiff, Nat.reduceAdd, Nat.reduceMul, reduceCtorEq, Nat.reduceLeDiff]
      refine ⟨_, name_spec s _, ?_⟩
      by_cases h : nameE s = 0
      · rw [if_pos h] at he
        simp only [h, decide_true, TT, ↓reduceIte, Nat.reduceEqDiff, Nat.reduceAdd, Nat.reduceMul, reduceCtorEq, Nat.reduceLeDiff]
        refine famC_next (i + 1) (by omega) ⟨by omega, he⟩ ?_
        refine Weak.calc [] (by decide) ?_ ?_ <;> simp [WT, al_S, ren_S, fS, wrap64 (x := (i : Int) + 1) (by omega)]
      · rw [if_neg h] at he
        have h2 : namedL l = nameE s := by rw [namedL, ← he, if_neg h]
        simp only [h, decide_false, h2, TT, ↓reduceIte, Nat.reduceEqDiff, Nat.reduceAdd, Nat.reduceMul, reduceCtorEq, Nat.reduceLeDiff]
        exact Ends.data (.inr rfl) (by simp [ET]) trivial
    · obtain rfl : i = l.length := by omega
      have e1 : ¬ ((l.length : Int) < (l.length : Int)) := by omega
      have h9 : namI l = 0 := by rw [← he, List.drop_length]; rfl
      have h8 : namedL l = if 8 < l.length then 5 else 0 := by rw [namedL, if_pos h9]
      rw [h8]
      by_cases h7 : 8 < l.length
      · have d : ((8 : Int) < (l.length : Int)) = True := eq_true (by omega)
        simp only [L_nm, fS, e1, d, TT, ↓reduceIte, Nat.reduceEqDiff, Nat.reduceAdd, Nat.reduceMul, reduceCtorEq, Nat.reduceLeDiff]
        exact Ends.data (.inr rfl) (by simp [ET, h7]) trivial
      · have d : ((8 : Int) < (l.length : Int)) = False := eq_false (by omega)
        simp only [L_nm, fS, e1, d, TT, ↓reduceIte, Nat.reduceEqDiff, Nat.reduceAdd, Nat.reduceMul, reduceCtorEq, Nat.reduceLeDiff]
        exact Ends.data (.inr rfl) (by simp [ET, h7]) trivial
end Go.Proofs.YtonglhkiobibgaaGreatDoor
namespace Go.Proofs.YtonglhkiobibgaaGreatDoor
open Go.RowKit Go.Extern.Stop Go.Stop Go.Extern
theorem tz_methodKind (h : Value) (w : World) : (Go.method 559 342 (.agg #[h]) "Kind").run Tryz.prog w = .ok (324, h) w := by kernel_rfl
theorem tz_rlm (z : Sem Value) (f : TypeId → Addr → Nat → Nat → Sem Value) (v : Value) :
    ReflectliteValue.method z f #[v] = (do match ← ReflectliteValue.parts v with | none => z | some (t, a, fl) => f t a fl (fl % 32)) := rfl
theorem tz_methodElem (h : Value) (w : World) : (Go.method 559 342 (.agg #[h]) "Elem").run Tryz.prog w = .ok (337, .agg #[h]) w := by kernel_rfl
theorem tz_methodImplements (h : Value) (w : World) : (Go.method 559 342 (.agg #[h]) "Implements").run Tryz.prog w = .ok (338, .agg #[h]) w := by kernel_rfl
theorem tz_methodAssignableTo (h : Value) (w : World) : (Go.method 559 342 (.agg #[h]) "AssignableTo").run Tryz.prog w = .ok (335, .agg #[h]) w := by kernel_rfl
theorem tz_rls (v x : Value) : ReflectliteValue.set #[v, x] = (do
    let (some (dst, a, fl), some (src, b, _)) := (← ReflectliteValue.parts v, ← ReflectliteValue.parts x)
      | unsupported (.noEntry "extern/(internal/reflectlite.Value).Set.zeroValue")
    if fl / ReflectliteValue.flagAddr % 2 == 0 then unsupported (.noEntry "extern/(internal/reflectlite.Value).Set.unaddressable")
    let val ← loadVar src b
    if ← Rtype.directlyAssignable dst src then storeVar dst a val
    else if ← Rtype.implements dst src then
      if (← Rtype.kind src) == 20 then
        match val with
        | .nilIface => unsupported (.noEntry "extern/reflectlite: a nil value of one interface type handed on as a value of another")
        | _ => storeVar dst a val
      else storeVar dst a (.iface src val)
    else panicString ("reflectlite.Set: value of type " ++ (← Rtype.spelt src) ++ " is not assignable to type " ++ (← Rtype.spelt dst))
    pure (.tuple #[])) := rfl
end Go.Proofs.YtonglhkiobibgaaGreatDoor
namespace Go.Proofs.YtonglhkiobibgaaGreatDoor
open Go.RowKit Go.Extern.Stop Go.Stop Go.Extern
end Go.Proofs.YtonglhkiobibgaaGreatDoor
namespace Go.Proofs.YtonglhkiobibgaaGreatDoor
open Go.RowKit
set_option maxRecDepth 100000
end Go.Proofs.YtonglhkiobibgaaGreatDoor
namespace Go.Proofs.YtonglhkiobibgaaGreatDoor
open Go.RowKit
/-- k times, until the first that fails -/
def scMany {α : Type} (f : List Int → α × Int × List Int) : Nat → List Int → List α × Int × List Int
  | 0, l => ([], 0, l)
  | k + 1, l => if (f l).2.1 ≠ 0 then ([(f l).1], (f l).2.1, (f l).2.2) else ((f l).1 :: (scMany f k (f l).2.2).1, (scMany f k (f l).2.2).2.1, (scMany f k (f l).2.2).2.2)
end Go.Proofs.YtonglhkiobibgaaGreatDoor
namespace Go.Proofs.YtonglhkiobibgaaGreatDoor
open Go.RowKit
set_option maxRecDepth 100000
end Go.Proofs.YtonglhkiobibgaaGreatDoor
namespace Go.Proofs.YtonglhkiobibgaaGreatDoor
open Go.RowKit
set_option maxRecDepth 100000
end Go.Proofs.YtonglhkiobibgaaGreatDoor
namespace Go.Proofs.YtonglhkiobibgaaGreatDoor
open Go.RowKit
set_option maxRecDepth 100000
theorem okB_sc {l r : List Int} (hb : okB l) (h : ∃ n, r = l.drop n) : okB r := by obtain ⟨n, rfl⟩ := h; exact okB_drop hb n
end Go.Proofs.YtonglhkiobibgaaGreatDoor
namespace Go.Proofs.YtonglhkiobibgaaGreatDoor
open Go.RowKit
set_option maxRecDepth 100000
theorem many_go {α : Type} {f : List Int → α × Int × List Int} {N i : Nat} {rest : List Int} {out : List α} {R : List α × Int × List Int} (hR : R = (out ++ (scMany f (N - i) rest).1, (scMany f (N - i) rest).2)) (hi : i < N) (h0 : (f rest).2.1 = 0) :
    R = ((out ++ [(f rest).1]) ++ (scMany f (N - (i + 1)) (f rest).2.2).1, (scMany f (N - (i + 1)) (f rest).2.2).2) := by
  rw [hR, show N - i = (N - (i + 1)) + 1 from by omega, scMany, if_neg (by rw [h0]; simp)]
  simp
theorem many_stop {α : Type} {f : List Int → α × Int × List Int} {N i : Nat} {rest : List Int} {out : List α} {R : List α × Int × List Int} (hR : R = (out ++ (scMany f (N - i) rest).1, (scMany f (N - i) rest).2)) (hi : i < N) (h0 : (f rest).2.1 ≠ 0) :
    R = (out ++ [(f rest).1], (f rest).2.1, (f rest).2.2) := by
  rw [hR, show N - i = (N - (i + 1)) + 1 from by omega, scMany, if_pos h0]
theorem many_end {α : Type} {f : List Int → α × Int × List Int} {N : Nat} {rest : List Int} {out : List α} {R : List α × Int × List Int} (hR : R = (out ++ (scMany f (N - N) rest).1, (scMany f (N - N) rest).2)) : R = (out, 0, rest) := by
  rw [hR, Nat.sub_self, scMany]; simp
structure manyI {α : Type} (f : List Int → α × Int × List Int) (N : Nat) (R : List α × Int × List Int) (i : Nat) (out : List α) (e : Int) (rest : List Int) : Prop where
  len : out.length ≤ i
  le : i ≤ 64
  ok : okB rest
  st : (e = 0 ∧ N ≤ 64 ∧ i ≤ N ∧ R = (out ++ (scMany f (N - i) rest).1, (scMany f (N - i) rest).2)) ∨ (e ≠ 0 ∧ R = (out, e, rest))
theorem manyI.step {α : Type} {f : List Int → α × Int × List Int} {N : Nat} {R : List α × Int × List Int} {i : Nat} {out : List α} {rest : List Int} (h : manyI f N R i out 0 rest) (hi : i < N) (hf : ∃ n, (f rest).2.2 = rest.drop n) : manyI f N R (i + 1) (out ++ [(f rest).1]) (f rest).2.1 (f rest).2.2 := by
  rcases h.st with ⟨_, hN, hle, hR⟩ | ⟨h0, _⟩
  · refine ⟨?_, ?_, ?_, ?_⟩
    · rw [List.length_append, List.length_cons, List.length_nil]; have := h.len; omega
    · omega
    · exact okB_sc h.ok hf
    · by_cases h0 : (f rest).2.1 = 0
      · exact .inl ⟨h0, hN, by omega, many_go hR hi h0⟩
      · exact .inr ⟨h0, many_stop hR hi h0⟩
  · exact absurd rfl h0
end Go.Proofs.YtonglhkiobibgaaGreatDoor
namespace Go.Proofs.YtonglhkiobibgaaGreatDoor
open Go.RowKit
set_option maxRecDepth 100000
end Go.Proofs.YtonglhkiobibgaaGreatDoor
namespace Go.Proofs.YtonglhkiobibgaaGreatDoor
open Go.RowKit
set_option maxRecDepth 100000
end Go.Proofs.YtonglhkiobibgaaGreatDoor
namespace Go.Proofs.YtonglhkiobibgaaGreatDoor
open Go.RowKit
set_option maxRecDepth 100000
end Go.Proofs.YtonglhkiobibgaaGreatDoor
namespace Go.Proofs.YtonglhkiobibgaaGreatDoor
open Go.RowKit
set_option maxRecDepth 100000
end Go.Proofs.YtonglhkiobibgaaGreatDoor
namespace Go.Proofs.YtonglhkiobibgaaGreatDoor
open Go.RowKit
set_option maxRecDepth 100000
/-- a rest of a list -/
def Suf (B r : List Int) : Prop := B.drop (B.length - r.length) = r
theorem Suf.le {B r : List Int} (h : Suf B r) : r.length ≤ B.length := by
  have := congrArg List.length h
  rw [List.length_drop] at this; omega
theorem Suf.drop {B r : List Int} (h : Suf B r) (n : Nat) : Suf B (r.drop n) := by
  have hl := h.le
  unfold Suf at *
  rw [List.length_drop]
  by_cases hn : n ≤ r.length
  · conv => rhs; rw [← h, List.drop_drop]
    congr 1; omega
  · rw [List.drop_of_length_le (by omega), List.drop_of_length_le (l := r) (by omega)]
theorem Suf.ex {B r r' : List Int} (h : Suf B r) (hx : ∃ n, r' = r.drop n) : Suf B r' := by obtain ⟨n, rfl⟩ := hx; exact h.drop n
end Go.Proofs.YtonglhkiobibgaaGreatDoor
namespace Go.Proofs.YtonglhkiobibgaaGreatDoor
open Go.RowKit
set_option maxRecDepth 100000
end Go.Proofs.YtonglhkiobibgaaGreatDoor
namespace Go.Proofs.YtonglhkiobibgaaGreatDoor
set_option maxRecDepth 100000
end Go.Proofs.YtonglhkiobibgaaGreatDoor
namespace Go.Proofs.YtonglhkiobibgaaGreatDoor
open Go.RowKit
set_option maxRecDepth 100000
end Go.Proofs.YtonglhkiobibgaaGreatDoor
namespace Go.Proofs.YtonglhkiobibgaaGreatDoor
open Go.RowKit
set_option maxRecDepth 100000
theorem manyI.fin {α : Type} {f : List Int → α × Int × List Int} {N i : Nat} {R : List α × Int × List Int} {out : List α} {e : Int} {rest : List Int} (h : manyI f N R i out e rest) (hx : ¬ i < N ∨ e ≠ 0) : R = (out, e, rest) := by
  rcases h.st with ⟨he, hN, hle, hR⟩ | ⟨h0, hR⟩
  · subst he
    have : i = N := by rcases hx with h1 | h1; omega; exact absurd rfl h1
    subst this
    exact many_end hR
  · exact hR
end Go.Proofs.YtonglhkiobibgaaGreatDoor
namespace Go.Proofs.YtonglhkiobibgaaGreatDoor
open Go.RowKit
set_option maxRecDepth 100000
end Go.Proofs.YtonglhkiobibgaaGreatDoor
namespace Go.Proofs.YtonglhkiobibgaaGreatDoor
open Go.RowKit
set_option maxRecDepth 100000
def trL (l : List Int) : List Int := l.dropWhile fun x => decide (x = 0)
def trR (l : List Int) : List Int := (trL l.reverse).reverse
theorem trL_0 (l : List Int) : trL (0 :: l) = trL l := by simp [trL]
theorem trL_n {x : Int} (l : List Int) (h : x ≠ 0) : trL (x :: l) = x :: l := by simp [trL, h]
theorem trR_0 (l : List Int) : trR (l ++ [0]) = trR l := by simp [trR, trL]
theorem trR_n {x : Int} (l : List Int) (h : x ≠ 0) : trR (l ++ [x]) = l ++ [x] := by simp [trR, trL, h]
theorem trL_len (l : List Int) : (trL l).length ≤ l.length := by
  induction l with
  | nil => simp [trL]
  | cons x l ih =>
    by_cases h : x = 0
    · subst h; rw [trL_0, List.length_cons]; omega
    · rw [trL_n l h]; exact Nat.le_refl _
theorem trL_nil {l : List Int} : (trL l).length = 0 ↔ ∀ x ∈ l, x = 0 := by
  induction l with
  | nil => simp [trL]
  | cons x l ih =>
    by_cases h : x = 0
    · subst h; rw [trL_0, ih]; simp
    · rw [trL_n l h]; simp [h]
theorem trR_nil {l : List Int} : (trR l).length = 0 ↔ ∀ x ∈ l, x = 0 := by
  rw [trR, List.length_reverse, trL_nil]; simp
theorem trL_head {l r : List Int} {x : Int} (h : trL l = x :: r) : x ≠ 0 := by
  induction l with
  | nil => simp [trL] at h
  | cons y l ih =>
    by_cases hy : y = 0
    · subst hy; rw [trL_0] at h; exact ih h
    · rw [trL_n l hy] at h
      simp at h
      rw [← h.1]; exact hy
theorem trim_nil {l : List Int} : (trL (trR l)).length = 0 ↔ ∀ x ∈ l, x = 0 := by
  rw [trL_nil, ← trR_nil (l := l)]
  constructor
  · intro h
    by_cases h0 : (trR l).length = 0
    · exact h0
    · exfalso
      have hne : trR l ≠ [] := fun e => h0 (by rw [e]; rfl)
      have hd : trL l.reverse ≠ [] := fun e => hne (by rw [trR, e]; rfl)
      cases hq : trL l.reverse with
      | nil => exact hd hq
      | cons x r =>
        exact trL_head hq (h x (by rw [trR, hq]; simp))
  · intro h x hx
    rw [List.eq_nil_of_length_eq_zero h] at hx; cases hx
theorem le00 : ((0 : Int) ≤ 0) = True := eq_true (Int.le_refl 0)
abbrev L_tr (fr : Bool) (q : List Int) : ASt := ⟨envOf [(0, fB fr q), (1, .v (.int .u8 0))], heapOf [], 0⟩
theorem trimR_spec (fr : Bool) (l : List Int) (nb : Nat) (hB : l.length ≤ 140737488355328) : ASound Tryz.prog 259 [fB fr l, .v (.int .u8 0)] nb (.ret (fB fr (trR l)) []) := by
  refine ok_259.sound (by simp) ⟨al_fB l, trivial, trivial⟩ ?_
  simp only [ac_259, TT, ↓reduceIte, Nat.reduceEqDiff, Nat.reduceAdd, Nat.reduceMul, reduceCtorEq, Nat.reduceLeDiff]
  refine AWc.family (L_tr fr) (fun q => trR q = trR l ∧ q.length ≤ l.length) (fun q => q.length) l ⟨rfl, Nat.le_refl _⟩ ?_ ?_
  · refine Weak.calc [] (by decide) ?_ ?_ <;> simp [WT]
  · rintro q ⟨hq, hql⟩
    rcases List.eq_nil_or_concat q with h0 | ⟨p, x, h0⟩
    · subst h0
      have e1 : ¬ ((0 : Int) < ((0 : Nat) : Int)) := by decide
      rw [← hq]
      simp only [L_tr, List.length_nil, e1, TT, ↓reduceIte, Nat.reduceEqDiff, Nat.reduceAdd, Nat.reduceMul, reduceCtorEq, Nat.reduceLeDiff]
      exact Ends.data (r := .fs fr (eB []) 0) (.inr rfl) (by simp [ET]) (al_fB (fr := fr) [])
    · rw [List.concat_eq_append] at h0
      subst h0
      have hl : (p ++ [x]).length = p.length + 1 := by simp
      have e1 : ((0 : Int) < ((p.length + 1 : Nat) : Int)) := by omega
      have w1 : IntKind.i64.wrap (((p.length + 1 : Nat) : Int) - 1) = (p.length : Int) := by rw [wrap64 (by omega)]; omega
      have c1 : ((0 : Int) ≤ (p.length : Int) ∧ (p.length : Int) < ((p.length + 1 : Nat) : Int)) = True := eq_true ⟨by omega, by omega⟩
      have c2 : ((0 : Int) ≤ (p.length : Int) ∧ (p.length : Int) ≤ ((p.length + 1 : Nat) : Int)) = True := eq_true ⟨by omega, by omega⟩
      have g1 : (eB (p ++ [x]))[p.length]? = some (.v (.int .u8 x)) := get_B (by simp)
      have t1 : (p ++ [x]).take p.length = p := by simp
      by_cases hx : x = 0
      · subst hx
        simp only [L_tr, hl, e1, w1, c1, c2, Int.toNat_natCast, g1, take_B, t1, Nat.sub_zero, TT, ↓reduceIte, Nat.reduceEqDiff, Nat.reduceAdd, Nat.reduceMul, reduceCtorEq, Nat.reduceLeDiff]
        refine famC_next p (by simp only [List.length_append, List.length_cons, List.length_nil]; omega) ⟨?_, by omega⟩ ?_
        · rw [← hq, trR_0]
        · refine Weak.calc [] (by decide) ?_ ?_ <;> simp [WT]
      · simp only [L_tr, hl, e1, w1, c1, c2, Int.toNat_natCast, g1, hx, take_B, t1, TT, ↓reduceIte, Nat.reduceEqDiff, Nat.reduceAdd, Nat.reduceMul, reduceCtorEq, Nat.reduceLeDiff]
        rw [← hq, trR_n p hx, hl]
        exact Ends.data (r := .fs fr (eB (p ++ [x])) (p.length + 1)) (.inr rfl) (by simp [ET]) (al_B _)
theorem trimL_spec (fr : Bool) (l : List Int) (nb : Nat) (hB : l.length ≤ 140737488355328) : ASound Tryz.prog 258 [fB fr l, .v (.int .u8 0)] nb (.ret (fB fr (trL l)) []) := by
  refine ok_258.sound (by simp) ⟨al_fB l, trivial, trivial⟩ ?_
  simp only [ac_258, TT, ↓reduceIte, Nat.reduceEqDiff, Nat.reduceAdd, Nat.reduceMul, reduceCtorEq, Nat.reduceLeDiff]
  refine AWc.family (L_tr fr) (fun q => trL q = trL l ∧ q.length ≤ l.length) (fun q => q.length) l ⟨rfl, Nat.le_refl _⟩ ?_ ?_
  · refine Weak.calc [] (by decide) ?_ ?_ <;> simp [WT]
  · rintro q ⟨hq, hql⟩
    cases q with
    | nil =>
      have e1 : ¬ ((0 : Int) < ((0 : Nat) : Int)) := by decide
      have e2 : ((0 : Nat) : Int) = 0 := rfl
      rw [← hq]
      simp only [L_tr, List.length_nil, e1, e2, TT, ↓reduceIte, Nat.reduceEqDiff, Nat.reduceAdd, Nat.reduceMul, reduceCtorEq, Nat.reduceLeDiff]
      exact Ends.imp (r0 := .v (.slice none 0 0)) (.inr rfl) (by simp [ET]) trivial (Imp.nil fr)
    | cons x p =>
      have e1 : ((0 : Int) < ((p.length + 1 : Nat) : Int)) := by omega
      have e2 : ¬ ((p.length + 1 : Nat) : Int) = 0 := by omega
      have c1 : ((0 : Int) ≤ 0 ∧ (0 : Int) < ((p.length + 1 : Nat) : Int)) = True := eq_true ⟨by omega, by omega⟩
      have c2 : ((0 : Int) ≤ 1 ∧ (1 : Int) ≤ ((p.length + 1 : Nat) : Int)) = True := eq_true ⟨by omega, by omega⟩
      have g1 : (eB (x :: p))[Int.toNat 0]? = some (.v (.int .u8 x)) := rfl
      have t1 : (eB (x :: p)).drop (Int.toNat 1) = eB p := rfl
      have n1 : p.length + 1 - Int.toNat 1 = p.length := rfl
      by_cases hx : x = 0
      · subst hx
        simp only [L_tr, List.length_cons, e1, le00, c1, c2, g1, t1, n1, tk_B, TT, ↓reduceIte, Nat.reduceEqDiff, Nat.reduceAdd, Nat.reduceMul, reduceCtorEq, Nat.reduceLeDiff]
        refine famC_next p (by simp) ⟨?_, by rw [List.length_cons] at hql; omega⟩ ?_
        · rw [← hq, trL_0]
        · refine Weak.calc [] (by decide) ?_ ?_ <;> simp [WT]
      · rw [← hq, trL_n p hx]
        simp only [L_tr, List.length_cons, e1, e2, le00, c1, c2, g1, t1, n1, hx, tk_B, TT, ↓reduceIte, Nat.reduceEqDiff, Nat.reduceAdd, Nat.reduceMul, reduceCtorEq, Nat.reduceLeDiff]
        exact Ends.data (r := .fs fr (eB (x :: p)) (p.length + 1)) (.inr rfl) (by simp [ET]) (al_B _)
theorem trim_spec (fr : Bool) (l : List Int) (nb : Nat) (hB : l.length ≤ 140737488355328) : ASound Tryz.prog 224 [fB fr l, .v (.string (ByteArray.mk #[0]))] nb (.ret (fB fr (trL (trR l))) []) := by
  refine ok_224.sound (by simp) ⟨al_fB l, trivial, trivial⟩ ?_
  by_cases h0 : l.length = 0
  · have hl : l = [] := List.eq_nil_of_length_eq_zero h0
    subst hl
    have e2 : ((0 : Nat) : Int) = 0 := rfl
    simp only [ac_224, List.length_nil, e2, TT, ↓reduceIte, Nat.reduceEqDiff, Nat.reduceAdd, Nat.reduceMul, reduceCtorEq, Nat.reduceLeDiff]
    exact Ends.imp (r0 := .v (.slice none 0 0)) (.inr rfl) (by simp [ET]) trivial (Imp.nil fr)
  · have e2 : ¬ (l.length : Int) = 0 := by omega
    have s1 : strOp BinOp.eql (ByteArray.mk #[0]) (ByteArray.mk #[]) = some (.bool false) := by kernel_rfl
    have s2 : (ByteArray.mk #[0]).size = 1 := rfl
    have s3 : (ByteArray.mk #[0])[Int.toNat 0]? = some 0 := rfl
    have s4 : ((1 : Nat) : Int) = 1 := rfl
    have s5 : (((0 : UInt8).toNat : Nat) : Int) = 0 := rfl
    have s6 : (0 : Int) < 128 := by decide
    simp only [ac_224, e2, s1, s2, s3, s4, s5, s6, le00, TT, ↓reduceIte, Nat.reduceEqDiff, Nat.reduceAdd, Nat.reduceMul, reduceCtorEq, Nat.reduceLeDiff]
    have hr : (trR l).length ≤ l.length := by
      have := trL_len l.reverse
      rw [trR, List.length_reverse]; rw [List.length_reverse] at this; exact this
    refine ⟨_, trimR_spec fr l _ hB, ?_⟩
    simp only [s3, s5, le00, TT, ↓reduceIte, Nat.reduceEqDiff, Nat.reduceAdd, Nat.reduceMul, reduceCtorEq, Nat.reduceLeDiff]
    refine ⟨_, trimL_spec fr (trR l) _ (by omega), ?_⟩
    simp only [TT, ↓reduceIte, Nat.reduceEqDiff, Nat.reduceAdd, Nat.reduceMul, reduceCtorEq, Nat.reduceLeDiff]
    refine ⟨by rfl, ?_⟩
    exact Ends.data (r := fB fr (trL (trR l))) (.inr rfl) (by simp [ET, fB]) (al_fB _)
end Go.Proofs.YtonglhkiobibgaaGreatDoor
namespace Go.Proofs.YtonglhkiobibgaaGreatDoor
open Go.RowKit
set_option maxRecDepth 100000
def upE (a b : Int) : Int := (a + b - 1) / b
theorem upE_bd {a b : Int} (h1 : 0 ≤ a) (h2 : 1 ≤ b) : 0 ≤ upE a b ∧ upE a b ≤ a + b - 1 := ⟨Int.ediv_nonneg (by omega) (by omega), Int.ediv_le_self _ (by omega)⟩
theorem up_spec (a b : Int) (nb : Nat) (h1 : 0 ≤ a) (h2 : a ≤ 10000) (h3 : 1 ≤ b) (h4 : b ≤ 10000) : ASound Tryz.prog 180 [.v (.int .i64 a), .v (.int .i64 b)] nb (.ret (.v (.int .i64 (upE a b))) []) := by
  refine ok_180.sound (by simp) ⟨trivial, trivial, trivial⟩ ?_
  have w1 : IntKind.i64.wrap (a + b) = a + b := wrap64 (by omega)
  have w2 : IntKind.i64.wrap (a + b - 1) = a + b - 1 := wrap64 (by omega)
  have hb := upE_bd h1 h3
  have w3 : IntKind.i64.wrap ((a + b - 1).tdiv b) = upE a b := by
    rw [Int.tdiv_eq_ediv_of_nonneg (by omega)]
    exact wrap64 (by have := hb.1; have := hb.2; unfold upE at *; omega)
  have hz : (b = 0) = False := eq_false (by omega)
  simp only [ac_180, w1, w2, w3, hz, TT, ↓reduceIte, Nat.reduceEqDiff, Nat.reduceAdd, Nat.reduceMul, reduceCtorEq, Nat.reduceLeDiff]
  exact Ends.data (.inr rfl) (by simp [ET]) trivial
def nBl (z : Int) : Int := upE z 32
def mBl (z : Int) : Int := if 12 < nBl z then 1 + upE (nBl z - 12) 8 + 1 else if 4 < nBl z then 1 else 0
def blkE (z : Int) : Int := if z < 0 then 4 else if 2432 < z then 107 else 0
theorem blocks_spec (z : Int) (nb : Nat) : ASound Tryz.prog 176 [.v (.int .i64 z)] nb (.ret (.tup [.v (.int .i64 (if blkE z = 0 then nBl z else 0)), .v (.int .i64 (if blkE z = 0 then mBl z else 0)), .v (.int .i64 (blkE z))]) []) := by
  refine ok_176.sound (by simp) ⟨trivial, trivial⟩ ?_
  by_cases c1 : z < 0
  · have e : blkE z = 4 := if_pos c1
    simp only [ac_176, e, c1, decide_true, TT, ↓reduceIte, Nat.reduceEqDiff, Nat.reduceAdd, Nat.reduceMul, reduceCtorEq, Nat.reduceLeDiff]
    exact Ends.data (.inr rfl) (by simp [ET]) ⟨trivial, trivial, trivial, trivial⟩
  by_cases c2 : 2432 < z
  · have e : blkE z = 107 := by rw [blkE, if_neg c1, if_pos c2]
    simp only [ac_176, e, c1, c2, decide_true, decide_false, TT, ↓reduceIte, Nat.reduceEqDiff, Nat.reduceAdd, Nat.reduceMul, reduceCtorEq, Nat.reduceLeDiff]
    exact Ends.data (.inr rfl) (by simp [ET]) ⟨trivial, trivial, trivial, trivial⟩
  have e : blkE z = 0 := by rw [blkE, if_neg c1, if_neg c2]
  have hn : 0 ≤ nBl z ∧ nBl z ≤ 76 := ⟨(upE_bd (by omega) (by omega)).1, by unfold nBl upE; omega⟩
  simp only [ac_176, e, c1, c2, decide_false, if_true, TT, ↓reduceIte, Nat.reduceEqDiff, Nat.reduceAdd, Nat.reduceMul, reduceCtorEq, Nat.reduceLeDiff]
  refine ⟨_, up_spec z 32 _ (by omega) (by omega) (by omega) (by omega), ?_⟩
  have hnd : upE z 32 = nBl z := rfl
  rw [hnd]
  by_cases d1 : 12 < nBl z
  · have w1 : IntKind.i64.wrap (nBl z - 12) = nBl z - 12 := wrap64 (by omega)
    have hu := upE_bd (a := nBl z - 12) (b := 8) (by omega) (by omega)
    have w2 : IntKind.i64.wrap (1 + upE (nBl z - 12) 8) = 1 + upE (nBl z - 12) 8 := wrap64 (by omega)
    have w3 : IntKind.i64.wrap (1 + upE (nBl z - 12) 8 + 1) = 1 + upE (nBl z - 12) 8 + 1 := wrap64 (by omega)
    have em : mBl z = 1 + upE (nBl z - 12) 8 + 1 := if_pos d1
    simp only [d1, w1, em, decide_true, TT, ↓reduceIte, Nat.reduceEqDiff, Nat.reduceAdd, Nat.reduceMul, reduceCtorEq, Nat.reduceLeDiff]
    refine ⟨_, up_spec (nBl z - 12) 8 _ (by omega) (by omega) (by omega) (by omega), ?_⟩
    simp only [w2, w3, TT, ↓reduceIte, Nat.reduceEqDiff, Nat.reduceAdd, Nat.reduceMul, reduceCtorEq, Nat.reduceLeDiff]
    exact Ends.data (.inr rfl) (by simp [ET]) ⟨trivial, trivial, trivial, trivial⟩
  by_cases d2 : 4 < nBl z
  · have em : mBl z = 1 := by rw [mBl, if_neg d1, if_pos d2]
    have w : IntKind.i64.wrap (0 + 1) = 1 := by rfl
    simp only [d1, d2, em, w, decide_true, decide_false, TT, ↓reduceIte, Nat.reduceEqDiff, Nat.reduceAdd, Nat.reduceMul, reduceCtorEq, Nat.reduceLeDiff]
    exact Ends.data (.inr rfl) (by simp [ET]) ⟨trivial, trivial, trivial, trivial⟩
  · have em : mBl z = 0 := by rw [mBl, if_neg d1, if_neg d2]
    simp only [d1, d2, em, decide_false, TT, ↓reduceIte, Nat.reduceEqDiff, Nat.reduceAdd, Nat.reduceMul, reduceCtorEq, Nat.reduceLeDiff]
    exact Ends.data (.inr rfl) (by simp [ET]) ⟨trivial, trivial, trivial, trivial⟩
def zrB (l : List Int) : Bool := decide (∀ x ∈ l, x = 0)
theorem zero_spec (fr : Bool) (l : List Int) (nb : Nat) (hB : l.length ≤ 140737488355328) : ASound Tryz.prog 177 [fB fr l] nb (.ret (.v (.bool (zrB l))) []) := by
  refine ok_177.sound (by simp) ⟨al_fB l, trivial⟩ ?_
  have h := fun nb => trim_spec fr l nb hB
  simp only [fB] at h
  simp only [ac_177, fB, TT, ↓reduceIte, Nat.reduceEqDiff, Nat.reduceAdd, Nat.reduceMul, reduceCtorEq, Nat.reduceLeDiff]
  refine ⟨_, h _, ?_⟩
  have hd : decide (((trL (trR l)).length : Int) = 0) = zrB l := by
    unfold zrB
    by_cases h : ∀ x ∈ l, x = 0
    · rw [decide_eq_true h]; exact decide_eq_true (by have := trim_nil.2 h; omega)
    · rw [decide_eq_false h]; exact decide_eq_false fun h9 => h (trim_nil.1 (by omega))
  simp only [hd, TT, ↓reduceIte, Nat.reduceEqDiff, Nat.reduceAdd, Nat.reduceMul, reduceCtorEq, Nat.reduceLeDiff]
  exact Ends.data (.inr rfl) (by simp [ET]) trivial
/-- may blocks be, behind a place? -/
def okBk (z n : Int) : Int → List Bk → Bool
  | _, [] => true
  | p, b :: r => (decide (p < b.index) && (decide (b.index < n) && (decide (b.data.length = 32) && (!zrB b.data && (!(decide (z - 32 * b.index < 32)) || zrB (b.data.drop (z - 32 * b.index).toNat)))))) && okBk z n b.index r
theorem okBk_drop {z n p : Int} {l : List Bk} {i : Nat} {b : Bk} (h : l[i]? = some b) : okBk z n p (l.drop i) = ((decide (p < b.index) && (decide (b.index < n) && (decide (b.data.length = 32) && (!zrB b.data && (!(decide (z - 32 * b.index < 32)) || zrB (b.data.drop (z - 32 * b.index).toNat)))))) && okBk z n b.index (l.drop (i + 1))) := by
  have hi := (List.getElem?_eq_some_iff.1 h)
  rw [List.drop_eq_getElem_cons hi.1, hi.2, okBk]
def chkFl (f : Fl) : Int := if blkE f.size = 0 then (if okBk f.size (nBl f.size) (-1) f.blocks = true then 0 else 9) else 9
abbrev L_fc (fr : Bool) (f : Fl) (q : Nat × Int) : ASt := ⟨envOf [(1, .op 0 0), (3, .v (.int .i64 (nBl f.size))), (6, .v (.int .i64 q.2)), (20, fBks fr f.blocks), (21, .v (.int .i64 f.blocks.length)), (22, .v (.int .i64 q.1))], heapOf [(0, .row true 115 [.v (.int .i64 f.size), fBks fr f.blocks])], 1⟩
set_option maxHeartbeats 2000000 in
theorem fchk_spec (fr : Bool) (f : Fl) (nb : Nat) (hl : f.blocks.length ≤ 140737488355328) : ASound Tryz.prog 118 [aFl fr f] nb (.ret (.v (.int .i64 (chkFl f))) []) := by
  refine ok_118.sound (by simp) ⟨al_aFl f, trivial⟩ ?_
  simp only [ac_118, aFl, fBks, TT, ↓reduceIte, Nat.reduceEqDiff, Nat.reduceAdd, Nat.reduceMul, reduceCtorEq, Nat.reduceLeDiff]
  refine ⟨_, blocks_spec f.size _, ?_⟩
  by_cases c0 : ¬ (blkE f.size = 0)
  · have e : chkFl f = 9 := if_neg c0
    simp only [c0, e, decide_false, TT, ↓reduceIte, Nat.reduceEqDiff, Nat.reduceAdd, Nat.reduceMul, reduceCtorEq, Nat.reduceLeDiff]
    exact Ends.data (.inr rfl) (by simp [ET]) trivial
  replace c0 : blkE f.size = 0 := Decidable.not_not.1 c0
  have e0 : chkFl f = if okBk f.size (nBl f.size) (-1) f.blocks = true then 0 else 9 := if_pos c0
  have hz : 0 ≤ f.size ∧ f.size ≤ 2432 := by
    unfold blkE at c0
    split at c0
    · cases c0
    · split at c0
      · cases c0
      · omega
  have hn : 0 ≤ nBl f.size ∧ nBl f.size ≤ 76 ∧ 32 * (nBl f.size - 1) < f.size := by unfold nBl upE; omega
  rw [e0]
  simp only [c0, decide_true, if_true, TT, ↓reduceIte, Nat.reduceEqDiff, Nat.reduceAdd, Nat.reduceMul, reduceCtorEq, Nat.reduceLeDiff]
  refine AWc.family (L_fc fr f) (fun q => q.1 ≤ f.blocks.length ∧ -1 ≤ q.2 ∧ okBk f.size (nBl f.size) q.2 (f.blocks.drop q.1) = okBk f.size (nBl f.size) (-1) f.blocks) (fun q => f.blocks.length - q.1) (0, -1) ⟨Nat.zero_le _, Int.le_refl _, rfl⟩ ?_ ?_
  · refine Weak.calc [(0, 0)] (by decide) ?_ ?_ <;> simp [WT, al_Bks, ren_Bks, fBks]
  · rintro ⟨i, p⟩ ⟨hi, hp, he⟩
    simp only at hi hp he
    by_cases hlt : i < f.blocks.length
    · obtain ⟨b, hx, e1, e0⟩ := lt_at hlt
      obtain ⟨b0, b1⟩ := get_Bks (fr := fr) hx
      rw [okBk_drop hx] at he
      simp only [L_fc, fBks, e1, e0, b0, b1, Int.toNat_natCast, TT, ↓reduceIte, Nat.reduceEqDiff, Nat.reduceAdd, Nat.reduceMul, reduceCtorEq, Nat.reduceLeDiff]
      by_cases c1 : b.index ≤ p
      · have d1 : ¬ p < b.index := by omega
        simp only [c1, decide_true, TT, ↓reduceIte, Nat.reduceEqDiff, Nat.reduceAdd, Nat.reduceMul, reduceCtorEq, Nat.reduceLeDiff]
        exact Ends.data (.inr rfl) (by simp [ET, ← he, d1]) trivial
      by_cases c2 : nBl f.size ≤ b.index
      · have d2 : ¬ b.index < nBl f.size := by omega
        simp only [c1, c2, decide_true, decide_false, TT, ↓reduceIte, Nat.reduceEqDiff, Nat.reduceAdd, Nat.reduceMul, reduceCtorEq, Nat.reduceLeDiff]
        exact Ends.data (.inr rfl) (by simp [ET, ← he, d2]) trivial
      by_cases c3 : ¬ (b.data.length = 32)
      · have d3 : ((b.data.length : Int) = 32) = False := eq_false (by omega)
        simp only [c1, c2, d3, decide_false, Bool.not_false, TT, ↓reduceIte, Nat.reduceEqDiff, Nat.reduceAdd, Nat.reduceMul, reduceCtorEq, Nat.reduceLeDiff]
        exact Ends.data (.inr rfl) (by simp [ET, ← he, c3]) trivial
      replace c3 : b.data.length = 32 := Decidable.not_not.1 c3
      have d3 : ((b.data.length : Int) = 32) = True := eq_true (by omega)
      have hz1 := fun nb => zero_spec fr b.data nb (by omega)
      simp only [fB] at hz1
      simp only [c1, c2, d3, decide_false, decide_true, Bool.not_true, TT, ↓reduceIte, Nat.reduceEqDiff, Nat.reduceAdd, Nat.reduceMul, reduceCtorEq, Nat.reduceLeDiff]
      refine ⟨_, hz1 _, ?_⟩
      have d1 : p < b.index := by omega
      have d2 : b.index < nBl f.size := by omega
      rcases Bool.eq_false_or_eq_true (zrB b.data) with hzb | hzb
      · simp only [hzb, TT, ↓reduceIte, Nat.reduceEqDiff, Nat.reduceAdd, Nat.reduceMul, reduceCtorEq, Nat.reduceLeDiff]
        exact Ends.data (.inr rfl) (by simp [ET, ← he, hzb]) trivial
      have w1 : IntKind.i64.wrap (32 * b.index) = 32 * b.index := wrap64 (by omega)
      have w2 : IntKind.i64.wrap (f.size - 32 * b.index) = f.size - 32 * b.index := wrap64 (by omega)
      simp only [hzb, w1, w2, TT, ↓reduceIte, Nat.reduceEqDiff, Nat.reduceAdd, Nat.reduceMul, reduceCtorEq, Nat.reduceLeDiff]
      by_cases c4 : f.size - 32 * b.index < 32
      · obtain ⟨k, hk⟩ : ∃ k : Nat, f.size - 32 * b.index = (k : Int) := ⟨(f.size - 32 * b.index).toNat, by omega⟩
        have g1 : ((k : Int) < 32) = True := eq_true (by omega)
        have g2 : ((0 : Int) ≤ (k : Int)) = True := eq_true (by omega)
        have g3 : ((k : Int) ≤ (b.data.length : Int)) = True := eq_true (by omega)
        have hz2 := fun nb => zero_spec fr (b.data.drop k) nb (by rw [List.length_drop]; omega)
        simp only [fB, List.length_drop] at hz2
        have hdr : (eB b.data).drop k = eB (b.data.drop k) := by simp [eB]
        have htk : List.take (b.data.length - k) (eB (b.data.drop k)) = eB (b.data.drop k) := List.take_of_length_le (by simp [eB])
        rw [hk] at he
        simp only [hk, g1, g2, g3, hdr, htk, len_B, decide_true, and_self, Int.toNat_natCast, TT, ↓reduceIte, Nat.reduceEqDiff, Nat.reduceAdd, Nat.reduceMul, reduceCtorEq, Nat.reduceLeDiff]
        refine ⟨_, hz2 _, ?_⟩
        cases hzd : zrB (b.data.drop k)
        · simp only [Bool.not_false, TT, ↓reduceIte, Nat.reduceEqDiff, Nat.reduceAdd, Nat.reduceMul, reduceCtorEq, Nat.reduceLeDiff]
          exact Ends.data (.inr rfl) (by simp [ET, ← he, g1, hzd]) trivial
        · simp only [Bool.not_true, TT, ↓reduceIte, Nat.reduceEqDiff, Nat.reduceAdd, Nat.reduceMul, reduceCtorEq, Nat.reduceLeDiff]
          refine famC_next (i + 1, b.index) (by show f.blocks.length - (i + 1) < f.blocks.length - i; omega) ⟨by show i + 1 ≤ f.blocks.length; omega, by show -1 ≤ b.index; omega, by rw [← he]; simp [d1, d2, c3, hzb, hzd]⟩ ?_
          refine Weak.calc [(0, 0)] (by decide) ?_ ?_ <;> simp [WT, al_Bks, ren_Bks, fBks, wrap64 (x := (i : Int) + 1) (by omega)]
      · simp only [c4, decide_false, TT, ↓reduceIte, Nat.reduceEqDiff, Nat.reduceAdd, Nat.reduceMul, reduceCtorEq, Nat.reduceLeDiff]
        refine famC_next (i + 1, b.index) (by show f.blocks.length - (i + 1) < f.blocks.length - i; omega) ⟨by show i + 1 ≤ f.blocks.length; omega, by show -1 ≤ b.index; omega, by rw [← he]; simp [d1, d2, c3, hzb, c4]⟩ ?_
        refine Weak.calc [(0, 0)] (by decide) ?_ ?_ <;> simp [WT, al_Bks, ren_Bks, fBks, wrap64 (x := (i : Int) + 1) (by omega)]
    · obtain rfl : i = f.blocks.length := by omega
      have e1 : ¬ ((f.blocks.length : Int) < (f.blocks.length : Int)) := by omega
      have h9 : okBk f.size (nBl f.size) (-1) f.blocks = true := by rw [← he, List.drop_length]; rfl
      simp only [L_fc, fBks, e1, TT, ↓reduceIte, Nat.reduceEqDiff, Nat.reduceAdd, Nat.reduceMul, reduceCtorEq, Nat.reduceLeDiff]
      exact Ends.data (.inr rfl) (by simp [ET, h9]) trivial
def mayN (n : Nd) (k : Int) : Bool :=
  if chkD n.entries ≠ 0 ∨ chkFl n.file ≠ 0 ∨ n.links ≠ k then false
  else if (n.dir = true ∧ n.file.size ≠ 0) ∨ (n.dir = false ∧ 0 < n.entries.length) then false
  else if n.ino = 1 then n.dir && decide (k = 0)
  else if n.dir = true then decide (k = 1) else decide (1 ≤ k) && decide (k ≤ 16)
set_option maxHeartbeats 2000000 in
theorem may_spec (fr : Bool) (l : List Nd) (i : Nat) (n : Nd) (k : Int) (nb : Nat) (hx : l[i]? = some n) (hl : n.file.blocks.length ≤ 140737488355328) : ASound Tryz.prog 86 [.fp fr (eNds fr l) (i * 6), .v (.int .i64 k)] nb (.ret (.v (.bool (mayN n k))) []) := by
  refine ok_86.sound (by simp) ⟨al_Nds l, trivial, trivial⟩ ?_
  obtain ⟨a0, a1, a2, a3, a4, a5⟩ := get_Nds (fr := fr) hx
  have h1 := fun nb => dchk_spec fr n.entries nb
  have h2 := fun nb => fchk_spec fr n.file nb hl
  simp only [fEnts] at h1
  simp only [aFl, fBks] at h2
  simp only [ac_86, a3, TT, ↓reduceIte, Nat.reduceEqDiff, Nat.reduceAdd, Nat.reduceMul, reduceCtorEq, Nat.reduceLeDiff]
  refine ⟨_, h1 _, ?_⟩
  by_cases c1 : ¬ (chkD n.entries = 0)
  · have e : mayN n k = false := if_pos (.inl c1)
    simp only [c1, e, decide_false, Bool.not_false, TT, ↓reduceIte, Nat.reduceEqDiff, Nat.reduceAdd, Nat.reduceMul, reduceCtorEq, Nat.reduceLeDiff]
    exact Ends.data (.inr rfl) (by simp [ET]) trivial
  replace c1 : chkD n.entries = 0 := Decidable.not_not.1 c1
  simp only [c1, a4, a5, decide_true, Bool.not_true, TT, ↓reduceIte, Nat.reduceEqDiff, Nat.reduceAdd, Nat.reduceMul, reduceCtorEq, Nat.reduceLeDiff]
  refine ⟨_, h2 _, ?_⟩
  by_cases c2 : ¬ (chkFl n.file = 0)
  · have e : mayN n k = false := if_pos (.inr (.inl c2))
    simp only [c2, e, decide_false, Bool.not_false, TT, ↓reduceIte, Nat.reduceEqDiff, Nat.reduceAdd, Nat.reduceMul, reduceCtorEq, Nat.reduceLeDiff]
    exact Ends.data (.inr rfl) (by simp [ET]) trivial
  replace c2 : chkFl n.file = 0 := Decidable.not_not.1 c2
  simp only [c2, a2, decide_true, Bool.not_true, TT, ↓reduceIte, Nat.reduceEqDiff, Nat.reduceAdd, Nat.reduceMul, reduceCtorEq, Nat.reduceLeDiff]
  by_cases c3 : ¬ (n.links = k)
  · have e : mayN n k = false := if_pos (.inr (.inr c3))
    simp only [c3, e, decide_false, Bool.not_false, TT, ↓reduceIte, Nat.reduceEqDiff, Nat.reduceAdd, Nat.reduceMul, reduceCtorEq, Nat.reduceLeDiff]
    exact Ends.data (.inr rfl) (by simp [ET]) trivial
  replace c3 : n.links = k := Decidable.not_not.1 c3
  have e0 : mayN n k = if (n.dir = true ∧ n.file.size ≠ 0) ∨ (n.dir = false ∧ 0 < n.entries.length) then false else if n.ino = 1 then n.dir && decide (k = 0) else if n.dir = true then decide (k = 1) else decide (1 ≤ k) && decide (k ≤ 16) := if_neg (by simp [c1, c2, c3])
  rw [e0]
  simp only [c3, a0, a1, a3, a4, decide_true, Bool.not_true, TT, ↓reduceIte, Nat.reduceEqDiff, Nat.reduceAdd, Nat.reduceMul, reduceCtorEq, Nat.reduceLeDiff]
  cases hd : n.dir
  · by_cases c4 : 0 < n.entries.length
    · have g : ((0 : Int) < (n.entries.length : Int)) = True := eq_true (by omega)
      simp only [g, decide_true, Bool.not_false, TT, ↓reduceIte, Nat.reduceEqDiff, Nat.reduceAdd, Nat.reduceMul, reduceCtorEq, Nat.reduceLeDiff]
      exact Ends.data (.inr rfl) (by simp [ET, c4]) trivial
    · have g : ((0 : Int) < (n.entries.length : Int)) = False := eq_false (by omega)
      by_cases c5 : n.ino = 1
      · simp only [g, c5, decide_true, decide_false, Bool.not_false, TT, ↓reduceIte, Nat.reduceEqDiff, Nat.reduceAdd, Nat.reduceMul, reduceCtorEq, Nat.reduceLeDiff]
        exact Ends.data (.inr rfl) (by simp [ET, c4, c5]) trivial
      · by_cases c6 : 1 ≤ k
        · simp only [g, c5, c6, decide_true, decide_false, Bool.not_false, TT, ↓reduceIte, Nat.reduceEqDiff, Nat.reduceAdd, Nat.reduceMul, reduceCtorEq, Nat.reduceLeDiff]
          exact Ends.data (.inr rfl) (by simp [ET, c4, c5, c6]) trivial
        · simp only [g, c5, c6, decide_true, decide_false, Bool.not_false, TT, ↓reduceIte, Nat.reduceEqDiff, Nat.reduceAdd, Nat.reduceMul, reduceCtorEq, Nat.reduceLeDiff]
          exact Ends.data (.inr rfl) (by simp [ET, c4, c5, c6]) trivial
  · by_cases c4 : n.file.size = 0
    · by_cases c5 : n.ino = 1
      · simp only [c4, c5, decide_true, Bool.not_true, TT, ↓reduceIte, Nat.reduceEqDiff, Nat.reduceAdd, Nat.reduceMul, reduceCtorEq, Nat.reduceLeDiff]
        exact Ends.data (.inr rfl) (by simp [ET, c4, c5]) trivial
      · simp only [c4, c5, decide_true, decide_false, Bool.not_true, TT, ↓reduceIte, Nat.reduceEqDiff, Nat.reduceAdd, Nat.reduceMul, reduceCtorEq, Nat.reduceLeDiff]
        exact Ends.data (.inr rfl) (by simp [ET, c4, c5]) trivial
    · simp only [c4, decide_false, Bool.not_true, Bool.not_false, TT, ↓reduceIte, Nat.reduceEqDiff, Nat.reduceAdd, Nat.reduceMul, reduceCtorEq, Nat.reduceLeDiff]
      exact Ends.data (.inr rfl) (by simp [ET, c4]) trivial
end Go.Proofs.YtonglhkiobibgaaGreatDoor
namespace Go.Proofs.YtonglhkiobibgaaGreatDoor
open Go.RowKit
variable {P : Program} {N m : Nat}
def Fz0U (id : Nat) (y : Bool) (e : Nat) (cells : List AV) (a b : AV) : Prop :=
  b = a ∨ b = .any ∨ ∃ n sz, a = .os id 0 n sz ∧ b = .us y e (cells.take (n * sz)) n
def FzU (id : Nat) (y : Bool) (e : Nat) (cells : List AV) (a b : AV) : Prop :=
  Fz0U id y e cells a b ∨ ∃ l l', a = .agg l ∧ b = .agg l' ∧ l'.length = l.length ∧ ∀ (j : Nat) x', l'[j]? = some x' → ∃ x, l[j]? = some x ∧ Fz0U id y e cells x x'
theorem Imp.us {fr fr' : Bool} {e n : Nat} {l l' : List AV} (hf : fr' = true → fr = true) (hl : ImpL l l') : Imp (.us fr e l n) (.fs fr' l' n) := by
  rintro c u ⟨A, k, rfl, hk, hm⟩
  refine ⟨A, k, rfl, hk, fun h0 => ?_⟩
  obtain ⟨b, rfl, ho, ⟨vs, hv⟩, hc⟩ := hm h0
  refine ⟨b, 0, rfl, (Array.getElem?_eq_some_iff.1 hv).1, ⟨fun h => ho.1 (hf h), ho.2⟩, VRm_iff.2 fun j a hj => ?_⟩
  obtain ⟨x, hx, hi⟩ := (ImpL_get hl).2 j a hj
  obtain ⟨u, k1, k2, k3⟩ := VRm_iff.1 hc j x hx
  exact ⟨u, k1, k2, hi _ _ k3⟩
/-- A row is written no more: what led to it is data. -/
theorem Weak.freezeU {s : ASt} (id : Nat) {y : Bool} {e : Nat} {cells : List AV} (hid : s.σ id = some (.row y e cells)) (l : List (Nat × AV)) (h : List (Nat × AObj))
    (hl : ∀ t v, (t, v) ∈ l → FzU id y e cells (s.env t) v)
    (hh : ∀ j o, (j, o) ∈ h → j ≠ id ∧ ∃ y' e' cs cs', s.σ j = some (.row y' e' cs) ∧ o = .row y' e' cs' ∧ cs'.length = cs.length ∧ ∀ (k : Nat) x', cs'[k]? = some x' → ∃ x, cs[k]? = some x ∧ Fz0U id y e cells x x') : Weak N m s ⟨envOf l, heapOf h, s.nx⟩ := by
  intro c a hr hms
  generalize hd : (⟨c.w, c.B, c.φ, heapOf h, c.X, c.Y⟩ : Cx) = d
  have dw : d.w = c.w := by rw [← hd]
  have dB : d.B = c.B := by rw [← hd]
  have dX : d.X = c.X := by rw [← hd]
  have dY : d.Y = c.Y := by rw [← hd]
  have dσ : d.σ = heapOf h := by rw [← hd]
  have dφ : d.φ = c.φ := by rw [← hd]
  have hidc : c.σ id = some (.row y e cells) := by rw [hr.σ]; exact hid
  have live : ∀ j o, d.σ j = some o → j ≠ id ∧ ∃ y' e' cs cs', c.σ j = some (.row y' e' cs) ∧ o = .row y' e' cs' ∧ cs'.length = cs.length ∧ ∀ (k : Nat) x', cs'[k]? = some x' → ∃ x, cs[k]? = some x ∧ Fz0U id y e cells x x' := by
    intro j o hj
    rw [dσ] at hj
    obtain ⟨e1, y', e', cs, cs', f1, f2⟩ := hh j o (heapOf_mem hj)
    exact ⟨e1, y', e', cs, cs', by rw [hr.σ]; exact f1, f2⟩
  have hT : ∀ b, d.T b → c.T b ∧ c.φ id ≠ some (some b) := by
    rintro b ⟨k, o, e1, e2⟩
    obtain ⟨f0, y', e', cs, cs', f1, _⟩ := live k o e1
    rw [dφ] at e2
    exact ⟨⟨k, _, f1, e2⟩, fun h9 => f0 (hr.hr.inj k id b (by rw [f1]; simp) (by rw [hidc]; simp) e2 h9)⟩
  have g : Grow c d := Still.grow ⟨dY, dX, dB, by rw [dw], by rw [dw], by rw [dw], by rw [dw]; exact Nat.le_refl _, fun b _ _ => by rw [dw], fun b hb => .inl (hT b hb).1, fun b cs e f hb => ⟨cs, f, by rw [dw]; exact hb, rfl⟩⟩
  have nm : Names c d := fun k x hk => by rw [dφ]; exact hk
  have fz0 : ∀ {x x' : AV} {u : Value}, Fz0U id y e cells x x' → VR c x u → VR d x' u := by
    intro x x' u hf hv
    rcases hf with rfl | rfl | ⟨n, sz, rfl, rfl⟩
    · exact hv.mono g nm
    · trivial
    · obtain ⟨A, k, rfl, hk, hm⟩ := hv
      refine ⟨A, k, rfl, hk, fun h0 => ?_⟩
      rcases hm with ⟨_, e1⟩ | ⟨b, e1, rfl, cs9, e9, f9, h9, _⟩
      · omega
      · rcases hr.hr.row id y e cells hidc with ⟨g1, _⟩ | ⟨b', cs, g1, g2, g3, g4, g5⟩
        · rw [e1] at g1; cases g1
        · rw [e1] at g1; cases g1
          replace g2 := g2.cells ⟨_, _, _, h9⟩
          refine ⟨b, rfl, ⟨by rw [dB]; exact g3.1, fun ht => (hT b ht).2 e1, by rw [dX]; exact g3.2⟩, ⟨cs, by rw [dw]; exact g2⟩, VRm_iff.2 fun j z hj => ?_⟩
          rw [List.getElem?_take] at hj
          split at hj
          · obtain ⟨q, k1, k2, k3⟩ := g5 _ _ hj
            exact ⟨q, by rw [dw]; simp [World.cell?, g2, k1], k2, k3.mono g nm⟩
          · cases hj
  refine ⟨d, dw, g, fun _ _ => by rw [dφ], ⟨hr.size, fun t => ?_, ⟨fun j y' e' cs' hs => ?_, fun i i' b e1 e2 e3 e4 => ?_, by rw [dB, dw]; exact hr.hr.base, fun b hb => by rw [dX] at hb; rw [dw]; exact hr.hr.xlt b hb, hr.hr.gl.grow g⟩, dσ, fun k hk hne => by rw [dφ] at hne; exact hr.fresh k hk hne⟩, hms⟩
  · simp only
    rcases envOf_mem (l := l) (t := t) with h9 | h9
    · rw [h9]; trivial
    · rcases hl _ _ h9 with hf | ⟨q, q', e1, e2, e3, e4⟩
      · exact fz0 hf (hr.env t)
      · rw [e2]
        have hv := hr.env t
        rw [e1] at hv
        obtain ⟨us, hu, hv⟩ := hv
        rw [VRl_iff] at hv
        refine ⟨us, hu, VRl_iff.2 ⟨by omega, fun j x' hj => ?_⟩⟩
        obtain ⟨x, k1, k2⟩ := e4 j x' hj
        obtain ⟨w, k3, k4, k5⟩ := hv.2 j x k1
        exact ⟨w, k3, k4, fz0 k2 k5⟩
  · obtain ⟨f0, y2, e2, cs, cs2, f1, f2, f3, f4⟩ := live j _ hs
    cases f2
    rcases hr.hr.row j y' e' cs f1 with ⟨g1, g2⟩ | ⟨b, ca, g1, g2, g3, g4, g5⟩
    · refine .inl ⟨by rw [dφ]; exact g1, ?_, g2.2⟩
      rw [g2.1] at f3
      exact List.eq_nil_of_length_eq_zero f3
    · refine .inr ⟨b, ca, by rw [dφ]; exact g1, by rw [dw]; exact g2.to f3, ⟨by rw [dB]; exact g3.1, by rw [dX]; exact g3.2⟩, by omega, fun k x' hk => ?_⟩
      obtain ⟨x, k1, k2⟩ := f4 k x' hk
      obtain ⟨u, k3, k4, k5⟩ := g5 k x k1
      exact ⟨u, k3, k4, fz0 k2 k5⟩
  · obtain ⟨o1, ho1⟩ := Option.ne_none_iff_exists'.1 e1
    obtain ⟨o2, ho2⟩ := Option.ne_none_iff_exists'.1 e2
    obtain ⟨_, _, _, _, _, f1, _⟩ := live i o1 ho1
    obtain ⟨_, _, _, _, _, f2, _⟩ := live i' o2 ho2
    rw [dφ] at e3 e4
    exact hr.hr.inj i i' b (by rw [f1]; simp) (by rw [f2]; simp) e3 e4

def fzOneU (id : Nat) (y : Bool) (e : Nat) (cells : List AV) (a b : AV) : Prop :=
  b = a ∨ (match a with
    | .os i off n sz => i = id ∧ off = 0 ∧ b = .us y e (cells.take (n * sz)) n
    | _ => False)
def fzLU (id : Nat) (y : Bool) (e : Nat) (cells : List AV) : List AV → List AV → Prop
  | [], [] => True
  | a :: r, b :: q => fzOneU id y e cells a b ∧ fzLU id y e cells r q
  | _, _ => False
def fzVU (id : Nat) (y : Bool) (e : Nat) (cells : List AV) (a b : AV) : Prop :=
  fzOneU id y e cells a b ∨ (match a, b with | .agg l, .agg l' => fzLU id y e cells l l' | _, _ => False)
def okFU (id : Nat) (y : Bool) (e : Nat) (cells : List AV) (env : Nat → AV) : List (Nat × AV) → Prop
  | [] => True
  | (t, v) :: r => fzVU id y e cells (env t) v ∧ okFU id y e cells env r
def rowFzU (id : Nat) (y0 : Bool) (ee : Nat) (cs0 : List AV) (o : Option AObj) (y : Bool) (e : Nat) (cells : List AV) : Prop :=
  match o with
  | some (.row y' e' cells0) => (y' = y ∧ e' = e) ∧ (cells0 = cells ∨ fzLU id y0 ee cs0 cells0 cells ∨ ∃ k n sz, cells0[k]? = some (.os id 0 n sz) ∧ cells = cells0.set k (.us y0 ee (cs0.take (n * sz)) n))
  | none => False
def okHFU (id : Nat) (y : Bool) (ee : Nat) (cs : List AV) (σ : Heap) : List (Nat × AObj) → Prop
  | [] => True
  | (i, .row y' e cells) :: r => (i ≠ id ∧ rowFzU id y ee cs (σ i) y' e cells) ∧ okHFU id y ee cs σ r
theorem fzOne_specU {id : Nat} {y : Bool} {e : Nat} {cells : List AV} {a b : AV} (h : fzOneU id y e cells a b) : Fz0U id y e cells a b := by
  rcases h with h | h
  · exact .inl h
  · cases a with
    | os i off n sz => obtain ⟨rfl, rfl, rfl⟩ := h; exact .inr (.inr ⟨n, sz, rfl, rfl⟩)
    | _ => exact h.elim
theorem fzL_getU {id : Nat} {y : Bool} {e : Nat} {cells : List AV} : ∀ {l l' : List AV}, fzLU id y e cells l l' → l'.length = l.length ∧ ∀ (k : Nat) x', l'[k]? = some x' → ∃ x, l[k]? = some x ∧ Fz0U id y e cells x x'
  | [], [], _ => ⟨rfl, fun k x h => by simp at h⟩
  | a :: r, b :: q, h => by
    obtain ⟨h1, h2⟩ := fzL_getU h.2
    refine ⟨by simp [h1], fun k x' hk => ?_⟩
    cases k with
    | zero => simp at hk; subst hk; exact ⟨a, rfl, fzOne_specU h.1⟩
    | succ k => simpa using h2 k x' (by simpa using hk)
  | [], b :: q, h => h.elim
  | a :: r, [], h => h.elim
/-- row id is written no more -/
theorem Weak.freezeUC {st : ASt} (id : Nat) {y : Bool} {e : Nat} {cells : List AV} (hid : st.σ id = some (.row y e cells)) {l : List (Nat × AV)} {h : List (Nat × AObj)} (hl : okFU id y e cells st.env l) (hh : okHFU id y e cells st.σ h) : Weak N m st ⟨envOf l, heapOf h, st.nx⟩ := by
  refine Weak.freezeU id hid l h (fun t v hm => ?_) (fun i o hm => ?_)
  · induction l with
    | nil => cases hm
    | cons x l ih =>
      obtain ⟨t', v'⟩ := x
      rcases List.mem_cons.1 hm with e1 | e1
      · cases e1
        rcases hl.1 with h9 | h9
        · exact .inl (fzOne_specU h9)
        · split at h9
          · rename_i hq
            obtain ⟨k1, k2⟩ := fzL_getU h9
            exact .inr ⟨_, _, hq, rfl, k1, k2⟩
          · exact h9.elim
      · exact ih hl.2 e1
  · induction h with
    | nil => cases hm
    | cons x h ih =>
      obtain ⟨i', ⟨y1, e1, cs1⟩⟩ := x
      rcases List.mem_cons.1 hm with e2 | e2
      · cases e2
        obtain ⟨h1, h2⟩ := hh.1
        unfold rowFzU at h2
        split at h2
        · rename_i y2 e2 cells0 hs
          obtain ⟨⟨rfl, rfl⟩, h3⟩ := h2
          refine ⟨h1, _, _, cells0, cs1, hs, rfl, ?_⟩
          rcases h3 with rfl | h3 | ⟨k, n, sz, h3, rfl⟩
          · exact ⟨rfl, fun k x' hk => ⟨x', hk, .inl rfl⟩⟩
          · exact fzL_getU h3
          · refine ⟨by simp, fun k' x' hk => ?_⟩
            rw [List.getElem?_set] at hk
            split at hk
            · rename_i e9
              subst e9
              split at hk
              · cases hk; exact ⟨_, h3, .inr (.inr ⟨n, sz, rfl, rfl⟩)⟩
              · cases hk
            · exact ⟨x', hk, .inl rfl⟩
        · exact h2.elim
      · exact ih hh.2 e2
end Go.Proofs.YtonglhkiobibgaaGreatDoor
namespace Go.Proofs.YtonglhkiobibgaaGreatDoor
open Go.RowKit
set_option maxRecDepth 100000
theorem entsClone_spec (fr : Bool) (l : List Ent) (nb : Nat) (h : l.length ≤ 1000) : ASound Tryz.prog 130 [fEnts fr l] nb (.ret (fEnts true l) []) := by
  by_cases h0 : l.length = 0
  · have hl : l = [] := List.eq_nil_of_length_eq_zero h0
    subst hl
    refine ASound.nil1 fun A k => ?_
    refine ok_130.sound (by simp) ⟨trivial, trivial⟩ ?_
    cases A with
    | none =>
      simp only [ac_130, TT, ↓reduceIte, Nat.reduceEqDiff, Nat.reduceAdd, Nat.reduceMul, reduceCtorEq, Nat.reduceLeDiff]
      exact Ends.imp (r0 := .v (.slice none 0 0)) (.inr rfl) (by simp [ET]) trivial (Imp.nil true)
    | some A =>
      simp only [ac_130, TT, ↓reduceIte, Nat.reduceEqDiff, Nat.reduceAdd, Nat.reduceMul, reduceCtorEq, Nat.reduceLeDiff]
      refine Ends.weak (Weak.freezeC 500000 rfl (l := [(2, fEnts true [])]) (h := []) ?_ ?_) (Ends.data (.inr rfl) (by simp [ET, fEnts]) (al_fEnts []))
      · simp [WT, eEnts, fEnts]
      · simp [WT]
  · refine ok_130.sound (by simp) ⟨al_fEnts l, trivial⟩ ?_
    have hm : (l.length * 24 ≤ 140737488355328) = True := eq_true (by omega)
    simp only [ac_130, fEnts, len_Ents, hm, h0, TT, ↓reduceIte, Nat.reduceEqDiff, Nat.reduceAdd, Nat.reduceMul, reduceCtorEq, Nat.reduceLeDiff]
    refine Ends.weak (Weak.freezeC 500000 rfl (l := [(2, fEnts true l)]) (h := []) ?_ ?_) (Ends.data (.inr rfl) (by simp [ET, fEnts]) (al_fEnts l))
    · simp [WT, fEnts, tk_Ents]
    · simp [WT]
theorem entsClone_os (fr : Bool) (l : List Ent) (nb : Nat) (h : l.length ≤ 1000) (h0 : l ≠ []) : ASound Tryz.prog 130 [fEnts fr l] nb (.ret (.os nb 0 l.length 2) [(nb, some (.row true 134 (eEnts l)))]) := by
  refine ok_130.sound (by simp) ⟨al_fEnts l, trivial⟩ ?_
  have hm : (l.length * 24 ≤ 140737488355328) = True := eq_true (by omega)
  have h0' : ¬ l.length = 0 := fun e => h0 (List.eq_nil_of_length_eq_zero e)
  simp only [ac_130, fEnts, len_Ents, hm, h0', TT, ↓reduceIte, Nat.reduceEqDiff, Nat.reduceAdd, Nat.reduceMul, reduceCtorEq, Nat.reduceLeDiff]
  exact Ends.rows1 (i := 500000) (r0 := .os 500000 0 l.length 2) (.inr rfl) (by simp [ET]) (by simp [ET]) (al_Ents l) (by simp [Al]) (by simp [ren, rn])
theorem ndsClone_os (fr : Bool) (l : List Nd) (nb : Nat) (h : l.length ≤ 1000) (h0 : l ≠ []) : ASound Tryz.prog 129 [fNds fr l] nb (.ret (.os nb 0 l.length 6) [(nb, some (.row true 118 (eNds fr l)))]) := by
  refine ok_129.sound (by simp) ⟨al_fNds l, trivial⟩ ?_
  have hm : (l.length * 80 ≤ 140737488355328) = True := eq_true (by omega)
  have h0' : ¬ l.length = 0 := fun e => h0 (List.eq_nil_of_length_eq_zero e)
  simp only [ac_129, fNds, len_Nds, hm, h0', TT, ↓reduceIte, Nat.reduceEqDiff, Nat.reduceAdd, Nat.reduceMul, reduceCtorEq, Nat.reduceLeDiff]
  exact Ends.rows1 (i := 500000) (r0 := .os 500000 0 l.length 6) (.inr rfl) (by simp [ET]) (by simp [ET]) (al_Nds l) (by simp [Al]) (by simp [ren, rn])
theorem bytesClone_os (fr : Bool) (l : List Int) (nb : Nat) (h : l.length ≤ 100000) (h0 : l ≠ []) : ASound Tryz.prog 108 [fB fr l] nb (.ret (.os nb 0 l.length 1) [(nb, some (.row true 5 (eB l)))]) := by
  refine ok_108.sound (by simp) ⟨al_fB l, trivial⟩ ?_
  have h9 : l.length ≤ 140737488355328 := by omega
  have h0' : ¬ l.length = 0 := fun e => h0 (List.eq_nil_of_length_eq_zero e)
  simp only [ac_108, len_B, h9, h0', TT, ↓reduceIte, Nat.reduceEqDiff, Nat.reduceAdd, Nat.reduceMul, reduceCtorEq, Nat.reduceLeDiff]
  exact Ends.rows1 (i := 500000) (r0 := .os 500000 0 l.length 1) (.inr rfl) (by simp [ET]) (by simp [ET]) (al_B l) (by simp [Al]) (by simp [ren, rn])
end Go.Proofs.YtonglhkiobibgaaGreatDoor
namespace Go.Proofs.YtonglhkiobibgaaGreatDoor
open Go.RowKit
set_option maxRecDepth 100000
theorem bsI_inv {f : Nat → Int} {t : Int} {n : Nat} (mono : ∀ a b, a < b → b < n → f a < f b) : ∀ (k i j : Nat), i ≤ j → j ≤ n → j - i ≤ k → (∀ x, x < i → f x < t) → (∀ x, j ≤ x → x < n → t ≤ f x) →
    bsI f t k i j ≤ n ∧ (∀ x, x < bsI f t k i j → f x < t) ∧ (∀ x, bsI f t k i j ≤ x → x < n → t ≤ f x)
  | 0, i, j, h1, h2, h3, h4, h5 => by
    obtain rfl : i = j := by omega
    exact ⟨h2, h4, h5⟩
  | k + 1, i, j, h1, h2, h3, h4, h5 => by
    rw [bsI]
    by_cases hlt : i < j
    · rw [if_pos hlt]
      generalize hm : (i + j) / 2 = m
      have hm1 : i ≤ m ∧ m < j := by omega
      by_cases h : f m < t
      · rw [if_pos h]
        refine bsI_inv mono k (m + 1) j (by omega) h2 (by omega) (fun x hx => ?_) h5
        rcases Nat.lt_or_ge x m with h6 | h6
        · have := mono x m h6 (by omega); omega
        · obtain rfl : x = m := by omega
          exact h
      · rw [if_neg h]
        refine bsI_inv mono k i m (by omega) (by omega) (by omega) h4 (fun x hx hn => ?_)
        rcases Nat.lt_or_ge m x with h6 | h6
        · have := mono m x h6 hn; omega
        · obtain rfl : x = m := by omega
          omega
    · rw [if_neg hlt]
      obtain rfl : i = j := by omega
      exact ⟨h2, h4, h5⟩
def incN (l : List Nd) : Prop := ∀ a b, a < b → b < l.length → inoA l a < inoA l b
/-- what is there is found -/
theorem plc_eq {l : List Nd} (h : incN l) {i : Nat} {n : Nd} (hx : l[i]? = some n) : plc l n.ino = i := by
  have hi := (List.getElem?_eq_some_iff.1 hx).1
  obtain ⟨h1, h2, h3⟩ := bsI_inv (t := n.ino) h l.length 0 l.length (Nat.zero_le _) (Nat.le_refl _) (by omega) (fun x hx => by omega) (fun x h1 h2 => by omega)
  have e : inoA l i = n.ino := inoA_at hx
  rcases Nat.lt_trichotomy (plc l n.ino) i with h4 | h4 | h4
  · have h5 := h3 (plc l n.ino) (Nat.le_refl _) (by omega)
    have h6 := h (plc l n.ino) i h4 hi
    omega
  · exact h4
  · have h5 := h2 i h4
    omega
theorem hasN_of {l : List Nd} (h : incN l) {i : Nat} {n : Nd} (hx : l[i]? = some n) : hasN l n.ino := by
  have hi := (List.getElem?_eq_some_iff.1 hx).1
  have e := plc_eq h hx
  exact ⟨by omega, by rw [e]; exact inoA_at hx⟩
/-- one more for a key -/
def bumpM (t : Int) : List (Int × Int) → List (Int × Int)
  | [] => [(t, 1)]
  | (k, v) :: r => if k = t then (t, v + 1) :: r else (k, v) :: bumpM t r
def getM (t : Int) : List (Int × Int) → Int
  | [] => 0
  | (k, v) :: r => if k = t then v else getM t r
def encM (l : List (Int × Int)) : List AV := l.flatMap fun p => [.v (.int .i64 p.1), .v (.int .i64 p.2)]
theorem al_encM {p : Nat → Prop} (l : List (Int × Int)) : AlL p (encM l) := AlL_flat (e := fun p => [AV.v (.int .i64 p.1), .v (.int .i64 p.2)]) (fun _ => ⟨trivial, trivial, trivial⟩) l
theorem ren_encM {ρ : Nat → Nat} (l : List (Int × Int)) : renL ρ (encM l) = encM l := renL_id (p := fun _ => False) (fun _ h => h.elim) (al_encM l)
theorem mfind_encM (t : Int) : ∀ l : List (Int × Int), (mfind t (encM l) = some none ∧ getM t l = 0) ∨ mfind t (encM l) = some (some (.v (.int .i64 (getM t l))))
  | [] => .inl ⟨rfl, rfl⟩
  | (k, v) :: r => by
    show (mfind t (.v (.int .i64 k) :: .v (.int .i64 v) :: encM r) = _ ∧ _) ∨ mfind t (.v (.int .i64 k) :: .v (.int .i64 v) :: encM r) = _
    rw [mfind, getM]
    by_cases h : k = t
    · rw [if_pos h, if_pos h]; exact .inr rfl
    · rw [if_neg h, if_neg h]; exact mfind_encM t r
theorem mput_encM (t : Int) : ∀ l : List (Int × Int), mput t (.v (.int .i64 (getM t l + 1))) (encM l) = some (encM (bumpM t l))
  | [] => by simp [encM, bumpM, getM, mput]
  | (k, v) :: r => by
    show mput t _ (.v (.int .i64 k) :: .v (.int .i64 v) :: encM r) = _
    rw [mput, getM, bumpM]
    by_cases h : k = t
    · subst h; simp [encM]
    · rw [if_neg h, if_neg h, if_neg h, mput_encM t r]; simp [encM]
def lkM (ks : List Int) : List (Int × Int) := ks.foldl (fun l t => bumpM t l) []
theorem lkM_s (ks : List Int) (t : Int) : lkM (ks ++ [t]) = bumpM t (lkM ks) := by rw [lkM, List.foldl_append]; rfl
theorem getM_bump (t u : Int) : ∀ l : List (Int × Int), getM t (bumpM u l) = if u = t then getM t l + 1 else getM t l
  | [] => by
    by_cases h : u = t <;> simp [bumpM, getM, h]
  | (k, v) :: r => by
    rw [bumpM]
    by_cases h : k = u
    · subst h
      rw [if_pos rfl, getM, getM]
      by_cases h2 : k = t
      · rw [if_pos h2, if_pos h2, if_pos h2]
      · rw [if_neg h2, if_neg h2, if_neg h2]
    · rw [if_neg h, getM, getM, getM_bump t u r]
      by_cases h2 : k = t
      · have h3 : ¬ u = t := fun h9 => h (by omega)
        rw [if_pos h2, if_pos h2, if_neg h3]
      · rw [if_neg h2, if_neg h2]
theorem getM_foldl (t : Int) : ∀ (ks : List Int) (l : List (Int × Int)), getM t (ks.foldl (fun l t => bumpM t l) l) = getM t l + (ks.count t : Nat)
  | [], l => by simp
  | u :: ks, l => by
    rw [List.foldl_cons, getM_foldl t ks, getM_bump, List.count_cons]
    by_cases h : u = t
    · rw [if_pos h]; simp [h]; omega
    · rw [if_neg h]; simp [h]
theorem getM_lk (t : Int) (ks : List Int) : getM t (lkM ks) = (ks.count t : Nat) := by rw [lkM, getM_foldl]; simp [getM]
theorem getM_bd (t : Int) (ks : List Int) : 0 ≤ getM t (lkM ks) ∧ getM t (lkM ks) ≤ (ks.length : Int) := by
  rw [getM_lk]
  have := List.count_le_length (a := t) (l := ks)
  omega
/-- the numbers that the first nodes' names lead to -/
def inosN (l : List Nd) : List Int := l.flatMap fun n => n.entries.map Ent.ino
def ltO : Option Int → Int → Bool
  | none, _ => true
  | some q, x => decide (q < x)
def chk1 (s : FSt) : Option Int → List Nd → Bool
  | _, [] => true
  | p, n :: r => decide (n.ino < s.next) && (ltO p n.ino && (decide (∀ e ∈ n.entries, hasN s.nodes e.ino) && chk1 s (some n.ino) r))
def prevN (l : List Nd) (i : Nat) : Option Int := if i = 0 then none else (l[i - 1]?).map Nd.ino
theorem prevN_s {l : List Nd} {i : Nat} {n : Nd} (h : l[i]? = some n) : prevN l (i + 1) = some n.ino := by simp [prevN, h]
theorem chk1_drop {s : FSt} {l : List Nd} {i : Nat} {n : Nd} (h : l[i]? = some n) : chk1 s (prevN l i) (l.drop i) = (decide (n.ino < s.next) && (ltO (prevN l i) n.ino && (decide (∀ e ∈ n.entries, hasN s.nodes e.ino) && chk1 s (prevN l (i + 1)) (l.drop (i + 1))))) := by
  have hi := (List.getElem?_eq_some_iff.1 h)
  rw [List.drop_eq_getElem_cons hi.1, hi.2, prevN_s h]; rfl
def chk2 (s : FSt) (ks : List (Int × Int)) (l : List Nd) : Bool := decide (∀ n ∈ l, mayN n (getM n.ino ks) = true)
def chk3 (s : FSt) : Bool := decide ((rch s 8 1 []).length = s.nodes.length) && decide (dpt s 9 1 ≤ 8)
def badH (s : FSt) : Prop := s.next ≤ 1 ∨ 2147483647 < s.next ∨ s.nodes.length = 0 ∨ 128 < s.nodes.length ∨ inoA s.nodes 0 ≠ 1
instance (s : FSt) : Decidable (badH s) := by unfold badH; exact inferInstance
def chkFs (s : FSt) : Int := if badH s then 9 else if chk1 s none s.nodes = true ∧ chk2 s (lkM (inosN s.nodes)) s.nodes = true ∧ chk3 s = true then 0 else 9
theorem chk1_all {s : FSt} : ∀ {l : List Nd} {p : Option Int}, chk1 s p l = true → (∀ n ∈ l, n.ino < s.next ∧ ∀ e ∈ n.entries, hasN s.nodes e.ino) ∧ (∀ q, p = some q → ∀ n ∈ l, q < n.ino) ∧ ∀ a b, a < b → b < l.length → inoA l a < inoA l b
  | [], p, _ => ⟨by simp, by simp, fun a b _ hb => by simp at hb⟩
  | n :: r, p, h => by
    have h' : (decide (n.ino < s.next) && (ltO p n.ino && (decide (∀ e ∈ n.entries, hasN s.nodes e.ino) && chk1 s (some n.ino) r))) = true := h
    simp only [Bool.and_eq_true, decide_eq_true_eq] at h'
    obtain ⟨h1, h2, h3, h4⟩ := h'
    obtain ⟨g1, g2, g3⟩ := chk1_all h4
    have g4 := g2 n.ino rfl
    refine ⟨?_, ?_, ?_⟩
    · intro m hm
      rcases List.mem_cons.1 hm with rfl | hm
      · exact ⟨h1, h3⟩
      · exact g1 m hm
    · rintro q rfl m hm
      have h2' : q < n.ino := by simpa [ltO] using h2
      rcases List.mem_cons.1 hm with rfl | hm
      · exact h2'
      · have := g4 m hm; omega
    · intro a b hab hb
      cases b with
      | zero => omega
      | succ b =>
        have hb' : b < r.length := by simpa using hb
        obtain ⟨m, hm⟩ : ∃ m, r[b]? = some m := ⟨_, List.getElem?_eq_getElem hb'⟩
        have e2 : inoA (n :: r) (b + 1) = inoA r b := by simp [inoA]
        rw [e2]
        cases a with
        | zero =>
          have e1 : inoA (n :: r) 0 = n.ino := by simp [inoA]
          rw [e1, inoA_at hm]
          exact g4 m (List.mem_of_getElem? hm)
        | succ a =>
          have e1 : inoA (n :: r) (a + 1) = inoA r a := by simp [inoA]
          rw [e1]
          exact g3 a b (by omega) hb'
end Go.Proofs.YtonglhkiobibgaaGreatDoor
namespace Go.Proofs.YtonglhkiobibgaaGreatDoor
open Go.RowKit
set_option maxRecDepth 100000
/-- a result with two rows that may lead to each other -/
theorem Ends.rows2N {N nb : Nat} {s : ASt} {rs : List RV} {r r0 : AV} {e : Exit} {i i' : Nat} {y y' : Bool} {el el' : Nat} {cells cells' c2 c2' : List AV} (he : e = .normal ∨ e = .ret) (h : (resL s rs).map tupOf = some r0) (hne : i ≠ i') (hσ : s.σ i = some (.row y el cells)) (hp : AlL (fun j => j ∈ [i, i']) cells)
    (hσ' : s.σ i' = some (.row y' el' cells')) (hp' : AlL (fun j => j ∈ [i, i']) cells') (ha : Al (fun j => j ∈ [i, i']) r0) (hr : ren (rn [(i, nb), (i', nb + 1)]) r0 = r) (hc : renL (rn [(i, nb), (i', nb + 1)]) cells = c2) (hc' : renL (rn [(i, nb), (i', nb + 1)]) cells' = c2') : Ends N rs nb r [(nb, some (.row y el c2)), (nb + 1, some (.row y' el' c2'))] e s := by
  obtain ⟨l, h1, h2⟩ := Option.map_eq_some_iff.1 h
  have gt : ∀ {cl c2 : List AV}, renL (rn [(i, nb), (i', nb + 1)]) cl = c2 → c2.length = cl.length ∧ ∀ (j : Nat) a', c2[j]? = some a' → ∃ a, cl[j]? = some a ∧ Imp (ren (rn (([i, i'] : List Nat).zipIdx nb)) a) a' := fun {cl c2} hcl => by
    subst hcl
    refine ⟨by rw [renL_map, List.length_map], fun j a' hj => ?_⟩
    rw [renL_map, List.getElem?_map, Option.map_eq_some_iff] at hj
    obtain ⟨a, k1, rfl⟩ := hj
    exact ⟨a, k1, by simp only [List.zipIdx_cons, List.zipIdx_nil]; exact Imp.refl _⟩
  refine ⟨he, s, Weak.refl s, [i, i'], ⟨by simp [hne], by simp, ⟨l, h1, by rw [h2]; exact ha, by rw [h2]; simp only [List.zipIdx_cons, List.zipIdx_nil]; rw [hr]; exact Imp.refl r⟩, [(y, el, c2), (y', el', c2')], rfl, rfl, fun k j hk => ?_⟩⟩
  cases k with
  | zero =>
    simp at hk
    subst hk
    exact ⟨y, el, cells, hσ, hp, c2, rfl, (gt hc).1, (gt hc).2⟩
  | succ k =>
    cases k with
    | zero =>
      simp at hk
      subst hk
      exact ⟨y', el', cells', hσ', hp', c2', rfl, (gt hc').1, (gt hc').2⟩
    | succ k => simp at hk
/-- a file's blocks by their places, as a map's row -/
def eU (b : Bk) : List AV := [.v (.int .i64 b.index), .us true 5 (eB b.data) b.data.length]
def encU (l : List Bk) : List AV := l.flatMap eU
theorem len_U (l : List Bk) : (encU l).length = l.length * 2 := flat_len (e := eU) (k := 2) (fun _ => rfl) l
theorem get_U {l : List Bk} {i : Nat} {b : Bk} (h : l[i]? = some b) : (encU l)[i * 2]? = some (.v (.int .i64 b.index)) ∧ (encU l)[i * 2 + 1]? = some (.us true 5 (eB b.data) b.data.length) :=
  ⟨flat_get (e := eU) (k := 2) (fun _ => rfl) h 0 (by omega), flat_get (e := eU) (k := 2) (fun _ => rfl) h 1 (by omega)⟩
theorem al_U {p : Nat → Prop} (l : List Bk) : AlL p (encU l) := AlL_flat (e := eU) (fun b => ⟨trivial, al_B _, trivial⟩) l
theorem ren_U {ρ : Nat → Nat} (l : List Bk) : renL ρ (encU l) = encU l := renL_id (p := fun _ => False) (fun _ h => h.elim) (al_U l)
theorem mput_U {k : Int} {x : AV} : ∀ {l : List Bk}, (∀ b ∈ l, b.index ≠ k) → mput k x (encU l) = some (encU l ++ [.v (.int .i64 k), x])
  | [], _ => rfl
  | b :: l, h => by
    show mput k x (.v (.int .i64 b.index) :: .us true 5 (eB b.data) b.data.length :: encU l) = _
    rw [mput, if_neg (h b (by simp)), mput_U (l := l) (fun b hb => h b (by simp [hb]))]
    rfl
/-- what a file that may be is -/
theorem okBk_all {z n : Int} : ∀ {l : List Bk} {q : Int}, okBk z n q l = true → (∀ b ∈ l, q < b.index ∧ b.index < n ∧ b.data.length = 32 ∧ zrB b.data = false ∧ (z - 32 * b.index < 32 → zrB (b.data.drop (z - 32 * b.index).toNat) = true)) ∧ l.Pairwise (fun x y => x.index < y.index)
  | [], q, _ => ⟨by simp, .nil⟩
  | b :: l, q, h => by
    rw [okBk] at h
    simp only [Bool.and_eq_true, decide_eq_true_eq, Bool.not_eq_true', Bool.or_eq_true, decide_eq_false_iff_not] at h
    obtain ⟨⟨h1, h2, h3, h4, h5⟩, h6⟩ := h
    obtain ⟨g1, g2⟩ := okBk_all h6
    refine ⟨fun x hx => ?_, List.pairwise_cons.2 ⟨fun x hx => (g1 x hx).1, g2⟩⟩
    rcases List.mem_cons.1 hx with rfl | hx
    · exact ⟨h1, h2, h3, h4, fun h9 => h5.resolve_left (fun h8 => h8 h9)⟩
    · obtain ⟨k1, k2⟩ := g1 x hx
      exact ⟨by omega, k2⟩
theorem chkFl_ok {f : Fl} (h : chkFl f = 0) : 0 ≤ f.size ∧ f.size ≤ 2432 ∧ (∀ b ∈ f.blocks, 0 ≤ b.index ∧ b.index < nBl f.size ∧ b.data.length = 32 ∧ zrB b.data = false ∧ (f.size - 32 * b.index < 32 → zrB (b.data.drop (f.size - 32 * b.index).toNat) = true)) ∧ f.blocks.Pairwise (fun x y => x.index < y.index) := by
  unfold chkFl at h
  split at h
  · rename_i h1
    split at h
    · rename_i h2
      obtain ⟨g1, g2⟩ := okBk_all h2
      unfold blkE at h1
      split at h1
      · cases h1
      · split at h1
        · cases h1
        · exact ⟨by omega, by omega, fun b hb => by obtain ⟨k1, k2⟩ := g1 b hb; exact ⟨by omega, k2⟩, g2⟩
    · cases h
  · cases h
theorem nBl_le {z : Int} (h0 : 0 ≤ z) (h1 : z ≤ 2432) : nBl z ≤ 76 := by unfold nBl upE; omega
theorem rise_len : ∀ {l : List Bk} {a n : Int}, l.Pairwise (fun x y => x.index < y.index) → (∀ b ∈ l, a ≤ b.index ∧ b.index < n) → a ≤ n → (l.length : Int) ≤ n - a
  | [], a, n, _, _, h => by simp; omega
  | b :: l, a, n, h1, h2, _ => by
    rw [List.pairwise_cons] at h1
    have hb := h2 b (by simp)
    have := rise_len (l := l) (a := b.index + 1) (n := n) h1.2 (fun x hx => ⟨by have := h1.1 x hx; omega, (h2 x (by simp [hx])).2⟩) (by omega)
    simp only [List.length_cons]
    omega
abbrev h_lk (f : Fl) (i : Nat) : List (Nat × AObj) := [(0, .row true 275 [.v (.int .i64 f.size), .mp 1]), (1, .row true MAPE (encU (f.blocks.take i)))]
abbrev L_lk (fr : Bool) (f : Fl) (i : Nat) : ASt := ⟨envOf [(3, .op 0 0), (12, fBks fr f.blocks), (13, .v (.int .i64 f.blocks.length)), (14, .v (.int .i64 i))], heapOf (h_lk f i), 2⟩
set_option maxHeartbeats 2000000 in
theorem look_spec (fr : Bool) (f : Fl) (nb : Nat) (hc : chkFl f = 0) : ASound Tryz.prog 119 [aFl fr f] nb (.ret (.op nb 0) [(nb, some (.row true 275 [.v (.int .i64 f.size), .mp (nb + 1)])), (nb + 1, some (.row true MAPE (encU f.blocks)))]) := by
  obtain ⟨z0, z1, hb, hinc⟩ := chkFl_ok hc
  have hfl : f.blocks.length ≤ 76 := by
    have h1 := nBl_le z0 z1
    have h2 := rise_len (a := 0) (n := 76) hinc (fun b hbm => ⟨(hb b hbm).1, by have := (hb b hbm).2.1; omega⟩) (by omega)
    omega
  refine ok_119.sound (by simp) ⟨al_aFl f, trivial⟩ ?_
  simp only [ac_119, aFl, fBks, TT, ↓reduceIte, Nat.reduceEqDiff, Nat.reduceAdd, Nat.reduceMul, reduceCtorEq, Nat.reduceLeDiff]
  refine AWc.family (L_lk fr f) (fun i => i ≤ f.blocks.length) (fun i => f.blocks.length - i) 0 (Nat.zero_le _) ?_ ?_
  · refine Weak.calc [(600000, 0), (400000, 1)] (by decide) ?_ ?_
    · simp [WT, fBks, al_Bks, ren_Bks]
    · simp [WT, encU]
  · intro i hi
    by_cases hlt : i < f.blocks.length
    · obtain ⟨b, hx, e1, e0⟩ := lt_at hlt
      obtain ⟨b0, b1⟩ := get_Bks (fr := fr) hx
      obtain ⟨k1, k2, k3, k4, _⟩ := hb b (List.mem_of_getElem? hx)
      have hne : b.data ≠ [] := fun e => by rw [e] at k3; simp at k3
      have hcl := fun nb => bytesClone_os fr b.data nb (by omega) hne
      simp only [fB] at hcl
      have hput : ∀ x, mput b.index x (encU (f.blocks.take i)) = some (encU (f.blocks.take i) ++ [.v (.int .i64 b.index), x]) := fun x => by
        refine mput_U (fun x hx2 => ?_)
        obtain ⟨j, hj⟩ := List.getElem?_of_mem hx2
        rw [List.getElem?_take] at hj
        split at hj
        · rename_i hji
          have h9 := List.pairwise_iff_getElem.1 hinc j i (by omega) hlt hji
          rw [List.getElem?_eq_getElem (by omega)] at hj hx
          cases hj; cases hx
          omega
        · cases hj
      have hlu : (encU (f.blocks.take i)).length = i * 2 := by rw [len_U, List.length_take]; omega
      have hset : (encU (f.blocks.take i) ++ [AV.v (.int .i64 b.index), AV.os 1300002 0 b.data.length 1]).set (i * 2 + 1) (.us true 5 (eB b.data) b.data.length) = encU (f.blocks.take (i + 1)) := by
        rw [List.set_append_right _ _ (by omega), hlu, take_snoc hx, Nat.add_sub_cancel_left]
        simp [encU, eU]
      have hget : (encU (f.blocks.take i) ++ [AV.v (.int .i64 b.index), AV.os 1300002 0 b.data.length 1])[i * 2 + 1]? = some (.os 1300002 0 b.data.length 1) := by
        rw [List.getElem?_append_right (by omega), hlu, Nat.add_sub_cancel_left]; rfl
      simp only [L_lk, fBks, e1, e0, b0, b1, Int.toNat_natCast, TT, ↓reduceIte, Nat.reduceEqDiff, Nat.reduceAdd, Nat.reduceMul, reduceCtorEq, Nat.reduceLeDiff]
      refine ⟨_, hcl _, ?_⟩
      simp only [hput, TT, ↓reduceIte, Nat.reduceEqDiff, Nat.reduceAdd, Nat.reduceMul, reduceCtorEq, Nat.reduceLeDiff]
      refine ⟨by rfl, famC_next (i + 1) (by omega) (by omega) ?_⟩
      refine Weak.trans (Weak.freezeUC 1300002 (y := true) (e := 5) (cells := eB b.data) (by simp [ET]) (l := [(3, .op 0 0), (12, .fs fr (eBks fr f.blocks) f.blocks.length), (13, .v (.int .i64 f.blocks.length)), (14, .v (.int .i64 ((i + 1 : Nat) : Int)))]) (h := h_lk f (i + 1)) ?_ ?_) (Weak.calc [(0, 0), (1, 1)] (by decide) ?_ ?_)
      · simp [okFU, fzVU, fzOneU, ET, wrap64 (x := (i : Int) + 1) (by omega)]
      · refine ⟨⟨by decide, ?_⟩, ⟨by decide, ?_⟩, trivial⟩
        · simp [rowFzU, ET]
        · simp only [rowFzU, ET]
          exact ⟨⟨rfl, rfl⟩, .inr (.inr ⟨i * 2 + 1, b.data.length, 1, hget, by rw [Nat.mul_one, tk_B, hset]⟩)⟩
      · simp [WT, fBks, al_Bks, ren_Bks]
      · simp [WT, al_U, ren_U]
    · obtain rfl : i = f.blocks.length := by omega
      have e1 : ¬ ((f.blocks.length : Int) < (f.blocks.length : Int)) := by omega
      simp only [L_lk, fBks, e1, List.take_length, TT, ↓reduceIte, Nat.reduceEqDiff, Nat.reduceAdd, Nat.reduceMul, reduceCtorEq, Nat.reduceLeDiff]
      exact Ends.rows2N (i := 0) (i' := 1) (cells := [.v (.int .i64 f.size), .mp 1]) (cells' := encU f.blocks) (r0 := .op 0 0) (.inr rfl) (by simp [ET]) (by decide) (by simp [ET]) ⟨trivial, by simp [Al], trivial⟩ (by simp [ET]) (al_U _) (by simp [Al]) (by simp [ren, rn]) (by simp [renL, ren, rn]) (ren_U _)
end Go.Proofs.YtonglhkiobibgaaGreatDoor
namespace Go.Proofs.YtonglhkiobibgaaGreatDoor
open Go.RowKit
variable {P : Program} {N m : Nat}
/-- what nobody writes lies asg it lay -/
def Kc (c : Cx) (A B : World) : Prop := ∀ b, b < c.w.heap.size → ¬ c.T b → (c.X b → c.Y b = .no) → B.heap[b]? = A.heap[b]?
/-- Function gf, with such captured values, yields what L says, in order, until it is told to stop. -/
def IterA (P : Program) (gf : Nat) (caps : List AV) (L : List (List AV)) : Prop :=
  enters P gf = true ∧ ∀ (c : Cx) (lb : List Value), HR c → VRt c caps lb → ∃ V : _root_.Fin L.length → List Value, (∀ i, VRt c L[i] (V i)) ∧
    SeqStopsK Fence.wide 2 P gf lb.toArray (fun i => (V i).toArray) (Kc c) (fun xs => xs = List.finRange L.length) (fun pre => ∃ k, k < L.length ∧ pre = (List.finRange L.length).take (k + 1)) L.length c.w
def bindP : List Nat → List AV → (Nat → AV) → (Nat → AV)
  | p :: ps, x :: xs, env => bindP ps xs (putE env (some p) x)
  | _, _, env => env
def mvE : List (Nat × Operand) → (Nat → AV) → (Nat → AV)
  | [], env => env
  | (d, x) :: r, env => mvE r (putE env (some d) (evA env x))
def mvAct : List (Nat × Operand) → Act → Act
  | [], a => a
  | (d, x) :: r, a => mvAct r (a.put (some d) (a.eval x))
theorem RelR.set {nx : Nat} {done : Nat → Prop} {c : Cx} {st : ASt} {a : Act} (h : RelR N nx done c st a) {d : Nat} (hd : d < N) {x : AV} {v : Value} (hv : VR c x v) : RelR N nx done c ⟨putE st.env (some d) x, st.σ, st.nx⟩ (a.put (some d) v) := by
  refine ⟨by simp [Act.put, h.size], fun t => ?_, h.hr, h.σ, h.fresh⟩
  simp only [putE, Act.put]
  by_cases e : t = d
  · subst e
    rw [if_pos rfl]
    have : (a.tmps.setIfInBounds t v).getD t undef = v := by simp [h.size, hd]
    rw [this]; exact hv
  · rw [if_neg e]
    have : (a.tmps.setIfInBounds d v).getD t undef = a.tmps.getD t undef := by simp [Array.getElem?_setIfInBounds_ne (Ne.symm e)]
    rw [this]; exact h.env t
theorem RelR.mvs {nx : Nat} {done : Nat → Prop} {c : Cx} : ∀ {mv : List (Nat × Operand)} {st : ASt} {a : Act}, RelR N nx done c st a → (∀ q ∈ mv, q.1 < N) → RelR N nx done c ⟨mvE mv st.env, st.σ, st.nx⟩ (mvAct mv a)
  | [], st, a, h, _ => h
  | (d, x) :: r, st, a, h, hq => RelR.mvs (mv := r) (st := ⟨putE st.env (some d) (evA st.env x), st.σ, st.nx⟩) (h.set (hq (d, x) (by simp)) (h.eval x)) (fun q hq' => hq q (by simp [hq']))
theorem RelR.binds {nx : Nat} {done : Nat → Prop} {c : Cx} : ∀ {ps : List Nat} {l : List AV} {vs : List Value} {st : ASt} {a : Act}, RelR N nx done c st a → (∀ p ∈ ps, p < N) → VRt c l vs →
    RelR N nx done c ⟨bindP ps l st.env, st.σ, st.nx⟩ { a with tmps := (ps.zip vs).foldl (fun t q => t.setIfInBounds q.1 q.2) a.tmps }
  | [], l, vs, st, a, h, _, _ => by cases l <;> exact h
  | p :: ps, [], vs, st, a, h, _, hv => by rw [VRt] at hv; subst hv; exact h
  | p :: ps, x :: l, vs, st, a, h, hp, hv => by
    rw [VRt] at hv
    obtain ⟨u, us, rfl, h1, h2⟩ := hv
    exact RelR.binds (st := ⟨putE st.env (some p) x, st.σ, st.nx⟩) (a := a.put (some p) u) (h.set (hp p (by simp)) h1) (fun q hq => hp q (by simp [hq])) h2
theorem mvOps_wp {ro : Option Nat} {n : Nat} {ops : Array Oper} {Q : Exit → Act → World → Prop} : ∀ {l : List Oper} {mv : List (Nat × Operand)} {k : Nat} {a : Act} {W : World}, mvOps l = some mv → (∀ (j : Nat) o, l[j]? = some o → ops[k + j]? = some o) → Q .normal (mvAct mv a) W →
    wpOpsIn (FR ro) n P ops Q (List.range' k l.length) a W
  | [], mv, k, a, W, h, _, hq => by
    simp [mvOps] at h; subst h
    simpa [wpOpsIn, mvAct] using hq
  | o :: r, mv, k, a, W, h, hl, hq => by
    rw [List.length_cons, List.range'_succ, wpOpsIn_cons]
    have h0 := hl 0 o rfl
    rw [Nat.add_zero] at h0
    rw [mvOps] at h
    have go : ∀ (x : Operand) (d : Nat) (mv' : List (Nat × Operand)), o.guard = none → o.dst = some d → (∀ c, o.op ≠ .defer c) → (∀ W, (execOp a.eval o).run P W = .ok (.value (a.eval x)) W) → mvOps r = some mv' → mv = (d, x) :: mv' →
        wpOpIn (FR ro) n P ops Q k (wpOpsIn (FR ro) n P ops Q (List.range' (k + 1) r.length)) a W := by
      intro x d mv' hg hd hnd hrun hm e
      subst e
      unfold wpOpIn
      rw [h0]
      simp only
      rw [if_pos (by simp [Region.wanted, hg])]
      refine ⟨fun _ _ => trivial, ?_⟩
      rw [Oper.semAt_eq _ _ _ hnd, hrun, Oper.uponIn_value, hd]
      exact mvOps_wp hm (fun j o' hj => by have := hl (j + 1) o' (by simpa using hj); rwa [Nat.add_assoc, Nat.add_comm 1 j]) hq
    split at h
    · rename_i x d e1 e2 e3
      split at h
      · rename_i mv' hm
        cases h
        exact go x d mv' e3 e2 (by rw [e1]; intro c hc; cases hc) (fun W => by simp [execOp, e1]) hm rfl
      · cases h
    · rename_i x d e1 e2 e3
      split at h
      · rename_i mv' hm
        cases h
        exact go x d mv' e3 e2 (by rw [e1]; intro c hc; cases hc) (fun W => by simp [execOp, e1]) hm rfl
      · cases h
    · cases h
theorem mv_wp {ro : Option Nat} {n : Nat} : ∀ {asg : Code} {mv : List (Nat × Operand)} {a : Act} {W : World} {Q : Exit → Act → World → Prop}, compMv asg = some mv → Q .normal (mvAct mv a) W → asg.wpIn (FR ro) n P Q a W
  | .skip, mv, a, W, Q, h, hk => by simp [compMv] at h; subst h; exact wpIn_skip hk
  | .region id ops draw, mv, a, W, Q, h, hk => by
    rw [compMv] at h
    split at h
    · cases h
    · rename_i hd
      have hd : draw = false := by simpa using hd
      subst hd
      refine wpIn_region ?_
      have := mvOps_wp (ro := ro) (n := n) (P := P) (ops := ops) (Q := Q) (k := 0) (a := a) (W := W) h (fun j o hj => by simpa using hj) hk
      rw [List.range_eq_range']
      simpa using this
  | .seq x y, mv, a, W, Q, h, hk => by
    rw [compMv] at h
    split at h
    · rename_i l hl
      split at h
      · rename_i r hr
        cases h
        have happ : ∀ (l r : List (Nat × Operand)) (a : Act), mvAct (l ++ r) a = mvAct r (mvAct l a) := by
          intro l
          induction l with
          | nil => intro r a; rfl
          | cons q l ih => intro r a; exact ih r _
        rw [happ] at hk
        exact wpIn_seq (mv_wp hl (mv_wp (Q := Q) hr hk))
      · cases h
    · cases h
/-- how a round may end -/
def rngK (N m1 : Nat) {α : Type} (F : List α → Heap × Nat) (X : Exit → List α → Heap → Nat → Prop) (xs : List α) : Exit → ASt → Prop
  | .normal, s => Weak N m1 s ⟨fun _ => .any, (F xs).1, (F xs).2⟩
  | .ret, s => X .ret xs s.σ s.nx
  | .exit id, s => X (.exit id) xs s.σ s.nx
  | _, _ => False
theorem Grow.reYback {c d : Cx} {Y : Nat → WK} (hY : ∀ b, Y b = c.Y b ∨ (Y b = .no ∧ ∀ cs e f, c.w.heap[b]? ≠ some (.cells cs e f))) (g : Grow (c.reY Y) d) : Grow c (d.reY c.Y) := by
  refine ⟨g.X, g.B, g.out, g.osE, g.tape, g.size, fun b hb ht hy => ?_, g.held, g.shape, rfl, fun b k sz h1 h2 h3 h4 h5 => ?_⟩
  · refine g.stay b hb ht (fun hx => ?_)
    rcases hY b with h | ⟨h, _⟩
    · show Y b = .no; rw [h]; exact hy hx
    · exact h
  · refine g.wild b k sz h1 h2 ?_ h4 h5
    rcases hY b with h | ⟨_, h⟩
    · show Y b = k; rw [h]; exact h3
    · obtain ⟨cs, e, h6, _⟩ := h5
      exact absurd h6 (h _ _ _)
theorem AWc.range {g : Operand} {ps : List Nat} {mv : List (Nat × Operand)} {b : AC} {st : ASt} {Q : Exit → ASt → Prop} {gf : Nat} {caps : List AV} {L : List (List AV)} (m1 : Nat) (hm : m ≤ m1)
    (hg : evA st.env g = .fn gf caps) (hI : IterA P gf caps L) (hfl : b.flat = true)
    (hLp : ∀ l ∈ L, AlNL (fun i => i < m1) l ∧ l.length = ps.length) (hlow : ∀ t, AlN (fun i => i < m1) (st.env t))
    (F : List (_root_.Fin L.length) → Heap × Nat) (hF0 : F [] = (st.σ, st.nx)) (hFn : ∀ pre, m1 ≤ (F pre).2) (hFm : ∀ pre, NoM (F pre).1)
    (X : Exit → List (_root_.Fin L.length) → Heap → Nat → Prop) (hXm : ∀ e pre σ nx, X e pre σ nx → NoM σ)
    (hbody : ∀ (pre : List (_root_.Fin L.length)) (i : _root_.Fin L.length), pre.length < L.length → wpC P N m1 b ⟨mvE mv (bindP ps L[i] st.env), (F pre).1, (F pre).2⟩ (rngK N m1 F X (pre ++ [i])))
    (hdone : Q .normal ⟨st.env, (F (List.finRange L.length)).1, (F (List.finRange L.length)).2⟩)
    (hstop : ∀ (k : Nat) (e : Exit) (σ : Heap) (nx : Nat), k < L.length → X e ((List.finRange L.length).take (k + 1)) σ nx → Q e ⟨st.env, σ, nx⟩) : AWc P N m (.rfunc g ps mv b) st Q := by
  intro code hc ro hro
  have hro : ro = none := hro.resolve_right (by simp [AC.flat])
  subst hro
  obtain ⟨pa, asg, x, rfl, rfl, hmv, hx, hps, hmvN⟩ := comp_rfunc hc
  intro n c a hr hmn
  have hv := hr.eval g
  rw [hg] at hv
  obtain ⟨lb, hgu, hlb⟩ := hv
  obtain ⟨hent, hI⟩ := hI
  obtain ⟨V, hV, hseq⟩ := hI c lb hr.hr hlb
  show (Code.rangeFunc g pa asg x).wpIn Fence.wide n P _ a c.w
  rw [wpIn_wide, ← wpIn_wide (n := 3)]
  have hVl : ∀ i, (V i).length = pa.size := fun i => by
    rw [(VRt_iff.1 (hV i)).1, (hLp L[i] (by exact List.getElem_mem _)).2]; simp
  have envs : ∀ {c' : Cx} {σ : Heap} {nx : Nat}, Grow c c' → (∀ id, id < m1 → c'.φ id = c.φ id) → HR c' → c'.σ = σ → (∀ id, nx ≤ id → c'.φ id = none) → RelR N nx No c' ⟨st.env, σ, nx⟩ a := by
    intro c' σ nx hgr hl hh hs hf
    exact ⟨hr.size, fun t => (hr.env t).monoP (p := fun i => i < m1) hgr (fun id y h1 h2 => by rw [hl id h1]; exact h2) (hlow t), hh, hs, fun id h1 h2 => absurd (hf id h1) h2⟩
  have fresh' : ∀ {nx : Nat} {c' : Cx} {s : ASt} {a' : Act}, RelR N nx No c' s a' → ∀ id, nx ≤ id → c'.φ id = none := by
    intro nx c' s a' h id hid
    cases hq : c'.φ id with
    | none => rfl
    | some y => obtain ⟨j, hj, _⟩ := h.fresh id hid (by rw [hq]; simp); exact hj.elim
  refine wpIn_rangeFunc_ownF (F := Fence.wide) (n := 3) rfl (by decide) hgu trivial (fun args w => run_callFunc hent args w) hseq (fun h k b h1 h2 h3 => (k b h1 h2 h3).trans (h b h1 h2 h3))
    (fun W l o o' hl _ _ _ b h1 _ _ => World.putObj_heap_other (by omega)) (Below.refl _ _) (fun i => by simp [hVl i])
    (fun pre W => ∃ c', c'.w = W ∧ Grow c c' ∧ (∀ id, id < m1 → c'.φ id = c.φ id) ∧ RelR N (F pre).2 No c' ⟨st.env, (F pre).1, (F pre).2⟩ a)
    (fun cd pre W => ∃ (e : Exit) (σ : Heap) (nx : Nat) (c' : Cx), ((cd = .ret ∧ e = .ret) ∨ ∃ id, cd = .exit id ∧ e = .exit id) ∧ c'.w = W ∧ Grow c c' ∧ (∀ id, id < m1 → c'.φ id = c.φ id) ∧ RelR N nx No c' ⟨st.env, σ, nx⟩ a ∧ m1 ≤ nx ∧ X e pre σ nx)
    ?_ ?_ ⟨c, rfl, Grow.refl c, fun _ _ => rfl, by rw [hF0]; exact hr⟩ (fun i => mvAct mv { tmps := (pa.zip (V i).toArray).foldl (fun t q => t.setIfInBounds q.1 q.2) a.tmps, defers := [] }) ?_ ?_ ?_ ?_
  · rintro pre W W' row ⟨c', rfl, h1, h2, h3⟩ hgr hrow
    have hs : Side c.w.heap.size c' W' := Side.grown hgr hrow (by rw [h3.σ]; exact hFm pre)
    exact ⟨c'.at W', rfl, h1.side hs (Nat.le_refl _), h2, h3.side hs⟩
  · rintro cd pre W W' row ⟨e, σ, nx, c', h0, rfl, h1, h2, h3, h4, h5⟩ hgr hrow
    have hs : Side c.w.heap.size c' W' := Side.grown hgr hrow (by rw [h3.σ]; exact hXm _ _ _ _ h5)
    exact ⟨e, σ, nx, c'.at W', h0, rfl, h1.side hs (Nat.le_refl _), h2, h3.side hs, h4, h5⟩
  · intro l i W K hK
    exact mv_wp (ro := some l) (Q := Exit.then K (fun _ _ _ => False)) hmv hK
  · rintro l pre i W ⟨c', rfl, h1, h2, h3⟩ hlen
    classical
    obtain ⟨Y, hY⟩ : ∃ Y : Nat → WK, ∀ b, Y b = if ∃ cs e f, c'.w.heap[b]? = some (.cells cs e f) then c'.Y b else .no := ⟨_, fun b => rfl⟩
    have hY1 : ∀ b, Y b = c'.Y b ∨ (Y b = .no ∧ ∀ cs e f, c'.w.heap[b]? ≠ some (.cells cs e f)) := fun b => by
      rw [hY b]
      split
      · exact .inl rfl
      · rename_i h; exact .inr ⟨rfl, fun cs e f h9 => h ⟨cs, e, f, h9⟩⟩
    have hwok : ∀ k b n, c'.wok k b n → (c'.reY Y).wok k b n := by
      rintro k b n ⟨k1, k2, k3, k4, sz, ⟨cs, e, k5, k6⟩, k7⟩
      refine ⟨k1, k2, ?_, k4, sz, ⟨cs, e, k5, k6⟩, k7⟩
      rcases hY1 b with h | ⟨_, h⟩
      · show Y b = k; rw [h]; exact k3
      · exact absurd k5 (h _ _ _)
    have hno : ∀ b, c'.Y b = .no → Y b = .no := fun b h => by
      rcases hY1 b with h9 | ⟨h9, _⟩
      · rw [h9, h]
      · exact h9
    have hr1 : RelR N (F pre).2 No (c'.reY Y) ⟨st.env, (F pre).1, (F pre).2⟩ { tmps := a.tmps, defers := [] } :=
      ⟨h3.size, fun t => (h3.env t).reY hwok, h3.hr.reY (fun b v hb hx => hno b ((h3.hr.gl b v hb).2.2 hx)) hwok, h3.σ, h3.fresh⟩
    have hV2 : VRt (c'.reY Y) L[i] (V i) := ((hV i).monoP (p := fun i => i < m1) h1 (fun id y q1 q2 => by rw [h2 id q1]; exact q2) (hLp L[i] (by exact List.getElem_mem _)).1).reY hwok
    have hr2 := (hr1.binds hps hV2).mvs hmvN
    have hz : (pa.zip (V i).toArray).foldl (fun t q => t.setIfInBounds q.1 q.2) a.tmps = (pa.toList.zip (V i)).foldl (fun t q => t.setIfInBounds q.1 q.2) a.tmps := by
      rw [← Array.foldl_toList, Array.toList_zip]
    have hb := wpC_sound (hbody pre i hlen) x hx (some l) (.inr hfl) 1 (c'.reY Y) _ hr2 (hFn pre)
    rw [hz]
    refine wpIn_mono hb ?_
    have fin : ∀ {c3 : Cx} {s3 : ASt} {a3 : Act}, Grow (c'.reY Y) c3 → (∀ id, id < m1 → c3.φ id = (c'.reY Y).φ id) → RelR N s3.nx No c3 s3 a3 →
        KeepsOthers c'.w c3.w ∧ Kc c c'.w c3.w ∧ Grow c (c3.reY c'.Y) ∧ (∀ id, id < m1 → (c3.reY c'.Y).φ id = c.φ id) ∧ RelR N s3.nx No (c3.reY c'.Y) ⟨st.env, s3.σ, s3.nx⟩ a := by
      intro c3 s3 a3 hg3 hl3 hr3
      have hgg : Grow c (c3.reY c'.Y) := h1.trans (hg3.reYback hY1)
      have hll : ∀ id, id < m1 → (c3.reY c'.Y).φ id = c.φ id := fun id hid => (hl3 id hid).trans (h2 id hid)
      have hY3 : c3.Y = Y := hg3.Y
      have hh : HR (c3.reY c'.Y) := hr3.hr.reY (fun b v hb hx => (h3.hr.gl b v hb).2.2 (by rw [hg3.X] at hx; exact hx)) (by
        rintro k b n ⟨k1, k2, k3, k4, k5⟩
        refine ⟨k1, k2, ?_, k4, k5⟩
        rw [hY3] at k3
        rcases hY1 b with h | ⟨h, _⟩
        · show c'.Y b = k; rw [← h]; exact k3
        · rw [h] at k3; subst k3; rcases k4 with k4 | k4 <;> cases k4)
      refine ⟨⟨hg3.size, fun k o hk ho => ?_⟩, fun b q1 q2 q3 => ?_, hgg, hll, envs hgg hll hh hr3.σ (fun id hid => fresh' hr3 id hid)⟩
      · refine (hg3.stay k (Array.getElem?_eq_some_iff.1 hk).1 (fun ht => ?_) (fun _ => ?_)).trans hk
        · obtain ⟨cs, e, f, h9⟩ := h3.hr.T_cells (by rw [h3.σ]; exact hFm pre) ht
          rw [hk] at h9; cases h9; cases ho
        · show Y k = .no
          rw [hY k, if_neg]
          rintro ⟨cs, e, f, h9⟩
          rw [hk] at h9; cases h9; cases ho
      · refine hg3.stay b (Nat.lt_of_lt_of_le q1 h1.size) (fun ht => ?_) (fun hx => ?_)
        · rcases h1.held b ht with h9 | h9
          · exact q2 h9
          · omega
        · refine hno b ?_
          rw [h1.Y]; exact q3 (by rw [← h1.X]; exact hx)
    rintro e a' w' ⟨c2, s2, rfl, ga, low2, rel2, hm2, hq⟩
    cases e with
    | normal =>
      obtain ⟨c3, w3, g3, low3, rel3, hm3⟩ := hq c2 a' rel2 hm2
      obtain ⟨k1, k2, k3, k4, k5⟩ := fin (ga.g.trans g3) (fun id hid => (low3 id hid).trans (low2 id hid)) rel3
      rw [w3] at k1 k2
      exact ⟨k1, k2, c3.reY c'.Y, w3, k3, k4, k5⟩
    | ret =>
      obtain ⟨k1, k2, k3, k4, k5⟩ := fin ga.g low2 rel2
      exact ⟨k1, .ret, s2.σ, s2.nx, c2.reY c'.Y, .inl ⟨rfl, rfl⟩, rfl, k3, k4, k5, hm2, hq⟩
    | exit id =>
      obtain ⟨k1, k2, k3, k4, k5⟩ := fin ga.g low2 rel2
      exact ⟨k1, .exit id, s2.σ, s2.nx, c2.reY c'.Y, .inr ⟨id, rfl, rfl⟩, rfl, k3, k4, k5, hm2, hq⟩
    | _ => exact hq.elim
  · rintro D xs W hD rfl ⟨c', rfl, h1, h2, h3⟩ hdd
    exact ⟨c', _, rfl, ⟨h1, [{ target := .collected D, args := #[] }], rfl, by simp, fun d hd => by rw [List.mem_singleton] at hd; exact ⟨D, hd, hD, hdd⟩⟩, fun id hid => h2 id (Nat.lt_of_lt_of_le hid hm), ⟨h3.size, h3.env, h3.hr, h3.σ, h3.fresh⟩, Nat.le_trans hm (hFn _), hdone⟩
  · rintro D cd pre W hD ⟨k, hk, rfl⟩ ⟨e, σ, nx, c', h0, rfl, h1, h2, h3, h4, h5⟩ hdd
    have key : ∃ c'' st', c''.w = c'.w ∧ GoA c a c'' { a with defers := { target := .collected D, args := #[] } :: a.defers } ∧ (∀ id, id < m → c''.φ id = c.φ id) ∧ RelR N st'.nx No c'' st' { a with defers := { target := .collected D, args := #[] } :: a.defers } ∧ m ≤ st'.nx ∧ Q e st' :=
      ⟨c', ⟨st.env, σ, nx⟩, rfl, ⟨h1, [{ target := .collected D, args := #[] }], rfl, by simp, fun d hd => by rw [List.mem_singleton] at hd; exact ⟨D, hd, hD, hdd⟩⟩, fun id hid => h2 id (Nat.lt_of_lt_of_le hid hm), ⟨h3.size, h3.env, h3.hr, h3.σ, h3.fresh⟩, Nat.le_trans hm h4, hstop k e σ nx hk h5⟩
    rcases h0 with ⟨rfl, rfl⟩ | ⟨id, rfl, rfl⟩
    · exact wpIn_ret key
    · exact wpIn_exit key
theorem RelR.envs {c c' : Cx} {env : Nat → AV} {σ0 σ : Heap} {nx0 nx m1 : Nat} {a : Act} (hr : RelR N nx0 No c ⟨env, σ0, nx0⟩ a) (hlow : ∀ t, AlN (fun i => i < m1) (env t)) (hgr : Grow c c') (hl : ∀ id, id < m1 → c'.φ id = c.φ id) (hh : HR c') (hs : c'.σ = σ) (hf : ∀ id, nx ≤ id → c'.φ id = none) :
    RelR N nx No c' ⟨env, σ, nx⟩ a :=
  ⟨hr.size, fun t => (hr.env t).monoP (p := fun i => i < m1) hgr (fun id y h1 h2 => by rw [hl id h1]; exact h2) (hlow t), hh, hs, fun id h1 h2 => absurd (hf id h1) h2⟩
theorem RelR.none {nx : Nat} {c' : Cx} {s : ASt} {a' : Act} (h : RelR N nx No c' s a') : ∀ id, nx ≤ id → c'.φ id = none := by
  intro id hid
  cases hq : c'.φ id with
  | none => rfl
  | some y => obtain ⟨j, hj, _⟩ := h.fresh id hid (by rw [hq]; simp); exact hj.elim
end Go.Proofs.YtonglhkiobibgaaGreatDoor
namespace Go.Proofs.YtonglhkiobibgaaGreatDoor
open Go.RowKit
variable {P : Program} {N m : Nat}
mutual
theorem AlN.of {p : Nat → Prop} : ∀ {a : AV}, Al p a → AlN p a
  | .any, _ | .v _, _ | .ws _ _, _ | .wp _, _ | .wv _, _ => trivial
  | .fs fr cs n, h | .fp fr cs n, h | .us fr e cs n, h => AlNL.of (l := cs) h
  | .agg l, h | .tup l, h | .fn f l, h => AlNL.of (l := l) h
  | .ifc _ a, h => AlN.of (a := a) h
  | .os _ _ _ _, h | .op _ _, h | .mp _, h => h
theorem AlNL.of {p : Nat → Prop} : ∀ {l : List AV}, AlL p l → AlNL p l
  | [], _ => trivial
  | a :: r, h => ⟨AlN.of (a := a) h.1, AlNL.of (l := r) h.2⟩
end
theorem AlN.env {p : Nat → Prop} {l : List (Nat × AV)} (h : AlL p (l.map (·.2))) (t : Nat) : AlN p (envOf l t) := by
  rcases envOf_mem (l := l) (t := t) with e | e
  · rw [e]; trivial
  · exact AlN.of (AlL_iff.1 h _ (List.mem_map.2 ⟨_, e, rfl⟩))
end Go.Proofs.YtonglhkiobibgaaGreatDoor
namespace Go.Proofs.YtonglhkiobibgaaGreatDoor
open Go.RowKit Go.Instr
open Go.ChangeMaps (setBlock)
variable {P : Program} {N m nx : Nat}
/-- an iterator r over the map at b: what has come -/
structure IterAt (w : World) (b r : Nat) (es : Array MapEntry) (clock : Nat) (vis : List Nat) : Prop where
  hb : w.heap[b]? = some (.map es clock)
  it : ∃ since seen c0, w.heap[r]? = some (.mapIter (some b) since seen c0) ∧ (∀ x ∈ es.toList, x.born < since) ∧ since ≤ c0 ∧ since ≤ clock ∧ ∀ (j : Nat) e, es.toList[j]? = some e → (seen.contains e.born = true ↔ j ∈ vis)
theorem IterAt.frame {w w1 : World} {b r : Nat} {es : Array MapEntry} {clock : Nat} {vis : List Nat} (h : IterAt w b r es clock vis) (h1 : w1.heap[b]? = w.heap[b]?) (h2 : w1.heap[r]? = w.heap[r]?) : IterAt w1 b r es clock vis := by
  obtain ⟨hb, since, seen, c0, hr, rest⟩ := h
  exact ⟨h1.trans hb, since, seen, c0, h2.trans hr, rest⟩
theorem contains_push' (s : Array Nat) (x y : Nat) : (s.push x).contains y = true ↔ (s.contains y = true ∨ y = x) := by simp
theorem IterAt.next {w : World} {b r : Nat} {es : Array MapEntry} {clock : Nat} {vis : List Nat} (h : IterAt w b r es clock vis) (hn : (es.toList.map (·.born)).Nodup) (ty : TypeId) :
    ((∀ j, j < es.size → j ∈ vis) ∧ (Instr.next (.pointer (some ⟨r, 0, none⟩)) false ty).run P w = .ok (.tuple #[.bool false]) w) ∨
    ∃ (j : Nat) (e : MapEntry) (w' : World), es.toList[j]? = some e ∧ j ∉ vis ∧ (Instr.next (.pointer (some ⟨r, 0, none⟩)) false ty).run P w = .ok (.tuple #[.bool true, e.key, e.val]) w' ∧ IterAt w' b r es clock (vis ++ [j]) ∧
      w.grownBy w' (some r) ∧ w'.heap.size = w.heap.size ∧ (∃ o : Obj, w.heap[r]? = some o ∧ o.isCells = false ∧ ∀ es' cl, o ≠ .map es' cl) ∧ (Instr.entry (.pointer (some ⟨r, 0, none⟩))).run P w' = .ok (.tuple #[e.key, e.val]) w' := by
  obtain ⟨hb, since, seen, c0, hr, hold, hs0, hsc, hto⟩ := h
  have hne : b ≠ r := fun e1 => by rw [e1, hr] at hb; cases hb
  rcases run_next_at (P := P) w ty r b since c0 seen es clock hr hb hold hs0 with ⟨h0, hrun⟩ | ⟨e, hel, w1, hal, hrun⟩
  · refine .inl ⟨fun j hj => ?_, hrun⟩
    have hjl : es.toList[j]? = some es[j] := by rw [Array.getElem?_toList]; exact Array.getElem?_eq_getElem hj
    refine (hto j _ hjl).1 ?_
    have : leftOf es seen = #[] := Array.eq_empty_of_size_eq_zero h0
    unfold leftOf at this
    rw [Array.filter_eq_empty_iff] at this
    have h9 := this es[j] (by simp)
    simpa using h9
  · have hmem : e ∈ es.toList ∧ seen.contains e.born = false := by
      unfold leftOf at hel
      simpa using hel
    obtain ⟨j, hj⟩ := List.getElem?_of_mem hmem.1
    have hr1 : w1.heap[r]? = some (.mapIter (some b) since seen c0) := by rcases hal with rfl | rfl <;> exact hr
    have hb1 : w1.heap[b]? = some (.map es clock) := by rcases hal with rfl | rfl <;> exact hb
    have hset := MapKept.heap_set (o' := .mapIter (some b) since (seen.push e.born) clock) hr1
    have hb' : (setBlock w1 r (.mapIter (some b) since (seen.push e.born) clock)).heap[b]? = some (.map es clock) := (hset.2 b (fun e1 => hne e1)).trans hb1
    refine .inr ⟨j, e, _, hj, (fun h9 => by rw [(hto j e hj).2 h9] at hmem; exact absurd hmem.2 (by decide)), hrun, ⟨hb', since, seen.push e.born, clock, hset.1, hold, hsc, hsc, fun i e2 hi => ?_⟩, ?_, ?_, ⟨_, hr, rfl, fun _ _ h => by cases h⟩, ?_⟩
    · rw [contains_push', hto i e2 hi, List.mem_append, List.mem_singleton]
      refine or_congr Iff.rfl ⟨fun h9 => ?_, fun h9 => ?_⟩
      · have h1 : (es.toList.map (·.born))[i]? = some e2.born := by rw [List.getElem?_map, hi]; rfl
        have h2 : (es.toList.map (·.born))[j]? = some e.born := by rw [List.getElem?_map, hj]; rfl
        have hi' := (List.getElem?_eq_some_iff.1 h1).1
        exact (List.getElem?_inj hi' hn).1 (by rw [h1, h2, h9])
      · subst h9; rw [hi] at hj; cases hj; rfl
    · rcases hal with rfl | rfl <;> exact ⟨rfl, rfl, rfl, by simp [setBlock], fun i _ hi => hset.2 i (fun e1 => hi (by rw [e1]))⟩
    · rcases hal with rfl | rfl <;> simp [setBlock]
    · exact run_entry_at (P := P) _ r b since seen es clock e hset.1 hb' hmem.1 hn
/-- a region's first operations by the machine, then the rest -/
theorem text_part {ro : Option Nat} {rm : Nat} {ops : Array Oper} {f : ASt} {Q : Exit → Act → World → Prop} {rest : List Nat} : ∀ (tr : List TE) (k : Nat) (st : ASt) (c : Cx) (a : Act), (∀ (j : Nat) e, tr[j]? = some e → e.i = k + j) → Chain P ops N nx tr st f →
    RelR N nx (fun j => j < k) c st a → (∀ c' a', Later nx c c' → a'.defers = a.defers → RelR N nx (fun j => j < k + tr.length) c' f a' → wpOpsIn (FR ro) rm P ops Q rest a' c'.w) → wpOpsIn (FR ro) rm P ops Q (List.range' k tr.length ++ rest) a c.w
  | [], k, st, c, a, _, hch, hrel, hQ => by
    have hst : st = f := hch
    subst hst
    exact hQ c a (Later.refl c) rfl hrel
  | e :: tr, k, st, c, a, hidx, hch, hrel, hQ => by
    obtain ⟨h1, h2⟩ := hch
    have he : e.i = k := by simpa using hidx 0 e rfl
    rw [List.length_cons, List.range'_succ, List.cons_append, wpOpsIn_cons, ← he]
    refine entry_wp hrel h1 (by omega) (done' := fun j => j < k + 1) (fun j hj => by omega) (fun c' a' hl hd hr => ?_)
    rw [he]
    exact text_part tr (k + 1) _ c' a' (fun j e' hj => by have := hidx (j + 1) e' (by simpa using hj); omega) h2 hr (fun c2 a2 hl2 hd2 hr2 => hQ c2 a2 (hl.trans hl2) (hd2.trans hd) (by rw [List.length_cons, show k + (tr.length + 1) = k + 1 + tr.length from by omega]; exact hr2))
/-- one operation by hand -/
theorem hand_val {ro : Option Nat} {rm : Nat} {ops : Array Oper} {Q : Exit → Act → World → Prop} {i d : Nat} {o : Oper} {a : Act} {w w' : World} {v : Value} {K : Act → World → Prop} (ho : ops[i]? = some o) (hg : o.guard = none) (hd : o.dst = some d) (hnd : ∀ c, o.op ≠ .defer c)
    (hrun : (execOp a.eval o).run P w = .ok (.value v) w') (hK : K (a.put (some d) v) w') : wpOpIn (FR ro) rm P ops Q i K a w := by
  unfold wpOpIn
  rw [ho]
  simp only
  rw [if_pos (by simp [Region.wanted, hg])]
  refine ⟨fun _ _ => trivial, ?_⟩
  rw [Oper.semAt_eq _ _ _ hnd, hrun, Oper.uponIn_value, hd]
  exact hK
theorem hand_ext {o : Oper} {x : Operand} {i : Nat} {us : Array Value} {v : Value} {a : Act} (hop : o.op = Op.extract x i) (hm : a.eval x = .tuple us) (hi : us[i]? = some v) (w : World) : (execOp a.eval o).run P w = .ok (.value v) w := by
  simp [execOp, hop, hm, hi, Instr.extract, Result.andThen]
theorem hand_range {o : Oper} {t : TypeId} {x : Operand} {v v' : Value} {a : Act} {w w' : World} (hop : o.op = Op.range t x) (hm : a.eval x = v) (hr : (Instr.range t v).run P w = .ok v' w') : (execOp a.eval o).run P w = .ok (.value v') w' := by
  simp [execOp, hop, hm, hr, Result.andThen]
theorem hand_next {o : Oper} {it : Operand} {v v' : Value} {a : Act} {w w' : World} (hop : o.op = Op.next it false) (hm : a.eval it = v) (hr : (Instr.next v false o.type).run P w = .ok v' w') : (execOp a.eval o).run P w = .ok (.value v') w' := by
  simp [execOp, hop, hm, hr, Result.andThen]
theorem hand_entry {o : Oper} {it : Operand} {v v' : Value} {a : Act} {w w' : World} (hop : o.op = Op.entry it) (hm : a.eval it = v) (hr : (Instr.entry v).run P w = .ok v' w') : (execOp a.eval o).run P w = .ok (.value v') w' := by
  simp [execOp, hop, hm, hr, Result.andThen]
theorem hand_assign {o : Oper} {x : Operand} {v : Value} {a : Act} (hop : o.op = Op.assign x) (hv : a.eval x = v) (w : World) : (execOp a.eval o).run P w = .ok (.value v) w := by
  simp [execOp, hop, hv]
theorem put_same (a : Act) (d : Nat) (v : Value) (h : d < a.tmps.size) : (a.put (some d) v).eval (.tmp d) = v := by
  show (a.tmps.setIfInBounds d v).getD d undef = v
  simp [h]
theorem put_ne (a : Act) (d j : Nat) (v : Value) (h : d ≠ j) : (a.put (some d) v).eval (.tmp j) = a.eval (.tmp j) := by
  show (a.tmps.setIfInBounds d v).getD j undef = a.tmps.getD j undef
  simp [Array.getElem?_setIfInBounds_ne h]
theorem put_size (a : Act) (d : Nat) (v : Value) : (a.put (some d) v).tmps.size = a.tmps.size := by
  show (a.tmps.setIfInBounds d v).size = _
  simp
/-- the row M is out of sight: its block is another's, and nobody writes it -/
def Cx.hide (c : Cx) (M b : Nat) : Cx := ⟨c.w, c.B, c.φ, app c.σ [(M, none)], fun x => c.X x ∨ x = b, fun x => if x = b then .no else c.Y x⟩
/-- .. and in sight again -/
def Cx.show (c0 c : Cx) (M : Nat) (o : AObj) : Cx := ⟨c.w, c0.B, c.φ, app c.σ [(M, some o)], c0.X, c0.Y⟩
mutual
theorem Al_true : ∀ a : AV, Al (fun _ => True) a
  | .any | .v _ | .ws _ _ | .wp _ | .wv _ => trivial
  | .fs _ cs _ | .fp _ cs _ | .us _ _ cs _ => AlL_true cs
  | .agg l | .tup l | .fn _ l => AlL_true l
  | .ifc _ a => Al_true a
  | .os _ _ _ _ | .op _ _ | .mp _ => trivial
theorem AlL_true : ∀ l : List AV, AlL (fun _ => True) l
  | [] => trivial
  | a :: r => ⟨Al_true a, AlL_true r⟩
end
theorem vr_id {c d : Cx} (al : Alike (fun _ => True) id c d) {a : AV} {u : Value} (h : VR c a u) : VR d a u := by
  have := VR.ren al (Al_true a) h
  rwa [ren_id (p := fun _ => True) (ρ := id) (fun _ _ => rfl) (Al_true a)] at this
section
variable {c : Cx} {M b : Nat} {y : Bool} {cells : List AV}
theorem hide_T (x : Nat) (h : (c.hide M b).T x) : c.T x ∧ ∃ i o, i ≠ M ∧ c.σ i = some o ∧ c.φ i = some (some x) := by
  obtain ⟨i, o, h1, h2⟩ := h
  by_cases e : i = M
  · simp [Cx.hide, app, e] at h1
  · have h3 : c.σ i = some o := by simpa [Cx.hide, app, e] using h1
    exact ⟨⟨i, o, h3, h2⟩, i, o, e, h3, h2⟩
theorem hide_al (h : HR c) (hσ : c.σ M = some (.row y MAPE cells)) (hφ : c.φ M = some (some b)) : Alike (fun _ => True) id c (c.hide M b) := by
  have hT : c.T b := ⟨M, _, hσ, hφ⟩
  have hX : ¬ c.X b := h.TX hT
  refine ⟨rfl, fun _ _ _ h => h, fun fr x _ ho => ⟨ho.1, fun ht => ho.2.1 (hide_T x ht).1, ?_⟩, fun k x n ho => ?_⟩
  · rintro (hx | rfl)
    · exact ho.2.2 hx
    · exact ho.2.1 hT
  · obtain ⟨h1, h2, h3, h4, h5⟩ := ho
    refine ⟨.inl h1, fun ht => h2 (hide_T x ht).1, ?_, h4, h5⟩
    have hne : x ≠ b := fun e => hX (e ▸ h1)
    show (if x = b then WK.no else c.Y x) = k
    rw [if_neg hne]; exact h3
theorem hide_HR (h : HR c) (hσ : c.σ M = some (.row y MAPE cells)) (hφ : c.φ M = some (some b)) (hlt : b < c.w.heap.size) : HR (c.hide M b) := by
  have al := hide_al h hσ hφ
  have hs : ∀ i o, (c.hide M b).σ i = some o → i ≠ M ∧ c.σ i = some o := fun i o hi => by
    by_cases e : i = M
    · simp [Cx.hide, app, e] at hi
    · exact ⟨e, by simpa [Cx.hide, app, e] using hi⟩
  refine ⟨fun i y' e' cl hi => ?_, fun i i' x h1 h2 h3 h4 => ?_, h.base, fun x hx => ?_, fun x v hx => ?_⟩
  · obtain ⟨hne, hi'⟩ := hs i _ hi
    rcases h.row i y' e' cl hi' with g1 | ⟨b', cs, g1, g2, g3, g4, g5⟩
    · exact .inl g1
    · refine .inr ⟨b', cs, g1, g2, ⟨g3.1, ?_⟩, g4, fun j a hj => ?_⟩
      · rintro (hx | rfl)
        · exact g3.2 hx
        · exact hne (h.inj i M b' (by rw [hi']; simp) (by rw [hσ]; simp) g1 hφ)
      · obtain ⟨u, k1, k2, k3⟩ := g5 j a hj
        exact ⟨u, k1, k2, vr_id al k3⟩
  · obtain ⟨o1, ho1⟩ := Option.ne_none_iff_exists'.1 h1
    obtain ⟨o2, ho2⟩ := Option.ne_none_iff_exists'.1 h2
    exact h.inj i i' x (by rw [(hs i _ ho1).2]; simp) (by rw [(hs i' _ ho2).2]; simp) h3 h4
  · rcases hx with hx | rfl
    · exact h.xlt x hx
    · exact hlt
  · obtain ⟨k1, k2, k3⟩ := h.gl x v hx
    refine ⟨k1, fun ht => k2 (hide_T x ht).1, fun hx' => ?_⟩
    show (if x = b then WK.no else c.Y x) = .no
    split
    · rfl
    · rename_i hne; exact k3 (hx'.resolve_right hne)
/-- the row comes back -/
theorem show_al {c0 c' : Cx} {o : AObj} (hX : c'.X = fun x => c0.X x ∨ x = b) (hY : c'.Y = fun x => if x = b then .no else c0.Y x) (hB : c'.B = c0.B) (hφ : c'.φ M = some (some b)) : Alike (fun _ => True) id c' (Cx.show c0 c' M o) := by
  have hT : ∀ x, (Cx.show c0 c' M o).T x → c'.T x ∨ x = b := by
    rintro x ⟨i, o', h1, h2⟩
    by_cases e : i = M
    · subst e
      have h3 : c'.φ i = some (some x) := h2
      rw [hφ] at h3; cases h3; exact .inr rfl
    · exact .inl ⟨i, o', by simpa [Cx.show, app, e] using h1, h2⟩
  refine ⟨rfl, fun _ _ _ h => h, fun fr x _ ho => ⟨fun hf => by show c0.B ≤ x; rw [← hB]; exact ho.1 hf, fun ht => ?_, fun hx => ho.2.2 (by rw [hX]; exact .inl hx)⟩, fun k x n ho => ?_⟩
  · rcases hT x ht with h | h
    · exact ho.2.1 h
    · exact ho.2.2 (by rw [hX]; exact .inr h)
  · obtain ⟨h1, h2, h3, h4, h5⟩ := ho
    have hne : x ≠ b := fun e => by
      subst e
      rw [hY] at h3
      simp only [if_true] at h3
      subst h3
      rcases h4 with h4 | h4 <;> cases h4
    rw [hX] at h1
    rw [hY] at h3
    simp only [if_neg hne] at h3
    exact ⟨h1.resolve_right hne, fun ht => (hT x ht).elim h2 hne, h3, h4, h5⟩
end
theorem nodup_len : ∀ (n : Nat) (l : List Nat), l.Nodup → (∀ x ∈ l, x < n) → l.length ≤ n
  | 0, l, _, h => by
    cases l with
    | nil => simp
    | cons x l => have := h x (by simp); omega
  | n + 1, l, hn, h => by
    by_cases hm : n ∈ l
    · have h1 := nodup_len n (l.erase n) (hn.erase n) (fun x hx => by
        have h2 := (List.Nodup.mem_erase_iff hn).1 hx
        have := h x h2.2
        omega)
      rw [List.length_erase_of_mem hm] at h1
      omega
    · have h1 := nodup_len n l hn (fun x hx => by
        have := h x hx
        have : x ≠ n := fun e => hm (e ▸ hx)
        omega)
      omega
theorem flatM_len : ∀ l : List MapEntry, (flatM l).length = l.length * 2
  | [] => rfl
  | e :: l => by
    show (e.key :: e.val :: flatM l).length = _
    simp [flatM_len l]; omega
theorem flatM_get : ∀ {l : List MapEntry} {j : Nat} {e : MapEntry}, l[j]? = some e → (flatM l)[j * 2]? = some e.key ∧ (flatM l)[j * 2 + 1]? = some e.val
  | [], j, e, h => by simp at h
  | x :: l, 0, e, h => by
    simp at h; subst h
    exact ⟨rfl, rfl⟩
  | x :: l, j + 1, e, h => by
    obtain ⟨h1, h2⟩ := flatM_get (l := l) (j := j) (e := e) (by simpa using h)
    have e1 : (j + 1) * 2 = j * 2 + 1 + 1 := by omega
    rw [e1]
    exact ⟨h1, h2⟩
/-- what a round begins with -/
def entE (env : Nat → AV) (tn tok te tk tv dk dv : Nat) (K V : AV) : Nat → AV := putE (putE (putE (putE (putE (putE (putE env (some tn) .any) (some tok) .any) (some te) (.tup [K, V])) (some tk) K) (some tv) V) (some dk) K) (some dv) V
abbrev itV (r : Nat) : AV := .v (.pointer (some ⟨r, 0, none⟩))
set_option maxHeartbeats 2000000 in
theorem AW.mrange {ro : Option Nat} {id0 id1 id2 b0 b1 : Nat} {ops ops1 ops2 : Array Oper} {pre : List Oper} {rs : List RO} {body : Code} {o_r o_n o_x o_e o_k o_v o_a o_b : Oper} {st : ASt} {Q : Exit → ASt → Prop} {t kt vt : TypeId} {mt it tn tok te tk tv dk dv : Nat} (m1 : Nat) (hm : m ≤ m1)
    (hops : ops.toList = pre ++ [o_r]) (hc : compROs P ops N pre [] = some rs)
    (hr1 : o_r.op = .range t (.tmp mt)) (hr2 : o_r.dst = some it) (hr3 : o_r.guard = none) (ht : P.underlying t = some (.map kt vt))
    (hops1 : ops1 = #[o_n, o_x]) (hn1 : o_n.op = .next (.tmp it) false) (hn2 : o_n.dst = some tn) (hn3 : o_n.guard = none) (hx1 : o_x.op = .extract (.tmp tn) 0) (hx2 : o_x.dst = some tok) (hx3 : o_x.guard = none)
    (hops2 : ops2 = #[o_e, o_k, o_v, o_a, o_b]) (he1 : o_e.op = .entry (.tmp it)) (he2 : o_e.dst = some te) (he3 : o_e.guard = none) (hk1 : o_k.op = .extract (.tmp te) 0) (hk2 : o_k.dst = some tk) (hk3 : o_k.guard = none)
    (hv1 : o_v.op = .extract (.tmp te) 1) (hv2 : o_v.dst = some tv) (hv3 : o_v.guard = none) (ha1 : o_a.op = .assign (.tmp tk)) (ha2 : o_a.dst = some dk) (ha3 : o_a.guard = none) (hb1 : o_b.op = .assign (.tmp tv)) (hb2 : o_b.dst = some dv) (hb3 : o_b.guard = none)
    (hN : it < N ∧ tn < N ∧ tok < N ∧ te < N ∧ tk < N ∧ tv < N ∧ dk < N ∧ dv < N) (hne : it ≠ tn ∧ it ≠ tok ∧ tn ≠ tok ∧ te ≠ tk ∧ te ≠ tv ∧ tk ≠ tv ∧ tk ≠ dk ∧ tv ≠ dk)
    (M : Nat) (hM : M < m1) (y : Bool) (cells : List AV) (n : Nat) (hcl : cells.length = n * 2) (hlowc : ∀ a ∈ cells, AlN (fun i => i < m1) a) (E : Nat → List Nat → ASt) (hEn : ∀ r vis, m1 ≤ (E r vis).nx) (hEi : ∀ r vis, (E r vis).env it = itV r) (hEM : ∀ r vis, (E r vis).σ M = none)
    (hrun : runL P st.nx rs 0 st [] fun s _ => s.env mt = .mp M ∧ s.σ M = some (.row y MAPE cells) ∧ ∀ r, Weak N m1 ⟨putE s.env (some it) (itV r), app s.σ [(M, none)], st.nx + 100000 * rs.length⟩ (E r []))
    (hst : m1 ≤ st.nx)
    (hbody : ∀ (r : Nat) (vis : List Nat) (j : Nat) (K V : AV), j < n → j ∉ vis → vis.Nodup → (∀ i ∈ vis, i < n) → cells[j * 2]? = some K → cells[j * 2 + 1]? = some V →
      AW ro P N m1 body ⟨entE (E r vis).env tn tok te tk tv dk dv K V, (E r vis).σ, (E r vis).nx⟩ (fun e s => e = .normal ∧ Weak N m1 s (E r (vis ++ [j]))))
    (hdone : ∀ (r : Nat) (vis : List Nat), vis.Nodup → (∀ i, i ∈ vis ↔ i < n) → Q .normal ⟨putE (putE (E r vis).env (some tn) .any) (some tok) .any, app (E r vis).σ [(M, some (.row y MAPE cells))], (E r vis).nx⟩) :
    AW ro P N m (.seq (.region id0 ops false) (.block b0 (.loop (.seq (.region id1 ops1 false) (.seq (.cond (.tmp tok) .skip (.exit b0)) (.block b1 (.seq (.region id2 ops2 false) body))))))) st Q := by
  intro rm c a hr hmn
  obtain ⟨e1, e2⟩ := compROs_spec (k := 0) hc (fun j o hj => by rw [Nat.zero_add, ← Array.getElem?_toList, hops, List.getElem?_append_left (List.getElem?_eq_some_iff.1 hj).1]; exact hj) (fun j hj q hq => by simp at hq)
  obtain ⟨tr, f, t1, t2, t3, ⟨f1, f2, f3⟩, t5⟩ := runL_trace e2 hrun
  have hlen : tr.length = pre.length := by rw [t1, e1]
  have hsz : ops.size = tr.length + 1 := by rw [← Array.length_toList, hops, hlen]; simp
  have hlast : ops[0 + tr.length]? = some o_r := by rw [Nat.zero_add, ← Array.getElem?_toList, hops, hlen]; simp
  refine wpIn_seq (wpIn_region ?_)
  rw [List.range_eq_range', hsz, List.range'_1_concat]
  refine text_part (f := f) tr 0 st c a t2 t3 ⟨hr.size, hr.env, hr.hr, hr.σ, fun id h1 h2 => by obtain ⟨j, h3, _⟩ := hr.fresh id h1 h2; exact h3.elim⟩ ?_
  intro c1 a1 hl1 hd1 hrp
  have hrc := hrp.close f.env (fun _ => .inl rfl)
  have hmv := hrp.env mt
  rw [f1] at hmv
  obtain ⟨b, hφ, hmv⟩ := hmv
  have hσ : c1.σ M = some (.row y MAPE cells) := by rw [hrp.σ]; exact f2
  obtain ⟨cs, hblk, g3, g4, g5⟩ : ∃ cs, Blk c1.w b MAPE cs cells.length ∧ ((y = true → c1.B ≤ b) ∧ ¬ c1.X b) ∧ cells.length ≤ cs.size ∧ ∀ (j : Nat) a, cells[j]? = some a → ∃ u, cs[j]? = some u ∧ u.oneCell' = true ∧ VR c1 a u := by
    rcases hrp.hr.row M y MAPE cells hσ with ⟨g1, _⟩ | ⟨b', cs, g1, g2, g3, g4, g5⟩
    · rw [hφ] at g1; cases g1
    · rw [hφ] at g1; cases g1; exact ⟨cs, g2, g3, g4, g5⟩
  obtain ⟨es, clock, hb, hcs, hold, hnd, hnn⟩ : ∃ es clock, c1.w.heap[b]? = some (.map es clock) ∧ cs = (flatM es.toList).toArray ∧ (∀ x ∈ es.toList, x.born < clock) ∧ (es.toList.map (·.born)).Nodup ∧ cells.length = cs.size := by
    rcases hblk with ⟨h, _⟩ | ⟨_, h⟩
    · exact absurd rfl h
    · exact h
  have hbl : b < c1.w.heap.size := (Array.getElem?_eq_some_iff.1 hb).1
  have hesn : es.size = n := by
    have h9 : cells.length = es.size * 2 := by rw [hnn, hcs]; simp [flatM_len]
    omega
  rw [wpOpsIn_cons]
  refine hand_val hlast hr3 hr2 (by rw [hr1]; intro c h; cases h) (hand_range hr1 hmv (run_range_map c1.w t kt vt b es clock ht hb)) ?_
  simp only [wpOpsIn]
  show (Code.block b0 _).wpIn (FR ro) rm P _ _ _
  obtain ⟨r, hre⟩ : ∃ r, r = c1.w.heap.size := ⟨_, rfl⟩
  rw [← hre]
  obtain ⟨w2, hw2⟩ : ∃ w2, w2 = c1.w.alloc (.mapIter (some b) clock #[] clock) := ⟨_, rfl⟩
  rw [← hw2]
  have hr2' : w2.heap[r]? = some (.mapIter (some b) clock #[] clock) := by rw [hw2, hre]; exact World.alloc_heap_new _ _
  have hold2 : ∀ k, k < c1.w.heap.size → w2.heap[k]? = c1.w.heap[k]? := fun k hk => by rw [hw2]; exact Below.heap_alloc _ _ _ hk
  have al := hide_al hrp.hr hσ hφ
  have hT1 : c1.T b := ⟨M, _, hσ, hφ⟩
  obtain ⟨ch, hch⟩ : ∃ ch, ch = c1.hide M b := ⟨_, rfl⟩
  rw [← hch] at al
  have hw_ch : ch.w = c1.w := by rw [hch]; rfl
  have hX_ch : ch.X = fun x => c1.X x ∨ x = b := by rw [hch]; rfl
  have hY_ch : ch.Y = fun x => if x = b then .no else c1.Y x := by rw [hch]; rfl
  have hB_ch : ch.B = c1.B := by rw [hch]; rfl
  have hφ_ch : ch.φ = c1.φ := by rw [hch]; rfl
  have hT_ch : ∀ x, ch.T x → c1.T x := fun x h => by rw [hch] at h; exact (hide_T x h).1
  have hHR : HR ch := by rw [hch]; exact hide_HR hrp.hr hσ hφ hbl
  obtain ⟨nx1, hnx1⟩ : ∃ nx1, nx1 = st.nx + 100000 * rs.length := ⟨_, rfl⟩
  rw [← hnx1] at f3
  have hrh : RelR N nx1 No ch ⟨f.env, app f.σ [(M, none)], nx1⟩ a1 := by
    have e9 : st.nx + 100000 * (0 + tr.length) = nx1 := by rw [hnx1, t1, Nat.zero_add]
    rw [e9] at hrc
    exact ⟨hrc.size, fun t => vr_id al (hrc.env t), hHR, by rw [hch]; show app c1.σ _ = app f.σ _; rw [hrp.σ], fun id h1 h2 => by rw [hφ_ch] at h2; exact hrc.fresh id h1 h2⟩
  have hsd : Side r ch w2 := ⟨by rw [hw2, hw_ch]; rfl, by rw [hw2, hw_ch]; rfl, by rw [hw2, hw_ch]; rfl, by rw [hw2, hw_ch]; simp, fun k hk => .inl (by rw [hw_ch] at hk ⊢; exact hold2 k hk)⟩
  have hg0 : Grow ch (ch.at w2) := (Grow.refl ch).side hsd (by rw [hw_ch, hre]; exact Nat.le_refl _)
  have hrs := (hrh.side hsd).set hN.1 (x := itV r) (v := .pointer (some ⟨r, 0, none⟩)) rfl
  have hm1 : m1 ≤ nx1 := by omega
  obtain ⟨c3, hw3, hg3, hlow3, hrel3, _⟩ := f3 r (ch.at w2) _ hrs hm1
  have hlow1 : ∀ id, id < st.nx → c1.φ id = c.φ id := hl1.low
  -- what was known of the cells is known still
  have hcell : ∀ (c' : Cx), Grow ch c' → (∀ id, id < m1 → c'.φ id = ch.φ id) → ∀ (j : Nat) x, cells[j]? = some x → ∃ u, cs[j]? = some u ∧ u.oneCell' = true ∧ VR c' x u := fun c' hg hl j x hj => by
    obtain ⟨u, k1, k2, k3⟩ := g5 j x hj
    exact ⟨u, k1, k2, (vr_id al k3).monoP (p := fun i => i < m1) hg (fun i z q1 q2 => by rw [hl i q1]; exact q2) (hlowc x (List.mem_of_getElem? hj))⟩
  refine wpIn_block (wpIn_loop_ghost (fun cnt a' w => ∃ vis c', c'.w = w ∧ GoA ch a1 c' a' ∧ (∀ id, id < m1 → c'.φ id = ch.φ id) ∧ RelR N (E r vis).nx No c' (E r vis) a' ∧ IterAt w b r es clock vis ∧ vis.Nodup ∧ (∀ i ∈ vis, i < n) ∧ cnt + vis.length = n) n ?_ ?_)
  · refine ⟨[], c3, hw3, GoA.of (hg0.trans hg3) (put_defers _ _ _), fun id hid => (hlow3 id hid), hrel3, ?_, .nil, (fun i hi => by cases hi), by simp⟩
    refine ⟨(hold2 b hbl).trans hb, clock, #[], clock, hr2', hold, Nat.le_refl _, Nat.le_refl _, fun j e _ => by simp⟩
  rintro cnt a' w ⟨vis, c', rfl, hg, hlow, hrel, hit, hvn, hvl, hcnt⟩
  have hXb : c'.X b := by rw [hg.g.X, hX_ch]; exact .inr rfl
  have hTb : ¬ c'.T b := fun h => hrel.hr.TX h hXb
  have hitv : a'.eval (.tmp it) = .pointer (some ⟨r, 0, none⟩) := by
    have h9 := hrel.env it
    rw [hEi] at h9
    exact h9
  subst hops1
  refine wpIn_seq (wpIn_region ?_)
  show wpOpsIn _ _ _ _ _ [0, 1] _ _
  rw [wpOpsIn_cons]
  rcases hit.next (P := P) hnd o_n.type with ⟨hall, hrunN⟩ | ⟨j, e, w', hj, hjv, hrunN, hit', hgr, hszw, ⟨ob, hob1, hob2, hob3⟩, hent⟩
  · refine hand_val (o := o_n) rfl hn3 hn2 (by rw [hn1]; intro c h; cases h) (hand_next hn1 hitv hrunN) ?_
    rw [wpOpsIn_cons]
    refine hand_val (o := o_x) (v := .bool false) rfl hx3 hx2 (by rw [hx1]; intro c h; cases h) (hand_ext hx1 (put_same _ _ _ (by rw [hrel.size]; exact hN.2.1)) rfl _) ?_
    simp only [wpOpsIn]
    have hr7 := (hrel.set hN.2.1 (x := .any) (v := .tuple #[.bool false]) trivial).set hN.2.2.1 (x := .any) (v := .bool false) trivial
    show (Code.seq _ _).wpIn (FR ro) rm P _ _ _
    refine wpIn_seq (wpIn_cond_split (t := false) (put_same _ _ _ (by rw [put_size, hrel.size]; exact hN.2.2.1)) (fun h => by cases h) (fun _ => wpIn_exit ?_))
    simp only [Exit.then, Exit.inBlock, if_true]
    have hvis : ∀ i, i ∈ vis ↔ i < n := fun i => ⟨hvl i, fun hi => hall i (by rw [hesn]; exact hi)⟩
    have hφM : c'.φ M = some (some b) := by rw [hlow M hM, hφ_ch]; exact hφ
    have hX' : c'.X = fun x => c1.X x ∨ x = b := by rw [hg.g.X, hX_ch]
    have hY' : c'.Y = fun x => if x = b then .no else c1.Y x := by rw [hg.g.Y, hY_ch]
    have hB' : c'.B = c1.B := by rw [hg.g.B, hB_ch]
    have sal := show_al (M := M) (o := .row y MAPE cells) hX' hY' hB' hφM
    have hTs : ∀ x, (Cx.show c1 c' M (.row y MAPE cells)).T x → c'.T x ∨ x = b := by
      rintro x ⟨i, o', h1, h2⟩
      by_cases e : i = M
      · subst e
        have h3 : c'.φ i = some (some x) := h2
        rw [hφM] at h3; cases h3; exact .inr rfl
      · exact .inl ⟨i, o', by simpa [Cx.show, app, e] using h1, h2⟩
    have hgs : Grow c1 (Cx.show c1 c' M (.row y MAPE cells)) := by
      refine ⟨rfl, rfl, hg.g.out.trans (by rw [hw_ch]), hg.g.osE.trans (by rw [hw_ch]), hg.g.tape.trans (by rw [hw_ch]), (by rw [← hw_ch]; exact hg.g.size), fun x hx hTx hyx => ?_, fun x hx => ?_, fun x cs' e' f' hx => ?_, rfl, fun x k sz h1 h2 h3 h4 h5 => ?_⟩
      · refine (hg.g.stay x (by rw [hw_ch]; exact hx) (fun h => hTx (hT_ch x h)) (fun h => ?_)).trans (by rw [hw_ch])
        rw [hX_ch] at h
        rw [hY_ch]
        rcases h with h | rfl
        · show (if x = b then WK.no else c1.Y x) = .no
          split
          · rfl
          · exact hyx h
        · exact absurd hT1 hTx
      · rcases hTs x hx with h | rfl
        · rcases hg.g.held x h with h | h
          · exact .inl (hT_ch x h)
          · exact .inr (by rw [← hw_ch]; exact h)
        · exact .inl hT1
      · exact hg.g.shape x cs' e' f' (by rw [hw_ch]; exact hx)
      · refine hg.g.wild x k sz (fun h => h1 (hT_ch x h)) (by rw [hX_ch]; exact .inl h2) ?_ h4 (by rw [hw_ch]; exact h5)
        rw [hY_ch]
        have hxb : x ≠ b := fun e => g3.2 (e ▸ h2)
        simp only [if_neg hxb]; exact h3
    have hcl' := hcell c' hg.g hlow
    have hHs : HR (Cx.show c1 c' M (.row y MAPE cells)) := by
      have hs : ∀ i o, (Cx.show c1 c' M (.row y MAPE cells)).σ i = some o → (i = M ∧ o = .row y MAPE cells) ∨ (i ≠ M ∧ c'.σ i = some o) := fun i o hi => by
        by_cases e : i = M
        · left; refine ⟨e, ?_⟩
          have : some (AObj.row y MAPE cells) = some o := by simpa [Cx.show, app, e] using hi
          cases this; rfl
        · exact .inr ⟨e, by simpa [Cx.show, app, e] using hi⟩
      refine ⟨fun i y' e' cl hi => ?_, fun i i' x h1 h2 h3 h4 => ?_, (by show c1.B ≤ c'.w.heap.size; rw [← hB']; exact hrel.hr.base), fun x hx => hrel.hr.xlt x (by rw [hX']; exact .inl hx), fun x v hx => ?_⟩
      · rcases hs i _ hi with ⟨rfl, h9⟩ | ⟨hne, hi'⟩
        · cases h9
          refine .inr ⟨b, cs, hφM, .inr ⟨rfl, es, clock, hit.hb, hcs, hold, hnd, hnn⟩, g3, g4, fun j x hj => ?_⟩
          obtain ⟨u, k1, k2, k3⟩ := hcl' j x hj
          exact ⟨u, k1, k2, vr_id sal k3⟩
        · rcases hrel.hr.row i y' e' cl hi' with g1 | ⟨b', cs', q1, q2, q3, q4, q5⟩
          · exact .inl g1
          · refine .inr ⟨b', cs', q1, q2, ⟨fun h => by show c1.B ≤ b'; rw [← hB']; exact q3.1 h, fun h => q3.2 (by rw [hX']; exact .inl h)⟩, q4, fun j x hj => ?_⟩
            obtain ⟨u, k1, k2, k3⟩ := q5 j x hj
            exact ⟨u, k1, k2, vr_id sal k3⟩
      · obtain ⟨o1, ho1⟩ := Option.ne_none_iff_exists'.1 h1
        obtain ⟨o2, ho2⟩ := Option.ne_none_iff_exists'.1 h2
        have hno : ∀ k o, k ≠ M → c'.σ k = some o → c'.φ k = some (some b) → False := fun k o _ q1 q2 => hTb ⟨k, o, q1, q2⟩
        have h3' : c'.φ i = some (some x) := h3
        have h4' : c'.φ i' = some (some x) := h4
        rcases hs i _ ho1 with ⟨rfl, _⟩ | ⟨n1, p1⟩ <;> rcases hs i' _ ho2 with ⟨rfl, _⟩ | ⟨n2, p2⟩
        · rfl
        · rw [hφM] at h3'; cases h3'; exact (hno i' _ n2 p2 h4').elim
        · rw [hφM] at h4'; cases h4'; exact (hno i _ n1 p1 h3').elim
        · exact hrel.hr.inj i i' x (by rw [p1]; simp) (by rw [p2]; simp) h3' h4'
      · obtain ⟨k1, k2, k3⟩ := hrel.hr.gl x v hx
        have hxb : x ≠ b := fun e => by
          subst e
          obtain ⟨o9, ho9, hc9⟩ := cells_of_cell k1
          have ho9' : c'.w.heap[x]? = some o9 := ho9
          rw [hit.hb] at ho9'; cases ho9'; cases hc9
        refine ⟨k1, fun ht => (hTs x ht).elim k2 hxb, fun hx' => ?_⟩
        have h9 := k3 (by rw [hX']; exact .inl hx')
        rw [hY'] at h9
        simp only [if_neg hxb] at h9
        exact h9
    have hga : GoA c1 a1 (Cx.show c1 c' M (.row y MAPE cells)) ((a'.put (some tn) (.tuple #[.bool false])).put (some tok) (.bool false)) := by
      obtain ⟨l, p1, p2, p3⟩ := hg.ds
      refine ⟨hgs, l, by rw [put_defers, put_defers]; exact p1, p2, fun d hd => ?_⟩
      obtain ⟨D, q1, q2, q3⟩ := p3 d hd
      exact ⟨D, q1, by rw [← hw_ch]; exact q2, q3⟩
    refine ⟨Cx.show c1 c' M (.row y MAPE cells), ⟨putE (putE (E r vis).env (some tn) .any) (some tok) .any, app (E r vis).σ [(M, some (.row y MAPE cells))], (E r vis).nx⟩, rfl, (GoA.of hl1.grow hd1).trans hr.hr hrp.hr hga, fun id hid => ?_, ⟨hr7.size, fun t => vr_id sal (hr7.env t), hHs, ?_, fun id h1 h2 => hr7.fresh id h1 h2⟩, Nat.le_trans hm (hEn r vis), hdone r vis hvn hvis⟩
    · show c'.φ id = c.φ id
      rw [hlow id (by omega), hφ_ch, hlow1 id (by omega)]
    · show app c'.σ _ = app (E r vis).σ _
      rw [hrel.σ]
  · have hjn : j < n := by
      have := (List.getElem?_eq_some_iff.1 hj).1
      rw [Array.length_toList] at this
      omega
    obtain ⟨q1, q2⟩ := flatM_get hj
    obtain ⟨K, hK⟩ : ∃ K, cells[j * 2]? = some K := ⟨_, List.getElem?_eq_getElem (by omega)⟩
    obtain ⟨V, hV⟩ : ∃ V, cells[j * 2 + 1]? = some V := ⟨_, List.getElem?_eq_getElem (by omega)⟩
    have hrr : r ≤ r := Nat.le_refl _
    have hs : Side r c' w' := ⟨hgr.os, hgr.tape, hgr.output, hgr.size, fun k hk => by
      by_cases e9 : k = r
      · subst e9; exact .inr ⟨hrr, ob, hob1, hob2, fun _ => hob3⟩
      · exact .inl (hgr.block k hk (fun h => e9 (by cases h; rfl)))⟩
    have hg' : Grow ch (c'.at w') := hg.g.side hs (by rw [hw_ch, hre]; exact Nat.le_refl _)
    have hrel' := hrel.side hs
    have hcl' := hcell (c'.at w') hg' hlow
    obtain ⟨uk, k1, _, k3⟩ := hcl' _ _ hK
    obtain ⟨uv, l1, _, l3⟩ := hcl' _ _ hV
    have e5 : uk = e.key := by rw [hcs] at k1; simp only [List.getElem?_toArray] at k1; rw [q1] at k1; cases k1; rfl
    have e6 : uv = e.val := by rw [hcs] at l1; simp only [List.getElem?_toArray] at l1; rw [q2] at l1; cases l1; rfl
    rw [e5] at k3
    rw [e6] at l3
    refine hand_val (o := o_n) rfl hn3 hn2 (by rw [hn1]; intro c h; cases h) (hand_next hn1 hitv hrunN) ?_
    rw [wpOpsIn_cons]
    refine hand_val (o := o_x) (v := .bool true) rfl hx3 hx2 (by rw [hx1]; intro c h; cases h) (hand_ext hx1 (put_same _ _ _ (by rw [hrel.size]; exact hN.2.1)) rfl _) ?_
    simp only [wpOpsIn]
    have r1 := hrel'.set hN.2.1 (x := .any) (v := .tuple #[.bool true, e.key, e.val]) trivial
    have r2 := r1.set hN.2.2.1 (x := .any) (v := .bool true) trivial
    have r3 := r2.set hN.2.2.2.1 (x := .tup [K, V]) (v := .tuple #[e.key, e.val]) ⟨[e.key, e.val], rfl, _, _, rfl, k3, _, _, rfl, l3, rfl⟩
    have r4 := r3.set hN.2.2.2.2.1 (x := K) (v := e.key) k3
    have r5 := r4.set hN.2.2.2.2.2.1 (x := V) (v := e.val) l3
    have r6 := r5.set hN.2.2.2.2.2.2.1 (x := K) (v := e.key) k3
    have r7 := r6.set hN.2.2.2.2.2.2.2 (x := V) (v := e.val) l3
    show (Code.seq _ _).wpIn (FR ro) rm P _ _ _
    refine wpIn_seq (wpIn_cond_split (t := true) (put_same _ _ _ (by rw [put_size, hrel.size]; exact hN.2.2.1)) (fun _ => wpIn_skip ?_) (fun h => by cases h))
    simp only [Exit.then]
    subst hops2
    refine wpIn_block (wpIn_seq (wpIn_region ?_))
    show wpOpsIn _ _ _ _ _ [0, 1, 2, 3, 4] _ _
    have hitv2 : ((a'.put (some tn) (.tuple #[.bool true, e.key, e.val])).put (some tok) (.bool true)).eval (.tmp it) = .pointer (some ⟨r, 0, none⟩) := by
      rw [put_ne _ _ _ _ (Ne.symm hne.2.1), put_ne _ _ _ _ (Ne.symm hne.1)]; exact hitv
    rw [wpOpsIn_cons]
    refine hand_val (o := o_e) rfl he3 he2 (by rw [he1]; intro c h; cases h) (hand_entry he1 hitv2 hent) ?_
    rw [wpOpsIn_cons]
    refine hand_val (o := o_k) (v := e.key) rfl hk3 hk2 (by rw [hk1]; intro c h; cases h) (hand_ext hk1 (put_same _ _ _ (by rw [r2.size]; exact hN.2.2.2.1)) rfl _) ?_
    rw [wpOpsIn_cons]
    refine hand_val (o := o_v) (v := e.val) rfl hv3 hv2 (by rw [hv1]; intro c h; cases h) (hand_ext hv1 ((put_ne _ _ _ _ (Ne.symm hne.2.2.2.1)).trans (put_same _ _ _ (by rw [r2.size]; exact hN.2.2.2.1))) rfl _) ?_
    rw [wpOpsIn_cons]
    refine hand_val (o := o_a) (v := e.key) rfl ha3 ha2 (by rw [ha1]; intro c h; cases h) (hand_assign ha1 ((put_ne _ _ _ _ (Ne.symm hne.2.2.2.2.2.1)).trans (put_same _ _ _ (by rw [r3.size]; exact hN.2.2.2.2.1))) _) ?_
    rw [wpOpsIn_cons]
    refine hand_val (o := o_b) (v := e.val) rfl hb3 hb2 (by rw [hb1]; intro c h; cases h) (hand_assign hb1 ((put_ne _ _ _ _ (Ne.symm hne.2.2.2.2.2.2.2)).trans (put_same _ _ _ (by rw [r4.size]; exact hN.2.2.2.2.2.1))) _) ?_
    simp only [wpOpsIn]
    show body.wpIn (FR ro) rm P _ _ _
    have hB := hbody r vis j K V hjn hjv hvn hvl hK hV rm (c'.at w') _ r7 (hEn r vis)
    refine wpIn_mono hB ?_
    rintro ex a8 w8 ⟨c5, s5, rfl, ga5, low5, rel5, hm5, rfl, hwk⟩
    obtain ⟨c6, w6, g6, low6, rel6, hm6⟩ := hwk c5 a8 rel5 hm5
    simp only [Exit.inBlock]
    have hXr : ¬ (c'.at w').X r := fun h => by
      have h9 : c'.X r := h
      rw [hg.g.X, hX_ch] at h9
      rcases h9 with h9 | h9
      · have := hrp.hr.xlt r h9; omega
      · omega
    have hrw : ∃ o : Obj, (c'.at w').w.heap[r]? = some o ∧ o.isCells = false ∧ ∀ es' cl, o ≠ .map es' cl := by
      obtain ⟨s1, s2, s3, hr9, _⟩ := hit'.it
      exact ⟨_, hr9, rfl, fun _ _ h => by cases h⟩
    obtain ⟨o9, ho9, ho91, ho92⟩ := hrw
    have hTr : ¬ (c'.at w').T r := fun h => by
      rcases hrel'.hr.T_obj h with ⟨cs9, e9, f9, h9⟩ | ⟨⟨es9, cl9, h9⟩, _⟩
      · rw [ho9] at h9; cases h9; cases ho91
      · rw [ho9] at h9; cases h9; exact ho92 _ _ rfl
    have hbr : (c'.at w').w.heap[b]? = some (.map es clock) := hit'.hb
    have fr1 : c5.w.heap[r]? = w'.heap[r]? := ga5.g.stay r (Array.getElem?_eq_some_iff.1 ho9).1 hTr (fun h => absurd h hXr)
    have fr2 : c5.w.heap[b]? = w'.heap[b]? := ga5.g.stay b (Array.getElem?_eq_some_iff.1 hbr).1 hTb (fun _ => by
      show c'.Y b = .no
      rw [hg.g.Y, hY_ch]; simp)
    have hga7 : GoA ch a1 (c'.at w') (((((((a'.put (some tn) (.tuple #[.bool true, e.key, e.val])).put (some tok) (.bool true)).put (some te) (.tuple #[e.key, e.val])).put (some tk) e.key).put (some tv) e.val).put (some dk) e.key).put (some dv) e.val) := by
      obtain ⟨l, p1, p2, p3⟩ := hg.ds
      refine ⟨hg', l, by simp only [put_defers]; exact p1, p2, fun d hd => ?_⟩
      obtain ⟨D, z1, z2, z3⟩ := p3 d hd
      refine ⟨D, z1, z2, ?_⟩
      have hDr : D ≠ r := fun e9 => by
        obtain ⟨s1, s2, s3, hr9, _⟩ := hit.it
        rw [e9, hr9] at z3; cases z3
      exact (hgr.block D (Array.getElem?_eq_some_iff.1 z3).1 (fun h => hDr (by cases h; rfl))).trans z3
    have hvl2 : vis.length < n := by
      have h8 := nodup_len n (j :: vis) (List.nodup_cons.2 ⟨hjv, hvn⟩) (fun x hx => by
        rcases List.mem_cons.1 hx with rfl | hx
        · exact hjn
        · exact hvl x hx)
      simp only [List.length_cons] at h8
      omega
    refine ⟨cnt - 1, by omega, vis ++ [j], c6, w6, (hga7.trans hHR r7.hr ga5).trans hHR rel5.hr (GoA.of g6 rfl), fun id hid => ?_, rel6, ?_, ?_, ?_, ?_⟩
    · rw [low6 id hid, low5 id hid]; exact hlow id hid
    · exact hit'.frame fr2 fr1
    · rw [List.nodup_append]
      exact ⟨hvn, by simp, fun x hx z hz e9 => by rw [List.mem_singleton] at hz; subst hz; subst e9; exact hjv hx⟩
    · intro i hi
      rcases List.mem_append.1 hi with hi | hi
      · exact hvl i hi
      · rw [List.mem_singleton] at hi; rw [hi]; exact hjn
    · rw [List.length_append, List.length_singleton]
      omega
end Go.Proofs.YtonglhkiobibgaaGreatDoor
namespace Go.Proofs.YtonglhkiobibgaaGreatDoor
open Go.RowKit
variable {P : Program} {N m : Nat}
/-- the callee's names that live on -/
def SZ (out : List (Option (List AV))) (is : List Nat) (i : Nat) : Prop := (∃ cl, out[i]? = some (some cl)) ∨ i ∈ is
/-- what the caller calls them -/
def ρZ (ids : List Nat) (m : Nat) (is : List Nat) (nb i : Nat) : Nat := if i < m then (ids[i]?).getD 0 else rn (is.zipIdx nb) i
def cellsZ (S : Nat → Prop) (ρ : Nat → Nat) (c c' : List AV) : Prop := AlL S c ∧ c'.length = c.length ∧ ∀ (j : Nat) a', c'[j]? = some a' → ∃ a, c[j]? = some a ∧ Imp (ren ρ a) a'
def keepOkZ (S : Nat → Prop) (ρ : Nat → Nat) : List RW → List (Option (List AV)) → Nat → Heap → Prop
  | [], [], _, _ => True
  | x :: r, some c' :: q, k, σ => (∃ c, σ k = some (.row x.2.1 x.2.2.1 c) ∧ cellsZ S ρ c c') ∧ keepOkZ S ρ r q (k + 1) σ
  | _ :: r, none :: q, k, σ => keepOkZ S ρ r q (k + 1) σ
  | _, _, _, _ => False
theorem keepOkZ_get {S : Nat → Prop} {ρ : Nat → Nat} : ∀ {rws : List RW} {out : List (Option (List AV))} {k : Nat} {σ : Heap}, keepOkZ S ρ rws out k σ → out.length = rws.length ∧ ∀ (j : Nat) (x : RW) c', rws[j]? = some x → out[j]? = some (some c') → ∃ c, σ (k + j) = some (.row x.2.1 x.2.2.1 c) ∧ cellsZ S ρ c c'
  | [], [], k, σ, _ => ⟨rfl, fun j x c h => by simp at h⟩
  | x :: r, some c :: q, k, σ, h => by
    obtain ⟨h1, h2⟩ := h
    obtain ⟨g1, g2⟩ := keepOkZ_get h2
    refine ⟨by simp [g1], fun j x' c' e1 e2 => ?_⟩
    cases j with
    | zero => simp at e1 e2; subst e1; subst e2; exact h1
    | succ j => simp at e1 e2; have := g2 j x' c' e1 e2; rwa [show k + (j + 1) = k + 1 + j from by omega]
  | x :: r, none :: q, k, σ, h => by
    obtain ⟨g1, g2⟩ := keepOkZ_get (rws := r) (out := q) (k := k + 1) h
    refine ⟨by simp [g1], fun j x' c' e1 e2 => ?_⟩
    cases j with
    | zero => simp at e2
    | succ j => simp at e1 e2; have := g2 j x' c' e1 e2; rwa [show k + (j + 1) = k + 1 + j from by omega]
  | [], _ :: _, _, _, h => h.elim
  | _ :: _, [], _, _, h => by cases h
structure FinZ (rs : List RV) (s : ASt) (S : Nat → Prop) (ρ : Nat → Nat) (nb : Nat) (is : List Nat) (r : AV) (W : List (Nat × Option AObj)) : Prop where
  nodup : is.Nodup
  few : is.length ≤ 100000
  res : ∃ l, resL s rs = some l ∧ Al S (tupOf l) ∧ Imp (ren ρ (tupOf l)) r
  rows : ∃ ws : List (Bool × Nat × List AV), ws.length = is.length ∧ W = (ws.zipIdx nb).map (fun x => (x.2, some (AObj.row x.1.1 x.1.2.1 x.1.2.2))) ∧
    ∀ (k : Nat) i, is[k]? = some i → ∃ y e cells, s.σ i = some (.row y e cells) ∧ AlL S cells ∧ ∃ cells', ws[k]? = some (y, e, cells') ∧ cells'.length = cells.length ∧ ∀ (j : Nat) a', cells'[j]? = some a' → ∃ a, cells[j]? = some a ∧ Imp (ren ρ a) a'
/-- the caller's rows, by the callee's names -/
def inZ (rws : List RW) : List RW := rws.map fun x => (x.1, x.2.1, x.2.2.1, renL (rn ((rws.map (·.1)).zipIdx)) x.2.2.2)
/-- how a body ends whose first rows are the caller's -/
def EndsZ (N m : Nat) (rs : List RV) (rws : List RW) (out : List (Option (List AV))) (nb : Nat) (r : AV) (W : List (Nat × Option AObj)) (e : Exit) (s : ASt) : Prop := (e = .normal ∨ e = .ret) ∧ ∃ s', Weak N m s s' ∧ ∃ is : List Nat, (∀ i ∈ is, m ≤ i) ∧ keepOkZ (SZ out is) (ρZ (rws.map (·.1)) m is nb) rws out 0 s'.σ ∧ FinZ rs s' (SZ out is) (ρZ (rws.map (·.1)) m is nb) nb is r W
theorem EndsZ.weak {rs : List RV} {rws : List RW} {out : List (Option (List AV))} {nb : Nat} {r : AV} {W : List (Nat × Option AObj)} {e : Exit} {s s' : ASt} (hw : Weak N m s s') (h : EndsZ N m rs rws out nb r W e s') : EndsZ N m rs rws out nb r W e s := by
  obtain ⟨h1, s2, h2, h3⟩ := h
  exact ⟨h1, s2, hw.trans h2, h3⟩
theorem inZ_get {rws : List RW} {ids : List Nat} (hids : rws.map (·.1) = ids) {j : Nat} {x : RW} (h : rws[j]? = some x) : (inZ rws)[j]? = some (x.1, x.2.1, x.2.2.1, renL (rn ids.zipIdx) x.2.2.2) := by
  subst hids
  unfold inZ
  rw [List.getElem?_map, h]; rfl
theorem inZ_of {rws : List RW} {ids : List Nat} (hids : rws.map (·.1) = ids) {j : Nat} {x : RW} (h : (inZ rws)[j]? = some x) : ∃ x0, rws[j]? = some x0 ∧ x = (x0.1, x0.2.1, x0.2.2.1, renL (rn ids.zipIdx) x0.2.2.2) := by
  subst hids
  unfold inZ at h
  rw [List.getElem?_map, Option.map_eq_some_iff] at h
  obtain ⟨x0, h1, h2⟩ := h
  exact ⟨x0, h1, h2.symm⟩
/-- .. of a function whose body is shown in whatever way -/
theorem soundZA (m : Nat) {f : Nat} {fn : Func} {rs : List RV} {args : List AV} {nb : Nat} {r : AV} {W : List (Nat × Option AObj)} (rws : List RW) (out : List (Option (List AV))) (hf : P.funcs[f]? = some fn) (hb : fn.body = some (bodyOf fn)) (hn : enters P f = true) (hres : compRes P fn.results.toList = some rs) (hlen : args.length ≤ fn.ntmps) (hp : AlL (fun i => i ∈ rws.map (·.1)) args) (hnd : (rws.map (·.1)).Nodup)
    (hne : ∀ x ∈ rws, (x.2.2.2 ≠ [] ∨ x.2.2.1 = MAPE) ∧ AlL (fun i => i ∈ rws.map (·.1)) x.2.2.2 ∧ x.1 < nb) (hol : out.length = rws.length) (hm : m ≤ rws.length) (hkm : ∀ (k : Nat) cl, out[k]? = some (some cl) → k < m)
    (hA : AW none P fn.ntmps m (bodyOf fn) ⟨envA (renL (rn ((rws.map (·.1)).zipIdx)) args), heapOf (rowsIn 0 (inZ rws)), rws.length⟩ (EndsZ fn.ntmps m rs rws out nb r W)) : ASound P f args nb (rowsM rws (.ret r (outW rws out ++ W))) := by
  refine ⟨hn, fun c us r' R W' hrun hr hfr hv => ?_⟩
  obtain ⟨hσ, R', hrun2⟩ := rowsM_run hrun
  simp [AM.run] at hrun2
  obtain ⟨rfl, _, rfl⟩ := hrun2
  clear hrun
  generalize hids : rws.map (·.1) = ids at *
  have idk : ∀ (k : Nat) (x : RW), rws[k]? = some x → ids[k]? = some x.1 := fun k x hx => by rw [← hids, List.getElem?_map, hx]; rfl
  have same : ∀ (k k' : Nat) (x x' : RW), rws[k]? = some x → rws[k']? = some x' → x.1 = x'.1 → k = k' := by
    intro k k' x x' h1 h2 h3
    have e1 := idk k x h1
    have e2 := idk k' x' h2
    rw [h3] at e1
    have l1 : k < ids.length := (List.getElem?_eq_some_iff.1 e1).1
    exact (List.getElem?_inj l1 hnd).1 (e1.trans e2.symm)
  have blk : ∀ k : Nat, ∃ b : Nat, ∀ x : RW, rws[k]? = some x → c.φ x.1 = some (some b) ∧ ∃ cs, Blk c.w b x.2.2.1 cs x.2.2.2.length ∧ ((x.2.1 = true → c.B ≤ b) ∧ ¬ c.X b) ∧ x.2.2.2.length ≤ cs.size ∧ ∀ (j : Nat) a, x.2.2.2[j]? = some a → ∃ u, cs[j]? = some u ∧ u.oneCell' = true ∧ VR c a u := by
    intro k
    cases hx : rws[k]? with
    | none => exact ⟨0, fun x h => by cases h⟩
    | some x =>
      rcases hr.row x.1 _ _ _ (hσ k x hx) with ⟨_, g2⟩ | ⟨b, cs, g1, g2, g3, g4, g5⟩
      · exact ((hne x (List.mem_of_getElem? hx)).1.elim (absurd g2.1) (absurd · g2.2))
      · exact ⟨b, fun x' hx' => by cases hx'; exact ⟨g1, cs, g2, g3, g4, g5⟩⟩
  obtain ⟨β, hβ⟩ := Classical.axiomOfChoice blk
  have inβ : ∀ k, k < rws.length → ∃ x : RW, rws[k]? = some x := fun k hk => ⟨_, List.getElem?_eq_getElem hk⟩
  have ltk : ∀ (k : Nat) (x : RW), rws[k]? = some x → k < rws.length := fun k x hx => (List.getElem?_eq_some_iff.1 hx).1
  obtain ⟨Yx, Yx_pos, Yx_neg⟩ := c.yx
  have Tβ : ∀ k, k < rws.length → c.T (β k) := fun k hk => by
    obtain ⟨x, hx⟩ := inβ k hk
    exact ⟨x.1, _, hσ k x hx, (hβ k x hx).1⟩
  have βinj : ∀ k k', k < rws.length → k' < rws.length → β k = β k' → k = k' := by
    intro k k' h1 h2 h3
    obtain ⟨x, hx⟩ := inβ k h1
    obtain ⟨x', hx'⟩ := inβ k' h2
    refine same k k' x x' hx hx' (hr.inj x.1 x'.1 (β k) (by rw [hσ k x hx]; simp) (by rw [hσ k' x' hx']; simp) (hβ k x hx).1 (by rw [h3]; exact (hβ k' x' hx').1))
  generalize hc1 : (⟨c.w, c.B, fun k => if k < rws.length then some (some (β k)) else none, heapOf (rowsIn 0 (inZ rws)), fun b => (c.T b ∧ ∀ k, k < rws.length → b ≠ β k) ∨ c.X b, Yx⟩ : Cx) = c1
  have w1 : c1.w = c.w := by rw [← hc1]
  have B1 : c1.B = c.B := by rw [← hc1]
  have σ1 : c1.σ = heapOf (rowsIn 0 (inZ rws)) := by rw [← hc1]
  have φ1 : ∀ k, c1.φ k = if k < rws.length then some (some (β k)) else none := by rw [← hc1]; intro k; rfl
  have X1 : ∀ b, c1.X b ↔ ((c.T b ∧ ∀ k, k < rws.length → b ≠ β k) ∨ c.X b) := by rw [← hc1]; intro b; rfl
  have Y1 : c1.Y = Yx := by rw [← hc1]
  have T1 : ∀ b, c1.T b ↔ ∃ k, k < rws.length ∧ b = β k := by
    intro b
    constructor
    · rintro ⟨i, o, _, e2⟩
      rw [φ1] at e2
      split at e2
      · rename_i hk; cases e2; exact ⟨i, hk, rfl⟩
      · cases e2
    · rintro ⟨k, hk, rfl⟩
      obtain ⟨x, hx⟩ := inβ k hk
      exact ⟨k, _, by rw [σ1]; have := rowsIn_some (k := 0) (inZ_get hids hx); rwa [Nat.zero_add] at this, by rw [φ1, if_pos hk]⟩
  have Tlt : ∀ b, c.T b → b < c.w.heap.size := by
    rintro b ⟨i, ⟨y', e', cl⟩, e1, e2⟩
    rcases hr.row i y' e' cl e1 with ⟨g1, _⟩ | ⟨b', cs, g1, g2, _⟩
    · rw [e2] at g1; cases g1
    · rw [e2] at g1; cases g1; exact g2.lt
  have al : Alike (fun i => i ∈ ids) (rn ids.zipIdx) c c1 := by
    refine ⟨w1, fun i x hi hx => ?_, fun fr b _ ho => ⟨by rw [B1]; exact ho.1, ?_, ?_⟩, fun k b n ho => ⟨by rw [X1]; exact .inr ho.1, ?_, ?_⟩⟩
    · obtain ⟨k, hk⟩ := List.mem_iff_getElem?.1 hi
      have hm : (i, k) ∈ ids.zipIdx := by rw [List.mem_iff_getElem?]; exact ⟨k, by rw [List.getElem?_zipIdx, hk]; simp⟩
      have e := rn_mem hm (by rw [List.zipIdx_map_fst]; exact hnd)
      have hkl : k < rws.length := by rw [← hids] at hk; have := (List.getElem?_eq_some_iff.1 hk).1; simpa using this
      obtain ⟨y, hy⟩ := inβ k hkl
      have := idk k y hy
      rw [hk] at this
      cases this
      rw [e, φ1, if_pos hkl, ← (hβ k y hy).1]
      exact hx
    · rw [T1]; rintro ⟨k, hk, rfl⟩; exact ho.2.1 (Tβ k hk)
    · rw [X1]; rintro (h9 | h9)
      · exact ho.2.1 h9.1
      · exact ho.2.2 h9
    · rw [T1]; rintro ⟨k, hk, rfl⟩; exact ho.2.1 (Tβ k hk)
    · rw [Y1, Yx_pos _ ho.1, w1]; exact ho.2.2
  have hv1 : VRt c1 (renL (rn ids.zipIdx) args) us := VRt.ren al hp hv
  have hul := (VRt_iff.1 hv1).1
  have hx1 : ∀ b, c1.X b → b < c1.w.heap.size := by
    intro b hb
    rw [w1]
    rcases (X1 b).1 hb with h9 | h9
    · exact Tlt b h9.1
    · exact hr.xlt b h9
  have hr1 : HR c1 := by
    refine ⟨fun i y' e' cl hs => ?_, fun i i' b e1 e2 e3 e4 => ?_, by rw [B1, w1]; exact hr.base, hx1, hr.gl.to fun b _ h2 h3 => ⟨by rw [w1], by rw [T1]; rintro ⟨k, hk, rfl⟩; exact h2 (Tβ k hk), fun _ => by
      rw [Y1]
      by_cases hx : c.X b
      · rw [Yx_pos _ hx]; exact h3 hx
      · exact Yx_neg _ hx⟩⟩
    · rw [σ1] at hs
      obtain ⟨j, xx, e1, e22, e3⟩ := rowsIn_get hs
      obtain ⟨x, e2, rfl⟩ := inZ_of hids e22
      clear e22
      cases e3
      rw [Nat.zero_add] at e1
      subst e1
      obtain ⟨g1, cs, g2, g3, g4, g5⟩ := hβ i x e2
      refine .inr ⟨β i, cs, by rw [φ1, if_pos (ltk i x e2)], by rw [w1]; exact g2.to (by rw [renL_map]; simp), ⟨by rw [B1]; exact g3.1, ?_⟩, by rw [renL_map]; simpa using g4, fun j a hj => ?_⟩
      · rw [X1]
        rintro (h9 | h9)
        · exact h9.2 i (ltk i x e2) rfl
        · exact g3.2 h9
      · rw [renL_map, List.getElem?_map, Option.map_eq_some_iff] at hj
        obtain ⟨a0, hj, rfl⟩ := hj
        obtain ⟨u, k1, k2, k3⟩ := g5 j a0 hj
        exact ⟨u, k1, k2, VR.ren al (AlL_iff.1 (hne x (List.mem_of_getElem? e2)).2.1 a0 (List.mem_of_getElem? hj)) k3⟩
    · rw [φ1] at e3 e4
      split at e3
      · rename_i h9
        split at e4
        · rename_i h8
          cases e3
          exact βinj i i' h9 h8 (by injection e4 with e4; injection e4 with e4; exact e4.symm)
        · cases e4
      · cases e3
  have hrel : RelR fn.ntmps rws.length No c1 ⟨envA (renL (rn ids.zipIdx) args), heapOf (rowsIn 0 (inZ rws)), rws.length⟩ { tmps := us.toArray ++ Array.replicate (fn.ntmps - us.toArray.size) undef, defers := [] } := by
    have hlen' : (renL (rn ids.zipIdx) args).length = args.length := by rw [renL_map]; simp
    refine ⟨by simp; omega, fun t => ?_, hr1, σ1, fun i hi hne => ?_⟩
    · simp only [envA]
      cases ha : (renL (rn ids.zipIdx) args)[t]? with
      | none => trivial
      | some x =>
        obtain ⟨u, e1, e2⟩ := (VRt_iff.1 hv1).2 t x ha
        have hlt : t < us.length := by rw [List.getElem?_eq_some_iff] at e1; exact e1.1
        have : (us.toArray ++ Array.replicate (fn.ntmps - us.toArray.size) undef).getD t undef = u := by
          rw [Array.getD_eq_getD_getElem?, Array.getElem?_append_left (by simpa using hlt)]
          simp [e1]
        rw [this]; exact e2
    · rw [φ1, if_neg (by omega)] at hne; exact absurd rfl hne
  have hw := hA 1 c1 _ hrel hm
  rw [← w1]
  refine calls_of_AW hf hb (wpIn_mono hw ?_)
  rintro e a' w' ⟨c20, s2, rfl, ga, m2, hr20, n2, he, s3, hwk, is, hge, hko, fin⟩
  refine ⟨he, c20, rfl, ga, fun W2 hsd => ?_⟩
  have g2 : Grow c1 (c20.at W2) := ga.g.side hsd (Nat.le_refl _)
  have hr2 := hr20.side hsd
  have w2 : (c20.at W2).w = W2 := rfl
  have m2 : ∀ id, id < m → (c20.at W2).φ id = c1.φ id := m2
  generalize c20.at W2 = c2 at *
  subst w2
  obtain ⟨c3, k1, k2, m3, hr3, _⟩ := hwk c2 a' hr2 n2
  have g3 : Grow c1 c3 := g2.trans k2
  have φ3 : ∀ k, k < m → c3.φ k = some (some (β k)) := fun k hk => by rw [m3 k hk, m2 k hk, φ1, if_pos (Nat.lt_of_lt_of_le hk hm)]
  obtain ⟨_, hkeep⟩ := keepOkZ_get hko
  rw [hids] at hkeep fin
  have σ3 : ∀ (k : Nat) (x : RW) cl, rws[k]? = some x → out[k]? = some (some cl) → k ∉ is ∧ ∃ c0, c3.σ k = some (.row x.2.1 x.2.2.1 c0) ∧ cellsZ (SZ out is) (ρZ ids m is nb) c0 cl := fun k x cl h1 h2 => by
    obtain ⟨c0, h3, h4⟩ := hkeep k x cl h1 h2
    rw [Nat.zero_add] at h3
    refine ⟨fun h5 => ?_, c0, by rw [hr3.σ]; exact h3, h4⟩
    have := hge k h5
    have := hkm k cl h2
    omega
  obtain ⟨l, l1, l2, l3⟩ := fin.res
  obtain ⟨ws, v1, v2, v3⟩ := fin.rows
  obtain ⟨u, hu1, hu2⟩ := results_run hr3 hres l1
  rw [k1] at hu1
  have hz : ∀ (k : Nat) i, is[k]? = some i → rn (is.zipIdx nb) i = nb + k := by
    intro k i hk
    have hm : (i, nb + k) ∈ is.zipIdx nb := by
      rw [List.mem_iff_getElem?]
      exact ⟨k, by rw [List.getElem?_zipIdx, hk]; rfl⟩
    exact rn_mem hm (by rw [List.zipIdx_map_fst]; exact fin.nodup)
  generalize hd : (⟨c3.w, c.B, fun id => if nb ≤ id then (match is[id - nb]? with | some i => c3.φ i | none => c.φ id) else c.φ id, app c.σ (outW rws out ++ W), c.X, c.Y⟩ : Cx) = d
  have dw : d.w = c3.w := by rw [← hd]
  have dB : d.B = c.B := by rw [← hd]
  have dX : d.X = c.X := by rw [← hd]
  have dY : d.Y = c.Y := by rw [← hd]
  have dσ : ∀ i, d.σ i = if nb ≤ i then (match ws[i - nb]? with | some x => some (.row x.1 x.2.1 x.2.2) | none => app c.σ (outW rws out) i) else app c.σ (outW rws out) i := by
    intro i
    rw [← hd]
    show app c.σ (outW rws out ++ W) i = _
    rw [← app_append, v2, app_rows]
    try rfl
  have dφ : ∀ i, d.φ i = if nb ≤ i then (match is[i - nb]? with | some i => c3.φ i | none => c.φ i) else c.φ i := by rw [← hd]; intro id; rfl
  have stay : ∀ b, b < c.w.heap.size → (∀ k, k < rws.length → b ≠ β k) → (c.X b → c.Y b = .no) → d.w.heap[b]? = c.w.heap[b]? := fun b hb hb0 hy => by
    rw [dw]
    have := g3.stay b (by rw [w1]; exact hb) (by rw [T1]; rintro ⟨k, hk, e⟩; exact hb0 k hk e) (fun _ => by
      rw [Y1]
      by_cases hx : c.X b
      · rw [Yx_pos _ hx]; exact hy hx
      · exact Yx_neg _ hx)
    rw [this, w1]
  have size : c.w.heap.size ≤ d.w.heap.size := by rw [dw, ← w1]; exact g3.size
  have dnew : ∀ (k : Nat) i, is[k]? = some i → d.φ (nb + k) = c3.φ i := fun k i hk => by
    rw [dφ, if_pos (by omega), Nat.add_sub_cancel_left, hk]
  have dold : ∀ i, (¬ nb ≤ i ∨ is[i - nb]? = none) → d.φ i = c.φ i ∧ d.σ i = app c.σ (outW rws out) i := by
    intro i hi
    rw [dφ, dσ]
    by_cases h1 : nb ≤ i
    · have h2 := hi.resolve_left (by simpa using h1)
      have h3 : ws[i - nb]? = none := by rw [List.getElem?_eq_none_iff] at h2 ⊢; omega
      rw [if_pos h1, if_pos h1, h2, h3]; exact ⟨rfl, rfl⟩
    · rw [if_neg h1, if_neg h1]; exact ⟨rfl, rfl⟩
  have split2 : ∀ i, (nb ≤ i ∧ i - nb < is.length) ∨ (¬ nb ≤ i ∨ is[i - nb]? = none) := by
    intro i
    by_cases h2 : nb ≤ i
    · by_cases h3 : i - nb < is.length
      · exact .inl ⟨h2, h3⟩
      · right; right; rw [List.getElem?_eq_none_iff]; omega
    · exact .inr (.inl h2)
  have names : Names c d := by
    intro i x hx
    rcases split2 i with h1 | h1
    · rcases hfr i h1.1 with h2 | h2
      · rw [h2] at hx; cases hx
      · have := fin.few; omega
    · rw [(dold i h1).1]; exact hx
  have did : ∀ (k : Nat) (x : RW), rws[k]? = some x → d.φ x.1 = some (some (β k)) := fun k x hx => names _ _ (hβ k x hx).1
  have dlive : ∀ i o, d.σ i = some o → (i ∉ ids ∧ c.σ i = some o ∧ d.φ i = c.φ i) ∨ (∃ (k : Nat) (x : RW) (cl : List AV), rws[k]? = some x ∧ x.1 = i ∧ out[k]? = some (some cl) ∧ o = .row x.2.1 x.2.2.1 cl) ∨ ∃ k i' y e cells, is[k]? = some i' ∧ i = nb + k ∧ c3.σ i' = some (.row y e cells) ∧ AlL (SZ out is) cells ∧ ∃ cells', o = .row y e cells' ∧ cells'.length = cells.length ∧ ∀ (j : Nat) a', cells'[j]? = some a' → ∃ a, cells[j]? = some a ∧ Imp (ren (ρZ ids m is nb) a) a' := by
    intro i o ho
    rcases split2 i with h1 | h1
    · right; right
      have hk : is[i - nb]? = some is[i - nb] := List.getElem?_eq_getElem h1.2
      obtain ⟨y2, e2, cl2, e1, e3, cells2, e4, e5⟩ := v3 _ _ hk
      rw [dσ, if_pos h1.1, e4] at ho
      simp at ho
      exact ⟨i - nb, _, y2, e2, cl2, hk, by omega, by rw [hr3.σ]; exact e1, e3, cells2, ho.symm, e5⟩
    · have h2 := dold i h1
      rw [h2.2] at ho
      rcases outW_app (σ := c.σ) (i := i) hol (by rw [hids]; exact hnd) with ⟨k, x, q, e1, e2, e3, e4⟩ | ⟨e1, e2⟩
      · rw [e4] at ho
        cases q with
        | none => cases ho
        | some cl => cases ho; exact .inr (.inl ⟨k, x, cl, e1, e2, e3, rfl⟩)
      · rw [e2] at ho
        exact .inl ⟨by rw [← hids]; exact e1, ho, h2.1⟩
  have newblk : ∀ (k : Nat) i y e cells b, is[k]? = some i → c3.σ i = some (.row y e cells) → c3.φ i = some (some b) → c.w.heap.size ≤ b ∨ ∃ k, k < rws.length ∧ b = β k ∧ ∀ cl, out[k]? ≠ some (some cl) := by
    intro k0 i y2 e2 cl2 b hi e1 e3
    rcases g3.held b ⟨i, _, e1, e3⟩ with h9 | h9
    · obtain ⟨k, hk, rfl⟩ := (T1 b).1 h9
      refine .inr ⟨k, hk, rfl, fun cl hcl => ?_⟩
      obtain ⟨x, hx⟩ := inβ k hk
      obtain ⟨q2, c0, q1, _⟩ := σ3 k x cl hx hcl
      have := hr3.hr.inj i k (β k) (by rw [e1]; simp) (by rw [q1]; simp) e3 (φ3 k (hkm k cl hcl))
      exact q2 (by rw [← this]; exact List.mem_of_getElem? hi)
    · rw [← w1]; exact .inl h9
  have notin : ∀ (i : Nat) o b, i ∉ ids → c.σ i = some o → c.φ i = some (some b) → ∀ k, k < rws.length → b ≠ β k := by
    rintro i o b h1 h2 h3 k hk rfl
    obtain ⟨x, hx⟩ := inβ k hk
    have := hr.inj i x.1 (β k) (by rw [h2]; simp) (by rw [hσ k x hx]; simp) h3 (hβ k x hx).1
    exact h1 (by rw [this]; exact List.mem_of_getElem? (idk k x hx))
  have dT : ∀ b, d.T b → (c.T b ∨ c.w.heap.size ≤ b) ∧ ((c.T b ∧ ∀ k, k < rws.length → b ≠ β k) ∨ c3.T b) := by
    rintro b ⟨i, o, e1, e2⟩
    rcases dlive i o e1 with ⟨f0, f1, f2⟩ | ⟨k, x, cl, f1, rfl, f3, _⟩ | ⟨k, i', y2, e3, cl2, f1, rfl, f3, _, _⟩
    · rw [f2] at e2
      exact ⟨.inl ⟨i, o, f1, e2⟩, .inl ⟨⟨i, o, f1, e2⟩, notin i o b f0 f1 e2⟩⟩
    · rw [did k x f1] at e2; cases e2
      obtain ⟨_, c0, q1, _⟩ := σ3 k x cl f1 f3
      exact ⟨.inl (Tβ k (ltk k x f1)), .inr ⟨k, _, q1, φ3 k (hkm k cl f3)⟩⟩
    · rw [dnew k i' f1] at e2
      refine ⟨?_, .inr ⟨i', _, f3, e2⟩⟩
      rcases newblk k i' y2 e3 cl2 b f1 f3 e2 with h9 | ⟨k', hk', rfl, _⟩
      · exact .inr h9
      · exact .inl (Tβ k' hk')
  have grow : Grow c d := by
    refine ⟨dX, dB, ?_, ?_, ?_, size, fun b hb ht hy => stay b hb (fun k hk e1 => ht (by rw [e1]; exact Tβ k hk)) hy, fun b hb => (dT b hb).1, fun b cs e f hb => (by have := g3.shape b cs e f (by rw [w1]; exact hb); rw [dw]; exact this), dY, fun b k sz h1 h2 h3 h4 h5 => (by
      have := g3.wild b k sz (by rw [T1]; rintro ⟨k, hk, rfl⟩; exact h1 (Tβ k hk)) (by rw [X1]; exact .inr h2) (by rw [Y1, Yx_pos _ h2]; exact h3) h4 (by rw [w1]; exact h5)
      rw [dw]; exact this)⟩
    · rw [dw, g3.out, w1]
    · rw [dw, g3.osE, w1]
    · rw [dw, g3.tape, w1]
  have al3 : Alike (SZ out is) (ρZ ids m is nb) c3 d := by
    refine ⟨dw, fun i x hi hx => ?_, fun fr b hb ho => ⟨fun hf' => ?_, fun ht => ?_, ?_⟩, ?_⟩
    · rcases hi with ⟨cl, hcl⟩ | hi
      · have him := hkm i cl hcl
        obtain ⟨x0, hx0⟩ := inβ i (Nat.lt_of_lt_of_le him hm)
        rw [φ3 i him] at hx
        unfold ρZ
        rw [if_pos him, idk i x0 hx0]
        rw [← hx]; exact did i x0 hx0
      · have him := hge i hi
        obtain ⟨k, hk⟩ := List.mem_iff_getElem?.1 hi
        unfold ρZ
        rw [if_neg (by omega), hz k i hk, dnew k i hk]; exact hx
    · rw [dB, ← B1, ← g3.B]; exact ho.1 hf'
    · rcases (dT b ht).2 with h9 | h9
      · exact ho.2.2 (by rw [g3.X, X1]; exact .inl h9)
      · exact ho.2.1 h9
    · rw [dX]; intro h9; exact ho.2.2 (by rw [g3.X, X1]; exact .inr h9)
    · intro k b n ho
      obtain ⟨o1, o2, o3, o4, o5⟩ := ho
      rw [g3.Y, Y1] at o3
      have hx : c.X b := by
        by_cases hx : c.X b
        · exact hx
        · rw [Yx_neg _ hx] at o3; rcases o4 with rfl | rfl <;> cases o3
      rw [Yx_pos _ hx] at o3
      refine ⟨by rw [dX]; exact hx, fun ht => ?_, by rw [dY]; exact o3, o4, by rw [dw]; exact o5⟩
      rcases (dT b ht).2 with h9 | h9
      · exact hr.TX h9.1 hx
      · exact o2 h9
  have hrd : HR d := by
    refine ⟨fun i y2 e2 cl hs => ?_, fun i i' b e1 e2 e3 e4 => ?_, by rw [dB]; exact Nat.le_trans hr.base size, fun b hb => by rw [dX] at hb; exact Nat.lt_of_lt_of_le (hr.xlt b hb) size, hr.gl.grow grow⟩
    · rcases dlive i _ hs with ⟨f0, f1, f2⟩ | ⟨k, x, cl', f1, rfl, f3, f4⟩ | ⟨k, i', y', e', cells0, f1, rfl, f3, f4, cells2, f5, f6, f7⟩
      · rcases hr.row i y2 e2 cl f1 with ⟨g1, g2⟩ | ⟨b, cs, g1, g2, g3', g4, g5⟩
        · exact .inl ⟨by rw [f2]; exact g1, g2⟩
        · refine .inr ⟨b, cs, by rw [f2]; exact g1, g2.of (stay b g2.lt (notin i _ b f0 f1 g1) (fun h9 => absurd h9 g3'.2)), ⟨by rw [dB]; exact g3'.1, by rw [dX]; exact g3'.2⟩, g4, fun j x hj => ?_⟩
          obtain ⟨q, k1, k2, k3⟩ := g5 j x hj
          exact ⟨q, k1, k2, k3.mono grow names⟩
      · cases f4
        obtain ⟨_, c0, q1, q3, q4, q5⟩ := σ3 k x _ f1 f3
        rcases hr3.hr.row k _ _ _ q1 with ⟨g1, _⟩ | ⟨b, cs, g1, g2, g3', g4, g5⟩
        · rw [φ3 k (hkm k _ f3)] at g1; cases g1
        · rw [φ3 k (hkm k _ f3)] at g1; cases g1
          obtain ⟨_, _, _, z3, _⟩ := hβ k x f1
          refine .inr ⟨β k, cs, did k x f1, by rw [dw]; exact g2.to q4, ⟨fun hy => by rw [dB, ← B1, ← g3.B]; exact g3'.1 hy, by rw [dX]; exact z3.2⟩, by omega, fun j x hj => ?_⟩
          obtain ⟨x', hx', hi'⟩ := q5 j x hj
          obtain ⟨q, m1, m2, m3⟩ := g5 j x' hx'
          exact ⟨q, m1, m2, hi' _ _ (VR.ren al3 (AlL_iff.1 q3 x' (List.mem_of_getElem? hx')) m3)⟩
      · cases f5
        rcases hr3.hr.row i' y2 e2 cells0 f3 with ⟨g1, g2⟩ | ⟨b, cs, g1, g2, g3', g4, g5⟩
        · exact .inl ⟨by rw [dnew k i' f1]; exact g1, by rw [g2.1] at f6; exact List.eq_nil_of_length_eq_zero f6, g2.2⟩
        · refine .inr ⟨b, cs, by rw [dnew k i' f1]; exact g1, by rw [dw]; exact g2.to f6, ⟨fun hy => by rw [dB, ← B1, ← g3.B]; exact g3'.1 hy, fun hx => ?_⟩, by omega, fun j x hj => ?_⟩
          · rw [dX] at hx; exact g3'.2 (by rw [g3.X, X1]; exact .inr hx)
          · obtain ⟨x', hx', hi'⟩ := f7 j x hj
            obtain ⟨q, m1, m2, m3⟩ := g5 j x' hx'
            exact ⟨q, m1, m2, hi' _ _ (VR.ren al3 (AlL_iff.1 f4 x' (List.mem_of_getElem? hx')) m3)⟩
    · obtain ⟨o1, ho1⟩ := Option.ne_none_iff_exists'.1 e1
      obtain ⟨o2, ho2⟩ := Option.ne_none_iff_exists'.1 e2
      have old : ∀ j o, d.σ j = some o → (∃ o', c.σ j = some o' ∧ d.φ j = c.φ j ∧ (j ∉ ids ∨ ∃ (k : Nat) (x : RW) (cl : List AV), rws[k]? = some x ∧ x.1 = j ∧ out[k]? = some (some cl))) ∨ ∃ k i' y e cells, is[k]? = some i' ∧ j = nb + k ∧ c3.σ i' = some (.row y e cells) := by
        intro j o hj
        rcases dlive j o hj with ⟨f0, f1, f2⟩ | ⟨k, x, cl, f1, rfl, f3, _⟩ | ⟨k, i', y', e', cells0, f1, f2, f3, _⟩
        · exact .inl ⟨o, f1, f2, .inl f0⟩
        · exact .inl ⟨_, hσ k x f1, by rw [did k x f1, (hβ k x f1).1], .inr ⟨k, x, cl, f1, rfl, f3⟩⟩
        · exact .inr ⟨k, i', y', e', cells0, f1, f2, f3⟩
      have oldnew : ∀ j o b, c.σ j = some o → c.φ j = some (some b) → (j ∉ ids ∨ ∃ (k : Nat) (x : RW) (cl : List AV), rws[k]? = some x ∧ x.1 = j ∧ out[k]? = some (some cl)) → ∀ (k : Nat) i y e cells, is[k]? = some i → c3.σ i = some (.row y e cells) → c3.φ i = some (some b) → False := by
        intro j o b h1 h2 h3 k i y e cells h4 h5 h6
        rcases newblk k i y e cells b h4 h5 h6 with h9 | ⟨k', hk', rfl, h8⟩
        · have := Tlt b ⟨j, _, h1, h2⟩
          omega
        · rcases h3 with h3 | ⟨k2, x, cl, q1, rfl, q3⟩
          · exact notin j o (β k') h3 h1 h2 k' hk' rfl
          · have e9 := (hβ k2 x q1).1
            rw [h2] at e9
            injection e9 with e9
            injection e9 with e9
            have := βinj k' k2 hk' (ltk k2 x q1) e9
            rw [this] at h8
            exact h8 cl q3
      rcases old i o1 ho1 with ⟨_, f1, f2, f9⟩ | ⟨k, j, y2, e5, cl, f1, rfl, f3⟩ <;> rcases old i' o2 ho2 with ⟨_, j1, j2, j9⟩ | ⟨k', j', y', e', cl', j1, rfl, j3⟩
      · exact hr.inj i i' b (by rw [f1]; simp) (by rw [j1]; simp) (by rw [← f2]; exact e3) (by rw [← j2]; exact e4)
      · rw [dnew k' j' j1] at e4
        exact (oldnew i _ b f1 (by rw [← f2]; exact e3) f9 k' j' _ _ _ j1 j3 e4).elim
      · rw [dnew k j f1] at e3
        exact (oldnew i' _ b j1 (by rw [← j2]; exact e4) j9 k j _ _ _ f1 f3 e3).elim
      · rw [dnew k j f1] at e3
        rw [dnew k' j' j1] at e4
        have := hr3.hr.inj j j' b (by rw [f3]; simp) (by rw [j3]; simp) e3 e4
        subst this
        have k1 := hz k j f1
        have k2 := hz k' j j1
        omega
  have T : Then c nb (outW rws out ++ W) d := ⟨grow, names, hrd, by rw [← hd], fun i hi => by
    rcases split2 i with h1 | h1
    · right; have := fin.few; omega
    · left
      rw [(dold i h1).1] at hi
      exact hi⟩
  have fin' : ∃ v, (results fn a'.tmps).run P c2.w = .ok v c2.w ∧ ∃ v' d, Ending.returned v = .returned v' ∧ d.w = c2.w ∧ VR d r v' ∧ Then c nb (outW rws out ++ W) d := by
    refine ⟨u, hu1, u, d, rfl, by rw [dw]; exact k1, ?_, T⟩
    exact l3 _ _ (VR.ren al3 l2 hu2)
  exact fin'
theorem FnOk.soundZ (m : Nat) {f : Nat} {ac : AC} {rs : List RV} {args : List AV} {nb : Nat} {r : AV} {W : List (Nat × Option AObj)} (rws : List RW) (out : List (Option (List AV))) (h : FnOk P f N ac rs) (hlen : args.length ≤ N) (hp : AlL (fun i => i ∈ rws.map (·.1)) args) (hnd : (rws.map (·.1)).Nodup)
    (hne : ∀ x ∈ rws, (x.2.2.2 ≠ [] ∨ x.2.2.1 = MAPE) ∧ AlL (fun i => i ∈ rws.map (·.1)) x.2.2.2 ∧ x.1 < nb) (hol : out.length = rws.length) (hm : m ≤ rws.length) (hkm : ∀ (k : Nat) cl, out[k]? = some (some cl) → k < m)
    (hw : wpC P N m ac ⟨envA (renL (rn ((rws.map (·.1)).zipIdx)) args), heapOf (rowsIn 0 (inZ rws)), rws.length⟩ (EndsZ N m rs rws out nb r W)) : ASound P f args nb (rowsM rws (.ret r (outW rws out ++ W))) := by
  obtain ⟨fn, hf, hb, hn, rfl, hcc, hres⟩ := h.h
  exact soundZA m rws out hf hb hn hres hlen hp hnd hne hol hm hkm (wpC_sound hw (bodyOf fn) hcc none (.inl rfl))
end Go.Proofs.YtonglhkiobibgaaGreatDoor
namespace Go.Proofs.YtonglhkiobibgaaGreatDoor
open Go.RowKit
set_option maxRecDepth 100000
def cSeq1 : Code → Code | .seq a _ => a | c => c
def cSeq2 : Code → Code | .seq _ b => b | c => c
def cBlk : Code → Code | .block _ b => b | c => c
def cLoop : Code → Code | .loop b => b | c => c
def cOps : Code → Array Oper | .region _ ops _ => ops | _ => #[]
section
variable {P : Program} {N m : Nat}
theorem setCell_same {w : World} {b o : Nat} {v : Value} {cs : Array Value} {e : TypeId} {f : Nat × Nat} (hb : w.heap[b]? = some (.cells cs e f)) (hv : cs[o]? = some v) : w.setCell ⟨b, o, none⟩ v = w := by
  have h : (w.setCell ⟨b, o, none⟩ v).heap = w.heap := by
    apply Array.ext_getElem?
    intro k
    show (w.heap.modify b _)[k]? = w.heap[k]?
    rw [Array.getElem?_modify]
    split
    · rename_i e
      subst e
      rw [hb]
      obtain ⟨ho, hv'⟩ := Array.getElem?_eq_some_iff.1 hv
      simp only [Option.map_some]
      congr 1
      show Obj.cells (cs.setIfInBounds o v) e f = _
      congr 1
      apply Array.ext_getElem?
      intro i
      rw [Array.getElem?_setIfInBounds]
      split
      · rename_i e; subst e; simp [ho, hv']
      · rfl
    · rfl
  cases w
  simp only [World.setCell] at h ⊢
  congr 1
theorem setCells_same {w : World} {b : Nat} {cs : Array Value} {e : TypeId} {f : Nat × Nat} (hb : w.heap[b]? = some (.cells cs e f)) : ∀ (vs : List Value) (o : Nat), (∀ (j : Nat) v, vs[j]? = some v → cs[o + j]? = some v) → w.setCells b o vs = w
  | [], _, _ => rfl
  | v :: r, o, h => by
    rw [World.setCells, setCell_same hb (by have := h 0 v rfl; rwa [Nat.add_zero] at this)]
    exact setCells_same hb r (o + 1) (fun j v hj => by have := h (j + 1) v (by simpa using hj); rwa [show o + 1 + j = o + (j + 1) from by omega])
/-- a region whose last operations are met by hand -/
theorem AW.regTail {ro : Option Nat} {id : Nat} {ops : Array Oper} {pre tail : List Oper} {rs : List RO} {st : ASt} {Q : Exit → ASt → Prop} (hops : ops.toList = pre ++ tail) (hc : compROs P ops N pre [] = some rs)
    (hrun : runL P st.nx rs 0 st [] fun s _ => ∀ (n : Nat) (c : Cx) (a : Act) (R : Exit → Act → World → Prop), RelR N st.nx (fun j => j < rs.length) c s a → (∀ a' c' st', GoA c a c' a' → (∀ id, id < m → c'.φ id = c.φ id) → RelR N st'.nx No c' st' a' → m ≤ st'.nx → Q .normal st' → R .normal a' c'.w) → wpOpsIn (FR ro) n P ops R (List.range' rs.length tail.length) a c.w) :
    AW ro P N m (.region id ops false) st Q := fun n c a hr hm => by
  obtain ⟨e1, e2⟩ := compROs_spec (k := 0) hc (fun j o hj => by rw [Nat.zero_add, ← Array.getElem?_toList, hops, List.getElem?_append_left (List.getElem?_eq_some_iff.1 hj).1]; exact hj) (fun j hj q hq => by simp at hq)
  obtain ⟨tr, f, t1, t2, t3, t4, t5⟩ := runL_trace e2 hrun
  have hsz : ops.size = tr.length + tail.length := by rw [← Array.length_toList, hops, List.length_append, t1, e1]
  refine wpIn_region ?_
  rw [List.range_eq_range', hsz, List.range'_append_1.symm, Nat.zero_add]
  refine text_part (f := f) tr 0 st c a t2 t3 ⟨hr.size, hr.env, hr.hr, hr.σ, fun id h1 h2 => by obtain ⟨j, h3, _⟩ := hr.fresh id h1 h2; exact h3.elim⟩ ?_
  intro c1 a1 hl1 hd1 hrp
  rw [Nat.zero_add, t1] at hrp
  rw [t1]
  refine t4 n c1 a1 _ hrp ?_
  intro a' c' st' h2 h3 h4 h5 h6
  exact ⟨c', st', rfl, (GoA.of hl1.grow hd1).trans hr.hr hrp.hr h2, fun id hid => (h3 id hid).trans (hl1.low id (by omega)), h4, h5, h6⟩
/-- a body's end whose two first rows are the caller's, both kept -/
theorem EndsZ.keep2 {nb : Nat} {rs : List RV} {x0 x1 : RW} {c0 c1 c0' c1' : List AV} {r r0 : AV} {e : Exit} {s : ASt} (he : e = .normal ∨ e = .ret) (h : (resL s rs).map tupOf = some r0) (h0 : s.σ 0 = some (.row x0.2.1 x0.2.2.1 c0)) (h1 : s.σ 1 = some (.row x1.2.1 x1.2.2.1 c1))
    (a0 : AlL (fun i => i = 0 ∨ i = 1) c0) (a1 : AlL (fun i => i = 0 ∨ i = 1) c1) (e0 : renL (ρZ [x0.1, x1.1] 2 [] nb) c0 = c0') (e1 : renL (ρZ [x0.1, x1.1] 2 [] nb) c1 = c1') (ha : Al (fun i => i = 0 ∨ i = 1) r0) (hr : Imp (ren (ρZ [x0.1, x1.1] 2 [] nb) r0) r) : EndsZ N 2 rs [x0, x1] [some c0', some c1'] nb r [] e s := by
  obtain ⟨l, h2, h3⟩ := Option.map_eq_some_iff.1 h
  have hS : ∀ i, (i = 0 ∨ i = 1) → SZ [some c0', some c1'] [] i := fun i hi => by
    rcases hi with rfl | rfl
    · exact .inl ⟨_, rfl⟩
    · exact .inl ⟨_, rfl⟩
  have gt : ∀ {cl c2 : List AV}, AlL (fun i => i = 0 ∨ i = 1) cl → renL (ρZ [x0.1, x1.1] 2 [] nb) cl = c2 → cellsZ (SZ [some c0', some c1'] []) (ρZ [x0.1, x1.1] 2 [] nb) cl c2 := fun {cl c2} hal hcl => by
    subst hcl
    refine ⟨AlL.mono hS hal, by rw [renL_map, List.length_map], fun j a' hj => ?_⟩
    rw [renL_map, List.getElem?_map, Option.map_eq_some_iff] at hj
    obtain ⟨a, k1, rfl⟩ := hj
    exact ⟨a, k1, Imp.refl _⟩
  refine ⟨he, s, Weak.refl s, [], by simp, ⟨⟨c0, h0, gt a0 e0⟩, ⟨c1, h1, gt a1 e1⟩, trivial⟩, ⟨.nil, by simp, ⟨l, h2, by rw [h3]; exact Al.mono hS ha, by rw [h3]; exact hr⟩, [], rfl, rfl, fun k i hk => by simp at hk⟩⟩
end
end Go.Proofs.YtonglhkiobibgaaGreatDoor
namespace Go.Proofs.YtonglhkiobibgaaGreatDoor
open Go.RowKit
set_option maxRecDepth 100000
noncomputable abbrev cutB : Code := bodyOf Tryz.f220
noncomputable abbrev cutG : Code := cSeq1 (cSeq2 cutB)
noncomputable abbrev cutL : Code := cLoop (cBlk (cSeq2 (cSeq2 cutB)))
noncomputable abbrev cutE : Code := cBlk (cSeq2 (cSeq2 cutL))
theorem cut_shape : cutB = .seq (cSeq1 cutB) (.seq (.region 1 (cOps cutG) false) (.block 0 (.loop (.seq (.region 2 (cOps (cSeq1 cutL)) false) (.seq (.cond (.tmp 16) .skip (.exit 0)) (.block 1 (.seq (.region 3 (cOps (cSeq1 cutE)) false) (.region 4 (cOps (cSeq2 cutE)) false)))))))) := by kernel_rfl
def rgCut0 : AC := .reg false [⟨some 6, .mv (.tmp 0), none, [0], []⟩, ⟨some 7, .mv (.tmp 1), none, [1], []⟩, ⟨some 8, .nilc (.tmp 6), none, [6], []⟩, ⟨some 9, .foff 0 (.tmp 8), none, [8], []⟩, ⟨none, .store 1 (.tmp 9) (.tmp 7), none, [9, 7], []⟩] [0, 1]
theorem cut_rg0 : compCode Tryz.prog 28 (cSeq1 cutB) = some rgCut0.forget := by kernel_rfl
abbrev rsCut1 : List RO := [⟨some 10, .mv (.tmp 0), none, [0], []⟩, ⟨some 11, .nilc (.tmp 10), none, [10], []⟩, ⟨some 12, .foff 1 (.tmp 11), none, [11], []⟩, ⟨some 13, .load false 1 (.tmp 12), none, [12], []⟩]
theorem cut_rg1 : compROs Tryz.prog (cOps cutG) 28 (cOps cutG).toList.dropLast [] = some rsCut1 := by kernel_rfl
abbrev rsCut4 : List RO := [⟨some 20, .mv (.tmp 5), none, [5], []⟩, ⟨some 21, .mv (.tmp 1), none, [1], []⟩, ⟨some 22, .mv (.tmp 4), none, [4], []⟩, ⟨some 23, .bin .mul (.const (.int .i64 (32))) (.tmp 22), none, [22], []⟩, ⟨some 24, .bin .sub (.tmp 21) (.tmp 23), none, [21, 23], []⟩,
  ⟨some 25, .mm true (.tmp 24) (.const (.int .i64 (0))), none, [24], []⟩, ⟨some 26, .mm false (.tmp 25) (.const (.int .i64 (32))), none, [25], []⟩]
theorem cut_rg4 : compROs Tryz.prog (cOps (cSeq2 cutE)) 28 ((cOps (cSeq2 cutE)).toList.take 7) [] = some rsCut4 := by kernel_rfl
/-- from where a size cuts a block -/
def cutAt (z k : Int) : Nat := (if 32 < (if z - 32 * k < 0 then 0 else z - 32 * k) then 32 else (if z - 32 * k < 0 then 0 else z - 32 * k)).toNat
theorem cutAt_int (z k : Int) : (if 32 < (if z - 32 * k < 0 then 0 else z - 32 * k) then 32 else (if z - 32 * k < 0 then 0 else z - 32 * k)) = (cutAt z k : Int) := by unfold cutAt; split <;> split <;> omega
theorem cutAt_zero {f : Fl} (hc : chkFl f = 0) {b : Bk} (hb : b ∈ f.blocks) : cutAt f.size b.index ≤ 32 ∧ ∀ (j : Nat) x, (b.data.drop (cutAt f.size b.index))[j]? = some x → x = 0 := by
  obtain ⟨z0, z1, hall, _⟩ := chkFl_ok hc
  obtain ⟨k1, k2, k3, _, k5⟩ := hall b hb
  have h32 : 32 * b.index < f.size + 32 := by unfold nBl upE at k2; omega
  unfold cutAt
  refine ⟨by split <;> split <;> omega, fun j x hj => ?_⟩
  by_cases h1 : f.size - 32 * b.index < 32
  · have h2 := k5 h1
    unfold zrB at h2
    replace h2 := of_decide_eq_true h2
    refine h2 x (List.mem_of_getElem? (i := j) ?_)
    have e : (if 32 < (if f.size - 32 * b.index < 0 then 0 else f.size - 32 * b.index) then 32 else (if f.size - 32 * b.index < 0 then 0 else f.size - 32 * b.index)).toNat = (f.size - 32 * b.index).toNat := by split <;> split <;> omega
    rw [← e]; exact hj
  · have e : (if 32 < (if f.size - 32 * b.index < 0 then 0 else f.size - 32 * b.index) then 32 else (if f.size - 32 * b.index < 0 then 0 else f.size - 32 * b.index)).toNat = 32 := by split <;> split <;> omega
    rw [e, List.getElem?_drop, List.getElem?_eq_none_iff.2 (by omega)] at hj
    cases hj
theorem hand_none {P : Program} {ro : Option Nat} {rm : Nat} {ops : Array Oper} {Q : Exit → Act → World → Prop} {i : Nat} {o : Oper} {a : Act} {w w' : World} {v : Value} {K : Act → World → Prop} (ho : ops[i]? = some o) (hg : o.guard = none) (hd : o.dst = none) (hnd : ∀ c, o.op ≠ .defer c)
    (hrun : (execOp a.eval o).run P w = .ok (.value v) w') (hK : K a w') : wpOpIn (FR ro) rm P ops Q i K a w := by
  unfold wpOpIn
  rw [ho]
  simp only
  rw [if_pos (by simp [Region.wanted, hg])]
  refine ⟨fun _ _ => trivial, ?_⟩
  rw [Oper.semAt_eq _ _ _ hnd, hrun, Oper.uponIn_value, hd]
  exact hK
noncomputable abbrev cutS : Oper := (cOps (cSeq2 cutE))[7]!
noncomputable abbrev cutC : Oper := (cOps (cSeq2 cutE))[8]!
theorem cutS_op : cutS.op = .slice 37 (.tmp 20) (some (.tmp 26)) none none := by kernel_rfl
theorem cutC_op : cutC.op = .call { callee := .builtin .clear, args := #[.tmp 27], argTypes := #[37] } := by kernel_rfl
abbrev E_ct (y : Bool) (f : Fl) (r : Nat) (_ : List Nat) : ASt := ⟨envOf [(0, .op 0 0), (1, .v (.int .i64 f.size)), (14, itV r)], heapOf [(0, .row y 275 [.v (.int .i64 f.size), .mp 1])], 2⟩
set_option maxHeartbeats 4000000 in
theorem cut_body {y : Bool} {f : Fl} (hc : chkFl f = 0) {b : Bk} (hb : b ∈ f.blocks) (r : Nat) (vis : List Nat) :
    AW none Tryz.prog 28 2 (.region 4 (cOps (cSeq2 cutE)) false) ⟨entE (E_ct y f r vis).env 15 16 17 18 19 4 5 (.v (.int .i64 b.index)) (.us true 5 (eB b.data) b.data.length), (E_ct y f r vis).σ, (E_ct y f r vis).nx⟩ (fun e s => e = .normal ∧ Weak 28 2 s (E_ct y f r vis)) := by
  obtain ⟨z0, z1, hall, _⟩ := chkFl_ok hc
  obtain ⟨k1, k2, k3, _, _⟩ := hall b hb
  obtain ⟨hc1, hc2⟩ := cutAt_zero hc hb
  have h76 := nBl_le z0 z1
  refine AW.regTail (pre := (cOps (cSeq2 cutE)).toList.take 7) (tail := (cOps (cSeq2 cutE)).toList.drop 7) (by rw [List.take_append_drop]) cut_rg4 ?_
  have w1 : IntKind.i64.wrap (32 * b.index) = 32 * b.index := wrap64 (by omega)
  have w2 : IntKind.i64.wrap (f.size - 32 * b.index) = f.size - 32 * b.index := wrap64 (by omega)
  simp only [rsCut4, E_ct, entE, w1, w2, TT, ↓reduceIte, Nat.reduceEqDiff, Nat.reduceAdd, Nat.reduceMul, reduceCtorEq, Nat.reduceLeDiff]
  intro n c a R hr hK
  have h20 := hr.env 20
  have h26 := hr.env 26
  simp only [putE, if_true, if_false, reduceCtorEq, Nat.reduceEqDiff, Option.some.injEq, cutAt_int] at h20 h26
  rw [show ((cOps (cSeq2 cutE)).toList.drop 7).length = 2 by kernel_rfl]
  show wpOpsIn _ _ _ _ _ [7, 8] _ _
  obtain ⟨A, k, e20, hnk, hm⟩ := h20
  obtain ⟨bk, rfl, hok, ⟨vs, hvs⟩, hcells⟩ := hm (by omega)
  rw [k3] at e20 hnk
  replace e20 : a.eval (.tmp 20) = .slice (some ⟨bk, 0, none⟩) 32 k := e20
  replace h26 : a.eval (.tmp 26) = .int .i64 (cutAt f.size b.index : Int) := h26
  generalize cutAt f.size b.index = lo at hc1 hc2 h26
  have hrS : (execOp a.eval cutS).run Tryz.prog c.w = .ok (.value (.slice (if k = lo then some ⟨bk, 0, none⟩ else some ⟨bk, lo, none⟩) (32 - lo) (k - lo))) c.w := by
    simp [execOp, cutS_op, e20, h26, Instr.sliceAt, Instr.slice, run_underlying Tryz.underlying37, Instr.sliceBounds, Instr.sliceBound, asIntOf]
    rw [if_pos hc1, Addr.add_mid, Nat.zero_add]
  rw [wpOpsIn_cons]
  refine hand_val (o := cutS) (d := 27) (by kernel_rfl) (by kernel_rfl) (by kernel_rfl) (by rw [cutS_op]; intro c h; cases h) hrS ?_
  rw [wpOpsIn_cons]
  have hcl : ∀ ty, (Builtin.clear_ #[37] ty #[.slice (if k = lo then some ⟨bk, 0, none⟩ else some ⟨bk, lo, none⟩) (32 - lo) (k - lo)]).run Tryz.prog c.w = .ok (.tuple #[]) c.w := fun ty => by
    by_cases h0 : lo = 32
    · subst h0
      by_cases h9 : k = 32 <;> simp [Builtin.clear_, run_underlying Tryz.underlying37, h9]
    · rw [if_neg (by omega)]
      have hcell : ∀ j, j < 32 → vs[j]? = some (.int .u8 (b.data[j]?.getD 0)) := fun j hj => by
        have h9 : (eB b.data)[j]? = some (.v (.int .u8 (b.data[j]?.getD 0))) := by
          have : b.data[j]? = some b.data[j] := List.getElem?_eq_getElem (by omega)
          simp [eB, this]
        obtain ⟨u, k1, _, k3⟩ := VRm_iff.1 hcells j _ h9
        rw [Nat.zero_add] at k1
        obtain rfl : u = _ := k3
        simpa [World.cell?, hvs] using k1
      rw [Lib.run_clear_slice c.w 37 5 ty (.int .u8 0) Tryz.underlying37 (fun w => by kernel_rfl) rfl rfl bk lo (32 - lo) (k - lo) (by omega)
        (fun j hj => by simp [World.cell?, hvs, hcell (lo + j) (by omega)]) (fun j hj => by simp [World.frozen?, hvs])]
      rw [setCells_same hvs]
      intro j v hj
      rw [List.getElem?_replicate] at hj
      split at hj
      · cases hj
        rename_i hj
        rw [hcell (lo + j) (by omega)]
        have h8 : b.data[lo + j]? = some b.data[lo + j] := List.getElem?_eq_getElem (by omega)
        have h7 := hc2 j b.data[lo + j] (by rw [List.getElem?_drop]; exact h8)
        rw [h8, Option.getD_some, h7]
      · cases hj
  refine hand_none (o := cutC) (v := .tuple #[]) (w' := c.w) (by kernel_rfl) (by kernel_rfl) (by kernel_rfl) (by rw [cutC_op]; intro c h; cases h) ?_ ?_
  · simp [execOp, cutC_op, resolve, invoke, builtin, put_same _ _ _ (show 27 < a.tmps.size by rw [hr.size]; decide), hcl, Result.andThen]
  · simp only [wpOpsIn]
    have hz := hr.close (envOf [(0, .op 0 0), (1, .v (.int .i64 f.size)), (14, itV r)]) (fun t => by
      by_cases h0 : t = 0
      · subst h0; left; simp [putE, envOf]
      · by_cases h1 : t = 1
        · subst h1; left; simp [putE, envOf]
        · by_cases h2 : t = 14
          · subst h2; left; simp [putE, envOf]
          · right; simp [envOf, h0, h1, h2])
    have hz2 := hz.set (d := 27) (by decide) (x := .any) (v := .slice (if k = lo then some ⟨bk, 0, none⟩ else some ⟨bk, lo, none⟩) (32 - lo) (k - lo)) trivial
    refine hK _ c ⟨putE (envOf [(0, .op 0 0), (1, .v (.int .i64 f.size)), (14, itV r)]) (some 27) .any, heapOf [(0, .row y 275 [.v (.int .i64 f.size), .mp 1])], 2 + 100000 * 7⟩ (GoA.of (Grow.refl c) (put_defers _ _ _)) (fun _ _ => rfl) hz2 (show 2 ≤ 2 + 100000 * 7 by decide) ?_
    refine Weak.calc [(0, 0), (1, 1)] (by decide) ?_ ?_
    · simp [WT, putE, envOf]
    · simp [WT]
abbrev rwsV (iV iM : Nat) (y y' : Bool) (f : Fl) : List RW := [(iV, y, 275, [.v (.int .i64 f.size), .mp iM]), (iM, y', MAPE, encU f.blocks)]
set_option maxHeartbeats 4000000 in
theorem cut_spec (f : Fl) (hc : chkFl f = 0) (iV iM nb : Nat) (y y' : Bool) (hne : iV ≠ iM) (hV : iV < nb) (hM : iM < nb) :
    ASound Tryz.prog 220 [.op iV 0, .v (.int .i64 f.size)] nb (rowsM (rwsV iV iM y y' f) (.ret (.tup []) (outW (rwsV iV iM y y' f) [some [.v (.int .i64 f.size), .mp iM], some (encU f.blocks)] ++ []))) := by
  have hr0 : rn [(iV, 0), (iM, 1)] iV = 0 := by simp [rn]
  have hr1 : rn [(iV, 0), (iM, 1)] iM = 1 := by simp [rn, hne]
  refine soundZA 2 (fn := Tryz.f220) (rs := []) (rwsV iV iM y y' f) [some [.v (.int .i64 f.size), .mp iM], some (encU f.blocks)] Tryz.func220 rfl (by rfl) rfl (by simp) ⟨by simp [Al], trivial, trivial⟩ (by simp [hne]) (fun x hx => ?_) rfl (by simp) (fun k cl hk => ?_) ?_
  · simp only [List.mem_cons, List.not_mem_nil, or_false] at hx
    rcases hx with rfl | rfl
    · exact ⟨.inl (by simp), ⟨trivial, by simp [Al], trivial⟩, hV⟩
    · exact ⟨.inr rfl, al_U _, hM⟩
  · rcases k with _ | _ | k
    · decide
    · decide
    · simp at hk
  have hcz := chkFl_ok hc
  show AW none Tryz.prog 28 2 cutB _ _
  rw [cut_shape]
  simp only [renL, ren, rowsIn, inZ, hr0, hr1, ren_U, List.map_cons, List.map_nil, List.zipIdx_cons, List.zipIdx_nil, Nat.zero_add, List.length_cons, List.length_nil]
  refine AW.seq (AW.mono (Q := fun e s => e = .normal ∧ Weak 28 2 s ⟨envOf [(0, .op 0 0), (1, .v (.int .i64 f.size))], heapOf [(0, .row y 275 [.v (.int .i64 f.size), .mp 1]), (1, .row y' MAPE (encU f.blocks))], 2⟩) (wpC_sound (ac := rgCut0) ?_ _ cut_rg0 none (.inl rfl)) ?_)
  · simp only [rgCut0, TT, ↓reduceIte, Nat.reduceEqDiff, Nat.reduceAdd, Nat.reduceMul, reduceCtorEq, Nat.reduceLeDiff]
    refine Weak.calc [(0, 0), (1, 1)] (by decide) ?_ ?_ <;> simp [WT, al_U, ren_U]
  rintro e s ⟨rfl, hw⟩
  refine AW.weak hw ?_
  refine AW.mrange (m := 2) (pre := (cOps cutG).toList.dropLast) (rs := rsCut1) (o_r := (cOps cutG)[4]!) (o_n := (cOps (cSeq1 cutL))[0]!) (o_x := (cOps (cSeq1 cutL))[1]!) (o_e := (cOps (cSeq1 cutE))[0]!) (o_k := (cOps (cSeq1 cutE))[1]!) (o_v := (cOps (cSeq1 cutE))[2]!) (o_a := (cOps (cSeq1 cutE))[3]!) (o_b := (cOps (cSeq1 cutE))[4]!)
    (t := 273) (kt := 3) (vt := 37) (mt := 13) (it := 14) (tn := 15) (tok := 16) (te := 17) (tk := 18) (tv := 19) (dk := 4) (dv := 5) 2 (Nat.le_refl 2)
    (by kernel_rfl) cut_rg1 (by kernel_rfl) (by kernel_rfl) (by kernel_rfl) (by kernel_rfl) (by kernel_rfl) (by kernel_rfl) (by kernel_rfl) (by kernel_rfl) (by kernel_rfl) (by kernel_rfl) (by kernel_rfl) (by kernel_rfl) (by kernel_rfl) (by kernel_rfl) (by kernel_rfl)
    (by kernel_rfl) (by kernel_rfl) (by kernel_rfl) (by kernel_rfl) (by kernel_rfl) (by kernel_rfl) (by kernel_rfl) (by kernel_rfl) (by kernel_rfl) (by kernel_rfl) (by kernel_rfl) (by kernel_rfl) (by decide) (by decide)
    1 (by decide) y' (encU f.blocks) f.blocks.length (len_U _) (fun a ha => AlN.of (AlL_iff.1 (al_U _) a ha)) (E_ct y f) (fun _ _ => Nat.le_refl 2) (fun _ _ => rfl) (fun _ _ => rfl) ?_ (Nat.le_refl 2) ?_ ?_
  · simp only [rsCut1, TT, ↓reduceIte, Nat.reduceEqDiff, Nat.reduceAdd, Nat.reduceMul, reduceCtorEq, Nat.reduceLeDiff]
    intro r
    refine Weak.calc [(0, 0), (1, 1)] (by decide) ?_ ?_ <;> simp [WT, putE, envOf]
  · intro r vis j K V hj hjv hvn hvl hK hV
    obtain ⟨b, hb⟩ : ∃ b, f.blocks[j]? = some b := ⟨_, List.getElem?_eq_getElem hj⟩
    obtain ⟨g0, g1⟩ := get_U hb
    rw [g0] at hK
    rw [g1] at hV
    cases hK
    cases hV
    exact cut_body hc (List.mem_of_getElem? hb) r vis
  · intro r vis hvn hvis
    exact EndsZ.keep2 (c0 := [.v (.int .i64 f.size), .mp 1]) (c1 := encU f.blocks) (r0 := .tup []) (.inl rfl) (by simp [ET]) (by simp [ET]) (by simp [ET]) ⟨trivial, .inr rfl, trivial⟩ (al_U _) (by simp [renL, ren, ρZ]) (ren_U _) trivial (Imp.refl _)
end Go.Proofs.YtonglhkiobibgaaGreatDoor
namespace Go.Proofs.YtonglhkiobibgaaGreatDoor
open Go.Shelf
set_option maxRecDepth 100000
def sortRenF : Ren where
  f := fun x => match x with
    | 6 => 178
    | 15 => 226
    | 14 => 225
    | 28 => 273
    | 29 => 274
    | 20 => 265
    | 21 => 266
    | 22 => 267
    | 23 => 268
    | 24 => 269
    | 25 => 270
    | 26 => 271
    | 27 => 272
    | 46 => 288
    | 47 => 289
    | 48 => 290
    | 49 => 291
    | 50 => 292
    | 57 => 305
    | n => n
  t := fun x => match x with
    | 22 => 113
    | 24 => 183
    | 25 => 277
    | 3 => 3
    | 39 => 201
    | 0 => 0
    | 53 => 315
    | 55 => 224
    | 4 => 4
    | 46 => 392
    | 45 => 391
    | 50 => 136
    | 5 => 5
    | 9 => 9
    | 66 => 410
    | 70 => 413
    | 76 => 426
    | 77 => 297
    | n => n
  g := fun n => n
theorem sortLaidF : SlLaysF0.n6 Tryz.prog sortRenF where
  mixed := by kernel_rfl
  f6 := ⟨Tryz.f178.name, by decide, by kernel_rfl⟩
  f14 := ⟨Tryz.f225.name, by decide, by kernel_rfl⟩
  f15 := by kernel_rfl
  f20 := ⟨Tryz.f265.name, by decide, by kernel_rfl⟩
  f21 := ⟨Tryz.f266.name, by decide, by kernel_rfl⟩
  f22 := ⟨Tryz.f267.name, by decide, by kernel_rfl⟩
  f23 := ⟨Tryz.f268.name, by decide, by kernel_rfl⟩
  f24 := ⟨Tryz.f269.name, by decide, by kernel_rfl⟩
  f25 := ⟨Tryz.f270.name, by decide, by kernel_rfl⟩
  f26 := ⟨Tryz.f271.name, by decide, by kernel_rfl⟩
  f27 := ⟨Tryz.f272.name, by decide, by kernel_rfl⟩
  f28 := by kernel_rfl
  f29 := by kernel_rfl
  f46 := ⟨Tryz.f288.name, by decide, by kernel_rfl⟩
  f47 := by kernel_rfl
  f48 := by kernel_rfl
  f49 := ⟨Tryz.f291.name, by decide, by kernel_rfl⟩
  f50 := ⟨Tryz.f292.name, by decide, by kernel_rfl⟩
  f57 := ⟨Tryz.f305.name, by decide, by kernel_rfl⟩
  t0 := by kernel_rfl
  a0 := fun w => by kernel_rfl
  z0 := fun w => by kernel_rfl
  v0 := fun w => by kernel_rfl
  t3 := by kernel_rfl
  a3 := fun w => by kernel_rfl
  z3 := fun w => by kernel_rfl
  v3 := fun w => by kernel_rfl
  t4 := by kernel_rfl
  a4 := fun w => by kernel_rfl
  z4 := fun w => by kernel_rfl
  v4 := fun w => by kernel_rfl
  t5 := by kernel_rfl
  a5 := fun w => by kernel_rfl
  z5 := fun w => by kernel_rfl
  v5 := fun w => by kernel_rfl
  t9 := by kernel_rfl
  a9 := fun w => by kernel_rfl
  z9 := fun w => by kernel_rfl
  v9 := fun w => by kernel_rfl
  t22 := by kernel_rfl
  a22 := fun w => by kernel_rfl
  z22 := fun w => by kernel_rfl
  v22 := fun w => by kernel_rfl
  t25 := by kernel_rfl
  a25 := fun w => by kernel_rfl
  z25 := fun w => by kernel_rfl
  v25 := fun w => by kernel_rfl
  t39 := by kernel_rfl
  a39 := fun w => by kernel_rfl
  z39 := fun w => by kernel_rfl
  v39 := fun w => by kernel_rfl
  t45 := by kernel_rfl
  a45 := fun w => by kernel_rfl
  z45 := fun w => by kernel_rfl
  v45 := fun w => by kernel_rfl
  t46 := by kernel_rfl
  a46 := fun w => by kernel_rfl
  z46 := fun w => by kernel_rfl
  v46 := fun w => by kernel_rfl
  t50 := by kernel_rfl
  a50 := fun w => by kernel_rfl
  z50 := fun w => by kernel_rfl
  v50 := fun w => by kernel_rfl
  t53 := by kernel_rfl
  a53 := fun w => by kernel_rfl
  z53 := fun w => by kernel_rfl
  v53 := fun w => by kernel_rfl
  t55 := by kernel_rfl
  a55 := fun w => by kernel_rfl
  z55 := fun w => by kernel_rfl
  v55 := fun w => by kernel_rfl
  t66 := by kernel_rfl
  a66 := fun w => by kernel_rfl
  z66 := fun w => by kernel_rfl
  v66 := fun w => by kernel_rfl
  t70 := by kernel_rfl
  a70 := fun w => by kernel_rfl
  z70 := fun w => by kernel_rfl
  v70 := fun w => by kernel_rfl
  t76 := by kernel_rfl
  a76 := fun w => by kernel_rfl
  z76 := fun w => by kernel_rfl
  v76 := fun w => by kernel_rfl
  t77 := by kernel_rfl
  a77 := fun w => by kernel_rfl
  z77 := fun w => by kernel_rfl
  v77 := fun w => by kernel_rfl
end Go.Proofs.YtonglhkiobibgaaGreatDoor
namespace Go.Proofs.YtonglhkiobibgaaGreatDoor
open Go.RowKit
/-- a row's block is turned as a whole: the row's known cells are cells' now -/
theorem Then.turned {c : Cx} (h : HR c) (nb : Nat) {id b : Nat} {y : Bool} {e : TypeId} {cells cells' : List AV} {cs cs' : Array Value} (hid : c.σ id = some (.row y e cells)) (hφ : c.φ id = some (some b))
    (hb : c.w.heap[b]? = some (.cells cs e (0, 0))) (w' : World) (w1 : c.w.heap.size ≤ w'.heap.size) (w2 : w'.output = c.w.output) (w3 : w'.os = c.w.os) (w4 : w'.tape = c.w.tape)
    (hnew : w'.heap[b]? = some (.cells cs' e (0, 0))) (hcs : cs'.size = cs.size) (hoth : ∀ k, k < c.w.heap.size → k ≠ b → w'.heap[k]? = c.w.heap[k]?) (hl : cells'.length ≤ cs'.size)
    (hv : ∀ (j : Nat) a, cells'[j]? = some a → ∃ u, cs'[j]? = some u ∧ u.oneCell' = true ∧ VR c a u) :
    Then c nb [(id, some (.row y e cells'))] ⟨w', c.B, c.φ, app c.σ [(id, some (.row y e cells'))], c.X, c.Y⟩ := by
  generalize hd : (⟨w', c.B, c.φ, app c.σ [(id, some (.row y e cells'))], c.X, c.Y⟩ : Cx) = d
  have dw : d.w = w' := by rw [← hd]
  have dφ : d.φ = c.φ := by rw [← hd]
  have dσ : ∀ k, d.σ k = if k = id then some (.row y e cells') else c.σ k := by rw [← hd]; intro k; rfl
  have dB : d.B = c.B := by rw [← hd]
  have dX : d.X = c.X := by rw [← hd]
  have dY : d.Y = c.Y := by rw [← hd]
  have hT : c.T b := ⟨id, _, hid, hφ⟩
  have g : Grow c d := by
    refine Still.grow ⟨dY, dX, dB, by rw [dw, w2], by rw [dw, w3], by rw [dw, w4], by rw [dw]; exact w1, fun k hk ht => by rw [dw]; exact hoth k hk (fun e1 => ht (by rw [e1]; exact hT)), ?_, fun k cs9 e' f hk => ?_⟩
    · rintro k ⟨i, ob, h1, h2⟩
      rw [dσ] at h1
      rw [dφ] at h2
      by_cases e1 : i = id
      · exact .inl ⟨id, _, hid, by rw [← e1]; exact h2⟩
      · rw [if_neg e1] at h1; exact .inl ⟨i, ob, h1, h2⟩
    · by_cases e1 : k = b
      · subst e1
        rw [hb] at hk
        cases hk
        exact ⟨_, _, by rw [dw]; exact hnew, hcs⟩
      · exact ⟨_, f, by rw [dw, hoth k (Array.getElem?_eq_some_iff.1 hk).1 e1]; exact hk, rfl⟩
  have n : Names c d := fun k x hk => by rw [dφ]; exact hk
  have live : ∀ k, d.σ k ≠ none → c.σ k ≠ none := fun k hk => by
    rw [dσ] at hk
    by_cases e1 : k = id
    · rw [e1, hid]; simp
    · rwa [if_neg e1] at hk
  refine ⟨g, n, ⟨fun k y' e' cl h1 => ?_, fun i i' b' h1 h2 h3 h4 => ?_, by rw [dB]; exact Nat.le_trans h.base g.size, fun b hb => by rw [dX] at hb; exact Nat.lt_of_lt_of_le (h.xlt b hb) g.size, h.gl.grow g⟩, by rw [← hd], fun k hk => by rw [dφ] at hk; exact .inl hk⟩
  · rw [dσ] at h1
    by_cases e1 : k = id
    · rw [if_pos e1] at h1
      simp at h1
      obtain ⟨rfl, rfl, rfl⟩ := h1
      rcases h.row id y e cells hid with ⟨h2, _⟩ | ⟨b2, cs2, h2, h3, h4, _⟩
      · rw [hφ] at h2; cases h2
      · rw [hφ] at h2; cases h2
        refine .inr ⟨b, cs', by rw [e1, dφ]; exact hφ, by rw [dw]; exact Blk.mk (h3.ne ⟨_, _, _, hb⟩) hnew, ⟨fun hy => by rw [dB]; exact h4.1 hy, by rw [dX]; exact h4.2⟩, hl, fun j a hj => ?_⟩
        obtain ⟨u, h5, h6, h7⟩ := hv j a hj
        exact ⟨u, h5, h6, h7.mono g n⟩
    · rw [if_neg e1] at h1
      rcases h.row k y' e' cl h1 with ⟨h2, h3⟩ | ⟨b2, cs2, h2, h3, h4, h5, h6⟩
      · exact .inl ⟨n _ _ h2, h3⟩
      · have hne : b2 ≠ b := fun e2 => e1 (h.inj k id b (by rw [h1]; simp) (by rw [hid]; simp) (by rw [← e2]; exact h2) hφ)
        refine .inr ⟨b2, cs2, n _ _ h2, h3.of (by rw [dw, hoth b2 h3.lt hne]), ⟨fun hy => by rw [dB]; exact h4.1 hy, by rw [dX]; exact h4.2⟩, h5, fun j a hj => ?_⟩
        obtain ⟨u, h7, h8, h9⟩ := h6 j a hj
        exact ⟨u, h7, h8, h9.mono g n⟩
  · rw [dφ] at h3 h4
    exact h.inj i i' b' (live i h1) (live i' h2) h3 h4

end Go.Proofs.YtonglhkiobibgaaGreatDoor
