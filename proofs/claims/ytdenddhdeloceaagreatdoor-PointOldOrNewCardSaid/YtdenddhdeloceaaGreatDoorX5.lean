/- Merged texts: WD, WE, WF, WG, WH, WI, WJ, AM, AO, AR, WK, WL, WM, WN, WO, KJ, WP, WQ, WR, WS, WT, WU, WW, WX, KK, WY, WZ, RB, Y4. -/
import Derived.Test.YtdenddhdeloceaaGreatDoorX4
import Derived.Test.YtdenddhdeloceaaGreatDoorX2
import Derived.Shelf.Abstract
import Derived.Shelf.RegionOpen
import Derived.WalkKit
import Derived.OwnWalkIn
import Derived.TacticsInMore
import Derived.LoopNIn
import Derived.LoopIn
import Derived.Lib.Hide
import Derived.Test.YtdenddhdeloceaaGreatDoorX1
import Derived.Test.YtdenddhdeloceaaGreatDoorProg
import Derived.Test.YtdenddhdeloceaaGreatDoorX3
import Derived.Test.YtdenddhdeloceaaGreatDoorRows
import Derived.LaidLaws
import Derived.LaidHandle
import Derived.LaidMore
import Derived.Lay
import Derived.Stop.Joined
set_option linter.unusedSimpArgs false
set_option linter.unusedVariables false
/- Contracts: the closure of disk.Check. -/
namespace Go.Proofs.YtdenddhdeloceaaGreatDoor
open Go.RowKit
set_option maxRecDepth 100000
abbrev kr (fr : Bool) (d : Dk) (id1 id2 : Nat) : List RW := [(id1, true, 50, [fL fr d.sectors, fWrs fr d.cache]), (id2, true, 134, [.fn 83 []])]
abbrev ko (fr : Bool) (d : Dk) : List (Option (List AV)) := [some [fL fr d.sectors, fWrs fr d.cache], some [.fn 83 []]]
instance (n : Nat) (w : Wr) : Decidable (badW n w) := by unfold badW; infer_instance
theorem bad_spec (fr fw : Bool) (d : Dk) (w : Wr) (id1 id2 nb : Nat) (h12 : id1 ≠ id2) (h1 : id1 < nb) (h2 : id2 < nb) :
    ASound Tryz.prog 84 [.agg [.v (.int .i64 w.sec), fB fw w.data], .op id1 0, .op id2 0] nb (rowsM (kr fr d id1 id2) (.ret (.v (.bool (decide (badW d.sectors.length w)))) (outW (kr fr d id1 id2) (ko fr d)))) := by
  have hX := FnOk.soundX (m := 2) (kr fr d id1 id2) (ko fr d) ok_84 (args := [.agg [.v (.int .i64 w.sec), fB fw w.data], .op id1 0, .op id2 0]) (nb := nb) (r := .v (.bool (decide (badW d.sectors.length w)))) (W := []) (by simp)
    ⟨⟨trivial, al_B _, trivial⟩, by simp [Al], by simp [Al], trivial⟩ (by simp [h12]) (by intro x hx; simp at hx; rcases hx with rfl | rfl; exact ⟨by simp, ⟨al_L _, al_Wrs _, trivial⟩, h1⟩; exact ⟨by simp, ⟨trivial, trivial⟩, h2⟩) rfl (by simp) (by intro k cl hk; have : k < (ko fr d).length := (List.getElem?_eq_some_iff.1 hk).1; simpa using this) ?_
  · rw [List.append_nil] at hX; exact hX
  have hr1 : rn [(id1, 0), (id2, 1)] id1 = 0 := by simp [rn]
  have hr2 : rn [(id1, 0), (id2, 1)] id2 = 1 := by simp [rn, h12]
  have ho := odd_spec fw w.data
  simp only [fB] at ho
  simp only [ac_84, kr, rowsIn, renL, ren, List.map_cons, List.map_nil, List.zipIdx_cons, List.zipIdx_nil, hr1, hr2, ren_B, TT, ↓reduceIte, Nat.reduceEqDiff, Nat.reduceAdd, Nat.reduceMul, reduceCtorEq, Nat.reduceLeDiff]
  have hk : ∀ s : ASt, s.σ 0 = some (.row true 50 [fL fr d.sectors, fWrs fr d.cache]) → s.σ 1 = some (.row true 134 [.fn 83 []]) → keepOk (kr fr d id1 id2) (ko fr d) 0 s.σ [] := fun s a b => ⟨⟨a, by simp, al_L _, al_Wrs _, trivial⟩, ⟨b, by simp, trivial, trivial⟩, trivial⟩
  by_cases b1 : w.sec < 0
  · have hb : badW d.sectors.length w := .inl b1
    simp only [b1, not_true_eq_false, not_false_eq_true, TT, ↓reduceIte, Nat.reduceEqDiff, Nat.reduceAdd, Nat.reduceMul, reduceCtorEq, Nat.reduceLeDiff]
    exact EndsX.data (.inr rfl) (by simp [ET, hb]) trivial (hk _ (by simp [ET, fL, fWrs]) (by simp [ET]))
  by_cases b2 : (d.sectors.length : Int) ≤ w.sec
  · have hb : badW d.sectors.length w := .inr (.inl b2)
    simp only [b1, b2, not_true_eq_false, not_false_eq_true, TT, ↓reduceIte, Nat.reduceEqDiff, Nat.reduceAdd, Nat.reduceMul, reduceCtorEq, Nat.reduceLeDiff]
    exact EndsX.data (.inr rfl) (by simp [ET, hb]) trivial (hk _ (by simp [ET, fL, fWrs]) (by simp [ET]))
  · have hb : badW d.sectors.length w ↔ w.data.length ≠ 64 := ⟨fun h => by rcases h with h | h | h; exact absurd h b1; exact absurd h b2; exact h, fun h => .inr (.inr h)⟩
    simp only [b1, b2, not_true_eq_false, not_false_eq_true, TT, ↓reduceIte, Nat.reduceEqDiff, Nat.reduceAdd, Nat.reduceMul, reduceCtorEq, Nat.reduceLeDiff]
    refine ⟨_, _, _, rfl, ho _, ?_⟩
    simp only [TT, ↓reduceIte, Nat.reduceEqDiff, Nat.reduceAdd, Nat.reduceMul, reduceCtorEq, Nat.reduceLeDiff]
    exact EndsX.data (.inr rfl) (by simp [ET, hb]) trivial (hk _ (by simp [ET, fL, fWrs]) (by simp [ET]))
end Go.Proofs.YtdenddhdeloceaaGreatDoor
/- Contracts: slices.ContainsFunc of writes. -/
namespace Go.Proofs.YtdenddhdeloceaaGreatDoor
open Go.RowKit
set_option maxRecDepth 100000
def idxW (n : Nat) : List Wr → Nat → Int
  | [], _ => -1
  | w :: l, k => if badW n w then (k : Int) else idxW n l (k + 1)
theorem idxW_drop {n : Nat} {l : List Wr} {i : Nat} {w : Wr} (h : l[i]? = some w) : idxW n (l.drop i) i = if badW n w then (i : Int) else idxW n (l.drop (i + 1)) (i + 1) := by
  have hi := (List.getElem?_eq_some_iff.1 h)
  rw [List.drop_eq_getElem_cons hi.1, hi.2]
  rfl
theorem idxW_pos {n : Nat} : ∀ (l : List Wr) (k : Nat), 0 ≤ idxW n l k ↔ ∃ w ∈ l, badW n w
  | [], k => by simp [idxW]
  | w :: l, k => by
    rw [idxW]
    by_cases h : badW n w
    · rw [if_pos h]; constructor
      · intro _; exact ⟨w, by simp, h⟩
      · intro _; omega
    · rw [if_neg h, idxW_pos l (k + 1)]; simp [h]
abbrev L_iw (fr : Bool) (d : Dk) (i : Nat) : ASt := ⟨envOf [(0, fWrs fr d.cache), (1, .fn 84 [.op 0 0, .op 1 0]), (7, .v (.int .i64 d.cache.length)), (8, .v (.int .i64 i))],
  heapOf [(0, .row true 50 [fL fr d.sectors, fWrs fr d.cache]), (1, .row true 134 [.fn 83 []])], 2⟩
theorem keep_kr (fr : Bool) (d : Dk) (id1 id2 : Nat) (s : ASt) (a : s.σ 0 = some (.row true 50 [fL fr d.sectors, fWrs fr d.cache])) (b : s.σ 1 = some (.row true 134 [.fn 83 []])) : keepOk (kr fr d id1 id2) (ko fr d) 0 s.σ [] := ⟨⟨a, by simp, al_L _, al_Wrs _, trivial⟩, ⟨b, by simp, trivial, trivial⟩, trivial⟩
theorem index2_spec (fr : Bool) (d : Dk) (id1 id2 nb : Nat) (h12 : id1 ≠ id2) (h1 : id1 < nb) (h2 : id2 < nb) (hl : d.cache.length ≤ 140737488355328) :
    ASound Tryz.prog 106 [fWrs fr d.cache, .fn 84 [.op id1 0, .op id2 0]] nb (rowsM (kr fr d id1 id2) (.ret (.v (.int .i64 (idxW d.sectors.length d.cache 0))) (outW (kr fr d id1 id2) (ko fr d)))) := by
  have hX := FnOk.soundX (m := 2) (kr fr d id1 id2) (ko fr d) ok_106 (args := [fWrs fr d.cache, .fn 84 [.op id1 0, .op id2 0]]) (nb := nb) (r := .v (.int .i64 (idxW d.sectors.length d.cache 0))) (W := []) (by simp)
    ⟨al_Wrs _, ⟨by simp [Al], by simp [Al], trivial⟩, trivial⟩ (by simp [h12]) (by intro x hx; simp at hx; rcases hx with rfl | rfl; exact ⟨by simp, ⟨al_L _, al_Wrs _, trivial⟩, h1⟩; exact ⟨by simp, ⟨trivial, trivial⟩, h2⟩) rfl (by simp) (by intro k cl hk; have : k < (ko fr d).length := (List.getElem?_eq_some_iff.1 hk).1; simpa using this) ?_
  · rw [List.append_nil] at hX; exact hX
  have hr1 : rn [(id1, 0), (id2, 1)] id1 = 0 := by simp [rn]
  have hr2 : rn [(id1, 0), (id2, 1)] id2 = 1 := by simp [rn, h12]
  simp only [ac_106, kr, rowsIn, renL, ren, List.map_cons, List.map_nil, List.zipIdx_cons, List.zipIdx_nil, hr1, hr2, ren_Wrs, TT, ↓reduceIte, Nat.reduceEqDiff, Nat.reduceAdd, Nat.reduceMul, reduceCtorEq, Nat.reduceLeDiff]
  refine AWc.family (L_iw fr d) (fun i => i ≤ d.cache.length ∧ idxW d.sectors.length (d.cache.drop i) i = idxW d.sectors.length d.cache 0) (fun i => d.cache.length - i) 0 ⟨Nat.zero_le _, rfl⟩ ?_ ?_
  · refine Weak.calc [(0, 0), (1, 1)] (by decide) ?_ ?_ <;> simp [WT]
  · rintro i ⟨hi, he⟩
    by_cases hlt : i < d.cache.length
    · obtain ⟨w, hx, e1, e0⟩ := lt_at hlt
      obtain ⟨g1, g2⟩ := get_Wrs (fr := fr) hx
      have ho := fun nb h1 h2 => bad_spec fr fr d w 0 1 nb (by decide) h1 h2
      simp only [fB, kr, ko, rowsM, outW, fL, fWrs, Option.map_some] at ho
      rw [idxW_drop hx] at he
      simp only [L_iw, e1, e0, g1, g2, Int.toNat_natCast, TT, ↓reduceIte, Nat.reduceEqDiff, Nat.reduceAdd, Nat.reduceMul, reduceCtorEq, Nat.reduceLeDiff]
      refine ⟨_, _, _, rfl, ho _ (by omega) (by omega), ?_⟩
      by_cases h : badW d.sectors.length w
      · rw [if_pos h] at he
        rw [← he]
        simp only [h, decide_true, TT, ↓reduceIte, Nat.reduceEqDiff, Nat.reduceAdd, Nat.reduceMul, reduceCtorEq, Nat.reduceLeDiff]
        exact EndsX.data (.inr rfl) (by simp [ET]) trivial (keep_kr fr d id1 id2 _ (by simp [ET, fL, fWrs]) (by simp [ET]))
      · rw [if_neg h] at he
        simp only [h, decide_false, TT, ↓reduceIte, Nat.reduceEqDiff, Nat.reduceAdd, Nat.reduceMul, reduceCtorEq, Nat.reduceLeDiff]
        refine famC_next (i + 1) (by omega) ⟨by omega, he⟩ ?_
        refine Weak.calc [(0, 0), (1, 1)] (by decide) ?_ ?_ <;> simp [WT, wrap64 (x := (i : Int) + 1) (by omega)]
    · obtain rfl : i = d.cache.length := by omega
      have e1 : ¬ ((d.cache.length : Int) < (d.cache.length : Int)) := by omega
      have : idxW d.sectors.length d.cache 0 = -1 := by rw [← he, List.drop_length]; rfl
      rw [this]
      simp only [L_iw, e1, TT, ↓reduceIte, Nat.reduceEqDiff, Nat.reduceAdd, Nat.reduceMul, reduceCtorEq, Nat.reduceLeDiff]
      exact EndsX.data (.inr rfl) (by simp [ET]) trivial (keep_kr fr d id1 id2 _ (by simp [ET, fL, fWrs]) (by simp [ET]))
theorem contains2_spec (fr : Bool) (d : Dk) (id1 id2 nb : Nat) (h12 : id1 ≠ id2) (h1 : id1 < nb) (h2 : id2 < nb) (hl : d.cache.length ≤ 140737488355328) :
    ASound Tryz.prog 86 [fWrs fr d.cache, .fn 84 [.op id1 0, .op id2 0]] nb (rowsM (kr fr d id1 id2) (.ret (.v (.bool (decide (∃ w ∈ d.cache, badW d.sectors.length w)))) (outW (kr fr d id1 id2) (ko fr d)))) := by
  have hX := FnOk.soundX (m := 2) (kr fr d id1 id2) (ko fr d) ok_86 (args := [fWrs fr d.cache, .fn 84 [.op id1 0, .op id2 0]]) (nb := nb) (r := .v (.bool (decide (∃ w ∈ d.cache, badW d.sectors.length w)))) (W := []) (by simp)
    ⟨al_Wrs _, ⟨by simp [Al], by simp [Al], trivial⟩, trivial⟩ (by simp [h12]) (by intro x hx; simp at hx; rcases hx with rfl | rfl; exact ⟨by simp, ⟨al_L _, al_Wrs _, trivial⟩, h1⟩; exact ⟨by simp, ⟨trivial, trivial⟩, h2⟩) rfl (by simp) (by intro k cl hk; have : k < (ko fr d).length := (List.getElem?_eq_some_iff.1 hk).1; simpa using this) ?_
  · rw [List.append_nil] at hX; exact hX
  have hr1 : rn [(id1, 0), (id2, 1)] id1 = 0 := by simp [rn]
  have hr2 : rn [(id1, 0), (id2, 1)] id2 = 1 := by simp [rn, h12]
  have hi := fun nb h1 h2 => index2_spec fr d 0 1 nb (by decide) h1 h2 hl
  simp only [kr, ko, rowsM, outW, fL, fWrs, Option.map_some] at hi
  simp only [ac_86, kr, rowsIn, renL, ren, List.map_cons, List.map_nil, List.zipIdx_cons, List.zipIdx_nil, hr1, hr2, ren_Wrs, TT, ↓reduceIte, Nat.reduceEqDiff, Nat.reduceAdd, Nat.reduceMul, reduceCtorEq, Nat.reduceLeDiff]
  refine ⟨_, hi _ (by omega) (by omega), ?_⟩
  simp only [TT, ↓reduceIte, Nat.reduceEqDiff, Nat.reduceAdd, Nat.reduceMul, reduceCtorEq, Nat.reduceLeDiff]
  exact EndsX.data (.inr rfl) (by simp [ET, idxW_pos]) trivial (keep_kr fr d id1 id2 _ (by simp [ET, fL, fWrs]) (by simp [ET]))
end Go.Proofs.YtdenddhdeloceaaGreatDoor
/- Contracts: disk.Check; point.asked. -/
namespace Go.Proofs.YtdenddhdeloceaaGreatDoor
open Go.RowKit
set_option maxRecDepth 100000
set_option maxHeartbeats 2000000 in
theorem dcheck_spec (fr : Bool) (d : Dk) (nb : Nat) (hl : d.sectors.length ≤ 140737488355328) : ASound Tryz.prog 49 [aDk fr d] nb (.ret (.v (.int .i64 (dkE d))) []) := by
  refine ok_49.sound (by simp) ⟨al_aDk d, trivial⟩ ?_
  by_cases h1 : d.sectors.length < 1
  · have f1 : (d.sectors.length : Int) < 1 := by omega
    rw [dkE_no fun h => h.few (.inl h1)]
    simp only [ac_49, f1, TT, ↓reduceIte, Nat.reduceEqDiff, Nat.reduceAdd, Nat.reduceMul, reduceCtorEq, Nat.reduceLeDiff]
    exact Ends.data (.inr rfl) (by simp [ET]) trivial
  have f1 : ¬ (d.sectors.length : Int) < 1 := by omega
  by_cases h2 : 2048 < d.sectors.length
  · have f2 : (2048 : Int) < (d.sectors.length : Int) := by omega
    rw [dkE_no fun h => h.few (.inr (.inl h2))]
    simp only [ac_49, f1, f2, TT, ↓reduceIte, Nat.reduceEqDiff, Nat.reduceAdd, Nat.reduceMul, reduceCtorEq, Nat.reduceLeDiff]
    exact Ends.data (.inr rfl) (by simp [ET]) trivial
  have f2 : ¬ (2048 : Int) < (d.sectors.length : Int) := by omega
  by_cases h3 : 4096 < d.cache.length
  · have f3 : (4096 : Int) < (d.cache.length : Int) := by omega
    rw [dkE_no fun h => h.few (.inr (.inr h3))]
    simp only [ac_49, f1, f2, f3, TT, ↓reduceIte, Nat.reduceEqDiff, Nat.reduceAdd, Nat.reduceMul, reduceCtorEq, Nat.reduceLeDiff]
    exact Ends.data (.inr rfl) (by simp [ET]) trivial
  have f3 : ¬ (4096 : Int) < (d.cache.length : Int) := by omega
  have c1 := contains1_spec fr d.sectors
  have c2 := fun id1 id2 nb a b c => contains2_spec fr d id1 id2 nb a b c (by omega)
  simp only [fL] at c1
  simp only [kr, ko, rowsM, outW, fL, fWrs, Option.map_some] at c2
  simp only [ac_49, f1, f2, f3, TT, ↓reduceIte, Nat.reduceEqDiff, Nat.reduceAdd, Nat.reduceMul, reduceCtorEq, Nat.reduceLeDiff]
  refine ⟨_, c1 _ hl, ?_⟩
  by_cases b1 : ∃ t ∈ d.sectors, t.length ≠ 64
  · rw [dkE_no fun h => by obtain ⟨t, ht, hne⟩ := b1; exact hne (h.secs t ht)]
    simp only [b1, decide_true, TT, ↓reduceIte, Nat.reduceEqDiff, Nat.reduceAdd, Nat.reduceMul, reduceCtorEq, Nat.reduceLeDiff]
    exact Ends.data (.inr rfl) (by simp [ET]) trivial
  simp only [b1, decide_false, TT, ↓reduceIte, Nat.reduceEqDiff, Nat.reduceAdd, Nat.reduceMul, reduceCtorEq, Nat.reduceLeDiff]
  refine ⟨_, c2 _ _ _ (by decide) (by omega) (by omega), ?_⟩
  by_cases b2 : ∃ w ∈ d.cache, badW d.sectors.length w
  · rw [dkE_no fun h => by obtain ⟨w, hw, hb⟩ := b2; exact h.cache w hw hb]
    simp only [b2, decide_true, TT, ↓reduceIte, Nat.reduceEqDiff, Nat.reduceAdd, Nat.reduceMul, reduceCtorEq, Nat.reduceLeDiff]
    exact Ends.data (.inr rfl) (by simp [ET]) trivial
  · rw [dkE_ok ⟨by omega, fun t ht => Classical.byContradiction fun hne => b1 ⟨t, ht, hne⟩, fun w hw hb => b2 ⟨w, hw, hb⟩⟩]
    simp only [b2, decide_false, TT, ↓reduceIte, Nat.reduceEqDiff, Nat.reduceAdd, Nat.reduceMul, reduceCtorEq, Nat.reduceLeDiff]
    exact Ends.data (.inr rfl) (by simp [ET]) trivial
theorem asked_spec (fr : Bool) (d : Dk) (nb : Nat) (hl : d.sectors.length ≤ 140737488355328) : ASound Tryz.prog 42 [aDk fr d] nb (.ret (.v (.int .i64 (askE d))) []) := by
  refine ok_42.sound (by simp) ⟨al_aDk d, trivial⟩ ?_
  have hc := fun nb => dcheck_spec fr d nb hl
  simp only [aDk, fL, fWrs] at hc
  simp only [ac_42, TT, ↓reduceIte, Nat.reduceEqDiff, Nat.reduceAdd, Nat.reduceMul, reduceCtorEq, Nat.reduceLeDiff]
  refine ⟨_, hc _, ?_⟩
  by_cases h : okD d
  · rw [dkE_ok h]
    by_cases h2 : d.sectors.length < 16
    · have f : (d.sectors.length : Int) < 16 := by omega
      rw [askE_few h h2]
      simp only [f, not_true_eq_false, TT, ↓reduceIte, Nat.reduceEqDiff, Nat.reduceAdd, Nat.reduceMul, reduceCtorEq, Nat.reduceLeDiff]
      exact Ends.data (.inr rfl) (by simp [ET]) trivial
    · have f : ¬ (d.sectors.length : Int) < 16 := by omega
      rw [askE_ok h h2]
      simp only [f, not_true_eq_false, TT, ↓reduceIte, Nat.reduceEqDiff, Nat.reduceAdd, Nat.reduceMul, reduceCtorEq, Nat.reduceLeDiff]
      exact Ends.data (.inr rfl) (by simp [ET]) trivial
  · rw [dkE_no h, askE_no h]
    have e9 : ¬ (9 : Int) = 0 := by decide
    simp only [e9, not_false_eq_true, TT, ↓reduceIte, Nat.reduceEqDiff, Nat.reduceAdd, Nat.reduceMul, reduceCtorEq, Nat.reduceLeDiff]
    exact Ends.data (.inr rfl) (by simp [ET]) trivial
end Go.Proofs.YtdenddhdeloceaaGreatDoor
/- Contracts: slices.Clone; the scripts of a flush and a crash. -/
namespace Go.Proofs.YtdenddhdeloceaaGreatDoor
open Go.RowKit
set_option maxRecDepth 100000
theorem clone1_ok (fr : Bool) (l : List (List Int)) (nb : Nat) (h0 : l ≠ []) (h : l.length ≤ 5864062014805) : ASound Tryz.prog 107 [fL fr l] nb (.ret (.os nb 0 l.length 1) [(nb, some (.row true 22 (eL fr l)))]) := by
  refine ok_107.sound (by simp) ⟨al_fL l, trivial⟩ ?_
  have hn : ¬ l.length = 0 := fun e => h0 (List.eq_nil_of_length_eq_zero e)
  simp only [ac_107, len_L, hn, TT, ↓reduceIte, Nat.reduceEqDiff, Nat.reduceAdd, Nat.reduceMul, reduceCtorEq, Nat.reduceLeDiff]
  rw [if_pos (by omega)]
  exact Ends.rows1 (i := 500000) (r0 := .os 500000 0 l.length 1) (.inr rfl) (by simp [ET]) rfl (al_L l) (by simp [Al]) (by simp [ren, rn])
theorem clone2_ok (fr : Bool) (l : List Wr) (nb : Nat) (h0 : l ≠ []) (h : l.length ≤ 4398046511104) : ASound Tryz.prog 108 [fWrs fr l] nb (.ret (.os nb 0 l.length 2) [(nb, some (.row true 90 (eWrs fr l)))]) := by
  refine ok_108.sound (by simp) ⟨al_fWrs l, trivial⟩ ?_
  have hn : ¬ l.length = 0 := fun e => h0 (List.eq_nil_of_length_eq_zero e)
  simp only [ac_108, len_Wrs, hn, TT, ↓reduceIte, Nat.reduceEqDiff, Nat.reduceAdd, Nat.reduceMul, reduceCtorEq, Nat.reduceLeDiff]
  rw [if_pos (by omega)]
  exact Ends.rows1 (i := 500000) (r0 := .os 500000 0 l.length 2) (.inr rfl) (by simp [ET]) rfl (al_Wrs l) (by simp [Al]) (by simp [ren, rn])
theorem clone2_nil (fr : Bool) (nb : Nat) : ASound Tryz.prog 108 [fWrs fr []] nb (.ret (fWrs true []) []) := by
  refine ASound.nil1 fun A k => ?_
  refine ok_108.sound (by simp) ⟨trivial, trivial⟩ ?_
  cases A with
  | none =>
    simp only [ac_108, TT, ↓reduceIte, Nat.reduceEqDiff, Nat.reduceAdd, Nat.reduceMul, reduceCtorEq, Nat.reduceLeDiff]
    exact Ends.imp (r0 := .v (.slice none 0 0)) (.inr rfl) (by simp [ET]) trivial (Imp.nil true)
  | some A =>
    simp only [ac_108, TT, ↓reduceIte, Nat.reduceEqDiff, Nat.reduceAdd, Nat.reduceMul, reduceCtorEq, Nat.reduceLeDiff]
    refine Ends.weak (Weak.freezeC 500000 rfl (l := [(2, fWrs true [])]) (h := []) ?_ ?_) (Ends.data (.inr rfl) (by simp [ET, fWrs]) (al_fWrs []))
    · simp [WT, eWrs]
    · simp [WT]
theorem allTrue_spec (i : Int) (nb : Nat) : ASound Tryz.prog 80 [.v (.int .i64 i)] nb (.ret (.v (.bool true)) []) := by
  refine ok_80.sound (by simp) ⟨trivial, trivial⟩ ?_
  simp only [ac_80, TT, ↓reduceIte, Nat.reduceEqDiff, Nat.reduceAdd, Nat.reduceMul, reduceCtorEq, Nat.reduceLeDiff]
  exact Ends.data (.inr rfl) (by simp [ET]) trivial
end Go.Proofs.YtdenddhdeloceaaGreatDoor
/- Contract: disk's clone, the cache's row still the caller's. -/
namespace Go.Proofs.YtdenddhdeloceaaGreatDoor
open Go.RowKit
set_option maxRecDepth 100000
theorem clone2_spec (fr : Bool) (l : List Wr) (nb : Nat) (h : l.length ≤ 4398046511104) : ASound Tryz.prog 108 [fWrs fr l] nb (.ret (.os nb 0 l.length 2) [(nb, some (.row true 90 (eWrs fr l)))]) := by
  by_cases h0 : l = []
  · subst h0
    refine ASound.nil1 fun A k => ?_
    refine ok_108.sound (by simp) ⟨trivial, trivial⟩ ?_
    cases A with
    | none =>
      simp only [ac_108, TT, ↓reduceIte, Nat.reduceEqDiff, Nat.reduceAdd, Nat.reduceMul, reduceCtorEq, Nat.reduceLeDiff]
      refine Ends.weak (Weak.virtC 90 2 (l := [(2, .os 400000 0 0 2)]) (h := []) ?_ ?_) (Ends.rows1 (i := 400000) (r0 := .os 400000 0 0 2) (.inr rfl) (by simp [ET]) rfl trivial (by simp [Al]) (by simp [ren, rn]))
      all_goals simp [WT]
    | some A =>
      simp only [ac_108, TT, ↓reduceIte, Nat.reduceEqDiff, Nat.reduceAdd, Nat.reduceMul, reduceCtorEq, Nat.reduceLeDiff]
      exact Ends.rows1 (i := 500000) (r0 := .os 500000 0 0 2) (.inr rfl) (by simp [ET]) rfl trivial (by simp [Al]) (by simp [ren, rn])
  · exact clone2_ok fr l nb h0 h
def mixL (fr : Bool) (l : List (List Int)) (i : Nat) : List AV := eL true (l.take i) ++ eL fr (l.drop i)
theorem mixL_0 (fr : Bool) (l : List (List Int)) : mixL fr l 0 = eL fr l := by simp [mixL, eL]
theorem mixL_all (fr : Bool) (l : List (List Int)) : mixL fr l l.length = eL true l := by simp [mixL, eL]
theorem mixL_len (fr : Bool) (l : List (List Int)) (i : Nat) : (mixL fr l i).length = l.length := by rw [mixL, List.length_append, len_L, len_L, List.length_take, List.length_drop]; omega
theorem mixL_get {fr : Bool} {l : List (List Int)} {i : Nat} {t : List Int} (h : l[i]? = some t) : (mixL fr l i)[i]? = some (.fs fr (eB t) t.length) := by
  have hi := (List.getElem?_eq_some_iff.1 h).1
  have hl : (eL true (l.take i)).length = i := by rw [len_L, List.length_take_of_le (by omega)]
  rw [mixL, List.getElem?_append_right (by omega), hl, Nat.sub_self]
  exact get_L (by rw [List.getElem?_drop]; exact h)
theorem mixL_set {fr : Bool} {l : List (List Int)} {i : Nat} {t : List Int} (h : l[i]? = some t) : (mixL fr l i).set i (.fs true (eB t) t.length) = mixL fr l (i + 1) := by
  have hi := List.getElem?_eq_some_iff.1 h
  have hi1 := hi.1
  have hl : (eL true (l.take i)).length = i := by rw [len_L, List.length_take_of_le (by omega)]
  unfold mixL
  rw [List.set_append, if_neg (by omega), hl, Nat.sub_self, List.drop_eq_getElem_cons hi.1, hi.2, take_snoc h, app_L, List.append_assoc]
  rfl
theorem al_mixL {p : Nat → Prop} (fr : Bool) (l : List (List Int)) (i : Nat) : AlL p (mixL fr l i) := by
  rw [mixL, AlL_append]; exact ⟨al_L _, al_L _⟩
theorem ren_mixL {ρ : Nat → Nat} (fr : Bool) (l : List (List Int)) (i : Nat) : renL ρ (mixL fr l i) = mixL fr l i := renL_id (p := fun _ => False) (fun _ h => h.elim) (al_mixL fr l i)
def mixW (fr : Bool) (l : List Wr) (i : Nat) : List AV := eWrs true (l.take i) ++ eWrs fr (l.drop i)
theorem mixW_0 (fr : Bool) (l : List Wr) : mixW fr l 0 = eWrs fr l := by simp [mixW, eWrs]
theorem mixW_all (fr : Bool) (l : List Wr) : mixW fr l l.length = eWrs true l := by simp [mixW, eWrs]
theorem mixW_len (fr : Bool) (l : List Wr) (i : Nat) : (mixW fr l i).length = l.length * 2 := by rw [mixW, List.length_append, len_Wrs, len_Wrs, List.length_take, List.length_drop]; omega
theorem al_mixW {p : Nat → Prop} (fr : Bool) (l : List Wr) (i : Nat) : AlL p (mixW fr l i) := by
  rw [mixW, AlL_append]; exact ⟨al_Wrs _, al_Wrs _⟩
theorem ren_mixW {ρ : Nat → Nat} (fr : Bool) (l : List Wr) (i : Nat) : renL ρ (mixW fr l i) = mixW fr l i := renL_id (p := fun _ => False) (fun _ h => h.elim) (al_mixW fr l i)
theorem mixW_get {fr : Bool} {l : List Wr} {i : Nat} {w : Wr} (h : l[i]? = some w) : (mixW fr l i)[i * 2 + 1]? = some (.fs fr (eB w.data) w.data.length) := by
  have hi := (List.getElem?_eq_some_iff.1 h).1
  have hl : (eWrs true (l.take i)).length = i * 2 := by rw [len_Wrs, List.length_take_of_le (by omega)]
  rw [mixW, List.getElem?_append_right (by omega), hl, show i * 2 + 1 - i * 2 = 0 * 2 + 1 from by omega]
  exact (get_Wrs (fr := fr) (l := l.drop i) (i := 0) (w := w) (by rw [List.getElem?_drop]; exact h)).2
theorem mixW_set {fr : Bool} {l : List Wr} {i : Nat} {w : Wr} (h : l[i]? = some w) : (mixW fr l i).set (i * 2 + 1) (.fs true (eB w.data) w.data.length) = mixW fr l (i + 1) := by
  have hi := List.getElem?_eq_some_iff.1 h
  have hi1 := hi.1
  have hl : (eWrs true (l.take i)).length = i * 2 := by rw [len_Wrs, List.length_take_of_le (by omega)]
  unfold mixW
  rw [List.set_append, if_neg (by omega), hl, show i * 2 + 1 - i * 2 = 1 from by omega, List.drop_eq_getElem_cons hi.1, hi.2, take_snoc h, app_Wrs, List.append_assoc]
  rfl
abbrev L_c1 (fr : Bool) (d : Dk) (i : Nat) : ASt := ⟨envOf [(2, .op 0 0), (3, .op 1 0), (15, .v (.int .i64 d.sectors.length)), (16, .v (.int .i64 i))],
  heapOf [(0, zP), (1, .row true 50 [.os 2 0 d.sectors.length 1, .os 3 0 d.cache.length 2]), (2, .row true 22 (mixL fr d.sectors i)), (3, .row true 90 (eWrs fr d.cache))], 4⟩
abbrev L_c2 (fr : Bool) (d : Dk) (i : Nat) : ASt := ⟨envOf [(2, .op 0 0), (3, .op 1 0), (32, .v (.int .i64 d.cache.length)), (33, .v (.int .i64 i))],
  heapOf [(0, zP), (1, .row true 50 [.os 2 0 d.sectors.length 1, .os 3 0 d.cache.length 2]), (2, .row true 22 (eL true d.sectors)), (3, .row true 90 (mixW fr d.cache i))], 4⟩
set_option maxHeartbeats 2000000 in
theorem clone_put (fr : Bool) (d : Dk) (nb : Nat) (h : okD d) : ASound Tryz.prog 87 [aDk fr d] nb (.ret (.agg [fL true d.sectors, .os nb 0 d.cache.length 2]) [(nb, some (.row true 90 (eWrs true d.cache)))]) := by
  refine ok_87.sound (by simp) ⟨al_aDk d, trivial⟩ ?_
  have hf := h.few
  have hne : d.sectors ≠ [] := fun e => hf (.inl (by rw [e]; decide))
  have c1 := clone1_ok fr d.sectors
  have c2 := clone2_spec fr d.cache
  simp only [fL] at c1
  simp only [fWrs] at c2
  simp only [ac_87, TT, ↓reduceIte, Nat.reduceEqDiff, Nat.reduceAdd, Nat.reduceMul, reduceCtorEq, Nat.reduceLeDiff]
  refine ⟨_, c1 _ hne (by omega), ?_⟩
  simp only [TT, ↓reduceIte, Nat.reduceEqDiff, Nat.reduceAdd, Nat.reduceMul, reduceCtorEq, Nat.reduceLeDiff]
  refine ⟨_, c2 _ (by omega), ?_⟩
  simp only [TT, ↓reduceIte, Nat.reduceEqDiff, Nat.reduceAdd, Nat.reduceMul, reduceCtorEq, Nat.reduceLeDiff]
  refine ⟨by rfl, ?_⟩
  refine AWc.family (L_c1 fr d) (fun i => i ≤ d.sectors.length) (fun i => d.sectors.length - i) 0 (Nat.zero_le _) ?_ ?_
  · refine Weak.calc [(100000, 0), (900000, 1), (400000, 2), (700000, 3)] (by decide) ?_ ?_ <;> simp [WT, mixL_0]
  · intro i hi
    by_cases hlt : i < d.sectors.length
    · obtain ⟨t, hx, e1, e0⟩ := lt_at hlt
      have hb := bytesClone_spec fr t
      simp only [fB] at hb
      have hml := mixL_len fr d.sectors i
      simp only [L_c1, e1, e0, Int.toNat_natCast, Nat.zero_add, mixL_get hx, TT, ↓reduceIte, Nat.reduceEqDiff, Nat.reduceAdd, Nat.reduceMul, reduceCtorEq, Nat.reduceLeDiff]
      refine ⟨_, hb _ (okD_secs h t (List.mem_of_getElem? hx)), ?_⟩
      simp only [e1, e0, Int.toNat_natCast, Nat.zero_add, mixL_set hx, hml, TT, ↓reduceIte, Nat.reduceEqDiff, Nat.reduceAdd, Nat.reduceMul, reduceCtorEq, Nat.reduceLeDiff]
      rw [if_pos (by omega)]
      refine ⟨by rfl, ?_⟩
      refine famC_next (i + 1) (by omega) (by omega) ?_
      refine Weak.calc [(0, 0), (1, 1), (2, 2), (3, 3)] (by decide) ?_ ?_ <;> simp [WT, al_mixL, ren_mixL, wrap64 (x := (i : Int) + 1) (by omega)]
    · obtain rfl : i = d.sectors.length := by omega
      have e1 : ¬ ((d.sectors.length : Int) < (d.sectors.length : Int)) := by omega
      simp only [L_c1, e1, mixL_all, TT, ↓reduceIte, Nat.reduceEqDiff, Nat.reduceAdd, Nat.reduceMul, reduceCtorEq, Nat.reduceLeDiff]
      refine AWc.family (L_c2 fr d) (fun i => i ≤ d.cache.length) (fun i => d.cache.length - i) 0 (Nat.zero_le _) ?_ ?_
      · refine Weak.calc [(0, 0), (1, 1), (2, 2), (3, 3)] (by decide) ?_ ?_ <;> simp [WT, mixW_0]
      · intro i hi
        by_cases hlt : i < d.cache.length
        · obtain ⟨w, hx, e1, e0⟩ := lt_at hlt
          have hb := bytesClone_spec fr w.data
          simp only [fB] at hb
          have hml := mixW_len fr d.cache i
          simp only [L_c2, e1, e0, Int.toNat_natCast, Nat.zero_add, mixW_get hx, TT, ↓reduceIte, Nat.reduceEqDiff, Nat.reduceAdd, Nat.reduceMul, reduceCtorEq, Nat.reduceLeDiff]
          refine ⟨_, hb _ (okD_data h w (List.mem_of_getElem? hx)), ?_⟩
          simp only [e1, e0, Int.toNat_natCast, Nat.zero_add, mixW_set hx, hml, TT, ↓reduceIte, Nat.reduceEqDiff, Nat.reduceAdd, Nat.reduceMul, reduceCtorEq, Nat.reduceLeDiff]
          rw [if_pos (by omega)]
          refine ⟨by rfl, ?_⟩
          refine famC_next (i + 1) (by omega) (by omega) ?_
          refine Weak.calc [(0, 0), (1, 1), (2, 2), (3, 3)] (by decide) ?_ ?_ <;> simp [WT, al_mixW, ren_mixW, wrap64 (x := (i : Int) + 1) (by omega)]
        · obtain rfl : i = d.cache.length := by omega
          have e1 : ¬ ((d.cache.length : Int) < (d.cache.length : Int)) := by omega
          simp only [L_c2, e1, mixW_all, TT, ↓reduceIte, Nat.reduceEqDiff, Nat.reduceAdd, Nat.reduceMul, reduceCtorEq, Nat.reduceLeDiff]
          refine Ends.weak (Weak.freezeC 2 rfl (l := [(2, .op 0 0)]) (h := [(0, .row true 50 [fL true d.sectors, .os 3 0 d.cache.length 2]), (3, .row true 90 (eWrs true d.cache))]) ?_ ?_) ?_
          · simp [WT]
          · simp [WT]
          exact Ends.rows1 (i := 3) (r0 := .agg [fL true d.sectors, .os 3 0 d.cache.length 2]) (.inr rfl) (by simp [ET]) rfl (al_Wrs _) ⟨al_fL _, by simp [Al], trivial⟩ (by simp [ren, renL, rn, fL, ren_L])
end Go.Proofs.YtdenddhdeloceaaGreatDoor
/- Contract: the document's disk: sectors of zeros. -/
namespace Go.Proofs.YtdenddhdeloceaaGreatDoor
open Go.RowKit
set_option maxRecDepth 100000
abbrev L_rnw (n i : Nat) : ASt := ⟨envOf [(0, .v (.int .i64 n)), (2, .op 0 0), (4, .op 1 0), (5, .v (.int .i64 i))],
  heapOf [(0, zD), (1, .row true 47 [.os 2 0 i 1, .v (.slice none 0 0)]), (2, .row true 22 (eL true (List.replicate i zs)))], 3⟩
set_option maxHeartbeats 1000000 in
theorem rnew_spec (n : Nat) (nb : Nat) (h1 : 1 ≤ n) (h2 : n ≤ 2048) : ASound Tryz.prog 30 [.v (.int .i64 n)] nb (.ret (.tup [aDk true (zerosD n), .v (.int .i64 0)]) []) := by
  refine ok_30.sound (by simp) ⟨trivial, trivial⟩ ?_
  have f1 : ¬ ((n : Int) < 1) := by omega
  have f2 : ¬ ((2048 : Int) < (n : Int)) := by omega
  have t6 : Int.toNat 64 = 64 := rfl
  simp only [ac_30, f1, f2, TT, ↓reduceIte, Nat.reduceEqDiff, Nat.reduceAdd, Nat.reduceMul, reduceCtorEq, Nat.reduceLeDiff]
  refine AWc.family (L_rnw n) (fun i => i ≤ n) (fun i => n - i) 0 (Nat.zero_le _) ?_ ?_
  · refine Weak.trans (Weak.virtC 22 1 (l := [(0, .v (.int .i64 n)), (2, .op 0 0), (4, .op 800000 0), (5, .v (.int .i64 0))])
      (h := [(0, zD), (800000, .row true 47 [.os 1000000 0 0 1, .v (.slice none 0 0)])]) ?_ ?_) (Weak.calc [(0, 0), (800000, 1), (1000000, 2)] (by decide) ?_ ?_)
    all_goals simp [WT, eL]
  · intro i hi
    by_cases hlt : i < n
    · have e1 : ((i : Int) < (n : Int)) := by omega
      have hl : (eL true (List.replicate i zs)).length = i := by rw [len_L, List.length_replicate]
      have hcs : eL true (List.replicate i zs) ++ [AV.fs true (eB zs) 64] = eL true (List.replicate (i + 1) zs) := by rw [List.replicate_succ', app_L]; rfl
      have hz : eB (List.replicate 64 0) = eB zs := rfl
      simp only [L_rnw, e1, t6, rep_B, hz, hl, TT, ↓reduceIte, Nat.reduceEqDiff, Nat.reduceAdd, Nat.reduceMul, reduceCtorEq, Nat.reduceLeDiff]
      rw [if_pos (by decide), if_pos (by omega)]
      refine ⟨by rfl, ?_⟩
      refine famC_next (i + 1) (by omega) (by omega) ?_
      refine Weak.trans (Weak.freezeC 500003 rfl (l := [(0, .v (.int .i64 n)), (2, .op 0 0), (4, .op 1 0), (5, .v (.int .i64 (IntKind.i64.wrap ((i : Int) + 1))))])
        (h := [(0, zD), (1, .row true 47 [.os 700003 0 (i + 1) 1, .v (.slice none 0 0)]), (700003, .row true 22 (eL true (List.replicate i zs) ++ [.fs true (eB zs) 64]))]) ?_ ?_) ?_
      · simp [WT]
      · have htz : List.take 64 (eB zs) = eB zs := rfl
        simp [WT, htz]
        refine .inr ⟨i, 64, 1, ?_, ?_⟩
        · rw [List.getElem?_append_right (by omega), hl, Nat.sub_self]; rfl
        · rw [List.set_append, if_neg (by omega), hl, Nat.sub_self]; rfl
      · rw [hcs]
        refine Weak.calc [(0, 0), (1, 1), (700003, 2)] (by decide) ?_ ?_ <;> simp [WT, wrap64 (x := (i : Int) + 1) (by omega)]
    · obtain rfl : i = n := by omega
      have e1 : ¬ ((i : Int) < (i : Int)) := by omega
      simp only [L_rnw, e1, TT, ↓reduceIte, Nat.reduceEqDiff, Nat.reduceAdd, Nat.reduceMul, reduceCtorEq, Nat.reduceLeDiff]
      refine Ends.weak (Weak.freezeC 2 rfl (l := [(2, .op 0 0), (3, .v (.int .i64 0))]) (h := [(0, .row true 47 [fL true (List.replicate i zs), .v (.slice none 0 0)])]) ?_ ?_) (Ends.imp (r0 := .tup [.agg [fL true (List.replicate i zs), .v (.slice none 0 0)], .v (.int .i64 0)]) (.inr rfl) (by simp [ET]) ⟨⟨al_fL _, trivial, trivial⟩, trivial, trivial⟩ (imp_zeros i))
      · simp [WT]
      · have htk : List.take i (eL true (List.replicate i zs)) = eL true (List.replicate i zs) := List.take_of_length_le (by rw [len_L, List.length_replicate]; exact Nat.le_refl _)
        simp [WT, htk]
end Go.Proofs.YtdenddhdeloceaaGreatDoor
/- Contract: bytes.Clone of octets that are there, the row the caller's. -/
namespace Go.Proofs.YtdenddhdeloceaaGreatDoor
open Go.RowKit
set_option maxRecDepth 100000
theorem bytesClone_os (fr : Bool) (l : List Int) (nb : Nat) (h : l.length ≤ 140737488355328) (h0 : l ≠ []) : ASound Tryz.prog 95 [fB fr l] nb (.ret (.os nb 0 l.length 1) [(nb, some (.row true 5 (eB l)))]) := by
  have hn : ¬ l.length = 0 := fun e => h0 (List.eq_nil_of_length_eq_zero e)
  refine ok_95.sound (by simp) ⟨al_fB l, trivial⟩ ?_
  simp only [ac_95, len_B, h, hn, TT, ↓reduceIte, Nat.reduceEqDiff, Nat.reduceAdd, Nat.reduceMul, reduceCtorEq, Nat.reduceLeDiff]
  exact Ends.rows1 (i := 500000) (r0 := .os 500000 0 l.length 1) (.inr rfl) (by simp [ET]) rfl (al_B l) (by simp [Al]) (by simp [ren, rn])
end Go.Proofs.YtdenddhdeloceaaGreatDoor
/- What is known now, in other names, with a family of rows (pure cells) that keeps its names. -/
namespace Go.Proofs.YtdenddhdeloceaaGreatDoor
open Go.RowKit
variable {P : Program} {N m : Nat}
def famR (b k : Nat) : List (Nat × Nat) := (List.range k).map fun j => (b + j, b + j)
theorem famR_mem {b k : Nat} {p : Nat × Nat} : p ∈ famR b k ↔ p.1 = p.2 ∧ b ≤ p.1 ∧ p.1 < b + k := by
  unfold famR
  rw [List.mem_map]
  constructor
  · rintro ⟨j, hj, rfl⟩; rw [List.mem_range] at hj; exact ⟨rfl, by simp only; omega, by simp only; omega⟩
  · rintro ⟨h1, h2, h3⟩
    refine ⟨p.1 - b, by rw [List.mem_range]; omega, ?_⟩
    obtain ⟨x, y⟩ := p
    simp only at h1 h2 h3 ⊢
    subst h1
    simp only [Prod.mk.injEq]; omega
theorem famR_1 (b k : Nat) : (famR b k).map (·.1) = (List.range k).map (b + ·) := by simp [famR, List.map_map, Function.comp_def]
theorem famR_2 (b k : Nat) : (famR b k).map (·.2) = (List.range k).map (b + ·) := by simp [famR, List.map_map, Function.comp_def]
theorem range_nodup (b k : Nat) : ((List.range k).map (b + ·)).Nodup := by
  rw [List.Nodup, List.pairwise_map]
  exact List.nodup_range.imp fun h => by intro e; exact h (by omega)
theorem mem_rangeb {b k i : Nat} : i ∈ (List.range k).map (b + ·) ↔ b ≤ i ∧ i < b + k := by
  rw [List.mem_map]
  constructor
  · rintro ⟨j, hj, rfl⟩; rw [List.mem_range] at hj; omega
  · rintro ⟨h1, h2⟩; exact ⟨i - b, by rw [List.mem_range]; omega, by omega⟩
theorem Weak.toF {s : ASt} (re : List (Nat × Nat)) (b k : Nat) (l : List (Nat × AV)) (h : List (Nat × AObj)) (f : Nat → AObj) (nx : Nat)
    (h1 : (re.map (·.1)).Nodup) (h2 : (re.map (·.2)).Nodup) (h3 : ∀ p ∈ re, (p.1 < m → p.2 = p.1) ∧ (m ≤ p.1 → m ≤ p.2) ∧ p.2 < nx) (hm : m ≤ nx) (hb : m ≤ b) (hk : b + k ≤ nx)
    (hs : ∀ p ∈ re, (p.1 < b ∨ b + k ≤ p.1) ∧ (p.2 < b ∨ b + k ≤ p.2))
    (hl : ∀ t v, (t, v) ∈ l → Al (fun i => i ∈ (re ++ famR b k).map (·.1)) (s.env t) ∧ Imp (ren (rn (re ++ famR b k)) (s.env t)) v)
    (hh : ∀ j o, (j, o) ∈ h → ∃ i y e cells, (i, j) ∈ re ∧ s.σ i = some (.row y e cells) ∧ AlL (fun i => i ∈ (re ++ famR b k).map (·.1)) cells ∧ o = .row y e (renL (rn (re ++ famR b k)) cells))
    (hf : ∀ j, j < k → ∃ y e cells, s.σ (b + j) = some (.row y e cells) ∧ PuL cells ∧ f j = .row y e cells) :
    Weak N m s ⟨envOf l, heapOf (h ++ famL b k f), nx⟩ := by
  refine Weak.to (re ++ famR b k) l (h ++ famL b k f) nx ?_ ?_ ?_ hm hl ?_
  · rw [List.map_append, famR_1, List.nodup_append]
    refine ⟨h1, range_nodup b k, fun a ha c hc e => ?_⟩
    rw [mem_rangeb] at hc
    obtain ⟨p, hp, rfl⟩ := List.mem_map.1 ha
    have := (hs p hp).1; omega
  · rw [List.map_append, famR_2, List.nodup_append]
    refine ⟨h2, range_nodup b k, fun a ha c hc e => ?_⟩
    rw [mem_rangeb] at hc
    obtain ⟨p, hp, rfl⟩ := List.mem_map.1 ha
    have := (hs p hp).2; omega
  · intro p hp
    rcases List.mem_append.1 hp with hp | hp
    · exact h3 p hp
    · rw [famR_mem] at hp
      exact ⟨fun _ => hp.1.symm, fun hx => by omega, by omega⟩
  · intro j o hj
    rcases List.mem_append.1 hj with hj | hj
    · obtain ⟨i, y, e, cells, k1, k2⟩ := hh j o hj
      exact ⟨i, y, e, cells, List.mem_append_left _ k1, k2⟩
    · obtain ⟨q, hq, e1⟩ := List.mem_map.1 hj
      rw [List.mem_range] at hq
      cases e1
      obtain ⟨y, e, cells, k1, k2, k3⟩ := hf q hq
      refine ⟨b + q, y, e, cells, List.mem_append_right _ (famR_mem.2 ⟨rfl, by simp only; omega, by simp only; omega⟩), k1, AlL.mono (fun _ h => h.elim) k2, ?_⟩
      rw [k3, renL_id (p := fun _ => False) (fun _ h => h.elim) k2]
end Go.Proofs.YtdenddhdeloceaaGreatDoor
/- A family of rows is written no more. -/
namespace Go.Proofs.YtdenddhdeloceaaGreatDoor
open Go.RowKit
variable {P : Program} {N m : Nat}
def osR (b k : Nat) (g : Nat → List AV) : List AV := (List.range k).map fun j => .os (b + j) 0 (g j).length 1
def fsR (k : Nat) (g : Nat → List AV) : List AV := (List.range k).map fun j => .fs true (g j) (g j).length
theorem osR_s (b k : Nat) (g : Nat → List AV) : osR b (k + 1) g = osR b k g ++ [.os (b + k) 0 (g k).length 1] := by simp [osR, List.range_succ]
theorem fsR_s (k : Nat) (g : Nat → List AV) : fsR (k + 1) g = fsR k g ++ [.fs true (g k) (g k).length] := by simp [fsR, List.range_succ]
theorem famL_s (b k : Nat) (f : Nat → AObj) : famL b (k + 1) f = famL b k f ++ [(b + k, f k)] := by simp [famL, List.range_succ]
theorem heapOf_famS (h : List (Nat × AObj)) (b k : Nat) (f : Nat → AObj) : heapOf ((h ++ [(b + k, f k)]) ++ famL b k f) = heapOf (h ++ famL b (k + 1) f) := by
  funext i
  rw [List.append_assoc]
  simp only [heapOf_append (l := h), heapOf_append (l := [(b + k, f k)])]
  cases heapOf h i with
  | some o => rfl
  | none =>
    simp only
    rw [s_heapFam, s_heapFam]
    by_cases hi : i = b + k
    · subst hi
      rw [if_pos (show b ≤ b + k ∧ b + k < b + (k + 1) by omega), show b + k - b = k from by omega]
      simp [heapOf]
    · by_cases h1 : b ≤ i ∧ i < b + k
      · rw [if_pos h1, if_pos (show b ≤ i ∧ i < b + (k + 1) by omega)]; simp [heapOf, hi]
      · rw [if_neg h1, if_neg (show ¬ (b ≤ i ∧ i < b + (k + 1)) by omega)]; simp [heapOf, hi]
theorem Weak.freezeF (b : Nat) (l : List (Nat × AV)) (h0 : List (Nat × AObj)) (sid e e5 : Nat) (y : Bool) (g : Nat → List AV) (nx : Nat) (hb : ∀ p ∈ h0, p.1 < b) (hsb : sid < b) (hh0 : ∀ j o, (j, o) ∈ h0 → heapOf h0 j = some o) (hs0 : heapOf h0 sid = none)
    (hl : ∀ t v, (t, v) ∈ l → envOf l t = v) :
    ∀ (k : Nat) (D : List AV), Weak N m ⟨envOf l, heapOf (h0 ++ (sid, .row y e (osR b k g ++ D)) :: famL b k (fun j => .row true e5 (g j))), nx⟩ ⟨envOf l, heapOf (h0 ++ [(sid, .row y e (fsR k g ++ D))]), nx⟩
  | 0, D => Weak.refl _
  | k + 1, D => by
    have look : ∀ (j : Nat) (o : AObj), (j, o) ∈ h0 → heapOf (h0 ++ (sid, .row y e (osR b (k + 1) g ++ D)) :: famL b (k + 1) (fun j => .row true e5 (g j))) j = some o := fun j o hj => by rw [heapOf_append, hh0 j o hj]
    have none0 : ∀ i, b ≤ i → heapOf h0 i = none := fun i hi => by
      cases hx : heapOf h0 i with
      | none => rfl
      | some o =>
        exfalso
        have : ∀ (q : List (Nat × AObj)), heapOf q i = some o → ∃ p ∈ q, p.1 = i := by
          intro q
          induction q with
          | nil => intro h; cases h
          | cons p q ih =>
            intro h
            obtain ⟨a, c⟩ := p
            rw [heapOf] at h
            split at h
            · rename_i e1; exact ⟨(a, c), by simp, e1.symm⟩
            · obtain ⟨p, hp, he⟩ := ih h; exact ⟨p, by simp [hp], he⟩
        obtain ⟨p, hp, he⟩ := this h0 hx
        have := hb p hp; omega
    have lookS : heapOf (h0 ++ (sid, .row y e (osR b (k + 1) g ++ D)) :: famL b (k + 1) (fun j => .row true e5 (g j))) sid = some (.row y e (osR b (k + 1) g ++ D)) := by
      rw [heapOf_append, hs0, heapOf, if_pos rfl]
    have lookF : ∀ j, j < k + 1 → heapOf (h0 ++ (sid, .row y e (osR b (k + 1) g ++ D)) :: famL b (k + 1) (fun j => .row true e5 (g j))) (b + j) = some (.row true e5 (g j)) := fun j hj => by
      rw [heapOf_append, none0 _ (by omega), heapOf, if_neg (by omega), s_heapFam, if_pos (by omega)]
      rw [show b + j - b = j from by omega]
    have ih := Weak.freezeF b l h0 sid e e5 y g nx hb hsb hh0 hs0 hl k (.fs true (g k) (g k).length :: D)
    rw [fsR_s, List.append_assoc]
    refine Weak.trans (Weak.freeze (b + k) (lookF k (by omega)) l (h0 ++ (sid, .row y e (osR b k g ++ .fs true (g k) (g k).length :: D)) :: famL b k (fun j => .row true e5 (g j))) (fun t v ht => .inl (.inl (hl t v ht).symm)) ?_) ih
    intro j o hj
    rcases List.mem_append.1 hj with hj | hj
    · have := hb _ hj
      cases o with
      | row y' e' cs => exact ⟨by simp only at this; omega, y', e', cs, cs, look j _ hj, rfl, rfl, fun q x' hx => ⟨x', hx, .inl rfl⟩⟩
    · rcases List.mem_cons.1 hj with hj | hj
      · cases hj
        refine ⟨by omega, y, e, _, _, lookS, rfl, by rw [osR_s]; simp, fun q x' hx => ?_⟩
        rw [osR_s]
        have hlen : (osR b k g).length = k := by simp [osR]
        by_cases hq : q < k
        · rw [List.getElem?_append_left (by omega)] at hx
          exact ⟨x', by rw [List.append_assoc, List.getElem?_append_left (by omega)]; exact hx, .inl rfl⟩
        · rw [List.getElem?_append_right (by omega), hlen] at hx
          rw [List.append_assoc, List.getElem?_append_right (by omega), hlen]
          cases hqk : q - k with
          | zero =>
            rw [hqk] at hx
            simp at hx
            subst hx
            refine ⟨.os (b + k) 0 (g k).length 1, rfl, .inr (.inr (.inl ⟨0, (g k).length, 1, rfl, ?_⟩))⟩
            rw [List.drop_zero, Nat.mul_one, List.take_length]
          | succ r =>
            rw [hqk] at hx
            exact ⟨x', by simpa using hx, .inl rfl⟩
      · obtain ⟨q, hq, e1⟩ := List.mem_map.1 hj
        rw [List.mem_range] at hq
        cases e1
        exact ⟨by omega, true, e5, g q, g q, lookF q (by omega), rfl, rfl, fun r x' hx => ⟨x', hx, .inl rfl⟩⟩
end Go.Proofs.YtdenddhdeloceaaGreatDoor
/- A function is done whose result is a row that names a family of rows. -/
namespace Go.Proofs.YtdenddhdeloceaaGreatDoor
open Go.RowKit
variable {P : Program} {N m : Nat} {s : ASt} {nb : Nat}
def famI (sid b k : Nat) : List Nat := sid :: (List.range k).map (b + ·)
theorem famI_nodup {sid b k : Nat} (h : sid < b) : (famI sid b k).Nodup := by
  rw [famI, List.nodup_cons]
  exact ⟨fun hx => by rw [mem_rangeb] at hx; omega, range_nodup b k⟩
theorem zip_1 (l : List Nat) (nb : Nat) : (l.zipIdx nb).map (·.1) = l := by
  induction l generalizing nb with
  | nil => rfl
  | cons x l ih => rw [List.zipIdx_cons, List.map_cons, ih]
theorem rn_fam {sid b k nb : Nat} (h : sid < b) : rn ((famI sid b k).zipIdx nb) sid = nb ∧ ∀ j, j < k → rn ((famI sid b k).zipIdx nb) (b + j) = nb + 1 + j := by
  have hn : (((famI sid b k).zipIdx nb).map (·.1)).Nodup := by rw [zip_1]; exact famI_nodup h
  constructor
  · exact rn_mem (p := (sid, nb)) (by rw [famI, List.zipIdx_cons]; simp) hn
  · intro j hj
    refine rn_mem (p := (b + j, nb + 1 + j)) ?_ hn
    rw [List.mem_iff_getElem?]
    refine ⟨j + 1, ?_⟩
    rw [List.getElem?_zipIdx]
    simp only [famI, List.getElem?_cons_succ, List.getElem?_map, List.getElem?_range hj, Option.map_some, Option.some.injEq, Prod.mk.injEq, true_and]
    omega
def famW (e5 k : Nat) (g : Nat → List AV) : List (Bool × Nat × List AV) := (List.range k).map fun j => (true, e5, g j)
theorem Ends.fam {rs : List RV} {r r0 : AV} {e : Exit} {sid b k el e5 : Nat} {y : Bool} {g : Nat → List AV} (he : e = .normal ∨ e = .ret) (h : (resL s rs).map tupOf = some r0) (hsb : sid < b) (hk : k < 100000)
    (hσ : s.σ sid = some (.row y el (osR b k g))) (hf : ∀ j, j < k → s.σ (b + j) = some (.row true e5 (g j))) (hp : ∀ j, j < k → PuL (g j))
    (ha : Al (fun j => j ∈ [sid]) r0) (hr : ∀ ρ : Nat → Nat, ρ sid = nb → ren ρ r0 = r) : Ends N rs nb r ((((y, el, osR (nb + 1) k g) :: famW e5 k g).zipIdx nb).map (fun x => (x.2, some (AObj.row x.1.1 x.1.2.1 x.1.2.2)))) e s := by
  obtain ⟨l, h1, h2⟩ := Option.map_eq_some_iff.1 h
  obtain ⟨r1, r2⟩ := rn_fam (k := k) (nb := nb) hsb
  refine ⟨he, s, Weak.refl s, famI sid b k, ⟨famI_nodup hsb, by simp [famI]; omega, ⟨l, h1, by rw [h2]; exact Al.mono (fun i hi => by simp at hi; subst hi; simp [famI]) ha, by rw [h2, hr _ r1]; exact Imp.refl r⟩, (y, el, osR (nb + 1) k g) :: famW e5 k g, by simp [famI, famW], rfl, fun q i hq => ?_⟩⟩
  cases q with
  | zero =>
    simp [famI] at hq
    subst hq
    refine ⟨y, el, osR b k g, hσ, ?_, osR (nb + 1) k g, rfl, by simp [osR], fun q a' hq => ?_⟩
    · rw [AlL_iff]
      intro a hx
      obtain ⟨j, hj, rfl⟩ := List.mem_map.1 hx
      rw [List.mem_range] at hj
      show b + j ∈ famI sid b k
      exact List.mem_cons_of_mem _ (mem_rangeb.2 ⟨by omega, by omega⟩)
    · have hqk : q < k := by have := (List.getElem?_eq_some_iff.1 hq).1; simpa [osR] using this
      simp only [osR, List.getElem?_map, List.getElem?_range hqk, Option.map_some, Option.some.injEq] at hq
      subst hq
      refine ⟨.os (b + q) 0 (g q).length 1, by simp [osR, hqk], ?_⟩
      simp only [ren]
      rw [r2 q hqk]
      exact Imp.refl _
  | succ q =>
    simp only [famI, List.getElem?_cons_succ] at hq
    have hqk : q < k := by have := (List.getElem?_eq_some_iff.1 hq).1; simpa using this
    rw [List.getElem?_map, List.getElem?_range hqk] at hq
    simp at hq
    subst hq
    refine ⟨true, e5, g q, hf q hqk, AlL.mono (fun _ h => h.elim) (hp q hqk), g q, by simp [famW, hqk], rfl, fun j a' hj => ⟨a', hj, ?_⟩⟩
    rw [ren_id (p := fun _ => False) (fun _ h => h.elim) (AlL_iff.1 (hp q hqk) a' (List.mem_of_getElem? hj))]
    exact Imp.refl a'
end Go.Proofs.YtdenddhdeloceaaGreatDoor
/- Contract: disk's clone, the sectors' rows still the caller's. -/
namespace Go.Proofs.YtdenddhdeloceaaGreatDoor
open Go.RowKit
set_option maxRecDepth 100000
def gS (d : Dk) (j : Nat) : List AV := eB ((d.sectors[j]?).getD [])
def mixF (fr : Bool) (d : Dk) (i : Nat) : List AV := osR 10 i (gS d) ++ eL fr (d.sectors.drop i)
theorem mixF_len (fr : Bool) (d : Dk) {i : Nat} (h : i ≤ d.sectors.length) : (mixF fr d i).length = d.sectors.length := by
  rw [mixF, List.length_append, len_L, List.length_drop]; simp [osR]; omega
theorem mixF_get {fr : Bool} {d : Dk} {i : Nat} {t : List Int} (h : d.sectors[i]? = some t) : (mixF fr d i)[i]? = some (.fs fr (eB t) t.length) := by
  have hl : (osR 10 i (gS d)).length = i := by simp [osR]
  rw [mixF, List.getElem?_append_right (by omega), hl, Nat.sub_self]
  exact get_L (by rw [List.getElem?_drop]; exact h)
theorem mixF_set {fr : Bool} {d : Dk} {i : Nat} {t : List Int} (h : d.sectors[i]? = some t) (a : AV) : (mixF fr d i).set i a = osR 10 i (gS d) ++ a :: eL fr (d.sectors.drop (i + 1)) := by
  have hi := List.getElem?_eq_some_iff.1 h
  have hl : (osR 10 i (gS d)).length = i := by simp [osR]
  unfold mixF
  rw [List.set_append, if_neg (by omega), hl, Nat.sub_self, List.drop_eq_getElem_cons hi.1]
  rfl
theorem mixF_0 (fr : Bool) (d : Dk) : mixF fr d 0 = eL fr d.sectors := by simp [mixF, osR]
abbrev famS (d : Dk) (i : Nat) : List (Nat × AObj) := famL 10 i (fun j => .row true 5 (gS d j))
abbrev fixC (fr : Bool) (d : Dk) (i : Nat) : List (Nat × AObj) := [(0, zP), (1, .row true 50 [.os 2 0 d.sectors.length 1, .os 3 0 d.cache.length 2]), (2, .row true 22 (mixF fr d i)), (3, .row true 90 (eWrs fr d.cache))]
abbrev L_d1 (fr : Bool) (d : Dk) (i : Nat) : ASt := ⟨envOf [(2, .op 0 0), (3, .op 1 0), (15, .v (.int .i64 d.sectors.length)), (16, .v (.int .i64 i))], heapOf (fixC fr d i ++ famS d i), 10000⟩
theorem renL_osR {ρ : Nat → Nat} {b : Nat} {g : Nat → List AV} : ∀ {k : Nat}, (∀ j, j < k → ρ (b + j) = b + j) → renL ρ (osR b k g) = osR b k g
  | 0, _ => rfl
  | k + 1, h => by
    rw [osR_s, renL_append, renL_osR fun j hj => h j (by omega)]
    simp [renL, ren, h k (by omega)]
theorem al_osR {p : Nat → Prop} {b k : Nat} {g : Nat → List AV} (h : ∀ j, j < k → p (b + j)) : AlL p (osR b k g) := by
  rw [AlL_iff]; intro a ha
  obtain ⟨j, hj, rfl⟩ := List.mem_map.1 ha
  rw [List.mem_range] at hj
  exact h j hj
theorem fam_step (fr : Bool) (d : Dk) {i : Nat} {t : List Int} {NEW : Nat} (hx : d.sectors[i]? = some t) (hi : i < 2048) (hN : 10000 ≤ NEW) {N : Nat} {l : List (Nat × AV)} {env : Nat → AV} {σ : Heap} {nx : Nat}
    (hl : l = [(2, .op 0 0), (3, .op 1 0), (15, .v (.int .i64 d.sectors.length)), (16, .v (.int .i64 ((i + 1 : Nat) : Int)))]) (he : ∀ t v, (t, v) ∈ l → env t = v)
    (s0 : σ 0 = some zP) (s1 : σ 1 = some (.row true 50 [.os 2 0 d.sectors.length 1, .os 3 0 d.cache.length 2])) (s2 : σ 2 = some (.row true 22 (osR 10 i (gS d) ++ .os NEW 0 t.length 1 :: eL fr (d.sectors.drop (i + 1)))))
    (s3 : σ 3 = some (.row true 90 (eWrs fr d.cache))) (sN : σ NEW = some (.row true 5 (eB t))) (sF : ∀ j, j < i → σ (10 + j) = some (.row true 5 (gS d j))) :
    Weak N 0 ⟨env, σ, nx⟩ ⟨envOf l, heapOf (fixC fr d (i + 1) ++ famS d (i + 1)), 10000⟩ := by
  have hgt : gS d i = eB t := by simp [gS, hx]
  have hre : (([(0, 0), (1, 1), (2, 2), (3, 3), (NEW, 10 + i)] : List (Nat × Nat)).map (·.1)).Nodup := by simp; omega
  have hsep : ∀ p ∈ ([(0, 0), (1, 1), (2, 2), (3, 3), (NEW, 10 + i)] : List (Nat × Nat)), (p.1 < 10 ∨ 10 + i ≤ p.1) ∧ (p.2 < 10 ∨ 10 + i ≤ p.2) := by
    intro p hp; simp at hp; rcases hp with rfl | rfl | rfl | rfl | rfl <;> simp <;> omega
  have hn : (([(0, 0), (1, 1), (2, 2), (3, 3), (NEW, 10 + i)] ++ famR 10 i).map (·.1)).Nodup := by
    rw [List.map_append, famR_1, List.nodup_append]
    refine ⟨hre, range_nodup 10 i, fun a ha c hc e => ?_⟩
    rw [mem_rangeb] at hc
    obtain ⟨p, hp, rfl⟩ := List.mem_map.1 ha
    have := (hsep p hp).1; omega
  generalize hR : ([(0, 0), (1, 1), (2, 2), (3, 3), (NEW, 10 + i)] ++ famR 10 i : List (Nat × Nat)) = R at hn
  have q0 : rn R 0 = 0 := rn_mem (p := (0, 0)) (by rw [← hR]; simp) hn
  have q1 : rn R 1 = 1 := rn_mem (p := (1, 1)) (by rw [← hR]; simp) hn
  have q2 : rn R 2 = 2 := rn_mem (p := (2, 2)) (by rw [← hR]; simp) hn
  have q3 : rn R 3 = 3 := rn_mem (p := (3, 3)) (by rw [← hR]; simp) hn
  have qN : rn R NEW = 10 + i := rn_mem (p := (NEW, 10 + i)) (by rw [← hR]; simp) hn
  have qF : ∀ j, j < i → rn R (10 + j) = 10 + j := fun j hj => rn_mem (p := (10 + j, 10 + j)) (by rw [← hR]; exact List.mem_append_right _ (famR_mem.2 ⟨rfl, by simp only; omega, by simp only; omega⟩)) hn
  have i0 : 0 ∈ R.map (·.1) := by rw [← hR]; simp
  have i1 : 1 ∈ R.map (·.1) := by rw [← hR]; simp
  have i2 : 2 ∈ R.map (·.1) := by rw [← hR]; simp
  have i3 : 3 ∈ R.map (·.1) := by rw [← hR]; simp
  have iN : NEW ∈ R.map (·.1) := by rw [← hR]; simp
  have iF : ∀ j, j < i → 10 + j ∈ R.map (·.1) := fun j hj => by
    rw [← hR, List.map_append, famR_1]; exact List.mem_append_right _ (mem_rangeb.2 ⟨by omega, by omega⟩)
  have key := Weak.toF (N := N) (m := 0) (s := ⟨env, σ, nx⟩) [(0, 0), (1, 1), (2, 2), (3, 3), (NEW, 10 + i)] 10 i l (fixC fr d (i + 1) ++ [(10 + i, .row true 5 (gS d i))]) (fun j => .row true 5 (gS d j)) 10000
    hre (by simp; omega) (by intro p hp; simp at hp; rcases hp with rfl | rfl | rfl | rfl | rfl <;> simp <;> omega) (by omega) (by omega) (by omega) hsep ?_ ?_ ?_
  · have hF : heapOf (fixC fr d (i + 1) ++ [(10 + i, .row true 5 (gS d i))] ++ famL 10 i (fun j => .row true 5 (gS d j))) = heapOf (fixC fr d (i + 1) ++ famS d (i + 1)) := heapOf_famS (fixC fr d (i + 1)) 10 i (fun j => .row true 5 (gS d j))
    rw [hF] at key
    exact key
  · rw [hR]
    intro t v hv
    show Al _ (env t) ∧ Imp (ren (rn R) (env t)) v
    rw [he t v hv]
    rw [hl] at hv
    simp only [List.mem_cons, Prod.mk.injEq, List.not_mem_nil, or_false] at hv
    rcases hv with ⟨_, rfl⟩ | ⟨_, rfl⟩ | ⟨_, rfl⟩ | ⟨_, rfl⟩
    · exact ⟨i0, by show Imp (.op (rn R 0) 0) _; rw [q0]; exact Imp.refl _⟩
    · exact ⟨i1, by show Imp (.op (rn R 1) 0) _; rw [q1]; exact Imp.refl _⟩
    · exact ⟨trivial, Imp.refl _⟩
    · exact ⟨trivial, Imp.refl _⟩
  · rw [hR]
    intro j o hj
    simp only [fixC, List.cons_append, List.nil_append, List.mem_cons, Prod.mk.injEq, List.not_mem_nil, or_false] at hj
    rcases hj with ⟨rfl, rfl⟩ | ⟨rfl, rfl⟩ | ⟨rfl, rfl⟩ | ⟨rfl, rfl⟩ | ⟨rfl, rfl⟩
    · exact ⟨0, _, _, _, by simp, s0, ⟨trivial, trivial, trivial⟩, rfl⟩
    · exact ⟨1, _, _, _, by simp, s1, ⟨i2, i3, trivial⟩, by simp [renL, ren, q2, q3]⟩
    · refine ⟨2, _, _, _, by simp, s2, ?_, ?_⟩
      · rw [AlL_append]; exact ⟨al_osR iF, iN, al_L _⟩
      · rw [renL_append, renL_osR qF, renL, ren_L, ren, qN, mixF, osR_s, List.append_assoc, hgt, len_B]; rfl
    · exact ⟨3, _, _, _, by simp, s3, al_Wrs _, by rw [ren_Wrs]⟩
    · exact ⟨NEW, _, _, _, by simp, sN, al_B _, by rw [hgt, ren_B]⟩
  · intro j hj
    exact ⟨true, _, _, sF j hj, al_B _, rfl⟩
abbrev fixE (d : Dk) (X : List AV) : List (Nat × AObj) := [(0, zP), (1, .row true 50 [.os 2 0 d.sectors.length 1, .os 3 0 d.cache.length 2]), (2, .row true 22 (osR 10 d.sectors.length (gS d))), (3, .row true 90 X)]
theorem fam_keep (d : Dk) {X : List AV} {N : Nat} {l : List (Nat × AV)} {env : Nat → AV} {σ : Heap} {nx : Nat} {v w : Value} {a b : Nat} (hd : d.sectors.length ≤ 2048) (hX : PuL X)
    (hl : l = [(2, .op 0 0), (3, .op 1 0), (a, .v v), (b, .v w)]) (he : ∀ t v, (t, v) ∈ l → env t = v)
    (s0 : σ 0 = some zP) (s1 : σ 1 = some (.row true 50 [.os 2 0 d.sectors.length 1, .os 3 0 d.cache.length 2])) (s2 : σ 2 = some (.row true 22 (osR 10 d.sectors.length (gS d))))
    (s3 : σ 3 = some (.row true 90 X)) (sF : ∀ j, j < d.sectors.length → σ (10 + j) = some (.row true 5 (gS d j))) :
    Weak N 0 ⟨env, σ, nx⟩ ⟨envOf l, heapOf (fixE d X ++ famS d d.sectors.length), 10000⟩ := by
  have hre : (([(0, 0), (1, 1), (2, 2), (3, 3)] : List (Nat × Nat)).map (·.1)).Nodup := by decide
  have hsep : ∀ p ∈ ([(0, 0), (1, 1), (2, 2), (3, 3)] : List (Nat × Nat)), (p.1 < 10 ∨ 10 + d.sectors.length ≤ p.1) ∧ (p.2 < 10 ∨ 10 + d.sectors.length ≤ p.2) := by
    intro p hp; simp at hp; rcases hp with rfl | rfl | rfl | rfl <;> simp
  have hn : (([(0, 0), (1, 1), (2, 2), (3, 3)] ++ famR 10 d.sectors.length : List (Nat × Nat)).map (·.1)).Nodup := by
    rw [List.map_append, famR_1, List.nodup_append]
    refine ⟨hre, range_nodup 10 _, fun a ha c hc e => ?_⟩
    rw [mem_rangeb] at hc
    obtain ⟨p, hp, rfl⟩ := List.mem_map.1 ha
    have := (hsep p hp).1; omega
  generalize hR : ([(0, 0), (1, 1), (2, 2), (3, 3)] ++ famR 10 d.sectors.length : List (Nat × Nat)) = R at hn
  have q0 : rn R 0 = 0 := rn_mem (p := (0, 0)) (by rw [← hR]; simp) hn
  have q1 : rn R 1 = 1 := rn_mem (p := (1, 1)) (by rw [← hR]; simp) hn
  have q2 : rn R 2 = 2 := rn_mem (p := (2, 2)) (by rw [← hR]; simp) hn
  have q3 : rn R 3 = 3 := rn_mem (p := (3, 3)) (by rw [← hR]; simp) hn
  have qF : ∀ j, j < d.sectors.length → rn R (10 + j) = 10 + j := fun j hj => rn_mem (p := (10 + j, 10 + j)) (by rw [← hR]; exact List.mem_append_right _ (famR_mem.2 ⟨rfl, by simp only; omega, by simp only; omega⟩)) hn
  have i0 : 0 ∈ R.map (·.1) := by rw [← hR]; simp
  have i1 : 1 ∈ R.map (·.1) := by rw [← hR]; simp
  have i2 : 2 ∈ R.map (·.1) := by rw [← hR]; simp
  have i3 : 3 ∈ R.map (·.1) := by rw [← hR]; simp
  have iF : ∀ j, j < d.sectors.length → 10 + j ∈ R.map (·.1) := fun j hj => by
    rw [← hR, List.map_append, famR_1]; exact List.mem_append_right _ (mem_rangeb.2 ⟨by omega, by omega⟩)
  refine Weak.toF (N := N) (m := 0) (s := ⟨env, σ, nx⟩) [(0, 0), (1, 1), (2, 2), (3, 3)] 10 d.sectors.length l (fixE d X) (fun j => .row true 5 (gS d j)) 10000
    hre (by decide) (by intro p hp; simp at hp; rcases hp with rfl | rfl | rfl | rfl <;> simp) (by omega) (by omega) (by omega) hsep ?_ ?_ ?_
  · rw [hR]
    intro t v hv
    show Al _ (env t) ∧ Imp (ren (rn R) (env t)) v
    rw [he t v hv]
    rw [hl] at hv
    simp only [List.mem_cons, Prod.mk.injEq, List.not_mem_nil, or_false] at hv
    rcases hv with ⟨_, rfl⟩ | ⟨_, rfl⟩ | ⟨_, rfl⟩ | ⟨_, rfl⟩
    · exact ⟨i0, by show Imp (.op (rn R 0) 0) _; rw [q0]; exact Imp.refl _⟩
    · exact ⟨i1, by show Imp (.op (rn R 1) 0) _; rw [q1]; exact Imp.refl _⟩
    · exact ⟨trivial, Imp.refl _⟩
    · exact ⟨trivial, Imp.refl _⟩
  · rw [hR]
    intro j o hj
    simp only [fixE, List.mem_cons, Prod.mk.injEq, List.not_mem_nil, or_false] at hj
    rcases hj with ⟨rfl, rfl⟩ | ⟨rfl, rfl⟩ | ⟨rfl, rfl⟩ | ⟨rfl, rfl⟩
    · exact ⟨0, _, _, _, by simp, s0, ⟨trivial, trivial, trivial⟩, rfl⟩
    · exact ⟨1, _, _, _, by simp, s1, ⟨i2, i3, trivial⟩, by simp [renL, ren, q2, q3]⟩
    · exact ⟨2, _, _, _, by simp, s2, al_osR iF, by rw [renL_osR qF]⟩
    · exact ⟨3, _, _, _, by simp, s3, AlL.mono (fun _ h => h.elim) hX, by rw [renL_id (p := fun _ => False) (fun _ h => h.elim) hX]⟩
  · intro j hj
    exact ⟨true, _, _, sF j hj, al_B _, rfl⟩
abbrev L_d2 (fr : Bool) (d : Dk) (i : Nat) : ASt := ⟨envOf [(2, .op 0 0), (3, .op 1 0), (32, .v (.int .i64 d.cache.length)), (33, .v (.int .i64 i))], heapOf (fixE d (mixW fr d.cache i) ++ famS d d.sectors.length), 10000⟩
set_option maxHeartbeats 2000000 in
theorem clone_land (fr : Bool) (d : Dk) (nb : Nat) (h : okD d) : ASound Tryz.prog 87 [aDk fr d] nb (.ret (.agg [.os nb 0 d.sectors.length 1, fWrs true d.cache]) (newW nb ((true, 22, osR (nb + 1) d.sectors.length (gS d)) :: famW 5 d.sectors.length (gS d)))) := by
  refine ok_87.sound (by simp) ⟨al_aDk d, trivial⟩ ?_
  have hf := h.few
  have hne : d.sectors ≠ [] := fun e => hf (.inl (by rw [e]; decide))
  have c1 := clone1_ok fr d.sectors
  have c2 := clone2_spec fr d.cache
  simp only [fL] at c1
  simp only [fWrs] at c2
  simp only [ac_87, TT, ↓reduceIte, Nat.reduceEqDiff, Nat.reduceAdd, Nat.reduceMul, reduceCtorEq, Nat.reduceLeDiff]
  refine ⟨_, c1 _ hne (by omega), ?_⟩
  simp only [TT, ↓reduceIte, Nat.reduceEqDiff, Nat.reduceAdd, Nat.reduceMul, reduceCtorEq, Nat.reduceLeDiff]
  refine ⟨_, c2 _ (by omega), ?_⟩
  simp only [TT, ↓reduceIte, Nat.reduceEqDiff, Nat.reduceAdd, Nat.reduceMul, reduceCtorEq, Nat.reduceLeDiff]
  refine ⟨by rfl, ?_⟩
  refine AWc.family (L_d1 fr d) (fun i => i ≤ d.sectors.length) (fun i => d.sectors.length - i) 0 (Nat.zero_le _) ?_ ?_
  · have e0 : heapOf (fixC fr d 0 ++ famS d 0) = heapOf (fixC fr d 0) := by simp [famL]
    simp only [L_d1, e0]
    refine Weak.calc [(100000, 0), (900000, 1), (400000, 2), (700000, 3)] (by decide) ?_ ?_ <;> simp [WT, mixF_0]
  · intro i hi
    by_cases hlt : i < d.sectors.length
    · obtain ⟨t, hx, e1, e0⟩ := lt_at hlt
      have hb := bytesClone_os fr t
      simp only [fB] at hb
      have hml := mixF_len fr d hi
      have l1 : heapOf (fixC fr d i ++ famS d i) 1 = some (.row true 50 [.os 2 0 d.sectors.length 1, .os 3 0 d.cache.length 2]) := by rw [heapOf_append]; simp [heapOf]
      have l2 : heapOf (fixC fr d i ++ famS d i) 2 = some (.row true 22 (mixF fr d i)) := by rw [heapOf_append]; simp [heapOf]
      simp only [L_d1]
      generalize hH : heapOf (fixC fr d i ++ famS d i) = H at l1 l2
      simp only [e1, e0, l1, l2, Int.toNat_natCast, Nat.zero_add, mixF_get hx, TT, ↓reduceIte, Nat.reduceEqDiff, Nat.reduceAdd, Nat.reduceMul, reduceCtorEq, Nat.reduceLeDiff]
      have ht0 : t ≠ [] := fun e => by have := h.secs t (List.mem_of_getElem? hx); rw [e] at this; simp at this
      refine ⟨_, hb _ (okD_secs h t (List.mem_of_getElem? hx)) ht0, ?_⟩
      simp only [e1, e0, l1, l2, Int.toNat_natCast, Nat.zero_add, mixF_set hx, hml, TT, ↓reduceIte, Nat.reduceEqDiff, Nat.reduceAdd, Nat.reduceMul, reduceCtorEq, Nat.reduceLeDiff]
      rw [if_pos (by omega)]
      refine ⟨by rfl, ?_⟩
      refine famC_next (i + 1) (by omega) (by omega) ?_
      have w1 : IntKind.i64.wrap ((i : Int) + 1) = ((i + 1 : Nat) : Int) := by rw [wrap64 (by omega)]; omega
      rw [w1]
      refine fam_step fr d (NEW := 1110000) hx (by omega) (by omega) rfl (fun t v hv => ?_) ?_ ?_ ?_ ?_ ?_ ?_
      · simp at hv; rcases hv with ⟨rfl, rfl⟩ | ⟨rfl, rfl⟩ | ⟨rfl, rfl⟩ | ⟨rfl, rfl⟩ <;> simp [ET]
      · simp only [s_put1, ← hH, heapOf_append]; simp [heapOf]
      · simp only [s_put1, ← hH, heapOf_append]; simp [heapOf]
      · simp only [s_put1]; simp
      · simp only [s_put1, ← hH, heapOf_append]; simp [heapOf]
      · simp only [s_put1]; simp
      · intro j hj
        simp only [s_put1, ← hH, heapOf_append]
        have hfx : heapOf (fixC fr d i) (10 + j) = none := by
          simp only [fixC, heapOf]
          rw [if_neg (by omega), if_neg (by omega), if_neg (by omega), if_neg (by omega)]
        rw [if_neg (by omega), if_neg (by omega), hfx]
        simp only
        rw [s_heapFam, if_pos (by omega), show 10 + j - 10 = j from by omega]
    · obtain rfl : i = d.sectors.length := by omega
      have e1 : ¬ ((d.sectors.length : Int) < (d.sectors.length : Int)) := by omega
      have hmx : mixF fr d d.sectors.length = osR 10 d.sectors.length (gS d) := by simp [mixF, eL]
      have l1 : heapOf (fixC fr d d.sectors.length ++ famS d d.sectors.length) 1 = some (.row true 50 [.os 2 0 d.sectors.length 1, .os 3 0 d.cache.length 2]) := by rw [heapOf_append]; simp [heapOf]
      simp only [L_d1]
      generalize hH : heapOf (fixC fr d d.sectors.length ++ famS d d.sectors.length) = H at l1
      simp only [e1, l1, TT, ↓reduceIte, Nat.reduceEqDiff, Nat.reduceAdd, Nat.reduceMul, reduceCtorEq, Nat.reduceLeDiff]
      refine AWc.family (L_d2 fr d) (fun i => i ≤ d.cache.length) (fun i => d.cache.length - i) 0 (Nat.zero_le _) ?_ ?_
      · have e0 : mixW fr d.cache 0 = eWrs fr d.cache := mixW_0 fr d.cache
        simp only [L_d2]
        refine fam_keep d (X := mixW fr d.cache 0) (by omega) (al_mixW _ _ _) rfl (fun t v hv => ?_) ?_ ?_ ?_ ?_ ?_
        · simp at hv; rcases hv with ⟨rfl, rfl⟩ | ⟨rfl, rfl⟩ | ⟨rfl, rfl⟩ | ⟨rfl, rfl⟩ <;> simp [ET]
        · simp only [← hH, heapOf_append]; simp [heapOf]
        · exact l1
        · simp only [← hH, heapOf_append]; simp [heapOf, hmx]
        · simp only [← hH, heapOf_append]; simp [heapOf, e0]
        · intro j hj
          have hfx : heapOf (fixC fr d d.sectors.length) (10 + j) = none := by
            simp only [fixC, heapOf]
            rw [if_neg (by omega), if_neg (by omega), if_neg (by omega), if_neg (by omega)]
          simp only [← hH, heapOf_append]
          rw [hfx]
          simp only
          rw [s_heapFam, if_pos (by omega), show 10 + j - 10 = j from by omega]
      · intro i hi
        have hfx : ∀ j, heapOf (fixE d (mixW fr d.cache i)) (10 + j) = none := fun j => by
          simp only [fixE, heapOf]
          rw [if_neg (by omega), if_neg (by omega), if_neg (by omega), if_neg (by omega)]
        have l0 : heapOf (fixE d (mixW fr d.cache i) ++ famS d d.sectors.length) 0 = some zP := by rw [heapOf_append]; simp [heapOf]
        have l1 : heapOf (fixE d (mixW fr d.cache i) ++ famS d d.sectors.length) 1 = some (.row true 50 [.os 2 0 d.sectors.length 1, .os 3 0 d.cache.length 2]) := by rw [heapOf_append]; simp [heapOf]
        have l2 : heapOf (fixE d (mixW fr d.cache i) ++ famS d d.sectors.length) 2 = some (.row true 22 (osR 10 d.sectors.length (gS d))) := by rw [heapOf_append]; simp [heapOf]
        have l3 : heapOf (fixE d (mixW fr d.cache i) ++ famS d d.sectors.length) 3 = some (.row true 90 (mixW fr d.cache i)) := by rw [heapOf_append]; simp [heapOf]
        have lF : ∀ j, j < d.sectors.length → heapOf (fixE d (mixW fr d.cache i) ++ famS d d.sectors.length) (10 + j) = some (.row true 5 (gS d j)) := fun j hj => by
          rw [heapOf_append, hfx j]
          simp only
          rw [s_heapFam, if_pos (by omega), show 10 + j - 10 = j from by omega]
        simp only [L_d2]
        generalize heapOf (fixE d (mixW fr d.cache i) ++ famS d d.sectors.length) = H at l0 l1 l2 l3 lF
        by_cases hlt : i < d.cache.length
        · obtain ⟨w, hx, e1, e0⟩ := lt_at hlt
          have hb := bytesClone_spec fr w.data
          simp only [fB] at hb
          have hml := mixW_len fr d.cache i
          simp only [e1, e0, l1, l3, Int.toNat_natCast, Nat.zero_add, mixW_get hx, TT, ↓reduceIte, Nat.reduceEqDiff, Nat.reduceAdd, Nat.reduceMul, reduceCtorEq, Nat.reduceLeDiff]
          refine ⟨_, hb _ (okD_data h w (List.mem_of_getElem? hx)), ?_⟩
          simp only [e1, e0, l1, l3, Int.toNat_natCast, Nat.zero_add, mixW_set hx, hml, TT, ↓reduceIte, Nat.reduceEqDiff, Nat.reduceAdd, Nat.reduceMul, reduceCtorEq, Nat.reduceLeDiff]
          rw [if_pos (by omega)]
          refine ⟨by rfl, ?_⟩
          refine famC_next (i + 1) (by omega) (by omega) ?_
          have w1 : IntKind.i64.wrap ((i : Int) + 1) = ((i + 1 : Nat) : Int) := by rw [wrap64 (by omega)]; omega
          rw [w1]
          refine fam_keep d (X := mixW fr d.cache (i + 1)) (by omega) (al_mixW _ _ _) rfl (fun t v hv => ?_) ?_ ?_ ?_ ?_ ?_
          · simp at hv; rcases hv with ⟨rfl, rfl⟩ | ⟨rfl, rfl⟩ | ⟨rfl, rfl⟩ | ⟨rfl, rfl⟩ <;> simp [ET]
          · simp only [s_put1]; simp [l0]
          · simp only [s_put1]; simp [l1]
          · simp only [s_put1]; simp [l2]
          · simp only [s_put1]; simp
          · intro j hj
            simp only [s_put1]
            rw [if_neg (by omega)]; exact lF j hj
        · obtain rfl : i = d.cache.length := by omega
          have e1 : ¬ ((d.cache.length : Int) < (d.cache.length : Int)) := by omega
          have l0' : H 0 = some (.row true 50 [.v (.slice none 0 0), .v (.slice none 0 0)]) := l0
          simp only [e1, l0', l1, TT, ↓reduceIte, Nat.reduceEqDiff, Nat.reduceAdd, Nat.reduceMul, reduceCtorEq, Nat.reduceLeDiff]
          rw [mixW_all] at l3
          refine Ends.weak (Weak.freeze (s := ⟨_, _, _⟩) 3 (y := true) (e := 90) (cells := eWrs true d.cache) (by simp only [s_put1]; simp [l3]) [(2, .op 0 0)] ([(0, .row true 50 [.os 2 0 d.sectors.length 1, fWrs true d.cache]), (2, .row true 22 (osR 10 d.sectors.length (gS d)))] ++ famS d d.sectors.length) (fun t v hv => ?_) (fun j o hj => ?_)) ?_
          · simp at hv; obtain ⟨rfl, rfl⟩ := hv; exact .inl (.inl (by simp [ET]))
          · rcases List.mem_append.1 hj with hj | hj
            · simp only [List.mem_cons, Prod.mk.injEq, List.not_mem_nil, or_false] at hj
              rcases hj with ⟨rfl, rfl⟩ | ⟨rfl, rfl⟩
              · refine ⟨by decide, true, 50, [.os 2 0 d.sectors.length 1, .os 3 0 d.cache.length 2], [.os 2 0 d.sectors.length 1, fWrs true d.cache], by simp only [s_put1]; simp, rfl, rfl, fun k x' hx => ?_⟩
                rcases k with _ | _ | k
                · exact ⟨_, rfl, .inl (by simp at hx; exact hx.symm)⟩
                · refine ⟨_, rfl, .inr (.inr (.inl ⟨0, d.cache.length, 2, rfl, ?_⟩))⟩
                  simp at hx
                  rw [← hx, List.drop_zero, tk_Wrs]
                  rfl
                · simp at hx
              · exact ⟨by decide, true, 22, osR 10 d.sectors.length (gS d), osR 10 d.sectors.length (gS d), by simp only [s_put1]; simp [l2], rfl, rfl, fun k x' hx => ⟨x', hx, .inl rfl⟩⟩
            · obtain ⟨q, hq, e9⟩ := List.mem_map.1 hj
              rw [List.mem_range] at hq
              cases e9
              refine ⟨by omega, true, 5, gS d q, gS d q, ?_, rfl, rfl, fun k x' hx => ⟨x', hx, .inl rfl⟩⟩
              simp only [s_put1]
              rw [if_neg (by omega)]; exact lF q hq
          · have hfz : ∀ j, heapOf [(0, AObj.row true 50 [.os 2 0 d.sectors.length 1, fWrs true d.cache]), (2, .row true 22 (osR 10 d.sectors.length (gS d)))] (10 + j) = none := fun j => by
              simp only [heapOf]
              rw [if_neg (by omega), if_neg (by omega)]
            refine Ends.fam (sid := 2) (b := 10) (k := d.sectors.length) (el := 22) (e5 := 5) (y := true) (g := gS d) (r0 := .agg [.os 2 0 d.sectors.length 1, fWrs true d.cache]) (.inr rfl) ?_ (by decide) (by omega) ?_ ?_ (fun j _ => al_B _) ⟨by simp [Al], al_fWrs _, trivial⟩ ?_
            · simp [ET, heapOf_append, heapOf]
            · show heapOf _ 2 = _
              rw [heapOf_append]; simp [heapOf]
            · intro j hj
              show heapOf _ (10 + j) = _
              rw [heapOf_append, hfz j]
              simp only
              rw [s_heapFam, if_pos (by omega), show 10 + j - 10 = j from by omega]
            · intro ρ hρ
              simp [ren, renL, hρ, fWrs, ren_Wrs]
end Go.Proofs.YtdenddhdeloceaaGreatDoor
/- Contract: disk.land, of a flush. -/
namespace Go.Proofs.YtdenddhdeloceaaGreatDoor
open Go.RowKit
set_option maxRecDepth 100000
abbrev fixD (d : Dk) : List (Nat × AObj) := [(0, zP), (1, .row true 50 [.os 2 0 d.sectors.length 1, fWrs true d.cache]), (2, .row true 22 (osR 900001 d.sectors.length (gS d)))]
theorem fam_land (d : Dk) {N : Nat} {l : List (Nat × AV)} {env : Nat → AV} {σ : Heap} {nx : Nat} {v w : Value} {a0 a1 a2 : Nat} (g : Nat → List Int) (hd : d.sectors.length ≤ 2048) (hne : a0 ≠ a1 ∧ a0 ≠ a2 ∧ a1 ≠ a2)
    (ha : ∀ a ∈ [a0, a1, a2], a < 900001 ∨ 903000 ≤ a)
    (hl : l = [(1, .fn 80 []), (4, .op 0 0), (7, .op 1 0), (19, fWrs true d.cache), (20, .v v), (21, .v w)])
    (e1 : env 1 = .fn 80 []) (e4 : env 4 = .op a0 0) (e7 : env 7 = .op a1 0) (e19 : env 19 = fWrs true d.cache) (e20 : env 20 = .v v) (e21 : env 21 = .v w)
    (s0 : σ a0 = some zP) (s1 : σ a1 = some (.row true 50 [.os a2 0 d.sectors.length 1, fWrs true d.cache])) (s2 : σ a2 = some (.row true 22 (osR 900001 d.sectors.length (gS d))))
    (sF : ∀ j, j < d.sectors.length → σ (900001 + j) = some (.row true 5 (eB (g j)))) :
    Weak N 0 ⟨env, σ, nx⟩ ⟨envOf l, heapOf (fixD d ++ famL 900001 d.sectors.length (fun j => .row true 5 (eB (g j)))), 2000000⟩ := by
  have hA0 := ha a0 (by simp)
  have hA1 := ha a1 (by simp)
  have hA2 := ha a2 (by simp)
  have hre : (([(a0, 0), (a1, 1), (a2, 2)] : List (Nat × Nat)).map (·.1)).Nodup := by simp; exact ⟨⟨hne.1, hne.2.1⟩, hne.2.2⟩
  have hsep : ∀ p ∈ ([(a0, 0), (a1, 1), (a2, 2)] : List (Nat × Nat)), (p.1 < 900001 ∨ 900001 + d.sectors.length ≤ p.1) ∧ (p.2 < 900001 ∨ 900001 + d.sectors.length ≤ p.2) := by
    intro p hp; simp at hp; rcases hp with rfl | rfl | rfl <;> simp <;> omega
  have hn : (([(a0, 0), (a1, 1), (a2, 2)] ++ famR 900001 d.sectors.length : List (Nat × Nat)).map (·.1)).Nodup := by
    rw [List.map_append, famR_1, List.nodup_append]
    refine ⟨hre, range_nodup 900001 _, fun a ha c hc e => ?_⟩
    rw [mem_rangeb] at hc
    obtain ⟨p, hp, rfl⟩ := List.mem_map.1 ha
    have := (hsep p hp).1; omega
  generalize hR : ([(a0, 0), (a1, 1), (a2, 2)] ++ famR 900001 d.sectors.length : List (Nat × Nat)) = R at hn
  have q0 : rn R a0 = 0 := rn_mem (p := (a0, 0)) (by rw [← hR]; simp) hn
  have q1 : rn R a1 = 1 := rn_mem (p := (a1, 1)) (by rw [← hR]; simp) hn
  have q2 : rn R a2 = 2 := rn_mem (p := (a2, 2)) (by rw [← hR]; simp) hn
  have qF : ∀ j, j < d.sectors.length → rn R (900001 + j) = 900001 + j := fun j hj => rn_mem (p := (900001 + j, 900001 + j)) (by rw [← hR]; exact List.mem_append_right _ (famR_mem.2 ⟨rfl, by simp only; omega, by simp only; omega⟩)) hn
  have i0 : a0 ∈ R.map (·.1) := by rw [← hR]; simp
  have i1 : a1 ∈ R.map (·.1) := by rw [← hR]; simp
  have i2 : a2 ∈ R.map (·.1) := by rw [← hR]; simp
  have iF : ∀ j, j < d.sectors.length → 900001 + j ∈ R.map (·.1) := fun j hj => by
    rw [← hR, List.map_append, famR_1]; exact List.mem_append_right _ (mem_rangeb.2 ⟨by omega, by omega⟩)
  refine Weak.toF (N := N) (m := 0) (s := ⟨env, σ, nx⟩) [(a0, 0), (a1, 1), (a2, 2)] 900001 d.sectors.length l (fixD d) (fun j => .row true 5 (eB (g j))) 2000000
    hre (by simp) (by intro p hp; simp at hp; rcases hp with rfl | rfl | rfl <;> simp) (by omega) (by omega) (by omega) hsep ?_ ?_ ?_
  · rw [hR]
    intro t x hv
    show Al _ (env t) ∧ Imp (ren (rn R) (env t)) x
    rw [hl] at hv
    simp only [List.mem_cons, Prod.mk.injEq, List.not_mem_nil, or_false] at hv
    rcases hv with ⟨rfl, rfl⟩ | ⟨rfl, rfl⟩ | ⟨rfl, rfl⟩ | ⟨rfl, rfl⟩ | ⟨rfl, rfl⟩ | ⟨rfl, rfl⟩
    · rw [e1]; exact ⟨trivial, Imp.refl _⟩
    · rw [e4]; exact ⟨i0, by show Imp (.op (rn R a0) 0) _; rw [q0]; exact Imp.refl _⟩
    · rw [e7]; exact ⟨i1, by show Imp (.op (rn R a1) 0) _; rw [q1]; exact Imp.refl _⟩
    · rw [e19]; exact ⟨al_Wrs _, by show Imp (.fs true (renL (rn R) (eWrs true d.cache)) d.cache.length) _; rw [ren_Wrs]; exact Imp.refl _⟩
    · rw [e20]; exact ⟨trivial, Imp.refl _⟩
    · rw [e21]; exact ⟨trivial, Imp.refl _⟩
  · rw [hR]
    intro j o hj
    simp only [fixD, List.mem_cons, Prod.mk.injEq, List.not_mem_nil, or_false] at hj
    rcases hj with ⟨rfl, rfl⟩ | ⟨rfl, rfl⟩ | ⟨rfl, rfl⟩
    · exact ⟨a0, _, _, _, by simp, s0, ⟨trivial, trivial, trivial⟩, rfl⟩
    · exact ⟨a1, _, _, _, by simp, s1, ⟨i2, al_Wrs _, trivial⟩, by simp [renL, ren, q2, fWrs, ren_Wrs]⟩
    · exact ⟨a2, _, _, _, by simp, s2, al_osR iF, by rw [renL_osR qF]⟩
  · intro j hj
    exact ⟨true, _, _, sF j hj, al_B _, rfl⟩
theorem landL_p {p : List Int → Prop} : ∀ (l : List (Bool × Wr)) (ss : List (List Int)), (∀ t ∈ ss, p t) → (∀ q ∈ l, p q.2.data) → ∀ t ∈ landL ss l, p t
  | [], ss, h, _, t, ht => h t ht
  | (k, w) :: l, ss, h, hq, t, ht => by
    rw [landL] at ht
    refine landL_p l _ ?_ (fun q hx => hq q (by simp [hx])) t ht
    intro x hx
    split at hx
    · rcases List.mem_or_eq_of_mem_set hx with h1 | h1
      · exact h x h1
      · rw [h1]; exact hq (k, w) (by simp)
    · exact h x hx
def zsF (d : Dk) : List (Bool × Wr) := (List.replicate d.cache.length true).zip d.cache
def secF (d : Dk) (i j : Nat) : List Int := ((landL d.sectors ((zsF d).take i))[j]?).getD []
abbrev L_ld (d : Dk) (i : Nat) : ASt := ⟨envOf [(1, .fn 80 []), (4, .op 0 0), (7, .op 1 0), (19, fWrs true d.cache), (20, .v (.int .i64 d.cache.length)), (21, .v (.int .i64 i))],
  heapOf (fixD d ++ famL 900001 d.sectors.length (fun j => .row true 5 (eB (secF d i j)))), 2000000⟩
theorem secF_len {d : Dk} (h : okD d) (i : Nat) {j : Nat} (hj : j < d.sectors.length) : (secF d i j).length = 64 := by
  have hl := landL_len ((zsF d).take i) d.sectors
  unfold secF
  rw [List.getElem?_eq_getElem (by omega)]
  refine landL_p (p := fun t => t.length = 64) _ _ h.secs (fun q hq => ?_) _ (List.getElem_mem _)
  have h1 := (List.of_mem_zip (List.mem_of_mem_take hq)).2
  exact Classical.byContradiction fun hx => h.cache q.2 h1 (.inr (.inr hx))
theorem fsR_land (d : Dk) (hz : (zsF d).take d.cache.length = zsF d) : fsR d.sectors.length (fun j => eB (secF d d.cache.length j)) = eL true (flushD d).sectors := by
  have hl := landL_len (zsF d) d.sectors
  have hfl : (flushD d).sectors = landL d.sectors (zsF d) := rfl
  rw [hfl]
  apply List.ext_getElem?
  intro j
  by_cases hj : j < d.sectors.length
  · simp only [fsR, eL, List.getElem?_map, List.getElem?_range hj, Option.map_some, secF, hz, List.getElem?_eq_getElem (show j < (landL d.sectors (zsF d)).length by omega), len_B]
    rfl
  · have h1 : (fsR d.sectors.length fun j => eB (secF d d.cache.length j))[j]? = none := List.getElem?_eq_none (by simp [fsR]; omega)
    have h2 : (eL true (landL d.sectors (zsF d)))[j]? = none := List.getElem?_eq_none (by rw [len_L]; omega)
    rw [h1, h2]
theorem osR_len {b k : Nat} {g g' : Nat → List AV} (h : ∀ j, j < k → (g j).length = (g' j).length) : osR b k g = osR b k g' := by
  unfold osR
  refine List.map_congr_left fun j hj => ?_
  rw [List.mem_range] at hj
  rw [h j hj]
theorem fam_end {n : Nat} {g : Nat → List AV} {N : Nat} {env : Nat → AV} {σ : Heap} {nx : Nat} {v : Value} (hn : n ≤ 2048) (hpu : ∀ j, PuL (g j)) (e4 : env 4 = .op 0 0) (e5 : env 5 = .v v)
    (s0 : σ 0 = some (.row true 50 [.os 2 0 n 1, .v (.slice none 0 0)])) (s2 : σ 2 = some (.row true 22 (osR 900001 n g))) (sF : ∀ j, j < n → σ (900001 + j) = some (.row true 5 (g j))) :
    Weak N 0 ⟨env, σ, nx⟩ ⟨envOf [(4, .op 0 0), (5, .v v)], heapOf [(0, .row true 50 [.os 2 0 n 1, .v (.slice none 0 0)]), (2, .row true 22 (fsR n g))], 2000000⟩ := by
  have hsep : ∀ p ∈ ([(0, 0), (2, 2)] : List (Nat × Nat)), (p.1 < 900001 ∨ 900001 + n ≤ p.1) ∧ (p.2 < 900001 ∨ 900001 + n ≤ p.2) := by
    intro p hp; simp at hp; rcases hp with rfl | rfl <;> simp
  have hnd : (([(0, 0), (2, 2)] ++ famR 900001 n : List (Nat × Nat)).map (·.1)).Nodup := by
    rw [List.map_append, famR_1, List.nodup_append]
    refine ⟨by decide, range_nodup 900001 _, fun a ha c hc e => ?_⟩
    rw [mem_rangeb] at hc
    obtain ⟨p, hp, rfl⟩ := List.mem_map.1 ha
    have := (hsep p hp).1; omega
  generalize hR : ([(0, 0), (2, 2)] ++ famR 900001 n : List (Nat × Nat)) = R at hnd
  have q0 : rn R 0 = 0 := rn_mem (p := (0, 0)) (by rw [← hR]; simp) hnd
  have q2 : rn R 2 = 2 := rn_mem (p := (2, 2)) (by rw [← hR]; simp) hnd
  have qF : ∀ j, j < n → rn R (900001 + j) = 900001 + j := fun j hj => rn_mem (p := (900001 + j, 900001 + j)) (by rw [← hR]; exact List.mem_append_right _ (famR_mem.2 ⟨rfl, by simp only; omega, by simp only; omega⟩)) hnd
  have i0 : 0 ∈ R.map (·.1) := by rw [← hR]; simp
  have i2 : 2 ∈ R.map (·.1) := by rw [← hR]; simp
  have iF : ∀ j, j < n → 900001 + j ∈ R.map (·.1) := fun j hj => by
    rw [← hR, List.map_append, famR_1]; exact List.mem_append_right _ (mem_rangeb.2 ⟨by omega, by omega⟩)
  refine Weak.trans (Weak.toF (N := N) (m := 0) (s := ⟨env, σ, nx⟩) [(0, 0), (2, 2)] 900001 n [(4, .op 0 0), (5, .v v)] [(0, .row true 50 [.os 2 0 n 1, .v (.slice none 0 0)]), (2, .row true 22 (osR 900001 n g))] (fun j => .row true 5 (g j)) 2000000
    (by decide) (by decide) (by intro p hp; simp at hp; rcases hp with rfl | rfl <;> simp) (by omega) (by omega) (by omega) hsep ?_ ?_ ?_) ?_
  · rw [hR]
    intro t x hv
    show Al _ (env t) ∧ Imp (ren (rn R) (env t)) x
    simp only [List.mem_cons, Prod.mk.injEq, List.not_mem_nil, or_false] at hv
    rcases hv with ⟨rfl, rfl⟩ | ⟨rfl, rfl⟩
    · rw [e4]; exact ⟨i0, by show Imp (.op (rn R 0) 0) _; rw [q0]; exact Imp.refl _⟩
    · rw [e5]; exact ⟨trivial, Imp.refl _⟩
  · rw [hR]
    intro j o hj
    simp only [List.mem_cons, Prod.mk.injEq, List.not_mem_nil, or_false] at hj
    rcases hj with ⟨rfl, rfl⟩ | ⟨rfl, rfl⟩
    · exact ⟨0, _, _, _, by simp, s0, ⟨i2, trivial, trivial⟩, by simp [renL, ren, q2]⟩
    · exact ⟨2, _, _, _, by simp, s2, al_osR iF, by rw [renL_osR qF]⟩
  · intro j hj
    exact ⟨true, _, _, sF j hj, hpu j, rfl⟩
  · have hF := Weak.freezeF (N := N) (m := 0) 900001 [(4, .op 0 0), (5, .v v)] [(0, .row true 50 [.os 2 0 n 1, .v (.slice none 0 0)])] 2 22 5 true g 2000000 (by simp) (by decide) (by intro j o hj; simp at hj; obtain ⟨rfl, rfl⟩ := hj; rfl) rfl (by intro t x hv; simp at hv; rcases hv with ⟨rfl, rfl⟩ | ⟨rfl, rfl⟩ <;> rfl) n []
    simp only [List.append_nil] at hF
    exact hF
set_option maxHeartbeats 2000000 in
theorem land_flush (fr : Bool) (d : Dk) (nb : Nat) (h : okD d) : ASound Tryz.prog 52 [aDk fr d, .fn 80 []] nb (.ret (.tup [aDk true (flushD d), .v (.int .i64 0)]) []) := by
  refine ok_52.sound (by simp) ⟨al_aDk d, trivial, trivial⟩ ?_
  have hf := h.few
  have hc := fun nb => dcheck_spec fr d nb (by omega)
  rw [dkE_ok h] at hc
  have hl := clone_land fr d
  simp only [aDk, fL, fWrs] at hc hl
  simp only [ac_52, TT, ↓reduceIte, Nat.reduceEqDiff, Nat.reduceAdd, Nat.reduceMul, reduceCtorEq, Nat.reduceLeDiff]
  refine ⟨_, hc _, ?_⟩
  simp only [not_true_eq_false, TT, ↓reduceIte, Nat.reduceEqDiff, Nat.reduceAdd, Nat.reduceMul, reduceCtorEq, Nat.reduceLeDiff]
  refine ⟨_, hl _ h, ?_⟩
  simp only [TT, ↓reduceIte, Nat.reduceEqDiff, Nat.reduceAdd, Nat.reduceMul, reduceCtorEq, Nat.reduceLeDiff]
  have hne : 0 < d.sectors.length := by omega
  refine AWc.family (L_ld d) (fun i => i ≤ d.cache.length) (fun i => d.cache.length - i) 0 (Nat.zero_le _) ?_ ?_
  · simp only [L_ld]
    refine fam_land d (a0 := 100000) (a1 := 1000000) (a2 := 900000) (secF d 0) (by omega) (by decide) (by intro a ha; simp at ha; omega) rfl (by simp [ET]) (by simp [ET]) (by simp [ET]) (by simp [ET, fWrs]) (by simp [ET]) (by simp [ET]) ?_ ?_ ?_ ?_
    · simp only [s_put1, newW, app_rows]
      rw [if_neg (by decide), if_neg (by decide), if_neg (by decide), if_pos True.intro]
    · simp only [s_put1]
      rw [if_pos True.intro]; rfl
    · simp only [s_put1, newW, app_rows]
      rw [if_neg (by decide), if_neg (by decide), if_pos (by decide)]; rfl
    · intro j hj
      rw [s_put1, if_neg (by omega), s_put1, if_neg (by omega), newW, app_rows, if_pos (by omega), show 900001 + j - 900000 = j + 1 from by omega, List.getElem?_cons_succ, famW, List.getElem?_map, List.getElem?_range hj]
      have hz : eB (secF d 0 j) = gS d j := by simp only [secF, List.take_zero, landL, gS]
      rw [hz]; rfl
  · intro i hi
    have hfx : ∀ j, heapOf (fixD d) (900001 + j) = none := fun j => by
      simp only [fixD, heapOf]
      rw [if_neg (by omega), if_neg (by omega), if_neg (by omega)]
    have l0 : heapOf (fixD d ++ famL 900001 d.sectors.length (fun j => .row true 5 (eB (secF d i j)))) 0 = some zP := by rw [heapOf_append]; simp [heapOf]
    have l1 : heapOf (fixD d ++ famL 900001 d.sectors.length (fun j => .row true 5 (eB (secF d i j)))) 1 = some (.row true 50 [.os 2 0 d.sectors.length 1, .fs true (eWrs true d.cache) d.cache.length]) := by rw [heapOf_append]; simp [heapOf, fWrs]
    have l2 : heapOf (fixD d ++ famL 900001 d.sectors.length (fun j => .row true 5 (eB (secF d i j)))) 2 = some (.row true 22 (osR 900001 d.sectors.length (gS d))) := by rw [heapOf_append]; simp [heapOf]
    have lF : ∀ j, j < d.sectors.length → heapOf (fixD d ++ famL 900001 d.sectors.length (fun j => .row true 5 (eB (secF d i j)))) (900001 + j) = some (.row true 5 (eB (secF d i j))) := fun j hj => by
      rw [heapOf_append, hfx j]
      simp only
      rw [s_heapFam, if_pos (by omega), show 900001 + j - 900001 = j from by omega]
    simp only [L_ld, fWrs]
    generalize hH : heapOf (fixD d ++ famL 900001 d.sectors.length (fun j => .row true 5 (eB (secF d i j)))) = H at l0 l1 l2 lF
    by_cases hlt : i < d.cache.length
    · obtain ⟨w, hw, e1, e0⟩ := lt_at hlt
      obtain ⟨g1, g2⟩ := get_Wrs (fr := true) hw
      have hbw := h.cache w (List.mem_of_getElem? hw)
      have s1 : 0 ≤ w.sec := Classical.byContradiction fun hx => hbw (.inl (by omega))
      have s2 : w.sec < (d.sectors.length : Int) := Classical.byContradiction fun hx => hbw (.inr (.inl (by omega)))
      obtain ⟨k, hk⟩ := Int.eq_ofNat_of_zero_le s1
      have hkl : k < d.sectors.length := by omega
      have c1 : ((0 : Int) ≤ (k : Int) ∧ (k : Int) < (d.sectors.length : Int)) = True := eq_true ⟨by omega, by omega⟩
      have hat := allTrue_spec (i : Int)
      have hol : (osR 900001 d.sectors.length (gS d))[k]? = some (.os (900001 + k) 0 64 1) := by
        have hs := h.secs _ (List.getElem_mem hkl)
        simp [osR, hkl, gS, len_B, hs]
      have lk := lF k hkl
      simp only [e1, e0, g1, g2, l1, hk, Int.toNat_natCast, TT, ↓reduceIte, Nat.reduceEqDiff, Nat.reduceAdd, Nat.reduceMul, reduceCtorEq, Nat.reduceLeDiff]
      refine ⟨_, _, _, rfl, hat _, ?_⟩
      have hdl : w.data.length = 64 := Classical.byContradiction fun hx => hbw (.inr (.inr hx))
      have hq : (900001 + k = 2400000) = False := eq_false (by omega)
      have hsl : (secF d i k).length = 64 := secF_len h i hkl
      have hsn : setN (eB (secF d i k)) 0 (eB w.data) = eB w.data := by
        rw [setN_B (by omega), hdl, List.drop_of_length_le (by omega), List.append_nil]
      have h64 : Nat.min 64 64 = 64 := rfl
      have htk : List.take 64 (eB w.data) = eB w.data := List.take_of_length_le (by rw [len_B, hdl]; exact Nat.le_refl _)
      simp only [l1, l2, c1, hol, lk, hk, hq, len_B, hdl, hsl, h64, htk, hsn, Int.toNat_natCast, Nat.zero_add, TT, ↓reduceIte, Nat.reduceEqDiff, Nat.reduceAdd, Nat.reduceMul, reduceCtorEq, Nat.reduceLeDiff]
      rw [if_pos (by decide)]
      refine ⟨by rfl, ?_⟩
      refine famC_next (i + 1) (by omega) (by omega) ?_
      have w1 : IntKind.i64.wrap ((i : Int) + 1) = ((i + 1 : Nat) : Int) := by rw [wrap64 (by omega)]; omega
      have hz : (zsF d)[i]? = some (true, w) := zip_at (List.getElem?_replicate_of_lt hlt) hw
      have hsn1 : ∀ j, j < d.sectors.length → secF d (i + 1) j = if j = k then w.data else secF d i j := fun j hj => by
        have hll := landL_len ((zsF d).take i) d.sectors
        unfold secF
        rw [landL_snoc hz]
        simp only [if_true, hk, Int.toNat_natCast]
        rw [List.getElem?_set]
        by_cases hjk : k = j
        · subst hjk; rw [if_pos rfl, if_pos (by omega), if_pos rfl]; rfl
        · rw [if_neg hjk, if_neg (fun e => hjk e.symm)]
      rw [w1]
      refine fam_land d (a0 := 0) (a1 := 1) (a2 := 2) (secF d (i + 1)) (by omega) (by decide) (by intro a ha; simp at ha; omega) rfl (by simp [ET]) (by simp [ET]) (by simp [ET]) (by simp [ET, fWrs]) (by simp [ET]) (by simp [ET]) ?_ ?_ ?_ ?_
      · rw [s_put1, if_neg (by omega), s_put1, if_neg (by omega), s_put1, if_neg (by omega)]; exact l0
      · rw [s_put1, if_neg (by omega), s_put1, if_neg (by omega), s_put1, if_neg (by omega)]; exact l1
      · rw [s_put1, if_neg (by omega), s_put1, if_neg (by omega), s_put1, if_neg (by omega)]; exact l2
      · intro j hj
        rw [hsn1 j hj, s_put1]
        by_cases hjk : j = k
        · rw [if_pos (by omega), if_pos hjk]
        · rw [if_neg (by omega), if_neg hjk, s_put1, if_neg (by omega), s_put1, if_neg (by omega)]
          exact lF j hj
    · obtain rfl : i = d.cache.length := by omega
      have e1 : ¬ ((d.cache.length : Int) < (d.cache.length : Int)) := by omega
      have l0' : H 0 = some (.row true 50 [.v (.slice none 0 0), .v (.slice none 0 0)]) := l0
      simp only [e1, l0', l1, TT, ↓reduceIte, Nat.reduceEqDiff, Nat.reduceAdd, Nat.reduceMul, reduceCtorEq, Nat.reduceLeDiff]
      have hzl : (zsF d).take d.cache.length = zsF d := List.take_of_length_le (by simp [zsF])
      have hos : osR 900001 d.sectors.length (gS d) = osR 900001 d.sectors.length (fun j => eB (secF d d.cache.length j)) := osR_len fun j hj => by
        rw [len_B, secF_len h _ hj]
        simp only [gS, len_B, List.getElem?_eq_getElem hj]
        exact h.secs _ (List.getElem_mem hj)
      rw [hos] at l2
      have hfin := fsR_land d hzl
      have hcl : (flushD d).sectors.length = d.sectors.length := landL_len _ _
      generalize hg : (fun j => eB (secF d d.cache.length j)) = g at l2 hfin
      have lG : ∀ j, j < d.sectors.length → H (900001 + j) = some (.row true 5 (g j)) := fun j hj => by rw [lF j hj, ← hg]
      have hpu : ∀ j, PuL (g j) := fun j => by rw [← hg]; exact al_B _
      refine Ends.weak (fam_end (n := d.sectors.length) (g := g) (v := .int .i64 0) (by omega) hpu (by simp [ET]) (by simp [ET]) ?_ ?_ ?_) ?_
      · rw [s_put1, if_pos rfl]
      · rw [s_put1, if_neg (by decide), s_put1, if_neg (by decide)]; exact l2
      · intro j hj
        rw [s_put1, if_neg (by omega), s_put1, if_neg (by omega)]; exact lG j hj
      rw [hfin]
      have hfd : flushD d = ⟨(flushD d).sectors, []⟩ := rfl
      have htk : List.take d.sectors.length (eL true (flushD d).sectors) = eL true (flushD d).sectors := List.take_of_length_le (by rw [len_L, hcl]; exact Nat.le_refl _)
      have himp := imp_crash (flushD d).sectors
      rw [← hfd] at himp
      simp only [aDk, fL, fWrs] at himp
      refine Ends.weak (Weak.freezeC 2 rfl (l := [(4, .op 0 0), (5, .v (.int .i64 0))]) (h := [(0, .row true 50 [.fs true (eL true (flushD d).sectors) (flushD d).sectors.length, .v (.slice none 0 0)])]) ?_ ?_) (Ends.imp (r0 := .tup [.agg [.fs true (eL true (flushD d).sectors) (flushD d).sectors.length, .v (.slice none 0 0)], .v (.int .i64 0)]) (.inr rfl) (by simp [ET]) ⟨⟨al_L _, trivial, trivial⟩, trivial, trivial⟩ himp)
      · simp [WT]
      · simp [WT, htk, hcl]
end Go.Proofs.YtdenddhdeloceaaGreatDoor
/- Contract: disk.Flush. -/
namespace Go.Proofs.YtdenddhdeloceaaGreatDoor
open Go.RowKit
set_option maxRecDepth 100000
theorem flush_spec (fr : Bool) (d : Dk) (nb : Nat) (h : okD d) : ASound Tryz.prog 43 [aDk fr d] nb (.ret (.tup [aDk true (flushD d), .v (.int .i64 0)]) []) := by
  refine ok_43.sound (by simp) ⟨al_aDk d, trivial⟩ ?_
  have hc := land_flush fr d
  simp only [aDk, fL, fWrs] at hc
  simp only [ac_43, TT, ↓reduceIte, Nat.reduceEqDiff, Nat.reduceAdd, Nat.reduceMul, reduceCtorEq, Nat.reduceLeDiff]
  refine ⟨_, hc _ h, ?_⟩
  simp only [TT, ↓reduceIte, Nat.reduceEqDiff, Nat.reduceAdd, Nat.reduceMul, reduceCtorEq, Nat.reduceLeDiff]
  exact Ends.data (r := .tup [aDk true (flushD d), .v (.int .i64 0)]) (.inr rfl) (by simp [ET, aDk, fL, fWrs]) ⟨al_aDk _, trivial, trivial⟩
end Go.Proofs.YtdenddhdeloceaaGreatDoor
/- slices.Chunk of octets: the iterator, and what it yields. -/
namespace Go.Proofs.YtdenddhdeloceaaGreatDoor
open Go.RowKit Go.Shelf
attribute [local go_sem] Oper.semAt_some
set_option maxRecDepth 100000
theorem chunk_spec (fr : Bool) (cs : List AV) (len : Nat) (n : Int) (hn : 1 ≤ n) (hp : PuL cs) (nb : Nat) :
    ASound Tryz.prog 88 [.fs fr cs len, .v (.int .i64 n)] nb (.ret (.fn 109 [.fp true [.fs fr cs len] 0, .fp true [.v (.int .i64 n)] 0]) []) := by
  refine ok_88.sound (by simp) ⟨hp, trivial, trivial⟩ ?_
  have f1 : ¬ n < 1 := by omega
  simp only [ac_88, f1, TT, ↓reduceIte, Nat.reduceEqDiff, Nat.reduceAdd, Nat.reduceMul, reduceCtorEq, Nat.reduceLeDiff]
  refine Ends.weak (Weak.fnData 4 109 [.op 0 0, .op 100000 0] [.fp true [.fs fr cs len] 0, .fp true [.v (.int .i64 n)] 0] (by simp [s_envOf]) rfl ?_) (Ends.data (.inr rfl) (by simp [ET]) ⟨⟨hp, trivial⟩, ⟨trivial, trivial⟩, trivial⟩)
  intro j x' hj
  match j, hj with
  | 0, hj => cases hj; exact ⟨_, rfl, .inr ⟨0, true, 22, [.fs fr cs len], 0, rfl, by simp [WT], ⟨hp, trivial⟩, rfl⟩⟩
  | 1, hj => cases hj; exact ⟨_, rfl, .inr ⟨100000, true, 3, [.v (.int .i64 n)], 0, rfl, by simp [WT], ⟨trivial, trivial⟩, rfl⟩⟩
  | j + 2, hj => simp at hj
/-- how many parts -/
def chK (len n : Nat) : Nat := (len + n - 1) / n
theorem chK_lt {len n j : Nat} (hn : 1 ≤ n) : j < chK len n ↔ j * n < len := by
  unfold chK
  rw [Nat.lt_div_iff_mul_lt (by omega)]
  omega
set_option maxHeartbeats 4000000 in
theorem chunk_in (l : Nat) (p1 p2 : Addr) (A : Option Addr) (len cap n K : Nat) (hK : K = chK len n) (hn : 1 ≤ n) (hsz : len + n ≤ 9223372036854775807) (hcap : len ≤ cap) (hA : len ≠ 0 → ∃ b off, A = some ⟨b, off, none⟩)
    (J Jx : List (_root_.Fin K) → World → Prop) (Kp : World → World → Prop) (hKp : ∀ B C, Kp B C → C.cell? p1 = B.cell? p1 ∧ C.cell? p2 = B.cell? p2)
    (W : World) (hJ : AbidesFrom W.heap.size J) (hJx : AbidesFrom W.heap.size Jx)
    (hY : ∀ pre (x : _root_.Fin K) W1, J pre W1 → pre.length < K → YieldAt Fence.wide 1 Tryz.prog l #[.slice (A.map (fun a => { a with off := a.off + x.1 * n })) (min n (len - x.1 * n)) (min n (len - x.1 * n))] W1 fun e W' => (e = .returned (.bool true) ∧ J (pre ++ [x]) W' ∧ Kp W1 W') ∨ (e = .returned (.bool false) ∧ Jx (pre ++ [x]) W'))
    (h1 : W.cell? p1 = some (.slice A len cap)) (h2 : W.cell? p2 = some (.int .i64 n)) (hj : J [] W) :
    CallsIn Fence.wide 2 Tryz.prog 109 #[.func (.yield l) #[] #[], .pointer (some p1), .pointer (some p2)] W fun e W' => (∃ v, e = .returned v) ∧
      ((∃ xs, xs = List.finRange K ∧ J xs W') ∨ (∃ pre, (∃ k, k < K ∧ pre = (List.finRange K).take (k + 1)) ∧ Jx pre W')) := by
  subst hK
  have H1 := Lib.hid h1
  have H2 := Lib.hid h2
  have HY := Lib.hid hY
  have HJ := Lib.hid hJ
  have Hj := Lib.hid hj
  have HK := Lib.hid hKp
  clear h1 h2 hY hJ hJx hj hKp
  refine callsIn_of_wp Tryz.func109 rfl trivial ?_ rfl
  simp only [Tryz.ntmps109, List.size_toArray, List.length_cons, List.length_nil, Nat.reduceAdd, Nat.reduceSub, Array.replicate_succ, Array.replicate_zero, List.push_toArray, List.append_toArray, List.nil_append, List.cons_append]
  gi_wp2
  gi_loopw [4] (fun i wr => ∃ j : Nat, j ≤ chK len n ∧ i = .int .i64 ((j * n : Nat) : Int) ∧ Hid (J ((List.finRange (chK len n)).take j) wr) ∧ Hid (wr.cell? p1 = some (.slice A len cap)) ∧ Hid (wr.cell? p2 = some (.int .i64 n))) (fun i _ => len + n - (intOf i).toNat)
  case atStart => exact ⟨0, Nat.zero_le _, by simp, Hj, H1, H2⟩
  case round =>
    obtain ⟨j, hjk, rfl, HJs, G1, G2⟩ := hrel
    have y1 := G1.out
    have y2 := G2.out
    obtain ⟨q, hq⟩ : ∃ q, q = j * n := ⟨_, rfl⟩
    have HQ := Lib.hid hq
    rw [← hq]
    by_cases hlt : q < len
    · obtain ⟨b, off, rfl⟩ := hA (by omega)
      have e1 : decide ((q : Int) < (len : Int)) = true := by simpa using hlt
      have hq63 : q ≤ 9223372036854775807 := by omega
      clear hq hA
      gi_wp2_with fail
      have hjlt : j < chK len n := (chK_lt hn).2 (by rw [← HQ.out]; exact hlt)
      obtain ⟨x, hxv, hxl⟩ : ∃ x : _root_.Fin (chK len n), x.1 = j ∧ (List.finRange (chK len n)).take (j + 1) = (List.finRange (chK len n)).take j ++ [x] :=
        ⟨⟨j, hjlt⟩, rfl, by rw [List.take_succ_eq_append_getElem (by simpa using hjlt)]; simp⟩
      have HX := Lib.hid hxl
      have HL := Lib.hid hjlt
      have hjd : J ((List.finRange (chK len n)).take j) wr.drew := HJ.out _ _ _ none HJs.out ⟨rfl, rfl, rfl, Nat.le_refl _, fun _ _ _ => rfl⟩ (fun r e => by cases e)
      obtain ⟨fn, tmps, assign, body, hy, hR⟩ := HY.out _ x wr.drew hjd (by simp; omega)
      dsimp only [Option.map_some] at hy
      rw [hxv, ← HQ.out] at hy
      have HR := Lib.hid hR
      have HYY := Lib.hid hy
      clear hjd hR hy hjlt hxl hxv
      gi_region
      all_goals gi_wp2_with fail
      case' inl => rw [show ((q : Int) + ((len - q : Nat) : Int)).toNat - q = min n (len - q) from by omega]
      case' inr => rw [show ((q : Int) + (n : Int)).toNat - q = min n (len - q) from by omega]
      all_goals rw [HYY.out, Oper.uponIn_round]
      all_goals refine ⟨fun h => (by cases h), HR.out.mono ?_⟩
      all_goals rintro e W3 (⟨rfl, hJ3, hk3⟩ | ⟨rfl, hJx3⟩)
      all_goals clear y1 y2
      · have k1 := Lib.hid ((HK.out _ _ hk3).1.trans G1.out)
        have k2 := Lib.hid ((HK.out _ _ hk3).2.trans G2.out)
        have y2 := k2.out
        have HJ3 := Lib.hid hJ3
        clear hJ3 hk3
        gi_wp2_with fail
        go_roundw
        case rel => exact ⟨j + 1, HL.out, by rw [HQ.out, Nat.succ_mul]; simp, by rw [HX.out]; exact HJ3.out, k1, k2⟩
        case measure => simp [intOf]; omega
      · gi_wp2_with fail
        refine bodyPost_ret (results_none rfl _ _ _) rfl ?_
        exact ⟨⟨_, rfl⟩, .inr ⟨_, ⟨j, HL.out, HX.out.symm⟩, hJx3⟩⟩
      · have k1 := Lib.hid ((HK.out _ _ hk3).1.trans G1.out)
        have k2 := Lib.hid ((HK.out _ _ hk3).2.trans G2.out)
        have y2 := k2.out
        have HJ3 := Lib.hid hJ3
        clear hJ3 hk3
        gi_wp2_with fail
        go_roundw
        case rel => exact ⟨j + 1, HL.out, by rw [HQ.out, Nat.succ_mul]; simp, by rw [HX.out]; exact HJ3.out, k1, k2⟩
        case measure => simp [intOf]; omega
      · gi_wp2_with fail
        refine bodyPost_ret (results_none rfl _ _ _) rfl ?_
        exact ⟨⟨_, rfl⟩, .inr ⟨_, ⟨j, HL.out, HX.out.symm⟩, hJx3⟩⟩
    · have e1 : decide ((q : Int) < (len : Int)) = false := by simpa using hlt
      have hjK : j = chK len n := by
        rcases Nat.lt_or_ge j (chK len n) with h | h
        · exact absurd ((chK_lt hn).1 h) (by rw [← hq]; exact hlt)
        · omega
      have HE := Lib.hid hjK
      clear hq hA hjK
      gi_wp2_with fail
      go_end0
      exact ⟨⟨_, rfl⟩, .inl ⟨_, rfl, by have := HJs.out; rwa [HE.out, List.take_of_length_le (by simp)] at this⟩⟩
/-- the parts -/
def chL (fr : Bool) (cs : List AV) (len n : Nat) : List (List AV) := (List.range (chK len n)).map fun i => [.fs fr ((cs.drop (i * n)).take (min n (len - i * n))) (min n (len - i * n))]
theorem chL_len (fr : Bool) (cs : List AV) (len n : Nat) : (chL fr cs len n).length = chK len n := by simp [chL]
theorem chL_get (fr : Bool) (cs : List AV) (len n : Nat) (i : _root_.Fin (chL fr cs len n).length) : (chL fr cs len n)[i] = [.fs fr ((cs.drop (i.1 * n)).take (min n (len - i.1 * n))) (min n (len - i.1 * n))] := by
  have : ∀ (k : Nat) (hk : k < (chL fr cs len n).length), (chL fr cs len n)[k] = [.fs fr ((cs.drop (k * n)).take (min n (len - k * n))) (min n (len - k * n))] := fun k hk => by simp [chL]
  exact this i.1 i.2
theorem chunk_iter (fr f1 f2 : Bool) (cs : List AV) (len n : Nat) (hn : 1 ≤ n) (hsz : len + n ≤ 9223372036854775807) (hl : cs.length = len) :
    IterA Tryz.prog 109 [.fp f1 [.fs fr cs len] 0, .fp f2 [.v (.int .i64 n)] 0] (chL fr cs len n) := by
  refine ⟨by rfl, fun c lb hr hv => ?_⟩
  simp only [VRt] at hv
  obtain ⟨u1, us, rfl, h1, u2, us2, rfl, h2, rfl⟩ := hv
  rw [VR] at h1 h2
  obtain ⟨b1, o1, rfl, hlt1, ho1, hm1⟩ := h1
  obtain ⟨b2, o2, rfl, hlt2, ho2, hm2⟩ := h2
  simp only [VRm, Nat.add_zero] at hm1 hm2
  obtain ⟨⟨v1, hc1, _, hv1⟩, _⟩ := hm1
  obtain ⟨⟨v2, hc2, _, hv2⟩, _⟩ := hm2
  have hv2' : v2 = .int .i64 n := hv2
  subst hv2'
  obtain ⟨A, k, rfl, hk, hA⟩ := hv1
  refine ⟨fun i => [.slice (A.map (fun a => { a with off := a.off + i.1 * n })) (min n (len - i.1 * n)) (min n (len - i.1 * n))], fun i => ?_, ?_⟩
  · rw [chL_get]
    have hi : i.1 * n < len := (chK_lt hn).1 (Nat.lt_of_lt_of_eq i.2 (chL_len fr cs len n))
    obtain ⟨b, off, rfl, q1, q2, q3⟩ := hA (by omega)
    simp only [VRt]
    refine ⟨_, _, rfl, ?_, rfl⟩
    rw [VR]
    refine ⟨_, _, rfl, Nat.le_refl _, fun _ => ⟨b, off + i.1 * n, rfl, q1, q2, ?_⟩⟩
    rw [VRm_iff] at q3 ⊢
    intro j a hj
    rw [List.getElem?_take] at hj
    split at hj
    · rw [List.getElem?_drop] at hj
      have := q3 _ _ hj
      rwa [← Nat.add_assoc] at this
    · cases hj
  · intro l J Jx W hW hJ hJx hY hj
    refine chunk_in l ⟨b1, o1, none⟩ ⟨b2, o2, none⟩ A len k n _ (chL_len fr cs len n) hn hsz hk (fun h => ?_) J Jx (Kc c) (fun B C hK => ⟨?_, ?_⟩) W hJ hJx hY ?_ ?_ hj
    · obtain ⟨b, off, e, _⟩ := hA h; exact ⟨b, off, e⟩
    · exact World.cell?_of_block (hK b1 hlt1 ho1.2.1 (fun h => absurd h ho1.2.2))
    · exact World.cell?_of_block (hK b2 hlt2 ho2.2.1 (fun h => absurd h ho2.2.2))
    · exact (World.cell?_of_block (hW.block b1 hlt1)).trans hc1
    · exact (World.cell?_of_block (hW.block b2 hlt2)).trans hc2
end Go.Proofs.YtdenddhdeloceaaGreatDoor
/- slices.Backward of writes: the iterator, and what it yields. -/
namespace Go.Proofs.YtdenddhdeloceaaGreatDoor
open Go.RowKit Go.Shelf
attribute [local go_sem] Oper.semAt_some
set_option maxRecDepth 100000
theorem bw_spec (fr : Bool) (l : List Wr) (nb : Nat) :
    ASound Tryz.prog 104 [fWrs fr l] nb (.ret (.fn 123 [.fp true [fWrs fr l] 0]) []) := by
  refine ok_104.sound (by simp) ⟨al_Wrs l, trivial⟩ ?_
  simp only [ac_104, TT, ↓reduceIte, Nat.reduceEqDiff, Nat.reduceAdd, Nat.reduceMul, reduceCtorEq, Nat.reduceLeDiff]
  refine Ends.weak (Weak.fnData 2 123 [.op 0 0] [.fp true [fWrs fr l] 0] (by simp [s_envOf]) rfl ?_) (Ends.data (.inr rfl) (by simp [ET]; rfl) ⟨⟨al_Wrs l, trivial⟩, trivial⟩)
  intro j x' hj
  match j, hj with
  | 0, hj => cases hj; exact ⟨_, rfl, .inr ⟨0, true, 48, [fWrs fr l], 0, rfl, by simp [WT], ⟨al_Wrs l, trivial⟩, rfl⟩⟩
  | j + 1, hj => simp at hj
set_option maxHeartbeats 4000000 in
theorem bw_in (l : Nat) (p1 : Addr) (b off : Nat) (A : Option Addr) (K cap : Nat) (hsz : K ≤ 9223372036854775807) (hcap : K ≤ cap) (hA : K ≠ 0 → A = some ⟨b, off, none⟩)
    (sec : Nat → Int) (sA : Nat → Option Addr) (sn sk : Nat → Nat)
    (J Jx : List (_root_.Fin K) → World → Prop) (Kp : World → World → Prop) (hKp : ∀ B C, Kp B C → C.cell? p1 = B.cell? p1 ∧ ∀ j, j < 2 * K → C.cell? ⟨b, off + j, none⟩ = B.cell? ⟨b, off + j, none⟩)
    (W : World) (hJ : AbidesFrom W.heap.size J) (hJx : AbidesFrom W.heap.size Jx)
    (hY : ∀ pre (x : _root_.Fin K) W1, J pre W1 → pre.length < K → YieldAt Fence.wide 1 Tryz.prog l #[.int .i64 ((K - 1 - x.1 : Nat) : Int), .agg #[.int .i64 (sec (K - 1 - x.1)), .slice (sA (K - 1 - x.1)) (sn (K - 1 - x.1)) (sk (K - 1 - x.1))]] W1 fun e W' => (e = .returned (.bool true) ∧ J (pre ++ [x]) W' ∧ Kp W1 W') ∨ (e = .returned (.bool false) ∧ Jx (pre ++ [x]) W'))
    (h1 : W.cell? p1 = some (.slice A K cap)) (h2 : ∀ j, j < K → W.cell? ⟨b, off + 2 * j, none⟩ = some (.int .i64 (sec j)) ∧ W.cell? ⟨b, off + 2 * j + 1, none⟩ = some (.slice (sA j) (sn j) (sk j))) (hj : J [] W) :
    CallsIn Fence.wide 2 Tryz.prog 123 #[.func (.yield l) #[] #[], .pointer (some p1)] W fun e W' => (∃ v, e = .returned v) ∧
      ((∃ xs, xs = List.finRange K ∧ J xs W') ∨ (∃ pre, (∃ k, k < K ∧ pre = (List.finRange K).take (k + 1)) ∧ Jx pre W')) := by
  have H1 := Lib.hid h1
  have H2 := Lib.hid h2
  have HY := Lib.hid hY
  have HJ := Lib.hid hJ
  have Hj := Lib.hid hj
  have HK := Lib.hid hKp
  have y1 := h1
  clear h1 h2 hY hJ hJx hj hKp
  refine callsIn_of_wp Tryz.func123 rfl trivial ?_ rfl
  simp only [Tryz.ntmps123, List.size_toArray, List.length_cons, List.length_nil, Nat.reduceAdd, Nat.reduceSub, Array.replicate_succ, Array.replicate_zero, List.push_toArray, List.append_toArray, List.nil_append, List.cons_append]
  gi_wp2
  clear y1
  gi_loopw [3] (fun i wr => ∃ j : Nat, j ≤ K ∧ i = .int .i64 ((K : Int) - 1 - j) ∧ Hid (J ((List.finRange K).take j) wr) ∧ Hid (wr.cell? p1 = some (.slice A K cap)) ∧ Hid (∀ j, j < K → wr.cell? ⟨b, off + 2 * j, none⟩ = some (.int .i64 (sec j)) ∧ wr.cell? ⟨b, off + 2 * j + 1, none⟩ = some (.slice (sA j) (sn j) (sk j)))) (fun i _ => (intOf i + 1).toNat)
  case atStart => exact ⟨0, Nat.zero_le _, by simp, Hj, H1, H2⟩
  case round =>
    obtain ⟨j, hjk, rfl, HJs, G1, G2⟩ := hrel
    have y1 := G1.out
    by_cases hlt : j < K
    · obtain ⟨q, hq⟩ : ∃ q : Nat, q = K - 1 - j := ⟨_, rfl⟩
      have HQ := Lib.hid hq
      obtain ⟨z0, z1⟩ := G2.out q (by omega)
      have hA' := hA (by omega)
      subst hA'
      rw [show (K : Int) - 1 - j = (q : Int) from by omega]
      obtain ⟨x, hxv, hxl⟩ : ∃ x : _root_.Fin K, x.1 = j ∧ (List.finRange K).take (j + 1) = (List.finRange K).take j ++ [x] :=
        ⟨⟨j, hlt⟩, rfl, by rw [List.take_succ_eq_append_getElem (by simpa using hlt)]; simp⟩
      have HX := Lib.hid hxl
      obtain ⟨fn, tmps, assign, body, hy, hR⟩ := HY.out _ x wr HJs.out (by simp; omega)
      rw [hxv, ← hq] at hy
      have HR := Lib.hid hR
      have HYY := Lib.hid hy
      have hqK : q < K := by omega
      have e1 : decide ((0 : Int) ≤ (q : Int)) = true := by simp
      have e2 : off + q * 2 = off + 2 * q := by omega
      clear hR hy hq hxl hxv hA
      gi_wp2_with fail
      rw [HYY.out, Oper.uponIn_round]
      clear y1 z0 z1
      refine ⟨fun h => (by cases h), HR.out.mono ?_⟩
      rintro e W3 (⟨rfl, hJ3, hk3⟩ | ⟨rfl, hJx3⟩)
      · have k1 := Lib.hid ((HK.out _ _ hk3).1.trans G1.out)
        have k2 := Lib.hid (show ∀ j, j < K → W3.cell? ⟨b, off + 2 * j, none⟩ = some (.int .i64 (sec j)) ∧ W3.cell? ⟨b, off + 2 * j + 1, none⟩ = some (.slice (sA j) (sn j) (sk j)) from fun i hi =>
          ⟨((HK.out _ _ hk3).2 (2 * i) (by omega)).trans (G2.out i hi).1, ((HK.out _ _ hk3).2 (2 * i + 1) (by omega)).trans (G2.out i hi).2⟩)
        have HJ3 := Lib.hid hJ3
        clear hJ3 hk3
        gi_wp2_with fail
        go_roundw
        case rel => exact ⟨j + 1, hlt, by have := HQ.out; congr 1; omega, by rw [HX.out]; exact HJ3.out, k1, k2⟩
        case measure => simp [intOf]
      · gi_wp2_with fail
        refine bodyPost_ret (results_none rfl _ _ _) rfl ?_
        exact ⟨⟨_, rfl⟩, .inr ⟨_, ⟨j, hlt, HX.out.symm⟩, hJx3⟩⟩
    · obtain rfl : j = K := by omega
      rw [show (j : Int) - 1 - j = -1 from by omega]
      have e1 : decide ((0 : Int) ≤ -1) = false := by decide
      gi_wp2_with fail
      go_end0
      exact ⟨⟨_, rfl⟩, .inl ⟨_, rfl, by have := HJs.out; rwa [List.take_of_length_le (by simp)] at this⟩⟩
/-- what is yielded -/
def bwL (fr : Bool) (l : List Wr) : List (List AV) := (List.range l.length).map fun k => [.v (.int .i64 ((l.length - 1 - k : Nat) : Int)), .agg [.v (.int .i64 ((l[l.length - 1 - k]?).getD ⟨0, []⟩).sec), fB fr ((l[l.length - 1 - k]?).getD ⟨0, []⟩).data]]
theorem bwL_len (fr : Bool) (l : List Wr) : (bwL fr l).length = l.length := by simp [bwL]
theorem bwL_get (fr : Bool) (l : List Wr) (i : _root_.Fin (bwL fr l).length) : (bwL fr l)[i] = [.v (.int .i64 ((l.length - 1 - i.1 : Nat) : Int)), .agg [.v (.int .i64 ((l[l.length - 1 - i.1]?).getD ⟨0, []⟩).sec), fB fr ((l[l.length - 1 - i.1]?).getD ⟨0, []⟩).data]] := by
  have : ∀ (k : Nat) (hk : k < (bwL fr l).length), (bwL fr l)[k] = [.v (.int .i64 ((l.length - 1 - k : Nat) : Int)), .agg [.v (.int .i64 ((l[l.length - 1 - k]?).getD ⟨0, []⟩).sec), fB fr ((l[l.length - 1 - k]?).getD ⟨0, []⟩).data]] := fun k hk => by simp [bwL]
  exact this i.1 i.2
theorem bw_iter (fr f1 : Bool) (l : List Wr) (hsz : l.length ≤ 4398046511104) :
    IterA Tryz.prog 123 [.fp f1 [fWrs fr l] 0] (bwL fr l) := by
  refine ⟨by rfl, fun c lb hr hv => ?_⟩
  simp only [VRt] at hv
  obtain ⟨u1, us, rfl, h1, rfl⟩ := hv
  rw [VR] at h1
  obtain ⟨b1, o1, rfl, hlt1, ho1, hm1⟩ := h1
  simp only [VRm, Nat.add_zero] at hm1
  obtain ⟨⟨v1, hc1, _, hv1⟩, _⟩ := hm1
  rw [fWrs, VR] at hv1
  obtain ⟨A, k, rfl, hk, hA⟩ := hv1
  -- where the writes lie
  obtain ⟨b, off, hAb, hb⟩ : ∃ b off, (l.length ≠ 0 → A = some ⟨b, off, none⟩) ∧ (l.length ≠ 0 → b < c.w.heap.size ∧ c.ok fr b ∧ VRm c b off (eWrs fr l)) := by
    by_cases h0 : l.length = 0
    · exact ⟨0, 0, fun h => absurd h0 h, fun h => absurd h0 h⟩
    · obtain ⟨b, off, e, q⟩ := hA h0
      exact ⟨b, off, fun _ => e, fun _ => q⟩
  have cell : ∀ j, j < l.length → ∃ sA sn sk, c.w.cell? ⟨b, off + 2 * j, none⟩ = some (.int .i64 ((l[j]?).getD ⟨0, []⟩).sec) ∧ c.w.cell? ⟨b, off + 2 * j + 1, none⟩ = some (.slice sA sn sk) ∧ VR c (fB fr ((l[j]?).getD ⟨0, []⟩).data) (.slice sA sn sk) := by
    intro j hj
    obtain ⟨_, _, hm⟩ := hb (by omega)
    obtain ⟨w, hw⟩ : ∃ w, l[j]? = some w := ⟨_, List.getElem?_eq_getElem hj⟩
    obtain ⟨g1, g2⟩ := get_Wrs (fr := fr) hw
    rw [VRm_iff] at hm
    obtain ⟨x1, a1, _, a2⟩ := hm _ _ g1
    obtain ⟨x2, b1, _, b2⟩ := hm _ _ g2
    have e1 : x1 = .int .i64 w.sec := a2
    subst e1
    have b2' := b2
    rw [VR] at b2
    obtain ⟨sA, sk, rfl, _⟩ := b2
    refine ⟨sA, w.data.length, sk, ?_, ?_, ?_⟩
    · rw [hw]; rw [Nat.mul_comm]; exact a1
    · rw [show off + 2 * j + 1 = off + (j * 2 + 1) from by omega]; exact b1
    · rw [hw]; exact b2'
  obtain ⟨sA, hsA⟩ : ∃ sA : Nat → Option Addr, ∀ j, j < l.length → ∃ sn sk, c.w.cell? ⟨b, off + 2 * j, none⟩ = some (.int .i64 ((l[j]?).getD ⟨0, []⟩).sec) ∧ c.w.cell? ⟨b, off + 2 * j + 1, none⟩ = some (.slice (sA j) sn sk) ∧ VR c (fB fr ((l[j]?).getD ⟨0, []⟩).data) (.slice (sA j) sn sk) := by
    classical
    exact ⟨fun j => if h : j < l.length then (cell j h).choose else none, fun j h => by simp only [dif_pos h]; exact (cell j h).choose_spec⟩
  obtain ⟨sn, hsn⟩ : ∃ sn : Nat → Nat, ∀ j, j < l.length → ∃ sk, c.w.cell? ⟨b, off + 2 * j, none⟩ = some (.int .i64 ((l[j]?).getD ⟨0, []⟩).sec) ∧ c.w.cell? ⟨b, off + 2 * j + 1, none⟩ = some (.slice (sA j) (sn j) sk) ∧ VR c (fB fr ((l[j]?).getD ⟨0, []⟩).data) (.slice (sA j) (sn j) sk) := by
    classical
    exact ⟨fun j => if h : j < l.length then (hsA j h).choose else 0, fun j h => by simp only [dif_pos h]; exact (hsA j h).choose_spec⟩
  obtain ⟨sk, hsk⟩ : ∃ sk : Nat → Nat, ∀ j, j < l.length → c.w.cell? ⟨b, off + 2 * j, none⟩ = some (.int .i64 ((l[j]?).getD ⟨0, []⟩).sec) ∧ c.w.cell? ⟨b, off + 2 * j + 1, none⟩ = some (.slice (sA j) (sn j) (sk j)) ∧ VR c (fB fr ((l[j]?).getD ⟨0, []⟩).data) (.slice (sA j) (sn j) (sk j)) := by
    classical
    exact ⟨fun j => if h : j < l.length then (hsn j h).choose else 0, fun j h => by simp only [dif_pos h]; exact (hsn j h).choose_spec⟩
  have hlen : ∀ i : _root_.Fin (bwL fr l).length, i.1 < l.length := fun i => Nat.lt_of_lt_of_eq i.2 (bwL_len fr l)
  refine ⟨fun i => [.int .i64 (((bwL fr l).length - 1 - i.1 : Nat) : Int), .agg #[.int .i64 ((l[(bwL fr l).length - 1 - i.1]?).getD ⟨0, []⟩).sec, .slice (sA ((bwL fr l).length - 1 - i.1)) (sn ((bwL fr l).length - 1 - i.1)) (sk ((bwL fr l).length - 1 - i.1))]], fun i => ?_, ?_⟩
  · rw [bwL_get]
    have hi := hlen i
    have ee : (bwL fr l).length - 1 - i.1 = l.length - 1 - i.1 := by have := bwL_len fr l; omega
    simp only [ee]
    obtain ⟨q1, q2, q3⟩ := hsk (l.length - 1 - i.1) (by omega)
    simp only [VRt]
    refine ⟨_, _, rfl, rfl, _, _, rfl, ?_, rfl⟩
    rw [VR]
    refine ⟨[_, _], rfl, ?_⟩
    rw [VRl]
    refine ⟨_, _, rfl, rfl, rfl, ?_⟩
    rw [VRl]
    exact ⟨_, _, rfl, rfl, q3, rfl⟩
  · intro l' J Jx W hW hJ hJx hY hj
    refine bw_in l' ⟨b1, o1, none⟩ b off A (bwL fr l).length k (by rw [bwL_len]; omega) (by rw [bwL_len]; exact hk) (by rw [bwL_len]; exact hAb) (fun j => ((l[j]?).getD ⟨0, []⟩).sec) sA sn sk J Jx (Kc c) (fun B C hK => ⟨?_, fun j hj => ?_⟩) W hJ hJx hY ?_ (fun j hj => ?_) hj
    · exact World.cell?_of_block (hK b1 hlt1 ho1.2.1 (fun h => absurd h ho1.2.2))
    · rw [bwL_len] at hj
      obtain ⟨q1, q2, _⟩ := hb (by omega)
      exact World.cell?_of_block (hK b q1 q2.2.1 (fun h => absurd h q2.2.2))
    · rw [bwL_len]; exact (World.cell?_of_block (hW.block b1 hlt1)).trans hc1
    · rw [bwL_len] at hj
      obtain ⟨q1, q2, _⟩ := hb (by omega)
      obtain ⟨g1, g2, _⟩ := hsk j hj
      exact ⟨(World.cell?_of_block (hW.block b q1)).trans g1, (World.cell?_of_block (hW.block b q1)).trans g2⟩
end Go.Proofs.YtdenddhdeloceaaGreatDoor
/- Functions of the program, compiled. -/
namespace Go.Proofs.YtdenddhdeloceaaGreatDoor
set_option maxRecDepth 100000
def ac_51 : AC :=
(.seq (.reg false [⟨some 3, .box 50 (.tmp 0), none, [0], []⟩,
    ⟨some 4, .box 3 (.tmp 1), none, [1], []⟩,
    ⟨some 6, .new 50 [(.slice none 0 0), (.slice none 0 0)], none, [], []⟩] [2, 3, 4, 6])
(.seq (.reg false [⟨some 10, .load true 2 (.tmp 3), none, [3], []⟩,
    ⟨some 11, .call 87 [(.tmp 10)], none, [10], []⟩,
    ⟨some 7, .new 50 [(.slice none 0 0), (.slice none 0 0)], none, [], []⟩,
    ⟨none, .store 2 (.tmp 7) (.tmp 11), none, [7, 11], []⟩] [2, 4, 6, 7])
(.seq (.seq (.reg false [⟨some 12, .mv (.tmp 2), none, [2], []⟩,
    ⟨some 13, .call 88 [(.tmp 12), (.const (.int .i64 (64)))], none, [12], []⟩] [4, 6, 7, 13])
(.block 0 (.rfunc (.tmp 13) [14] [(8, (.tmp 14))]
(.block 1 (.seq (.reg false [⟨some 15, .mksl 5 1 1 [(.int .u8 (0))] (.const (.int .i64 (64))) (.const (.int .i64 (64))), none, [], []⟩,
    ⟨some 9, .mv (.tmp 15), none, [15], []⟩] [4, 7, 8, 9])
(.seq (.reg false [⟨some 16, .mv (.tmp 9), none, [9], []⟩,
    ⟨some 17, .mv (.tmp 8), none, [8], []⟩,
    ⟨some 18, .copy (.tmp 16) (.tmp 17), none, [16, 17], []⟩] [4, 7, 9])
(.seq (.reg false [⟨some 19, .foff 1 (.tmp 7), none, [7], []⟩,
    ⟨some 20, .load false 1 (.tmp 19), none, [19], []⟩,
    ⟨some 21, .load false 1 (.tmp 4), none, [4], []⟩,
    ⟨some 22, .mv (.tmp 9), none, [9], []⟩,
    ⟨some 23, .build [(.int .i64 (0)), (.slice none 0 0)] [(0, 1, (.tmp 21)), (1, 1, (.tmp 22))], none, [21, 22], []⟩,
    ⟨some 24, .bslice 90 2 1 [(.int .i64 (0)), (.slice none 0 0)] [(0, 2, (.tmp 23))], none, [23], []⟩,
    ⟨some 25, .append 90 2 32 (.tmp 20) (.tmp 24), none, [20, 24], []⟩,
    ⟨some 26, .foff 1 (.tmp 7), none, [7], []⟩,
    ⟨none, .store 1 (.tmp 26) (.tmp 25), none, [26, 25], []⟩] [4])
(.reg false [⟨some 27, .load false 1 (.tmp 4), none, [4], []⟩,
    ⟨some 28, .bin .add (.tmp 27) (.const (.int .i64 (1))), none, [27], []⟩,
    ⟨none, .store 1 (.tmp 4) (.tmp 28), none, [4, 28], []⟩] []))))))))
(.seq (.reg false [⟨some 29, .load true 2 (.tmp 7), none, [7], []⟩,
    ⟨none, .store 2 (.tmp 6) (.tmp 29), none, [6, 29], []⟩] [6])
.ret))))
theorem ok_51 : FnOk Tryz.prog 51 30 ac_51 [.cell 6 true 2] := ⟨Tryz.f51, Tryz.func51, by kernel_rfl, by kernel_rfl, by kernel_rfl, by kernel_rfl, by kernel_rfl⟩
def ac_81 : AC :=
(.seq (.reg false [⟨some 2, .box 50 (.tmp 0), none, [0], []⟩,
    ⟨some 3, .box 3 (.tmp 1), none, [1], []⟩,
    ⟨some 4, .new 22 [(.slice none 0 0)], none, [], []⟩] [2, 3, 4])
(.seq (.seq (.reg false [⟨some 7, .foff 1 (.tmp 2), none, [2], []⟩,
    ⟨some 8, .load false 1 (.tmp 7), none, [7], []⟩,
    ⟨some 9, .call 104 [(.tmp 8)], none, [8], []⟩] [2, 3, 4, 9])
(.block 0 (.rfuncC (.tmp 9) [10, 11] (.reg false [⟨some 6, .new 90 [(.int .i64 (0)), (.slice none 0 0)], none, [], []⟩,
    ⟨none, .store 2 (.tmp 6) (.tmp 11), none, [6, 11], []⟩] [3, 4, 6])
(.block 1 (.seq (.reg false [⟨some 12, .foff 0 (.tmp 6), none, [6], []⟩,
    ⟨some 13, .load false 1 (.tmp 12), none, [12], []⟩,
    ⟨some 14, .load false 1 (.tmp 3), none, [3], []⟩,
    ⟨some 15, .bin .eql (.tmp 13) (.tmp 14), none, [13, 14], []⟩] [4, 6, 15])
(.cond (.tmp 15)
(.seq (.reg false [⟨some 16, .foff 1 (.tmp 6), none, [6], []⟩,
    ⟨some 17, .load false 1 (.tmp 16), none, [16], []⟩,
    ⟨none, .store 1 (.tmp 4) (.tmp 17), none, [4, 17], []⟩] [])
.ret)
.skip))))))
(.seq (.reg false [⟨some 18, .foff 0 (.tmp 2), none, [2], []⟩,
    ⟨some 19, .load false 1 (.tmp 18), none, [18], []⟩,
    ⟨some 20, .load false 1 (.tmp 3), none, [3], []⟩,
    ⟨some 21, .idx 1 (.tmp 19) (.tmp 20), none, [19, 20], []⟩,
    ⟨some 22, .load false 1 (.tmp 21), none, [21], []⟩,
    ⟨none, .store 1 (.tmp 4) (.tmp 22), none, [4, 22], []⟩] [4])
.ret)))
theorem ok_81 : FnOk Tryz.prog 81 23 ac_81 [.cell 4 false 1] := ⟨Tryz.f81, Tryz.func81, by kernel_rfl, by kernel_rfl, by kernel_rfl, by kernel_rfl, by kernel_rfl⟩
end Go.Proofs.YtdenddhdeloceaaGreatDoor
/- Contract: disk's last. -/
namespace Go.Proofs.YtdenddhdeloceaaGreatDoor
open Go.RowKit
set_option maxRecDepth 100000
theorem lastB_none {base : List Int} {k : Int} {l : List Wr} (h : ∀ w ∈ l, w.sec ≠ k) : lastB base k l = base := by
  induction l with
  | nil => rfl
  | cons w l ih =>
    show lastB (if w.sec = k then w.data else base) k l = base
    rw [if_neg (h w (by simp))]
    exact ih fun x hx => h x (by simp [hx])
theorem lastB_found {base : List Int} {k : Int} {l : List Wr} {j : Nat} {w : Wr} (h : l[j]? = some w) (hw : w.sec = k) (ha : ∀ (i : Nat) x, j < i → l[i]? = some x → x.sec ≠ k) : lastB base k l = w.data := by
  have hs : l = l.take (j + 1) ++ l.drop (j + 1) := (List.take_append_drop _ _).symm
  have h1 := lastB_snoc (base := base) (k := k) h
  rw [if_pos hw] at h1
  have h2 : ∀ x ∈ l.drop (j + 1), x.sec ≠ k := fun x hx => by
    obtain ⟨i, hi⟩ := List.mem_iff_getElem?.1 hx
    rw [List.getElem?_drop] at hi
    exact ha _ x (by omega) hi
  have h3 : ∀ b : List Int, lastB b k (l.drop (j + 1)) = b := fun b => lastB_none h2
  rw [hs]
  show (l.take (j + 1) ++ l.drop (j + 1)).foldl _ base = w.data
  rw [List.foldl_append]
  exact (h3 _).trans h1
abbrev hLst (fr : Bool) (d : Dk) (k : Nat) : List (Nat × AObj) := [(0, .row true 50 [fL fr d.sectors, fWrs fr d.cache]), (1, .row true 3 [.v (.int .i64 k)]), (2, .row true 22 [.v (.slice none 0 0)])]
abbrev L_lst (fr : Bool) (d : Dk) (k : Nat) : ASt := ⟨envOf [(2, .op 0 0), (3, .op 1 0), (4, .op 2 0), (9, .fn 123 [.fp true [fWrs fr d.cache] 0])],
  heapOf (hLst fr d k), 3⟩
abbrev L_lsa (fr : Bool) (d : Dk) (k : Nat) (w : Wr) : ASt := ⟨envOf [(3, .op 1 0), (4, .op 2 0), (6, .op 3 0)],
  heapOf [(0, .row true 50 [fL fr d.sectors, fWrs fr d.cache]), (1, .row true 3 [.v (.int .i64 k)]), (2, .row true 22 [.v (.slice none 0 0)]), (3, .row true 90 [.v (.int .i64 w.sec), fB fr w.data])], 4⟩
theorem drop_lst (fr : Bool) (d : Dk) (k : Nat) (w : Wr) : Weak 23 3 (L_lsa fr d k w) ⟨fun _ => .any, heapOf (hLst fr d k), 3⟩ := by
  show Weak 23 3 _ ⟨envOf [], heapOf (hLst fr d k), 3⟩
  refine Weak.calc [(0, 0), (1, 1), (2, 2)] (by decide) ?_ ?_ <;> simp [WT, fWrs, fL, al_L, al_Wrs]
def wAt (d : Dk) (i : Nat) : Wr := (d.cache[d.cache.length - 1 - i]?).getD ⟨0, []⟩
set_option maxHeartbeats 2000000 in
theorem last_spec (fr : Bool) (d : Dk) (k : Nat) (base : List Int) (nb : Nat) (hk : d.sectors[k]? = some base) (h3 : d.cache.length ≤ 4398046511104) :
    ASound Tryz.prog 81 [aDk fr d, .v (.int .i64 k)] nb (.ret (fB fr (lastB base k d.cache)) []) := by
  refine ok_81.sound (by simp) ⟨al_aDk d, trivial, trivial⟩ ?_
  have hlt := (List.getElem?_eq_some_iff.1 hk).1
  have c1 : ((0 : Int) ≤ (k : Int) ∧ (k : Int) < (d.sectors.length : Int)) = True := eq_true ⟨by omega, by omega⟩
  have hb := bw_spec fr d.cache
  simp only [fWrs] at hb
  simp only [ac_81, TT, ↓reduceIte, Nat.reduceEqDiff, Nat.reduceAdd, Nat.reduceMul, reduceCtorEq, Nat.reduceLeDiff]
  refine ⟨_, hb _, ?_⟩
  simp only [TT, ↓reduceIte, Nat.reduceEqDiff, Nat.reduceAdd, Nat.reduceMul, reduceCtorEq, Nat.reduceLeDiff]
  refine AWc.weak (s' := L_lst fr d k) (Weak.calc [(0, 0), (100000, 1), (200000, 2)] (by decide) ?_ ?_) ?_
  · simp [WT, fWrs]
  · simp [WT]
  refine AWc.rangeC 3 (by omega) (Nat.le_refl 3) (by simp [WT, evA]) (bw_iter fr true d.cache h3) rfl rfl (fun l hl => ?_) (AlN.env (by simp [AlL, Al, fWrs, al_Wrs])) (fun i => L_lsa fr d k (wAt d i.1)) (fun i => (by decide : 3 ≤ 4))
    (fun e i σ nx => e = .ret ∧ (wAt d i.1).sec = k ∧ σ 2 = some (.row true 22 [fB fr (wAt d i.1).data])) (fun i => (wAt d i.1).sec ≠ k) (fun i => ?_) (fun i => ?_) (fun hall => ?_) (fun j e σ nx hpre hx => ?_)
  · obtain ⟨i, hi, rfl⟩ := List.mem_map.1 hl
    exact ⟨AlNL.of (by simp [AlL, Al, fB, al_B]), rfl⟩
  · rw [bwL_get]
    simp only [L_lst, bindP, TT, ↓reduceIte, Nat.reduceEqDiff, Nat.reduceAdd, Nat.reduceMul, reduceCtorEq, Nat.reduceLeDiff]
    refine ⟨?_, ?_⟩
    · refine Weak.calc [(0, 0), (1, 1), (2, 2), (3, 3)] (by decide) ?_ ?_ <;> simp [WT, wAt]
    · exact drop_lst fr d k (wAt d i.1)
  · by_cases hs : (wAt d i.1).sec = (k : Int)
    · simp only [L_lsa, hs, TT, ↓reduceIte, Nat.reduceEqDiff, Nat.reduceAdd, Nat.reduceMul, reduceCtorEq, Nat.reduceLeDiff]
      exact ⟨rfl, by simp [WT]⟩
    · simp only [L_lsa, hs, TT, ↓reduceIte, Nat.reduceEqDiff, Nat.reduceAdd, Nat.reduceMul, reduceCtorEq, Nat.reduceLeDiff]
      refine ⟨hs, ?_⟩
      show Weak 23 3 _ ⟨envOf [], heapOf (hLst fr d k), 3⟩
      refine Weak.calc [(0, 0), (1, 1), (2, 2)] (by decide) ?_ ?_ <;> simp [WT]
  · have hn : lastB base k d.cache = base := lastB_none fun w hw => by
      obtain ⟨i, hi⟩ := List.mem_iff_getElem?.1 hw
      have hil := (List.getElem?_eq_some_iff.1 hi).1
      have := hall ⟨d.cache.length - 1 - i, by rw [bwL_len]; omega⟩
      unfold wAt at this
      rw [show d.cache.length - 1 - (d.cache.length - 1 - i) = i from by omega, hi] at this
      exact this
    rw [hn]
    simp only [L_lst, c1, Int.toNat_natCast, get_L hk, TT, ↓reduceIte, Nat.reduceEqDiff, Nat.reduceAdd, Nat.reduceMul, reduceCtorEq, Nat.reduceLeDiff]
    exact Ends.data (.inr rfl) (by simp [ET]) (al_fB base)
  · obtain ⟨rfl, h1, h2⟩ := hx
    have hjl : j.1 < d.cache.length := Nat.lt_of_lt_of_eq j.2 (bwL_len fr d.cache)
    have hw : d.cache[d.cache.length - 1 - j.1]? = some (wAt d j.1) := by
      unfold wAt; rw [List.getElem?_eq_getElem (by omega)]; rfl
    have hf : lastB base k d.cache = (wAt d j.1).data := lastB_found hw h1 fun i x hi hx => by
      have hil := (List.getElem?_eq_some_iff.1 hx).1
      have := hpre ⟨d.cache.length - 1 - i, by rw [bwL_len]; omega⟩ (by show d.cache.length - 1 - i < j.1; omega)
      unfold wAt at this
      rw [show d.cache.length - 1 - (d.cache.length - 1 - i) = i from by omega, hx] at this
      exact this
    rw [hf]
    simp only [L_lst, TT, ↓reduceIte, Nat.reduceEqDiff, Nat.reduceAdd, Nat.reduceMul, reduceCtorEq, Nat.reduceLeDiff]
    exact Ends.data (.inr rfl) (by simp [ET, h2]; rfl) (al_fB _)
end Go.Proofs.YtdenddhdeloceaaGreatDoor
/- Contract: disk.GetAll of sectors that are there. -/
namespace Go.Proofs.YtdenddhdeloceaaGreatDoor
open Go.RowKit
set_option maxRecDepth 100000
abbrev L_gall (fr : Bool) (d : Dk) (s n i : Nat) : ASt := ⟨envOf [(1, .v (.int .i64 s)), (3, .op 0 0), (9, .os 1 0 (getD d s i).length 1), (21, .v (.int .i64 n)), (22, .v (.int .i64 i))],
  heapOf [(0, .row true 50 [fL fr d.sectors, fWrs fr d.cache]), (1, .row true 5 (eB (getD d s i)))], 2⟩
set_option maxHeartbeats 1000000 in
theorem getAll_ok (fr : Bool) (d : Dk) (s n : Nat) (nb : Nat) (h : okD d) (hs : s + n ≤ d.sectors.length) :
    ASound Tryz.prog 46 [aDk fr d, .v (.int .i64 s), .v (.int .i64 n)] nb (.ret (.tup [fB true (getD d s n), .v (.int .i64 0)]) []) := by
  have hf := h.few
  have hc := dcheck_spec fr d
  rw [dkE_ok h] at hc
  have hr := room_spec fr d s n
  have hrt : decide ((0 : Int) ≤ s ∧ (0 : Int) ≤ n ∧ (s : Int) ≤ d.sectors.length ∧ (n : Int) ≤ d.sectors.length - s) = true := by
    rw [decide_eq_true_eq]; omega
  rw [hrt] at hr
  simp only [aDk, fL, fWrs] at hc hr
  refine ok_46.sound (by simp) ⟨al_aDk d, trivial, trivial, trivial⟩ ?_
  simp only [ac_46, TT, ↓reduceIte, Nat.reduceEqDiff, Nat.reduceAdd, Nat.reduceMul, reduceCtorEq, Nat.reduceLeDiff]
  refine ⟨_, hc _ (by omega), ?_⟩
  simp only [not_true_eq_false, TT, ↓reduceIte, Nat.reduceEqDiff, Nat.reduceAdd, Nat.reduceMul, reduceCtorEq, Nat.reduceLeDiff]
  refine ⟨_, hr _ (by omega) (by omega), ?_⟩
  simp only [TT, ↓reduceIte, Nat.reduceEqDiff, Nat.reduceAdd, Nat.reduceMul, reduceCtorEq, Nat.reduceLeDiff]
  refine AWc.family (L_gall fr d s n) (fun i => i ≤ n) (fun i => n - i) 0 (Nat.zero_le _) ?_ ?_
  · refine Weak.trans (Weak.virtC 5 1 (l := [(1, .v (.int .i64 s)), (3, .op 0 0), (9, .os 1600000 0 0 1), (21, .v (.int .i64 n)), (22, .v (.int .i64 0))])
      (h := [(0, .row true 50 [fL fr d.sectors, fWrs fr d.cache])]) ?_ ?_) (Weak.calc [(0, 0), (1600000, 1)] (by decide) ?_ ?_)
    all_goals simp [WT, show getD d s 0 = [] from rfl, eB_nil]
  · intro i hi
    by_cases hlt : i < n
    · have e1 : ((i : Int) < (n : Int)) := by omega
      have w2 : IntKind.i64.wrap ((s : Int) + (i : Int)) = ((s + i : Nat) : Int) := by rw [wrap64 (by omega)]; omega
      have hk : s + i < d.sectors.length := by omega
      have hl := last_spec fr d (s + i) (d.sectors[s + i])
      have hsa : lastB (d.sectors[s + i]) ((s + i : Nat) : Int) d.cache = secAt d (s + i) := by unfold secAt; rw [List.getElem?_eq_getElem hk]; rfl
      rw [hsa] at hl
      simp only [aDk, fB, fL, fWrs] at hl
      have hlen := getD_len h s i (by omega)
      have hsl := secAt_len h hk
      have hcs : eB (getD d s i) ++ eB (secAt d (s + i)) = eB (getD d s (i + 1)) := by rw [getD_s, app_B]
      have hn : (getD d s i).length + (secAt d (s + i)).length = (getD d s (i + 1)).length := by rw [getD_s, List.length_append]
      simp only [L_gall, e1, w2, TT, ↓reduceIte, Nat.reduceEqDiff, Nat.reduceAdd, Nat.reduceMul, reduceCtorEq, Nat.reduceLeDiff]
      refine ⟨_, hl _ (List.getElem?_eq_getElem hk) (by omega), ?_⟩
      simp only [len_B, hcs, hn, TT, ↓reduceIte, Nat.reduceEqDiff, Nat.reduceAdd, Nat.reduceMul, reduceCtorEq, Nat.reduceLeDiff]
      rw [if_pos (by omega)]
      refine famC_next (i + 1) (by omega) (by omega) ?_
      refine Weak.calc [(0, 0), (900002, 1)] (by decide) ?_ ?_ <;> simp [WT, wrap64 (x := (i : Int) + 1) (by omega)]
    · obtain rfl : i = n := by omega
      have e1 : ¬ ((i : Int) < (i : Int)) := by omega
      simp only [L_gall, e1, TT, ↓reduceIte, Nat.reduceEqDiff, Nat.reduceAdd, Nat.reduceMul, reduceCtorEq, Nat.reduceLeDiff]
      refine Ends.weak (Weak.freezeC 1 rfl (l := [(6, fB true (getD d s i)), (7, .v (.int .i64 0))]) (h := []) ?_ ?_) (Ends.data (.inr rfl) (by simp [ET, fB]) ⟨al_B _, trivial, trivial⟩)
      · simp [WT]
      · simp [WT]
end Go.Proofs.YtdenddhdeloceaaGreatDoor
/- Contract: disk's put. -/
namespace Go.Proofs.YtdenddhdeloceaaGreatDoor
open Go.RowKit
set_option maxRecDepth 100000
/-- the i-th part of 64 octets -/
def chk (data : List Int) (i : Nat) : List Int := (data.drop (i * 64)).take (min 64 (data.length - i * 64))
def putW (s : Int) (data : List Int) (l : List Nat) : List Wr := l.zipIdx.map fun q => ⟨s + q.2, pad 64 (chk data q.1)⟩
theorem putW_snoc (s : Int) (data : List Int) (l : List Nat) (i : Nat) : putW s data (l ++ [i]) = putW s data l ++ [⟨s + l.length, pad 64 (chk data i)⟩] := by
  unfold putW
  rw [List.zipIdx_append, List.map_append]
  simp
theorem putW_len (s : Int) (data : List Int) (l : List Nat) : (putW s data l).length = l.length := by simp [putW]
theorem chk_le (data : List Int) (i : Nat) : (chk data i).length ≤ 64 := by simp [chk]; omega
theorem chk_len (data : List Int) (i : Nat) : (chk data i).length = min 64 (data.length - i * 64) := by simp [chk]
/-- the disk with octets put on it, a sector after another -/
def putG (d : Dk) (s : Int) (data : List Int) : Dk := ⟨d.sectors, d.cache ++ putW s data (List.range (chK data.length 64))⟩
abbrev hPt (d : Dk) (s : Int) (data : List Int) (pre : List Nat) : List (Nat × AObj) := [(0, .row true 3 [.v (.int .i64 (s + pre.length))]), (1, zP),
  (2, .row true 50 [fL true d.sectors, .os 3 0 (d.cache ++ putW s data pre).length 2]), (3, .row true 90 (eWrs true (d.cache ++ putW s data pre)))]
abbrev L_put (fk : Bool) (d : Dk) (s : Int) (data : List Int) : ASt := ⟨envOf [(4, .op 0 0), (6, .op 1 0), (7, .op 2 0), (13, .fn 109 [.fp true [fB fk data] 0, .fp true [.v (.int .i64 64)] 0])], heapOf (hPt d s data []), 4⟩
theorem chk_cells (fk : Bool) (data : List Int) (i : Nat) : AV.fs fk (((eB data).drop (i * 64)).take (min 64 (data.length - i * 64))) (min 64 (data.length - i * 64)) = fB fk (chk data i) := by
  rw [drop_B, take_B, fB, chk_len]; rfl
set_option maxHeartbeats 4000000 in
theorem put_spec (fr fk : Bool) (d : Dk) (s : Int) (data : List Int) (nb : Nat) (h : okD d) (hs : -4096 ≤ s ∧ s ≤ 4096) (hd : data.length ≤ 140737488355328) :
    ASound Tryz.prog 51 [aDk fr d, .v (.int .i64 s), fB fk data] nb (.ret (aDk true (putG d s data)) []) := by
  have hf := h.few
  have hK : chK data.length 64 ≤ 2199023255552 := by unfold chK; omega
  refine ok_51.sound (by simp) ⟨al_aDk d, trivial, al_fB data, trivial⟩ ?_
  have hc := clone_put fr d
  have hk := chunk_spec fk (eB data) data.length 64 (by decide) (al_B data)
  simp only [aDk, fL, fWrs] at hc
  simp only [ac_51, TT, ↓reduceIte, Nat.reduceEqDiff, Nat.reduceAdd, Nat.reduceMul, reduceCtorEq, Nat.reduceLeDiff]
  refine ⟨_, hc _ h, ?_⟩
  simp only [TT, ↓reduceIte, Nat.reduceEqDiff, Nat.reduceAdd, Nat.reduceMul, reduceCtorEq, Nat.reduceLeDiff]
  refine ⟨_, hk _, ?_⟩
  simp only [TT, ↓reduceIte, Nat.reduceEqDiff, Nat.reduceAdd, Nat.reduceMul, reduceCtorEq, Nat.reduceLeDiff]
  refine AWc.weak (s' := L_put fk d s data) (Weak.calc [(100000, 0), (200000, 1), (500000, 2), (400000, 3)] (by decide) ?_ ?_) ?_
  · simp [WT]
  · simp [WT, putW, fL, ren_L, al_L, al_Wrs, ren_Wrs]
  refine AWc.range 3 (by omega) (by simp [WT, evA]) (chunk_iter fk true true (eB data) data.length 64 (by decide) (by omega) (len_B data)) rfl (fun l hl => ?_) (AlN.env (by simp [AlL, Al, fB, al_B]))
    (fun pre => (heapOf (hPt d s data (pre.map (·.1))), 4)) rfl (fun pre => (by decide : 3 ≤ 4)) (fun _ _ _ _ => False) (fun pre i hpl => ?_) ?_ (fun j e σ nx _ hx => hx.elim)
  · obtain ⟨i, hi, rfl⟩ := List.mem_map.1 hl
    exact ⟨AlNL.of (by simp [AlL, Al, ← List.map_drop, drop_B, take_B, al_B]), rfl⟩
  · rw [chL_get, chk_cells]
    have hil : i.1 < chK data.length 64 := Nat.lt_of_lt_of_eq i.2 (chL_len _ _ _ _)
    have hpl' : (pre.map (·.1)).length < chK data.length 64 := by rw [List.length_map]; exact Nat.lt_of_lt_of_eq hpl (chL_len _ _ _ _)
    obtain ⟨P, hP⟩ : ∃ P, P = pre.map (·.1) := ⟨_, rfl⟩
    obtain ⟨j, hj⟩ : ∃ j, j = i.1 := ⟨_, rfl⟩
    have hPj : (pre ++ [i]).map (·.1) = P ++ [j] := by rw [List.map_append, hP, hj]; rfl
    rw [← hP, ← hj]
    rw [← hP] at hpl'
    simp only [L_put, bindP, mvE, rep_B, len_B, TT, ↓reduceIte, Nat.reduceEqDiff, Nat.reduceAdd, Nat.reduceMul, reduceCtorEq, Nat.reduceLeDiff]
    have t6 : Int.toNat 64 = 64 := rfl
    have hcl := chk_le data j
    have hm : (chk data j).length.min 64 = (chk data j).length := Nat.min_eq_left hcl
    have htk : List.take (chk data j).length (eB (chk data j)) = eB (chk data j) := List.take_of_length_le (by rw [len_B]; exact Nat.le_refl _)
    have hpl2 : (pad 64 (chk data j)).length = 64 := pad_len hcl
    have hwl : (d.cache ++ putW s data P).length = d.cache.length + P.length := by rw [List.length_append, putW_len]
    have hsn : setN (eB (List.replicate 64 0)) 0 (eB (chk data j)) = eB (pad 64 (chk data j)) := by
      rw [setN_B (by rw [List.length_replicate]; omega), pad_rep]
    have hcs : eWrs true (d.cache ++ putW s data P) ++ [.v (.int .i64 (s + P.length)), .fs true (eB (pad 64 (chk data j))) 64] = eWrs true (d.cache ++ putW s data (P ++ [j])) := by
      rw [putW_snoc, ← List.append_assoc, app_Wrs]
      congr 1
      simp [eWrs, eWr, fB, hpl2]
    simp only [t6, hm, htk, hsn]
    rw [if_pos (by decide), if_pos (by simp), if_pos ⟨len_Wrs _, by rw [hwl]; omega⟩]
    have hw := wrap64 (x := s + (P.length : Int) + 1) (by omega)
    show Weak 30 3 _ ⟨envOf [], heapOf (hPt d s data ((pre ++ [i]).map (fun x => x.1))), 4⟩
    rw [hPj, hw]
    refine Weak.trans (Weak.freezeC 4 rfl (l := []) (h := [(0, .row true 3 [.v (.int .i64 (s + P.length + 1))]), (1, zP), (2, .row true 50 [fL true d.sectors, .os 1100004 0 ((d.cache ++ putW s data P).length + 1) 2]),
      (1100004, .row true 90 (eWrs true (d.cache ++ putW s data P) ++ [.v (.int .i64 (s + P.length)), .fs true (eB (pad 64 (chk data j))) 64]))]) ?_ ?_) ?_
    · simp [WT]
    · have htz : List.take 64 (eB (pad 64 (chk data j))) = eB (pad 64 (chk data j)) := List.take_of_length_le (by rw [len_B, hpl2]; exact Nat.le_refl _)
      have hle : (eWrs true (d.cache ++ putW s data P)).length = (d.cache ++ putW s data P).length * 2 := len_Wrs _
      simp [WT, htz, fL]
      refine .inr ⟨(d.cache ++ putW s data P).length * 2 + 1, 64, 1, ?_, ?_⟩
      · rw [List.getElem?_append_right (by omega), hle, show (d.cache ++ putW s data P).length * 2 + 1 - (d.cache ++ putW s data P).length * 2 = 1 from by omega]; rfl
      · rw [List.set_append, if_neg (by omega), hle, show (d.cache ++ putW s data P).length * 2 + 1 - (d.cache ++ putW s data P).length * 2 = 1 from by omega]; simp [htz]
    · rw [hcs]
      refine Weak.calc [(0, 0), (1, 1), (2, 2), (1100004, 3)] (by decide) ?_ ?_ <;> simp [WT, fL]
      rw [putW_len, putW_len]
      refine ⟨by omega, by simp; omega⟩
  · have hz : (List.finRange (chL fk (eB data) data.length 64).length).map (fun x => x.1) = List.range (chK data.length 64) := by
      rw [chL_len]; apply List.ext_getElem <;> simp
    rw [hz]
    have hg : d.cache ++ putW s data (List.range (chK data.length 64)) = (putG d s data).cache := rfl
    simp only [L_put, hPt, hg, TT, ↓reduceIte, Nat.reduceEqDiff, Nat.reduceAdd, Nat.reduceMul, reduceCtorEq, Nat.reduceLeDiff]
    refine Ends.weak (Weak.freezeC 3 rfl (l := [(6, .op 1 0)]) (h := [(1, .row true 50 [fL true d.sectors, fWrs true (putG d s data).cache])]) ?_ ?_) (Ends.data (.inr rfl) (by simp [ET]; exact ⟨rfl, rfl⟩) (al_aDk _))
    · simp [WT]
    · have htk : List.take ((putG d s data).cache.length * 2) (eWrs true (putG d s data).cache) = eWrs true (putG d s data).cache := List.take_of_length_le (by rw [len_Wrs]; exact Nat.le_refl _)
      simp [WT, htk]
end Go.Proofs.YtdenddhdeloceaaGreatDoor
/- Contract: disk.PutAll. -/
namespace Go.Proofs.YtdenddhdeloceaaGreatDoor
open Go.RowKit
set_option maxRecDepth 100000
noncomputable def putAllD (d : Dk) (s : Int) (data : List Int) : Dk × Int := if dkE d ≠ 0 then (dk0, dkE d) else if ¬ ((0 : Int) ≤ s ∧ (0 : Int) ≤ (chK data.length 64 : Int) ∧ s ≤ d.sectors.length ∧ (chK data.length 64 : Int) ≤ d.sectors.length - s) then (dk0, 41)
  else if (4096 - d.cache.length : Int) < (chK data.length 64 : Int) then (dk0, 51) else (putG d s data, 0)
theorem dkE_cases (d : Dk) : (dkE d = 0 ∧ okD d) ∨ (dkE d = 9 ∧ ¬ okD d) := by
  by_cases h : okD d
  · exact .inl ⟨dkE_ok h, h⟩
  · exact .inr ⟨dkE_no h, h⟩
set_option maxHeartbeats 2000000 in
theorem putAll_spec (fr fk : Bool) (d : Dk) (s : Int) (data : List Int) (nb : Nat) (hl : d.sectors.length ≤ 140737488355328) (hs : s ≤ 4096 ∧ -4096 ≤ s) (hd : data.length ≤ 140737488355328) :
    ASound Tryz.prog 28 [aDk fr d, .v (.int .i64 s), fB fk data] nb (.ret (.tup [aDk true (putAllD d s data).1, .v (.int .i64 (putAllD d s data).2)]) []) := by
  refine ok_28.sound (by simp) ⟨al_aDk d, trivial, al_fB data, trivial⟩ ?_
  have hc := dcheck_spec fr d
  simp only [aDk, fL, fWrs] at hc
  simp only [ac_28, TT, ↓reduceIte, Nat.reduceEqDiff, Nat.reduceAdd, Nat.reduceMul, reduceCtorEq, Nat.reduceLeDiff]
  refine ⟨_, hc _ hl, ?_⟩
  rcases dkE_cases d with ⟨hE, hok⟩ | ⟨hE, hok⟩
  · have hf := hok.few
    have x1 : IntKind.i64.wrap ((data.length : Int) + 64) = (data.length : Int) + 64 := wrap64 (by omega)
    have x2 : IntKind.i64.wrap ((data.length : Int) + 64 - 1) = (data.length : Int) + 64 - 1 := wrap64 (by omega)
    have z64 : ((64 : Int) = 0) = False := eq_false (by decide)
    have hK : chK data.length 64 ≤ 2199023255552 := by unfold chK; omega
    have x3 : IntKind.i64.wrap (Int.tdiv ((data.length : Int) + 64 - 1) 64) = (chK data.length 64 : Int) := by
      rw [show (data.length : Int) + 64 - 1 = ((data.length + 64 - 1 : Nat) : Int) from by omega, show (64 : Int) = ((64 : Nat) : Int) from rfl, Int.tdiv_eq_ediv_of_nonneg (by omega), ← Int.natCast_ediv, wrap64 (by have := hK; unfold chK at this; omega)]
      rfl
    have hr := room_spec fr d s (chK data.length 64 : Int)
    simp only [aDk, fL, fWrs] at hr
    rw [hE]
    simp only [not_true_eq_false, x1, x2, x3, z64, TT, ↓reduceIte, Nat.reduceEqDiff, Nat.reduceAdd, Nat.reduceMul, reduceCtorEq, Nat.reduceLeDiff]
    refine ⟨_, hr _ (by omega) hs, ?_⟩
    by_cases hroom : (0 : Int) ≤ s ∧ (0 : Int) ≤ (chK data.length 64 : Int) ∧ s ≤ d.sectors.length ∧ (chK data.length 64 : Int) ≤ d.sectors.length - s
    · simp only [decide_eq_true hroom, TT, ↓reduceIte, Nat.reduceEqDiff, Nat.reduceAdd, Nat.reduceMul, reduceCtorEq, Nat.reduceLeDiff]
      have x4 : IntKind.i64.wrap (4096 - (d.cache.length : Int)) = 4096 - (d.cache.length : Int) := wrap64 (by omega)
      by_cases hfull : (4096 - d.cache.length : Int) < (chK data.length 64 : Int)
      · have hp : putAllD d s data = (dk0, 51) := by unfold putAllD; rw [if_neg (by rw [hE]; simp), if_neg (by simpa using hroom), if_pos hfull]
        rw [hp]
        simp only [x4, hfull, TT, ↓reduceIte, Nat.reduceEqDiff, Nat.reduceAdd, Nat.reduceMul, reduceCtorEq, Nat.reduceLeDiff]
        exact Ends.imp (r0 := .tup [dz, .v (.int .i64 51)]) (.inr rfl) (by simp [ET]) (al_dz _) (imp_dk0 _)
      · have hp : putAllD d s data = (putG d s data, 0) := by unfold putAllD; rw [if_neg (by rw [hE]; simp), if_neg (by simpa using hroom), if_neg hfull]
        have hps := put_spec fr fk d s data
        simp only [aDk, fB, fL, fWrs] at hps
        rw [hp]
        simp only [x4, hfull, TT, ↓reduceIte, Nat.reduceEqDiff, Nat.reduceAdd, Nat.reduceMul, reduceCtorEq, Nat.reduceLeDiff]
        refine ⟨_, hps _ hok ⟨hs.2, hs.1⟩ hd, ?_⟩
        simp only [TT, ↓reduceIte, Nat.reduceEqDiff, Nat.reduceAdd, Nat.reduceMul, reduceCtorEq, Nat.reduceLeDiff]
        exact Ends.data (.inr rfl) (by simp [ET]) ⟨al_aDk _, trivial, trivial⟩
    · have hp : putAllD d s data = (dk0, 41) := by unfold putAllD; rw [if_neg (by rw [hE]; simp), if_pos (by simpa using hroom)]
      rw [hp]
      simp only [decide_eq_false hroom, TT, ↓reduceIte, Nat.reduceEqDiff, Nat.reduceAdd, Nat.reduceMul, reduceCtorEq, Nat.reduceLeDiff]
      exact Ends.imp (r0 := .tup [dz, .v (.int .i64 41)]) (.inr rfl) (by simp [ET]) (al_dz _) (imp_dk0 _)
  · have hp : putAllD d s data = (dk0, 9) := by unfold putAllD; rw [if_pos (by rw [hE]; simp), hE]
    rw [hp, hE]
    have n9 : ((9 : Int) = 0) = False := eq_false (by decide)
    simp only [n9, not_false_eq_true, TT, ↓reduceIte, Nat.reduceEqDiff, Nat.reduceAdd, Nat.reduceMul, reduceCtorEq, Nat.reduceLeDiff]
    exact Ends.imp (r0 := .tup [dz, .v (.int .i64 9)]) (.inr rfl) (by simp [ET]) (al_dz _) (imp_dk0 _)
/-- what is put of 512 octets -/
theorem putAllD_512 {d : Dk} (h : okD d) {s : Nat} {data : List Int} (hd : data.length = 512) (hs : s + 8 ≤ d.sectors.length) : putAllD d s data = if d.cache.length + 8 ≤ 4096 then (putD d s data, 0) else (dk0, 51) := by
  have hK : chK data.length 64 = 8 := by rw [hd]; rfl
  unfold putAllD
  rw [if_neg (by rw [dkE_ok h]; simp), hK, if_neg (by simp; omega)]
  have hg : putG d s data = putD d s data := by
    unfold putG putD
    rw [hK]
    congr 2
    unfold putW putL
    apply List.ext_getElem
    · simp
    · intro i h1 h2
      have hi : i < 8 := by simpa using h1
      have hc : chk data i = chunk data i := by unfold chk chunk; rw [Nat.mul_comm, Nat.min_eq_left (by omega)]
      simp [hc, pad_full (chunk_len hd hi)]
  by_cases hov : d.cache.length + 8 ≤ 4096
  · rw [if_pos hov, if_neg (by omega), hg]
  · rw [if_neg hov, if_pos (by omega)]
end Go.Proofs.YtdenddhdeloceaaGreatDoor
/- Contract: point.Store. -/
namespace Go.Proofs.YtdenddhdeloceaaGreatDoor
open Go.RowKit
set_option maxRecDepth 100000
set_option maxHeartbeats 4000000 in
theorem store_spec (fr fp : Bool) (d : Dk) (p : Pt) (nb : Nat) (hl : d.sectors.length ≤ 140737488355328) : ASound Tryz.prog 21 [aDk fr d, aPt fp p] nb (.ret (.tup [aDk true (storeD d p).1, .v (.int .i64 (storeD d p).2)]) []) := by
  refine ok_21.sound (by simp) ⟨al_aDk d, al_aPt p, trivial⟩ ?_
  have ha := asked_spec fr d
  have he := pencode_spec fp p
  simp only [aDk, fL, fWrs] at ha
  simp only [aPt, fB] at he
  simp only [ac_21, TT, ↓reduceIte, Nat.reduceEqDiff, Nat.reduceAdd, Nat.reduceMul, reduceCtorEq, Nat.reduceLeDiff]
  refine ⟨_, ha _ hl, ?_⟩
  by_cases hA : askE d = 0
  · obtain ⟨hok, h16⟩ := askE_iff.1 hA
    rw [hA]
    simp only [not_true_eq_false, TT, ↓reduceIte, Nat.reduceEqDiff, Nat.reduceAdd, Nat.reduceMul, reduceCtorEq, Nat.reduceLeDiff]
    refine ⟨_, he _, ?_⟩
    by_cases hE : ptE p = 0
    · have hp := (okP_iff p).1 hE
      have hen : encP p = (pad 512 (bodyP p), 0) := by rw [encP, if_pos hE]
      have hlen : (pad 512 (bodyP p)).length = 512 := pad_len (by have := bodyP_le hp; omega)
      have h0 : 0 ≤ p.epoch ∧ p.epoch ≤ 1099511627776 := by have := hp.nums p.epoch (by simp [numsP]); omega
      have hsl : slotP p + 8 ≤ d.sectors.length := by unfold slotP; omega
      have hs16 : slotP p ≤ 8 := by unfold slotP; omega
      have hrem : IntKind.i64.wrap (Int.tmod p.epoch 2 * 8) = (slotP p : Int) := by
        rw [Int.tmod_eq_emod_of_nonneg h0.1, wrap64 (by omega)]
        unfold slotP; omega
      have z2 : ((2 : Int) = 0) = False := eq_false (by decide)
      have hpa := putAll_spec fr true d (slotP p : Int) (pad 512 (bodyP p))
      rw [putAllD_512 hok hlen hsl] at hpa
      simp only [aDk, fB, fL, fWrs] at hpa
      rw [hen]
      have hst : storeD d p = if d.cache.length + 8 ≤ 4096 then (flushD (putD d (slotP p) (pad 512 (bodyP p))), 0) else (dk0, 51) := by
        unfold storeD; rw [if_neg (by rw [hA]; simp), if_neg (by rw [hE]; simp), hen]
      by_cases hov : d.cache.length + 8 ≤ 4096
      · have hfl := flush_spec true (putD d (slotP p) (pad 512 (bodyP p)))
        simp only [aDk, fL, fWrs] at hfl
        rw [hst, if_pos hov]
        simp only [if_pos hov] at hpa
        have hokD := okD_put (data := pad 512 (bodyP p)) hok hlen hsl hov
        simp only [z2, hrem, not_true_eq_false, TT, ↓reduceIte, Nat.reduceEqDiff, Nat.reduceAdd, Nat.reduceMul, reduceCtorEq, Nat.reduceLeDiff]
        refine ⟨_, hpa _ hl (by omega) (by omega), ?_⟩
        generalize putD d (slotP p) (pad 512 (bodyP p)) = D at hfl hokD
        simp only [not_true_eq_false, TT, ↓reduceIte, Nat.reduceEqDiff, Nat.reduceAdd, Nat.reduceMul, reduceCtorEq, Nat.reduceLeDiff]
        refine ⟨_, hfl _ hokD, ?_⟩
        simp only [TT, ↓reduceIte, Nat.reduceEqDiff, Nat.reduceAdd, Nat.reduceMul, reduceCtorEq, Nat.reduceLeDiff]
        exact Ends.data (r := .tup [aDk true (flushD D), .v (.int .i64 0)]) (.inr rfl) (by simp [ET, aDk, fL, fWrs]) ⟨al_aDk _, trivial, trivial⟩
      · have e51 : ¬ (51 : Int) = 0 := by decide
        rw [hst, if_neg hov]
        simp only [if_neg hov] at hpa
        simp only [z2, hrem, not_true_eq_false, TT, ↓reduceIte, Nat.reduceEqDiff, Nat.reduceAdd, Nat.reduceMul, reduceCtorEq, Nat.reduceLeDiff]
        refine ⟨_, hpa _ hl (by omega) (by omega), ?_⟩
        simp only [e51, not_false_eq_true, TT, ↓reduceIte, Nat.reduceEqDiff, Nat.reduceAdd, Nat.reduceMul, reduceCtorEq, Nat.reduceLeDiff]
        exact Ends.imp (r0 := .tup [dz, .v (.int .i64 51)]) (.inr rfl) (by simp [ET]) (al_dz _) (imp_dk0 _)
    · have hen : encP p = ([], ptE p) := by rw [encP, if_neg hE]
      have hst : storeD d p = (dk0, ptE p) := by unfold storeD; rw [if_neg (by rw [hA]; simp), if_pos hE]
      rw [hen, hst]
      simp only [hE, not_false_eq_true, TT, ↓reduceIte, Nat.reduceEqDiff, Nat.reduceAdd, Nat.reduceMul, reduceCtorEq, Nat.reduceLeDiff]
      exact Ends.imp (r0 := .tup [dz, .v (.int .i64 (ptE p))]) (.inr rfl) (by simp [ET]) (al_dz _) (imp_dk0 _)
  · have hst : storeD d p = (dk0, askE d) := by unfold storeD; rw [if_pos hA]
    rw [hst]
    simp only [hA, not_false_eq_true, TT, ↓reduceIte, Nat.reduceEqDiff, Nat.reduceAdd, Nat.reduceMul, reduceCtorEq, Nat.reduceLeDiff]
    exact Ends.imp (r0 := .tup [dz, .v (.int .i64 (askE d))]) (.inr rfl) (by simp [ET]) (al_dz _) (imp_dk0 _)
end Go.Proofs.YtdenddhdeloceaaGreatDoor
/- Contract: point.Load. -/
namespace Go.Proofs.YtdenddhdeloceaaGreatDoor
open Go.RowKit
set_option maxRecDepth 100000
def accP (b x : Pt × Int) : Pt × Int := if x.2 = 0 ∧ (b.2 ≠ 0 ∨ b.1.epoch < x.1.epoch) then (x.1, 0) else b
def bestP (d : Dk) : Nat → Pt × Int
  | 0 => (pt0, 21)
  | i + 1 => accP (bestP d i) (decP (getD d (8 * i) 8))
theorem accP_pick (x y : Pt × Int) : accP (accP (pt0, 21) x) y = pickP x y := by
  obtain ⟨x, e⟩ := x
  obtain ⟨y, f⟩ := y
  unfold accP pickP
  by_cases he : e = 0 <;> by_cases hf : f = 0 <;> simp [he, hf]
abbrev cPt (p : Pt) : List AV := [.v (.int .i64 p.epoch), .v (.int .i64 p.seq), .v (.int .i64 p.view), .v (.int .i64 p.commit), fB true p.data]
abbrev zPt : AObj := .row true 25 [.v (.int .i64 0), .v (.int .i64 0), .v (.int .i64 0), .v (.int .i64 0), .v (.slice none 0 0)]
abbrev L_lo (fr : Bool) (d : Dk) (i : Nat) : ASt := ⟨envOf [(1, .op 0 0), (2, .op 1 0), (5, .op 2 0), (6, .v (.int .i64 (bestP d i).2)), (19, .v (.int .i64 i))],
  heapOf [(0, .row true 50 [fL fr d.sectors, fWrs fr d.cache]), (1, zPt), (2, .row true 25 (cPt (bestP d i).1))], 3⟩
set_option maxHeartbeats 4000000 in
theorem load_spec (fr : Bool) (d : Dk) (nb : Nat) (ho : octD d) (hl : d.sectors.length ≤ 140737488355328) : ASound Tryz.prog 23 [aDk fr d] nb (.ret (.tup [aPt true (loadD d).1, .v (.int .i64 (loadD d).2)]) []) := by
  refine ok_23.sound (by simp) ⟨al_aDk d, trivial⟩ ?_
  have ha := asked_spec fr d
  simp only [aDk, fL, fWrs] at ha
  simp only [ac_23, TT, ↓reduceIte, Nat.reduceEqDiff, Nat.reduceAdd, Nat.reduceMul, reduceCtorEq, Nat.reduceLeDiff]
  refine ⟨_, ha _ hl, ?_⟩
  by_cases hA : askE d = 0
  · obtain ⟨hok, h16⟩ := askE_iff.1 hA
    have hst : loadD d = bestP d 2 := by
      unfold loadD; rw [if_neg (by rw [hA]; simp), bestP, bestP, bestP, accP_pick]
    rw [hA, hst]
    simp only [not_true_eq_false, TT, ↓reduceIte, Nat.reduceEqDiff, Nat.reduceAdd, Nat.reduceMul, reduceCtorEq, Nat.reduceLeDiff]
    refine AWc.family (L_lo fr d) (fun i => i ≤ 2) (fun i => 2 - i) 0 (Nat.zero_le _) ?_ ?_
    · refine Weak.trans (Weak.calc (l := [(1, .op 0 0), (2, .op 1 0), (5, .op 2 0), (6, .v (.int .i64 21)), (19, .v (.int .i64 0))]) (h := [(0, .row true 50 [fL fr d.sectors, fWrs fr d.cache]), (1, zPt), (2, zPt)]) (nx := 3) [(0, 0), (100000, 1), (900000, 2)] (by decide) ?_ ?_) (Weak.imps _ _ (fun t v hm => ?_) (fun j o hm => ?_))
      · simp [WT]
      · simp [WT]
      · simp only [List.mem_cons, Prod.mk.injEq, List.not_mem_nil, or_false] at hm
        rcases hm with ⟨rfl, rfl⟩ | ⟨rfl, rfl⟩ | ⟨rfl, rfl⟩ | ⟨rfl, rfl⟩ | ⟨rfl, rfl⟩ <;> exact Imp.refl _
      · simp only [List.mem_cons, Prod.mk.injEq, List.not_mem_nil, or_false] at hm
        rcases hm with ⟨rfl, rfl⟩ | ⟨rfl, rfl⟩ | ⟨rfl, rfl⟩
        · exact ⟨_, _, _, _, rfl, rfl, Nat.le_refl _, fun k x hx => ⟨x, hx, Imp.refl x⟩⟩
        · exact ⟨_, _, _, _, rfl, rfl, Nat.le_refl _, fun k x hx => ⟨x, hx, Imp.refl x⟩⟩
        · refine ⟨true, 25, [.v (.int .i64 0), .v (.int .i64 0), .v (.int .i64 0), .v (.int .i64 0), .v (.slice none 0 0)], cPt (bestP d 0).1, rfl, rfl, Nat.le_refl _, fun k x hx => ?_⟩
          match k, hx with
          | 0, hx => cases hx; exact ⟨_, rfl, Imp.refl _⟩
          | 1, hx => cases hx; exact ⟨_, rfl, Imp.refl _⟩
          | 2, hx => cases hx; exact ⟨_, rfl, Imp.refl _⟩
          | 3, hx => cases hx; exact ⟨_, rfl, Imp.refl _⟩
          | 4, hx => cases hx; exact ⟨_, rfl, Imp.nil true⟩
          | k + 5, hx => simp at hx
    · intro i hi
      by_cases hlt : i < 2
      · have e1 : ((i : Int) < 2) := by omega
        have w2 : IntKind.i64.wrap ((i : Int) * 8) = ((8 * i : Nat) : Int) := by rw [wrap64 (by omega)]; omega
        have w3 : IntKind.i64.wrap ((i : Int) + 1) = ((i + 1 : Nat) : Int) := by rw [wrap64 (by omega)]; omega
        have g1 := getAll_ok fr d (8 * i) 8
        have l1 := getD_len hok (8 * i) 8 (by omega)
        have o1 := getD_okB ho (8 * i) 8
        have d1 := pdecode_spec true (getD d (8 * i) 8)
        have hb : bestP d (i + 1) = accP (bestP d i) (decP (getD d (8 * i) 8)) := rfl
        simp only [L_lo]
        generalize getD d (8 * i) 8 = A at g1 l1 d1 o1 hb
        simp only [aDk, fB, fL, fWrs, show ((8 : Nat) : Int) = 8 from rfl] at g1
        simp only [fB, aPt] at d1
        generalize decP A = x at d1 hb
        generalize bestP d i = b at hb
        obtain ⟨x, e⟩ := x
        obtain ⟨b, c⟩ := b
        simp only [e1, w2, TT, ↓reduceIte, Nat.reduceEqDiff, Nat.reduceAdd, Nat.reduceMul, reduceCtorEq, Nat.reduceLeDiff]
        refine ⟨_, g1 _ hok (by omega), ?_⟩
        simp only [TT, ↓reduceIte, Nat.reduceEqDiff, Nat.reduceAdd, Nat.reduceMul, reduceCtorEq, Nat.reduceLeDiff]
        refine ⟨_, d1 _ o1 (by omega), ?_⟩
        simp only at d1 ⊢
        by_cases he : e = 0
        · subst he
          by_cases hc : c = 0
          · subst hc
            by_cases hlt2 : b.epoch < x.epoch
            · have hb' : accP (b, 0) (x, 0) = (x, 0) := by simp [accP, hlt2]
              rw [hb'] at hb
              simp only [hlt2, not_true_eq_false, TT, ↓reduceIte, Nat.reduceEqDiff, Nat.reduceAdd, Nat.reduceMul, reduceCtorEq, Nat.reduceLeDiff]
              refine famC_next (i + 1) (by omega) (by omega) ?_
              refine Weak.calc [(0, 0), (1, 1), (2, 2)] (by decide) ?_ ?_ <;> simp [WT, hb, w3, fB, fL, fWrs]
            · have hb' : accP (b, 0) (x, 0) = (b, 0) := by simp [accP, hlt2]
              rw [hb'] at hb
              simp only [hlt2, not_true_eq_false, TT, ↓reduceIte, Nat.reduceEqDiff, Nat.reduceAdd, Nat.reduceMul, reduceCtorEq, Nat.reduceLeDiff]
              refine famC_next (i + 1) (by omega) (by omega) ?_
              refine Weak.calc [(0, 0), (1, 1), (2, 2)] (by decide) ?_ ?_ <;> simp [WT, hb, w3, fB, fL, fWrs]
          · have hb' : accP (b, c) (x, 0) = (x, 0) := by simp [accP, hc]
            rw [hb'] at hb
            simp only [hc, not_true_eq_false, not_false_eq_true, TT, ↓reduceIte, Nat.reduceEqDiff, Nat.reduceAdd, Nat.reduceMul, reduceCtorEq, Nat.reduceLeDiff]
            refine famC_next (i + 1) (by omega) (by omega) ?_
            refine Weak.calc [(0, 0), (1, 1), (2, 2)] (by decide) ?_ ?_ <;> simp [WT, hb, w3, fB, fL, fWrs]
        · have hb' : accP (b, c) (x, e) = (b, c) := by simp [accP, he]
          rw [hb'] at hb
          simp only [he, not_true_eq_false, not_false_eq_true, TT, ↓reduceIte, Nat.reduceEqDiff, Nat.reduceAdd, Nat.reduceMul, reduceCtorEq, Nat.reduceLeDiff]
          refine famC_next (i + 1) (by omega) (by omega) ?_
          refine Weak.calc [(0, 0), (1, 1), (2, 2)] (by decide) ?_ ?_ <;> simp [WT, hb, w3, fB, fL, fWrs]
      · obtain rfl : i = 2 := by omega
        have e1 : ¬ (((2 : Nat) : Int) < 2) := by omega
        simp only [L_lo]
        generalize bestP d 2 = b
        obtain ⟨b, c⟩ := b
        simp only [e1, TT, ↓reduceIte, Nat.reduceEqDiff, Nat.reduceAdd, Nat.reduceMul, reduceCtorEq, Nat.reduceLeDiff]
        exact Ends.data (r := .tup [aPt true b, .v (.int .i64 c)]) (.inr rfl) (by simp [ET, aPt, fB]) ⟨al_aPt _, trivial, trivial⟩
  · have hst : loadD d = (pt0, askE d) := by unfold loadD; rw [if_pos hA]
    rw [hst]
    simp only [hA, not_false_eq_true, TT, ↓reduceIte, Nat.reduceEqDiff, Nat.reduceAdd, Nat.reduceMul, reduceCtorEq, Nat.reduceLeDiff]
    exact Ends.imp (r0 := .tup [pz, .v (.int .i64 (askE d))]) (.inr rfl) (by simp [ET]) (al_pz _) (imp_pt0 _)
end Go.Proofs.YtdenddhdeloceaaGreatDoor
/- Plain: points on disks. -/
namespace Go.Proofs.YtdenddhdeloceaaGreatDoor
open Go.RowKit
theorem ASound.args {P : Program} {f : FuncId} {args args' : List AV} {nb : Nat} {am : AM} (h : ASound P f args nb am) (hi : ImpL args' args) : ASound P f args' nb am :=
  ⟨h.1, fun c us r R W hrun hr hfr hv => h.2 c us r R W hrun hr hfr (by
    obtain ⟨e1, e2⟩ := ImpL_get hi
    rw [VRt_iff] at hv ⊢
    refine ⟨by omega, fun j a hj => ?_⟩
    obtain ⟨x, hx, hix⟩ := e2 j a hj
    obtain ⟨u, k1, k2⟩ := hv.2 j x hx
    exact ⟨u, k1, hix c u k2⟩)⟩
def landT (ss : List (List Int)) (l : List Wr) : List (List Int) := landL ss (l.map fun w => (true, w))
theorem flushD_eq (d : Dk) : flushD d = ⟨landT d.sectors d.cache, []⟩ := by
  unfold flushD crashD landT
  congr 2
  apply List.ext_getElem <;> simp
theorem landL_append : ∀ (a b : List (Bool × Wr)) (ss : List (List Int)), landL ss (a ++ b) = landL (landL ss a) b
  | [], _, _ => rfl
  | (k, w) :: a, b, ss => by rw [List.cons_append, landL, landL, landL_append a b]
theorem landT_snoc (ss : List (List Int)) (l : List Wr) (w : Wr) : landT ss (l ++ [w]) = (landT ss l).set w.sec.toNat w.data := by
  unfold landT; rw [List.map_append, landL_append]; rfl
theorem landT_len (ss : List (List Int)) (l : List Wr) : (landT ss l).length = ss.length := landL_len _ _
theorem landT_putL (ss : List (List Int)) (s : Nat) (data : List Int) : ∀ (n j : Nat), s + n ≤ ss.length → (landT ss (putL s data n))[j]? = if s ≤ j ∧ j < s + n then some (chunk data (j - s)) else ss[j]?
  | 0, j, _ => by rw [if_neg (by omega)]; rfl
  | n + 1, j, h => by
    rw [putL_s, landT_snoc]
    show ((landT ss (putL s data n)).set ((s + n : Nat) : Int).toNat (chunk data n))[j]? = _
    rw [Int.toNat_natCast, List.getElem?_set]
    by_cases e : s + n = j
    · subst e
      rw [if_pos rfl, if_pos (by rw [landT_len]; omega), if_pos (by omega), show s + n - s = n from by omega]
    · rw [if_neg e, landT_putL ss s data n j (by omega)]
      by_cases h2 : s ≤ j ∧ j < s + n
      · rw [if_pos h2, if_pos (by omega)]
      · rw [if_neg h2, if_neg (by omega)]
theorem flat_chunk (data : List Int) : ∀ n, (List.range n).flatMap (chunk data) = data.take (64 * n)
  | 0 => by simp
  | n + 1 => by
    rw [List.range_succ, List.flatMap_append, flat_chunk data n]
    simp only [List.flatMap_cons, List.flatMap_nil, List.append_nil]
    rw [chunk, Nat.mul_succ, List.take_add]
/-- region k -/
def regD (d : Dk) (k : Nat) : List Int := getD d (8 * k) 8
theorem secAt_nil {d : Dk} (hc : d.cache = []) (k : Nat) : secAt d k = (d.sectors[k]?).getD [] := by unfold secAt; rw [hc]; rfl
structure cleanD (d : Dk) : Prop where
  ok : okD d
  few : 16 ≤ d.sectors.length
  cache : d.cache = []
/-- what a store makes -/
def stD (d : Dk) (k : Nat) (data : List Int) : Dk := flushD (putD d (8 * k) data)
theorem stD_sectors {d : Dk} (h : cleanD d) (k : Nat) (data : List Int) : (stD d k data).sectors = landT d.sectors (putL (8 * k) data 8) := by
  unfold stD; rw [flushD_eq, putD, h.cache]; rfl
theorem stD_clean {d : Dk} (h : cleanD d) {k : Nat} (hk : k < 2) {data : List Int} (hd : data.length = 512) : cleanD (stD d k data) := by
  have hf := h.few
  have hs := stD_sectors h k data
  have hl : (stD d k data).sectors.length = d.sectors.length := by rw [hs, landT_len]
  have hc : (stD d k data).cache = [] := by unfold stD; rw [flushD_eq]
  refine ⟨⟨?_, fun t ht => ?_, fun w hw => by rw [hc] at hw; cases hw⟩, by rw [hl]; exact hf, hc⟩
  · have := h.ok.few; rw [hl, hc]; simp only [List.length_nil]; omega
  · rw [hs] at ht
    obtain ⟨j, hj⟩ := List.mem_iff_getElem?.1 ht
    rw [landT_putL _ _ _ _ _ (by omega)] at hj
    split at hj
    · cases hj; exact chunk_len hd (by omega)
    · exact h.ok.secs t (List.mem_of_getElem? hj)
theorem regD_st {d : Dk} (h : cleanD d) {k : Nat} (hk : k < 2) {data : List Int} (hd : data.length = 512) : regD (stD d k data) k = data := by
  have hf := h.few
  unfold regD getD
  have : ∀ i ∈ List.range 8, secAt (stD d k data) (8 * k + i) = chunk data i := fun i hi => by
    rw [List.mem_range] at hi
    rw [secAt_nil (stD_clean h hk hd).cache, stD_sectors h, landT_putL _ _ _ _ _ (by omega), if_pos (by omega), show 8 * k + i - 8 * k = i from by omega]
    rfl
  have e : (List.range 8).flatMap (fun i => secAt (stD d k data) (8 * k + i)) = (List.range 8).flatMap (chunk data) := by
    rw [List.flatMap_def, List.flatMap_def, List.map_congr_left this]
  rw [e, flat_chunk, List.take_of_length_le (by omega)]
theorem regD_other {d : Dk} (h : cleanD d) {k j : Nat} (hk : k < 2) (hj : j < 2) (hne : j ≠ k) {data : List Int} (hd : data.length = 512) : regD (stD d k data) j = regD d j := by
  have hf := h.few
  unfold regD getD
  have : ∀ i ∈ List.range 8, secAt (stD d k data) (8 * j + i) = secAt d (8 * j + i) := fun i hi => by
    rw [List.mem_range] at hi
    rw [secAt_nil (stD_clean h hk hd).cache, secAt_nil h.cache, stD_sectors h, landT_putL _ _ _ _ _ (by omega), if_neg (by omega)]
  rw [List.flatMap_def, List.flatMap_def, List.map_congr_left this]
theorem encP_len {p : Pt} (h : okP p) : (encP p).1.length = 512 := by
  rw [encP, if_pos ((okP_iff p).2 h)]; exact pad_len (by have := bodyP_le h; omega)
/-- the region of a point -/
def regP (p : Pt) : Nat := p.epoch.toNat % 2
theorem regP_lt (p : Pt) : regP p < 2 := Nat.mod_lt _ (by decide)
theorem askE_clean {d : Dk} (h : cleanD d) : askE d = 0 := askE_ok h.ok (by have := h.few; omega)
theorem storeD_clean {d : Dk} (h : cleanD d) {p : Pt} (hp : okP p) : storeD d p = (stD d (regP p) (encP p).1, 0) := by
  unfold storeD
  rw [if_neg (by rw [askE_clean h]; simp), if_neg (by rw [(okP_iff p).2 hp]; simp), if_pos (by rw [h.cache]; simp)]
  rfl
theorem storeD_bad {d : Dk} (h : cleanD d) {p : Pt} (hp : ¬ okP p) : (storeD d p).2 ≠ 0 := by
  unfold storeD
  rw [if_neg (by rw [askE_clean h]; simp), if_pos (fun h9 => hp ((okP_iff p).1 h9))]
  exact fun h9 => hp ((okP_iff p).1 h9)
theorem loadD_clean {d : Dk} (h : cleanD d) : loadD d = pickP (decP (regD d 0)) (decP (regD d 1)) := by
  unfold loadD; rw [if_neg (by rw [askE_clean h]; simp)]; rfl
theorem zeros_clean : cleanD (zerosD 16) := by
  refine ⟨⟨?_, fun t ht => ?_, fun w hw => by cases hw⟩, ?_, rfl⟩
  · simp [zerosD]
  · have := List.eq_of_mem_replicate ht; subst this; rfl
  · simp [zerosD]
/-! octets -/
theorem okB_gp : ∀ (m : Nat), okB (gp m) := by
  intro m
  induction m using Nat.strongRecOn with
  | _ m ih =>
    by_cases h : m < 128
    · rw [gp_small h]; intro x hx; simp at hx; omega
    · rw [gp_big h]; intro x hx
      rcases List.mem_cons.1 hx with e | e
      · omega
      · exact ih (m / 128) (by omega) x e
theorem okB_flat {α : Type} {f : α → List Int} {l : List α} (h : ∀ a ∈ l, okB (f a)) : okB (l.flatMap f) := fun x hx => by
  obtain ⟨a, ha, hx⟩ := List.mem_flatMap.1 hx
  exact h a ha x hx
theorem okB_enc {r : Rec} (h : okR r) (ht : ∀ t ∈ r.texts, okB t) : okB (encR r) := by
  have hk := h.kind
  have hm := h.many
  unfold encR
  refine okB_app (okB_app ?_ (okB_flat fun n _ => okB_gp _)) ?_
  · intro x hx; simp at hx; omega
  · intro x hx
    rcases List.mem_cons.1 hx with e | e
    · omega
    · exact okB_flat (fun t ht' => okB_app (okB_gp _) (ht t ht')) x e
theorem okB_low4 (c : BitVec 32) : okB (low4 c) := by
  intro x hx
  unfold low4 at hx
  simp only [List.mem_cons, List.not_mem_nil, or_false] at hx
  omega
theorem okB_encP {p : Pt} (hp : okB p.data) : okB (encP p).1 := by
  unfold encP
  split
  · rename_i h
    have hp' := (okP_iff p).1 h
    have hl := sealP_le hp'
    refine okB_app (okB_app ?_ (okB_app (okB_enc (okR_P hp') ?_) (okB_low4 _))) ?_
    · intro x hx; simp only [List.mem_cons, List.not_mem_nil, or_false] at hx; omega
    · intro t ht; simp [recP] at ht; subst ht; exact hp
    · intro x hx; have := List.eq_of_mem_replicate hx; omega
  · intro x hx; cases hx
theorem oct_st {d : Dk} (h : cleanD d) (ho : octD d) {k : Nat} (hk : k < 2) {data : List Int} (hb : okB data) : octD (stD d k data) := by
  have hf := h.few
  refine ⟨fun t ht => ?_, fun w hw => by unfold stD at hw; rw [flushD_eq] at hw; cases hw⟩
  rw [stD_sectors h] at ht
  obtain ⟨j, hj⟩ := List.mem_iff_getElem?.1 ht
  rw [landT_putL _ _ _ _ _ (by omega)] at hj
  split at hj
  · cases hj; exact okB_take (okB_drop hb _) _
  · exact ho.secs t (List.mem_of_getElem? hj)
theorem oct_zeros : octD (zerosD 16) := by
  refine ⟨fun t ht => ?_, fun w hw => by cases hw⟩
  have := List.eq_of_mem_replicate ht; subst this
  intro x hx
  have := List.eq_of_mem_replicate hx; omega
/-! the page's example -/
def al1 : Pt := ⟨1, 0, 0, 0, []⟩
def al2 : Pt := ⟨2, 7, 0, 0, []⟩
theorem al1_ok : okP al1 := ⟨by simp [al1, numsP], by simp [al1]⟩
theorem al2_ok : okP al2 := ⟨by simp [al2, numsP], by simp [al2]⟩
def alD1 : Dk := stD (zerosD 16) 1 (encP al1).1
def alD2 : Dk := stD alD1 0 (encP al2).1
theorem alD1_clean : cleanD alD1 := stD_clean zeros_clean (by decide) (encP_len al1_ok)
theorem alD2_clean : cleanD alD2 := stD_clean alD1_clean (by decide) (encP_len al2_ok)
theorem alD1_store : storeD (zerosD 16) al1 = (alD1, 0) := storeD_clean zeros_clean al1_ok
theorem alD2_store : storeD alD1 al2 = (alD2, 0) := storeD_clean alD1_clean al2_ok
theorem okB_nil : okB [] := fun _ h => by cases h
theorem alD2_oct : octD alD2 := oct_st alD1_clean (oct_st zeros_clean oct_zeros (by decide) (okB_encP okB_nil)) (by decide) (okB_encP okB_nil)
theorem alD2_load : loadD alD2 = (al2, 0) := by
  rw [loadD_clean alD2_clean]
  have h0 : regD alD2 0 = (encP al2).1 := regD_st alD1_clean (by decide) (encP_len al2_ok)
  have h1 : regD alD2 1 = (encP al1).1 := (regD_other alD1_clean (by decide) (by decide) (by decide) (encP_len al2_ok)).trans (regD_st zeros_clean (by decide) (encP_len al1_ok))
  rw [h0, h1, decP_encP al2_ok, decP_encP al1_ok]
  simp [pickP, al1, al2]
theorem encP_le (p : Pt) : (encP p).1.length ≤ 512 := by
  by_cases h : okP p
  · rw [encP_len h]; omega
  · rw [encP, if_neg (fun h9 => h ((okP_iff p).1 h9))]; simp
theorem decP_ok (l : List Int) : (decP l).1 = pt0 ∨ okP (decP l).1 := by
  unfold decP
  split
  · split
    · exact .inl rfl
    · unfold decP2
      split
      · exact .inl rfl
      · split
        · exact .inl rfl
        · split
          · exact .inl rfl
          · split
            · exact .inl rfl
            · split
              · exact .inl rfl
              · rename_i h
                split
                · exact .inl rfl
                · exact .inr ((okP_iff _).1 (Classical.byContradiction h))
  · exact .inl rfl
theorem decP_le (l : List Int) : (decP l).1.data.length ≤ 400 := by
  rcases decP_ok l with h | h
  · rw [h]; simp [pt0]
  · have := h.short; omega
end Go.Proofs.YtdenddhdeloceaaGreatDoor
/- Contract: the law's example is as the page says. -/
namespace Go.Proofs.YtdenddhdeloceaaGreatDoor
open Go.RowKit
set_option maxRecDepth 100000
theorem imp_al (a b : Int) : Imp (.agg [.v (.int .i64 a), .v (.int .i64 b), .v (.int .i64 0), .v (.int .i64 0), .v (.slice none 0 0)]) (aPt true ⟨a, b, 0, 0, []⟩) :=
  Imp.aggL ⟨Imp.refl _, Imp.refl _, Imp.refl _, Imp.refl _, Imp.nil true, trivial⟩
set_option maxHeartbeats 2000000 in
theorem alive_spec (nb : Nat) : ASound Tryz.prog 19 [] nb (.ret (.v (.bool true)) []) := by
  refine ok_19.sound (by simp) trivial ?_
  have hn := new_spec 16
  have s1 := store_spec true true (zerosD 16) al1
  rw [alD1_store] at s1
  have s2 := store_spec true true alD1 al2
  rw [alD2_store] at s2
  have hl := load_spec true alD2
  rw [alD2_load] at hl
  have k1 : alD1.sectors.length ≤ 140737488355328 := by have := alD1_clean.ok.few; omega
  have k2 : alD2.sectors.length ≤ 140737488355328 := by have := alD2_clean.ok.few; omega
  have k0 : (zerosD 16).sectors.length ≤ 140737488355328 := by simp [zerosD]
  have oc := alD2_oct
  generalize alD2 = D2 at *
  generalize alD1 = D1 at *
  generalize zerosD 16 = D0 at *
  simp only [ac_19, TT, ↓reduceIte, Nat.reduceEqDiff, Nat.reduceAdd, Nat.reduceMul, reduceCtorEq, Nat.reduceLeDiff]
  refine ⟨_, hn _ (by decide) (by decide), ?_⟩
  simp only [TT, ↓reduceIte, Nat.reduceEqDiff, Nat.reduceAdd, Nat.reduceMul, reduceCtorEq, Nat.reduceLeDiff]
  refine ⟨_, (s1 _ k0).args (args' := [aDk true D0, .agg [.v (.int .i64 1), .v (.int .i64 0), .v (.int .i64 0), .v (.int .i64 0), .v (.slice none 0 0)]]) ⟨Imp.refl _, imp_al 1 0, trivial⟩, ?_⟩
  simp only [TT, ↓reduceIte, Nat.reduceEqDiff, Nat.reduceAdd, Nat.reduceMul, reduceCtorEq, Nat.reduceLeDiff]
  refine ⟨_, (s2 _ k1).args (args' := [aDk true D1, .agg [.v (.int .i64 2), .v (.int .i64 7), .v (.int .i64 0), .v (.int .i64 0), .v (.slice none 0 0)]]) ⟨Imp.refl _, imp_al 2 7, trivial⟩, ?_⟩
  simp only [TT, ↓reduceIte, Nat.reduceEqDiff, Nat.reduceAdd, Nat.reduceMul, reduceCtorEq, Nat.reduceLeDiff]
  refine ⟨_, hl _ oc k2, ?_⟩
  simp only [al2, TT, ↓reduceIte, Nat.reduceEqDiff, Nat.reduceAdd, Nat.reduceMul, reduceCtorEq, Nat.reduceLeDiff]
  refine ⟨_, num_spec 0 _, ?_⟩
  simp only [TT, ↓reduceIte, Nat.reduceEqDiff, Nat.reduceAdd, Nat.reduceMul, reduceCtorEq, Nat.reduceLeDiff]
  refine ⟨_, num_spec 0 _, ?_⟩
  simp only [TT, ↓reduceIte, Nat.reduceEqDiff, Nat.reduceAdd, Nat.reduceMul, reduceCtorEq, Nat.reduceLeDiff]
  refine ⟨_, num_spec 0 _, ?_⟩
  simp only [TT, ↓reduceIte, Nat.reduceEqDiff, Nat.reduceAdd, Nat.reduceMul, reduceCtorEq, Nat.reduceLeDiff]
  refine ⟨_, num_spec 0 _, ?_⟩
  simp only [TT, ↓reduceIte, Nat.reduceEqDiff, Nat.reduceAdd, Nat.reduceMul, reduceCtorEq, Nat.reduceLeDiff]
  exact Ends.data (.inr rfl) (by simp [ET]; try decide) trivial
end Go.Proofs.YtdenddhdeloceaaGreatDoor
/- Functions of the program, compiled. -/
namespace Go.Proofs.YtdenddhdeloceaaGreatDoor
set_option maxRecDepth 100000
def ac_3 : AC :=
(.seq (.reg false [⟨some 2, .box 24 (.tmp 0), none, [0], []⟩,
    ⟨some 4, .mv (.const (.bool false)), none, [], []⟩] [1, 2])
(.seq (.reg false [⟨some 15, .load true 5 (.tmp 2), none, [2], []⟩,
    ⟨some 16, .call 8 [(.tmp 15)], none, [15], []⟩,
    ⟨some 17, .mv (.tmp 1), none, [1], []⟩,
    ⟨some 18, .call 9 [(.tmp 17)], none, [17], []⟩,
    ⟨some 5, .new 25 [(.int .i64 (0)), (.int .i64 (0)), (.int .i64 (0)), (.int .i64 (0)), (.slice none 0 0)], none, [], []⟩,
    ⟨none, .store 5 (.tmp 5) (.tmp 16), none, [5, 16], []⟩,
    ⟨some 6, .mv (.tmp 18), none, [18], []⟩] [1, 2, 5, 6])
(.seq (.reg false [⟨some 20, .load true 5 (.tmp 5), none, [5], []⟩,
    ⟨some 21, .call 10 [(.tmp 20)], none, [20], []⟩,
    ⟨some 19, .mv (.tmp 21), none, [21], []⟩,
    ⟨some 22, .ext 0 (.tmp 19), none, [19], []⟩,
    ⟨some 23, .ext 1 (.tmp 19), none, [19], []⟩,
    ⟨some 7, .mv (.tmp 22), none, [22], []⟩,
    ⟨some 8, .mv (.tmp 23), none, [23], []⟩] [1, 2, 5, 6, 7, 8])
(.seq (.reg false [⟨some 25, .load true 5 (.tmp 2), none, [2], []⟩,
    ⟨some 26, .call 11 [(.tmp 25)], none, [25], []⟩,
    ⟨some 24, .mv (.tmp 26), none, [26], []⟩,
    ⟨some 27, .ext 0 (.tmp 24), none, [24], []⟩,
    ⟨some 28, .ext 1 (.tmp 24), none, [24], []⟩,
    ⟨some 9, .mv (.tmp 27), none, [27], []⟩,
    ⟨some 10, .mv (.tmp 28), none, [28], []⟩] [1, 2, 5, 6, 7, 8, 9, 10])
(.seq (.reg false [⟨some 30, .mv (.tmp 6), none, [6], []⟩,
    ⟨some 31, .call 12 [(.tmp 30)], none, [30], []⟩,
    ⟨some 29, .mv (.tmp 31), none, [31], []⟩,
    ⟨some 32, .ext 0 (.tmp 29), none, [29], []⟩,
    ⟨some 33, .ext 1 (.tmp 29), none, [29], []⟩,
    ⟨some 11, .new 25 [(.int .i64 (0)), (.int .i64 (0)), (.int .i64 (0)), (.int .i64 (0)), (.slice none 0 0)], none, [], []⟩,
    ⟨none, .store 5 (.tmp 11) (.tmp 32), none, [11, 32], []⟩,
    ⟨some 12, .mv (.tmp 33), none, [33], []⟩] [1, 2, 5, 6, 7, 8, 9, 10, 11, 12])
(.seq (.reg false [⟨some 35, .mv (.tmp 1), none, [1], []⟩,
    ⟨some 36, .call 13 [(.tmp 35)], none, [35], []⟩,
    ⟨some 34, .mv (.tmp 36), none, [36], []⟩,
    ⟨some 37, .ext 0 (.tmp 34), none, [34], []⟩,
    ⟨some 38, .ext 1 (.tmp 34), none, [34], []⟩,
    ⟨some 13, .new 24 [(.int .i64 (0)), (.int .i64 (0)), (.int .i64 (0)), (.int .i64 (0)), (.slice none 0 0)], none, [], []⟩,
    ⟨none, .store 5 (.tmp 13) (.tmp 37), none, [13, 37], []⟩,
    ⟨some 14, .mv (.tmp 38), none, [38], []⟩] [1, 2, 5, 6, 7, 8, 9, 10, 11, 12, 13, 14])
(.seq (.reg true [⟨some 39, .mv (.tmp 7), none, [7], []⟩,
    ⟨some 40, .mv (.tmp 9), none, [9], []⟩,
    ⟨some 41, .call 14 [(.tmp 39), (.tmp 40)], none, [39, 40], [0, 1]⟩,
    ⟨some 42, .mv (.tmp 41), none, [41], [2, 0, 1]⟩,
    ⟨some 43, .mv (.tmp 8), some (42, true), [8, 42], [3, 2, 0, 1]⟩,
    ⟨some 44, .call 15 [(.tmp 43)], some (42, true), [43, 42], [4, 3, 2, 0, 1]⟩,
    ⟨some 45, .mv (.tmp 10), some (42, true), [10, 42], [3, 2, 0, 1]⟩,
    ⟨some 46, .bin .eql (.tmp 44) (.tmp 45), some (42, true), [44, 45, 42], [5, 6, 3, 4, 2, 0, 1]⟩,
    ⟨some 47, .pick (.tmp 42) (.tmp 46) (.const (.bool false)), none, [42, 46], [3, 7, 2, 0, 1, 5, 6, 4]⟩,
    ⟨some 48, .mv (.tmp 47), none, [47], [8, 5, 3, 7, 2, 0, 1, 6, 4]⟩,
    ⟨some 49, .load true 5 (.tmp 11), some (48, true), [11, 48], [9, 8, 5, 3, 7, 2, 0, 1, 6, 4]⟩,
    ⟨some 50, .load true 5 (.tmp 13), some (48, true), [13, 48], [9, 8, 5, 3, 7, 2, 0, 1, 6, 4]⟩,
    ⟨some 51, .call 16 [(.tmp 49), (.tmp 50)], some (48, true), [49, 50, 48], [10, 11, 9, 8, 5, 3, 7, 2, 0, 1, 6, 4]⟩,
    ⟨some 52, .pick (.tmp 48) (.tmp 51) (.const (.bool false)), none, [48, 51], [9, 12, 8, 5, 3, 7, 2, 0, 1, 6, 4, 10, 11]⟩,
    ⟨some 53, .mv (.tmp 52), none, [52], [13, 12, 9, 8, 5, 3, 7, 2, 0, 1, 6, 4, 10, 11]⟩,
    ⟨some 54, .mv (.tmp 12), some (53, true), [12, 53], [14, 13, 12, 9, 8, 5, 3, 7, 2, 0, 1, 6, 4, 10, 11]⟩,
    ⟨some 55, .call 15 [(.tmp 54)], some (53, true), [54, 53], [15, 14, 13, 12, 9, 8, 5, 3, 7, 2, 0, 1, 6, 4, 10, 11]⟩,
    ⟨some 56, .mv (.tmp 14), some (53, true), [14, 53], [14, 13, 12, 9, 8, 5, 3, 7, 2, 0, 1, 6, 4, 10, 11]⟩,
    ⟨some 57, .bin .eql (.tmp 55) (.tmp 56), some (53, true), [55, 56, 53], [16, 17, 14, 15, 13, 12, 9, 8, 5, 3, 7, 2, 0, 1, 6, 4, 10, 11]⟩,
    ⟨some 58, .pick (.tmp 53) (.tmp 57) (.const (.bool false)), none, [53, 57], [14, 18, 13, 12, 9, 8, 5, 3, 7, 2, 0, 1, 6, 4, 10, 11, 16, 17, 15]⟩,
    ⟨some 59, .mv (.tmp 58), none, [58], [19, 16, 14, 18, 13, 12, 9, 8, 5, 3, 7, 2, 0, 1, 6, 4, 10, 11, 17, 15]⟩,
    ⟨some 60, .load true 5 (.tmp 5), some (59, true), [5, 59], [20, 19, 16, 14, 18, 13, 12, 9, 8, 5, 3, 7, 2, 0, 1, 6, 4, 10, 11, 17, 15]⟩,
    ⟨some 61, .call 17 [(.tmp 60)], some (59, true), [60, 59], [21, 20, 19, 16, 14, 18, 13, 12, 9, 8, 5, 3, 7, 2, 0, 1, 6, 4, 10, 11, 17, 15]⟩,
    ⟨some 62, .call 15 [(.tmp 61)], some (59, true), [61, 59], [22, 20, 21, 19, 16, 14, 18, 13, 12, 9, 8, 5, 3, 7, 2, 0, 1, 6, 4, 10, 11, 17, 15]⟩,
    ⟨some 63, .load true 5 (.tmp 2), some (59, true), [2, 59], [20, 19, 16, 14, 18, 13, 12, 9, 8, 5, 3, 7, 2, 0, 1, 6, 4, 10, 11, 17, 15]⟩,
    ⟨some 64, .call 18 [(.tmp 63)], some (59, true), [63, 59], [24, 23, 20, 19, 16, 14, 18, 13, 12, 9, 8, 5, 3, 7, 2, 0, 1, 6, 4, 10, 11, 17, 15, 22, 21]⟩,
    ⟨some 65, .bin .eql (.tmp 62) (.tmp 64), some (59, true), [62, 64, 59], [23, 25, 20, 22, 21, 19, 16, 14, 18, 13, 12, 9, 8, 5, 3, 7, 2, 0, 1, 6, 4, 10, 11, 17, 15, 24]⟩,
    ⟨some 66, .pick (.tmp 59) (.tmp 65) (.const (.bool false)), none, [59, 65], [20, 26, 19, 16, 14, 18, 13, 12, 9, 8, 5, 3, 7, 2, 0, 1, 6, 4, 10, 11, 17, 15, 23, 25, 22, 21, 24]⟩,
    ⟨some 67, .mv (.tmp 66), none, [66], [27, 25, 20, 26, 19, 16, 14, 18, 13, 12, 9, 8, 5, 3, 7, 2, 0, 1, 6, 4, 10, 11, 17, 15, 23, 22, 21, 24]⟩,
    ⟨some 68, .load true 5 (.tmp 5), some (67, true), [5, 67], [28, 27, 25, 20, 26, 19, 16, 14, 18, 13, 12, 9, 8, 5, 3, 7, 2, 0, 1, 6, 4, 10, 11, 17, 15, 23, 22, 21, 24]⟩,
    ⟨some 69, .load true 5 (.tmp 2), some (67, true), [2, 67], [28, 27, 25, 20, 26, 19, 16, 14, 18, 13, 12, 9, 8, 5, 3, 7, 2, 0, 1, 6, 4, 10, 11, 17, 15, 23, 22, 21, 24]⟩,
    ⟨some 70, .call 16 [(.tmp 68), (.tmp 69)], some (67, true), [68, 69, 67], [29, 30, 28, 27, 25, 20, 26, 19, 16, 14, 18, 13, 12, 9, 8, 5, 3, 7, 2, 0, 1, 6, 4, 10, 11, 17, 15, 23, 22, 21, 24]⟩,
    ⟨some 71, .pick (.tmp 67) (.tmp 70) (.const (.bool false)), none, [67, 70], [28, 31, 27, 25, 20, 26, 19, 16, 14, 18, 13, 12, 9, 8, 5, 3, 7, 2, 0, 1, 6, 4, 10, 11, 17, 15, 23, 22, 21, 24, 29, 30]⟩,
    ⟨some 72, .mv (.tmp 71), none, [71], [32, 31, 28, 27, 25, 20, 26, 19, 16, 14, 18, 13, 12, 9, 8, 5, 3, 7, 2, 0, 1, 6, 4, 10, 11, 17, 15, 23, 22, 21, 24, 29, 30]⟩,
    ⟨some 73, .mv (.tmp 6), some (72, true), [6, 72], [33, 32, 31, 28, 27, 25, 20, 26, 19, 16, 14, 18, 13, 12, 9, 8, 5, 3, 7, 2, 0, 1, 6, 4, 10, 11, 17, 15, 23, 22, 21, 24, 29, 30]⟩,
    ⟨some 74, .mv (.tmp 1), some (72, true), [1, 72], [33, 32, 31, 28, 27, 25, 20, 26, 19, 16, 14, 18, 13, 12, 9, 8, 5, 3, 7, 2, 0, 1, 6, 4, 10, 11, 17, 15, 23, 22, 21, 24, 29, 30]⟩,
    ⟨some 75, .call 14 [(.tmp 73), (.tmp 74)], some (72, true), [73, 74, 72], [34, 35, 33, 32, 31, 28, 27, 25, 20, 26, 19, 16, 14, 18, 13, 12, 9, 8, 5, 3, 7, 2, 0, 1, 6, 4, 10, 11, 17, 15, 23, 22, 21, 24, 29, 30]⟩,
    ⟨some 76, .pick (.tmp 72) (.tmp 75) (.const (.bool false)), none, [72, 75], [33, 36, 32, 31, 28, 27, 25, 20, 26, 19, 16, 14, 18, 13, 12, 9, 8, 5, 3, 7, 2, 0, 1, 6, 4, 10, 11, 17, 15, 23, 22, 21, 24, 29, 30, 34, 35]⟩,
    ⟨some 77, .mv (.tmp 76), none, [76], [37, 36, 33, 32, 31, 28, 27, 25, 20, 26, 19, 16, 14, 18, 13, 12, 9, 8, 5, 3, 7, 2, 0, 1, 6, 4, 10, 11, 17, 15, 23, 22, 21, 24, 29, 30, 34, 35]⟩,
    ⟨some 78, .call 19 [], some (77, true), [77], [38, 37, 36, 33, 32, 31, 28, 27, 25, 20, 26, 19, 16, 14, 18, 13, 12, 9, 8, 5, 3, 7, 2, 0, 1, 6, 4, 10, 11, 17, 15, 23, 22, 21, 24, 29, 30, 34, 35]⟩,
    ⟨some 79, .pick (.tmp 77) (.tmp 78) (.const (.bool false)), none, [77, 78], [38, 39, 37, 36, 33, 32, 31, 28, 27, 25, 20, 26, 19, 16, 14, 18, 13, 12, 9, 8, 5, 3, 7, 2, 0, 1, 6, 4, 10, 11, 17, 15, 23, 22, 21, 24, 29, 30, 34, 35]⟩,
    ⟨some 4, .mv (.tmp 79), none, [79], [40, 39, 0, 1, 2, 3, 4, 5, 6, 7, 8, 9, 10, 11, 12, 13, 14, 15, 16, 17, 18, 19, 20, 21, 22, 23, 24, 25, 26, 27, 28, 29, 30, 31, 32, 33, 34, 35, 36, 37, 38]⟩] [4])
.ret)))))))
theorem ok_3 : FnOk Tryz.prog 3 80 ac_3 [.tmp 4] := ⟨Tryz.f3, Tryz.func3, by kernel_rfl, by kernel_rfl, by kernel_rfl, by kernel_rfl, by kernel_rfl⟩
def ac_4 : AC :=
(.seq (.reg false [⟨some 2, .box 47 (.tmp 0), none, [0], []⟩,
    ⟨some 3, .box 24 (.tmp 1), none, [1], []⟩,
    ⟨some 4, .mv (.const (.bool false)), none, [], []⟩] [2, 3])
(.seq (.reg false [⟨some 14, .load true 2 (.tmp 2), none, [2], []⟩,
    ⟨some 15, .call 20 [(.tmp 14)], none, [14], []⟩,
    ⟨some 5, .new 50 [(.slice none 0 0), (.slice none 0 0)], none, [], []⟩,
    ⟨none, .store 2 (.tmp 5) (.tmp 15), none, [5, 15], []⟩] [2, 3, 5])
(.seq (.reg true [⟨some 17, .load true 2 (.tmp 5), none, [5], []⟩,
    ⟨some 18, .load true 5 (.tmp 3), none, [3], []⟩,
    ⟨some 19, .call 8 [(.tmp 18)], none, [18], [1]⟩,
    ⟨some 20, .call 21 [(.tmp 17), (.tmp 19)], none, [17, 19], [0, 2, 1]⟩,
    ⟨some 16, .mv (.tmp 20), none, [20], [3, 0, 2, 1]⟩,
    ⟨some 21, .ext 0 (.tmp 16), none, [16], [4, 3, 0, 2, 1]⟩,
    ⟨some 22, .ext 1 (.tmp 16), none, [16], [4, 3, 0, 2, 1]⟩,
    ⟨some 6, .new 50 [(.slice none 0 0), (.slice none 0 0)], none, [], []⟩,
    ⟨none, .store 2 (.tmp 6) (.tmp 21), none, [6, 21], [7, 5, 3, 0, 1, 2, 4]⟩,
    ⟨some 7, .mv (.tmp 22), none, [22], [6, 8, 0, 1, 2, 3, 4, 5, 7]⟩] [2, 3, 5, 6, 7])
(.seq (.reg false [⟨some 24, .load true 2 (.tmp 2), none, [2], []⟩,
    ⟨some 25, .load true 5 (.tmp 3), none, [3], []⟩,
    ⟨some 26, .call 22 [(.tmp 24), (.tmp 25)], none, [24, 25], []⟩,
    ⟨some 23, .mv (.tmp 26), none, [26], []⟩,
    ⟨some 27, .ext 0 (.tmp 23), none, [23], []⟩,
    ⟨some 28, .ext 1 (.tmp 23), none, [23], []⟩,
    ⟨some 8, .new 47 [(.slice none 0 0), (.slice none 0 0)], none, [], []⟩,
    ⟨none, .store 2 (.tmp 8) (.tmp 27), none, [8, 27], []⟩,
    ⟨some 9, .mv (.tmp 28), none, [28], []⟩] [2, 5, 6, 7, 8, 9])
(.seq (.reg false [⟨some 30, .load true 2 (.tmp 5), none, [5], []⟩,
    ⟨some 31, .call 23 [(.tmp 30)], none, [30], []⟩,
    ⟨some 29, .mv (.tmp 31), none, [31], []⟩,
    ⟨some 32, .ext 0 (.tmp 29), none, [29], []⟩,
    ⟨some 33, .ext 1 (.tmp 29), none, [29], []⟩,
    ⟨some 10, .new 25 [(.int .i64 (0)), (.int .i64 (0)), (.int .i64 (0)), (.int .i64 (0)), (.slice none 0 0)], none, [], []⟩,
    ⟨none, .store 5 (.tmp 10) (.tmp 32), none, [10, 32], []⟩,
    ⟨some 11, .mv (.tmp 33), none, [33], []⟩] [2, 5, 6, 7, 8, 9, 10, 11])
(.seq (.reg false [⟨some 35, .load true 2 (.tmp 2), none, [2], []⟩,
    ⟨some 36, .call 24 [(.tmp 35)], none, [35], []⟩,
    ⟨some 34, .mv (.tmp 36), none, [36], []⟩,
    ⟨some 37, .ext 0 (.tmp 34), none, [34], []⟩,
    ⟨some 38, .ext 1 (.tmp 34), none, [34], []⟩,
    ⟨some 12, .new 24 [(.int .i64 (0)), (.int .i64 (0)), (.int .i64 (0)), (.int .i64 (0)), (.slice none 0 0)], none, [], []⟩,
    ⟨none, .store 5 (.tmp 12) (.tmp 37), none, [12, 37], []⟩,
    ⟨some 13, .mv (.tmp 38), none, [38], []⟩] [2, 5, 6, 7, 8, 9, 10, 11, 12, 13])
(.seq (.reg false [⟨some 39, .load true 2 (.tmp 6), none, [6], []⟩,
    ⟨some 40, .load true 2 (.tmp 8), none, [8], []⟩,
    ⟨some 41, .call 25 [(.tmp 39), (.tmp 40)], none, [39, 40], []⟩,
    ⟨some 42, .bin .eql (.tmp 41) (.const (.int .i64 (0))), none, [41], []⟩,
    ⟨some 43, .mv (.tmp 42), none, [42], []⟩,
    ⟨some 44, .mv (.tmp 7), some (43, true), [7, 43], []⟩,
    ⟨some 45, .call 15 [(.tmp 44)], some (43, true), [44, 43], []⟩,
    ⟨some 46, .mv (.tmp 9), some (43, true), [9, 43], []⟩,
    ⟨some 47, .bin .eql (.tmp 45) (.tmp 46), some (43, true), [45, 46, 43], []⟩,
    ⟨some 48, .pick (.tmp 43) (.tmp 47) (.const (.bool false)), none, [43, 47], []⟩,
    ⟨some 49, .mv (.tmp 48), none, [48], []⟩,
    ⟨some 50, .load true 5 (.tmp 10), some (49, true), [10, 49], []⟩,
    ⟨some 51, .load true 5 (.tmp 12), some (49, true), [12, 49], []⟩,
    ⟨some 52, .call 16 [(.tmp 50), (.tmp 51)], some (49, true), [50, 51, 49], []⟩,
    ⟨some 53, .pick (.tmp 49) (.tmp 52) (.const (.bool false)), none, [49, 52], []⟩,
    ⟨some 54, .mv (.tmp 53), none, [53], []⟩,
    ⟨some 55, .mv (.tmp 11), some (54, true), [11, 54], []⟩,
    ⟨some 56, .call 15 [(.tmp 55)], some (54, true), [55, 54], []⟩,
    ⟨some 57, .mv (.tmp 13), some (54, true), [13, 54], []⟩,
    ⟨some 58, .bin .eql (.tmp 56) (.tmp 57), some (54, true), [56, 57, 54], []⟩,
    ⟨some 59, .pick (.tmp 54) (.tmp 58) (.const (.bool false)), none, [54, 58], []⟩,
    ⟨some 60, .mv (.tmp 59), none, [59], []⟩,
    ⟨some 61, .load true 2 (.tmp 5), some (60, true), [5, 60], []⟩,
    ⟨some 62, .load true 2 (.tmp 2), some (60, true), [2, 60], []⟩,
    ⟨some 63, .call 25 [(.tmp 61), (.tmp 62)], some (60, true), [61, 62, 60], []⟩,
    ⟨some 64, .bin .eql (.tmp 63) (.const (.int .i64 (0))), some (60, true), [63, 60], []⟩,
    ⟨some 65, .pick (.tmp 60) (.tmp 64) (.const (.bool false)), none, [60, 64], []⟩,
    ⟨some 66, .mv (.tmp 65), none, [65], []⟩,
    ⟨some 67, .call 19 [], some (66, true), [66], []⟩,
    ⟨some 68, .pick (.tmp 66) (.tmp 67) (.const (.bool false)), none, [66, 67], []⟩,
    ⟨some 4, .mv (.tmp 68), none, [68], []⟩] [4])
.ret)))))))
theorem ok_4 : FnOk Tryz.prog 4 69 ac_4 [.tmp 4] := ⟨Tryz.f4, Tryz.func4, by kernel_rfl, by kernel_rfl, by kernel_rfl, by kernel_rfl, by kernel_rfl⟩
def ac_6 : AC :=
(.seq (.reg false [⟨some 1, .box 24 (.tmp 0), none, [0], []⟩,
    ⟨some 2, .mv (.const (.bool false)), none, [], []⟩] [1])
(.seq (.seq (.reg false [⟨some 8, .call 19 [], none, [], []⟩,
    ⟨some 9, .un .not (.tmp 8), none, [8], []⟩] [1, 9])
(.cond (.tmp 9)
(.seq (.reg false [⟨some 2, .mv (.const (.bool false)), none, [], []⟩] [2])
.ret)
.skip))
(.seq (.reg false [⟨some 10, .load true 5 (.tmp 1), none, [1], []⟩,
    ⟨some 11, .call 8 [(.tmp 10)], none, [10], []⟩,
    ⟨some 3, .new 25 [(.int .i64 (0)), (.int .i64 (0)), (.int .i64 (0)), (.int .i64 (0)), (.slice none 0 0)], none, [], []⟩,
    ⟨none, .store 5 (.tmp 3) (.tmp 11), none, [3, 11], []⟩] [1, 3])
(.seq (.reg false [⟨some 13, .load true 5 (.tmp 3), none, [3], []⟩,
    ⟨some 14, .call 10 [(.tmp 13)], none, [13], []⟩,
    ⟨some 12, .mv (.tmp 14), none, [14], []⟩,
    ⟨some 15, .ext 0 (.tmp 12), none, [12], []⟩,
    ⟨some 16, .ext 1 (.tmp 12), none, [12], []⟩,
    ⟨some 4, .mv (.tmp 15), none, [15], []⟩,
    ⟨some 5, .mv (.tmp 16), none, [16], []⟩] [1, 3, 4, 5])
(.seq (.seq (.reg false [⟨some 17, .mv (.tmp 5), none, [5], []⟩,
    ⟨some 18, .call 15 [(.tmp 17)], none, [17], []⟩,
    ⟨some 19, .bin .neq (.tmp 18) (.const (.int .i64 (0))), none, [18], []⟩] [1, 3, 4, 19])
(.cond (.tmp 19)
(.seq (.reg false [⟨some 20, .mv (.tmp 4), none, [4], []⟩,
    ⟨some 21, .len false (.tmp 20), none, [20], []⟩,
    ⟨some 22, .bin .eql (.tmp 21) (.const (.int .i64 (0))), none, [21], []⟩,
    ⟨some 2, .mv (.tmp 22), none, [22], []⟩] [2])
.ret)
.skip))
(.seq (.reg false [⟨some 23, .foff 4 (.tmp 3), none, [3], []⟩,
    ⟨some 24, .load false 1 (.tmp 23), none, [23], []⟩,
    ⟨some 25, .call 27 [(.tmp 24)], none, [24], []⟩] [1, 4])
(.seq (.reg false [⟨some 27, .mv (.tmp 4), none, [4], []⟩,
    ⟨some 28, .call 12 [(.tmp 27)], none, [27], []⟩,
    ⟨some 26, .mv (.tmp 28), none, [28], []⟩,
    ⟨some 29, .ext 0 (.tmp 26), none, [26], []⟩,
    ⟨some 30, .ext 1 (.tmp 26), none, [26], []⟩,
    ⟨some 6, .new 25 [(.int .i64 (0)), (.int .i64 (0)), (.int .i64 (0)), (.int .i64 (0)), (.slice none 0 0)], none, [], []⟩,
    ⟨none, .store 5 (.tmp 6) (.tmp 29), none, [6, 29], []⟩,
    ⟨some 7, .mv (.tmp 30), none, [30], []⟩] [1, 4, 6, 7])
(.seq (.reg false [⟨some 31, .mv (.tmp 4), none, [4], []⟩,
    ⟨some 32, .call 27 [(.tmp 31)], none, [31], []⟩] [1, 6, 7])
(.seq (.reg false [⟨some 33, .mv (.tmp 7), none, [7], []⟩,
    ⟨some 34, .call 15 [(.tmp 33)], none, [33], []⟩,
    ⟨some 35, .bin .eql (.tmp 34) (.const (.int .i64 (0))), none, [34], []⟩,
    ⟨some 36, .mv (.tmp 35), none, [35], []⟩,
    ⟨some 37, .load true 5 (.tmp 6), some (36, true), [6, 36], []⟩,
    ⟨some 38, .load true 5 (.tmp 1), some (36, true), [1, 36], []⟩,
    ⟨some 39, .call 16 [(.tmp 37), (.tmp 38)], some (36, true), [37, 38, 36], []⟩,
    ⟨some 40, .pick (.tmp 36) (.tmp 39) (.const (.bool false)), none, [36, 39], []⟩,
    ⟨some 2, .mv (.tmp 40), none, [40], []⟩] [2])
.ret)))))))))
theorem ok_6 : FnOk Tryz.prog 6 41 ac_6 [.tmp 2] := ⟨Tryz.f6, Tryz.func6, by kernel_rfl, by kernel_rfl, by kernel_rfl, by kernel_rfl, by kernel_rfl⟩
end Go.Proofs.YtdenddhdeloceaaGreatDoor
/- Contract: PointTells answers true. -/
namespace Go.Proofs.YtdenddhdeloceaaGreatDoor
open Go.RowKit
set_option maxRecDepth 100000
set_option maxHeartbeats 4000000 in
theorem pointTells_spec (fp fb : Bool) (p : Pt) (b : List Int) (nb : Nat) (hp : p.data.length ≤ 140737488355320) (hb : okB b) (hl : b.length ≤ 140737488355320) :
    ASound Tryz.prog 3 [aPt fp p, fB fb b] nb (.ret (.v (.bool true)) []) := by
  refine ok_3.sound (by simp) ⟨al_aPt p, al_fB b, trivial⟩ ?_
  have c1 := of_spec fp p
  have c2 := copyBytes_spec fb b
  have c3 := pencode_spec true p
  have c4 := rpencode_spec fp p
  have c5 := pdecode_spec true b
  have c6 := rpdecode_spec fb b
  have c7 := sameBytes_spec true true (encP p).1 (encP p).1
  have c8 := sameP_spec true true (decP b).1 (decP b).1
  have c9 := pcheck_spec true p
  have c10 := rpcheck_spec fp p
  have c11 := sameP_spec true fp p p
  have c12 := sameBytes_spec true fb b b
  have t8 : decide (sameP (decP b).1 (decP b).1) = true := decide_eq_true (sameP_iff.2 rfl)
  have t11 : decide (sameP p p) = true := decide_eq_true (sameP_iff.2 rfl)
  have l8 : (decP b).1.data.length ≤ 140737488355328 := by have := decP_le b; omega
  have l7 : (encP p).1.length ≤ 140737488355328 := by have := encP_le p; omega
  rw [t8] at c8
  rw [t11] at c11
  simp only [decide_true] at c7 c12
  generalize encP p = E at *
  generalize decP b = D at *
  obtain ⟨E, e⟩ := E
  obtain ⟨D, f⟩ := D
  generalize ptE p = pe at *
  simp only [aPt, fB] at c1 c2 c3 c4 c5 c6 c7 c8 c9 c10 c11 c12
  simp only at l7 l8
  simp only [ac_3, TT, ↓reduceIte, Nat.reduceEqDiff, Nat.reduceAdd, Nat.reduceMul, reduceCtorEq, Nat.reduceLeDiff]
  refine ⟨_, c1 _ (by omega), ?_⟩
  simp only [TT, ↓reduceIte, Nat.reduceEqDiff, Nat.reduceAdd, Nat.reduceMul, reduceCtorEq, Nat.reduceLeDiff]
  refine ⟨_, c2 _ (by omega), ?_⟩
  simp only [TT, ↓reduceIte, Nat.reduceEqDiff, Nat.reduceAdd, Nat.reduceMul, reduceCtorEq, Nat.reduceLeDiff]
  refine ⟨_, c3 _, ?_⟩
  simp only [TT, ↓reduceIte, Nat.reduceEqDiff, Nat.reduceAdd, Nat.reduceMul, reduceCtorEq, Nat.reduceLeDiff]
  refine ⟨_, c4 _, ?_⟩
  simp only [TT, ↓reduceIte, Nat.reduceEqDiff, Nat.reduceAdd, Nat.reduceMul, reduceCtorEq, Nat.reduceLeDiff]
  refine ⟨_, c5 _ hb (by omega), ?_⟩
  simp only [TT, ↓reduceIte, Nat.reduceEqDiff, Nat.reduceAdd, Nat.reduceMul, reduceCtorEq, Nat.reduceLeDiff]
  refine ⟨_, c6 _ hb (by omega), ?_⟩
  simp only [TT, ↓reduceIte, Nat.reduceEqDiff, Nat.reduceAdd, Nat.reduceMul, reduceCtorEq, Nat.reduceLeDiff]
  refine ⟨_, c7 _ l7, ?_⟩
  simp only [TT, ↓reduceIte, Nat.reduceEqDiff, Nat.reduceAdd, Nat.reduceMul, reduceCtorEq, Nat.reduceLeDiff]
  refine ⟨_, num_spec e _, ?_⟩
  simp only [TT, ↓reduceIte, Nat.reduceEqDiff, Nat.reduceAdd, Nat.reduceMul, reduceCtorEq, Nat.reduceLeDiff]
  refine ⟨_, c8 _ l8, ?_⟩
  simp only [TT, ↓reduceIte, Nat.reduceEqDiff, Nat.reduceAdd, Nat.reduceMul, reduceCtorEq, Nat.reduceLeDiff]
  refine ⟨_, num_spec f _, ?_⟩
  simp only [TT, ↓reduceIte, Nat.reduceEqDiff, Nat.reduceAdd, Nat.reduceMul, reduceCtorEq, Nat.reduceLeDiff]
  refine ⟨_, c9 _, ?_⟩
  simp only [TT, ↓reduceIte, Nat.reduceEqDiff, Nat.reduceAdd, Nat.reduceMul, reduceCtorEq, Nat.reduceLeDiff]
  refine ⟨_, num_spec pe _, ?_⟩
  simp only [TT, ↓reduceIte, Nat.reduceEqDiff, Nat.reduceAdd, Nat.reduceMul, reduceCtorEq, Nat.reduceLeDiff]
  refine ⟨_, c10 _, ?_⟩
  simp only [TT, ↓reduceIte, Nat.reduceEqDiff, Nat.reduceAdd, Nat.reduceMul, reduceCtorEq, Nat.reduceLeDiff]
  refine ⟨_, c11 _ (by omega), ?_⟩
  simp only [TT, ↓reduceIte, Nat.reduceEqDiff, Nat.reduceAdd, Nat.reduceMul, reduceCtorEq, Nat.reduceLeDiff]
  refine ⟨_, c12 _ (by omega), ?_⟩
  simp only [TT, ↓reduceIte, Nat.reduceEqDiff, Nat.reduceAdd, Nat.reduceMul, reduceCtorEq, Nat.reduceLeDiff]
  refine ⟨_, alive_spec _, ?_⟩
  simp only [decide_true, TT, ↓reduceIte, Nat.reduceEqDiff, Nat.reduceAdd, Nat.reduceMul, reduceCtorEq, Nat.reduceLeDiff]
  exact ⟨by rfl, Ends.data (.inr rfl) (by simp [ET]) trivial⟩
end Go.Proofs.YtdenddhdeloceaaGreatDoor
/- Contract: PointDisks answers true. -/
namespace Go.Proofs.YtdenddhdeloceaaGreatDoor
open Go.RowKit
set_option maxRecDepth 100000
/-- a disk as a row's argument: not too large -/
structure fitD (d : Dk) : Prop where
  many : d.sectors.length ≤ 5864062014805
  long : ∀ t ∈ d.sectors, t.length ≤ 140737488355328
  cache : d.cache.length ≤ 4398046511104
  data : ∀ w ∈ d.cache, w.data.length ≤ 140737488355328
theorem fit_clean {d : Dk} (h : okD d) : fitD d := by
  have := h.few
  exact ⟨by omega, okD_secs h, by omega, okD_data h⟩
theorem fit_dk0 : fitD dk0 := ⟨by simp [dk0], by simp [dk0], by simp [dk0], by simp [dk0]⟩
theorem okD_flush {d : Dk} (h : okD d) : okD (flushD d) := by
  have hf := h.few
  rw [flushD_eq]
  refine ⟨?_, fun t ht => ?_, fun w hw => by cases hw⟩
  · simp only [landT_len, List.length_nil]; omega
  · refine landL_p (p := fun t => t.length = 64) _ _ h.secs (fun q hq => ?_) t ht
    obtain ⟨w, hw, rfl⟩ := List.mem_map.1 hq
    have := h.cache w hw
    unfold badW at this
    exact Classical.byContradiction fun h2 => this (.inr (.inr h2))
theorem storeD_fit (d : Dk) (p : Pt) : fitD (storeD d p).1 := by
  unfold storeD
  split
  · exact fit_dk0
  · rename_i hA
    have hA : askE d = 0 := Classical.byContradiction hA
    obtain ⟨hok, h16⟩ := askE_iff.1 hA
    split
    · exact fit_dk0
    · rename_i hE
      have hE : ptE p = 0 := Classical.byContradiction hE
      have hp := (okP_iff p).1 hE
      split
      · rename_i hov
        refine fit_clean (okD_flush (okD_put hok (encP_len hp) ?_ hov))
        unfold slotP; omega
      · exact fit_dk0
theorem loadD_le (d : Dk) : (loadD d).1.data.length ≤ 400 := by
  unfold loadD
  split
  · simp [pt0]
  · unfold pickP
    split
    · simp [pt0]
    · split
      · exact decP_le _
      · exact decP_le _
set_option maxHeartbeats 4000000 in
theorem pointDisks_spec (fd fp : Bool) (d : Dk) (p : Pt) (nb : Nat) (hd : fitD d) (ho : octD d) (hp : p.data.length ≤ 140737488355320) :
    ASound Tryz.prog 4 [aDk fd d, aPt fp p] nb (.ret (.v (.bool true)) []) := by
  refine ok_4.sound (by simp) ⟨al_aDk d, al_aPt p, trivial⟩ ?_
  have hm := hd.many
  have c1 := lawOf_spec fd d
  have c2 := of_spec fp p
  have c3 := store_spec true true d p
  have c4 := rstore_spec fd fp d p
  have c5 := load_spec true d
  have c6 := rload_spec fd d
  have c7 := alike_spec true true (storeD d p).1 (storeD d p).1
  have c8 := sameP_spec true true (loadD d).1 (loadD d).1
  have c9 := alike_spec true fd d d
  simp only [if_true] at c7 c9
  have f7 := storeD_fit d p
  have l8 := loadD_le d
  have t8 : decide (sameP (loadD d).1 (loadD d).1) = true := decide_eq_true (sameP_iff.2 rfl)
  rw [t8] at c8
  generalize storeD d p = S at *
  generalize loadD d = L at *
  obtain ⟨S, e⟩ := S
  obtain ⟨L, f⟩ := L
  simp only [aPt, aDk, fL, fWrs, fB] at c1 c2 c3 c4 c5 c6 c7 c8 c9
  simp only at f7 l8
  simp only [ac_4, TT, ↓reduceIte, Nat.reduceEqDiff, Nat.reduceAdd, Nat.reduceMul, reduceCtorEq, Nat.reduceLeDiff]
  refine ⟨_, c1 _ hd.many hd.long hd.cache hd.data, ?_⟩
  simp only [TT, ↓reduceIte, Nat.reduceEqDiff, Nat.reduceAdd, Nat.reduceMul, reduceCtorEq, Nat.reduceLeDiff]
  refine ⟨_, c2 _ (by omega), ?_⟩
  simp only [TT, ↓reduceIte, Nat.reduceEqDiff, Nat.reduceAdd, Nat.reduceMul, reduceCtorEq, Nat.reduceLeDiff]
  refine ⟨_, c3 _ (by omega), ?_⟩
  simp only [TT, ↓reduceIte, Nat.reduceEqDiff, Nat.reduceAdd, Nat.reduceMul, reduceCtorEq, Nat.reduceLeDiff]
  refine ⟨by rfl, ?_⟩
  refine ⟨_, c4 _, ?_⟩
  simp only [TT, ↓reduceIte, Nat.reduceEqDiff, Nat.reduceAdd, Nat.reduceMul, reduceCtorEq, Nat.reduceLeDiff]
  refine ⟨_, c5 _ ho (by omega), ?_⟩
  simp only [TT, ↓reduceIte, Nat.reduceEqDiff, Nat.reduceAdd, Nat.reduceMul, reduceCtorEq, Nat.reduceLeDiff]
  refine ⟨_, c6 _ ho, ?_⟩
  simp only [TT, ↓reduceIte, Nat.reduceEqDiff, Nat.reduceAdd, Nat.reduceMul, reduceCtorEq, Nat.reduceLeDiff]
  refine ⟨_, c7 _ (by have := f7.many; omega) f7.long (by have := f7.cache; omega) f7.data, ?_⟩
  simp only [TT, ↓reduceIte, Nat.reduceEqDiff, Nat.reduceAdd, Nat.reduceMul, reduceCtorEq, Nat.reduceLeDiff]
  refine ⟨_, num_spec e _, ?_⟩
  simp only [TT, ↓reduceIte, Nat.reduceEqDiff, Nat.reduceAdd, Nat.reduceMul, reduceCtorEq, Nat.reduceLeDiff]
  refine ⟨_, c8 _ (by omega), ?_⟩
  simp only [TT, ↓reduceIte, Nat.reduceEqDiff, Nat.reduceAdd, Nat.reduceMul, reduceCtorEq, Nat.reduceLeDiff]
  refine ⟨_, num_spec f _, ?_⟩
  simp only [TT, ↓reduceIte, Nat.reduceEqDiff, Nat.reduceAdd, Nat.reduceMul, reduceCtorEq, Nat.reduceLeDiff]
  refine ⟨_, c9 _ (by have := hd.many; omega) hd.long (by have := hd.cache; omega) hd.data, ?_⟩
  simp only [TT, ↓reduceIte, Nat.reduceEqDiff, Nat.reduceAdd, Nat.reduceMul, reduceCtorEq, Nat.reduceLeDiff]
  refine ⟨_, alive_spec _, ?_⟩
  simp only [decide_true, TT, ↓reduceIte, Nat.reduceEqDiff, Nat.reduceAdd, Nat.reduceMul, reduceCtorEq, Nat.reduceLeDiff]
  exact Ends.data (.inr rfl) (by simp [ET]) trivial
end Go.Proofs.YtdenddhdeloceaaGreatDoor
/- The rows of this seat: their arguments' types; what their listed variables hold; a world that holds it. -/
namespace Go.Proofs.YtdenddhdeloceaaGreatDoor
open Go.RowKit
set_option maxRecDepth 100000
def okBytes (l : List Int) : Prop := l.length * 1 ≤ reachB ∧ ∀ x ∈ l, (Lit.int .u8 x).wf = true
def wf64 (x : Int) : Prop := (Lit.int .i64 x).wf = true
theorem okBytes_B {l : List Int} (h : okBytes l) : okB l := fun x hx => by
  have := h.2 x hx
  simp [Lit.wf, IntKind.min, IntKind.max, IntKind.bits, IntKind.signed] at this
  omega
theorem okBytes_le {l : List Int} (h : okBytes l) : l.length ≤ 140737488351232 := by have := h.1; unfold reachB at this; omega
theorem eB_flat (l : List Int) : eB l = l.flatMap fun x => [.v (.int .u8 x)] := by simp [eB, List.map_eq_flatMap]
theorem eL_flat (fr : Bool) (l : List (List Int)) : eL fr l = l.flatMap fun x => [fB fr x] := by simp [eL, List.map_eq_flatMap, fB]
theorem rdt_bytes : Rd Tryz.prog 22 (fun fr l => [fB fr l]) okBytes :=
  (rd_slice (B := 1) Tryz.underlying22 (by kernel_rfl) (by kernel_rfl) (by rw [show Tryz.prog.cellsOf 5 = 1 from by kernel_rfl]; decide) (rd_int Tryz.underlying5 (by kernel_rfl))).map id id (fun fr b => by simp [fB, eB_flat]) (fun fr b => by simp [fB, eB_flat]) fun a h => h
theorem rdt_num : Rd Tryz.prog 3 (fun _ x => [.v (.int .i64 x)]) wf64 := rd_int Tryz.underlying3 (by kernel_rfl)
structure okPt (p : Pt) : Prop where
  e : wf64 p.epoch
  s : wf64 p.seq
  v : wf64 p.view
  c : wf64 p.commit
  d : okBytes p.data
theorem rdt_pt : Rd Tryz.prog 24 (fun fr (p : Pt) => [.v (.int .i64 p.epoch), .v (.int .i64 p.seq), .v (.int .i64 p.view), .v (.int .i64 p.commit), fB fr p.data]) okPt :=
  (rd_struct Tryz.underlying24 (by kernel_rfl) (RdF.cons (c := 1) rfl (by kernel_rfl) rdt_num (RdF.cons (c := 1) rfl (by kernel_rfl) rdt_num (RdF.cons (c := 1) rfl (by kernel_rfl) rdt_num (RdF.cons (c := 1) rfl (by kernel_rfl) rdt_num (RdF.cons (c := 1) rfl (by kernel_rfl) rdt_bytes RdF.nil)))))).map
    (fun x => ⟨x.1, x.2.1, x.2.2.1, x.2.2.2.1, x.2.2.2.2.1⟩) (fun b => (b.epoch, b.seq, b.view, b.commit, b.data, ())) (fun fr b => rfl) (fun fr b => rfl) fun a h => ⟨h.1, h.2.1, h.2.2.1, h.2.2.2.1, h.2.2.2.2.1⟩
theorem rdt_lists : Rd Tryz.prog 44 (fun fr l => [fL fr l]) (fun l => l.length * 24 ≤ reachB ∧ ∀ x ∈ l, okBytes x) :=
  (rd_slice (B := 24) Tryz.underlying44 (by kernel_rfl) (by kernel_rfl) (by rw [show Tryz.prog.cellsOf 22 = 1 from by kernel_rfl]; decide) rdt_bytes).map id id (fun fr b => by simp [fL, eL_flat]) (fun fr b => by simp [fL, eL_flat]) fun a h => h
theorem rdt_wr : Rd Tryz.prog 89 eWr (fun w => wf64 w.sec ∧ okBytes w.data) :=
  (rd_struct Tryz.underlying89 (by kernel_rfl) (RdF.cons (c := 1) rfl (by kernel_rfl) rdt_num (RdF.cons (c := 1) rfl (by kernel_rfl) rdt_bytes RdF.nil))).map
    (fun x => ⟨x.1, x.2.1⟩) (fun b => (b.sec, b.data, ())) (fun fr b => rfl) (fun fr b => rfl) fun a h => ⟨h.1, h.2.1⟩
theorem rdt_wrs : Rd Tryz.prog 45 (fun fr l => [fWrs fr l]) (fun l => l.length * 32 ≤ reachB ∧ ∀ x ∈ l, wf64 x.sec ∧ okBytes x.data) :=
  rd_slice (B := 32) Tryz.underlying45 (by kernel_rfl) (by kernel_rfl) (by rw [show Tryz.prog.cellsOf 89 = 2 from by kernel_rfl]; decide) rdt_wr
structure okDk (d : Dk) : Prop where
  s : d.sectors.length * 24 ≤ reachB ∧ ∀ x ∈ d.sectors, okBytes x
  c : d.cache.length * 32 ≤ reachB ∧ ∀ x ∈ d.cache, wf64 x.sec ∧ okBytes x.data
theorem rdt_dk : Rd Tryz.prog 47 (fun fr (d : Dk) => [fL fr d.sectors, fWrs fr d.cache]) okDk :=
  (rd_struct Tryz.underlying47 (by kernel_rfl) (RdF.cons (c := 1) rfl (by kernel_rfl) rdt_lists (RdF.cons (c := 1) rfl (by kernel_rfl) rdt_wrs RdF.nil))).map
    (fun x => ⟨x.1, x.2.1⟩) (fun b => (b.sectors, b.cache, ())) (fun fr b => rfl) (fun fr b => rfl) fun a h => ⟨h.1, h.2.1⟩
theorem okDk_fit {d : Dk} (h : okDk d) : fitD d := by
  have h1 := h.s.1
  have h2 := h.c.1
  unfold reachB at h1 h2
  exact ⟨by omega, fun t ht => by have := okBytes_le (h.s.2 t ht); omega, by omega, fun w hw => by have := okBytes_le (h.c.2 w hw).2; omega⟩
theorem okDk_oct {d : Dk} (h : okDk d) : octD d := ⟨fun t ht => okBytes_B (h.s.2 t ht), fun w hw => okBytes_B (h.c.2 w hw).2⟩
theorem laid : laidOutB Tryz.prog = true := by kernel_rfl
theorem open_pt {H : Type} {enc : TypeId × Value → H} {W : World} {base : Nat} {v : Value} {d : DataW H} {ps : List MemPlace} (hv : Value.okWide Tryz.prog W .any base 24 v) (h : DataW.Trod enc Tryz.prog W 0 (fun _ => true) true 24 v d ps)
    (hw : (d.weights Tryz.prog 24).all (· ≤ reachBytes) = true) : ∃ s, okPt s ∧ VR (cx0 W) (aPt false s) v := by
  simp only [Value.okWide, Tryz.underlying24] at hv
  obtain ⟨cs, rfl, _, _⟩ := hv
  obtain ⟨fuel, h⟩ := h
  obtain ⟨s, h1, h2⟩ := rdt_pt.rd h hw
  refine ⟨s, h1, ?_⟩
  rw [aPt, VR]
  exact ⟨_, rfl, h2⟩
theorem open_dk {H : Type} {enc : TypeId × Value → H} {W : World} {base : Nat} {v : Value} {d : DataW H} {ps : List MemPlace} (hv : Value.okWide Tryz.prog W .any base 47 v) (h : DataW.Trod enc Tryz.prog W 0 (fun _ => true) true 47 v d ps)
    (hw : (d.weights Tryz.prog 47).all (· ≤ reachBytes) = true) : ∃ s, okDk s ∧ VR (cx0 W) (aDk false s) v := by
  simp only [Value.okWide, Tryz.underlying47] at hv
  obtain ⟨cs, rfl, _, _⟩ := hv
  obtain ⟨fuel, h⟩ := h
  obtain ⟨s, h1, h2⟩ := rdt_dk.rd h hw
  refine ⟨s, h1, ?_⟩
  rw [aDk, VR]
  exact ⟨_, rfl, h2⟩
theorem open_bytes {H : Type} {enc : TypeId × Value → H} {W : World} {base : Nat} {v : Value} {d : DataW H} {ps : List MemPlace} (hv : Value.okWide Tryz.prog W .any base 22 v) (h : DataW.Trod enc Tryz.prog W 0 (fun _ => true) true 22 v d ps)
    (hw : (d.weights Tryz.prog 22).all (· ≤ reachBytes) = true) : ∃ s, okBytes s ∧ VR (cx0 W) (fB false s) v := by
  have hc : v.cells.toList = [v] := by
    cases v <;> first | rfl | (exfalso; simp [Value.okWide, Cell.okWide, Cell.ok, Tryz.underlying22] at hv)
  obtain ⟨fuel, h⟩ := h
  obtain ⟨s, h1, h2⟩ := rdt_bytes.rd h hw
  refine ⟨s, h1, ?_⟩
  rw [hc, VRl] at h2
  obtain ⟨u, us, e, _, h3, _⟩ := h2
  cases e
  exact h3
/-! what the listed variables hold -/
def lst : List (String × DataW Unit) := [("unicode/utf8.acceptRanges", Rows.laid_unicode_utf8_acceptRanges), ("errors.errorType", Rows.laid_errors_errorType), ("unicode/utf8.first", Rows.laid_unicode_utf8_first)]
theorem own : ownKnob Tryz.prog.godebug = none := by kernel_rfl
theorem et : Tryz.prog.globalNamed "errors.errorType" = some 0 := by kernel_rfl
theorem rtT : (Tryz.prog.cutTypes.find? (·.1 == "internal/reflectlite.rtype")).map (·.2) = some 190 := by kernel_rfl
theorem tsize : Tryz.prog.types.size = 235 := by kernel_rfl
theorem oneRow : ((List.range 235).filter fun t => Tryz.prog.rowNamed t [101, 114, 114, 111, 114]) = [111] := by kernel_rfl
theorem glob_of_laid {W : World} (h : laidMetH Tryz.prog lst W) : ∀ b v, GLOB b = some v → W.cell? ⟨b, 0, none⟩ = some v := by
  intro b v hb
  have h' : laidMet Tryz.prog (lst.filter fun x => x.2.handleName?.isNone) W ∧ handlesMet Tryz.prog (lst.filter fun x => x.2.handleName?.isSome) W := h
  obtain ⟨name, u, ty, e1, e2, e3, e4, e5⟩ := h'.2 ("errors.errorType", Rows.laid_errors_errorType) (by simp [lst]; decide)
  have en : name = [101, 114, 114, 111, 114] := (Option.some.inj e1).symm
  subst en
  obtain rfl := Option.some.inj (rtT.symm.trans e2)
  have hm : ty ∈ (List.range 235).filter fun t => Tryz.prog.rowNamed t [101, 114, 114, 111, 114] := List.mem_filter.2 ⟨List.mem_range.2 (by rw [← tsize]; exact e3), e4⟩
  rw [oneRow] at hm
  obtain rfl := List.mem_singleton.1 hm
  have hh : typeHandle Tryz.prog 111 = .pointer (some ⟨3, 111, none⟩) := by kernel_rfl
  rw [hh] at e5
  have hc : W.cell? ⟨0, 0, none⟩ = some (.iface 190 (.agg #[.pointer (some ⟨3, 111, none⟩)])) := by simpa using World.var?_cell et e5 0
  unfold GLOB at hb
  split at hb
  · rename_i e; subst e; cases hb; exact hc
  · cases hb
/-- a world that holds it -/
noncomputable def laidW0 (os : Os) : World :=
  let w0 := World.holding Tryz.prog os ⟨#[], #[], []⟩
  { w0 with heap := w0.heap.modify 0 fun
      | .cells _ t frozen => .cells #[.iface 190 (.agg #[.pointer (some ⟨3, 111, none⟩)])] t frozen
      | o => o }
def lstD : List (String × DataW Unit) := [("unicode/utf8.acceptRanges", Rows.laid_unicode_utf8_acceptRanges), ("unicode/utf8.first", Rows.laid_unicode_utf8_first)]
noncomputable def laidWorld (os : Os) : World := (laidW0 os).layVars Tryz.prog lstD
theorem laidWorld_os (os : Os) : (laidWorld os).os = os := World.layVars_os _ _ _
theorem laidWorld_met (os : Os) (args : Array Value) : laidMetH Tryz.prog lst ((laidWorld os).forCall (fun _ _ => 0) ⟨#[], args, []⟩).memory := by
  refine laidMetH_of_parts ?_ (by kernel_rfl)
  have e : (lst.filter fun x => x.2.handleName?.isNone) = lstD := by rfl
  rw [e]
  have e1 : (lstD.filter fun x => ["unicode/utf8.acceptRanges", "unicode/utf8.first"].contains x.1) = lstD := by rfl
  have e2 : (lstD.filter fun x => !["unicode/utf8.acceptRanges", "unicode/utf8.first"].contains x.1) = [] := by rfl
  have h : laidMet Tryz.prog lstD (laidWorld os) := laidMet_layVars (w0 := laidW0 os) ["unicode/utf8.acceptRanges", "unicode/utf8.first"] [] (by rw [e1]; rfl) (by rw [e1]; kernel_rfl) (by rw [e1]; kernel_rfl) (by rw [e2]; exact LaidIn.none)
  exact h.of_heap (by simp [World.memory, World.forCall, Input.heap])
theorem laidWorld_shaped (os : Os) (args : Array Value) : ((laidWorld os).forCall (fun _ _ => 0) ⟨#[], args, []⟩).Shaped Tryz.prog := World.shaped_of_ZipB (by kernel_rfl) (by kernel_rfl)
end Go.Proofs.YtdenddhdeloceaaGreatDoor
/- Contract: disk.land, of a callback that is data. -/
namespace Go.Proofs.YtdenddhdeloceaaGreatDoor
open Go.RowKit
set_option maxRecDepth 100000
theorem fam_landF (d : Dk) (F : AV) (hFa : ∀ p, Al p F) (hFr : ∀ ρ, ren ρ F = F) {N : Nat} {l : List (Nat × AV)} {env : Nat → AV} {σ : Heap} {nx : Nat} {v w : Value} {a0 a1 a2 : Nat} (g : Nat → List Int) (hd : d.sectors.length ≤ 2048) (hne : a0 ≠ a1 ∧ a0 ≠ a2 ∧ a1 ≠ a2)
    (ha : ∀ a ∈ [a0, a1, a2], a < 900001 ∨ 903000 ≤ a)
    (hl : l = [(1, F), (4, .op 0 0), (7, .op 1 0), (19, fWrs true d.cache), (20, .v v), (21, .v w)])
    (e1 : env 1 = F) (e4 : env 4 = .op a0 0) (e7 : env 7 = .op a1 0) (e19 : env 19 = fWrs true d.cache) (e20 : env 20 = .v v) (e21 : env 21 = .v w)
    (s0 : σ a0 = some zP) (s1 : σ a1 = some (.row true 50 [.os a2 0 d.sectors.length 1, fWrs true d.cache])) (s2 : σ a2 = some (.row true 22 (osR 900001 d.sectors.length (gS d))))
    (sF : ∀ j, j < d.sectors.length → σ (900001 + j) = some (.row true 5 (eB (g j)))) :
    Weak N 0 ⟨env, σ, nx⟩ ⟨envOf l, heapOf (fixD d ++ famL 900001 d.sectors.length (fun j => .row true 5 (eB (g j)))), 2000000⟩ := by
  have hA0 := ha a0 (by simp)
  have hA1 := ha a1 (by simp)
  have hA2 := ha a2 (by simp)
  have hre : (([(a0, 0), (a1, 1), (a2, 2)] : List (Nat × Nat)).map (·.1)).Nodup := by simp; exact ⟨⟨hne.1, hne.2.1⟩, hne.2.2⟩
  have hsep : ∀ p ∈ ([(a0, 0), (a1, 1), (a2, 2)] : List (Nat × Nat)), (p.1 < 900001 ∨ 900001 + d.sectors.length ≤ p.1) ∧ (p.2 < 900001 ∨ 900001 + d.sectors.length ≤ p.2) := by
    intro p hp; simp at hp; rcases hp with rfl | rfl | rfl <;> simp <;> omega
  have hn : (([(a0, 0), (a1, 1), (a2, 2)] ++ famR 900001 d.sectors.length : List (Nat × Nat)).map (·.1)).Nodup := by
    rw [List.map_append, famR_1, List.nodup_append]
    refine ⟨hre, range_nodup 900001 _, fun a ha c hc e => ?_⟩
    rw [mem_rangeb] at hc
    obtain ⟨p, hp, rfl⟩ := List.mem_map.1 ha
    have := (hsep p hp).1; omega
  generalize hR : ([(a0, 0), (a1, 1), (a2, 2)] ++ famR 900001 d.sectors.length : List (Nat × Nat)) = R at hn
  have q0 : rn R a0 = 0 := rn_mem (p := (a0, 0)) (by rw [← hR]; simp) hn
  have q1 : rn R a1 = 1 := rn_mem (p := (a1, 1)) (by rw [← hR]; simp) hn
  have q2 : rn R a2 = 2 := rn_mem (p := (a2, 2)) (by rw [← hR]; simp) hn
  have qF : ∀ j, j < d.sectors.length → rn R (900001 + j) = 900001 + j := fun j hj => rn_mem (p := (900001 + j, 900001 + j)) (by rw [← hR]; exact List.mem_append_right _ (famR_mem.2 ⟨rfl, by simp only; omega, by simp only; omega⟩)) hn
  have i0 : a0 ∈ R.map (·.1) := by rw [← hR]; simp
  have i1 : a1 ∈ R.map (·.1) := by rw [← hR]; simp
  have i2 : a2 ∈ R.map (·.1) := by rw [← hR]; simp
  have iF : ∀ j, j < d.sectors.length → 900001 + j ∈ R.map (·.1) := fun j hj => by
    rw [← hR, List.map_append, famR_1]; exact List.mem_append_right _ (mem_rangeb.2 ⟨by omega, by omega⟩)
  refine Weak.toF (N := N) (m := 0) (s := ⟨env, σ, nx⟩) [(a0, 0), (a1, 1), (a2, 2)] 900001 d.sectors.length l (fixD d) (fun j => .row true 5 (eB (g j))) 2000000
    hre (by simp) (by intro p hp; simp at hp; rcases hp with rfl | rfl | rfl <;> simp) (by omega) (by omega) (by omega) hsep ?_ ?_ ?_
  · rw [hR]
    intro t x hv
    show Al _ (env t) ∧ Imp (ren (rn R) (env t)) x
    rw [hl] at hv
    simp only [List.mem_cons, Prod.mk.injEq, List.not_mem_nil, or_false] at hv
    rcases hv with ⟨rfl, rfl⟩ | ⟨rfl, rfl⟩ | ⟨rfl, rfl⟩ | ⟨rfl, rfl⟩ | ⟨rfl, rfl⟩ | ⟨rfl, rfl⟩
    · rw [e1]; exact ⟨hFa _, by rw [hFr]; exact Imp.refl _⟩
    · rw [e4]; exact ⟨i0, by show Imp (.op (rn R a0) 0) _; rw [q0]; exact Imp.refl _⟩
    · rw [e7]; exact ⟨i1, by show Imp (.op (rn R a1) 0) _; rw [q1]; exact Imp.refl _⟩
    · rw [e19]; exact ⟨al_Wrs _, by show Imp (.fs true (renL (rn R) (eWrs true d.cache)) d.cache.length) _; rw [ren_Wrs]; exact Imp.refl _⟩
    · rw [e20]; exact ⟨trivial, Imp.refl _⟩
    · rw [e21]; exact ⟨trivial, Imp.refl _⟩
  · rw [hR]
    intro j o hj
    simp only [fixD, List.mem_cons, Prod.mk.injEq, List.not_mem_nil, or_false] at hj
    rcases hj with ⟨rfl, rfl⟩ | ⟨rfl, rfl⟩ | ⟨rfl, rfl⟩
    · exact ⟨a0, _, _, _, by simp, s0, ⟨trivial, trivial, trivial⟩, rfl⟩
    · exact ⟨a1, _, _, _, by simp, s1, ⟨i2, al_Wrs _, trivial⟩, by simp [renL, ren, q2, fWrs, ren_Wrs]⟩
    · exact ⟨a2, _, _, _, by simp, s2, al_osR iF, by rw [renL_osR qF]⟩
  · intro j hj
    exact ⟨true, _, _, sF j hj, al_B _, rfl⟩
def zsK (d : Dk) (kp : Nat → Bool) : List (Bool × Wr) := ((List.range d.cache.length).map kp).zip d.cache
def lndD (d : Dk) (kp : Nat → Bool) : Dk := ⟨landL d.sectors (zsK d kp), []⟩
def secK (d : Dk) (kp : Nat → Bool) (i j : Nat) : List Int := ((landL d.sectors ((zsK d kp).take i))[j]?).getD []
abbrev L_lk (d : Dk) (F : AV) (kp : Nat → Bool) (i : Nat) : ASt := ⟨envOf [(1, F), (4, .op 0 0), (7, .op 1 0), (19, fWrs true d.cache), (20, .v (.int .i64 d.cache.length)), (21, .v (.int .i64 i))],
  heapOf (fixD d ++ famL 900001 d.sectors.length (fun j => .row true 5 (eB (secK d kp i j)))), 2000000⟩
theorem secK_len {d : Dk} (kp : Nat → Bool) (h : okD d) (i : Nat) {j : Nat} (hj : j < d.sectors.length) : (secK d kp i j).length = 64 := by
  have hl := landL_len ((zsK d kp).take i) d.sectors
  unfold secK
  rw [List.getElem?_eq_getElem (by omega)]
  refine landL_p (p := fun t => t.length = 64) _ _ h.secs (fun q hq => ?_) _ (List.getElem_mem _)
  have h1 := (List.of_mem_zip (List.mem_of_mem_take hq)).2
  exact Classical.byContradiction fun hx => h.cache q.2 h1 (.inr (.inr hx))
theorem fsR_landK (d : Dk) (kp : Nat → Bool) (hz : (zsK d kp).take d.cache.length = zsK d kp) : fsR d.sectors.length (fun j => eB (secK d kp d.cache.length j)) = eL true (lndD d kp).sectors := by
  have hl := landL_len (zsK d kp) d.sectors
  have hfl : (lndD d kp).sectors = landL d.sectors (zsK d kp) := rfl
  rw [hfl]
  apply List.ext_getElem?
  intro j
  by_cases hj : j < d.sectors.length
  · simp only [fsR, eL, List.getElem?_map, List.getElem?_range hj, Option.map_some, secK, hz, List.getElem?_eq_getElem (show j < (landL d.sectors (zsK d kp)).length by omega), len_B]
    rfl
  · have h1 : (fsR d.sectors.length fun j => eB (secK d kp d.cache.length j))[j]? = none := List.getElem?_eq_none (by simp [fsR]; omega)
    have h2 : (eL true (landL d.sectors (zsK d kp)))[j]? = none := List.getElem?_eq_none (by rw [len_L]; omega)
    rw [h1, h2]
set_option maxHeartbeats 2000000 in
theorem land_F (fr : Bool) (d : Dk) (F : AV) (kp : Nat → Bool) (nb : Nat) (h : okD d) (hFa : ∀ p, Al p F) (hFr : ∀ ρ, ren ρ F = F) (hat : ∀ (i : Nat) nb, ∃ g caps, F = .fn g caps ∧ ASound Tryz.prog g ([.v (.int .i64 i)] ++ caps) nb (.ret (.v (.bool (kp i))) [])) : ASound Tryz.prog 52 [aDk fr d, F] nb (.ret (.tup [aDk true (lndD d kp), .v (.int .i64 0)]) []) := by
  refine ok_52.sound (by simp) ⟨al_aDk d, hFa _, trivial⟩ ?_
  have hf := h.few
  have hc := fun nb => dcheck_spec fr d nb (by omega)
  rw [dkE_ok h] at hc
  have hl := clone_land fr d
  have hatn : ∀ i : Nat, ∃ g caps, F = .fn g caps ∧ ∀ nb, ASound Tryz.prog g ([.v (.int .i64 i)] ++ caps) nb (.ret (.v (.bool (kp i))) []) := fun i => by
    obtain ⟨g, caps, e, _⟩ := hat i 0
    refine ⟨g, caps, e, fun nb => ?_⟩
    obtain ⟨g', caps', e', h'⟩ := hat i nb
    rw [e] at e'; cases e'; exact h'
  simp only [aDk, fL, fWrs] at hc hl
  simp only [ac_52, TT, ↓reduceIte, Nat.reduceEqDiff, Nat.reduceAdd, Nat.reduceMul, reduceCtorEq, Nat.reduceLeDiff]
  refine ⟨_, hc _, ?_⟩
  simp only [not_true_eq_false, TT, ↓reduceIte, Nat.reduceEqDiff, Nat.reduceAdd, Nat.reduceMul, reduceCtorEq, Nat.reduceLeDiff]
  refine ⟨_, hl _ h, ?_⟩
  simp only [TT, ↓reduceIte, Nat.reduceEqDiff, Nat.reduceAdd, Nat.reduceMul, reduceCtorEq, Nat.reduceLeDiff]
  have hne : 0 < d.sectors.length := by omega
  refine AWc.family (L_lk d F kp) (fun i => i ≤ d.cache.length) (fun i => d.cache.length - i) 0 (Nat.zero_le _) ?_ ?_
  · simp only [L_lk]
    refine fam_landF d F hFa hFr (a0 := 100000) (a1 := 1000000) (a2 := 900000) (secK d kp 0) (by omega) (by decide) (by intro a ha; simp at ha; omega) rfl (by simp [ET]) (by simp [ET]) (by simp [ET]) (by simp [ET, fWrs]) (by simp [ET]) (by simp [ET]) ?_ ?_ ?_ ?_
    · simp only [s_put1, newW, app_rows]
      rw [if_neg (by decide), if_neg (by decide), if_neg (by decide), if_pos True.intro]
    · simp only [s_put1]
      rw [if_pos True.intro]; rfl
    · simp only [s_put1, newW, app_rows]
      rw [if_neg (by decide), if_neg (by decide), if_pos (by decide)]; rfl
    · intro j hj
      rw [s_put1, if_neg (by omega), s_put1, if_neg (by omega), newW, app_rows, if_pos (by omega), show 900001 + j - 900000 = j + 1 from by omega, List.getElem?_cons_succ, famW, List.getElem?_map, List.getElem?_range hj]
      have hz : eB (secK d kp 0 j) = gS d j := by simp only [secK, List.take_zero, landL, gS]
      rw [hz]; rfl
  · intro i hi
    have hfx : ∀ j, heapOf (fixD d) (900001 + j) = none := fun j => by
      simp only [fixD, heapOf]
      rw [if_neg (by omega), if_neg (by omega), if_neg (by omega)]
    have l0 : heapOf (fixD d ++ famL 900001 d.sectors.length (fun j => .row true 5 (eB (secK d kp i j)))) 0 = some zP := by rw [heapOf_append]; simp [heapOf]
    have l1 : heapOf (fixD d ++ famL 900001 d.sectors.length (fun j => .row true 5 (eB (secK d kp i j)))) 1 = some (.row true 50 [.os 2 0 d.sectors.length 1, .fs true (eWrs true d.cache) d.cache.length]) := by rw [heapOf_append]; simp [heapOf, fWrs]
    have l2 : heapOf (fixD d ++ famL 900001 d.sectors.length (fun j => .row true 5 (eB (secK d kp i j)))) 2 = some (.row true 22 (osR 900001 d.sectors.length (gS d))) := by rw [heapOf_append]; simp [heapOf]
    have lF : ∀ j, j < d.sectors.length → heapOf (fixD d ++ famL 900001 d.sectors.length (fun j => .row true 5 (eB (secK d kp i j)))) (900001 + j) = some (.row true 5 (eB (secK d kp i j))) := fun j hj => by
      rw [heapOf_append, hfx j]
      simp only
      rw [s_heapFam, if_pos (by omega), show 900001 + j - 900001 = j from by omega]
    simp only [L_lk, fWrs]
    generalize hH : heapOf (fixD d ++ famL 900001 d.sectors.length (fun j => .row true 5 (eB (secK d kp i j)))) = H at l0 l1 l2 lF
    by_cases hlt : i < d.cache.length
    · obtain ⟨w, hw, e1, e0⟩ := lt_at hlt
      obtain ⟨g1, g2⟩ := get_Wrs (fr := true) hw
      have hbw := h.cache w (List.mem_of_getElem? hw)
      have s1 : 0 ≤ w.sec := Classical.byContradiction fun hx => hbw (.inl (by omega))
      have s2 : w.sec < (d.sectors.length : Int) := Classical.byContradiction fun hx => hbw (.inr (.inl (by omega)))
      obtain ⟨k, hk⟩ := Int.eq_ofNat_of_zero_le s1
      have hkl : k < d.sectors.length := by omega
      have c1 : ((0 : Int) ≤ (k : Int) ∧ (k : Int) < (d.sectors.length : Int)) = True := eq_true ⟨by omega, by omega⟩
      obtain ⟨gF, cF, hFe, hat⟩ := hatn i
      have hol : (osR 900001 d.sectors.length (gS d))[k]? = some (.os (900001 + k) 0 64 1) := by
        have hs := h.secs _ (List.getElem_mem hkl)
        simp [osR, hkl, gS, len_B, hs]
      have lk := lF k hkl
      simp only [e1, e0, g1, g2, l1, hk, Int.toNat_natCast, TT, ↓reduceIte, Nat.reduceEqDiff, Nat.reduceAdd, Nat.reduceMul, reduceCtorEq, Nat.reduceLeDiff]
      refine ⟨_, _, _, hFe, hat _, ?_⟩
      cases hkp : kp i with
      | false =>
        simp only [l1, l2, hkp, TT, ↓reduceIte, Nat.reduceEqDiff, Nat.reduceAdd, Nat.reduceMul, reduceCtorEq, Nat.reduceLeDiff]
        refine famC_next (i + 1) (by omega) (by omega) ?_
        have w1 : IntKind.i64.wrap ((i : Int) + 1) = ((i + 1 : Nat) : Int) := by rw [wrap64 (by omega)]; omega
        have hz : (zsK d kp)[i]? = some (false, w) := zip_at (by rw [List.getElem?_map, List.getElem?_range hlt, Option.map_some, hkp]) hw
        have hsn1 : ∀ j, secK d kp (i + 1) j = secK d kp i j := fun j => by
          unfold secK
          rw [landL_snoc hz]; rfl
        rw [w1]
        refine fam_landF d F hFa hFr (a0 := 0) (a1 := 1) (a2 := 2) (secK d kp (i + 1)) (by omega) (by decide) (by intro a ha; simp at ha; omega) rfl (by simp [ET]) (by simp [ET]) (by simp [ET]) (by simp [ET, fWrs]) (by simp [ET]) (by simp [ET]) ?_ ?_ ?_ ?_
        · rw [s_put1, if_neg (by omega), s_put1, if_neg (by omega)]; exact l0
        · rw [s_put1, if_neg (by omega), s_put1, if_neg (by omega)]; exact l1
        · rw [s_put1, if_neg (by omega), s_put1, if_neg (by omega)]; exact l2
        · intro j hj
          rw [hsn1 j, s_put1, if_neg (by omega), s_put1, if_neg (by omega)]
          exact lF j hj
      | true =>
        have hdl : w.data.length = 64 := Classical.byContradiction fun hx => hbw (.inr (.inr hx))
        have hq : (900001 + k = 2400000) = False := eq_false (by omega)
        have hsl : (secK d kp i k).length = 64 := secK_len kp h i hkl
        have hsn : setN (eB (secK d kp i k)) 0 (eB w.data) = eB w.data := by
          rw [setN_B (by omega), hdl, List.drop_of_length_le (by omega), List.append_nil]
        have h64 : Nat.min 64 64 = 64 := rfl
        have htk : List.take 64 (eB w.data) = eB w.data := List.take_of_length_le (by rw [len_B, hdl]; exact Nat.le_refl _)
        simp only [hkp, l1, l2, c1, hol, lk, hk, hq, len_B, hdl, hsl, h64, htk, hsn, Int.toNat_natCast, Nat.zero_add, TT, ↓reduceIte, Nat.reduceEqDiff, Nat.reduceAdd, Nat.reduceMul, reduceCtorEq, Nat.reduceLeDiff]
        rw [if_pos (by decide)]
        refine ⟨by rfl, ?_⟩
        refine famC_next (i + 1) (by omega) (by omega) ?_
        have w1 : IntKind.i64.wrap ((i : Int) + 1) = ((i + 1 : Nat) : Int) := by rw [wrap64 (by omega)]; omega
        have hz : (zsK d kp)[i]? = some (true, w) := zip_at (by rw [List.getElem?_map, List.getElem?_range hlt, Option.map_some, hkp]) hw
        have hsn1 : ∀ j, j < d.sectors.length → secK d kp (i + 1) j = if j = k then w.data else secK d kp i j := fun j hj => by
          have hll := landL_len ((zsK d kp).take i) d.sectors
          unfold secK
          rw [landL_snoc hz]
          simp only [if_true, hk, Int.toNat_natCast]
          rw [List.getElem?_set]
          by_cases hjk : k = j
          · subst hjk; rw [if_pos rfl, if_pos (by omega), if_pos rfl]; rfl
          · rw [if_neg hjk, if_neg (fun e => hjk e.symm)]
        rw [w1]
        refine fam_landF d F hFa hFr (a0 := 0) (a1 := 1) (a2 := 2) (secK d kp (i + 1)) (by omega) (by decide) (by intro a ha; simp at ha; omega) rfl (by simp [ET]) (by simp [ET]) (by simp [ET]) (by simp [ET, fWrs]) (by simp [ET]) (by simp [ET]) ?_ ?_ ?_ ?_
        · rw [s_put1, if_neg (by omega), s_put1, if_neg (by omega), s_put1, if_neg (by omega)]; exact l0
        · rw [s_put1, if_neg (by omega), s_put1, if_neg (by omega), s_put1, if_neg (by omega)]; exact l1
        · rw [s_put1, if_neg (by omega), s_put1, if_neg (by omega), s_put1, if_neg (by omega)]; exact l2
        · intro j hj
          rw [hsn1 j hj, s_put1]
          by_cases hjk : j = k
          · rw [if_pos (by omega), if_pos hjk]
          · rw [if_neg (by omega), if_neg hjk, s_put1, if_neg (by omega), s_put1, if_neg (by omega)]
            exact lF j hj
    · obtain rfl : i = d.cache.length := by omega
      have e1 : ¬ ((d.cache.length : Int) < (d.cache.length : Int)) := by omega
      have l0' : H 0 = some (.row true 50 [.v (.slice none 0 0), .v (.slice none 0 0)]) := l0
      simp only [e1, l0', l1, TT, ↓reduceIte, Nat.reduceEqDiff, Nat.reduceAdd, Nat.reduceMul, reduceCtorEq, Nat.reduceLeDiff]
      have hzl : (zsK d kp).take d.cache.length = zsK d kp := List.take_of_length_le (by simp [zsK])
      have hos : osR 900001 d.sectors.length (gS d) = osR 900001 d.sectors.length (fun j => eB (secK d kp d.cache.length j)) := osR_len fun j hj => by
        rw [len_B, secK_len kp h _ hj]
        simp only [gS, len_B, List.getElem?_eq_getElem hj]
        exact h.secs _ (List.getElem_mem hj)
      rw [hos] at l2
      have hfin := fsR_landK d kp hzl
      have hcl : (lndD d kp).sectors.length = d.sectors.length := landL_len _ _
      generalize hg : (fun j => eB (secK d kp d.cache.length j)) = g at l2 hfin
      have lG : ∀ j, j < d.sectors.length → H (900001 + j) = some (.row true 5 (g j)) := fun j hj => by rw [lF j hj, ← hg]
      have hpu : ∀ j, PuL (g j) := fun j => by rw [← hg]; exact al_B _
      refine Ends.weak (fam_end (n := d.sectors.length) (g := g) (v := .int .i64 0) (by omega) hpu (by simp [ET]) (by simp [ET]) ?_ ?_ ?_) ?_
      · rw [s_put1, if_pos rfl]
      · rw [s_put1, if_neg (by decide), s_put1, if_neg (by decide)]; exact l2
      · intro j hj
        rw [s_put1, if_neg (by omega), s_put1, if_neg (by omega)]; exact lG j hj
      rw [hfin]
      have hfd : lndD d kp = ⟨(lndD d kp).sectors, []⟩ := rfl
      have htk : List.take d.sectors.length (eL true (lndD d kp).sectors) = eL true (lndD d kp).sectors := List.take_of_length_le (by rw [len_L, hcl]; exact Nat.le_refl _)
      have himp := imp_crash (lndD d kp).sectors
      rw [← hfd] at himp
      simp only [aDk, fL, fWrs] at himp
      refine Ends.weak (Weak.freezeC 2 rfl (l := [(4, .op 0 0), (5, .v (.int .i64 0))]) (h := [(0, .row true 50 [.fs true (eL true (lndD d kp).sectors) (lndD d kp).sectors.length, .v (.slice none 0 0)])]) ?_ ?_) (Ends.imp (r0 := .tup [.agg [.fs true (eL true (lndD d kp).sectors) (lndD d kp).sectors.length, .v (.slice none 0 0)], .v (.int .i64 0)]) (.inr rfl) (by simp [ET]) ⟨⟨al_L _, trivial, trivial⟩, trivial, trivial⟩ himp)
      · simp [WT]
      · simp [WT, htk, hcl]
end Go.Proofs.YtdenddhdeloceaaGreatDoor
