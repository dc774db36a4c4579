/- Merged texts: UL, UM, UN, UO, KE, UP, UQ, UR, US, UT, UV, WV, AQ, AS, KI, KF, UW, UX, UY, W0, W1, W2, W3, W4, W5, W6, W7, W8, W9, WA, KG, WB, KH, WC, WD, WE, WF, WG, WH, WI, WJ, AM, AO, AR, WK, WL, WM, WN. -/
import Derived.Test.YtdenddhdeloceaaGreatDoorX1
import Derived.Test.YtdenddhdeloceaaGreatDoorX2
import Derived.Test.YtdenddhdeloceaaGreatDoorProg
import Derived.RangeFuncNested
import Derived.RangeFuncBound
import Derived.RangeFuncCalls
import Derived.Shelf.Abstract
import Derived.Shelf.RegionOpen
import Derived.WalkKit
import Derived.OwnWalkIn
import Derived.TacticsInMore
import Derived.LoopNIn
import Derived.LoopIn
import Derived.Lib.Hide
set_option linter.unusedSimpArgs false
set_option linter.unusedVariables false
namespace Go.Proofs.YtdenddhdeloceaaGreatDoor
open Go.RowKit
set_option maxRecDepth 100000
theorem Then.only {c : Cx} {w' : World} (h : HR c) (nb : Nat) (hs : c.w.heap.size ≤ w'.heap.size) (hb : ∀ b, b < c.w.heap.size → w'.heap[b]? = c.w.heap[b]?) (h1 : w'.output = c.w.output) (h2 : w'.os = c.w.os) (h3 : w'.tape = c.w.tape) : Then c nb [] (c.at w') := by
  have g : Grow c (c.at w') := Still.grow ⟨rfl, rfl, rfl, h1, h2, h3, hs, fun b hb2 _ => hb b hb2, fun b h => .inl h, fun b cs e f hx => ⟨cs, f, (hb b (by rw [Array.getElem?_eq_some_iff] at hx; exact hx.1)).trans hx, rfl⟩⟩
  have n : Names c (c.at w') := Names.refl c
  refine ⟨g, n, ⟨fun id y e cells hx => ?_, fun id id' b a1 a2 a3 a4 => h.inj id id' b a1 a2 a3 a4, Nat.le_trans h.base hs, fun b hx => Nat.lt_of_lt_of_le (h.xlt b hx) hs, h.gl.grow g⟩, rfl, fun id hid => .inl hid⟩
  rcases h.row id y e cells hx with ⟨k1, k2⟩ | ⟨b, cs, k1, k2, k3, k4, k5⟩
  · exact .inl ⟨k1, k2⟩
  · refine .inr ⟨b, cs, k1, (hb b (by rw [Array.getElem?_eq_some_iff] at k2; exact k2.1)).trans k2, k3, k4, fun j a hj => ?_⟩
    obtain ⟨u, m1, m2, m3⟩ := k5 j a hj
    exact ⟨u, m1, m2, m3.mono g n⟩
set_option maxHeartbeats 4000000 in
theorem code_walk (e : Int) (w : World) (hg : w.cell? ⟨0, 0, none⟩ = some (.iface 190 (.agg #[.pointer (some ⟨3, 111, none⟩)]))) :
    Calls Tryz.prog 67 #[.iface 153 (.agg #[.int .i64 e])] w fun ev w' => ev = .returned (.int .i64 e) ∧ w' = ((((w.alloc (.cells #[.int .i64 e] 153)).alloc (.cells #[.pointer (some ⟨w.heap.size, 0, none⟩)] 155)).alloc (.cells #[.pointer (some ⟨3, 155, none⟩), .pointer (some ⟨w.heap.size + 1, 0, none⟩), .int .u64 150] 177)).alloc (.cells #[.pointer (some ⟨3, 155, none⟩), .pointer (some ⟨w.heap.size + 1, 0, none⟩), .int .u64 150] 177)).alloc (.cells #[.int .i64 e] 153) := by
  have hlt : 0 < w.heap.size := by
    rcases Nat.eq_zero_or_pos w.heap.size with h0 | h
    · simp [World.cell?, h0] at hg
    · exact h
  have hgA : (w.alloc (.cells #[.int .i64 0] 153)).cell? ⟨0, 0, none⟩ = some (.iface 190 (.agg #[.pointer (some ⟨3, 111, none⟩)])) := by
    rw [World.cell?_alloc_lt _ _ ⟨0, 0, none⟩ hlt]; exact hg
  have htA : (w.alloc (.cells #[.int .i64 0] 153)).cell? ⟨w.heap.size, 0, none⟩ = some (.int .i64 0) := by simp
  have hfA : (w.alloc (.cells #[.int .i64 0] 153)).frozen? ⟨w.heap.size, 0, none⟩ = false := by simp
  go_enter Tryz.func67, Tryz.ntmps67
  go_wp2_with (first | (go_at_call 99; refine (tz_as e _ (.int .i64 0) _ hgA htA hfA).mono ?_; rintro e w' ⟨rfl, rfl⟩))
  go_ret
  exact ⟨rfl, rfl⟩
theorem code_spec (e : Int) (nb : Nat) : ASound Tryz.prog 67 [.ifc 153 (.agg [.v (.int .i64 e)])] nb (.ret (.v (.int .i64 e)) []) := by
  refine ⟨by kernel_rfl, fun c us r R W hrun hr hfr hv => ?_⟩
  simp [AM.run] at hrun
  obtain ⟨rfl, _, rfl⟩ := hrun
  obtain ⟨u, us', rfl, ⟨v, rfl, vs, rfl, x, vs', rfl, _, hx, hn⟩, hn2⟩ := hv
  rw [VRl] at hn
  subst hn
  rw [VRt] at hn2
  subst hn2
  rw [VR] at hx
  subst hx
  have hg := (hr.gl 0 _ rfl).1
  refine (code_walk e c.w hg).mono ?_
  rintro ev w' ⟨rfl, hw⟩
  have step : ∀ (w : World) (o : Obj) (b : Nat), b < w.heap.size → (w.alloc o).heap[b]? = w.heap[b]? := fun w o b hb => Below.heap_alloc w o b hb
  have h1 : c.w.heap.size ≤ w'.heap.size := by rw [hw]; simp only [World.size_alloc]; omega
  have h2 : ∀ b, b < c.w.heap.size → w'.heap[b]? = c.w.heap[b]? := by
    intro b hb
    rw [hw]
    rw [step _ _ _ (by simp only [World.size_alloc]; omega), step _ _ _ (by simp only [World.size_alloc]; omega), step _ _ _ (by simp only [World.size_alloc]; omega), step _ _ _ (by simp only [World.size_alloc]; omega), step _ _ _ hb]
  have h3 : w'.output = c.w.output := by rw [hw]; rfl
  have h4 : w'.os = c.w.os := by rw [hw]; rfl
  have h5 : w'.tape = c.w.tape := by rw [hw]; rfl
  exact ⟨_, c.at w', rfl, rfl, rfl, Then.only hr nb h1 h2 h3 h4 h5⟩
end Go.Proofs.YtdenddhdeloceaaGreatDoor
namespace Go.Proofs.YtdenddhdeloceaaGreatDoor
open Go.RowKit
set_option maxRecDepth 100000
theorem imp_rec0 (e : Int) : Imp (.tup [.agg [.v (.int .i64 0), .v (.slice none 0 0), .v (.slice none 0 0)], .v (.int .i64 e)]) (.tup [aRec true rec0, .v (.int .i64 e)]) :=
  Imp.tupL ⟨Imp.aggL ⟨Imp.refl _, Imp.nil true, Imp.nil true, trivial⟩, Imp.refl _, trivial⟩
theorem scRec_err {l : List Int} (h : (scRec l).2 ≠ 0) : (scRec l).1 = rec0 := by
  unfold scRec at h ⊢
  simp only at h ⊢
  split
  · rfl
  · split
    · rfl
    · split
      · rfl
      · split
        · rfl
        · rename_i a b c d
          rw [if_neg a, if_neg b, if_neg c, if_neg d] at h
          exact absurd rfl h
theorem okB_open {l : List Int} (h : okB l) : okB (openB l).1 := by
  unfold openB
  split
  · intro x hx; simp at hx
  · split
    · exact okB_take h _
    · intro x hx; simp at hx
set_option maxHeartbeats 2000000 in
theorem decode_spec (fr : Bool) (l : List Int) (nb : Nat) (hb : okB l) (h : l.length ≤ 140737488355320) : ASound Tryz.prog 38 [fB fr l] nb (.ret (.tup [aRec true (dec l).1, .v (.int .i64 (dec l).2)]) []) := by
  refine ok_38.sound (by simp) ⟨al_fB l, trivial⟩ ?_
  simp only [ac_38, TT, ↓reduceIte, Nat.reduceEqDiff, Nat.reduceAdd, Nat.reduceMul, reduceCtorEq, Nat.reduceLeDiff]
  refine ⟨_, open_spec fr l _ hb h, ?_⟩
  have hob := okB_open hb
  rcases ho : openB l with ⟨b, e⟩
  rw [ho] at hob
  simp only at hob
  simp only [TT, ↓reduceIte, Nat.reduceEqDiff, Nat.reduceAdd, Nat.reduceMul, reduceCtorEq, Nat.reduceLeDiff]
  by_cases he : e = 0
  · subst he
    have hd : dec l = scRec b := by simp [dec, ho]
    rw [hd]
    simp only [TT, ↓reduceIte, Nat.reduceEqDiff, Nat.reduceAdd, Nat.reduceMul, reduceCtorEq, Nat.reduceLeDiff]
    have k := fun id nb h => record_spec true true b id nb h hob
    simp only [scRow, fB] at k
    refine ⟨_, k _ _ (by omega), ?_⟩
    rcases hs : scRec b with ⟨r, e⟩
    by_cases e2 : e = 0
    · subst e2
      simp only [recV_0, errV_0, TT, ↓reduceIte, Nat.reduceEqDiff, Nat.reduceAdd, Nat.reduceMul, reduceCtorEq, Nat.reduceLeDiff]
      exact Ends.data (r := .tup [aRec true r, .v (.int .i64 0)]) (.inr rfl) (by simp [ET, aRec, fI, fL]) ⟨al_aRec _, trivial, trivial⟩
    · simp only [recV_ne (show (r, e).2 ≠ 0 from e2), errV_ne e2, anyR, TT, ↓reduceIte, Nat.reduceEqDiff, Nat.reduceAdd, Nat.reduceMul, reduceCtorEq, Nat.reduceLeDiff]
      refine ⟨_, code_spec e _, ?_⟩
      have hr0 : r = rec0 := by
        have := scRec_err (l := b) (by rw [hs]; exact e2)
        rw [hs] at this; exact this
      rw [hr0]
      simp only [TT, ↓reduceIte, Nat.reduceEqDiff, Nat.reduceAdd, Nat.reduceMul, reduceCtorEq, Nat.reduceLeDiff]
      exact Ends.imp (r0 := .tup [.agg [.v (.int .i64 0), .v (.slice none 0 0), .v (.slice none 0 0)], .v (.int .i64 e)]) (.inr rfl) (by simp [ET]) ⟨⟨trivial, trivial, trivial, trivial⟩, trivial, trivial⟩ (imp_rec0 e)
  · have hd : dec l = (rec0, e) := by simp [dec, ho, he]
    rw [hd]
    simp only [he, not_false_eq_true, TT, ↓reduceIte, Nat.reduceEqDiff, Nat.reduceAdd, Nat.reduceMul, reduceCtorEq, Nat.reduceLeDiff]
    exact Ends.imp (r0 := .tup [.agg [.v (.int .i64 0), .v (.slice none 0 0), .v (.slice none 0 0)], .v (.int .i64 e)]) (.inr rfl) (by simp [ET]) ⟨⟨trivial, trivial, trivial, trivial⟩, trivial, trivial⟩ (imp_rec0 e)
end Go.Proofs.YtdenddhdeloceaaGreatDoor
namespace Go.Proofs.YtdenddhdeloceaaGreatDoor
open Go.RowKit
set_option maxRecDepth 100000
/-- a rest of a list -/
def Suf (B r : List Int) : Prop := B.drop (B.length - r.length) = r
theorem Suf.le {B r : List Int} (h : Suf B r) : r.length ≤ B.length := by
  have := congrArg List.length h
  rw [List.length_drop] at this; omega
theorem Suf.drop {B r : List Int} (h : Suf B r) (n : Nat) : Suf B (r.drop n) := by
  have hl := h.le
  unfold Suf at *
  rw [List.length_drop]
  by_cases hn : n ≤ r.length
  · conv => rhs; rw [← h, List.drop_drop]
    congr 1; omega
  · rw [List.drop_of_length_le (by omega), List.drop_of_length_le (l := r) (by omega)]
end Go.Proofs.YtdenddhdeloceaaGreatDoor
namespace Go.Proofs.YtdenddhdeloceaaGreatDoor
open Go.RowKit
set_option maxRecDepth 100000
end Go.Proofs.YtdenddhdeloceaaGreatDoor
namespace Go.Proofs.YtdenddhdeloceaaGreatDoor
set_option maxRecDepth 100000
end Go.Proofs.YtdenddhdeloceaaGreatDoor
namespace Go.Proofs.YtdenddhdeloceaaGreatDoor
open Go.RowKit
set_option maxRecDepth 100000
end Go.Proofs.YtdenddhdeloceaaGreatDoor
namespace Go.Proofs.YtdenddhdeloceaaGreatDoor
open Go.RowKit
set_option maxRecDepth 100000
theorem manyI.fin {α : Type} {f : List Int → α × Int × List Int} {N i : Nat} {R : List α × Int × List Int} {out : List α} {e : Int} {rest : List Int} (h : manyI f N R i out e rest) (hx : ¬ i < N ∨ e ≠ 0) : R = (out, e, rest) := by
  rcases h.st with ⟨he, hN, hle, hR⟩ | ⟨h0, hR⟩
  · subst he
    have : i = N := by rcases hx with h1 | h1; omega; exact absurd rfl h1
    subst this
    exact many_end hR
  · exact hR
end Go.Proofs.YtdenddhdeloceaaGreatDoor
namespace Go.Proofs.YtdenddhdeloceaaGreatDoor
open Go.RowKit
set_option maxRecDepth 100000
end Go.Proofs.YtdenddhdeloceaaGreatDoor
namespace Go.Proofs.YtdenddhdeloceaaGreatDoor
open Go.RowKit
set_option maxRecDepth 100000
def trL (l : List Int) : List Int := l.dropWhile fun x => decide (x = 0)
def trR (l : List Int) : List Int := (trL l.reverse).reverse
theorem trL_0 (l : List Int) : trL (0 :: l) = trL l := by simp [trL]
theorem trL_n {x : Int} (l : List Int) (h : x ≠ 0) : trL (x :: l) = x :: l := by simp [trL, h]
theorem trR_0 (l : List Int) : trR (l ++ [0]) = trR l := by simp [trR, trL]
theorem trR_n {x : Int} (l : List Int) (h : x ≠ 0) : trR (l ++ [x]) = l ++ [x] := by simp [trR, trL, h]
theorem trL_len (l : List Int) : (trL l).length ≤ l.length := by
  induction l with
  | nil => simp [trL]
  | cons x l ih =>
    by_cases h : x = 0
    · subst h; rw [trL_0, List.length_cons]; omega
    · rw [trL_n l h]; exact Nat.le_refl _
theorem trL_nil {l : List Int} : (trL l).length = 0 ↔ ∀ x ∈ l, x = 0 := by
  induction l with
  | nil => simp [trL]
  | cons x l ih =>
    by_cases h : x = 0
    · subst h; rw [trL_0, ih]; simp
    · rw [trL_n l h]; simp [h]
theorem trR_nil {l : List Int} : (trR l).length = 0 ↔ ∀ x ∈ l, x = 0 := by
  rw [trR, List.length_reverse, trL_nil]; simp
theorem trL_head {l r : List Int} {x : Int} (h : trL l = x :: r) : x ≠ 0 := by
  induction l with
  | nil => simp [trL] at h
  | cons y l ih =>
    by_cases hy : y = 0
    · subst hy; rw [trL_0] at h; exact ih h
    · rw [trL_n l hy] at h
      simp at h
      rw [← h.1]; exact hy
theorem trim_nil {l : List Int} : (trL (trR l)).length = 0 ↔ ∀ x ∈ l, x = 0 := by
  rw [trL_nil, ← trR_nil (l := l)]
  constructor
  · intro h
    by_cases h0 : (trR l).length = 0
    · exact h0
    · exfalso
      have hne : trR l ≠ [] := fun e => h0 (by rw [e]; rfl)
      have hd : trL l.reverse ≠ [] := fun e => hne (by rw [trR, e]; rfl)
      cases hq : trL l.reverse with
      | nil => exact hd hq
      | cons x r =>
        exact trL_head hq (h x (by rw [trR, hq]; simp))
  · intro h x hx
    rw [List.eq_nil_of_length_eq_zero h] at hx; cases hx
theorem le00 : ((0 : Int) ≤ 0) = True := eq_true (Int.le_refl 0)
abbrev L_tr (fr : Bool) (q : List Int) : ASt := ⟨envOf [(0, fB fr q), (1, .v (.int .u8 0))], heapOf [], 0⟩
theorem trimR_spec (fr : Bool) (l : List Int) (nb : Nat) (hB : l.length ≤ 140737488355328) : ASound Tryz.prog 69 [fB fr l, .v (.int .u8 0)] nb (.ret (fB fr (trR l)) []) := by
  refine ok_69.sound (by simp) ⟨al_fB l, trivial, trivial⟩ ?_
  simp only [ac_69, TT, ↓reduceIte, Nat.reduceEqDiff, Nat.reduceAdd, Nat.reduceMul, reduceCtorEq, Nat.reduceLeDiff]
  refine AWc.family (L_tr fr) (fun q => trR q = trR l ∧ q.length ≤ l.length) (fun q => q.length) l ⟨rfl, Nat.le_refl _⟩ ?_ ?_
  · refine Weak.calc [] (by decide) ?_ ?_ <;> simp [WT]
  · rintro q ⟨hq, hql⟩
    rcases List.eq_nil_or_concat q with h0 | ⟨p, x, h0⟩
    · subst h0
      have e1 : ¬ ((0 : Int) < ((0 : Nat) : Int)) := by decide
      rw [← hq]
      simp only [L_tr, List.length_nil, e1, TT, ↓reduceIte, Nat.reduceEqDiff, Nat.reduceAdd, Nat.reduceMul, reduceCtorEq, Nat.reduceLeDiff]
      exact Ends.data (r := .fs fr (eB []) 0) (.inr rfl) (by simp [ET]) (al_fB (fr := fr) [])
    · rw [List.concat_eq_append] at h0
      subst h0
      have hl : (p ++ [x]).length = p.length + 1 := by simp
      have e1 : ((0 : Int) < ((p.length + 1 : Nat) : Int)) := by omega
      have w1 : IntKind.i64.wrap (((p.length + 1 : Nat) : Int) - 1) = (p.length : Int) := by rw [wrap64 (by omega)]; omega
      have c1 : ((0 : Int) ≤ (p.length : Int) ∧ (p.length : Int) < ((p.length + 1 : Nat) : Int)) = True := eq_true ⟨by omega, by omega⟩
      have c2 : ((0 : Int) ≤ (p.length : Int) ∧ (p.length : Int) ≤ ((p.length + 1 : Nat) : Int)) = True := eq_true ⟨by omega, by omega⟩
      have g1 : (eB (p ++ [x]))[p.length]? = some (.v (.int .u8 x)) := get_B (by simp)
      have t1 : (p ++ [x]).take p.length = p := by simp
      by_cases hx : x = 0
      · subst hx
        simp only [L_tr, hl, e1, w1, c1, c2, Int.toNat_natCast, g1, take_B, t1, Nat.sub_zero, TT, ↓reduceIte, Nat.reduceEqDiff, Nat.reduceAdd, Nat.reduceMul, reduceCtorEq, Nat.reduceLeDiff]
        refine famC_next p (by simp only [List.length_append, List.length_cons, List.length_nil]; omega) ⟨?_, by omega⟩ ?_
        · rw [← hq, trR_0]
        · refine Weak.calc [] (by decide) ?_ ?_ <;> simp [WT]
      · simp only [L_tr, hl, e1, w1, c1, c2, Int.toNat_natCast, g1, hx, take_B, t1, TT, ↓reduceIte, Nat.reduceEqDiff, Nat.reduceAdd, Nat.reduceMul, reduceCtorEq, Nat.reduceLeDiff]
        rw [← hq, trR_n p hx, hl]
        exact Ends.data (r := .fs fr (eB (p ++ [x])) (p.length + 1)) (.inr rfl) (by simp [ET]) (al_B _)
theorem trimL_spec (fr : Bool) (l : List Int) (nb : Nat) (hB : l.length ≤ 140737488355328) : ASound Tryz.prog 68 [fB fr l, .v (.int .u8 0)] nb (.ret (fB fr (trL l)) []) := by
  refine ok_68.sound (by simp) ⟨al_fB l, trivial, trivial⟩ ?_
  simp only [ac_68, TT, ↓reduceIte, Nat.reduceEqDiff, Nat.reduceAdd, Nat.reduceMul, reduceCtorEq, Nat.reduceLeDiff]
  refine AWc.family (L_tr fr) (fun q => trL q = trL l ∧ q.length ≤ l.length) (fun q => q.length) l ⟨rfl, Nat.le_refl _⟩ ?_ ?_
  · refine Weak.calc [] (by decide) ?_ ?_ <;> simp [WT]
  · rintro q ⟨hq, hql⟩
    cases q with
    | nil =>
      have e1 : ¬ ((0 : Int) < ((0 : Nat) : Int)) := by decide
      have e2 : ((0 : Nat) : Int) = 0 := rfl
      rw [← hq]
      simp only [L_tr, List.length_nil, e1, e2, TT, ↓reduceIte, Nat.reduceEqDiff, Nat.reduceAdd, Nat.reduceMul, reduceCtorEq, Nat.reduceLeDiff]
      exact Ends.imp (r0 := .v (.slice none 0 0)) (.inr rfl) (by simp [ET]) trivial (Imp.nil fr)
    | cons x p =>
      have e1 : ((0 : Int) < ((p.length + 1 : Nat) : Int)) := by omega
      have e2 : ¬ ((p.length + 1 : Nat) : Int) = 0 := by omega
      have c1 : ((0 : Int) ≤ 0 ∧ (0 : Int) < ((p.length + 1 : Nat) : Int)) = True := eq_true ⟨by omega, by omega⟩
      have c2 : ((0 : Int) ≤ 1 ∧ (1 : Int) ≤ ((p.length + 1 : Nat) : Int)) = True := eq_true ⟨by omega, by omega⟩
      have g1 : (eB (x :: p))[Int.toNat 0]? = some (.v (.int .u8 x)) := rfl
      have t1 : (eB (x :: p)).drop (Int.toNat 1) = eB p := rfl
      have n1 : p.length + 1 - Int.toNat 1 = p.length := rfl
      by_cases hx : x = 0
      · subst hx
        simp only [L_tr, List.length_cons, e1, le00, c1, c2, g1, t1, n1, tk_B, TT, ↓reduceIte, Nat.reduceEqDiff, Nat.reduceAdd, Nat.reduceMul, reduceCtorEq, Nat.reduceLeDiff]
        refine famC_next p (by simp) ⟨?_, by rw [List.length_cons] at hql; omega⟩ ?_
        · rw [← hq, trL_0]
        · refine Weak.calc [] (by decide) ?_ ?_ <;> simp [WT]
      · rw [← hq, trL_n p hx]
        simp only [L_tr, List.length_cons, e1, e2, le00, c1, c2, g1, t1, n1, hx, tk_B, TT, ↓reduceIte, Nat.reduceEqDiff, Nat.reduceAdd, Nat.reduceMul, reduceCtorEq, Nat.reduceLeDiff]
        exact Ends.data (r := .fs fr (eB (x :: p)) (p.length + 1)) (.inr rfl) (by simp [ET]) (al_B _)
theorem trim_spec (fr : Bool) (l : List Int) (nb : Nat) (hB : l.length ≤ 140737488355328) : ASound Tryz.prog 39 [fB fr l, .v (.string (ByteArray.mk #[0]))] nb (.ret (fB fr (trL (trR l))) []) := by
  refine ok_39.sound (by simp) ⟨al_fB l, trivial, trivial⟩ ?_
  by_cases h0 : l.length = 0
  · have hl : l = [] := List.eq_nil_of_length_eq_zero h0
    subst hl
    have e2 : ((0 : Nat) : Int) = 0 := rfl
    simp only [ac_39, List.length_nil, e2, TT, ↓reduceIte, Nat.reduceEqDiff, Nat.reduceAdd, Nat.reduceMul, reduceCtorEq, Nat.reduceLeDiff]
    exact Ends.imp (r0 := .v (.slice none 0 0)) (.inr rfl) (by simp [ET]) trivial (Imp.nil fr)
  · have e2 : ¬ (l.length : Int) = 0 := by omega
    have s1 : strOp BinOp.eql (ByteArray.mk #[0]) (ByteArray.mk #[]) = some (.bool false) := by kernel_rfl
    have s2 : (ByteArray.mk #[0]).size = 1 := rfl
    have s3 : (ByteArray.mk #[0])[Int.toNat 0]? = some 0 := rfl
    have s4 : ((1 : Nat) : Int) = 1 := rfl
    have s5 : (((0 : UInt8).toNat : Nat) : Int) = 0 := rfl
    have s6 : (0 : Int) < 128 := by decide
    simp only [ac_39, e2, s1, s2, s3, s4, s5, s6, le00, TT, ↓reduceIte, Nat.reduceEqDiff, Nat.reduceAdd, Nat.reduceMul, reduceCtorEq, Nat.reduceLeDiff]
    have hr : (trR l).length ≤ l.length := by
      have := trL_len l.reverse
      rw [trR, List.length_reverse]; rw [List.length_reverse] at this; exact this
    refine ⟨_, trimR_spec fr l _ hB, ?_⟩
    simp only [s3, s5, le00, TT, ↓reduceIte, Nat.reduceEqDiff, Nat.reduceAdd, Nat.reduceMul, reduceCtorEq, Nat.reduceLeDiff]
    refine ⟨_, trimL_spec fr (trR l) _ (by omega), ?_⟩
    simp only [TT, ↓reduceIte, Nat.reduceEqDiff, Nat.reduceAdd, Nat.reduceMul, reduceCtorEq, Nat.reduceLeDiff]
    refine ⟨by rfl, ?_⟩
    exact Ends.data (r := fB fr (trL (trR l))) (.inr rfl) (by simp [ET, fB]) (al_fB _)
end Go.Proofs.YtdenddhdeloceaaGreatDoor
namespace Go.Proofs.YtdenddhdeloceaaGreatDoor
open Go.RowKit
set_option maxRecDepth 100000
def pt0 : Pt := ⟨0, 0, 0, 0, []⟩
/-- a point out of a record -/
def ofRec : Rec → Option Pt
  | ⟨k, [e, s, v, c], [d]⟩ => if k = 7 then some ⟨e, s, v, c, d⟩ else none
  | _ => none
/-- behind the two octets that tell a length -/
def decP2 (n : Nat) (t : List Int) : Pt × Int :=
  if 510 < n then (pt0, 5) else if (dec (t.take n)).2 ≠ 0 then (pt0, (dec (t.take n)).2) else if (dec (t.take n)).1.kind ≠ 7 then (pt0, 22) else
  match ofRec (dec (t.take n)).1 with
  | none => (pt0, 3)
  | some p => if ptE p ≠ 0 then (pt0, ptE p) else if ∃ x ∈ t.drop n, x ≠ 0 then (pt0, 23) else (p, 0)
def decP : List Int → Pt × Int
  | a :: b :: t => if t.length ≠ 510 then (pt0, 3) else decP2 (256 * a + b).toNat t
  | _ => (pt0, 3)
theorem imp_pt0 (e : Int) : Imp (.tup [.agg [.v (.int .i64 0), .v (.int .i64 0), .v (.int .i64 0), .v (.int .i64 0), .v (.slice none 0 0)], .v (.int .i64 e)]) (.tup [aPt true pt0, .v (.int .i64 e)]) :=
  Imp.tupL ⟨Imp.aggL ⟨Imp.refl _, Imp.refl _, Imp.refl _, Imp.refl _, Imp.nil true, trivial⟩, Imp.refl _, trivial⟩
abbrev pz : AV := .agg [.v (.int .i64 0), .v (.int .i64 0), .v (.int .i64 0), .v (.int .i64 0), .v (.slice none 0 0)]
theorem al_pz {p : Nat → Prop} (e : Int) : Al p (.tup [pz, .v (.int .i64 e)]) := ⟨⟨trivial, trivial, trivial, trivial, trivial, trivial⟩, trivial, trivial⟩
theorem sh8l {a : Int} (h : 0 ≤ a ∧ a < 256) : shVal .shl .i64 a 8 = some (.int .i64 (a * 256)) := by
  simp only [shVal, if_neg (show ¬ ((8 : Int) < 0) by decide)]
  congr 2
  show IntKind.i64.wrap (a * 256) = _
  rw [wrap64 (by omega)]
theorem or_8 {a b : Int} (ha : 0 ≤ a ∧ a < 256) (hb : 0 ≤ b ∧ b < 256) : IntKind.i64.wrap ((BitVec.ofInt IntKind.i64.bits (a * 256) ||| BitVec.ofInt IntKind.i64.bits b).toNat : Int) = 256 * a + b := by
  obtain ⟨x, rfl⟩ := Int.eq_ofNat_of_zero_le ha.1
  obtain ⟨y, rfl⟩ := Int.eq_ofNat_of_zero_le hb.1
  have h1 : (BitVec.ofInt IntKind.i64.bits ((x : Int) * 256) ||| BitVec.ofInt IntKind.i64.bits (y : Int)).toNat = x * 256 + y := by
    show (BitVec.ofInt 64 ((x : Int) * 256) ||| BitVec.ofInt 64 (y : Int)).toNat = _
    rw [BitVec.toNat_or, ofInt64, ofInt64, show (((x : Int) * 256) % 18446744073709551616).toNat = x * 2 ^ 8 from by omega, show ((y : Int) % 18446744073709551616).toNat = y from by omega]
    rw [← Nat.shiftLeft_eq, ← Nat.shiftLeft_add_eq_or_of_lt (show y < 2 ^ 8 by omega), Nat.shiftLeft_eq]
  rw [h1, wrap64 (by omega)]; omega
theorem ofRec_none {k : Int} {ns : List Int} {ts : List (List Int)} (h : ns.length ≠ 4 ∨ ts.length ≠ 1) : ofRec ⟨k, ns, ts⟩ = none := by
  unfold ofRec
  split
  · rename_i heq
    injection heq with h1 h2 h3
    subst h2; subst h3
    simp at h
  · rfl
theorem len4 {α : Type} {l : List α} (h : l.length = 4) : ∃ a b c d, l = [a, b, c, d] := by
  match l, h with
  | [a, b, c, d], _ => exact ⟨a, b, c, d, rfl⟩
theorem len1 {α : Type} {l : List α} (h : l.length = 1) : ∃ a, l = [a] := by
  match l, h with
  | [a], _ => exact ⟨a, rfl⟩
theorem le01 : ((0 : Int) ≤ 1) = True := eq_true (by decide)
theorem le02 : ((0 : Int) ≤ 2) = True := eq_true (by decide)
theorem decP_len {l : List Int} (h : l.length ≠ 512) : decP l = (pt0, 3) := by
  match l with
  | [] => rfl
  | [_] => rfl
  | a :: b :: t => rw [decP, if_pos (by simp at h; omega)]
set_option maxHeartbeats 4000000 in
theorem pdecode_spec (fr : Bool) (l : List Int) (nb : Nat) (hb : okB l) (hB : l.length ≤ 140737488355320) : ASound Tryz.prog 12 [fB fr l] nb (.ret (.tup [aPt true (decP l).1, .v (.int .i64 (decP l).2)]) []) := by
  refine ok_12.sound (by simp) ⟨al_fB l, trivial⟩ ?_
  by_cases h512 : l.length = 512
  · have e1 : ((l.length : Int) = 512) = True := eq_true (by omega)
    match l, h512 with
    | a :: b :: t, h512 =>
      have ht : t.length = 510 := by simp at h512; omega
      have ha := hb a (by simp)
      have hbb := hb b (by simp)
      have hbt : okB t := fun x hx => hb x (by simp [hx])
      have hd : decP (a :: b :: t) = decP2 (256 * a + b).toNat t := by rw [decP, if_neg (by rw [ht]; simp)]
      rw [hd]
      have wa : IntKind.i64.wrap a = a := wrap64 (by omega)
      have wb : IntKind.i64.wrap b = b := wrap64 (by omega)
      have w2 : IntKind.i64.wrap (2 + (256 * a + b)) = 2 + (256 * a + b) := wrap64 (by omega)
      obtain ⟨n, hn⟩ := Int.eq_ofNat_of_zero_le (show 0 ≤ 256 * a + b by omega)
      have or8 := or_8 ha hbb
      rw [hn] at or8 w2 ⊢
      rw [Int.toNat_natCast]
      have g0 : (eB (a :: b :: t))[Int.toNat 0]? = some (.v (.int .u8 a)) := rfl
      have g1 : (eB (a :: b :: t))[Int.toNat 1]? = some (.v (.int .u8 b)) := rfl
      have k0 : ((0 : Int) < ((a :: b :: t).length : Int)) = True := eq_true (by omega)
      have k1 : ((1 : Int) < ((a :: b :: t).length : Int)) = True := eq_true (by omega)
      have d2 : (eB (a :: b :: t)).drop (Int.toNat 2) = eB t := rfl
      have hlen : (a :: b :: t).length = 512 := h512
      have dn : (a :: b :: t).drop (n + 2) = t.drop n := rfl
      generalize hl : (a :: b :: t) = l at g0 g1 k0 k1 e1 d2 hlen dn
      by_cases h5 : 510 < n
      · have f5 : (512 : Int) < 2 + (n : Int) := by omega
        rw [decP2, if_pos h5]
        simp only [ac_12, e1, g0, g1, k0, k1, wa, wb, sh8l ha, or8, w2, le00, le01, f5, not_true_eq_false, TT, ↓reduceIte, Nat.reduceEqDiff, Nat.reduceAdd, Nat.reduceMul, reduceCtorEq, Nat.reduceLeDiff]
        refine ⟨by rfl, ?_⟩
        exact Ends.imp (r0 := .tup [pz, .v (.int .i64 5)]) (.inr rfl) (by simp [ET]) (al_pz 5) (imp_pt0 5)
      · have f5 : ¬ (512 : Int) < 2 + (n : Int) := by omega
        have cS : ((2 : Int) ≤ 2 + (n : Int) ∧ 2 + (n : Int) ≤ (l.length : Int)) = True := eq_true ⟨by omega, by omega⟩
        have cN : (2 + (n : Int)).toNat - Int.toNat 2 = n := by omega
        have hT : (t.take n).length = n := List.length_take_of_le (by omega)
        rw [decP2, if_neg h5]
        simp only [ac_12, e1, g0, g1, k0, k1, wa, wb, sh8l ha, or8, w2, le00, le01, le02, f5, d2, cS, cN, take_B, not_true_eq_false, TT, ↓reduceIte, Nat.reduceEqDiff, Nat.reduceAdd, Nat.reduceMul, reduceCtorEq, Nat.reduceLeDiff]
        refine ⟨by rfl, ?_⟩
        have hdec := decode_spec fr (t.take n) 
        rw [fB, hT] at hdec
        refine ⟨_, hdec _ (okB_take hbt n) (by omega), ?_⟩
        rcases hq : dec (t.take n) with ⟨r, e⟩
        simp only
        by_cases he : e = 0
        · subst he
          obtain ⟨k, ns, ts⟩ := r
          rw [if_neg (by simp)]
          simp only
          by_cases hk : k = 7
          · subst hk
            rw [if_neg (by simp)]
            by_cases hns : ns.length = 4
            · have fn : ((ns.length : Int) = 4) = True := eq_true (by omega)
              by_cases hts : ts.length = 1
              · have ft : ((ts.length : Int) = 1) = True := eq_true (by omega)
                obtain ⟨n0, n1, n2, n3, rfl⟩ := len4 hns
                obtain ⟨d, rfl⟩ := len1 hts
                have m4 : ([n0, n1, n2, n3] : List Int).length = 4 := rfl
                have m1 : ([d] : List (List Int)).length = 1 := rfl
                have z0 : (eI [n0, n1, n2, n3])[Int.toNat 0]? = some (.v (.int .i64 n0)) := rfl
                have z1 : (eI [n0, n1, n2, n3])[Int.toNat 1]? = some (.v (.int .i64 n1)) := rfl
                have z2 : (eI [n0, n1, n2, n3])[Int.toNat 2]? = some (.v (.int .i64 n2)) := rfl
                have z3 : (eI [n0, n1, n2, n3])[Int.toNat 3]? = some (.v (.int .i64 n3)) := rfl
                have zd : (eL true [d])[Int.toNat 0]? = some (.fs true (eB d) d.length) := rfl
                have y0 : ((0 : Int) < ((4 : Nat) : Int)) = True := eq_true (by decide)
                have y1 : ((1 : Int) < ((4 : Nat) : Int)) = True := eq_true (by decide)
                have y2 : ((2 : Int) < ((4 : Nat) : Int)) = True := eq_true (by decide)
                have y3 : ((3 : Int) < ((4 : Nat) : Int)) = True := eq_true (by decide)
                have yd : ((0 : Int) < ((1 : Nat) : Int)) = True := eq_true (by decide)
                have x3 : ((0 : Int) ≤ 3) = True := eq_true (by decide)
                have v4 : (((4 : Nat) : Int) = 4) = True := eq_true rfl
                have v1 : (((1 : Nat) : Int) = 1) = True := eq_true rfl
                have ho : ofRec ⟨7, [n0, n1, n2, n3], [d]⟩ = some ⟨n0, n1, n2, n3, d⟩ := rfl
                rw [ho]
                simp only
                have hpc := pcheck_spec true ⟨n0, n1, n2, n3, d⟩
                simp only [aPt, fB] at hpc
                simp only [m4, m1, z0, z1, z2, z3, zd, y0, y1, y2, y3, yd, x3, v4, v1, le00, le01, le02, not_true_eq_false, TT, ↓reduceIte, Nat.reduceEqDiff, Nat.reduceAdd, Nat.reduceMul, reduceCtorEq, Nat.reduceLeDiff]
                refine ⟨by rfl, ?_⟩
                refine ⟨_, hpc _, ?_⟩
                generalize hE : ptE ⟨n0, n1, n2, n3, d⟩ = E
                by_cases hE0 : E = 0
                · subst hE0
                  rw [if_neg (by simp)]
                  have cT : ((0 : Int) ≤ 2 + (n : Int) ∧ 2 + (n : Int) ≤ (l.length : Int)) = True := eq_true ⟨by omega, by omega⟩
                  have tN : (2 + (n : Int)).toNat = n + 2 := by omega
                  have hD : (t.drop n).length = l.length - (n + 2) := by rw [List.length_drop]; omega
                  have hDl : (t.drop n).length ≤ 140737488355328 := by rw [List.length_drop]; omega
                  have htr := trim_spec fr (t.drop n)
                  rw [fB, hD] at htr
                  have htk : List.take (l.length - (n + 2)) (eB (t.drop n)) = eB (t.drop n) := List.take_of_length_le (by rw [len_B, hD]; exact Nat.le_refl _)
                  simp only [cT, tN, drop_B, dn, htk, not_true_eq_false, TT, ↓reduceIte, Nat.reduceEqDiff, Nat.reduceAdd, Nat.reduceMul, reduceCtorEq, Nat.reduceLeDiff]
                  refine ⟨_, htr _ (by omega), ?_⟩
                  by_cases hz : ∃ x ∈ t.drop n, x ≠ 0
                  · have hp : (0 : Int) < ((trL (trR (t.drop n))).length : Int) := by
                      have : (trL (trR (t.drop n))).length ≠ 0 := fun h0 => by
                        obtain ⟨x, hx, hx0⟩ := hz
                        exact hx0 (trim_nil.1 h0 x hx)
                      omega
                    rw [if_pos hz]
                    simp only [hp, TT, ↓reduceIte, Nat.reduceEqDiff, Nat.reduceAdd, Nat.reduceMul, reduceCtorEq, Nat.reduceLeDiff]
                    exact Ends.imp (r0 := .tup [pz, .v (.int .i64 23)]) (.inr rfl) (by simp [ET]) (al_pz 23) (imp_pt0 23)
                  · have hp : ¬ (0 : Int) < ((trL (trR (t.drop n))).length : Int) := by
                      have : (trL (trR (t.drop n))).length = 0 := trim_nil.2 fun x hx => Classical.byContradiction fun hx0 => hz ⟨x, hx, hx0⟩
                      omega
                    rw [if_neg hz]
                    simp only [hp, TT, ↓reduceIte, Nat.reduceEqDiff, Nat.reduceAdd, Nat.reduceMul, reduceCtorEq, Nat.reduceLeDiff]
                    exact Ends.data (r := .tup [aPt true ⟨n0, n1, n2, n3, d⟩, .v (.int .i64 0)]) (.inr rfl) (by simp [ET, aPt, fB]) ⟨al_aPt _, trivial, trivial⟩
                · rw [if_pos hE0]
                  simp only [hE0, not_false_eq_true, TT, ↓reduceIte, Nat.reduceEqDiff, Nat.reduceAdd, Nat.reduceMul, reduceCtorEq, Nat.reduceLeDiff]
                  exact Ends.imp (r0 := .tup [pz, .v (.int .i64 E)]) (.inr rfl) (by simp [ET]) (al_pz E) (imp_pt0 E)
              · have ft : ¬ (ts.length : Int) = 1 := by omega
                rw [ofRec_none (.inr hts)]
                simp only [fn, ft, not_true_eq_false, not_false_eq_true, TT, ↓reduceIte, Nat.reduceEqDiff, Nat.reduceAdd, Nat.reduceMul, reduceCtorEq, Nat.reduceLeDiff]
                exact Ends.imp (r0 := .tup [pz, .v (.int .i64 3)]) (.inr rfl) (by simp [ET]) (al_pz 3) (imp_pt0 3)
            · have fn : ¬ (ns.length : Int) = 4 := by omega
              rw [ofRec_none (.inl hns)]
              simp only [fn, not_true_eq_false, not_false_eq_true, TT, ↓reduceIte, Nat.reduceEqDiff, Nat.reduceAdd, Nat.reduceMul, reduceCtorEq, Nat.reduceLeDiff]
              exact Ends.imp (r0 := .tup [pz, .v (.int .i64 3)]) (.inr rfl) (by simp [ET]) (al_pz 3) (imp_pt0 3)
          · rw [if_pos hk]
            simp only [hk, not_true_eq_false, not_false_eq_true, TT, ↓reduceIte, Nat.reduceEqDiff, Nat.reduceAdd, Nat.reduceMul, reduceCtorEq, Nat.reduceLeDiff]
            exact Ends.imp (r0 := .tup [pz, .v (.int .i64 22)]) (.inr rfl) (by simp [ET]) (al_pz 22) (imp_pt0 22)
        · rw [if_pos he]
          simp only [he, not_false_eq_true, TT, ↓reduceIte, Nat.reduceEqDiff, Nat.reduceAdd, Nat.reduceMul, reduceCtorEq, Nat.reduceLeDiff]
          exact Ends.imp (r0 := .tup [pz, .v (.int .i64 e)]) (.inr rfl) (by simp [ET]) (al_pz e) (imp_pt0 e)
  · have e1 : ¬ (l.length : Int) = 512 := by omega
    rw [decP_len h512]
    simp only [ac_12, e1, not_false_eq_true, TT, ↓reduceIte, Nat.reduceEqDiff, Nat.reduceAdd, Nat.reduceMul, reduceCtorEq, Nat.reduceLeDiff]
    exact Ends.imp (r0 := .tup [pz, .v (.int .i64 3)]) (.inr rfl) (by simp [ET]) (al_pz 3) (imp_pt0 3)
end Go.Proofs.YtdenddhdeloceaaGreatDoor
namespace Go.Proofs.YtdenddhdeloceaaGreatDoor
open Go.RowKit
set_option maxRecDepth 100000
end Go.Proofs.YtdenddhdeloceaaGreatDoor
namespace Go.Proofs.YtdenddhdeloceaaGreatDoor
open Go.RowKit
theorem scGrp_gp : ∀ (k m acc : Nat) (r : List Int), m * 128 ^ k < 18446744073709551616 → (0 < k → 0 < m) → k ≤ 9 → scGrp k acc (gp m ++ r) = (acc + m * 128 ^ k, 0, r) := by
  have key : ∀ (f k m acc : Nat) (r : List Int), m ≤ f → m * 128 ^ k < 18446744073709551616 → (0 < k → 0 < m) → k ≤ 9 → scGrp k acc (gp m ++ r) = (acc + m * 128 ^ k, 0, r) := by
    intro f
    induction f with
    | zero =>
      intro k m acc r hm h1 h2 h3
      obtain rfl : m = 0 := by omega
      have hk : ¬ 0 < k := fun h => by have := h2 h; omega
      obtain rfl : k = 0 := by omega
      rw [gp_small (by decide)]
      show scGrp 0 acc ((0 : Int) :: r) = _
      rw [scGrp, if_neg (by omega), if_pos (by omega)]
      simp
    | succ f ih =>
      intro k m acc r hm h1 h2 h3
      by_cases hs : m < 128
      · rw [gp_small hs]
        show scGrp k acc ((m : Int) :: r) = _
        have c1 : ¬ ((k = 9 ∧ (1 : Int) < (m : Int)) ∨ (0 < k ∧ (m : Int) = 0)) := by
          rintro (⟨rfl, h⟩ | ⟨h, h'⟩)
          · have : 2 ≤ m := by omega
            have : 2 * 128 ^ 9 ≤ m * 128 ^ 9 := Nat.mul_le_mul_right _ this
            have : (2 * 128 ^ 9 : Nat) = 18446744073709551616 := by decide
            omega
          · have := h2 h; omega
        rw [scGrp, if_neg c1, if_pos (by omega), pow7]
        rw [show ((m : Int) % 128).toNat = m from by omega]
      · rw [gp_big hs]
        have hk9 : k ≠ 9 := by
          rintro rfl
          have : 128 * 128 ^ 9 ≤ m * 128 ^ 9 := Nat.mul_le_mul_right _ (by omega)
          have : (128 * 128 ^ 9 : Nat) = 1180591620717411303424 := by decide
          omega
        rw [List.cons_append, scGrp, if_neg (by omega), if_neg (by omega), pow7]
        have hmd : m / 128 * 128 ^ (k + 1) ≤ m * 128 ^ k := by
          rw [Nat.pow_succ, Nat.mul_comm (128 ^ k) 128, ← Nat.mul_assoc]
          exact Nat.mul_le_mul_right _ (Nat.div_mul_le_self m 128)
        rw [ih (k + 1) (m / 128) _ r (by omega) (by omega) (by omega) (by omega)]
        have e1 : (((m % 128 + 128 : Nat) : Int) % 128).toNat = m % 128 := by omega
        rw [e1]
        congr 1
        rw [Nat.pow_succ, Nat.mul_comm (128 ^ k) 128, ← Nat.mul_assoc, Nat.add_assoc, ← Nat.add_mul]
        congr 2
        omega
  exact fun k m acc r h1 h2 h3 => key m k m acc r (Nat.le_refl _) h1 h2 h3
theorem unzz_zz (n : Int) : unzz (zz n) = n := by
  unfold unzz zz
  by_cases h : 0 ≤ n
  · rw [if_pos h, if_pos (by omega)]; omega
  · rw [if_neg h, if_neg (by omega)]; omega
theorem scGrp_0 {m : Nat} (h : m < 18446744073709551616) (r : List Int) : scGrp 0 0 (gp m ++ r) = (m, 0, r) := by
  rw [scGrp_gp 0 m 0 r (by simpa using h) (by omega) (by omega)]; simp
theorem scNum_gp {n : Int} (h : i64ok n) (r : List Int) : scNum (gp (zz n) ++ r) = (n, 0, r) := by
  unfold scNum; rw [scGrp_0 (zz_lt h)]; simp only [unzz_zz]
theorem scText_enc {t : List Int} (h : t.length ≤ 4096) (r : List Int) : scText (encT t ++ r) = (t, 0, r) := by
  unfold scText encT
  rw [List.append_assoc, scGrp_0 (by omega)]
  simp only
  rw [if_neg (by simp), if_neg (by omega), if_neg (by simp), List.take_left, List.drop_left]
theorem scMany_all {α : Type} {f : List Int → α × Int × List Int} {e : α → List Int} : ∀ (l : List α) (r : List Int), (∀ a ∈ l, ∀ r, f (e a ++ r) = (a, 0, r)) → scMany f l.length (l.flatMap e ++ r) = (l, 0, r)
  | [], r, _ => rfl
  | a :: l, r, h => by
    rw [List.length_cons, List.flatMap_cons, List.append_assoc, scMany, h a (by simp) _, if_neg (by simp)]
    simp only
    rw [scMany_all l r fun b hb => h b (by simp [hb])]
theorem scList_all {α : Type} {f : List Int → α × Int × List Int} {e : α → List Int} (l : List α) (r : List Int) (hl : l.length ≤ 64) (h : ∀ a ∈ l, ∀ r, f (e a ++ r) = (a, 0, r)) : scList f ((l.length : Int) :: (l.flatMap e ++ r)) = (l, 0, r) := by
  unfold scList scCnt scOct
  simp only
  rw [if_neg (by simp; omega), Int.toNat_natCast, scMany_all l r h]
theorem scRec_enc {r : Rec} (h : okR r) (hn : ∀ n ∈ r.nums, i64ok n) : scRec (encR r) = (r, 0) := by
  have hm := h.many
  unfold scRec encR
  simp only [List.cons_append, List.nil_append, scOct, ne_eq, not_true_eq_false, if_false]
  have h1 := scList_all (f := scNum) (e := fun n => gp (zz n)) r.nums ((r.texts.length : Int) :: r.texts.flatMap encT) (by omega) (fun n hn' r => scNum_gp (hn n hn') r)
  have h2 := scList_all (f := scText) (e := encT) r.texts [] (by omega) (fun t ht r => scText_enc (by have := h.short t ht; omega) r)
  rw [List.append_nil] at h2
  unfold scNums scTexts
  simp [h1, h2]
theorem low4_len (c : BitVec 32) : (low4 c).length = 4 := rfl
theorem open_seal (l : List Int) : openB (sealB l) = (l, 0) := by
  unfold openB sealB
  rw [List.length_append, low4_len, if_neg (by omega), show l.length + 4 - 4 = l.length from by omega, List.drop_left, List.take_left, if_pos rfl]
theorem dec_enc {r : Rec} (h : okR r) (hn : ∀ n ∈ r.nums, i64ok n) : dec (sealB (encR r)) = (r, 0) := by
  unfold dec
  rw [open_seal, if_neg (by simp)]
  exact scRec_enc h hn
theorem okR_P {p : Pt} (h : okP p) : okR (recP p) := (okR_iff _).1 (recE_P h)
/-- the sealed record of a point -/
def sealP (p : Pt) : List Int := sealB (encR (recP p))
theorem encP_eq {p : Pt} (h : okP p) : ∃ t : List Int, (encP p).1 = (((sealP p).length / 256 : Nat) : Int) :: (((sealP p).length % 256 : Nat) : Int) :: (sealP p ++ t) ∧ (sealP p ++ t).length = 510 ∧ (∀ x ∈ t, x = 0) ∧ (sealP p).length ≤ 457 := by
  have hl := sealP_le h
  refine ⟨List.replicate (512 - (bodyP p).length) 0, ?_, ?_, ?_, hl⟩
  · rw [encP, if_pos ((okP_iff p).2 h)]
    show pad 512 (bodyP p) = _
    unfold pad bodyP joinT
    unfold sealP
    simp only [List.cons_append, List.nil_append]
    rw [Nat.mod_eq_of_lt (a := (sealB (encR (recP p))).length / 256) (by omega)]
  · have := bodyP_le h
    have h2 : (bodyP p).length = (sealP p).length + 2 := by unfold bodyP joinT sealP; simp
    rw [List.length_append, List.length_replicate]; omega
  · intro x hx; exact List.eq_of_mem_replicate hx
theorem decP_seal {p : Pt} (h : okP p) {a b : Int} {t : List Int} (ha : (256 * a + b).toNat = (sealP p).length) (hl : (sealP p ++ t).length = 510) (hz : ∀ x ∈ t, x = 0) : decP (a :: b :: (sealP p ++ t)) = (p, 0) := by
  rw [decP, if_neg (by omega), ha]
  unfold decP2
  have h2 := sealP_le h
  rw [if_neg (by unfold sealP; omega), List.take_left, List.drop_left]
  have hd : dec (sealP p) = (recP p, 0) := dec_enc (okR_P h) (nums64 h)
  rw [hd]
  simp only [ne_eq, not_true_eq_false, if_false]
  rw [if_neg (show ¬ ((recP p).kind = 7 → False) from fun h => h rfl)]
  have ho : ofRec (recP p) = some p := rfl
  rw [ho]
  simp only
  rw [if_neg (fun h9 => h9 ((okP_iff p).2 h)), if_neg]
  rintro ⟨x, hx, h9⟩
  exact h9 (hz x hx)
/-- a point is read back -/
theorem decP_encP {p : Pt} (h : okP p) : decP (encP p).1 = (p, 0) := by
  obtain ⟨t, e1, e2, e3, e4⟩ := encP_eq h
  rw [e1]
  exact decP_seal h (by omega) e2 e3
end Go.Proofs.YtdenddhdeloceaaGreatDoor
namespace Go.Proofs.YtdenddhdeloceaaGreatDoor
open Go.RowKit
variable {P : Program} {N m : Nat}
/-- what nobody writes lies asg it lay -/
def Kc (c : Cx) (A B : World) : Prop := ∀ b, b < c.w.heap.size → ¬ c.T b → (c.X b → c.Y b = .no) → B.heap[b]? = A.heap[b]?
/-- Function gf, with such captured values, yields what L says, in order, until it is told to stop. -/
def IterA (P : Program) (gf : Nat) (caps : List AV) (L : List (List AV)) : Prop :=
  enters P gf = true ∧ ∀ (c : Cx) (lb : List Value), HR c → VRt c caps lb → ∃ V : _root_.Fin L.length → List Value, (∀ i, VRt c L[i] (V i)) ∧
    SeqStopsK Fence.wide 2 P gf lb.toArray (fun i => (V i).toArray) (Kc c) (fun xs => xs = List.finRange L.length) (fun pre => ∃ k, k < L.length ∧ pre = (List.finRange L.length).take (k + 1)) L.length c.w
def bindP : List Nat → List AV → (Nat → AV) → (Nat → AV)
  | p :: ps, x :: xs, env => bindP ps xs (putE env (some p) x)
  | _, _, env => env
def mvE : List (Nat × Operand) → (Nat → AV) → (Nat → AV)
  | [], env => env
  | (d, x) :: r, env => mvE r (putE env (some d) (evA env x))
def mvAct : List (Nat × Operand) → Act → Act
  | [], a => a
  | (d, x) :: r, a => mvAct r (a.put (some d) (a.eval x))
theorem RelR.set {nx : Nat} {done : Nat → Prop} {c : Cx} {st : ASt} {a : Act} (h : RelR N nx done c st a) {d : Nat} (hd : d < N) {x : AV} {v : Value} (hv : VR c x v) : RelR N nx done c ⟨putE st.env (some d) x, st.σ, st.nx⟩ (a.put (some d) v) := by
  refine ⟨by simp [Act.put, h.size], fun t => ?_, h.hr, h.σ, h.fresh⟩
  simp only [putE, Act.put]
  by_cases e : t = d
  · subst e
    rw [if_pos rfl]
    have : (a.tmps.setIfInBounds t v).getD t undef = v := by simp [h.size, hd]
    rw [this]; exact hv
  · rw [if_neg e]
    have : (a.tmps.setIfInBounds d v).getD t undef = a.tmps.getD t undef := by simp [Array.getElem?_setIfInBounds_ne (Ne.symm e)]
    rw [this]; exact h.env t
theorem RelR.mvs {nx : Nat} {done : Nat → Prop} {c : Cx} : ∀ {mv : List (Nat × Operand)} {st : ASt} {a : Act}, RelR N nx done c st a → (∀ q ∈ mv, q.1 < N) → RelR N nx done c ⟨mvE mv st.env, st.σ, st.nx⟩ (mvAct mv a)
  | [], st, a, h, _ => h
  | (d, x) :: r, st, a, h, hq => RelR.mvs (mv := r) (st := ⟨putE st.env (some d) (evA st.env x), st.σ, st.nx⟩) (h.set (hq (d, x) (by simp)) (h.eval x)) (fun q hq' => hq q (by simp [hq']))
theorem RelR.binds {nx : Nat} {done : Nat → Prop} {c : Cx} : ∀ {ps : List Nat} {l : List AV} {vs : List Value} {st : ASt} {a : Act}, RelR N nx done c st a → (∀ p ∈ ps, p < N) → VRt c l vs →
    RelR N nx done c ⟨bindP ps l st.env, st.σ, st.nx⟩ { a with tmps := (ps.zip vs).foldl (fun t q => t.setIfInBounds q.1 q.2) a.tmps }
  | [], l, vs, st, a, h, _, _ => by cases l <;> exact h
  | p :: ps, [], vs, st, a, h, _, hv => by rw [VRt] at hv; subst hv; exact h
  | p :: ps, x :: l, vs, st, a, h, hp, hv => by
    rw [VRt] at hv
    obtain ⟨u, us, rfl, h1, h2⟩ := hv
    exact RelR.binds (st := ⟨putE st.env (some p) x, st.σ, st.nx⟩) (a := a.put (some p) u) (h.set (hp p (by simp)) h1) (fun q hq => hp q (by simp [hq])) h2
theorem mvOps_wp {ro : Option Nat} {n : Nat} {ops : Array Oper} {Q : Exit → Act → World → Prop} : ∀ {l : List Oper} {mv : List (Nat × Operand)} {k : Nat} {a : Act} {W : World}, mvOps l = some mv → (∀ (j : Nat) o, l[j]? = some o → ops[k + j]? = some o) → Q .normal (mvAct mv a) W →
    wpOpsIn (FR ro) n P ops Q (List.range' k l.length) a W
  | [], mv, k, a, W, h, _, hq => by
    simp [mvOps] at h; subst h
    simpa [wpOpsIn, mvAct] using hq
  | o :: r, mv, k, a, W, h, hl, hq => by
    rw [List.length_cons, List.range'_succ, wpOpsIn_cons]
    have h0 := hl 0 o rfl
    rw [Nat.add_zero] at h0
    rw [mvOps] at h
    have go : ∀ (x : Operand) (d : Nat) (mv' : List (Nat × Operand)), o.guard = none → o.dst = some d → (∀ c, o.op ≠ .defer c) → (∀ W, (execOp a.eval o).run P W = .ok (.value (a.eval x)) W) → mvOps r = some mv' → mv = (d, x) :: mv' →
        wpOpIn (FR ro) n P ops Q k (wpOpsIn (FR ro) n P ops Q (List.range' (k + 1) r.length)) a W := by
      intro x d mv' hg hd hnd hrun hm e
      subst e
      unfold wpOpIn
      rw [h0]
      simp only
      rw [if_pos (by simp [Region.wanted, hg])]
      refine ⟨fun _ _ => trivial, ?_⟩
      rw [Oper.semAt_eq _ _ _ hnd, hrun, Oper.uponIn_value, hd]
      exact mvOps_wp hm (fun j o' hj => by have := hl (j + 1) o' (by simpa using hj); rwa [Nat.add_assoc, Nat.add_comm 1 j]) hq
    split at h
    · rename_i x d e1 e2 e3
      split at h
      · rename_i mv' hm
        cases h
        exact go x d mv' e3 e2 (by rw [e1]; intro c hc; cases hc) (fun W => by simp [execOp, e1]) hm rfl
      · cases h
    · rename_i x d e1 e2 e3
      split at h
      · rename_i mv' hm
        cases h
        exact go x d mv' e3 e2 (by rw [e1]; intro c hc; cases hc) (fun W => by simp [execOp, e1]) hm rfl
      · cases h
    · cases h
theorem mv_wp {ro : Option Nat} {n : Nat} : ∀ {asg : Code} {mv : List (Nat × Operand)} {a : Act} {W : World} {Q : Exit → Act → World → Prop}, compMv asg = some mv → Q .normal (mvAct mv a) W → asg.wpIn (FR ro) n P Q a W
  | .skip, mv, a, W, Q, h, hk => by simp [compMv] at h; subst h; exact wpIn_skip hk
  | .region id ops draw, mv, a, W, Q, h, hk => by
    rw [compMv] at h
    split at h
    · cases h
    · rename_i hd
      have hd : draw = false := by simpa using hd
      subst hd
      refine wpIn_region ?_
      have := mvOps_wp (ro := ro) (n := n) (P := P) (ops := ops) (Q := Q) (k := 0) (a := a) (W := W) h (fun j o hj => by simpa using hj) hk
      rw [List.range_eq_range']
      simpa using this
  | .seq x y, mv, a, W, Q, h, hk => by
    rw [compMv] at h
    split at h
    · rename_i l hl
      split at h
      · rename_i r hr
        cases h
        have happ : ∀ (l r : List (Nat × Operand)) (a : Act), mvAct (l ++ r) a = mvAct r (mvAct l a) := by
          intro l
          induction l with
          | nil => intro r a; rfl
          | cons q l ih => intro r a; exact ih r _
        rw [happ] at hk
        exact wpIn_seq (mv_wp hl (mv_wp (Q := Q) hr hk))
      · cases h
    · cases h
/-- how a round may end -/
def rngK (N m1 : Nat) {α : Type} (F : List α → Heap × Nat) (X : Exit → List α → Heap → Nat → Prop) (xs : List α) : Exit → ASt → Prop
  | .normal, s => Weak N m1 s ⟨fun _ => .any, (F xs).1, (F xs).2⟩
  | .ret, s => X .ret xs s.σ s.nx
  | .exit id, s => X (.exit id) xs s.σ s.nx
  | _, _ => False
theorem Grow.reYback {c d : Cx} {Y : Nat → WK} (hY : ∀ b, Y b = c.Y b ∨ (Y b = .no ∧ ∀ cs e f, c.w.heap[b]? ≠ some (.cells cs e f))) (g : Grow (c.reY Y) d) : Grow c (d.reY c.Y) := by
  refine ⟨g.X, g.B, g.out, g.osE, g.tape, g.size, fun b hb ht hy => ?_, g.held, g.shape, rfl, fun b k sz h1 h2 h3 h4 h5 => ?_⟩
  · refine g.stay b hb ht (fun hx => ?_)
    rcases hY b with h | ⟨h, _⟩
    · show Y b = .no; rw [h]; exact hy hx
    · exact h
  · refine g.wild b k sz h1 h2 ?_ h4 h5
    rcases hY b with h | ⟨_, h⟩
    · show Y b = k; rw [h]; exact h3
    · obtain ⟨cs, e, h6, _⟩ := h5
      exact absurd h6 (h _ _ _)
theorem AWc.range {g : Operand} {ps : List Nat} {mv : List (Nat × Operand)} {b : AC} {st : ASt} {Q : Exit → ASt → Prop} {gf : Nat} {caps : List AV} {L : List (List AV)} (m1 : Nat) (hm : m ≤ m1)
    (hg : evA st.env g = .fn gf caps) (hI : IterA P gf caps L) (hfl : b.flat = true)
    (hLp : ∀ l ∈ L, AlNL (fun i => i < m1) l ∧ l.length = ps.length) (hlow : ∀ t, AlN (fun i => i < m1) (st.env t))
    (F : List (_root_.Fin L.length) → Heap × Nat) (hF0 : F [] = (st.σ, st.nx)) (hFn : ∀ pre, m1 ≤ (F pre).2)
    (X : Exit → List (_root_.Fin L.length) → Heap → Nat → Prop)
    (hbody : ∀ (pre : List (_root_.Fin L.length)) (i : _root_.Fin L.length), pre.length < L.length → wpC P N m1 b ⟨mvE mv (bindP ps L[i] st.env), (F pre).1, (F pre).2⟩ (rngK N m1 F X (pre ++ [i])))
    (hdone : Q .normal ⟨st.env, (F (List.finRange L.length)).1, (F (List.finRange L.length)).2⟩)
    (hstop : ∀ (k : Nat) (e : Exit) (σ : Heap) (nx : Nat), k < L.length → X e ((List.finRange L.length).take (k + 1)) σ nx → Q e ⟨st.env, σ, nx⟩) : AWc P N m (.rfunc g ps mv b) st Q := by
  intro code hc ro hro
  have hro : ro = none := hro.resolve_right (by simp [AC.flat])
  subst hro
  obtain ⟨pa, asg, x, rfl, rfl, hmv, hx, hps, hmvN⟩ := comp_rfunc hc
  intro n c a hr hmn
  have hv := hr.eval g
  rw [hg] at hv
  obtain ⟨lb, hgu, hlb⟩ := hv
  obtain ⟨hent, hI⟩ := hI
  obtain ⟨V, hV, hseq⟩ := hI c lb hr.hr hlb
  show (Code.rangeFunc g pa asg x).wpIn Fence.wide n P _ a c.w
  rw [wpIn_wide, ← wpIn_wide (n := 3)]
  have hVl : ∀ i, (V i).length = pa.size := fun i => by
    rw [(VRt_iff.1 (hV i)).1, (hLp L[i] (by exact List.getElem_mem _)).2]; simp
  have envs : ∀ {c' : Cx} {σ : Heap} {nx : Nat}, Grow c c' → (∀ id, id < m1 → c'.φ id = c.φ id) → HR c' → c'.σ = σ → (∀ id, nx ≤ id → c'.φ id = none) → RelR N nx No c' ⟨st.env, σ, nx⟩ a := by
    intro c' σ nx hgr hl hh hs hf
    exact ⟨hr.size, fun t => (hr.env t).monoP (p := fun i => i < m1) hgr (fun id y h1 h2 => by rw [hl id h1]; exact h2) (hlow t), hh, hs, fun id h1 h2 => absurd (hf id h1) h2⟩
  have fresh' : ∀ {nx : Nat} {c' : Cx} {s : ASt} {a' : Act}, RelR N nx No c' s a' → ∀ id, nx ≤ id → c'.φ id = none := by
    intro nx c' s a' h id hid
    cases hq : c'.φ id with
    | none => rfl
    | some y => obtain ⟨j, hj, _⟩ := h.fresh id hid (by rw [hq]; simp); exact hj.elim
  refine wpIn_rangeFunc_ownF (F := Fence.wide) (n := 3) rfl (by decide) hgu trivial (fun args w => run_callFunc hent args w) hseq (fun h k b h1 h2 h3 => (k b h1 h2 h3).trans (h b h1 h2 h3))
    (fun W l o o' hl _ _ _ b h1 _ _ => World.putObj_heap_other (by omega)) (Below.refl _ _) (fun i => by simp [hVl i])
    (fun pre W => ∃ c', c'.w = W ∧ Grow c c' ∧ (∀ id, id < m1 → c'.φ id = c.φ id) ∧ RelR N (F pre).2 No c' ⟨st.env, (F pre).1, (F pre).2⟩ a)
    (fun cd pre W => ∃ (e : Exit) (σ : Heap) (nx : Nat) (c' : Cx), ((cd = .ret ∧ e = .ret) ∨ ∃ id, cd = .exit id ∧ e = .exit id) ∧ c'.w = W ∧ Grow c c' ∧ (∀ id, id < m1 → c'.φ id = c.φ id) ∧ RelR N nx No c' ⟨st.env, σ, nx⟩ a ∧ m1 ≤ nx ∧ X e pre σ nx)
    ?_ ?_ ⟨c, rfl, Grow.refl c, fun _ _ => rfl, by rw [hF0]; exact hr⟩ (fun i => mvAct mv { tmps := (pa.zip (V i).toArray).foldl (fun t q => t.setIfInBounds q.1 q.2) a.tmps, defers := [] }) ?_ ?_ ?_ ?_
  · rintro pre W W' row ⟨c', rfl, h1, h2, h3⟩ hgr hrow
    have hs : Side c.w.heap.size c' W' := Side.grown hgr hrow
    exact ⟨c'.at W', rfl, h1.side hs (Nat.le_refl _), h2, h3.side hs⟩
  · rintro cd pre W W' row ⟨e, σ, nx, c', h0, rfl, h1, h2, h3, h4, h5⟩ hgr hrow
    have hs : Side c.w.heap.size c' W' := Side.grown hgr hrow
    exact ⟨e, σ, nx, c'.at W', h0, rfl, h1.side hs (Nat.le_refl _), h2, h3.side hs, h4, h5⟩
  · intro l i W K hK
    exact mv_wp (ro := some l) (Q := Exit.then K (fun _ _ _ => False)) hmv hK
  · rintro l pre i W ⟨c', rfl, h1, h2, h3⟩ hlen
    classical
    obtain ⟨Y, hY⟩ : ∃ Y : Nat → WK, ∀ b, Y b = if ∃ cs e f, c'.w.heap[b]? = some (.cells cs e f) then c'.Y b else .no := ⟨_, fun b => rfl⟩
    have hY1 : ∀ b, Y b = c'.Y b ∨ (Y b = .no ∧ ∀ cs e f, c'.w.heap[b]? ≠ some (.cells cs e f)) := fun b => by
      rw [hY b]
      split
      · exact .inl rfl
      · rename_i h; exact .inr ⟨rfl, fun cs e f h9 => h ⟨cs, e, f, h9⟩⟩
    have hwok : ∀ k b n, c'.wok k b n → (c'.reY Y).wok k b n := by
      rintro k b n ⟨k1, k2, k3, k4, sz, ⟨cs, e, k5, k6⟩, k7⟩
      refine ⟨k1, k2, ?_, k4, sz, ⟨cs, e, k5, k6⟩, k7⟩
      rcases hY1 b with h | ⟨_, h⟩
      · show Y b = k; rw [h]; exact k3
      · exact absurd k5 (h _ _ _)
    have hno : ∀ b, c'.Y b = .no → Y b = .no := fun b h => by
      rcases hY1 b with h9 | ⟨h9, _⟩
      · rw [h9, h]
      · exact h9
    have hr1 : RelR N (F pre).2 No (c'.reY Y) ⟨st.env, (F pre).1, (F pre).2⟩ { tmps := a.tmps, defers := [] } :=
      ⟨h3.size, fun t => (h3.env t).reY hwok, h3.hr.reY (fun b v hb hx => hno b ((h3.hr.gl b v hb).2.2 hx)) hwok, h3.σ, h3.fresh⟩
    have hV2 : VRt (c'.reY Y) L[i] (V i) := ((hV i).monoP (p := fun i => i < m1) h1 (fun id y q1 q2 => by rw [h2 id q1]; exact q2) (hLp L[i] (by exact List.getElem_mem _)).1).reY hwok
    have hr2 := (hr1.binds hps hV2).mvs hmvN
    have hz : (pa.zip (V i).toArray).foldl (fun t q => t.setIfInBounds q.1 q.2) a.tmps = (pa.toList.zip (V i)).foldl (fun t q => t.setIfInBounds q.1 q.2) a.tmps := by
      rw [← Array.foldl_toList, Array.toList_zip]
    have hb := wpC_sound (hbody pre i hlen) x hx (some l) (.inr hfl) 1 (c'.reY Y) _ hr2 (hFn pre)
    rw [hz]
    refine wpIn_mono hb ?_
    have fin : ∀ {c3 : Cx} {s3 : ASt} {a3 : Act}, Grow (c'.reY Y) c3 → (∀ id, id < m1 → c3.φ id = (c'.reY Y).φ id) → RelR N s3.nx No c3 s3 a3 →
        KeepsOthers c'.w c3.w ∧ Kc c c'.w c3.w ∧ Grow c (c3.reY c'.Y) ∧ (∀ id, id < m1 → (c3.reY c'.Y).φ id = c.φ id) ∧ RelR N s3.nx No (c3.reY c'.Y) ⟨st.env, s3.σ, s3.nx⟩ a := by
      intro c3 s3 a3 hg3 hl3 hr3
      have hgg : Grow c (c3.reY c'.Y) := h1.trans (hg3.reYback hY1)
      have hll : ∀ id, id < m1 → (c3.reY c'.Y).φ id = c.φ id := fun id hid => (hl3 id hid).trans (h2 id hid)
      have hY3 : c3.Y = Y := hg3.Y
      have hh : HR (c3.reY c'.Y) := hr3.hr.reY (fun b v hb hx => (h3.hr.gl b v hb).2.2 (by rw [hg3.X] at hx; exact hx)) (by
        rintro k b n ⟨k1, k2, k3, k4, k5⟩
        refine ⟨k1, k2, ?_, k4, k5⟩
        rw [hY3] at k3
        rcases hY1 b with h | ⟨h, _⟩
        · show c'.Y b = k; rw [← h]; exact k3
        · rw [h] at k3; subst k3; rcases k4 with k4 | k4 <;> cases k4)
      refine ⟨⟨hg3.size, fun k o hk ho => ?_⟩, fun b q1 q2 q3 => ?_, hgg, hll, envs hgg hll hh hr3.σ (fun id hid => fresh' hr3 id hid)⟩
      · refine (hg3.stay k (Array.getElem?_eq_some_iff.1 hk).1 (fun ht => ?_) (fun _ => ?_)).trans hk
        · obtain ⟨cs, e, f, h9⟩ := h3.hr.T_cells ht
          rw [hk] at h9; cases h9; cases ho
        · show Y k = .no
          rw [hY k, if_neg]
          rintro ⟨cs, e, f, h9⟩
          rw [hk] at h9; cases h9; cases ho
      · refine hg3.stay b (Nat.lt_of_lt_of_le q1 h1.size) (fun ht => ?_) (fun hx => ?_)
        · rcases h1.held b ht with h9 | h9
          · exact q2 h9
          · omega
        · refine hno b ?_
          rw [h1.Y]; exact q3 (by rw [← h1.X]; exact hx)
    rintro e a' w' ⟨c2, s2, rfl, ga, low2, rel2, hm2, hq⟩
    cases e with
    | normal =>
      obtain ⟨c3, w3, g3, low3, rel3, hm3⟩ := hq c2 a' rel2 hm2
      obtain ⟨k1, k2, k3, k4, k5⟩ := fin (ga.g.trans g3) (fun id hid => (low3 id hid).trans (low2 id hid)) rel3
      rw [w3] at k1 k2
      exact ⟨k1, k2, c3.reY c'.Y, w3, k3, k4, k5⟩
    | ret =>
      obtain ⟨k1, k2, k3, k4, k5⟩ := fin ga.g low2 rel2
      exact ⟨k1, .ret, s2.σ, s2.nx, c2.reY c'.Y, .inl ⟨rfl, rfl⟩, rfl, k3, k4, k5, hm2, hq⟩
    | exit id =>
      obtain ⟨k1, k2, k3, k4, k5⟩ := fin ga.g low2 rel2
      exact ⟨k1, .exit id, s2.σ, s2.nx, c2.reY c'.Y, .inr ⟨id, rfl, rfl⟩, rfl, k3, k4, k5, hm2, hq⟩
    | _ => exact hq.elim
  · rintro D xs W hD rfl ⟨c', rfl, h1, h2, h3⟩ hdd
    exact ⟨c', _, rfl, ⟨h1, [{ target := .collected D, args := #[] }], rfl, by simp, fun d hd => by rw [List.mem_singleton] at hd; exact ⟨D, hd, hD, hdd⟩⟩, fun id hid => h2 id (Nat.lt_of_lt_of_le hid hm), ⟨h3.size, h3.env, h3.hr, h3.σ, h3.fresh⟩, Nat.le_trans hm (hFn _), hdone⟩
  · rintro D cd pre W hD ⟨k, hk, rfl⟩ ⟨e, σ, nx, c', h0, rfl, h1, h2, h3, h4, h5⟩ hdd
    have key : ∃ c'' st', c''.w = c'.w ∧ GoA c a c'' { a with defers := { target := .collected D, args := #[] } :: a.defers } ∧ (∀ id, id < m → c''.φ id = c.φ id) ∧ RelR N st'.nx No c'' st' { a with defers := { target := .collected D, args := #[] } :: a.defers } ∧ m ≤ st'.nx ∧ Q e st' :=
      ⟨c', ⟨st.env, σ, nx⟩, rfl, ⟨h1, [{ target := .collected D, args := #[] }], rfl, by simp, fun d hd => by rw [List.mem_singleton] at hd; exact ⟨D, hd, hD, hdd⟩⟩, fun id hid => h2 id (Nat.lt_of_lt_of_le hid hm), ⟨h3.size, h3.env, h3.hr, h3.σ, h3.fresh⟩, Nat.le_trans hm h4, hstop k e σ nx hk h5⟩
    rcases h0 with ⟨rfl, rfl⟩ | ⟨id, rfl, rfl⟩
    · exact wpIn_ret key
    · exact wpIn_exit key
theorem RelR.envs {c c' : Cx} {env : Nat → AV} {σ0 σ : Heap} {nx0 nx m1 : Nat} {a : Act} (hr : RelR N nx0 No c ⟨env, σ0, nx0⟩ a) (hlow : ∀ t, AlN (fun i => i < m1) (env t)) (hgr : Grow c c') (hl : ∀ id, id < m1 → c'.φ id = c.φ id) (hh : HR c') (hs : c'.σ = σ) (hf : ∀ id, nx ≤ id → c'.φ id = none) :
    RelR N nx No c' ⟨env, σ, nx⟩ a :=
  ⟨hr.size, fun t => (hr.env t).monoP (p := fun i => i < m1) hgr (fun id y h1 h2 => by rw [hl id h1]; exact h2) (hlow t), hh, hs, fun id h1 h2 => absurd (hf id h1) h2⟩
theorem RelR.none {nx : Nat} {c' : Cx} {s : ASt} {a' : Act} (h : RelR N nx No c' s a') : ∀ id, nx ≤ id → c'.φ id = none := by
  intro id hid
  cases hq : c'.φ id with
  | none => rfl
  | some y => obtain ⟨j, hj, _⟩ := h.fresh id hid (by rw [hq]; simp); exact hj.elim
/-- how what is ahead of the body may end -/
def asgK (N m1 : Nat) (s1 s0 : ASt) : Exit → ASt → Prop
  | .normal, s => Weak N m1 s s1 ∧ Weak N m1 s1 ⟨fun _ => .any, s0.σ, s0.nx⟩
  | _, _ => False
/-- how a round may end that leaves memory asg it was -/
def rngC (N m1 : Nat) (s0 : ASt) (ok : Prop) (X : Exit → Heap → Nat → Prop) : Exit → ASt → Prop
  | .normal, s => ok ∧ Weak N m1 s ⟨fun _ => .any, s0.σ, s0.nx⟩
  | .ret, s => X .ret s.σ s.nx
  | .exit id, s => X (.exit id) s.σ s.nx
  | _, _ => False
theorem keeps_from {c c1 c3 : Cx} (h0 : HR c) (h1 : Grow c c1) (hh : HR c1) (g : Grow c1 c3) : KeepsFrom c.w.heap.size c1.w c3.w ∧ Kc c c1.w c3.w := by
  refine ⟨⟨g.size, fun k o hB hk ho => ?_⟩, fun b q1 q2 q3 => ?_⟩
  · refine (g.stay k (Array.getElem?_eq_some_iff.1 hk).1 (fun ht => ?_) (fun hx => ?_)).trans hk
    · obtain ⟨cs, e, f, h9⟩ := hh.T_cells ht
      rw [hk] at h9; cases h9; cases ho
    · rw [h1.X] at hx
      have := h0.xlt k hx; omega
  · refine g.stay b (Nat.lt_of_lt_of_le q1 h1.size) (fun ht => ?_) (fun hx => ?_)
    · rcases h1.held b ht with h9 | h9
      · exact q2 h9
      · omega
    · rw [h1.Y]; exact q3 (by rw [← h1.X]; exact hx)
/-- a range whose rounds leave memory asg it was; what is ahead of the body may lay rows of the round's own -/
theorem AWc.rangeC {g : Operand} {ps : List Nat} {asg b : AC} {st : ASt} {Q : Exit → ASt → Prop} {gf : Nat} {caps : List AV} {L : List (List AV)} (m1 : Nat) (hm : m ≤ m1) (hnx : m1 ≤ st.nx)
    (hg : evA st.env g = .fn gf caps) (hI : IterA P gf caps L) (hfa : asg.flat = true) (hfl : b.flat = true)
    (hLp : ∀ l ∈ L, AlNL (fun i => i < m1) l ∧ l.length = ps.length) (hlow : ∀ t, AlN (fun i => i < m1) (st.env t))
    (SA : _root_.Fin L.length → ASt) (hSn : ∀ i, m1 ≤ (SA i).nx)
    (X : Exit → _root_.Fin L.length → Heap → Nat → Prop) (ok : _root_.Fin L.length → Prop)
    (hasg : ∀ i : _root_.Fin L.length, wpC P N m1 asg ⟨bindP ps L[i] st.env, st.σ, st.nx⟩ (asgK N m1 (SA i) st))
    (hbody : ∀ i : _root_.Fin L.length, wpC P N m1 b (SA i) (rngC N m1 st (ok i) (fun e σ nx => X e i σ nx)))
    (hdone : (∀ i, ok i) → Q .normal st)
    (hstop : ∀ (k : _root_.Fin L.length) (e : Exit) (σ : Heap) (nx : Nat), (∀ i, i < k → ok i) → X e k σ nx → Q e ⟨st.env, σ, nx⟩) : AWc P N m (.rfuncC g ps asg b) st Q := by
  intro code hc ro hro
  have hro : ro = none := hro.resolve_right (by simp [AC.flat])
  subst hro
  obtain ⟨pa, asc, x, rfl, rfl, has, hx, hps⟩ := comp_rfuncC hc
  intro n c a hr hmn
  have hv := hr.eval g
  rw [hg] at hv
  obtain ⟨lb, hgu, hlb⟩ := hv
  obtain ⟨hent, hI⟩ := hI
  obtain ⟨V, hV, hseq⟩ := hI c lb hr.hr hlb
  show (Code.rangeFunc g pa asc x).wpIn Fence.wide n P _ a c.w
  rw [wpIn_wide, ← wpIn_wide (n := 3)]
  have hVl : ∀ i, (V i).length = pa.size := fun i => by
    rw [(VRt_iff.1 (hV i)).1, (hLp L[i] (by exact List.getElem_mem _)).2]; simp
  refine wpIn_rangeFunc_ownH (F := Fence.wide) (n := 3) rfl (by decide) hgu trivial (fun args w => run_callFunc hent args w) hseq (fun h k b h1 h2 h3 => (k b h1 h2 h3).trans (h b h1 h2 h3))
    (fun W l o o' hl _ _ _ b h1 _ _ => World.putObj_heap_other (by omega)) (Below.refl _ _) (fun i => by simp [hVl i])
    (fun pre W => (∀ i ∈ pre, ok i) ∧ ∃ c', c'.w = W ∧ Grow c c' ∧ (∀ id, id < m1 → c'.φ id = c.φ id) ∧ RelR N st.nx No c' ⟨st.env, st.σ, st.nx⟩ a)
    (fun cd pre W => ∃ (pre' : List (_root_.Fin L.length)) (i : _root_.Fin L.length) (e : Exit) (σ : Heap) (nx : Nat) (c' : Cx), pre = pre' ++ [i] ∧ (∀ j ∈ pre', ok j) ∧ ((cd = .ret ∧ e = .ret) ∨ ∃ id, cd = .exit id ∧ e = .exit id) ∧ c'.w = W ∧ Grow c c' ∧ (∀ id, id < m1 → c'.φ id = c.φ id) ∧ RelR N nx No c' ⟨st.env, σ, nx⟩ a ∧ m1 ≤ nx ∧ X e i σ nx)
    ?_ ?_ ⟨by simp, c, rfl, Grow.refl c, fun _ _ => rfl, hr⟩ (fun i a' W => ∃ c', c'.w = W ∧ Grow c c' ∧ (∀ id, id < m1 → c'.φ id = c.φ id) ∧ RelR N (SA i).nx No c' (SA i) a') ?_ ?_ ?_ ?_ ?_
  · rintro pre W W' row ⟨hok, c', rfl, h1, h2, h3⟩ hgr hrow
    have hs : Side c.w.heap.size c' W' := Side.grown hgr hrow
    exact ⟨hok, c'.at W', rfl, h1.side hs (Nat.le_refl _), h2, h3.side hs⟩
  · rintro cd pre W W' row ⟨pre', i, e, σ, nx, c', hp, hok, h0, rfl, h1, h2, h3, h4, h5⟩ hgr hrow
    have hs : Side c.w.heap.size c' W' := Side.grown hgr hrow
    exact ⟨pre', i, e, σ, nx, c'.at W', hp, hok, h0, rfl, h1.side hs (Nat.le_refl _), h2, h3.side hs, h4, h5⟩
  · rintro i a' u W W' row ⟨c', rfl, h1, h2, h3⟩ hgr hrow
    have hs : Side c.w.heap.size c' W' := Side.grown hgr hrow
    exact ⟨c'.at W', rfl, h1.side hs (Nat.le_refl _), h2, h3.side hs⟩
  · rintro l pre i W K ⟨hok, c', rfl, h1, h2, h3⟩ hK
    have hr1 : RelR N st.nx No c' ⟨st.env, st.σ, st.nx⟩ { tmps := a.tmps, defers := [] } := ⟨h3.size, h3.env, h3.hr, h3.σ, h3.fresh⟩
    have hV2 : VRt c' L[i] (V i) := (hV i).monoP (p := fun i => i < m1) h1 (fun id y q1 q2 => by rw [h2 id q1]; exact q2) (hLp L[i] (by exact List.getElem_mem _)).1
    have hz : (pa.zip (V i).toArray).foldl (fun t q => t.setIfInBounds q.1 q.2) a.tmps = (pa.toList.zip (V i)).foldl (fun t q => t.setIfInBounds q.1 q.2) a.tmps := by
      rw [← Array.foldl_toList, Array.toList_zip]
    have hb := wpC_sound (hasg i) asc has (some l) (.inr hfa) 1 c' _ (hr1.binds hps hV2) hnx
    rw [hz]
    refine wpIn_mono hb ?_
    rintro e a' w' ⟨c2, s2, rfl, ga, low2, rel2, hm2, hq⟩
    cases e with
    | normal =>
      obtain ⟨q1, q2⟩ := hq
      obtain ⟨c3, w3, g3, low3, rel3, hm3⟩ := q1 c2 a' rel2 hm2
      obtain ⟨c4, w4, g4, low4, rel4, hm4⟩ := q2 c3 a' rel3 hm3
      obtain ⟨k1, k2⟩ := keeps_from hr.hr h1 h3.hr ga.g
      have l2' : ∀ id, id < m1 → c2.φ id = c.φ id := fun id hid => (low2 id hid).trans (h2 id hid)
      have l3' : ∀ id, id < m1 → c3.φ id = c.φ id := fun id hid => (low3 id hid).trans (l2' id hid)
      have l4' : ∀ id, id < m1 → c4.φ id = c.φ id := fun id hid => (low4 id hid).trans (l3' id hid)
      have G3 : Grow c c3 := (h1.trans ga.g).trans g3
      refine hK a' c2.w k1 k2 ⟨hok, c4, w4.trans w3, G3.trans g4, l4', ?_⟩ ⟨c3, w3, G3, l3', rel3⟩
      exact RelR.envs (m1 := m1) hr hlow (G3.trans g4) l4' rel4.hr rel4.σ rel4.none
    | _ => exact hq.elim
  · rintro l pre i a' W hl hlp ⟨hok, _⟩ ⟨c', rfl, h1, h2, h3⟩ hlen
    have hb := wpC_sound (hbody i) x hx (some l) (.inr hfl) 1 c' a' h3 (hSn i)
    refine wpIn_mono hb ?_
    rintro e a2 w' ⟨c2, s2, rfl, ga, low2, rel2, hm2, hq⟩
    have l2' : ∀ id, id < m1 → c2.φ id = c.φ id := fun id hid => (low2 id hid).trans (h2 id hid)
    cases e with
    | normal =>
      obtain ⟨q0, q1⟩ := hq
      obtain ⟨c3, w3, g3, low3, rel3, hm3⟩ := q1 c2 a2 rel2 hm2
      obtain ⟨k1, k2⟩ := keeps_from hr.hr h1 h3.hr ga.g
      have l3' : ∀ id, id < m1 → c3.φ id = c.φ id := fun id hid => (low3 id hid).trans (l2' id hid)
      have G3 : Grow c c3 := (h1.trans ga.g).trans g3
      refine ⟨k1, k2, fun j hj => ?_, c3, w3, G3, l3', RelR.envs (m1 := m1) hr hlow G3 l3' rel3.hr rel3.σ rel3.none⟩
      rcases List.mem_append.1 hj with hj | hj
      · exact hok j hj
      · rw [List.mem_singleton] at hj; subst hj; exact q0
    | ret =>
      obtain ⟨k1, k2⟩ := keeps_from hr.hr h1 h3.hr ga.g
      exact ⟨k1, pre, i, .ret, s2.σ, s2.nx, c2, rfl, hok, .inl ⟨rfl, rfl⟩, rfl, h1.trans ga.g, l2', RelR.envs (m1 := m1) hr hlow (h1.trans ga.g) l2' rel2.hr rel2.σ rel2.none, hm2, hq⟩
    | exit id =>
      obtain ⟨k1, k2⟩ := keeps_from hr.hr h1 h3.hr ga.g
      exact ⟨k1, pre, i, .exit id, s2.σ, s2.nx, c2, rfl, hok, .inr ⟨id, rfl, rfl⟩, rfl, h1.trans ga.g, l2', RelR.envs (m1 := m1) hr hlow (h1.trans ga.g) l2' rel2.hr rel2.σ rel2.none, hm2, hq⟩
    | _ => exact hq.elim
  · rintro D xs W hD rfl ⟨hok, c', rfl, h1, h2, h3⟩ hdd
    exact ⟨c', st, rfl, ⟨h1, [{ target := .collected D, args := #[] }], rfl, by simp, fun d hd => by rw [List.mem_singleton] at hd; exact ⟨D, hd, hD, hdd⟩⟩, fun id hid => h2 id (Nat.lt_of_lt_of_le hid hm), ⟨h3.size, h3.env, h3.hr, h3.σ, h3.fresh⟩, Nat.le_trans hm hnx, hdone fun i => hok i (List.mem_finRange i)⟩
  · rintro D cd pre W hD ⟨k, hk, rfl⟩ ⟨pre', i, e, σ, nx, c', hp, hok, h0, rfl, h1, h2, h3, h4, h5⟩ hdd
    rw [List.take_succ_eq_append_getElem (by simpa using hk)] at hp
    obtain ⟨hp1, hp2⟩ := List.append_inj' hp rfl
    have hi : i = ⟨k, hk⟩ := by simpa using hp2.symm
    subst hi
    have key : ∃ c'' st', c''.w = c'.w ∧ GoA c a c'' { a with defers := { target := .collected D, args := #[] } :: a.defers } ∧ (∀ id, id < m → c''.φ id = c.φ id) ∧ RelR N st'.nx No c'' st' { a with defers := { target := .collected D, args := #[] } :: a.defers } ∧ m ≤ st'.nx ∧ Q e st' :=
      ⟨c', ⟨st.env, σ, nx⟩, rfl, ⟨h1, [{ target := .collected D, args := #[] }], rfl, by simp, fun d hd => by rw [List.mem_singleton] at hd; exact ⟨D, hd, hD, hdd⟩⟩, fun id hid => h2 id (Nat.lt_of_lt_of_le hid hm), ⟨h3.size, h3.env, h3.hr, h3.σ, h3.fresh⟩, Nat.le_trans hm h4,
        hstop ⟨k, hk⟩ e σ nx (fun j hj => hok j (by rw [← hp1, List.mem_take_iff_getElem]; exact ⟨j.1, by have h9 : j.1 < k := hj; simp; omega, by simp⟩)) h5⟩
    rcases h0 with ⟨rfl, rfl⟩ | ⟨id, rfl, rfl⟩
    · exact wpIn_ret key
    · exact wpIn_exit key
end Go.Proofs.YtdenddhdeloceaaGreatDoor
namespace Go.Proofs.YtdenddhdeloceaaGreatDoor
open Go.RowKit
variable {P : Program} {N m : Nat}
theorem Weak.fnData {s : ASt} (t f : Nat) (caps caps' : List AV) (h : s.env t = .fn f caps) (hl : caps'.length = caps.length)
    (hc : ∀ (j : Nat) x', caps'[j]? = some x' → ∃ x, caps[j]? = some x ∧ ((x' = x ∧ Pu x) ∨ ∃ id y e cells off, x = .op id off ∧ s.σ id = some (.row y e cells) ∧ PuL cells ∧ x' = .fp y cells off)) :
    Weak N m s ⟨envOf [(t, .fn f caps')], heapOf [], s.nx⟩ := by
  intro c a hr hms
  generalize hd : (⟨c.w, c.B, c.φ, heapOf [], c.X, c.Y⟩ : Cx) = d
  have dw : d.w = c.w := by rw [← hd]
  have dB : d.B = c.B := by rw [← hd]
  have dX : d.X = c.X := by rw [← hd]
  have dY : d.Y = c.Y := by rw [← hd]
  have dσ : d.σ = heapOf [] := by rw [← hd]
  have dφ : d.φ = c.φ := by rw [← hd]
  have hT : ∀ b, ¬ d.T b := by rintro b ⟨k, o, e1, e2⟩; rw [dσ] at e1; cases e1
  have g : Grow c d := Still.grow ⟨dY, dX, dB, by rw [dw], by rw [dw], by rw [dw], by rw [dw]; exact Nat.le_refl _, fun b _ _ => by rw [dw], fun b hb => (hT b hb).elim, fun b cs e f hb => ⟨cs, f, by rw [dw]; exact hb, rfl⟩⟩
  have nm : Names c d := fun k x hk => by rw [dφ]; exact hk
  refine ⟨d, dw, g, fun _ _ => by rw [dφ], ⟨hr.size, fun t' => ?_, ⟨fun j y' e' cs' hs => (by rw [dσ] at hs; cases hs), fun i i' b e1 e2 e3 e4 => by rw [dσ] at e1; exact absurd rfl e1, by rw [dB, dw]; exact hr.hr.base, fun b hb => by rw [dX] at hb; rw [dw]; exact hr.hr.xlt b hb, hr.hr.gl.grow g⟩, dσ, fun k hk hne => by rw [dφ] at hne; exact hr.fresh k hk hne⟩, hms⟩
  simp only [envOf]
  split
  · rename_i e
    subst e
    have hv := hr.env t'
    rw [h] at hv
    obtain ⟨us, hu, hv⟩ := hv
    rw [VRt_iff] at hv
    refine ⟨us, hu, VRt_iff.2 ⟨by omega, fun j x' hj => ?_⟩⟩
    obtain ⟨x, k1, k2⟩ := hc j x' hj
    obtain ⟨u, k3, k4⟩ := hv.2 j x k1
    refine ⟨u, k3, ?_⟩
    rcases k2 with ⟨rfl, _⟩ | ⟨id, y, e, cells, off, rfl, q1, q2, rfl⟩
    · exact k4.mono g nm
    · obtain ⟨b, e1, rfl⟩ := k4
      rcases hr.hr.row id y e cells (by rw [hr.σ]; exact q1) with ⟨g1, _⟩ | ⟨b', cs, g1, g2, g3, g4, g5⟩
      · rw [e1] at g1; cases g1
      · rw [e1] at g1; cases g1
        refine ⟨b, 0, by rw [Nat.zero_add], by rw [dw, Array.getElem?_eq_some_iff] at *; exact g2.1, ⟨by rw [dB]; exact g3.1, hT b, by rw [dX]; exact g3.2⟩, VRm_iff.2 fun j z hj => ?_⟩
        obtain ⟨q, k1, k2, k3⟩ := g5 _ _ hj
        exact ⟨q, by rw [dw, Nat.zero_add]; simp [World.cell?, g2, k1], k2, k3.mono g nm⟩
  · trivial
mutual
theorem AlN.of {p : Nat → Prop} : ∀ {a : AV}, Al p a → AlN p a
  | .any, _ | .v _, _ | .ws _ _, _ | .wp _, _ | .wv _, _ => trivial
  | .fs fr cs n, h | .fp fr cs n, h | .us fr e cs n, h => AlNL.of (l := cs) h
  | .agg l, h | .tup l, h | .fn f l, h => AlNL.of (l := l) h
  | .ifc _ a, h => AlN.of (a := a) h
  | .os _ _ _ _, h | .op _ _, h => h
theorem AlNL.of {p : Nat → Prop} : ∀ {l : List AV}, AlL p l → AlNL p l
  | [], _ => trivial
  | a :: r, h => ⟨AlN.of (a := a) h.1, AlNL.of (l := r) h.2⟩
end
theorem AlN.env {p : Nat → Prop} {l : List (Nat × AV)} (h : AlL p (l.map (·.2))) (t : Nat) : AlN p (envOf l t) := by
  rcases envOf_mem (l := l) (t := t) with e | e
  · rw [e]; trivial
  · exact AlN.of (AlL_iff.1 h _ (List.mem_map.2 ⟨_, e, rfl⟩))
end Go.Proofs.YtdenddhdeloceaaGreatDoor
namespace Go.Proofs.YtdenddhdeloceaaGreatDoor
set_option maxRecDepth 100000
def ac_107 : AC :=
(.seq (.reg false [⟨some 2, .mv (.const (.slice none 0 0)), none, [], []⟩] [0])
(.seq (.seq (.reg false [⟨some 3, .mv (.tmp 0), none, [0], []⟩,
    ⟨some 4, .isnil false (.slice none 0 0) (.tmp 3), none, [3], []⟩] [0, 4])
(.cond (.tmp 4)
(.seq (.reg false [⟨some 2, .mv (.const (.slice none 0 0)), none, [], []⟩] [2])
.ret)
.skip))
(.seq (.reg false [⟨some 5, .bslice 22 1 0 [] [], none, [], []⟩,
    ⟨some 6, .mv (.tmp 0), none, [0], []⟩,
    ⟨some 7, .append 22 1 24 (.tmp 5) (.tmp 6), none, [5, 6], []⟩,
    ⟨some 2, .mv (.tmp 7), none, [7], []⟩] [2])
.ret)))
theorem ok_107 : FnOk Tryz.prog 107 8 ac_107 [.tmp 2] := ⟨Tryz.f107, Tryz.func107, by kernel_rfl, by kernel_rfl, by kernel_rfl, by kernel_rfl, by kernel_rfl⟩
def ac_108 : AC :=
(.seq (.reg false [⟨some 2, .mv (.const (.slice none 0 0)), none, [], []⟩] [0])
(.seq (.seq (.reg false [⟨some 3, .mv (.tmp 0), none, [0], []⟩,
    ⟨some 4, .isnil false (.slice none 0 0) (.tmp 3), none, [3], []⟩] [0, 4])
(.cond (.tmp 4)
(.seq (.reg false [⟨some 2, .mv (.const (.slice none 0 0)), none, [], []⟩] [2])
.ret)
.skip))
(.seq (.reg false [⟨some 5, .bslice 90 2 0 [] [], none, [], []⟩,
    ⟨some 6, .mv (.tmp 0), none, [0], []⟩,
    ⟨some 7, .append 90 2 32 (.tmp 5) (.tmp 6), none, [5, 6], []⟩,
    ⟨some 2, .mv (.tmp 7), none, [7], []⟩] [2])
.ret)))
theorem ok_108 : FnOk Tryz.prog 108 8 ac_108 [.tmp 2] := ⟨Tryz.f108, Tryz.func108, by kernel_rfl, by kernel_rfl, by kernel_rfl, by kernel_rfl, by kernel_rfl⟩
def ac_43 : AC :=
(.seq (.reg false [⟨some 1, .box 50 (.tmp 0), none, [0], []⟩,
    ⟨some 2, .new 50 [(.slice none 0 0), (.slice none 0 0)], none, [], []⟩,
    ⟨some 3, .mv (.const (.int .i64 (0))), none, [], []⟩] [1, 2])
(.seq (.reg false [⟨some 4, .load true 2 (.tmp 1), none, [1], []⟩,
    ⟨some 5, .call 52 [(.tmp 4), (.func 80)], none, [4], []⟩,
    ⟨some 6, .ext 0 (.tmp 5), none, [5], []⟩,
    ⟨some 7, .ext 1 (.tmp 5), none, [5], []⟩,
    ⟨none, .store 2 (.tmp 2) (.tmp 6), none, [2, 6], []⟩,
    ⟨some 3, .mv (.tmp 7), none, [7], []⟩] [2, 3])
.ret))
theorem ok_43 : FnOk Tryz.prog 43 8 ac_43 [.cell 2 true 2, .tmp 3] := ⟨Tryz.f43, Tryz.func43, by kernel_rfl, by kernel_rfl, by kernel_rfl, by kernel_rfl, by kernel_rfl⟩
def ac_80 : AC :=
(.seq (.reg false [⟨some 2, .mv (.const (.bool false)), none, [], []⟩] [])
(.seq (.reg false [⟨some 2, .mv (.const (.bool true)), none, [], []⟩] [2])
.ret))
theorem ok_80 : FnOk Tryz.prog 80 3 ac_80 [.tmp 2] := ⟨Tryz.f80, Tryz.func80, by kernel_rfl, by kernel_rfl, by kernel_rfl, by kernel_rfl, by kernel_rfl⟩
def ac_104 : AC :=
(.seq (.reg false [⟨some 1, .box 48 (.tmp 0), none, [0], []⟩,
    ⟨some 2, .mv (.const .nilFunc), none, [], []⟩] [1])
(.seq (.reg false [⟨some 3, .clo 123 [(.tmp 1)], none, [1], []⟩,
    ⟨some 2, .mv (.tmp 3), none, [3], []⟩] [2])
.ret))
theorem ok_104 : FnOk Tryz.prog 104 4 ac_104 [.tmp 2] := ⟨Tryz.f104, Tryz.func104, by kernel_rfl, by kernel_rfl, by kernel_rfl, by kernel_rfl, by kernel_rfl⟩
def ac_88 : AC :=
(.seq (.reg false [⟨some 2, .box 22 (.tmp 0), none, [0], []⟩,
    ⟨some 3, .box 3 (.tmp 1), none, [1], []⟩,
    ⟨some 4, .mv (.const .nilFunc), none, [], []⟩] [2, 3])
(.seq (.seq (.reg false [⟨some 5, .load false 1 (.tmp 3), none, [3], []⟩,
    ⟨some 6, .bin .lss (.tmp 5) (.const (.int .i64 (1))), none, [5], []⟩] [2, 3, 6])
(.cond (.tmp 6)
(.reg false [⟨some 7, .mkif 9 (.const (.string (ByteArray.mk #[99, 97, 110, 110, 111, 116, 32, 98, 101, 32, 108, 101, 115, 115, 32, 116, 104, 97, 110, 32, 49]))), none, [], []⟩,
    ⟨none, .die , none, [7], []⟩] [2, 3])
.skip))
(.seq (.reg false [⟨some 8, .clo 109 [(.tmp 2), (.tmp 3)], none, [2, 3], []⟩,
    ⟨some 4, .mv (.tmp 8), none, [8], []⟩] [4])
.ret)))
theorem ok_88 : FnOk Tryz.prog 88 9 ac_88 [.tmp 4] := ⟨Tryz.f88, Tryz.func88, by kernel_rfl, by kernel_rfl, by kernel_rfl, by kernel_rfl, by kernel_rfl⟩
def ac_19 : AC :=
(.seq (.reg false [⟨some 0, .mv (.const (.bool false)), none, [], []⟩] [])
(.seq (.reg false [⟨some 8, .call 26 [(.const (.int .i64 (16)))], none, [], []⟩,
    ⟨some 7, .mv (.tmp 8), none, [8], []⟩,
    ⟨some 9, .ext 0 (.tmp 7), none, [7], []⟩,
    ⟨some 10, .ext 1 (.tmp 7), none, [7], []⟩,
    ⟨some 1, .new 50 [(.slice none 0 0), (.slice none 0 0)], none, [], []⟩,
    ⟨none, .store 2 (.tmp 1) (.tmp 9), none, [1, 9], []⟩,
    ⟨some 2, .mv (.tmp 10), none, [10], []⟩] [1, 2])
(.seq (.reg false [⟨some 12, .load true 2 (.tmp 1), none, [1], []⟩,
    ⟨some 13, .build [(.int .i64 (0)), (.int .i64 (0)), (.int .i64 (0)), (.int .i64 (0)), (.slice none 0 0)] [(0, 1, (.const (.int .i64 (1))))], none, [], []⟩,
    ⟨some 14, .call 21 [(.tmp 12), (.tmp 13)], none, [12, 13], []⟩,
    ⟨some 11, .mv (.tmp 14), none, [14], []⟩,
    ⟨some 15, .ext 0 (.tmp 11), none, [11], []⟩,
    ⟨some 16, .ext 1 (.tmp 11), none, [11], []⟩,
    ⟨none, .store 2 (.tmp 1) (.tmp 15), none, [1, 15], []⟩,
    ⟨some 3, .mv (.tmp 16), none, [16], []⟩] [1, 2, 3])
(.seq (.reg false [⟨some 18, .load true 2 (.tmp 1), none, [1], []⟩,
    ⟨some 19, .build [(.int .i64 (0)), (.int .i64 (0)), (.int .i64 (0)), (.int .i64 (0)), (.slice none 0 0)] [(0, 1, (.const (.int .i64 (2)))), (1, 1, (.const (.int .i64 (7))))], none, [], []⟩,
    ⟨some 20, .call 21 [(.tmp 18), (.tmp 19)], none, [18, 19], []⟩,
    ⟨some 17, .mv (.tmp 20), none, [20], []⟩,
    ⟨some 21, .ext 0 (.tmp 17), none, [17], []⟩,
    ⟨some 22, .ext 1 (.tmp 17), none, [17], []⟩,
    ⟨none, .store 2 (.tmp 1) (.tmp 21), none, [1, 21], []⟩,
    ⟨some 4, .mv (.tmp 22), none, [22], []⟩] [1, 2, 3, 4])
(.seq (.reg false [⟨some 24, .load true 2 (.tmp 1), none, [1], []⟩,
    ⟨some 25, .call 23 [(.tmp 24)], none, [24], []⟩,
    ⟨some 23, .mv (.tmp 25), none, [25], []⟩,
    ⟨some 26, .ext 0 (.tmp 23), none, [23], []⟩,
    ⟨some 27, .ext 1 (.tmp 23), none, [23], []⟩,
    ⟨some 5, .new 25 [(.int .i64 (0)), (.int .i64 (0)), (.int .i64 (0)), (.int .i64 (0)), (.slice none 0 0)], none, [], []⟩,
    ⟨none, .store 5 (.tmp 5) (.tmp 26), none, [5, 26], []⟩,
    ⟨some 6, .mv (.tmp 27), none, [27], []⟩] [2, 3, 4, 5, 6])
(.seq (.reg false [⟨some 28, .mv (.tmp 2), none, [2], []⟩,
    ⟨some 29, .call 15 [(.tmp 28)], none, [28], []⟩,
    ⟨some 30, .mv (.tmp 3), none, [3], []⟩,
    ⟨some 31, .call 15 [(.tmp 30)], none, [30], []⟩,
    ⟨some 32, .bin .add (.tmp 29) (.tmp 31), none, [29, 31], []⟩,
    ⟨some 33, .mv (.tmp 4), none, [4], []⟩,
    ⟨some 34, .call 15 [(.tmp 33)], none, [33], []⟩,
    ⟨some 35, .bin .add (.tmp 32) (.tmp 34), none, [32, 34], []⟩,
    ⟨some 36, .mv (.tmp 6), none, [6], []⟩,
    ⟨some 37, .call 15 [(.tmp 36)], none, [36], []⟩,
    ⟨some 38, .bin .add (.tmp 35) (.tmp 37), none, [35, 37], []⟩,
    ⟨some 39, .bin .eql (.tmp 38) (.const (.int .i64 (0))), none, [38], []⟩,
    ⟨some 40, .mv (.tmp 39), none, [39], []⟩,
    ⟨some 41, .foff 0 (.tmp 5), some (40, true), [5, 40], []⟩,
    ⟨some 42, .load false 1 (.tmp 41), some (40, true), [41, 40], []⟩,
    ⟨some 43, .bin .eql (.tmp 42) (.const (.int .i64 (2))), some (40, true), [42, 40], []⟩,
    ⟨some 44, .pick (.tmp 40) (.tmp 43) (.const (.bool false)), none, [40, 43], []⟩,
    ⟨some 45, .mv (.tmp 44), none, [44], []⟩,
    ⟨some 46, .foff 1 (.tmp 5), some (45, true), [5, 45], []⟩,
    ⟨some 47, .load false 1 (.tmp 46), some (45, true), [46, 45], []⟩,
    ⟨some 48, .bin .eql (.tmp 47) (.const (.int .i64 (7))), some (45, true), [47, 45], []⟩,
    ⟨some 49, .pick (.tmp 45) (.tmp 48) (.const (.bool false)), none, [45, 48], []⟩,
    ⟨some 0, .mv (.tmp 49), none, [49], []⟩] [0])
.ret))))))
theorem ok_19 : FnOk Tryz.prog 19 50 ac_19 [.tmp 0] := ⟨Tryz.f19, Tryz.func19, by kernel_rfl, by kernel_rfl, by kernel_rfl, by kernel_rfl, by kernel_rfl⟩
end Go.Proofs.YtdenddhdeloceaaGreatDoor
namespace Go.Proofs.YtdenddhdeloceaaGreatDoor
set_option maxRecDepth 100000
end Go.Proofs.YtdenddhdeloceaaGreatDoor
namespace Go.Proofs.YtdenddhdeloceaaGreatDoor
open Go.RowKit
set_option maxRecDepth 100000
theorem eq_upto {α : Type} {a b : List α} (hl : a.length = b.length) (h : ∀ j, j < a.length → a[j]? = b[j]?) : a = b := by
  apply List.ext_getElem? 
  intro j
  by_cases hj : j < a.length
  · exact h j hj
  · rw [List.getElem?_eq_none (by omega), List.getElem?_eq_none (by omega)]
abbrev L_sameB (fa fb : Bool) (a b : List Int) (k : Nat) : ASt := ⟨envOf [(0, fB fa a), (1, fB fb b), (5, .v (.int .i64 k))], heapOf [], 0⟩
theorem sameBytes_spec (fa fb : Bool) (a b : List Int) (nb : Nat) (hz : a.length ≤ 140737488355328) : ASound Tryz.prog 14 [fB fa a, fB fb b] nb (.ret (.v (.bool (decide (a = b)))) []) := by
  refine ok_14.sound (by simp) ⟨al_fB a, al_fB b, trivial⟩ ?_
  simp only [ac_14, TT, ↓reduceIte, Nat.reduceEqDiff, Nat.reduceAdd, Nat.reduceMul, reduceCtorEq, Nat.reduceLeDiff]
  by_cases hl : a.length = b.length
  · have hl' : (a.length : Int) = (b.length : Int) := by omega
    simp only [hl', not_true, TT, ↓reduceIte, Nat.reduceEqDiff, Nat.reduceAdd, Nat.reduceMul, reduceCtorEq, Nat.reduceLeDiff]
    refine AWc.family (L_sameB fa fb a b) (fun k => k ≤ a.length ∧ ∀ j, j < k → a[j]? = b[j]?) (fun k => a.length - k) 0 ⟨Nat.zero_le _, fun j h => absurd h (Nat.not_lt_zero _)⟩ ?_ ?_
    · refine Weak.calc [] (by decide) ?_ ?_ <;> simp [WT]
    · rintro k ⟨hk, hj⟩
      by_cases hlt : k < a.length
      · obtain ⟨x, hx, e1, e0⟩ := lt_at hlt
        obtain ⟨y, hy, e2, _⟩ := lt_at (show k < b.length by omega)
        have g1 := get_B hx
        have g2 := get_B hy
        simp only [L_sameB, g1, g2, e1, e0, e2, TT, ↓reduceIte, Nat.reduceEqDiff, Nat.reduceAdd, Nat.reduceMul, reduceCtorEq, Nat.reduceLeDiff]
        refine ⟨by rfl, ?_⟩
        split
        · rename_i hne
          have : ¬ a = b := by intro h; subst h; rw [hx] at hy; cases hy; exact hne rfl
          exact Ends.data (.inr rfl) (by simp [this, ET]) trivial
        · rename_i hne
          have hxy : x = y := by simpa using hne
          refine famC_next (k + 1) (by omega) ⟨by omega, fun j hj1 => ?_⟩ ?_
          · by_cases e : j = k
            · subst e; rw [hx, hy, hxy]
            · exact hj j (by omega)
          · refine Weak.calc [] (by decide) ?_ ?_ <;> simp [WT, wrap64 (x := (k : Int) + 1) (by omega)]
      · have e1 : ¬ ((k : Int) < (a.length : Int)) := by omega
        simp only [L_sameB, e1, TT, ↓reduceIte, Nat.reduceEqDiff, Nat.reduceAdd, Nat.reduceMul, reduceCtorEq, Nat.reduceLeDiff]
        have : a = b := eq_upto hl fun j h => hj j (by omega)
        exact Ends.data (.inr rfl) (by simp [this, ET]) trivial
  · have hl' : ¬ (a.length : Int) = (b.length : Int) := by omega
    simp only [hl', not_false_eq_true, TT, ↓reduceIte, Nat.reduceEqDiff, Nat.reduceAdd, Nat.reduceMul, reduceCtorEq, Nat.reduceLeDiff]
    have : ¬ a = b := fun h => hl (by rw [h])
    exact Ends.data (.inr rfl) (by simp [this, ET]) trivial
theorem of_spec (fr : Bool) (p : Pt) (nb : Nat) (h : p.data.length ≤ 140737488355328) : ASound Tryz.prog 8 [aPt fr p] nb (.ret (aPt true p) []) := by
  refine ok_8.sound (by simp) ⟨al_aPt p, trivial⟩ ?_
  have hc := copyBytes_spec fr p.data
  simp only [fB] at hc
  simp only [ac_8, TT, ↓reduceIte, Nat.reduceEqDiff, Nat.reduceAdd, Nat.reduceMul, reduceCtorEq, Nat.reduceLeDiff]
  refine ⟨_, hc _ h, ?_⟩
  simp only [TT, ↓reduceIte, Nat.reduceEqDiff, Nat.reduceAdd, Nat.reduceMul, reduceCtorEq, Nat.reduceLeDiff]
  refine ⟨by rfl, ?_⟩
  exact Ends.data (r := aPt true p) (.inr rfl) (by simp [ET, aPt, fB]) (al_aPt _)
def sameP (a b : Pt) : Prop := a.epoch = b.epoch ∧ a.seq = b.seq ∧ a.view = b.view ∧ a.commit = b.commit ∧ a.data = b.data
instance (a b : Pt) : Decidable (sameP a b) := by unfold sameP; infer_instance
theorem sameP_iff {a b : Pt} : sameP a b ↔ a = b := by
  constructor
  · rintro ⟨h1, h2, h3, h4, h5⟩
    cases a; cases b
    simp only at h1 h2 h3 h4 h5
    subst h1; subst h2; subst h3; subst h4; subst h5
    rfl
  · rintro rfl; exact ⟨rfl, rfl, rfl, rfl, rfl⟩
theorem sameP_spec (fa fb : Bool) (a b : Pt) (nb : Nat) (hz : a.data.length ≤ 140737488355328) : ASound Tryz.prog 16 [aPt fa a, aPt fb b] nb (.ret (.v (.bool (decide (sameP a b)))) []) := by
  refine ok_16.sound (by simp) ⟨al_aPt a, al_aPt b, trivial⟩ ?_
  have hs := sameBytes_spec fa fb a.data b.data
  simp only [fB] at hs
  by_cases h1 : a.epoch = b.epoch
  · by_cases h2 : a.seq = b.seq
    · by_cases h3 : a.view = b.view
      · by_cases h4 : a.commit = b.commit
        · have hd : sameP a b ↔ a.data = b.data := ⟨fun h => h.2.2.2.2, fun h => ⟨h1, h2, h3, h4, h⟩⟩
          simp only [ac_16, h1, h2, h3, h4, TT, ↓reduceIte, Nat.reduceEqDiff, Nat.reduceAdd, Nat.reduceMul, reduceCtorEq, Nat.reduceLeDiff]
          refine ⟨_, hs _ hz, ?_⟩
          simp only [TT, ↓reduceIte, Nat.reduceEqDiff, Nat.reduceAdd, Nat.reduceMul, reduceCtorEq, Nat.reduceLeDiff]
          exact Ends.data (.inr rfl) (by simp [ET, hd]) trivial
        · have hd : ¬ sameP a b := fun h => h4 h.2.2.2.1
          simp only [ac_16, h1, h2, h3, h4, TT, ↓reduceIte, Nat.reduceEqDiff, Nat.reduceAdd, Nat.reduceMul, reduceCtorEq, Nat.reduceLeDiff]
          exact Ends.data (.inr rfl) (by simp [ET, hd]) trivial
      · have hd : ¬ sameP a b := fun h => h3 h.2.2.1
        simp only [ac_16, h1, h2, h3, TT, ↓reduceIte, Nat.reduceEqDiff, Nat.reduceAdd, Nat.reduceMul, reduceCtorEq, Nat.reduceLeDiff]
        exact Ends.data (.inr rfl) (by simp [ET, hd]) trivial
    · have hd : ¬ sameP a b := fun h => h2 h.2.1
      simp only [ac_16, h1, h2, TT, ↓reduceIte, Nat.reduceEqDiff, Nat.reduceAdd, Nat.reduceMul, reduceCtorEq, Nat.reduceLeDiff]
      exact Ends.data (.inr rfl) (by simp [ET, hd]) trivial
  · have hd : ¬ sameP a b := fun h => h1 h.1
    simp only [ac_16, h1, TT, ↓reduceIte, Nat.reduceEqDiff, Nat.reduceAdd, Nat.reduceMul, reduceCtorEq, Nat.reduceLeDiff]
    exact Ends.data (.inr rfl) (by simp [ET, hd]) trivial
end Go.Proofs.YtdenddhdeloceaaGreatDoor
namespace Go.Proofs.YtdenddhdeloceaaGreatDoor
open Go.RowKit
set_option maxRecDepth 100000
end Go.Proofs.YtdenddhdeloceaaGreatDoor
namespace Go.Proofs.YtdenddhdeloceaaGreatDoor
open Go.RowKit
set_option maxRecDepth 100000
theorem Wr.ext2 {a b : Wr} : a = b ↔ a.sec = b.sec ∧ a.data = b.data := by
  constructor
  · rintro rfl; exact ⟨rfl, rfl⟩
  · rintro ⟨h1, h2⟩; cases a; cases b; simp only at h1 h2; subst h1; subst h2; rfl
theorem Dk.ext2 {a b : Dk} : a = b ↔ a.sectors = b.sectors ∧ a.cache = b.cache := by
  constructor
  · rintro rfl; exact ⟨rfl, rfl⟩
  · rintro ⟨h1, h2⟩; cases a; cases b; simp only at h1 h2; subst h1; subst h2; rfl
instance : DecidableEq Wr := fun a b => decidable_of_iff _ Wr.ext2.symm
instance : DecidableEq Dk := fun a b => decidable_of_iff _ Dk.ext2.symm
end Go.Proofs.YtdenddhdeloceaaGreatDoor
namespace Go.Proofs.YtdenddhdeloceaaGreatDoor
open Go.RowKit
set_option maxRecDepth 100000
def badW (n : Nat) (w : Wr) : Prop := w.sec < 0 ∨ (n : Int) ≤ w.sec ∨ w.data.length ≠ 64
structure okD (d : Dk) : Prop where
  few : ¬ (d.sectors.length < 1 ∨ 2048 < d.sectors.length ∨ 4096 < d.cache.length)
  secs : ∀ s ∈ d.sectors, s.length = 64
  cache : ∀ w ∈ d.cache, ¬ badW d.sectors.length w
noncomputable def dkE (d : Dk) : Int := by classical exact if okD d then 0 else 9
theorem dkE_ok {d : Dk} (h : okD d) : dkE d = 0 := by unfold dkE; rw [if_pos h]
theorem dkE_no {d : Dk} (h : ¬ okD d) : dkE d = 9 := by unfold dkE; rw [if_neg h]
end Go.Proofs.YtdenddhdeloceaaGreatDoor
namespace Go.Proofs.YtdenddhdeloceaaGreatDoor
open Go.RowKit
set_option maxRecDepth 100000
end Go.Proofs.YtdenddhdeloceaaGreatDoor
namespace Go.Proofs.YtdenddhdeloceaaGreatDoor
open Go.RowKit
set_option maxRecDepth 100000
def lastB (base : List Int) (k : Int) (l : List Wr) : List Int := l.foldl (fun b w => if w.sec = k then w.data else b) base
theorem lastB_snoc {base : List Int} {k : Int} {l : List Wr} {i : Nat} {w : Wr} (h : l[i]? = some w) : lastB base k (l.take (i + 1)) = if w.sec = k then w.data else lastB base k (l.take i) := by
  rw [take_snoc h]; simp [lastB]
theorem lastB_p {p : List Int → Prop} {base : List Int} {k : Int} : ∀ {l : List Wr}, p base → (∀ w ∈ l, p w.data) → p (lastB base k l)
  | [], h, _ => h
  | w :: l, h, hw => by
    show p (lastB (if w.sec = k then w.data else base) k l)
    refine lastB_p ?_ fun x hx => hw x (by simp [hx])
    split
    · exact hw w (by simp)
    · exact h
end Go.Proofs.YtdenddhdeloceaaGreatDoor
namespace Go.Proofs.YtdenddhdeloceaaGreatDoor
open Go.RowKit
set_option maxRecDepth 100000
/-- what a sector has -/
def secAt (d : Dk) (k : Nat) : List Int := lastB ((d.sectors[k]?).getD []) k d.cache
def getD (d : Dk) (s n : Nat) : List Int := (List.range n).flatMap fun i => secAt d (s + i)
theorem getD_s (d : Dk) (s i : Nat) : getD d s (i + 1) = getD d s i ++ secAt d (s + i) := by simp [getD, List.range_succ]
theorem secAt_len {d : Dk} (h : okD d) {k : Nat} (hk : k < d.sectors.length) : (secAt d k).length = 64 := by
  unfold secAt
  rw [List.getElem?_eq_getElem hk]
  refine lastB_p (p := fun b => b.length = 64) (h.secs _ (List.getElem_mem hk)) fun w hw => ?_
  have := h.cache w hw
  unfold badW at this
  exact Classical.byContradiction fun h2 => this (.inr (.inr h2))
theorem getD_len {d : Dk} (h : okD d) (s : Nat) : ∀ i, s + i ≤ d.sectors.length → (getD d s i).length = 64 * i
  | 0, _ => by simp [getD]
  | i + 1, hi => by rw [getD_s, List.length_append, getD_len h s i (by omega), secAt_len h (by omega)]; omega
theorem okD_data {d : Dk} (h : okD d) : ∀ w ∈ d.cache, w.data.length ≤ 140737488355328 := fun w hw => by
  have := h.cache w hw
  unfold badW at this
  have : w.data.length = 64 := Classical.byContradiction fun h2 => this (.inr (.inr h2))
  omega
theorem okD_secs {d : Dk} (h : okD d) : ∀ t ∈ d.sectors, t.length ≤ 140737488355328 := fun t ht => by have := h.secs t ht; omega
theorem eB_nil : eB [] = [] := rfl
end Go.Proofs.YtdenddhdeloceaaGreatDoor
namespace Go.Proofs.YtdenddhdeloceaaGreatDoor
open Go.RowKit
set_option maxRecDepth 100000
/-- the writes that are kept come to their sectors -/
def landL : List (List Int) → List (Bool × Wr) → List (List Int)
  | ss, [] => ss
  | ss, (k, w) :: r => landL (if k then ss.set w.sec.toNat w.data else ss) r
theorem landL_snoc : ∀ {l : List (Bool × Wr)} {ss : List (List Int)} {i : Nat} {q : Bool × Wr}, l[i]? = some q → landL ss (l.take (i + 1)) = if q.1 then (landL ss (l.take i)).set q.2.sec.toNat q.2.data else landL ss (l.take i)
  | [], _, _, _, h => by simp at h
  | (k, w) :: l, ss, 0, q, h => by
    simp at h; subst h
    simp [landL]
  | (k, w) :: l, ss, i + 1, q, h => by
    show landL _ (l.take (i + 1)) = _
    rw [landL_snoc (by simpa using h)]
    rfl
theorem landL_len : ∀ (l : List (Bool × Wr)) (ss : List (List Int)), (landL ss l).length = ss.length
  | [], _ => rfl
  | (k, w) :: l, ss => by
    rw [landL, landL_len l]
    split <;> simp
def crashD (d : Dk) (keep : List Bool) : Dk := ⟨landL d.sectors (keep.zip d.cache), []⟩
theorem zip_at {a : List Bool} {b : List Wr} {i : Nat} {x : Bool} {y : Wr} (h1 : a[i]? = some x) (h2 : b[i]? = some y) : (a.zip b)[i]? = some (x, y) := by
  rw [List.getElem?_zip_eq_some]; exact ⟨h1, h2⟩
end Go.Proofs.YtdenddhdeloceaaGreatDoor
namespace Go.Proofs.YtdenddhdeloceaaGreatDoor
open Go.RowKit
set_option maxRecDepth 100000
end Go.Proofs.YtdenddhdeloceaaGreatDoor
namespace Go.Proofs.YtdenddhdeloceaaGreatDoor
open Go.RowKit
set_option maxRecDepth 100000
theorem imp_crash (ss : List (List Int)) : Imp (.tup [.agg [fL true ss, .v (.slice none 0 0)], .v (.int .i64 0)]) (.tup [aDk true ⟨ss, []⟩, .v (.int .i64 0)]) :=
  Imp.tupL ⟨Imp.aggL ⟨Imp.refl _, Imp.nil true, trivial⟩, Imp.refl _, trivial⟩
end Go.Proofs.YtdenddhdeloceaaGreatDoor
namespace Go.Proofs.YtdenddhdeloceaaGreatDoor
open Go.RowKit
set_option maxRecDepth 100000
def flushD (d : Dk) : Dk := crashD d (List.replicate d.cache.length true)
end Go.Proofs.YtdenddhdeloceaaGreatDoor
namespace Go.Proofs.YtdenddhdeloceaaGreatDoor
open Go.RowKit
set_option maxRecDepth 100000
def chunk (data : List Int) (i : Nat) : List Int := (data.drop (64 * i)).take 64
def putL (s : Nat) (data : List Int) (n : Nat) : List Wr := (List.range n).map fun i => ⟨((s + i : Nat) : Int), chunk data i⟩
def putD (d : Dk) (s : Nat) (data : List Int) : Dk := ⟨d.sectors, d.cache ++ putL s data 8⟩
def dk0 : Dk := ⟨[], []⟩
theorem putL_s (s : Nat) (data : List Int) (n : Nat) : putL s data (n + 1) = putL s data n ++ [⟨((s + n : Nat) : Int), chunk data n⟩] := by simp [putL, List.range_succ]
theorem putL_len (s : Nat) (data : List Int) (n : Nat) : (putL s data n).length = n := by simp [putL]
theorem chunk_len {data : List Int} (h : data.length = 512) {i : Nat} (hi : i < 8) : (chunk data i).length = 64 := by
  unfold chunk; rw [List.length_take, List.length_drop]; omega
theorem pad_full {n : Nat} {l : List Int} (h : l.length = n) : pad n l = l := by unfold pad; rw [h, Nat.sub_self]; simp
theorem imp_dk0 (e : Int) : Imp (.tup [.agg [.v (.slice none 0 0), .v (.slice none 0 0)], .v (.int .i64 e)]) (.tup [aDk true dk0, .v (.int .i64 e)]) :=
  Imp.tupL ⟨Imp.aggL ⟨Imp.nil true, Imp.nil true, trivial⟩, Imp.refl _, trivial⟩
abbrev dz : AV := .agg [.v (.slice none 0 0), .v (.slice none 0 0)]
theorem al_dz {p : Nat → Prop} (e : Int) : Al p (.tup [dz, .v (.int .i64 e)]) := ⟨⟨trivial, trivial, trivial⟩, trivial, trivial⟩
end Go.Proofs.YtdenddhdeloceaaGreatDoor
namespace Go.Proofs.YtdenddhdeloceaaGreatDoor
open Go.RowKit
set_option maxRecDepth 100000
noncomputable def askE (d : Dk) : Int := by classical exact if okD d then (if d.sectors.length < 16 then 41 else 0) else 9
theorem askE_no {d : Dk} (h : ¬ okD d) : askE d = 9 := by unfold askE; rw [if_neg h]
theorem askE_few {d : Dk} (h : okD d) (h2 : d.sectors.length < 16) : askE d = 41 := by unfold askE; rw [if_pos h, if_pos h2]
theorem askE_ok {d : Dk} (h : okD d) (h2 : ¬ d.sectors.length < 16) : askE d = 0 := by unfold askE; rw [if_pos h, if_neg h2]
theorem askE_iff {d : Dk} : askE d = 0 ↔ okD d ∧ ¬ d.sectors.length < 16 := by
  constructor
  · intro h
    by_cases h1 : okD d
    · by_cases h2 : d.sectors.length < 16
      · rw [askE_few h1 h2] at h; simp at h
      · exact ⟨h1, h2⟩
    · rw [askE_no h1] at h; simp at h
  · rintro ⟨h1, h2⟩; exact askE_ok h1 h2
theorem okD_put {d : Dk} (h : okD d) {s : Nat} {data : List Int} (hd : data.length = 512) (hs : s + 8 ≤ d.sectors.length) (hc : d.cache.length + 8 ≤ 4096) : okD (putD d s data) := by
  have hf := h.few
  refine ⟨?_, h.secs, ?_⟩
  · show ¬ (d.sectors.length < 1 ∨ 2048 < d.sectors.length ∨ 4096 < (d.cache ++ putL s data 8).length)
    rw [List.length_append, putL_len]; omega
  · intro w hw
    rcases List.mem_append.1 hw with h1 | h1
    · exact h.cache w h1
    · obtain ⟨i, hi, rfl⟩ := List.mem_map.1 h1
      rw [List.mem_range] at hi
      rintro (h2 | h2 | h2)
      · simp only at h2; omega
      · simp only [putD] at h2; omega
      · exact h2 (chunk_len hd hi)
def slotP (p : Pt) : Nat := 8 * (p.epoch.toNat % 2)
noncomputable def storeD (d : Dk) (p : Pt) : Dk × Int := if askE d ≠ 0 then (dk0, askE d) else if ptE p ≠ 0 then (dk0, ptE p) else if d.cache.length + 8 ≤ 4096 then (flushD (putD d (slotP p) (encP p).1), 0) else (dk0, 51)
end Go.Proofs.YtdenddhdeloceaaGreatDoor
namespace Go.Proofs.YtdenddhdeloceaaGreatDoor
open Go.RowKit
set_option maxRecDepth 100000
structure octD (d : Dk) : Prop where
  secs : ∀ s ∈ d.sectors, okB s
  cache : ∀ w ∈ d.cache, okB w.data
theorem secAt_okB {d : Dk} (ho : octD d) (k : Nat) : okB (secAt d k) := by
  unfold secAt
  refine lastB_p (p := okB) ?_ fun w hw => ho.cache w hw
  cases h : d.sectors[k]? with
  | none => intro x hx; simp at hx
  | some s => exact ho.secs s (List.mem_of_getElem? h)
theorem getD_okB {d : Dk} (ho : octD d) (s n : Nat) : okB (getD d s n) := by
  intro x hx
  obtain ⟨i, _, hi⟩ := List.mem_flatMap.1 hx
  exact secAt_okB ho _ x hi
/-- of two regions -/
def pickP (x y : Pt × Int) : Pt × Int := if x.2 ≠ 0 ∧ y.2 ≠ 0 then (pt0, 21) else if x.2 ≠ 0 ∨ (y.2 = 0 ∧ x.1.epoch < y.1.epoch) then (y.1, 0) else (x.1, 0)
noncomputable def loadD (d : Dk) : Pt × Int := if askE d ≠ 0 then (pt0, askE d) else pickP (decP (getD d 0 8)) (decP (getD d 8 8))
end Go.Proofs.YtdenddhdeloceaaGreatDoor
namespace Go.Proofs.YtdenddhdeloceaaGreatDoor
set_option maxRecDepth 100000
def ac_26 : AC :=
(.seq (.reg false [⟨some 2, .new 50 [(.slice none 0 0), (.slice none 0 0)], none, [], []⟩,
    ⟨some 3, .mv (.const (.int .i64 (0))), none, [], []⟩] [0, 2])
(.seq (.seq (.reg false [⟨some 5, .mv (.tmp 0), none, [0], []⟩,
    ⟨some 6, .bin .lss (.tmp 5) (.const (.int .i64 (1))), none, [5], []⟩,
    ⟨some 7, .mv (.tmp 6), none, [6], []⟩,
    ⟨some 8, .mv (.tmp 0), some (7, false), [0, 7], []⟩,
    ⟨some 9, .bin .gtr (.tmp 8) (.const (.int .i64 (2048))), some (7, false), [8, 7], []⟩,
    ⟨some 10, .pick (.tmp 7) (.const (.bool true)) (.tmp 9), none, [7, 9], []⟩] [0, 2, 10])
(.cond (.tmp 10)
(.seq (.reg false [⟨some 11, .build [(.slice none 0 0), (.slice none 0 0)] [], none, [], []⟩,
    ⟨none, .store 2 (.tmp 2) (.tmp 11), none, [2, 11], []⟩,
    ⟨some 3, .mv (.const (.int .i64 (4))), none, [], []⟩] [2, 3])
.ret)
.skip))
(.seq (.reg false [⟨some 4, .new 50 [(.slice none 0 0), (.slice none 0 0)], none, [], []⟩] [0, 2, 4])
(.seq (.seq (.reg false [⟨some 12, .mv (.tmp 0), none, [0], []⟩,
    ⟨some 13, .mv (.const (.int .i64 (0))), none, [], []⟩] [2, 4, 12, 13])
(.block 0 (.loop (.seq (.reg false [⟨some 14, .bin .lss (.tmp 13) (.tmp 12), none, [13, 12], []⟩] [2, 4, 12, 13, 14])
(.seq (.cond (.tmp 14)
.skip
(.exit 0))
(.seq (.block 1 (.reg true [⟨some 15, .foff 0 (.tmp 4), none, [4], []⟩,
    ⟨some 16, .load false 1 (.tmp 15), none, [15], [0]⟩,
    ⟨some 17, .mksl 5 1 1 [(.int .u8 (0))] (.const (.int .i64 (64))) (.const (.int .i64 (64))), none, [], []⟩,
    ⟨some 18, .bslice 22 1 1 [(.slice none 0 0)] [(0, 1, (.tmp 17))], none, [17], [2]⟩,
    ⟨some 19, .append 22 1 24 (.tmp 16) (.tmp 18), none, [16, 18], [1, 3, 0, 2]⟩,
    ⟨some 20, .foff 0 (.tmp 4), none, [4], [0, 1, 2, 3, 4]⟩,
    ⟨none, .store 1 (.tmp 20) (.tmp 19), none, [20, 19], [5, 4, 0, 1, 2, 3]⟩] [2, 4, 12, 13]))
(.reg false [⟨some 21, .bin .add (.tmp 13) (.const (.int .i64 (1))), none, [13], []⟩,
    ⟨some 13, .mv (.tmp 21), none, [21], []⟩] [2, 4, 12, 13])))))))
(.seq (.reg false [⟨some 22, .load true 2 (.tmp 4), none, [4], []⟩,
    ⟨none, .store 2 (.tmp 2) (.tmp 22), none, [2, 22], []⟩,
    ⟨some 3, .mv (.const (.int .i64 (0))), none, [], []⟩] [2, 3])
.ret)))))
theorem ok_26 : FnOk Tryz.prog 26 23 ac_26 [.cell 2 true 2, .tmp 3] := ⟨Tryz.f26, Tryz.func26, by kernel_rfl, by kernel_rfl, by kernel_rfl, by kernel_rfl, by kernel_rfl⟩
def ac_50 : AC :=
(.seq (.reg false [⟨some 3, .box 50 (.tmp 0), none, [0], []⟩,
    ⟨some 6, .mv (.const (.bool false)), none, [], []⟩] [1, 2, 3])
(.seq (.reg false [⟨some 7, .mv (.tmp 1), none, [1], []⟩,
    ⟨some 8, .bin .geq (.tmp 7) (.const (.int .i64 (0))), none, [7], []⟩,
    ⟨some 9, .mv (.tmp 8), none, [8], []⟩,
    ⟨some 10, .mv (.tmp 2), some (9, true), [2, 9], []⟩,
    ⟨some 11, .bin .geq (.tmp 10) (.const (.int .i64 (0))), some (9, true), [10, 9], []⟩,
    ⟨some 12, .pick (.tmp 9) (.tmp 11) (.const (.bool false)), none, [9, 11], []⟩,
    ⟨some 13, .mv (.tmp 12), none, [12], []⟩,
    ⟨some 14, .mv (.tmp 1), some (13, true), [1, 13], []⟩,
    ⟨some 15, .foff 0 (.tmp 3), some (13, true), [3, 13], []⟩,
    ⟨some 16, .load false 1 (.tmp 15), some (13, true), [15, 13], []⟩,
    ⟨some 17, .len false (.tmp 16), some (13, true), [16, 13], []⟩,
    ⟨some 18, .bin .leq (.tmp 14) (.tmp 17), some (13, true), [14, 17, 13], []⟩,
    ⟨some 19, .pick (.tmp 13) (.tmp 18) (.const (.bool false)), none, [13, 18], []⟩,
    ⟨some 20, .mv (.tmp 19), none, [19], []⟩,
    ⟨some 21, .mv (.tmp 2), some (20, true), [2, 20], []⟩,
    ⟨some 22, .foff 0 (.tmp 3), some (20, true), [3, 20], []⟩,
    ⟨some 23, .load false 1 (.tmp 22), some (20, true), [22, 20], []⟩,
    ⟨some 24, .len false (.tmp 23), some (20, true), [23, 20], []⟩,
    ⟨some 25, .mv (.tmp 1), some (20, true), [1, 20], []⟩,
    ⟨some 26, .bin .sub (.tmp 24) (.tmp 25), some (20, true), [24, 25, 20], []⟩,
    ⟨some 27, .bin .leq (.tmp 21) (.tmp 26), some (20, true), [21, 26, 20], []⟩,
    ⟨some 28, .pick (.tmp 20) (.tmp 27) (.const (.bool false)), none, [20, 27], []⟩,
    ⟨some 6, .mv (.tmp 28), none, [28], []⟩] [6])
.ret))
theorem ok_50 : FnOk Tryz.prog 50 29 ac_50 [.tmp 6] := ⟨Tryz.f50, Tryz.func50, by kernel_rfl, by kernel_rfl, by kernel_rfl, by kernel_rfl, by kernel_rfl⟩
def ac_46 : AC :=
(.seq (.reg false [⟨some 3, .box 50 (.tmp 0), none, [0], []⟩,
    ⟨some 6, .mv (.const (.slice none 0 0)), none, [], []⟩,
    ⟨some 7, .mv (.const (.int .i64 (0))), none, [], []⟩] [1, 2, 3])
(.seq (.seq (.reg false [⟨some 11, .load true 2 (.tmp 3), none, [3], []⟩,
    ⟨some 12, .call 49 [(.tmp 11)], none, [11], []⟩,
    ⟨some 8, .mv (.tmp 12), none, [12], []⟩] [1, 2, 3, 8])
(.seq (.reg false [⟨some 13, .mv (.tmp 8), none, [8], []⟩,
    ⟨some 14, .bin .neq (.tmp 13) (.const (.int .i64 (0))), none, [13], []⟩] [1, 2, 3, 8, 14])
(.cond (.tmp 14)
(.seq (.reg false [⟨some 15, .mv (.tmp 8), none, [8], []⟩,
    ⟨some 6, .mv (.const (.slice none 0 0)), none, [], []⟩,
    ⟨some 7, .mv (.tmp 15), none, [15], []⟩] [6, 7])
.ret)
.skip)))
(.seq (.seq (.reg false [⟨some 16, .load true 2 (.tmp 3), none, [3], []⟩,
    ⟨some 17, .mv (.tmp 1), none, [1], []⟩,
    ⟨some 18, .mv (.tmp 2), none, [2], []⟩,
    ⟨some 19, .call 50 [(.tmp 16), (.tmp 17), (.tmp 18)], none, [16, 17, 18], []⟩,
    ⟨some 20, .un .not (.tmp 19), none, [19], []⟩] [1, 2, 3, 20])
(.cond (.tmp 20)
(.seq (.reg false [⟨some 6, .mv (.const (.slice none 0 0)), none, [], []⟩,
    ⟨some 7, .mv (.const (.int .i64 (41))), none, [], []⟩] [6, 7])
.ret)
.skip))
(.seq (.reg false [⟨some 9, .mv (.const (.slice none 0 0)), none, [], []⟩] [1, 2, 3, 9])
(.seq (.seq (.reg false [⟨some 21, .mv (.tmp 2), none, [2], []⟩,
    ⟨some 22, .mv (.const (.int .i64 (0))), none, [], []⟩] [1, 3, 9, 21, 22])
(.block 0 (.loop (.seq (.reg false [⟨some 23, .bin .lss (.tmp 22) (.tmp 21), none, [22, 21], []⟩] [1, 3, 9, 21, 22, 23])
(.seq (.cond (.tmp 23)
.skip
(.exit 0))
(.seq (.block 1 (.seq (.reg false [⟨some 24, .mv (.tmp 22), none, [22], []⟩,
    ⟨some 10, .mv (.tmp 24), none, [24], []⟩] [1, 3, 9, 10, 21, 22])
(.reg false [⟨some 25, .mv (.tmp 9), none, [9], []⟩,
    ⟨some 26, .load true 2 (.tmp 3), none, [3], []⟩,
    ⟨some 27, .mv (.tmp 1), none, [1], []⟩,
    ⟨some 28, .mv (.tmp 10), none, [10], []⟩,
    ⟨some 29, .bin .add (.tmp 27) (.tmp 28), none, [27, 28], []⟩,
    ⟨some 30, .call 81 [(.tmp 26), (.tmp 29)], none, [26, 29], []⟩,
    ⟨some 31, .append 5 1 1 (.tmp 25) (.tmp 30), none, [25, 30], []⟩,
    ⟨some 9, .mv (.tmp 31), none, [31], []⟩] [1, 3, 9, 21, 22])))
(.reg false [⟨some 32, .bin .add (.tmp 22) (.const (.int .i64 (1))), none, [22], []⟩,
    ⟨some 22, .mv (.tmp 32), none, [32], []⟩] [1, 3, 9, 21, 22])))))))
(.seq (.reg false [⟨some 33, .mv (.tmp 9), none, [9], []⟩,
    ⟨some 6, .mv (.tmp 33), none, [33], []⟩,
    ⟨some 7, .mv (.const (.int .i64 (0))), none, [], []⟩] [6, 7])
.ret))))))
theorem ok_46 : FnOk Tryz.prog 46 34 ac_46 [.tmp 6, .tmp 7] := ⟨Tryz.f46, Tryz.func46, by kernel_rfl, by kernel_rfl, by kernel_rfl, by kernel_rfl, by kernel_rfl⟩
def ac_28 : AC :=
(.seq (.reg false [⟨some 3, .box 50 (.tmp 0), none, [0], []⟩,
    ⟨some 6, .new 50 [(.slice none 0 0), (.slice none 0 0)], none, [], []⟩,
    ⟨some 7, .mv (.const (.int .i64 (0))), none, [], []⟩] [1, 2, 3, 6])
(.seq (.seq (.reg false [⟨some 10, .load true 2 (.tmp 3), none, [3], []⟩,
    ⟨some 11, .call 49 [(.tmp 10)], none, [10], []⟩,
    ⟨some 8, .mv (.tmp 11), none, [11], []⟩] [1, 2, 3, 6, 8])
(.seq (.reg false [⟨some 12, .mv (.tmp 8), none, [8], []⟩,
    ⟨some 13, .bin .neq (.tmp 12) (.const (.int .i64 (0))), none, [12], []⟩] [1, 2, 3, 6, 8, 13])
(.cond (.tmp 13)
(.seq (.reg false [⟨some 14, .build [(.slice none 0 0), (.slice none 0 0)] [], none, [], []⟩,
    ⟨some 15, .mv (.tmp 8), none, [8], []⟩,
    ⟨none, .store 2 (.tmp 6) (.tmp 14), none, [6, 14], []⟩,
    ⟨some 7, .mv (.tmp 15), none, [15], []⟩] [6, 7])
.ret)
.skip)))
(.seq (.reg false [⟨some 16, .mv (.tmp 2), none, [2], []⟩,
    ⟨some 17, .len false (.tmp 16), none, [16], []⟩,
    ⟨some 18, .bin .add (.tmp 17) (.const (.int .i64 (64))), none, [17], []⟩,
    ⟨some 19, .bin .sub (.tmp 18) (.const (.int .i64 (1))), none, [18], []⟩,
    ⟨some 20, .bin .quo (.tmp 19) (.const (.int .i64 (64))), none, [19], []⟩,
    ⟨some 9, .mv (.tmp 20), none, [20], []⟩] [1, 2, 3, 6, 9])
(.seq (.block 0 (.seq (.reg false [⟨some 22, .load true 2 (.tmp 3), none, [3], []⟩,
    ⟨some 23, .mv (.tmp 1), none, [1], []⟩,
    ⟨some 24, .mv (.tmp 9), none, [9], []⟩,
    ⟨some 25, .call 50 [(.tmp 22), (.tmp 23), (.tmp 24)], none, [22, 23, 24], []⟩,
    ⟨some 26, .un .not (.tmp 25), none, [25], []⟩,
    ⟨some 21, .mv (.tmp 26), none, [26], []⟩] [1, 2, 3, 6, 9, 21])
(.cond (.tmp 21)
(.seq (.reg false [⟨some 27, .build [(.slice none 0 0), (.slice none 0 0)] [], none, [], []⟩,
    ⟨none, .store 2 (.tmp 6) (.tmp 27), none, [6, 27], []⟩,
    ⟨some 7, .mv (.const (.int .i64 (41))), none, [], []⟩] [6, 7])
.ret)
(.seq (.reg false [⟨some 29, .mv (.tmp 9), none, [9], []⟩,
    ⟨some 30, .foff 1 (.tmp 3), none, [3], []⟩,
    ⟨some 31, .load false 1 (.tmp 30), none, [30], []⟩,
    ⟨some 32, .len false (.tmp 31), none, [31], []⟩,
    ⟨some 33, .bin .sub (.const (.int .i64 (4096))) (.tmp 32), none, [32], []⟩,
    ⟨some 34, .bin .gtr (.tmp 29) (.tmp 33), none, [29, 33], []⟩,
    ⟨some 28, .mv (.tmp 34), none, [34], []⟩] [1, 2, 3, 6, 28])
(.cond (.tmp 28)
(.seq (.reg false [⟨some 35, .build [(.slice none 0 0), (.slice none 0 0)] [], none, [], []⟩,
    ⟨none, .store 2 (.tmp 6) (.tmp 35), none, [6, 35], []⟩,
    ⟨some 7, .mv (.const (.int .i64 (51))), none, [], []⟩] [6, 7])
.ret)
.skip)))))
(.seq (.reg false [⟨some 36, .load true 2 (.tmp 3), none, [3], []⟩,
    ⟨some 37, .mv (.tmp 1), none, [1], []⟩,
    ⟨some 38, .mv (.tmp 2), none, [2], []⟩,
    ⟨some 39, .call 51 [(.tmp 36), (.tmp 37), (.tmp 38)], none, [36, 37, 38], []⟩,
    ⟨none, .store 2 (.tmp 6) (.tmp 39), none, [6, 39], []⟩,
    ⟨some 7, .mv (.const (.int .i64 (0))), none, [], []⟩] [6, 7])
.ret)))))
theorem ok_28 : FnOk Tryz.prog 28 40 ac_28 [.cell 6 true 2, .tmp 7] := ⟨Tryz.f28, Tryz.func28, by kernel_rfl, by kernel_rfl, by kernel_rfl, by kernel_rfl, by kernel_rfl⟩
def ac_42 : AC :=
(.seq (.reg false [⟨some 1, .box 50 (.tmp 0), none, [0], []⟩,
    ⟨some 2, .mv (.const (.int .i64 (0))), none, [], []⟩] [1])
(.seq (.seq (.reg false [⟨some 4, .load true 2 (.tmp 1), none, [1], []⟩,
    ⟨some 5, .call 49 [(.tmp 4)], none, [4], []⟩,
    ⟨some 3, .mv (.tmp 5), none, [5], []⟩] [1, 3])
(.seq (.reg false [⟨some 6, .mv (.tmp 3), none, [3], []⟩,
    ⟨some 7, .bin .neq (.tmp 6) (.const (.int .i64 (0))), none, [6], []⟩] [1, 3, 7])
(.cond (.tmp 7)
(.seq (.reg false [⟨some 8, .mv (.tmp 3), none, [3], []⟩,
    ⟨some 2, .mv (.tmp 8), none, [8], []⟩] [2])
.ret)
.skip)))
(.seq (.seq (.reg false [⟨some 9, .foff 0 (.tmp 1), none, [1], []⟩,
    ⟨some 10, .load false 1 (.tmp 9), none, [9], []⟩,
    ⟨some 11, .len false (.tmp 10), none, [10], []⟩,
    ⟨some 12, .bin .lss (.tmp 11) (.const (.int .i64 (16))), none, [11], []⟩] [12])
(.cond (.tmp 12)
(.seq (.reg false [⟨some 2, .mv (.const (.int .i64 (41))), none, [], []⟩] [2])
.ret)
.skip))
(.seq (.reg false [⟨some 2, .mv (.const (.int .i64 (0))), none, [], []⟩] [2])
.ret))))
theorem ok_42 : FnOk Tryz.prog 42 13 ac_42 [.tmp 2] := ⟨Tryz.f42, Tryz.func42, by kernel_rfl, by kernel_rfl, by kernel_rfl, by kernel_rfl, by kernel_rfl⟩
def ac_21 : AC :=
(.seq (.reg false [⟨some 2, .box 50 (.tmp 0), none, [0], []⟩,
    ⟨some 3, .box 25 (.tmp 1), none, [1], []⟩,
    ⟨some 4, .new 50 [(.slice none 0 0), (.slice none 0 0)], none, [], []⟩,
    ⟨some 5, .mv (.const (.int .i64 (0))), none, [], []⟩] [2, 3, 4])
(.seq (.seq (.reg false [⟨some 9, .load true 2 (.tmp 2), none, [2], []⟩,
    ⟨some 10, .call 42 [(.tmp 9)], none, [9], []⟩,
    ⟨some 6, .mv (.tmp 10), none, [10], []⟩] [2, 3, 4, 6])
(.seq (.reg false [⟨some 11, .mv (.tmp 6), none, [6], []⟩,
    ⟨some 12, .bin .neq (.tmp 11) (.const (.int .i64 (0))), none, [11], []⟩] [2, 3, 4, 6, 12])
(.cond (.tmp 12)
(.seq (.reg false [⟨some 13, .build [(.slice none 0 0), (.slice none 0 0)] [], none, [], []⟩,
    ⟨some 14, .mv (.tmp 6), none, [6], []⟩,
    ⟨none, .store 2 (.tmp 4) (.tmp 13), none, [4, 13], []⟩,
    ⟨some 5, .mv (.tmp 14), none, [14], []⟩] [4, 5])
.ret)
.skip)))
(.seq (.reg false [⟨some 16, .load true 5 (.tmp 3), none, [3], []⟩,
    ⟨some 17, .call 10 [(.tmp 16)], none, [16], []⟩,
    ⟨some 15, .mv (.tmp 17), none, [17], []⟩,
    ⟨some 18, .ext 0 (.tmp 15), none, [15], []⟩,
    ⟨some 19, .ext 1 (.tmp 15), none, [15], []⟩,
    ⟨some 7, .mv (.tmp 18), none, [18], []⟩,
    ⟨some 8, .mv (.tmp 19), none, [19], []⟩] [2, 3, 4, 7, 8])
(.seq (.seq (.reg false [⟨some 20, .mv (.tmp 8), none, [8], []⟩,
    ⟨some 21, .bin .neq (.tmp 20) (.const (.int .i64 (0))), none, [20], []⟩] [2, 3, 4, 7, 8, 21])
(.cond (.tmp 21)
(.seq (.reg false [⟨some 22, .build [(.slice none 0 0), (.slice none 0 0)] [], none, [], []⟩,
    ⟨some 23, .mv (.tmp 8), none, [8], []⟩,
    ⟨none, .store 2 (.tmp 4) (.tmp 22), none, [4, 22], []⟩,
    ⟨some 5, .mv (.tmp 23), none, [23], []⟩] [4, 5])
.ret)
.skip))
(.seq (.seq (.reg false [⟨some 25, .load true 2 (.tmp 2), none, [2], []⟩,
    ⟨some 26, .foff 0 (.tmp 3), none, [3], []⟩,
    ⟨some 27, .load false 1 (.tmp 26), none, [26], []⟩,
    ⟨some 28, .bin .rem (.tmp 27) (.const (.int .i64 (2))), none, [27], []⟩,
    ⟨some 29, .bin .mul (.tmp 28) (.const (.int .i64 (8))), none, [28], []⟩,
    ⟨some 30, .mv (.tmp 7), none, [7], []⟩,
    ⟨some 31, .call 28 [(.tmp 25), (.tmp 29), (.tmp 30)], none, [25, 29, 30], []⟩,
    ⟨some 24, .mv (.tmp 31), none, [31], []⟩,
    ⟨some 32, .ext 0 (.tmp 24), none, [24], []⟩,
    ⟨some 33, .ext 1 (.tmp 24), none, [24], []⟩,
    ⟨none, .store 2 (.tmp 2) (.tmp 32), none, [2, 32], []⟩,
    ⟨some 8, .mv (.tmp 33), none, [33], []⟩] [2, 4, 8])
(.seq (.reg false [⟨some 34, .mv (.tmp 8), none, [8], []⟩,
    ⟨some 35, .bin .neq (.tmp 34) (.const (.int .i64 (0))), none, [34], []⟩] [2, 4, 8, 35])
(.cond (.tmp 35)
(.seq (.reg false [⟨some 36, .build [(.slice none 0 0), (.slice none 0 0)] [], none, [], []⟩,
    ⟨some 37, .mv (.tmp 8), none, [8], []⟩,
    ⟨none, .store 2 (.tmp 4) (.tmp 36), none, [4, 36], []⟩,
    ⟨some 5, .mv (.tmp 37), none, [37], []⟩] [4, 5])
.ret)
.skip)))
(.seq (.reg false [⟨some 38, .load true 2 (.tmp 2), none, [2], []⟩,
    ⟨some 39, .call 43 [(.tmp 38)], none, [38], []⟩,
    ⟨some 40, .ext 0 (.tmp 39), none, [39], []⟩,
    ⟨some 41, .ext 1 (.tmp 39), none, [39], []⟩,
    ⟨none, .store 2 (.tmp 4) (.tmp 40), none, [4, 40], []⟩,
    ⟨some 5, .mv (.tmp 41), none, [41], []⟩] [4, 5])
.ret))))))
theorem ok_21 : FnOk Tryz.prog 21 42 ac_21 [.cell 4 true 2, .tmp 5] := ⟨Tryz.f21, Tryz.func21, by kernel_rfl, by kernel_rfl, by kernel_rfl, by kernel_rfl, by kernel_rfl⟩
def ac_23 : AC :=
(.seq (.reg false [⟨some 1, .box 50 (.tmp 0), none, [0], []⟩,
    ⟨some 2, .new 25 [(.int .i64 (0)), (.int .i64 (0)), (.int .i64 (0)), (.int .i64 (0)), (.slice none 0 0)], none, [], []⟩,
    ⟨some 3, .mv (.const (.int .i64 (0))), none, [], []⟩] [1, 2])
(.seq (.seq (.reg false [⟨some 12, .load true 2 (.tmp 1), none, [1], []⟩,
    ⟨some 13, .call 42 [(.tmp 12)], none, [12], []⟩,
    ⟨some 4, .mv (.tmp 13), none, [13], []⟩] [1, 2, 4])
(.seq (.reg false [⟨some 14, .mv (.tmp 4), none, [4], []⟩,
    ⟨some 15, .bin .neq (.tmp 14) (.const (.int .i64 (0))), none, [14], []⟩] [1, 2, 4, 15])
(.cond (.tmp 15)
(.seq (.reg false [⟨some 16, .build [(.int .i64 (0)), (.int .i64 (0)), (.int .i64 (0)), (.int .i64 (0)), (.slice none 0 0)] [], none, [], []⟩,
    ⟨some 17, .mv (.tmp 4), none, [4], []⟩,
    ⟨none, .store 5 (.tmp 2) (.tmp 16), none, [2, 16], []⟩,
    ⟨some 3, .mv (.tmp 17), none, [17], []⟩] [2, 3])
.ret)
.skip)))
(.seq (.reg false [⟨some 18, .build [(.int .i64 (0)), (.int .i64 (0)), (.int .i64 (0)), (.int .i64 (0)), (.slice none 0 0)] [], none, [], []⟩,
    ⟨some 5, .new 25 [(.int .i64 (0)), (.int .i64 (0)), (.int .i64 (0)), (.int .i64 (0)), (.slice none 0 0)], none, [], []⟩,
    ⟨none, .store 5 (.tmp 5) (.tmp 18), none, [5, 18], []⟩,
    ⟨some 6, .mv (.const (.int .i64 (21))), none, [], []⟩] [1, 2, 5, 6])
(.seq (.seq (.reg false [⟨some 19, .mv (.const (.int .i64 (0))), none, [], []⟩] [1, 2, 5, 6, 19])
(.block 0 (.loop (.seq (.reg false [⟨some 20, .bin .lss (.tmp 19) (.const (.int .i64 (2))), none, [19], []⟩] [1, 2, 5, 6, 19, 20])
(.seq (.cond (.tmp 20)
.skip
(.exit 0))
(.seq (.block 1 (.seq (.reg false [⟨some 21, .mv (.tmp 19), none, [19], []⟩,
    ⟨some 7, .mv (.tmp 21), none, [21], []⟩] [1, 2, 5, 6, 7, 19])
(.seq (.reg false [⟨some 23, .load true 2 (.tmp 1), none, [1], []⟩,
    ⟨some 24, .mv (.tmp 7), none, [7], []⟩,
    ⟨some 25, .bin .mul (.tmp 24) (.const (.int .i64 (8))), none, [24], []⟩,
    ⟨some 26, .call 46 [(.tmp 23), (.tmp 25), (.const (.int .i64 (8)))], none, [23, 25], []⟩,
    ⟨some 22, .mv (.tmp 26), none, [26], []⟩,
    ⟨some 27, .ext 0 (.tmp 22), none, [22], []⟩,
    ⟨some 28, .ext 1 (.tmp 22), none, [22], []⟩,
    ⟨some 8, .mv (.tmp 27), none, [27], []⟩,
    ⟨some 9, .mv (.tmp 28), none, [28], []⟩] [1, 2, 5, 6, 8, 19])
(.seq (.reg false [⟨some 30, .mv (.tmp 8), none, [8], []⟩,
    ⟨some 31, .call 12 [(.tmp 30)], none, [30], []⟩,
    ⟨some 29, .mv (.tmp 31), none, [31], []⟩,
    ⟨some 32, .ext 0 (.tmp 29), none, [29], []⟩,
    ⟨some 33, .ext 1 (.tmp 29), none, [29], []⟩,
    ⟨some 10, .new 25 [(.int .i64 (0)), (.int .i64 (0)), (.int .i64 (0)), (.int .i64 (0)), (.slice none 0 0)], none, [], []⟩,
    ⟨none, .store 5 (.tmp 10) (.tmp 32), none, [10, 32], []⟩,
    ⟨some 11, .mv (.tmp 33), none, [33], []⟩] [1, 2, 5, 6, 10, 11, 19])
(.seq (.reg false [⟨some 34, .mv (.tmp 11), none, [11], []⟩,
    ⟨some 35, .bin .eql (.tmp 34) (.const (.int .i64 (0))), none, [34], []⟩,
    ⟨some 36, .mv (.tmp 35), none, [35], []⟩,
    ⟨some 37, .mv (.tmp 6), some (36, true), [6, 36], []⟩,
    ⟨some 38, .bin .neq (.tmp 37) (.const (.int .i64 (0))), some (36, true), [37, 36], []⟩,
    ⟨some 39, .mv (.tmp 38), some (36, true), [38, 36], []⟩,
    ⟨some 40, .foff 0 (.tmp 10), some (39, false), [10, 39], []⟩,
    ⟨some 41, .load false 1 (.tmp 40), some (39, false), [40, 39], []⟩,
    ⟨some 42, .foff 0 (.tmp 5), some (39, false), [5, 39], []⟩,
    ⟨some 43, .load false 1 (.tmp 42), some (39, false), [42, 39], []⟩,
    ⟨some 44, .bin .gtr (.tmp 41) (.tmp 43), some (39, false), [41, 43, 39], []⟩,
    ⟨some 45, .pick (.tmp 39) (.const (.bool true)) (.tmp 44), some (36, true), [39, 44, 36], []⟩,
    ⟨some 46, .pick (.tmp 36) (.tmp 45) (.const (.bool false)), none, [36, 45], []⟩] [1, 2, 5, 6, 10, 19, 46])
(.cond (.tmp 46)
(.reg false [⟨some 47, .load true 5 (.tmp 10), none, [10], []⟩,
    ⟨none, .store 5 (.tmp 5) (.tmp 47), none, [5, 47], []⟩,
    ⟨some 6, .mv (.const (.int .i64 (0))), none, [], []⟩] [1, 2, 5, 6, 19])
.skip))))))
(.reg false [⟨some 48, .bin .add (.tmp 19) (.const (.int .i64 (1))), none, [19], []⟩,
    ⟨some 19, .mv (.tmp 48), none, [48], []⟩] [1, 2, 5, 6, 19])))))))
(.seq (.reg false [⟨some 49, .load true 5 (.tmp 5), none, [5], []⟩,
    ⟨some 50, .mv (.tmp 6), none, [6], []⟩,
    ⟨none, .store 5 (.tmp 2) (.tmp 49), none, [2, 49], []⟩,
    ⟨some 3, .mv (.tmp 50), none, [50], []⟩] [2, 3])
.ret)))))
theorem ok_23 : FnOk Tryz.prog 23 51 ac_23 [.cell 2 true 5, .tmp 3] := ⟨Tryz.f23, Tryz.func23, by kernel_rfl, by kernel_rfl, by kernel_rfl, by kernel_rfl, by kernel_rfl⟩
end Go.Proofs.YtdenddhdeloceaaGreatDoor
namespace Go.Proofs.YtdenddhdeloceaaGreatDoor
open Go.RowKit
set_option maxRecDepth 100000
def zs : List Int := List.replicate 64 0
def zerosD (n : Nat) : Dk := ⟨List.replicate n zs, []⟩
abbrev zP : AObj := .row true 50 [.v (.slice none 0 0), .v (.slice none 0 0)]
abbrev L_nw (n i : Nat) : ASt := ⟨envOf [(2, .op 0 0), (4, .op 1 0), (12, .v (.int .i64 n)), (13, .v (.int .i64 i))],
  heapOf [(0, zP), (1, .row true 50 [.os 2 0 i 1, .v (.slice none 0 0)]), (2, .row true 22 (eL true (List.replicate i zs)))], 3⟩
theorem imp_zeros (n : Nat) : Imp (.tup [.agg [fL true (List.replicate n zs), .v (.slice none 0 0)], .v (.int .i64 0)]) (.tup [aDk true (zerosD n), .v (.int .i64 0)]) :=
  Imp.tupL ⟨Imp.aggL ⟨Imp.refl _, Imp.nil true, trivial⟩, Imp.refl _, trivial⟩
set_option maxHeartbeats 1000000 in
theorem new_spec (n : Nat) (nb : Nat) (h1 : 1 ≤ n) (h2 : n ≤ 2048) : ASound Tryz.prog 26 [.v (.int .i64 n)] nb (.ret (.tup [aDk true (zerosD n), .v (.int .i64 0)]) []) := by
  refine ok_26.sound (by simp) ⟨trivial, trivial⟩ ?_
  have f1 : ¬ ((n : Int) < 1) := by omega
  have f2 : ¬ ((2048 : Int) < (n : Int)) := by omega
  have t6 : Int.toNat 64 = 64 := rfl
  simp only [ac_26, f1, f2, TT, ↓reduceIte, Nat.reduceEqDiff, Nat.reduceAdd, Nat.reduceMul, reduceCtorEq, Nat.reduceLeDiff]
  refine AWc.family (L_nw n) (fun i => i ≤ n) (fun i => n - i) 0 (Nat.zero_le _) ?_ ?_
  · refine Weak.trans (Weak.virtC 22 1 (l := [(2, .op 0 0), (4, .op 800000 0), (12, .v (.int .i64 n)), (13, .v (.int .i64 0))])
      (h := [(0, zP), (800000, .row true 50 [.os 1100000 0 0 1, .v (.slice none 0 0)])]) ?_ ?_) (Weak.calc [(0, 0), (800000, 1), (1100000, 2)] (by decide) ?_ ?_)
    all_goals simp [WT, eL]
  · intro i hi
    by_cases hlt : i < n
    · have e1 : ((i : Int) < (n : Int)) := by omega
      have hl : (eL true (List.replicate i zs)).length = i := by rw [len_L, List.length_replicate]
      have hcs : eL true (List.replicate i zs) ++ [AV.fs true (eB zs) 64] = eL true (List.replicate (i + 1) zs) := by rw [List.replicate_succ', app_L]; rfl
      have hz : eB (List.replicate 64 0) = eB zs := rfl
      simp only [L_nw, e1, t6, rep_B, hz, hl, TT, ↓reduceIte, Nat.reduceEqDiff, Nat.reduceAdd, Nat.reduceMul, reduceCtorEq, Nat.reduceLeDiff]
      rw [if_pos (by decide), if_pos (by omega)]
      refine ⟨by rfl, ?_⟩
      refine famC_next (i + 1) (by omega) (by omega) ?_
      refine Weak.trans (Weak.freezeC 300003 rfl (l := [(2, .op 0 0), (4, .op 1 0), (12, .v (.int .i64 n)), (13, .v (.int .i64 (IntKind.i64.wrap ((i : Int) + 1))))])
        (h := [(0, zP), (1, .row true 50 [.os 500003 0 (i + 1) 1, .v (.slice none 0 0)]), (500003, .row true 22 (eL true (List.replicate i zs) ++ [.fs true (eB zs) 64]))]) ?_ ?_) ?_
      · simp [WT]
      · have htz : List.take 64 (eB zs) = eB zs := rfl
        simp [WT, htz]
        refine .inr ⟨i, 64, 1, ?_, ?_⟩
        · rw [List.getElem?_append_right (by omega), hl, Nat.sub_self]; rfl
        · rw [List.set_append, if_neg (by omega), hl, Nat.sub_self]; rfl
      · rw [hcs]
        refine Weak.calc [(0, 0), (1, 1), (500003, 2)] (by decide) ?_ ?_ <;> simp [WT, wrap64 (x := (i : Int) + 1) (by omega)]
    · obtain rfl : i = n := by omega
      have e1 : ¬ ((i : Int) < (i : Int)) := by omega
      simp only [L_nw, e1, TT, ↓reduceIte, Nat.reduceEqDiff, Nat.reduceAdd, Nat.reduceMul, reduceCtorEq, Nat.reduceLeDiff]
      refine Ends.weak (Weak.freezeC 2 rfl (l := [(2, .op 0 0), (3, .v (.int .i64 0))]) (h := [(0, .row true 50 [fL true (List.replicate i zs), .v (.slice none 0 0)])]) ?_ ?_) (Ends.imp (r0 := .tup [.agg [fL true (List.replicate i zs), .v (.slice none 0 0)], .v (.int .i64 0)]) (.inr rfl) (by simp [ET]) ⟨⟨al_fL _, trivial, trivial⟩, trivial, trivial⟩ (imp_zeros i))
      · simp [WT]
      · have htk : List.take i (eL true (List.replicate i zs)) = eL true (List.replicate i zs) := List.take_of_length_le (by rw [len_L, List.length_replicate]; exact Nat.le_refl _)
        simp [WT, htk]
theorem room_spec (fr : Bool) (d : Dk) (s n : Int) (nb : Nat) (h : d.sectors.length ≤ 2048) (hs : s ≤ 4096 ∧ -4096 ≤ s) : ASound Tryz.prog 50 [aDk fr d, .v (.int .i64 s), .v (.int .i64 n)] nb (.ret (.v (.bool (decide (0 ≤ s ∧ 0 ≤ n ∧ s ≤ d.sectors.length ∧ n ≤ d.sectors.length - s)))) []) := by
  refine ok_50.sound (by simp) ⟨al_aDk d, trivial, trivial, trivial⟩ ?_
  have w1 : IntKind.i64.wrap ((d.sectors.length : Int) - s) = (d.sectors.length : Int) - s := wrap64 (by omega)
  by_cases h1 : 0 ≤ s
  · by_cases h2 : 0 ≤ n
    · by_cases h3 : s ≤ (d.sectors.length : Int)
      · simp only [ac_50, h1, h2, h3, w1, TT, ↓reduceIte, Nat.reduceEqDiff, Nat.reduceAdd, Nat.reduceMul, reduceCtorEq, Nat.reduceLeDiff]
        exact Ends.data (.inr rfl) (by simp [ET]) trivial
      · have : ¬ (0 ≤ s ∧ 0 ≤ n ∧ s ≤ (d.sectors.length : Int) ∧ n ≤ d.sectors.length - s) := fun h => h3 h.2.2.1
        simp only [ac_50, h1, h2, h3, TT, ↓reduceIte, Nat.reduceEqDiff, Nat.reduceAdd, Nat.reduceMul, reduceCtorEq, Nat.reduceLeDiff]
        exact Ends.data (.inr rfl) (by simp [ET]) trivial
    · simp only [ac_50, h1, h2, TT, ↓reduceIte, Nat.reduceEqDiff, Nat.reduceAdd, Nat.reduceMul, reduceCtorEq, Nat.reduceLeDiff]
      exact Ends.data (.inr rfl) (by simp [ET]) trivial
  · simp only [ac_50, h1, TT, ↓reduceIte, Nat.reduceEqDiff, Nat.reduceAdd, Nat.reduceMul, reduceCtorEq, Nat.reduceLeDiff]
    exact Ends.data (.inr rfl) (by simp [ET]) trivial
end Go.Proofs.YtdenddhdeloceaaGreatDoor
namespace Go.Proofs.YtdenddhdeloceaaGreatDoor
set_option maxRecDepth 100000
def ac_49 : AC :=
(.seq (.reg false [⟨some 1, .box 50 (.tmp 0), none, [0], []⟩,
    ⟨some 2, .mv (.const (.int .i64 (0))), none, [], []⟩] [1])
(.seq (.reg false [⟨some 3, .new 134 [.nilFunc], none, [], []⟩,
    ⟨none, .store 1 (.tmp 3) (.func 83), none, [3], []⟩] [1, 3])
(.seq (.reg false [⟨some 5, .clo 84 [(.tmp 1), (.tmp 3)], none, [1, 3], []⟩,
    ⟨some 4, .mv (.tmp 5), none, [5], []⟩] [1, 3, 4])
(.seq (.seq (.reg false [⟨some 6, .foff 0 (.tmp 1), none, [1], []⟩,
    ⟨some 7, .load false 1 (.tmp 6), none, [6], []⟩,
    ⟨some 8, .len false (.tmp 7), none, [7], []⟩,
    ⟨some 9, .bin .lss (.tmp 8) (.const (.int .i64 (1))), none, [8], []⟩,
    ⟨some 10, .mv (.tmp 9), none, [9], []⟩,
    ⟨some 11, .foff 0 (.tmp 1), some (10, false), [1, 10], []⟩,
    ⟨some 12, .load false 1 (.tmp 11), some (10, false), [11, 10], []⟩,
    ⟨some 13, .len false (.tmp 12), some (10, false), [12, 10], []⟩,
    ⟨some 14, .bin .gtr (.tmp 13) (.const (.int .i64 (2048))), some (10, false), [13, 10], []⟩,
    ⟨some 15, .pick (.tmp 10) (.const (.bool true)) (.tmp 14), none, [10, 14], []⟩,
    ⟨some 16, .mv (.tmp 15), none, [15], []⟩,
    ⟨some 17, .foff 1 (.tmp 1), some (16, false), [1, 16], []⟩,
    ⟨some 18, .load false 1 (.tmp 17), some (16, false), [17, 16], []⟩,
    ⟨some 19, .len false (.tmp 18), some (16, false), [18, 16], []⟩,
    ⟨some 20, .bin .gtr (.tmp 19) (.const (.int .i64 (4096))), some (16, false), [19, 16], []⟩,
    ⟨some 21, .pick (.tmp 16) (.const (.bool true)) (.tmp 20), none, [16, 20], []⟩,
    ⟨some 22, .mv (.tmp 21), none, [21], []⟩,
    ⟨some 23, .foff 0 (.tmp 1), some (22, false), [1, 22], []⟩,
    ⟨some 24, .load false 1 (.tmp 23), some (22, false), [23, 22], []⟩,
    ⟨some 25, .load false 1 (.tmp 3), some (22, false), [3, 22], []⟩,
    ⟨some 26, .call 85 [(.tmp 24), (.tmp 25)], some (22, false), [24, 25, 22], []⟩,
    ⟨some 27, .pick (.tmp 22) (.const (.bool true)) (.tmp 26), none, [22, 26], []⟩,
    ⟨some 28, .mv (.tmp 27), none, [27], []⟩,
    ⟨some 29, .foff 1 (.tmp 1), some (28, false), [1, 28], []⟩,
    ⟨some 30, .load false 1 (.tmp 29), some (28, false), [29, 28], []⟩,
    ⟨some 31, .mv (.tmp 4), some (28, false), [4, 28], []⟩,
    ⟨some 32, .call 86 [(.tmp 30), (.tmp 31)], some (28, false), [30, 31, 28], []⟩,
    ⟨some 33, .pick (.tmp 28) (.const (.bool true)) (.tmp 32), none, [28, 32], []⟩] [33])
(.cond (.tmp 33)
(.seq (.reg false [⟨some 2, .mv (.const (.int .i64 (9))), none, [], []⟩] [2])
.ret)
.skip))
(.seq (.reg false [⟨some 2, .mv (.const (.int .i64 (0))), none, [], []⟩] [2])
.ret)))))
theorem ok_49 : FnOk Tryz.prog 49 34 ac_49 [.tmp 2] := ⟨Tryz.f49, Tryz.func49, by kernel_rfl, by kernel_rfl, by kernel_rfl, by kernel_rfl, by kernel_rfl⟩
def ac_83 : AC :=
(.seq (.reg false [⟨some 2, .mv (.const (.bool false)), none, [], []⟩] [0])
(.seq (.reg false [⟨some 3, .mv (.tmp 0), none, [0], []⟩,
    ⟨some 4, .len false (.tmp 3), none, [3], []⟩,
    ⟨some 5, .bin .neq (.tmp 4) (.const (.int .i64 (64))), none, [4], []⟩,
    ⟨some 2, .mv (.tmp 5), none, [5], []⟩] [2])
.ret))
theorem ok_83 : FnOk Tryz.prog 83 6 ac_83 [.tmp 2] := ⟨Tryz.f83, Tryz.func83, by kernel_rfl, by kernel_rfl, by kernel_rfl, by kernel_rfl, by kernel_rfl⟩
def ac_84 : AC :=
(.seq (.reg false [⟨some 3, .box 90 (.tmp 0), none, [0], []⟩,
    ⟨some 4, .mv (.const (.bool false)), none, [], []⟩] [1, 2, 3])
(.seq (.reg false [⟨some 5, .foff 0 (.tmp 3), none, [3], []⟩,
    ⟨some 6, .load false 1 (.tmp 5), none, [5], []⟩,
    ⟨some 7, .bin .lss (.tmp 6) (.const (.int .i64 (0))), none, [6], []⟩,
    ⟨some 8, .mv (.tmp 7), none, [7], []⟩,
    ⟨some 9, .foff 0 (.tmp 3), some (8, false), [3, 8], []⟩,
    ⟨some 10, .load false 1 (.tmp 9), some (8, false), [9, 8], []⟩,
    ⟨some 11, .foff 0 (.tmp 1), some (8, false), [1, 8], []⟩,
    ⟨some 12, .load false 1 (.tmp 11), some (8, false), [11, 8], []⟩,
    ⟨some 13, .len false (.tmp 12), some (8, false), [12, 8], []⟩,
    ⟨some 14, .bin .geq (.tmp 10) (.tmp 13), some (8, false), [10, 13, 8], []⟩,
    ⟨some 15, .pick (.tmp 8) (.const (.bool true)) (.tmp 14), none, [8, 14], []⟩,
    ⟨some 16, .mv (.tmp 15), none, [15], []⟩,
    ⟨some 17, .load false 1 (.tmp 2), some (16, false), [2, 16], []⟩,
    ⟨some 18, .foff 1 (.tmp 3), some (16, false), [3, 16], []⟩,
    ⟨some 19, .load false 1 (.tmp 18), some (16, false), [18, 16], []⟩,
    ⟨some 20, .callv (.tmp 17) [(.tmp 19)], some (16, false), [17, 19, 16], []⟩,
    ⟨some 21, .pick (.tmp 16) (.const (.bool true)) (.tmp 20), none, [16, 20], []⟩,
    ⟨some 4, .mv (.tmp 21), none, [21], []⟩] [4])
.ret))
theorem ok_84 : FnOk Tryz.prog 84 22 ac_84 [.tmp 4] := ⟨Tryz.f84, Tryz.func84, by kernel_rfl, by kernel_rfl, by kernel_rfl, by kernel_rfl, by kernel_rfl⟩
def ac_85 : AC :=
(.seq (.reg false [⟨some 4, .mv (.const (.bool false)), none, [], []⟩] [0, 1])
(.seq (.reg false [⟨some 5, .mv (.tmp 0), none, [0], []⟩,
    ⟨some 6, .mv (.tmp 1), none, [1], []⟩,
    ⟨some 7, .call 105 [(.tmp 5), (.tmp 6)], none, [5, 6], []⟩,
    ⟨some 8, .bin .geq (.tmp 7) (.const (.int .i64 (0))), none, [7], []⟩,
    ⟨some 4, .mv (.tmp 8), none, [8], []⟩] [4])
.ret))
theorem ok_85 : FnOk Tryz.prog 85 9 ac_85 [.tmp 4] := ⟨Tryz.f85, Tryz.func85, by kernel_rfl, by kernel_rfl, by kernel_rfl, by kernel_rfl, by kernel_rfl⟩
def ac_86 : AC :=
(.seq (.reg false [⟨some 4, .mv (.const (.bool false)), none, [], []⟩] [0, 1])
(.seq (.reg false [⟨some 5, .mv (.tmp 0), none, [0], []⟩,
    ⟨some 6, .mv (.tmp 1), none, [1], []⟩,
    ⟨some 7, .call 106 [(.tmp 5), (.tmp 6)], none, [5, 6], []⟩,
    ⟨some 8, .bin .geq (.tmp 7) (.const (.int .i64 (0))), none, [7], []⟩,
    ⟨some 4, .mv (.tmp 8), none, [8], []⟩] [4])
.ret))
theorem ok_86 : FnOk Tryz.prog 86 9 ac_86 [.tmp 4] := ⟨Tryz.f86, Tryz.func86, by kernel_rfl, by kernel_rfl, by kernel_rfl, by kernel_rfl, by kernel_rfl⟩
def ac_105 : AC :=
(.seq (.reg false [⟨some 4, .mv (.const (.int .i64 (0))), none, [], []⟩] [0, 1])
(.seq (.seq (.reg false [⟨some 6, .mv (.tmp 0), none, [0], []⟩,
    ⟨some 7, .len false (.tmp 6), none, [6], []⟩,
    ⟨some 8, .mv (.const (.int .i64 (0))), none, [], []⟩] [0, 1, 7, 8])
(.block 0 (.loop (.seq (.reg false [⟨some 9, .bin .lss (.tmp 8) (.tmp 7), none, [8, 7], []⟩] [0, 1, 7, 8, 9])
(.seq (.cond (.tmp 9)
.skip
(.exit 0))
(.seq (.block 1 (.seq (.reg false [⟨some 10, .mv (.tmp 8), none, [8], []⟩,
    ⟨some 5, .mv (.tmp 10), none, [10], []⟩] [0, 1, 5, 7, 8])
(.seq (.reg false [⟨some 11, .mv (.tmp 1), none, [1], []⟩,
    ⟨some 12, .mv (.tmp 0), none, [0], []⟩,
    ⟨some 13, .mv (.tmp 5), none, [5], []⟩,
    ⟨some 14, .idx 1 (.tmp 12) (.tmp 13), none, [12, 13], []⟩,
    ⟨some 15, .load false 1 (.tmp 14), none, [14], []⟩,
    ⟨some 16, .callv (.tmp 11) [(.tmp 15)], none, [11, 15], []⟩] [0, 1, 5, 7, 8, 16])
(.cond (.tmp 16)
(.seq (.reg false [⟨some 17, .mv (.tmp 5), none, [5], []⟩,
    ⟨some 4, .mv (.tmp 17), none, [17], []⟩] [4])
.ret)
.skip))))
(.reg false [⟨some 18, .bin .add (.tmp 8) (.const (.int .i64 (1))), none, [8], []⟩,
    ⟨some 8, .mv (.tmp 18), none, [18], []⟩] [0, 1, 7, 8])))))))
(.seq (.reg false [⟨some 4, .mv (.const (.int .i64 (-1))), none, [], []⟩] [4])
.ret)))
theorem ok_105 : FnOk Tryz.prog 105 19 ac_105 [.tmp 4] := ⟨Tryz.f105, Tryz.func105, by kernel_rfl, by kernel_rfl, by kernel_rfl, by kernel_rfl, by kernel_rfl⟩
def ac_106 : AC :=
(.seq (.reg false [⟨some 4, .mv (.const (.int .i64 (0))), none, [], []⟩] [0, 1])
(.seq (.seq (.reg false [⟨some 6, .mv (.tmp 0), none, [0], []⟩,
    ⟨some 7, .len false (.tmp 6), none, [6], []⟩,
    ⟨some 8, .mv (.const (.int .i64 (0))), none, [], []⟩] [0, 1, 7, 8])
(.block 0 (.loop (.seq (.reg false [⟨some 9, .bin .lss (.tmp 8) (.tmp 7), none, [8, 7], []⟩] [0, 1, 7, 8, 9])
(.seq (.cond (.tmp 9)
.skip
(.exit 0))
(.seq (.block 1 (.seq (.reg false [⟨some 10, .mv (.tmp 8), none, [8], []⟩,
    ⟨some 5, .mv (.tmp 10), none, [10], []⟩] [0, 1, 5, 7, 8])
(.seq (.reg false [⟨some 11, .mv (.tmp 1), none, [1], []⟩,
    ⟨some 12, .mv (.tmp 0), none, [0], []⟩,
    ⟨some 13, .mv (.tmp 5), none, [5], []⟩,
    ⟨some 14, .idx 2 (.tmp 12) (.tmp 13), none, [12, 13], []⟩,
    ⟨some 15, .load true 2 (.tmp 14), none, [14], []⟩,
    ⟨some 16, .callv (.tmp 11) [(.tmp 15)], none, [11, 15], []⟩] [0, 1, 5, 7, 8, 16])
(.cond (.tmp 16)
(.seq (.reg false [⟨some 17, .mv (.tmp 5), none, [5], []⟩,
    ⟨some 4, .mv (.tmp 17), none, [17], []⟩] [4])
.ret)
.skip))))
(.reg false [⟨some 18, .bin .add (.tmp 8) (.const (.int .i64 (1))), none, [8], []⟩,
    ⟨some 8, .mv (.tmp 18), none, [18], []⟩] [0, 1, 7, 8])))))))
(.seq (.reg false [⟨some 4, .mv (.const (.int .i64 (-1))), none, [], []⟩] [4])
.ret)))
theorem ok_106 : FnOk Tryz.prog 106 19 ac_106 [.tmp 4] := ⟨Tryz.f106, Tryz.func106, by kernel_rfl, by kernel_rfl, by kernel_rfl, by kernel_rfl, by kernel_rfl⟩
def ac_87 : AC :=
(.seq (.reg false [⟨some 1, .box 50 (.tmp 0), none, [0], []⟩,
    ⟨some 2, .new 50 [(.slice none 0 0), (.slice none 0 0)], none, [], []⟩] [1, 2])
(.seq (.reg true [⟨some 6, .foff 0 (.tmp 1), none, [1], []⟩,
    ⟨some 7, .load false 1 (.tmp 6), none, [6], [0]⟩,
    ⟨some 8, .call 107 [(.tmp 7)], none, [7], [1, 0]⟩,
    ⟨some 9, .foff 1 (.tmp 1), none, [1], []⟩,
    ⟨some 10, .load false 1 (.tmp 9), none, [9], [3]⟩,
    ⟨some 11, .call 108 [(.tmp 10)], none, [10], [4, 2, 3, 1, 0]⟩,
    ⟨some 12, .build [(.slice none 0 0), (.slice none 0 0)] [(0, 1, (.tmp 8)), (1, 1, (.tmp 11))], none, [8, 11], [2, 5, 1, 0, 4, 3]⟩,
    ⟨some 3, .new 50 [(.slice none 0 0), (.slice none 0 0)], none, [], []⟩,
    ⟨none, .store 2 (.tmp 3) (.tmp 12), none, [3, 12], [7, 6, 5, 0, 1, 2, 3, 4]⟩] [2, 3])
(.seq (.seq (.reg false [⟨some 13, .foff 0 (.tmp 3), none, [3], []⟩,
    ⟨some 14, .load false 1 (.tmp 13), none, [13], []⟩,
    ⟨some 15, .len false (.tmp 14), none, [14], []⟩,
    ⟨some 16, .mv (.const (.int .i64 (0))), none, [], []⟩] [2, 3, 15, 16])
(.block 0 (.loop (.seq (.reg false [⟨some 17, .bin .lss (.tmp 16) (.tmp 15), none, [16, 15], []⟩] [2, 3, 15, 16, 17])
(.seq (.cond (.tmp 17)
.skip
(.exit 0))
(.seq (.block 1 (.seq (.reg false [⟨some 18, .mv (.tmp 16), none, [16], []⟩,
    ⟨some 4, .mv (.tmp 18), none, [18], []⟩] [2, 3, 4, 15, 16])
(.reg true [⟨some 19, .foff 0 (.tmp 3), none, [3], []⟩,
    ⟨some 20, .load false 1 (.tmp 19), none, [19], [0]⟩,
    ⟨some 21, .mv (.tmp 4), none, [4], []⟩,
    ⟨some 22, .foff 0 (.tmp 3), none, [3], []⟩,
    ⟨some 23, .load false 1 (.tmp 22), none, [22], [3]⟩,
    ⟨some 24, .mv (.tmp 4), none, [4], []⟩,
    ⟨some 25, .idx 1 (.tmp 23) (.tmp 24), none, [23, 24], [4, 5, 3]⟩,
    ⟨some 26, .load false 1 (.tmp 25), none, [25], [6, 4, 5, 3]⟩,
    ⟨some 27, .call 95 [(.tmp 26)], none, [26], [7, 6, 4, 5, 3]⟩,
    ⟨some 28, .idx 1 (.tmp 20) (.tmp 21), none, [20, 21], [1, 2, 0, 3, 4, 5, 6, 7, 8]⟩,
    ⟨none, .store 1 (.tmp 28) (.tmp 27), none, [28, 27], [9, 8, 0, 1, 2, 3, 4, 5, 6, 7]⟩] [2, 3, 15, 16])))
(.reg false [⟨some 29, .bin .add (.tmp 16) (.const (.int .i64 (1))), none, [16], []⟩,
    ⟨some 16, .mv (.tmp 29), none, [29], []⟩] [2, 3, 15, 16])))))))
(.seq (.seq (.reg false [⟨some 30, .foff 1 (.tmp 3), none, [3], []⟩,
    ⟨some 31, .load false 1 (.tmp 30), none, [30], []⟩,
    ⟨some 32, .len false (.tmp 31), none, [31], []⟩,
    ⟨some 33, .mv (.const (.int .i64 (0))), none, [], []⟩] [2, 3, 32, 33])
(.block 2 (.loop (.seq (.reg false [⟨some 34, .bin .lss (.tmp 33) (.tmp 32), none, [33, 32], []⟩] [2, 3, 32, 33, 34])
(.seq (.cond (.tmp 34)
.skip
(.exit 2))
(.seq (.block 3 (.seq (.reg false [⟨some 35, .mv (.tmp 33), none, [33], []⟩,
    ⟨some 5, .mv (.tmp 35), none, [35], []⟩] [2, 3, 5, 32, 33])
(.reg true [⟨some 36, .foff 1 (.tmp 3), none, [3], []⟩,
    ⟨some 37, .load false 1 (.tmp 36), none, [36], [0]⟩,
    ⟨some 38, .mv (.tmp 5), none, [5], []⟩,
    ⟨some 39, .foff 1 (.tmp 3), none, [3], []⟩,
    ⟨some 40, .load false 1 (.tmp 39), none, [39], [3]⟩,
    ⟨some 41, .mv (.tmp 5), none, [5], []⟩,
    ⟨some 42, .idx 2 (.tmp 40) (.tmp 41), none, [40, 41], [4, 5, 3]⟩,
    ⟨some 43, .foff 1 (.tmp 42), none, [42], [6, 4, 5, 3]⟩,
    ⟨some 44, .load false 1 (.tmp 43), none, [43], [7, 6, 4, 5, 3]⟩,
    ⟨some 45, .call 95 [(.tmp 44)], none, [44], [8, 7, 6, 4, 5, 3]⟩,
    ⟨some 46, .idx 2 (.tmp 37) (.tmp 38), none, [37, 38], [1, 2, 0, 3, 4, 5, 6, 7, 8, 9]⟩,
    ⟨some 47, .foff 1 (.tmp 46), none, [46], [10, 0, 1, 2, 3, 4, 5, 6, 7, 8, 9]⟩,
    ⟨none, .store 1 (.tmp 47) (.tmp 45), none, [47, 45], [11, 9, 0, 1, 2, 3, 4, 5, 6, 7, 8, 10]⟩] [2, 3, 32, 33])))
(.reg false [⟨some 48, .bin .add (.tmp 33) (.const (.int .i64 (1))), none, [33], []⟩,
    ⟨some 33, .mv (.tmp 48), none, [48], []⟩] [2, 3, 32, 33])))))))
(.seq (.reg false [⟨some 49, .load true 2 (.tmp 3), none, [3], []⟩,
    ⟨none, .store 2 (.tmp 2) (.tmp 49), none, [2, 49], []⟩] [2])
.ret)))))
theorem ok_87 : FnOk Tryz.prog 87 50 ac_87 [.cell 2 true 2] := ⟨Tryz.f87, Tryz.func87, by kernel_rfl, by kernel_rfl, by kernel_rfl, by kernel_rfl, by kernel_rfl⟩
def ac_52 : AC :=
(.seq (.reg false [⟨some 2, .box 50 (.tmp 0), none, [0], []⟩,
    ⟨some 4, .new 50 [(.slice none 0 0), (.slice none 0 0)], none, [], []⟩,
    ⟨some 5, .mv (.const (.int .i64 (0))), none, [], []⟩] [1, 2, 4])
(.seq (.seq (.reg false [⟨some 10, .load true 2 (.tmp 2), none, [2], []⟩,
    ⟨some 11, .call 49 [(.tmp 10)], none, [10], []⟩,
    ⟨some 6, .mv (.tmp 11), none, [11], []⟩] [1, 2, 4, 6])
(.seq (.reg false [⟨some 12, .mv (.tmp 6), none, [6], []⟩,
    ⟨some 13, .bin .neq (.tmp 12) (.const (.int .i64 (0))), none, [12], []⟩] [1, 2, 4, 6, 13])
(.cond (.tmp 13)
(.seq (.reg false [⟨some 14, .build [(.slice none 0 0), (.slice none 0 0)] [], none, [], []⟩,
    ⟨some 15, .mv (.tmp 6), none, [6], []⟩,
    ⟨none, .store 2 (.tmp 4) (.tmp 14), none, [4, 14], []⟩,
    ⟨some 5, .mv (.tmp 15), none, [15], []⟩] [4, 5])
.ret)
.skip)))
(.seq (.reg false [⟨some 16, .load true 2 (.tmp 2), none, [2], []⟩,
    ⟨some 17, .call 87 [(.tmp 16)], none, [16], []⟩,
    ⟨some 7, .new 50 [(.slice none 0 0), (.slice none 0 0)], none, [], []⟩,
    ⟨none, .store 2 (.tmp 7) (.tmp 17), none, [7, 17], []⟩] [1, 4, 7])
(.seq (.seq (.reg false [⟨some 18, .foff 1 (.tmp 7), none, [7], []⟩,
    ⟨some 19, .load false 1 (.tmp 18), none, [18], []⟩,
    ⟨some 20, .len false (.tmp 19), none, [19], []⟩,
    ⟨some 21, .mv (.const (.int .i64 (0))), none, [], []⟩] [1, 4, 7, 19, 20, 21])
(.block 0 (.loop (.seq (.reg false [⟨some 22, .bin .lss (.tmp 21) (.tmp 20), none, [21, 20], []⟩] [1, 4, 7, 19, 20, 21, 22])
(.seq (.cond (.tmp 22)
.skip
(.exit 0))
(.seq (.block 1 (.seq (.reg false [⟨some 23, .mv (.tmp 21), none, [21], []⟩,
    ⟨some 24, .idx 2 (.tmp 19) (.tmp 21), none, [19, 21], []⟩,
    ⟨some 25, .load true 2 (.tmp 24), none, [24], []⟩,
    ⟨some 9, .new 90 [(.int .i64 (0)), (.slice none 0 0)], none, [], []⟩,
    ⟨some 8, .mv (.tmp 23), none, [23], []⟩,
    ⟨none, .store 2 (.tmp 9) (.tmp 25), none, [9, 25], []⟩] [1, 4, 7, 8, 9, 19, 20, 21])
(.seq (.reg false [⟨some 26, .mv (.tmp 1), none, [1], []⟩,
    ⟨some 27, .mv (.tmp 8), none, [8], []⟩,
    ⟨some 28, .callv (.tmp 26) [(.tmp 27)], none, [26, 27], []⟩] [1, 4, 7, 9, 19, 20, 21, 28])
(.cond (.tmp 28)
(.reg true [⟨some 29, .foff 0 (.tmp 7), none, [7], []⟩,
    ⟨some 30, .load false 1 (.tmp 29), none, [29], [0]⟩,
    ⟨some 31, .foff 0 (.tmp 9), none, [9], []⟩,
    ⟨some 32, .load false 1 (.tmp 31), none, [31], [2]⟩,
    ⟨some 33, .idx 1 (.tmp 30) (.tmp 32), none, [30, 32], [1, 3, 0, 2]⟩,
    ⟨some 34, .load false 1 (.tmp 33), none, [33], [4, 1, 3, 0, 2]⟩,
    ⟨some 35, .foff 1 (.tmp 9), none, [9], []⟩,
    ⟨some 36, .load false 1 (.tmp 35), none, [35], [6]⟩,
    ⟨some 37, .copy (.tmp 34) (.tmp 36), none, [34, 36], [5, 7, 4, 1, 3, 0, 2, 6]⟩] [1, 4, 7, 19, 20, 21])
.skip))))
(.reg false [⟨some 38, .bin .add (.tmp 21) (.const (.int .i64 (1))), none, [21], []⟩,
    ⟨some 21, .mv (.tmp 38), none, [38], []⟩] [1, 4, 7, 19, 20, 21])))))))
(.seq (.reg false [⟨some 39, .foff 1 (.tmp 7), none, [7], []⟩,
    ⟨none, .store 1 (.tmp 39) (.const (.slice none 0 0)), none, [39], []⟩] [4, 7])
(.seq (.reg false [⟨some 40, .load true 2 (.tmp 7), none, [7], []⟩,
    ⟨none, .store 2 (.tmp 4) (.tmp 40), none, [4, 40], []⟩,
    ⟨some 5, .mv (.const (.int .i64 (0))), none, [], []⟩] [4, 5])
.ret))))))
theorem ok_52 : FnOk Tryz.prog 52 41 ac_52 [.cell 4 true 2, .tmp 5] := ⟨Tryz.f52, Tryz.func52, by kernel_rfl, by kernel_rfl, by kernel_rfl, by kernel_rfl, by kernel_rfl⟩
end Go.Proofs.YtdenddhdeloceaaGreatDoor
namespace Go.Proofs.YtdenddhdeloceaaGreatDoor
open Go.RowKit
set_option maxRecDepth 100000
theorem odd_spec (fr : Bool) (t : List Int) (nb : Nat) : ASound Tryz.prog 83 [fB fr t] nb (.ret (.v (.bool (decide (t.length ≠ 64)))) []) := by
  refine ok_83.sound (by simp) ⟨al_fB t, trivial⟩ ?_
  by_cases h : t.length = 64
  · have f : (t.length : Int) = 64 := by omega
    simp only [ac_83, f, TT, ↓reduceIte, Nat.reduceEqDiff, Nat.reduceAdd, Nat.reduceMul, reduceCtorEq, Nat.reduceLeDiff]
    exact Ends.data (.inr rfl) (by simp [ET, h]) trivial
  · have f : ¬ (t.length : Int) = 64 := by omega
    simp only [ac_83, f, TT, ↓reduceIte, Nat.reduceEqDiff, Nat.reduceAdd, Nat.reduceMul, reduceCtorEq, Nat.reduceLeDiff]
    exact Ends.data (.inr rfl) (by simp [ET, h]) trivial
/-- the first that is odd, or -1 -/
def idxB : List (List Int) → Nat → Int
  | [], _ => -1
  | t :: l, k => if t.length ≠ 64 then (k : Int) else idxB l (k + 1)
theorem idxB_drop {l : List (List Int)} {i : Nat} {t : List Int} (h : l[i]? = some t) : idxB (l.drop i) i = if t.length ≠ 64 then (i : Int) else idxB (l.drop (i + 1)) (i + 1) := by
  have hi := (List.getElem?_eq_some_iff.1 h)
  rw [List.drop_eq_getElem_cons hi.1, hi.2]
  rfl
theorem idxB_pos : ∀ (l : List (List Int)) (k : Nat), 0 ≤ idxB l k ↔ ∃ t ∈ l, t.length ≠ 64
  | [], k => by simp [idxB]
  | t :: l, k => by
    rw [idxB]
    by_cases h : t.length = 64
    · rw [if_neg (by simp [h]), idxB_pos l (k + 1)]; simp [h]
    · rw [if_pos h]; constructor
      · intro _; exact ⟨t, by simp, h⟩
      · intro _; omega
abbrev L_ix (fr : Bool) (l : List (List Int)) (i : Nat) : ASt := ⟨envOf [(0, fL fr l), (1, .fn 83 []), (7, .v (.int .i64 l.length)), (8, .v (.int .i64 i))], heapOf [], 0⟩
theorem index1_spec (fr : Bool) (l : List (List Int)) (nb : Nat) (hl : l.length ≤ 140737488355328) : ASound Tryz.prog 105 [fL fr l, .fn 83 []] nb (.ret (.v (.int .i64 (idxB l 0))) []) := by
  refine ok_105.sound (by simp) ⟨al_fL l, trivial, trivial⟩ ?_
  simp only [ac_105, TT, ↓reduceIte, Nat.reduceEqDiff, Nat.reduceAdd, Nat.reduceMul, reduceCtorEq, Nat.reduceLeDiff]
  refine AWc.family (L_ix fr l) (fun i => i ≤ l.length ∧ idxB (l.drop i) i = idxB l 0) (fun i => l.length - i) 0 ⟨Nat.zero_le _, rfl⟩ ?_ ?_
  · refine Weak.calc [] (by decide) ?_ ?_ <;> simp [WT]
  · rintro i ⟨hi, he⟩
    by_cases hlt : i < l.length
    · obtain ⟨t, hx, e1, e0⟩ := lt_at hlt
      have ho := odd_spec fr t
      simp only [fB] at ho
      rw [idxB_drop hx] at he
      simp only [L_ix, e1, e0, get_L hx, TT, ↓reduceIte, Nat.reduceEqDiff, Nat.reduceAdd, Nat.reduceMul, reduceCtorEq, Nat.reduceLeDiff]
      refine ⟨_, _, _, rfl, ho _, ?_⟩
      by_cases h : t.length = 64
      · rw [if_neg (by simp [h])] at he
        simp only [h, ne_eq, not_true_eq_false, decide_false, TT, ↓reduceIte, Nat.reduceEqDiff, Nat.reduceAdd, Nat.reduceMul, reduceCtorEq, Nat.reduceLeDiff]
        refine famC_next (i + 1) (by omega) ⟨by omega, he⟩ ?_
        refine Weak.calc [] (by decide) ?_ ?_ <;> simp [WT, wrap64 (x := (i : Int) + 1) (by omega)]
      · rw [if_pos h] at he
        rw [← he]
        simp only [h, ne_eq, not_false_eq_true, decide_true, TT, ↓reduceIte, Nat.reduceEqDiff, Nat.reduceAdd, Nat.reduceMul, reduceCtorEq, Nat.reduceLeDiff]
        exact Ends.data (.inr rfl) (by simp [ET]) trivial
    · obtain rfl : i = l.length := by omega
      have e1 : ¬ ((l.length : Int) < (l.length : Int)) := by omega
      have : idxB l 0 = -1 := by rw [← he, List.drop_length]; rfl
      rw [this]
      simp only [L_ix, e1, TT, ↓reduceIte, Nat.reduceEqDiff, Nat.reduceAdd, Nat.reduceMul, reduceCtorEq, Nat.reduceLeDiff]
      exact Ends.data (.inr rfl) (by simp [ET]) trivial
theorem contains1_spec (fr : Bool) (l : List (List Int)) (nb : Nat) (hl : l.length ≤ 140737488355328) : ASound Tryz.prog 85 [fL fr l, .fn 83 []] nb (.ret (.v (.bool (decide (∃ t ∈ l, t.length ≠ 64)))) []) := by
  refine ok_85.sound (by simp) ⟨al_fL l, trivial, trivial⟩ ?_
  have hi := index1_spec fr l
  simp only [fL] at hi
  simp only [ac_85, TT, ↓reduceIte, Nat.reduceEqDiff, Nat.reduceAdd, Nat.reduceMul, reduceCtorEq, Nat.reduceLeDiff]
  refine ⟨_, hi _ hl, ?_⟩
  simp only [TT, ↓reduceIte, Nat.reduceEqDiff, Nat.reduceAdd, Nat.reduceMul, reduceCtorEq, Nat.reduceLeDiff]
  exact Ends.data (.inr rfl) (by simp [ET, idxB_pos]) trivial
end Go.Proofs.YtdenddhdeloceaaGreatDoor
namespace Go.Proofs.YtdenddhdeloceaaGreatDoor
open Go.RowKit
set_option maxRecDepth 100000
abbrev kr (fr : Bool) (d : Dk) (id1 id2 : Nat) : List RW := [(id1, true, 50, [fL fr d.sectors, fWrs fr d.cache]), (id2, true, 134, [.fn 83 []])]
abbrev ko (fr : Bool) (d : Dk) : List (Option (List AV)) := [some [fL fr d.sectors, fWrs fr d.cache], some [.fn 83 []]]
instance (n : Nat) (w : Wr) : Decidable (badW n w) := by unfold badW; infer_instance
theorem bad_spec (fr fw : Bool) (d : Dk) (w : Wr) (id1 id2 nb : Nat) (h12 : id1 ≠ id2) (h1 : id1 < nb) (h2 : id2 < nb) :
    ASound Tryz.prog 84 [.agg [.v (.int .i64 w.sec), fB fw w.data], .op id1 0, .op id2 0] nb (rowsM (kr fr d id1 id2) (.ret (.v (.bool (decide (badW d.sectors.length w)))) (outW (kr fr d id1 id2) (ko fr d)))) := by
  have hX := FnOk.soundX (m := 2) (kr fr d id1 id2) (ko fr d) ok_84 (args := [.agg [.v (.int .i64 w.sec), fB fw w.data], .op id1 0, .op id2 0]) (nb := nb) (r := .v (.bool (decide (badW d.sectors.length w)))) (W := []) (by simp)
    ⟨⟨trivial, al_B _, trivial⟩, by simp [Al], by simp [Al], trivial⟩ (by simp [h12]) (by intro x hx; simp at hx; rcases hx with rfl | rfl; exact ⟨by simp, ⟨al_L _, al_Wrs _, trivial⟩, h1⟩; exact ⟨by simp, ⟨trivial, trivial⟩, h2⟩) rfl (by simp) (by intro k cl hk; have : k < (ko fr d).length := (List.getElem?_eq_some_iff.1 hk).1; simpa using this) ?_
  · rw [List.append_nil] at hX; exact hX
  have hr1 : rn [(id1, 0), (id2, 1)] id1 = 0 := by simp [rn]
  have hr2 : rn [(id1, 0), (id2, 1)] id2 = 1 := by simp [rn, h12]
  have ho := odd_spec fw w.data
  simp only [fB] at ho
  simp only [ac_84, kr, rowsIn, renL, ren, List.map_cons, List.map_nil, List.zipIdx_cons, List.zipIdx_nil, hr1, hr2, ren_B, TT, ↓reduceIte, Nat.reduceEqDiff, Nat.reduceAdd, Nat.reduceMul, reduceCtorEq, Nat.reduceLeDiff]
  have hk : ∀ s : ASt, s.σ 0 = some (.row true 50 [fL fr d.sectors, fWrs fr d.cache]) → s.σ 1 = some (.row true 134 [.fn 83 []]) → keepOk (kr fr d id1 id2) (ko fr d) 0 s.σ [] := fun s a b => ⟨⟨a, by simp, al_L _, al_Wrs _, trivial⟩, ⟨b, by simp, trivial, trivial⟩, trivial⟩
  by_cases b1 : w.sec < 0
  · have hb : badW d.sectors.length w := .inl b1
    simp only [b1, not_true_eq_false, not_false_eq_true, TT, ↓reduceIte, Nat.reduceEqDiff, Nat.reduceAdd, Nat.reduceMul, reduceCtorEq, Nat.reduceLeDiff]
    exact EndsX.data (.inr rfl) (by simp [ET, hb]) trivial (hk _ (by simp [ET, fL, fWrs]) (by simp [ET]))
  by_cases b2 : (d.sectors.length : Int) ≤ w.sec
  · have hb : badW d.sectors.length w := .inr (.inl b2)
    simp only [b1, b2, not_true_eq_false, not_false_eq_true, TT, ↓reduceIte, Nat.reduceEqDiff, Nat.reduceAdd, Nat.reduceMul, reduceCtorEq, Nat.reduceLeDiff]
    exact EndsX.data (.inr rfl) (by simp [ET, hb]) trivial (hk _ (by simp [ET, fL, fWrs]) (by simp [ET]))
  · have hb : badW d.sectors.length w ↔ w.data.length ≠ 64 := ⟨fun h => by rcases h with h | h | h; exact absurd h b1; exact absurd h b2; exact h, fun h => .inr (.inr h)⟩
    simp only [b1, b2, not_true_eq_false, not_false_eq_true, TT, ↓reduceIte, Nat.reduceEqDiff, Nat.reduceAdd, Nat.reduceMul, reduceCtorEq, Nat.reduceLeDiff]
    refine ⟨_, _, _, rfl, ho _, ?_⟩
    simp only [TT, ↓reduceIte, Nat.reduceEqDiff, Nat.reduceAdd, Nat.reduceMul, reduceCtorEq, Nat.reduceLeDiff]
    exact EndsX.data (.inr rfl) (by simp [ET, hb]) trivial (hk _ (by simp [ET, fL, fWrs]) (by simp [ET]))
end Go.Proofs.YtdenddhdeloceaaGreatDoor
namespace Go.Proofs.YtdenddhdeloceaaGreatDoor
open Go.RowKit
set_option maxRecDepth 100000
def idxW (n : Nat) : List Wr → Nat → Int
  | [], _ => -1
  | w :: l, k => if badW n w then (k : Int) else idxW n l (k + 1)
theorem idxW_drop {n : Nat} {l : List Wr} {i : Nat} {w : Wr} (h : l[i]? = some w) : idxW n (l.drop i) i = if badW n w then (i : Int) else idxW n (l.drop (i + 1)) (i + 1) := by
  have hi := (List.getElem?_eq_some_iff.1 h)
  rw [List.drop_eq_getElem_cons hi.1, hi.2]
  rfl
theorem idxW_pos {n : Nat} : ∀ (l : List Wr) (k : Nat), 0 ≤ idxW n l k ↔ ∃ w ∈ l, badW n w
  | [], k => by simp [idxW]
  | w :: l, k => by
    rw [idxW]
    by_cases h : badW n w
    · rw [if_pos h]; constructor
      · intro _; exact ⟨w, by simp, h⟩
      · intro _; omega
    · rw [if_neg h, idxW_pos l (k + 1)]; simp [h]
abbrev L_iw (fr : Bool) (d : Dk) (i : Nat) : ASt := ⟨envOf [(0, fWrs fr d.cache), (1, .fn 84 [.op 0 0, .op 1 0]), (7, .v (.int .i64 d.cache.length)), (8, .v (.int .i64 i))],
  heapOf [(0, .row true 50 [fL fr d.sectors, fWrs fr d.cache]), (1, .row true 134 [.fn 83 []])], 2⟩
theorem keep_kr (fr : Bool) (d : Dk) (id1 id2 : Nat) (s : ASt) (a : s.σ 0 = some (.row true 50 [fL fr d.sectors, fWrs fr d.cache])) (b : s.σ 1 = some (.row true 134 [.fn 83 []])) : keepOk (kr fr d id1 id2) (ko fr d) 0 s.σ [] := ⟨⟨a, by simp, al_L _, al_Wrs _, trivial⟩, ⟨b, by simp, trivial, trivial⟩, trivial⟩
theorem index2_spec (fr : Bool) (d : Dk) (id1 id2 nb : Nat) (h12 : id1 ≠ id2) (h1 : id1 < nb) (h2 : id2 < nb) (hl : d.cache.length ≤ 140737488355328) :
    ASound Tryz.prog 106 [fWrs fr d.cache, .fn 84 [.op id1 0, .op id2 0]] nb (rowsM (kr fr d id1 id2) (.ret (.v (.int .i64 (idxW d.sectors.length d.cache 0))) (outW (kr fr d id1 id2) (ko fr d)))) := by
  have hX := FnOk.soundX (m := 2) (kr fr d id1 id2) (ko fr d) ok_106 (args := [fWrs fr d.cache, .fn 84 [.op id1 0, .op id2 0]]) (nb := nb) (r := .v (.int .i64 (idxW d.sectors.length d.cache 0))) (W := []) (by simp)
    ⟨al_Wrs _, ⟨by simp [Al], by simp [Al], trivial⟩, trivial⟩ (by simp [h12]) (by intro x hx; simp at hx; rcases hx with rfl | rfl; exact ⟨by simp, ⟨al_L _, al_Wrs _, trivial⟩, h1⟩; exact ⟨by simp, ⟨trivial, trivial⟩, h2⟩) rfl (by simp) (by intro k cl hk; have : k < (ko fr d).length := (List.getElem?_eq_some_iff.1 hk).1; simpa using this) ?_
  · rw [List.append_nil] at hX; exact hX
  have hr1 : rn [(id1, 0), (id2, 1)] id1 = 0 := by simp [rn]
  have hr2 : rn [(id1, 0), (id2, 1)] id2 = 1 := by simp [rn, h12]
  simp only [ac_106, kr, rowsIn, renL, ren, List.map_cons, List.map_nil, List.zipIdx_cons, List.zipIdx_nil, hr1, hr2, ren_Wrs, TT, ↓reduceIte, Nat.reduceEqDiff, Nat.reduceAdd, Nat.reduceMul, reduceCtorEq, Nat.reduceLeDiff]
  refine AWc.family (L_iw fr d) (fun i => i ≤ d.cache.length ∧ idxW d.sectors.length (d.cache.drop i) i = idxW d.sectors.length d.cache 0) (fun i => d.cache.length - i) 0 ⟨Nat.zero_le _, rfl⟩ ?_ ?_
  · refine Weak.calc [(0, 0), (1, 1)] (by decide) ?_ ?_ <;> simp [WT]
  · rintro i ⟨hi, he⟩
    by_cases hlt : i < d.cache.length
    · obtain ⟨w, hx, e1, e0⟩ := lt_at hlt
      obtain ⟨g1, g2⟩ := get_Wrs (fr := fr) hx
      have ho := fun nb h1 h2 => bad_spec fr fr d w 0 1 nb (by decide) h1 h2
      simp only [fB, kr, ko, rowsM, outW, fL, fWrs, Option.map_some] at ho
      rw [idxW_drop hx] at he
      simp only [L_iw, e1, e0, g1, g2, Int.toNat_natCast, TT, ↓reduceIte, Nat.reduceEqDiff, Nat.reduceAdd, Nat.reduceMul, reduceCtorEq, Nat.reduceLeDiff]
      refine ⟨_, _, _, rfl, ho _ (by omega) (by omega), ?_⟩
      by_cases h : badW d.sectors.length w
      · rw [if_pos h] at he
        rw [← he]
        simp only [h, decide_true, TT, ↓reduceIte, Nat.reduceEqDiff, Nat.reduceAdd, Nat.reduceMul, reduceCtorEq, Nat.reduceLeDiff]
        exact EndsX.data (.inr rfl) (by simp [ET]) trivial (keep_kr fr d id1 id2 _ (by simp [ET, fL, fWrs]) (by simp [ET]))
      · rw [if_neg h] at he
        simp only [h, decide_false, TT, ↓reduceIte, Nat.reduceEqDiff, Nat.reduceAdd, Nat.reduceMul, reduceCtorEq, Nat.reduceLeDiff]
        refine famC_next (i + 1) (by omega) ⟨by omega, he⟩ ?_
        refine Weak.calc [(0, 0), (1, 1)] (by decide) ?_ ?_ <;> simp [WT, wrap64 (x := (i : Int) + 1) (by omega)]
    · obtain rfl : i = d.cache.length := by omega
      have e1 : ¬ ((d.cache.length : Int) < (d.cache.length : Int)) := by omega
      have : idxW d.sectors.length d.cache 0 = -1 := by rw [← he, List.drop_length]; rfl
      rw [this]
      simp only [L_iw, e1, TT, ↓reduceIte, Nat.reduceEqDiff, Nat.reduceAdd, Nat.reduceMul, reduceCtorEq, Nat.reduceLeDiff]
      exact EndsX.data (.inr rfl) (by simp [ET]) trivial (keep_kr fr d id1 id2 _ (by simp [ET, fL, fWrs]) (by simp [ET]))
theorem contains2_spec (fr : Bool) (d : Dk) (id1 id2 nb : Nat) (h12 : id1 ≠ id2) (h1 : id1 < nb) (h2 : id2 < nb) (hl : d.cache.length ≤ 140737488355328) :
    ASound Tryz.prog 86 [fWrs fr d.cache, .fn 84 [.op id1 0, .op id2 0]] nb (rowsM (kr fr d id1 id2) (.ret (.v (.bool (decide (∃ w ∈ d.cache, badW d.sectors.length w)))) (outW (kr fr d id1 id2) (ko fr d)))) := by
  have hX := FnOk.soundX (m := 2) (kr fr d id1 id2) (ko fr d) ok_86 (args := [fWrs fr d.cache, .fn 84 [.op id1 0, .op id2 0]]) (nb := nb) (r := .v (.bool (decide (∃ w ∈ d.cache, badW d.sectors.length w)))) (W := []) (by simp)
    ⟨al_Wrs _, ⟨by simp [Al], by simp [Al], trivial⟩, trivial⟩ (by simp [h12]) (by intro x hx; simp at hx; rcases hx with rfl | rfl; exact ⟨by simp, ⟨al_L _, al_Wrs _, trivial⟩, h1⟩; exact ⟨by simp, ⟨trivial, trivial⟩, h2⟩) rfl (by simp) (by intro k cl hk; have : k < (ko fr d).length := (List.getElem?_eq_some_iff.1 hk).1; simpa using this) ?_
  · rw [List.append_nil] at hX; exact hX
  have hr1 : rn [(id1, 0), (id2, 1)] id1 = 0 := by simp [rn]
  have hr2 : rn [(id1, 0), (id2, 1)] id2 = 1 := by simp [rn, h12]
  have hi := fun nb h1 h2 => index2_spec fr d 0 1 nb (by decide) h1 h2 hl
  simp only [kr, ko, rowsM, outW, fL, fWrs, Option.map_some] at hi
  simp only [ac_86, kr, rowsIn, renL, ren, List.map_cons, List.map_nil, List.zipIdx_cons, List.zipIdx_nil, hr1, hr2, ren_Wrs, TT, ↓reduceIte, Nat.reduceEqDiff, Nat.reduceAdd, Nat.reduceMul, reduceCtorEq, Nat.reduceLeDiff]
  refine ⟨_, hi _ (by omega) (by omega), ?_⟩
  simp only [TT, ↓reduceIte, Nat.reduceEqDiff, Nat.reduceAdd, Nat.reduceMul, reduceCtorEq, Nat.reduceLeDiff]
  exact EndsX.data (.inr rfl) (by simp [ET, idxW_pos]) trivial (keep_kr fr d id1 id2 _ (by simp [ET, fL, fWrs]) (by simp [ET]))
end Go.Proofs.YtdenddhdeloceaaGreatDoor
namespace Go.Proofs.YtdenddhdeloceaaGreatDoor
open Go.RowKit
set_option maxRecDepth 100000
set_option maxHeartbeats 2000000 in
theorem dcheck_spec (fr : Bool) (d : Dk) (nb : Nat) (hl : d.sectors.length ≤ 140737488355328) : ASound Tryz.prog 49 [aDk fr d] nb (.ret (.v (.int .i64 (dkE d))) []) := by
  refine ok_49.sound (by simp) ⟨al_aDk d, trivial⟩ ?_
  by_cases h1 : d.sectors.length < 1
  · have f1 : (d.sectors.length : Int) < 1 := by omega
    rw [dkE_no fun h => h.few (.inl h1)]
    simp only [ac_49, f1, TT, ↓reduceIte, Nat.reduceEqDiff, Nat.reduceAdd, Nat.reduceMul, reduceCtorEq, Nat.reduceLeDiff]
    exact Ends.data (.inr rfl) (by simp [ET]) trivial
  have f1 : ¬ (d.sectors.length : Int) < 1 := by omega
  by_cases h2 : 2048 < d.sectors.length
  · have f2 : (2048 : Int) < (d.sectors.length : Int) := by omega
    rw [dkE_no fun h => h.few (.inr (.inl h2))]
    simp only [ac_49, f1, f2, TT, ↓reduceIte, Nat.reduceEqDiff, Nat.reduceAdd, Nat.reduceMul, reduceCtorEq, Nat.reduceLeDiff]
    exact Ends.data (.inr rfl) (by simp [ET]) trivial
  have f2 : ¬ (2048 : Int) < (d.sectors.length : Int) := by omega
  by_cases h3 : 4096 < d.cache.length
  · have f3 : (4096 : Int) < (d.cache.length : Int) := by omega
    rw [dkE_no fun h => h.few (.inr (.inr h3))]
    simp only [ac_49, f1, f2, f3, TT, ↓reduceIte, Nat.reduceEqDiff, Nat.reduceAdd, Nat.reduceMul, reduceCtorEq, Nat.reduceLeDiff]
    exact Ends.data (.inr rfl) (by simp [ET]) trivial
  have f3 : ¬ (4096 : Int) < (d.cache.length : Int) := by omega
  have c1 := contains1_spec fr d.sectors
  have c2 := fun id1 id2 nb a b c => contains2_spec fr d id1 id2 nb a b c (by omega)
  simp only [fL] at c1
  simp only [kr, ko, rowsM, outW, fL, fWrs, Option.map_some] at c2
  simp only [ac_49, f1, f2, f3, TT, ↓reduceIte, Nat.reduceEqDiff, Nat.reduceAdd, Nat.reduceMul, reduceCtorEq, Nat.reduceLeDiff]
  refine ⟨_, c1 _ hl, ?_⟩
  by_cases b1 : ∃ t ∈ d.sectors, t.length ≠ 64
  · rw [dkE_no fun h => by obtain ⟨t, ht, hne⟩ := b1; exact hne (h.secs t ht)]
    simp only [b1, decide_true, TT, ↓reduceIte, Nat.reduceEqDiff, Nat.reduceAdd, Nat.reduceMul, reduceCtorEq, Nat.reduceLeDiff]
    exact Ends.data (.inr rfl) (by simp [ET]) trivial
  simp only [b1, decide_false, TT, ↓reduceIte, Nat.reduceEqDiff, Nat.reduceAdd, Nat.reduceMul, reduceCtorEq, Nat.reduceLeDiff]
  refine ⟨_, c2 _ _ _ (by decide) (by omega) (by omega), ?_⟩
  by_cases b2 : ∃ w ∈ d.cache, badW d.sectors.length w
  · rw [dkE_no fun h => by obtain ⟨w, hw, hb⟩ := b2; exact h.cache w hw hb]
    simp only [b2, decide_true, TT, ↓reduceIte, Nat.reduceEqDiff, Nat.reduceAdd, Nat.reduceMul, reduceCtorEq, Nat.reduceLeDiff]
    exact Ends.data (.inr rfl) (by simp [ET]) trivial
  · rw [dkE_ok ⟨by omega, fun t ht => Classical.byContradiction fun hne => b1 ⟨t, ht, hne⟩, fun w hw hb => b2 ⟨w, hw, hb⟩⟩]
    simp only [b2, decide_false, TT, ↓reduceIte, Nat.reduceEqDiff, Nat.reduceAdd, Nat.reduceMul, reduceCtorEq, Nat.reduceLeDiff]
    exact Ends.data (.inr rfl) (by simp [ET]) trivial
theorem asked_spec (fr : Bool) (d : Dk) (nb : Nat) (hl : d.sectors.length ≤ 140737488355328) : ASound Tryz.prog 42 [aDk fr d] nb (.ret (.v (.int .i64 (askE d))) []) := by
  refine ok_42.sound (by simp) ⟨al_aDk d, trivial⟩ ?_
  have hc := fun nb => dcheck_spec fr d nb hl
  simp only [aDk, fL, fWrs] at hc
  simp only [ac_42, TT, ↓reduceIte, Nat.reduceEqDiff, Nat.reduceAdd, Nat.reduceMul, reduceCtorEq, Nat.reduceLeDiff]
  refine ⟨_, hc _, ?_⟩
  by_cases h : okD d
  · rw [dkE_ok h]
    by_cases h2 : d.sectors.length < 16
    · have f : (d.sectors.length : Int) < 16 := by omega
      rw [askE_few h h2]
      simp only [f, not_true_eq_false, TT, ↓reduceIte, Nat.reduceEqDiff, Nat.reduceAdd, Nat.reduceMul, reduceCtorEq, Nat.reduceLeDiff]
      exact Ends.data (.inr rfl) (by simp [ET]) trivial
    · have f : ¬ (d.sectors.length : Int) < 16 := by omega
      rw [askE_ok h h2]
      simp only [f, not_true_eq_false, TT, ↓reduceIte, Nat.reduceEqDiff, Nat.reduceAdd, Nat.reduceMul, reduceCtorEq, Nat.reduceLeDiff]
      exact Ends.data (.inr rfl) (by simp [ET]) trivial
  · rw [dkE_no h, askE_no h]
    have e9 : ¬ (9 : Int) = 0 := by decide
    simp only [e9, not_false_eq_true, TT, ↓reduceIte, Nat.reduceEqDiff, Nat.reduceAdd, Nat.reduceMul, reduceCtorEq, Nat.reduceLeDiff]
    exact Ends.data (.inr rfl) (by simp [ET]) trivial
end Go.Proofs.YtdenddhdeloceaaGreatDoor
namespace Go.Proofs.YtdenddhdeloceaaGreatDoor
open Go.RowKit
set_option maxRecDepth 100000
theorem clone1_ok (fr : Bool) (l : List (List Int)) (nb : Nat) (h0 : l ≠ []) (h : l.length ≤ 5864062014805) : ASound Tryz.prog 107 [fL fr l] nb (.ret (.os nb 0 l.length 1) [(nb, some (.row true 22 (eL fr l)))]) := by
  refine ok_107.sound (by simp) ⟨al_fL l, trivial⟩ ?_
  have hn : ¬ l.length = 0 := fun e => h0 (List.eq_nil_of_length_eq_zero e)
  simp only [ac_107, len_L, hn, TT, ↓reduceIte, Nat.reduceEqDiff, Nat.reduceAdd, Nat.reduceMul, reduceCtorEq, Nat.reduceLeDiff]
  rw [if_pos (by omega)]
  exact Ends.rows1 (i := 500000) (r0 := .os 500000 0 l.length 1) (.inr rfl) (by simp [ET]) rfl (al_L l) (by simp [Al]) (by simp [ren, rn])
theorem clone2_ok (fr : Bool) (l : List Wr) (nb : Nat) (h0 : l ≠ []) (h : l.length ≤ 4398046511104) : ASound Tryz.prog 108 [fWrs fr l] nb (.ret (.os nb 0 l.length 2) [(nb, some (.row true 90 (eWrs fr l)))]) := by
  refine ok_108.sound (by simp) ⟨al_fWrs l, trivial⟩ ?_
  have hn : ¬ l.length = 0 := fun e => h0 (List.eq_nil_of_length_eq_zero e)
  simp only [ac_108, len_Wrs, hn, TT, ↓reduceIte, Nat.reduceEqDiff, Nat.reduceAdd, Nat.reduceMul, reduceCtorEq, Nat.reduceLeDiff]
  rw [if_pos (by omega)]
  exact Ends.rows1 (i := 500000) (r0 := .os 500000 0 l.length 2) (.inr rfl) (by simp [ET]) rfl (al_Wrs l) (by simp [Al]) (by simp [ren, rn])
theorem allTrue_spec (i : Int) (nb : Nat) : ASound Tryz.prog 80 [.v (.int .i64 i)] nb (.ret (.v (.bool true)) []) := by
  refine ok_80.sound (by simp) ⟨trivial, trivial⟩ ?_
  simp only [ac_80, TT, ↓reduceIte, Nat.reduceEqDiff, Nat.reduceAdd, Nat.reduceMul, reduceCtorEq, Nat.reduceLeDiff]
  exact Ends.data (.inr rfl) (by simp [ET]) trivial
end Go.Proofs.YtdenddhdeloceaaGreatDoor
namespace Go.Proofs.YtdenddhdeloceaaGreatDoor
open Go.RowKit
set_option maxRecDepth 100000
theorem clone2_spec (fr : Bool) (l : List Wr) (nb : Nat) (h : l.length ≤ 4398046511104) : ASound Tryz.prog 108 [fWrs fr l] nb (.ret (.os nb 0 l.length 2) [(nb, some (.row true 90 (eWrs fr l)))]) := by
  by_cases h0 : l = []
  · subst h0
    refine ASound.nil1 fun A k => ?_
    refine ok_108.sound (by simp) ⟨trivial, trivial⟩ ?_
    cases A with
    | none =>
      simp only [ac_108, TT, ↓reduceIte, Nat.reduceEqDiff, Nat.reduceAdd, Nat.reduceMul, reduceCtorEq, Nat.reduceLeDiff]
      refine Ends.weak (Weak.virtC 90 2 (l := [(2, .os 400000 0 0 2)]) (h := []) ?_ ?_) (Ends.rows1 (i := 400000) (r0 := .os 400000 0 0 2) (.inr rfl) (by simp [ET]) rfl trivial (by simp [Al]) (by simp [ren, rn]))
      all_goals simp [WT]
    | some A =>
      simp only [ac_108, TT, ↓reduceIte, Nat.reduceEqDiff, Nat.reduceAdd, Nat.reduceMul, reduceCtorEq, Nat.reduceLeDiff]
      exact Ends.rows1 (i := 500000) (r0 := .os 500000 0 0 2) (.inr rfl) (by simp [ET]) rfl trivial (by simp [Al]) (by simp [ren, rn])
  · exact clone2_ok fr l nb h0 h
def mixL (fr : Bool) (l : List (List Int)) (i : Nat) : List AV := eL true (l.take i) ++ eL fr (l.drop i)
theorem mixL_0 (fr : Bool) (l : List (List Int)) : mixL fr l 0 = eL fr l := by simp [mixL, eL]
theorem mixL_all (fr : Bool) (l : List (List Int)) : mixL fr l l.length = eL true l := by simp [mixL, eL]
theorem mixL_len (fr : Bool) (l : List (List Int)) (i : Nat) : (mixL fr l i).length = l.length := by rw [mixL, List.length_append, len_L, len_L, List.length_take, List.length_drop]; omega
theorem mixL_get {fr : Bool} {l : List (List Int)} {i : Nat} {t : List Int} (h : l[i]? = some t) : (mixL fr l i)[i]? = some (.fs fr (eB t) t.length) := by
  have hi := (List.getElem?_eq_some_iff.1 h).1
  have hl : (eL true (l.take i)).length = i := by rw [len_L, List.length_take_of_le (by omega)]
  rw [mixL, List.getElem?_append_right (by omega), hl, Nat.sub_self]
  exact get_L (by rw [List.getElem?_drop]; exact h)
theorem mixL_set {fr : Bool} {l : List (List Int)} {i : Nat} {t : List Int} (h : l[i]? = some t) : (mixL fr l i).set i (.fs true (eB t) t.length) = mixL fr l (i + 1) := by
  have hi := List.getElem?_eq_some_iff.1 h
  have hi1 := hi.1
  have hl : (eL true (l.take i)).length = i := by rw [len_L, List.length_take_of_le (by omega)]
  unfold mixL
  rw [List.set_append, if_neg (by omega), hl, Nat.sub_self, List.drop_eq_getElem_cons hi.1, hi.2, take_snoc h, app_L, List.append_assoc]
  rfl
theorem al_mixL {p : Nat → Prop} (fr : Bool) (l : List (List Int)) (i : Nat) : AlL p (mixL fr l i) := by
  rw [mixL, AlL_append]; exact ⟨al_L _, al_L _⟩
theorem ren_mixL {ρ : Nat → Nat} (fr : Bool) (l : List (List Int)) (i : Nat) : renL ρ (mixL fr l i) = mixL fr l i := renL_id (p := fun _ => False) (fun _ h => h.elim) (al_mixL fr l i)
def mixW (fr : Bool) (l : List Wr) (i : Nat) : List AV := eWrs true (l.take i) ++ eWrs fr (l.drop i)
theorem mixW_0 (fr : Bool) (l : List Wr) : mixW fr l 0 = eWrs fr l := by simp [mixW, eWrs]
theorem mixW_all (fr : Bool) (l : List Wr) : mixW fr l l.length = eWrs true l := by simp [mixW, eWrs]
theorem mixW_len (fr : Bool) (l : List Wr) (i : Nat) : (mixW fr l i).length = l.length * 2 := by rw [mixW, List.length_append, len_Wrs, len_Wrs, List.length_take, List.length_drop]; omega
theorem al_mixW {p : Nat → Prop} (fr : Bool) (l : List Wr) (i : Nat) : AlL p (mixW fr l i) := by
  rw [mixW, AlL_append]; exact ⟨al_Wrs _, al_Wrs _⟩
theorem ren_mixW {ρ : Nat → Nat} (fr : Bool) (l : List Wr) (i : Nat) : renL ρ (mixW fr l i) = mixW fr l i := renL_id (p := fun _ => False) (fun _ h => h.elim) (al_mixW fr l i)
theorem mixW_get {fr : Bool} {l : List Wr} {i : Nat} {w : Wr} (h : l[i]? = some w) : (mixW fr l i)[i * 2 + 1]? = some (.fs fr (eB w.data) w.data.length) := by
  have hi := (List.getElem?_eq_some_iff.1 h).1
  have hl : (eWrs true (l.take i)).length = i * 2 := by rw [len_Wrs, List.length_take_of_le (by omega)]
  rw [mixW, List.getElem?_append_right (by omega), hl, show i * 2 + 1 - i * 2 = 0 * 2 + 1 from by omega]
  exact (get_Wrs (fr := fr) (l := l.drop i) (i := 0) (w := w) (by rw [List.getElem?_drop]; exact h)).2
theorem mixW_set {fr : Bool} {l : List Wr} {i : Nat} {w : Wr} (h : l[i]? = some w) : (mixW fr l i).set (i * 2 + 1) (.fs true (eB w.data) w.data.length) = mixW fr l (i + 1) := by
  have hi := List.getElem?_eq_some_iff.1 h
  have hi1 := hi.1
  have hl : (eWrs true (l.take i)).length = i * 2 := by rw [len_Wrs, List.length_take_of_le (by omega)]
  unfold mixW
  rw [List.set_append, if_neg (by omega), hl, show i * 2 + 1 - i * 2 = 1 from by omega, List.drop_eq_getElem_cons hi.1, hi.2, take_snoc h, app_Wrs, List.append_assoc]
  rfl
abbrev L_c1 (fr : Bool) (d : Dk) (i : Nat) : ASt := ⟨envOf [(2, .op 0 0), (3, .op 1 0), (15, .v (.int .i64 d.sectors.length)), (16, .v (.int .i64 i))],
  heapOf [(0, zP), (1, .row true 50 [.os 2 0 d.sectors.length 1, .os 3 0 d.cache.length 2]), (2, .row true 22 (mixL fr d.sectors i)), (3, .row true 90 (eWrs fr d.cache))], 4⟩
abbrev L_c2 (fr : Bool) (d : Dk) (i : Nat) : ASt := ⟨envOf [(2, .op 0 0), (3, .op 1 0), (32, .v (.int .i64 d.cache.length)), (33, .v (.int .i64 i))],
  heapOf [(0, zP), (1, .row true 50 [.os 2 0 d.sectors.length 1, .os 3 0 d.cache.length 2]), (2, .row true 22 (eL true d.sectors)), (3, .row true 90 (mixW fr d.cache i))], 4⟩
set_option maxHeartbeats 2000000 in
theorem clone_put (fr : Bool) (d : Dk) (nb : Nat) (h : okD d) : ASound Tryz.prog 87 [aDk fr d] nb (.ret (.agg [fL true d.sectors, .os nb 0 d.cache.length 2]) [(nb, some (.row true 90 (eWrs true d.cache)))]) := by
  refine ok_87.sound (by simp) ⟨al_aDk d, trivial⟩ ?_
  have hf := h.few
  have hne : d.sectors ≠ [] := fun e => hf (.inl (by rw [e]; decide))
  have c1 := clone1_ok fr d.sectors
  have c2 := clone2_spec fr d.cache
  simp only [fL] at c1
  simp only [fWrs] at c2
  simp only [ac_87, TT, ↓reduceIte, Nat.reduceEqDiff, Nat.reduceAdd, Nat.reduceMul, reduceCtorEq, Nat.reduceLeDiff]
  refine ⟨_, c1 _ hne (by omega), ?_⟩
  simp only [TT, ↓reduceIte, Nat.reduceEqDiff, Nat.reduceAdd, Nat.reduceMul, reduceCtorEq, Nat.reduceLeDiff]
  refine ⟨_, c2 _ (by omega), ?_⟩
  simp only [TT, ↓reduceIte, Nat.reduceEqDiff, Nat.reduceAdd, Nat.reduceMul, reduceCtorEq, Nat.reduceLeDiff]
  refine ⟨by rfl, ?_⟩
  refine AWc.family (L_c1 fr d) (fun i => i ≤ d.sectors.length) (fun i => d.sectors.length - i) 0 (Nat.zero_le _) ?_ ?_
  · refine Weak.calc [(100000, 0), (900000, 1), (400000, 2), (700000, 3)] (by decide) ?_ ?_ <;> simp [WT, mixL_0]
  · intro i hi
    by_cases hlt : i < d.sectors.length
    · obtain ⟨t, hx, e1, e0⟩ := lt_at hlt
      have hb := bytesClone_spec fr t
      simp only [fB] at hb
      have hml := mixL_len fr d.sectors i
      simp only [L_c1, e1, e0, Int.toNat_natCast, Nat.zero_add, mixL_get hx, TT, ↓reduceIte, Nat.reduceEqDiff, Nat.reduceAdd, Nat.reduceMul, reduceCtorEq, Nat.reduceLeDiff]
      refine ⟨_, hb _ (okD_secs h t (List.mem_of_getElem? hx)), ?_⟩
      simp only [e1, e0, Int.toNat_natCast, Nat.zero_add, mixL_set hx, hml, TT, ↓reduceIte, Nat.reduceEqDiff, Nat.reduceAdd, Nat.reduceMul, reduceCtorEq, Nat.reduceLeDiff]
      rw [if_pos (by omega)]
      refine ⟨by rfl, ?_⟩
      refine famC_next (i + 1) (by omega) (by omega) ?_
      refine Weak.calc [(0, 0), (1, 1), (2, 2), (3, 3)] (by decide) ?_ ?_ <;> simp [WT, al_mixL, ren_mixL, wrap64 (x := (i : Int) + 1) (by omega)]
    · obtain rfl : i = d.sectors.length := by omega
      have e1 : ¬ ((d.sectors.length : Int) < (d.sectors.length : Int)) := by omega
      simp only [L_c1, e1, mixL_all, TT, ↓reduceIte, Nat.reduceEqDiff, Nat.reduceAdd, Nat.reduceMul, reduceCtorEq, Nat.reduceLeDiff]
      refine AWc.family (L_c2 fr d) (fun i => i ≤ d.cache.length) (fun i => d.cache.length - i) 0 (Nat.zero_le _) ?_ ?_
      · refine Weak.calc [(0, 0), (1, 1), (2, 2), (3, 3)] (by decide) ?_ ?_ <;> simp [WT, mixW_0]
      · intro i hi
        by_cases hlt : i < d.cache.length
        · obtain ⟨w, hx, e1, e0⟩ := lt_at hlt
          have hb := bytesClone_spec fr w.data
          simp only [fB] at hb
          have hml := mixW_len fr d.cache i
          simp only [L_c2, e1, e0, Int.toNat_natCast, Nat.zero_add, mixW_get hx, TT, ↓reduceIte, Nat.reduceEqDiff, Nat.reduceAdd, Nat.reduceMul, reduceCtorEq, Nat.reduceLeDiff]
          refine ⟨_, hb _ (okD_data h w (List.mem_of_getElem? hx)), ?_⟩
          simp only [e1, e0, Int.toNat_natCast, Nat.zero_add, mixW_set hx, hml, TT, ↓reduceIte, Nat.reduceEqDiff, Nat.reduceAdd, Nat.reduceMul, reduceCtorEq, Nat.reduceLeDiff]
          rw [if_pos (by omega)]
          refine ⟨by rfl, ?_⟩
          refine famC_next (i + 1) (by omega) (by omega) ?_
          refine Weak.calc [(0, 0), (1, 1), (2, 2), (3, 3)] (by decide) ?_ ?_ <;> simp [WT, al_mixW, ren_mixW, wrap64 (x := (i : Int) + 1) (by omega)]
        · obtain rfl : i = d.cache.length := by omega
          have e1 : ¬ ((d.cache.length : Int) < (d.cache.length : Int)) := by omega
          simp only [L_c2, e1, mixW_all, TT, ↓reduceIte, Nat.reduceEqDiff, Nat.reduceAdd, Nat.reduceMul, reduceCtorEq, Nat.reduceLeDiff]
          refine Ends.weak (Weak.freezeC 2 rfl (l := [(2, .op 0 0)]) (h := [(0, .row true 50 [fL true d.sectors, .os 3 0 d.cache.length 2]), (3, .row true 90 (eWrs true d.cache))]) ?_ ?_) ?_
          · simp [WT]
          · simp [WT]
          exact Ends.rows1 (i := 3) (r0 := .agg [fL true d.sectors, .os 3 0 d.cache.length 2]) (.inr rfl) (by simp [ET]) rfl (al_Wrs _) ⟨al_fL _, by simp [Al], trivial⟩ (by simp [ren, renL, rn, fL, ren_L])
end Go.Proofs.YtdenddhdeloceaaGreatDoor
namespace Go.Proofs.YtdenddhdeloceaaGreatDoor
open Go.RowKit
set_option maxRecDepth 100000
end Go.Proofs.YtdenddhdeloceaaGreatDoor
namespace Go.Proofs.YtdenddhdeloceaaGreatDoor
open Go.RowKit
set_option maxRecDepth 100000
theorem bytesClone_os (fr : Bool) (l : List Int) (nb : Nat) (h : l.length ≤ 140737488355328) (h0 : l ≠ []) : ASound Tryz.prog 95 [fB fr l] nb (.ret (.os nb 0 l.length 1) [(nb, some (.row true 5 (eB l)))]) := by
  have hn : ¬ l.length = 0 := fun e => h0 (List.eq_nil_of_length_eq_zero e)
  refine ok_95.sound (by simp) ⟨al_fB l, trivial⟩ ?_
  simp only [ac_95, len_B, h, hn, TT, ↓reduceIte, Nat.reduceEqDiff, Nat.reduceAdd, Nat.reduceMul, reduceCtorEq, Nat.reduceLeDiff]
  exact Ends.rows1 (i := 500000) (r0 := .os 500000 0 l.length 1) (.inr rfl) (by simp [ET]) rfl (al_B l) (by simp [Al]) (by simp [ren, rn])
end Go.Proofs.YtdenddhdeloceaaGreatDoor
namespace Go.Proofs.YtdenddhdeloceaaGreatDoor
open Go.RowKit
variable {P : Program} {N m : Nat}
def famR (b k : Nat) : List (Nat × Nat) := (List.range k).map fun j => (b + j, b + j)
theorem famR_mem {b k : Nat} {p : Nat × Nat} : p ∈ famR b k ↔ p.1 = p.2 ∧ b ≤ p.1 ∧ p.1 < b + k := by
  unfold famR
  rw [List.mem_map]
  constructor
  · rintro ⟨j, hj, rfl⟩; rw [List.mem_range] at hj; exact ⟨rfl, by simp only; omega, by simp only; omega⟩
  · rintro ⟨h1, h2, h3⟩
    refine ⟨p.1 - b, by rw [List.mem_range]; omega, ?_⟩
    obtain ⟨x, y⟩ := p
    simp only at h1 h2 h3 ⊢
    subst h1
    simp only [Prod.mk.injEq]; omega
theorem famR_1 (b k : Nat) : (famR b k).map (·.1) = (List.range k).map (b + ·) := by simp [famR, List.map_map, Function.comp_def]
theorem famR_2 (b k : Nat) : (famR b k).map (·.2) = (List.range k).map (b + ·) := by simp [famR, List.map_map, Function.comp_def]
theorem range_nodup (b k : Nat) : ((List.range k).map (b + ·)).Nodup := by
  rw [List.Nodup, List.pairwise_map]
  exact List.nodup_range.imp fun h => by intro e; exact h (by omega)
theorem mem_rangeb {b k i : Nat} : i ∈ (List.range k).map (b + ·) ↔ b ≤ i ∧ i < b + k := by
  rw [List.mem_map]
  constructor
  · rintro ⟨j, hj, rfl⟩; rw [List.mem_range] at hj; omega
  · rintro ⟨h1, h2⟩; exact ⟨i - b, by rw [List.mem_range]; omega, by omega⟩
theorem Weak.toF {s : ASt} (re : List (Nat × Nat)) (b k : Nat) (l : List (Nat × AV)) (h : List (Nat × AObj)) (f : Nat → AObj) (nx : Nat)
    (h1 : (re.map (·.1)).Nodup) (h2 : (re.map (·.2)).Nodup) (h3 : ∀ p ∈ re, (p.1 < m → p.2 = p.1) ∧ (m ≤ p.1 → m ≤ p.2) ∧ p.2 < nx) (hm : m ≤ nx) (hb : m ≤ b) (hk : b + k ≤ nx)
    (hs : ∀ p ∈ re, (p.1 < b ∨ b + k ≤ p.1) ∧ (p.2 < b ∨ b + k ≤ p.2))
    (hl : ∀ t v, (t, v) ∈ l → Al (fun i => i ∈ (re ++ famR b k).map (·.1)) (s.env t) ∧ Imp (ren (rn (re ++ famR b k)) (s.env t)) v)
    (hh : ∀ j o, (j, o) ∈ h → ∃ i y e cells, (i, j) ∈ re ∧ s.σ i = some (.row y e cells) ∧ AlL (fun i => i ∈ (re ++ famR b k).map (·.1)) cells ∧ o = .row y e (renL (rn (re ++ famR b k)) cells))
    (hf : ∀ j, j < k → ∃ y e cells, s.σ (b + j) = some (.row y e cells) ∧ PuL cells ∧ f j = .row y e cells) :
    Weak N m s ⟨envOf l, heapOf (h ++ famL b k f), nx⟩ := by
  refine Weak.to (re ++ famR b k) l (h ++ famL b k f) nx ?_ ?_ ?_ hm hl ?_
  · rw [List.map_append, famR_1, List.nodup_append]
    refine ⟨h1, range_nodup b k, fun a ha c hc e => ?_⟩
    rw [mem_rangeb] at hc
    obtain ⟨p, hp, rfl⟩ := List.mem_map.1 ha
    have := (hs p hp).1; omega
  · rw [List.map_append, famR_2, List.nodup_append]
    refine ⟨h2, range_nodup b k, fun a ha c hc e => ?_⟩
    rw [mem_rangeb] at hc
    obtain ⟨p, hp, rfl⟩ := List.mem_map.1 ha
    have := (hs p hp).2; omega
  · intro p hp
    rcases List.mem_append.1 hp with hp | hp
    · exact h3 p hp
    · rw [famR_mem] at hp
      exact ⟨fun _ => hp.1.symm, fun hx => by omega, by omega⟩
  · intro j o hj
    rcases List.mem_append.1 hj with hj | hj
    · obtain ⟨i, y, e, cells, k1, k2⟩ := hh j o hj
      exact ⟨i, y, e, cells, List.mem_append_left _ k1, k2⟩
    · obtain ⟨q, hq, e1⟩ := List.mem_map.1 hj
      rw [List.mem_range] at hq
      cases e1
      obtain ⟨y, e, cells, k1, k2, k3⟩ := hf q hq
      refine ⟨b + q, y, e, cells, List.mem_append_right _ (famR_mem.2 ⟨rfl, by simp only; omega, by simp only; omega⟩), k1, AlL.mono (fun _ h => h.elim) k2, ?_⟩
      rw [k3, renL_id (p := fun _ => False) (fun _ h => h.elim) k2]
end Go.Proofs.YtdenddhdeloceaaGreatDoor
namespace Go.Proofs.YtdenddhdeloceaaGreatDoor
open Go.RowKit
variable {P : Program} {N m : Nat}
def osR (b k : Nat) (g : Nat → List AV) : List AV := (List.range k).map fun j => .os (b + j) 0 (g j).length 1
def fsR (k : Nat) (g : Nat → List AV) : List AV := (List.range k).map fun j => .fs true (g j) (g j).length
theorem osR_s (b k : Nat) (g : Nat → List AV) : osR b (k + 1) g = osR b k g ++ [.os (b + k) 0 (g k).length 1] := by simp [osR, List.range_succ]
theorem fsR_s (k : Nat) (g : Nat → List AV) : fsR (k + 1) g = fsR k g ++ [.fs true (g k) (g k).length] := by simp [fsR, List.range_succ]
theorem heapOf_famS (h : List (Nat × AObj)) (b k : Nat) (f : Nat → AObj) : heapOf ((h ++ [(b + k, f k)]) ++ famL b k f) = heapOf (h ++ famL b (k + 1) f) := by
  funext i
  rw [List.append_assoc]
  simp only [heapOf_append (l := h), heapOf_append (l := [(b + k, f k)])]
  cases heapOf h i with
  | some o => rfl
  | none =>
    simp only
    rw [s_heapFam, s_heapFam]
    by_cases hi : i = b + k
    · subst hi
      rw [if_pos (show b ≤ b + k ∧ b + k < b + (k + 1) by omega), show b + k - b = k from by omega]
      simp [heapOf]
    · by_cases h1 : b ≤ i ∧ i < b + k
      · rw [if_pos h1, if_pos (show b ≤ i ∧ i < b + (k + 1) by omega)]; simp [heapOf, hi]
      · rw [if_neg h1, if_neg (show ¬ (b ≤ i ∧ i < b + (k + 1)) by omega)]; simp [heapOf, hi]
theorem Weak.freezeF (b : Nat) (l : List (Nat × AV)) (h0 : List (Nat × AObj)) (sid e e5 : Nat) (y : Bool) (g : Nat → List AV) (nx : Nat) (hb : ∀ p ∈ h0, p.1 < b) (hsb : sid < b) (hh0 : ∀ j o, (j, o) ∈ h0 → heapOf h0 j = some o) (hs0 : heapOf h0 sid = none)
    (hl : ∀ t v, (t, v) ∈ l → envOf l t = v) :
    ∀ (k : Nat) (D : List AV), Weak N m ⟨envOf l, heapOf (h0 ++ (sid, .row y e (osR b k g ++ D)) :: famL b k (fun j => .row true e5 (g j))), nx⟩ ⟨envOf l, heapOf (h0 ++ [(sid, .row y e (fsR k g ++ D))]), nx⟩
  | 0, D => Weak.refl _
  | k + 1, D => by
    have look : ∀ (j : Nat) (o : AObj), (j, o) ∈ h0 → heapOf (h0 ++ (sid, .row y e (osR b (k + 1) g ++ D)) :: famL b (k + 1) (fun j => .row true e5 (g j))) j = some o := fun j o hj => by rw [heapOf_append, hh0 j o hj]
    have none0 : ∀ i, b ≤ i → heapOf h0 i = none := fun i hi => by
      cases hx : heapOf h0 i with
      | none => rfl
      | some o =>
        exfalso
        have : ∀ (q : List (Nat × AObj)), heapOf q i = some o → ∃ p ∈ q, p.1 = i := by
          intro q
          induction q with
          | nil => intro h; cases h
          | cons p q ih =>
            intro h
            obtain ⟨a, c⟩ := p
            rw [heapOf] at h
            split at h
            · rename_i e1; exact ⟨(a, c), by simp, e1.symm⟩
            · obtain ⟨p, hp, he⟩ := ih h; exact ⟨p, by simp [hp], he⟩
        obtain ⟨p, hp, he⟩ := this h0 hx
        have := hb p hp; omega
    have lookS : heapOf (h0 ++ (sid, .row y e (osR b (k + 1) g ++ D)) :: famL b (k + 1) (fun j => .row true e5 (g j))) sid = some (.row y e (osR b (k + 1) g ++ D)) := by
      rw [heapOf_append, hs0, heapOf, if_pos rfl]
    have lookF : ∀ j, j < k + 1 → heapOf (h0 ++ (sid, .row y e (osR b (k + 1) g ++ D)) :: famL b (k + 1) (fun j => .row true e5 (g j))) (b + j) = some (.row true e5 (g j)) := fun j hj => by
      rw [heapOf_append, none0 _ (by omega), heapOf, if_neg (by omega), s_heapFam, if_pos (by omega)]
      rw [show b + j - b = j from by omega]
    have ih := Weak.freezeF b l h0 sid e e5 y g nx hb hsb hh0 hs0 hl k (.fs true (g k) (g k).length :: D)
    rw [fsR_s, List.append_assoc]
    refine Weak.trans (Weak.freeze (b + k) (lookF k (by omega)) l (h0 ++ (sid, .row y e (osR b k g ++ .fs true (g k) (g k).length :: D)) :: famL b k (fun j => .row true e5 (g j))) (fun t v ht => .inl (.inl (hl t v ht).symm)) ?_) ih
    intro j o hj
    rcases List.mem_append.1 hj with hj | hj
    · have := hb _ hj
      cases o with
      | row y' e' cs => exact ⟨by simp only at this; omega, y', e', cs, cs, look j _ hj, rfl, rfl, fun q x' hx => ⟨x', hx, .inl rfl⟩⟩
    · rcases List.mem_cons.1 hj with hj | hj
      · cases hj
        refine ⟨by omega, y, e, _, _, lookS, rfl, by rw [osR_s]; simp, fun q x' hx => ?_⟩
        rw [osR_s]
        have hlen : (osR b k g).length = k := by simp [osR]
        by_cases hq : q < k
        · rw [List.getElem?_append_left (by omega)] at hx
          exact ⟨x', by rw [List.append_assoc, List.getElem?_append_left (by omega)]; exact hx, .inl rfl⟩
        · rw [List.getElem?_append_right (by omega), hlen] at hx
          rw [List.append_assoc, List.getElem?_append_right (by omega), hlen]
          cases hqk : q - k with
          | zero =>
            rw [hqk] at hx
            simp at hx
            subst hx
            refine ⟨.os (b + k) 0 (g k).length 1, rfl, .inr (.inr (.inl ⟨0, (g k).length, 1, rfl, ?_⟩))⟩
            rw [List.drop_zero, Nat.mul_one, List.take_length]
          | succ r =>
            rw [hqk] at hx
            exact ⟨x', by simpa using hx, .inl rfl⟩
      · obtain ⟨q, hq, e1⟩ := List.mem_map.1 hj
        rw [List.mem_range] at hq
        cases e1
        exact ⟨by omega, true, e5, g q, g q, lookF q (by omega), rfl, rfl, fun r x' hx => ⟨x', hx, .inl rfl⟩⟩
end Go.Proofs.YtdenddhdeloceaaGreatDoor
namespace Go.Proofs.YtdenddhdeloceaaGreatDoor
open Go.RowKit
variable {P : Program} {N m : Nat} {s : ASt} {nb : Nat}
def famI (sid b k : Nat) : List Nat := sid :: (List.range k).map (b + ·)
theorem famI_nodup {sid b k : Nat} (h : sid < b) : (famI sid b k).Nodup := by
  rw [famI, List.nodup_cons]
  exact ⟨fun hx => by rw [mem_rangeb] at hx; omega, range_nodup b k⟩
theorem zip_1 (l : List Nat) (nb : Nat) : (l.zipIdx nb).map (·.1) = l := by
  induction l generalizing nb with
  | nil => rfl
  | cons x l ih => rw [List.zipIdx_cons, List.map_cons, ih]
theorem rn_fam {sid b k nb : Nat} (h : sid < b) : rn ((famI sid b k).zipIdx nb) sid = nb ∧ ∀ j, j < k → rn ((famI sid b k).zipIdx nb) (b + j) = nb + 1 + j := by
  have hn : (((famI sid b k).zipIdx nb).map (·.1)).Nodup := by rw [zip_1]; exact famI_nodup h
  constructor
  · exact rn_mem (p := (sid, nb)) (by rw [famI, List.zipIdx_cons]; simp) hn
  · intro j hj
    refine rn_mem (p := (b + j, nb + 1 + j)) ?_ hn
    rw [List.mem_iff_getElem?]
    refine ⟨j + 1, ?_⟩
    rw [List.getElem?_zipIdx]
    simp only [famI, List.getElem?_cons_succ, List.getElem?_map, List.getElem?_range hj, Option.map_some, Option.some.injEq, Prod.mk.injEq, true_and]
    omega
def famW (e5 k : Nat) (g : Nat → List AV) : List (Bool × Nat × List AV) := (List.range k).map fun j => (true, e5, g j)
theorem Ends.fam {rs : List RV} {r r0 : AV} {e : Exit} {sid b k el e5 : Nat} {y : Bool} {g : Nat → List AV} (he : e = .normal ∨ e = .ret) (h : (resL s rs).map tupOf = some r0) (hsb : sid < b) (hk : k < 100000)
    (hσ : s.σ sid = some (.row y el (osR b k g))) (hf : ∀ j, j < k → s.σ (b + j) = some (.row true e5 (g j))) (hp : ∀ j, j < k → PuL (g j))
    (ha : Al (fun j => j ∈ [sid]) r0) (hr : ∀ ρ : Nat → Nat, ρ sid = nb → ren ρ r0 = r) : Ends N rs nb r ((((y, el, osR (nb + 1) k g) :: famW e5 k g).zipIdx nb).map (fun x => (x.2, some (AObj.row x.1.1 x.1.2.1 x.1.2.2)))) e s := by
  obtain ⟨l, h1, h2⟩ := Option.map_eq_some_iff.1 h
  obtain ⟨r1, r2⟩ := rn_fam (k := k) (nb := nb) hsb
  refine ⟨he, s, Weak.refl s, famI sid b k, ⟨famI_nodup hsb, by simp [famI]; omega, ⟨l, h1, by rw [h2]; exact Al.mono (fun i hi => by simp at hi; subst hi; simp [famI]) ha, by rw [h2, hr _ r1]; exact Imp.refl r⟩, (y, el, osR (nb + 1) k g) :: famW e5 k g, by simp [famI, famW], rfl, fun q i hq => ?_⟩⟩
  cases q with
  | zero =>
    simp [famI] at hq
    subst hq
    refine ⟨y, el, osR b k g, hσ, ?_, osR (nb + 1) k g, rfl, by simp [osR], fun q a' hq => ?_⟩
    · rw [AlL_iff]
      intro a hx
      obtain ⟨j, hj, rfl⟩ := List.mem_map.1 hx
      rw [List.mem_range] at hj
      show b + j ∈ famI sid b k
      exact List.mem_cons_of_mem _ (mem_rangeb.2 ⟨by omega, by omega⟩)
    · have hqk : q < k := by have := (List.getElem?_eq_some_iff.1 hq).1; simpa [osR] using this
      simp only [osR, List.getElem?_map, List.getElem?_range hqk, Option.map_some, Option.some.injEq] at hq
      subst hq
      refine ⟨.os (b + q) 0 (g q).length 1, by simp [osR, hqk], ?_⟩
      simp only [ren]
      rw [r2 q hqk]
      exact Imp.refl _
  | succ q =>
    simp only [famI, List.getElem?_cons_succ] at hq
    have hqk : q < k := by have := (List.getElem?_eq_some_iff.1 hq).1; simpa using this
    rw [List.getElem?_map, List.getElem?_range hqk] at hq
    simp at hq
    subst hq
    refine ⟨true, e5, g q, hf q hqk, AlL.mono (fun _ h => h.elim) (hp q hqk), g q, by simp [famW, hqk], rfl, fun j a' hj => ⟨a', hj, ?_⟩⟩
    rw [ren_id (p := fun _ => False) (fun _ h => h.elim) (AlL_iff.1 (hp q hqk) a' (List.mem_of_getElem? hj))]
    exact Imp.refl a'
end Go.Proofs.YtdenddhdeloceaaGreatDoor
namespace Go.Proofs.YtdenddhdeloceaaGreatDoor
open Go.RowKit
set_option maxRecDepth 100000
def gS (d : Dk) (j : Nat) : List AV := eB ((d.sectors[j]?).getD [])
def mixF (fr : Bool) (d : Dk) (i : Nat) : List AV := osR 10 i (gS d) ++ eL fr (d.sectors.drop i)
theorem mixF_len (fr : Bool) (d : Dk) {i : Nat} (h : i ≤ d.sectors.length) : (mixF fr d i).length = d.sectors.length := by
  rw [mixF, List.length_append, len_L, List.length_drop]; simp [osR]; omega
theorem mixF_get {fr : Bool} {d : Dk} {i : Nat} {t : List Int} (h : d.sectors[i]? = some t) : (mixF fr d i)[i]? = some (.fs fr (eB t) t.length) := by
  have hl : (osR 10 i (gS d)).length = i := by simp [osR]
  rw [mixF, List.getElem?_append_right (by omega), hl, Nat.sub_self]
  exact get_L (by rw [List.getElem?_drop]; exact h)
theorem mixF_set {fr : Bool} {d : Dk} {i : Nat} {t : List Int} (h : d.sectors[i]? = some t) (a : AV) : (mixF fr d i).set i a = osR 10 i (gS d) ++ a :: eL fr (d.sectors.drop (i + 1)) := by
  have hi := List.getElem?_eq_some_iff.1 h
  have hl : (osR 10 i (gS d)).length = i := by simp [osR]
  unfold mixF
  rw [List.set_append, if_neg (by omega), hl, Nat.sub_self, List.drop_eq_getElem_cons hi.1]
  rfl
theorem mixF_0 (fr : Bool) (d : Dk) : mixF fr d 0 = eL fr d.sectors := by simp [mixF, osR]
abbrev famS (d : Dk) (i : Nat) : List (Nat × AObj) := famL 10 i (fun j => .row true 5 (gS d j))
abbrev fixC (fr : Bool) (d : Dk) (i : Nat) : List (Nat × AObj) := [(0, zP), (1, .row true 50 [.os 2 0 d.sectors.length 1, .os 3 0 d.cache.length 2]), (2, .row true 22 (mixF fr d i)), (3, .row true 90 (eWrs fr d.cache))]
abbrev L_d1 (fr : Bool) (d : Dk) (i : Nat) : ASt := ⟨envOf [(2, .op 0 0), (3, .op 1 0), (15, .v (.int .i64 d.sectors.length)), (16, .v (.int .i64 i))], heapOf (fixC fr d i ++ famS d i), 10000⟩
theorem renL_osR {ρ : Nat → Nat} {b : Nat} {g : Nat → List AV} : ∀ {k : Nat}, (∀ j, j < k → ρ (b + j) = b + j) → renL ρ (osR b k g) = osR b k g
  | 0, _ => rfl
  | k + 1, h => by
    rw [osR_s, renL_append, renL_osR fun j hj => h j (by omega)]
    simp [renL, ren, h k (by omega)]
theorem al_osR {p : Nat → Prop} {b k : Nat} {g : Nat → List AV} (h : ∀ j, j < k → p (b + j)) : AlL p (osR b k g) := by
  rw [AlL_iff]; intro a ha
  obtain ⟨j, hj, rfl⟩ := List.mem_map.1 ha
  rw [List.mem_range] at hj
  exact h j hj
theorem fam_step (fr : Bool) (d : Dk) {i : Nat} {t : List Int} {NEW : Nat} (hx : d.sectors[i]? = some t) (hi : i < 2048) (hN : 10000 ≤ NEW) {N : Nat} {l : List (Nat × AV)} {env : Nat → AV} {σ : Heap} {nx : Nat}
    (hl : l = [(2, .op 0 0), (3, .op 1 0), (15, .v (.int .i64 d.sectors.length)), (16, .v (.int .i64 ((i + 1 : Nat) : Int)))]) (he : ∀ t v, (t, v) ∈ l → env t = v)
    (s0 : σ 0 = some zP) (s1 : σ 1 = some (.row true 50 [.os 2 0 d.sectors.length 1, .os 3 0 d.cache.length 2])) (s2 : σ 2 = some (.row true 22 (osR 10 i (gS d) ++ .os NEW 0 t.length 1 :: eL fr (d.sectors.drop (i + 1)))))
    (s3 : σ 3 = some (.row true 90 (eWrs fr d.cache))) (sN : σ NEW = some (.row true 5 (eB t))) (sF : ∀ j, j < i → σ (10 + j) = some (.row true 5 (gS d j))) :
    Weak N 0 ⟨env, σ, nx⟩ ⟨envOf l, heapOf (fixC fr d (i + 1) ++ famS d (i + 1)), 10000⟩ := by
  have hgt : gS d i = eB t := by simp [gS, hx]
  have hre : (([(0, 0), (1, 1), (2, 2), (3, 3), (NEW, 10 + i)] : List (Nat × Nat)).map (·.1)).Nodup := by simp; omega
  have hsep : ∀ p ∈ ([(0, 0), (1, 1), (2, 2), (3, 3), (NEW, 10 + i)] : List (Nat × Nat)), (p.1 < 10 ∨ 10 + i ≤ p.1) ∧ (p.2 < 10 ∨ 10 + i ≤ p.2) := by
    intro p hp; simp at hp; rcases hp with rfl | rfl | rfl | rfl | rfl <;> simp <;> omega
  have hn : (([(0, 0), (1, 1), (2, 2), (3, 3), (NEW, 10 + i)] ++ famR 10 i).map (·.1)).Nodup := by
    rw [List.map_append, famR_1, List.nodup_append]
    refine ⟨hre, range_nodup 10 i, fun a ha c hc e => ?_⟩
    rw [mem_rangeb] at hc
    obtain ⟨p, hp, rfl⟩ := List.mem_map.1 ha
    have := (hsep p hp).1; omega
  generalize hR : ([(0, 0), (1, 1), (2, 2), (3, 3), (NEW, 10 + i)] ++ famR 10 i : List (Nat × Nat)) = R at hn
  have q0 : rn R 0 = 0 := rn_mem (p := (0, 0)) (by rw [← hR]; simp) hn
  have q1 : rn R 1 = 1 := rn_mem (p := (1, 1)) (by rw [← hR]; simp) hn
  have q2 : rn R 2 = 2 := rn_mem (p := (2, 2)) (by rw [← hR]; simp) hn
  have q3 : rn R 3 = 3 := rn_mem (p := (3, 3)) (by rw [← hR]; simp) hn
  have qN : rn R NEW = 10 + i := rn_mem (p := (NEW, 10 + i)) (by rw [← hR]; simp) hn
  have qF : ∀ j, j < i → rn R (10 + j) = 10 + j := fun j hj => rn_mem (p := (10 + j, 10 + j)) (by rw [← hR]; exact List.mem_append_right _ (famR_mem.2 ⟨rfl, by simp only; omega, by simp only; omega⟩)) hn
  have i0 : 0 ∈ R.map (·.1) := by rw [← hR]; simp
  have i1 : 1 ∈ R.map (·.1) := by rw [← hR]; simp
  have i2 : 2 ∈ R.map (·.1) := by rw [← hR]; simp
  have i3 : 3 ∈ R.map (·.1) := by rw [← hR]; simp
  have iN : NEW ∈ R.map (·.1) := by rw [← hR]; simp
  have iF : ∀ j, j < i → 10 + j ∈ R.map (·.1) := fun j hj => by
    rw [← hR, List.map_append, famR_1]; exact List.mem_append_right _ (mem_rangeb.2 ⟨by omega, by omega⟩)
  have key := Weak.toF (N := N) (m := 0) (s := ⟨env, σ, nx⟩) [(0, 0), (1, 1), (2, 2), (3, 3), (NEW, 10 + i)] 10 i l (fixC fr d (i + 1) ++ [(10 + i, .row true 5 (gS d i))]) (fun j => .row true 5 (gS d j)) 10000
    hre (by simp; omega) (by intro p hp; simp at hp; rcases hp with rfl | rfl | rfl | rfl | rfl <;> simp <;> omega) (by omega) (by omega) (by omega) hsep ?_ ?_ ?_
  · have hF : heapOf (fixC fr d (i + 1) ++ [(10 + i, .row true 5 (gS d i))] ++ famL 10 i (fun j => .row true 5 (gS d j))) = heapOf (fixC fr d (i + 1) ++ famS d (i + 1)) := heapOf_famS (fixC fr d (i + 1)) 10 i (fun j => .row true 5 (gS d j))
    rw [hF] at key
    exact key
  · rw [hR]
    intro t v hv
    show Al _ (env t) ∧ Imp (ren (rn R) (env t)) v
    rw [he t v hv]
    rw [hl] at hv
    simp only [List.mem_cons, Prod.mk.injEq, List.not_mem_nil, or_false] at hv
    rcases hv with ⟨_, rfl⟩ | ⟨_, rfl⟩ | ⟨_, rfl⟩ | ⟨_, rfl⟩
    · exact ⟨i0, by show Imp (.op (rn R 0) 0) _; rw [q0]; exact Imp.refl _⟩
    · exact ⟨i1, by show Imp (.op (rn R 1) 0) _; rw [q1]; exact Imp.refl _⟩
    · exact ⟨trivial, Imp.refl _⟩
    · exact ⟨trivial, Imp.refl _⟩
  · rw [hR]
    intro j o hj
    simp only [fixC, List.cons_append, List.nil_append, List.mem_cons, Prod.mk.injEq, List.not_mem_nil, or_false] at hj
    rcases hj with ⟨rfl, rfl⟩ | ⟨rfl, rfl⟩ | ⟨rfl, rfl⟩ | ⟨rfl, rfl⟩ | ⟨rfl, rfl⟩
    · exact ⟨0, _, _, _, by simp, s0, ⟨trivial, trivial, trivial⟩, rfl⟩
    · exact ⟨1, _, _, _, by simp, s1, ⟨i2, i3, trivial⟩, by simp [renL, ren, q2, q3]⟩
    · refine ⟨2, _, _, _, by simp, s2, ?_, ?_⟩
      · rw [AlL_append]; exact ⟨al_osR iF, iN, al_L _⟩
      · rw [renL_append, renL_osR qF, renL, ren_L, ren, qN, mixF, osR_s, List.append_assoc, hgt, len_B]; rfl
    · exact ⟨3, _, _, _, by simp, s3, al_Wrs _, by rw [ren_Wrs]⟩
    · exact ⟨NEW, _, _, _, by simp, sN, al_B _, by rw [hgt, ren_B]⟩
  · intro j hj
    exact ⟨true, _, _, sF j hj, al_B _, rfl⟩
abbrev fixE (d : Dk) (X : List AV) : List (Nat × AObj) := [(0, zP), (1, .row true 50 [.os 2 0 d.sectors.length 1, .os 3 0 d.cache.length 2]), (2, .row true 22 (osR 10 d.sectors.length (gS d))), (3, .row true 90 X)]
theorem fam_keep (d : Dk) {X : List AV} {N : Nat} {l : List (Nat × AV)} {env : Nat → AV} {σ : Heap} {nx : Nat} {v w : Value} {a b : Nat} (hd : d.sectors.length ≤ 2048) (hX : PuL X)
    (hl : l = [(2, .op 0 0), (3, .op 1 0), (a, .v v), (b, .v w)]) (he : ∀ t v, (t, v) ∈ l → env t = v)
    (s0 : σ 0 = some zP) (s1 : σ 1 = some (.row true 50 [.os 2 0 d.sectors.length 1, .os 3 0 d.cache.length 2])) (s2 : σ 2 = some (.row true 22 (osR 10 d.sectors.length (gS d))))
    (s3 : σ 3 = some (.row true 90 X)) (sF : ∀ j, j < d.sectors.length → σ (10 + j) = some (.row true 5 (gS d j))) :
    Weak N 0 ⟨env, σ, nx⟩ ⟨envOf l, heapOf (fixE d X ++ famS d d.sectors.length), 10000⟩ := by
  have hre : (([(0, 0), (1, 1), (2, 2), (3, 3)] : List (Nat × Nat)).map (·.1)).Nodup := by decide
  have hsep : ∀ p ∈ ([(0, 0), (1, 1), (2, 2), (3, 3)] : List (Nat × Nat)), (p.1 < 10 ∨ 10 + d.sectors.length ≤ p.1) ∧ (p.2 < 10 ∨ 10 + d.sectors.length ≤ p.2) := by
    intro p hp; simp at hp; rcases hp with rfl | rfl | rfl | rfl <;> simp
  have hn : (([(0, 0), (1, 1), (2, 2), (3, 3)] ++ famR 10 d.sectors.length : List (Nat × Nat)).map (·.1)).Nodup := by
    rw [List.map_append, famR_1, List.nodup_append]
    refine ⟨hre, range_nodup 10 _, fun a ha c hc e => ?_⟩
    rw [mem_rangeb] at hc
    obtain ⟨p, hp, rfl⟩ := List.mem_map.1 ha
    have := (hsep p hp).1; omega
  generalize hR : ([(0, 0), (1, 1), (2, 2), (3, 3)] ++ famR 10 d.sectors.length : List (Nat × Nat)) = R at hn
  have q0 : rn R 0 = 0 := rn_mem (p := (0, 0)) (by rw [← hR]; simp) hn
  have q1 : rn R 1 = 1 := rn_mem (p := (1, 1)) (by rw [← hR]; simp) hn
  have q2 : rn R 2 = 2 := rn_mem (p := (2, 2)) (by rw [← hR]; simp) hn
  have q3 : rn R 3 = 3 := rn_mem (p := (3, 3)) (by rw [← hR]; simp) hn
  have qF : ∀ j, j < d.sectors.length → rn R (10 + j) = 10 + j := fun j hj => rn_mem (p := (10 + j, 10 + j)) (by rw [← hR]; exact List.mem_append_right _ (famR_mem.2 ⟨rfl, by simp only; omega, by simp only; omega⟩)) hn
  have i0 : 0 ∈ R.map (·.1) := by rw [← hR]; simp
  have i1 : 1 ∈ R.map (·.1) := by rw [← hR]; simp
  have i2 : 2 ∈ R.map (·.1) := by rw [← hR]; simp
  have i3 : 3 ∈ R.map (·.1) := by rw [← hR]; simp
  have iF : ∀ j, j < d.sectors.length → 10 + j ∈ R.map (·.1) := fun j hj => by
    rw [← hR, List.map_append, famR_1]; exact List.mem_append_right _ (mem_rangeb.2 ⟨by omega, by omega⟩)
  refine Weak.toF (N := N) (m := 0) (s := ⟨env, σ, nx⟩) [(0, 0), (1, 1), (2, 2), (3, 3)] 10 d.sectors.length l (fixE d X) (fun j => .row true 5 (gS d j)) 10000
    hre (by decide) (by intro p hp; simp at hp; rcases hp with rfl | rfl | rfl | rfl <;> simp) (by omega) (by omega) (by omega) hsep ?_ ?_ ?_
  · rw [hR]
    intro t v hv
    show Al _ (env t) ∧ Imp (ren (rn R) (env t)) v
    rw [he t v hv]
    rw [hl] at hv
    simp only [List.mem_cons, Prod.mk.injEq, List.not_mem_nil, or_false] at hv
    rcases hv with ⟨_, rfl⟩ | ⟨_, rfl⟩ | ⟨_, rfl⟩ | ⟨_, rfl⟩
    · exact ⟨i0, by show Imp (.op (rn R 0) 0) _; rw [q0]; exact Imp.refl _⟩
    · exact ⟨i1, by show Imp (.op (rn R 1) 0) _; rw [q1]; exact Imp.refl _⟩
    · exact ⟨trivial, Imp.refl _⟩
    · exact ⟨trivial, Imp.refl _⟩
  · rw [hR]
    intro j o hj
    simp only [fixE, List.mem_cons, Prod.mk.injEq, List.not_mem_nil, or_false] at hj
    rcases hj with ⟨rfl, rfl⟩ | ⟨rfl, rfl⟩ | ⟨rfl, rfl⟩ | ⟨rfl, rfl⟩
    · exact ⟨0, _, _, _, by simp, s0, ⟨trivial, trivial, trivial⟩, rfl⟩
    · exact ⟨1, _, _, _, by simp, s1, ⟨i2, i3, trivial⟩, by simp [renL, ren, q2, q3]⟩
    · exact ⟨2, _, _, _, by simp, s2, al_osR iF, by rw [renL_osR qF]⟩
    · exact ⟨3, _, _, _, by simp, s3, AlL.mono (fun _ h => h.elim) hX, by rw [renL_id (p := fun _ => False) (fun _ h => h.elim) hX]⟩
  · intro j hj
    exact ⟨true, _, _, sF j hj, al_B _, rfl⟩
abbrev L_d2 (fr : Bool) (d : Dk) (i : Nat) : ASt := ⟨envOf [(2, .op 0 0), (3, .op 1 0), (32, .v (.int .i64 d.cache.length)), (33, .v (.int .i64 i))], heapOf (fixE d (mixW fr d.cache i) ++ famS d d.sectors.length), 10000⟩
set_option maxHeartbeats 2000000 in
theorem clone_land (fr : Bool) (d : Dk) (nb : Nat) (h : okD d) : ASound Tryz.prog 87 [aDk fr d] nb (.ret (.agg [.os nb 0 d.sectors.length 1, fWrs true d.cache]) (newW nb ((true, 22, osR (nb + 1) d.sectors.length (gS d)) :: famW 5 d.sectors.length (gS d)))) := by
  refine ok_87.sound (by simp) ⟨al_aDk d, trivial⟩ ?_
  have hf := h.few
  have hne : d.sectors ≠ [] := fun e => hf (.inl (by rw [e]; decide))
  have c1 := clone1_ok fr d.sectors
  have c2 := clone2_spec fr d.cache
  simp only [fL] at c1
  simp only [fWrs] at c2
  simp only [ac_87, TT, ↓reduceIte, Nat.reduceEqDiff, Nat.reduceAdd, Nat.reduceMul, reduceCtorEq, Nat.reduceLeDiff]
  refine ⟨_, c1 _ hne (by omega), ?_⟩
  simp only [TT, ↓reduceIte, Nat.reduceEqDiff, Nat.reduceAdd, Nat.reduceMul, reduceCtorEq, Nat.reduceLeDiff]
  refine ⟨_, c2 _ (by omega), ?_⟩
  simp only [TT, ↓reduceIte, Nat.reduceEqDiff, Nat.reduceAdd, Nat.reduceMul, reduceCtorEq, Nat.reduceLeDiff]
  refine ⟨by rfl, ?_⟩
  refine AWc.family (L_d1 fr d) (fun i => i ≤ d.sectors.length) (fun i => d.sectors.length - i) 0 (Nat.zero_le _) ?_ ?_
  · have e0 : heapOf (fixC fr d 0 ++ famS d 0) = heapOf (fixC fr d 0) := by simp [famL]
    simp only [L_d1, e0]
    refine Weak.calc [(100000, 0), (900000, 1), (400000, 2), (700000, 3)] (by decide) ?_ ?_ <;> simp [WT, mixF_0]
  · intro i hi
    by_cases hlt : i < d.sectors.length
    · obtain ⟨t, hx, e1, e0⟩ := lt_at hlt
      have hb := bytesClone_os fr t
      simp only [fB] at hb
      have hml := mixF_len fr d hi
      have l1 : heapOf (fixC fr d i ++ famS d i) 1 = some (.row true 50 [.os 2 0 d.sectors.length 1, .os 3 0 d.cache.length 2]) := by rw [heapOf_append]; simp [heapOf]
      have l2 : heapOf (fixC fr d i ++ famS d i) 2 = some (.row true 22 (mixF fr d i)) := by rw [heapOf_append]; simp [heapOf]
      simp only [L_d1]
      generalize hH : heapOf (fixC fr d i ++ famS d i) = H at l1 l2
      simp only [e1, e0, l1, l2, Int.toNat_natCast, Nat.zero_add, mixF_get hx, TT, ↓reduceIte, Nat.reduceEqDiff, Nat.reduceAdd, Nat.reduceMul, reduceCtorEq, Nat.reduceLeDiff]
      have ht0 : t ≠ [] := fun e => by have := h.secs t (List.mem_of_getElem? hx); rw [e] at this; simp at this
      refine ⟨_, hb _ (okD_secs h t (List.mem_of_getElem? hx)) ht0, ?_⟩
      simp only [e1, e0, l1, l2, Int.toNat_natCast, Nat.zero_add, mixF_set hx, hml, TT, ↓reduceIte, Nat.reduceEqDiff, Nat.reduceAdd, Nat.reduceMul, reduceCtorEq, Nat.reduceLeDiff]
      rw [if_pos (by omega)]
      refine ⟨by rfl, ?_⟩
      refine famC_next (i + 1) (by omega) (by omega) ?_
      have w1 : IntKind.i64.wrap ((i : Int) + 1) = ((i + 1 : Nat) : Int) := by rw [wrap64 (by omega)]; omega
      rw [w1]
      refine fam_step fr d (NEW := 1110000) hx (by omega) (by omega) rfl (fun t v hv => ?_) ?_ ?_ ?_ ?_ ?_ ?_
      · simp at hv; rcases hv with ⟨rfl, rfl⟩ | ⟨rfl, rfl⟩ | ⟨rfl, rfl⟩ | ⟨rfl, rfl⟩ <;> simp [ET]
      · simp only [s_put1, ← hH, heapOf_append]; simp [heapOf]
      · simp only [s_put1, ← hH, heapOf_append]; simp [heapOf]
      · simp only [s_put1]; simp
      · simp only [s_put1, ← hH, heapOf_append]; simp [heapOf]
      · simp only [s_put1]; simp
      · intro j hj
        simp only [s_put1, ← hH, heapOf_append]
        have hfx : heapOf (fixC fr d i) (10 + j) = none := by
          simp only [fixC, heapOf]
          rw [if_neg (by omega), if_neg (by omega), if_neg (by omega), if_neg (by omega)]
        rw [if_neg (by omega), if_neg (by omega), hfx]
        simp only
        rw [s_heapFam, if_pos (by omega), show 10 + j - 10 = j from by omega]
    · obtain rfl : i = d.sectors.length := by omega
      have e1 : ¬ ((d.sectors.length : Int) < (d.sectors.length : Int)) := by omega
      have hmx : mixF fr d d.sectors.length = osR 10 d.sectors.length (gS d) := by simp [mixF, eL]
      have l1 : heapOf (fixC fr d d.sectors.length ++ famS d d.sectors.length) 1 = some (.row true 50 [.os 2 0 d.sectors.length 1, .os 3 0 d.cache.length 2]) := by rw [heapOf_append]; simp [heapOf]
      simp only [L_d1]
      generalize hH : heapOf (fixC fr d d.sectors.length ++ famS d d.sectors.length) = H at l1
      simp only [e1, l1, TT, ↓reduceIte, Nat.reduceEqDiff, Nat.reduceAdd, Nat.reduceMul, reduceCtorEq, Nat.reduceLeDiff]
      refine AWc.family (L_d2 fr d) (fun i => i ≤ d.cache.length) (fun i => d.cache.length - i) 0 (Nat.zero_le _) ?_ ?_
      · have e0 : mixW fr d.cache 0 = eWrs fr d.cache := mixW_0 fr d.cache
        simp only [L_d2]
        refine fam_keep d (X := mixW fr d.cache 0) (by omega) (al_mixW _ _ _) rfl (fun t v hv => ?_) ?_ ?_ ?_ ?_ ?_
        · simp at hv; rcases hv with ⟨rfl, rfl⟩ | ⟨rfl, rfl⟩ | ⟨rfl, rfl⟩ | ⟨rfl, rfl⟩ <;> simp [ET]
        · simp only [← hH, heapOf_append]; simp [heapOf]
        · exact l1
        · simp only [← hH, heapOf_append]; simp [heapOf, hmx]
        · simp only [← hH, heapOf_append]; simp [heapOf, e0]
        · intro j hj
          have hfx : heapOf (fixC fr d d.sectors.length) (10 + j) = none := by
            simp only [fixC, heapOf]
            rw [if_neg (by omega), if_neg (by omega), if_neg (by omega), if_neg (by omega)]
          simp only [← hH, heapOf_append]
          rw [hfx]
          simp only
          rw [s_heapFam, if_pos (by omega), show 10 + j - 10 = j from by omega]
      · intro i hi
        have hfx : ∀ j, heapOf (fixE d (mixW fr d.cache i)) (10 + j) = none := fun j => by
          simp only [fixE, heapOf]
          rw [if_neg (by omega), if_neg (by omega), if_neg (by omega), if_neg (by omega)]
        have l0 : heapOf (fixE d (mixW fr d.cache i) ++ famS d d.sectors.length) 0 = some zP := by rw [heapOf_append]; simp [heapOf]
        have l1 : heapOf (fixE d (mixW fr d.cache i) ++ famS d d.sectors.length) 1 = some (.row true 50 [.os 2 0 d.sectors.length 1, .os 3 0 d.cache.length 2]) := by rw [heapOf_append]; simp [heapOf]
        have l2 : heapOf (fixE d (mixW fr d.cache i) ++ famS d d.sectors.length) 2 = some (.row true 22 (osR 10 d.sectors.length (gS d))) := by rw [heapOf_append]; simp [heapOf]
        have l3 : heapOf (fixE d (mixW fr d.cache i) ++ famS d d.sectors.length) 3 = some (.row true 90 (mixW fr d.cache i)) := by rw [heapOf_append]; simp [heapOf]
        have lF : ∀ j, j < d.sectors.length → heapOf (fixE d (mixW fr d.cache i) ++ famS d d.sectors.length) (10 + j) = some (.row true 5 (gS d j)) := fun j hj => by
          rw [heapOf_append, hfx j]
          simp only
          rw [s_heapFam, if_pos (by omega), show 10 + j - 10 = j from by omega]
        simp only [L_d2]
        generalize heapOf (fixE d (mixW fr d.cache i) ++ famS d d.sectors.length) = H at l0 l1 l2 l3 lF
        by_cases hlt : i < d.cache.length
        · obtain ⟨w, hx, e1, e0⟩ := lt_at hlt
          have hb := bytesClone_spec fr w.data
          simp only [fB] at hb
          have hml := mixW_len fr d.cache i
          simp only [e1, e0, l1, l3, Int.toNat_natCast, Nat.zero_add, mixW_get hx, TT, ↓reduceIte, Nat.reduceEqDiff, Nat.reduceAdd, Nat.reduceMul, reduceCtorEq, Nat.reduceLeDiff]
          refine ⟨_, hb _ (okD_data h w (List.mem_of_getElem? hx)), ?_⟩
          simp only [e1, e0, l1, l3, Int.toNat_natCast, Nat.zero_add, mixW_set hx, hml, TT, ↓reduceIte, Nat.reduceEqDiff, Nat.reduceAdd, Nat.reduceMul, reduceCtorEq, Nat.reduceLeDiff]
          rw [if_pos (by omega)]
          refine ⟨by rfl, ?_⟩
          refine famC_next (i + 1) (by omega) (by omega) ?_
          have w1 : IntKind.i64.wrap ((i : Int) + 1) = ((i + 1 : Nat) : Int) := by rw [wrap64 (by omega)]; omega
          rw [w1]
          refine fam_keep d (X := mixW fr d.cache (i + 1)) (by omega) (al_mixW _ _ _) rfl (fun t v hv => ?_) ?_ ?_ ?_ ?_ ?_
          · simp at hv; rcases hv with ⟨rfl, rfl⟩ | ⟨rfl, rfl⟩ | ⟨rfl, rfl⟩ | ⟨rfl, rfl⟩ <;> simp [ET]
          · simp only [s_put1]; simp [l0]
          · simp only [s_put1]; simp [l1]
          · simp only [s_put1]; simp [l2]
          · simp only [s_put1]; simp
          · intro j hj
            simp only [s_put1]
            rw [if_neg (by omega)]; exact lF j hj
        · obtain rfl : i = d.cache.length := by omega
          have e1 : ¬ ((d.cache.length : Int) < (d.cache.length : Int)) := by omega
          have l0' : H 0 = some (.row true 50 [.v (.slice none 0 0), .v (.slice none 0 0)]) := l0
          simp only [e1, l0', l1, TT, ↓reduceIte, Nat.reduceEqDiff, Nat.reduceAdd, Nat.reduceMul, reduceCtorEq, Nat.reduceLeDiff]
          rw [mixW_all] at l3
          refine Ends.weak (Weak.freeze (s := ⟨_, _, _⟩) 3 (y := true) (e := 90) (cells := eWrs true d.cache) (by simp only [s_put1]; simp [l3]) [(2, .op 0 0)] ([(0, .row true 50 [.os 2 0 d.sectors.length 1, fWrs true d.cache]), (2, .row true 22 (osR 10 d.sectors.length (gS d)))] ++ famS d d.sectors.length) (fun t v hv => ?_) (fun j o hj => ?_)) ?_
          · simp at hv; obtain ⟨rfl, rfl⟩ := hv; exact .inl (.inl (by simp [ET]))
          · rcases List.mem_append.1 hj with hj | hj
            · simp only [List.mem_cons, Prod.mk.injEq, List.not_mem_nil, or_false] at hj
              rcases hj with ⟨rfl, rfl⟩ | ⟨rfl, rfl⟩
              · refine ⟨by decide, true, 50, [.os 2 0 d.sectors.length 1, .os 3 0 d.cache.length 2], [.os 2 0 d.sectors.length 1, fWrs true d.cache], by simp only [s_put1]; simp, rfl, rfl, fun k x' hx => ?_⟩
                rcases k with _ | _ | k
                · exact ⟨_, rfl, .inl (by simp at hx; exact hx.symm)⟩
                · refine ⟨_, rfl, .inr (.inr (.inl ⟨0, d.cache.length, 2, rfl, ?_⟩))⟩
                  simp at hx
                  rw [← hx, List.drop_zero, tk_Wrs]
                  rfl
                · simp at hx
              · exact ⟨by decide, true, 22, osR 10 d.sectors.length (gS d), osR 10 d.sectors.length (gS d), by simp only [s_put1]; simp [l2], rfl, rfl, fun k x' hx => ⟨x', hx, .inl rfl⟩⟩
            · obtain ⟨q, hq, e9⟩ := List.mem_map.1 hj
              rw [List.mem_range] at hq
              cases e9
              refine ⟨by omega, true, 5, gS d q, gS d q, ?_, rfl, rfl, fun k x' hx => ⟨x', hx, .inl rfl⟩⟩
              simp only [s_put1]
              rw [if_neg (by omega)]; exact lF q hq
          · have hfz : ∀ j, heapOf [(0, AObj.row true 50 [.os 2 0 d.sectors.length 1, fWrs true d.cache]), (2, .row true 22 (osR 10 d.sectors.length (gS d)))] (10 + j) = none := fun j => by
              simp only [heapOf]
              rw [if_neg (by omega), if_neg (by omega)]
            refine Ends.fam (sid := 2) (b := 10) (k := d.sectors.length) (el := 22) (e5 := 5) (y := true) (g := gS d) (r0 := .agg [.os 2 0 d.sectors.length 1, fWrs true d.cache]) (.inr rfl) ?_ (by decide) (by omega) ?_ ?_ (fun j _ => al_B _) ⟨by simp [Al], al_fWrs _, trivial⟩ ?_
            · simp [ET, heapOf_append, heapOf]
            · show heapOf _ 2 = _
              rw [heapOf_append]; simp [heapOf]
            · intro j hj
              show heapOf _ (10 + j) = _
              rw [heapOf_append, hfz j]
              simp only
              rw [s_heapFam, if_pos (by omega), show 10 + j - 10 = j from by omega]
            · intro ρ hρ
              simp [ren, renL, hρ, fWrs, ren_Wrs]
end Go.Proofs.YtdenddhdeloceaaGreatDoor
namespace Go.Proofs.YtdenddhdeloceaaGreatDoor
open Go.RowKit
set_option maxRecDepth 100000
abbrev fixD (d : Dk) : List (Nat × AObj) := [(0, zP), (1, .row true 50 [.os 2 0 d.sectors.length 1, fWrs true d.cache]), (2, .row true 22 (osR 900001 d.sectors.length (gS d)))]
theorem fam_land (d : Dk) {N : Nat} {l : List (Nat × AV)} {env : Nat → AV} {σ : Heap} {nx : Nat} {v w : Value} {a0 a1 a2 : Nat} (g : Nat → List Int) (hd : d.sectors.length ≤ 2048) (hne : a0 ≠ a1 ∧ a0 ≠ a2 ∧ a1 ≠ a2)
    (ha : ∀ a ∈ [a0, a1, a2], a < 900001 ∨ 903000 ≤ a)
    (hl : l = [(1, .fn 80 []), (4, .op 0 0), (7, .op 1 0), (19, fWrs true d.cache), (20, .v v), (21, .v w)])
    (e1 : env 1 = .fn 80 []) (e4 : env 4 = .op a0 0) (e7 : env 7 = .op a1 0) (e19 : env 19 = fWrs true d.cache) (e20 : env 20 = .v v) (e21 : env 21 = .v w)
    (s0 : σ a0 = some zP) (s1 : σ a1 = some (.row true 50 [.os a2 0 d.sectors.length 1, fWrs true d.cache])) (s2 : σ a2 = some (.row true 22 (osR 900001 d.sectors.length (gS d))))
    (sF : ∀ j, j < d.sectors.length → σ (900001 + j) = some (.row true 5 (eB (g j)))) :
    Weak N 0 ⟨env, σ, nx⟩ ⟨envOf l, heapOf (fixD d ++ famL 900001 d.sectors.length (fun j => .row true 5 (eB (g j)))), 2000000⟩ := by
  have hA0 := ha a0 (by simp)
  have hA1 := ha a1 (by simp)
  have hA2 := ha a2 (by simp)
  have hre : (([(a0, 0), (a1, 1), (a2, 2)] : List (Nat × Nat)).map (·.1)).Nodup := by simp; exact ⟨⟨hne.1, hne.2.1⟩, hne.2.2⟩
  have hsep : ∀ p ∈ ([(a0, 0), (a1, 1), (a2, 2)] : List (Nat × Nat)), (p.1 < 900001 ∨ 900001 + d.sectors.length ≤ p.1) ∧ (p.2 < 900001 ∨ 900001 + d.sectors.length ≤ p.2) := by
    intro p hp; simp at hp; rcases hp with rfl | rfl | rfl <;> simp <;> omega
  have hn : (([(a0, 0), (a1, 1), (a2, 2)] ++ famR 900001 d.sectors.length : List (Nat × Nat)).map (·.1)).Nodup := by
    rw [List.map_append, famR_1, List.nodup_append]
    refine ⟨hre, range_nodup 900001 _, fun a ha c hc e => ?_⟩
    rw [mem_rangeb] at hc
    obtain ⟨p, hp, rfl⟩ := List.mem_map.1 ha
    have := (hsep p hp).1; omega
  generalize hR : ([(a0, 0), (a1, 1), (a2, 2)] ++ famR 900001 d.sectors.length : List (Nat × Nat)) = R at hn
  have q0 : rn R a0 = 0 := rn_mem (p := (a0, 0)) (by rw [← hR]; simp) hn
  have q1 : rn R a1 = 1 := rn_mem (p := (a1, 1)) (by rw [← hR]; simp) hn
  have q2 : rn R a2 = 2 := rn_mem (p := (a2, 2)) (by rw [← hR]; simp) hn
  have qF : ∀ j, j < d.sectors.length → rn R (900001 + j) = 900001 + j := fun j hj => rn_mem (p := (900001 + j, 900001 + j)) (by rw [← hR]; exact List.mem_append_right _ (famR_mem.2 ⟨rfl, by simp only; omega, by simp only; omega⟩)) hn
  have i0 : a0 ∈ R.map (·.1) := by rw [← hR]; simp
  have i1 : a1 ∈ R.map (·.1) := by rw [← hR]; simp
  have i2 : a2 ∈ R.map (·.1) := by rw [← hR]; simp
  have iF : ∀ j, j < d.sectors.length → 900001 + j ∈ R.map (·.1) := fun j hj => by
    rw [← hR, List.map_append, famR_1]; exact List.mem_append_right _ (mem_rangeb.2 ⟨by omega, by omega⟩)
  refine Weak.toF (N := N) (m := 0) (s := ⟨env, σ, nx⟩) [(a0, 0), (a1, 1), (a2, 2)] 900001 d.sectors.length l (fixD d) (fun j => .row true 5 (eB (g j))) 2000000
    hre (by simp) (by intro p hp; simp at hp; rcases hp with rfl | rfl | rfl <;> simp) (by omega) (by omega) (by omega) hsep ?_ ?_ ?_
  · rw [hR]
    intro t x hv
    show Al _ (env t) ∧ Imp (ren (rn R) (env t)) x
    rw [hl] at hv
    simp only [List.mem_cons, Prod.mk.injEq, List.not_mem_nil, or_false] at hv
    rcases hv with ⟨rfl, rfl⟩ | ⟨rfl, rfl⟩ | ⟨rfl, rfl⟩ | ⟨rfl, rfl⟩ | ⟨rfl, rfl⟩ | ⟨rfl, rfl⟩
    · rw [e1]; exact ⟨trivial, Imp.refl _⟩
    · rw [e4]; exact ⟨i0, by show Imp (.op (rn R a0) 0) _; rw [q0]; exact Imp.refl _⟩
    · rw [e7]; exact ⟨i1, by show Imp (.op (rn R a1) 0) _; rw [q1]; exact Imp.refl _⟩
    · rw [e19]; exact ⟨al_Wrs _, by show Imp (.fs true (renL (rn R) (eWrs true d.cache)) d.cache.length) _; rw [ren_Wrs]; exact Imp.refl _⟩
    · rw [e20]; exact ⟨trivial, Imp.refl _⟩
    · rw [e21]; exact ⟨trivial, Imp.refl _⟩
  · rw [hR]
    intro j o hj
    simp only [fixD, List.mem_cons, Prod.mk.injEq, List.not_mem_nil, or_false] at hj
    rcases hj with ⟨rfl, rfl⟩ | ⟨rfl, rfl⟩ | ⟨rfl, rfl⟩
    · exact ⟨a0, _, _, _, by simp, s0, ⟨trivial, trivial, trivial⟩, rfl⟩
    · exact ⟨a1, _, _, _, by simp, s1, ⟨i2, al_Wrs _, trivial⟩, by simp [renL, ren, q2, fWrs, ren_Wrs]⟩
    · exact ⟨a2, _, _, _, by simp, s2, al_osR iF, by rw [renL_osR qF]⟩
  · intro j hj
    exact ⟨true, _, _, sF j hj, al_B _, rfl⟩
theorem landL_p {p : List Int → Prop} : ∀ (l : List (Bool × Wr)) (ss : List (List Int)), (∀ t ∈ ss, p t) → (∀ q ∈ l, p q.2.data) → ∀ t ∈ landL ss l, p t
  | [], ss, h, _, t, ht => h t ht
  | (k, w) :: l, ss, h, hq, t, ht => by
    rw [landL] at ht
    refine landL_p l _ ?_ (fun q hx => hq q (by simp [hx])) t ht
    intro x hx
    split at hx
    · rcases List.mem_or_eq_of_mem_set hx with h1 | h1
      · exact h x h1
      · rw [h1]; exact hq (k, w) (by simp)
    · exact h x hx
def zsF (d : Dk) : List (Bool × Wr) := (List.replicate d.cache.length true).zip d.cache
def secF (d : Dk) (i j : Nat) : List Int := ((landL d.sectors ((zsF d).take i))[j]?).getD []
abbrev L_ld (d : Dk) (i : Nat) : ASt := ⟨envOf [(1, .fn 80 []), (4, .op 0 0), (7, .op 1 0), (19, fWrs true d.cache), (20, .v (.int .i64 d.cache.length)), (21, .v (.int .i64 i))],
  heapOf (fixD d ++ famL 900001 d.sectors.length (fun j => .row true 5 (eB (secF d i j)))), 2000000⟩
theorem secF_len {d : Dk} (h : okD d) (i : Nat) {j : Nat} (hj : j < d.sectors.length) : (secF d i j).length = 64 := by
  have hl := landL_len ((zsF d).take i) d.sectors
  unfold secF
  rw [List.getElem?_eq_getElem (by omega)]
  refine landL_p (p := fun t => t.length = 64) _ _ h.secs (fun q hq => ?_) _ (List.getElem_mem _)
  have h1 := (List.of_mem_zip (List.mem_of_mem_take hq)).2
  exact Classical.byContradiction fun hx => h.cache q.2 h1 (.inr (.inr hx))
theorem fsR_land (d : Dk) (hz : (zsF d).take d.cache.length = zsF d) : fsR d.sectors.length (fun j => eB (secF d d.cache.length j)) = eL true (flushD d).sectors := by
  have hl := landL_len (zsF d) d.sectors
  have hfl : (flushD d).sectors = landL d.sectors (zsF d) := rfl
  rw [hfl]
  apply List.ext_getElem?
  intro j
  by_cases hj : j < d.sectors.length
  · simp only [fsR, eL, List.getElem?_map, List.getElem?_range hj, Option.map_some, secF, hz, List.getElem?_eq_getElem (show j < (landL d.sectors (zsF d)).length by omega), len_B]
    rfl
  · have h1 : (fsR d.sectors.length fun j => eB (secF d d.cache.length j))[j]? = none := List.getElem?_eq_none (by simp [fsR]; omega)
    have h2 : (eL true (landL d.sectors (zsF d)))[j]? = none := List.getElem?_eq_none (by rw [len_L]; omega)
    rw [h1, h2]
theorem osR_len {b k : Nat} {g g' : Nat → List AV} (h : ∀ j, j < k → (g j).length = (g' j).length) : osR b k g = osR b k g' := by
  unfold osR
  refine List.map_congr_left fun j hj => ?_
  rw [List.mem_range] at hj
  rw [h j hj]
theorem fam_end {n : Nat} {g : Nat → List AV} {N : Nat} {env : Nat → AV} {σ : Heap} {nx : Nat} {v : Value} (hn : n ≤ 2048) (hpu : ∀ j, PuL (g j)) (e4 : env 4 = .op 0 0) (e5 : env 5 = .v v)
    (s0 : σ 0 = some (.row true 50 [.os 2 0 n 1, .v (.slice none 0 0)])) (s2 : σ 2 = some (.row true 22 (osR 900001 n g))) (sF : ∀ j, j < n → σ (900001 + j) = some (.row true 5 (g j))) :
    Weak N 0 ⟨env, σ, nx⟩ ⟨envOf [(4, .op 0 0), (5, .v v)], heapOf [(0, .row true 50 [.os 2 0 n 1, .v (.slice none 0 0)]), (2, .row true 22 (fsR n g))], 2000000⟩ := by
  have hsep : ∀ p ∈ ([(0, 0), (2, 2)] : List (Nat × Nat)), (p.1 < 900001 ∨ 900001 + n ≤ p.1) ∧ (p.2 < 900001 ∨ 900001 + n ≤ p.2) := by
    intro p hp; simp at hp; rcases hp with rfl | rfl <;> simp
  have hnd : (([(0, 0), (2, 2)] ++ famR 900001 n : List (Nat × Nat)).map (·.1)).Nodup := by
    rw [List.map_append, famR_1, List.nodup_append]
    refine ⟨by decide, range_nodup 900001 _, fun a ha c hc e => ?_⟩
    rw [mem_rangeb] at hc
    obtain ⟨p, hp, rfl⟩ := List.mem_map.1 ha
    have := (hsep p hp).1; omega
  generalize hR : ([(0, 0), (2, 2)] ++ famR 900001 n : List (Nat × Nat)) = R at hnd
  have q0 : rn R 0 = 0 := rn_mem (p := (0, 0)) (by rw [← hR]; simp) hnd
  have q2 : rn R 2 = 2 := rn_mem (p := (2, 2)) (by rw [← hR]; simp) hnd
  have qF : ∀ j, j < n → rn R (900001 + j) = 900001 + j := fun j hj => rn_mem (p := (900001 + j, 900001 + j)) (by rw [← hR]; exact List.mem_append_right _ (famR_mem.2 ⟨rfl, by simp only; omega, by simp only; omega⟩)) hnd
  have i0 : 0 ∈ R.map (·.1) := by rw [← hR]; simp
  have i2 : 2 ∈ R.map (·.1) := by rw [← hR]; simp
  have iF : ∀ j, j < n → 900001 + j ∈ R.map (·.1) := fun j hj => by
    rw [← hR, List.map_append, famR_1]; exact List.mem_append_right _ (mem_rangeb.2 ⟨by omega, by omega⟩)
  refine Weak.trans (Weak.toF (N := N) (m := 0) (s := ⟨env, σ, nx⟩) [(0, 0), (2, 2)] 900001 n [(4, .op 0 0), (5, .v v)] [(0, .row true 50 [.os 2 0 n 1, .v (.slice none 0 0)]), (2, .row true 22 (osR 900001 n g))] (fun j => .row true 5 (g j)) 2000000
    (by decide) (by decide) (by intro p hp; simp at hp; rcases hp with rfl | rfl <;> simp) (by omega) (by omega) (by omega) hsep ?_ ?_ ?_) ?_
  · rw [hR]
    intro t x hv
    show Al _ (env t) ∧ Imp (ren (rn R) (env t)) x
    simp only [List.mem_cons, Prod.mk.injEq, List.not_mem_nil, or_false] at hv
    rcases hv with ⟨rfl, rfl⟩ | ⟨rfl, rfl⟩
    · rw [e4]; exact ⟨i0, by show Imp (.op (rn R 0) 0) _; rw [q0]; exact Imp.refl _⟩
    · rw [e5]; exact ⟨trivial, Imp.refl _⟩
  · rw [hR]
    intro j o hj
    simp only [List.mem_cons, Prod.mk.injEq, List.not_mem_nil, or_false] at hj
    rcases hj with ⟨rfl, rfl⟩ | ⟨rfl, rfl⟩
    · exact ⟨0, _, _, _, by simp, s0, ⟨i2, trivial, trivial⟩, by simp [renL, ren, q2]⟩
    · exact ⟨2, _, _, _, by simp, s2, al_osR iF, by rw [renL_osR qF]⟩
  · intro j hj
    exact ⟨true, _, _, sF j hj, hpu j, rfl⟩
  · have hF := Weak.freezeF (N := N) (m := 0) 900001 [(4, .op 0 0), (5, .v v)] [(0, .row true 50 [.os 2 0 n 1, .v (.slice none 0 0)])] 2 22 5 true g 2000000 (by simp) (by decide) (by intro j o hj; simp at hj; obtain ⟨rfl, rfl⟩ := hj; rfl) rfl (by intro t x hv; simp at hv; rcases hv with ⟨rfl, rfl⟩ | ⟨rfl, rfl⟩ <;> rfl) n []
    simp only [List.append_nil] at hF
    exact hF
set_option maxHeartbeats 2000000 in
theorem land_flush (fr : Bool) (d : Dk) (nb : Nat) (h : okD d) : ASound Tryz.prog 52 [aDk fr d, .fn 80 []] nb (.ret (.tup [aDk true (flushD d), .v (.int .i64 0)]) []) := by
  refine ok_52.sound (by simp) ⟨al_aDk d, trivial, trivial⟩ ?_
  have hf := h.few
  have hc := fun nb => dcheck_spec fr d nb (by omega)
  rw [dkE_ok h] at hc
  have hl := clone_land fr d
  simp only [aDk, fL, fWrs] at hc hl
  simp only [ac_52, TT, ↓reduceIte, Nat.reduceEqDiff, Nat.reduceAdd, Nat.reduceMul, reduceCtorEq, Nat.reduceLeDiff]
  refine ⟨_, hc _, ?_⟩
  simp only [not_true_eq_false, TT, ↓reduceIte, Nat.reduceEqDiff, Nat.reduceAdd, Nat.reduceMul, reduceCtorEq, Nat.reduceLeDiff]
  refine ⟨_, hl _ h, ?_⟩
  simp only [TT, ↓reduceIte, Nat.reduceEqDiff, Nat.reduceAdd, Nat.reduceMul, reduceCtorEq, Nat.reduceLeDiff]
  have hne : 0 < d.sectors.length := by omega
  refine AWc.family (L_ld d) (fun i => i ≤ d.cache.length) (fun i => d.cache.length - i) 0 (Nat.zero_le _) ?_ ?_
  · simp only [L_ld]
    refine fam_land d (a0 := 100000) (a1 := 1000000) (a2 := 900000) (secF d 0) (by omega) (by decide) (by intro a ha; simp at ha; omega) rfl (by simp [ET]) (by simp [ET]) (by simp [ET]) (by simp [ET, fWrs]) (by simp [ET]) (by simp [ET]) ?_ ?_ ?_ ?_
    · simp only [s_put1, newW, app_rows]
      rw [if_neg (by decide), if_neg (by decide), if_neg (by decide), if_pos True.intro]
    · simp only [s_put1]
      rw [if_pos True.intro]; rfl
    · simp only [s_put1, newW, app_rows]
      rw [if_neg (by decide), if_neg (by decide), if_pos (by decide)]; rfl
    · intro j hj
      rw [s_put1, if_neg (by omega), s_put1, if_neg (by omega), newW, app_rows, if_pos (by omega), show 900001 + j - 900000 = j + 1 from by omega, List.getElem?_cons_succ, famW, List.getElem?_map, List.getElem?_range hj]
      have hz : eB (secF d 0 j) = gS d j := by simp only [secF, List.take_zero, landL, gS]
      rw [hz]; rfl
  · intro i hi
    have hfx : ∀ j, heapOf (fixD d) (900001 + j) = none := fun j => by
      simp only [fixD, heapOf]
      rw [if_neg (by omega), if_neg (by omega), if_neg (by omega)]
    have l0 : heapOf (fixD d ++ famL 900001 d.sectors.length (fun j => .row true 5 (eB (secF d i j)))) 0 = some zP := by rw [heapOf_append]; simp [heapOf]
    have l1 : heapOf (fixD d ++ famL 900001 d.sectors.length (fun j => .row true 5 (eB (secF d i j)))) 1 = some (.row true 50 [.os 2 0 d.sectors.length 1, .fs true (eWrs true d.cache) d.cache.length]) := by rw [heapOf_append]; simp [heapOf, fWrs]
    have l2 : heapOf (fixD d ++ famL 900001 d.sectors.length (fun j => .row true 5 (eB (secF d i j)))) 2 = some (.row true 22 (osR 900001 d.sectors.length (gS d))) := by rw [heapOf_append]; simp [heapOf]
    have lF : ∀ j, j < d.sectors.length → heapOf (fixD d ++ famL 900001 d.sectors.length (fun j => .row true 5 (eB (secF d i j)))) (900001 + j) = some (.row true 5 (eB (secF d i j))) := fun j hj => by
      rw [heapOf_append, hfx j]
      simp only
      rw [s_heapFam, if_pos (by omega), show 900001 + j - 900001 = j from by omega]
    simp only [L_ld, fWrs]
    generalize hH : heapOf (fixD d ++ famL 900001 d.sectors.length (fun j => .row true 5 (eB (secF d i j)))) = H at l0 l1 l2 lF
    by_cases hlt : i < d.cache.length
    · obtain ⟨w, hw, e1, e0⟩ := lt_at hlt
      obtain ⟨g1, g2⟩ := get_Wrs (fr := true) hw
      have hbw := h.cache w (List.mem_of_getElem? hw)
      have s1 : 0 ≤ w.sec := Classical.byContradiction fun hx => hbw (.inl (by omega))
      have s2 : w.sec < (d.sectors.length : Int) := Classical.byContradiction fun hx => hbw (.inr (.inl (by omega)))
      obtain ⟨k, hk⟩ := Int.eq_ofNat_of_zero_le s1
      have hkl : k < d.sectors.length := by omega
      have c1 : ((0 : Int) ≤ (k : Int) ∧ (k : Int) < (d.sectors.length : Int)) = True := eq_true ⟨by omega, by omega⟩
      have hat := allTrue_spec (i : Int)
      have hol : (osR 900001 d.sectors.length (gS d))[k]? = some (.os (900001 + k) 0 64 1) := by
        have hs := h.secs _ (List.getElem_mem hkl)
        simp [osR, hkl, gS, len_B, hs]
      have lk := lF k hkl
      simp only [e1, e0, g1, g2, l1, hk, Int.toNat_natCast, TT, ↓reduceIte, Nat.reduceEqDiff, Nat.reduceAdd, Nat.reduceMul, reduceCtorEq, Nat.reduceLeDiff]
      refine ⟨_, _, _, rfl, hat _, ?_⟩
      have hdl : w.data.length = 64 := Classical.byContradiction fun hx => hbw (.inr (.inr hx))
      have hq : (900001 + k = 2400000) = False := eq_false (by omega)
      have hsl : (secF d i k).length = 64 := secF_len h i hkl
      have hsn : setN (eB (secF d i k)) 0 (eB w.data) = eB w.data := by
        rw [setN_B (by omega), hdl, List.drop_of_length_le (by omega), List.append_nil]
      have h64 : Nat.min 64 64 = 64 := rfl
      have htk : List.take 64 (eB w.data) = eB w.data := List.take_of_length_le (by rw [len_B, hdl]; exact Nat.le_refl _)
      simp only [l1, l2, c1, hol, lk, hk, hq, len_B, hdl, hsl, h64, htk, hsn, Int.toNat_natCast, Nat.zero_add, TT, ↓reduceIte, Nat.reduceEqDiff, Nat.reduceAdd, Nat.reduceMul, reduceCtorEq, Nat.reduceLeDiff]
      rw [if_pos (by decide)]
      refine ⟨by rfl, ?_⟩
      refine famC_next (i + 1) (by omega) (by omega) ?_
      have w1 : IntKind.i64.wrap ((i : Int) + 1) = ((i + 1 : Nat) : Int) := by rw [wrap64 (by omega)]; omega
      have hz : (zsF d)[i]? = some (true, w) := zip_at (List.getElem?_replicate_of_lt hlt) hw
      have hsn1 : ∀ j, j < d.sectors.length → secF d (i + 1) j = if j = k then w.data else secF d i j := fun j hj => by
        have hll := landL_len ((zsF d).take i) d.sectors
        unfold secF
        rw [landL_snoc hz]
        simp only [if_true, hk, Int.toNat_natCast]
        rw [List.getElem?_set]
        by_cases hjk : k = j
        · subst hjk; rw [if_pos rfl, if_pos (by omega), if_pos rfl]; rfl
        · rw [if_neg hjk, if_neg (fun e => hjk e.symm)]
      rw [w1]
      refine fam_land d (a0 := 0) (a1 := 1) (a2 := 2) (secF d (i + 1)) (by omega) (by decide) (by intro a ha; simp at ha; omega) rfl (by simp [ET]) (by simp [ET]) (by simp [ET]) (by simp [ET, fWrs]) (by simp [ET]) (by simp [ET]) ?_ ?_ ?_ ?_
      · rw [s_put1, if_neg (by omega), s_put1, if_neg (by omega), s_put1, if_neg (by omega)]; exact l0
      · rw [s_put1, if_neg (by omega), s_put1, if_neg (by omega), s_put1, if_neg (by omega)]; exact l1
      · rw [s_put1, if_neg (by omega), s_put1, if_neg (by omega), s_put1, if_neg (by omega)]; exact l2
      · intro j hj
        rw [hsn1 j hj, s_put1]
        by_cases hjk : j = k
        · rw [if_pos (by omega), if_pos hjk]
        · rw [if_neg (by omega), if_neg hjk, s_put1, if_neg (by omega), s_put1, if_neg (by omega)]
          exact lF j hj
    · obtain rfl : i = d.cache.length := by omega
      have e1 : ¬ ((d.cache.length : Int) < (d.cache.length : Int)) := by omega
      have l0' : H 0 = some (.row true 50 [.v (.slice none 0 0), .v (.slice none 0 0)]) := l0
      simp only [e1, l0', l1, TT, ↓reduceIte, Nat.reduceEqDiff, Nat.reduceAdd, Nat.reduceMul, reduceCtorEq, Nat.reduceLeDiff]
      have hzl : (zsF d).take d.cache.length = zsF d := List.take_of_length_le (by simp [zsF])
      have hos : osR 900001 d.sectors.length (gS d) = osR 900001 d.sectors.length (fun j => eB (secF d d.cache.length j)) := osR_len fun j hj => by
        rw [len_B, secF_len h _ hj]
        simp only [gS, len_B, List.getElem?_eq_getElem hj]
        exact h.secs _ (List.getElem_mem hj)
      rw [hos] at l2
      have hfin := fsR_land d hzl
      have hcl : (flushD d).sectors.length = d.sectors.length := landL_len _ _
      generalize hg : (fun j => eB (secF d d.cache.length j)) = g at l2 hfin
      have lG : ∀ j, j < d.sectors.length → H (900001 + j) = some (.row true 5 (g j)) := fun j hj => by rw [lF j hj, ← hg]
      have hpu : ∀ j, PuL (g j) := fun j => by rw [← hg]; exact al_B _
      refine Ends.weak (fam_end (n := d.sectors.length) (g := g) (v := .int .i64 0) (by omega) hpu (by simp [ET]) (by simp [ET]) ?_ ?_ ?_) ?_
      · rw [s_put1, if_pos rfl]
      · rw [s_put1, if_neg (by decide), s_put1, if_neg (by decide)]; exact l2
      · intro j hj
        rw [s_put1, if_neg (by omega), s_put1, if_neg (by omega)]; exact lG j hj
      rw [hfin]
      have hfd : flushD d = ⟨(flushD d).sectors, []⟩ := rfl
      have htk : List.take d.sectors.length (eL true (flushD d).sectors) = eL true (flushD d).sectors := List.take_of_length_le (by rw [len_L, hcl]; exact Nat.le_refl _)
      have himp := imp_crash (flushD d).sectors
      rw [← hfd] at himp
      simp only [aDk, fL, fWrs] at himp
      refine Ends.weak (Weak.freezeC 2 rfl (l := [(4, .op 0 0), (5, .v (.int .i64 0))]) (h := [(0, .row true 50 [.fs true (eL true (flushD d).sectors) (flushD d).sectors.length, .v (.slice none 0 0)])]) ?_ ?_) (Ends.imp (r0 := .tup [.agg [.fs true (eL true (flushD d).sectors) (flushD d).sectors.length, .v (.slice none 0 0)], .v (.int .i64 0)]) (.inr rfl) (by simp [ET]) ⟨⟨al_L _, trivial, trivial⟩, trivial, trivial⟩ himp)
      · simp [WT]
      · simp [WT, htk, hcl]
end Go.Proofs.YtdenddhdeloceaaGreatDoor
namespace Go.Proofs.YtdenddhdeloceaaGreatDoor
open Go.RowKit
set_option maxRecDepth 100000
theorem flush_spec (fr : Bool) (d : Dk) (nb : Nat) (h : okD d) : ASound Tryz.prog 43 [aDk fr d] nb (.ret (.tup [aDk true (flushD d), .v (.int .i64 0)]) []) := by
  refine ok_43.sound (by simp) ⟨al_aDk d, trivial⟩ ?_
  have hc := land_flush fr d
  simp only [aDk, fL, fWrs] at hc
  simp only [ac_43, TT, ↓reduceIte, Nat.reduceEqDiff, Nat.reduceAdd, Nat.reduceMul, reduceCtorEq, Nat.reduceLeDiff]
  refine ⟨_, hc _ h, ?_⟩
  simp only [TT, ↓reduceIte, Nat.reduceEqDiff, Nat.reduceAdd, Nat.reduceMul, reduceCtorEq, Nat.reduceLeDiff]
  exact Ends.data (r := .tup [aDk true (flushD d), .v (.int .i64 0)]) (.inr rfl) (by simp [ET, aDk, fL, fWrs]) ⟨al_aDk _, trivial, trivial⟩
end Go.Proofs.YtdenddhdeloceaaGreatDoor
namespace Go.Proofs.YtdenddhdeloceaaGreatDoor
open Go.RowKit Go.Shelf
attribute [local go_sem] Oper.semAt_some
set_option maxRecDepth 100000
theorem chunk_spec (fr : Bool) (cs : List AV) (len : Nat) (n : Int) (hn : 1 ≤ n) (hp : PuL cs) (nb : Nat) :
    ASound Tryz.prog 88 [.fs fr cs len, .v (.int .i64 n)] nb (.ret (.fn 109 [.fp true [.fs fr cs len] 0, .fp true [.v (.int .i64 n)] 0]) []) := by
  refine ok_88.sound (by simp) ⟨hp, trivial, trivial⟩ ?_
  have f1 : ¬ n < 1 := by omega
  simp only [ac_88, f1, TT, ↓reduceIte, Nat.reduceEqDiff, Nat.reduceAdd, Nat.reduceMul, reduceCtorEq, Nat.reduceLeDiff]
  refine Ends.weak (Weak.fnData 4 109 [.op 0 0, .op 100000 0] [.fp true [.fs fr cs len] 0, .fp true [.v (.int .i64 n)] 0] (by simp [s_envOf]) rfl ?_) (Ends.data (.inr rfl) (by simp [ET]) ⟨⟨hp, trivial⟩, ⟨trivial, trivial⟩, trivial⟩)
  intro j x' hj
  match j, hj with
  | 0, hj => cases hj; exact ⟨_, rfl, .inr ⟨0, true, 22, [.fs fr cs len], 0, rfl, by simp [WT], ⟨hp, trivial⟩, rfl⟩⟩
  | 1, hj => cases hj; exact ⟨_, rfl, .inr ⟨100000, true, 3, [.v (.int .i64 n)], 0, rfl, by simp [WT], ⟨trivial, trivial⟩, rfl⟩⟩
  | j + 2, hj => simp at hj
/-- how many parts -/
def chK (len n : Nat) : Nat := (len + n - 1) / n
theorem chK_lt {len n j : Nat} (hn : 1 ≤ n) : j < chK len n ↔ j * n < len := by
  unfold chK
  rw [Nat.lt_div_iff_mul_lt (by omega)]
  omega
set_option maxHeartbeats 4000000 in
theorem chunk_in (l : Nat) (p1 p2 : Addr) (A : Option Addr) (len cap n K : Nat) (hK : K = chK len n) (hn : 1 ≤ n) (hsz : len + n ≤ 9223372036854775807) (hcap : len ≤ cap) (hA : len ≠ 0 → ∃ b off, A = some ⟨b, off, none⟩)
    (J Jx : List (_root_.Fin K) → World → Prop) (Kp : World → World → Prop) (hKp : ∀ B C, Kp B C → C.cell? p1 = B.cell? p1 ∧ C.cell? p2 = B.cell? p2)
    (W : World) (hJ : AbidesFrom W.heap.size J) (hJx : AbidesFrom W.heap.size Jx)
    (hY : ∀ pre (x : _root_.Fin K) W1, J pre W1 → pre.length < K → YieldAt Fence.wide 1 Tryz.prog l #[.slice (A.map (fun a => { a with off := a.off + x.1 * n })) (min n (len - x.1 * n)) (min n (len - x.1 * n))] W1 fun e W' => (e = .returned (.bool true) ∧ J (pre ++ [x]) W' ∧ Kp W1 W') ∨ (e = .returned (.bool false) ∧ Jx (pre ++ [x]) W'))
    (h1 : W.cell? p1 = some (.slice A len cap)) (h2 : W.cell? p2 = some (.int .i64 n)) (hj : J [] W) :
    CallsIn Fence.wide 2 Tryz.prog 109 #[.func (.yield l) #[] #[], .pointer (some p1), .pointer (some p2)] W fun e W' => (∃ v, e = .returned v) ∧
      ((∃ xs, xs = List.finRange K ∧ J xs W') ∨ (∃ pre, (∃ k, k < K ∧ pre = (List.finRange K).take (k + 1)) ∧ Jx pre W')) := by
  subst hK
  have H1 := Lib.hid h1
  have H2 := Lib.hid h2
  have HY := Lib.hid hY
  have HJ := Lib.hid hJ
  have Hj := Lib.hid hj
  have HK := Lib.hid hKp
  clear h1 h2 hY hJ hJx hj hKp
  refine callsIn_of_wp Tryz.func109 rfl trivial ?_ rfl
  simp only [Tryz.ntmps109, List.size_toArray, List.length_cons, List.length_nil, Nat.reduceAdd, Nat.reduceSub, Array.replicate_succ, Array.replicate_zero, List.push_toArray, List.append_toArray, List.nil_append, List.cons_append]
  gi_wp2
  gi_loopw [4] (fun i wr => ∃ j : Nat, j ≤ chK len n ∧ i = .int .i64 ((j * n : Nat) : Int) ∧ Hid (J ((List.finRange (chK len n)).take j) wr) ∧ Hid (wr.cell? p1 = some (.slice A len cap)) ∧ Hid (wr.cell? p2 = some (.int .i64 n))) (fun i _ => len + n - (intOf i).toNat)
  case atStart => exact ⟨0, Nat.zero_le _, by simp, Hj, H1, H2⟩
  case round =>
    obtain ⟨j, hjk, rfl, HJs, G1, G2⟩ := hrel
    have y1 := G1.out
    have y2 := G2.out
    obtain ⟨q, hq⟩ : ∃ q, q = j * n := ⟨_, rfl⟩
    have HQ := Lib.hid hq
    rw [← hq]
    by_cases hlt : q < len
    · obtain ⟨b, off, rfl⟩ := hA (by omega)
      have e1 : decide ((q : Int) < (len : Int)) = true := by simpa using hlt
      have hq63 : q ≤ 9223372036854775807 := by omega
      clear hq hA
      gi_wp2_with fail
      have hjlt : j < chK len n := (chK_lt hn).2 (by rw [← HQ.out]; exact hlt)
      obtain ⟨x, hxv, hxl⟩ : ∃ x : _root_.Fin (chK len n), x.1 = j ∧ (List.finRange (chK len n)).take (j + 1) = (List.finRange (chK len n)).take j ++ [x] :=
        ⟨⟨j, hjlt⟩, rfl, by rw [List.take_succ_eq_append_getElem (by simpa using hjlt)]; simp⟩
      have HX := Lib.hid hxl
      have HL := Lib.hid hjlt
      have hjd : J ((List.finRange (chK len n)).take j) wr.drew := HJ.out _ _ _ none HJs.out ⟨rfl, rfl, rfl, Nat.le_refl _, fun _ _ _ => rfl⟩ (fun r e => by cases e)
      obtain ⟨fn, tmps, assign, body, hy, hR⟩ := HY.out _ x wr.drew hjd (by simp; omega)
      dsimp only [Option.map_some] at hy
      rw [hxv, ← HQ.out] at hy
      have HR := Lib.hid hR
      have HYY := Lib.hid hy
      clear hjd hR hy hjlt hxl hxv
      gi_region
      all_goals gi_wp2_with fail
      case' inl => rw [show ((q : Int) + ((len - q : Nat) : Int)).toNat - q = min n (len - q) from by omega]
      case' inr => rw [show ((q : Int) + (n : Int)).toNat - q = min n (len - q) from by omega]
      all_goals rw [HYY.out, Oper.uponIn_round]
      all_goals refine ⟨fun h => (by cases h), HR.out.mono ?_⟩
      all_goals rintro e W3 (⟨rfl, hJ3, hk3⟩ | ⟨rfl, hJx3⟩)
      all_goals clear y1 y2
      · have k1 := Lib.hid ((HK.out _ _ hk3).1.trans G1.out)
        have k2 := Lib.hid ((HK.out _ _ hk3).2.trans G2.out)
        have y2 := k2.out
        have HJ3 := Lib.hid hJ3
        clear hJ3 hk3
        gi_wp2_with fail
        go_roundw
        case rel => exact ⟨j + 1, HL.out, by rw [HQ.out, Nat.succ_mul]; simp, by rw [HX.out]; exact HJ3.out, k1, k2⟩
        case measure => simp [intOf]; omega
      · gi_wp2_with fail
        refine bodyPost_ret (results_none rfl _ _ _) rfl ?_
        exact ⟨⟨_, rfl⟩, .inr ⟨_, ⟨j, HL.out, HX.out.symm⟩, hJx3⟩⟩
      · have k1 := Lib.hid ((HK.out _ _ hk3).1.trans G1.out)
        have k2 := Lib.hid ((HK.out _ _ hk3).2.trans G2.out)
        have y2 := k2.out
        have HJ3 := Lib.hid hJ3
        clear hJ3 hk3
        gi_wp2_with fail
        go_roundw
        case rel => exact ⟨j + 1, HL.out, by rw [HQ.out, Nat.succ_mul]; simp, by rw [HX.out]; exact HJ3.out, k1, k2⟩
        case measure => simp [intOf]; omega
      · gi_wp2_with fail
        refine bodyPost_ret (results_none rfl _ _ _) rfl ?_
        exact ⟨⟨_, rfl⟩, .inr ⟨_, ⟨j, HL.out, HX.out.symm⟩, hJx3⟩⟩
    · have e1 : decide ((q : Int) < (len : Int)) = false := by simpa using hlt
      have hjK : j = chK len n := by
        rcases Nat.lt_or_ge j (chK len n) with h | h
        · exact absurd ((chK_lt hn).1 h) (by rw [← hq]; exact hlt)
        · omega
      have HE := Lib.hid hjK
      clear hq hA hjK
      gi_wp2_with fail
      go_end0
      exact ⟨⟨_, rfl⟩, .inl ⟨_, rfl, by have := HJs.out; rwa [HE.out, List.take_of_length_le (by simp)] at this⟩⟩
/-- the parts -/
def chL (fr : Bool) (cs : List AV) (len n : Nat) : List (List AV) := (List.range (chK len n)).map fun i => [.fs fr ((cs.drop (i * n)).take (min n (len - i * n))) (min n (len - i * n))]
theorem chL_len (fr : Bool) (cs : List AV) (len n : Nat) : (chL fr cs len n).length = chK len n := by simp [chL]
theorem chL_get (fr : Bool) (cs : List AV) (len n : Nat) (i : _root_.Fin (chL fr cs len n).length) : (chL fr cs len n)[i] = [.fs fr ((cs.drop (i.1 * n)).take (min n (len - i.1 * n))) (min n (len - i.1 * n))] := by
  have : ∀ (k : Nat) (hk : k < (chL fr cs len n).length), (chL fr cs len n)[k] = [.fs fr ((cs.drop (k * n)).take (min n (len - k * n))) (min n (len - k * n))] := fun k hk => by simp [chL]
  exact this i.1 i.2
theorem chunk_iter (fr f1 f2 : Bool) (cs : List AV) (len n : Nat) (hn : 1 ≤ n) (hsz : len + n ≤ 9223372036854775807) (hl : cs.length = len) :
    IterA Tryz.prog 109 [.fp f1 [.fs fr cs len] 0, .fp f2 [.v (.int .i64 n)] 0] (chL fr cs len n) := by
  refine ⟨by rfl, fun c lb hr hv => ?_⟩
  simp only [VRt] at hv
  obtain ⟨u1, us, rfl, h1, u2, us2, rfl, h2, rfl⟩ := hv
  rw [VR] at h1 h2
  obtain ⟨b1, o1, rfl, hlt1, ho1, hm1⟩ := h1
  obtain ⟨b2, o2, rfl, hlt2, ho2, hm2⟩ := h2
  simp only [VRm, Nat.add_zero] at hm1 hm2
  obtain ⟨⟨v1, hc1, _, hv1⟩, _⟩ := hm1
  obtain ⟨⟨v2, hc2, _, hv2⟩, _⟩ := hm2
  have hv2' : v2 = .int .i64 n := hv2
  subst hv2'
  obtain ⟨A, k, rfl, hk, hA⟩ := hv1
  refine ⟨fun i => [.slice (A.map (fun a => { a with off := a.off + i.1 * n })) (min n (len - i.1 * n)) (min n (len - i.1 * n))], fun i => ?_, ?_⟩
  · rw [chL_get]
    have hi : i.1 * n < len := (chK_lt hn).1 (Nat.lt_of_lt_of_eq i.2 (chL_len fr cs len n))
    obtain ⟨b, off, rfl, q1, q2, q3⟩ := hA (by omega)
    simp only [VRt]
    refine ⟨_, _, rfl, ?_, rfl⟩
    rw [VR]
    refine ⟨_, _, rfl, Nat.le_refl _, fun _ => ⟨b, off + i.1 * n, rfl, q1, q2, ?_⟩⟩
    rw [VRm_iff] at q3 ⊢
    intro j a hj
    rw [List.getElem?_take] at hj
    split at hj
    · rw [List.getElem?_drop] at hj
      have := q3 _ _ hj
      rwa [← Nat.add_assoc] at this
    · cases hj
  · intro l J Jx W hW hJ hJx hY hj
    refine chunk_in l ⟨b1, o1, none⟩ ⟨b2, o2, none⟩ A len k n _ (chL_len fr cs len n) hn hsz hk (fun h => ?_) J Jx (Kc c) (fun B C hK => ⟨?_, ?_⟩) W hJ hJx hY ?_ ?_ hj
    · obtain ⟨b, off, e, _⟩ := hA h; exact ⟨b, off, e⟩
    · exact World.cell?_of_block (hK b1 hlt1 ho1.2.1 (fun h => absurd h ho1.2.2))
    · exact World.cell?_of_block (hK b2 hlt2 ho2.2.1 (fun h => absurd h ho2.2.2))
    · exact (World.cell?_of_block (hW.block b1 hlt1)).trans hc1
    · exact (World.cell?_of_block (hW.block b2 hlt2)).trans hc2
end Go.Proofs.YtdenddhdeloceaaGreatDoor
