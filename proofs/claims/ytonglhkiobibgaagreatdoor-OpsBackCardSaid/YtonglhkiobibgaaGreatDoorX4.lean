/- Merged texts: UI, UL, UM, UN, UO, KE, UP, UQ, UR, US, H9, HA, NJ, HB, HC, HF, HG, HH, HI, HJ, NK, HK, HD, HE, HL, HM, HN, HO, NL, HP, HQ, HR, HS, HT, HU, HV, HW, NM, HX. -/
import Derived.Test.YtonglhkiobibgaaGreatDoorX3
import Derived.Test.YtonglhkiobibgaaGreatDoorX1
import Derived.Test.YtonglhkiobibgaaGreatDoorProg
import Derived.Shelf.Abstract
import Derived.Shelf.RegionOpen
import Derived.WalkKit
import Derived.OwnWalkIn
import Derived.TacticsInMore
import Derived.LoopNIn
import Derived.LoopIn
import Derived.Lib.Hide
set_option linter.unusedSimpArgs false
set_option linter.unusedVariables false
namespace Go.Proofs.YtonglhkiobibgaaGreatDoor
open Go.RowKit
set_option maxRecDepth 100000
def scRecR (l : List Int) : List Int :=
  if (scOct l).2.1 ≠ 0 then (scOct l).2.2 else if (scNums (scOct l).2.2).2.1 ≠ 0 then (scNums (scOct l).2.2).2.2 else (scTexts (scNums (scOct l).2.2).2.2).2.2
def anyR : AV := .agg [.any, .any, .any]
def recV (x : Rec × Int) : AV := if x.2 = 0 then aRec true x.1 else anyR
theorem recV_0 {r : Rec} : recV (r, 0) = aRec true r := rfl
theorem recV_ne {x : Rec × Int} (h : x.2 ≠ 0) : recV x = anyR := if_neg h
theorem imp_recE {a b c : AV} (e : Int) : Imp (.tup [.agg [a, b, c], errV e]) (.tup [anyR, errV e]) := Imp.tupL ⟨Imp.aggL ⟨Imp.any _, Imp.any _, Imp.any _, trivial⟩, Imp.refl _, trivial⟩
set_option maxHeartbeats 2000000 in
theorem record_spec (y fr : Bool) (l : List Int) (id nb : Nat) (hid : id < nb) (hb : okB l) :
    ASound Tryz.prog 156 [.op id 0] nb (rowM id (scRow y fr l) (.ret (.tup [recV (scRec l), errV (scRec l).2]) [(id, some (scRow y fr (scRecR l)))])) := by
  refine ok_156.soundR (by simp) ⟨rfl, trivial⟩ (by simp) ⟨al_B l, trivial⟩ ⟨al_B _, trivial⟩ rfl hid ?_
  have h1 := fun nb h => octet_spec y fr l 0 nb h hb
  have hb1 : okB (scOct l).2.2 := okB_sc hb ⟨1, scOct_rest l⟩
  rcases hk : scOct l with ⟨k, ek, r1⟩
  rw [hk] at h1 hb1
  simp only at hb1
  have h2 := fun nb h => scnums_spec y fr r1 0 nb h hb1
  have hb2 : okB (scNums r1).2.2 := okB_sc hb1 (scList_rest scNum_rest r1)
  rcases hn : scNums r1 with ⟨ns, en, r2⟩
  rw [hn] at h2 hb2
  simp only at hb2
  have h3 := fun nb h => sctexts_spec y fr r2 0 nb h hb2
  rcases ht : scTexts r2 with ⟨ts, et, r3⟩
  rw [ht] at h3
  simp only [scRow, fB, fI, fL] at h1 h2 h3
  simp only [ac_156, renL, ren, scRow, TT, ↓reduceIte, Nat.reduceEqDiff, Nat.reduceAdd, Nat.reduceMul, reduceCtorEq, Nat.reduceLeDiff]
  refine ⟨_, h1 _ (by decide), ?_⟩
  by_cases e1 : ek = 0
  · subst e1
    simp only [errV_0, TT, ↓reduceIte, Nat.reduceEqDiff, Nat.reduceAdd, Nat.reduceMul, reduceCtorEq, Nat.reduceLeDiff]
    refine ⟨_, h2 _ (by omega), ?_⟩
    by_cases e2 : en = 0
    · subst e2
      simp only [errV_0, TT, ↓reduceIte, Nat.reduceEqDiff, Nat.reduceAdd, Nat.reduceMul, reduceCtorEq, Nat.reduceLeDiff]
      refine ⟨_, h3 _ (by omega), ?_⟩
      by_cases e3 : et = 0
      · subst e3
        simp only [errV_0, TT, ↓reduceIte, Nat.reduceEqDiff, Nat.reduceAdd, Nat.reduceMul, reduceCtorEq, Nat.reduceLeDiff]
        have hR : scRecR l = r3 := by simp [scRecR, hk, hn, ht]
        by_cases e4 : 0 < r3.length
        · have f4 : (0 : Int) < (r3.length : Int) := by omega
          have hv : scRec l = (rec0, 23) := by simp [scRec, hk, hn, ht, e4]
          rw [hv, hR]
          simp only [f4, TT, ↓reduceIte, Nat.reduceEqDiff, Nat.reduceAdd, Nat.reduceMul, reduceCtorEq, Nat.reduceLeDiff]
          rw [recV_ne (show (rec0, 23).2 ≠ 0 from by decide)]
          exact EndsR.imp (r0 := .tup [.agg [.v (.int .i64 k), .fs true (eI ns) ns.length, .fs true (eL true ts) ts.length], errV 23]) (.inr rfl) (by simp [ET, errV]) ⟨⟨trivial, al_I _, al_L _, trivial⟩, al_errV _, trivial⟩ (imp_recE _) (by simp [ET])
        · have f4 : ¬ (0 : Int) < (r3.length : Int) := by omega
          have hv : scRec l = (⟨k, ns, ts⟩, 0) := by simp [scRec, hk, hn, ht, e4]
          rw [hv, hR]
          simp only [f4, recV_0, TT, ↓reduceIte, Nat.reduceEqDiff, Nat.reduceAdd, Nat.reduceMul, reduceCtorEq, Nat.reduceLeDiff]
          exact EndsR.data (r := .tup [aRec true ⟨k, ns, ts⟩, errV 0]) (.inr rfl) (by simp [ET, errV, aRec, fI, fL]) ⟨al_aRec _, al_errV 0, trivial⟩ (by simp [ET])
      · have hR : scRecR l = r3 := by simp [scRecR, hk, hn, ht]
        have hv : scRec l = (rec0, et) := by simp [scRec, hk, hn, ht, e3]
        rw [hv, hR]
        simp only [errV_ne e3, TT, ↓reduceIte, Nat.reduceEqDiff, Nat.reduceAdd, Nat.reduceMul, reduceCtorEq, Nat.reduceLeDiff]
        rw [recV_ne (show (rec0, et).2 ≠ 0 from e3)]
        exact EndsR.imp (r0 := .tup [.agg [.v (.int .i64 k), .fs true (eI ns) ns.length, .fs true (eL true ts) ts.length], errV et]) (.inr rfl) (by simp [ET, errV, e3]) ⟨⟨trivial, al_I _, al_L _, trivial⟩, al_errV _, trivial⟩ (by rw [← errV_ne e3]; exact imp_recE _) (by simp [ET])
    · have hR : scRecR l = r2 := by simp [scRecR, hk, hn, e2]
      have hv : scRec l = (rec0, en) := by simp [scRec, hk, hn, e2]
      rw [hv, hR]
      simp only [errV_ne e2, TT, ↓reduceIte, Nat.reduceEqDiff, Nat.reduceAdd, Nat.reduceMul, reduceCtorEq, Nat.reduceLeDiff]
      rw [recV_ne (show (rec0, en).2 ≠ 0 from e2)]
      exact EndsR.imp (r0 := .tup [.agg [.v (.int .i64 k), .fs true (eI ns) ns.length, .v (.slice none 0 0)], errV en]) (.inr rfl) (by simp [ET, errV, e2]) ⟨⟨trivial, al_I _, trivial, trivial⟩, al_errV _, trivial⟩ (by rw [← errV_ne e2]; exact imp_recE _) (by simp [ET])
  · have hR : scRecR l = r1 := by simp [scRecR, hk, e1]
    have hv : scRec l = (rec0, ek) := by simp [scRec, hk, e1]
    rw [hv, hR]
    simp only [errV_ne e1, TT, ↓reduceIte, Nat.reduceEqDiff, Nat.reduceAdd, Nat.reduceMul, reduceCtorEq, Nat.reduceLeDiff]
    rw [recV_ne (show (rec0, ek).2 ≠ 0 from e1)]
    exact EndsR.imp (r0 := .tup [.agg [.v (.int .i64 k), .v (.slice none 0 0), .v (.slice none 0 0)], errV ek]) (.inr rfl) (by simp [ET, errV, e1]) ⟨⟨trivial, trivial, trivial, trivial⟩, al_errV _, trivial⟩ (by rw [← errV_ne e1]; exact imp_recE _) (by simp [ET])
end Go.Proofs.YtonglhkiobibgaaGreatDoor
namespace Go.Proofs.YtonglhkiobibgaaGreatDoor
open Go.RowKit
set_option maxRecDepth 100000
set_option maxHeartbeats 4000000 in
theorem code_walk (e : Int) (w : World) (hg : w.cell? ⟨0, 0, none⟩ = some (.iface 342 (.agg #[.pointer (some ⟨4, 102, none⟩)]))) :
    Calls Tryz.prog 157 #[.iface 323 (.agg #[.int .i64 e])] w fun ev w' => ev = .returned (.int .i64 e) ∧ w' = ((((w.alloc (.cells #[.int .i64 e] 323)).alloc (.cells #[.pointer (some ⟨w.heap.size, 0, none⟩)] 324)).alloc (.cells #[.pointer (some ⟨4, 324, none⟩), .pointer (some ⟨w.heap.size + 1, 0, none⟩), .int .u64 150] 281)).alloc (.cells #[.pointer (some ⟨4, 324, none⟩), .pointer (some ⟨w.heap.size + 1, 0, none⟩), .int .u64 150] 281)).alloc (.cells #[.int .i64 e] 323) := by
  have hlt : 0 < w.heap.size := by
    rcases Nat.eq_zero_or_pos w.heap.size with h0 | h
    · simp [World.cell?, h0] at hg
    · exact h
  have hgA : (w.alloc (.cells #[.int .i64 0] 323)).cell? ⟨0, 0, none⟩ = some (.iface 342 (.agg #[.pointer (some ⟨4, 102, none⟩)])) := by
    rw [World.cell?_alloc_lt _ _ ⟨0, 0, none⟩ hlt]; exact hg
  have htA : (w.alloc (.cells #[.int .i64 0] 323)).cell? ⟨w.heap.size, 0, none⟩ = some (.int .i64 0) := by simp
  have hfA : (w.alloc (.cells #[.int .i64 0] 323)).frozen? ⟨w.heap.size, 0, none⟩ = false := by simp
  go_enter Tryz.func157, Tryz.ntmps157
  go_wp2_with (first | (go_at_call 123; refine (tz_as e _ (.int .i64 0) _ hgA htA hfA).mono ?_; rintro e w' ⟨rfl, rfl⟩))
  go_ret
  exact ⟨rfl, rfl⟩
theorem code_spec (e : Int) (nb : Nat) : ASound Tryz.prog 157 [.ifc 323 (.agg [.v (.int .i64 e)])] nb (.ret (.v (.int .i64 e)) []) := by
  refine ⟨by kernel_rfl, fun c us r R W hrun hr hfr hv => ?_⟩
  simp [AM.run] at hrun
  obtain ⟨rfl, _, rfl⟩ := hrun
  obtain ⟨u, us', rfl, ⟨v, rfl, vs, rfl, x, vs', rfl, _, hx, hn⟩, hn2⟩ := hv
  rw [VRl] at hn
  subst hn
  rw [VRt] at hn2
  subst hn2
  rw [VR] at hx
  subst hx
  have hg := (hr.gl 0 _ rfl).1
  refine (code_walk e c.w hg).mono ?_
  rintro ev w' ⟨rfl, hw⟩
  have step : ∀ (w : World) (o : Obj) (b : Nat), b < w.heap.size → (w.alloc o).heap[b]? = w.heap[b]? := fun w o b hb => Below.heap_alloc w o b hb
  have h1 : c.w.heap.size ≤ w'.heap.size := by rw [hw]; simp only [World.size_alloc]; omega
  have h2 : ∀ b, b < c.w.heap.size → w'.heap[b]? = c.w.heap[b]? := by
    intro b hb
    rw [hw]
    rw [step _ _ _ (by simp only [World.size_alloc]; omega), step _ _ _ (by simp only [World.size_alloc]; omega), step _ _ _ (by simp only [World.size_alloc]; omega), step _ _ _ (by simp only [World.size_alloc]; omega), step _ _ _ hb]
  have h3 : w'.output = c.w.output := by rw [hw]; rfl
  have h4 : w'.os = c.w.os := by rw [hw]; rfl
  have h5 : w'.tape = c.w.tape := by rw [hw]; rfl
  exact ⟨_, c.at w', rfl, rfl, rfl, Then.onlyW hr nb h1 h2 h3 h4 h5⟩
end Go.Proofs.YtonglhkiobibgaaGreatDoor
namespace Go.Proofs.YtonglhkiobibgaaGreatDoor
open Go.RowKit
set_option maxRecDepth 100000
theorem imp_rec0 (e : Int) : Imp (.tup [.agg [.v (.int .i64 0), .v (.slice none 0 0), .v (.slice none 0 0)], .v (.int .i64 e)]) (.tup [aRec true rec0, .v (.int .i64 e)]) :=
  Imp.tupL ⟨Imp.aggL ⟨Imp.refl _, Imp.nil true, Imp.nil true, trivial⟩, Imp.refl _, trivial⟩
theorem scRec_err {l : List Int} (h : (scRec l).2 ≠ 0) : (scRec l).1 = rec0 := by
  unfold scRec at h ⊢
  simp only at h ⊢
  split
  · rfl
  · split
    · rfl
    · split
      · rfl
      · split
        · rfl
        · rename_i a b c d
          rw [if_neg a, if_neg b, if_neg c, if_neg d] at h
          exact absurd rfl h
theorem okB_open {l : List Int} (h : okB l) : okB (openB l).1 := by
  unfold openB
  split
  · intro x hx; simp at hx
  · split
    · exact okB_take h _
    · intro x hx; simp at hx
set_option maxHeartbeats 2000000 in
theorem decode_spec (fr : Bool) (l : List Int) (nb : Nat) (hb : okB l) (h : l.length ≤ 140737488355320) : ASound Tryz.prog 98 [fB fr l] nb (.ret (.tup [aRec true (dec l).1, .v (.int .i64 (dec l).2)]) []) := by
  refine ok_98.sound (by simp) ⟨al_fB l, trivial⟩ ?_
  simp only [ac_98, TT, ↓reduceIte, Nat.reduceEqDiff, Nat.reduceAdd, Nat.reduceMul, reduceCtorEq, Nat.reduceLeDiff]
  refine ⟨_, open_spec fr l _ hb h, ?_⟩
  have hob := okB_open hb
  rcases ho : openB l with ⟨b, e⟩
  rw [ho] at hob
  simp only at hob
  simp only [TT, ↓reduceIte, Nat.reduceEqDiff, Nat.reduceAdd, Nat.reduceMul, reduceCtorEq, Nat.reduceLeDiff]
  by_cases he : e = 0
  · subst he
    have hd : dec l = scRec b := by simp [dec, ho]
    rw [hd]
    simp only [TT, ↓reduceIte, Nat.reduceEqDiff, Nat.reduceAdd, Nat.reduceMul, reduceCtorEq, Nat.reduceLeDiff]
    have k := fun id nb h => record_spec true true b id nb h hob
    simp only [scRow, fB] at k
    refine ⟨_, k _ _ (by omega), ?_⟩
    rcases hs : scRec b with ⟨r, e⟩
    by_cases e2 : e = 0
    · subst e2
      simp only [recV_0, errV_0, TT, ↓reduceIte, Nat.reduceEqDiff, Nat.reduceAdd, Nat.reduceMul, reduceCtorEq, Nat.reduceLeDiff]
      exact Ends.data (r := .tup [aRec true r, .v (.int .i64 0)]) (.inr rfl) (by simp [ET, aRec, fI, fL]) ⟨al_aRec _, trivial, trivial⟩
    · simp only [recV_ne (show (r, e).2 ≠ 0 from e2), errV_ne e2, anyR, TT, ↓reduceIte, Nat.reduceEqDiff, Nat.reduceAdd, Nat.reduceMul, reduceCtorEq, Nat.reduceLeDiff]
      refine ⟨_, code_spec e _, ?_⟩
      have hr0 : r = rec0 := by
        have := scRec_err (l := b) (by rw [hs]; exact e2)
        rw [hs] at this; exact this
      rw [hr0]
      simp only [TT, ↓reduceIte, Nat.reduceEqDiff, Nat.reduceAdd, Nat.reduceMul, reduceCtorEq, Nat.reduceLeDiff]
      exact Ends.imp (r0 := .tup [.agg [.v (.int .i64 0), .v (.slice none 0 0), .v (.slice none 0 0)], .v (.int .i64 e)]) (.inr rfl) (by simp [ET]) ⟨⟨trivial, trivial, trivial, trivial⟩, trivial, trivial⟩ (imp_rec0 e)
  · have hd : dec l = (rec0, e) := by simp [dec, ho, he]
    rw [hd]
    simp only [he, not_false_eq_true, TT, ↓reduceIte, Nat.reduceEqDiff, Nat.reduceAdd, Nat.reduceMul, reduceCtorEq, Nat.reduceLeDiff]
    exact Ends.imp (r0 := .tup [.agg [.v (.int .i64 0), .v (.slice none 0 0), .v (.slice none 0 0)], .v (.int .i64 e)]) (.inr rfl) (by simp [ET]) ⟨⟨trivial, trivial, trivial, trivial⟩, trivial, trivial⟩ (imp_rec0 e)
end Go.Proofs.YtonglhkiobibgaaGreatDoor
namespace Go.Proofs.YtonglhkiobibgaaGreatDoor
open Go.RowKit
set_option maxRecDepth 100000
/-- a rest of a list -/
def Suf (B r : List Int) : Prop := B.drop (B.length - r.length) = r
theorem Suf.le {B r : List Int} (h : Suf B r) : r.length ≤ B.length := by
  have := congrArg List.length h
  rw [List.length_drop] at this; omega
theorem Suf.drop {B r : List Int} (h : Suf B r) (n : Nat) : Suf B (r.drop n) := by
  have hl := h.le
  unfold Suf at *
  rw [List.length_drop]
  by_cases hn : n ≤ r.length
  · conv => rhs; rw [← h, List.drop_drop]
    congr 1; omega
  · rw [List.drop_of_length_le (by omega), List.drop_of_length_le (l := r) (by omega)]
end Go.Proofs.YtonglhkiobibgaaGreatDoor
namespace Go.Proofs.YtonglhkiobibgaaGreatDoor
open Go.RowKit
set_option maxRecDepth 100000
end Go.Proofs.YtonglhkiobibgaaGreatDoor
namespace Go.Proofs.YtonglhkiobibgaaGreatDoor
set_option maxRecDepth 100000
end Go.Proofs.YtonglhkiobibgaaGreatDoor
namespace Go.Proofs.YtonglhkiobibgaaGreatDoor
open Go.RowKit
set_option maxRecDepth 100000
end Go.Proofs.YtonglhkiobibgaaGreatDoor
namespace Go.Proofs.YtonglhkiobibgaaGreatDoor
open Go.RowKit
set_option maxRecDepth 100000
theorem manyI.fin {α : Type} {f : List Int → α × Int × List Int} {N i : Nat} {R : List α × Int × List Int} {out : List α} {e : Int} {rest : List Int} (h : manyI f N R i out e rest) (hx : ¬ i < N ∨ e ≠ 0) : R = (out, e, rest) := by
  rcases h.st with ⟨he, hN, hle, hR⟩ | ⟨h0, hR⟩
  · subst he
    have : i = N := by rcases hx with h1 | h1; omega; exact absurd rfl h1
    subst this
    exact many_end hR
  · exact hR
end Go.Proofs.YtonglhkiobibgaaGreatDoor
namespace Go.Proofs.YtonglhkiobibgaaGreatDoor
open Go.RowKit
set_option maxRecDepth 100000
end Go.Proofs.YtonglhkiobibgaaGreatDoor
namespace Go.Proofs.YtonglhkiobibgaaGreatDoor
open Go.RowKit
set_option maxRecDepth 100000
def trL (l : List Int) : List Int := l.dropWhile fun x => decide (x = 0)
def trR (l : List Int) : List Int := (trL l.reverse).reverse
theorem trL_0 (l : List Int) : trL (0 :: l) = trL l := by simp [trL]
theorem trL_n {x : Int} (l : List Int) (h : x ≠ 0) : trL (x :: l) = x :: l := by simp [trL, h]
theorem trR_0 (l : List Int) : trR (l ++ [0]) = trR l := by simp [trR, trL]
theorem trR_n {x : Int} (l : List Int) (h : x ≠ 0) : trR (l ++ [x]) = l ++ [x] := by simp [trR, trL, h]
theorem trL_len (l : List Int) : (trL l).length ≤ l.length := by
  induction l with
  | nil => simp [trL]
  | cons x l ih =>
    by_cases h : x = 0
    · subst h; rw [trL_0, List.length_cons]; omega
    · rw [trL_n l h]; exact Nat.le_refl _
theorem trL_nil {l : List Int} : (trL l).length = 0 ↔ ∀ x ∈ l, x = 0 := by
  induction l with
  | nil => simp [trL]
  | cons x l ih =>
    by_cases h : x = 0
    · subst h; rw [trL_0, ih]; simp
    · rw [trL_n l h]; simp [h]
theorem trR_nil {l : List Int} : (trR l).length = 0 ↔ ∀ x ∈ l, x = 0 := by
  rw [trR, List.length_reverse, trL_nil]; simp
theorem trL_head {l r : List Int} {x : Int} (h : trL l = x :: r) : x ≠ 0 := by
  induction l with
  | nil => simp [trL] at h
  | cons y l ih =>
    by_cases hy : y = 0
    · subst hy; rw [trL_0] at h; exact ih h
    · rw [trL_n l hy] at h
      simp at h
      rw [← h.1]; exact hy
theorem trim_nil {l : List Int} : (trL (trR l)).length = 0 ↔ ∀ x ∈ l, x = 0 := by
  rw [trL_nil, ← trR_nil (l := l)]
  constructor
  · intro h
    by_cases h0 : (trR l).length = 0
    · exact h0
    · exfalso
      have hne : trR l ≠ [] := fun e => h0 (by rw [e]; rfl)
      have hd : trL l.reverse ≠ [] := fun e => hne (by rw [trR, e]; rfl)
      cases hq : trL l.reverse with
      | nil => exact hd hq
      | cons x r =>
        exact trL_head hq (h x (by rw [trR, hq]; simp))
  · intro h x hx
    rw [List.eq_nil_of_length_eq_zero h] at hx; cases hx
theorem le00 : ((0 : Int) ≤ 0) = True := eq_true (Int.le_refl 0)
abbrev L_tr (fr : Bool) (q : List Int) : ASt := ⟨envOf [(0, fB fr q), (1, .v (.int .u8 0))], heapOf [], 0⟩
theorem trimR_spec (fr : Bool) (l : List Int) (nb : Nat) (hB : l.length ≤ 140737488355328) : ASound Tryz.prog 259 [fB fr l, .v (.int .u8 0)] nb (.ret (fB fr (trR l)) []) := by
  refine ok_259.sound (by simp) ⟨al_fB l, trivial, trivial⟩ ?_
  simp only [ac_259, TT, ↓reduceIte, Nat.reduceEqDiff, Nat.reduceAdd, Nat.reduceMul, reduceCtorEq, Nat.reduceLeDiff]
  refine AWc.family (L_tr fr) (fun q => trR q = trR l ∧ q.length ≤ l.length) (fun q => q.length) l ⟨rfl, Nat.le_refl _⟩ ?_ ?_
  · refine Weak.calc [] (by decide) ?_ ?_ <;> simp [WT]
  · rintro q ⟨hq, hql⟩
    rcases List.eq_nil_or_concat q with h0 | ⟨p, x, h0⟩
    · subst h0
      have e1 : ¬ ((0 : Int) < ((0 : Nat) : Int)) := by decide
      rw [← hq]
      simp only [L_tr, List.length_nil, e1, TT, ↓reduceIte, Nat.reduceEqDiff, Nat.reduceAdd, Nat.reduceMul, reduceCtorEq, Nat.reduceLeDiff]
      exact Ends.data (r := .fs fr (eB []) 0) (.inr rfl) (by simp [ET]) (al_fB (fr := fr) [])
    · rw [List.concat_eq_append] at h0
      subst h0
      have hl : (p ++ [x]).length = p.length + 1 := by simp
      have e1 : ((0 : Int) < ((p.length + 1 : Nat) : Int)) := by omega
      have w1 : IntKind.i64.wrap (((p.length + 1 : Nat) : Int) - 1) = (p.length : Int) := by rw [wrap64 (by omega)]; omega
      have c1 : ((0 : Int) ≤ (p.length : Int) ∧ (p.length : Int) < ((p.length + 1 : Nat) : Int)) = True := eq_true ⟨by omega, by omega⟩
      have c2 : ((0 : Int) ≤ (p.length : Int) ∧ (p.length : Int) ≤ ((p.length + 1 : Nat) : Int)) = True := eq_true ⟨by omega, by omega⟩
      have g1 : (eB (p ++ [x]))[p.length]? = some (.v (.int .u8 x)) := get_B (by simp)
      have t1 : (p ++ [x]).take p.length = p := by simp
      by_cases hx : x = 0
      · subst hx
        simp only [L_tr, hl, e1, w1, c1, c2, Int.toNat_natCast, g1, take_B, t1, Nat.sub_zero, TT, ↓reduceIte, Nat.reduceEqDiff, Nat.reduceAdd, Nat.reduceMul, reduceCtorEq, Nat.reduceLeDiff]
        refine famC_next p (by simp only [List.length_append, List.length_cons, List.length_nil]; omega) ⟨?_, by omega⟩ ?_
        · rw [← hq, trR_0]
        · refine Weak.calc [] (by decide) ?_ ?_ <;> simp [WT]
      · simp only [L_tr, hl, e1, w1, c1, c2, Int.toNat_natCast, g1, hx, take_B, t1, TT, ↓reduceIte, Nat.reduceEqDiff, Nat.reduceAdd, Nat.reduceMul, reduceCtorEq, Nat.reduceLeDiff]
        rw [← hq, trR_n p hx, hl]
        exact Ends.data (r := .fs fr (eB (p ++ [x])) (p.length + 1)) (.inr rfl) (by simp [ET]) (al_B _)
theorem trimL_spec (fr : Bool) (l : List Int) (nb : Nat) (hB : l.length ≤ 140737488355328) : ASound Tryz.prog 258 [fB fr l, .v (.int .u8 0)] nb (.ret (fB fr (trL l)) []) := by
  refine ok_258.sound (by simp) ⟨al_fB l, trivial, trivial⟩ ?_
  simp only [ac_258, TT, ↓reduceIte, Nat.reduceEqDiff, Nat.reduceAdd, Nat.reduceMul, reduceCtorEq, Nat.reduceLeDiff]
  refine AWc.family (L_tr fr) (fun q => trL q = trL l ∧ q.length ≤ l.length) (fun q => q.length) l ⟨rfl, Nat.le_refl _⟩ ?_ ?_
  · refine Weak.calc [] (by decide) ?_ ?_ <;> simp [WT]
  · rintro q ⟨hq, hql⟩
    cases q with
    | nil =>
      have e1 : ¬ ((0 : Int) < ((0 : Nat) : Int)) := by decide
      have e2 : ((0 : Nat) : Int) = 0 := rfl
      rw [← hq]
      simp only [L_tr, List.length_nil, e1, e2, TT, ↓reduceIte, Nat.reduceEqDiff, Nat.reduceAdd, Nat.reduceMul, reduceCtorEq, Nat.reduceLeDiff]
      exact Ends.imp (r0 := .v (.slice none 0 0)) (.inr rfl) (by simp [ET]) trivial (Imp.nil fr)
    | cons x p =>
      have e1 : ((0 : Int) < ((p.length + 1 : Nat) : Int)) := by omega
      have e2 : ¬ ((p.length + 1 : Nat) : Int) = 0 := by omega
      have c1 : ((0 : Int) ≤ 0 ∧ (0 : Int) < ((p.length + 1 : Nat) : Int)) = True := eq_true ⟨by omega, by omega⟩
      have c2 : ((0 : Int) ≤ 1 ∧ (1 : Int) ≤ ((p.length + 1 : Nat) : Int)) = True := eq_true ⟨by omega, by omega⟩
      have g1 : (eB (x :: p))[Int.toNat 0]? = some (.v (.int .u8 x)) := rfl
      have t1 : (eB (x :: p)).drop (Int.toNat 1) = eB p := rfl
      have n1 : p.length + 1 - Int.toNat 1 = p.length := rfl
      by_cases hx : x = 0
      · subst hx
        simp only [L_tr, List.length_cons, e1, le00, c1, c2, g1, t1, n1, tk_B, TT, ↓reduceIte, Nat.reduceEqDiff, Nat.reduceAdd, Nat.reduceMul, reduceCtorEq, Nat.reduceLeDiff]
        refine famC_next p (by simp) ⟨?_, by rw [List.length_cons] at hql; omega⟩ ?_
        · rw [← hq, trL_0]
        · refine Weak.calc [] (by decide) ?_ ?_ <;> simp [WT]
      · rw [← hq, trL_n p hx]
        simp only [L_tr, List.length_cons, e1, e2, le00, c1, c2, g1, t1, n1, hx, tk_B, TT, ↓reduceIte, Nat.reduceEqDiff, Nat.reduceAdd, Nat.reduceMul, reduceCtorEq, Nat.reduceLeDiff]
        exact Ends.data (r := .fs fr (eB (x :: p)) (p.length + 1)) (.inr rfl) (by simp [ET]) (al_B _)
theorem trim_spec (fr : Bool) (l : List Int) (nb : Nat) (hB : l.length ≤ 140737488355328) : ASound Tryz.prog 224 [fB fr l, .v (.string (ByteArray.mk #[0]))] nb (.ret (fB fr (trL (trR l))) []) := by
  refine ok_224.sound (by simp) ⟨al_fB l, trivial, trivial⟩ ?_
  by_cases h0 : l.length = 0
  · have hl : l = [] := List.eq_nil_of_length_eq_zero h0
    subst hl
    have e2 : ((0 : Nat) : Int) = 0 := rfl
    simp only [ac_224, List.length_nil, e2, TT, ↓reduceIte, Nat.reduceEqDiff, Nat.reduceAdd, Nat.reduceMul, reduceCtorEq, Nat.reduceLeDiff]
    exact Ends.imp (r0 := .v (.slice none 0 0)) (.inr rfl) (by simp [ET]) trivial (Imp.nil fr)
  · have e2 : ¬ (l.length : Int) = 0 := by omega
    have s1 : strOp BinOp.eql (ByteArray.mk #[0]) (ByteArray.mk #[]) = some (.bool false) := by kernel_rfl
    have s2 : (ByteArray.mk #[0]).size = 1 := rfl
    have s3 : (ByteArray.mk #[0])[Int.toNat 0]? = some 0 := rfl
    have s4 : ((1 : Nat) : Int) = 1 := rfl
    have s5 : (((0 : UInt8).toNat : Nat) : Int) = 0 := rfl
    have s6 : (0 : Int) < 128 := by decide
    simp only [ac_224, e2, s1, s2, s3, s4, s5, s6, le00, TT, ↓reduceIte, Nat.reduceEqDiff, Nat.reduceAdd, Nat.reduceMul, reduceCtorEq, Nat.reduceLeDiff]
    have hr : (trR l).length ≤ l.length := by
      have := trL_len l.reverse
      rw [trR, List.length_reverse]; rw [List.length_reverse] at this; exact this
    refine ⟨_, trimR_spec fr l _ hB, ?_⟩
    simp only [s3, s5, le00, TT, ↓reduceIte, Nat.reduceEqDiff, Nat.reduceAdd, Nat.reduceMul, reduceCtorEq, Nat.reduceLeDiff]
    refine ⟨_, trimL_spec fr (trR l) _ (by omega), ?_⟩
    simp only [TT, ↓reduceIte, Nat.reduceEqDiff, Nat.reduceAdd, Nat.reduceMul, reduceCtorEq, Nat.reduceLeDiff]
    refine ⟨by rfl, ?_⟩
    exact Ends.data (r := fB fr (trL (trR l))) (.inr rfl) (by simp [ET, fB]) (al_fB _)
end Go.Proofs.YtonglhkiobibgaaGreatDoor
namespace Go.Proofs.YtonglhkiobibgaaGreatDoor
open Go.RowKit
set_option maxRecDepth 100000
def upE (a b : Int) : Int := (a + b - 1) / b
theorem upE_bd {a b : Int} (h1 : 0 ≤ a) (h2 : 1 ≤ b) : 0 ≤ upE a b ∧ upE a b ≤ a + b - 1 := ⟨Int.ediv_nonneg (by omega) (by omega), Int.ediv_le_self _ (by omega)⟩
theorem up_spec (a b : Int) (nb : Nat) (h1 : 0 ≤ a) (h2 : a ≤ 10000) (h3 : 1 ≤ b) (h4 : b ≤ 10000) : ASound Tryz.prog 180 [.v (.int .i64 a), .v (.int .i64 b)] nb (.ret (.v (.int .i64 (upE a b))) []) := by
  refine ok_180.sound (by simp) ⟨trivial, trivial, trivial⟩ ?_
  have w1 : IntKind.i64.wrap (a + b) = a + b := wrap64 (by omega)
  have w2 : IntKind.i64.wrap (a + b - 1) = a + b - 1 := wrap64 (by omega)
  have hb := upE_bd h1 h3
  have w3 : IntKind.i64.wrap ((a + b - 1).tdiv b) = upE a b := by
    rw [Int.tdiv_eq_ediv_of_nonneg (by omega)]
    exact wrap64 (by have := hb.1; have := hb.2; unfold upE at *; omega)
  have hz : (b = 0) = False := eq_false (by omega)
  simp only [ac_180, w1, w2, w3, hz, TT, ↓reduceIte, Nat.reduceEqDiff, Nat.reduceAdd, Nat.reduceMul, reduceCtorEq, Nat.reduceLeDiff]
  exact Ends.data (.inr rfl) (by simp [ET]) trivial
def nBl (z : Int) : Int := upE z 32
def mBl (z : Int) : Int := if 12 < nBl z then 1 + upE (nBl z - 12) 8 + 1 else if 4 < nBl z then 1 else 0
def blkE (z : Int) : Int := if z < 0 then 4 else if 2432 < z then 107 else 0
theorem blocks_spec (z : Int) (nb : Nat) : ASound Tryz.prog 176 [.v (.int .i64 z)] nb (.ret (.tup [.v (.int .i64 (if blkE z = 0 then nBl z else 0)), .v (.int .i64 (if blkE z = 0 then mBl z else 0)), .v (.int .i64 (blkE z))]) []) := by
  refine ok_176.sound (by simp) ⟨trivial, trivial⟩ ?_
  by_cases c1 : z < 0
  · have e : blkE z = 4 := if_pos c1
    simp only [ac_176, e, c1, decide_true, TT, ↓reduceIte, Nat.reduceEqDiff, Nat.reduceAdd, Nat.reduceMul, reduceCtorEq, Nat.reduceLeDiff]
    exact Ends.data (.inr rfl) (by simp [ET]) ⟨trivial, trivial, trivial, trivial⟩
  by_cases c2 : 2432 < z
  · have e : blkE z = 107 := by rw [blkE, if_neg c1, if_pos c2]
    simp only [ac_176, e, c1, c2, decide_true, decide_false, TT, ↓reduceIte, Nat.reduceEqDiff, Nat.reduceAdd, Nat.reduceMul, reduceCtorEq, Nat.reduceLeDiff]
    exact Ends.data (.inr rfl) (by simp [ET]) ⟨trivial, trivial, trivial, trivial⟩
  have e : blkE z = 0 := by rw [blkE, if_neg c1, if_neg c2]
  have hn : 0 ≤ nBl z ∧ nBl z ≤ 76 := ⟨(upE_bd (by omega) (by omega)).1, by unfold nBl upE; omega⟩
  simp only [ac_176, e, c1, c2, decide_false, if_true, TT, ↓reduceIte, Nat.reduceEqDiff, Nat.reduceAdd, Nat.reduceMul, reduceCtorEq, Nat.reduceLeDiff]
  refine ⟨_, up_spec z 32 _ (by omega) (by omega) (by omega) (by omega), ?_⟩
  have hnd : upE z 32 = nBl z := rfl
  rw [hnd]
  by_cases d1 : 12 < nBl z
  · have w1 : IntKind.i64.wrap (nBl z - 12) = nBl z - 12 := wrap64 (by omega)
    have hu := upE_bd (a := nBl z - 12) (b := 8) (by omega) (by omega)
    have w2 : IntKind.i64.wrap (1 + upE (nBl z - 12) 8) = 1 + upE (nBl z - 12) 8 := wrap64 (by omega)
    have w3 : IntKind.i64.wrap (1 + upE (nBl z - 12) 8 + 1) = 1 + upE (nBl z - 12) 8 + 1 := wrap64 (by omega)
    have em : mBl z = 1 + upE (nBl z - 12) 8 + 1 := if_pos d1
    simp only [d1, w1, em, decide_true, TT, ↓reduceIte, Nat.reduceEqDiff, Nat.reduceAdd, Nat.reduceMul, reduceCtorEq, Nat.reduceLeDiff]
    refine ⟨_, up_spec (nBl z - 12) 8 _ (by omega) (by omega) (by omega) (by omega), ?_⟩
    simp only [w2, w3, TT, ↓reduceIte, Nat.reduceEqDiff, Nat.reduceAdd, Nat.reduceMul, reduceCtorEq, Nat.reduceLeDiff]
    exact Ends.data (.inr rfl) (by simp [ET]) ⟨trivial, trivial, trivial, trivial⟩
  by_cases d2 : 4 < nBl z
  · have em : mBl z = 1 := by rw [mBl, if_neg d1, if_pos d2]
    have w : IntKind.i64.wrap (0 + 1) = 1 := by rfl
    simp only [d1, d2, em, w, decide_true, decide_false, TT, ↓reduceIte, Nat.reduceEqDiff, Nat.reduceAdd, Nat.reduceMul, reduceCtorEq, Nat.reduceLeDiff]
    exact Ends.data (.inr rfl) (by simp [ET]) ⟨trivial, trivial, trivial, trivial⟩
  · have em : mBl z = 0 := by rw [mBl, if_neg d1, if_neg d2]
    simp only [d1, d2, em, decide_false, TT, ↓reduceIte, Nat.reduceEqDiff, Nat.reduceAdd, Nat.reduceMul, reduceCtorEq, Nat.reduceLeDiff]
    exact Ends.data (.inr rfl) (by simp [ET]) ⟨trivial, trivial, trivial, trivial⟩
def zrB (l : List Int) : Bool := decide (∀ x ∈ l, x = 0)
theorem zero_spec (fr : Bool) (l : List Int) (nb : Nat) (hB : l.length ≤ 140737488355328) : ASound Tryz.prog 177 [fB fr l] nb (.ret (.v (.bool (zrB l))) []) := by
  refine ok_177.sound (by simp) ⟨al_fB l, trivial⟩ ?_
  have h := fun nb => trim_spec fr l nb hB
  simp only [fB] at h
  simp only [ac_177, fB, TT, ↓reduceIte, Nat.reduceEqDiff, Nat.reduceAdd, Nat.reduceMul, reduceCtorEq, Nat.reduceLeDiff]
  refine ⟨_, h _, ?_⟩
  have hd : decide (((trL (trR l)).length : Int) = 0) = zrB l := by
    unfold zrB
    by_cases h : ∀ x ∈ l, x = 0
    · rw [decide_eq_true h]; exact decide_eq_true (by have := trim_nil.2 h; omega)
    · rw [decide_eq_false h]; exact decide_eq_false fun h9 => h (trim_nil.1 (by omega))
  simp only [hd, TT, ↓reduceIte, Nat.reduceEqDiff, Nat.reduceAdd, Nat.reduceMul, reduceCtorEq, Nat.reduceLeDiff]
  exact Ends.data (.inr rfl) (by simp [ET]) trivial
/-- may blocks be, behind a place? -/
def okBk (z n : Int) : Int → List Bk → Bool
  | _, [] => true
  | p, b :: r => (decide (p < b.index) && (decide (b.index < n) && (decide (b.data.length = 32) && (!zrB b.data && (!(decide (z - 32 * b.index < 32)) || zrB (b.data.drop (z - 32 * b.index).toNat)))))) && okBk z n b.index r
theorem okBk_drop {z n p : Int} {l : List Bk} {i : Nat} {b : Bk} (h : l[i]? = some b) : okBk z n p (l.drop i) = ((decide (p < b.index) && (decide (b.index < n) && (decide (b.data.length = 32) && (!zrB b.data && (!(decide (z - 32 * b.index < 32)) || zrB (b.data.drop (z - 32 * b.index).toNat)))))) && okBk z n b.index (l.drop (i + 1))) := by
  have hi := (List.getElem?_eq_some_iff.1 h)
  rw [List.drop_eq_getElem_cons hi.1, hi.2, okBk]
def chkFl (f : Fl) : Int := if blkE f.size = 0 then (if okBk f.size (nBl f.size) (-1) f.blocks = true then 0 else 9) else 9
abbrev L_fc (fr : Bool) (f : Fl) (q : Nat × Int) : ASt := ⟨envOf [(1, .op 0 0), (3, .v (.int .i64 (nBl f.size))), (6, .v (.int .i64 q.2)), (20, fBks fr f.blocks), (21, .v (.int .i64 f.blocks.length)), (22, .v (.int .i64 q.1))], heapOf [(0, .row true 115 [.v (.int .i64 f.size), fBks fr f.blocks])], 1⟩
set_option maxHeartbeats 2000000 in
theorem fchk_spec (fr : Bool) (f : Fl) (nb : Nat) (hl : f.blocks.length ≤ 140737488355328) : ASound Tryz.prog 118 [aFl fr f] nb (.ret (.v (.int .i64 (chkFl f))) []) := by
  refine ok_118.sound (by simp) ⟨al_aFl f, trivial⟩ ?_
  simp only [ac_118, aFl, fBks, TT, ↓reduceIte, Nat.reduceEqDiff, Nat.reduceAdd, Nat.reduceMul, reduceCtorEq, Nat.reduceLeDiff]
  refine ⟨_, blocks_spec f.size _, ?_⟩
  by_cases c0 : ¬ (blkE f.size = 0)
  · have e : chkFl f = 9 := if_neg c0
    simp only [c0, e, decide_false, TT, ↓reduceIte, Nat.reduceEqDiff, Nat.reduceAdd, Nat.reduceMul, reduceCtorEq, Nat.reduceLeDiff]
    exact Ends.data (.inr rfl) (by simp [ET]) trivial
  replace c0 : blkE f.size = 0 := Decidable.not_not.1 c0
  have e0 : chkFl f = if okBk f.size (nBl f.size) (-1) f.blocks = true then 0 else 9 := if_pos c0
  have hz : 0 ≤ f.size ∧ f.size ≤ 2432 := by
    unfold blkE at c0
    split at c0
    · cases c0
    · split at c0
      · cases c0
      · omega
  have hn : 0 ≤ nBl f.size ∧ nBl f.size ≤ 76 ∧ 32 * (nBl f.size - 1) < f.size := by unfold nBl upE; omega
  rw [e0]
  simp only [c0, decide_true, if_true, TT, ↓reduceIte, Nat.reduceEqDiff, Nat.reduceAdd, Nat.reduceMul, reduceCtorEq, Nat.reduceLeDiff]
  refine AWc.family (L_fc fr f) (fun q => q.1 ≤ f.blocks.length ∧ -1 ≤ q.2 ∧ okBk f.size (nBl f.size) q.2 (f.blocks.drop q.1) = okBk f.size (nBl f.size) (-1) f.blocks) (fun q => f.blocks.length - q.1) (0, -1) ⟨Nat.zero_le _, Int.le_refl _, rfl⟩ ?_ ?_
  · refine Weak.calc [(0, 0)] (by decide) ?_ ?_ <;> simp [WT, al_Bks, ren_Bks, fBks]
  · rintro ⟨i, p⟩ ⟨hi, hp, he⟩
    simp only at hi hp he
    by_cases hlt : i < f.blocks.length
    · obtain ⟨b, hx, e1, e0⟩ := lt_at hlt
      obtain ⟨b0, b1⟩ := get_Bks (fr := fr) hx
      rw [okBk_drop hx] at he
      simp only [L_fc, fBks, e1, e0, b0, b1, Int.toNat_natCast, TT, ↓reduceIte, Nat.reduceEqDiff, Nat.reduceAdd, Nat.reduceMul, reduceCtorEq, Nat.reduceLeDiff]
      by_cases c1 : b.index ≤ p
      · have d1 : ¬ p < b.index := by omega
        simp only [c1, decide_true, TT, ↓reduceIte, Nat.reduceEqDiff, Nat.reduceAdd, Nat.reduceMul, reduceCtorEq, Nat.reduceLeDiff]
        exact Ends.data (.inr rfl) (by simp [ET, ← he, d1]) trivial
      by_cases c2 : nBl f.size ≤ b.index
      · have d2 : ¬ b.index < nBl f.size := by omega
        simp only [c1, c2, decide_true, decide_false, TT, ↓reduceIte, Nat.reduceEqDiff, Nat.reduceAdd, Nat.reduceMul, reduceCtorEq, Nat.reduceLeDiff]
        exact Ends.data (.inr rfl) (by simp [ET, ← he, d2]) trivial
      by_cases c3 : ¬ (b.data.length = 32)
      · have d3 : ((b.data.length : Int) = 32) = False := eq_false (by omega)
        simp only [c1, c2, d3, decide_false, Bool.not_false, TT, ↓reduceIte, Nat.reduceEqDiff, Nat.reduceAdd, Nat.reduceMul, reduceCtorEq, Nat.reduceLeDiff]
        exact Ends.data (.inr rfl) (by simp [ET, ← he, c3]) trivial
      replace c3 : b.data.length = 32 := Decidable.not_not.1 c3
      have d3 : ((b.data.length : Int) = 32) = True := eq_true (by omega)
      have hz1 := fun nb => zero_spec fr b.data nb (by omega)
      simp only [fB] at hz1
      simp only [c1, c2, d3, decide_false, decide_true, Bool.not_true, TT, ↓reduceIte, Nat.reduceEqDiff, Nat.reduceAdd, Nat.reduceMul, reduceCtorEq, Nat.reduceLeDiff]
      refine ⟨_, hz1 _, ?_⟩
      have d1 : p < b.index := by omega
      have d2 : b.index < nBl f.size := by omega
      rcases Bool.eq_false_or_eq_true (zrB b.data) with hzb | hzb
      · simp only [hzb, TT, ↓reduceIte, Nat.reduceEqDiff, Nat.reduceAdd, Nat.reduceMul, reduceCtorEq, Nat.reduceLeDiff]
        exact Ends.data (.inr rfl) (by simp [ET, ← he, hzb]) trivial
      have w1 : IntKind.i64.wrap (32 * b.index) = 32 * b.index := wrap64 (by omega)
      have w2 : IntKind.i64.wrap (f.size - 32 * b.index) = f.size - 32 * b.index := wrap64 (by omega)
      simp only [hzb, w1, w2, TT, ↓reduceIte, Nat.reduceEqDiff, Nat.reduceAdd, Nat.reduceMul, reduceCtorEq, Nat.reduceLeDiff]
      by_cases c4 : f.size - 32 * b.index < 32
      · obtain ⟨k, hk⟩ : ∃ k : Nat, f.size - 32 * b.index = (k : Int) := ⟨(f.size - 32 * b.index).toNat, by omega⟩
        have g1 : ((k : Int) < 32) = True := eq_true (by omega)
        have g2 : ((0 : Int) ≤ (k : Int)) = True := eq_true (by omega)
        have g3 : ((k : Int) ≤ (b.data.length : Int)) = True := eq_true (by omega)
        have hz2 := fun nb => zero_spec fr (b.data.drop k) nb (by rw [List.length_drop]; omega)
        simp only [fB, List.length_drop] at hz2
        have hdr : (eB b.data).drop k = eB (b.data.drop k) := by simp [eB]
        have htk : List.take (b.data.length - k) (eB (b.data.drop k)) = eB (b.data.drop k) := List.take_of_length_le (by simp [eB])
        rw [hk] at he
        simp only [hk, g1, g2, g3, hdr, htk, len_B, decide_true, and_self, Int.toNat_natCast, TT, ↓reduceIte, Nat.reduceEqDiff, Nat.reduceAdd, Nat.reduceMul, reduceCtorEq, Nat.reduceLeDiff]
        refine ⟨_, hz2 _, ?_⟩
        cases hzd : zrB (b.data.drop k)
        · simp only [Bool.not_false, TT, ↓reduceIte, Nat.reduceEqDiff, Nat.reduceAdd, Nat.reduceMul, reduceCtorEq, Nat.reduceLeDiff]
          exact Ends.data (.inr rfl) (by simp [ET, ← he, g1, hzd]) trivial
        · simp only [Bool.not_true, TT, ↓reduceIte, Nat.reduceEqDiff, Nat.reduceAdd, Nat.reduceMul, reduceCtorEq, Nat.reduceLeDiff]
          refine famC_next (i + 1, b.index) (by show f.blocks.length - (i + 1) < f.blocks.length - i; omega) ⟨by show i + 1 ≤ f.blocks.length; omega, by show -1 ≤ b.index; omega, by rw [← he]; simp [d1, d2, c3, hzb, hzd]⟩ ?_
          refine Weak.calc [(0, 0)] (by decide) ?_ ?_ <;> simp [WT, al_Bks, ren_Bks, fBks, wrap64 (x := (i : Int) + 1) (by omega)]
      · simp only [c4, decide_false, TT, ↓reduceIte, Nat.reduceEqDiff, Nat.reduceAdd, Nat.reduceMul, reduceCtorEq, Nat.reduceLeDiff]
        refine famC_next (i + 1, b.index) (by show f.blocks.length - (i + 1) < f.blocks.length - i; omega) ⟨by show i + 1 ≤ f.blocks.length; omega, by show -1 ≤ b.index; omega, by rw [← he]; simp [d1, d2, c3, hzb, c4]⟩ ?_
        refine Weak.calc [(0, 0)] (by decide) ?_ ?_ <;> simp [WT, al_Bks, ren_Bks, fBks, wrap64 (x := (i : Int) + 1) (by omega)]
    · obtain rfl : i = f.blocks.length := by omega
      have e1 : ¬ ((f.blocks.length : Int) < (f.blocks.length : Int)) := by omega
      have h9 : okBk f.size (nBl f.size) (-1) f.blocks = true := by rw [← he, List.drop_length]; rfl
      simp only [L_fc, fBks, e1, TT, ↓reduceIte, Nat.reduceEqDiff, Nat.reduceAdd, Nat.reduceMul, reduceCtorEq, Nat.reduceLeDiff]
      exact Ends.data (.inr rfl) (by simp [ET, h9]) trivial
def mayN (n : Nd) (k : Int) : Bool :=
  if chkD n.entries ≠ 0 ∨ chkFl n.file ≠ 0 ∨ n.links ≠ k then false
  else if (n.dir = true ∧ n.file.size ≠ 0) ∨ (n.dir = false ∧ 0 < n.entries.length) then false
  else if n.ino = 1 then n.dir && decide (k = 0)
  else if n.dir = true then decide (k = 1) else decide (1 ≤ k) && decide (k ≤ 16)
set_option maxHeartbeats 2000000 in
theorem may_spec (fr : Bool) (l : List Nd) (i : Nat) (n : Nd) (k : Int) (nb : Nat) (hx : l[i]? = some n) (hl : n.file.blocks.length ≤ 140737488355328) : ASound Tryz.prog 86 [.fp fr (eNds fr l) (i * 6), .v (.int .i64 k)] nb (.ret (.v (.bool (mayN n k))) []) := by
  refine ok_86.sound (by simp) ⟨al_Nds l, trivial, trivial⟩ ?_
  obtain ⟨a0, a1, a2, a3, a4, a5⟩ := get_Nds (fr := fr) hx
  have h1 := fun nb => dchk_spec fr n.entries nb
  have h2 := fun nb => fchk_spec fr n.file nb hl
  simp only [fEnts] at h1
  simp only [aFl, fBks] at h2
  simp only [ac_86, a3, TT, ↓reduceIte, Nat.reduceEqDiff, Nat.reduceAdd, Nat.reduceMul, reduceCtorEq, Nat.reduceLeDiff]
  refine ⟨_, h1 _, ?_⟩
  by_cases c1 : ¬ (chkD n.entries = 0)
  · have e : mayN n k = false := if_pos (.inl c1)
    simp only [c1, e, decide_false, Bool.not_false, TT, ↓reduceIte, Nat.reduceEqDiff, Nat.reduceAdd, Nat.reduceMul, reduceCtorEq, Nat.reduceLeDiff]
    exact Ends.data (.inr rfl) (by simp [ET]) trivial
  replace c1 : chkD n.entries = 0 := Decidable.not_not.1 c1
  simp only [c1, a4, a5, decide_true, Bool.not_true, TT, ↓reduceIte, Nat.reduceEqDiff, Nat.reduceAdd, Nat.reduceMul, reduceCtorEq, Nat.reduceLeDiff]
  refine ⟨_, h2 _, ?_⟩
  by_cases c2 : ¬ (chkFl n.file = 0)
  · have e : mayN n k = false := if_pos (.inr (.inl c2))
    simp only [c2, e, decide_false, Bool.not_false, TT, ↓reduceIte, Nat.reduceEqDiff, Nat.reduceAdd, Nat.reduceMul, reduceCtorEq, Nat.reduceLeDiff]
    exact Ends.data (.inr rfl) (by simp [ET]) trivial
  replace c2 : chkFl n.file = 0 := Decidable.not_not.1 c2
  simp only [c2, a2, decide_true, Bool.not_true, TT, ↓reduceIte, Nat.reduceEqDiff, Nat.reduceAdd, Nat.reduceMul, reduceCtorEq, Nat.reduceLeDiff]
  by_cases c3 : ¬ (n.links = k)
  · have e : mayN n k = false := if_pos (.inr (.inr c3))
    simp only [c3, e, decide_false, Bool.not_false, TT, ↓reduceIte, Nat.reduceEqDiff, Nat.reduceAdd, Nat.reduceMul, reduceCtorEq, Nat.reduceLeDiff]
    exact Ends.data (.inr rfl) (by simp [ET]) trivial
  replace c3 : n.links = k := Decidable.not_not.1 c3
  have e0 : mayN n k = if (n.dir = true ∧ n.file.size ≠ 0) ∨ (n.dir = false ∧ 0 < n.entries.length) then false else if n.ino = 1 then n.dir && decide (k = 0) else if n.dir = true then decide (k = 1) else decide (1 ≤ k) && decide (k ≤ 16) := if_neg (by simp [c1, c2, c3])
  rw [e0]
  simp only [c3, a0, a1, a3, a4, decide_true, Bool.not_true, TT, ↓reduceIte, Nat.reduceEqDiff, Nat.reduceAdd, Nat.reduceMul, reduceCtorEq, Nat.reduceLeDiff]
  cases hd : n.dir
  · by_cases c4 : 0 < n.entries.length
    · have g : ((0 : Int) < (n.entries.length : Int)) = True := eq_true (by omega)
      simp only [g, decide_true, Bool.not_false, TT, ↓reduceIte, Nat.reduceEqDiff, Nat.reduceAdd, Nat.reduceMul, reduceCtorEq, Nat.reduceLeDiff]
      exact Ends.data (.inr rfl) (by simp [ET, c4]) trivial
    · have g : ((0 : Int) < (n.entries.length : Int)) = False := eq_false (by omega)
      by_cases c5 : n.ino = 1
      · simp only [g, c5, decide_true, decide_false, Bool.not_false, TT, ↓reduceIte, Nat.reduceEqDiff, Nat.reduceAdd, Nat.reduceMul, reduceCtorEq, Nat.reduceLeDiff]
        exact Ends.data (.inr rfl) (by simp [ET, c4, c5]) trivial
      · by_cases c6 : 1 ≤ k
        · simp only [g, c5, c6, decide_true, decide_false, Bool.not_false, TT, ↓reduceIte, Nat.reduceEqDiff, Nat.reduceAdd, Nat.reduceMul, reduceCtorEq, Nat.reduceLeDiff]
          exact Ends.data (.inr rfl) (by simp [ET, c4, c5, c6]) trivial
        · simp only [g, c5, c6, decide_true, decide_false, Bool.not_false, TT, ↓reduceIte, Nat.reduceEqDiff, Nat.reduceAdd, Nat.reduceMul, reduceCtorEq, Nat.reduceLeDiff]
          exact Ends.data (.inr rfl) (by simp [ET, c4, c5, c6]) trivial
  · by_cases c4 : n.file.size = 0
    · by_cases c5 : n.ino = 1
      · simp only [c4, c5, decide_true, Bool.not_true, TT, ↓reduceIte, Nat.reduceEqDiff, Nat.reduceAdd, Nat.reduceMul, reduceCtorEq, Nat.reduceLeDiff]
        exact Ends.data (.inr rfl) (by simp [ET, c4, c5]) trivial
      · simp only [c4, c5, decide_true, decide_false, Bool.not_true, TT, ↓reduceIte, Nat.reduceEqDiff, Nat.reduceAdd, Nat.reduceMul, reduceCtorEq, Nat.reduceLeDiff]
        exact Ends.data (.inr rfl) (by simp [ET, c4, c5]) trivial
    · simp only [c4, decide_false, Bool.not_true, Bool.not_false, TT, ↓reduceIte, Nat.reduceEqDiff, Nat.reduceAdd, Nat.reduceMul, reduceCtorEq, Nat.reduceLeDiff]
      exact Ends.data (.inr rfl) (by simp [ET, c4]) trivial
end Go.Proofs.YtonglhkiobibgaaGreatDoor
namespace Go.Proofs.YtonglhkiobibgaaGreatDoor
open Go.RowKit
set_option maxRecDepth 100000
theorem bsI_inv {f : Nat → Int} {t : Int} {n : Nat} (mono : ∀ a b, a < b → b < n → f a < f b) : ∀ (k i j : Nat), i ≤ j → j ≤ n → j - i ≤ k → (∀ x, x < i → f x < t) → (∀ x, j ≤ x → x < n → t ≤ f x) →
    bsI f t k i j ≤ n ∧ (∀ x, x < bsI f t k i j → f x < t) ∧ (∀ x, bsI f t k i j ≤ x → x < n → t ≤ f x)
  | 0, i, j, h1, h2, h3, h4, h5 => by
    obtain rfl : i = j := by omega
    exact ⟨h2, h4, h5⟩
  | k + 1, i, j, h1, h2, h3, h4, h5 => by
    rw [bsI]
    by_cases hlt : i < j
    · rw [if_pos hlt]
      generalize hm : (i + j) / 2 = m
      have hm1 : i ≤ m ∧ m < j := by omega
      by_cases h : f m < t
      · rw [if_pos h]
        refine bsI_inv mono k (m + 1) j (by omega) h2 (by omega) (fun x hx => ?_) h5
        rcases Nat.lt_or_ge x m with h6 | h6
        · have := mono x m h6 (by omega); omega
        · obtain rfl : x = m := by omega
          exact h
      · rw [if_neg h]
        refine bsI_inv mono k i m (by omega) (by omega) (by omega) h4 (fun x hx hn => ?_)
        rcases Nat.lt_or_ge m x with h6 | h6
        · have := mono m x h6 hn; omega
        · obtain rfl : x = m := by omega
          omega
    · rw [if_neg hlt]
      obtain rfl : i = j := by omega
      exact ⟨h2, h4, h5⟩
def incN (l : List Nd) : Prop := ∀ a b, a < b → b < l.length → inoA l a < inoA l b
/-- what is there is found -/
theorem plc_eq {l : List Nd} (h : incN l) {i : Nat} {n : Nd} (hx : l[i]? = some n) : plc l n.ino = i := by
  have hi := (List.getElem?_eq_some_iff.1 hx).1
  obtain ⟨h1, h2, h3⟩ := bsI_inv (t := n.ino) h l.length 0 l.length (Nat.zero_le _) (Nat.le_refl _) (by omega) (fun x hx => by omega) (fun x h1 h2 => by omega)
  have e : inoA l i = n.ino := inoA_at hx
  rcases Nat.lt_trichotomy (plc l n.ino) i with h4 | h4 | h4
  · have h5 := h3 (plc l n.ino) (Nat.le_refl _) (by omega)
    have h6 := h (plc l n.ino) i h4 hi
    omega
  · exact h4
  · have h5 := h2 i h4
    omega
theorem hasN_of {l : List Nd} (h : incN l) {i : Nat} {n : Nd} (hx : l[i]? = some n) : hasN l n.ino := by
  have hi := (List.getElem?_eq_some_iff.1 hx).1
  have e := plc_eq h hx
  exact ⟨by omega, by rw [e]; exact inoA_at hx⟩
/-- one more for a key -/
def bumpM (t : Int) : List (Int × Int) → List (Int × Int)
  | [] => [(t, 1)]
  | (k, v) :: r => if k = t then (t, v + 1) :: r else (k, v) :: bumpM t r
def getM (t : Int) : List (Int × Int) → Int
  | [] => 0
  | (k, v) :: r => if k = t then v else getM t r
def encM (l : List (Int × Int)) : List AV := l.flatMap fun p => [.v (.int .i64 p.1), .v (.int .i64 p.2)]
theorem al_encM {p : Nat → Prop} (l : List (Int × Int)) : AlL p (encM l) := AlL_flat (e := fun p => [AV.v (.int .i64 p.1), .v (.int .i64 p.2)]) (fun _ => ⟨trivial, trivial, trivial⟩) l
theorem ren_encM {ρ : Nat → Nat} (l : List (Int × Int)) : renL ρ (encM l) = encM l := renL_id (p := fun _ => False) (fun _ h => h.elim) (al_encM l)
theorem mfind_encM (t : Int) : ∀ l : List (Int × Int), (mfind t (encM l) = some none ∧ getM t l = 0) ∨ mfind t (encM l) = some (some (.v (.int .i64 (getM t l))))
  | [] => .inl ⟨rfl, rfl⟩
  | (k, v) :: r => by
    show (mfind t (.v (.int .i64 k) :: .v (.int .i64 v) :: encM r) = _ ∧ _) ∨ mfind t (.v (.int .i64 k) :: .v (.int .i64 v) :: encM r) = _
    rw [mfind, getM]
    by_cases h : k = t
    · rw [if_pos h, if_pos h]; exact .inr rfl
    · rw [if_neg h, if_neg h]; exact mfind_encM t r
theorem mput_encM (t : Int) : ∀ l : List (Int × Int), mput t (.v (.int .i64 (getM t l + 1))) (encM l) = some (encM (bumpM t l))
  | [] => by simp [encM, bumpM, getM, mput]
  | (k, v) :: r => by
    show mput t _ (.v (.int .i64 k) :: .v (.int .i64 v) :: encM r) = _
    rw [mput, getM, bumpM]
    by_cases h : k = t
    · subst h; simp [encM]
    · rw [if_neg h, if_neg h, if_neg h, mput_encM t r]; simp [encM]
def lkM (ks : List Int) : List (Int × Int) := ks.foldl (fun l t => bumpM t l) []
theorem lkM_s (ks : List Int) (t : Int) : lkM (ks ++ [t]) = bumpM t (lkM ks) := by rw [lkM, List.foldl_append]; rfl
theorem getM_bump (t u : Int) : ∀ l : List (Int × Int), getM t (bumpM u l) = if u = t then getM t l + 1 else getM t l
  | [] => by
    by_cases h : u = t <;> simp [bumpM, getM, h]
  | (k, v) :: r => by
    rw [bumpM]
    by_cases h : k = u
    · subst h
      rw [if_pos rfl, getM, getM]
      by_cases h2 : k = t
      · rw [if_pos h2, if_pos h2, if_pos h2]
      · rw [if_neg h2, if_neg h2, if_neg h2]
    · rw [if_neg h, getM, getM, getM_bump t u r]
      by_cases h2 : k = t
      · have h3 : ¬ u = t := fun h9 => h (by omega)
        rw [if_pos h2, if_pos h2, if_neg h3]
      · rw [if_neg h2, if_neg h2]
theorem getM_foldl (t : Int) : ∀ (ks : List Int) (l : List (Int × Int)), getM t (ks.foldl (fun l t => bumpM t l) l) = getM t l + (ks.count t : Nat)
  | [], l => by simp
  | u :: ks, l => by
    rw [List.foldl_cons, getM_foldl t ks, getM_bump, List.count_cons]
    by_cases h : u = t
    · rw [if_pos h]; simp [h]; omega
    · rw [if_neg h]; simp [h]
theorem getM_lk (t : Int) (ks : List Int) : getM t (lkM ks) = (ks.count t : Nat) := by rw [lkM, getM_foldl]; simp [getM]
theorem getM_bd (t : Int) (ks : List Int) : 0 ≤ getM t (lkM ks) ∧ getM t (lkM ks) ≤ (ks.length : Int) := by
  rw [getM_lk]
  have := List.count_le_length (a := t) (l := ks)
  omega
/-- the numbers that the first nodes' names lead to -/
def inosN (l : List Nd) : List Int := l.flatMap fun n => n.entries.map Ent.ino
def ltO : Option Int → Int → Bool
  | none, _ => true
  | some q, x => decide (q < x)
def chk1 (s : FSt) : Option Int → List Nd → Bool
  | _, [] => true
  | p, n :: r => decide (n.ino < s.next) && (ltO p n.ino && (decide (∀ e ∈ n.entries, hasN s.nodes e.ino) && chk1 s (some n.ino) r))
def prevN (l : List Nd) (i : Nat) : Option Int := if i = 0 then none else (l[i - 1]?).map Nd.ino
theorem prevN_s {l : List Nd} {i : Nat} {n : Nd} (h : l[i]? = some n) : prevN l (i + 1) = some n.ino := by simp [prevN, h]
theorem chk1_drop {s : FSt} {l : List Nd} {i : Nat} {n : Nd} (h : l[i]? = some n) : chk1 s (prevN l i) (l.drop i) = (decide (n.ino < s.next) && (ltO (prevN l i) n.ino && (decide (∀ e ∈ n.entries, hasN s.nodes e.ino) && chk1 s (prevN l (i + 1)) (l.drop (i + 1))))) := by
  have hi := (List.getElem?_eq_some_iff.1 h)
  rw [List.drop_eq_getElem_cons hi.1, hi.2, prevN_s h]; rfl
def chk2 (s : FSt) (ks : List (Int × Int)) (l : List Nd) : Bool := decide (∀ n ∈ l, mayN n (getM n.ino ks) = true)
def chk3 (s : FSt) : Bool := decide ((rch s 8 1 []).length = s.nodes.length) && decide (dpt s 9 1 ≤ 8)
def badH (s : FSt) : Prop := s.next ≤ 1 ∨ 2147483647 < s.next ∨ s.nodes.length = 0 ∨ 128 < s.nodes.length ∨ inoA s.nodes 0 ≠ 1
instance (s : FSt) : Decidable (badH s) := by unfold badH; exact inferInstance
def chkFs (s : FSt) : Int := if badH s then 9 else if chk1 s none s.nodes = true ∧ chk2 s (lkM (inosN s.nodes)) s.nodes = true ∧ chk3 s = true then 0 else 9
theorem chk1_all {s : FSt} : ∀ {l : List Nd} {p : Option Int}, chk1 s p l = true → (∀ n ∈ l, n.ino < s.next ∧ ∀ e ∈ n.entries, hasN s.nodes e.ino) ∧ (∀ q, p = some q → ∀ n ∈ l, q < n.ino) ∧ ∀ a b, a < b → b < l.length → inoA l a < inoA l b
  | [], p, _ => ⟨by simp, by simp, fun a b _ hb => by simp at hb⟩
  | n :: r, p, h => by
    have h' : (decide (n.ino < s.next) && (ltO p n.ino && (decide (∀ e ∈ n.entries, hasN s.nodes e.ino) && chk1 s (some n.ino) r))) = true := h
    simp only [Bool.and_eq_true, decide_eq_true_eq] at h'
    obtain ⟨h1, h2, h3, h4⟩ := h'
    obtain ⟨g1, g2, g3⟩ := chk1_all h4
    have g4 := g2 n.ino rfl
    refine ⟨?_, ?_, ?_⟩
    · intro m hm
      rcases List.mem_cons.1 hm with rfl | hm
      · exact ⟨h1, h3⟩
      · exact g1 m hm
    · rintro q rfl m hm
      have h2' : q < n.ino := by simpa [ltO] using h2
      rcases List.mem_cons.1 hm with rfl | hm
      · exact h2'
      · have := g4 m hm; omega
    · intro a b hab hb
      cases b with
      | zero => omega
      | succ b =>
        have hb' : b < r.length := by simpa using hb
        obtain ⟨m, hm⟩ : ∃ m, r[b]? = some m := ⟨_, List.getElem?_eq_getElem hb'⟩
        have e2 : inoA (n :: r) (b + 1) = inoA r b := by simp [inoA]
        rw [e2]
        cases a with
        | zero =>
          have e1 : inoA (n :: r) 0 = n.ino := by simp [inoA]
          rw [e1, inoA_at hm]
          exact g4 m (List.mem_of_getElem? hm)
        | succ a =>
          have e1 : inoA (n :: r) (a + 1) = inoA r a := by simp [inoA]
          rw [e1]
          exact g3 a b (by omega) hb'
end Go.Proofs.YtonglhkiobibgaaGreatDoor
namespace Go.Proofs.YtonglhkiobibgaaGreatDoor
set_option maxRecDepth 100000
def ac_CK3 : AC :=
(.seq (.reg false [⟨some 115, .mkmap , none, [], []⟩,
    ⟨some 12, .mv (.tmp 115), none, [115], []⟩] [1, 12])
(.seq (.seq (.reg false [⟨some 116, .mv (.tmp 12), none, [12], []⟩,
    ⟨some 117, .call 87 [(.tmp 1), (.const (.int .i64 (1))), (.const (.int .i64 (8))), (.tmp 116)], none, [1, 116], []⟩] [1, 12])
(.seq (.reg false [⟨some 118, .mv (.tmp 12), none, [12], []⟩,
    ⟨some 119, .mlen (.tmp 118), none, [118], []⟩,
    ⟨some 120, .foff 0 (.tmp 1), none, [1], []⟩,
    ⟨some 121, .load false 1 (.tmp 120), none, [120], []⟩,
    ⟨some 122, .len false (.tmp 121), none, [121], []⟩,
    ⟨some 123, .bin .neq (.tmp 119) (.tmp 122), none, [119, 122], []⟩,
    ⟨some 124, .mv (.tmp 123), none, [123], []⟩,
    ⟨some 125, .call 88 [(.tmp 1), (.const (.int .i64 (1))), (.const (.int .i64 (8)))], some (124, false), [1, 124], []⟩,
    ⟨some 126, .bin .gtr (.tmp 125) (.const (.int .i64 (8))), some (124, false), [125, 124], []⟩,
    ⟨some 127, .pick (.tmp 124) (.const (.bool true)) (.tmp 126), none, [124, 126], []⟩] [127])
(.cond (.tmp 127)
(.seq (.reg false [⟨some 2, .mv (.const (.int .i64 (9))), none, [], []⟩] [2])
.ret)
.skip)))
(.seq (.reg false [⟨some 2, .mv (.const (.int .i64 (0))), none, [], []⟩] [2])
.ret)))
def ac_CK2 : AC :=
(.seq (.seq (.reg false [⟨some 95, .foff 0 (.tmp 1), none, [1], []⟩,
    ⟨some 96, .load false 1 (.tmp 95), none, [95], []⟩,
    ⟨some 97, .len false (.tmp 96), none, [96], []⟩,
    ⟨some 98, .mv (.const (.int .i64 (0))), none, [], []⟩] [1, 3, 97, 98])
(.block 4 (.loop (.seq (.reg false [⟨some 99, .bin .lss (.tmp 98) (.tmp 97), none, [98, 97], []⟩] [1, 3, 97, 98, 99])
(.seq (.cond (.tmp 99)
.skip
(.exit 4))
(.seq (.block 5 (.seq (.reg false [⟨some 100, .mv (.tmp 98), none, [98], []⟩,
    ⟨some 10, .mv (.tmp 100), none, [100], []⟩] [1, 3, 10, 97, 98])
(.seq (.reg false [⟨some 101, .foff 0 (.tmp 1), none, [1], []⟩,
    ⟨some 102, .load false 1 (.tmp 101), none, [101], []⟩,
    ⟨some 103, .mv (.tmp 10), none, [10], []⟩,
    ⟨some 104, .idx 6 (.tmp 102) (.tmp 103), none, [102, 103], []⟩,
    ⟨some 11, .mv (.tmp 104), none, [104], []⟩] [1, 3, 11, 97, 98])
(.seq (.reg false [⟨some 105, .mv (.tmp 11), none, [11], []⟩,
    ⟨some 106, .mv (.tmp 3), none, [3], []⟩,
    ⟨some 107, .mv (.tmp 11), none, [11], []⟩,
    ⟨some 108, .nilc (.tmp 107), none, [107], []⟩,
    ⟨some 109, .foff 0 (.tmp 108), none, [108], []⟩,
    ⟨some 110, .load false 1 (.tmp 109), none, [109], []⟩,
    ⟨some 111, .mlook (.int .i64 (0)) false (.tmp 106) (.tmp 110), none, [106, 110], []⟩,
    ⟨some 112, .call 86 [(.tmp 105), (.tmp 111)], none, [105, 111], []⟩,
    ⟨some 113, .un .not (.tmp 112), none, [112], []⟩] [1, 3, 97, 98, 113])
(.cond (.tmp 113)
(.seq (.reg false [⟨some 2, .mv (.const (.int .i64 (9))), none, [], []⟩] [2])
.ret)
.skip)))))
(.reg false [⟨some 114, .bin .add (.tmp 98) (.const (.int .i64 (1))), none, [98], []⟩,
    ⟨some 98, .mv (.tmp 114), none, [114], []⟩] [1, 3, 97, 98])))))))
(.weak ac_CK3))
def ac_CK1 : AC :=
(.seq (.seq (.reg false [⟨some 13, .foff 1 (.tmp 1), none, [1], []⟩,
    ⟨some 14, .load false 1 (.tmp 13), none, [13], []⟩,
    ⟨some 15, .bin .leq (.tmp 14) (.const (.int .i64 (1))), none, [14], []⟩,
    ⟨some 16, .mv (.tmp 15), none, [15], []⟩,
    ⟨some 17, .foff 1 (.tmp 1), some (16, false), [1, 16], []⟩,
    ⟨some 18, .load false 1 (.tmp 17), some (16, false), [17, 16], []⟩,
    ⟨some 19, .bin .gtr (.tmp 18) (.const (.int .i64 (2147483647))), some (16, false), [18, 16], []⟩,
    ⟨some 20, .pick (.tmp 16) (.const (.bool true)) (.tmp 19), none, [16, 19], []⟩,
    ⟨some 21, .mv (.tmp 20), none, [20], []⟩,
    ⟨some 22, .foff 0 (.tmp 1), some (21, false), [1, 21], []⟩,
    ⟨some 23, .load false 1 (.tmp 22), some (21, false), [22, 21], []⟩,
    ⟨some 24, .len false (.tmp 23), some (21, false), [23, 21], []⟩,
    ⟨some 25, .bin .eql (.tmp 24) (.const (.int .i64 (0))), some (21, false), [24, 21], []⟩,
    ⟨some 26, .pick (.tmp 21) (.const (.bool true)) (.tmp 25), none, [21, 25], []⟩,
    ⟨some 27, .mv (.tmp 26), none, [26], []⟩,
    ⟨some 28, .foff 0 (.tmp 1), some (27, false), [1, 27], []⟩,
    ⟨some 29, .load false 1 (.tmp 28), some (27, false), [28, 27], []⟩,
    ⟨some 30, .len false (.tmp 29), some (27, false), [29, 27], []⟩,
    ⟨some 31, .bin .gtr (.tmp 30) (.const (.int .i64 (128))), some (27, false), [30, 27], []⟩,
    ⟨some 32, .pick (.tmp 27) (.const (.bool true)) (.tmp 31), none, [27, 31], []⟩,
    ⟨some 33, .mv (.tmp 32), none, [32], []⟩,
    ⟨some 34, .foff 0 (.tmp 1), some (33, false), [1, 33], []⟩,
    ⟨some 35, .load false 1 (.tmp 34), some (33, false), [34, 33], []⟩,
    ⟨some 36, .idx 6 (.tmp 35) (.const (.int .i64 (0))), some (33, false), [35, 33], []⟩,
    ⟨some 37, .foff 0 (.tmp 36), some (33, false), [36, 33], []⟩,
    ⟨some 38, .load false 1 (.tmp 37), some (33, false), [37, 33], []⟩,
    ⟨some 39, .bin .neq (.tmp 38) (.const (.int .i64 (1))), some (33, false), [38, 33], []⟩,
    ⟨some 40, .pick (.tmp 33) (.const (.bool true)) (.tmp 39), none, [33, 39], []⟩] [1, 40])
(.cond (.tmp 40)
(.seq (.reg false [⟨some 2, .mv (.const (.int .i64 (9))), none, [], []⟩] [2])
.ret)
.skip))
(.seq (.reg false [⟨some 41, .mkmap , none, [], []⟩,
    ⟨some 3, .mv (.tmp 41), none, [41], []⟩] [1, 3])
(.seq (.seq (.reg false [⟨some 42, .foff 0 (.tmp 1), none, [1], []⟩,
    ⟨some 43, .load false 1 (.tmp 42), none, [42], []⟩,
    ⟨some 44, .len false (.tmp 43), none, [43], []⟩,
    ⟨some 45, .mv (.const (.int .i64 (0))), none, [], []⟩] [1, 3, 43, 44, 45])
(.block 0 (.loop (.seq (.reg false [⟨some 46, .bin .lss (.tmp 45) (.tmp 44), none, [45, 44], []⟩] [1, 3, 43, 44, 45, 46])
(.seq (.cond (.tmp 46)
.skip
(.exit 0))
(.seq (.block 1 (.seq (.reg false [⟨some 47, .mv (.tmp 45), none, [45], []⟩,
    ⟨some 48, .idx 6 (.tmp 43) (.tmp 45), none, [43, 45], []⟩,
    ⟨some 49, .load true 6 (.tmp 48), none, [48], []⟩,
    ⟨some 5, .new 118 [(.int .i64 (0)), (.bool false), (.int .i64 (0)), (.slice none 0 0), (.int .i64 (0)), (.slice none 0 0)], none, [], []⟩,
    ⟨some 4, .mv (.tmp 47), none, [47], []⟩,
    ⟨none, .store 6 (.tmp 5) (.tmp 49), none, [5, 49], []⟩] [1, 3, 4, 5, 43, 44, 45])
(.seq (.seq (.reg true [⟨some 50, .foff 0 (.tmp 5), none, [5], []⟩,
    ⟨some 51, .load false 1 (.tmp 50), none, [50], [0]⟩,
    ⟨some 52, .foff 1 (.tmp 1), none, [1], []⟩,
    ⟨some 53, .load false 1 (.tmp 52), none, [52], [2]⟩,
    ⟨some 54, .bin .geq (.tmp 51) (.tmp 53), none, [51, 53], [1, 3, 0, 2]⟩,
    ⟨some 55, .mv (.tmp 54), none, [54], [4, 1, 3, 0, 2]⟩,
    ⟨some 56, .mv (.tmp 4), some (55, false), [4, 55], [5, 4, 1, 3, 0, 2]⟩,
    ⟨some 57, .bin .gtr (.tmp 56) (.const (.int .i64 (0))), some (55, false), [56, 55], [6, 5, 4, 1, 3, 0, 2]⟩,
    ⟨some 58, .mv (.tmp 57), some (55, false), [57, 55], [7, 5, 6, 4, 1, 3, 0, 2]⟩,
    ⟨some 59, .foff 0 (.tmp 5), some (58, true), [5, 58], [8, 7, 5, 6, 4, 1, 3, 0, 2]⟩,
    ⟨some 60, .load false 1 (.tmp 59), some (58, true), [59, 58], [9, 8, 7, 5, 6, 4, 1, 3, 0, 2]⟩,
    ⟨some 61, .foff 0 (.tmp 1), some (58, true), [1, 58], [8, 7, 5, 6, 4, 1, 3, 0, 2]⟩,
    ⟨some 62, .load false 1 (.tmp 61), some (58, true), [61, 58], [11, 8, 7, 5, 6, 4, 1, 3, 0, 2]⟩,
    ⟨some 63, .mv (.tmp 4), some (58, true), [4, 58], [8, 7, 5, 6, 4, 1, 3, 0, 2]⟩,
    ⟨some 64, .bin .sub (.tmp 63) (.const (.int .i64 (1))), some (58, true), [63, 58], [13, 8, 7, 5, 6, 4, 1, 3, 0, 2]⟩,
    ⟨some 65, .idx 6 (.tmp 62) (.tmp 64), some (58, true), [62, 64, 58], [12, 14, 8, 11, 7, 5, 6, 4, 1, 3, 0, 2, 13]⟩,
    ⟨some 66, .foff 0 (.tmp 65), some (58, true), [65, 58], [15, 8, 12, 14, 11, 7, 5, 6, 4, 1, 3, 0, 2, 13]⟩,
    ⟨some 67, .load false 1 (.tmp 66), some (58, true), [66, 58], [16, 8, 15, 12, 14, 11, 7, 5, 6, 4, 1, 3, 0, 2, 13]⟩,
    ⟨some 68, .bin .leq (.tmp 60) (.tmp 67), some (58, true), [60, 67, 58], [10, 17, 8, 9, 7, 5, 6, 4, 1, 3, 0, 2, 16, 15, 12, 14, 11, 13]⟩,
    ⟨some 69, .pick (.tmp 58) (.tmp 68) (.const (.bool false)), some (55, false), [58, 68, 55], [8, 18, 5, 7, 6, 4, 1, 3, 0, 2, 10, 17, 9, 16, 15, 12, 14, 11, 13]⟩,
    ⟨some 70, .pick (.tmp 55) (.const (.bool true)) (.tmp 69), none, [55, 69], [5, 19, 4, 1, 3, 0, 2, 8, 18, 7, 6, 10, 17, 9, 16, 15, 12, 14, 11, 13]⟩] [1, 3, 5, 43, 44, 45, 70])
(.cond (.tmp 70)
(.seq (.reg false [⟨some 2, .mv (.const (.int .i64 (9))), none, [], []⟩] [2])
.ret)
.skip))
(.seq (.reg false [⟨some 71, .foff 3 (.tmp 5), none, [5], []⟩,
    ⟨some 72, .load false 1 (.tmp 71), none, [71], []⟩,
    ⟨some 73, .len false (.tmp 72), none, [72], []⟩,
    ⟨some 74, .mv (.const (.int .i64 (0))), none, [], []⟩] [1, 3, 43, 44, 45, 72, 73, 74])
(.block 2 (.loop (.seq (.reg false [⟨some 75, .bin .lss (.tmp 74) (.tmp 73), none, [74, 73], []⟩] [1, 3, 43, 44, 45, 72, 73, 74, 75])
(.seq (.cond (.tmp 75)
.skip
(.exit 2))
(.seq (.block 3 (.seq (.reg false [⟨some 76, .idx 2 (.tmp 72) (.tmp 74), none, [72, 74], []⟩,
    ⟨some 77, .load true 2 (.tmp 76), none, [76], []⟩,
    ⟨some 7, .new 134 [(.string (ByteArray.mk #[])), (.int .i64 (0))], none, [], []⟩,
    ⟨none, .store 2 (.tmp 7) (.tmp 77), none, [7, 77], []⟩] [1, 3, 7, 43, 44, 45, 72, 73, 74])
(.seq (.reg false [⟨some 78, .mv (.tmp 3), none, [3], []⟩,
    ⟨some 79, .foff 1 (.tmp 7), none, [7], []⟩,
    ⟨some 80, .load false 1 (.tmp 79), none, [79], []⟩,
    ⟨some 81, .mlook (.int .i64 (0)) false (.tmp 78) (.tmp 80), none, [78, 80], []⟩,
    ⟨some 82, .bin .add (.tmp 81) (.const (.int .i64 (1))), none, [81], []⟩,
    ⟨none, .mupd (.tmp 78) (.tmp 80) (.tmp 82), none, [78, 80, 82], []⟩] [1, 3, 7, 43, 44, 45, 72, 73, 74])
(.seq (.reg false [⟨some 84, .foff 0 (.tmp 1), none, [1], []⟩,
    ⟨some 85, .load false 1 (.tmp 84), none, [84], []⟩,
    ⟨some 86, .foff 1 (.tmp 7), none, [7], []⟩,
    ⟨some 87, .load false 1 (.tmp 86), none, [86], []⟩,
    ⟨some 88, .call 83 [(.tmp 85), (.tmp 87), (.func 84)], none, [85, 87], []⟩,
    ⟨some 83, .mv (.tmp 88), none, [88], []⟩,
    ⟨some 89, .ext 0 (.tmp 83), none, [83], []⟩,
    ⟨some 90, .ext 1 (.tmp 83), none, [83], []⟩,
    ⟨some 8, .mv (.tmp 89), none, [89], []⟩,
    ⟨some 9, .mv (.tmp 90), none, [90], []⟩] [1, 3, 9, 43, 44, 45, 72, 73, 74])
(.seq (.reg false [⟨some 91, .mv (.tmp 9), none, [9], []⟩,
    ⟨some 92, .un .not (.tmp 91), none, [91], []⟩] [1, 3, 43, 44, 45, 72, 73, 74, 92])
(.cond (.tmp 92)
(.seq (.reg false [⟨some 2, .mv (.const (.int .i64 (9))), none, [], []⟩] [2])
.ret)
.skip))))))
(.reg false [⟨some 93, .bin .add (.tmp 74) (.const (.int .i64 (1))), none, [74], []⟩,
    ⟨some 74, .mv (.tmp 93), none, [93], []⟩] [1, 3, 43, 44, 45, 72, 73, 74]))))))))))
(.reg false [⟨some 94, .bin .add (.tmp 45) (.const (.int .i64 (1))), none, [45], []⟩,
    ⟨some 45, .mv (.tmp 94), none, [94], []⟩] [1, 3, 43, 44, 45])))))))
(.weak ac_CK2))))
def ac_CKc : AC :=
(.seq (.reg false [⟨some 1, .box 28 (.tmp 0), none, [0], []⟩,
    ⟨some 2, .mv (.const (.int .i64 (0))), none, [], []⟩] [1])
(.weak ac_CK1))
theorem ok_CKc : FnOk Tryz.prog 32 128 ac_CKc [.tmp 2] := ⟨Tryz.f32, Tryz.func32, by kernel_rfl, by kernel_rfl, by kernel_rfl, by kernel_rfl, by kernel_rfl⟩
end Go.Proofs.YtonglhkiobibgaaGreatDoor
namespace Go.Proofs.YtonglhkiobibgaaGreatDoor
open Go.RowKit
set_option maxRecDepth 100000
set_option maxHeartbeats 1000000 in
theorem ck3_spec (fr : Bool) (s : FSt) (nb : Nat) (hl : s.nodes.length ≤ 140737488355328) (hok : okE s) (h1 : hasN s.nodes 1) :
    wpC Tryz.prog 128 0 ac_CK3 ⟨envOf [(1, pFs true fr s)], heapOf [], 1⟩ (Ends 128 [.tmp 2] nb (.v (.int .i64 (if chk3 s = true then 0 else 9))) []) := by
  have hr := fun nb id h => reached_spec true fr true s hl hok 8 1 8 [] id nb h (by decide) rfl h1
  have hd := fun nb => depth_spec true fr s hl hok 9 1 8 nb (by decide) (by decide) h1
  have e0 : encB [] = [] := rfl
  have hlen : (encB (rch s 8 1 [])).length / 2 = (rch s 8 1 []).length := by rw [len_encB]; omega
  simp only [pFs, fNds, rowsM, outW, Option.map_some, e0] at hr
  simp only [pFs, fNds] at hd
  simp only [ac_CK3, pFs, fNds, TT, ↓reduceIte, Nat.reduceEqDiff, Nat.reduceAdd, Nat.reduceMul, reduceCtorEq, Nat.reduceLeDiff]
  refine ⟨_, hr _ _ (by decide), ?_⟩
  by_cases c1 : (rch s 8 1 []).length = s.nodes.length
  · have g1 : (((rch s 8 1 []).length : Int) = (s.nodes.length : Int)) = True := eq_true (by omega)
    simp only [hlen, g1, decide_true, Bool.not_true, TT, ↓reduceIte, Nat.reduceEqDiff, Nat.reduceAdd, Nat.reduceMul, reduceCtorEq, Nat.reduceLeDiff]
    refine ⟨_, hd _, ?_⟩
    by_cases c2 : dpt s 9 1 ≤ 8
    · have g2 : (8 < dpt s 9 1) = False := eq_false (by omega)
      simp only [g2, decide_false, TT, ↓reduceIte, Nat.reduceEqDiff, Nat.reduceAdd, Nat.reduceMul, reduceCtorEq, Nat.reduceLeDiff]
      exact Ends.data (.inr rfl) (by simp [ET, chk3, c1, c2]) trivial
    · have g2 : (8 < dpt s 9 1) = True := eq_true (by omega)
      simp only [g2, decide_true, TT, ↓reduceIte, Nat.reduceEqDiff, Nat.reduceAdd, Nat.reduceMul, reduceCtorEq, Nat.reduceLeDiff]
      exact Ends.data (.inr rfl) (by simp [ET, chk3, c1, c2]) trivial
  · have g1 : (((rch s 8 1 []).length : Int) = (s.nodes.length : Int)) = False := eq_false (by omega)
    simp only [hlen, g1, decide_false, Bool.not_false, TT, ↓reduceIte, Nat.reduceEqDiff, Nat.reduceAdd, Nat.reduceMul, reduceCtorEq, Nat.reduceLeDiff]
    exact Ends.data (.inr rfl) (by simp [ET, chk3, c1]) trivial
theorem chk2_drop {s : FSt} {ks : List (Int × Int)} {l : List Nd} {i : Nat} {n : Nd} (h : l[i]? = some n) : chk2 s ks (l.drop i) = (mayN n (getM n.ino ks) && chk2 s ks (l.drop (i + 1))) := by
  have hi := (List.getElem?_eq_some_iff.1 h)
  rw [List.drop_eq_getElem_cons hi.1, hi.2]
  simp [chk2]
abbrev L_c2 (fr : Bool) (s : FSt) (ks : List (Int × Int)) (i : Nat) : ASt := ⟨envOf [(1, pFs true fr s), (3, .mp 0), (97, .v (.int .i64 s.nodes.length)), (98, .v (.int .i64 i))], heapOf [(0, .row true MAPE (encM ks))], 1⟩
set_option maxHeartbeats 1000000 in
theorem ck2_spec (fr : Bool) (s : FSt) (ks : List (Int × Int)) (nb : Nat) (hl : s.nodes.length ≤ 140737488355328) (hb : ∀ n ∈ s.nodes, n.file.blocks.length ≤ 140737488355328) (hok : okE s) (h1 : hasN s.nodes 1) :
    wpC Tryz.prog 128 0 ac_CK2 ⟨envOf [(1, pFs true fr s), (3, .mp 0)], heapOf [(0, .row true MAPE (encM ks))], 1⟩ (Ends 128 [.tmp 2] nb (.v (.int .i64 (if chk2 s ks s.nodes = true ∧ chk3 s = true then 0 else 9))) []) := by
  simp only [ac_CK2, pFs, fNds, TT, ↓reduceIte, Nat.reduceEqDiff, Nat.reduceAdd, Nat.reduceMul, reduceCtorEq, Nat.reduceLeDiff]
  refine AWc.family (L_c2 fr s ks) (fun i => i ≤ s.nodes.length ∧ chk2 s ks (s.nodes.drop i) = chk2 s ks s.nodes) (fun i => s.nodes.length - i) 0 ⟨Nat.zero_le _, rfl⟩ ?_ ?_
  · refine Weak.calc [(0, 0)] (by decide) ?_ ?_ <;> simp [WT, al_encM, ren_encM, pFs, fNds, al_Nds, ren_Nds]
  · rintro i ⟨hi, he⟩
    by_cases hlt : i < s.nodes.length
    · obtain ⟨n, hx, e1, e0⟩ := lt_at hlt
      obtain ⟨a0, a1, a2, a3, a4, a5⟩ := get_Nds (fr := fr) hx
      have hm := fun nb => may_spec fr s.nodes i n (getM n.ino ks) nb hx (hb n (List.mem_of_getElem? hx))
      rw [chk2_drop hx] at he
      rcases mfind_encM n.ino ks with ⟨hM, hg⟩ | hM
      · rw [hg] at hm
        simp only [L_c2, pFs, fNds, e1, e0, a0, hM, Int.toNat_natCast, TT, ↓reduceIte, Nat.reduceEqDiff, Nat.reduceAdd, Nat.reduceMul, reduceCtorEq, Nat.reduceLeDiff]
        refine ⟨_, hm _, ?_⟩
        cases hmy : mayN n 0
        · rw [hg, hmy, Bool.false_and] at he
          simp only [Bool.not_false, TT, ↓reduceIte, Nat.reduceEqDiff, Nat.reduceAdd, Nat.reduceMul, reduceCtorEq, Nat.reduceLeDiff]
          exact Ends.data (.inr rfl) (by simp [ET, ← he]) trivial
        · simp only [Bool.not_true, TT, ↓reduceIte, Nat.reduceEqDiff, Nat.reduceAdd, Nat.reduceMul, reduceCtorEq, Nat.reduceLeDiff]
          refine famC_next (i + 1) (by omega) ⟨by omega, by rw [← he, hg, hmy, Bool.true_and]⟩ ?_
          refine Weak.calc [(0, 0)] (by decide) ?_ ?_ <;> simp [WT, al_encM, ren_encM, pFs, fNds, al_Nds, ren_Nds, wrap64 (x := (i : Int) + 1) (by omega)]
      · simp only [L_c2, pFs, fNds, e1, e0, a0, hM, Int.toNat_natCast, TT, ↓reduceIte, Nat.reduceEqDiff, Nat.reduceAdd, Nat.reduceMul, reduceCtorEq, Nat.reduceLeDiff]
        refine ⟨_, hm _, ?_⟩
        cases hmy : mayN n (getM n.ino ks)
        · rw [hmy, Bool.false_and] at he
          simp only [Bool.not_false, TT, ↓reduceIte, Nat.reduceEqDiff, Nat.reduceAdd, Nat.reduceMul, reduceCtorEq, Nat.reduceLeDiff]
          exact Ends.data (.inr rfl) (by simp [ET, ← he]) trivial
        · simp only [Bool.not_true, TT, ↓reduceIte, Nat.reduceEqDiff, Nat.reduceAdd, Nat.reduceMul, reduceCtorEq, Nat.reduceLeDiff]
          refine famC_next (i + 1) (by omega) ⟨by omega, by rw [← he, hmy, Bool.true_and]⟩ ?_
          refine Weak.calc [(0, 0)] (by decide) ?_ ?_ <;> simp [WT, al_encM, ren_encM, pFs, fNds, al_Nds, ren_Nds, wrap64 (x := (i : Int) + 1) (by omega)]
    · obtain rfl : i = s.nodes.length := by omega
      have e1 : ¬ ((s.nodes.length : Int) < (s.nodes.length : Int)) := by omega
      have h9 : chk2 s ks s.nodes = true := by rw [← he, List.drop_length]; simp [chk2]
      simp only [L_c2, pFs, fNds, e1, TT, ↓reduceIte, Nat.reduceEqDiff, Nat.reduceAdd, Nat.reduceMul, reduceCtorEq, Nat.reduceLeDiff]
      refine ⟨⟨envOf [(1, pFs true fr s)], heapOf [], 1⟩, ?_, ?_⟩
      · refine Weak.calc [] (by decide) ?_ ?_ <;> simp [WT, pFs, fNds, al_Nds, ren_Nds]
      · have h := ck3_spec fr s nb hl hok h1
        have e : (if chk2 s ks s.nodes = true ∧ chk3 s = true then (0 : Int) else 9) = if chk3 s = true then 0 else 9 := by simp [h9]
        rw [e]
        exact h
end Go.Proofs.YtonglhkiobibgaaGreatDoor
namespace Go.Proofs.YtonglhkiobibgaaGreatDoor
open Go.RowKit
set_option maxRecDepth 100000
theorem inosN_len : ∀ {l : List Nd}, (∀ n ∈ l, n.entries.length ≤ 140737488355328) → (inosN l).length ≤ l.length * 140737488355328
  | [], _ => by simp [inosN]
  | n :: l, h => by
    have h1 := h n (by simp)
    have h2 := inosN_len (l := l) (fun m hm => h m (by simp [hm]))
    simp only [inosN, List.flatMap_cons, List.length_append, List.length_map, List.length_cons] at h2 ⊢
    omega
theorem inosN_s {l : List Nd} {i : Nat} {n : Nd} (h : l[i]? = some n) : inosN (l.take (i + 1)) = inosN (l.take i) ++ n.entries.map Ent.ino := by
  rw [take_snoc h, inosN, List.flatMap_append]; simp [inosN]
abbrev ksJ (s : FSt) (i : Nat) (n : Nd) (j : Nat) : List Int := inosN (s.nodes.take i) ++ (n.entries.take j).map Ent.ino
theorem ksJ_s {s : FSt} {i j : Nat} {n : Nd} {e : Ent} (h : n.entries[j]? = some e) : ksJ s i n (j + 1) = ksJ s i n j ++ [e.ino] := by
  unfold ksJ
  rw [take_snoc h]; simp
theorem ksJ_len {s : FSt} {i j : Nat} {n : Nd} (hi : i ≤ 128) (hb : ∀ n ∈ s.nodes, n.entries.length ≤ 140737488355328) (hj : j ≤ 140737488355328) : (ksJ s i n j).length ≤ 1000000000000000000 := by
  have h := inosN_len (l := s.nodes.take i) (fun n hn => hb n (List.mem_of_mem_take hn))
  have h2 : (s.nodes.take i).length ≤ i := by rw [List.length_take]; omega
  have h3 : (s.nodes.take i).length * 140737488355328 ≤ 128 * 140737488355328 := Nat.mul_le_mul_right _ (by omega)
  simp only [ksJ, List.length_append, List.length_map, List.length_take]
  omega
abbrev L_c1 (fr : Bool) (s : FSt) (i : Nat) : ASt := ⟨envOf [(1, pFs true fr s), (3, .mp 0), (43, fNds fr s.nodes), (44, .v (.int .i64 s.nodes.length)), (45, .v (.int .i64 i))], heapOf [(0, .row true MAPE (encM (lkM (inosN (s.nodes.take i)))))], 1⟩
abbrev L_c1j (fr : Bool) (s : FSt) (i : Nat) (n : Nd) (j : Nat) : ASt := ⟨envOf [(1, pFs true fr s), (3, .mp 0), (43, fNds fr s.nodes), (44, .v (.int .i64 s.nodes.length)), (45, .v (.int .i64 i)), (72, fEnts fr n.entries), (73, .v (.int .i64 n.entries.length)), (74, .v (.int .i64 j))], heapOf [(0, .row true MAPE (encM (lkM (ksJ s i n j))))], 1⟩
set_option maxHeartbeats 4000000 in
theorem fsCheck_spec (fr : Bool) (s : FSt) (nb : Nat) (hl : s.nodes.length ≤ 140737488355328) (hb : ∀ n ∈ s.nodes, n.entries.length ≤ 140737488355328 ∧ n.file.blocks.length ≤ 140737488355328) :
    ASound Tryz.prog 32 [aFs fr s] nb (.ret (.v (.int .i64 (chkFs s))) []) := by
  refine ok_CKc.sound (by simp) ⟨al_aFs s, trivial⟩ ?_
  simp only [ac_CKc, aFs, fNds, TT, ↓reduceIte, Nat.reduceEqDiff, Nat.reduceAdd, Nat.reduceMul, reduceCtorEq, Nat.reduceLeDiff]
  refine ⟨⟨envOf [(1, pFs true fr s)], heapOf [], 200000⟩, Weak.freezeC 0 rfl (l := [(1, pFs true fr s)]) (h := []) ?_ ?_, ?_⟩
  · simp [WT, pFs, fNds, okF, fzV, fzOne]
  · trivial
  by_cases c1 : s.next ≤ 1
  · have e : chkFs s = 9 := if_pos (.inl c1)
    simp only [ac_CK1, pFs, fNds, e, c1, decide_true, TT, ↓reduceIte, Nat.reduceEqDiff, Nat.reduceAdd, Nat.reduceMul, reduceCtorEq, Nat.reduceLeDiff]
    exact Ends.data (.inr rfl) (by simp [ET]) trivial
  by_cases c2 : 2147483647 < s.next
  · have e : chkFs s = 9 := if_pos (.inr (.inl c2))
    simp only [ac_CK1, pFs, fNds, e, c1, c2, decide_true, decide_false, TT, ↓reduceIte, Nat.reduceEqDiff, Nat.reduceAdd, Nat.reduceMul, reduceCtorEq, Nat.reduceLeDiff]
    exact Ends.data (.inr rfl) (by simp [ET]) trivial
  by_cases c3 : s.nodes.length = 0
  · have e : chkFs s = 9 := if_pos (.inr (.inr (.inl c3)))
    have g : ((s.nodes.length : Int) = 0) = True := eq_true (by omega)
    simp only [ac_CK1, pFs, fNds, e, c1, c2, g, decide_true, decide_false, TT, ↓reduceIte, Nat.reduceEqDiff, Nat.reduceAdd, Nat.reduceMul, reduceCtorEq, Nat.reduceLeDiff]
    exact Ends.data (.inr rfl) (by simp [ET]) trivial
  have g3 : ((s.nodes.length : Int) = 0) = False := eq_false (by omega)
  by_cases c4 : 128 < s.nodes.length
  · have e : chkFs s = 9 := if_pos (.inr (.inr (.inr (.inl c4))))
    have g : (128 < (s.nodes.length : Int)) = True := eq_true (by omega)
    simp only [ac_CK1, pFs, fNds, e, c1, c2, g3, g, decide_true, decide_false, TT, ↓reduceIte, Nat.reduceEqDiff, Nat.reduceAdd, Nat.reduceMul, reduceCtorEq, Nat.reduceLeDiff]
    exact Ends.data (.inr rfl) (by simp [ET]) trivial
  have g4 : (128 < (s.nodes.length : Int)) = False := eq_false (by omega)
  obtain ⟨n0, hx0, q1, q0⟩ := lt_at (show 0 < s.nodes.length by omega)
  obtain ⟨z0, _⟩ := get_Nds (fr := fr) hx0
  have q1' : ((0 : Int) < (s.nodes.length : Int)) = True := eq_true (by omega)
  have q0' : ((0 : Int) ≤ 0) = True := eq_true (by omega)
  have z0' : (eNds fr s.nodes)[0]? = some (.v (.int .i64 n0.ino)) := by simpa using z0
  by_cases c5 : ¬ n0.ino = 1
  · have e : chkFs s = 9 := if_pos (.inr (.inr (.inr (.inr (by rw [inoA_at hx0]; exact c5)))))
    simp only [ac_CK1, pFs, fNds, e, c1, c2, g3, g4, q1', q0', z0', z0, c5, Int.toNat_zero, Nat.zero_mul, decide_true, decide_false, Bool.not_false, TT, ↓reduceIte, Nat.reduceEqDiff, Nat.reduceAdd, Nat.reduceMul, reduceCtorEq, Nat.reduceLeDiff]
    exact Ends.data (.inr rfl) (by simp [ET]) trivial
  replace c5 : n0.ino = 1 := Decidable.not_not.1 c5
  have e : chkFs s = if chk1 s none s.nodes = true ∧ chk2 s (lkM (inosN s.nodes)) s.nodes = true ∧ chk3 s = true then 0 else 9 := by
    rw [chkFs, if_neg]
    rintro (h | h | h | h | h)
    · exact c1 h
    · exact c2 h
    · exact c3 h
    · exact c4 h
    · exact h (by rw [inoA_at hx0]; exact c5)
  rw [e]
  simp only [ac_CK1, pFs, fNds, c1, c2, g3, g4, q1', q0', z0', z0, c5, Int.toNat_zero, Nat.zero_mul, decide_true, decide_false, Bool.not_true, TT, ↓reduceIte, Nat.reduceEqDiff, Nat.reduceAdd, Nat.reduceMul, reduceCtorEq, Nat.reduceLeDiff]
  refine AWc.family (L_c1 fr s) (fun i => i ≤ s.nodes.length ∧ chk1 s (prevN s.nodes i) (s.nodes.drop i) = chk1 s none s.nodes) (fun i => s.nodes.length - i) 0 ⟨Nat.zero_le _, rfl⟩ ?_ ?_
  · refine Weak.calc [(3000000, 0)] (by decide) ?_ ?_ <;> simp [WT, inosN, lkM, encM, pFs, fNds, al_Nds, ren_Nds]
  · rintro i ⟨hi, he⟩
    by_cases hlt : i < s.nodes.length
    · obtain ⟨n, hx, e1, e0⟩ := lt_at hlt
      obtain ⟨a0, a1, a2, a3, a4, a5⟩ := get_Nds (fr := fr) hx
      have hmem := List.mem_of_getElem? hx
      rw [chk1_drop hx] at he
      have w1 : ¬ i = 0 → IntKind.i64.wrap ((i : Int) - 1) = ((i - 1 : Nat) : Int) := fun h => by rw [wrap64 (by omega)]; omega
      by_cases d1 : s.next ≤ n.ino
      · have hf : chk1 s none s.nodes = false := by rw [← he, decide_eq_false (show ¬ n.ino < s.next by omega), Bool.false_and]
        simp only [L_c1, pFs, fNds, e1, e0, a0, a1, a2, a3, a4, a5, d1, decide_true, Int.toNat_natCast, TT, ↓reduceIte, Nat.reduceEqDiff, Nat.reduceAdd, Nat.reduceMul, reduceCtorEq, Nat.reduceLeDiff]
        exact ⟨by rfl, Ends.data (.inr rfl) (by simp [ET, hf]) trivial⟩
      rw [decide_eq_true (show n.ino < s.next by omega), Bool.true_and] at he
      rcases Nat.eq_zero_or_pos i with h0 | h0
      · have g : ((0 : Int) < (i : Int)) = False := eq_false (by omega)
        have hpr : ltO (prevN s.nodes i) n.ino = true := by subst h0; rfl
        rw [hpr, Bool.true_and] at he
        simp only [L_c1, pFs, fNds, e1, e0, a0, a1, a2, a3, a4, a5, d1, g, decide_false, Int.toNat_natCast, TT, ↓reduceIte, Nat.reduceEqDiff, Nat.reduceAdd, Nat.reduceMul, reduceCtorEq, Nat.reduceLeDiff]
        refine ⟨by rfl, ?_⟩
        refine AWc.family (L_c1j fr s i n) (fun j => j ≤ n.entries.length ∧ ∀ e ∈ n.entries.take j, hasN s.nodes e.ino) (fun j => n.entries.length - j) 0 ⟨Nat.zero_le _, by simp⟩ ?_ ?_
        · refine Weak.calc [(0, 0)] (by decide) ?_ ?_ <;> simp [WT, ksJ, pFs, fNds, al_Nds, ren_Nds, fEnts, al_Ents, ren_Ents, al_encM, ren_encM]
        · rintro j ⟨hj, hall⟩
          by_cases hjl : j < n.entries.length
          · obtain ⟨x, hy, f1, f0⟩ := lt_at hjl
            obtain ⟨b0, b1⟩ := get_Ents hy
            have hbs := fun nb => bsearch_spec 84 fr s.nodes x.ino nb hl (fun n nb => cmpN1_spec fr n x.ino nb)
            simp only [fNds] at hbs
            have hbd := getM_bd x.ino (ksJ s i n j)
            have hkl := ksJ_len (s := s) (n := n) (i := i) (j := j) (by omega) (fun n hn => (hb n hn).1) (by have := (hb n hmem).1; omega)
            have hput := mput_encM x.ino (lkM (ksJ s i n j))
            rw [← lkM_s, ← ksJ_s hy] at hput
            have hjn := (hb n hmem).1
            rcases mfind_encM x.ino (lkM (ksJ s i n j)) with ⟨hM, hg⟩ | hM
            · have w2 : IntKind.i64.wrap (0 + 1) = getM x.ino (lkM (ksJ s i n j)) + 1 := by rw [hg]; rfl
              simp only [L_c1j, pFs, fNds, fEnts, f1, f0, b0, b1, hM, w2, hput, Int.toNat_natCast, TT, ↓reduceIte, Nat.reduceEqDiff, Nat.reduceAdd, Nat.reduceMul, reduceCtorEq, Nat.reduceLeDiff]
              refine ⟨_, hbs _, ?_⟩
              by_cases hh : hasN s.nodes x.ino
              · simp only [decide_eq_true hh, Bool.not_true, TT, ↓reduceIte, Nat.reduceEqDiff, Nat.reduceAdd, Nat.reduceMul, reduceCtorEq, Nat.reduceLeDiff]
                refine famC_next (j + 1) (by omega) ⟨by omega, fun e he2 => ?_⟩ ?_
                · rw [take_snoc hy] at he2
                  rcases List.mem_append.1 he2 with h3 | h3
                  · exact hall e h3
                  · have : e = x := by simpa using h3
                    rw [this]; exact hh
                · refine Weak.calc [(0, 0)] (by decide) ?_ ?_ <;> simp [WT, pFs, fNds, al_Nds, ren_Nds, fEnts, al_Ents, ren_Ents, al_encM, ren_encM, wrap64 (x := (j : Int) + 1) (by omega)]
              · have hf : chk1 s none s.nodes = false := by
                  rw [← he, decide_eq_false (fun h9 => hh (h9 x (List.mem_of_getElem? hy)))]; simp
                simp only [decide_eq_false hh, Bool.not_false, TT, ↓reduceIte, Nat.reduceEqDiff, Nat.reduceAdd, Nat.reduceMul, reduceCtorEq, Nat.reduceLeDiff]
                exact Ends.data (.inr rfl) (by simp [ET, hf]) trivial
            · have w2 : IntKind.i64.wrap (getM x.ino (lkM (ksJ s i n j)) + 1) = getM x.ino (lkM (ksJ s i n j)) + 1 := wrap64 (by omega)
              simp only [L_c1j, pFs, fNds, fEnts, f1, f0, b0, b1, hM, w2, hput, Int.toNat_natCast, TT, ↓reduceIte, Nat.reduceEqDiff, Nat.reduceAdd, Nat.reduceMul, reduceCtorEq, Nat.reduceLeDiff]
              refine ⟨_, hbs _, ?_⟩
              by_cases hh : hasN s.nodes x.ino
              · simp only [decide_eq_true hh, Bool.not_true, TT, ↓reduceIte, Nat.reduceEqDiff, Nat.reduceAdd, Nat.reduceMul, reduceCtorEq, Nat.reduceLeDiff]
                refine famC_next (j + 1) (by omega) ⟨by omega, fun e he2 => ?_⟩ ?_
                · rw [take_snoc hy] at he2
                  rcases List.mem_append.1 he2 with h3 | h3
                  · exact hall e h3
                  · have : e = x := by simpa using h3
                    rw [this]; exact hh
                · refine Weak.calc [(0, 0)] (by decide) ?_ ?_ <;> simp [WT, pFs, fNds, al_Nds, ren_Nds, fEnts, al_Ents, ren_Ents, al_encM, ren_encM, wrap64 (x := (j : Int) + 1) (by omega)]
              · have hf : chk1 s none s.nodes = false := by
                  rw [← he, decide_eq_false (fun h9 => hh (h9 x (List.mem_of_getElem? hy)))]; simp
                simp only [decide_eq_false hh, Bool.not_false, TT, ↓reduceIte, Nat.reduceEqDiff, Nat.reduceAdd, Nat.reduceMul, reduceCtorEq, Nat.reduceLeDiff]
                exact Ends.data (.inr rfl) (by simp [ET, hf]) trivial
          · obtain rfl : j = n.entries.length := by omega
            have f1 : ¬ ((n.entries.length : Int) < (n.entries.length : Int)) := by omega
            rw [List.take_length] at hall
            rw [decide_eq_true hall, Bool.true_and] at he
            simp only [L_c1j, pFs, fNds, fEnts, f1, TT, ↓reduceIte, Nat.reduceEqDiff, Nat.reduceAdd, Nat.reduceMul, reduceCtorEq, Nat.reduceLeDiff]
            refine famC_next (i + 1) (by omega) ⟨by omega, he⟩ ?_
            refine Weak.calc [(0, 0)] (by decide) ?_ ?_ <;> simp [WT, inosN_s hx, ksJ, pFs, fNds, al_Nds, ren_Nds, al_encM, ren_encM, wrap64 (x := (i : Int) + 1) (by omega)]
      · have g : ((0 : Int) < (i : Int)) = True := eq_true (by omega)
        obtain ⟨p, hp, p1, p0⟩ := lt_at (show i - 1 < s.nodes.length by omega)
        obtain ⟨y0, _⟩ := get_Nds (fr := fr) hp
        have hpr : prevN s.nodes i = some p.ino := by rw [prevN, if_neg (by omega), hp]; rfl
        rw [hpr, ltO] at he
        have w1' := w1 (by omega)
        by_cases d2 : n.ino ≤ p.ino
        · have hf : chk1 s none s.nodes = false := by rw [← he, decide_eq_false (show ¬ p.ino < n.ino by omega), Bool.false_and]
          simp only [L_c1, pFs, fNds, e1, e0, a0, a1, a2, a3, a4, a5, d1, d2, g, w1', p1, p0, y0, decide_true, decide_false, Int.toNat_natCast, TT, ↓reduceIte, Nat.reduceEqDiff, Nat.reduceAdd, Nat.reduceMul, reduceCtorEq, Nat.reduceLeDiff]
          exact ⟨by rfl, Ends.data (.inr rfl) (by simp [ET, hf]) trivial⟩
        rw [decide_eq_true (show p.ino < n.ino by omega), Bool.true_and] at he
        simp only [L_c1, pFs, fNds, e1, e0, a0, a1, a2, a3, a4, a5, d1, d2, g, w1', p1, p0, y0, decide_true, decide_false, Int.toNat_natCast, TT, ↓reduceIte, Nat.reduceEqDiff, Nat.reduceAdd, Nat.reduceMul, reduceCtorEq, Nat.reduceLeDiff]
        refine ⟨by rfl, ?_⟩
        refine AWc.family (L_c1j fr s i n) (fun j => j ≤ n.entries.length ∧ ∀ e ∈ n.entries.take j, hasN s.nodes e.ino) (fun j => n.entries.length - j) 0 ⟨Nat.zero_le _, by simp⟩ ?_ ?_
        · refine Weak.calc [(0, 0)] (by decide) ?_ ?_ <;> simp [WT, ksJ, pFs, fNds, al_Nds, ren_Nds, fEnts, al_Ents, ren_Ents, al_encM, ren_encM]
        · rintro j ⟨hj, hall⟩
          by_cases hjl : j < n.entries.length
          · obtain ⟨x, hy, f1, f0⟩ := lt_at hjl
            obtain ⟨b0, b1⟩ := get_Ents hy
            have hbs := fun nb => bsearch_spec 84 fr s.nodes x.ino nb hl (fun n nb => cmpN1_spec fr n x.ino nb)
            simp only [fNds] at hbs
            have hbd := getM_bd x.ino (ksJ s i n j)
            have hkl := ksJ_len (s := s) (n := n) (i := i) (j := j) (by omega) (fun n hn => (hb n hn).1) (by have := (hb n hmem).1; omega)
            have hput := mput_encM x.ino (lkM (ksJ s i n j))
            rw [← lkM_s, ← ksJ_s hy] at hput
            have hjn := (hb n hmem).1
            rcases mfind_encM x.ino (lkM (ksJ s i n j)) with ⟨hM, hg⟩ | hM
            · have w2 : IntKind.i64.wrap (0 + 1) = getM x.ino (lkM (ksJ s i n j)) + 1 := by rw [hg]; rfl
              simp only [L_c1j, pFs, fNds, fEnts, f1, f0, b0, b1, hM, w2, hput, Int.toNat_natCast, TT, ↓reduceIte, Nat.reduceEqDiff, Nat.reduceAdd, Nat.reduceMul, reduceCtorEq, Nat.reduceLeDiff]
              refine ⟨_, hbs _, ?_⟩
              by_cases hh : hasN s.nodes x.ino
              · simp only [decide_eq_true hh, Bool.not_true, TT, ↓reduceIte, Nat.reduceEqDiff, Nat.reduceAdd, Nat.reduceMul, reduceCtorEq, Nat.reduceLeDiff]
                refine famC_next (j + 1) (by omega) ⟨by omega, fun e he2 => ?_⟩ ?_
                · rw [take_snoc hy] at he2
                  rcases List.mem_append.1 he2 with h3 | h3
                  · exact hall e h3
                  · have : e = x := by simpa using h3
                    rw [this]; exact hh
                · refine Weak.calc [(0, 0)] (by decide) ?_ ?_ <;> simp [WT, pFs, fNds, al_Nds, ren_Nds, fEnts, al_Ents, ren_Ents, al_encM, ren_encM, wrap64 (x := (j : Int) + 1) (by omega)]
              · have hf : chk1 s none s.nodes = false := by
                  rw [← he, decide_eq_false (fun h9 => hh (h9 x (List.mem_of_getElem? hy)))]; simp
                simp only [decide_eq_false hh, Bool.not_false, TT, ↓reduceIte, Nat.reduceEqDiff, Nat.reduceAdd, Nat.reduceMul, reduceCtorEq, Nat.reduceLeDiff]
                exact Ends.data (.inr rfl) (by simp [ET, hf]) trivial
            · have w2 : IntKind.i64.wrap (getM x.ino (lkM (ksJ s i n j)) + 1) = getM x.ino (lkM (ksJ s i n j)) + 1 := wrap64 (by omega)
              simp only [L_c1j, pFs, fNds, fEnts, f1, f0, b0, b1, hM, w2, hput, Int.toNat_natCast, TT, ↓reduceIte, Nat.reduceEqDiff, Nat.reduceAdd, Nat.reduceMul, reduceCtorEq, Nat.reduceLeDiff]
              refine ⟨_, hbs _, ?_⟩
              by_cases hh : hasN s.nodes x.ino
              · simp only [decide_eq_true hh, Bool.not_true, TT, ↓reduceIte, Nat.reduceEqDiff, Nat.reduceAdd, Nat.reduceMul, reduceCtorEq, Nat.reduceLeDiff]
                refine famC_next (j + 1) (by omega) ⟨by omega, fun e he2 => ?_⟩ ?_
                · rw [take_snoc hy] at he2
                  rcases List.mem_append.1 he2 with h3 | h3
                  · exact hall e h3
                  · have : e = x := by simpa using h3
                    rw [this]; exact hh
                · refine Weak.calc [(0, 0)] (by decide) ?_ ?_ <;> simp [WT, pFs, fNds, al_Nds, ren_Nds, fEnts, al_Ents, ren_Ents, al_encM, ren_encM, wrap64 (x := (j : Int) + 1) (by omega)]
              · have hf : chk1 s none s.nodes = false := by
                  rw [← he, decide_eq_false (fun h9 => hh (h9 x (List.mem_of_getElem? hy)))]; simp
                simp only [decide_eq_false hh, Bool.not_false, TT, ↓reduceIte, Nat.reduceEqDiff, Nat.reduceAdd, Nat.reduceMul, reduceCtorEq, Nat.reduceLeDiff]
                exact Ends.data (.inr rfl) (by simp [ET, hf]) trivial
          · obtain rfl : j = n.entries.length := by omega
            have f1 : ¬ ((n.entries.length : Int) < (n.entries.length : Int)) := by omega
            rw [List.take_length] at hall
            rw [decide_eq_true hall, Bool.true_and] at he
            simp only [L_c1j, pFs, fNds, fEnts, f1, TT, ↓reduceIte, Nat.reduceEqDiff, Nat.reduceAdd, Nat.reduceMul, reduceCtorEq, Nat.reduceLeDiff]
            refine famC_next (i + 1) (by omega) ⟨by omega, he⟩ ?_
            refine Weak.calc [(0, 0)] (by decide) ?_ ?_ <;> simp [WT, inosN_s hx, ksJ, pFs, fNds, al_Nds, ren_Nds, al_encM, ren_encM, wrap64 (x := (i : Int) + 1) (by omega)]
    · obtain rfl : i = s.nodes.length := by omega
      have e1 : ¬ ((s.nodes.length : Int) < (s.nodes.length : Int)) := by omega
      have h9 : chk1 s none s.nodes = true := by rw [← he, List.drop_length]; rfl
      obtain ⟨hall, _, hinc⟩ := chk1_all h9
      have hok : okE s := fun n hn => ⟨(hb n hn).1, (hall n hn).2⟩
      have h1 : hasN s.nodes 1 := by have := hasN_of hinc hx0; rwa [c5] at this
      simp only [L_c1, pFs, fNds, e1, List.take_length, TT, ↓reduceIte, Nat.reduceEqDiff, Nat.reduceAdd, Nat.reduceMul, reduceCtorEq, Nat.reduceLeDiff]
      refine ⟨⟨envOf [(1, pFs true fr s), (3, .mp 0)], heapOf [(0, .row true MAPE (encM (lkM (inosN s.nodes))))], 1⟩, ?_, ?_⟩
      · refine Weak.calc [(0, 0)] (by decide) ?_ ?_ <;> simp [WT, pFs, fNds, al_Nds, ren_Nds, al_encM, ren_encM]
      · have h := ck2_spec fr s (lkM (inosN s.nodes)) nb hl (fun n hn => (hb n hn).2) hok h1
        have e : (if chk1 s none s.nodes = true ∧ chk2 s (lkM (inosN s.nodes)) s.nodes = true ∧ chk3 s = true then (0 : Int) else 9) = if chk2 s (lkM (inosN s.nodes)) s.nodes = true ∧ chk3 s = true then 0 else 9 := by simp [h9]
        rw [e]
        exact h
end Go.Proofs.YtonglhkiobibgaaGreatDoor
namespace Go.Proofs.YtonglhkiobibgaaGreatDoor
open Go.RowKit
set_option maxRecDepth 100000
theorem bless_irr : ∀ l : List UInt8, Op.bytesLess l l = false
  | [] => rfl
  | a :: l => by
    rw [Op.bytesLess, bless_irr l]
    simp
def cmpS (a b : ByteArray) : Int := if lessS a b = true then -1 else if a = b then 0 else 1
theorem cmpS_neg {a b : ByteArray} : cmpS a b < 0 ↔ lessS a b = true := by unfold cmpS; split <;> (try split) <;> simp_all
theorem cmpS_zero {a b : ByteArray} : cmpS a b = 0 ↔ a = b := by
  unfold cmpS
  by_cases h : a = b
  · subst h
    have : lessS a a = false := bless_irr _
    simp [this]
  · split <;> simp_all
theorem nanS_spec (a : ByteArray) (nb : Nat) : ASound Tryz.prog 282 [.v (.string a)] nb (.ret (.v (.bool false)) []) := by
  refine ok_282.sound (by simp) ⟨trivial, trivial⟩ ?_
  simp only [ac_282, strOp, decide_true, Bool.not_true, TT, ↓reduceIte, Nat.reduceEqDiff, Nat.reduceAdd, Nat.reduceMul, reduceCtorEq, Nat.reduceLeDiff]
  exact Ends.data (.inr rfl) (by simp [ET]) trivial
theorem cmpS_spec (a b : ByteArray) (nb : Nat) : ASound Tryz.prog 255 [.v (.string a), .v (.string b)] nb (.ret (.v (.int .i64 (cmpS a b))) []) := by
  refine ok_255.sound (by simp) ⟨trivial, trivial, trivial⟩ ?_
  simp only [ac_255, TT, ↓reduceIte, Nat.reduceEqDiff, Nat.reduceAdd, Nat.reduceMul, reduceCtorEq, Nat.reduceLeDiff]
  refine ⟨_, nanS_spec a _, ?_⟩
  simp only [TT, ↓reduceIte, Nat.reduceEqDiff, Nat.reduceAdd, Nat.reduceMul, reduceCtorEq, Nat.reduceLeDiff]
  refine ⟨_, nanS_spec b _, ?_⟩
  cases h1 : Op.bytesLess a.toList b.toList
  · by_cases h2 : a = b
    · simp only [strOp, h1, h2, decide_true, Bool.or_true, Bool.not_true, TT, ↓reduceIte, Nat.reduceEqDiff, Nat.reduceAdd, Nat.reduceMul, reduceCtorEq, Nat.reduceLeDiff]
      subst h2
      simp only [h1, TT, ↓reduceIte, Nat.reduceEqDiff, Nat.reduceAdd, Nat.reduceMul, reduceCtorEq, Nat.reduceLeDiff]
      exact Ends.data (.inr rfl) (by simp [ET, cmpS, lessS, h1]) trivial
    · simp only [strOp, h1, h2, decide_false, Bool.or_false, Bool.not_false, TT, ↓reduceIte, Nat.reduceEqDiff, Nat.reduceAdd, Nat.reduceMul, reduceCtorEq, Nat.reduceLeDiff]
      exact Ends.data (.inr rfl) (by simp [ET, cmpS, lessS, h1, h2]) trivial
  · simp only [strOp, h1, TT, ↓reduceIte, Nat.reduceEqDiff, Nat.reduceAdd, Nat.reduceMul, reduceCtorEq, Nat.reduceLeDiff]
    exact Ends.data (.inr rfl) (by simp [ET, cmpS, lessS, h1]) trivial
theorem cmpE_spec (e : Ent) (t : ByteArray) (nb : Nat) : ASound Tryz.prog 254 [aEnt e, .v (.string t)] nb (.ret (.v (.int .i64 (cmpS e.name t))) []) := by
  refine ok_254.sound (by simp) ⟨⟨trivial, trivial, trivial⟩, trivial, trivial⟩ ?_
  simp only [ac_254, aEnt, TT, ↓reduceIte, Nat.reduceEqDiff, Nat.reduceAdd, Nat.reduceMul, reduceCtorEq, Nat.reduceLeDiff]
  refine ⟨_, cmpS_spec _ _ _, ?_⟩
  simp only [TT, ↓reduceIte, Nat.reduceEqDiff, Nat.reduceAdd, Nat.reduceMul, reduceCtorEq, Nat.reduceLeDiff]
  exact Ends.data (.inr rfl) (by simp [ET]) trivial
/-- a search by halves -/
def bsP (p : Nat → Bool) : Nat → Nat → Nat → Nat
  | 0, i, _ => i
  | k + 1, i, j => if i < j then (if p ((i + j) / 2) = true then bsP p k ((i + j) / 2 + 1) j else bsP p k i ((i + j) / 2)) else i
theorem bsP_stop {p : Nat → Bool} {k i j : Nat} (h : ¬ i < j) : bsP p k i j = i := by
  cases k with
  | zero => rfl
  | succ k => rw [bsP, if_neg h]
def namA (l : List Ent) (h : Nat) : ByteArray := match l[h]? with | some e => e.name | none => ByteArray.mk #[]
theorem namA_at {l : List Ent} {h : Nat} {e : Ent} (x : l[h]? = some e) : namA l h = e.name := by rw [namA, x]
def plcE (l : List Ent) (t : ByteArray) : Nat := bsP (fun h => lessS (namA l h) t) l.length 0 l.length
abbrev hasE (l : List Ent) (t : ByteArray) : Prop := plcE l t < l.length ∧ namA l (plcE l t) = t
abbrev L_be (f : Nat) (fr : Bool) (l : List Ent) (t : ByteArray) (q : Bs) : ASt := ⟨envOf [(0, fEnts fr l), (1, .v (.string t)), (2, .fn f []), (8, .v (.int .i64 l.length)), (9, .v (.int .i64 q.i)), (10, .v (.int .i64 q.j))], heapOf [], 1⟩
set_option maxHeartbeats 1000000 in
theorem bsearchE_spec (fr : Bool) (l : List Ent) (t : ByteArray) (nb : Nat) (hl : l.length ≤ 140737488355328) :
    ASound Tryz.prog 253 [fEnts fr l, .v (.string t), .fn 254 []] nb (.ret (.tup [.v (.int .i64 (plcE l t)), .v (.bool (decide (hasE l t)))]) []) := by
  refine ok_253.sound (by simp) ⟨al_fEnts l, trivial, trivial, trivial⟩ ?_
  simp only [ac_253, fEnts, TT, ↓reduceIte, Nat.reduceEqDiff, Nat.reduceAdd, Nat.reduceMul, reduceCtorEq, Nat.reduceLeDiff]
  refine AWc.family (L_be 254 fr l t) (fun q => (q.i ≤ q.j ∧ q.j ≤ l.length ∧ q.j - q.i ≤ q.k) ∧ bsP (fun h => lessS (namA l h) t) q.k q.i q.j = plcE l t) (fun q => q.j - q.i) ⟨l.length, 0, l.length⟩ ⟨⟨Nat.zero_le _, Nat.le_refl _, Nat.le_refl _⟩, rfl⟩ ?_ ?_
  · refine Weak.calc [] (by decide) ?_ ?_ <;> simp [WT, al_Ents, ren_Ents, fEnts]
  · rintro ⟨k, i, j⟩ ⟨⟨hi, hj, hk⟩, he⟩
    simp only at hi hj hk he
    by_cases hlt : i < j
    · obtain ⟨k, rfl⟩ : ∃ k', k = k' + 1 := ⟨k - 1, by omega⟩
      have g1 : ((i : Int) < (j : Int)) = True := eq_true (by omega)
      have w1 : IntKind.i64.wrap ((i : Int) + (j : Int)) = ((i + j : Nat) : Int) := by rw [wrap64 (by omega)]; omega
      have w2 := wu64 (m := i + j) (by omega)
      have w3 : IntKind.i64.wrap (((i + j) / 2 : Nat) : Int) = (((i + j) / 2 : Nat) : Int) := wrap64 (by omega)
      rw [bsP, if_pos hlt] at he
      generalize hm : (i + j) / 2 = m at he w3
      obtain ⟨n, hx, e1, e0⟩ := lt_at (show m < l.length by omega)
      obtain ⟨a0, a1⟩ := get_Ents hx
      rw [namA_at hx] at he
      have ho := cmpE_spec n t
      simp only [L_be, fEnts, g1, w1, w2, shr1, hm, w3, e1, e0, a0, a1, Int.toNat_natCast, TT, ↓reduceIte, Nat.reduceEqDiff, Nat.reduceAdd, Nat.reduceMul, reduceCtorEq, Nat.reduceLeDiff]
      refine ⟨_, _, _, rfl, ho _, ?_⟩
      cases h : lessS n.name t
      · rw [if_neg (by rw [h]; decide)] at he
        have c1 : (cmpS n.name t < 0) = False := eq_false fun h9 => by rw [cmpS_neg, h] at h9; cases h9
        simp only [c1, decide_false, TT, ↓reduceIte, Nat.reduceEqDiff, Nat.reduceAdd, Nat.reduceMul, reduceCtorEq, Nat.reduceLeDiff]
        refine famC_next ⟨k, i, m⟩ (by show m - i < j - i; omega) ⟨⟨by show i ≤ m; omega, by show m ≤ l.length; omega, by show m - i ≤ k; omega⟩, he⟩ ?_
        refine Weak.calc [] (by decide) ?_ ?_ <;> simp [WT, al_Ents, ren_Ents, fEnts]
      · rw [if_pos h] at he
        have c1 : (cmpS n.name t < 0) = True := eq_true (cmpS_neg.2 h)
        simp only [c1, decide_true, TT, ↓reduceIte, Nat.reduceEqDiff, Nat.reduceAdd, Nat.reduceMul, reduceCtorEq, Nat.reduceLeDiff]
        refine famC_next ⟨k, m + 1, j⟩ (by show j - (m + 1) < j - i; omega) ⟨⟨by show m + 1 ≤ j; omega, hj, by show j - (m + 1) ≤ k; omega⟩, he⟩ ?_
        refine Weak.calc [] (by decide) ?_ ?_ <;> simp [WT, al_Ents, ren_Ents, fEnts, wrap64 (x := (m : Int) + 1) (by omega)]
    · obtain rfl : i = j := by omega
      rw [bsP_stop hlt] at he
      subst he
      have g1 : ((plcE l t : Int) < (plcE l t : Int)) = False := eq_false (by omega)
      by_cases h9 : plcE l t < l.length
      · have g2 : ((plcE l t : Int) < (l.length : Int)) = True := eq_true (by omega)
        obtain ⟨n, hx, e1, e0⟩ := lt_at h9
        obtain ⟨a0, a1⟩ := get_Ents hx
        have ho := cmpE_spec n t
        have hd : decide (hasE l t) = decide (cmpS n.name t = 0) := by
          by_cases h : n.name = t
          · rw [decide_eq_true (cmpS_zero.2 h), decide_eq_true ⟨h9, by rw [namA_at hx, h]⟩]
          · rw [decide_eq_false fun h8 => h (cmpS_zero.1 h8), decide_eq_false fun h8 => h (by rw [← namA_at hx]; exact h8.2)]
        rw [hd]
        simp only [L_be, fEnts, g1, g2, decide_true, e0, a0, a1, Int.toNat_natCast, TT, ↓reduceIte, Nat.reduceEqDiff, Nat.reduceAdd, Nat.reduceMul, reduceCtorEq, Nat.reduceLeDiff]
        refine ⟨_, _, _, rfl, ho _, ?_⟩
        simp only [TT, ↓reduceIte, Nat.reduceEqDiff, Nat.reduceAdd, Nat.reduceMul, reduceCtorEq, Nat.reduceLeDiff]
        exact Ends.data (.inr rfl) (by simp [ET]) ⟨trivial, trivial, trivial⟩
      · have g2 : ((plcE l t : Int) < (l.length : Int)) = False := eq_false (by omega)
        have hd : decide (hasE l t) = false := decide_eq_false fun h => h9 h.1
        rw [hd]
        simp only [L_be, fEnts, g1, g2, decide_false, TT, ↓reduceIte, Nat.reduceEqDiff, Nat.reduceAdd, Nat.reduceMul, reduceCtorEq, Nat.reduceLeDiff]
        exact Ends.data (.inr rfl) (by simp [ET]) ⟨trivial, trivial, trivial⟩
theorem search_spec (fr : Bool) (l : List Ent) (t : ByteArray) (nb : Nat) (hl : l.length ≤ 140737488355328) :
    ASound Tryz.prog 221 [fEnts fr l, .v (.string t)] nb (.ret (.tup [.v (.int .i64 (plcE l t)), .v (.bool (decide (hasE l t)))]) []) := by
  refine ok_221.sound (by simp) ⟨al_fEnts l, trivial, trivial⟩ ?_
  have h := fun nb => bsearchE_spec fr l t nb hl
  simp only [fEnts] at h
  simp only [ac_221, fEnts, TT, ↓reduceIte, Nat.reduceEqDiff, Nat.reduceAdd, Nat.reduceMul, reduceCtorEq, Nat.reduceLeDiff]
  refine ⟨_, h _, ?_⟩
  simp only [TT, ↓reduceIte, Nat.reduceEqDiff, Nat.reduceAdd, Nat.reduceMul, reduceCtorEq, Nat.reduceLeDiff]
  exact Ends.data (.inr rfl) (by simp [ET]) ⟨trivial, trivial, trivial⟩
def inoE (l : List Ent) (h : Nat) : Int := match l[h]? with | some e => e.ino | none => 0
/-- a name's number, whether it is there, and what is amiss -/
def findE (l : List Ent) (t : ByteArray) : Int × Bool × Int := if chkD l = 0 then (if hasE l t then (inoE l (plcE l t), true, 0) else (0, false, 0)) else (0, false, chkD l)
theorem dfind_spec (fr : Bool) (l : List Ent) (t : ByteArray) (nb : Nat) (hl : l.length ≤ 140737488355328) :
    ASound Tryz.prog 172 [fEnts fr l, .v (.string t)] nb (.ret (.tup [.v (.int .i64 (findE l t).1), .v (.bool (findE l t).2.1), .v (.int .i64 (findE l t).2.2)]) []) := by
  refine ok_172.sound (by simp) ⟨al_fEnts l, trivial, trivial⟩ ?_
  have h1 := fun nb => dchk_spec fr l nb
  have h2 := fun nb => search_spec fr l t nb hl
  simp only [fEnts] at h1 h2
  simp only [ac_172, fEnts, TT, ↓reduceIte, Nat.reduceEqDiff, Nat.reduceAdd, Nat.reduceMul, reduceCtorEq, Nat.reduceLeDiff]
  refine ⟨_, h1 _, ?_⟩
  by_cases c1 : ¬ chkD l = 0
  · have e : findE l t = (0, false, chkD l) := if_neg c1
    simp only [c1, e, decide_false, Bool.not_false, TT, ↓reduceIte, Nat.reduceEqDiff, Nat.reduceAdd, Nat.reduceMul, reduceCtorEq, Nat.reduceLeDiff]
    exact Ends.data (.inr rfl) (by simp [ET]) ⟨trivial, trivial, trivial, trivial⟩
  replace c1 : chkD l = 0 := Decidable.not_not.1 c1
  simp only [c1, decide_true, Bool.not_true, TT, ↓reduceIte, Nat.reduceEqDiff, Nat.reduceAdd, Nat.reduceMul, reduceCtorEq, Nat.reduceLeDiff]
  refine ⟨_, h2 _, ?_⟩
  by_cases c2 : hasE l t
  · obtain ⟨n, hx, e1, e0⟩ := lt_at c2.1
    obtain ⟨a0, a1⟩ := get_Ents hx
    have e : findE l t = (n.ino, true, 0) := by rw [findE, if_pos c1, if_pos c2, inoE, hx]
    simp only [e, decide_eq_true c2, Bool.not_true, e1, e0, a0, a1, Int.toNat_natCast, TT, ↓reduceIte, Nat.reduceEqDiff, Nat.reduceAdd, Nat.reduceMul, reduceCtorEq, Nat.reduceLeDiff]
    exact Ends.data (.inr rfl) (by simp [ET]) ⟨trivial, trivial, trivial, trivial⟩
  · have e : findE l t = (0, false, 0) := by rw [findE, if_pos c1, if_neg c2]
    simp only [e, decide_eq_false c2, Bool.not_false, TT, ↓reduceIte, Nat.reduceEqDiff, Nat.reduceAdd, Nat.reduceMul, reduceCtorEq, Nat.reduceLeDiff]
    exact Ends.data (.inr rfl) (by simp [ET]) ⟨trivial, trivial, trivial, trivial⟩
end Go.Proofs.YtonglhkiobibgaaGreatDoor
namespace Go.Proofs.YtonglhkiobibgaaGreatDoor
open Go.RowKit Go.Extern.Stop Go.Stop Go.Extern
theorem tf_valueOf155 (t : Addr) (w : World) : (ReflectliteValue.unpack (.iface 199 (.pointer (some t)))).run Tryz.prog w
    = .ok (.agg #[.pointer (some ⟨4, 199, none⟩), .pointer (some ⟨w.heap.size, 0, none⟩), .int .u64 150]) (w.alloc (.cells #[.pointer (some t)] 199)) := by kernel_rfl
theorem tf_type155 (a : Addr) (w : World) : (ReflectliteValue.methodAny (ReflectliteValue.valueError "reflectlite.Value.Type" 0) (fun t _ _ _ => ReflectliteType.toType t) #[.agg #[.pointer (some ⟨4, 199, none⟩), .pointer (some a), .int .u64 150]]).run Tryz.prog w
    = .ok (.iface 342 (.agg #[.pointer (some ⟨4, 199, none⟩)])) w := by kernel_rfl
theorem tf_kind155 (w : World) : ((ReflectliteType.abiMethod fun t => (fun a : Nat => Value.int IntKind.u8 (a : Int)) <$> Rtype.kind t) #[.pointer (some ⟨4, 199, none⟩)]).run Tryz.prog w = .ok (.int .u8 22) w := by kernel_rfl
theorem tf_kind153 (w : World) : ((ReflectliteType.abiMethod fun t => (fun a : Nat => Value.int IntKind.u8 (a : Int)) <$> Rtype.kind t) #[.pointer (some ⟨4, 195, none⟩)]).run Tryz.prog w = .ok (.int .u8 22) w := by kernel_rfl
theorem tf_parts155 (a : Addr) (w : World) : (ReflectliteValue.parts (.agg #[.pointer (some ⟨4, 199, none⟩), .pointer (some a), .int .u64 150])).run Tryz.prog w = .ok (some (199, a, 150)) w := by kernel_rfl
theorem tf_isNil155 (a p : Addr) (W : World) (ha : W.cell? a = some (.pointer (some p))) :
    (ReflectliteValue.method (ReflectliteValue.valueError "reflectlite.Value.IsNil" 0) ReflectliteValue.isNil #[.agg #[.pointer (some ⟨4, 199, none⟩), .pointer (some a), .int .u64 150]]).run Tryz.prog W = .ok (.bool false) W := by
  rw [tz_rlm]
  simp only [Sem.run_bind, tf_parts155, Result.andThen]
  simp [ReflectliteValue.isNil, loadVar, isAgg, underlying, Tryz.underlying199, ha, Result.andThen]
theorem tf_elem155 (w : World) : (ReflectliteType.method ReflectliteType.elem #[.agg #[.pointer (some ⟨4, 199, none⟩)]]).run Tryz.prog w = .ok (.iface 342 (.agg #[.pointer (some ⟨4, 195, none⟩)])) w := by kernel_rfl
theorem tf_implements153 (w : World) : (ReflectliteType.relation "Implements" ReflectliteType.implements_ #[.agg #[.pointer (some ⟨4, 195, none⟩)], .iface 342 (.agg #[.pointer (some ⟨4, 102, none⟩)])]).run Tryz.prog w = .ok (.bool true) w := by kernel_rfl
theorem tf_typeOf153 (v : Value) (w : World) : (ReflectliteType.typeOf #[.iface 195 v]).run Tryz.prog w = .ok (.iface 342 (.agg #[.pointer (some ⟨4, 195, none⟩)])) w := by kernel_rfl
theorem tf_assignable153 (w : World) : (ReflectliteType.relation "AssignableTo" ReflectliteType.assignableTo #[.agg #[.pointer (some ⟨4, 195, none⟩)], .iface 342 (.agg #[.pointer (some ⟨4, 195, none⟩)])]).run Tryz.prog w = .ok (.bool true) w := by kernel_rfl
theorem tf_valueOf153 (e : Addr) (w : World) : (ReflectliteValue.unpack (.iface 195 (.pointer (some e)))).run Tryz.prog w
    = .ok (.agg #[.pointer (some ⟨4, 195, none⟩), .pointer (some ⟨w.heap.size, 0, none⟩), .int .u64 150]) (w.alloc (.cells #[.pointer (some e)] 195)) := by kernel_rfl
theorem tf_elemOf155 (w : World) : (Rtype.elem? 199).run Tryz.prog w = .ok (some 195) w := by kernel_rfl
theorem tf_mk153 (p : Addr) (w : World) : (ReflectliteValue.mk 195 p ReflectliteValue.flagAddr).run Tryz.prog w = .ok (.agg #[.pointer (some ⟨4, 195, none⟩), .pointer (some p), .int .u64 406]) w := by kernel_rfl
theorem tf_elemV155 (a p : Addr) (W : World) (ha : W.cell? a = some (.pointer (some p))) :
    (ReflectliteValue.method (ReflectliteValue.valueError "reflectlite.Value.Elem" 0) ReflectliteValue.elem #[.agg #[.pointer (some ⟨4, 199, none⟩), .pointer (some a), .int .u64 150]]).run Tryz.prog W
      = .ok (.agg #[.pointer (some ⟨4, 195, none⟩), .pointer (some p), .int .u64 406]) W := by
  rw [tz_rlm]
  simp only [Sem.run_bind, tf_parts155, Result.andThen]
  simp [ReflectliteValue.elem, loadVar, isAgg, underlying, Tryz.underlying199, ha, Result.andThen, tf_elemOf155, tf_mk153]
theorem tf_parts153a (a : Addr) (w : World) : (ReflectliteValue.parts (.agg #[.pointer (some ⟨4, 195, none⟩), .pointer (some a), .int .u64 406])).run Tryz.prog w = .ok (some (195, a, 406)) w := by kernel_rfl
theorem tf_parts153 (a : Addr) (w : World) : (ReflectliteValue.parts (.agg #[.pointer (some ⟨4, 195, none⟩), .pointer (some a), .int .u64 150])).run Tryz.prog w = .ok (some (195, a, 150)) w := by kernel_rfl
theorem tf_direct153 (w : World) : (Rtype.directlyAssignable 195 195).run Tryz.prog w = .ok true w := by kernel_rfl
theorem tf_typeOfW (v : Value) (w : World) : (ReflectliteType.typeOf #[.iface 268 v]).run Tryz.prog w = .ok (.iface 342 (.agg #[.pointer (some ⟨4, 268, none⟩)])) w := by kernel_rfl
theorem tf_assignableW (w : World) : (ReflectliteType.relation "AssignableTo" ReflectliteType.assignableTo #[.agg #[.pointer (some ⟨4, 268, none⟩)], .iface 342 (.agg #[.pointer (some ⟨4, 195, none⟩)])]).run Tryz.prog w = .ok (.bool false) w := by kernel_rfl
theorem tf_set153 (ta b : Addr) (e : Addr) (old : Value) (W : World) (hb : W.cell? b = some (.pointer (some e))) (ht : W.cell? ta = some old) (hf : W.frozen? ta = false) :
    (ReflectliteValue.set #[.agg #[.pointer (some ⟨4, 195, none⟩), .pointer (some ta), .int .u64 406], .agg #[.pointer (some ⟨4, 195, none⟩), .pointer (some b), .int .u64 150]]).run Tryz.prog W
      = .ok (.tuple #[]) (W.setCell ta (.pointer (some e))) := by
  rw [tz_rls]
  simp only [Sem.run_bind, tf_parts153a, tf_parts153, Result.andThen]
  simp [ReflectliteValue.flagAddr, loadVar, isAgg, underlying, Tryz.underlying195, hb, Result.andThen, tf_direct153, storeVar, Value.cells, storeCells, Addr.add, loadCells, loadCellsFrom]
  rw [run_store Tryz.prog W ta _ _ (by rfl)]
  simp [ht, hf]
end Go.Proofs.YtonglhkiobibgaaGreatDoor
namespace Go.Proofs.YtonglhkiobibgaaGreatDoor
open Go.RowKit Go.Extern.Stop Go.Stop Go.Extern
set_option maxRecDepth 100000
theorem tf_noAs (v : Value) (xT : TypeId) (w : World) : (Instr.typeAssert (.iface 268 v) xT 347 true).run Tryz.prog w = .ok (.tuple #[.nilIface, .bool false]) w := run_typeAssert_lacksB Tryz.underlying347 (by kernel_rfl) (by kernel_rfl) v xT w
theorem tf_hasUn (v : Value) (xT : TypeId) (w : World) : (Instr.typeAssert (.iface 268 v) xT 350 true).run Tryz.prog w = .ok (.tuple #[.iface 268 v, .bool true]) w := run_typeAssert_hasB Tryz.underlying350 (by kernel_rfl) v xT w
theorem tf_methodUn (v : Value) (w : World) : (Go.method 559 268 v "Unwrap").run Tryz.prog w = .ok (329, v) w := by kernel_rfl
set_option maxHeartbeats 4000000 in
theorem tf_asw (op : ByteArray) (e : Addr) (t : Addr) (old : Value) (w : World) (hg : w.cell? ⟨0, 0, none⟩ = some (.iface 342 (.agg #[.pointer (some ⟨4, 102, none⟩)]))) (ht0 : w.cell? t = some old) (hf0 : w.frozen? t = false) :
    Calls Tryz.prog 123 #[.iface 268 (.agg #[.string op, .iface 195 (.pointer (some e))]), .iface 199 (.pointer (some t))] w fun ev w' => ev = .returned (.bool true) ∧ w' = (((((w.alloc (.cells #[.pointer (some t)] 199)).alloc (.cells #[.pointer (some ⟨4, 199, none⟩), .pointer (some ⟨w.heap.size, 0, none⟩), .int .u64 150] 281)).alloc (.cells #[.pointer (some ⟨4, 199, none⟩), .pointer (some ⟨w.heap.size, 0, none⟩), .int .u64 150] 281)).alloc (.cells #[.string op, .iface 195 (.pointer (some e))] 268)).alloc (.cells #[.pointer (some e)] 195)).setCell t (.pointer (some e)) := by
  have h6 := @run_callFunc_extern Tryz.prog 181 _ (fun args => ReflectliteValue.unpack (args.getD 0 (.tuple #[]))) Tryz.func181 (by kernel_rfl) (by kernel_rfl) (by kernel_rfl) (by kernel_rfl)
  have h7 := @run_callFunc_extern Tryz.prog 182 _ (ReflectliteValue.methodAny (ReflectliteValue.valueError "reflectlite.Value.Type" 0) (fun t _ _ _ => ReflectliteType.toType t)) Tryz.func182 (by kernel_rfl) (by kernel_rfl) (by kernel_rfl) (by kernel_rfl)
  have h8 := @run_callFunc_extern Tryz.prog 183 _ (ReflectliteValue.method (ReflectliteValue.valueError "reflectlite.Value.IsNil" 0) ReflectliteValue.isNil) Tryz.func183 (by kernel_rfl) (by kernel_rfl) (by kernel_rfl) (by kernel_rfl)
  have h27 := @run_callFunc_extern Tryz.prog 324 _ (ReflectliteType.abiMethod fun t => do pure (.int .u8 (← Rtype.kind t))) Tryz.func324 (by kernel_rfl) (by kernel_rfl) (by kernel_rfl) (by kernel_rfl)
  have h37 := @run_callFunc_extern Tryz.prog 337 _ (ReflectliteType.method ReflectliteType.elem) Tryz.func337 (by kernel_rfl) (by kernel_rfl) (by kernel_rfl) (by kernel_rfl)
  have h38 := @run_callFunc_extern Tryz.prog 338 _ (ReflectliteType.relation "Implements" ReflectliteType.implements_) Tryz.func338 (by kernel_rfl) (by kernel_rfl) (by kernel_rfl) (by kernel_rfl)
  have h10 := @run_callFunc_extern Tryz.prog 227 _ ReflectliteType.typeOf Tryz.func227 (by kernel_rfl) (by kernel_rfl) (by kernel_rfl) (by kernel_rfl)
  have h35 := @run_callFunc_extern Tryz.prog 335 _ (ReflectliteType.relation "AssignableTo" ReflectliteType.assignableTo) Tryz.func335 (by kernel_rfl) (by kernel_rfl) (by kernel_rfl) (by kernel_rfl)
  have h11 := @run_callFunc_extern Tryz.prog 228 _ (ReflectliteValue.method (ReflectliteValue.valueError "reflectlite.Value.Elem" 0) ReflectliteValue.elem) Tryz.func228 (by kernel_rfl) (by kernel_rfl) (by kernel_rfl) (by kernel_rfl)
  have h12 := @run_callFunc_extern Tryz.prog 229 _ ReflectliteValue.set Tryz.func229 (by kernel_rfl) (by kernel_rfl) (by kernel_rfl) (by kernel_rfl)
  have tO := tf_typeOf153
  have mA := tz_methodAssignableTo
  have tW := tf_typeOfW
  have aW := tf_assignableW
  have nA := tf_noAs
  have hU := tf_hasUn
  have mU := tf_methodUn
  have a25 := tf_assignable153
  have v25 := tf_valueOf153
  have f6 := tf_valueOf155
  have f7 := tf_type155
  have mK := tz_methodKind
  have mE := tz_methodElem
  have mI := tz_methodImplements
  have k27 := tf_kind155
  have k25 := tf_kind153
  have e27 := tf_elem155
  have i25 := tf_implements153
  have n8 := tf_isNil155 ⟨w.heap.size, 0, none⟩ t ((w.alloc (.cells #[.pointer (some t)] 199)).alloc (.cells #[.pointer (some ⟨4, 199, none⟩), .pointer (some ⟨w.heap.size, 0, none⟩), .int .u64 150] 281)) (by simp)
  have hlt : 0 < w.heap.size := by
    rcases Nat.eq_zero_or_pos w.heap.size with h0 | h
    · simp [World.cell?, h0] at hg
    · exact h
  have hg2 : ((w.alloc (.cells #[.pointer (some t)] 199)).alloc (.cells #[.pointer (some ⟨4, 199, none⟩), .pointer (some ⟨w.heap.size, 0, none⟩), .int .u64 150] 281)).cell? ⟨0, 0, none⟩ = some (.iface 342 (.agg #[.pointer (some ⟨4, 102, none⟩)])) := by
    rw [World.cell?_alloc_lt _ _ ⟨0, 0, none⟩ (by simp), World.cell?_alloc_lt _ _ ⟨0, 0, none⟩ hlt]; exact hg
  have htl : t.block < w.heap.size := by
    rcases Nat.lt_or_ge t.block w.heap.size with h | h
    · exact h
    · simp [World.cell?, Array.getElem?_eq_none h] at ht0
  have el := tf_elemV155 ⟨w.heap.size, 0, none⟩ t ((((w.alloc (.cells #[.pointer (some t)] 199)).alloc (.cells #[.pointer (some ⟨4, 199, none⟩), .pointer (some ⟨w.heap.size, 0, none⟩), .int .u64 150] 281)).alloc (.cells #[.pointer (some ⟨4, 199, none⟩), .pointer (some ⟨w.heap.size, 0, none⟩), .int .u64 150] 281)).alloc (.cells #[.string op, .iface 195 (.pointer (some e))] 268)) (by rw [World.cell?_alloc_lt _ _ ⟨w.heap.size, 0, none⟩ (by simp; omega), World.cell?_alloc_lt _ _ ⟨w.heap.size, 0, none⟩ (by simp; omega)]; simp)
  have st := tf_set153 t ⟨w.heap.size + 1 + 1 + 1 + 1, 0, none⟩ e old (((((w.alloc (.cells #[.pointer (some t)] 199)).alloc (.cells #[.pointer (some ⟨4, 199, none⟩), .pointer (some ⟨w.heap.size, 0, none⟩), .int .u64 150] 281)).alloc (.cells #[.pointer (some ⟨4, 199, none⟩), .pointer (some ⟨w.heap.size, 0, none⟩), .int .u64 150] 281)).alloc (.cells #[.string op, .iface 195 (.pointer (some e))] 268)).alloc (.cells #[.pointer (some e)] 195))
    (by rw [World.cell?_alloc_at _ _ _ _ (by simp)]; rfl)
    (by rw [World.cell?_alloc_lt _ _ t (by simp; omega), World.cell?_alloc_lt _ _ t (by simp; omega), World.cell?_alloc_lt _ _ t (by simp; omega), World.cell?_alloc_lt _ _ t (by simp; omega), World.cell?_alloc_lt _ _ t htl]; exact ht0)
    (by rw [World.frozen?_alloc_old _ _ t (by simp; omega), World.frozen?_alloc_old _ _ t (by simp; omega), World.frozen?_alloc_old _ _ t (by simp; omega), World.frozen?_alloc_old _ _ t (by simp; omega), World.frozen?_alloc_old _ _ t (Nat.ne_of_lt htl)]; exact hf0)
  go_enter Tryz.func123, Tryz.ntmps123
  go_wp2
  refine wp_loop_rounds 2 ?_
  rw [rounds_succ]
  go_wp2
  rw [rounds_succ]
  go_wp2
  go_ret
  exact ⟨rfl, rfl⟩
end Go.Proofs.YtonglhkiobibgaaGreatDoor
namespace Go.Proofs.YtonglhkiobibgaaGreatDoor
open Go.RowKit
set_option maxRecDepth 100000
/-- what lay lies as it lay -/
structure Ext (w W : World) : Prop where
  size : w.heap.size ≤ W.heap.size
  block : ∀ b, b < w.heap.size → W.heap[b]? = w.heap[b]?
  out : W.output = w.output
  os : W.os = w.os
  tape : W.tape = w.tape
theorem Ext.refl (w : World) : Ext w w := ⟨Nat.le_refl _, fun _ _ => rfl, rfl, rfl, rfl⟩
theorem Ext.alloc {w W : World} (h : Ext w W) (o : Obj) : Ext w (W.alloc o) :=
  ⟨by rw [World.size_alloc]; exact Nat.le_succ_of_le h.size, fun b hb => (Below.heap_alloc _ _ _ (Nat.lt_of_lt_of_le hb h.size)).trans (h.block b hb), h.out, h.os, h.tape⟩
theorem Ext.set {w W : World} (h : Ext w W) {b : Nat} (hb : w.heap.size ≤ b) (v : Value) : Ext w (W.setCell ⟨b, 0, none⟩ v) :=
  ⟨by show _ ≤ (W.heap.modify b _).size; rw [Array.size_modify]; exact h.size, fun k hk => (Below.heap_setCell W ⟨b, 0, none⟩ v k (by show k ≠ b; omega)).trans (h.block k hk), h.out, h.os, h.tape⟩
theorem Ext.cell {w W : World} (h : Ext w W) {a : Addr} {v : Value} (ha : w.cell? a = some v) : W.cell? a = some v := by
  have hb : a.block < w.heap.size := by
    rcases Nat.lt_or_ge a.block w.heap.size with h | h
    · exact h
    · simp [World.cell?, Array.getElem?_eq_none h] at ha
  exact (World.cell?_of_block (h.block a.block hb)).trans ha
/-- what errors.As leaves: the target holds the error -/
theorem after_as {w X : World} {v old : Value} (h : Ext (w.alloc (.cells #[old] 195)) X) : Ext w (X.setCell ⟨w.heap.size, 0, none⟩ v) ∧ (X.setCell ⟨w.heap.size, 0, none⟩ v).cell? ⟨w.heap.size, 0, none⟩ = some v := by
  have h0 : Ext w X := ⟨by have := h.size; rw [World.size_alloc] at this; omega, fun b hb => (h.block b (by rw [World.size_alloc]; omega)).trans (Below.heap_alloc _ _ _ hb), h.out, h.os, h.tape⟩
  refine ⟨h0.set (Nat.le_refl _) v, World.cell?_setCell_same' _ _ _ (by rw [h.cell (show (w.alloc (.cells #[old] 195)).cell? ⟨w.heap.size, 0, none⟩ = some old by simp)]; rfl)⟩
set_option maxHeartbeats 4000000 in
theorem fcodeW_walk (op : ByteArray) (e : Addr) (cd : Int) (w : World) (hg : w.cell? ⟨0, 0, none⟩ = some (.iface 342 (.agg #[.pointer (some ⟨4, 102, none⟩)]))) (he : w.cell? e = some (.int .i64 cd)) :
    Calls Tryz.prog 79 #[.iface 268 (.agg #[.string op, .iface 195 (.pointer (some e))])] w fun ev w' => ev = .returned (.int .i64 cd) ∧ Ext w w' := by
  have hlt : 0 < w.heap.size := by
    rcases Nat.eq_zero_or_pos w.heap.size with h0 | h
    · simp [World.cell?, h0] at hg
    · exact h
  have hgA : (w.alloc (.cells #[.pointer none] 195)).cell? ⟨0, 0, none⟩ = some (.iface 342 (.agg #[.pointer (some ⟨4, 102, none⟩)])) := by
    rw [World.cell?_alloc_lt _ _ ⟨0, 0, none⟩ hlt]; exact hg
  have htA : (w.alloc (.cells #[.pointer none] 195)).cell? ⟨w.heap.size, 0, none⟩ = some (.pointer none) := by simp
  have hfA : (w.alloc (.cells #[.pointer none] 195)).frozen? ⟨w.heap.size, 0, none⟩ = false := by simp
  have hx : ∀ w', w' = _ → _ := fun w' (hw : w' = (((((((w.alloc (.cells #[.pointer none] 195)).alloc (.cells #[.pointer (some ⟨w.heap.size, 0, none⟩)] 199)).alloc (.cells #[.pointer (some ⟨4, 199, none⟩), .pointer (some ⟨(w.alloc (.cells #[.pointer none] 195)).heap.size, 0, none⟩), .int .u64 150] 281)).alloc (.cells #[.pointer (some ⟨4, 199, none⟩), .pointer (some ⟨(w.alloc (.cells #[.pointer none] 195)).heap.size, 0, none⟩), .int .u64 150] 281)).alloc (.cells #[.string op, .iface 195 (.pointer (some e))] 268)).alloc (.cells #[.pointer (some e)] 195)).setCell ⟨w.heap.size, 0, none⟩ (.pointer (some e)))) =>
    hw ▸ after_as (v := .pointer (some e)) ((((((Ext.refl _).alloc _).alloc _).alloc _).alloc _).alloc _)
  go_enter Tryz.func79, Tryz.ntmps79
  go_wp2_with (first | (go_at_call 123; refine (tf_asw op e _ (.pointer none) _ hgA htA hfA).mono ?_; rintro ev w' ⟨rfl, hw⟩; obtain ⟨k1, k2⟩ := hx w' hw; have k3 := k1.cell he; clear hw))
  go_ret
  exact ⟨rfl, k1⟩
theorem Ext.then {c : Cx} {w' : World} (h : Ext c.w w') (hr : HR c) (nb : Nat) : Then c nb [] (c.at w') := Then.onlyW hr nb h.size h.block h.out h.os h.tape
abbrev aFlt (f : Bool) (cd : Int) (at_ : ByteArray) : AV := .ifc 195 (.fp f [.v (.int .i64 cd), .v (.string at_)] 0)
abbrev aWrp (op : ByteArray) (f : Bool) (cd : Int) (at_ : ByteArray) : AV := .ifc 268 (.agg [.v (.string op), aFlt f cd at_])
theorem fcodeW_spec (op : ByteArray) (f : Bool) (cd : Int) (a : ByteArray) (nb : Nat) : ASound Tryz.prog 79 [aWrp op f cd a] nb (.ret (.v (.int .i64 cd)) []) := by
  refine ⟨by kernel_rfl, fun c us r R W hrun hr hfr hv => ?_⟩
  simp [AM.run] at hrun
  obtain ⟨rfl, _, rfl⟩ := hrun
  obtain ⟨u, us', rfl, ⟨v, rfl, vs, rfl, x, vs', rfl, _, hop, y, vs2, rfl, _, ⟨z, rfl, hx⟩, hn2⟩, hn⟩ := hv
  rw [VRl] at hn2
  subst hn2
  rw [VRt] at hn
  subst hn
  rw [VR] at hx
  obtain rfl : x = .string op := hop
  obtain ⟨b, o, rfl, hlt, ho, hm⟩ := hx
  simp only [VRm, Nat.add_zero] at hm
  obtain ⟨⟨v1, hc1, _, hv1⟩, _⟩ := hm
  obtain rfl : v1 = .int .i64 cd := hv1
  refine (fcodeW_walk op _ cd c.w (hr.gl 0 _ rfl).1 hc1).mono ?_
  rintro ev w' ⟨rfl, hw⟩
  exact ⟨_, c.at w', rfl, rfl, rfl, hw.then hr nb⟩
end Go.Proofs.YtonglhkiobibgaaGreatDoor
namespace Go.Proofs.YtonglhkiobibgaaGreatDoor
open Go.RowKit
set_option maxRecDepth 100000
theorem refuse_spec (cd : Int) (a : ByteArray) (nb : Nat) (h : cd ≠ 0) : ASound Tryz.prog 77 [.v (.int .i64 cd), .v (.string a)] nb (.ret (aFlt true cd a) []) := by
  refine ok_77.sound (by simp) ⟨trivial, trivial, trivial⟩ ?_
  have h' : (cd = 0) = False := eq_false h
  simp only [ac_77, h', decide_false, TT, ↓reduceIte, Nat.reduceEqDiff, Nat.reduceAdd, Nat.reduceMul, reduceCtorEq, Nat.reduceLeDiff]
  exact Ends.weak (Weak.ifcData (y := true) (e := 197) (off := 0) (cells := [.v (.int .i64 cd), .v (.string a)]) 4 195 600000 (by simp [ET]) (by simp [ET]) ⟨trivial, trivial, trivial⟩) (Ends.data (.inr rfl) (by simp [ET]) ⟨trivial, trivial, trivial⟩)
theorem wrap_spec (op : ByteArray) (f : Bool) (cd : Int) (a : ByteArray) (nb : Nat) : ASound Tryz.prog 114 [.v (.string op), aFlt f cd a] nb (.ret (aWrp op f cd a) []) := by
  refine ok_114.sound (by simp) ⟨trivial, ⟨trivial, trivial, trivial⟩, trivial⟩ ?_
  simp only [ac_114, aFlt, TT, ↓reduceIte, Nat.reduceEqDiff, Nat.reduceAdd, Nat.reduceMul, reduceCtorEq, Nat.reduceLeDiff]
  exact Ends.data (.inr rfl) (by simp [ET]) ⟨trivial, ⟨trivial, trivial, trivial⟩, trivial⟩
/-- where names lead: a number, or what is amiss at which name -/
def walkF (s : FSt) : Int → List ByteArray → Except (Int × ByteArray) Int
  | t, [] => .ok t
  | t, x :: r => if (nodA s t).dir = true then (if (findE (nodA s t).entries x).2.1 = true then walkF s (findE (nodA s t).entries x).1 r else .error (101, x)) else .error (103, x)
def aWalk : Except (Int × ByteArray) Int → AV
  | .ok t => .tup [.v (.int .i64 t), .v .nilIface]
  | .error (cd, x) => .tup [.v (.int .i64 0), aFlt true cd x]
theorem findE_has {s : FSt} (hok : okE s) {t : Int} (ht : hasN s.nodes t) {x : ByteArray} (h : (findE (nodA s t).entries x).2.1 = true) : hasN s.nodes (findE (nodA s t).entries x).1 := by
  obtain ⟨n, hx, hmem, _⟩ := hasN_get ht
  have hA : nodA s t = n := by rw [nodA, hx]
  rw [hA] at h ⊢
  unfold findE at h ⊢
  split at h
  · split at h
    · rename_i h1 h2
      rw [if_pos h1, if_pos h2]
      obtain ⟨e, he⟩ : ∃ e, n.entries[plcE n.entries x]? = some e := ⟨_, List.getElem?_eq_getElem h2.1⟩
      have : inoE n.entries (plcE n.entries x) = e.ino := by rw [inoE, he]
      show hasN s.nodes (inoE n.entries (plcE n.entries x))
      rw [this]
      exact (hok n hmem).2 e (List.mem_of_getElem? he)
    · simp at h
  · simp at h
theorem walkF_drop {s : FSt} {t : Int} {l : List ByteArray} {i : Nat} {x : ByteArray} (h : l[i]? = some x) : walkF s t (l.drop i) = if (nodA s t).dir = true then (if (findE (nodA s t).entries x).2.1 = true then walkF s (findE (nodA s t).entries x).1 (l.drop (i + 1)) else .error (101, x)) else .error (103, x) := by
  have hi := (List.getElem?_eq_some_iff.1 h)
  rw [List.drop_eq_getElem_cons hi.1, hi.2]; rfl
abbrev L_wk (f fr fl : Bool) (s : FSt) (l : List ByteArray) (q : Nat × Int) : ASt := ⟨envOf [(0, pFs f fr s), (6, .v (.int .i64 q.2)), (13, fS fl l), (14, .v (.int .i64 l.length)), (15, .v (.int .i64 q.1))], heapOf [], 1⟩
set_option maxHeartbeats 2000000 in
theorem walk_spec (f fr fl : Bool) (s : FSt) (l : List ByteArray) (nb : Nat) (hl : s.nodes.length ≤ 140737488355328) (hok : okE s) (h1 : hasN s.nodes 1) (hll : l.length ≤ 140737488355328) :
    ASound Tryz.prog 115 [pFs f fr s, fS fl l] nb (.ret (aWalk (walkF s 1 l)) []) := by
  refine ok_115.sound (by simp) ⟨al_pFs s, al_fS l, trivial⟩ ?_
  simp only [ac_115, pFs, fNds, fS, TT, ↓reduceIte, Nat.reduceEqDiff, Nat.reduceAdd, Nat.reduceMul, reduceCtorEq, Nat.reduceLeDiff]
  refine AWc.family (L_wk f fr fl s l) (fun q => q.1 ≤ l.length ∧ hasN s.nodes q.2 ∧ walkF s q.2 (l.drop q.1) = walkF s 1 l) (fun q => l.length - q.1) (0, 1) ⟨Nat.zero_le _, h1, rfl⟩ ?_ ?_
  · refine Weak.calc [] (by decide) ?_ ?_ <;> simp [WT, pFs, fNds, al_Nds, ren_Nds, fS, al_S, ren_S]
  · rintro ⟨i, t⟩ ⟨hi, ht, he⟩
    simp only at hi ht he
    by_cases hlt : i < l.length
    · obtain ⟨x, hx, e1, e0⟩ := lt_at hlt
      have hn := fun nb => node_spec f fr s t nb hl ht.1
      obtain ⟨n, hxn, hmem, _⟩ := hasN_get ht
      have hA : nodA s t = n := by rw [nodA, hxn]
      obtain ⟨a0, a1, a2, a3, a4, a5⟩ := get_Nds (fr := fr) hxn
      have hf := fun nb => dfind_spec fr n.entries x nb (hok n hmem).1
      rw [walkF_drop hx] at he
      have hfh := fun h => findE_has hok ht (x := x) h
      rw [hA] at he hfh
      simp only [pFs, fNds] at hn
      simp only [fEnts] at hf
      simp only [L_wk, pFs, fNds, fS, e1, e0, get_S hx, Int.toNat_natCast, TT, ↓reduceIte, Nat.reduceEqDiff, Nat.reduceAdd, Nat.reduceMul, reduceCtorEq, Nat.reduceLeDiff]
      refine ⟨_, hn _, ?_⟩
      cases hd : n.dir
      · rw [hd, if_neg (by decide)] at he
        simp only [a1, hd, Bool.not_false, TT, ↓reduceIte, Nat.reduceEqDiff, Nat.reduceAdd, Nat.reduceMul, reduceCtorEq, Nat.reduceLeDiff]
        refine ⟨_, refuse_spec 103 x _ (by decide), ?_⟩
        simp only [TT, ↓reduceIte, Nat.reduceEqDiff, Nat.reduceAdd, Nat.reduceMul, reduceCtorEq, Nat.reduceLeDiff]
        rw [← he]
        exact Ends.data (.inr rfl) (by simp [ET, aWalk]) ⟨trivial, ⟨trivial, trivial, trivial⟩, trivial⟩
      · rw [hd, if_pos rfl] at he
        simp only [a1, a3, hd, Bool.not_true, TT, ↓reduceIte, Nat.reduceEqDiff, Nat.reduceAdd, Nat.reduceMul, reduceCtorEq, Nat.reduceLeDiff]
        refine ⟨_, hf _, ?_⟩
        cases hb : (findE n.entries x).2.1
        · rw [hb, if_neg (by decide)] at he
          simp only [Bool.not_false, TT, ↓reduceIte, Nat.reduceEqDiff, Nat.reduceAdd, Nat.reduceMul, reduceCtorEq, Nat.reduceLeDiff]
          refine ⟨_, refuse_spec 101 x _ (by decide), ?_⟩
          simp only [TT, ↓reduceIte, Nat.reduceEqDiff, Nat.reduceAdd, Nat.reduceMul, reduceCtorEq, Nat.reduceLeDiff]
          rw [← he]
          exact Ends.data (.inr rfl) (by simp [ET, aWalk]) ⟨trivial, ⟨trivial, trivial, trivial⟩, trivial⟩
        · rw [hb, if_pos rfl] at he
          simp only [Bool.not_true, TT, ↓reduceIte, Nat.reduceEqDiff, Nat.reduceAdd, Nat.reduceMul, reduceCtorEq, Nat.reduceLeDiff]
          refine famC_next (i + 1, (findE n.entries x).1) (by show l.length - (i + 1) < l.length - i; omega) ⟨by show i + 1 ≤ l.length; omega, hfh hb, he⟩ ?_
          refine Weak.calc [] (by decide) ?_ ?_ <;> simp [WT, pFs, fNds, al_Nds, ren_Nds, fS, al_S, ren_S, wrap64 (x := (i : Int) + 1) (by omega)]
    · obtain rfl : i = l.length := by omega
      have e1 : ¬ ((l.length : Int) < (l.length : Int)) := by omega
      rw [List.drop_length] at he
      simp only [L_wk, pFs, fNds, fS, e1, TT, ↓reduceIte, Nat.reduceEqDiff, Nat.reduceAdd, Nat.reduceMul, reduceCtorEq, Nat.reduceLeDiff]
      rw [← he]
      exact Ends.data (.inr rfl) (by simp [ET, walkF, aWalk]) ⟨trivial, trivial, trivial⟩
end Go.Proofs.YtonglhkiobibgaaGreatDoor
namespace Go.Proofs.YtonglhkiobibgaaGreatDoor
set_option maxRecDepth 100000
def ac_FD1 : AC :=
(.seq (.seq (.reg false [⟨some 11, .load true 2 (.tmp 2), none, [2], []⟩,
    ⟨some 12, .call 32 [(.tmp 11)], none, [11], []⟩,
    ⟨some 6, .mv (.tmp 12), none, [12], []⟩] [1, 2, 6])
(.seq (.reg false [⟨some 13, .mv (.tmp 6), none, [6], []⟩,
    ⟨some 14, .bin .neq (.tmp 13) (.const (.int .i64 (0))), none, [13], []⟩] [1, 2, 6, 14])
(.cond (.tmp 14)
(.seq (.reg false [⟨some 15, .mv (.tmp 6), none, [6], []⟩,
    ⟨some 16, .mv (.tmp 1), none, [1], []⟩,
    ⟨some 17, .call 77 [(.tmp 15), (.tmp 16)], none, [15, 16], []⟩,
    ⟨some 4, .mv (.const (.pointer none)), none, [], []⟩,
    ⟨some 5, .mv (.tmp 17), none, [17], []⟩] [4, 5])
.ret)
.skip)))
(.seq (.reg false [⟨some 19, .mv (.tmp 1), none, [1], []⟩,
    ⟨some 20, .call 110 [(.tmp 19)], none, [19], []⟩,
    ⟨some 18, .mv (.tmp 20), none, [20], []⟩,
    ⟨some 21, .ext 0 (.tmp 18), none, [18], []⟩,
    ⟨some 22, .ext 1 (.tmp 18), none, [18], []⟩,
    ⟨some 7, .mv (.tmp 21), none, [21], []⟩,
    ⟨some 8, .mv (.tmp 22), none, [22], []⟩] [1, 2, 7, 8])
(.seq (.seq (.reg false [⟨some 23, .mv (.tmp 8), none, [8], []⟩,
    ⟨some 24, .bin .neq (.tmp 23) (.const (.int .i64 (0))), none, [23], []⟩] [1, 2, 7, 8, 24])
(.cond (.tmp 24)
(.seq (.reg false [⟨some 25, .mv (.tmp 8), none, [8], []⟩,
    ⟨some 26, .mv (.tmp 1), none, [1], []⟩,
    ⟨some 27, .call 77 [(.tmp 25), (.tmp 26)], none, [25, 26], []⟩,
    ⟨some 4, .mv (.const (.pointer none)), none, [], []⟩,
    ⟨some 5, .mv (.tmp 27), none, [27], []⟩] [4, 5])
.ret)
.skip))
(.seq (.reg false [⟨some 29, .mv (.tmp 7), none, [7], []⟩,
    ⟨some 30, .call 115 [(.tmp 2), (.tmp 29)], none, [2, 29], []⟩,
    ⟨some 28, .mv (.tmp 30), none, [30], []⟩,
    ⟨some 31, .ext 0 (.tmp 28), none, [28], []⟩,
    ⟨some 32, .ext 1 (.tmp 28), none, [28], []⟩,
    ⟨some 9, .mv (.tmp 31), none, [31], []⟩,
    ⟨some 10, .mv (.tmp 32), none, [32], []⟩] [2, 9, 10])
(.seq (.seq (.reg false [⟨some 33, .mv (.tmp 10), none, [10], []⟩,
    ⟨some 34, .isnil true .nilIface (.tmp 33), none, [33], []⟩] [2, 9, 10, 34])
(.cond (.tmp 34)
(.seq (.reg false [⟨some 35, .mv (.tmp 10), none, [10], []⟩,
    ⟨some 36, .call 114 [(.const (.string (ByteArray.mk #[102, 105, 110, 100]))), (.tmp 35)], none, [35], []⟩,
    ⟨some 4, .mv (.const (.pointer none)), none, [], []⟩,
    ⟨some 5, .mv (.tmp 36), none, [36], []⟩] [4, 5])
.ret)
.skip))
(.seq (.reg false [⟨some 37, .mv (.tmp 9), none, [9], []⟩,
    ⟨some 38, .call 116 [(.tmp 2), (.tmp 37)], none, [2, 37], []⟩,
    ⟨some 4, .mv (.tmp 38), none, [38], []⟩,
    ⟨some 5, .mv (.const .nilIface), none, [], []⟩] [4, 5])
.ret))))))
def ac_FDc : AC :=
(.seq (.reg false [⟨some 2, .box 28 (.tmp 0), none, [0], []⟩,
    ⟨some 4, .mv (.const (.pointer none)), none, [], []⟩,
    ⟨some 5, .mv (.const .nilIface), none, [], []⟩] [1, 2])
(.weak ac_FD1))
theorem ok_FDc : FnOk Tryz.prog 78 39 ac_FDc [.tmp 4, .tmp 5] := ⟨Tryz.f78, Tryz.func78, by kernel_rfl, by kernel_rfl, by kernel_rfl, by kernel_rfl, by kernel_rfl⟩
end Go.Proofs.YtonglhkiobibgaaGreatDoor
namespace Go.Proofs.YtonglhkiobibgaaGreatDoor
open Go.RowKit
set_option maxRecDepth 100000
theorem chk_ok {s : FSt} (h : chkFs s = 0) (hb : ∀ n ∈ s.nodes, n.entries.length ≤ 140737488355328) : okE s ∧ hasN s.nodes 1 := by
  unfold chkFs at h
  split at h
  · cases h
  · rename_i hbad
    split at h
    · rename_i hc
      obtain ⟨hall, _, hinc⟩ := chk1_all hc.1
      refine ⟨fun n hn => ⟨hb n hn, (hall n hn).2⟩, ?_⟩
      have h0 : ¬ s.nodes.length = 0 := fun h9 => hbad (.inr (.inr (.inl h9)))
      have h1 : inoA s.nodes 0 = 1 := Decidable.not_not.1 fun h9 => hbad (.inr (.inr (.inr (.inr h9))))
      obtain ⟨n, hx⟩ : ∃ n, s.nodes[0]? = some n := ⟨_, List.getElem?_eq_getElem (by omega)⟩
      have h2 := hasN_of hinc hx
      rw [inoA_at hx] at h1
      rwa [h1] at h2
    · cases h
theorem walkF_has {s : FSt} (hok : okE s) : ∀ {l : List ByteArray} {t u : Int}, hasN s.nodes t → walkF s t l = .ok u → hasN s.nodes u
  | [], t, u, h, e => by rw [walkF] at e; cases e; exact h
  | x :: r, t, u, h, e => by
    rw [walkF] at e
    split at e
    · split at e
      · rename_i h2
        exact walkF_has hok (findE_has hok h h2) e
      · cases e
    · cases e
def findS : ByteArray := ByteArray.mk #[102, 105, 110, 100]
def aFind (fr : Bool) (s : FSt) : Except (Int × ByteArray) Int → AV
  | .ok t => .tup [.fp fr (eNds fr s.nodes) (plc s.nodes t * 6), .v .nilIface]
  | .error (cd, x) => .tup [.v (.pointer none), aWrp findS true cd x]
set_option maxHeartbeats 1000000 in
theorem find_spec (fr : Bool) (s : FSt) (p : ByteArray) (l : List ByteArray) (nb : Nat) (hl : s.nodes.length ≤ 140737488355328) (hb : ∀ n ∈ s.nodes, n.entries.length ≤ 140737488355328 ∧ n.file.blocks.length ≤ 140737488355328)
    (hS : ∀ nb, ASound Tryz.prog 110 [.v (.string p)] nb (.ret (.tup [fS true l, .v (.int .i64 0)]) [])) (hc : chkFs s = 0) (hll : l.length ≤ 140737488355328) :
    ASound Tryz.prog 78 [aFs fr s, .v (.string p)] nb (.ret (aFind fr s (walkF s 1 l)) []) := by
  refine ok_FDc.sound (by simp) ⟨al_aFs s, trivial, trivial⟩ ?_
  obtain ⟨hok, h1⟩ := chk_ok hc (fun n hn => (hb n hn).1)
  have hk := fun nb => fsCheck_spec fr s nb hl hb
  have hw := fun nb => walk_spec true fr true s l nb hl hok h1 hll
  rw [hc] at hk
  simp only [aFs, fNds] at hk
  simp only [pFs, fNds] at hw
  simp only [ac_FDc, aFs, fNds, TT, ↓reduceIte, Nat.reduceEqDiff, Nat.reduceAdd, Nat.reduceMul, reduceCtorEq, Nat.reduceLeDiff]
  refine ⟨⟨envOf [(1, .v (.string p)), (2, pFs true fr s)], heapOf [], 300000⟩, Weak.freezeC 0 rfl (l := [(1, .v (.string p)), (2, pFs true fr s)]) (h := []) ?_ ?_, ?_⟩
  · simp [WT, pFs, fNds, okF, fzV, fzOne]
  · trivial
  simp only [ac_FD1, pFs, fNds, TT, ↓reduceIte, Nat.reduceEqDiff, Nat.reduceAdd, Nat.reduceMul, reduceCtorEq, Nat.reduceLeDiff]
  refine ⟨_, hk _, ?_⟩
  simp only [decide_true, Bool.not_true, TT, ↓reduceIte, Nat.reduceEqDiff, Nat.reduceAdd, Nat.reduceMul, reduceCtorEq, Nat.reduceLeDiff]
  refine ⟨_, hS _, ?_⟩
  simp only [decide_true, Bool.not_true, TT, ↓reduceIte, Nat.reduceEqDiff, Nat.reduceAdd, Nat.reduceMul, reduceCtorEq, Nat.reduceLeDiff]
  refine ⟨_, hw _, ?_⟩
  cases hr : walkF s 1 l with
  | ok t =>
    have ht := walkF_has hok h1 hr
    have hn := fun nb => node_spec true fr s t nb hl ht.1
    simp only [pFs, fNds] at hn
    simp only [aWalk, TT, ↓reduceIte, Nat.reduceEqDiff, Nat.reduceAdd, Nat.reduceMul, reduceCtorEq, Nat.reduceLeDiff]
    refine ⟨_, hn _, ?_⟩
    simp only [TT, ↓reduceIte, Nat.reduceEqDiff, Nat.reduceAdd, Nat.reduceMul, reduceCtorEq, Nat.reduceLeDiff]
    exact Ends.data (.inr rfl) (by simp [ET, aFind]) ⟨al_Nds _, trivial, trivial⟩
  | error q =>
    obtain ⟨cd, x⟩ := q
    have hwr := fun nb => wrap_spec findS true cd x nb
    simp only [findS, aFlt, aWrp] at hwr
    simp only [aWalk, TT, ↓reduceIte, Nat.reduceEqDiff, Nat.reduceAdd, Nat.reduceMul, reduceCtorEq, Nat.reduceLeDiff]
    refine ⟨_, hwr _, ?_⟩
    simp only [TT, ↓reduceIte, Nat.reduceEqDiff, Nat.reduceAdd, Nat.reduceMul, reduceCtorEq, Nat.reduceLeDiff]
    exact Ends.data (.inr rfl) (by simp [ET, aFind, aWrp, findS]) ⟨trivial, ⟨trivial, ⟨trivial, trivial, trivial⟩, trivial⟩, trivial⟩
theorem read0_spec (fr : Bool) (s : FSt) (p : ByteArray) (off n : Int) (l : List ByteArray) (cd : Int) (x : ByteArray) (nb : Nat) (hl : s.nodes.length ≤ 140737488355328) (hb : ∀ n ∈ s.nodes, n.entries.length ≤ 140737488355328 ∧ n.file.blocks.length ≤ 140737488355328)
    (hS : ∀ nb, ASound Tryz.prog 110 [.v (.string p)] nb (.ret (.tup [fS true l, .v (.int .i64 0)]) [])) (hc : chkFs s = 0) (hll : l.length ≤ 140737488355328) (hw : walkF s 1 l = .error (cd, x)) :
    ASound Tryz.prog 26 [aFs fr s, .v (.string p), .v (.int .i64 off), .v (.int .i64 n)] nb (.ret (.tup [.v (.slice none 0 0), .v (.int .i64 cd)]) []) := by
  refine ok_26.sound (by simp) ⟨al_aFs s, trivial, trivial, trivial, trivial⟩ ?_
  have hf := fun nb => find_spec fr s p l nb hl hb hS hc hll
  have hcd := fun nb => fcodeW_spec findS true cd x nb
  rw [hw] at hf
  simp only [aFs, fNds, aFind, aWrp] at hf
  simp only [aWrp] at hcd
  simp only [ac_26, aFs, fNds, TT, ↓reduceIte, Nat.reduceEqDiff, Nat.reduceAdd, Nat.reduceMul, reduceCtorEq, Nat.reduceLeDiff]
  refine ⟨_, hf _, ?_⟩
  simp only [TT, ↓reduceIte, Nat.reduceEqDiff, Nat.reduceAdd, Nat.reduceMul, reduceCtorEq, Nat.reduceLeDiff]
  refine ⟨_, hcd _, ?_⟩
  simp only [TT, ↓reduceIte, Nat.reduceEqDiff, Nat.reduceAdd, Nat.reduceMul, reduceCtorEq, Nat.reduceLeDiff]
  exact Ends.data (.inr rfl) (by simp [ET]) ⟨trivial, trivial, trivial⟩
end Go.Proofs.YtonglhkiobibgaaGreatDoor
namespace Go.Proofs.YtonglhkiobibgaaGreatDoor
open Go.RowKit Go.Shelf
attribute [local go_sem] Oper.semAt_some
set_option maxRecDepth 100000
theorem hasPrefix_spec (s p : ByteArray) (nb : Nat) : ASound Tryz.prog 248 [.v (.string s), .v (.string p)] nb (.ret (.v (.bool (decide (p.size ≤ s.size ∧ s.extract 0 p.size = p)))) []) := by
  refine ok_248.sound (by simp) ⟨trivial, trivial, trivial⟩ ?_
  by_cases h : p.size ≤ s.size
  · have g1 : ((p.size : Int) ≤ (s.size : Int)) = True := eq_true (by omega)
    have g2 : ((0 : Int) ≤ (p.size : Int)) = True := eq_true (by omega)
    simp only [ac_248, g1, g2, decide_true, and_self, Int.toNat_natCast, strOp, TT, ↓reduceIte, Nat.reduceEqDiff, Nat.reduceAdd, Nat.reduceMul, reduceCtorEq, Nat.reduceLeDiff]
    exact Ends.data (.inr rfl) (by simp [ET, h]) trivial
  · have g1 : ((p.size : Int) ≤ (s.size : Int)) = False := eq_false (by omega)
    simp only [ac_248, g1, decide_false, TT, ↓reduceIte, Nat.reduceEqDiff, Nat.reduceAdd, Nat.reduceMul, reduceCtorEq, Nat.reduceLeDiff]
    exact Ends.data (.inr rfl) (by simp [ET, h]) trivial
theorem cutPrefixL_spec (s p : ByteArray) (nb : Nat) (h : p.size ≤ s.size ∧ s.extract 0 p.size = p) : ASound Tryz.prog 217 [.v (.string s), .v (.string p)] nb (.ret (.tup [.v (.string (s.extract p.size s.size)), .v (.bool true)]) []) := by
  refine ok_217.sound (by simp) ⟨trivial, trivial, trivial⟩ ?_
  have hp := fun nb => hasPrefix_spec s p nb
  rw [decide_eq_true h] at hp
  have g1 : ((p.size : Int) ≤ (s.size : Int)) = True := eq_true (by have := h.1; omega)
  have g2 : ((0 : Int) ≤ (p.size : Int)) = True := eq_true (by omega)
  simp only [ac_217, TT, ↓reduceIte, Nat.reduceEqDiff, Nat.reduceAdd, Nat.reduceMul, reduceCtorEq, Nat.reduceLeDiff]
  refine ⟨_, hp _, ?_⟩
  simp only [g1, g2, and_self, Int.toNat_natCast, TT, ↓reduceIte, Nat.reduceEqDiff, Nat.reduceAdd, Nat.reduceMul, reduceCtorEq, Nat.reduceLeDiff]
  exact Ends.data (.inr rfl) (by simp [ET]) ⟨trivial, trivial, trivial⟩
theorem cutPrefix_spec (s p : ByteArray) (nb : Nat) (h : p.size ≤ s.size ∧ s.extract 0 p.size = p) : ASound Tryz.prog 168 [.v (.string s), .v (.string p)] nb (.ret (.tup [.v (.string (s.extract p.size s.size)), .v (.bool true)]) []) := by
  refine ok_168.sound (by simp) ⟨trivial, trivial, trivial⟩ ?_
  simp only [ac_168, TT, ↓reduceIte, Nat.reduceEqDiff, Nat.reduceAdd, Nat.reduceMul, reduceCtorEq, Nat.reduceLeDiff]
  refine ⟨_, cutPrefixL_spec s p _ h, ?_⟩
  simp only [TT, ↓reduceIte, Nat.reduceEqDiff, Nat.reduceAdd, Nat.reduceMul, reduceCtorEq, Nat.reduceLeDiff]
  exact Ends.data (.inr rfl) (by simp [ET]) ⟨trivial, trivial, trivial⟩
abbrev aSeq (f : Bool) (s p : ByteArray) : AV := .fn 249 [.fp f [.v (.string p)] 0, .fp f [.v (.string s)] 0, .fp f [.v (.int .i64 0)] 0]
theorem splitSeqL_spec (s p : ByteArray) (nb : Nat) : ASound Tryz.prog 218 [.v (.string s), .v (.string p), .v (.int .i64 0)] nb (.ret (aSeq true s p) []) := by
  refine ok_218.sound (by simp) ⟨trivial, trivial, trivial, trivial⟩ ?_
  simp only [ac_218, TT, ↓reduceIte, Nat.reduceEqDiff, Nat.reduceAdd, Nat.reduceMul, reduceCtorEq, Nat.reduceLeDiff]
  refine Ends.weak (Weak.fnData 6 249 [.op 100000 0, .op 0 0, .op 200000 0] [.fp true [.v (.string p)] 0, .fp true [.v (.string s)] 0, .fp true [.v (.int .i64 0)] 0] (by simp [s_envOf]) rfl ?_) (Ends.data (.inr rfl) (by simp [ET]) ⟨⟨trivial, trivial⟩, ⟨trivial, trivial⟩, ⟨trivial, trivial⟩, trivial⟩)
  intro j x' hj
  match j, hj with
  | 0, hj => cases hj; exact ⟨_, rfl, .inr ⟨100000, true, 9, [.v (.string p)], 0, rfl, by simp [WT], ⟨trivial, trivial⟩, rfl⟩⟩
  | 1, hj => cases hj; exact ⟨_, rfl, .inr ⟨0, true, 9, [.v (.string s)], 0, rfl, by simp [WT], ⟨trivial, trivial⟩, rfl⟩⟩
  | 2, hj => cases hj; exact ⟨_, rfl, .inr ⟨200000, true, 3, [.v (.int .i64 0)], 0, rfl, by simp [WT], ⟨trivial, trivial⟩, rfl⟩⟩
  | j + 3, hj => simp at hj
theorem splitSeq_spec (s p : ByteArray) (nb : Nat) : ASound Tryz.prog 169 [.v (.string s), .v (.string p)] nb (.ret (aSeq true s p) []) := by
  refine ok_169.sound (by simp) ⟨trivial, trivial, trivial⟩ ?_
  simp only [ac_169, TT, ↓reduceIte, Nat.reduceEqDiff, Nat.reduceAdd, Nat.reduceMul, reduceCtorEq, Nat.reduceLeDiff]
  refine ⟨_, splitSeqL_spec s p _, ?_⟩
  simp only [TT, ↓reduceIte, Nat.reduceEqDiff, Nat.reduceAdd, Nat.reduceMul, reduceCtorEq, Nat.reduceLeDiff]
  exact Ends.data (.inr rfl) (by simp [ET]) ⟨⟨trivial, trivial⟩, ⟨trivial, trivial⟩, ⟨trivial, trivial⟩, trivial⟩
set_option maxHeartbeats 1000000 in
theorem index_walk (s : ByteArray) (c : UInt8) (hne : [c] ≠ s.toList) (w : World) :
    Calls Tryz.prog 281 #[.string s, .string (ByteArray.mk #[c])] w fun e w' => e = .returned (.int .i64 (Lib.indexByte s.data.toList c)) ∧ w' = w := by
  have hne' : ([c] == s.toList) = false := by simpa using hne
  have hz : (ByteArray.mk #[c]).size = 1 := rfl
  have hg : (ByteArray.mk #[c])[0]? = some c := rfl
  go_enter Tryz.func281, Tryz.ntmps281
  go_wp2_with (go_at_call 298; refine (indexL_walk s c _).mono ?_; rintro e w' ⟨rfl, rfl⟩)
  go_ret
  exact ⟨rfl, rfl⟩
theorem indexS_walk (s : ByteArray) (c : UInt8) (hne : [c] ≠ s.toList) (w : World) :
    Calls Tryz.prog 251 #[.string s, .string (ByteArray.mk #[c])] w fun e w' => e = .returned (.int .i64 (Lib.indexByte s.data.toList c)) ∧ w' = w := by
  go_enter Tryz.func251, Tryz.ntmps251
  go_wp2_with (go_at_call 281; refine (index_walk s c hne _).mono ?_; rintro e w' ⟨rfl, rfl⟩)
  go_ret
  exact ⟨rfl, rfl⟩
set_option maxHeartbeats 4000000 in
/-- the iterator of a string without the octet: it yields the string, once -/
theorem split_in (l : Nat) (p1 p2 p3 : Addr) (s : ByteArray) (c : UInt8) (hne : [c] ≠ s.toList) (hno : Lib.indexByte s.data.toList c = -1)
    (J Jx : List (_root_.Fin 1) → World → Prop) (Kp : World → World → Prop)
    (W : World) (hJ : AbidesFrom W.heap.size J) (hJx : AbidesFrom W.heap.size Jx)
    (hY : ∀ pre (x : _root_.Fin 1) W1, J pre W1 → pre.length < 1 → YieldAt Fence.wide 1 Tryz.prog l #[.string s] W1 fun e W' => (e = .returned (.bool true) ∧ J (pre ++ [x]) W' ∧ Kp W1 W') ∨ (e = .returned (.bool false) ∧ Jx (pre ++ [x]) W'))
    (h1 : W.cell? p1 = some (.string (ByteArray.mk #[c]))) (h2 : W.cell? p2 = some (.string s)) (h3 : W.cell? p3 = some (.int .i64 0)) (hj : J [] W) :
    CallsIn Fence.wide 2 Tryz.prog 249 #[.func (.yield l) #[] #[], .pointer (some p1), .pointer (some p2), .pointer (some p3)] W fun e W' => (∃ v, e = .returned v) ∧
      ((∃ xs, xs = List.finRange 1 ∧ J xs W') ∨ (∃ pre, (∃ k, k < 1 ∧ pre = (List.finRange 1).take (k + 1)) ∧ Jx pre W')) := by
  have HY := Lib.hid hY
  have HJ := Lib.hid hJ
  have Hj := Lib.hid hj
  clear hY hJ hJx hj
  have hz : (ByteArray.mk #[c]).size = 1 := rfl
  refine callsIn_of_wp Tryz.func249 rfl trivial ?_ rfl
  simp only [Tryz.ntmps249, List.size_toArray, List.length_cons, List.length_nil, Nat.reduceAdd, Nat.reduceSub, Array.replicate_succ, Array.replicate_zero, List.push_toArray, List.append_toArray, List.nil_append, List.cons_append]
  have H1 := Lib.hid h1
  have H2 := Lib.hid h2
  have H3 := Lib.hid h3
  gi_wp2
  clear h1 h2 h3
  gi_loopw [7] (fun _ wr => Hid (J [] wr) ∧ Hid (wr.cell? p1 = some (.string (ByteArray.mk #[c]))) ∧ Hid (wr.cell? p2 = some (.string s)) ∧ Hid (wr.cell? p3 = some (.int .i64 0))) (fun _ _ => 0)
  case atStart => exact ⟨Hj, H1, H2, H3⟩
  case round =>
    obtain ⟨HJs, G1, G2, G3⟩ := hrel
    have y1 := G1.out
    have y2 := G2.out
    have y3 := G3.out
    gi_wp2_with fail
    refine ⟨trivial, (callsIn_wide.2 (indexS_walk s c hne _)).mono ?_⟩
    rintro e w5 ⟨rfl, rfl⟩
    rw [hno]
    gi_wp2_with fail
    obtain ⟨fn, tmps, assign, body, hy, hR⟩ := HY.out [] ⟨0, by decide⟩ w5 HJs.out (by simp)
    rw [hy, Oper.uponIn_round]
    refine ⟨fun h => (by cases h), hR.mono ?_⟩
    have hF : List.finRange 1 = [⟨0, by decide⟩] := rfl
    rintro e W3 (⟨rfl, hJ3, _⟩ | ⟨rfl, hJx3⟩)
    · gi_wp2_with fail
      go_end0
      exact ⟨⟨_, rfl⟩, .inl ⟨_, rfl, by rw [hF]; exact hJ3⟩⟩
    · gi_wp2_with fail
      go_end0
      exact ⟨⟨_, rfl⟩, .inr ⟨_, ⟨0, by decide, rfl⟩, by rw [hF]; exact hJx3⟩⟩
theorem split_iter (f : Bool) (s : ByteArray) (c : UInt8) (hne : [c] ≠ s.toList) (hno : Lib.indexByte s.data.toList c = -1) :
    IterA Tryz.prog 249 [.fp f [.v (.string (ByteArray.mk #[c]))] 0, .fp f [.v (.string s)] 0, .fp f [.v (.int .i64 0)] 0] [[.v (.string s)]] := by
  refine ⟨by rfl, fun x lb hr hv => ?_⟩
  simp only [VRt] at hv
  obtain ⟨u1, us, rfl, h1, u2, us2, rfl, h2, u3, us3, rfl, h3, rfl⟩ := hv
  rw [VR] at h1 h2 h3
  obtain ⟨b1, o1, rfl, hlt1, ho1, hm1⟩ := h1
  obtain ⟨b2, o2, rfl, hlt2, ho2, hm2⟩ := h2
  obtain ⟨b3, o3, rfl, hlt3, ho3, hm3⟩ := h3
  simp only [VRm, Nat.add_zero] at hm1 hm2 hm3
  obtain ⟨⟨v1, hc1, _, hv1⟩, _⟩ := hm1
  obtain ⟨⟨v2, hc2, _, hv2⟩, _⟩ := hm2
  obtain ⟨⟨v3, hc3, _, hv3⟩, _⟩ := hm3
  obtain rfl : v1 = .string (ByteArray.mk #[c]) := hv1
  obtain rfl : v2 = .string s := hv2
  obtain rfl : v3 = .int .i64 0 := hv3
  refine ⟨fun _ => [.string s], fun i => ?_, ?_⟩
  · match i with
    | ⟨0, _⟩ => simp only [VRt]; exact ⟨_, _, rfl, rfl, rfl⟩
  · intro l J Jx W hW hJ hJx hY hj
    refine split_in l ⟨b1, o1, none⟩ ⟨b2, o2, none⟩ ⟨b3, o3, none⟩ s c hne hno J Jx (Kc x) W hJ hJx hY ?_ ?_ ?_ hj
    · exact (World.cell?_of_block (hW.block b1 hlt1)).trans hc1
    · exact (World.cell?_of_block (hW.block b2 hlt2)).trans hc2
    · exact (World.cell?_of_block (hW.block b3 hlt3)).trans hc3
end Go.Proofs.YtonglhkiobibgaaGreatDoor
namespace Go.Proofs.YtonglhkiobibgaaGreatDoor
open Go.RowKit
set_option maxRecDepth 100000
theorem NoM.of : ∀ {l : List (Nat × AObj)}, (∀ i y e cells, (i, AObj.row y e cells) ∈ l → e ≠ MAPE) → NoM (heapOf l)
  | [], _ => fun i y e cells h => by simp [heapOf] at h
  | (j, o) :: r, h => fun i y e cells h2 => by
    rw [heapOf] at h2
    split at h2
    · cases h2; exact h j y e cells (by simp)
    · exact NoM.of (l := r) (fun i y e cells hm => h i y e cells (List.mem_cons_of_mem _ hm)) i y e cells h2
theorem named1_spec (r : ByteArray) (y : Bool) (id nb : Nat) (hn : nameE r = 0) (hid : id < nb) :
    ASound Tryz.prog 170 [.os id 0 1 1] nb (rowsM [(id, y, 9, [.v (.string r)])] (.ret (.v (.int .i64 0)) [])) := by
  refine ASound.borrow [] [(id, y, 9, [.v (.string r)])] ?_ (by simp) (by simp) trivial (by simp)
  have e : boL [(id, y, 9, [.v (.string r)])] [.os id 0 1 1] = [fS false [r]] := by simp [boL, bo, cellsAt, od, odL, fS, eS]
  have e2 : namedL [r] = 0 := by simp [namedL, namI, hn]
  have h := named_spec false [r] nb (by simp)
  rw [e2] at h
  rw [e]
  exact h
abbrev L_sq (s r : ByteArray) : ASt := ⟨envOf [(6, .op 0 0), (20, aSeq true r (ByteArray.mk #[47]))], heapOf [(0, .row true 45 [.v (.slice none 0 0)])], 2⟩
set_option maxHeartbeats 2000000 in
theorem split1_spec (s r : ByteArray) (nb : Nat) (hs : s.size ≤ 128) (h0 : 1 ≤ s.size) (h1 : s.extract 0 1 = ByteArray.mk #[47]) (h2 : s.extract 1 s.size = r) (hne : r ≠ ByteArray.mk #[]) (hno : Lib.indexByte r.data.toList 47 = -1) (hn1 : [47] ≠ r.toList) (hn : nameE r = 0) :
    ASound Tryz.prog 110 [.v (.string s)] nb (.ret (.tup [fS true [r], .v (.int .i64 0)]) []) := by
  refine ok_110.sound (by simp) ⟨trivial, trivial⟩ ?_
  have g1 : ((128 : Int) < (s.size : Int)) = False := eq_false (by omega)
  have hc := fun nb => cutPrefix_spec s (ByteArray.mk #[47]) nb ⟨h0, h1⟩
  have hz : (ByteArray.mk #[47]).size = 1 := rfl
  rw [hz, h2] at hc
  have hq := fun nb => splitSeq_spec r (ByteArray.mk #[47]) nb
  simp only [ac_110, g1, decide_false, TT, ↓reduceIte, Nat.reduceEqDiff, Nat.reduceAdd, Nat.reduceMul, reduceCtorEq, Nat.reduceLeDiff]
  refine ⟨_, hc _, ?_⟩
  simp only [Bool.not_true, TT, ↓reduceIte, Nat.reduceEqDiff, Nat.reduceAdd, Nat.reduceMul, reduceCtorEq, Nat.reduceLeDiff]
  refine ⟨_, hq _, ?_⟩
  simp only [TT, ↓reduceIte, Nat.reduceEqDiff, Nat.reduceAdd, Nat.reduceMul, reduceCtorEq, Nat.reduceLeDiff]
  refine AWc.weak (s' := L_sq s r) (Weak.calc [(1400000, 0)] (by decide) ?_ ?_) ?_
  · simp [WT]
  · simp [WT]
  refine AWc.range 1 (by omega) (by simp [WT, evA]) (split_iter true r 47 hn1 hno) rfl (fun l hl => ?_) (AlN.env (by simp [AlL, Al]))
    (fun pre => if pre = [] then (heapOf [(0, .row true 45 [.v (.slice none 0 0)])], 2) else (heapOf [(0, .row true 45 [.os 1 0 1 1]), (1, .row true 9 [.v (.string r)])], 2)) rfl (fun pre => by split <;> exact (by decide : 1 ≤ 2)) (fun pre => ?_) (fun _ _ _ _ => False) (fun _ _ _ _ h => h.elim) (fun pre i hpl => ?_) ?_ (fun j e σ nx _ hx => hx.elim)
  · simp at hl; subst hl; exact ⟨AlNL.of ⟨trivial, trivial⟩, rfl⟩
  · split
    · exact NoM.of (by rintro i y e cells h; simp at h; obtain ⟨_, _, rfl, _⟩ := h; decide)
    · exact NoM.of (by rintro i y e cells h; simp at h; rcases h with ⟨_, _, rfl, _⟩ | ⟨_, _, rfl, _⟩ <;> decide)
  · obtain rfl : pre = [] := by simpa using hpl
    have hi : ([[AV.v (.string r)]] : List (List AV))[i] = [.v (.string r)] := by
      match i with
      | ⟨0, _⟩ => rfl
    have hne2 : (r = ByteArray.mk #[]) = False := eq_false hne
    rw [hi]
    simp only [L_sq, bindP, mvE, strOp, hne2, decide_false, Bool.not_false, if_true, TT, ↓reduceIte, Nat.reduceEqDiff, Nat.reduceAdd, Nat.reduceMul, reduceCtorEq, Nat.reduceLeDiff]
    show Weak 34 1 _ ⟨envOf [], heapOf [(0, .row true 45 [.os 1 0 1 1]), (1, .row true 9 [.v (.string r)])], 2⟩
    refine Weak.calc [(0, 0), (500002, 1)] (by decide) ?_ ?_ <;> simp [WT]
  · have hF : List.finRange ([[AV.v (.string r)]] : List (List AV)).length ≠ [] := by show List.finRange 1 ≠ []; decide
    have hm := fun nb hid => named1_spec r true 1 nb hn hid
    simp only [rowsM] at hm
    simp only [L_sq, hF, if_false, TT, ↓reduceIte, Nat.reduceEqDiff, Nat.reduceAdd, Nat.reduceMul, reduceCtorEq, Nat.reduceLeDiff]
    refine ⟨_, hm _ (by decide), ?_⟩
    simp only [decide_true, Bool.not_true, TT, ↓reduceIte, Nat.reduceEqDiff, Nat.reduceAdd, Nat.reduceMul, reduceCtorEq, Nat.reduceLeDiff]
    refine Ends.weak (Weak.freezeC 1 rfl (l := [(2, .fs true [.v (.string r)] 1), (3, .v (.int .i64 0))]) (h := []) ?_ ?_) (Ends.data (.inr rfl) (by simp [ET, fS, eS]) ⟨⟨trivial, trivial⟩, trivial, trivial⟩)
    · simp [WT]
    · trivial
end Go.Proofs.YtonglhkiobibgaaGreatDoor
namespace Go.Proofs.YtonglhkiobibgaaGreatDoor
open Go.RowKit
set_option maxRecDepth 100000
theorem cloneN_ok (fr : Bool) (l : List Nd) (nb : Nat) (h0 : l ≠ []) (h : l.length ≤ 1000000000000) : ASound Tryz.prog 129 [fNds fr l] nb (.ret (.os nb 0 l.length 6) [(nb, some (.row true 118 (eNds fr l)))]) := by
  refine ok_129.sound (by simp) ⟨al_fNds l, trivial⟩ ?_
  have hn : ¬ l.length = 0 := fun e => h0 (List.eq_nil_of_length_eq_zero e)
  simp only [ac_129, fNds, len_Nds, hn, TT, ↓reduceIte, Nat.reduceEqDiff, Nat.reduceAdd, Nat.reduceMul, reduceCtorEq, Nat.reduceLeDiff]
  rw [if_pos (by omega)]
  exact Ends.rows1 (i := 500000) (r0 := .os 500000 0 l.length 6) (.inr rfl) (by simp [ET]) rfl (al_Nds l) (by simp [Al]) (by simp [ren, rn])
theorem cloneE_nil (fr : Bool) (nb : Nat) : ASound Tryz.prog 130 [.fs fr [] 0] nb (.ret (.fs true [] 0) []) := by
  refine ASound.nil1 fun A k => ?_
  refine ok_130.sound (by simp) ⟨trivial, trivial⟩ ?_
  cases A with
  | none =>
    simp only [ac_130, TT, ↓reduceIte, Nat.reduceEqDiff, Nat.reduceAdd, Nat.reduceMul, reduceCtorEq, Nat.reduceLeDiff]
    exact Ends.imp (r0 := .v (.slice none 0 0)) (.inr rfl) (by simp [ET]) trivial (Imp.nil true)
  | some A =>
    simp only [ac_130, TT, ↓reduceIte, Nat.reduceEqDiff, Nat.reduceAdd, Nat.reduceMul, reduceCtorEq, Nat.reduceLeDiff]
    refine Ends.weak (Weak.freezeC 500000 rfl (l := [(2, .fs true [] 0)]) (h := []) ?_ ?_) (Ends.data (.inr rfl) (by simp [ET]) trivial)
    · simp [WT]
    · simp [WT]
theorem cloneK_nil (fr : Bool) (nb : Nat) : ASound Tryz.prog 131 [.fs fr [] 0] nb (.ret (.fs true [] 0) []) := by
  refine ASound.nil1 fun A k => ?_
  refine ok_131.sound (by simp) ⟨trivial, trivial⟩ ?_
  cases A with
  | none =>
    simp only [ac_131, TT, ↓reduceIte, Nat.reduceEqDiff, Nat.reduceAdd, Nat.reduceMul, reduceCtorEq, Nat.reduceLeDiff]
    exact Ends.imp (r0 := .v (.slice none 0 0)) (.inr rfl) (by simp [ET]) trivial (Imp.nil true)
  | some A =>
    simp only [ac_131, TT, ↓reduceIte, Nat.reduceEqDiff, Nat.reduceAdd, Nat.reduceMul, reduceCtorEq, Nat.reduceLeDiff]
    refine Ends.weak (Weak.freezeC 500000 rfl (l := [(2, .fs true [] 0)]) (h := []) ?_ ?_) (Ends.data (.inr rfl) (by simp [ET]) trivial)
    · simp [WT]
    · simp [WT]
def cNew (a b : Bool) : List AV := [.v (.int .i64 1), .v (.bool true), .v (.int .i64 0), .fs a [] 0, .v (.int .i64 0), .fs b [] 0]
theorem eNew (fr : Bool) : eNds fr newF.nodes = cNew fr fr := by simp [eNds, newF, eNd, fEnts, eEnts, fBks, eBks, cNew]
def h_sm (a : Bool) : List (Nat × AObj) := [(0, .row true 28 [.os 2 0 1 6, .v (.int .i64 2)]), (1, .row true 28 [.v (.slice none 0 0), .v (.int .i64 0)]), (2, .row true 118 (cNew a a))]
abbrev L_sm (fr : Bool) (i : Nat) : ASt := ⟨envOf [(1, .op 0 0), (2, .op 1 0), (12, .v (.int .i64 1)), (13, .v (.int .i64 i))], heapOf (h_sm (if i = 0 then fr else true)), 3⟩
abbrev L_sm2 : ASt := ⟨envOf [(1, .op 0 0), (2, .op 1 0), (4, .op 2 0), (12, .v (.int .i64 1)), (13, .v (.int .i64 0)), (43, .v (.int .i64 0)), (44, .v (.int .i64 0))], heapOf (h_sm true), 3⟩
set_option maxHeartbeats 2000000 in
theorem same0_spec (fr : Bool) (nb : Nat) : ASound Tryz.prog 89 [aFs fr newF] nb (.ret (aFs true newF) []) := by
  refine ok_89.sound (by simp) ⟨al_aFs newF, trivial⟩ ?_
  have hc := fun nb => cloneN_ok fr newF.nodes nb (by simp [newF]) (by simp [newF])
  have hl : newF.nodes.length = 1 := rfl
  have hx : newF.next = 2 := rfl
  have z1 : ((0 : Int) < ((1 : Nat) : Int)) = True := eq_true (by decide)
  simp only [fNds, eNew, hl] at hc
  simp only [ac_89, aFs, fNds, eNew, hl, hx, TT, ↓reduceIte, Nat.reduceEqDiff, Nat.reduceAdd, Nat.reduceMul, reduceCtorEq, Nat.reduceLeDiff]
  refine ⟨_, hc _, ?_⟩
  simp only [TT, ↓reduceIte, Nat.reduceEqDiff, Nat.reduceAdd, Nat.reduceMul, reduceCtorEq, Nat.reduceLeDiff]
  refine AWc.family (L_sm fr) (fun i => i ≤ 1) (fun i => 1 - i) 0 (Nat.zero_le _) ?_ ?_
  · refine Weak.calc [(0, 0), (100000, 1), (400000, 2)] (by decide) ?_ ?_ <;> simp [WT, h_sm, cNew]
  · intro i hi
    rcases Nat.lt_or_ge 0 i with h | h
    · obtain rfl : i = 1 := by omega
      have e2 : ((1 : Int) < 1) = False := eq_false (by decide)
      simp only [L_sm, h_sm, cNew, Int.natCast_one, e2, show ¬ (1 : Nat) = 0 from by decide, if_false, TT, ↓reduceIte, Nat.reduceEqDiff, Nat.reduceAdd, Nat.reduceMul, reduceCtorEq, Nat.reduceLeDiff]
      refine Ends.weak (Weak.freezeC 2 rfl (l := [(2, .op 1 0)]) (h := [(1, .row true 28 [.fs true (cNew true true) 1, .v (.int .i64 2)])]) ?_ ?_) (Ends.data (.inr rfl) (by simp [ET, aFs, fNds, eNew, hl, hx, cNew]) ⟨⟨trivial, trivial, trivial, trivial, trivial, trivial, trivial⟩, trivial, trivial⟩)
      · simp [WT]
      · simp [WT, cNew]
    · obtain rfl : i = 0 := by omega
      have z0 : ((0 : Int) ≤ 0) = True := eq_true (by decide)
      have z2 : ((0 : Int) < 1) = True := eq_true (by decide)
      have z3 : ((0 : Int) < 0) = False := eq_false (by decide)
      have hE := fun nb => cloneE_nil fr nb
      have hK := fun nb => cloneK_nil fr nb
      simp only [L_sm, h_sm, cNew, if_true, Int.natCast_zero, Int.natCast_one, z0, z2, Int.toNat_zero, TT, ↓reduceIte, Nat.reduceEqDiff, Nat.reduceAdd, Nat.reduceMul, reduceCtorEq, Nat.reduceLeDiff]
      refine ⟨_, hE _, ?_⟩
      simp only [TT, ↓reduceIte, Nat.reduceEqDiff, Nat.reduceAdd, Nat.reduceMul, reduceCtorEq, Nat.reduceLeDiff]
      refine ⟨_, hK _, ?_⟩
      simp only [TT, ↓reduceIte, Nat.reduceEqDiff, Nat.reduceAdd, Nat.reduceMul, reduceCtorEq, Nat.reduceLeDiff]
      refine AWc.family (fun _ : Unit => L_sm2) (fun _ => True) (fun _ => 0) () trivial ?_ ?_
      · refine Weak.calc [(0, 0), (1, 1), (2, 2)] (by decide) ?_ ?_ <;> simp [WT, h_sm, cNew]
      · intro _ _
        simp only [L_sm2, h_sm, cNew, z3, TT, ↓reduceIte, Nat.reduceEqDiff, Nat.reduceAdd, Nat.reduceMul, reduceCtorEq, Nat.reduceLeDiff]
        refine famC_next 1 (by decide) (by decide) ?_
        refine Weak.calc [(0, 0), (1, 1), (2, 2)] (by decide) ?_ ?_ <;> simp [WT, h_sm, cNew, show IntKind.i64.wrap 1 = 1 from by rfl]
def pX : ByteArray := ByteArray.mk #[47, 120]
def rX : ByteArray := ByteArray.mk #[120]
theorem chk_new : chkFs newF = 0 := by kernel_rfl
theorem walk_new : walkF newF 1 [rX] = .error (101, rX) := by kernel_rfl
theorem name_x : nameE rX = 0 := by kernel_rfl
theorem split_x (nb : Nat) : ASound Tryz.prog 110 [.v (.string pX)] nb (.ret (.tup [fS true [rX], .v (.int .i64 0)]) []) :=
  split1_spec pX rX nb (by decide) (by decide) (by kernel_rfl) (by kernel_rfl) (by intro h; cases h) (by kernel_rfl) (by simp [rX]) name_x
theorem readX_spec (fr : Bool) (off n : Int) (nb : Nat) : ASound Tryz.prog 26 [aFs fr newF, .v (.string pX), .v (.int .i64 off), .v (.int .i64 n)] nb (.ret (.tup [.v (.slice none 0 0), .v (.int .i64 101)]) []) :=
  read0_spec fr newF pX off n [rX] 101 rX nb (by decide) (by simp [newF]) split_x chk_new (by simp) walk_new
end Go.Proofs.YtonglhkiobibgaaGreatDoor
namespace Go.Proofs.YtonglhkiobibgaaGreatDoor
open Go.RowKit
set_option maxRecDepth 100000
def repX : AV := .agg [.v (.int .i64 101), .v (.int .i64 0), .v (.slice none 0 0), .v (.slice none 0 0)]
set_option maxHeartbeats 1000000 in
theorem lookX_spec (fr fo : Bool) (o : OpD) (nb : Nat) (hk : o.kind = 9) (hp : o.path = pX) : ASound Tryz.prog 90 [aFs fr newF, aOp fo o] nb (.ret repX []) := by
  refine ok_90.sound (by simp) ⟨al_aFs newF, al_aOp o, trivial⟩ ?_
  have hr := fun nb => readX_spec fr o.off o.n nb
  simp only [aFs, fNds] at hr
  have g : ((9 : Int) = 9) = True := eq_true rfl
  simp only [ac_90, aFs, fNds, aOp, fB, hk, hp, g, decide_true, TT, ↓reduceIte, Nat.reduceEqDiff, Nat.reduceAdd, Nat.reduceMul, reduceCtorEq, Nat.reduceLeDiff]
  refine ⟨_, hr _, ?_⟩
  simp only [TT, ↓reduceIte, Nat.reduceEqDiff, Nat.reduceAdd, Nat.reduceMul, reduceCtorEq, Nat.reduceLeDiff]
  exact Ends.data (.inr rfl) (by simp [ET, repX]) ⟨trivial, trivial, trivial, trivial, trivial⟩
def opX : OpD := { kind := 9, path := pX, to := ByteArray.mk #[], off := 0, n := 9, data := [] }
theorem opchk_x : opChk opX = 0 := by kernel_rfl
set_option maxHeartbeats 1000000 in
theorem applyX_spec (fr fo : Bool) (nb : Nat) : ASound Tryz.prog 34 [aFs fr newF, aOp fo opX] nb (.ret (.tup [aFs true newF, repX, .v (.int .i64 0)]) []) := by
  refine ok_34.sound (by simp) ⟨al_aFs newF, al_aOp opX, trivial⟩ ?_
  have hk := fun nb => fsCheck_spec fr newF nb (by decide) (by simp [newF])
  have ho := fun nb => opCheck_spec fo opX nb
  have hs := fun nb => same0_spec fr nb
  have hl := fun nb => lookX_spec fr fo opX nb rfl rfl
  rw [chk_new] at hk
  rw [opchk_x] at ho
  have g : ((9 : Int) ≤ 9) = True := eq_true (by decide)
  have hkd : opX.kind = 9 := rfl
  simp only [aFs, fNds, aOp, fB, hkd] at hk ho hs hl
  simp only [ac_34, aFs, fNds, aOp, fB, hkd, TT, ↓reduceIte, Nat.reduceEqDiff, Nat.reduceAdd, Nat.reduceMul, reduceCtorEq, Nat.reduceLeDiff]
  refine ⟨_, hk _, ?_⟩
  simp only [decide_true, Bool.not_true, TT, ↓reduceIte, Nat.reduceEqDiff, Nat.reduceAdd, Nat.reduceMul, reduceCtorEq, Nat.reduceLeDiff]
  refine ⟨_, ho _, ?_⟩
  simp only [decide_true, Bool.not_true, g, TT, ↓reduceIte, Nat.reduceEqDiff, Nat.reduceAdd, Nat.reduceMul, reduceCtorEq, Nat.reduceLeDiff]
  refine ⟨_, hs _, ?_⟩
  simp only [TT, ↓reduceIte, Nat.reduceEqDiff, Nat.reduceAdd, Nat.reduceMul, reduceCtorEq, Nat.reduceLeDiff]
  refine ⟨_, hl _, ?_⟩
  simp only [repX, TT, ↓reduceIte, Nat.reduceEqDiff, Nat.reduceAdd, Nat.reduceMul, reduceCtorEq, Nat.reduceLeDiff]
  exact ⟨by rfl, Ends.data (.inr rfl) (by simp [ET, repX, aFs, fNds]) ⟨⟨al_fNds _, trivial, trivial⟩, ⟨trivial, trivial, trivial, trivial, trivial⟩, trivial, trivial⟩⟩
end Go.Proofs.YtonglhkiobibgaaGreatDoor
namespace Go.Proofs.YtonglhkiobibgaaGreatDoor
open Go.RowKit
set_option maxRecDepth 100000
theorem num11_spec (e : Int) (nb : Nat) : ASound Tryz.prog 35 [.v (.int .i64 e)] nb (.ret (.v (.int .i64 e)) []) := by
  refine ok_35.sound (by simp) ⟨trivial, trivial⟩ ?_
  simp only [ac_35, TT, ↓reduceIte, Nat.reduceEqDiff, Nat.reduceAdd, Nat.reduceMul, reduceCtorEq, Nat.reduceLeDiff]
  exact Ends.data (.inr rfl) (by simp [ET]) trivial
abbrev rawOp (k : Int) (p : ByteArray) (n : Int) : AV := .agg [.v (.int .i64 k), .v (.string p), .v (.string (ByteArray.mk #[])), .v (.int .i64 0), .v (.int .i64 n), nilA0]
theorem applyR_spec (fr : Bool) (nb : Nat) : ASound Tryz.prog 34 [aFs fr newF, rawOp 9 pX 9] nb (.ret (.tup [aFs true newF, repX, .v (.int .i64 0)]) []) :=
  (applyX_spec fr false nb).args ⟨Imp.refl _, Imp.aggL ⟨Imp.refl _, Imp.refl _, Imp.refl _, Imp.refl _, Imp.refl _, Imp.nil _, trivial⟩, trivial⟩
theorem encS_spec (nb : Nat) : ∃ l : List Int, 0 < l.length ∧ ASound Tryz.prog 43 [rawOp 12 (ByteArray.mk #[]) 0] nb (.ret (.tup [fB true l, .v (.int .i64 0)]) []) := by
  have h := opEncode_spec false ⟨12, ByteArray.mk #[], ByteArray.mk #[], 0, 0, []⟩ nb (by simp [i64ok]) (by simp [i64ok])
  have e1 : encO ⟨12, ByteArray.mk #[], ByteArray.mk #[], 0, 0, []⟩ = encode (opRec ⟨12, ByteArray.mk #[], ByteArray.mk #[], 0, 0, []⟩) := by rw [encO, if_pos (by decide)]
  have e2 : (encode (opRec ⟨12, ByteArray.mk #[], ByteArray.mk #[], 0, 0, []⟩)).2 = 0 := by rw [encode, if_pos (by decide)]
  have e3 : 0 < (encode (opRec ⟨12, ByteArray.mk #[], ByteArray.mk #[], 0, 0, []⟩)).1.length := by rw [encode, if_pos (by decide)]; simp [sealB, low_length]
  rw [e1, e2] at h
  exact ⟨_, e3, h.args ⟨Imp.aggL ⟨Imp.refl _, Imp.refl _, Imp.refl _, Imp.refl _, Imp.refl _, Imp.nil _, trivial⟩, trivial⟩⟩
theorem alive11 (nb : Nat) : ASound Tryz.prog 33 [] nb (.ret (.v (.bool true)) []) := by
  refine ok_33.sound (by simp) trivial ?_
  have hn := new_spec
  have ha := applyR_spec true
  simp only [aFs, fNds, rawOp, pX] at hn ha
  obtain ⟨l, hl, he⟩ := encS_spec 1400000
  simp only [rawOp] at he
  simp only [ac_33, TT, ↓reduceIte, Nat.reduceEqDiff, Nat.reduceAdd, Nat.reduceMul, reduceCtorEq, Nat.reduceLeDiff]
  refine ⟨_, hn _, ?_⟩
  simp only [TT, ↓reduceIte, Nat.reduceEqDiff, Nat.reduceAdd, Nat.reduceMul, reduceCtorEq, Nat.reduceLeDiff]
  refine ⟨_, ha _, ?_⟩
  simp only [repX, TT, ↓reduceIte, Nat.reduceEqDiff, Nat.reduceAdd, Nat.reduceMul, reduceCtorEq, Nat.reduceLeDiff]
  refine ⟨_, he, ?_⟩
  simp only [TT, ↓reduceIte, Nat.reduceEqDiff, Nat.reduceAdd, Nat.reduceMul, reduceCtorEq, Nat.reduceLeDiff]
  refine ⟨_, num11_spec _ _, ?_⟩
  simp only [TT, ↓reduceIte, Nat.reduceEqDiff, Nat.reduceAdd, Nat.reduceMul, reduceCtorEq, Nat.reduceLeDiff]
  refine ⟨_, num11_spec _ _, ?_⟩
  have w : IntKind.i64.wrap (0 + 0) = 0 := by rfl
  have g1 : ((0 : Int) = 0) = True := eq_true rfl
  have g2 : ((101 : Int) = 101) = True := eq_true rfl
  have g3 : ((0 : Int) < (l.length : Int)) = True := eq_true (by omega)
  simp only [w, g1, g2, g3, decide_true, TT, ↓reduceIte, Nat.reduceEqDiff, Nat.reduceAdd, Nat.reduceMul, reduceCtorEq, Nat.reduceLeDiff]
  exact Ends.data (.inr rfl) (by simp [ET]) trivial
end Go.Proofs.YtonglhkiobibgaaGreatDoor
namespace Go.Proofs.YtonglhkiobibgaaGreatDoor
open Go.RowKit
set_option maxRecDepth 100000
theorem len2 {α : Type} {l : List α} (h : l.length = 2) : ∃ a b, l = [a, b] := by
  match l, h with
  | [a, b], _ => exact ⟨a, b, rfl⟩
theorem len3 {α : Type} {l : List α} (h : l.length = 3) : ∃ a b c, l = [a, b, c] := by
  match l, h with
  | [a, b, c], _ => exact ⟨a, b, c, rfl⟩
def op0D : OpD := ⟨0, ByteArray.mk #[], ByteArray.mk #[], 0, 0, []⟩
/-- the op that a record tells -/
def opOf (r : Rec) : OpD × Int :=
  match r.nums, r.texts with
  | [a, b], [p, q, d] => if opChk ⟨r.kind, strOf p, strOf q, a, b, d⟩ = 0 then (⟨r.kind, strOf p, strOf q, a, b, d⟩, 0) else (op0D, opChk ⟨r.kind, strOf p, strOf q, a, b, d⟩)
  | _, _ => (op0D, 3)
theorem opOf_bad {r : Rec} (h : ¬ (r.nums.length = 2 ∧ r.texts.length = 3)) : opOf r = (op0D, 3) := by
  unfold opOf
  split
  · rename_i h1 h2; exact absurd ⟨by rw [h1]; rfl, by rw [h2]; rfl⟩ h
  · rfl
def decO (l : List Int) : OpD × Int := if (dec l).2 = 0 then opOf (dec l).1 else (op0D, (dec l).2)
theorem impOp (e : Int) : Imp (.tup [.agg [.v (.int .i64 0), .v (.string (ByteArray.mk #[])), .v (.string (ByteArray.mk #[])), .v (.int .i64 0), .v (.int .i64 0), .v (.slice none 0 0)], .v (.int .i64 e)]) (.tup [aOp true op0D, .v (.int .i64 e)]) :=
  Imp.tupL ⟨Imp.aggL ⟨Imp.refl _, Imp.refl _, Imp.refl _, Imp.refl _, Imp.refl _, Imp.nil true, trivial⟩, Imp.refl _, trivial⟩
set_option maxHeartbeats 2000000 in
theorem opDecode_spec (fr : Bool) (l : List Int) (nb : Nat) (hb : okB l) (h : l.length ≤ 140737488355320) : ASound Tryz.prog 45 [fB fr l] nb (.ret (.tup [aOp true (decO l).1, .v (.int .i64 (decO l).2)]) []) := by
  refine ok_45.sound (by simp) ⟨al_fB l, trivial⟩ ?_
  have hd := fun nb => decode_spec fr l nb hb h
  simp only [fB] at hd
  simp only [ac_45, fB, TT, ↓reduceIte, Nat.reduceEqDiff, Nat.reduceAdd, Nat.reduceMul, reduceCtorEq, Nat.reduceLeDiff]
  refine ⟨_, hd _, ?_⟩
  by_cases h0 : ¬ (dec l).2 = 0
  · have e : decO l = (op0D, (dec l).2) := if_neg h0
    simp only [h0, e, decide_false, Bool.not_false, TT, ↓reduceIte, Nat.reduceEqDiff, Nat.reduceAdd, Nat.reduceMul, reduceCtorEq, Nat.reduceLeDiff]
    exact Ends.imp (.inr rfl) (r0 := .tup [.agg [.v (.int .i64 0), .v (.string (ByteArray.mk #[])), .v (.string (ByteArray.mk #[])), .v (.int .i64 0), .v (.int .i64 0), .v (.slice none 0 0)], .v (.int .i64 (dec l).2)]) (by simp [ET]) ⟨⟨trivial, trivial, trivial, trivial, trivial, trivial, trivial⟩, trivial, trivial⟩ (impOp _)
  replace h0 : (dec l).2 = 0 := Decidable.not_not.1 h0
  have e : decO l = opOf (dec l).1 := if_pos h0
  rw [e]
  simp only [h0, decide_true, Bool.not_true, TT, ↓reduceIte, Nat.reduceEqDiff, Nat.reduceAdd, Nat.reduceMul, reduceCtorEq, Nat.reduceLeDiff]
  obtain ⟨k, ns, ts⟩ := (dec l).1
  by_cases h2 : ¬ ns.length = 2
  · have g : ((ns.length : Int) = 2) = False := eq_false (by omega)
    have e3 : opOf ⟨k, ns, ts⟩ = (op0D, 3) := opOf_bad (fun h9 => h2 h9.1)
    simp only [g, e3, decide_false, Bool.not_false, TT, ↓reduceIte, Nat.reduceEqDiff, Nat.reduceAdd, Nat.reduceMul, reduceCtorEq, Nat.reduceLeDiff]
    exact Ends.imp (.inr rfl) (r0 := .tup [.agg [.v (.int .i64 0), .v (.string (ByteArray.mk #[])), .v (.string (ByteArray.mk #[])), .v (.int .i64 0), .v (.int .i64 0), .v (.slice none 0 0)], .v (.int .i64 3)]) (by simp [ET]) ⟨⟨trivial, trivial, trivial, trivial, trivial, trivial, trivial⟩, trivial, trivial⟩ (impOp _)
  replace h2 : ns.length = 2 := Decidable.not_not.1 h2
  have g2 : ((ns.length : Int) = 2) = True := eq_true (by omega)
  by_cases h3 : ¬ ts.length = 3
  · have g : ((ts.length : Int) = 3) = False := eq_false (by omega)
    have e3 : opOf ⟨k, ns, ts⟩ = (op0D, 3) := opOf_bad (fun h9 => h3 h9.2)
    simp only [g, g2, e3, decide_true, decide_false, Bool.not_true, Bool.not_false, TT, ↓reduceIte, Nat.reduceEqDiff, Nat.reduceAdd, Nat.reduceMul, reduceCtorEq, Nat.reduceLeDiff]
    exact Ends.imp (.inr rfl) (r0 := .tup [.agg [.v (.int .i64 0), .v (.string (ByteArray.mk #[])), .v (.string (ByteArray.mk #[])), .v (.int .i64 0), .v (.int .i64 0), .v (.slice none 0 0)], .v (.int .i64 3)]) (by simp [ET]) ⟨⟨trivial, trivial, trivial, trivial, trivial, trivial, trivial⟩, trivial, trivial⟩ (impOp _)
  replace h3 : ts.length = 3 := Decidable.not_not.1 h3
  have g3 : ((ts.length : Int) = 3) = True := eq_true (by omega)
  obtain ⟨a, b, rfl⟩ := len2 h2
  obtain ⟨p, q, d, rfl⟩ := len3 h3
  have eT : eL true [p, q, d] = [.fs true (eB p) p.length, .fs true (eB q) q.length, .fs true (eB d) d.length] := by simp [eL, fB]
  have eN : eI [a, b] = [.v (.int .i64 a), .v (.int .i64 b)] := by simp [eI]
  have hc := fun nb => opCheck_spec true ⟨k, strOf p, strOf q, a, b, d⟩ nb
  simp only [aOp, fB] at hc
  have eo : opOf ⟨k, [a, b], [p, q, d]⟩ = if opChk ⟨k, strOf p, strOf q, a, b, d⟩ = 0 then (⟨k, strOf p, strOf q, a, b, d⟩, 0) else (op0D, opChk ⟨k, strOf p, strOf q, a, b, d⟩) := rfl
  rw [eo]
  have z0 : ((0 : Int) ≤ 0) = True := eq_true (by decide)
  have z1 : ((0 : Int) ≤ 1) = True := eq_true (by decide)
  have z2 : ((0 : Int) ≤ 2) = True := eq_true (by decide)
  have l2 : ((0 : Int) < 2) = True := eq_true (by decide)
  have l2' : ((1 : Int) < 2) = True := eq_true (by decide)
  have l3 : ((0 : Int) < 3) = True := eq_true (by decide)
  have l3' : ((1 : Int) < 3) = True := eq_true (by decide)
  have l3'' : ((2 : Int) < 3) = True := eq_true (by decide)
  have c2 : (([a, b].length : Nat) : Int) = 2 := rfl
  have c3 : (([p, q, d].length : Nat) : Int) = 3 := rfl
  have t1 : Int.toNat 1 = 1 := rfl
  have t2 : Int.toNat 2 = 2 := rfl
  simp only [c2, c3, eT, eN, z0, z1, z2, l2, l2', l3, l3', l3'', t1, t2, Int.toNat_zero, List.getElem?_cons_zero, List.getElem?_cons_succ, ↓bytesOf_B, len_B, decide_true, Bool.not_true, TT, ↓reduceIte, Nat.reduceEqDiff, Nat.reduceAdd, Nat.reduceMul, reduceCtorEq, Nat.reduceLeDiff]
  refine ⟨by rfl, ?_⟩
  refine ⟨_, hc _, ?_⟩
  by_cases h9 : opChk ⟨k, strOf p, strOf q, a, b, d⟩ = 0
  · simp only [h9, decide_true, Bool.not_true, if_true, TT, ↓reduceIte, Nat.reduceEqDiff, Nat.reduceAdd, Nat.reduceMul, reduceCtorEq, Nat.reduceLeDiff]
    exact Ends.data (.inr rfl) (by simp [ET, aOp, fB]) ⟨al_aOp (fr := true) ⟨k, strOf p, strOf q, a, b, d⟩, trivial, trivial⟩
  · simp only [h9, decide_false, Bool.not_false, if_false, TT, ↓reduceIte, Nat.reduceEqDiff, Nat.reduceAdd, Nat.reduceMul, reduceCtorEq, Nat.reduceLeDiff]
    exact Ends.imp (.inr rfl) (r0 := .tup [.agg [.v (.int .i64 0), .v (.string (ByteArray.mk #[])), .v (.string (ByteArray.mk #[])), .v (.int .i64 0), .v (.int .i64 0), .v (.slice none 0 0)], .v (.int .i64 (opChk ⟨k, strOf p, strOf q, a, b, d⟩))]) (by simp [ET]) ⟨⟨trivial, trivial, trivial, trivial, trivial, trivial, trivial⟩, trivial, trivial⟩ (impOp _)
theorem sameOp_refl (fa fb : Bool) (o : OpD) (nb : Nat) (h : o.data.length ≤ 140737488355328) : ASound Tryz.prog 47 [aOp fa o, aOp fb o] nb (.ret (.v (.bool true)) []) := by
  refine ok_47.sound (by simp) ⟨al_aOp o, al_aOp o, trivial⟩ ?_
  have hs := fun nb => sameBytes_spec fa fb o.data o.data nb h
  simp only [fB, decide_true] at hs
  simp only [ac_47, aOp, fB, strOp, decide_true, TT, ↓reduceIte, Nat.reduceEqDiff, Nat.reduceAdd, Nat.reduceMul, reduceCtorEq, Nat.reduceLeDiff]
  refine ⟨_, hs _, ?_⟩
  simp only [TT, ↓reduceIte, Nat.reduceEqDiff, Nat.reduceAdd, Nat.reduceMul, reduceCtorEq, Nat.reduceLeDiff]
  exact Ends.data (.inr rfl) (by simp [ET]) trivial
end Go.Proofs.YtonglhkiobibgaaGreatDoor
namespace Go.Proofs.YtonglhkiobibgaaGreatDoor
set_option maxRecDepth 100000
end Go.Proofs.YtonglhkiobibgaaGreatDoor
namespace Go.Proofs.YtonglhkiobibgaaGreatDoor
open Go.RowKit
set_option maxRecDepth 100000
theorem okR_of {r : Rec} (h : recE r = 0) : okR r := by
  unfold recE at h
  by_cases h1 : r.kind < 0 ∨ 255 < r.kind
  · rw [if_pos h1] at h; cases h
  rw [if_neg h1] at h
  by_cases h2 : 64 < r.nums.length ∨ 64 < r.texts.length
  · rw [if_pos h2] at h; cases h
  rw [if_neg h2] at h
  by_cases h3 : ∃ t ∈ r.texts, 4096 < t.length
  · rw [if_pos h3] at h; cases h
  exact ⟨h1, h2, fun t ht hl => h3 ⟨t, ht, hl⟩⟩
theorem encode_len {r : Rec} (hn : ∀ n ∈ r.nums, i64ok n) : (encode r).1.length ≤ 300004 := by
  rw [encode]
  split
  · rename_i h
    have h2 := h2_le (r := r) (okR_of h) hn r.texts.length
    rw [h2_all] at h2
    simp only [sealB, List.length_append, low_length]; omega
  · simp
theorem encO_len {o : OpD} (h1 : i64ok o.off) (h2 : i64ok o.n) : (encO o).1.length ≤ 300004 := by
  rw [encO]
  split
  · exact encode_len (by intro n hn; simp [opRec] at hn; rcases hn with rfl | rfl <;> assumption)
  · simp
end Go.Proofs.YtonglhkiobibgaaGreatDoor
namespace Go.Proofs.YtonglhkiobibgaaGreatDoor
open Go.RowKit
set_option maxRecDepth 100000
abbrev L_ss (fa fb : Bool) (l : List ByteArray) (i : Nat) : ASt := ⟨envOf [(0, fS fa l), (1, fS fb l), (5, .v (.int .i64 i))], heapOf [], 1⟩
theorem sameS_refl (fa fb : Bool) (l : List ByteArray) (nb : Nat) (h : l.length ≤ 140737488355328) : ASound Tryz.prog 95 [fS fa l, fS fb l] nb (.ret (.v (.bool true)) []) := by
  refine ok_95.sound (by simp) ⟨al_fS l, al_fS l, trivial⟩ ?_
  simp only [ac_95, fS, decide_true, Bool.not_true, TT, ↓reduceIte, Nat.reduceEqDiff, Nat.reduceAdd, Nat.reduceMul, reduceCtorEq, Nat.reduceLeDiff]
  refine AWc.family (L_ss fa fb l) (fun i => i ≤ l.length) (fun i => l.length - i) 0 (Nat.zero_le _) ?_ ?_
  · refine Weak.calc [] (by decide) ?_ ?_ <;> simp [WT, al_S, ren_S, fS]
  · intro i hi
    by_cases hlt : i < l.length
    · obtain ⟨x, hx, e1, e0⟩ := lt_at hlt
      simp only [L_ss, fS, e1, e0, get_S hx, Int.toNat_natCast, strOp, decide_true, Bool.not_true, TT, ↓reduceIte, Nat.reduceEqDiff, Nat.reduceAdd, Nat.reduceMul, reduceCtorEq, Nat.reduceLeDiff]
      refine ⟨by rfl, famC_next (i + 1) (by omega) (by omega) ?_⟩
      refine Weak.calc [] (by decide) ?_ ?_ <;> simp [WT, al_S, ren_S, fS, wrap64 (x := (i : Int) + 1) (by omega)]
    · obtain rfl : i = l.length := by omega
      have e1 : ¬ ((l.length : Int) < (l.length : Int)) := by omega
      simp only [L_ss, fS, e1, TT, ↓reduceIte, Nat.reduceEqDiff, Nat.reduceAdd, Nat.reduceMul, reduceCtorEq, Nat.reduceLeDiff]
      exact Ends.data (.inr rfl) (by simp [ET]) trivial
theorem sameRep_refl (fa fb : Bool) (r : RepD) (nb : Nat) (h : r.data.length ≤ 140737488355328) (hn : r.names.length ≤ 140737488355328) : ASound Tryz.prog 40 [aRep fa r, aRep fb r] nb (.ret (.v (.bool true)) []) := by
  refine ok_40.sound (by simp) ⟨al_aRep r, al_aRep r, trivial⟩ ?_
  have h1 := fun nb => sameBytes_spec fa fb r.data r.data nb h
  have h2 := fun nb => sameS_refl fa fb r.names nb hn
  simp only [fB, fS, decide_true] at h1 h2
  simp only [ac_40, aRep, fB, fS, decide_true, TT, ↓reduceIte, Nat.reduceEqDiff, Nat.reduceAdd, Nat.reduceMul, reduceCtorEq, Nat.reduceLeDiff]
  refine ⟨_, h1 _, ?_⟩
  simp only [TT, ↓reduceIte, Nat.reduceEqDiff, Nat.reduceAdd, Nat.reduceMul, reduceCtorEq, Nat.reduceLeDiff]
  refine ⟨_, h2 _, ?_⟩
  simp only [TT, ↓reduceIte, Nat.reduceEqDiff, Nat.reduceAdd, Nat.reduceMul, reduceCtorEq, Nat.reduceLeDiff]
  exact Ends.data (.inr rfl) (by simp [ET]) trivial
end Go.Proofs.YtonglhkiobibgaaGreatDoor
namespace Go.Proofs.YtonglhkiobibgaaGreatDoor
open Go.RowKit
set_option maxRecDepth 100000
end Go.Proofs.YtonglhkiobibgaaGreatDoor
namespace Go.Proofs.YtonglhkiobibgaaGreatDoor
open Go.RowKit
set_option maxRecDepth 100000
theorem many_len {α : Type} {f : List Int → α × Int × List Int} : ∀ (k : Nat) (l : List Int), (scMany f k l).1.length ≤ k
  | 0, l => Nat.le_refl _
  | k + 1, l => by
    rw [scMany]
    split
    · show 1 ≤ k + 1; omega
    · have := many_len (f := f) k (f l).2.2
      show (_ :: _).length ≤ _
      rw [List.length_cons]; omega
theorem list_len {α : Type} {f : List Int → α × Int × List Int} (l : List Int) : (scList f l).1.length ≤ 64 := by
  unfold scList
  split
  · exact Nat.zero_le _
  · rename_i h
    have h0 : (scCnt l).2.1 = 0 := Decidable.not_not.1 h
    have h1 := many_len (f := f) (scCnt l).1.toNat (scCnt l).2.2
    have h2 : (scCnt l).1.toNat ≤ 64 := by
      unfold scCnt at h0 ⊢
      simp only at h0 ⊢
      split at h0
      · cases h0
      · rename_i h9
        have : ¬ 64 < (scOct l).1 := fun h8 => h9 ⟨h0, h8⟩
        omega
    omega
theorem unzz_ok {m : Nat} (h : m < 2 ^ 64) : i64ok (unzz m) := by
  have e3 : (2 : Nat) ^ 64 = 18446744073709551616 := by decide
  unfold unzz i64ok
  split <;> omega
theorem many_num : ∀ (k : Nat) (l : List Int), okB l → ∀ n ∈ (scMany scNum k l).1, i64ok n
  | 0, l, _ => fun n hn => by simp [scMany] at hn
  | k + 1, l, hb => by
    have h1 : i64ok (scNum l).1 := unzz_ok (scGrp_lt l 0 0 hb (by decide) (by decide))
    rw [scMany]
    split
    · intro n hn
      rcases List.mem_singleton.1 hn with rfl
      exact h1
    · have h2 := many_num k (scNum l).2.2 (okB_sc hb (scNum_rest l))
      intro n hn
      rcases List.mem_cons.1 hn with rfl | hn
      · exact h1
      · exact h2 n hn
theorem dec_facts {l : List Int} (hb : okB l) : (dec l).1.texts.length ≤ 64 ∧ ∀ n ∈ (dec l).1.nums, i64ok n := by
  have hr : (rec0).texts.length ≤ 64 ∧ ∀ n ∈ (rec0).nums, i64ok n := ⟨Nat.zero_le _, by simp [rec0]⟩
  unfold dec
  split
  · exact hr
  · have ho := okB_open hb
    generalize (openB l).1 = b at ho
    unfold scRec
    simp only
    split
    · exact hr
    · split
      · exact hr
      · split
        · exact hr
        · split
          · exact hr
          · refine ⟨list_len _, ?_⟩
            have h1 : okB (scOct b).2.2 := by rw [scOct_rest]; exact okB_drop ho 1
            show ∀ n ∈ (scList scNum (scOct b).2.2).1, i64ok n
            unfold scList
            split
            · intro n hn; cases hn
            · exact many_num _ _ (by rw [scCnt_rest]; exact okB_drop h1 1)
def rep0D : RepD := ⟨0, 0, [], []⟩
/-- the reply that a record tells -/
def repOf (r : Rec) : RepD × Int :=
  if r.kind = 0 then
    match r.nums, r.texts with
    | [a, b], d :: ts => if repChk ⟨a, b, d, ts.map strOf⟩ = 0 then (⟨a, b, d, ts.map strOf⟩, 0) else (rep0D, repChk ⟨a, b, d, ts.map strOf⟩)
    | _, _ => (rep0D, 3)
  else (rep0D, 22)
theorem repOf_bad {r : Rec} (hk : r.kind = 0) (h : ¬ (r.nums.length = 2 ∧ ¬ r.texts.length = 0)) : repOf r = (rep0D, 3) := by
  unfold repOf
  rw [if_pos hk]
  split
  · rename_i h1 h2; exact absurd ⟨by rw [h1]; rfl, by rw [h2]; simp⟩ h
  · rfl
def decR (l : List Int) : RepD × Int := if (dec l).2 = 0 then repOf (dec l).1 else (rep0D, (dec l).2)
theorem rep_recE {r : RepD} (h : repChk r = 0) (hn : r.names.length ≤ 63) : recE (repRec r) = 0 := by
  unfold repChk at h
  split at h
  · cases h
  · split at h
    · cases h
    · rename_i hd
      split at h
      · cases h
      · split at h
        · cases h
        · rename_i hs
          unfold recE repRec
          rw [if_neg (by simp), if_neg (by simp; omega), if_neg]
          rintro ⟨t, ht, hl⟩
          rcases List.mem_cons.1 ht with rfl | ht
          · exact hd hl
          · obtain ⟨s, hs1, rfl⟩ := List.mem_map.1 ht
            rw [octL_len] at hl
            exact hs ⟨s, hs1, by omega⟩
theorem encRep_err {r : RepD} (hn : r.names.length ≤ 63) : (encRep r).2 = repChk r := by
  unfold encRep
  split
  · rename_i h
    rw [encode, if_pos (rep_recE h hn), h]
  · rfl
theorem impRep (e : Int) : Imp (.tup [.agg [.v (.int .i64 0), .v (.int .i64 0), .v (.slice none 0 0), .v (.slice none 0 0)], .v (.int .i64 e)]) (.tup [aRep true rep0D, .v (.int .i64 e)]) :=
  Imp.tupL ⟨Imp.aggL ⟨Imp.refl _, Imp.refl _, Imp.nil true, Imp.nil true, trivial⟩, Imp.refl _, trivial⟩
end Go.Proofs.YtonglhkiobibgaaGreatDoor
namespace Go.Proofs.YtonglhkiobibgaaGreatDoor
open Go.RowKit
set_option maxRecDepth 100000
/-- the names that are read -/
abbrev nmS (ts : List (List Int)) : List ByteArray := ts.map strOf
theorem nm_s {ts : List (List Int)} {i : Nat} {t : List Int} (h : ts[i]? = some t) : eS (nmS (ts.take i)) ++ [.v (.string (strOf t))] = eS (nmS (ts.take (i + 1))) := by
  rw [take_snoc h]; simp [nmS, eS]
theorem nm_len {ts : List (List Int)} {i : Nat} (h : i ≤ ts.length) : (eS (nmS (ts.take i))).length = i := by
  rw [len_S, List.length_map, List.length_take]; omega
theorem repE_b (fr : Bool) (x : RepD) (id nb : Nat) (h1 : i64ok x.err) (h2 : i64ok x.n) (hl : x.names.length ≤ 140737488355328) (hne : x.names ≠ []) :
    ASound Tryz.prog 51 [.agg [.v (.int .i64 x.err), .v (.int .i64 x.n), fB fr x.data, .os id 0 x.names.length 1]] nb
      (rowsM [(id, true, 9, eS x.names)] (.ret (.tup [fB true (encRep x).1, .v (.int .i64 (encRep x).2)]) [])) := by
  refine ASound.borrow [] [(id, true, 9, eS x.names)] ?_ (by simpa [eS] using hne) (by simp) ⟨yg_fB _, trivial, trivial⟩ (by simp)
  have e : boL [(id, true, 9, eS x.names)] [.agg [.v (.int .i64 x.err), .v (.int .i64 x.n), fB fr x.data, .os id 0 x.names.length 1]] = [aRep false x] := by
    simp [boL, bo, cellsAt, od, odL, aRep, fB, od_B, fS, tk_S, od_S]
  rw [e]
  exact repEncode_spec false x nb h1 h2 hl
theorem repE_0 (fr : Bool) (a b : Int) (d : List Int) (nb : Nat) (h1 : i64ok a) (h2 : i64ok b) :
    ASound Tryz.prog 51 [.agg [.v (.int .i64 a), .v (.int .i64 b), fB fr d, .v (.slice none 0 0)]] nb (.ret (.tup [fB true (encRep ⟨a, b, d, []⟩).1, .v (.int .i64 (encRep ⟨a, b, d, []⟩).2)]) []) :=
  (repEncode_spec fr ⟨a, b, d, []⟩ nb h1 h2 (by simp)).args ⟨Imp.aggL ⟨Imp.refl _, Imp.refl _, Imp.refl _, Imp.nil _, trivial⟩, trivial⟩
abbrev zRep : AObj := .row true 57 [.v (.int .i64 0), .v (.int .i64 0), .v (.slice none 0 0), .v (.slice none 0 0)]
def L_rd (a b : Int) (d : List Int) (ts : List (List Int)) : Nat → ASt
  | 0 => ⟨envOf [(2, .op 0 0), (6, .op 1 0), (53, fL true ts), (54, .v (.int .i64 ts.length)), (55, .v (.int .i64 0))], heapOf [(0, zRep), (1, .row true 57 [.v (.int .i64 a), .v (.int .i64 b), fB true d, .v (.slice none 0 0)])], 3⟩
  | i + 1 => ⟨envOf [(2, .op 0 0), (6, .op 1 0), (53, fL true ts), (54, .v (.int .i64 ts.length)), (55, .v (.int .i64 ((i + 1 : Nat) : Int)))], heapOf [(0, zRep), (1, .row true 57 [.v (.int .i64 a), .v (.int .i64 b), fB true d, .os 2 0 (i + 1) 1]), (2, .row true 9 (eS (nmS (ts.take (i + 1)))))], 3⟩
set_option maxHeartbeats 4000000 in
theorem repDecode_spec (fr : Bool) (l : List Int) (nb : Nat) (hb : okB l) (h : l.length ≤ 140737488355320) : ASound Tryz.prog 53 [fB fr l] nb (.ret (.tup [aRep true (decR l).1, .v (.int .i64 (decR l).2)]) []) := by
  refine ok_53.sound (by simp) ⟨al_fB l, trivial⟩ ?_
  have hd := fun nb => decode_spec fr l nb hb h
  obtain ⟨hf1, hf2⟩ := dec_facts hb
  simp only [fB] at hd
  simp only [ac_53, fB, TT, ↓reduceIte, Nat.reduceEqDiff, Nat.reduceAdd, Nat.reduceMul, reduceCtorEq, Nat.reduceLeDiff]
  refine ⟨_, hd _, ?_⟩
  by_cases h0 : ¬ (dec l).2 = 0
  · have e : decR l = (rep0D, (dec l).2) := if_neg h0
    simp only [h0, e, decide_false, Bool.not_false, TT, ↓reduceIte, Nat.reduceEqDiff, Nat.reduceAdd, Nat.reduceMul, reduceCtorEq, Nat.reduceLeDiff]
    exact Ends.imp (.inr rfl) (r0 := .tup [.agg [.v (.int .i64 0), .v (.int .i64 0), .v (.slice none 0 0), .v (.slice none 0 0)], .v (.int .i64 (dec l).2)]) (by simp [ET]) ⟨⟨trivial, trivial, trivial, trivial, trivial⟩, trivial, trivial⟩ (impRep _)
  replace h0 : (dec l).2 = 0 := Decidable.not_not.1 h0
  have e : decR l = repOf (dec l).1 := if_pos h0
  rw [e]
  simp only [h0, decide_true, Bool.not_true, TT, ↓reduceIte, Nat.reduceEqDiff, Nat.reduceAdd, Nat.reduceMul, reduceCtorEq, Nat.reduceLeDiff]
  generalize (dec l).1 = R at hf1 hf2 ⊢
  obtain ⟨k, ns, ts⟩ := R
  simp only at hf1 hf2
  by_cases hk : ¬ k = 0
  · have e3 : repOf ⟨k, ns, ts⟩ = (rep0D, 22) := if_neg hk
    simp only [hk, e3, decide_false, Bool.not_false, TT, ↓reduceIte, Nat.reduceEqDiff, Nat.reduceAdd, Nat.reduceMul, reduceCtorEq, Nat.reduceLeDiff]
    exact Ends.imp (.inr rfl) (r0 := .tup [.agg [.v (.int .i64 0), .v (.int .i64 0), .v (.slice none 0 0), .v (.slice none 0 0)], .v (.int .i64 22)]) (by simp [ET]) ⟨⟨trivial, trivial, trivial, trivial, trivial⟩, trivial, trivial⟩ (impRep _)
  replace hk : k = 0 := Decidable.not_not.1 hk
  subst hk
  by_cases h2 : ¬ ns.length = 2
  · have g : ((ns.length : Int) = 2) = False := eq_false (by omega)
    have e3 : repOf ⟨0, ns, ts⟩ = (rep0D, 3) := repOf_bad rfl (fun h9 => h2 h9.1)
    simp only [g, e3, decide_true, decide_false, Bool.not_true, Bool.not_false, TT, ↓reduceIte, Nat.reduceEqDiff, Nat.reduceAdd, Nat.reduceMul, reduceCtorEq, Nat.reduceLeDiff]
    exact Ends.imp (.inr rfl) (r0 := .tup [.agg [.v (.int .i64 0), .v (.int .i64 0), .v (.slice none 0 0), .v (.slice none 0 0)], .v (.int .i64 3)]) (by simp [ET]) ⟨⟨trivial, trivial, trivial, trivial, trivial⟩, trivial, trivial⟩ (impRep _)
  replace h2 : ns.length = 2 := Decidable.not_not.1 h2
  have g2 : ((ns.length : Int) = 2) = True := eq_true (by omega)
  by_cases h3 : ts.length = 0
  · have g : ((ts.length : Int) = 0) = True := eq_true (by omega)
    have e3 : repOf ⟨0, ns, ts⟩ = (rep0D, 3) := repOf_bad rfl (fun h9 => h9.2 h3)
    simp only [g, g2, e3, decide_true, decide_false, Bool.not_true, Bool.not_false, TT, ↓reduceIte, Nat.reduceEqDiff, Nat.reduceAdd, Nat.reduceMul, reduceCtorEq, Nat.reduceLeDiff]
    exact Ends.imp (.inr rfl) (r0 := .tup [.agg [.v (.int .i64 0), .v (.int .i64 0), .v (.slice none 0 0), .v (.slice none 0 0)], .v (.int .i64 3)]) (by simp [ET]) ⟨⟨trivial, trivial, trivial, trivial, trivial⟩, trivial, trivial⟩ (impRep _)
  obtain ⟨a, b, rfl⟩ := len2 h2
  obtain ⟨d, ts, rfl⟩ : ∃ d r, ts = d :: r := by
    cases ts with
    | nil => exact absurd rfl h3
    | cons d r => exact ⟨d, r, rfl⟩
  have ha : i64ok a := hf2 a (by simp)
  have hbb : i64ok b := hf2 b (by simp)
  have hts : ts.length ≤ 63 := by simp at hf1; omega
  have g3 : (((ts.length + 1 : Nat) : Int) = 0) = False := eq_false (by omega)
  have eT : eL true (d :: ts) = .fs true (eB d) d.length :: eL true ts := by simp [eL, fB]
  have eN : eI [a, b] = [.v (.int .i64 a), .v (.int .i64 b)] := by simp [eI]
  have c2 : (([a, b].length : Nat) : Int) = 2 := rfl
  have lc : (d :: ts).length = ts.length + 1 := List.length_cons
  have z0 : ((0 : Int) ≤ 0) = True := eq_true (by decide)
  have z1 : ((0 : Int) ≤ 1) = True := eq_true (by decide)
  have l2 : ((0 : Int) < 2) = True := eq_true (by decide)
  have l2' : ((1 : Int) < 2) = True := eq_true (by decide)
  have l3 : ((0 : Int) < ((ts.length + 1 : Nat) : Int)) = True := eq_true (by omega)
  have l4 : ((1 : Int) ≤ ((ts.length + 1 : Nat) : Int)) = True := eq_true (by omega)
  have t1 : Int.toNat 1 = 1 := rfl
  have htk9 : List.take ts.length (eL true ts) = eL true ts := List.take_of_length_le (by rw [len_L]; exact Nat.le_refl _)
  have eo : repOf ⟨0, [a, b], d :: ts⟩ = if repChk ⟨a, b, d, ts.map strOf⟩ = 0 then (⟨a, b, d, ts.map strOf⟩, 0) else (rep0D, repChk ⟨a, b, d, ts.map strOf⟩) := rfl
  rw [eo]
  simp only [c2, g3, eT, eN, z0, z1, l2, l2', l3, l4, t1, lc, htk9, List.drop_succ_cons, List.drop_zero, Nat.add_sub_cancel, and_self, Int.toNat_zero, List.getElem?_cons_zero, List.getElem?_cons_succ, decide_true, decide_false, Bool.not_true, TT, ↓reduceIte, Nat.reduceEqDiff, Nat.reduceAdd, Nat.reduceMul, reduceCtorEq, Nat.reduceLeDiff]
  refine ⟨by rfl, ?_⟩
  have fin : ∀ (x : RepD), x = ⟨a, b, d, ts.map strOf⟩ → (encRep x).2 = repChk x := fun x hx => encRep_err (by rw [hx]; simpa using hts)
  refine AWc.family (L_rd a b d ts) (fun i => i ≤ ts.length) (fun i => ts.length - i) 0 (Nat.zero_le _) ?_ ?_
  · refine Weak.calc [(0, 0), (4100000, 1)] (by decide) ?_ ?_ <;> simp [WT, L_rd, al_L, ren_L, fL]
  · intro i hi
    by_cases hlt : i < ts.length
    · obtain ⟨t, hx, e1, e0⟩ := lt_at hlt
      cases i with
      | zero =>
        have e1' : ((0 : Int) < (ts.length : Int)) = True := eq_true (by omega)
        have hx0 : (eL true ts)[0]? = some (.fs true (eB t) t.length) := by have := at_Ls (fr := true) hx; exact this
        simp only [L_rd, fL, fB, e1', z0, hx0, Int.toNat_zero, ↓bytesOf_B, len_B, TT, ↓reduceIte, Nat.reduceEqDiff, Nat.reduceAdd, Nat.reduceMul, reduceCtorEq, Nat.reduceLeDiff]
        refine famC_next 1 (by omega) (by omega) ?_
        have w0 : IntKind.i64.wrap 1 = 1 := by rfl
        have ht1 : ts.take 1 = [t] := by
          cases ts with
          | nil => cases hx
          | cons u v => simp at hx; simp [hx]
        have hmap : List.take 1 (List.map ((fun s => AV.v (Value.string s)) ∘ strOf) ts) = [AV.v (.string (strOf t))] := by rw [← List.map_take, ht1]; rfl
        refine Weak.calc [(0, 0), (1, 1), (900003, 2)] (by decide) ?_ ?_ <;> simp [WT, L_rd, w0, hmap, eS, al_L, ren_L, fL, wrap64 (x := (0 : Int) + 1) (by omega)]
      | succ i =>
        have hl := nm_len hi
        simp only [L_rd, fL, fB, e1, e0, at_Ls hx, Int.toNat_natCast, ↓bytesOf_B, len_B, hl, nm_s hx, TT, ↓reduceIte, Nat.reduceEqDiff, Nat.reduceAdd, Nat.reduceMul, reduceCtorEq, Nat.reduceLeDiff]
        rw [if_pos (by omega)]
        refine famC_next (i + 2) (by omega) (by omega) ?_
        refine Weak.calc [(0, 0), (1, 1), (900003, 2)] (by decide) ?_ ?_ <;> simp [WT, L_rd, al_L, ren_L, fL, al_S, ren_S, wrap64 (x := (i : Int) + 1 + 1) (by omega)]
    · obtain rfl : i = ts.length := by omega
      cases ts with
      | nil =>
        have hE := fun nb => repE_0 true a b d nb ha hbb
        have hq := fin ⟨a, b, d, []⟩ rfl
        have z9 : ((0 : Int) < 0) = False := eq_false (by decide)
        simp only [fB, hq] at hE
        simp only [List.length_nil, L_rd, Int.natCast_zero, fB, fL, z9, decide_false, TT, ↓reduceIte, Nat.reduceEqDiff, Nat.reduceAdd, Nat.reduceMul, reduceCtorEq, Nat.reduceLeDiff]
        refine ⟨_, hE _, ?_⟩
        by_cases h9 : repChk ⟨a, b, d, []⟩ = 0
        · simp only [List.map_nil, h9, decide_true, Bool.not_true, if_true, TT, ↓reduceIte, Nat.reduceEqDiff, Nat.reduceAdd, Nat.reduceMul, reduceCtorEq, Nat.reduceLeDiff]
          exact Ends.imp (.inr rfl) (r0 := .tup [.agg [.v (.int .i64 a), .v (.int .i64 b), .fs true (eB d) d.length, .v (.slice none 0 0)], .v (.int .i64 0)]) (by simp [ET]) ⟨⟨trivial, trivial, al_B _, trivial, trivial⟩, trivial, trivial⟩
            (Imp.tupL ⟨Imp.aggL ⟨Imp.refl _, Imp.refl _, Imp.refl _, Imp.nil true, trivial⟩, Imp.refl _, trivial⟩)
        · simp only [List.map_nil, h9, decide_false, Bool.not_false, if_false, TT, ↓reduceIte, Nat.reduceEqDiff, Nat.reduceAdd, Nat.reduceMul, reduceCtorEq, Nat.reduceLeDiff]
          exact Ends.imp (.inr rfl) (r0 := .tup [.agg [.v (.int .i64 0), .v (.int .i64 0), .v (.slice none 0 0), .v (.slice none 0 0)], .v (.int .i64 (repChk ⟨a, b, d, []⟩))]) (by simp [ET]) ⟨⟨trivial, trivial, trivial, trivial, trivial⟩, trivial, trivial⟩ (impRep _)
      | cons u v =>
        have hE := fun nb => repE_b true ⟨a, b, d, strOf u :: v.map strOf⟩ 2 nb ha hbb (by simp; simp at hts; omega) (by simp)
        have hq := fin ⟨a, b, d, strOf u :: v.map strOf⟩ rfl
        have htk : (u :: v).take (v.length + 1) = u :: v := List.take_of_length_le (by simp)
        have hln : ((strOf u :: v.map strOf)).length = v.length + 1 := by simp
        have z9 : (((v.length + 1 : Nat) : Int) < ((v.length + 1 : Nat) : Int)) = False := eq_false (by omega)
        simp only [fB, hq, hln, rowsM] at hE
        have em : (u :: v).map strOf = (strOf u :: v.map strOf) := rfl
        rw [em]
        simp only [List.length_cons, L_rd, fB, fL, z9, htk, decide_false, TT, ↓reduceIte, Nat.reduceEqDiff, Nat.reduceAdd, Nat.reduceMul, reduceCtorEq, Nat.reduceLeDiff]
        refine ⟨_, hE _, ?_⟩
        by_cases h9 : repChk ⟨a, b, d, strOf u :: v.map strOf⟩ = 0
        · simp only [h9, decide_true, Bool.not_true, if_true, TT, ↓reduceIte, Nat.reduceEqDiff, Nat.reduceAdd, Nat.reduceMul, reduceCtorEq, Nat.reduceLeDiff]
          refine Ends.weak (Weak.freezeC 2 rfl (l := [(2, .op 0 0), (3, .v (.int .i64 0))]) (h := [(0, .row true 57 [.v (.int .i64 a), .v (.int .i64 b), .fs true (eB d) d.length, .fs true (eS ((strOf u :: v.map strOf))) (v.length + 1)])]) ?_ ?_) (Ends.data (.inr rfl) (by simp [ET, aRep, fB, fS]) ⟨al_aRep (fr := true) ⟨a, b, d, strOf u :: v.map strOf⟩, trivial, trivial⟩)
          · simp [WT]
          · have htk2 : List.take (v.length + 1) (eS ((strOf u :: v.map strOf))) = eS ((strOf u :: v.map strOf)) := List.take_of_length_le (by rw [len_S, hln]; exact Nat.le_refl _)
            simp [WT, htk2]
        · simp only [h9, decide_false, Bool.not_false, if_false, TT, ↓reduceIte, Nat.reduceEqDiff, Nat.reduceAdd, Nat.reduceMul, reduceCtorEq, Nat.reduceLeDiff]
          exact Ends.imp (.inr rfl) (r0 := .tup [.agg [.v (.int .i64 0), .v (.int .i64 0), .v (.slice none 0 0), .v (.slice none 0 0)], .v (.int .i64 (repChk ⟨a, b, d, strOf u :: v.map strOf⟩))]) (by simp [ET]) ⟨⟨trivial, trivial, trivial, trivial, trivial⟩, trivial, trivial⟩ (impRep _)
end Go.Proofs.YtonglhkiobibgaaGreatDoor
namespace Go.Proofs.YtonglhkiobibgaaGreatDoor
open Go.RowKit
set_option maxRecDepth 100000
end Go.Proofs.YtonglhkiobibgaaGreatDoor
namespace Go.Proofs.YtonglhkiobibgaaGreatDoor
open Go.RowKit
set_option maxRecDepth 100000
theorem encRep_len {r : RepD} (h1 : i64ok r.err) (h2 : i64ok r.n) : (encRep r).1.length ≤ 300004 := by
  rw [encRep]
  split
  · exact encode_len (by intro n hn; simp [repRec] at hn; rcases hn with rfl | rfl <;> assumption)
  · simp
end Go.Proofs.YtonglhkiobibgaaGreatDoor
namespace Go.Proofs.YtonglhkiobibgaaGreatDoor
open Go.RowKit
theorem scGrp_gp : ∀ (k m acc : Nat) (r : List Int), m * 128 ^ k < 18446744073709551616 → (0 < k → 0 < m) → k ≤ 9 → scGrp k acc (gp m ++ r) = (acc + m * 128 ^ k, 0, r) := by
  have key : ∀ (f k m acc : Nat) (r : List Int), m ≤ f → m * 128 ^ k < 18446744073709551616 → (0 < k → 0 < m) → k ≤ 9 → scGrp k acc (gp m ++ r) = (acc + m * 128 ^ k, 0, r) := by
    intro f
    induction f with
    | zero =>
      intro k m acc r hm h1 h2 h3
      obtain rfl : m = 0 := by omega
      have hk : ¬ 0 < k := fun h => by have := h2 h; omega
      obtain rfl : k = 0 := by omega
      rw [gp_small (by decide)]
      show scGrp 0 acc ((0 : Int) :: r) = _
      rw [scGrp, if_neg (by omega), if_pos (by omega)]
      simp
    | succ f ih =>
      intro k m acc r hm h1 h2 h3
      by_cases hs : m < 128
      · rw [gp_small hs]
        show scGrp k acc ((m : Int) :: r) = _
        have c1 : ¬ ((k = 9 ∧ (1 : Int) < (m : Int)) ∨ (0 < k ∧ (m : Int) = 0)) := by
          rintro (⟨rfl, h⟩ | ⟨h, h'⟩)
          · have : 2 ≤ m := by omega
            have : 2 * 128 ^ 9 ≤ m * 128 ^ 9 := Nat.mul_le_mul_right _ this
            have : (2 * 128 ^ 9 : Nat) = 18446744073709551616 := by decide
            omega
          · have := h2 h; omega
        rw [scGrp, if_neg c1, if_pos (by omega), pow7]
        rw [show ((m : Int) % 128).toNat = m from by omega]
      · rw [gp_big hs]
        have hk9 : k ≠ 9 := by
          rintro rfl
          have : 128 * 128 ^ 9 ≤ m * 128 ^ 9 := Nat.mul_le_mul_right _ (by omega)
          have : (128 * 128 ^ 9 : Nat) = 1180591620717411303424 := by decide
          omega
        rw [List.cons_append, scGrp, if_neg (by omega), if_neg (by omega), pow7]
        have hmd : m / 128 * 128 ^ (k + 1) ≤ m * 128 ^ k := by
          rw [Nat.pow_succ, Nat.mul_comm (128 ^ k) 128, ← Nat.mul_assoc]
          exact Nat.mul_le_mul_right _ (Nat.div_mul_le_self m 128)
        rw [ih (k + 1) (m / 128) _ r (by omega) (by omega) (by omega) (by omega)]
        have e1 : (((m % 128 + 128 : Nat) : Int) % 128).toNat = m % 128 := by omega
        rw [e1]
        congr 1
        rw [Nat.pow_succ, Nat.mul_comm (128 ^ k) 128, ← Nat.mul_assoc, Nat.add_assoc, ← Nat.add_mul]
        congr 2
        omega
  exact fun k m acc r h1 h2 h3 => key m k m acc r (Nat.le_refl _) h1 h2 h3
theorem unzz_zz (n : Int) : unzz (zz n) = n := by
  unfold unzz zz
  by_cases h : 0 ≤ n
  · rw [if_pos h, if_pos (by omega)]; omega
  · rw [if_neg h, if_neg (by omega)]; omega
theorem scGrp_0 {m : Nat} (h : m < 18446744073709551616) (r : List Int) : scGrp 0 0 (gp m ++ r) = (m, 0, r) := by
  rw [scGrp_gp 0 m 0 r (by simpa using h) (by omega) (by omega)]; simp
theorem scNum_gp {n : Int} (h : i64ok n) (r : List Int) : scNum (gp (zz n) ++ r) = (n, 0, r) := by
  unfold scNum; rw [scGrp_0 (zz_lt h)]; simp only [unzz_zz]
theorem scText_enc {t : List Int} (h : t.length ≤ 4096) (r : List Int) : scText (encT t ++ r) = (t, 0, r) := by
  unfold scText encT
  rw [List.append_assoc, scGrp_0 (by omega)]
  simp only
  rw [if_neg (by simp), if_neg (by omega), if_neg (by simp), List.take_left, List.drop_left]
theorem scMany_all {α : Type} {f : List Int → α × Int × List Int} {e : α → List Int} : ∀ (l : List α) (r : List Int), (∀ a ∈ l, ∀ r, f (e a ++ r) = (a, 0, r)) → scMany f l.length (l.flatMap e ++ r) = (l, 0, r)
  | [], r, _ => rfl
  | a :: l, r, h => by
    rw [List.length_cons, List.flatMap_cons, List.append_assoc, scMany, h a (by simp) _, if_neg (by simp)]
    simp only
    rw [scMany_all l r fun b hb => h b (by simp [hb])]
theorem scList_all {α : Type} {f : List Int → α × Int × List Int} {e : α → List Int} (l : List α) (r : List Int) (hl : l.length ≤ 64) (h : ∀ a ∈ l, ∀ r, f (e a ++ r) = (a, 0, r)) : scList f ((l.length : Int) :: (l.flatMap e ++ r)) = (l, 0, r) := by
  unfold scList scCnt scOct
  simp only
  rw [if_neg (by simp; omega), Int.toNat_natCast, scMany_all l r h]
theorem scRec_enc {r : Rec} (h : okR r) (hn : ∀ n ∈ r.nums, i64ok n) : scRec (encR r) = (r, 0) := by
  have hm := h.many
  unfold scRec encR
  simp only [List.cons_append, List.nil_append, scOct, ne_eq, not_true_eq_false, if_false]
  have h1 := scList_all (f := scNum) (e := fun n => gp (zz n)) r.nums ((r.texts.length : Int) :: r.texts.flatMap encT) (by omega) (fun n hn' r => scNum_gp (hn n hn') r)
  have h2 := scList_all (f := scText) (e := encT) r.texts [] (by omega) (fun t ht r => scText_enc (by have := h.short t ht; omega) r)
  rw [List.append_nil] at h2
  unfold scNums scTexts
  simp [h1, h2]
theorem open_seal (l : List Int) : openB (sealB l) = (l, 0) := by
  unfold openB sealB
  rw [List.length_append, low_length, if_neg (by omega), show l.length + 4 - 4 = l.length from by omega, List.drop_left, List.take_left, if_pos rfl]
theorem dec_enc {r : Rec} (h : okR r) (hn : ∀ n ∈ r.nums, i64ok n) : dec (sealB (encR r)) = (r, 0) := by
  unfold dec
  rw [open_seal, if_neg (by simp)]
  exact scRec_enc h hn
theorem zz_unzz (m : Nat) : zz (unzz m) = m := by
  unfold zz unzz
  by_cases h : m % 2 = 0
  · rw [if_pos h, if_pos (by omega)]; omega
  · rw [if_neg h, if_neg (by omega)]; omega
theorem scGrp_inv : ∀ (l : List Int) (k acc : Nat), okB l → k ≤ 9 → (scGrp k acc l).2.1 = 0 → ∃ m, (scGrp k acc l).1 = acc + m * 128 ^ k ∧ l = gp m ++ (scGrp k acc l).2.2 ∧ (0 < k → 0 < m)
  | [], k, acc, _, _, h => by cases h
  | x :: r, k, acc, hb, hk, h => by
    have hx := hb x (by simp)
    rw [scGrp] at h ⊢
    by_cases c1 : (k = 9 ∧ 1 < x) ∨ (0 < k ∧ x = 0)
    · rw [if_pos c1] at h; cases h
    rw [if_neg c1] at h ⊢
    by_cases c2 : x < 128
    · rw [if_pos c2] at h ⊢
      refine ⟨x.toNat, ?_, ?_, fun h0 => ?_⟩
      · rw [pow7, show (x % 128).toNat = x.toNat from by omega]
      · rw [gp_small (by omega)]
        show x :: r = [((x.toNat : Nat) : Int)] ++ r
        rw [Int.toNat_of_nonneg hx.1]; rfl
      · have : x ≠ 0 := fun h9 => c1 (.inr ⟨h0, h9⟩)
        omega
    · rw [if_neg c2] at h ⊢
      have hk9 : k ≠ 9 := fun h9 => c1 (.inl ⟨h9, by omega⟩)
      obtain ⟨m, e1, e2, e3⟩ := scGrp_inv r (k + 1) _ (fun y hy => hb y (by simp [hy])) (by omega) h
      have hm := e3 (by omega)
      refine ⟨(x % 128).toNat + 128 * m, ?_, ?_, fun _ => by omega⟩
      · rw [e1, pow7, Nat.pow_succ, Nat.add_mul, Nat.mul_comm (128 ^ k) 128, Nat.add_assoc, Nat.mul_comm 128 m, Nat.mul_assoc]
      · rw [gp_big (by omega), show ((x % 128).toNat + 128 * m) / 128 = m from by omega, show (((((x % 128).toNat + 128 * m) % 128 + 128 : Nat)) : Int) = x from by omega]
        show x :: r = x :: (gp m ++ _)
        rw [← e2]
theorem scNum_inv {l : List Int} (hb : okB l) (h : (scNum l).2.1 = 0) : l = gp (zz (scNum l).1) ++ (scNum l).2.2 := by
  obtain ⟨m, e1, e2, _⟩ := scGrp_inv l 0 0 hb (by omega) h
  show l = gp (zz (unzz (scGrp 0 0 l).1)) ++ (scGrp 0 0 l).2.2
  rw [zz_unzz, e1]
  simpa using e2
theorem scText_inv {l : List Int} (hb : okB l) (h : (scText l).2.1 = 0) : l = encT (scText l).1 ++ (scText l).2.2 := by
  unfold scText at h ⊢
  by_cases c1 : (scGrp 0 0 l).2.1 ≠ 0
  · rw [if_pos c1] at h; exact absurd h c1
  rw [if_neg c1] at h ⊢
  by_cases c2 : 4096 < (scGrp 0 0 l).1
  · rw [if_pos c2] at h; cases h
  rw [if_neg c2] at h ⊢
  by_cases c3 : (scGrp 0 0 l).2.2.length < (scGrp 0 0 l).1
  · rw [if_pos c3] at h; cases h
  rw [if_neg c3]
  obtain ⟨m, e1, e2, _⟩ := scGrp_inv l 0 0 hb (by omega) (Decidable.not_not.1 c1)
  generalize scGrp 0 0 l = q at *
  obtain ⟨v, e, r⟩ := q
  simp only at *
  have hv : v = m := by simpa using e1
  subst hv
  show l = (gp (r.take v).length ++ r.take v) ++ r.drop v
  rw [List.length_take, Nat.min_eq_left (by omega), List.append_assoc, List.take_append_drop]
  exact e2
theorem scMany_inv {α : Type} {f : List Int → α × Int × List Int} {e : α → List Int} (hf : ∀ l, okB l → (f l).2.1 = 0 → l = e (f l).1 ++ (f l).2.2) (hr : ∀ l, ∃ n, (f l).2.2 = l.drop n) : ∀ (k : Nat) (l : List Int), okB l → (scMany f k l).2.1 = 0 → l = (scMany f k l).1.flatMap e ++ (scMany f k l).2.2 ∧ (scMany f k l).1.length = k
  | 0, l, _, _ => ⟨rfl, rfl⟩
  | k + 1, l, hb, h => by
    rw [scMany] at h ⊢
    by_cases c : (f l).2.1 ≠ 0
    · rw [if_pos c] at h; exact absurd h c
    rw [if_neg c] at h ⊢
    obtain ⟨e1, e2⟩ := scMany_inv hf hr k (f l).2.2 (okB_sc hb (hr l)) h
    have e3 := hf l hb (Decidable.not_not.1 c)
    refine ⟨?_, ?_⟩
    · show l = (_ :: _).flatMap e ++ _
      rw [List.flatMap_cons, List.append_assoc, ← e1]
      exact e3
    · show (_ :: _).length = _
      rw [List.length_cons, e2]
theorem scList_inv {α : Type} {f : List Int → α × Int × List Int} {e : α → List Int} (hf : ∀ l, okB l → (f l).2.1 = 0 → l = e (f l).1 ++ (f l).2.2) (hr : ∀ l, ∃ n, (f l).2.2 = l.drop n) {l : List Int} (hb : okB l) (h : (scList f l).2.1 = 0) :
    l = ((scList f l).1.length : Int) :: ((scList f l).1.flatMap e ++ (scList f l).2.2) := by
  unfold scList at h ⊢
  by_cases c : (scCnt l).2.1 ≠ 0
  · rw [if_pos c] at h; exact absurd h c
  rw [if_neg c] at h ⊢
  replace c : (scCnt l).2.1 = 0 := Decidable.not_not.1 c
  cases l with
  | nil => cases c
  | cons x r =>
    have hx := hb x (by simp)
    have hb2 : okB r := fun y hy => hb y (by simp [hy])
    have hc1 : (scCnt (x :: r)).1 = x := rfl
    have hc2 : (scCnt (x :: r)).2.2 = r := rfl
    rw [hc1, hc2] at h ⊢
    obtain ⟨e1, e2⟩ := scMany_inv hf hr x.toNat r hb2 h
    rw [e2, ← e1, Int.toNat_of_nonneg hx.1]
theorem scRec_inv {l : List Int} (hb : okB l) (h : (scRec l).2 = 0) : encR (scRec l).1 = l := by
  unfold scRec at h ⊢
  simp only at h ⊢
  by_cases c1 : (scOct l).2.1 ≠ 0
  · rw [if_pos c1] at h; exact absurd h c1
  rw [if_neg c1] at h ⊢
  by_cases c2 : (scNums (scOct l).2.2).2.1 ≠ 0
  · rw [if_pos c2] at h; exact absurd h c2
  rw [if_neg c2] at h ⊢
  by_cases c3 : (scTexts (scNums (scOct l).2.2).2.2).2.1 ≠ 0
  · rw [if_pos c3] at h; exact absurd h c3
  rw [if_neg c3] at h ⊢
  by_cases c4 : 0 < (scTexts (scNums (scOct l).2.2).2.2).2.2.length
  · rw [if_pos c4] at h; cases h
  rw [if_neg c4]
  cases l with
  | nil => exact absurd (show (scOct []).2.1 ≠ 0 by decide) c1
  | cons x r =>
    have hb2 : okB r := fun y hy => hb y (by simp [hy])
    have ho : (scOct (x :: r)).2.2 = r := rfl
    have ho1 : (scOct (x :: r)).1 = x := rfl
    rw [ho] at c2 c3 c4 ⊢
    rw [ho1]
    have e1 := scList_inv (f := scNum) (e := fun n => gp (zz n)) (fun l hb h => scNum_inv hb h) scNum_rest hb2 (Decidable.not_not.1 c2)
    have hb3 : okB (scNums r).2.2 := okB_sc hb2 (scList_rest scNum_rest r)
    have e2 := scList_inv (f := scText) (e := encT) (fun l hb h => scText_inv hb h) scText_rest hb3 (Decidable.not_not.1 c3)
    have e3 : (scTexts (scNums r).2.2).2.2 = [] := List.eq_nil_of_length_eq_zero (by omega)
    show [x, ((scNums r).1.length : Int)] ++ (scNums r).1.flatMap (fun n => gp (zz n)) ++ (((scTexts (scNums r).2.2).1.length : Int) :: (scTexts (scNums r).2.2).1.flatMap encT) = x :: r
    have e4 : (scTexts (scNums r).2.2).2.2 = (scList scText (scNums r).2.2).2.2 := rfl
    rw [← e4, e3, List.append_nil] at e2
    have e5 : ((scTexts (scNums r).2.2).1.length : Int) :: (scTexts (scNums r).2.2).1.flatMap encT = (scNums r).2.2 := e2.symm
    rw [e5]
    have e6 : r = ((scNums r).1.length : Int) :: ((scNums r).1.flatMap (fun n => gp (zz n)) ++ (scNums r).2.2) := e1
    conv => rhs; rw [e6]
    simp
theorem seal_open {l : List Int} (h : (openB l).2 = 0) : sealB (openB l).1 = l := by
  unfold openB at h ⊢
  by_cases c1 : l.length < 4
  · rw [if_pos c1] at h; cases h
  rw [if_neg c1] at h ⊢
  by_cases c2 : l.drop (l.length - 4) = low4 (crc (l.take (l.length - 4)))
  · rw [if_pos c2]
    show l.take (l.length - 4) ++ low4 (crc (l.take (l.length - 4))) = l
    rw [← c2, List.take_append_drop]
  · rw [if_neg c2] at h; cases h
theorem dec_inv {l : List Int} (hb : okB l) (h : (dec l).2 = 0) : sealB (encR (dec l).1) = l := by
  unfold dec at h ⊢
  by_cases c : (openB l).2 ≠ 0
  · rw [if_pos c] at h; exact absurd h c
  rw [if_neg c] at h ⊢
  rw [scRec_inv (okB_open hb) h, seal_open (Decidable.not_not.1 c)]
/-- the texts that are read are octets -/
theorem dec_texts {l : List Int} (hb : okB l) (h : (dec l).2 = 0) : ∀ t ∈ (dec l).1.texts, okB t := by
  intro t ht x hx
  refine hb x ?_
  rw [← dec_inv hb h]
  unfold sealB encR
  refine List.mem_append_left _ (List.mem_append_right _ (List.mem_cons_of_mem _ (List.mem_flatMap.2 ⟨t, ht, ?_⟩)))
  exact List.mem_append_right _ hx
theorem strOf_octL (s : ByteArray) : strOf (octL s) = s := by
  apply ByteArray.ext
  apply Array.ext'
  rw [strOf_data, octL, List.map_map]
  conv => rhs; rw [← List.map_id s.data.toList]
  apply List.map_congr_left
  intro b _
  simp
theorem octL_strOf {l : List Int} (hb : okB l) : octL (strOf l) = l := by
  rw [octL, strOf_data, List.map_map]
  conv => rhs; rw [← List.map_id l]
  apply List.map_congr_left
  intro x hx
  have := hb x hx
  simp only [Function.comp, id]
  rw [UInt8.toNat_ofNat_of_lt' (by show x.toNat < 256; omega)]
  omega
theorem opRec_ok {o : OpD} (h : opChk o = 0) : okR (opRec o) := by
  unfold opChk at h
  by_cases c1 : o.kind < 1 ∨ 12 < o.kind
  · rw [if_pos c1] at h; cases h
  rw [if_neg c1] at h
  by_cases c2 : 255 < o.path.size ∨ 255 < o.to.size ∨ 4096 < o.data.length
  · rw [if_pos c2] at h; cases h
  refine ⟨by show ¬ (o.kind < 0 ∨ 255 < o.kind); omega, by simp [opRec], fun t ht => ?_⟩
  simp only [opRec, List.mem_cons, List.not_mem_nil, or_false] at ht
  rcases ht with rfl | rfl | rfl
  · rw [octL_len]; omega
  · rw [octL_len]; omega
  · omega
theorem encO_ok {o : OpD} (h : opChk o = 0) : encO o = (sealB (encR (opRec o)), 0) := by
  rw [encO, if_pos h, encode, if_pos ((okR_iff _).2 (opRec_ok h))]
/-- an op that may be is read back -/
theorem decO_encO {o : OpD} (h : opChk o = 0) (h1 : i64ok o.off) (h2 : i64ok o.n) : decO (encO o).1 = (o, 0) := by
  have hd : dec (encO o).1 = (opRec o, 0) := by
    rw [encO_ok h]
    exact dec_enc (opRec_ok h) (by intro n hn; simp [opRec] at hn; rcases hn with rfl | rfl <;> assumption)
  unfold decO
  rw [hd, if_pos rfl]
  show (if opChk ⟨o.kind, strOf (octL o.path), strOf (octL o.to), o.off, o.n, o.data⟩ = 0 then _ else _) = _
  rw [strOf_octL, strOf_octL]
  exact if_pos h
/-- what is read is built again -/
theorem encO_decO {l : List Int} (hb : okB l) (h : (decO l).2 = 0) : encO (decO l).1 = (l, 0) := by
  unfold decO at h ⊢
  by_cases c : (dec l).2 = 0
  · rw [if_pos c] at h ⊢
    have ht := dec_texts hb c
    have hi := dec_inv hb c
    generalize (dec l).1 = R at *
    obtain ⟨k, ns, ts⟩ := R
    by_cases h9 : ns.length = 2 ∧ ts.length = 3
    · obtain ⟨a, b, rfl⟩ := len2 h9.1
      obtain ⟨p, q, d, rfl⟩ := len3 h9.2
      have eo : opOf ⟨k, [a, b], [p, q, d]⟩ = if opChk ⟨k, strOf p, strOf q, a, b, d⟩ = 0 then (⟨k, strOf p, strOf q, a, b, d⟩, 0) else (op0D, opChk ⟨k, strOf p, strOf q, a, b, d⟩) := rfl
      rw [eo] at h ⊢
      by_cases hc : opChk ⟨k, strOf p, strOf q, a, b, d⟩ = 0
      · rw [if_pos hc]
        show encO ⟨k, strOf p, strOf q, a, b, d⟩ = _
        rw [encO_ok hc]
        have e : opRec ⟨k, strOf p, strOf q, a, b, d⟩ = ⟨k, [a, b], [p, q, d]⟩ := by
          show Rec.mk k [a, b] [octL (strOf p), octL (strOf q), d] = _
          rw [octL_strOf (ht p (by simp)), octL_strOf (ht q (by simp))]
        rw [e, hi]
      · rw [if_neg hc] at h; exact absurd h hc
    · rw [opOf_bad h9] at h; cases h
  · rw [if_neg c] at h; exact absurd h c
theorem decO_bad {l : List Int} (h : (decO l).2 ≠ 0) : (decO l).1 = op0D := by
  unfold decO at h ⊢
  split at h
  · rename_i c
    rw [if_pos c]
    unfold opOf at h ⊢
    split at h
    · split at h
      · exact absurd rfl h
      · rename_i hc; simp only [hc, if_false]
    · rfl
  · rename_i c; rw [if_neg c]
theorem encO_err {o : OpD} : (encO o).2 = opChk o := by
  by_cases h : opChk o = 0
  · rw [encO_ok h, h]
  · rw [encO, if_neg h]
theorem repRec_ok {r : RepD} (h : (encRep r).2 = 0) : repChk r = 0 ∧ okR (repRec r) := by
  unfold encRep at h
  by_cases c : repChk r = 0
  · rw [if_pos c] at h
    refine ⟨c, okR_of ?_⟩
    unfold encode at h
    by_cases c2 : recE (repRec r) = 0
    · exact c2
    · rw [if_neg c2] at h; exact h
  · rw [if_neg c] at h; exact absurd h c
/-- a reply that may be is read back -/
theorem decR_encRep {r : RepD} (h : (encRep r).2 = 0) (h1 : i64ok r.err) (h2 : i64ok r.n) : decR (encRep r).1 = (r, 0) := by
  obtain ⟨hc, hr⟩ := repRec_ok h
  have hd : dec (encRep r).1 = (repRec r, 0) := by
    rw [encRep, if_pos hc, encode, if_pos ((okR_iff _).2 hr)]
    exact dec_enc hr (by intro n hn; simp [repRec] at hn; rcases hn with rfl | rfl <;> assumption)
  unfold decR
  rw [hd, if_pos rfl]
  show (if (0 : Int) = 0 then (if repChk ⟨r.err, r.n, r.data, (r.names.map octL).map strOf⟩ = 0 then _ else _) else _) = _
  have e : (r.names.map octL).map strOf = r.names := by
    rw [List.map_map]
    conv => rhs; rw [← List.map_id r.names]
    apply List.map_congr_left
    intro s _
    exact strOf_octL s
  rw [if_pos rfl, e, if_pos hc]
end Go.Proofs.YtonglhkiobibgaaGreatDoor
namespace Go.Proofs.YtonglhkiobibgaaGreatDoor
set_option maxRecDepth 100000
def ac_OB3 : AC :=
(.seq (.reg false [⟨some 64, .mv (.tmp 2), none, [2], []⟩,
    ⟨some 65, .call 45 [(.tmp 64)], none, [64], []⟩,
    ⟨some 63, .mv (.tmp 65), none, [65], []⟩,
    ⟨some 66, .ext 0 (.tmp 63), none, [63], []⟩,
    ⟨some 67, .ext 1 (.tmp 63), none, [63], []⟩,
    ⟨some 13, .new 55 [(.int .i64 (0)), (.string (ByteArray.mk #[])), (.string (ByteArray.mk #[])), (.int .i64 (0)), (.int .i64 (0)), (.slice none 0 0)], none, [], []⟩,
    ⟨none, .store 6 (.tmp 13) (.tmp 66), none, [13, 66], []⟩,
    ⟨some 14, .mv (.tmp 67), none, [67], []⟩] [2, 13, 14])
(.seq (.seq (.reg false [⟨some 68, .mv (.tmp 14), none, [14], []⟩,
    ⟨some 69, .call 35 [(.tmp 68)], none, [68], []⟩,
    ⟨some 70, .bin .neq (.tmp 69) (.const (.int .i64 (0))), none, [69], []⟩] [2, 13, 70])
(.cond (.tmp 70)
(.seq (.reg false [⟨some 71, .foff 0 (.tmp 13), none, [13], []⟩,
    ⟨some 72, .load false 1 (.tmp 71), none, [71], []⟩,
    ⟨some 73, .bin .eql (.tmp 72) (.const (.int .i64 (0))), none, [72], []⟩,
    ⟨some 6, .mv (.tmp 73), none, [73], []⟩] [6])
.ret)
.skip))
(.seq (.reg false [⟨some 75, .load true 6 (.tmp 13), none, [13], []⟩,
    ⟨some 76, .call 43 [(.tmp 75)], none, [75], []⟩,
    ⟨some 74, .mv (.tmp 76), none, [76], []⟩,
    ⟨some 77, .ext 0 (.tmp 74), none, [74], []⟩,
    ⟨some 78, .ext 1 (.tmp 74), none, [74], []⟩,
    ⟨some 15, .mv (.tmp 77), none, [77], []⟩,
    ⟨some 16, .mv (.tmp 78), none, [78], []⟩] [2, 15, 16])
(.seq (.reg false [⟨some 79, .mv (.tmp 16), none, [16], []⟩,
    ⟨some 80, .call 35 [(.tmp 79)], none, [79], []⟩,
    ⟨some 81, .bin .eql (.tmp 80) (.const (.int .i64 (0))), none, [80], []⟩,
    ⟨some 82, .mv (.tmp 81), none, [81], []⟩,
    ⟨some 83, .mv (.tmp 15), some (82, true), [15, 82], []⟩,
    ⟨some 84, .mv (.tmp 2), some (82, true), [2, 82], []⟩,
    ⟨some 85, .call 27 [(.tmp 83), (.tmp 84)], some (82, true), [83, 84, 82], []⟩,
    ⟨some 86, .pick (.tmp 82) (.tmp 85) (.const (.bool false)), none, [82, 85], []⟩,
    ⟨some 6, .mv (.tmp 86), none, [86], []⟩] [6])
.ret))))
def ac_OB2 : AC :=
(.seq (.reg false [⟨some 42, .load true 4 (.tmp 4), none, [4], []⟩,
    ⟨some 43, .call 51 [(.tmp 42)], none, [42], []⟩,
    ⟨some 41, .mv (.tmp 43), none, [43], []⟩,
    ⟨some 44, .ext 0 (.tmp 41), none, [41], []⟩,
    ⟨some 45, .ext 1 (.tmp 41), none, [41], []⟩,
    ⟨some 7, .mv (.tmp 44), none, [44], []⟩,
    ⟨some 8, .mv (.tmp 45), none, [45], []⟩] [2, 4, 7, 8])
(.seq (.seq (.reg false [⟨some 46, .mv (.tmp 8), none, [8], []⟩,
    ⟨some 47, .call 35 [(.tmp 46)], none, [46], []⟩,
    ⟨some 48, .bin .eql (.tmp 47) (.const (.int .i64 (0))), none, [47], []⟩] [2, 4, 7, 48])
(.cond (.tmp 48)
(.seq (.reg false [⟨some 50, .mv (.tmp 7), none, [7], []⟩,
    ⟨some 51, .call 53 [(.tmp 50)], none, [50], []⟩,
    ⟨some 49, .mv (.tmp 51), none, [51], []⟩,
    ⟨some 52, .ext 0 (.tmp 49), none, [49], []⟩,
    ⟨some 53, .ext 1 (.tmp 49), none, [49], []⟩,
    ⟨some 11, .new 57 [(.int .i64 (0)), (.int .i64 (0)), (.slice none 0 0), (.slice none 0 0)], none, [], []⟩,
    ⟨none, .store 4 (.tmp 11) (.tmp 52), none, [11, 52], []⟩,
    ⟨some 12, .mv (.tmp 53), none, [53], []⟩] [2, 4, 11, 12])
(.seq (.reg false [⟨some 54, .mv (.tmp 12), none, [12], []⟩,
    ⟨some 55, .call 35 [(.tmp 54)], none, [54], []⟩,
    ⟨some 56, .bin .neq (.tmp 55) (.const (.int .i64 (0))), none, [55], []⟩,
    ⟨some 57, .mv (.tmp 56), none, [56], []⟩,
    ⟨some 58, .load true 4 (.tmp 11), some (57, false), [11, 57], []⟩,
    ⟨some 59, .load true 4 (.tmp 4), some (57, false), [4, 57], []⟩,
    ⟨some 60, .call 40 [(.tmp 58), (.tmp 59)], some (57, false), [58, 59, 57], []⟩,
    ⟨some 61, .un .not (.tmp 60), some (57, false), [60, 57], []⟩,
    ⟨some 62, .pick (.tmp 57) (.const (.bool true)) (.tmp 61), none, [57, 61], []⟩] [2, 62])
(.cond (.tmp 62)
(.seq (.reg false [⟨some 6, .mv (.const (.bool false)), none, [], []⟩] [6])
.ret)
.skip)))
.skip))
(.weak ac_OB3)))
def ac_OBc : AC :=
(.seq (.reg false [⟨some 3, .box 55 (.tmp 0), none, [0], []⟩,
    ⟨some 4, .box 57 (.tmp 1), none, [1], []⟩,
    ⟨some 6, .mv (.const (.bool false)), none, [], []⟩] [2, 3, 4])
(.seq (.seq (.reg false [⟨some 17, .call 33 [], none, [], []⟩,
    ⟨some 18, .un .not (.tmp 17), none, [17], []⟩] [2, 3, 4, 18])
(.cond (.tmp 18)
(.seq (.reg false [⟨some 6, .mv (.const (.bool false)), none, [], []⟩] [6])
.ret)
.skip))
(.seq (.reg false [⟨some 20, .load true 6 (.tmp 3), none, [3], []⟩,
    ⟨some 21, .call 43 [(.tmp 20)], none, [20], []⟩,
    ⟨some 19, .mv (.tmp 21), none, [21], []⟩,
    ⟨some 22, .ext 0 (.tmp 19), none, [19], []⟩,
    ⟨some 23, .ext 1 (.tmp 19), none, [19], []⟩,
    ⟨some 7, .mv (.tmp 22), none, [22], []⟩,
    ⟨some 8, .mv (.tmp 23), none, [23], []⟩] [2, 3, 4, 7, 8])
(.seq (.seq (.reg false [⟨some 24, .mv (.tmp 8), none, [8], []⟩,
    ⟨some 25, .call 35 [(.tmp 24)], none, [24], []⟩,
    ⟨some 26, .bin .eql (.tmp 25) (.const (.int .i64 (0))), none, [25], []⟩] [2, 3, 4, 7, 26])
(.cond (.tmp 26)
(.seq (.reg false [⟨some 28, .mv (.tmp 7), none, [7], []⟩,
    ⟨some 29, .call 45 [(.tmp 28)], none, [28], []⟩,
    ⟨some 27, .mv (.tmp 29), none, [29], []⟩,
    ⟨some 30, .ext 0 (.tmp 27), none, [27], []⟩,
    ⟨some 31, .ext 1 (.tmp 27), none, [27], []⟩,
    ⟨some 9, .new 55 [(.int .i64 (0)), (.string (ByteArray.mk #[])), (.string (ByteArray.mk #[])), (.int .i64 (0)), (.int .i64 (0)), (.slice none 0 0)], none, [], []⟩,
    ⟨none, .store 6 (.tmp 9) (.tmp 30), none, [9, 30], []⟩,
    ⟨some 10, .mv (.tmp 31), none, [31], []⟩] [2, 3, 4, 9, 10])
(.seq (.reg false [⟨some 32, .mv (.tmp 10), none, [10], []⟩,
    ⟨some 33, .call 35 [(.tmp 32)], none, [32], []⟩,
    ⟨some 34, .bin .neq (.tmp 33) (.const (.int .i64 (0))), none, [33], []⟩,
    ⟨some 35, .mv (.tmp 34), none, [34], []⟩,
    ⟨some 36, .load true 6 (.tmp 9), some (35, false), [9, 35], []⟩,
    ⟨some 37, .load true 6 (.tmp 3), some (35, false), [3, 35], []⟩,
    ⟨some 38, .call 47 [(.tmp 36), (.tmp 37)], some (35, false), [36, 37, 35], []⟩,
    ⟨some 39, .un .not (.tmp 38), some (35, false), [38, 35], []⟩,
    ⟨some 40, .pick (.tmp 35) (.const (.bool true)) (.tmp 39), none, [35, 39], []⟩] [2, 4, 40])
(.cond (.tmp 40)
(.seq (.reg false [⟨some 6, .mv (.const (.bool false)), none, [], []⟩] [6])
.ret)
.skip)))
.skip))
(.weak ac_OB2)))))
theorem ok_OBc : FnOk Tryz.prog 12 87 ac_OBc [.tmp 6] := ⟨Tryz.f12, Tryz.func12, by kernel_rfl, by kernel_rfl, by kernel_rfl, by kernel_rfl, by kernel_rfl⟩
end Go.Proofs.YtonglhkiobibgaaGreatDoor
namespace Go.Proofs.YtonglhkiobibgaaGreatDoor
open Go.RowKit
set_option maxRecDepth 100000
theorem okB_cons {x : Int} {l : List Int} (h0 : 0 ≤ x) (h1 : x < 256) (hl : okB l) : okB (x :: l) := fun y hy => by
  rcases List.mem_cons.1 hy with rfl | h
  · exact ⟨h0, h1⟩
  · exact hl y h
theorem okB_nil : okB [] := fun x hx => by cases hx
theorem okB_gp : ∀ (f m : Nat), m ≤ f → okB (gp m)
  | 0, m, h => by
    obtain rfl : m = 0 := by omega
    rw [gp_small (by decide)]
    exact okB_cons (by omega) (by omega) okB_nil
  | f + 1, m, h => by
    by_cases hs : m < 128
    · rw [gp_small hs]; exact okB_cons (by omega) (by omega) okB_nil
    · rw [gp_big hs]; exact okB_cons (by omega) (by omega) (okB_gp f (m / 128) (by omega))
theorem okB_flat {α : Type} {e : α → List Int} {l : List α} (h : ∀ a ∈ l, okB (e a)) : okB (l.flatMap e) := fun x hx => by
  obtain ⟨a, ha, hx⟩ := List.mem_flatMap.1 hx
  exact h a ha x hx
theorem okB_seal {r : Rec} (h : okR r) (ht : ∀ t ∈ r.texts, okB t) : okB (sealB (encR r)) := by
  have hk := h.kind
  have hm := h.many
  refine okB_app (okB_app (okB_app (okB_cons (by omega) (by omega) (okB_cons (by omega) (by omega) okB_nil)) (okB_flat fun n _ => okB_gp _ _ (Nat.le_refl _))) (okB_cons (by omega) (by omega) (okB_flat fun t h9 => okB_app (okB_gp _ _ (Nat.le_refl _)) (ht t h9)))) (okB_low _)
theorem encO_B {o : OpD} (h : opChk o = 0) (hd : okB o.data) : okB (encO o).1 := by
  rw [encO_ok h]
  refine okB_seal (opRec_ok h) fun t ht => ?_
  simp only [opRec, List.mem_cons, List.not_mem_nil, or_false] at ht
  rcases ht with rfl | rfl | rfl
  · exact octL_ok _
  · exact octL_ok _
  · exact hd
theorem encRep_B {r : RepD} (h : (encRep r).2 = 0) (hd : okB r.data) : okB (encRep r).1 := by
  obtain ⟨hc, hr⟩ := repRec_ok h
  rw [encRep, if_pos hc, encode, if_pos ((okR_iff _).2 hr)]
  refine okB_seal hr fun t ht => ?_
  rcases List.mem_cons.1 ht with rfl | ht
  · exact hd
  · obtain ⟨s, _, rfl⟩ := List.mem_map.1 ht
    exact octL_ok s
theorem decO_i64 {l : List Int} (hb : okB l) : i64ok (decO l).1.off ∧ i64ok (decO l).1.n := by
  obtain ⟨_, hn⟩ := dec_facts hb
  have hz : i64ok op0D.off ∧ i64ok op0D.n := by simp [op0D, i64ok]
  unfold decO
  split
  · generalize (dec l).1 = R at hn ⊢
    obtain ⟨k, ns, ts⟩ := R
    by_cases h9 : ns.length = 2 ∧ ts.length = 3
    · obtain ⟨a, b, rfl⟩ := len2 h9.1
      obtain ⟨p, q, d, rfl⟩ := len3 h9.2
      show i64ok (if opChk ⟨k, strOf p, strOf q, a, b, d⟩ = 0 then ((⟨k, strOf p, strOf q, a, b, d⟩ : OpD), (0 : Int)) else (op0D, opChk ⟨k, strOf p, strOf q, a, b, d⟩)).1.off ∧ i64ok (if opChk ⟨k, strOf p, strOf q, a, b, d⟩ = 0 then ((⟨k, strOf p, strOf q, a, b, d⟩ : OpD), (0 : Int)) else (op0D, opChk ⟨k, strOf p, strOf q, a, b, d⟩)).1.n
      split
      · exact ⟨hn a (by simp), hn b (by simp)⟩
      · exact hz
    · rw [opOf_bad h9]; exact hz
  · exact hz
set_option maxHeartbeats 2000000 in
theorem ob3_spec (fl : Bool) (l : List Int) (nb : Nat) (hb : okB l) (hl : l.length ≤ 140737488355320) : wpC Tryz.prog 87 0 ac_OB3 ⟨envOf [(2, fB fl l)], heapOf [], 1⟩ (Ends 87 [.tmp 6] nb (.v (.bool true)) []) := by
  have c5 := fun nb => opDecode_spec fl l nb hb hl
  have c8 := fun nb e => num11_spec e nb
  obtain ⟨i1, i2⟩ := decO_i64 hb
  have c3 := fun nb => opEncode_spec true (decO l).1 nb i1 i2
  have cD := fun nb => sameBytes_spec true fl l l nb (by omega)
  by_cases h : (decO l).2 = 0
  · have he := encO_decO hb h
    rw [he] at c3
    simp only [h, aOp, fB, decide_true] at c5 c3 cD
    simp only [ac_OB3, fB, TT, ↓reduceIte, Nat.reduceEqDiff, Nat.reduceAdd, Nat.reduceMul, reduceCtorEq, Nat.reduceLeDiff]
    refine ⟨_, c5 _, ?_⟩
    simp only [TT, ↓reduceIte, Nat.reduceEqDiff, Nat.reduceAdd, Nat.reduceMul, reduceCtorEq, Nat.reduceLeDiff]
    refine ⟨_, c8 _ _, ?_⟩
    simp only [decide_true, Bool.not_true, TT, ↓reduceIte, Nat.reduceEqDiff, Nat.reduceAdd, Nat.reduceMul, reduceCtorEq, Nat.reduceLeDiff]
    refine ⟨_, c3 _, ?_⟩
    simp only [TT, ↓reduceIte, Nat.reduceEqDiff, Nat.reduceAdd, Nat.reduceMul, reduceCtorEq, Nat.reduceLeDiff]
    refine ⟨_, c8 _ _, ?_⟩
    simp only [decide_true, TT, ↓reduceIte, Nat.reduceEqDiff, Nat.reduceAdd, Nat.reduceMul, reduceCtorEq, Nat.reduceLeDiff]
    refine ⟨_, cD _, ?_⟩
    simp only [TT, ↓reduceIte, Nat.reduceEqDiff, Nat.reduceAdd, Nat.reduceMul, reduceCtorEq, Nat.reduceLeDiff]
    exact Ends.data (.inr rfl) (by simp [ET]) trivial
  · have he := decO_bad h
    have hk : (decO l).1.kind = 0 := by rw [he]; rfl
    simp only [aOp, fB, hk] at c5
    simp only [ac_OB3, fB, TT, ↓reduceIte, Nat.reduceEqDiff, Nat.reduceAdd, Nat.reduceMul, reduceCtorEq, Nat.reduceLeDiff]
    refine ⟨_, c5 _, ?_⟩
    simp only [TT, ↓reduceIte, Nat.reduceEqDiff, Nat.reduceAdd, Nat.reduceMul, reduceCtorEq, Nat.reduceLeDiff]
    refine ⟨_, c8 _ _, ?_⟩
    simp only [h, decide_true, decide_false, Bool.not_false, TT, ↓reduceIte, Nat.reduceEqDiff, Nat.reduceAdd, Nat.reduceMul, reduceCtorEq, Nat.reduceLeDiff]
    exact Ends.data (.inr rfl) (by simp [ET]) trivial
set_option maxHeartbeats 2000000 in
theorem ob2_spec (fr fl : Bool) (r : RepD) (l : List Int) (nb : Nat) (h1 : i64ok r.err) (h2 : i64ok r.n) (hrb : okB r.data) (hd : r.data.length ≤ 140737488355320) (hn : r.names.length ≤ 8796093022208) (hb : okB l) (hl : l.length ≤ 140737488355320) :
    wpC Tryz.prog 87 0 ac_OB2 ⟨envOf [(2, fB fl l), (4, .op 0 0)], heapOf [(0, .row true 57 [.v (.int .i64 r.err), .v (.int .i64 r.n), fB fr r.data, fS fr r.names])], 1⟩ (Ends 87 [.tmp 6] nb (.v (.bool true)) []) := by
  have c3 := fun nb => repEncode_spec fr r nb h1 h2 (by omega)
  have c8 := fun nb e => num11_spec e nb
  have k3 := ob3_spec fl l nb hb hl
  have hw : ∀ st, Weak 87 0 st ⟨envOf [(2, fB fl l)], heapOf [], 1⟩ → ∃ st', Weak 87 0 st st' ∧ wpC Tryz.prog 87 0 ac_OB3 st' (Ends 87 [.tmp 6] nb (.v (.bool true)) []) := fun st h => ⟨_, h, k3⟩
  simp only [aRep, fB, fS] at c3
  by_cases h : (encRep r).2 = 0
  · have hlen := encRep_len h1 h2
    have hB := encRep_B h hrb
    have hde := decR_encRep h h1 h2
    have c5 := fun nb => repDecode_spec true (encRep r).1 nb hB (by omega)
    have cC := fun nb => sameRep_refl true fr r nb (by omega) (by omega)
    rw [hde] at c5
    simp only [h, aRep, fB, fS] at c3 c5 cC
    simp only [ac_OB2, fB, fS, TT, ↓reduceIte, Nat.reduceEqDiff, Nat.reduceAdd, Nat.reduceMul, reduceCtorEq, Nat.reduceLeDiff]
    refine ⟨_, c3 _, ?_⟩
    simp only [TT, ↓reduceIte, Nat.reduceEqDiff, Nat.reduceAdd, Nat.reduceMul, reduceCtorEq, Nat.reduceLeDiff]
    refine ⟨_, c8 _ _, ?_⟩
    simp only [decide_true, TT, ↓reduceIte, Nat.reduceEqDiff, Nat.reduceAdd, Nat.reduceMul, reduceCtorEq, Nat.reduceLeDiff]
    refine ⟨_, c5 _, ?_⟩
    simp only [TT, ↓reduceIte, Nat.reduceEqDiff, Nat.reduceAdd, Nat.reduceMul, reduceCtorEq, Nat.reduceLeDiff]
    refine ⟨_, c8 _ _, ?_⟩
    simp only [decide_true, Bool.not_true, TT, ↓reduceIte, Nat.reduceEqDiff, Nat.reduceAdd, Nat.reduceMul, reduceCtorEq, Nat.reduceLeDiff]
    refine ⟨_, cC _, ?_⟩
    simp only [Bool.not_true, TT, ↓reduceIte, Nat.reduceEqDiff, Nat.reduceAdd, Nat.reduceMul, reduceCtorEq, Nat.reduceLeDiff]
    refine hw _ ?_
    refine Weak.calc [] (by decide) ?_ ?_ <;> simp [WT]
  · simp only [ac_OB2, fB, fS, TT, ↓reduceIte, Nat.reduceEqDiff, Nat.reduceAdd, Nat.reduceMul, reduceCtorEq, Nat.reduceLeDiff]
    refine ⟨_, c3 _, ?_⟩
    simp only [TT, ↓reduceIte, Nat.reduceEqDiff, Nat.reduceAdd, Nat.reduceMul, reduceCtorEq, Nat.reduceLeDiff]
    refine ⟨_, c8 _ _, ?_⟩
    simp only [h, decide_false, TT, ↓reduceIte, Nat.reduceEqDiff, Nat.reduceAdd, Nat.reduceMul, reduceCtorEq, Nat.reduceLeDiff]
    refine hw _ ?_
    refine Weak.calc [] (by decide) ?_ ?_ <;> simp [WT]
set_option maxHeartbeats 2000000 in
theorem opsBack_spec (fo fr fl : Bool) (o : OpD) (r : RepD) (l : List Int) (nb : Nat) (g1 : i64ok o.off) (g2 : i64ok o.n) (hob : okB o.data) (hod : o.data.length ≤ 140737488355320)
    (h1 : i64ok r.err) (h2 : i64ok r.n) (hrb : okB r.data) (hd : r.data.length ≤ 140737488355320) (hn : r.names.length ≤ 8796093022208) (hb : okB l) (hl : l.length ≤ 140737488355320) :
    ASound Tryz.prog 12 [aOp fo o, aRep fr r, fB fl l] nb (.ret (.v (.bool true)) []) := by
  refine ok_OBc.sound (by simp) ⟨al_aOp o, al_aRep r, al_fB l, trivial⟩ ?_
  have c3 := fun nb => opEncode_spec fo o nb g1 g2
  have c8 := fun nb e => num11_spec e nb
  have k2 := ob2_spec fr fl r l nb h1 h2 hrb hd hn hb hl
  have hw : ∀ st, Weak 87 0 st ⟨envOf [(2, fB fl l), (4, .op 0 0)], heapOf [(0, .row true 57 [.v (.int .i64 r.err), .v (.int .i64 r.n), fB fr r.data, fS fr r.names])], 1⟩ → ∃ st', Weak 87 0 st st' ∧ wpC Tryz.prog 87 0 ac_OB2 st' (Ends 87 [.tmp 6] nb (.v (.bool true)) []) := fun st h => ⟨_, h, k2⟩
  simp only [aOp, fB] at c3
  by_cases h : opChk o = 0
  · have hlen := encO_len g1 g2
    have hB := encO_B h hob
    have hde := decO_encO h g1 g2
    have he : (encO o).2 = 0 := by rw [encO_err, h]
    have c5 := fun nb => opDecode_spec true (encO o).1 nb hB (by omega)
    have cC := fun nb => sameOp_refl true fo o nb (by omega)
    rw [hde] at c5
    simp only [he, aOp, fB] at c3 c5 cC
    simp only [ac_OBc, aOp, aRep, fB, fS, TT, ↓reduceIte, Nat.reduceEqDiff, Nat.reduceAdd, Nat.reduceMul, reduceCtorEq, Nat.reduceLeDiff]
    refine ⟨_, alive11 _, ?_⟩
    simp only [Bool.not_true, TT, ↓reduceIte, Nat.reduceEqDiff, Nat.reduceAdd, Nat.reduceMul, reduceCtorEq, Nat.reduceLeDiff]
    refine ⟨_, c3 _, ?_⟩
    simp only [TT, ↓reduceIte, Nat.reduceEqDiff, Nat.reduceAdd, Nat.reduceMul, reduceCtorEq, Nat.reduceLeDiff]
    refine ⟨_, c8 _ _, ?_⟩
    simp only [decide_true, TT, ↓reduceIte, Nat.reduceEqDiff, Nat.reduceAdd, Nat.reduceMul, reduceCtorEq, Nat.reduceLeDiff]
    refine ⟨_, c5 _, ?_⟩
    simp only [TT, ↓reduceIte, Nat.reduceEqDiff, Nat.reduceAdd, Nat.reduceMul, reduceCtorEq, Nat.reduceLeDiff]
    refine ⟨_, c8 _ _, ?_⟩
    simp only [decide_true, Bool.not_true, TT, ↓reduceIte, Nat.reduceEqDiff, Nat.reduceAdd, Nat.reduceMul, reduceCtorEq, Nat.reduceLeDiff]
    refine ⟨_, cC _, ?_⟩
    simp only [Bool.not_true, TT, ↓reduceIte, Nat.reduceEqDiff, Nat.reduceAdd, Nat.reduceMul, reduceCtorEq, Nat.reduceLeDiff]
    refine hw _ ?_
    refine Weak.calc [(100000, 0)] (by decide) ?_ ?_ <;> simp [WT, fS, al_S, ren_S]
  · have he : ¬ (encO o).2 = 0 := by rw [encO_err]; exact h
    simp only [ac_OBc, aOp, aRep, fB, fS, TT, ↓reduceIte, Nat.reduceEqDiff, Nat.reduceAdd, Nat.reduceMul, reduceCtorEq, Nat.reduceLeDiff]
    refine ⟨_, alive11 _, ?_⟩
    simp only [Bool.not_true, TT, ↓reduceIte, Nat.reduceEqDiff, Nat.reduceAdd, Nat.reduceMul, reduceCtorEq, Nat.reduceLeDiff]
    refine ⟨_, c3 _, ?_⟩
    simp only [TT, ↓reduceIte, Nat.reduceEqDiff, Nat.reduceAdd, Nat.reduceMul, reduceCtorEq, Nat.reduceLeDiff]
    refine ⟨_, c8 _ _, ?_⟩
    simp only [he, decide_false, TT, ↓reduceIte, Nat.reduceEqDiff, Nat.reduceAdd, Nat.reduceMul, reduceCtorEq, Nat.reduceLeDiff]
    refine hw _ ?_
    refine Weak.calc [(100000, 0)] (by decide) ?_ ?_ <;> simp [WT, fS, al_S, ren_S]
end Go.Proofs.YtonglhkiobibgaaGreatDoor
