/- Merged texts: G1, KF, G2, G3, G4, G5, H4. -/
import Derived.Test.YtonglhkiobibgaaGreatDoorX2
set_option linter.unusedSimpArgs false
set_option linter.unusedVariables false
namespace Go.Proofs.YtonglhkiobibgaaGreatDoor
open Go.RowKit
set_option maxRecDepth 100000
def okLs (l : Ls) : Prop := ∀ t ∈ l, okB t
abbrev L_eqF (fa fb : Bool) (a b : Ls) (i : Nat) : ASt := ⟨envOf [(1, fL fb b), (2, .fn 107 []), (15, fL fa a), (16, .v (.int .i64 a.length)), (17, .v (.int .i64 i))], heapOf [], 1⟩
theorem at_Ls {fr : Bool} {l : Ls} {i : Nat} {t : List Int} (h : l[i]? = some t) : (eL fr l)[i]? = some (.fs fr (eB t) t.length) := by simp [eL, h]
theorem equalF_spec (fa fb : Bool) (a b : Ls) (nb : Nat) (ha : okLs a) (hb : okLs b) (la : a.length ≤ 140737488355328) (lb : b.length ≤ 140737488355328) :
    ASound Tryz.prog 109 [fL fa a, fL fb b, .fn 107 []] nb (.ret (.v (.bool (decide (a = b)))) []) := by
  refine ok_109.sound (by simp) ⟨al_fL a, al_fL b, trivial, trivial⟩ ?_
  by_cases hl : a.length = b.length
  · have hl' : ((a.length : Int) = (b.length : Int)) = True := eq_true (by omega)
    simp only [ac_109, fL, hl', decide_true, Bool.not_true, TT, ↓reduceIte, Nat.reduceEqDiff, Nat.reduceAdd, Nat.reduceMul, reduceCtorEq, Nat.reduceLeDiff]
    refine AWc.family (L_eqF fa fb a b) (fun i => i ≤ a.length ∧ a.take i = b.take i) (fun i => a.length - i) 0 ⟨Nat.zero_le _, by simp⟩ ?_ ?_
    · refine Weak.calc [] (by decide) ?_ ?_ <;> simp [WT, al_L, ren_L, fL]
    · rintro i ⟨hi, he⟩
      by_cases hlt : i < a.length
      · obtain ⟨x, hx, e1, e0⟩ := lt_at hlt
        obtain ⟨y, hy, e2, _⟩ := lt_at (show i < b.length by omega)
        have hs := equal_spec fa fb x y
        simp only [fB] at hs
        simp only [L_eqF, fL, e1, e0, e2, at_Ls hx, at_Ls hy, Int.toNat_natCast, TT, ↓reduceIte, Nat.reduceEqDiff, Nat.reduceAdd, Nat.reduceMul, reduceCtorEq, Nat.reduceLeDiff]
        refine ⟨_, _, _, rfl, hs _ (ha x (List.mem_of_getElem? hx)) (hb y (List.mem_of_getElem? hy)), ?_⟩
        by_cases hxy : x = y
        · have t1 : decide (x = y) = true := decide_eq_true hxy
          simp only [t1, Bool.not_true, TT, ↓reduceIte, Nat.reduceEqDiff, Nat.reduceAdd, Nat.reduceMul, reduceCtorEq, Nat.reduceLeDiff]
          refine famC_next (i + 1) (by omega) ⟨by omega, by rw [take_snoc hx, take_snoc hy, he, hxy]⟩ ?_
          refine Weak.calc [] (by decide) ?_ ?_ <;> simp [WT, al_L, ren_L, fL, wrap64 (x := (i : Int) + 1) (by omega)]
        · have t1 : decide (x = y) = false := decide_eq_false hxy
          have hne : a ≠ b := fun h => hxy (by rw [h, hy] at hx; exact (Option.some.inj hx).symm)
          simp only [t1, Bool.not_false, TT, ↓reduceIte, Nat.reduceEqDiff, Nat.reduceAdd, Nat.reduceMul, reduceCtorEq, Nat.reduceLeDiff]
          exact Ends.data (.inr rfl) (by simp [ET, hne]) trivial
      · obtain rfl : i = a.length := by omega
        have e1 : ¬ ((a.length : Int) < (a.length : Int)) := by omega
        have heq : a = b := by
          have h9 := he
          rw [List.take_length, hl, List.take_length] at h9
          exact h9
        simp only [L_eqF, fL, e1, TT, ↓reduceIte, Nat.reduceEqDiff, Nat.reduceAdd, Nat.reduceMul, reduceCtorEq, Nat.reduceLeDiff]
        exact Ends.data (.inr rfl) (by simp [ET, heq]) trivial
  · have hl' : ((a.length : Int) = (b.length : Int)) = False := eq_false (by omega)
    have hne : a ≠ b := fun h => hl (by rw [h])
    simp only [ac_109, fL, hl', decide_false, Bool.not_false, TT, ↓reduceIte, Nat.reduceEqDiff, Nat.reduceAdd, Nat.reduceMul, reduceCtorEq, Nat.reduceLeDiff]
    exact Ends.data (.inr rfl) (by simp [ET, hne]) trivial
theorem okLs_take {l : Ls} (h : okLs l) (n : Nat) : okLs (l.take n) := fun t ht => h t (List.mem_of_mem_take ht)
theorem begins_spec (fa fb : Bool) (a b : Ls) (nb : Nat) (ha : okLs a) (hb : okLs b) (la : a.length ≤ 140737488355328) (lb : b.length ≤ 140737488355328) :
    ASound Tryz.prog 57 [fL fa a, fL fb b] nb (.ret (.v (.bool (decide (begL a b)))) []) := by
  refine ok_57.sound (by simp) ⟨al_fL a, al_fL b, trivial⟩ ?_
  by_cases hl : a.length ≤ b.length
  · have hl' : ((a.length : Int) ≤ (b.length : Int)) = True := eq_true (by omega)
    have hlt : ¬ ((b.length : Int) < (a.length : Int)) := by omega
    have hc := equalF_spec fa fb a (b.take a.length)
    have hlen : (b.take a.length).length = a.length := by rw [List.length_take]; omega
    have hd : decide (begL a b) = decide (a = b.take a.length) := by
      by_cases h : a = b.take a.length
      · rw [decide_eq_true h, decide_eq_true ⟨hl, h⟩]
      · rw [decide_eq_false h, decide_eq_false fun h9 => h h9.2]
    have htk : (eL fb b).take a.length = eL fb (b.take a.length) := by simp [eL]
    simp only [fL, hlen] at hc
    rw [hd]
    have c1 : ((0 : Int) ≤ (a.length : Int)) = True := eq_true (by omega)
    simp only [ac_57, fL, hl', hlt, c1, htk, decide_true, Nat.sub_zero, Int.toNat_natCast, TT, ↓reduceIte, Nat.reduceEqDiff, Nat.reduceAdd, Nat.reduceMul, reduceCtorEq, Nat.reduceLeDiff]
    refine ⟨_, hc _ ha (okLs_take hb _) la (by omega), ?_⟩
    simp only [TT, ↓reduceIte, Nat.reduceEqDiff, Nat.reduceAdd, Nat.reduceMul, reduceCtorEq, Nat.reduceLeDiff]
    exact Ends.data (.inr rfl) (by simp [ET]) trivial
  · have hl' : ((a.length : Int) ≤ (b.length : Int)) = False := eq_false (by omega)
    have hne : ¬ begL a b := fun h => hl h.1
    simp only [ac_57, fL, hl', decide_false, TT, ↓reduceIte, Nat.reduceEqDiff, Nat.reduceAdd, Nat.reduceMul, reduceCtorEq, Nat.reduceLeDiff]
    exact Ends.data (.inr rfl) (by simp [ET, hne]) trivial
end Go.Proofs.YtonglhkiobibgaaGreatDoor
namespace Go.Proofs.YtonglhkiobibgaaGreatDoor
open Go.RowKit
set_option maxRecDepth 100000
end Go.Proofs.YtonglhkiobibgaaGreatDoor
namespace Go.Proofs.YtonglhkiobibgaaGreatDoor
open Go.RowKit
set_option maxRecDepth 100000
/-- several lists -/
def eLL (fr : Bool) (l : List Ls) : List AV := l.map fun t => fL fr t
def fLL (fr : Bool) (l : List Ls) : AV := .fs fr (eLL fr l) l.length
theorem al_LL {p : Nat → Prop} {fr : Bool} (l : List Ls) : AlL p (eLL fr l) := AlL_map (e := fun t => fL fr t) (fun t => al_fL t) l
theorem ren_LL {ρ : Nat → Nat} {fr : Bool} (l : List Ls) : renL ρ (eLL fr l) = eLL fr l := renL_id (p := fun _ => False) (fun _ h => h.elim) (al_LL l)
theorem at_LL {fr : Bool} {l : List Ls} {i : Nat} {t : Ls} (h : l[i]? = some t) : (eLL fr l)[i]? = some (.fs fr (eL fr t) t.length) := by simp [eLL, h, fL]
/-- the closure: is a list too short, or another one there? -/
theorem other_spec (f1 f2 f3 f4 : Bool) (l : Ls) (k : Nat) (b : List Int) (nb : Nat) (hl : okLs l) (hb : okB b) (hn : l.length ≤ 140737488355328) :
    ASound Tryz.prog 106 [fL f1 l, .fp f2 [.v (.int .i64 k)] 0, .fp f3 [fB f4 b] 0] nb (.ret (.v (.bool (decide (l[k]? ≠ some b)))) []) := by
  refine ok_106.sound (by simp) ⟨al_fL l, ⟨trivial, trivial⟩, ⟨al_fB b, trivial⟩, trivial⟩ ?_
  by_cases hk : k < l.length
  · obtain ⟨x, hx, e1, e0⟩ := lt_at hk
    have e2 : ¬ ((l.length : Int) ≤ (k : Int)) := by omega
    have hs := equal_spec f1 f4 x b
    simp only [fB] at hs
    have hd : decide (l[k]? ≠ some b) = !decide (x = b) := by rw [hx]; simp
    rw [hd]
    simp only [ac_106, fL, fB, e1, e2, e0, at_Ls hx, Int.toNat_natCast, List.getElem?_cons_zero, decide_false, TT, ↓reduceIte, Nat.reduceEqDiff, Nat.reduceAdd, Nat.reduceMul, reduceCtorEq, Nat.reduceLeDiff]
    refine ⟨_, hs _ (hl x (List.mem_of_getElem? hx)) hb, ?_⟩
    simp only [TT, ↓reduceIte, Nat.reduceEqDiff, Nat.reduceAdd, Nat.reduceMul, reduceCtorEq, Nat.reduceLeDiff]
    exact ⟨by rfl, Ends.data (.inr rfl) (by simp [ET]) trivial⟩
  · have e2 : ((l.length : Int) ≤ (k : Int)) := by omega
    have hd : decide (l[k]? ≠ some b) = true := decide_eq_true (by rw [List.getElem?_eq_none (by omega)]; simp)
    rw [hd]
    simp only [ac_106, fL, fB, e2, List.getElem?_cons_zero, decide_true, TT, ↓reduceIte, Nat.reduceEqDiff, Nat.reduceAdd, Nat.reduceMul, reduceCtorEq, Nat.reduceLeDiff]
    exact ⟨by rfl, Ends.data (.inr rfl) (by simp [ET]) trivial⟩
/-- the first list that says otherwise -/
def idxO (k : Nat) (b : List Int) : List Ls → Nat → Int
  | [], _ => -1
  | l :: r, i => if l[k]? ≠ some b then (i : Int) else idxO k b r (i + 1)
theorem idxO_drop {k : Nat} {b : List Int} {ls : List Ls} {i : Nat} {l : Ls} (h : ls[i]? = some l) : idxO k b (ls.drop i) i = if l[k]? ≠ some b then (i : Int) else idxO k b (ls.drop (i + 1)) (i + 1) := by
  have hi := (List.getElem?_eq_some_iff.1 h)
  rw [List.drop_eq_getElem_cons hi.1, hi.2]; rfl
theorem idxO_pos (k : Nat) (b : List Int) : ∀ (ls : List Ls) (i : Nat), 0 ≤ idxO k b ls i ↔ ¬ ∀ l ∈ ls, l[k]? = some b
  | [], i => by simp [idxO]
  | l :: r, i => by
    rw [idxO]
    by_cases h : l[k]? = some b
    · rw [if_neg (by simpa using h), idxO_pos k b r (i + 1)]; simp [h]
    · rw [if_pos h]
      constructor
      · intro _ h2; exact h (h2 l (by simp))
      · intro _; omega
abbrev aO (f2 f3 f4 : Bool) (k : Nat) (b : List Int) : AV := .fn 106 [.fp f2 [.v (.int .i64 k)] 0, .fp f3 [fB f4 b] 0]
abbrev L_io (f1 f2 f3 f4 : Bool) (ls : List Ls) (k : Nat) (b : List Int) (i : Nat) : ASt := ⟨envOf [(0, fLL f1 ls), (1, aO f2 f3 f4 k b), (7, .v (.int .i64 ls.length)), (8, .v (.int .i64 i))], heapOf [], 1⟩
theorem indexO_spec (f1 f2 f3 f4 : Bool) (ls : List Ls) (k : Nat) (b : List Int) (nb : Nat) (hl : ∀ l ∈ ls, okLs l ∧ l.length ≤ 140737488355328) (hb : okB b) (hn : ls.length ≤ 140737488355328) :
    ASound Tryz.prog 167 [fLL f1 ls, aO f2 f3 f4 k b] nb (.ret (.v (.int .i64 (idxO k b ls 0))) []) := by
  have hal : ∀ {p : Nat → Prop}, Al p (aO f2 f3 f4 k b) := fun {p} => ⟨⟨trivial, trivial⟩, ⟨al_fB b, trivial⟩, trivial⟩
  have hren : ∀ ρ, ren ρ (aO f2 f3 f4 k b) = aO f2 f3 f4 k b := fun ρ => ren_id (p := fun _ => False) (fun _ h => h.elim) hal
  refine ok_167.sound (by simp) ⟨al_LL ls, hal, trivial⟩ ?_
  simp only [ac_167, fLL, TT, ↓reduceIte, Nat.reduceEqDiff, Nat.reduceAdd, Nat.reduceMul, reduceCtorEq, Nat.reduceLeDiff]
  refine AWc.family (L_io f1 f2 f3 f4 ls k b) (fun i => i ≤ ls.length ∧ idxO k b (ls.drop i) i = idxO k b ls 0) (fun i => ls.length - i) 0 ⟨Nat.zero_le _, rfl⟩ ?_ ?_
  · refine Weak.calc [] (by decide) ?_ ?_ <;> simp [WT, al_LL, ren_LL, fLL]
  · rintro i ⟨hi, he⟩
    by_cases hlt : i < ls.length
    · obtain ⟨l, hx, e1, e0⟩ := lt_at hlt
      obtain ⟨h1, h2⟩ := hl l (List.mem_of_getElem? hx)
      have hs := other_spec f1 f2 f3 f4 l k b
      simp only [fL, fB] at hs
      simp only [L_io, fLL, fB, e1, e0, at_LL hx, Int.toNat_natCast, TT, ↓reduceIte, Nat.reduceEqDiff, Nat.reduceAdd, Nat.reduceMul, reduceCtorEq, Nat.reduceLeDiff]
      refine ⟨_, _, _, rfl, hs _ h1 hb h2, ?_⟩
      have hd := idxO_drop (k := k) (b := b) hx
      by_cases h : l[k]? = some b
      · have t1 : decide (l[k]? ≠ some b) = false := decide_eq_false (fun h9 => h9 h)
        rw [if_neg (fun h9 => h9 h)] at hd
        simp only [t1, TT, ↓reduceIte, Nat.reduceEqDiff, Nat.reduceAdd, Nat.reduceMul, reduceCtorEq, Nat.reduceLeDiff]
        refine famC_next (i + 1) (by omega) ⟨by omega, by rw [← hd, he]⟩ ?_
        refine Weak.calc [] (by decide) ?_ ?_ <;> simp [WT, al_LL, ren_LL, fLL, wrap64 (x := (i : Int) + 1) (by omega)]
      · have t1 : decide (l[k]? ≠ some b) = true := decide_eq_true h
        rw [if_pos h] at hd
        simp only [t1, TT, ↓reduceIte, Nat.reduceEqDiff, Nat.reduceAdd, Nat.reduceMul, reduceCtorEq, Nat.reduceLeDiff]
        exact Ends.data (.inr rfl) (by simp [ET, ← he, hd]) trivial
    · obtain rfl : i = ls.length := by omega
      have e1 : ¬ ((ls.length : Int) < (ls.length : Int)) := by omega
      have h9 : idxO k b ls 0 = -1 := by rw [← he, List.drop_length]; rfl
      simp only [L_io, fLL, e1, TT, ↓reduceIte, Nat.reduceEqDiff, Nat.reduceAdd, Nat.reduceMul, reduceCtorEq, Nat.reduceLeDiff]
      exact Ends.data (.inr rfl) (by simp [ET, h9]) trivial
theorem containsO_spec (f1 f2 f3 f4 : Bool) (ls : List Ls) (k : Nat) (b : List Int) (nb : Nat) (hl : ∀ l ∈ ls, okLs l ∧ l.length ≤ 140737488355328) (hb : okB b) (hn : ls.length ≤ 140737488355328) :
    ASound Tryz.prog 105 [fLL f1 ls, aO f2 f3 f4 k b] nb (.ret (.v (.bool (decide (¬ ∀ l ∈ ls, l[k]? = some b)))) []) := by
  refine ok_105.sound (by simp) ⟨al_LL ls, ⟨⟨trivial, trivial⟩, ⟨al_fB b, trivial⟩, trivial⟩, trivial⟩ ?_
  have hc := indexO_spec f1 f2 f3 f4 ls k b
  have hd : decide (0 ≤ idxO k b ls 0) = decide (¬ ∀ l ∈ ls, l[k]? = some b) := by
    by_cases h : 0 ≤ idxO k b ls 0
    · rw [decide_eq_true h, decide_eq_true ((idxO_pos k b ls 0).1 h)]
    · rw [decide_eq_false h, decide_eq_false fun h9 => h ((idxO_pos k b ls 0).2 h9)]
  rw [← hd]
  simp only [fLL] at hc
  simp only [ac_105, fLL, TT, ↓reduceIte, Nat.reduceEqDiff, Nat.reduceAdd, Nat.reduceMul, reduceCtorEq, Nat.reduceLeDiff]
  refine ⟨_, hc _ hl hb hn, ?_⟩
  simp only [TT, ↓reduceIte, Nat.reduceEqDiff, Nat.reduceAdd, Nat.reduceMul, reduceCtorEq, Nat.reduceLeDiff]
  exact Ends.data (.inr rfl) (by simp [ET]) trivial
end Go.Proofs.YtonglhkiobibgaaGreatDoor
namespace Go.Proofs.YtonglhkiobibgaaGreatDoor
open Go.RowKit
set_option maxRecDepth 100000
theorem od_Lg (fr : Bool) (l : Ls) : odL (eL fr l) = eL false l := by
  rw [odL_map, eL, List.map_map, eL]
  refine List.map_congr_left fun x _ => ?_
  simp [od, od_B]
theorem od_LL (fr : Bool) (l : List Ls) : odL (eLL fr l) = eLL false l := by
  rw [odL_map, eLL, List.map_map, eLL]
  refine List.map_congr_left fun x _ => ?_
  simp [od, fL, od_Lg]
theorem containsO_b (f1 f4 : Bool) (ls : List Ls) (k : Nat) (b : List Int) (i1 i2 nb : Nat) (h12 : i2 ≠ i1) (hl : ∀ l ∈ ls, okLs l ∧ l.length ≤ 140737488355328) (hb : okB b) (hn : ls.length ≤ 140737488355328) :
    ASound Tryz.prog 105 [fLL f1 ls, .fn 106 [.op i1 0, .op i2 0]] nb
      (rowsM [(i1, true, 3, [.v (.int .i64 k)]), (i2, true, 37, [fB f4 b])] (.ret (.v (.bool (decide (¬ ∀ l ∈ ls, l[k]? = some b)))) [])) := by
  refine ASound.borrow [] [(i1, true, 3, [.v (.int .i64 k)]), (i2, true, 37, [fB f4 b])] ?_ (by intro x hx; simp at hx; rcases hx with rfl | rfl <;> simp) (by simp) trivial (by simp)
  have e : boL [(i1, true, 3, [.v (.int .i64 k)]), (i2, true, 37, [fB f4 b])] [fLL f1 ls, .fn 106 [.op i1 0, .op i2 0]] = [fLL false ls, aO false false false k b] := by
    simp [boL, bo, cellsAt, h12, fLL, od, odL, od_LL, fB, od_B]
  rw [e]
  exact containsO_spec false false false false ls k b nb hl hb hn
theorem eL_nilg {fr : Bool} : eL fr [] = [] := rfl
abbrev L_cm (f1 : Bool) (logs : List Ls) (f : Ls) (k : Nat) : ASt := ⟨envOf [(0, fLL f1 logs), (3, .os 0 0 k 1), (12, fL f1 f), (13, .v (.int .i64 f.length)), (14, .v (.int .i64 k))], heapOf [(0, .row true 37 (eL true (f.take k)))], 1⟩
theorem comGo_drop {logs : List Ls} {f : Ls} {k : Nat} {x : List Int} (h : f[k]? = some x) : comGo logs (f.drop k) k = if ∀ l ∈ logs, l[k]? = some x then comGo logs (f.drop (k + 1)) (k + 1) else k := by
  have hi := (List.getElem?_eq_some_iff.1 h)
  rw [List.drop_eq_getElem_cons hi.1, hi.2, comGo]
set_option maxHeartbeats 4000000 in
theorem common_spec (f1 : Bool) (f : Ls) (r : List Ls) (nb : Nat) (hl : ∀ l ∈ f :: r, okLs l ∧ l.length ≤ 5864062014805) (hz : ∀ t ∈ f, t.length ≤ 140737488355328) (hn : (f :: r).length ≤ 140737488355328) :
    ASound Tryz.prog 56 [fLL f1 (f :: r)] nb (.ret (fL true (comL (f :: r))) []) := by
  refine ok_56.sound (by simp) ⟨al_LL _, trivial⟩ ?_
  have hf := hl f (by simp)
  have g0 : (eLL f1 (f :: r))[0]? = some (.fs f1 (eL f1 f) f.length) := rfl
  have n0 : (((f :: r).length : Int) = 0) = False := eq_false (by simp only [List.length_cons]; omega)
  have p0 : ((0 : Int) < ((f :: r).length : Int)) = True := eq_true (by simp; try omega)
  have hcom : comL (f :: r) = f.take (comGo (f :: r) f 0) := rfl
  rw [hcom]
  generalize hL : f :: r = logs at *
  have hcc := fun k b i1 i2 nb h12 hb => containsO_b f1 f1 logs k b i1 i2 nb h12 (fun l h => ⟨(hl l h).1, by have := (hl l h).2; omega⟩) hb hn
  simp only [fLL, fB] at hcc
  simp only [ac_56, fLL, n0, p0, g0, decide_false, Int.toNat_zero, TT, ↓reduceIte, Nat.reduceEqDiff, Nat.reduceAdd, Nat.reduceMul, reduceCtorEq, Nat.reduceLeDiff]
  rw [if_pos (by decide)]
  refine AWc.family (L_cm f1 logs f) (fun k => k ≤ f.length ∧ comGo logs (f.drop k) k = comGo logs f 0) (fun k => f.length - k) 0 ⟨Nat.zero_le _, rfl⟩ ?_ ?_
  · refine Weak.trans (Weak.virtC 37 1 (l := [(0, fLL f1 logs), (3, .os 1000000 0 0 1), (12, fL f1 f), (13, .v (.int .i64 f.length)), (14, .v (.int .i64 0))]) (h := []) ?_ ?_) (Weak.calc [(1000000, 0)] (by decide) ?_ ?_)
    · simp [WT, eL_nilg, fLL, al_LL, ren_LL, al_L, ren_L, fL]
    · simp [WT]
    · simp [WT, eL_nilg, fLL, al_LL, ren_LL, al_L, ren_L, fL]
    · simp [WT, eL_nilg]
  · rintro k ⟨hk, he⟩
    by_cases hlt : k < f.length
    · obtain ⟨x, hx, e1, e0⟩ := lt_at hlt
      have hxm := List.mem_of_getElem? hx
      have hb := bytesClone_spec f1 x
      have hd := comGo_drop (logs := logs) hx
      simp only [fB] at hb
      have hti : (f.take k).length = k := List.length_take_of_le hk
      have hcs : eL true (f.take k) ++ [AV.fs true (eB x) x.length] = eL true (f.take (k + 1)) := by rw [take_snoc hx, app_L]; rfl
      simp only [L_cm, fLL, fL, e1, e0, get_L hx, Int.toNat_natCast, TT, ↓reduceIte, Nat.reduceEqDiff, Nat.reduceAdd, Nat.reduceMul, reduceCtorEq, Nat.reduceLeDiff]
      refine ⟨_, hcc k x _ _ _ (by decide) (hf.1 x hxm), ?_⟩
      simp only [TT, ↓reduceIte, Nat.reduceEqDiff, Nat.reduceAdd, Nat.reduceMul, reduceCtorEq, Nat.reduceLeDiff]
      by_cases hall : ∀ l ∈ logs, l[k]? = some x
      · have t1 : decide (¬ ∀ l ∈ logs, l[k]? = some x) = false := decide_eq_false (fun h => h hall)
        rw [if_pos hall] at hd
        simp only [t1, TT, ↓reduceIte, Nat.reduceEqDiff, Nat.reduceAdd, Nat.reduceMul, reduceCtorEq, Nat.reduceLeDiff]
        rw [if_neg (fun h => h hall)]
        refine ⟨_, hb _ (hz x hxm), ?_⟩
        simp only [len_L, hti, hcs, TT, ↓reduceIte, Nat.reduceEqDiff, Nat.reduceAdd, Nat.reduceMul, reduceCtorEq, Nat.reduceLeDiff]
        rw [if_pos (by omega)]
        refine famC_next (k + 1) (by omega) ⟨by omega, by rw [← hd, he]⟩ ?_
        refine Weak.calc [(1500001, 0)] (by decide) ?_ ?_ <;> simp [WT, fLL, al_LL, ren_LL, al_L, ren_L, fL, wrap64 (x := (k : Int) + 1) (by omega)]
      · have t1 : decide (¬ ∀ l ∈ logs, l[k]? = some x) = true := decide_eq_true hall
        rw [if_neg hall] at hd
        have hk2 : comGo logs f 0 = k := by rw [← he, hd]
        simp only [t1, hk2, TT, ↓reduceIte, Nat.reduceEqDiff, Nat.reduceAdd, Nat.reduceMul, reduceCtorEq, Nat.reduceLeDiff]
        rw [if_pos hall]
        refine Ends.weak (Weak.freezeC 0 rfl (l := [(2, fL true (f.take k))]) (h := []) ?_ ?_) (Ends.data (.inr rfl) (by simp [ET, fL]) (al_fL _))
        · have htk : List.take k (eL true (f.take k)) = eL true (f.take k) := List.take_of_length_le (by rw [len_L, hti]; exact Nat.le_refl _)
          simp [WT, fL, htk]
          omega
        · simp [WT, fL]
    · obtain rfl : k = f.length := by omega
      have e1 : ¬ ((f.length : Int) < (f.length : Int)) := by omega
      have hk2 : comGo logs f 0 = f.length := by rw [← he, List.drop_length]; rfl
      simp only [L_cm, fLL, fL, e1, hk2, TT, ↓reduceIte, Nat.reduceEqDiff, Nat.reduceAdd, Nat.reduceMul, reduceCtorEq, Nat.reduceLeDiff]
      have hlf : (f.take f.length).length = f.length := by rw [List.take_length]
      refine Ends.weak (Weak.freezeC 0 rfl (l := [(2, fL true (f.take f.length))]) (h := []) ?_ ?_) (Ends.data (.inr rfl) (by simp [ET, fL]) (al_fL _))
      · simp [WT, fL]
      · simp [WT, fL]
end Go.Proofs.YtonglhkiobibgaaGreatDoor
namespace Go.Proofs.YtonglhkiobibgaaGreatDoor
open Go.RowKit
set_option maxRecDepth 100000
set_option maxHeartbeats 4000000 in
theorem auditCommon_of (hal : ∀ nb, ASound Tryz.prog 55 [] nb (.ret (.v (.bool true)) [])) (fr : Bool) (a b c : Ls) (nb : Nat) (ha : okLs a) (hb : okLs b) (hc : okLs c) (la : a.length ≤ 5864062014805) (lb : b.length ≤ 5864062014805) (lc : c.length ≤ 5864062014805)
    (za : ∀ t ∈ a, t.length ≤ 140737488355328) :
    ASound Tryz.prog 13 [fL fr a, fL fr b, fL fr c] nb (.ret (.v (.bool true)) []) := by
  refine ok_13.sound (by simp) ⟨al_fL a, al_fL b, al_fL c, trivial⟩ ?_
  have hm : ∀ id nb, ASound Tryz.prog 56 [.os id 0 3 1] nb (rowsM [(id, true, 93, [fL fr a, fL fr b, fL fr c])] (.ret (fL true (comL [a, b, c])) [])) := fun id nb => by
    refine ASound.borrow [] [(id, true, 93, [fL fr a, fL fr b, fL fr c])] ?_ (by intro x hx; simp at hx; subst hx; simp) (by simp) ⟨rfl, ?_⟩ (by simp)
    · have e : boL [(id, true, 93, [fL fr a, fL fr b, fL fr c])] [.os id 0 3 1] = [fLL false [a, b, c]] := by
        simp [boL, bo, cellsAt, fLL, eLL, fL, od, odL, od_Lg]
      rw [e]
      exact common_spec false a [b, c] nb (fun l hl => by simp at hl; rcases hl with h | h | h <;> rw [h] <;> constructor <;> assumption) za (by simp)
    · rw [YgL_iff]; intro x hx
      obtain ⟨t, _, rfl⟩ := List.mem_map.1 hx
      exact yg_fB t
  have b1 := comL_beg (logs := [a, b, c]) (a := a) (by simp)
  have b2 := comL_beg (logs := [a, b, c]) (a := b) (by simp)
  have b3 := comL_beg (logs := [a, b, c]) (a := c) (by simp)
  have hend := comL_end (logs := [a, b, c]) (f := a) (r := [b, c]) rfl
  generalize comL [a, b, c] = m at hm b1 b2 b3 hend
  have om : okLs m := by rw [b1.2]; exact okLs_take ha _
  have c1 := begins_spec true fr m a
  have c2 := begins_spec true fr m b
  have c3 := begins_spec true fr m c
  rw [decide_eq_true b1] at c1
  rw [decide_eq_true b2] at c2
  rw [decide_eq_true b3] at c3
  have lm : m.length ≤ 140737488355328 := by have := b1.1; omega
  simp only [fL] at hm c1 c2 c3
  simp only [ac_13, fL, TT, ↓reduceIte, Nat.reduceEqDiff, Nat.reduceAdd, Nat.reduceMul, reduceCtorEq, Nat.reduceLeDiff]
  refine ⟨_, hal _, ?_⟩
  simp only [Bool.not_true, TT, ↓reduceIte, Nat.reduceEqDiff, Nat.reduceAdd, Nat.reduceMul, reduceCtorEq, Nat.reduceLeDiff]
  refine ⟨_, hm _ _, ?_⟩
  simp only [TT, ↓reduceIte, Nat.reduceEqDiff, Nat.reduceAdd, Nat.reduceMul, reduceCtorEq, Nat.reduceLeDiff]
  refine ⟨_, c1 _ om ha lm (by omega), ?_⟩
  simp only [Bool.not_true, TT, ↓reduceIte, Nat.reduceEqDiff, Nat.reduceAdd, Nat.reduceMul, reduceCtorEq, Nat.reduceLeDiff]
  refine ⟨_, c2 _ om hb lm (by omega), ?_⟩
  simp only [Bool.not_true, TT, ↓reduceIte, Nat.reduceEqDiff, Nat.reduceAdd, Nat.reduceMul, reduceCtorEq, Nat.reduceLeDiff]
  refine ⟨_, c3 _ om hc lm (by omega), ?_⟩
  simp only [Bool.not_true, TT, ↓reduceIte, Nat.reduceEqDiff, Nat.reduceAdd, Nat.reduceMul, reduceCtorEq, Nat.reduceLeDiff]
  by_cases x1 : ((a.length : Int) ≤ (m.length : Int))
  · simp only [x1, not_true_eq_false, ↓reduceIte]
    exact Ends.data (.inr rfl) (by simp [ET]) trivial
  by_cases x2 : ((b.length : Int) ≤ (m.length : Int))
  · simp only [x1, x2, not_true_eq_false, not_false_eq_true, ↓reduceIte]
    exact Ends.data (.inr rfl) (by simp [ET]) trivial
  by_cases x3 : ((c.length : Int) ≤ (m.length : Int))
  · simp only [x1, x2, x3, not_true_eq_false, not_false_eq_true, ↓reduceIte]
    exact Ends.data (.inr rfl) (by simp [ET]) trivial
  obtain ⟨p, hp, e1, e0⟩ := lt_at (show m.length < a.length by omega)
  obtain ⟨q, hq, e2, _⟩ := lt_at (show m.length < b.length by omega)
  obtain ⟨r, hr, e3, _⟩ := lt_at (show m.length < c.length by omega)
  have op := ha p (List.mem_of_getElem? hp)
  have oq := hb q (List.mem_of_getElem? hq)
  have or' := hc r (List.mem_of_getElem? hr)
  have hne : p = q → p ≠ r := fun h1 h2 => by
    obtain ⟨l, hl, h3⟩ := hend (by omega)
    simp only [List.mem_cons, List.not_mem_nil, or_false] at hl
    rw [hp] at h3
    rcases hl with rfl | rfl | rfl
    · exact h3 hp
    · exact h3 (by rw [hq, h1])
    · exact h3 (by rw [hr, h2])
  simp only [x1, x2, x3, e0, e1, e2, e3, not_false_eq_true, and_self, at_Ls hp, at_Ls hq, at_Ls hr, len_B, bytesOf_B, b2sOf, TT, ↓reduceIte, Nat.reduceEqDiff, Nat.reduceAdd, Nat.reduceMul, reduceCtorEq, Nat.reduceLeDiff]
  have s1 : strOp .neq (strOf p) (strOf q) = some (.bool (!decide (p = q))) := by simp [strOp, strOf_inj op oq]
  have s2 : strOp .neq (strOf p) (strOf r) = some (.bool (!decide (p = r))) := by simp [strOp, strOf_inj op or']
  by_cases h1 : p = q
  · have t1 : decide (p = q) = true := decide_eq_true h1
    have t2 : decide (p = r) = false := decide_eq_false (hne h1)
    simp only [x1, x2, x3, e0, e1, e2, e3, s1, s2, t1, t2, Bool.not_true, Bool.not_false, not_false_eq_true, and_self, at_Ls hp, at_Ls hq, at_Ls hr, len_B, bytesOf_B, b2sOf, TT, ↓reduceIte, Nat.reduceEqDiff, Nat.reduceAdd, Nat.reduceMul, reduceCtorEq, Nat.reduceLeDiff]
    exact ⟨by rfl, Ends.data (.inr rfl) (by simp [ET]) trivial⟩
  · have t1 : decide (p = q) = false := decide_eq_false h1
    simp only [s1, t1, Bool.not_false, TT, ↓reduceIte, Nat.reduceEqDiff, Nat.reduceAdd, Nat.reduceMul, reduceCtorEq, Nat.reduceLeDiff]
    exact ⟨by rfl, Ends.data (.inr rfl) (by simp [ET]) trivial⟩
end Go.Proofs.YtonglhkiobibgaaGreatDoor
namespace Go.Proofs.YtonglhkiobibgaaGreatDoor
open Go.RowKit
set_option maxRecDepth 100000
abbrev nilA0 : AV := .v (.slice none 0 0)
theorem told0_spec (nb : Nat) : ASound Tryz.prog 166 [nilA0] nb (.ret nilA0 []) := by
  refine ok_166.sound (by simp) ⟨trivial, trivial⟩ ?_
  have hn := new_spec
  simp only [aFs, fNds, newF] at hn
  simp only [ac_166, TT, ↓reduceIte, Nat.reduceEqDiff, Nat.reduceAdd, Nat.reduceMul, reduceCtorEq, Nat.reduceLeDiff]
  refine ⟨_, hn _, ?_⟩
  simp only [TT, ↓reduceIte, Nat.reduceEqDiff, Nat.reduceAdd, Nat.reduceMul, reduceCtorEq, Nat.reduceLeDiff]
  refine AWc.family (fun _ : Unit => (⟨envOf [(4, nilA0), (14, .v (.int .i64 0)), (15, .v (.int .i64 0))], heapOf [], 1⟩ : ASt)) (fun _ => True) (fun _ => 0) () trivial ?_ ?_
  · refine Weak.calc [] (by decide) ?_ ?_ <;> simp [WT]
  · rintro ⟨⟩ -
    simp only [Int.lt_irrefl, decide_false, TT, ↓reduceIte, Nat.reduceEqDiff, Nat.reduceAdd, Nat.reduceMul, reduceCtorEq, Nat.reduceLeDiff]
    exact Ends.data (.inr rfl) (by simp [ET]) trivial
abbrev callA (told : Bool) : List AV := [.v (.int .i64 0), .v (.int .i64 0), .v (.int .i64 0), .v (.string (ByteArray.mk #[])), .v (.string (ByteArray.mk #[])), .v (.int .i64 0), .v (.int .i64 0), nilA0, .v (.bool told), .v (.int .i64 0), .v (.int .i64 0), nilA0, nilA0]
theorem enc0 (nb : Nat) : ASound Tryz.prog 43 [.agg [.v (.int .i64 0), .v (.string (ByteArray.mk #[])), .v (.string (ByteArray.mk #[])), .v (.int .i64 0), .v (.int .i64 0), nilA0]] nb (.ret (.tup [fB true [], .v (.int .i64 22)]) []) := by
  have h := opEncode_spec false ⟨0, ByteArray.mk #[], ByteArray.mk #[], 0, 0, []⟩ nb (by simp [i64ok]) (by simp [i64ok])
  have e : encO ⟨0, ByteArray.mk #[], ByteArray.mk #[], 0, 0, []⟩ = ([], 22) := by rw [encO, if_neg (by decide)]; rfl
  rw [e] at h
  exact h.args ⟨Imp.aggL ⟨Imp.refl _, Imp.refl _, Imp.refl _, Imp.refl _, Imp.refl _, Imp.nil _, trivial⟩, trivial⟩
theorem rep0 (nb : Nat) : ∃ l : List Int, ASound Tryz.prog 51 [.agg [.v (.int .i64 0), .v (.int .i64 0), nilA0, nilA0]] nb (.ret (.tup [fB true l, .v (.int .i64 0)]) []) := by
  have h := repEncode_spec false ⟨0, 0, [], []⟩ nb (by simp [i64ok]) (by simp [i64ok]) (by simp)
  have e : (encRep ⟨0, 0, [], []⟩).2 = 0 := by
    have e1 : encRep ⟨0, 0, [], []⟩ = encode (repRec ⟨0, 0, [], []⟩) := by rw [encRep, if_pos (by simp [repChk])]
    rw [e1, encode, if_pos (by simp [recE, repRec])]
  rw [e] at h
  exact ⟨_, h.args ⟨Imp.aggL ⟨Imp.refl _, Imp.refl _, Imp.nil _, Imp.nil _, trivial⟩, trivial⟩⟩
set_option maxHeartbeats 2000000 in
theorem follows0_spec (fr told : Bool) (nb : Nat) : ASound Tryz.prog 103 [nilA0, .fs fr (callA told) 1] nb (.ret (.tup [.v (.bool (!told)), .v (.int .i64 0)]) []) := by
  refine ok_103.sound (by simp) ⟨trivial, ⟨trivial, trivial, trivial, trivial, trivial, trivial, trivial, trivial, trivial, trivial, trivial, trivial, trivial, trivial⟩, trivial⟩ ?_
  simp only [ac_103, TT, ↓reduceIte, Nat.reduceEqDiff, Nat.reduceAdd, Nat.reduceMul, reduceCtorEq, Nat.reduceLeDiff]
  refine AWc.family (fun _ : Unit => (⟨envOf [(0, nilA0), (1, .fs fr (callA told) 1), (6, .mp 0), (7, .mp 1), (35, .v (.int .i64 0)), (36, .v (.int .i64 0))], heapOf [(0, .row true MAPE []), (1, .row true MAPE [])], 2⟩ : ASt)) (fun _ => True) (fun _ => 0) () trivial ?_ ?_
  · refine Weak.calc [(800000, 0), (900000, 1)] (by decide) ?_ ?_ <;> simp [WT]
  rintro ⟨⟩ -
  simp only [Int.lt_irrefl, decide_false, TT, ↓reduceIte, Nat.reduceEqDiff, Nat.reduceAdd, Nat.reduceMul, reduceCtorEq, Nat.reduceLeDiff]
  refine ⟨_, told0_spec _, ?_⟩
  simp only [TT, ↓reduceIte, Nat.reduceEqDiff, Nat.reduceAdd, Nat.reduceMul, reduceCtorEq, Nat.reduceLeDiff]
  refine AWc.family (fun _ : Unit => (⟨envOf [(1, .fs fr (callA told) 1), (6, .mp 0), (7, .mp 1), (67, .v (.int .i64 0)), (68, .v (.int .i64 0))], heapOf [(0, .row true MAPE []), (1, .row true MAPE [])], 2⟩ : ASt)) (fun _ => True) (fun _ => 0) () trivial ?_ ?_
  · refine Weak.calc [(0, 0), (1, 1)] (by decide) ?_ ?_ <;> simp [WT]
  rintro ⟨⟩ -
  simp only [Int.lt_irrefl, decide_false, TT, ↓reduceIte, Nat.reduceEqDiff, Nat.reduceAdd, Nat.reduceMul, reduceCtorEq, Nat.reduceLeDiff]
  refine AWc.family (fun k : Nat => (⟨envOf [(6, .mp 0), (7, .mp 1), (81, .fs fr (callA told) 1), (82, .v (.int .i64 1)), (83, .v (.int .i64 k))], heapOf [(0, .row true MAPE []), (1, .row true MAPE [])], 2⟩ : ASt)) (fun k => k = 0 ∨ (k = 1 ∧ told = false)) (fun k => 1 - k) 0 (.inl rfl) ?_ ?_
  · refine Weak.calc [(0, 0), (1, 1)] (by decide) ?_ ?_ <;> simp [WT]
  rintro k (rfl | ⟨rfl, rfl⟩)
  · cases told with
    | false =>
      simp only [callA, Int.natCast_zero, Int.zero_lt_one, decide_true, Int.le_refl, Int.toNat_zero, Bool.not_false, TT, ↓reduceIte, Nat.reduceEqDiff, Nat.reduceAdd, Nat.reduceMul, reduceCtorEq, Nat.reduceLeDiff]
      rw [if_pos (by decide)]
      refine famC_next 1 (by decide) (.inr rfl) ?_
      refine Weak.calc [(0, 0), (1, 1)] (by decide) ?_ ?_ <;> simp [WT, show IntKind.i64.wrap 1 = 1 from by decide]
    | true =>
      simp only [callA, Int.natCast_zero, Int.zero_lt_one, decide_true, Int.le_refl, Int.toNat_zero, Bool.not_true, TT, ↓reduceIte, Nat.reduceEqDiff, Nat.reduceAdd, Nat.reduceMul, reduceCtorEq, Nat.reduceLeDiff]
      rw [if_pos (by decide)]
      refine ⟨_, enc0 _, ?_⟩
      simp only [TT, ↓reduceIte, Nat.reduceEqDiff, Nat.reduceAdd, Nat.reduceMul, reduceCtorEq, Nat.reduceLeDiff]
      obtain ⟨lr, hrep⟩ := rep0 2500002
      refine ⟨_, hrep, ?_⟩
      simp only [TT, ↓reduceIte, Nat.reduceEqDiff, Nat.reduceAdd, Nat.reduceMul, reduceCtorEq, Nat.reduceLeDiff]
      split <;> exact Ends.data (.inr rfl) (by simp [ET]) ⟨trivial, trivial, trivial⟩
  · simp only [Int.natCast_one, Int.lt_irrefl, decide_false, TT, ↓reduceIte, Nat.reduceEqDiff, Nat.reduceAdd, Nat.reduceMul, reduceCtorEq, Nat.reduceLeDiff]
    exact Ends.data (.inr rfl) (by simp [ET]) ⟨trivial, trivial, trivial⟩
theorem follows0_b (told : Bool) (id nb : Nat) : ASound Tryz.prog 103 [nilA0, .os id 0 1 13] nb (rowsM [(id, true, 167, callA told)] (.ret (.tup [.v (.bool (!told)), .v (.int .i64 0)]) [])) := by
  refine ASound.borrow [] [(id, true, 167, callA told)] ?_ (by simp [callA]) (by simp) ⟨trivial, trivial, trivial⟩ (by simp)
  have e : boL [(id, true, 167, callA told)] [nilA0, .os id 0 1 13] = [nilA0, .fs false (callA told) 1] := by
    simp [boL, bo, cellsAt, od, odL, callA]
  rw [e]
  exact follows0_spec false told nb
theorem num23_spec (e : Int) (nb : Nat) : ASound Tryz.prog 104 [.v (.int .i64 e)] nb (.ret (.v (.int .i64 e)) []) := by
  refine ok_104.sound (by simp) ⟨trivial, trivial⟩ ?_
  simp only [ac_104, TT, ↓reduceIte, Nat.reduceEqDiff, Nat.reduceAdd, Nat.reduceMul, reduceCtorEq, Nat.reduceLeDiff]
  exact Ends.data (.inr rfl) (by simp [ET]) trivial
theorem begins0 (nb : Nat) : ASound Tryz.prog 57 [nilA0, nilA0] nb (.ret (.v (.bool true)) []) := by
  have h := begins_spec false false [] [] nb (fun t h => by cases h) (fun t h => by cases h) (by simp) (by simp)
  have e : decide (begL [] []) = true := decide_eq_true ⟨by simp, by simp⟩
  rw [e] at h
  exact h.args ⟨Imp.nil _, Imp.nil _, trivial⟩
theorem common0 (i1 i2 nb : Nat) (hne : i1 ≠ i2) : ASound Tryz.prog 56 [.os i2 0 1 1] nb (rowsM [(i1, true, 37, [.fs true [.v (.int .u8 97)] 1]), (i2, true, 93, [.os i1 0 1 1])] (.ret (fL true [[97]]) [])) := by
  refine ASound.borrowD 2 [] [(i1, true, 37, [.fs true [.v (.int .u8 97)] 1]), (i2, true, 93, [.os i1 0 1 1])] ?_ (by simp) ⟨rfl, yg_fB [97], trivial⟩ (by simp)
  have e : boDL 3 [(i1, true, 37, [.fs true [.v (.int .u8 97)] 1]), (i2, true, 93, [.os i1 0 1 1])] [.os i2 0 1 1] = [fLL false [[[97]]]] := by
    simp [boDL, boWL, boW, cellsAt, od, odL, hne.symm, fLL, eLL, fL, eL, eB]
  rw [e]
  have h := common_spec false [[97]] [] nb (fun l hl => by simp at hl; subst hl; exact ⟨fun t ht => by simp at ht; subst ht; intro x hx; simp at hx; subst hx; decide, by simp⟩) (by simp) (by simp)
  have ec : comL [[[97]]] = [[97]] := by decide
  rw [ec] at h
  exact h
set_option maxHeartbeats 2000000 in
theorem alive23 (nb : Nat) : ASound Tryz.prog 55 [] nb (.ret (.v (.bool true)) []) := by
  refine ok_55.sound (by simp) trivial ?_
  have h1 := follows0_b false
  have h2 := follows0_b true
  simp only [callA] at h1 h2
  have hc := common0
  simp only [fL] at hc
  simp only [ac_55, TT, ↓reduceIte, Nat.reduceEqDiff, Nat.reduceAdd, Nat.reduceMul, reduceCtorEq, Nat.reduceLeDiff]
  refine ⟨_, h1 _ _, ?_⟩
  simp only [TT, ↓reduceIte, Nat.reduceEqDiff, Nat.reduceAdd, Nat.reduceMul, reduceCtorEq, Nat.reduceLeDiff]
  refine ⟨_, h2 _ _, ?_⟩
  simp only [TT, ↓reduceIte, Nat.reduceEqDiff, Nat.reduceAdd, Nat.reduceMul, reduceCtorEq, Nat.reduceLeDiff]
  refine ⟨_, num23_spec _ _, ?_⟩
  simp only [TT, ↓reduceIte, Nat.reduceEqDiff, Nat.reduceAdd, Nat.reduceMul, reduceCtorEq, Nat.reduceLeDiff]
  refine ⟨_, num23_spec _ _, ?_⟩
  simp only [TT, ↓reduceIte, Nat.reduceEqDiff, Nat.reduceAdd, Nat.reduceMul, reduceCtorEq, Nat.reduceLeDiff]
  refine ⟨_, begins0 _, ?_⟩
  simp only [TT, ↓reduceIte, Nat.reduceEqDiff, Nat.reduceAdd, Nat.reduceMul, reduceCtorEq, Nat.reduceLeDiff]
  rw [if_pos (by decide)]
  refine ⟨_, hc 3600000 3700000 _ (by decide), ?_⟩
  simp only [TT, ↓reduceIte, Nat.reduceEqDiff, Nat.reduceAdd, Nat.reduceMul, reduceCtorEq, Nat.reduceLeDiff]
  exact Ends.data (.inr rfl) (by simp [ET]) trivial
end Go.Proofs.YtonglhkiobibgaaGreatDoor
