/- Merged texts: U0, U1, U2, U3, T1, KC, U4, AP, U5, U6, U7, U8, U9, T2, UA, UB, AZ, BD, H0, RB, RD, AQ, AS, BI, KM, H1, H2, H3, G0, G1, KF, G2, G3, G4, G5, H4, H5, H6, H7, H8, UJ, UK, UC, T3, KD, UD, UE, UF, UG, UH. -/
import Derived.Test.YtonglhkiobibgaaGreatDoorX2
import Derived.Test.YtonglhkiobibgaaGreatDoorX1
import Derived.Test.YtonglhkiobibgaaGreatDoorRows
import Derived.LaidLaws
import Derived.LaidHandle
import Derived.LaidMore
import Derived.Lay
import Derived.SevenTiedAt
import Derived.Stop.Joined
import Derived.RangeFuncNested
import Derived.RangeFuncBound
import Derived.RangeFuncCalls
import Derived.Lib.Bytealg
import Derived.Test.YtonglhkiobibgaaGreatDoorProg
import Derived.WalkKit
import Derived.LaidEql
import Derived.Stop.Asserts
import Derived.RowKitTokens
set_option linter.unusedSimpArgs false
set_option linter.unusedVariables false
namespace Go.Proofs.YtonglhkiobibgaaGreatDoor
open Go.RowKit
set_option maxRecDepth 100000
def nibC (k : Nat) : List AV := (List.range 16).map fun j => if j < k then tabV j else .v (.int .u32 0)
theorem nib_set {k : Nat} (h : k < 16) : (nibC k).set k (tabV k) = nibC (k + 1) := by
  apply List.ext_getElem?
  intro j
  rw [List.getElem?_set]
  simp only [nibC, List.length_map, List.length_range, List.getElem?_map]
  by_cases hj : j < 16
  · rw [List.getElem?_range hj]
    by_cases e : k = j
    · subst e; simp [h]
    · rw [if_neg e]
      simp only [Option.map_some]
      congr 2
      simp only [eq_iff_iff]
      omega
  · have h2 : (List.range 16)[j]? = none := by rw [List.getElem?_eq_none_iff]; simp; omega
    rw [h2, if_neg (by omega)]; rfl
theorem nib_len (k : Nat) : (nibC k).length = 16 := by simp [nibC]
theorem nib_16 : nibC 16 = tabA := rfl
theorem al_nib {p : Nat → Prop} (k : Nat) : AlL p (nibC k) := AlL_map (e := fun j => if j < k then tabV j else .v (.int .u32 0)) (fun j => by split <;> trivial) _
theorem ren_nib {ρ : Nat → Nat} (k : Nat) : renL ρ (nibC k) = nibC k := renL_id (p := fun _ => False) (fun _ h => h.elim) (al_nib k)
theorem tab16 : tabA[0]? = some (tabV 0) ∧ tabA[1]? = some (tabV 1) ∧ tabA[2]? = some (tabV 2) ∧ tabA[3]? = some (tabV 3) ∧ tabA[4]? = some (tabV 4) ∧ tabA[5]? = some (tabV 5) ∧ tabA[6]? = some (tabV 6) ∧ tabA[7]? = some (tabV 7) ∧ tabA[8]? = some (tabV 8) ∧ tabA[9]? = some (tabV 9) ∧ tabA[10]? = some (tabV 10) ∧ tabA[11]? = some (tabV 11) ∧ tabA[12]? = some (tabV 12) ∧ tabA[13]? = some (tabV 13) ∧ tabA[14]? = some (tabV 14) ∧ tabA[15]? = some (tabV 15) := ⟨rfl, rfl, rfl, rfl, rfl, rfl, rfl, rfl, rfl, rfl, rfl, rfl, rfl, rfl, rfl, rfl⟩
def cbn : Nat → BitVec 32 → BitVec 32
  | 0, c => c
  | n + 1, c => cbit (cbn n c)
theorem lit_poly : BitVec.ofInt 32 3988292384 = 3988292384#32 := rfl
theorem lit_one : BitVec.ofInt 32 1 = 1#32 := rfl
theorem lit_15 : BitVec.ofInt 32 15 = 15#32 := rfl
abbrev z16 : List AV := [.v (.int .u32 0), .v (.int .u32 0), .v (.int .u32 0), .v (.int .u32 0), .v (.int .u32 0), .v (.int .u32 0), .v (.int .u32 0), .v (.int .u32 0), .v (.int .u32 0), .v (.int .u32 0), .v (.int .u32 0), .v (.int .u32 0), .v (.int .u32 0), .v (.int .u32 0), .v (.int .u32 0), .v (.int .u32 0)]
abbrev L_nib (k : Nat) : ASt := ⟨envOf [(0, .op 0 0), (1, .op 1 0), (4, .v (.int .i64 k))], heapOf [(0, .row true 399 z16), (1, .row true 399 (nibC k))], 2⟩
abbrev L_nib2 (k j : Nat) : ASt := ⟨envOf [(0, .op 0 0), (1, .op 1 0), (2, .v (.int .i64 k)), (3, .v (.int .u32 ((cbn j (BitVec.ofNat 32 k)).toNat))), (4, .v (.int .i64 k)), (9, .v (.int .i64 j))], heapOf [(0, .row true 399 z16), (1, .row true 399 (nibC k))], 2⟩
set_option maxHeartbeats 1000000 in
theorem nibbles_spec (nb : Nat) : ASound Tryz.prog 275 [] nb (.ret (.agg tabA) []) := by
  refine ok_275.sound (by simp) trivial ?_
  simp only [ac_275, TT, ↓reduceIte, Nat.reduceEqDiff, Nat.reduceAdd, Nat.reduceMul, reduceCtorEq, Nat.reduceLeDiff]
  refine AWc.family L_nib (fun k => k ≤ 16) (fun k => 16 - k) 0 (by omega) ?_ ?_
  · refine Weak.calc [(0, 0), (100000, 1)] (by decide) ?_ ?_
    · simp [WT]
    · simp [WT]; rfl
  · intro k hk
    by_cases hlt : k < 16
    · have e1 : (k : Int) < 16 := by omega
      have e0 : (0 : Int) ≤ (k : Int) := by omega
      simp only [L_nib, e1, u32_wrap, lit32, TT, ↓reduceIte, Nat.reduceEqDiff, Nat.reduceAdd, Nat.reduceMul, reduceCtorEq, Nat.reduceLeDiff]
      refine AWc.family (L_nib2 k) (fun j => j ≤ 4) (fun j => 4 - j) 0 (by omega) ?_ ?_
      · refine Weak.calc [(0, 0), (1, 1)] (by decide) ?_ ?_
        · simp [WT, cbn, al_nib, ren_nib]
        · simp [WT, cbn, al_nib, ren_nib]
      · intro j hj
        by_cases hjl : j < 4
        · have f1 : (j : Int) < 4 := by omega
          simp only [L_nib2, f1, sh_1, and_u32, xor_u32, neg_u32, u32_back, lit_poly, lit_one, cbit_prog, TT, ↓reduceIte, Nat.reduceEqDiff, Nat.reduceAdd, Nat.reduceMul, reduceCtorEq, Nat.reduceLeDiff]
          refine famC_next (j + 1) (by omega) (by omega) ?_
          refine Weak.calc [(0, 0), (1, 1)] (by decide) ?_ ?_ <;> simp [WT, cbn, al_nib, ren_nib, wrap64 (x := (j : Int) + 1) (by omega)]
        · obtain rfl : j = 4 := by omega
          have f1 : ¬ ((4 : Nat) : Int) < 4 := by decide
          have hs : (nibC k).set k (.v (.int .u32 ((cbn 4 (BitVec.ofNat 32 k)).toNat))) = nibC (k + 1) := nib_set hlt
          have e2 : (k : Int) < ((16 : Nat) : Int) := by omega
          simp only [L_nib2, f1, e0, e1, e2, hs, nib_len, TT, ↓reduceIte, Nat.reduceEqDiff, Nat.reduceAdd, Nat.reduceMul, reduceCtorEq, Nat.reduceLeDiff]
          rw [if_pos (by omega)]
          refine famC_next (k + 1) (by omega) (by omega) ?_
          refine Weak.calc [(0, 0), (1, 1)] (by decide) ?_ ?_ <;> simp [WT, al_nib, ren_nib, wrap64 (x := (k : Int) + 1) (by omega)]
    · obtain rfl : k = 16 := by omega
      have e1 : ¬ ((16 : Nat) : Int) < 16 := by decide
      simp only [L_nib, e1, nib_16, tab16, len_tab, TT, ↓reduceIte, Nat.reduceEqDiff, Nat.reduceAdd, Nat.reduceMul, reduceCtorEq, Nat.reduceLeDiff]
      exact Ends.data (.inr rfl) (by simp [ET]; rfl) al_tab
end Go.Proofs.YtonglhkiobibgaaGreatDoor
namespace Go.Proofs.YtonglhkiobibgaaGreatDoor
open Go.RowKit
set_option maxRecDepth 100000
theorem nib_lt (d : BitVec 32) : (d &&& 15#32).toNat < 16 := by
  rw [BitVec.toNat_and]
  exact Nat.and_lt_two_pow d.toNat (n := 4) (show (15#32).toNat < 2 ^ 4 by decide)
theorem get_tab2 (d : BitVec 32) : tabA[(d &&& 15#32).toNat]? = some (.v (.int .u32 ((cbit4 (d &&& 15#32)).toNat))) := by
  rw [get_tab (nib_lt d)]
  simp only [tabV, BitVec.ofNat_toNat, BitVec.setWidth_eq]
theorem cbit4_prog (c : BitVec 32) : (c >>> 4) ^^^ cbit4 (c &&& 15#32) = cbit4 c := (cbit4_nib c).symm
theorem nib_ok (d : BitVec 32) : ((0 : Int) ≤ ((d &&& 15#32).toNat : Int) ∧ ((d &&& 15#32).toNat : Int) < ((16 : Nat) : Int)) = True := eq_true ⟨by omega, by have := nib_lt d; omega⟩
theorem take_snoc {α : Type} {l : List α} {k : Nat} {x : α} (h : l[k]? = some x) : l.take (k + 1) = l.take k ++ [x] := by
  obtain ⟨hk, rfl⟩ := List.getElem?_eq_some_iff.1 h
  rw [List.take_succ_eq_append_getElem hk]
theorem cgo_snoc {c : BitVec 32} {l : List Int} {k : Nat} {x : Int} (h : l[k]? = some x) : cgo c (l.take (k + 1)) = cbit4 (cbit4 (cgo c (l.take k) ^^^ BitVec.ofInt 32 x)) := by rw [take_snoc h, crc_snoc]; rfl
abbrev L_ext (fr : Bool) (c : BitVec 32) (l : List Int) (k : Nat) : ASt := ⟨envOf [(0, .v (.int .u32 ((cgo c (l.take k)).toNat))), (5, .op 0 0), (11, fB fr l), (12, .v (.int .i64 l.length)), (13, .v (.int .i64 k))], heapOf [(0, .row true 399 tabA)], 1⟩
set_option maxHeartbeats 1000000 in
theorem ext_spec (fr : Bool) (c : BitVec 32) (l : List Int) (nb : Nat) (hl : l.length ≤ 140737488355328) : ASound Tryz.prog 238 [.v (.int .u32 (c.toNat)), fB fr l] nb (.ret (.v (.int .u32 ((~~~ (cgo (~~~ c) l)).toNat))) []) := by
  refine ok_238.sound (by simp) ⟨trivial, al_fB l, trivial⟩ ?_
  simp only [ac_238, TT, ↓reduceIte, Nat.reduceEqDiff, Nat.reduceAdd, Nat.reduceMul, reduceCtorEq, Nat.reduceLeDiff]
  refine ⟨_, nibbles_spec _, ?_⟩
  simp only [len_tab, not_u32, u32_back, TT, ↓reduceIte, Nat.reduceEqDiff, Nat.reduceAdd, Nat.reduceMul, reduceCtorEq, Nat.reduceLeDiff]
  rw [setN_all tabA z16 rfl]
  refine AWc.family (L_ext fr (~~~ c) l) (fun k => k ≤ l.length) (fun k => l.length - k) 0 (Nat.zero_le _) ?_ ?_
  · refine Weak.calc [(200000, 0)] (by decide) ?_ ?_ <;> simp [WT, al_tab, ren_tab, cgo]
  · intro k hk
    by_cases hlt : k < l.length
    · obtain ⟨x, hx, e1, e0⟩ := lt_at hlt
      simp only [L_ext, e1, e0, get_B hx, u32_wrap x, xor_u32, and_u32, u32_back, sh_4, lit_15, nib_ok, get_tab2, cbit4_prog, TT, ↓reduceIte, Nat.reduceEqDiff, Nat.reduceAdd, Nat.reduceMul, reduceCtorEq, Nat.reduceLeDiff]
      refine famC_next (k + 1) (by omega) (by omega) ?_
      refine Weak.calc [(0, 0)] (by decide) ?_ ?_ <;> simp [WT, al_tab, ren_tab, cgo_snoc hx, wrap64 (x := (k : Int) + 1) (by omega)]
    · obtain rfl : k = l.length := by omega
      have e1 : ¬ ((l.length : Int) < (l.length : Int)) := by omega
      simp only [L_ext, e1, not_u32, u32_back, List.take_length, TT, ↓reduceIte, Nat.reduceEqDiff, Nat.reduceAdd, Nat.reduceMul, reduceCtorEq, Nat.reduceLeDiff]
      exact Ends.data (.inr rfl) (by simp [ET]) trivial
theorem sum_spec (fr : Bool) (l : List Int) (nb : Nat) (hl : l.length ≤ 140737488355328) : ASound Tryz.prog 208 [fB fr l] nb (.ret (.v (.int .u32 ((crc l).toNat))) []) := by
  refine ok_208.sound (by simp) ⟨al_fB l, trivial⟩ ?_
  simp only [ac_208, TT, ↓reduceIte, Nat.reduceEqDiff, Nat.reduceAdd, Nat.reduceMul, reduceCtorEq, Nat.reduceLeDiff]
  refine ⟨_, ext_spec fr 0#32 l _ hl, ?_⟩
  simp only [TT, ↓reduceIte, Nat.reduceEqDiff, Nat.reduceAdd, Nat.reduceMul, reduceCtorEq, Nat.reduceLeDiff]
  exact Ends.data (.inr rfl) (by simp [ET, crc]) trivial
end Go.Proofs.YtonglhkiobibgaaGreatDoor
namespace Go.Proofs.YtonglhkiobibgaaGreatDoor
open Go.RowKit
set_option maxRecDepth 100000
def okB (l : List Int) : Prop := ∀ x ∈ l, 0 ≤ x ∧ x < 256
theorem ASound.nil1 {P : Program} {f : FuncId} {fr : Bool} {rest : List AV} {nb : Nat} {am : AM} (h : ∀ A k, ASound P f (.v (.slice A 0 k) :: rest) nb am) : ASound P f (.fs fr [] 0 :: rest) nb am := by
  refine ⟨(h none 0).1, fun c us r R W hrun hr hfr hv => ?_⟩
  obtain ⟨u, us', rfl, h1, h2⟩ := hv
  obtain ⟨A, k, rfl, hk, _⟩ := h1
  exact (h A k).2 c _ r R W hrun hr hfr ⟨_, us', rfl, rfl, h2⟩
theorem bytesClone_spec (fr : Bool) (l : List Int) (nb : Nat) (h : l.length ≤ 140737488355328) : ASound Tryz.prog 108 [fB fr l] nb (.ret (fB true l) []) := by
  by_cases h0 : l.length = 0
  · have hl : l = [] := List.eq_nil_of_length_eq_zero h0
    subst hl
    refine ASound.nil1 fun A k => ?_
    refine ok_108.sound (by simp) ⟨trivial, trivial⟩ ?_
    cases A with
    | none =>
      simp only [ac_108, TT, ↓reduceIte, Nat.reduceEqDiff, Nat.reduceAdd, Nat.reduceMul, reduceCtorEq, Nat.reduceLeDiff]
      exact Ends.imp (r0 := .v (.slice none 0 0)) (.inr rfl) (by simp [ET]) trivial (Imp.nil true)
    | some A =>
      simp only [ac_108, TT, ↓reduceIte, Nat.reduceEqDiff, Nat.reduceAdd, Nat.reduceMul, reduceCtorEq, Nat.reduceLeDiff]
      refine Ends.weak (Weak.freezeC 500000 rfl (l := [(2, fB true [])]) (h := []) ?_ ?_) (Ends.data (.inr rfl) (by simp [ET, fB]) (al_fB []))
      · simp [WT, eB]
      · simp [WT]
  · refine ok_108.sound (by simp) ⟨al_fB l, trivial⟩ ?_
    simp only [ac_108, len_B, h, h0, TT, ↓reduceIte, Nat.reduceEqDiff, Nat.reduceAdd, Nat.reduceMul, reduceCtorEq, Nat.reduceLeDiff]
    refine Ends.weak (Weak.freezeC 500000 rfl (l := [(2, fB true l)]) (h := []) ?_ ?_) (Ends.data (.inr rfl) (by simp [ET, fB]) (al_fB l))
    · simp [WT]
    · simp [WT]
def lowC (c : BitVec 32) (k : Nat) : List AV := (List.range 4).map fun j => .v (.int .u8 (if j < k then ((c >>> (8 * j)).toNat : Int) % 256 else 0))
theorem low_set {c : BitVec 32} {k : Nat} (h : k < 4) : (lowC c k).set k (.v (.int .u8 (((c >>> (8 * k)).toNat : Int) % 256))) = lowC c (k + 1) := by
  apply List.ext_getElem?
  intro j
  rw [List.getElem?_set]
  simp only [lowC, List.length_map, List.length_range, List.getElem?_map]
  by_cases hj : j < 4
  · rw [List.getElem?_range hj]
    by_cases e : k = j
    · subst e; simp [h]
    · rw [if_neg e]
      simp only [Option.map_some]
      congr 4
      simp only [eq_iff_iff]
      omega
  · have h2 : (List.range 4)[j]? = none := by rw [List.getElem?_eq_none_iff]; simp; omega
    rw [h2, if_neg (by omega)]; rfl
theorem low_len (c : BitVec 32) (k : Nat) : (lowC c k).length = 4 := by simp [lowC]
theorem low_4 (c : BitVec 32) : lowC c 4 = eB (low4 c) := by simp [lowC, eB, low4, List.range_succ]
theorem al_low {p : Nat → Prop} (c : BitVec 32) (k : Nat) : AlL p (lowC c k) := AlL_map (e := fun j => .v (.int .u8 (if j < k then ((c >>> (8 * j)).toNat : Int) % 256 else 0))) (fun j => trivial) _
theorem ren_low {ρ : Nat → Nat} (c : BitVec 32) (k : Nat) : renL ρ (lowC c k) = lowC c k := renL_id (p := fun _ => False) (fun _ h => h.elim) (al_low c k)
abbrev L_low (c : BitVec 32) (k : Nat) : ASt := ⟨envOf [(0, .v (.int .u32 (c.toNat))), (3, .os 0 0 4 1), (7, .v (.int .i64 4)), (8, .v (.int .i64 k))], heapOf [(0, .row true 5 (lowC c k))], 1⟩
theorem low_spec (c : BitVec 32) (nb : Nat) : ASound Tryz.prog 207 [.v (.int .u32 (c.toNat))] nb (.ret (fB true (low4 c)) []) := by
  refine ok_207.sound (by simp) ⟨trivial, trivial⟩ ?_
  simp only [ac_207, TT, ↓reduceIte, Nat.reduceEqDiff, Nat.reduceAdd, Nat.reduceMul, reduceCtorEq, Nat.reduceLeDiff]
  refine AWc.family (L_low c) (fun k => k ≤ 4) (fun k => 4 - k) 0 (by omega) ?_ ?_
  · refine Weak.calc [(100000, 0)] (by decide) ?_ ?_
    · simp [WT]
    · simp [WT]; rfl
  · intro k hk
    by_cases hlt : k < 4
    · have e1 : (k : Int) < 4 := by omega
      have e2 : (k : Int) < ((4 : Nat) : Int) := by omega
      have e0 : (0 : Int) ≤ (k : Int) := by omega
      have w8 : IntKind.i64.wrap (8 * (k : Int)) = 8 * (k : Int) := wrap64 (by omega)
      have hs := sh_r c (8 * (k : Int)) (by omega) (by omega)
      rw [show (8 * (k : Int)).toNat = 8 * k from by omega] at hs
      simp only [L_low, e1, e2, e0, w8, hs, u8_wrap, low_set hlt, low_len, TT, ↓reduceIte, Nat.reduceEqDiff, Nat.reduceAdd, Nat.reduceMul, reduceCtorEq, Nat.reduceLeDiff]
      rw [if_pos (by omega)]
      refine famC_next (k + 1) (by omega) (by omega) ?_
      refine Weak.calc [(0, 0)] (by decide) ?_ ?_ <;> simp [WT, al_low, ren_low, wrap64 (x := (k : Int) + 1) (by omega)]
    · obtain rfl : k = 4 := by omega
      have e1 : ¬ ((4 : Nat) : Int) < 4 := by decide
      simp only [L_low, e1, low_4, TT, ↓reduceIte, Nat.reduceEqDiff, Nat.reduceAdd, Nat.reduceMul, reduceCtorEq, Nat.reduceLeDiff]
      refine Ends.weak (Weak.freezeC 0 rfl (l := [(2, fB true (low4 c))]) (h := []) ?_ ?_) (Ends.data (.inr rfl) (by simp [ET, fB]) (al_fB _))
      · have : (eB (low4 c)).take 4 = eB (low4 c) := by rw [List.take_of_length_le]; simp [eB, low4]
        simp [WT, this, show (low4 c).length = 4 from rfl]
      · simp [WT]
theorem grow_spec (n : Nat) (nb : Nat) (h0 : 0 < n) (h : n ≤ 140737488355328) : ASound Tryz.prog 237 [.v (.slice none 0 0), .v (.int .i64 n)] nb (.ret (.os nb 0 0 1) [(nb, some (.row true 5 []))]) := by
  refine ok_237.sound (by simp) ⟨trivial, trivial, trivial⟩ ?_
  have e1 : ¬ ((n : Int) < 0) := by omega
  have e2 : (0 : Int) < (n : Int) := by omega
  have w0 : IntKind.i64.wrap (((0 : Nat) : Int) - ((0 : Nat) : Int)) = 0 := rfl
  have w1 : IntKind.i64.wrap ((n : Int) - 0) = n := by rw [Int.sub_zero]; exact wrap64 (by omega)
  have z0 : ((0 : Int) ≤ ((0 : Nat) : Int) ∧ ((0 : Nat) : Int) ≤ ((0 : Nat) : Int)) = True := eq_true ⟨by decide, by decide⟩
  have z1 : ((0 : Int) ≤ ((0 : Nat) : Int) ∧ ((0 : Nat) : Int) ≤ (n : Int)) = True := eq_true ⟨by decide, by omega⟩
  simp only [ac_237, e1, e2, w0, w1, h, z0, z1, Nat.zero_mul, TT, ↓reduceIte, Nat.reduceEqDiff, Nat.reduceAdd, Nat.reduceMul, reduceCtorEq, Nat.reduceLeDiff]
  refine Ends.weak (Weak.forget 1800000 [(4, .os 1800000 0 0 1)] (fun t v hv => by simp at hv; obtain ⟨rfl, rfl⟩ := hv; simp [ET]) (by simp [ET]; exact ⟨rfl, rfl, rfl⟩)) ?_
  exact Ends.rows1 (i := 1800000) (r0 := .os 1800000 0 0 1) (.inr rfl) (by simp [ET]) rfl trivial (by simp [Al]) (by simp [ren, rn])
/-- lists, one behind the other -/
def catB (ls : List (Bool × List Int)) : List Int := ls.flatMap (·.2)
def eLs (ls : List (Bool × List Int)) : List AV := ls.map fun p => fB p.1 p.2
theorem al_Ls {p : Nat → Prop} (ls : List (Bool × List Int)) : AlL p (eLs ls) := AlL_map (e := fun p => fB p.1 p.2) (fun q => al_fB q.2) ls
theorem ren_Ls {ρ : Nat → Nat} (ls : List (Bool × List Int)) : renL ρ (eLs ls) = eLs ls := renL_id (p := fun _ => False) (fun _ h => h.elim) (al_Ls ls)
theorem get_Ls {ls : List (Bool × List Int)} {i : Nat} {q : Bool × List Int} (h : ls[i]? = some q) : (eLs ls)[i]? = some (.fs q.1 (eB q.2) q.2.length) := by simp [eLs, h, fB]
theorem cat_snoc {ls : List (Bool × List Int)} {k : Nat} {q : Bool × List Int} (h : ls[k]? = some q) : catB (ls.take (k + 1)) = catB (ls.take k) ++ q.2 := by
  rw [take_snoc h]; simp [catB]
theorem cat_le (ls : List (Bool × List Int)) (k : Nat) : (catB (ls.take k)).length ≤ (catB ls).length := by
  have : catB ls = catB (ls.take k) ++ catB (ls.drop k) := by unfold catB; rw [← List.flatMap_append, List.take_append_drop]
  rw [this, List.length_append]; omega
abbrev L_cat1 (y : Bool) (ls : List (Bool × List Int)) (k : Nat) : ASt := ⟨envOf [(0, .os 0 0 ls.length 1), (3, .v (.int .i64 (catB (ls.take k)).length)), (9, .os 0 0 ls.length 1), (10, .v (.int .i64 ls.length)), (11, .v (.int .i64 k))], heapOf [(0, .row y 37 (eLs ls))], 1⟩
abbrev L_cat2 (y : Bool) (ls : List (Bool × List Int)) (k : Nat) : ASt := ⟨envOf [(6, .os 1 0 (catB (ls.take k)).length 1), (25, .os 0 0 ls.length 1), (26, .v (.int .i64 ls.length)), (27, .v (.int .i64 k))], heapOf [(0, .row y 37 (eLs ls)), (1, .row true 5 (eB (catB (ls.take k))))], 2⟩
set_option maxHeartbeats 1000000 in
theorem concat_spec (y : Bool) (ls : List (Bool × List Int)) (id nb : Nat) (hid : id < nb) (hn : ls.length ≤ 1000) (hne : ls ≠ []) (h0 : 0 < (catB ls).length) (h : (catB ls).length ≤ 140737488355328) :
    ASound Tryz.prog 206 [.os id 0 ls.length 1] nb (rowM id (.row y 37 (eLs ls)) (.ret (.os nb 0 (catB ls).length 1) [(id, some (.row y 37 (eLs ls))), (nb, some (.row true 5 (eB (catB ls))))])) := by
  refine ok_206.soundR (by simp) ⟨rfl, trivial⟩ (by intro h; exact hne (List.map_eq_nil_iff.1 h)) (al_Ls ls) (al_Ls ls) rfl hid ?_
  simp only [ac_206, renL, ren, TT, ↓reduceIte, Nat.reduceEqDiff, Nat.reduceAdd, Nat.reduceMul, reduceCtorEq, Nat.reduceLeDiff]
  refine AWc.family (L_cat1 y ls) (fun k => k ≤ ls.length) (fun k => ls.length - k) 0 (Nat.zero_le _) ?_ ?_
  · refine Weak.calc [(0, 0)] (by decide) ?_ ?_ <;> simp [WT, al_Ls, ren_Ls, catB]
  · intro k hk
    by_cases hlt : k < ls.length
    · obtain ⟨q, hq, e1, e0⟩ := lt_at hlt
      have hle := cat_le ls (k + 1)
      rw [cat_snoc hq, List.length_append] at hle
      have w1 : IntKind.i64.wrap (((catB (ls.take k)).length : Int) + (q.2.length : Int)) = (catB (ls.take k)).length + (q.2.length : Int) := wrap64 (by omega)
      have n1 : ¬ (((catB (ls.take k)).length : Int) + (q.2.length : Int) < 0) := by omega
      simp only [L_cat1, e1, e0, get_Ls hq, w1, n1, TT, ↓reduceIte, Nat.reduceEqDiff, Nat.reduceAdd, Nat.reduceMul, reduceCtorEq, Nat.reduceLeDiff]
      refine famC_next (k + 1) (by omega) (by omega) ?_
      refine Weak.calc [(0, 0)] (by decide) ?_ ?_ <;> simp [WT, al_Ls, ren_Ls, cat_snoc hq, wrap64 (x := (k : Int) + 1) (by omega)]
    · obtain rfl : k = ls.length := by omega
      have e1 : ¬ ((ls.length : Int) < (ls.length : Int)) := by omega
      simp only [L_cat1, e1, List.take_length, TT, ↓reduceIte, Nat.reduceEqDiff, Nat.reduceAdd, Nat.reduceMul, reduceCtorEq, Nat.reduceLeDiff]
      refine ⟨_, grow_spec (catB ls).length _ h0 h, ?_⟩
      simp only [TT, ↓reduceIte, Nat.reduceEqDiff, Nat.reduceAdd, Nat.reduceMul, reduceCtorEq, Nat.reduceLeDiff]
      refine AWc.family (L_cat2 y ls) (fun k => k ≤ ls.length) (fun k => ls.length - k) 0 (Nat.zero_le _) ?_ ?_
      · refine Weak.calc [(0, 0), (200001, 1)] (by decide) ?_ ?_ <;> simp [WT, al_Ls, ren_Ls, catB, eB]
      · intro k hk
        by_cases hlt : k < ls.length
        · obtain ⟨q, hq, e1, e0⟩ := lt_at hlt
          have hle := cat_le ls (k + 1)
          rw [cat_snoc hq, List.length_append] at hle
          simp only [L_cat2, e1, e0, get_Ls hq, len_B, TT, ↓reduceIte, Nat.reduceEqDiff, Nat.reduceAdd, Nat.reduceMul, reduceCtorEq, Nat.reduceLeDiff]
          rw [if_pos (by omega)]
          refine famC_next (k + 1) (by omega) (by omega) ?_
          refine Weak.calc [(0, 0), (600002, 1)] (by decide) ?_ ?_ <;> simp [WT, al_Ls, ren_Ls, cat_snoc hq, app_B, wrap64 (x := (k : Int) + 1) (by omega)]
        · obtain rfl : k = ls.length := by omega
          have e1 : ¬ ((ls.length : Int) < (ls.length : Int)) := by omega
          simp only [L_cat2, e1, List.take_length, TT, ↓reduceIte, Nat.reduceEqDiff, Nat.reduceAdd, Nat.reduceMul, reduceCtorEq, Nat.reduceLeDiff]
          exact EndsR.rows1 (i := 1) (r0 := .os 1 0 (catB ls).length 1) (.inr rfl) (by simp [ET]) rfl (by decide) rfl (al_B _) (by simp [Al]) (by simp [ren, rn])
theorem low_length (c : BitVec 32) : (low4 c).length = 4 := rfl
theorem seal_spec (fr : Bool) (l : List Int) (nb : Nat) (h : l.length ≤ 140737488355320) : ASound Tryz.prog 150 [fB fr l] nb (.ret (fB true (sealB l)) []) := by
  refine ok_150.sound (by simp) ⟨al_fB l, trivial⟩ ?_
  simp only [ac_150, TT, ↓reduceIte, Nat.reduceEqDiff, Nat.reduceAdd, Nat.reduceMul, reduceCtorEq, Nat.reduceLeDiff]
  refine ⟨_, sum_spec fr l _ (by omega), ?_⟩
  simp only [TT, ↓reduceIte, Nat.reduceEqDiff, Nat.reduceAdd, Nat.reduceMul, reduceCtorEq, Nat.reduceLeDiff]
  refine ⟨_, low_spec (crc l) _, ?_⟩
  simp only [TT, ↓reduceIte, Nat.reduceEqDiff, Nat.reduceAdd, Nat.reduceMul, reduceCtorEq, Nat.reduceLeDiff]
  have hc : catB [(fr, l), (true, low4 (crc l))] = sealB l := by simp [catB, sealB]
  refine ⟨_, concat_spec true [(fr, l), (true, low4 (crc l))] 500000 600000 (by omega) (by simp) (by simp) (by rw [hc]; simp [sealB, low_length]) (by rw [hc]; simp [sealB, low_length]; omega), ?_⟩
  rw [hc]
  simp only [eLs, low_length, TT, ↓reduceIte, Nat.reduceEqDiff, Nat.reduceAdd, Nat.reduceMul, reduceCtorEq, Nat.reduceLeDiff]
  refine Ends.weak (Weak.freezeC 600000 rfl (l := [(2, fB true (sealB l))]) (h := []) ?_ ?_) (Ends.data (.inr rfl) (by simp [ET, fB]) (al_fB _))
  · simp [WT]
  · simp [WT]
end Go.Proofs.YtonglhkiobibgaaGreatDoor
namespace Go.Proofs.YtonglhkiobibgaaGreatDoor
open Go.RowKit
set_option maxRecDepth 100000
theorem strOf_data (l : List Int) : (strOf l).data.toList = l.map fun n => UInt8.ofNat n.toNat := by
  have key : ∀ (l : List Int) (b : ByteArray), (l.foldl (fun r n => r.push (UInt8.ofNat n.toNat)) b).data.toList = b.data.toList ++ l.map fun n => UInt8.ofNat n.toNat := by
    intro l
    induction l with
    | nil => intro b; simp
    | cons x l ih => intro b; rw [List.foldl_cons, ih]; simp [ByteArray.push]
  have := key l .empty
  simpa [strOf] using this
theorem strOf_inj {a b : List Int} (ha : okB a) (hb : okB b) : strOf a = strOf b ↔ a = b := by
  constructor
  · intro h
    have h2 : (a.map fun n : Int => UInt8.ofNat n.toNat) = b.map fun n : Int => UInt8.ofNat n.toNat := by rw [← strOf_data, ← strOf_data, h]
    have hl : a.length = b.length := by simpa using congrArg List.length h2
    apply List.ext_getElem? 
    intro j
    by_cases hj : j < a.length
    · have e := congrArg (fun l => l[j]?) h2
      simp only [List.getElem?_map, List.getElem?_eq_getElem hj, List.getElem?_eq_getElem (show j < b.length by omega), Option.map_some, Option.some.injEq] at e
      have x1 := ha a[j] (List.getElem_mem _)
      have x2 := hb b[j] (List.getElem_mem _)
      have e2 := congrArg UInt8.toNat e
      simp only [UInt8.toNat_ofNat'] at e2
      rw [List.getElem?_eq_getElem hj, List.getElem?_eq_getElem (show j < b.length by omega)]
      congr 1
      omega
    · rw [List.getElem?_eq_none_iff.2 (by omega), List.getElem?_eq_none_iff.2 (by omega)]
  · rintro rfl; rfl
theorem bytesOf_B (l : List Int) : bytesOf (eB l) = some l := by
  induction l with
  | nil => rfl
  | cons x l ih =>
    show bytesOf (.v (.int .u8 x) :: eB l) = _
    rw [bytesOf, ih]
theorem okB_low (c : BitVec 32) : okB (low4 c) := by
  intro x hx
  simp only [low4, List.mem_cons, List.not_mem_nil, or_false] at hx
  rcases hx with rfl | rfl | rfl | rfl <;> omega
theorem okB_drop {l : List Int} (h : okB l) (n : Nat) : okB (l.drop n) := fun x hx => h x (List.mem_of_mem_drop hx)
theorem okB_take {l : List Int} (h : okB l) (n : Nat) : okB (l.take n) := fun x hx => h x (List.mem_of_mem_take hx)
theorem okB_app {a b : List Int} (ha : okB a) (hb : okB b) : okB (a ++ b) := fun x hx => by
  rcases List.mem_append.1 hx with h | h
  · exact ha x h
  · exact hb x h
theorem equal_spec (fa fb : Bool) (a b : List Int) (nb : Nat) (ha : okB a) (hb : okB b) : ASound Tryz.prog 107 [fB fa a, fB fb b] nb (.ret (.v (.bool (decide (a = b)))) []) := by
  refine ok_107.sound (by simp) ⟨al_fB a, al_fB b, trivial⟩ ?_
  simp only [ac_107, len_B, ↓bytesOf_B, strOp, strOf_inj ha hb, TT, ↓reduceIte, Nat.reduceEqDiff, Nat.reduceAdd, Nat.reduceMul, reduceCtorEq, Nat.reduceLeDiff]
  exact Ends.data (.inr rfl) (by simp [ET]) trivial
theorem openB_app {a b : List Int} (h : b.length = 4) : openB (a ++ b) = if b = low4 (crc a) then (a, 0) else ([], 21) := by
  unfold openB
  have e : (a ++ b).length - 4 = a.length := by rw [List.length_append]; omega
  rw [if_neg (by rw [List.length_append]; omega), e]
  simp
theorem open4 {l : List Int} (h : ¬ l.length < 4) : ∃ a b, l = a ++ b ∧ b.length = 4 := ⟨l.take (l.length - 4), l.drop (l.length - 4), (List.take_append_drop _ _).symm, by rw [List.length_drop]; omega⟩
theorem imp_nilE (e : Int) : Imp (.tup [.v (.slice none 0 0), .v (.int .i64 e)]) (.tup [fB true [], .v (.int .i64 e)]) := Imp.tupL ⟨Imp.nil true, Imp.refl _, trivial⟩
theorem open_spec (fr : Bool) (l : List Int) (nb : Nat) (hb : okB l) (h : l.length ≤ 140737488355320) : ASound Tryz.prog 155 [fB fr l] nb (.ret (.tup [fB true (openB l).1, .v (.int .i64 (openB l).2)]) []) := by
  refine ok_155.sound (by simp) ⟨al_fB l, trivial⟩ ?_
  by_cases h4 : l.length < 4
  · have e1 : ((l.length : Int) < 4) := by omega
    simp only [ac_155, openB, e1, h4, TT, ↓reduceIte, Nat.reduceEqDiff, Nat.reduceAdd, Nat.reduceMul, reduceCtorEq, Nat.reduceLeDiff]
    exact Ends.imp (r0 := .tup [.v (.slice none 0 0), .v (.int .i64 8)]) (.inr rfl) (by simp [ET]) ⟨trivial, trivial, trivial⟩ (imp_nilE 8)
  · obtain ⟨a, b, rfl, hl⟩ := open4 h4
    rw [openB_app hl]
    have hla : (a ++ b).length = a.length + 4 := by rw [List.length_append]; omega
    rw [hla] at h h4
    have e1 : ¬ (((a.length + 4 : Nat) : Int) < 4) := by omega
    have w1 : IntKind.i64.wrap (((a.length + 4 : Nat) : Int) - 4) = (a.length : Int) := by rw [wrap64 (by omega)]; omega
    have c1 : ((0 : Int) ≤ (a.length : Int) ∧ (a.length : Int) ≤ ((a.length + 4 : Nat) : Int)) = True := eq_true ⟨by omega, by omega⟩
    have n2 : a.length + 4 - a.length = b.length := by omega
    have d1 : (eB (a ++ b)).drop a.length = eB b := by rw [drop_B]; simp
    have d2 : (eB (a ++ b)).take a.length = eB a := by rw [take_B]; simp
    simp only [ac_155, hla, e1, w1, c1, n2, d1, d2, tk_B, Nat.sub_zero, TT, ↓reduceIte, Nat.reduceEqDiff, Nat.reduceAdd, Nat.reduceMul, reduceCtorEq, Nat.reduceLeDiff]
    refine ⟨by rfl, ?_⟩
    refine ⟨_, sum_spec fr a _ (by omega), ?_⟩
    simp only [TT, ↓reduceIte, Nat.reduceEqDiff, Nat.reduceAdd, Nat.reduceMul, reduceCtorEq, Nat.reduceLeDiff]
    refine ⟨_, low_spec (crc a) _, ?_⟩
    simp only [TT, ↓reduceIte, Nat.reduceEqDiff, Nat.reduceAdd, Nat.reduceMul, reduceCtorEq, Nat.reduceLeDiff]
    refine ⟨_, equal_spec fr true b (low4 (crc a)) _ (fun x hx => hb x (by simp [hx])) (okB_low _), ?_⟩
    simp only [TT, ↓reduceIte, Nat.reduceEqDiff, Nat.reduceAdd, Nat.reduceMul, reduceCtorEq, Nat.reduceLeDiff]
    by_cases he : b = low4 (crc a)
    · simp only [he, TT, ↓reduceIte, Nat.reduceEqDiff, Nat.reduceAdd, Nat.reduceMul, reduceCtorEq, Nat.reduceLeDiff]
      refine ⟨_, bytesClone_spec fr a _ (by omega), ?_⟩
      simp only [TT, ↓reduceIte, Nat.reduceEqDiff, Nat.reduceAdd, Nat.reduceMul, reduceCtorEq, Nat.reduceLeDiff]
      exact Ends.data (.inr rfl) (by simp [ET]) ⟨al_B a, trivial, trivial⟩
    · simp only [he, TT, ↓reduceIte, Nat.reduceEqDiff, Nat.reduceAdd, Nat.reduceMul, reduceCtorEq, Nat.reduceLeDiff]
      exact Ends.imp (r0 := .tup [.v (.slice none 0 0), .v (.int .i64 21)]) (.inr rfl) (by simp [ET]) ⟨trivial, trivial, trivial⟩ (imp_nilE 21)
end Go.Proofs.YtonglhkiobibgaaGreatDoor
namespace Go.Proofs.YtonglhkiobibgaaGreatDoor
open Go.RowKit
/-- a number in groups of 7 bits -/
def gp (m : Nat) : List Int := if m < 128 then [(m : Int)] else ((m % 128 + 128 : Nat) : Int) :: gp (m / 128)
termination_by m
decreasing_by omega
theorem gp_small {m : Nat} (h : m < 128) : gp m = [(m : Int)] := by rw [gp, if_pos h]
theorem gp_big {m : Nat} (h : ¬ m < 128) : gp m = ((m % 128 + 128 : Nat) : Int) :: gp (m / 128) := by rw [gp, if_neg h]
theorem gp_len : ∀ (k m : Nat), m < 128 ^ (k + 1) → (gp m).length ≤ k + 1
  | 0, m, h => by rw [gp_small (by simpa using h)]; simp
  | k + 1, m, h => by
    by_cases h1 : m < 128
    · rw [gp_small h1]; simp
    · rw [gp_big h1, List.length_cons]
      have := gp_len k (m / 128) (by rw [Nat.div_lt_iff_lt_mul (by decide), ← Nat.pow_succ]; exact h)
      omega
theorem gp_le {m : Nat} (h : m < 18446744073709551616) : (gp m).length ≤ 10 := gp_len 9 m (Nat.lt_of_lt_of_le h (by decide))
/-- a number with its sign -/
def zz (n : Int) : Nat := if 0 ≤ n then (2 * n).toNat else (-2 * n - 1).toNat
def i64ok (n : Int) : Prop := -9223372036854775808 ≤ n ∧ n ≤ 9223372036854775807
theorem zz_lt {n : Int} (h : i64ok n) : zz n < 18446744073709551616 := by
  unfold zz i64ok at *; split <;> omega
def encT (t : List Int) : List Int := gp t.length ++ t
def encR (r : Rec) : List Int := [r.kind, (r.nums.length : Int)] ++ r.nums.flatMap (fun n => gp (zz n)) ++ ((r.texts.length : Int) :: r.texts.flatMap encT)
def recE (r : Rec) : Int := if r.kind < 0 ∨ 255 < r.kind then 22 else if 64 < r.nums.length ∨ 64 < r.texts.length then 3 else if ∃ t ∈ r.texts, 4096 < t.length then 5 else 0
def encode (r : Rec) : List Int × Int := if recE r = 0 then (sealB (encR r), 0) else ([], recE r)
theorem or_tab : ∀ a, a < 256 → (a ||| 128) % 256 = a % 128 + 128 := by decide +kernel
theorem or_128 (x : Int) : IntKind.u8.wrap ((BitVec.ofInt IntKind.u8.bits (x % 256) ||| BitVec.ofInt IntKind.u8.bits 128).toNat : Int) = x % 128 + 128 := by
  rw [u8_wrap]
  have h1 : (BitVec.ofInt IntKind.u8.bits (x % 256) ||| BitVec.ofInt IntKind.u8.bits 128).toNat = (x % 256).toNat ||| 128 := by
    rw [BitVec.toNat_or, BitVec.toNat_ofInt, BitVec.toNat_ofInt]
    show ((x % 256) % ((2 ^ 8 : Nat) : Int)).toNat ||| ((128 : Int) % ((2 ^ 8 : Nat) : Int)).toNat = _
    rw [show ((2 ^ 8 : Nat) : Int) = 256 from rfl, Int.emod_emod_of_dvd _ (Int.dvd_refl _)]
    rfl
  rw [h1]
  have h2 := or_tab (x % 256).toNat (by omega)
  omega
theorem or_128' (x : Int) : IntKind.u8.wrap ((BitVec.ofInt IntKind.u8.bits (IntKind.u8.wrap x) ||| BitVec.ofInt IntKind.u8.bits 128).toNat : Int) = x % 128 + 128 := by rw [u8_wrap x]; exact or_128 x
theorem sh_u64 (m : Nat) : shVal .shr .u64 (m : Int) 7 = some (.int .u64 ((m / 128 : Nat) : Int)) := by
  have h : Int.fdiv (m : Int) (2 ^ min (Int.toNat 7) IntKind.u64.bits) = ((m / 128 : Nat) : Int) := by
    show Int.fdiv (m : Int) 128 = _
    rw [Int.fdiv_eq_ediv_of_nonneg _ (by decide)]
    omega
  simp only [shVal, if_neg (show ¬ ((7 : Int) < 0) by decide), h]
theorem u64_mod (x : Int) : IntKind.u64.wrap x = x % 18446744073709551616 := by simp [IntKind.wrap, IntKind.bits, IntKind.signed]
theorem ofInt64 (x : Int) : (BitVec.ofInt 64 x).toNat = (x % 18446744073709551616).toNat := by rw [BitVec.toNat_ofInt]; rfl
theorem and127 (m : Nat) : m &&& 127 = m % 128 := Nat.and_two_pow_sub_one_eq_mod m 7
theorem fd63 {n : Int} (h : i64ok n) : n.fdiv (2 ^ min (Int.toNat 63) IntKind.i64.bits) = if 0 ≤ n then 0 else -1 := by
  show n.fdiv 9223372036854775808 = _
  rw [Int.fdiv_eq_ediv_of_nonneg _ (by decide)]
  unfold i64ok at h
  split <;> omega
theorem zz_prog {n : Int} (h : i64ok n) : IntKind.u64.wrap (IntKind.i64.wrap ((BitVec.ofInt IntKind.i64.bits (IntKind.i64.wrap (n * 2 ^ min (Int.toNat 1) IntKind.i64.bits)) ^^^ BitVec.ofInt IntKind.i64.bits (n.fdiv (2 ^ min (Int.toNat 63) IntKind.i64.bits))).toNat : Int)) = (zz n : Int) := by
  rw [fd63 h]
  have e2 : n * 2 ^ min (Int.toNat 1) IntKind.i64.bits = n * 2 := rfl
  rw [e2]
  have hx : ((BitVec.ofInt IntKind.i64.bits (IntKind.i64.wrap (n * 2)) ^^^ BitVec.ofInt IntKind.i64.bits (if 0 ≤ n then 0 else -1)).toNat : Int) = (zz n : Int) := by
    show ((BitVec.ofInt 64 (IntKind.i64.wrap (n * 2)) ^^^ BitVec.ofInt 64 (if 0 ≤ n then 0 else -1)).toNat : Int) = _
    unfold zz i64ok at *
    by_cases h0 : 0 ≤ n
    · rw [if_pos h0, if_pos h0, show BitVec.ofInt 64 0 = 0#64 from rfl, BitVec.xor_zero, ofInt64, IntKind.wrap_i64]
      omega
    · rw [if_neg h0, if_neg h0, show BitVec.ofInt 64 (-1) = BitVec.allOnes 64 from by decide, BitVec.xor_allOnes, BitVec.toNat_not, ofInt64, IntKind.wrap_i64]
      omega
  rw [hx, u64_mod, IntKind.wrap_i64]
  have := zz_lt h
  omega
end Go.Proofs.YtonglhkiobibgaaGreatDoor
namespace Go.Proofs.YtonglhkiobibgaaGreatDoor
open Go.RowKit
set_option maxRecDepth 100000
abbrev L_gp (y : Bool) (q : List Int × Nat) : ASt := ⟨envOf [(0, .os 0 0 q.1.length 1), (1, .v (.int .u64 q.2))], heapOf [(0, .row y 5 (eB q.1))], 1⟩
theorem groups_spec (y : Bool) (l : List Int) (m : Nat) (id nb : Nat) (hid : id < nb) (hne : l ≠ []) (hl : l.length ≤ 140737488355300) (hm : m < 18446744073709551616) :
    ASound Tryz.prog 149 [.os id 0 l.length 1, .v (.int .u64 m)] nb (rowsM [(id, y, 5, eB l)] (.ret (.os nb 0 (l ++ gp m).length 1) [(id, none), (nb, some (.row y 5 (eB (l ++ gp m))))])) := by
  refine FnOk.soundX (m := 0) [(id, y, 5, eB l)] [none] ok_149 (W := [(nb, some (.row y 5 (eB (l ++ gp m))))]) (by simp) (by simp [AlL, Al]) (by simp) (by intro x hx; simp at hx; subst hx; exact ⟨by simp [eB, hne], al_B l, hid⟩) rfl (Nat.zero_le _) (by intro k cl h; rcases k with _ | k <;> simp at h) ?_
  simp only [ac_149, rowsIn, renL, ren, rn, List.map_cons, List.map_nil, List.zipIdx_cons, List.zipIdx_nil, List.find?_cons_of_pos, beq_self_eq_true, TT, ↓reduceIte, Nat.reduceEqDiff, Nat.reduceAdd, Nat.reduceMul, reduceCtorEq, Nat.reduceLeDiff]
  refine AWc.family (L_gp y) (fun q => q.1 ++ gp q.2 = l ++ gp m ∧ q.2 < 18446744073709551616 ∧ q.1.length ≤ 140737488355320) (fun q => q.2) (l, m) ⟨rfl, hm, by simp only; omega⟩ ?_ ?_
  · refine Weak.calc [(0, 0)] (by decide) ?_ ?_ <;> simp [WT]
  · rintro ⟨l', m'⟩ ⟨he, hm', hl'⟩
    simp only at he hm' hl'
    have hlen : (l' ++ gp m').length ≤ 140737488355320 := by rw [he, List.length_append]; have := gp_le hm; omega
    rw [List.length_append] at hlen
    by_cases hb : m' < 128
    · have e1 : ¬ ((127 : Int) < (m' : Int)) := by omega
      rw [gp_small hb] at hlen he
      simp only [List.length_cons, List.length_nil] at hlen
      have w8 : IntKind.u8.wrap (m' : Int) = m' := by rw [u8_wrap]; omega
      simp only [L_gp, e1, w8, len_B, TT, ↓reduceIte, Nat.reduceEqDiff, Nat.reduceAdd, Nat.reduceMul, reduceCtorEq, Nat.reduceLeDiff]
      rw [if_pos (by omega)]
      have hc : eB l' ++ [AV.v (.int .u8 (m' : Int))] = eB (l' ++ [(m' : Int)]) := by rw [app_B, one_B]
      rw [← he, hc]
      exact EndsX.rows1 (i := 600001) (r0 := .os 600001 0 (l' ++ [(m' : Int)]).length 1) (.inr rfl) (by simp [ET]) rfl (al_B _) (by simp [Al]) (by simp [ren, rn]) trivial
    · have e1 : ((127 : Int) < (m' : Int)) := by omega
      have hg := gp_big hb
      rw [hg, List.length_cons] at hlen
      simp only [L_gp, e1, or_128', sh_u64, len_B, TT, ↓reduceIte, Nat.reduceEqDiff, Nat.reduceAdd, Nat.reduceMul, reduceCtorEq, Nat.reduceLeDiff]
      rw [if_pos (by omega)]
      refine famC_next (l' ++ [((m' % 128 + 128 : Nat) : Int)], m' / 128) (by simp only; omega) ⟨by rw [← he, hg]; simp, by simp only; omega, by simp only [List.length_append, List.length_cons, List.length_nil]; omega⟩ ?_
      refine Weak.calc [(700001, 0)] (by decide) ?_ ?_ <;> simp [WT, app_B, one_B]
end Go.Proofs.YtonglhkiobibgaaGreatDoor
namespace Go.Proofs.YtonglhkiobibgaaGreatDoor
open Go.RowKit
variable {P : Program} {c d : Cx}
mutual
/-- all labels say young; all names are S's -/
def Yg (S : Nat → Prop) : AV → Prop
  | .any | .v _ | .wv _ => True
  | .fs fr cs _ | .fp fr cs _ | .us fr _ cs _ => fr = true ∧ YgL S cs
  | .agg cs | .tup cs | .fn _ cs => YgL S cs
  | .ifc _ a => Yg S a
  | .os id _ _ _ | .op id _ | .mp id => S id
  | .ws _ _ | .wp _ => False
def YgL (S : Nat → Prop) : List AV → Prop
  | [] => True
  | a :: r => Yg S a ∧ YgL S r
end
theorem YgL_iff {S : Nat → Prop} : ∀ {l : List AV}, YgL S l ↔ ∀ a ∈ l, Yg S a
  | [] => by simp [YgL]
  | a :: r => by rw [YgL, YgL_iff (l := r)]; simp
mutual
theorem VR.yg {S : Nat → Prop} (hw : d.w = c.w) (hk : ∀ b, b < c.w.heap.size → c.ok true b → d.ok true b) (hn : ∀ i x, S i → c.φ i = some x → d.φ i = some x) : ∀ {a : AV} {u : Value}, Yg S a → VR c a u → VR d a u
  | .any, u, _, _ => trivial
  | .v x, u, _, k => k
  | .wv q, u, _, k => k
  | .fs fr cs n, u, q, k => by
    obtain ⟨A, k', rfl, hk', hm⟩ := k
    refine ⟨A, k', rfl, hk', fun h0 => ?_⟩
    obtain ⟨b, off, rfl, e1, e2, e3⟩ := hm h0
    obtain ⟨rfl, q2⟩ := q
    exact ⟨b, off, rfl, by rw [hw]; exact e1, hk b e1 e2, VRm.yg hw hk hn q2 e3⟩
  | .fp fr cs n, u, q, k => by
    obtain ⟨b, off, rfl, e1, e2, e3⟩ := k
    obtain ⟨rfl, q2⟩ := q
    exact ⟨b, off, rfl, by rw [hw]; exact e1, hk b e1 e2, VRm.yg hw hk hn q2 e3⟩
  | .us fr e cs n, u, q, k => by
    obtain ⟨A, k', rfl, hk', hm⟩ := k
    refine ⟨A, k', rfl, hk', fun h0 => ?_⟩
    obtain ⟨b, rfl, e2, ⟨vs, e1⟩, e3⟩ := hm h0
    obtain ⟨rfl, q2⟩ := q
    exact ⟨b, rfl, hk b (lt_of_blk e1) e2, ⟨vs, by rw [hw]; exact e1⟩, VRm.yg hw hk hn q2 e3⟩
  | .os id off n sz, u, q, k => by
    obtain ⟨A, k', rfl, hk', hm⟩ := k
    refine ⟨A, k', rfl, hk', ?_⟩
    rcases hm with ⟨h1, h2⟩ | ⟨b, h1, rfl, cs, e, f, h2, h3⟩
    · obtain ⟨x, hx⟩ := Option.ne_none_iff_exists'.1 h1
      exact .inl ⟨by rw [hn _ _ q hx]; simp, h2⟩
    · exact .inr ⟨b, hn _ _ q h1, rfl, cs, e, f, by rw [hw]; exact h2, h3⟩
  | .op id off, u, q, k => by
    obtain ⟨b, h1, rfl, h2⟩ := k
    exact ⟨b, hn _ _ q h1, rfl, by rw [hw]; exact h2⟩
  | .mp id, u, q, k => by
    obtain ⟨b, h1, rfl⟩ := k
    exact ⟨b, hn _ _ q h1, rfl⟩
  | .ifc t a, u, q, k => by obtain ⟨v, rfl, k⟩ := k; exact ⟨v, rfl, VR.yg hw hk hn (a := a) q k⟩
  | .agg l, u, q, k => by obtain ⟨us, rfl, k⟩ := k; exact ⟨us, rfl, VRl.yg hw hk hn q k⟩
  | .tup l, u, q, k => by obtain ⟨us, rfl, k⟩ := k; exact ⟨us, rfl, VRt.yg hw hk hn q k⟩
  | .fn f l, u, q, k => by obtain ⟨us, rfl, k⟩ := k; exact ⟨us, rfl, VRt.yg hw hk hn q k⟩
theorem VRm.yg {S : Nat → Prop} (hw : d.w = c.w) (hk : ∀ b, b < c.w.heap.size → c.ok true b → d.ok true b) (hn : ∀ i x, S i → c.φ i = some x → d.φ i = some x) {b : Nat} : ∀ {cs : List AV} {off : Nat}, YgL S cs → VRm c b off cs → VRm d b off cs
  | [], _, _, _ => trivial
  | a :: r, off, q, k => by
    rw [VRm] at k ⊢
    obtain ⟨⟨u, h1, h2, h3⟩, h4⟩ := k
    exact ⟨⟨u, by rw [hw]; exact h1, h2, VR.yg hw hk hn q.1 h3⟩, VRm.yg hw hk hn q.2 h4⟩
theorem VRl.yg {S : Nat → Prop} (hw : d.w = c.w) (hk : ∀ b, b < c.w.heap.size → c.ok true b → d.ok true b) (hn : ∀ i x, S i → c.φ i = some x → d.φ i = some x) : ∀ {cs : List AV} {us : List Value}, YgL S cs → VRl c cs us → VRl d cs us
  | [], _, _, k => k
  | a :: r, us, q, k => by
    rw [VRl] at k ⊢
    obtain ⟨u, us', rfl, h1, h2, h3⟩ := k
    exact ⟨u, us', rfl, h1, VR.yg hw hk hn q.1 h2, VRl.yg hw hk hn q.2 h3⟩
theorem VRt.yg {S : Nat → Prop} (hw : d.w = c.w) (hk : ∀ b, b < c.w.heap.size → c.ok true b → d.ok true b) (hn : ∀ i x, S i → c.φ i = some x → d.φ i = some x) : ∀ {cs : List AV} {us : List Value}, YgL S cs → VRt c cs us → VRt d cs us
  | [], _, _, k => k
  | a :: r, us, q, k => by
    rw [VRt] at k ⊢
    obtain ⟨u, us', rfl, h2, h3⟩ := k
    exact ⟨u, us', rfl, VR.yg hw hk hn q.1 h2, VRt.yg hw hk hn q.2 h3⟩
end
mutual
/-- what is known of it, as old data -/
def od : AV → AV
  | .any => .any
  | .v x => .v x
  | .wv k => .wv k
  | .fs _ cs n => .fs false (odL cs) n
  | .fp _ cs n => .fp false (odL cs) n
  | .us _ e cs n => .us false e (odL cs) n
  | .agg l => .agg (odL l)
  | .tup l => .tup (odL l)
  | .fn f l => .fn f (odL l)
  | .ifc t a => .ifc t (od a)
  | .os _ _ _ _ | .op _ _ | .mp _ | .ws _ _ | .wp _ => .any
def odL : List AV → List AV
  | [] => []
  | a :: r => od a :: odL r
end
theorem odL_map : ∀ l : List AV, odL l = l.map od
  | [] => rfl
  | a :: r => by rw [odL, odL_map r]; rfl
mutual
theorem VR.od (hw : d.w = c.w) (hk : ∀ fr b, b < c.w.heap.size → c.ok fr b → d.ok false b) : ∀ {a : AV} {u : Value}, VR c a u → VR d (od a) u
  | .any, u, _ => trivial
  | .v x, u, k => k
  | .wv q, u, k => k
  | .ws _ _, u, _ => trivial
  | .wp _, u, _ => trivial
  | .mp _, u, _ => trivial
  | .os _ _ _ _, u, _ => trivial
  | .op _ _, u, _ => trivial
  | .fs fr cs n, u, k => by
    obtain ⟨A, k', rfl, hk', hm⟩ := k
    refine ⟨A, k', rfl, hk', fun h0 => ?_⟩
    obtain ⟨b, off, rfl, e1, e2, e3⟩ := hm h0
    exact ⟨b, off, rfl, by rw [hw]; exact e1, hk fr b e1 e2, VRm.od hw hk e3⟩
  | .fp fr cs n, u, k => by
    obtain ⟨b, off, rfl, e1, e2, e3⟩ := k
    exact ⟨b, off, rfl, by rw [hw]; exact e1, hk fr b e1 e2, VRm.od hw hk e3⟩
  | .us fr e cs n, u, k => by
    obtain ⟨A, k', rfl, hk', hm⟩ := k
    refine ⟨A, k', rfl, hk', fun h0 => ?_⟩
    obtain ⟨b, rfl, e2, ⟨vs, e1⟩, e3⟩ := hm h0
    exact ⟨b, rfl, hk fr b (lt_of_blk e1) e2, ⟨vs, by rw [hw]; exact e1⟩, VRm.od hw hk e3⟩
  | .ifc t a, u, k => by obtain ⟨v, rfl, k⟩ := k; exact ⟨v, rfl, VR.od hw hk (a := a) k⟩
  | .agg l, u, k => by obtain ⟨us, rfl, k⟩ := k; exact ⟨us, rfl, VRl.od hw hk k⟩
  | .tup l, u, k => by obtain ⟨us, rfl, k⟩ := k; exact ⟨us, rfl, VRt.od hw hk k⟩
  | .fn f l, u, k => by obtain ⟨us, rfl, k⟩ := k; exact ⟨us, rfl, VRt.od hw hk k⟩
theorem VRm.od (hw : d.w = c.w) (hk : ∀ fr b, b < c.w.heap.size → c.ok fr b → d.ok false b) {b : Nat} : ∀ {cs : List AV} {off : Nat}, VRm c b off cs → VRm d b off (odL cs)
  | [], _, _ => trivial
  | a :: r, off, k => by
    rw [VRm] at k
    rw [odL, VRm]
    obtain ⟨⟨u, h1, h2, h3⟩, h4⟩ := k
    exact ⟨⟨u, by rw [hw]; exact h1, h2, VR.od hw hk h3⟩, VRm.od hw hk h4⟩
theorem VRl.od (hw : d.w = c.w) (hk : ∀ fr b, b < c.w.heap.size → c.ok fr b → d.ok false b) : ∀ {cs : List AV} {us : List Value}, VRl c cs us → VRl d (odL cs) us
  | [], _, k => k
  | a :: r, us, k => by
    rw [VRl] at k
    rw [odL, VRl]
    obtain ⟨u, us', rfl, h1, h2, h3⟩ := k
    exact ⟨u, us', rfl, h1, VR.od hw hk h2, VRl.od hw hk h3⟩
theorem VRt.od (hw : d.w = c.w) (hk : ∀ fr b, b < c.w.heap.size → c.ok fr b → d.ok false b) : ∀ {cs : List AV} {us : List Value}, VRt c cs us → VRt d (odL cs) us
  | [], _, k => k
  | a :: r, us, k => by
    rw [VRt] at k
    rw [odL, VRt]
    obtain ⟨u, us', rfl, h2, h3⟩ := k
    exact ⟨u, us', rfl, VR.od hw hk h2, VRt.od hw hk h3⟩
end
def cellsAt : List RW → Nat → Option (List AV)
  | [], _ => none
  | x :: r, id => if id = x.1 then some x.2.2.2 else cellsAt r id
theorem cellsAt_mem : ∀ {rws : List RW} {id : Nat} {cs : List AV}, cellsAt rws id = some cs → ∃ (j : Nat) (x : RW), rws[j]? = some x ∧ x.1 = id ∧ x.2.2.2 = cs
  | [], _, _, h => by cases h
  | x :: r, id, cs, h => by
    rw [cellsAt] at h
    split at h
    · rename_i e; cases h; exact ⟨0, x, rfl, e.symm, rfl⟩
    · obtain ⟨j, y, h1, h2⟩ := cellsAt_mem h
      exact ⟨j + 1, y, by simpa using h1, h2⟩
mutual
/-- an argument, its rows as data -/
def bo (rws : List RW) : AV → AV
  | .os id off n sz => match cellsAt rws id with | some cs => .fs false (odL ((cs.drop off).take (n * sz))) n | none => .any
  | .op id off => match cellsAt rws id with | some cs => .fp false (odL cs) off | none => .any
  | .agg l => .agg (boL rws l)
  | .fn f l => .fn f (boL rws l)
  | .ifc t a => .ifc t (bo rws a)
  | a => od a
def boL (rws : List RW) : List AV → List AV
  | [] => []
  | a :: r => bo rws a :: boL rws r
end
section
variable {rws : List RW}
theorem VR.bo0 (hr : HR c) (hσ : ∀ (j : Nat) (x : RW), rws[j]? = some x → c.σ x.1 = some (.row x.2.1 x.2.2.1 x.2.2.2)) (hne : ∀ x ∈ rws, x.2.2.2 ≠ []) (hw : d.w = c.w) (hk : ∀ fr b, b < c.w.heap.size → c.ok fr b → d.ok false b)
    (hrow : ∀ (j : Nat) (x : RW) b, rws[j]? = some x → c.φ x.1 = some (some b) → d.ok false b) {id : Nat} {cs : List AV} (hc : cellsAt rws id = some cs) : ∃ b, c.φ id = some (some b) ∧ b < c.w.heap.size ∧ d.ok false b ∧ ((∃ vs e' f, c.w.heap[b]? = some (Obj.cells vs e' f)) → VRm d b 0 (odL cs)) := by
  obtain ⟨j, x, h1, rfl, rfl⟩ := cellsAt_mem hc
  rcases hr.row x.1 _ _ _ (hσ j x h1) with ⟨_, h2⟩ | ⟨b, vs, g1, g2, g3, g4, g5⟩
  · exact absurd h2.1 (hne x (List.mem_of_getElem? h1))
  · refine ⟨b, g1, g2.lt, hrow j x b h1 g1, fun hcl => VRm.od hw hk (VRm_iff.2 fun q a hq => ?_)⟩
    replace g2 := g2.cells hcl
    obtain ⟨u, k1, k2, k3⟩ := g5 q a hq
    exact ⟨u, by rw [Nat.zero_add]; simp [World.cell?, g2, k1], k2, k3⟩
mutual
theorem VR.bo (hr : HR c) (hσ : ∀ (j : Nat) (x : RW), rws[j]? = some x → c.σ x.1 = some (.row x.2.1 x.2.2.1 x.2.2.2)) (hne : ∀ x ∈ rws, x.2.2.2 ≠ []) (hw : d.w = c.w) (hk : ∀ fr b, b < c.w.heap.size → c.ok fr b → d.ok false b)
    (hrow : ∀ (j : Nat) (x : RW) b, rws[j]? = some x → c.φ x.1 = some (some b) → d.ok false b) : ∀ {a : AV} {u : Value}, VR c a u → VR d (bo rws a) u
  | .os id off n sz, u, k => by
    unfold Go.Proofs.YtonglhkiobibgaaGreatDoor.bo
    cases hc : cellsAt rws id with
    | none => trivial
    | some cs =>
      obtain ⟨b, g1, g2, g3, g4⟩ := VR.bo0 hr hσ hne hw hk hrow hc
      obtain ⟨A, k', rfl, hk', hm⟩ := k
      refine ⟨A, k', rfl, hk', fun h0 => ?_⟩
      rcases hm with ⟨_, h2⟩ | ⟨b', h1, rfl, cs9, e9, f9, h9, _⟩
      · omega
      · rw [g1] at h1; cases h1
        replace g4 := g4 ⟨_, _, _, h9⟩
        refine ⟨b, off, rfl, by rw [hw]; exact g2, g3, VRm_iff.2 fun q a hq => ?_⟩
        rw [odL_map, List.getElem?_map, Option.map_eq_some_iff] at hq
        obtain ⟨a', h8, rfl⟩ := hq
        rw [List.getElem?_take] at h8
        split at h8
        · rw [List.getElem?_drop] at h8
          have := VRm_iff.1 g4 (off + q) (od a') (by rw [odL_map, List.getElem?_map, h8]; rfl)
          rwa [Nat.zero_add] at this
        · cases h8
  | .op id off, u, k => by
    unfold Go.Proofs.YtonglhkiobibgaaGreatDoor.bo
    cases hc : cellsAt rws id with
    | none => trivial
    | some cs =>
      obtain ⟨b, g1, g2, g3, g4⟩ := VR.bo0 hr hσ hne hw hk hrow hc
      obtain ⟨b', h1, rfl, hcl⟩ := k
      rw [g1] at h1; cases h1
      exact ⟨b, 0, by rw [Nat.zero_add], by rw [hw]; exact g2, g3, g4 hcl⟩
  | .agg l, u, k => by obtain ⟨us, rfl, k⟩ := k; exact ⟨us, rfl, VRl.bo hr hσ hne hw hk hrow k⟩
  | .ifc t a, u, k => by obtain ⟨v, rfl, k⟩ := k; exact ⟨v, rfl, VR.bo hr hσ hne hw hk hrow (a := a) k⟩
  | .any, u, k => VR.od hw hk (a := .any) k
  | .v x, u, k => VR.od hw hk (a := .v x) k
  | .wv x, u, k => VR.od hw hk (a := .wv x) k
  | .ws x n, u, k => VR.od hw hk (a := .ws x n) k
  | .wp x, u, k => VR.od hw hk (a := .wp x) k
  | .mp x, u, k => VR.od hw hk (a := .mp x) k
  | .fs fr cs n, u, k => VR.od hw hk (a := .fs fr cs n) k
  | .fp fr cs n, u, k => VR.od hw hk (a := .fp fr cs n) k
  | .us fr e cs n, u, k => VR.od hw hk (a := .us fr e cs n) k
  | .tup l, u, k => VR.od hw hk (a := .tup l) k
  | .fn f l, u, k => by obtain ⟨us, rfl, k⟩ := k; exact ⟨us, rfl, VRt.bo hr hσ hne hw hk hrow k⟩
theorem VRl.bo (hr : HR c) (hσ : ∀ (j : Nat) (x : RW), rws[j]? = some x → c.σ x.1 = some (.row x.2.1 x.2.2.1 x.2.2.2)) (hne : ∀ x ∈ rws, x.2.2.2 ≠ []) (hw : d.w = c.w) (hk : ∀ fr b, b < c.w.heap.size → c.ok fr b → d.ok false b)
    (hrow : ∀ (j : Nat) (x : RW) b, rws[j]? = some x → c.φ x.1 = some (some b) → d.ok false b) : ∀ {cs : List AV} {us : List Value}, VRl c cs us → VRl d (boL rws cs) us
  | [], _, k => k
  | a :: r, us, k => by
    rw [VRl] at k
    rw [boL, VRl]
    obtain ⟨u, us', rfl, h1, h2, h3⟩ := k
    exact ⟨u, us', rfl, h1, VR.bo hr hσ hne hw hk hrow h2, VRl.bo hr hσ hne hw hk hrow h3⟩
theorem VRt.bo (hr : HR c) (hσ : ∀ (j : Nat) (x : RW), rws[j]? = some x → c.σ x.1 = some (.row x.2.1 x.2.2.1 x.2.2.2)) (hne : ∀ x ∈ rws, x.2.2.2 ≠ []) (hw : d.w = c.w) (hk : ∀ fr b, b < c.w.heap.size → c.ok fr b → d.ok false b)
    (hrow : ∀ (j : Nat) (x : RW) b, rws[j]? = some x → c.φ x.1 = some (some b) → d.ok false b) : ∀ {cs : List AV} {us : List Value}, VRt c cs us → VRt d (boL rws cs) us
  | [], _, k => k
  | a :: r, us, k => by
    rw [VRt] at k
    rw [boL, VRt]
    obtain ⟨u, us', rfl, h2, h3⟩ := k
    exact ⟨u, us', rfl, VR.bo hr hσ hne hw hk hrow h2, VRt.bo hr hσ hne hw hk hrow h3⟩
end
end
/-- the rows that a contract leaves -/
def newW (nb : Nat) (ws : List (Bool × Nat × List AV)) : List (Nat × Option AObj) := (ws.zipIdx nb).map fun x => (x.2, some (AObj.row x.1.1 x.1.2.1 x.1.2.2))
theorem ASound.borrow {f : FuncId} {args : List AV} {nb : Nat} {r : AV} (ws : List (Bool × Nat × List AV)) (rws : List RW) (h : ASound P f (boL rws args) nb (.ret r (newW nb ws))) (hne : ∀ x ∈ rws, x.2.2.2 ≠ []) (hfew : ws.length ≤ 100000)
    (hy : Yg (fun i => nb ≤ i ∧ i < nb + ws.length) r) (hyw : ∀ x ∈ ws, YgL (fun i => nb ≤ i ∧ i < nb + ws.length) x.2.2) : ASound P f args nb (rowsM rws (.ret r (newW nb ws))) := by
  refine ⟨h.1, fun c us r' R W' hrun hr hfr hv => ?_⟩
  obtain ⟨hσ, R', hrun2⟩ := rowsM_run hrun
  simp [AM.run] at hrun2
  obtain ⟨rfl, _, rfl⟩ := hrun2
  clear hrun
  obtain ⟨Yx, Yx_pos, Yx_neg⟩ := c.yx
  have Tlt : ∀ b, c.T b → b < c.w.heap.size := by
    rintro b ⟨i, ⟨y', e', cl⟩, e1, e2⟩
    rcases hr.row i y' e' cl e1 with ⟨g1, _⟩ | ⟨b', cs, g1, g2, _⟩
    · rw [e2] at g1; cases g1
    · rw [e2] at g1; cases g1; exact g2.lt
  generalize hc1 : (⟨c.w, c.w.heap.size, fun _ => none, fun _ => none, fun b => (c.T b ∧ ∀ (j : Nat) (x : RW), rws[j]? = some x → c.φ x.1 ≠ some (some b)) ∨ c.X b, Yx⟩ : Cx) = c1
  have w1 : c1.w = c.w := by rw [← hc1]
  have B1 : c1.B = c.w.heap.size := by rw [← hc1]
  have σ1 : c1.σ = fun _ => none := by rw [← hc1]
  have φ1 : c1.φ = fun _ => none := by rw [← hc1]
  have X1 : ∀ b, c1.X b ↔ ((c.T b ∧ ∀ (j : Nat) (x : RW), rws[j]? = some x → c.φ x.1 ≠ some (some b)) ∨ c.X b) := by rw [← hc1]; intro b; rfl
  have Y1 : c1.Y = Yx := by rw [← hc1]
  have T1 : ∀ b, ¬ c1.T b := by rintro b ⟨id, o, e1, _⟩; rw [σ1] at e1; cases e1
  have hx1 : ∀ b, c1.X b → b < c1.w.heap.size := by
    intro b hb
    rw [w1]
    rcases (X1 b).1 hb with h9 | h9
    · exact Tlt b h9.1
    · exact hr.xlt b h9
  have hr1 : HR c1 := ⟨fun id y e cells hs => (by rw [σ1] at hs; cases hs), fun id id' b e1 => (by rw [σ1] at e1; exact absurd rfl e1), (by rw [B1, w1]; exact Nat.le_refl _), hx1, hr.gl.to fun b _ h2 h3 => ⟨by rw [w1], T1 b, fun _ => by
      rw [Y1]
      by_cases hx : c.X b
      · rw [Yx_pos _ hx]; exact h3 hx
      · exact Yx_neg _ hx⟩⟩
  have hv1 : VRt c1 (boL rws args) us := by
    refine VRt.bo hr hσ hne w1 (fun fr b _ ho => ⟨fun h => (by cases h), T1 b, ?_⟩) (fun j x b h1 h2 => ⟨fun h => (by cases h), T1 b, ?_⟩) hv
    · rw [X1]; rintro (h9 | h9)
      · exact ho.2.1 h9.1
      · exact ho.2.2 h9
    · rw [X1]; rintro (h9 | h9)
      · exact h9.2 j x h1 h2
      · exact hr.TX ⟨x.1, _, hσ j x h1, h2⟩ h9
  have hk9 := h.2 c1 us r [] (newW nb ws) rfl hr1 (fun id _ => .inl (by rw [φ1])) hv1
  rw [w1] at hk9
  refine hk9.mono ?_
  rintro e w' ⟨v, d1, rfl, rfl, hv2, T2⟩
  have G := T2.grow
  have dσ1 : ∀ i, d1.σ i = if nb ≤ i then (match ws[i - nb]? with | some x => some (.row x.1 x.2.1 x.2.2) | none => none) else none := by
    intro i
    rw [T2.σ, σ1, newW, app_rows]
    cases ws[i - nb]? <;> rfl
  generalize hd : (⟨d1.w, c.B, fun i => if nb ≤ i ∧ i < nb + ws.length then d1.φ i else c.φ i, app c.σ (newW nb ws), c.X, c.Y⟩ : Cx) = d
  have dw : d.w = d1.w := by rw [← hd]
  have dB : d.B = c.B := by rw [← hd]
  have dX : d.X = c.X := by rw [← hd]
  have dY : d.Y = c.Y := by rw [← hd]
  have dφ : ∀ i, d.φ i = if nb ≤ i ∧ i < nb + ws.length then d1.φ i else c.φ i := by rw [← hd]; intro i; rfl
  have dσ : ∀ i, d.σ i = if nb ≤ i then (match ws[i - nb]? with | some x => some (.row x.1 x.2.1 x.2.2) | none => c.σ i) else c.σ i := by
    intro i
    rw [← hd]
    show app c.σ (newW nb ws) i = _
    rw [newW, app_rows]
    cases ws[i - nb]? <;> rfl
  have stay : ∀ b, b < c.w.heap.size → (c.X b → c.Y b = .no) → d.w.heap[b]? = c.w.heap[b]? := fun b hb hy => by
    rw [dw]
    have := G.stay b (by rw [w1]; exact hb) (T1 b) (fun _ => by
      rw [Y1]
      by_cases hx : c.X b
      · rw [Yx_pos _ hx]; exact hy hx
      · exact Yx_neg _ hx)
    rw [this, w1]
  have size : c.w.heap.size ≤ d.w.heap.size := by rw [dw, ← w1]; exact G.size
  have newT : ∀ b, d1.T b → c.w.heap.size ≤ b := fun b hb => by
    rcases G.held b hb with h9 | h9
    · exact absurd h9 (T1 b)
    · rw [← w1]; exact h9
  have names : Names c d := by
    intro i x hx
    rw [dφ]
    by_cases h1 : nb ≤ i ∧ i < nb + ws.length
    · rcases hfr i h1.1 with h2 | h2
      · rw [h2] at hx; cases hx
      · omega
    · rw [if_neg h1]; exact hx
  have dlive : ∀ i o, d.σ i = some o → (c.σ i = some o ∧ d.φ i = c.φ i ∧ ¬ (nb ≤ i ∧ i < nb + ws.length)) ∨ (nb ≤ i ∧ i < nb + ws.length ∧ d1.σ i = some o ∧ d.φ i = d1.φ i ∧ ∃ x ∈ ws, o = .row x.1 x.2.1 x.2.2) := by
    intro i o ho
    by_cases h1 : nb ≤ i ∧ i < nb + ws.length
    · right
      have h2 : i - nb < ws.length := by omega
      rw [dσ, if_pos h1.1, List.getElem?_eq_getElem h2] at ho
      exact ⟨h1.1, h1.2, by rw [dσ1, if_pos h1.1, List.getElem?_eq_getElem h2]; exact ho, by rw [dφ, if_pos h1], _, List.getElem_mem h2, by simp at ho; exact ho.symm⟩
    · left
      refine ⟨?_, by rw [dφ, if_neg h1], h1⟩
      rw [dσ] at ho
      by_cases h2 : nb ≤ i
      · rw [if_pos h2, List.getElem?_eq_none_iff.2 (by omega)] at ho; exact ho
      · rw [if_neg h2] at ho; exact ho
  have dT : ∀ b, d.T b → c.T b ∨ (c.w.heap.size ≤ b ∧ d1.T b) := by
    rintro b ⟨i, o, e1, e2⟩
    rcases dlive i o e1 with ⟨f1, f2, _⟩ | ⟨_, _, f3, f4, _⟩
    · exact .inl ⟨i, o, f1, by rw [← f2]; exact e2⟩
    · rw [f4] at e2
      exact .inr ⟨newT b ⟨i, o, f3, e2⟩, i, o, f3, e2⟩
  have grow : Grow c d := by
    refine ⟨dX, dB, ?_, ?_, ?_, size, fun b hb _ hy => stay b hb hy, fun b hb => (dT b hb).imp id (·.1), fun b cs e f hb => (by have := G.shape b cs e f (by rw [w1]; exact hb); rw [dw]; exact this), dY, fun b k sz h1 h2 h3 h4 h5 => (by
      have := G.wild b k sz (T1 b) (by rw [X1]; exact .inr h2) (by rw [Y1, Yx_pos _ h2]; exact h3) h4 (by rw [w1]; exact h5)
      rw [dw]; exact this)⟩
    · rw [dw, G.out, w1]
    · rw [dw, G.osE, w1]
    · rw [dw, G.tape, w1]
  have base := hr.base
  have ok2 : ∀ b, b < d1.w.heap.size → d1.ok true b → d.ok true b := fun b _ ho => by
    have hge : c.w.heap.size ≤ b := by have := ho.1 rfl; rw [G.B, B1] at this; exact this
    refine ⟨fun _ => by rw [dB]; omega, fun ht => ?_, fun hx => ?_⟩
    · rcases dT b ht with h9 | h9
      · have := Tlt b h9; omega
      · exact ho.2.1 h9.2
    · rw [dX] at hx; have := hr.xlt b hx; omega
  have nm2 : ∀ i x, (nb ≤ i ∧ i < nb + ws.length) → d1.φ i = some x → d.φ i = some x := fun i x h1 h2 => by rw [dφ, if_pos h1]; exact h2
  have hrd : HR d := by
    refine ⟨fun i y2 e2 cl hs => ?_, fun i i' b e1 e2 e3 e4 => ?_, by rw [dB]; exact Nat.le_trans hr.base size, fun b hb => by rw [dX] at hb; exact Nat.lt_of_lt_of_le (hr.xlt b hb) size, hr.gl.grow grow⟩
    · rcases dlive i _ hs with ⟨f1, f2, _⟩ | ⟨h1, h2, f3, f4, x, hx, f5⟩
      · rcases hr.row i y2 e2 cl f1 with ⟨g1, g2⟩ | ⟨b, cs, g1, g2, g3', g4, g5⟩
        · exact .inl ⟨by rw [f2]; exact g1, g2⟩
        · refine .inr ⟨b, cs, by rw [f2]; exact g1, g2.of (stay b g2.lt (fun h9 => absurd h9 g3'.2)), ⟨by rw [dB]; exact g3'.1, by rw [dX]; exact g3'.2⟩, g4, fun j x hj => ?_⟩
          obtain ⟨q, k1, k2, k3⟩ := g5 j x hj
          exact ⟨q, k1, k2, k3.mono grow names⟩
      · cases f5
        rcases T2.hr.row i _ _ _ f3 with ⟨g1, g2⟩ | ⟨b, cs, g1, g2, g3', g4, g5⟩
        · exact .inl ⟨by rw [f4]; exact g1, g2⟩
        · have hge := newT b ⟨i, _, f3, g1⟩
          refine .inr ⟨b, cs, by rw [f4]; exact g1, by rw [dw]; exact g2, ⟨fun _ => by rw [dB]; omega, fun hx2 => by rw [dX] at hx2; have := hr.xlt b hx2; omega⟩, g4, fun j x' hj => ?_⟩
          obtain ⟨q, m1, m2, m3⟩ := g5 j x' hj
          exact ⟨q, m1, m2, VR.yg dw ok2 nm2 (YgL_iff.1 (hyw x hx) x' (List.mem_of_getElem? hj)) m3⟩
    · obtain ⟨o1, ho1⟩ := Option.ne_none_iff_exists'.1 e1
      obtain ⟨o2, ho2⟩ := Option.ne_none_iff_exists'.1 e2
      rcases dlive i o1 ho1 with ⟨f1, f2, _⟩ | ⟨_, _, f3, f4, _⟩ <;> rcases dlive i' o2 ho2 with ⟨j1, j2, _⟩ | ⟨_, _, j3, j4, _⟩
      · exact hr.inj i i' b (by rw [f1]; simp) (by rw [j1]; simp) (by rw [← f2]; exact e3) (by rw [← j2]; exact e4)
      · rw [j4] at e4
        have := newT b ⟨i', _, j3, e4⟩
        have := Tlt b ⟨i, _, f1, by rw [← f2]; exact e3⟩
        omega
      · rw [f4] at e3
        have := newT b ⟨i, _, f3, e3⟩
        have := Tlt b ⟨i', _, j1, by rw [← j2]; exact e4⟩
        omega
      · rw [f4] at e3
        rw [j4] at e4
        exact T2.hr.inj i i' b (by rw [f3]; simp) (by rw [j3]; simp) e3 e4
  exact ⟨v, d, rfl, dw, VR.yg dw ok2 nm2 hy hv2, grow, names, hrd, by rw [← hd], fun i hi => by
    rw [dφ] at hi
    by_cases h1 : nb ≤ i ∧ i < nb + ws.length
    · exact .inr (by omega)
    · rw [if_neg h1] at hi; exact .inl hi⟩
end Go.Proofs.YtonglhkiobibgaaGreatDoor
namespace Go.Proofs.YtonglhkiobibgaaGreatDoor
open Go.RowKit
set_option maxRecDepth 100000
theorem recE_kind {r : Rec} (h : r.kind < 0 ∨ 255 < r.kind) : recE r = 22 := by unfold recE; rw [if_pos h]
theorem recE_many {r : Rec} (h : ¬ (r.kind < 0 ∨ 255 < r.kind)) (h2 : 64 < r.nums.length ∨ 64 < r.texts.length) : recE r = 3 := by unfold recE; rw [if_neg h, if_pos h2]
theorem recE_long {r : Rec} (h : ¬ (r.kind < 0 ∨ 255 < r.kind)) (h2 : ¬ (64 < r.nums.length ∨ 64 < r.texts.length)) {i : Nat} {t : List Int} (ht : r.texts[i]? = some t) (hl : 4096 < t.length) : recE r = 5 := by
  unfold recE; rw [if_neg h, if_neg h2, if_pos ⟨t, List.mem_of_getElem? ht, hl⟩]
theorem recE_ok {r : Rec} (h : ¬ (r.kind < 0 ∨ 255 < r.kind)) (h2 : ¬ (64 < r.nums.length ∨ 64 < r.texts.length)) (h3 : ∀ t ∈ r.texts, ¬ 4096 < t.length) : recE r = 0 := by
  unfold recE; rw [if_neg h, if_neg h2, if_neg (by rintro ⟨t, ht, hl⟩; exact h3 t ht hl)]
theorem take_all {α : Type} {p : α → Prop} {l : List α} {k : Nat} {x : α} (h : ∀ t ∈ l.take k, p t) (hx : l[k]? = some x) (hp : p x) : ∀ t ∈ l.take (k + 1), p t := by
  intro t ht
  rw [take_snoc hx] at ht
  rcases List.mem_append.1 ht with h1 | h1
  · exact h t h1
  · simp at h1; subst h1; exact hp
abbrev L_chk (fr : Bool) (r : Rec) (i : Nat) : ASt := ⟨envOf [(24, fL fr r.texts), (25, .v (.int .i64 r.texts.length)), (26, .v (.int .i64 i))], heapOf [], 0⟩
theorem check_spec (fr : Bool) (r : Rec) (nb : Nat) : ASound Tryz.prog 148 [aRec fr r] nb (.ret (.v (.int .i64 (recE r))) []) := by
  refine ok_148.sound (by simp) ⟨al_aRec r, trivial⟩ ?_
  by_cases h1 : r.kind < 0
  · rw [recE_kind (.inl h1)]
    simp only [ac_148, h1, TT, ↓reduceIte, Nat.reduceEqDiff, Nat.reduceAdd, Nat.reduceMul, reduceCtorEq, Nat.reduceLeDiff]
    exact Ends.data (.inr rfl) (by simp [ET]) trivial
  by_cases h2 : 255 < r.kind
  · rw [recE_kind (.inr h2)]
    simp only [ac_148, h1, h2, TT, ↓reduceIte, Nat.reduceEqDiff, Nat.reduceAdd, Nat.reduceMul, reduceCtorEq, Nat.reduceLeDiff]
    exact Ends.data (.inr rfl) (by simp [ET]) trivial
  have h12 : ¬ (r.kind < 0 ∨ 255 < r.kind) := by omega
  by_cases h3 : 64 < r.nums.length
  · rw [recE_many h12 (.inl h3)]
    have e3 : (64 : Int) < (r.nums.length : Int) := by omega
    simp only [ac_148, h1, h2, e3, TT, ↓reduceIte, Nat.reduceEqDiff, Nat.reduceAdd, Nat.reduceMul, reduceCtorEq, Nat.reduceLeDiff]
    exact Ends.data (.inr rfl) (by simp [ET]) trivial
  have e3 : ¬ (64 : Int) < (r.nums.length : Int) := by omega
  by_cases h4 : 64 < r.texts.length
  · rw [recE_many h12 (.inr h4)]
    have e4 : (64 : Int) < (r.texts.length : Int) := by omega
    simp only [ac_148, h1, h2, e3, e4, TT, ↓reduceIte, Nat.reduceEqDiff, Nat.reduceAdd, Nat.reduceMul, reduceCtorEq, Nat.reduceLeDiff]
    exact Ends.data (.inr rfl) (by simp [ET]) trivial
  have e4 : ¬ (64 : Int) < (r.texts.length : Int) := by omega
  have h34 : ¬ (64 < r.nums.length ∨ 64 < r.texts.length) := by omega
  simp only [ac_148, h1, h2, e3, e4, TT, ↓reduceIte, Nat.reduceEqDiff, Nat.reduceAdd, Nat.reduceMul, reduceCtorEq, Nat.reduceLeDiff]
  refine AWc.family (L_chk fr r) (fun i => i ≤ r.texts.length ∧ ∀ t ∈ r.texts.take i, ¬ 4096 < t.length) (fun i => r.texts.length - i) 0 ⟨Nat.zero_le _, by simp⟩ ?_ ?_
  · refine Weak.calc [] (by decide) ?_ ?_ <;> simp [WT]
  · rintro i ⟨hi, ha⟩
    by_cases hlt : i < r.texts.length
    · obtain ⟨t, ht, e1, e0⟩ := lt_at hlt
      by_cases hl : 4096 < t.length
      · have e5 : (4096 : Int) < (t.length : Int) := by omega
        rw [recE_long h12 h34 ht hl]
        simp only [L_chk, e1, e0, get_L ht, e5, TT, ↓reduceIte, Nat.reduceEqDiff, Nat.reduceAdd, Nat.reduceMul, reduceCtorEq, Nat.reduceLeDiff]
        exact Ends.data (.inr rfl) (by simp [ET]) trivial
      · have e5 : ¬ (4096 : Int) < (t.length : Int) := by omega
        simp only [L_chk, e1, e0, get_L ht, e5, TT, ↓reduceIte, Nat.reduceEqDiff, Nat.reduceAdd, Nat.reduceMul, reduceCtorEq, Nat.reduceLeDiff]
        refine famC_next (i + 1) (by omega) ⟨by omega, take_all ha ht hl⟩ ?_
        refine Weak.calc [] (by decide) ?_ ?_ <;> simp [WT, wrap64 (x := (i : Int) + 1) (by omega)]
    · obtain rfl : i = r.texts.length := by omega
      have e1 : ¬ ((r.texts.length : Int) < (r.texts.length : Int)) := by omega
      rw [List.take_length] at ha
      rw [recE_ok h12 h34 ha]
      simp only [L_chk, e1, TT, ↓reduceIte, Nat.reduceEqDiff, Nat.reduceAdd, Nat.reduceMul, reduceCtorEq, Nat.reduceLeDiff]
      exact Ends.data (.inr rfl) (by simp [ET]) trivial
end Go.Proofs.YtonglhkiobibgaaGreatDoor
namespace Go.Proofs.YtonglhkiobibgaaGreatDoor
open Go.RowKit
set_option maxRecDepth 100000
theorem od_B (l : List Int) : odL (eB l) = eB l := by
  rw [odL_map, eB, List.map_map]; rfl
theorem yg_B {S : Nat → Prop} (l : List Int) : YgL S (eB l) := by
  rw [YgL_iff]; intro a ha
  obtain ⟨x, _, rfl⟩ := List.mem_map.1 ha
  trivial
theorem yg_fB {S : Nat → Prop} (l : List Int) : Yg S (fB true l) := ⟨rfl, yg_B l⟩
/-- a pure contract of octets, used with a held row -/
theorem ASound.borrowB {f : FuncId} {l : List Int} {r : AV} {id nb e : Nat} {y : Bool} (h : ASound Tryz.prog f [fB false l] nb (.ret r [])) (hne : l ≠ []) (hy : Yg (fun i => nb ≤ i ∧ i < nb + 0) r) :
    ASound Tryz.prog f [.os id 0 l.length 1] nb (rowsM [(id, y, e, eB l)] (.ret r [])) := by
  refine ASound.borrow [] [(id, y, e, eB l)] ?_ ?_ (by simp) hy (by simp)
  · have : boL [(id, y, e, eB l)] [.os id 0 l.length 1] = [fB false l] := by
      simp [boL, bo, cellsAt, od_B, tk_B, fB]
    rw [this]; exact h
  · intro x hx
    simp at hx; subst hx
    simp [eB, hne]
def numB (ns : List Int) : List Int := ns.flatMap fun n => gp (zz n)
def txtB (ts : List (List Int)) : List Int := ts.flatMap encT
theorem numB_snoc {ns : List Int} {k : Nat} {n : Int} (h : ns[k]? = some n) : numB (ns.take (k + 1)) = numB (ns.take k) ++ gp (zz n) := by rw [take_snoc h]; simp [numB]
theorem txtB_snoc {ts : List (List Int)} {k : Nat} {t : List Int} (h : ts[k]? = some t) : txtB (ts.take (k + 1)) = txtB (ts.take k) ++ (gp t.length ++ t) := by rw [take_snoc h]; simp [txtB, encT]
theorem flat_le {α : Type} {e : α → List Int} {m : Nat} : ∀ {l : List α}, (∀ x ∈ l, (e x).length ≤ m) → (l.flatMap e).length ≤ m * l.length
  | [], _ => by simp
  | x :: l, h => by
    have h1 := h x (by simp)
    have h2 := flat_le (l := l) fun y hy => h y (by simp [hy])
    rw [List.flatMap_cons, List.length_append, List.length_cons, Nat.mul_add]
    omega
theorem numB_le {ns : List Int} (h : ∀ n ∈ ns, i64ok n) : (numB ns).length ≤ 10 * ns.length := flat_le fun n hn => gp_le (zz_lt (h n hn))
theorem txtB_le {ts : List (List Int)} (h : ∀ t ∈ ts, ¬ 4096 < t.length) : (txtB ts).length ≤ 4106 * ts.length := flat_le fun t ht => by
  have h1 := h t ht
  have h2 := gp_le (m := t.length) (by omega)
  rw [encT, List.length_append]; omega
/-- what is written before the number i -/
def h1 (r : Rec) (i : Nat) : List Int := [r.kind, (r.nums.length : Int)] ++ numB (r.nums.take i)
/-- what is written before the text i -/
def h2 (r : Rec) (i : Nat) : List Int := h1 r r.nums.length ++ [(r.texts.length : Int)] ++ txtB (r.texts.take i)
theorem h1_0 (r : Rec) : h1 r 0 = [r.kind, (r.nums.length : Int)] := by simp [h1, numB]
theorem h1_s {r : Rec} {k : Nat} {n : Int} (h : r.nums[k]? = some n) : h1 r k ++ gp (zz n) = h1 r (k + 1) := by rw [h1, h1, numB_snoc h, List.append_assoc]
theorem h2_0 (r : Rec) : h1 r r.nums.length ++ [(r.texts.length : Int)] = h2 r 0 := by simp [h2, txtB]
theorem h2_s {r : Rec} {k : Nat} {t : List Int} (h : r.texts[k]? = some t) : h2 r k ++ gp t.length ++ t = h2 r (k + 1) := by rw [h2, h2, txtB_snoc h]; simp
theorem h2_all (r : Rec) : h2 r r.texts.length = encR r := by simp [h2, h1, encR, numB, txtB]
theorem h1_ne (r : Rec) (i : Nat) : h1 r i ≠ [] := by simp [h1]
theorem h2_ne (r : Rec) (i : Nat) : h2 r i ≠ [] := by simp [h2, h1]
structure okR (r : Rec) : Prop where
  kind : ¬ (r.kind < 0 ∨ 255 < r.kind)
  many : ¬ (64 < r.nums.length ∨ 64 < r.texts.length)
  short : ∀ t ∈ r.texts, ¬ 4096 < t.length
theorem okR_iff (r : Rec) : recE r = 0 ↔ okR r := by
  unfold recE
  constructor
  · intro h
    split at h
    · simp at h
    · rename_i a
      split at h
      · simp at h
      · rename_i b
        split at h
        · simp at h
        · rename_i c
          exact ⟨a, b, fun t ht hl => c ⟨t, ht, hl⟩⟩
  · rintro ⟨a, b, c⟩
    rw [if_neg a, if_neg b, if_neg (by rintro ⟨t, ht, hl⟩; exact c t ht hl)]
theorem h1_le {r : Rec} (hr : okR r) (hn : ∀ n ∈ r.nums, i64ok n) (i : Nat) : (h1 r i).length ≤ 642 := by
  have := numB_le (ns := r.nums.take i) fun n h => hn n (List.mem_of_mem_take h)
  have h3 := hr.many
  rw [List.length_take] at this
  rw [h1, List.length_append]; simp only [List.length_cons, List.length_nil]; omega
theorem h2_le {r : Rec} (hr : okR r) (hn : ∀ n ∈ r.nums, i64ok n) (i : Nat) : (h2 r i).length ≤ 300000 := by
  have a := h1_le hr hn r.nums.length
  have b := txtB_le (ts := r.texts.take i) fun t h => hr.short t (List.mem_of_mem_take h)
  have h3 := hr.many
  rw [List.length_take] at b
  rw [h2, List.length_append, List.length_append]; simp only [List.length_cons, List.length_nil]; omega
end Go.Proofs.YtonglhkiobibgaaGreatDoor
namespace Go.Proofs.YtonglhkiobibgaaGreatDoor
open Go.RowKit
set_option maxRecDepth 100000
abbrev rowR (fr : Bool) (r : Rec) : List AV := [.v (.int .i64 r.kind), fI fr r.nums, fL fr r.texts]
abbrev L_en1 (fr : Bool) (r : Rec) (i : Nat) : ASt := ⟨envOf [(1, .op 0 0), (5, .os 1 0 (h1 r i).length 1), (24, fI fr r.nums), (25, .v (.int .i64 r.nums.length)), (26, .v (.int .i64 i))], heapOf [(0, .row true 154 (rowR fr r)), (1, .row true 5 (eB (h1 r i)))], 2⟩
abbrev L_en2 (fr : Bool) (r : Rec) (i : Nat) : ASt := ⟨envOf [(5, .os 0 0 (h2 r i).length 1), (47, fL fr r.texts), (48, .v (.int .i64 r.texts.length)), (49, .v (.int .i64 i))], heapOf [(0, .row true 5 (eB (h2 r i)))], 1⟩
set_option maxHeartbeats 2000000 in
theorem encode_spec (fr : Bool) (r : Rec) (nb : Nat) (hn : ∀ n ∈ r.nums, i64ok n) : ASound Tryz.prog 96 [aRec fr r] nb (.ret (.tup [fB true (encode r).1, .v (.int .i64 (encode r).2)]) []) := by
  refine ok_96.sound (by simp) ⟨al_aRec r, trivial⟩ ?_
  have hc := check_spec fr r
  simp only [aRec, fI, fL] at hc
  simp only [ac_96, TT, ↓reduceIte, Nat.reduceEqDiff, Nat.reduceAdd, Nat.reduceMul, reduceCtorEq, Nat.reduceLeDiff]
  refine ⟨_, hc _, ?_⟩
  simp only [TT, ↓reduceIte, Nat.reduceEqDiff, Nat.reduceAdd, Nat.reduceMul, reduceCtorEq, Nat.reduceLeDiff]
  by_cases hE : recE r = 0
  · have hr := (okR_iff r).1 hE
    have k1 := hr.kind
    have k2 := hr.many
    have w1 : IntKind.u8.wrap r.kind = r.kind := by rw [u8_wrap]; omega
    have w2 : IntKind.u8.wrap (r.nums.length : Int) = r.nums.length := by rw [u8_wrap]; omega
    have w3 : IntKind.u8.wrap (r.texts.length : Int) = r.texts.length := by rw [u8_wrap]; omega
    have he : encode r = (sealB (encR r), 0) := by rw [encode, if_pos hE]
    rw [he]
    simp only [hE, w1, w2, w3, TT, ↓reduceIte, Nat.reduceEqDiff, Nat.reduceAdd, Nat.reduceMul, reduceCtorEq, Nat.reduceLeDiff]
    refine AWc.family (L_en1 fr r) (fun i => i ≤ r.nums.length) (fun i => r.nums.length - i) 0 (Nat.zero_le _) ?_ ?_
    · refine Weak.calc [(0, 0), (1500000, 1)] (by decide) ?_ ?_ <;> simp [WT, h1_0, eB]
    · intro i hi
      by_cases hlt : i < r.nums.length
      · obtain ⟨n, hx, e1, e0⟩ := lt_at hlt
        have hno := hn n (List.mem_of_getElem? hx)
        have hle := h1_le hr hn i
        have s1 : shVal .shl .i64 n 1 = some (.int .i64 (IntKind.i64.wrap (n * 2 ^ min (Int.toNat 1) IntKind.i64.bits))) := by simp only [shVal, if_neg (show ¬ ((1 : Int) < 0) by decide)]
        have s2 : shVal .shr .i64 n 63 = some (.int .i64 (n.fdiv (2 ^ min (Int.toNat 63) IntKind.i64.bits))) := by simp only [shVal, if_neg (show ¬ ((63 : Int) < 0) by decide)]
        simp only [L_en1, e1, e0, get_I hx, s1, s2, zz_prog hno, TT, ↓reduceIte, Nat.reduceEqDiff, Nat.reduceAdd, Nat.reduceMul, reduceCtorEq, Nat.reduceLeDiff]
        refine ⟨_, groups_spec true (h1 r i) (zz n) _ _ (by omega) (h1_ne r i) (by omega) (zz_lt hno), ?_⟩
        rw [h1_s hx]
        simp only [TT, ↓reduceIte, Nat.reduceEqDiff, Nat.reduceAdd, Nat.reduceMul, reduceCtorEq, Nat.reduceLeDiff]
        refine famC_next (i + 1) (by omega) (by omega) ?_
        refine Weak.calc [(0, 0), (1100002, 1)] (by decide) ?_ ?_ <;> simp [WT, wrap64 (x := (i : Int) + 1) (by omega)]
      · obtain rfl : i = r.nums.length := by omega
        have e1 : ¬ ((r.nums.length : Int) < (r.nums.length : Int)) := by omega
        have hle := h1_le hr hn r.nums.length
        simp only [L_en1, e1, len_B, w3, TT, ↓reduceIte, Nat.reduceEqDiff, Nat.reduceAdd, Nat.reduceMul, reduceCtorEq, Nat.reduceLeDiff]
        rw [if_pos (by omega)]
        have hcc : eB (h1 r r.nums.length) ++ [AV.v (.int .u8 (r.texts.length : Int))] = eB (h2 r 0) := by rw [← one_B, ← app_B, h2_0]
        rw [hcc]
        have hlen : (h1 r r.nums.length).length + 1 = (h2 r 0).length := by rw [← h2_0, List.length_append]; rfl
        rw [hlen]
        refine AWc.family (L_en2 fr r) (fun i => i ≤ r.texts.length) (fun i => r.texts.length - i) 0 (Nat.zero_le _) ?_ ?_
        · refine Weak.calc [(700002, 0)] (by decide) ?_ ?_ <;> simp [WT]
        · intro i hi
          by_cases hlt : i < r.texts.length
          · obtain ⟨t, hx, e1, e0⟩ := lt_at hlt
            have hts := hr.short t (List.mem_of_getElem? hx)
            have hle := h2_le hr hn i
            have hl2 := h2_le hr hn (i + 1)
            have w4 : IntKind.u64.wrap (t.length : Int) = t.length := by rw [u64_mod]; omega
            simp only [L_en2, e1, e0, get_L hx, w4, TT, ↓reduceIte, Nat.reduceEqDiff, Nat.reduceAdd, Nat.reduceMul, reduceCtorEq, Nat.reduceLeDiff]
            refine ⟨_, groups_spec true (h2 r i) t.length _ _ (by omega) (h2_ne r i) (by omega) (by omega), ?_⟩
            have hls : (h2 r i ++ gp t.length).length + t.length = (h2 r (i + 1)).length := by rw [← h2_s hx]; exact (show (h2 r i ++ gp t.length ++ t).length = _ from List.length_append).symm
            have hcs : eB (h2 r i ++ gp t.length) ++ eB t = eB (h2 r (i + 1)) := by rw [← app_B, h2_s hx]
            simp only [len_B, hls, hcs, TT, ↓reduceIte, Nat.reduceEqDiff, Nat.reduceAdd, Nat.reduceMul, reduceCtorEq, Nat.reduceLeDiff]
            rw [if_pos (by omega)]
            refine famC_next (i + 1) (by omega) (by omega) ?_
            refine Weak.calc [(1000001, 0)] (by decide) ?_ ?_ <;> simp [WT, wrap64 (x := (i : Int) + 1) (by omega)]
          · obtain rfl : i = r.texts.length := by omega
            have e1 : ¬ ((r.texts.length : Int) < (r.texts.length : Int)) := by omega
            have hle := h2_le hr hn r.texts.length
            simp only [L_en2, e1, TT, ↓reduceIte, Nat.reduceEqDiff, Nat.reduceAdd, Nat.reduceMul, reduceCtorEq, Nat.reduceLeDiff]
            refine ⟨_, ASound.borrowB (e := 5) (y := true) (seal_spec false (h2 r r.texts.length) _ (by omega)) (h2_ne r _) (yg_fB _), ?_⟩
            rw [h2_all]
            simp only [TT, ↓reduceIte, Nat.reduceEqDiff, Nat.reduceAdd, Nat.reduceMul, reduceCtorEq, Nat.reduceLeDiff]
            exact Ends.data (.inr rfl) (by simp [ET]) ⟨al_B _, trivial, trivial⟩
  · have he : encode r = ([], recE r) := by rw [encode, if_neg hE]
    rw [he]
    simp only [hE, TT, ↓reduceIte, Nat.reduceEqDiff, Nat.reduceAdd, Nat.reduceMul, reduceCtorEq, Nat.reduceLeDiff]
    exact Ends.imp (r0 := .tup [.v (.slice none 0 0), .v (.int .i64 (recE r))]) (.inr rfl) (by simp [ET]) ⟨trivial, trivial, trivial⟩ (imp_nilE _)
end Go.Proofs.YtonglhkiobibgaaGreatDoor
namespace Go.Proofs.YtonglhkiobibgaaGreatDoor
open Go.RowKit
set_option maxRecDepth 100000
end Go.Proofs.YtonglhkiobibgaaGreatDoor
namespace Go.Proofs.YtonglhkiobibgaaGreatDoor
open Go.RowKit
set_option maxRecDepth 100000
end Go.Proofs.YtonglhkiobibgaaGreatDoor
namespace Go.Proofs.YtonglhkiobibgaaGreatDoor
open Go.RowKit
end Go.Proofs.YtonglhkiobibgaaGreatDoor
namespace Go.Proofs.YtonglhkiobibgaaGreatDoor
open Go.RowKit
set_option maxRecDepth 100000
end Go.Proofs.YtonglhkiobibgaaGreatDoor
namespace Go.Proofs.YtonglhkiobibgaaGreatDoor
open Go.RowKit
set_option maxRecDepth 100000
theorem od_fB (fr : Bool) (l : List Int) : od (fB fr l) = fB false l := by simp [fB, od, od_B]
end Go.Proofs.YtonglhkiobibgaaGreatDoor
namespace Go.Proofs.YtonglhkiobibgaaGreatDoor
open Go.RowKit
variable {P : Program} {c d : Cx} {rws : List RW}
theorem VRm.bo (hr : HR c) (hσ : ∀ (j : Nat) (x : RW), rws[j]? = some x → c.σ x.1 = some (.row x.2.1 x.2.2.1 x.2.2.2)) (hne : ∀ x ∈ rws, x.2.2.2 ≠ []) (hw : d.w = c.w) (hk : ∀ fr b, b < c.w.heap.size → c.ok fr b → d.ok false b)
    (hrow : ∀ (j : Nat) (x : RW) b, rws[j]? = some x → c.φ x.1 = some (some b) → d.ok false b) {b : Nat} : ∀ {cs : List AV} {off : Nat}, VRm c b off cs → VRm d b off (boL rws cs)
  | [], _, _ => trivial
  | a :: r, off, k => by
    rw [VRm] at k
    rw [boL, VRm]
    obtain ⟨⟨u, h1, h2, h3⟩, h4⟩ := k
    exact ⟨⟨u, by rw [hw]; exact h1, h2, VR.bo hr hσ hne hw hk hrow h3⟩, VRm.bo hr hσ hne hw hk hrow h4⟩
end Go.Proofs.YtonglhkiobibgaaGreatDoor
namespace Go.Proofs.YtonglhkiobibgaaGreatDoor
open Go.RowKit
variable {P : Program} {c d : Cx} {rws : List RW}
section
variable {f : List AV → List AV}
theorem VRm.part {b : Nat} {cs : List AV} {off m : Nat} (h : VRm c b 0 cs) : VRm c b off ((cs.drop off).take m) := by
  rw [VRm_iff] at h ⊢
  intro j a hj
  rw [List.getElem?_take] at hj
  split at hj
  · rw [List.getElem?_drop] at hj
    have := h _ _ hj
    rwa [Nat.zero_add] at this
  · cases hj
end
end Go.Proofs.YtonglhkiobibgaaGreatDoor
namespace Go.Proofs.YtonglhkiobibgaaGreatDoor
open Go.RowKit
set_option maxRecDepth 100000
theorem ASound.args {P : Program} {f : FuncId} {args args' : List AV} {nb : Nat} {am : AM} (h : ASound P f args nb am) (hi : ImpL args' args) : ASound P f args' nb am :=
  ⟨h.1, fun c us r R W hrun hr hfr hv => h.2 c us r R W hrun hr hfr (by
    obtain ⟨e1, e2⟩ := ImpL_get hi
    rw [VRt_iff] at hv ⊢
    refine ⟨by omega, fun j a hj => ?_⟩
    obtain ⟨x, hx, hix⟩ := e2 j a hj
    obtain ⟨u, k1, k2⟩ := hv.2 j x hx
    exact ⟨u, k1, hix c u k2⟩)⟩
def octL (s : ByteArray) : List Int := s.data.toList.map fun b => (b.toNat : Int)
theorem octL_len (s : ByteArray) : (octL s).length = s.size := by unfold octL; rw [List.length_map, Array.length_toList]; rfl
theorem octs_eq (s : ByteArray) : octs s = eB (octL s) := by unfold octs eB octL; rw [List.map_map]; rfl
theorem octL_ok (s : ByteArray) : okB (octL s) := by
  intro x hx
  unfold octL at hx
  obtain ⟨b, _, rfl⟩ := List.mem_map.1 hx
  have := b.toNat_lt
  omega
/-- strings -/
def eS (l : List ByteArray) : List AV := l.map fun s => .v (.string s)
def fS (fr : Bool) (l : List ByteArray) : AV := .fs fr (eS l) l.length
section
variable {fr : Bool} {p : Nat → Prop}
theorem al_S (l : List ByteArray) : AlL p (eS l) := AlL_map (e := fun s => AV.v (.string s)) (fun _ => trivial) l
theorem al_fS (l : List ByteArray) : Al p (fS fr l) := al_S l
theorem ren_S {ρ : Nat → Nat} (l : List ByteArray) : renL ρ (eS l) = eS l := renL_id (p := fun _ => False) (fun _ h => h.elim) (al_S l)
theorem len_S (l : List ByteArray) : (eS l).length = l.length := by simp [eS]
theorem tk_S (l : List ByteArray) : List.take l.length (eS l) = eS l := List.take_of_length_le (by rw [len_S]; exact Nat.le_refl _)
theorem get_S {l : List ByteArray} {i : Nat} {x : ByteArray} (h : l[i]? = some x) : (eS l)[i]? = some (.v (.string x)) := by simp [eS, h]
theorem od_S (l : List ByteArray) : odL (eS l) = eS l := by rw [odL_map, eS, List.map_map]; rfl
end
structure OpD where
  kind : Int
  path : ByteArray
  to : ByteArray
  off : Int
  n : Int
  data : List Int
structure RepD where
  err : Int
  n : Int
  data : List Int
  names : List ByteArray
def aOp (fr : Bool) (o : OpD) : AV := .agg [.v (.int .i64 o.kind), .v (.string o.path), .v (.string o.to), .v (.int .i64 o.off), .v (.int .i64 o.n), fB fr o.data]
def aRep (fr : Bool) (r : RepD) : AV := .agg [.v (.int .i64 r.err), .v (.int .i64 r.n), fB fr r.data, fS fr r.names]
theorem al_aOp {p : Nat → Prop} {fr : Bool} (o : OpD) : Al p (aOp fr o) := ⟨trivial, trivial, trivial, trivial, trivial, al_fB _, trivial⟩
theorem al_aRep {p : Nat → Prop} {fr : Bool} (r : RepD) : Al p (aRep fr r) := ⟨trivial, trivial, al_fB _, al_fS _, trivial⟩
/-- may an op be? -/
def opChk (o : OpD) : Int := if o.kind < 1 ∨ 12 < o.kind then 22 else if 255 < o.path.size ∨ 255 < o.to.size ∨ 4096 < o.data.length then 5 else 0
def opRec (o : OpD) : Rec := ⟨o.kind, [o.off, o.n], [octL o.path, octL o.to, o.data]⟩
def encO (o : OpD) : List Int × Int := if opChk o = 0 then encode (opRec o) else ([], opChk o)
def repChk (r : RepD) : Int := if r.err < 0 ∨ 65536 < r.err ∨ r.n < 0 ∨ 2147483647 < r.n then 4 else if 4096 < r.data.length then 5 else if 64 < r.names.length then 3 else if ∃ s ∈ r.names, 255 < s.size then 5 else 0
def repRec (r : RepD) : Rec := ⟨0, [r.err, r.n], r.data :: r.names.map octL⟩
def encRep (r : RepD) : List Int × Int := if repChk r = 0 then encode (repRec r) else ([], repChk r)
end Go.Proofs.YtonglhkiobibgaaGreatDoor
namespace Go.Proofs.YtonglhkiobibgaaGreatDoor
open Go.RowKit
set_option maxRecDepth 100000
def okBytes (l : List Int) : Prop := l.length * 1 ≤ reachB ∧ ∀ x ∈ l, (Lit.int .u8 x).wf = true
def wf64 (x : Int) : Prop := (Lit.int .i64 x).wf = true
theorem okBytes_B {l : List Int} (h : okBytes l) : okB l := fun x hx => by
  have := h.2 x hx
  simp [Lit.wf, IntKind.min, IntKind.max, IntKind.bits, IntKind.signed] at this
  omega
theorem okBytes_le {l : List Int} (h : okBytes l) : l.length ≤ 140737488351232 := by have := h.1; unfold reachB at this; omega
theorem eB_flat (l : List Int) : eB l = l.flatMap fun x => [.v (.int .u8 x)] := by simp [eB, List.map_eq_flatMap]
theorem rdt_bytes : Rd Tryz.prog 37 (fun fr l => [fB fr l]) okBytes :=
  (rd_slice (B := 1) Tryz.underlying37 (by kernel_rfl) (by kernel_rfl) (by rw [show Tryz.prog.cellsOf 5 = 1 from by kernel_rfl]; decide) (rd_int Tryz.underlying5 (by kernel_rfl))).map id id (fun fr b => by simp [fB, eB_flat]) (fun fr b => by simp [fB, eB_flat]) fun a h => h
theorem rdt_num : Rd Tryz.prog 3 (fun _ x => [.v (.int .i64 x)]) wf64 := rd_int Tryz.underlying3 (by kernel_rfl)
theorem laid : laidOutB Tryz.prog = true := by kernel_rfl
theorem open_bytes {H : Type} {enc : TypeId × Value → H} {W : World} {base : Nat} {v : Value} {d : DataW H} {ps : List MemPlace} (hv : Value.okWide Tryz.prog W .any base 37 v) (h : DataW.Trod enc Tryz.prog W 0 (fun _ => true) true 37 v d ps)
    (hw : (d.weights Tryz.prog 37).all (· ≤ reachBytes) = true) : ∃ s, okBytes s ∧ VR (cx0 W) (fB false s) v := by
  have hc : v.cells.toList = [v] := by
    cases v <;> first | rfl | (exfalso; simp [Value.okWide, Cell.okWide, Cell.ok, Tryz.underlying37] at hv)
  obtain ⟨fuel, h⟩ := h
  obtain ⟨s, h1, h2⟩ := rdt_bytes.rd h hw
  refine ⟨s, h1, ?_⟩
  rw [hc, VRl] at h2
  obtain ⟨u, us, e, _, h3, _⟩ := h2
  cases e
  exact h3
def lst : List (String × DataW Unit) := [("unicode/utf8.acceptRanges", Rows.laid_unicode_utf8_acceptRanges), ("errors.errorType", Rows.laid_errors_errorType), ("unicode/utf8.first", Rows.laid_unicode_utf8_first)]
theorem own : ownKnob Tryz.prog.godebug = none := by kernel_rfl
theorem et : Tryz.prog.globalNamed "errors.errorType" = some 0 := by kernel_rfl
theorem rtT : (Tryz.prog.cutTypes.find? (·.1 == "internal/reflectlite.rtype")).map (·.2) = some 342 := by kernel_rfl
theorem tsize : Tryz.prog.types.size = 459 := by kernel_rfl
theorem oneRow : ((List.range 459).filter fun t => Tryz.prog.rowNamed t [101, 114, 114, 111, 114]) = [102] := by kernel_rfl
theorem glob_of_laid {W : World} (h : laidMetH Tryz.prog lst W) : ∀ b v, GLOB b = some v → W.cell? ⟨b, 0, none⟩ = some v := by
  intro b v hb
  have h' : laidMet Tryz.prog (lst.filter fun x => x.2.handleName?.isNone) W ∧ handlesMet Tryz.prog (lst.filter fun x => x.2.handleName?.isSome) W := h
  obtain ⟨name, u, ty, e1, e2, e3, e4, e5⟩ := h'.2 ("errors.errorType", Rows.laid_errors_errorType) (by simp [lst]; decide)
  have en : name = [101, 114, 114, 111, 114] := (Option.some.inj e1).symm
  subst en
  obtain rfl := Option.some.inj (rtT.symm.trans e2)
  have hm : ty ∈ (List.range 459).filter fun t => Tryz.prog.rowNamed t [101, 114, 114, 111, 114] := List.mem_filter.2 ⟨List.mem_range.2 (by rw [← tsize]; exact e3), e4⟩
  rw [oneRow] at hm
  obtain rfl := List.mem_singleton.1 hm
  have hh : typeHandle Tryz.prog 102 = .pointer (some ⟨4, 102, none⟩) := by kernel_rfl
  rw [hh] at e5
  have hc : W.cell? ⟨0, 0, none⟩ = some (.iface 342 (.agg #[.pointer (some ⟨4, 102, none⟩)])) := by simpa using World.var?_cell et e5 0
  unfold GLOB at hb
  split at hb
  · rename_i e; subst e; cases hb; exact hc
  · cases hb
/-- a world that holds it -/
noncomputable def laidW0 (os : Os) : World :=
  let w0 := World.holding Tryz.prog os ⟨#[], #[], []⟩
  { w0 with heap := w0.heap.modify 0 fun
      | .cells _ t frozen => .cells #[.iface 342 (.agg #[.pointer (some ⟨4, 102, none⟩)])] t frozen
      | o => o }
def lstD : List (String × DataW Unit) := [("unicode/utf8.acceptRanges", Rows.laid_unicode_utf8_acceptRanges), ("unicode/utf8.first", Rows.laid_unicode_utf8_first)]
noncomputable def laidWorld (os : Os) : World := (laidW0 os).layVars Tryz.prog lstD
theorem laidWorld_os (os : Os) : (laidWorld os).os = os := World.layVars_os _ _ _
theorem laidWorld_met (os : Os) (args : Array Value) : laidMetH Tryz.prog lst ((laidWorld os).forCall (fun _ _ => 0) ⟨#[], args, []⟩).memory := by
  refine laidMetH_of_parts ?_ (by kernel_rfl)
  have e : (lst.filter fun x => x.2.handleName?.isNone) = lstD := by rfl
  rw [e]
  have e1 : (lstD.filter fun x => ["unicode/utf8.acceptRanges", "unicode/utf8.first"].contains x.1) = lstD := by rfl
  have e2 : (lstD.filter fun x => !["unicode/utf8.acceptRanges", "unicode/utf8.first"].contains x.1) = [] := by rfl
  have h : laidMet Tryz.prog lstD (laidWorld os) := laidMet_layVars (w0 := laidW0 os) ["unicode/utf8.acceptRanges", "unicode/utf8.first"] [] (by rw [e1]; rfl) (by rw [e1]; kernel_rfl) (by rw [e1]; kernel_rfl) (by rw [e2]; exact LaidIn.none)
  exact h.of_heap (by simp [World.memory, World.forCall, Input.heap])
theorem laidWorld_shaped (os : Os) (args : Array Value) : ((laidWorld os).forCall (fun _ _ => 0) ⟨#[], args, []⟩).Shaped Tryz.prog := World.shaped_of_ZipB (by kernel_rfl) (by kernel_rfl)
theorem looksT : true = Tryz.pinned.checked.prog.looks [] := by kernel_rfl
theorem mainT : Tryz.pinned.checked.prog.mainIs = some ((true, "99614a6981dfa3949a41461e4baab9d71b1d837fc286f2318c98390de9c6db5d").1, (true, "99614a6981dfa3949a41461e4baab9d71b1d837fc286f2318c98390de9c6db5d").2.toList) := by kernel_rfl
end Go.Proofs.YtonglhkiobibgaaGreatDoor
namespace Go.Proofs.YtonglhkiobibgaaGreatDoor
open Go.RowKit
set_option maxRecDepth 100000
theorem rd_string {P : Program} {t : TypeId} (ht : P.underlying t = some .string) (hc : P.cellsOf t = 1) : Rd P t (fun _ x => [.v (.string x)]) (fun x => x.size ≤ maxLen) where
  len _ := hc.symm
  rd := by
    intro H enc W fuel cs x h _
    obtain ⟨n, rfl, _, hw⟩ := DataW.trod_string ht h
    exact ⟨n, hw, _, [], rfl, rfl, rfl, rfl⟩
theorem rdt_str : Rd Tryz.prog 9 (fun _ x => [.v (.string x)]) (fun x => x.size ≤ maxLen) := rd_string Tryz.underlying9 (by kernel_rfl)
structure okOp (o : OpD) : Prop where
  k : wf64 o.kind
  f : wf64 o.off
  n : wf64 o.n
  d : okBytes o.data
theorem rdt_op : Rd Tryz.prog 55 (fun fr (o : OpD) => [.v (.int .i64 o.kind), .v (.string o.path), .v (.string o.to), .v (.int .i64 o.off), .v (.int .i64 o.n), fB fr o.data]) okOp :=
  (rd_struct Tryz.underlying55 (by kernel_rfl) (RdF.cons (c := 1) rfl (by kernel_rfl) rdt_num (RdF.cons (c := 1) rfl (by kernel_rfl) rdt_str (RdF.cons (c := 1) rfl (by kernel_rfl) rdt_str (RdF.cons (c := 1) rfl (by kernel_rfl) rdt_num (RdF.cons (c := 1) rfl (by kernel_rfl) rdt_num (RdF.cons (c := 1) rfl (by kernel_rfl) rdt_bytes RdF.nil))))))).map
    (fun x => ⟨x.1, x.2.1, x.2.2.1, x.2.2.2.1, x.2.2.2.2.1, x.2.2.2.2.2.1⟩) (fun b => (b.kind, b.path, b.to, b.off, b.n, b.data, ())) (fun fr b => rfl) (fun fr b => rfl) fun a h => ⟨h.1, h.2.2.2.1, h.2.2.2.2.1, h.2.2.2.2.2.1⟩
theorem open_op {H : Type} {enc : TypeId × Value → H} {W : World} {base : Nat} {v : Value} {d : DataW H} {ps : List MemPlace} (hv : Value.okWide Tryz.prog W .any base 55 v) (h : DataW.Trod enc Tryz.prog W 0 (fun _ => true) true 55 v d ps)
    (hw : (d.weights Tryz.prog 55).all (· ≤ reachBytes) = true) : ∃ s, okOp s ∧ VR (cx0 W) (aOp false s) v := by
  simp only [Value.okWide, Tryz.underlying55] at hv
  obtain ⟨cs, rfl, _, _⟩ := hv
  obtain ⟨fuel, h⟩ := h
  obtain ⟨s, h1, h2⟩ := rdt_op.rd h hw
  refine ⟨s, h1, ?_⟩
  rw [aOp, VR]
  exact ⟨_, rfl, h2⟩
theorem eS_flat (l : List ByteArray) : eS l = l.flatMap fun x => [.v (.string x)] := by simp [eS, List.map_eq_flatMap]
theorem rdt_strs : Rd Tryz.prog 45 (fun fr l => [fS fr l]) (fun l => l.length * 16 ≤ reachB ∧ ∀ x ∈ l, x.size ≤ maxLen) :=
  (rd_slice (B := 16) Tryz.underlying45 (by kernel_rfl) (by kernel_rfl) (by rw [show Tryz.prog.cellsOf 9 = 1 from by kernel_rfl]; decide) rdt_str).map id id (fun fr b => by simp [fS, eS_flat]) (fun fr b => by simp [fS, eS_flat]) fun a h => h
structure okRep (r : RepD) : Prop where
  e : wf64 r.err
  n : wf64 r.n
  d : okBytes r.data
  s : r.names.length * 16 ≤ reachB
theorem rdt_rep : Rd Tryz.prog 57 (fun fr (r : RepD) => [.v (.int .i64 r.err), .v (.int .i64 r.n), fB fr r.data, fS fr r.names]) okRep :=
  (rd_struct Tryz.underlying57 (by kernel_rfl) (RdF.cons (c := 1) rfl (by kernel_rfl) (rd_int Tryz.underlying29 (by kernel_rfl)) (RdF.cons (c := 1) rfl (by kernel_rfl) rdt_num (RdF.cons (c := 1) rfl (by kernel_rfl) rdt_bytes (RdF.cons (c := 1) rfl (by kernel_rfl) rdt_strs RdF.nil))))).map
    (fun x => ⟨x.1, x.2.1, x.2.2.1, x.2.2.2.1⟩) (fun b => (b.err, b.n, b.data, b.names, ())) (fun fr b => rfl) (fun fr b => rfl) fun a h => ⟨h.1, h.2.1, h.2.2.1, h.2.2.2.1.1⟩
theorem open_rep {H : Type} {enc : TypeId × Value → H} {W : World} {base : Nat} {v : Value} {d : DataW H} {ps : List MemPlace} (hv : Value.okWide Tryz.prog W .any base 57 v) (h : DataW.Trod enc Tryz.prog W 0 (fun _ => true) true 57 v d ps)
    (hw : (d.weights Tryz.prog 57).all (· ≤ reachBytes) = true) : ∃ s, okRep s ∧ VR (cx0 W) (aRep false s) v := by
  simp only [Value.okWide, Tryz.underlying57] at hv
  obtain ⟨cs, rfl, _, _⟩ := hv
  obtain ⟨fuel, h⟩ := h
  obtain ⟨s, h1, h2⟩ := rdt_rep.rd h hw
  refine ⟨s, h1, ?_⟩
  rw [aRep, VR]
  exact ⟨_, rfl, h2⟩
theorem wf_ok {x : Int} (h : wf64 x) : i64ok x := by
  simp [wf64, Lit.wf, IntKind.min, IntKind.max, IntKind.bits, IntKind.signed] at h
  unfold i64ok
  omega
end Go.Proofs.YtonglhkiobibgaaGreatDoor
namespace Go.Proofs.YtonglhkiobibgaaGreatDoor
open Go.RowKit
variable {P : Program} {N m : Nat}
/-- what nobody writes lies asg it lay -/
def Kc (c : Cx) (A B : World) : Prop := ∀ b, b < c.w.heap.size → ¬ c.T b → (c.X b → c.Y b = .no) → B.heap[b]? = A.heap[b]?
/-- Function gf, with such captured values, yields what L says, in order, until it is told to stop. -/
def IterA (P : Program) (gf : Nat) (caps : List AV) (L : List (List AV)) : Prop :=
  enters P gf = true ∧ ∀ (c : Cx) (lb : List Value), HR c → VRt c caps lb → ∃ V : _root_.Fin L.length → List Value, (∀ i, VRt c L[i] (V i)) ∧
    SeqStopsK Fence.wide 2 P gf lb.toArray (fun i => (V i).toArray) (Kc c) (fun xs => xs = List.finRange L.length) (fun pre => ∃ k, k < L.length ∧ pre = (List.finRange L.length).take (k + 1)) L.length c.w
def bindP : List Nat → List AV → (Nat → AV) → (Nat → AV)
  | p :: ps, x :: xs, env => bindP ps xs (putE env (some p) x)
  | _, _, env => env
def mvE : List (Nat × Operand) → (Nat → AV) → (Nat → AV)
  | [], env => env
  | (d, x) :: r, env => mvE r (putE env (some d) (evA env x))
def mvAct : List (Nat × Operand) → Act → Act
  | [], a => a
  | (d, x) :: r, a => mvAct r (a.put (some d) (a.eval x))
theorem RelR.set {nx : Nat} {done : Nat → Prop} {c : Cx} {st : ASt} {a : Act} (h : RelR N nx done c st a) {d : Nat} (hd : d < N) {x : AV} {v : Value} (hv : VR c x v) : RelR N nx done c ⟨putE st.env (some d) x, st.σ, st.nx⟩ (a.put (some d) v) := by
  refine ⟨by simp [Act.put, h.size], fun t => ?_, h.hr, h.σ, h.fresh⟩
  simp only [putE, Act.put]
  by_cases e : t = d
  · subst e
    rw [if_pos rfl]
    have : (a.tmps.setIfInBounds t v).getD t undef = v := by simp [h.size, hd]
    rw [this]; exact hv
  · rw [if_neg e]
    have : (a.tmps.setIfInBounds d v).getD t undef = a.tmps.getD t undef := by simp [Array.getElem?_setIfInBounds_ne (Ne.symm e)]
    rw [this]; exact h.env t
theorem RelR.mvs {nx : Nat} {done : Nat → Prop} {c : Cx} : ∀ {mv : List (Nat × Operand)} {st : ASt} {a : Act}, RelR N nx done c st a → (∀ q ∈ mv, q.1 < N) → RelR N nx done c ⟨mvE mv st.env, st.σ, st.nx⟩ (mvAct mv a)
  | [], st, a, h, _ => h
  | (d, x) :: r, st, a, h, hq => RelR.mvs (mv := r) (st := ⟨putE st.env (some d) (evA st.env x), st.σ, st.nx⟩) (h.set (hq (d, x) (by simp)) (h.eval x)) (fun q hq' => hq q (by simp [hq']))
theorem RelR.binds {nx : Nat} {done : Nat → Prop} {c : Cx} : ∀ {ps : List Nat} {l : List AV} {vs : List Value} {st : ASt} {a : Act}, RelR N nx done c st a → (∀ p ∈ ps, p < N) → VRt c l vs →
    RelR N nx done c ⟨bindP ps l st.env, st.σ, st.nx⟩ { a with tmps := (ps.zip vs).foldl (fun t q => t.setIfInBounds q.1 q.2) a.tmps }
  | [], l, vs, st, a, h, _, _ => by cases l <;> exact h
  | p :: ps, [], vs, st, a, h, _, hv => by rw [VRt] at hv; subst hv; exact h
  | p :: ps, x :: l, vs, st, a, h, hp, hv => by
    rw [VRt] at hv
    obtain ⟨u, us, rfl, h1, h2⟩ := hv
    exact RelR.binds (st := ⟨putE st.env (some p) x, st.σ, st.nx⟩) (a := a.put (some p) u) (h.set (hp p (by simp)) h1) (fun q hq => hp q (by simp [hq])) h2
theorem mvOps_wp {ro : Option Nat} {n : Nat} {ops : Array Oper} {Q : Exit → Act → World → Prop} : ∀ {l : List Oper} {mv : List (Nat × Operand)} {k : Nat} {a : Act} {W : World}, mvOps l = some mv → (∀ (j : Nat) o, l[j]? = some o → ops[k + j]? = some o) → Q .normal (mvAct mv a) W →
    wpOpsIn (FR ro) n P ops Q (List.range' k l.length) a W
  | [], mv, k, a, W, h, _, hq => by
    simp [mvOps] at h; subst h
    simpa [wpOpsIn, mvAct] using hq
  | o :: r, mv, k, a, W, h, hl, hq => by
    rw [List.length_cons, List.range'_succ, wpOpsIn_cons]
    have h0 := hl 0 o rfl
    rw [Nat.add_zero] at h0
    rw [mvOps] at h
    have go : ∀ (x : Operand) (d : Nat) (mv' : List (Nat × Operand)), o.guard = none → o.dst = some d → (∀ c, o.op ≠ .defer c) → (∀ W, (execOp a.eval o).run P W = .ok (.value (a.eval x)) W) → mvOps r = some mv' → mv = (d, x) :: mv' →
        wpOpIn (FR ro) n P ops Q k (wpOpsIn (FR ro) n P ops Q (List.range' (k + 1) r.length)) a W := by
      intro x d mv' hg hd hnd hrun hm e
      subst e
      unfold wpOpIn
      rw [h0]
      simp only
      rw [if_pos (by simp [Region.wanted, hg])]
      refine ⟨fun _ _ => trivial, ?_⟩
      rw [Oper.semAt_eq _ _ _ hnd, hrun, Oper.uponIn_value, hd]
      exact mvOps_wp hm (fun j o' hj => by have := hl (j + 1) o' (by simpa using hj); rwa [Nat.add_assoc, Nat.add_comm 1 j]) hq
    split at h
    · rename_i x d e1 e2 e3
      split at h
      · rename_i mv' hm
        cases h
        exact go x d mv' e3 e2 (by rw [e1]; intro c hc; cases hc) (fun W => by simp [execOp, e1]) hm rfl
      · cases h
    · rename_i x d e1 e2 e3
      split at h
      · rename_i mv' hm
        cases h
        exact go x d mv' e3 e2 (by rw [e1]; intro c hc; cases hc) (fun W => by simp [execOp, e1]) hm rfl
      · cases h
    · cases h
theorem mv_wp {ro : Option Nat} {n : Nat} : ∀ {asg : Code} {mv : List (Nat × Operand)} {a : Act} {W : World} {Q : Exit → Act → World → Prop}, compMv asg = some mv → Q .normal (mvAct mv a) W → asg.wpIn (FR ro) n P Q a W
  | .skip, mv, a, W, Q, h, hk => by simp [compMv] at h; subst h; exact wpIn_skip hk
  | .region id ops draw, mv, a, W, Q, h, hk => by
    rw [compMv] at h
    split at h
    · cases h
    · rename_i hd
      have hd : draw = false := by simpa using hd
      subst hd
      refine wpIn_region ?_
      have := mvOps_wp (ro := ro) (n := n) (P := P) (ops := ops) (Q := Q) (k := 0) (a := a) (W := W) h (fun j o hj => by simpa using hj) hk
      rw [List.range_eq_range']
      simpa using this
  | .seq x y, mv, a, W, Q, h, hk => by
    rw [compMv] at h
    split at h
    · rename_i l hl
      split at h
      · rename_i r hr
        cases h
        have happ : ∀ (l r : List (Nat × Operand)) (a : Act), mvAct (l ++ r) a = mvAct r (mvAct l a) := by
          intro l
          induction l with
          | nil => intro r a; rfl
          | cons q l ih => intro r a; exact ih r _
        rw [happ] at hk
        exact wpIn_seq (mv_wp hl (mv_wp (Q := Q) hr hk))
      · cases h
    · cases h
/-- how a round may end -/
def rngK (N m1 : Nat) {α : Type} (F : List α → Heap × Nat) (X : Exit → List α → Heap → Nat → Prop) (xs : List α) : Exit → ASt → Prop
  | .normal, s => Weak N m1 s ⟨fun _ => .any, (F xs).1, (F xs).2⟩
  | .ret, s => X .ret xs s.σ s.nx
  | .exit id, s => X (.exit id) xs s.σ s.nx
  | _, _ => False
theorem Grow.reYback {c d : Cx} {Y : Nat → WK} (hY : ∀ b, Y b = c.Y b ∨ (Y b = .no ∧ ∀ cs e f, c.w.heap[b]? ≠ some (.cells cs e f))) (g : Grow (c.reY Y) d) : Grow c (d.reY c.Y) := by
  refine ⟨g.X, g.B, g.out, g.osE, g.tape, g.size, fun b hb ht hy => ?_, g.held, g.shape, rfl, fun b k sz h1 h2 h3 h4 h5 => ?_⟩
  · refine g.stay b hb ht (fun hx => ?_)
    rcases hY b with h | ⟨h, _⟩
    · show Y b = .no; rw [h]; exact hy hx
    · exact h
  · refine g.wild b k sz h1 h2 ?_ h4 h5
    rcases hY b with h | ⟨_, h⟩
    · show Y b = k; rw [h]; exact h3
    · obtain ⟨cs, e, h6, _⟩ := h5
      exact absurd h6 (h _ _ _)
theorem AWc.range {g : Operand} {ps : List Nat} {mv : List (Nat × Operand)} {b : AC} {st : ASt} {Q : Exit → ASt → Prop} {gf : Nat} {caps : List AV} {L : List (List AV)} (m1 : Nat) (hm : m ≤ m1)
    (hg : evA st.env g = .fn gf caps) (hI : IterA P gf caps L) (hfl : b.flat = true)
    (hLp : ∀ l ∈ L, AlNL (fun i => i < m1) l ∧ l.length = ps.length) (hlow : ∀ t, AlN (fun i => i < m1) (st.env t))
    (F : List (_root_.Fin L.length) → Heap × Nat) (hF0 : F [] = (st.σ, st.nx)) (hFn : ∀ pre, m1 ≤ (F pre).2) (hFm : ∀ pre, NoM (F pre).1)
    (X : Exit → List (_root_.Fin L.length) → Heap → Nat → Prop) (hXm : ∀ e pre σ nx, X e pre σ nx → NoM σ)
    (hbody : ∀ (pre : List (_root_.Fin L.length)) (i : _root_.Fin L.length), pre.length < L.length → wpC P N m1 b ⟨mvE mv (bindP ps L[i] st.env), (F pre).1, (F pre).2⟩ (rngK N m1 F X (pre ++ [i])))
    (hdone : Q .normal ⟨st.env, (F (List.finRange L.length)).1, (F (List.finRange L.length)).2⟩)
    (hstop : ∀ (k : Nat) (e : Exit) (σ : Heap) (nx : Nat), k < L.length → X e ((List.finRange L.length).take (k + 1)) σ nx → Q e ⟨st.env, σ, nx⟩) : AWc P N m (.rfunc g ps mv b) st Q := by
  intro code hc ro hro
  have hro : ro = none := hro.resolve_right (by simp [AC.flat])
  subst hro
  obtain ⟨pa, asg, x, rfl, rfl, hmv, hx, hps, hmvN⟩ := comp_rfunc hc
  intro n c a hr hmn
  have hv := hr.eval g
  rw [hg] at hv
  obtain ⟨lb, hgu, hlb⟩ := hv
  obtain ⟨hent, hI⟩ := hI
  obtain ⟨V, hV, hseq⟩ := hI c lb hr.hr hlb
  show (Code.rangeFunc g pa asg x).wpIn Fence.wide n P _ a c.w
  rw [wpIn_wide, ← wpIn_wide (n := 3)]
  have hVl : ∀ i, (V i).length = pa.size := fun i => by
    rw [(VRt_iff.1 (hV i)).1, (hLp L[i] (by exact List.getElem_mem _)).2]; simp
  have envs : ∀ {c' : Cx} {σ : Heap} {nx : Nat}, Grow c c' → (∀ id, id < m1 → c'.φ id = c.φ id) → HR c' → c'.σ = σ → (∀ id, nx ≤ id → c'.φ id = none) → RelR N nx No c' ⟨st.env, σ, nx⟩ a := by
    intro c' σ nx hgr hl hh hs hf
    exact ⟨hr.size, fun t => (hr.env t).monoP (p := fun i => i < m1) hgr (fun id y h1 h2 => by rw [hl id h1]; exact h2) (hlow t), hh, hs, fun id h1 h2 => absurd (hf id h1) h2⟩
  have fresh' : ∀ {nx : Nat} {c' : Cx} {s : ASt} {a' : Act}, RelR N nx No c' s a' → ∀ id, nx ≤ id → c'.φ id = none := by
    intro nx c' s a' h id hid
    cases hq : c'.φ id with
    | none => rfl
    | some y => obtain ⟨j, hj, _⟩ := h.fresh id hid (by rw [hq]; simp); exact hj.elim
  refine wpIn_rangeFunc_ownF (F := Fence.wide) (n := 3) rfl (by decide) hgu trivial (fun args w => run_callFunc hent args w) hseq (fun h k b h1 h2 h3 => (k b h1 h2 h3).trans (h b h1 h2 h3))
    (fun W l o o' hl _ _ _ b h1 _ _ => World.putObj_heap_other (by omega)) (Below.refl _ _) (fun i => by simp [hVl i])
    (fun pre W => ∃ c', c'.w = W ∧ Grow c c' ∧ (∀ id, id < m1 → c'.φ id = c.φ id) ∧ RelR N (F pre).2 No c' ⟨st.env, (F pre).1, (F pre).2⟩ a)
    (fun cd pre W => ∃ (e : Exit) (σ : Heap) (nx : Nat) (c' : Cx), ((cd = .ret ∧ e = .ret) ∨ ∃ id, cd = .exit id ∧ e = .exit id) ∧ c'.w = W ∧ Grow c c' ∧ (∀ id, id < m1 → c'.φ id = c.φ id) ∧ RelR N nx No c' ⟨st.env, σ, nx⟩ a ∧ m1 ≤ nx ∧ X e pre σ nx)
    ?_ ?_ ⟨c, rfl, Grow.refl c, fun _ _ => rfl, by rw [hF0]; exact hr⟩ (fun i => mvAct mv { tmps := (pa.zip (V i).toArray).foldl (fun t q => t.setIfInBounds q.1 q.2) a.tmps, defers := [] }) ?_ ?_ ?_ ?_
  · rintro pre W W' row ⟨c', rfl, h1, h2, h3⟩ hgr hrow
    have hs : Side c.w.heap.size c' W' := Side.grown hgr hrow (by rw [h3.σ]; exact hFm pre)
    exact ⟨c'.at W', rfl, h1.side hs (Nat.le_refl _), h2, h3.side hs⟩
  · rintro cd pre W W' row ⟨e, σ, nx, c', h0, rfl, h1, h2, h3, h4, h5⟩ hgr hrow
    have hs : Side c.w.heap.size c' W' := Side.grown hgr hrow (by rw [h3.σ]; exact hXm _ _ _ _ h5)
    exact ⟨e, σ, nx, c'.at W', h0, rfl, h1.side hs (Nat.le_refl _), h2, h3.side hs, h4, h5⟩
  · intro l i W K hK
    exact mv_wp (ro := some l) (Q := Exit.then K (fun _ _ _ => False)) hmv hK
  · rintro l pre i W ⟨c', rfl, h1, h2, h3⟩ hlen
    classical
    obtain ⟨Y, hY⟩ : ∃ Y : Nat → WK, ∀ b, Y b = if ∃ cs e f, c'.w.heap[b]? = some (.cells cs e f) then c'.Y b else .no := ⟨_, fun b => rfl⟩
    have hY1 : ∀ b, Y b = c'.Y b ∨ (Y b = .no ∧ ∀ cs e f, c'.w.heap[b]? ≠ some (.cells cs e f)) := fun b => by
      rw [hY b]
      split
      · exact .inl rfl
      · rename_i h; exact .inr ⟨rfl, fun cs e f h9 => h ⟨cs, e, f, h9⟩⟩
    have hwok : ∀ k b n, c'.wok k b n → (c'.reY Y).wok k b n := by
      rintro k b n ⟨k1, k2, k3, k4, sz, ⟨cs, e, k5, k6⟩, k7⟩
      refine ⟨k1, k2, ?_, k4, sz, ⟨cs, e, k5, k6⟩, k7⟩
      rcases hY1 b with h | ⟨_, h⟩
      · show Y b = k; rw [h]; exact k3
      · exact absurd k5 (h _ _ _)
    have hno : ∀ b, c'.Y b = .no → Y b = .no := fun b h => by
      rcases hY1 b with h9 | ⟨h9, _⟩
      · rw [h9, h]
      · exact h9
    have hr1 : RelR N (F pre).2 No (c'.reY Y) ⟨st.env, (F pre).1, (F pre).2⟩ { tmps := a.tmps, defers := [] } :=
      ⟨h3.size, fun t => (h3.env t).reY hwok, h3.hr.reY (fun b v hb hx => hno b ((h3.hr.gl b v hb).2.2 hx)) hwok, h3.σ, h3.fresh⟩
    have hV2 : VRt (c'.reY Y) L[i] (V i) := ((hV i).monoP (p := fun i => i < m1) h1 (fun id y q1 q2 => by rw [h2 id q1]; exact q2) (hLp L[i] (by exact List.getElem_mem _)).1).reY hwok
    have hr2 := (hr1.binds hps hV2).mvs hmvN
    have hz : (pa.zip (V i).toArray).foldl (fun t q => t.setIfInBounds q.1 q.2) a.tmps = (pa.toList.zip (V i)).foldl (fun t q => t.setIfInBounds q.1 q.2) a.tmps := by
      rw [← Array.foldl_toList, Array.toList_zip]
    have hb := wpC_sound (hbody pre i hlen) x hx (some l) (.inr hfl) 1 (c'.reY Y) _ hr2 (hFn pre)
    rw [hz]
    refine wpIn_mono hb ?_
    have fin : ∀ {c3 : Cx} {s3 : ASt} {a3 : Act}, Grow (c'.reY Y) c3 → (∀ id, id < m1 → c3.φ id = (c'.reY Y).φ id) → RelR N s3.nx No c3 s3 a3 →
        KeepsOthers c'.w c3.w ∧ Kc c c'.w c3.w ∧ Grow c (c3.reY c'.Y) ∧ (∀ id, id < m1 → (c3.reY c'.Y).φ id = c.φ id) ∧ RelR N s3.nx No (c3.reY c'.Y) ⟨st.env, s3.σ, s3.nx⟩ a := by
      intro c3 s3 a3 hg3 hl3 hr3
      have hgg : Grow c (c3.reY c'.Y) := h1.trans (hg3.reYback hY1)
      have hll : ∀ id, id < m1 → (c3.reY c'.Y).φ id = c.φ id := fun id hid => (hl3 id hid).trans (h2 id hid)
      have hY3 : c3.Y = Y := hg3.Y
      have hh : HR (c3.reY c'.Y) := hr3.hr.reY (fun b v hb hx => (h3.hr.gl b v hb).2.2 (by rw [hg3.X] at hx; exact hx)) (by
        rintro k b n ⟨k1, k2, k3, k4, k5⟩
        refine ⟨k1, k2, ?_, k4, k5⟩
        rw [hY3] at k3
        rcases hY1 b with h | ⟨h, _⟩
        · show c'.Y b = k; rw [← h]; exact k3
        · rw [h] at k3; subst k3; rcases k4 with k4 | k4 <;> cases k4)
      refine ⟨⟨hg3.size, fun k o hk ho => ?_⟩, fun b q1 q2 q3 => ?_, hgg, hll, envs hgg hll hh hr3.σ (fun id hid => fresh' hr3 id hid)⟩
      · refine (hg3.stay k (Array.getElem?_eq_some_iff.1 hk).1 (fun ht => ?_) (fun _ => ?_)).trans hk
        · obtain ⟨cs, e, f, h9⟩ := h3.hr.T_cells (by rw [h3.σ]; exact hFm pre) ht
          rw [hk] at h9; cases h9; cases ho
        · show Y k = .no
          rw [hY k, if_neg]
          rintro ⟨cs, e, f, h9⟩
          rw [hk] at h9; cases h9; cases ho
      · refine hg3.stay b (Nat.lt_of_lt_of_le q1 h1.size) (fun ht => ?_) (fun hx => ?_)
        · rcases h1.held b ht with h9 | h9
          · exact q2 h9
          · omega
        · refine hno b ?_
          rw [h1.Y]; exact q3 (by rw [← h1.X]; exact hx)
    rintro e a' w' ⟨c2, s2, rfl, ga, low2, rel2, hm2, hq⟩
    cases e with
    | normal =>
      obtain ⟨c3, w3, g3, low3, rel3, hm3⟩ := hq c2 a' rel2 hm2
      obtain ⟨k1, k2, k3, k4, k5⟩ := fin (ga.g.trans g3) (fun id hid => (low3 id hid).trans (low2 id hid)) rel3
      rw [w3] at k1 k2
      exact ⟨k1, k2, c3.reY c'.Y, w3, k3, k4, k5⟩
    | ret =>
      obtain ⟨k1, k2, k3, k4, k5⟩ := fin ga.g low2 rel2
      exact ⟨k1, .ret, s2.σ, s2.nx, c2.reY c'.Y, .inl ⟨rfl, rfl⟩, rfl, k3, k4, k5, hm2, hq⟩
    | exit id =>
      obtain ⟨k1, k2, k3, k4, k5⟩ := fin ga.g low2 rel2
      exact ⟨k1, .exit id, s2.σ, s2.nx, c2.reY c'.Y, .inr ⟨id, rfl, rfl⟩, rfl, k3, k4, k5, hm2, hq⟩
    | _ => exact hq.elim
  · rintro D xs W hD rfl ⟨c', rfl, h1, h2, h3⟩ hdd
    exact ⟨c', _, rfl, ⟨h1, [{ target := .collected D, args := #[] }], rfl, by simp, fun d hd => by rw [List.mem_singleton] at hd; exact ⟨D, hd, hD, hdd⟩⟩, fun id hid => h2 id (Nat.lt_of_lt_of_le hid hm), ⟨h3.size, h3.env, h3.hr, h3.σ, h3.fresh⟩, Nat.le_trans hm (hFn _), hdone⟩
  · rintro D cd pre W hD ⟨k, hk, rfl⟩ ⟨e, σ, nx, c', h0, rfl, h1, h2, h3, h4, h5⟩ hdd
    have key : ∃ c'' st', c''.w = c'.w ∧ GoA c a c'' { a with defers := { target := .collected D, args := #[] } :: a.defers } ∧ (∀ id, id < m → c''.φ id = c.φ id) ∧ RelR N st'.nx No c'' st' { a with defers := { target := .collected D, args := #[] } :: a.defers } ∧ m ≤ st'.nx ∧ Q e st' :=
      ⟨c', ⟨st.env, σ, nx⟩, rfl, ⟨h1, [{ target := .collected D, args := #[] }], rfl, by simp, fun d hd => by rw [List.mem_singleton] at hd; exact ⟨D, hd, hD, hdd⟩⟩, fun id hid => h2 id (Nat.lt_of_lt_of_le hid hm), ⟨h3.size, h3.env, h3.hr, h3.σ, h3.fresh⟩, Nat.le_trans hm h4, hstop k e σ nx hk h5⟩
    rcases h0 with ⟨rfl, rfl⟩ | ⟨id, rfl, rfl⟩
    · exact wpIn_ret key
    · exact wpIn_exit key
theorem RelR.envs {c c' : Cx} {env : Nat → AV} {σ0 σ : Heap} {nx0 nx m1 : Nat} {a : Act} (hr : RelR N nx0 No c ⟨env, σ0, nx0⟩ a) (hlow : ∀ t, AlN (fun i => i < m1) (env t)) (hgr : Grow c c') (hl : ∀ id, id < m1 → c'.φ id = c.φ id) (hh : HR c') (hs : c'.σ = σ) (hf : ∀ id, nx ≤ id → c'.φ id = none) :
    RelR N nx No c' ⟨env, σ, nx⟩ a :=
  ⟨hr.size, fun t => (hr.env t).monoP (p := fun i => i < m1) hgr (fun id y h1 h2 => by rw [hl id h1]; exact h2) (hlow t), hh, hs, fun id h1 h2 => absurd (hf id h1) h2⟩
theorem RelR.none {nx : Nat} {c' : Cx} {s : ASt} {a' : Act} (h : RelR N nx No c' s a') : ∀ id, nx ≤ id → c'.φ id = none := by
  intro id hid
  cases hq : c'.φ id with
  | none => rfl
  | some y => obtain ⟨j, hj, _⟩ := h.fresh id hid (by rw [hq]; simp); exact hj.elim
end Go.Proofs.YtonglhkiobibgaaGreatDoor
namespace Go.Proofs.YtonglhkiobibgaaGreatDoor
open Go.RowKit
variable {P : Program} {N m : Nat}
theorem Weak.fnData {s : ASt} (t f : Nat) (caps caps' : List AV) (h : s.env t = .fn f caps) (hl : caps'.length = caps.length)
    (hc : ∀ (j : Nat) x', caps'[j]? = some x' → ∃ x, caps[j]? = some x ∧ ((x' = x ∧ Pu x) ∨ ∃ id y e cells off, x = .op id off ∧ s.σ id = some (.row y e cells) ∧ PuL cells ∧ x' = .fp y cells off)) :
    Weak N m s ⟨envOf [(t, .fn f caps')], heapOf [], s.nx⟩ := by
  intro c a hr hms
  generalize hd : (⟨c.w, c.B, c.φ, heapOf [], c.X, c.Y⟩ : Cx) = d
  have dw : d.w = c.w := by rw [← hd]
  have dB : d.B = c.B := by rw [← hd]
  have dX : d.X = c.X := by rw [← hd]
  have dY : d.Y = c.Y := by rw [← hd]
  have dσ : d.σ = heapOf [] := by rw [← hd]
  have dφ : d.φ = c.φ := by rw [← hd]
  have hT : ∀ b, ¬ d.T b := by rintro b ⟨k, o, e1, e2⟩; rw [dσ] at e1; cases e1
  have g : Grow c d := Still.grow ⟨dY, dX, dB, by rw [dw], by rw [dw], by rw [dw], by rw [dw]; exact Nat.le_refl _, fun b _ _ => by rw [dw], fun b hb => (hT b hb).elim, fun b cs e f hb => ⟨cs, f, by rw [dw]; exact hb, rfl⟩⟩
  have nm : Names c d := fun k x hk => by rw [dφ]; exact hk
  refine ⟨d, dw, g, fun _ _ => by rw [dφ], ⟨hr.size, fun t' => ?_, ⟨fun j y' e' cs' hs => (by rw [dσ] at hs; cases hs), fun i i' b e1 e2 e3 e4 => by rw [dσ] at e1; exact absurd rfl e1, by rw [dB, dw]; exact hr.hr.base, fun b hb => by rw [dX] at hb; rw [dw]; exact hr.hr.xlt b hb, hr.hr.gl.grow g⟩, dσ, fun k hk hne => by rw [dφ] at hne; exact hr.fresh k hk hne⟩, hms⟩
  simp only [envOf]
  split
  · rename_i e
    subst e
    have hv := hr.env t'
    rw [h] at hv
    obtain ⟨us, hu, hv⟩ := hv
    rw [VRt_iff] at hv
    refine ⟨us, hu, VRt_iff.2 ⟨by omega, fun j x' hj => ?_⟩⟩
    obtain ⟨x, k1, k2⟩ := hc j x' hj
    obtain ⟨u, k3, k4⟩ := hv.2 j x k1
    refine ⟨u, k3, ?_⟩
    rcases k2 with ⟨rfl, _⟩ | ⟨id, y, e, cells, off, rfl, q1, q2, rfl⟩
    · exact k4.mono g nm
    · obtain ⟨b, e1, rfl, hcl⟩ := k4
      rcases hr.hr.row id y e cells (by rw [hr.σ]; exact q1) with ⟨g1, _⟩ | ⟨b', cs, g1, g2, g3, g4, g5⟩
      · rw [e1] at g1; cases g1
      · rw [e1] at g1; cases g1
        replace g2 := g2.cells hcl
        refine ⟨b, 0, by rw [Nat.zero_add], by rw [dw, Array.getElem?_eq_some_iff] at *; exact g2.1, ⟨by rw [dB]; exact g3.1, hT b, by rw [dX]; exact g3.2⟩, VRm_iff.2 fun j z hj => ?_⟩
        obtain ⟨q, k1, k2, k3⟩ := g5 _ _ hj
        exact ⟨q, by rw [dw, Nat.zero_add]; simp [World.cell?, g2, k1], k2, k3.mono g nm⟩
  · trivial
mutual
theorem AlN.of {p : Nat → Prop} : ∀ {a : AV}, Al p a → AlN p a
  | .any, _ | .v _, _ | .ws _ _, _ | .wp _, _ | .wv _, _ => trivial
  | .fs fr cs n, h | .fp fr cs n, h | .us fr e cs n, h => AlNL.of (l := cs) h
  | .agg l, h | .tup l, h | .fn f l, h => AlNL.of (l := l) h
  | .ifc _ a, h => AlN.of (a := a) h
  | .os _ _ _ _, h | .op _ _, h | .mp _, h => h
theorem AlNL.of {p : Nat → Prop} : ∀ {l : List AV}, AlL p l → AlNL p l
  | [], _ => trivial
  | a :: r, h => ⟨AlN.of (a := a) h.1, AlNL.of (l := r) h.2⟩
end
theorem AlN.env {p : Nat → Prop} {l : List (Nat × AV)} (h : AlL p (l.map (·.2))) (t : Nat) : AlN p (envOf l t) := by
  rcases envOf_mem (l := l) (t := t) with e | e
  · rw [e]; trivial
  · exact AlN.of (AlL_iff.1 h _ (List.mem_map.2 ⟨_, e, rfl⟩))
end Go.Proofs.YtonglhkiobibgaaGreatDoor
namespace Go.Proofs.YtonglhkiobibgaaGreatDoor
open Go.RowKit
variable {P : Program} {N m : Nat}
theorem Weak.ifcData {s : ASt} (t ty id : Nat) {y : Bool} {e off : Nat} {cells : List AV} (h : s.env t = .ifc ty (.op id off)) (hs : s.σ id = some (.row y e cells)) (hp : PuL cells) :
    Weak N m s ⟨envOf [(t, .ifc ty (.fp y cells off))], heapOf [], s.nx⟩ := by
  intro c a hr hms
  generalize hd : (⟨c.w, c.B, c.φ, heapOf [], c.X, c.Y⟩ : Cx) = d
  have dw : d.w = c.w := by rw [← hd]
  have dB : d.B = c.B := by rw [← hd]
  have dX : d.X = c.X := by rw [← hd]
  have dY : d.Y = c.Y := by rw [← hd]
  have dσ : d.σ = heapOf [] := by rw [← hd]
  have dφ : d.φ = c.φ := by rw [← hd]
  have hT : ∀ b, ¬ d.T b := by rintro b ⟨k, o, e1, e2⟩; rw [dσ] at e1; cases e1
  have g : Grow c d := Still.grow ⟨dY, dX, dB, by rw [dw], by rw [dw], by rw [dw], by rw [dw]; exact Nat.le_refl _, fun b _ _ => by rw [dw], fun b hb => (hT b hb).elim, fun b cs e f hb => ⟨cs, f, by rw [dw]; exact hb, rfl⟩⟩
  have nm : Names c d := fun k x hk => by rw [dφ]; exact hk
  refine ⟨d, dw, g, fun _ _ => by rw [dφ], ⟨hr.size, fun t' => ?_, ⟨fun j y' e' cs' hs => (by rw [dσ] at hs; cases hs), fun i i' b e1 e2 e3 e4 => by rw [dσ] at e1; exact absurd rfl e1, by rw [dB, dw]; exact hr.hr.base, fun b hb => by rw [dX] at hb; rw [dw]; exact hr.hr.xlt b hb, hr.hr.gl.grow g⟩, dσ, fun k hk hne => by rw [dφ] at hne; exact hr.fresh k hk hne⟩, hms⟩
  simp only [envOf]
  split
  · rename_i e
    subst e
    have hv := hr.env t'
    rw [h] at hv
    obtain ⟨v, hu, hv⟩ := hv
    refine ⟨v, hu, ?_⟩
    obtain ⟨b, e1, rfl, hcl⟩ := hv
    rcases hr.hr.row id y e cells (by rw [hr.σ]; exact hs) with ⟨g1, _⟩ | ⟨b', cs, g1, g2, g3, g4, g5⟩
    · rw [e1] at g1; cases g1
    · rw [e1] at g1; cases g1
      replace g2 := g2.cells hcl
      refine ⟨b, 0, by rw [Nat.zero_add], by rw [dw, Array.getElem?_eq_some_iff] at *; exact g2.1, ⟨by rw [dB]; exact g3.1, hT b, by rw [dX]; exact g3.2⟩, VRm_iff.2 fun j z hj => ?_⟩
      obtain ⟨q, k1, k2, k3⟩ := g5 _ _ hj
      exact ⟨q, by rw [dw, Nat.zero_add]; simp [World.cell?, g2, k1], k2, k3.mono g nm⟩
  · trivial
end Go.Proofs.YtonglhkiobibgaaGreatDoor
namespace Go.Proofs.YtonglhkiobibgaaGreatDoor
open Go.RowKit
set_option maxRecDepth 100000
set_option maxHeartbeats 1000000 in
theorem opCheck_spec (fr : Bool) (o : OpD) (nb : Nat) : ASound Tryz.prog 48 [aOp fr o] nb (.ret (.v (.int .i64 (opChk o))) []) := by
  refine ok_48.sound (by simp) ⟨al_aOp o, trivial⟩ ?_
  by_cases h1 : o.kind < 1
  · have e : opChk o = 22 := by rw [opChk, if_pos (.inl h1)]
    simp only [ac_48, aOp, h1, e, TT, ↓reduceIte, Nat.reduceEqDiff, Nat.reduceAdd, Nat.reduceMul, reduceCtorEq, Nat.reduceLeDiff]
    exact Ends.data (.inr rfl) (by simp [ET]) trivial
  by_cases h2 : 12 < o.kind
  · have e : opChk o = 22 := by rw [opChk, if_pos (.inr h2)]
    simp only [ac_48, aOp, h1, h2, e, TT, ↓reduceIte, Nat.reduceEqDiff, Nat.reduceAdd, Nat.reduceMul, reduceCtorEq, Nat.reduceLeDiff]
    exact Ends.data (.inr rfl) (by simp [ET]) trivial
  have e0 : opChk o = if 255 < o.path.size ∨ 255 < o.to.size ∨ 4096 < o.data.length then 5 else 0 := by rw [opChk, if_neg (by omega)]
  have em : ((255 : Int) < (if (o.path.size : Int) < (o.to.size : Int) then (o.to.size : Int) else (o.path.size : Int))) ↔ (255 < o.path.size ∨ 255 < o.to.size) := by split <;> omega
  by_cases h3 : 255 < o.path.size ∨ 255 < o.to.size
  · have e : opChk o = 5 := by rw [e0, if_pos (by omega)]
    simp only [ac_48, aOp, h1, h2, em, h3, e, TT, ↓reduceIte, Nat.reduceEqDiff, Nat.reduceAdd, Nat.reduceMul, reduceCtorEq, Nat.reduceLeDiff]
    exact Ends.data (.inr rfl) (by simp [ET]) trivial
  by_cases h4 : 4096 < o.data.length
  · have e : opChk o = 5 := by rw [e0, if_pos (by omega)]
    have e4 : ((4096 : Int) < (o.data.length : Int)) := by omega
    simp only [ac_48, aOp, h1, h2, em, h3, e4, e, TT, ↓reduceIte, Nat.reduceEqDiff, Nat.reduceAdd, Nat.reduceMul, reduceCtorEq, Nat.reduceLeDiff]
    exact Ends.data (.inr rfl) (by simp [ET]) trivial
  have e : opChk o = 0 := by rw [e0, if_neg (by omega)]
  have e4 : ¬ ((4096 : Int) < (o.data.length : Int)) := by omega
  simp only [ac_48, aOp, h1, h2, em, h3, e4, e, TT, ↓reduceIte, Nat.reduceEqDiff, Nat.reduceAdd, Nat.reduceMul, reduceCtorEq, Nat.reduceLeDiff]
  exact Ends.data (.inr rfl) (by simp [ET]) trivial
theorem encode_b (fr : Bool) (o : OpD) (h1 : i64ok o.off) (h2 : i64ok o.n) (id1 id2 nb : Nat) (hne : id1 ≠ id2) : ASound Tryz.prog 96 [.agg [.v (.int .i64 o.kind), .os id1 0 2 1, .os id2 0 3 1]] nb
    (rowsM [(id1, true, 3, [.v (.int .i64 o.off), .v (.int .i64 o.n)]), (id2, true, 37, [.fs true (octs o.path) o.path.size, .fs true (octs o.to) o.to.size, fB fr o.data])] (.ret (.tup [fB true (encode (opRec o)).1, .v (.int .i64 (encode (opRec o)).2)]) [])) := by
  refine ASound.borrow [] [(id1, true, 3, [.v (.int .i64 o.off), .v (.int .i64 o.n)]), (id2, true, 37, [.fs true (octs o.path) o.path.size, .fs true (octs o.to) o.to.size, fB fr o.data])] ?_ (by simp) (by simp) ⟨yg_fB _, trivial, trivial⟩ (by simp)
  have e : boL [(id1, true, 3, [.v (.int .i64 o.off), .v (.int .i64 o.n)]), (id2, true, 37, [.fs true (octs o.path) o.path.size, .fs true (octs o.to) o.to.size, fB fr o.data])] [.agg [.v (.int .i64 o.kind), .os id1 0 2 1, .os id2 0 3 1]] = [aRec false (opRec o)] := by
    simp [boL, bo, cellsAt, od, odL, od_fB, fI, aRec, opRec, fL, eL, eI, fB, hne.symm, od_B, octs_eq, octL_len]
  rw [e]
  exact encode_spec false (opRec o) nb (by intro n hn; simp [opRec] at hn; rcases hn with rfl | rfl <;> assumption)
set_option maxHeartbeats 1000000 in
theorem opEncode_spec (fr : Bool) (o : OpD) (nb : Nat) (h1 : i64ok o.off) (h2 : i64ok o.n) : ASound Tryz.prog 43 [aOp fr o] nb (.ret (.tup [fB true (encO o).1, .v (.int .i64 (encO o).2)]) []) := by
  refine ok_43.sound (by simp) ⟨al_aOp o, trivial⟩ ?_
  have hc := opCheck_spec fr o
  simp only [aOp] at hc
  simp only [ac_43, aOp, TT, ↓reduceIte, Nat.reduceEqDiff, Nat.reduceAdd, Nat.reduceMul, reduceCtorEq, Nat.reduceLeDiff]
  refine ⟨_, hc _, ?_⟩
  simp only [TT, ↓reduceIte, Nat.reduceEqDiff, Nat.reduceAdd, Nat.reduceMul, reduceCtorEq, Nat.reduceLeDiff]
  by_cases h0 : opChk o = 0
  · have e : encO o = encode (opRec o) := by rw [encO, if_pos h0]
    simp only [h0, e, TT, ↓reduceIte, Nat.reduceEqDiff, Nat.reduceAdd, Nat.reduceMul, reduceCtorEq, Nat.reduceLeDiff]
    refine ⟨_, encode_b fr o h1 h2 _ _ _ (by omega), ?_⟩
    simp only [TT, ↓reduceIte, Nat.reduceEqDiff, Nat.reduceAdd, Nat.reduceMul, reduceCtorEq, Nat.reduceLeDiff]
    exact Ends.data (.inr rfl) (by simp [ET]) ⟨al_fB _, trivial, trivial⟩
  · have e : encO o = ([], opChk o) := by rw [encO, if_neg h0]
    simp only [h0, e, TT, ↓reduceIte, Nat.reduceEqDiff, Nat.reduceAdd, Nat.reduceMul, reduceCtorEq, Nat.reduceLeDiff]
    exact Ends.imp (.inr rfl) (r0 := .tup [.v (.slice none 0 0), .v (.int .i64 (opChk o))]) (by simp [ET]) ⟨trivial, trivial, trivial⟩ (Imp.tup rfl (fun j a' hj => by
      match j with
      | 0 => simp at hj; subst hj; exact ⟨_, rfl, Imp.nil true⟩
      | 1 => simp at hj; subst hj; exact ⟨_, rfl, Imp.refl _⟩
      | j + 2 => simp at hj))
end Go.Proofs.YtonglhkiobibgaaGreatDoor
namespace Go.Proofs.YtonglhkiobibgaaGreatDoor
open Go.RowKit
set_option maxRecDepth 100000
theorem longS_spec (s : ByteArray) (nb : Nat) : ASound Tryz.prog 101 [.v (.string s)] nb (.ret (.v (.bool (decide (255 < (s.size : Int))))) []) := by
  refine ok_101.sound (by simp) ⟨trivial, trivial⟩ ?_
  simp only [ac_101, TT, ↓reduceIte, Nat.reduceEqDiff, Nat.reduceAdd, Nat.reduceMul, reduceCtorEq, Nat.reduceLeDiff]
  exact Ends.data (.inr rfl) (by simp [ET]) trivial
/-- the first name that is too long -/
def idxS : List ByteArray → Nat → Int
  | [], _ => -1
  | s :: r, i => if 255 < s.size then (i : Int) else idxS r (i + 1)
theorem idxS_drop {l : List ByteArray} {i : Nat} {s : ByteArray} (h : l[i]? = some s) : idxS (l.drop i) i = if 255 < s.size then (i : Int) else idxS (l.drop (i + 1)) (i + 1) := by
  have hi := (List.getElem?_eq_some_iff.1 h)
  rw [List.drop_eq_getElem_cons hi.1, hi.2]; rfl
theorem idxS_pos : ∀ (l : List ByteArray) (i : Nat), 0 ≤ idxS l i ↔ ∃ s ∈ l, 255 < s.size
  | [], i => by simp [idxS]
  | s :: r, i => by
    rw [idxS]
    by_cases h : 255 < s.size
    · rw [if_pos h]; simp [h]
    · rw [if_neg h, idxS_pos r (i + 1)]; simp [h]
abbrev L_is (fr : Bool) (l : List ByteArray) (i : Nat) : ASt := ⟨envOf [(0, fS fr l), (1, .fn 101 []), (7, .v (.int .i64 l.length)), (8, .v (.int .i64 i))], heapOf [], 1⟩
theorem indexS_spec (fr : Bool) (l : List ByteArray) (nb : Nat) (hn : l.length ≤ 140737488355328) : ASound Tryz.prog 164 [fS fr l, .fn 101 []] nb (.ret (.v (.int .i64 (idxS l 0))) []) := by
  refine ok_164.sound (by simp) ⟨al_fS l, trivial, trivial⟩ ?_
  simp only [ac_164, fS, TT, ↓reduceIte, Nat.reduceEqDiff, Nat.reduceAdd, Nat.reduceMul, reduceCtorEq, Nat.reduceLeDiff]
  refine AWc.family (L_is fr l) (fun i => i ≤ l.length ∧ idxS (l.drop i) i = idxS l 0) (fun i => l.length - i) 0 ⟨Nat.zero_le _, rfl⟩ ?_ ?_
  · refine Weak.calc [] (by decide) ?_ ?_ <;> simp [WT, al_S, ren_S, fS]
  · rintro i ⟨hi, he⟩
    by_cases hlt : i < l.length
    · obtain ⟨s, hx, e1, e0⟩ := lt_at hlt
      simp only [L_is, fS, e1, e0, get_S hx, Int.toNat_natCast, TT, ↓reduceIte, Nat.reduceEqDiff, Nat.reduceAdd, Nat.reduceMul, reduceCtorEq, Nat.reduceLeDiff]
      refine ⟨_, _, _, rfl, longS_spec s _, ?_⟩
      have hd := idxS_drop hx
      by_cases h : 255 < s.size
      · have t1 : ((255 : Int) < (s.size : Int)) := by omega
        rw [if_pos h] at hd
        simp only [t1, decide_true, TT, ↓reduceIte, Nat.reduceEqDiff, Nat.reduceAdd, Nat.reduceMul, reduceCtorEq, Nat.reduceLeDiff]
        rw [← he, hd]
        exact Ends.data (.inr rfl) (by simp [ET]) trivial
      · have t1 : ¬ ((255 : Int) < (s.size : Int)) := by omega
        rw [if_neg h] at hd
        simp only [t1, decide_false, TT, ↓reduceIte, Nat.reduceEqDiff, Nat.reduceAdd, Nat.reduceMul, reduceCtorEq, Nat.reduceLeDiff]
        refine famC_next (i + 1) (by omega) ⟨by omega, by rw [← hd, he]⟩ ?_
        refine Weak.calc [] (by decide) ?_ ?_ <;> simp [WT, al_S, ren_S, fS, wrap64 (x := (i : Int) + 1) (by omega)]
    · obtain rfl : i = l.length := by omega
      have e1 : ¬ ((l.length : Int) < (l.length : Int)) := by omega
      rw [List.drop_length] at he
      simp only [L_is, fS, e1, TT, ↓reduceIte, Nat.reduceEqDiff, Nat.reduceAdd, Nat.reduceMul, reduceCtorEq, Nat.reduceLeDiff]
      rw [← he]
      exact Ends.data (.inr rfl) (by simp [ET, idxS]) trivial
theorem containsS_spec (fr : Bool) (l : List ByteArray) (nb : Nat) (hn : l.length ≤ 140737488355328) : ASound Tryz.prog 100 [fS fr l, .fn 101 []] nb (.ret (.v (.bool (decide (0 ≤ idxS l 0)))) []) := by
  refine ok_100.sound (by simp) ⟨al_fS l, trivial, trivial⟩ ?_
  have hs := indexS_spec fr l
  simp only [fS] at hs
  simp only [ac_100, fS, TT, ↓reduceIte, Nat.reduceEqDiff, Nat.reduceAdd, Nat.reduceMul, reduceCtorEq, Nat.reduceLeDiff]
  refine ⟨_, hs _ hn, ?_⟩
  simp only [TT, ↓reduceIte, Nat.reduceEqDiff, Nat.reduceAdd, Nat.reduceMul, reduceCtorEq, Nat.reduceLeDiff]
  exact Ends.data (.inr rfl) (by simp [ET]) trivial
/-- what the loop has laid -/
def txR (r : RepD) (i : Nat) : List (List Int) := r.data :: (r.names.take i).map octL
def eTx (fr : Bool) (r : RepD) (i : Nat) : List AV := fB fr r.data :: (r.names.take i).map fun s => .fs true (octs s) s.size
theorem eTx_len (fr : Bool) (r : RepD) {i : Nat} (h : i ≤ r.names.length) : (eTx fr r i).length = i + 1 := by simp [eTx]; omega
theorem eTx_s (fr : Bool) (r : RepD) {i : Nat} {s : ByteArray} (h : r.names[i]? = some s) : eTx fr r i ++ [.fs true (octs s) s.size] = eTx fr r (i + 1) := by
  unfold eTx
  rw [take_snoc h]; simp
theorem al_eTx {p : Nat → Prop} (fr : Bool) (r : RepD) (i : Nat) : AlL p (eTx fr r i) := ⟨al_fB _, AlL_map (e := fun s => AV.fs true (octs s) s.size) (fun s => by rw [octs_eq]; exact al_B _) _⟩
theorem ren_eTx {ρ : Nat → Nat} (fr : Bool) (r : RepD) (i : Nat) : renL ρ (eTx fr r i) = eTx fr r i := renL_id (p := fun _ => False) (fun _ h => h.elim) (al_eTx fr r i)
theorem od_eTx (fr : Bool) (r : RepD) (i : Nat) : odL (eTx fr r i) = eL false (txR r i) := by
  unfold eTx txR eL
  rw [odL_map, List.map_cons, List.map_cons, List.map_map, List.map_map]
  congr 1
  · rw [od_fB]; rfl
  · apply List.map_congr_left
    intro s _
    simp [od, octs_eq, od_B, octL_len]
theorem encodeR_b (fr : Bool) (r : RepD) (h1 : i64ok r.err) (h2 : i64ok r.n) (id1 id2 nb : Nat) (hne : id1 ≠ id2) : ASound Tryz.prog 96 [.agg [.v (.int .i64 0), .os id1 0 2 1, .os id2 0 (r.names.length + 1) 1]] nb
    (rowsM [(id1, true, 3, [.v (.int .i64 r.err), .v (.int .i64 r.n)]), (id2, true, 37, eTx fr r r.names.length)] (.ret (.tup [fB true (encode (repRec r)).1, .v (.int .i64 (encode (repRec r)).2)]) [])) := by
  refine ASound.borrow [] [(id1, true, 3, [.v (.int .i64 r.err), .v (.int .i64 r.n)]), (id2, true, 37, eTx fr r r.names.length)] ?_ (by simp [eTx]) (by simp) ⟨yg_fB _, trivial, trivial⟩ (by simp)
  have e : boL [(id1, true, 3, [.v (.int .i64 r.err), .v (.int .i64 r.n)]), (id2, true, 37, eTx fr r r.names.length)] [.agg [.v (.int .i64 0), .os id1 0 2 1, .os id2 0 (r.names.length + 1) 1]] = [aRec false (repRec r)] := by
    have e3 : (eTx fr r r.names.length).take (r.names.length + 1) = eTx fr r r.names.length := List.take_of_length_le (by rw [eTx_len fr r (Nat.le_refl _)]; exact Nat.le_refl _)
    simp [boL, bo, cellsAt, od, odL, fI, aRec, repRec, fL, eI, hne.symm, e3, od_eTx, txR]
  rw [e]
  exact encode_spec false (repRec r) nb (by intro n hn; simp [repRec] at hn; rcases hn with rfl | rfl <;> assumption)
abbrev L_er (fr : Bool) (r : RepD) (i : Nat) : ASt := ⟨envOf [(4, .op 0 0), (50, fS fr r.names), (51, .v (.int .i64 r.names.length)), (52, .v (.int .i64 i))], heapOf [(0, .row true 154 [.v (.int .i64 0), .os 1 0 2 1, .os 2 0 (i + 1) 1]), (1, .row true 3 [.v (.int .i64 r.err), .v (.int .i64 r.n)]), (2, .row true 37 (eTx fr r i))], 3⟩
theorem nilE (e : Int) : Imp (.tup [.v (.slice none 0 0), .v (.int .i64 e)]) (.tup [fB true [], .v (.int .i64 e)]) := Imp.tup rfl (fun j a' hj => by
  match j with
  | 0 => simp at hj; subst hj; exact ⟨_, rfl, Imp.nil true⟩
  | 1 => simp at hj; subst hj; exact ⟨_, rfl, Imp.refl _⟩
  | j + 2 => simp at hj)
set_option maxHeartbeats 2000000 in
theorem repEncode_spec (fr : Bool) (r : RepD) (nb : Nat) (h1 : i64ok r.err) (h2 : i64ok r.n) (hn : r.names.length ≤ 140737488355328) : ASound Tryz.prog 51 [aRep fr r] nb (.ret (.tup [fB true (encRep r).1, .v (.int .i64 (encRep r).2)]) []) := by
  refine ok_51.sound (by simp) ⟨al_aRep r, trivial⟩ ?_
  have bad : ∀ (e : Int), repChk r = e → e ≠ 0 → encRep r = ([], e) := fun e h h0 => by rw [encRep, if_neg (by omega), h]
  by_cases c1 : r.err < 0
  · have e := bad 4 (by rw [repChk, if_pos (.inl c1)]) (by decide)
    simp only [ac_51, aRep, c1, e, TT, ↓reduceIte, Nat.reduceEqDiff, Nat.reduceAdd, Nat.reduceMul, reduceCtorEq, Nat.reduceLeDiff]
    exact Ends.imp (.inr rfl) (r0 := .tup [.v (.slice none 0 0), .v (.int .i64 4)]) (by simp [ET]) ⟨trivial, trivial, trivial⟩ (nilE 4)
  by_cases c2 : 65536 < r.err
  · have e := bad 4 (by rw [repChk, if_pos (.inr (.inl c2))]) (by decide)
    simp only [ac_51, aRep, c1, c2, e, TT, ↓reduceIte, Nat.reduceEqDiff, Nat.reduceAdd, Nat.reduceMul, reduceCtorEq, Nat.reduceLeDiff]
    exact Ends.imp (.inr rfl) (r0 := .tup [.v (.slice none 0 0), .v (.int .i64 4)]) (by simp [ET]) ⟨trivial, trivial, trivial⟩ (nilE 4)
  by_cases c3 : r.n < 0
  · have e := bad 4 (by rw [repChk, if_pos (.inr (.inr (.inl c3)))]) (by decide)
    simp only [ac_51, aRep, c1, c2, c3, e, TT, ↓reduceIte, Nat.reduceEqDiff, Nat.reduceAdd, Nat.reduceMul, reduceCtorEq, Nat.reduceLeDiff]
    exact Ends.imp (.inr rfl) (r0 := .tup [.v (.slice none 0 0), .v (.int .i64 4)]) (by simp [ET]) ⟨trivial, trivial, trivial⟩ (nilE 4)
  by_cases c4 : 2147483647 < r.n
  · have e := bad 4 (by rw [repChk, if_pos (.inr (.inr (.inr c4)))]) (by decide)
    simp only [ac_51, aRep, c1, c2, c3, c4, e, TT, ↓reduceIte, Nat.reduceEqDiff, Nat.reduceAdd, Nat.reduceMul, reduceCtorEq, Nat.reduceLeDiff]
    exact Ends.imp (.inr rfl) (r0 := .tup [.v (.slice none 0 0), .v (.int .i64 4)]) (by simp [ET]) ⟨trivial, trivial, trivial⟩ (nilE 4)
  have e0 : repChk r = if 4096 < r.data.length then 5 else if 64 < r.names.length then 3 else if ∃ s ∈ r.names, 255 < s.size then 5 else 0 := by rw [repChk, if_neg (by omega)]
  by_cases c5 : 4096 < r.data.length
  · have e := bad 5 (by rw [e0, if_pos c5]) (by decide)
    have d5 : ((4096 : Int) < (r.data.length : Int)) := by omega
    simp only [ac_51, aRep, fB, c1, c2, c3, c4, d5, e, TT, ↓reduceIte, Nat.reduceEqDiff, Nat.reduceAdd, Nat.reduceMul, reduceCtorEq, Nat.reduceLeDiff]
    exact Ends.imp (.inr rfl) (r0 := .tup [.v (.slice none 0 0), .v (.int .i64 5)]) (by simp [ET]) ⟨trivial, trivial, trivial⟩ (nilE 5)
  have d5 : ¬ ((4096 : Int) < (r.data.length : Int)) := by omega
  by_cases c6 : 64 < r.names.length
  · have e := bad 3 (by rw [e0, if_neg c5, if_pos c6]) (by decide)
    have d6 : ((64 : Int) < (r.names.length : Int)) := by omega
    simp only [ac_51, aRep, fB, fS, c1, c2, c3, c4, d5, d6, e, TT, ↓reduceIte, Nat.reduceEqDiff, Nat.reduceAdd, Nat.reduceMul, reduceCtorEq, Nat.reduceLeDiff]
    exact Ends.imp (.inr rfl) (r0 := .tup [.v (.slice none 0 0), .v (.int .i64 3)]) (by simp [ET]) ⟨trivial, trivial, trivial⟩ (nilE 3)
  have d6 : ¬ ((64 : Int) < (r.names.length : Int)) := by omega
  have hs := containsS_spec fr r.names
  simp only [fS] at hs
  by_cases c7 : ∃ s ∈ r.names, 255 < s.size
  · have e := bad 5 (by rw [e0, if_neg c5, if_neg c6, if_pos c7]) (by decide)
    have t7 : decide (0 ≤ idxS r.names 0) = true := decide_eq_true ((idxS_pos _ _).2 c7)
    rw [t7] at hs
    simp only [ac_51, aRep, fB, fS, c1, c2, c3, c4, d5, d6, e, TT, ↓reduceIte, Nat.reduceEqDiff, Nat.reduceAdd, Nat.reduceMul, reduceCtorEq, Nat.reduceLeDiff]
    refine ⟨_, hs _ hn, ?_⟩
    simp only [TT, ↓reduceIte, Nat.reduceEqDiff, Nat.reduceAdd, Nat.reduceMul, reduceCtorEq, Nat.reduceLeDiff]
    exact Ends.imp (.inr rfl) (r0 := .tup [.v (.slice none 0 0), .v (.int .i64 5)]) (by simp [ET]) ⟨trivial, trivial, trivial⟩ (nilE 5)
  have t7 : decide (0 ≤ idxS r.names 0) = false := decide_eq_false (fun h => c7 ((idxS_pos _ _).1 h))
  rw [t7] at hs
  have eE : encRep r = encode (repRec r) := by rw [encRep, if_pos (by rw [e0, if_neg c5, if_neg c6, if_neg c7])]
  simp only [ac_51, aRep, fB, fS, c1, c2, c3, c4, d5, d6, TT, ↓reduceIte, Nat.reduceEqDiff, Nat.reduceAdd, Nat.reduceMul, reduceCtorEq, Nat.reduceLeDiff]
  refine ⟨_, hs _ hn, ?_⟩
  simp only [TT, ↓reduceIte, Nat.reduceEqDiff, Nat.reduceAdd, Nat.reduceMul, reduceCtorEq, Nat.reduceLeDiff]
  refine AWc.family (L_er fr r) (fun i => i ≤ r.names.length) (fun i => r.names.length - i) 0 (Nat.zero_le _) ?_ ?_
  · refine Weak.calc [(4500000, 0), (4000000, 1), (4300000, 2)] (by decide) ?_ ?_ <;> simp [WT, al_S, ren_S, fS, eTx]
  · intro i hi
    by_cases hlt : i < r.names.length
    · obtain ⟨s, hx, g1, g0⟩ := lt_at hlt
      have ls := eTx_len fr r hi
      simp only [L_er, fS, g1, g0, get_S hx, Int.toNat_natCast, ls, eTx_s fr r hx, TT, ↓reduceIte, Nat.reduceEqDiff, Nat.reduceAdd, Nat.reduceMul, reduceCtorEq, Nat.reduceLeDiff]
      rw [if_pos (by omega)]
      refine famC_next (i + 1) (by omega) (by omega) ?_
      refine Weak.calc [(0, 0), (1, 1), (900003, 2)] (by decide) ?_ ?_ <;> simp [WT, al_S, ren_S, fS, al_eTx, ren_eTx, wrap64 (x := (i : Int) + 1) (by omega)]
    · obtain rfl : i = r.names.length := by omega
      have g1 : ¬ ((r.names.length : Int) < (r.names.length : Int)) := by omega
      simp only [L_er, fS, g1, eE, TT, ↓reduceIte, Nat.reduceEqDiff, Nat.reduceAdd, Nat.reduceMul, reduceCtorEq, Nat.reduceLeDiff]
      refine ⟨_, encodeR_b fr r h1 h2 _ _ _ (by omega), ?_⟩
      simp only [TT, ↓reduceIte, Nat.reduceEqDiff, Nat.reduceAdd, Nat.reduceMul, reduceCtorEq, Nat.reduceLeDiff]
      exact Ends.data (.inr rfl) (by simp [ET]) ⟨al_fB _, trivial, trivial⟩
end Go.Proofs.YtonglhkiobibgaaGreatDoor
namespace Go.Proofs.YtonglhkiobibgaaGreatDoor
open Go.RowKit
set_option maxRecDepth 100000
structure Ent where
  name : ByteArray
  ino : Int
structure Bk where
  index : Int
  data : List Int
structure Fl where
  size : Int
  blocks : List Bk
structure Nd where
  ino : Int
  dir : Bool
  links : Int
  entries : List Ent
  file : Fl
structure FSt where
  nodes : List Nd
  next : Int
def eEnt (e : Ent) : List AV := [.v (.string e.name), .v (.int .i64 e.ino)]
def eEnts (l : List Ent) : List AV := l.flatMap eEnt
def fEnts (fr : Bool) (l : List Ent) : AV := .fs fr (eEnts l) l.length
def eBk (fr : Bool) (b : Bk) : List AV := [.v (.int .i64 b.index), .fs fr (eB b.data) b.data.length]
def eBks (fr : Bool) (l : List Bk) : List AV := l.flatMap (eBk fr)
def fBks (fr : Bool) (l : List Bk) : AV := .fs fr (eBks fr l) l.length
def aFl (fr : Bool) (f : Fl) : AV := .agg [.v (.int .i64 f.size), fBks fr f.blocks]
def eNd (fr : Bool) (n : Nd) : List AV := [.v (.int .i64 n.ino), .v (.bool n.dir), .v (.int .i64 n.links), fEnts fr n.entries, .v (.int .i64 n.file.size), fBks fr n.file.blocks]
def eNds (fr : Bool) (l : List Nd) : List AV := l.flatMap (eNd fr)
def fNds (fr : Bool) (l : List Nd) : AV := .fs fr (eNds fr l) l.length
def aFs (fr : Bool) (s : FSt) : AV := .agg [fNds fr s.nodes, .v (.int .i64 s.next)]
section
variable {fr : Bool} {p : Nat → Prop}
theorem al_Ents (l : List Ent) : AlL p (eEnts l) := AlL_flat (e := eEnt) (fun e => ⟨trivial, trivial, trivial⟩) l
theorem al_fEnts (l : List Ent) : Al p (fEnts fr l) := al_Ents l
theorem al_Bks (l : List Bk) : AlL p (eBks fr l) := AlL_flat (e := eBk fr) (fun b => ⟨trivial, al_B _, trivial⟩) l
theorem al_fBks (l : List Bk) : Al p (fBks fr l) := al_Bks l
theorem al_aFl (f : Fl) : Al p (aFl fr f) := ⟨trivial, al_fBks _, trivial⟩
theorem al_Nd (n : Nd) : AlL p (eNd fr n) := ⟨trivial, trivial, trivial, al_fEnts _, trivial, al_fBks _, trivial⟩
theorem al_Nds (l : List Nd) : AlL p (eNds fr l) := AlL_flat (fun n => al_Nd n) l
theorem al_fNds (l : List Nd) : Al p (fNds fr l) := al_Nds l
theorem al_aFs (s : FSt) : Al p (aFs fr s) := ⟨al_fNds _, trivial, trivial⟩
theorem ren_Ents {ρ : Nat → Nat} (l : List Ent) : renL ρ (eEnts l) = eEnts l := renL_id (p := fun _ => False) (fun _ h => h.elim) (al_Ents l)
theorem ren_Bks {ρ : Nat → Nat} (l : List Bk) : renL ρ (eBks fr l) = eBks fr l := renL_id (p := fun _ => False) (fun _ h => h.elim) (al_Bks l)
theorem ren_Nds {ρ : Nat → Nat} (l : List Nd) : renL ρ (eNds fr l) = eNds fr l := renL_id (p := fun _ => False) (fun _ h => h.elim) (al_Nds l)
theorem len_Nds (l : List Nd) : (eNds fr l).length = l.length * 6 := flat_len (e := eNd fr) (k := 6) (fun _ => rfl) l
theorem get_Ents {l : List Ent} {i : Nat} {e : Ent} (h : l[i]? = some e) : (eEnts l)[i * 2]? = some (.v (.string e.name)) ∧ (eEnts l)[i * 2 + 1]? = some (.v (.int .i64 e.ino)) :=
  ⟨flat_get (e := eEnt) (k := 2) (fun _ => rfl) h 0 (by omega), flat_get (e := eEnt) (k := 2) (fun _ => rfl) h 1 (by omega)⟩
theorem get_Bks {l : List Bk} {i : Nat} {b : Bk} (h : l[i]? = some b) : (eBks fr l)[i * 2]? = some (.v (.int .i64 b.index)) ∧ (eBks fr l)[i * 2 + 1]? = some (.fs fr (eB b.data) b.data.length) :=
  ⟨flat_get (e := eBk fr) (k := 2) (fun _ => rfl) h 0 (by omega), flat_get (e := eBk fr) (k := 2) (fun _ => rfl) h 1 (by omega)⟩
theorem get_Nds {l : List Nd} {i : Nat} {n : Nd} (h : l[i]? = some n) : (eNds fr l)[i * 6]? = some (.v (.int .i64 n.ino)) ∧ (eNds fr l)[i * 6 + 1]? = some (.v (.bool n.dir)) ∧ (eNds fr l)[i * 6 + 2]? = some (.v (.int .i64 n.links)) ∧
    (eNds fr l)[i * 6 + 3]? = some (.fs fr (eEnts n.entries) n.entries.length) ∧ (eNds fr l)[i * 6 + 4]? = some (.v (.int .i64 n.file.size)) ∧ (eNds fr l)[i * 6 + 5]? = some (.fs fr (eBks fr n.file.blocks) n.file.blocks.length) :=
  ⟨flat_get (e := eNd fr) (k := 6) (fun _ => rfl) h 0 (by omega), flat_get (e := eNd fr) (k := 6) (fun _ => rfl) h 1 (by omega), flat_get (e := eNd fr) (k := 6) (fun _ => rfl) h 2 (by omega),
   flat_get (e := eNd fr) (k := 6) (fun _ => rfl) h 3 (by omega), flat_get (e := eNd fr) (k := 6) (fun _ => rfl) h 4 (by omega), flat_get (e := eNd fr) (k := 6) (fun _ => rfl) h 5 (by omega)⟩
end
/-- the root alone -/
def newF : FSt := ⟨[⟨1, true, 0, [], ⟨0, []⟩⟩], 2⟩
theorem new_spec (nb : Nat) : ASound Tryz.prog 37 [] nb (.ret (aFs true newF) []) := by
  refine ok_37.sound (by simp) trivial ?_
  simp only [ac_37, TT, ↓reduceIte, Nat.reduceEqDiff, Nat.reduceAdd, Nat.reduceMul, reduceCtorEq, Nat.reduceLeDiff]
  refine Ends.weak (Weak.freezeC 200000 rfl (l := [(0, .op 0 0)]) (h := [(0, .row true 28 [.fs true [.v (.int .i64 1), .v (.bool true), .v (.int .i64 0), .v (.slice none 0 0), .v (.int .i64 0), .v (.slice none 0 0)] 1, .v (.int .i64 2)])]) ?_ ?_)
    (Ends.imp (.inr rfl) (r0 := .agg [.fs true [.v (.int .i64 1), .v (.bool true), .v (.int .i64 0), .v (.slice none 0 0), .v (.int .i64 0), .v (.slice none 0 0)] 1, .v (.int .i64 2)]) (by simp [ET]) ⟨⟨trivial, trivial, trivial, trivial, trivial, trivial, trivial⟩, trivial, trivial⟩ ?_)
  · simp [WT]
  · simp [WT]
  · refine Imp.agg rfl (fun j a' hj => ?_)
    match j with
    | 0 =>
      simp [aFs, fNds, eNds, newF, eNd] at hj
      subst hj
      refine ⟨_, rfl, Imp.fs (fun h => h) rfl (fun j a' hj => ?_)⟩
      match j with
      | 0 => simp at hj; subst hj; exact ⟨_, rfl, Imp.refl _⟩
      | 1 => simp at hj; subst hj; exact ⟨_, rfl, Imp.refl _⟩
      | 2 => simp at hj; subst hj; exact ⟨_, rfl, Imp.refl _⟩
      | 3 => simp at hj; subst hj; exact ⟨_, rfl, Imp.nil _⟩
      | 4 => simp at hj; subst hj; exact ⟨_, rfl, Imp.refl _⟩
      | 5 => simp at hj; subst hj; exact ⟨_, rfl, Imp.nil _⟩
      | j + 6 => simp at hj
    | 1 => simp [aFs, newF] at hj; subst hj; exact ⟨_, rfl, Imp.refl _⟩
    | j + 2 => simp [aFs] at hj
end Go.Proofs.YtonglhkiobibgaaGreatDoor
namespace Go.Proofs.YtonglhkiobibgaaGreatDoor
open Go.RowKit
abbrev Ls := List (List Int)
/-- is a log the beginning of another one? -/
def begL (a b : Ls) : Prop := a.length ≤ b.length ∧ a = b.take a.length
instance (a b : Ls) : Decidable (begL a b) := inferInstanceAs (Decidable (_ ∧ _))
end Go.Proofs.YtonglhkiobibgaaGreatDoor
namespace Go.Proofs.YtonglhkiobibgaaGreatDoor
open Go.RowKit
set_option maxRecDepth 100000
theorem at_Ls {fr : Bool} {l : Ls} {i : Nat} {t : List Int} (h : l[i]? = some t) : (eL fr l)[i]? = some (.fs fr (eB t) t.length) := by simp [eL, h]
end Go.Proofs.YtonglhkiobibgaaGreatDoor
namespace Go.Proofs.YtonglhkiobibgaaGreatDoor
open Go.RowKit
set_option maxRecDepth 100000
theorem eq_upto {α : Type} {a b : List α} (hl : a.length = b.length) (h : ∀ j, j < a.length → a[j]? = b[j]?) : a = b := by
  apply List.ext_getElem? 
  intro j
  by_cases hj : j < a.length
  · exact h j hj
  · rw [List.getElem?_eq_none (by omega), List.getElem?_eq_none (by omega)]
abbrev L_sameB (fa fb : Bool) (a b : List Int) (k : Nat) : ASt := ⟨envOf [(0, fB fa a), (1, fB fb b), (5, .v (.int .i64 k))], heapOf [], 0⟩
theorem sameBytes_spec (fa fb : Bool) (a b : List Int) (nb : Nat) (hz : a.length ≤ 140737488355328) : ASound Tryz.prog 27 [fB fa a, fB fb b] nb (.ret (.v (.bool (decide (a = b)))) []) := by
  refine ok_27.sound (by simp) ⟨al_fB a, al_fB b, trivial⟩ ?_
  simp only [ac_27, TT, ↓reduceIte, Nat.reduceEqDiff, Nat.reduceAdd, Nat.reduceMul, reduceCtorEq, Nat.reduceLeDiff]
  by_cases hl : a.length = b.length
  · have hl' : (a.length : Int) = (b.length : Int) := by omega
    simp only [hl', not_true, TT, ↓reduceIte, Nat.reduceEqDiff, Nat.reduceAdd, Nat.reduceMul, reduceCtorEq, Nat.reduceLeDiff]
    refine AWc.family (L_sameB fa fb a b) (fun k => k ≤ a.length ∧ ∀ j, j < k → a[j]? = b[j]?) (fun k => a.length - k) 0 ⟨Nat.zero_le _, fun j h => absurd h (Nat.not_lt_zero _)⟩ ?_ ?_
    · refine Weak.calc [] (by decide) ?_ ?_ <;> simp [WT]
    · rintro k ⟨hk, hj⟩
      by_cases hlt : k < a.length
      · obtain ⟨x, hx, e1, e0⟩ := lt_at hlt
        obtain ⟨y, hy, e2, _⟩ := lt_at (show k < b.length by omega)
        have g1 := get_B hx
        have g2 := get_B hy
        simp only [L_sameB, g1, g2, e1, e0, e2, TT, ↓reduceIte, Nat.reduceEqDiff, Nat.reduceAdd, Nat.reduceMul, reduceCtorEq, Nat.reduceLeDiff]
        refine ⟨by rfl, ?_⟩
        split
        · rename_i hne
          have : ¬ a = b := by intro h; subst h; rw [hx] at hy; cases hy; exact hne rfl
          exact Ends.data (.inr rfl) (by simp [this, ET]) trivial
        · rename_i hne
          have hxy : x = y := by simpa using hne
          refine famC_next (k + 1) (by omega) ⟨by omega, fun j hj1 => ?_⟩ ?_
          · by_cases e : j = k
            · subst e; rw [hx, hy, hxy]
            · exact hj j (by omega)
          · refine Weak.calc [] (by decide) ?_ ?_ <;> simp [WT, wrap64 (x := (k : Int) + 1) (by omega)]
      · have e1 : ¬ ((k : Int) < (a.length : Int)) := by omega
        simp only [L_sameB, e1, TT, ↓reduceIte, Nat.reduceEqDiff, Nat.reduceAdd, Nat.reduceMul, reduceCtorEq, Nat.reduceLeDiff]
        have : a = b := eq_upto hl fun j h => hj j (by omega)
        exact Ends.data (.inr rfl) (by simp [this, ET]) trivial
  · have hl' : ¬ (a.length : Int) = (b.length : Int) := by omega
    simp only [hl', not_false_eq_true, TT, ↓reduceIte, Nat.reduceEqDiff, Nat.reduceAdd, Nat.reduceMul, reduceCtorEq, Nat.reduceLeDiff]
    have : ¬ a = b := fun h => hl (by rw [h])
    exact Ends.data (.inr rfl) (by simp [this, ET]) trivial
end Go.Proofs.YtonglhkiobibgaaGreatDoor
namespace Go.Proofs.YtonglhkiobibgaaGreatDoor
open Go.RowKit
set_option maxRecDepth 100000
end Go.Proofs.YtonglhkiobibgaaGreatDoor
namespace Go.Proofs.YtonglhkiobibgaaGreatDoor
open Go.RowKit
set_option maxRecDepth 100000
end Go.Proofs.YtonglhkiobibgaaGreatDoor
namespace Go.Proofs.YtonglhkiobibgaaGreatDoor
open Go.RowKit
set_option maxRecDepth 100000
end Go.Proofs.YtonglhkiobibgaaGreatDoor
namespace Go.Proofs.YtonglhkiobibgaaGreatDoor
open Go.RowKit
set_option maxRecDepth 100000
abbrev nilA0 : AV := .v (.slice none 0 0)
end Go.Proofs.YtonglhkiobibgaaGreatDoor
namespace Go.Proofs.YtonglhkiobibgaaGreatDoor
open Go.RowKit
set_option maxRecDepth 100000
def cmpI (a b : Int) : Int := if a < b then -1 else if b < a then 1 else 0
theorem cmpI_neg {a b : Int} : cmpI a b < 0 ↔ a < b := by unfold cmpI; split <;> (try split) <;> omega
theorem cmpI_zero {a b : Int} : cmpI a b = 0 ↔ a = b := by unfold cmpI; split <;> (try split) <;> omega
theorem nanI_spec (a : Int) (nb : Nat) : ASound Tryz.prog 127 [.v (.int .i64 a)] nb (.ret (.v (.bool false)) []) := by
  refine ok_127.sound (by simp) ⟨trivial, trivial⟩ ?_
  simp only [ac_127, TT, ↓reduceIte, Nat.reduceEqDiff, Nat.reduceAdd, Nat.reduceMul, reduceCtorEq, Nat.reduceLeDiff]
  exact Ends.data (.inr rfl) (by simp [ET]) trivial
theorem cmpI_spec (a b : Int) (nb : Nat) : ASound Tryz.prog 85 [.v (.int .i64 a), .v (.int .i64 b)] nb (.ret (.v (.int .i64 (cmpI a b))) []) := by
  refine ok_85.sound (by simp) ⟨trivial, trivial, trivial⟩ ?_
  simp only [ac_85, TT, ↓reduceIte, Nat.reduceEqDiff, Nat.reduceAdd, Nat.reduceMul, reduceCtorEq, Nat.reduceLeDiff]
  refine ⟨_, nanI_spec a _, ?_⟩
  simp only [TT, ↓reduceIte, Nat.reduceEqDiff, Nat.reduceAdd, Nat.reduceMul, reduceCtorEq, Nat.reduceLeDiff]
  refine ⟨_, nanI_spec b _, ?_⟩
  by_cases h1 : a < b
  · simp only [h1, TT, ↓reduceIte, Nat.reduceEqDiff, Nat.reduceAdd, Nat.reduceMul, reduceCtorEq, Nat.reduceLeDiff]
    exact Ends.data (.inr rfl) (by simp [ET, cmpI, h1]) trivial
  · by_cases h2 : b < a
    · simp only [h1, h2, TT, ↓reduceIte, Nat.reduceEqDiff, Nat.reduceAdd, Nat.reduceMul, reduceCtorEq, Nat.reduceLeDiff]
      exact Ends.data (.inr rfl) (by simp [ET, cmpI, h1, h2]) trivial
    · simp only [h1, h2, TT, ↓reduceIte, Nat.reduceEqDiff, Nat.reduceAdd, Nat.reduceMul, reduceCtorEq, Nat.reduceLeDiff]
      exact Ends.data (.inr rfl) (by simp [ET, cmpI, h1, h2]) trivial
theorem cmpN1_spec (fr : Bool) (n : Nd) (t : Int) (nb : Nat) : ASound Tryz.prog 84 [.agg (eNd fr n), .v (.int .i64 t)] nb (.ret (.v (.int .i64 (cmpI n.ino t))) []) := by
  refine ok_84.sound (by simp) ⟨al_Nd n, trivial, trivial⟩ ?_
  simp only [ac_84, eNd, TT, ↓reduceIte, Nat.reduceEqDiff, Nat.reduceAdd, Nat.reduceMul, reduceCtorEq, Nat.reduceLeDiff]
  refine ⟨_, cmpI_spec _ _ _, ?_⟩
  simp only [TT, ↓reduceIte, Nat.reduceEqDiff, Nat.reduceAdd, Nat.reduceMul, reduceCtorEq, Nat.reduceLeDiff]
  exact Ends.data (.inr rfl) (by simp [ET]) trivial
theorem cmpN2_spec (fr : Bool) (n : Nd) (t : Int) (nb : Nat) : ASound Tryz.prog 223 [.agg (eNd fr n), .v (.int .i64 t)] nb (.ret (.v (.int .i64 (cmpI n.ino t))) []) := by
  refine ok_223.sound (by simp) ⟨al_Nd n, trivial, trivial⟩ ?_
  simp only [ac_223, eNd, TT, ↓reduceIte, Nat.reduceEqDiff, Nat.reduceAdd, Nat.reduceMul, reduceCtorEq, Nat.reduceLeDiff]
  refine ⟨_, cmpI_spec _ _ _, ?_⟩
  simp only [TT, ↓reduceIte, Nat.reduceEqDiff, Nat.reduceAdd, Nat.reduceMul, reduceCtorEq, Nat.reduceLeDiff]
  exact Ends.data (.inr rfl) (by simp [ET]) trivial
/-- a search by halves: the first place from which on numbers are not less -/
def bsI (f : Nat → Int) (t : Int) : Nat → Nat → Nat → Nat
  | 0, i, _ => i
  | k + 1, i, j => if i < j then (if f ((i + j) / 2) < t then bsI f t k ((i + j) / 2 + 1) j else bsI f t k i ((i + j) / 2)) else i
theorem bsI_stop {f : Nat → Int} {t : Int} {k i j : Nat} (h : ¬ i < j) : bsI f t k i j = i := by
  cases k with
  | zero => rfl
  | succ k => rw [bsI, if_neg h]
def inoA (l : List Nd) (h : Nat) : Int := match l[h]? with | some n => n.ino | none => 0
theorem inoA_at {l : List Nd} {h : Nat} {n : Nd} (e : l[h]? = some n) : inoA l h = n.ino := by rw [inoA, e]
def plc (l : List Nd) (t : Int) : Nat := bsI (inoA l) t l.length 0 l.length
abbrev hasN (l : List Nd) (t : Int) : Prop := plc l t < l.length ∧ inoA l (plc l t) = t
structure Bs where
  k : Nat
  i : Nat
  j : Nat
theorem shr1 (m : Nat) : shVal .shr .u64 (m : Int) 1 = some (.int .u64 ((m / 2 : Nat) : Int)) := by
  have h : Int.fdiv (m : Int) (2 ^ min (Int.toNat 1) IntKind.u64.bits) = ((m / 2 : Nat) : Int) := by
    show Int.fdiv (m : Int) 2 = _
    rw [Int.fdiv_eq_ediv_of_nonneg _ (by decide)]
    omega
  simp only [shVal, if_neg (show ¬ ((1 : Int) < 0) by decide), h]
theorem wu64 {m : Nat} (h : m ≤ 281474976710656) : IntKind.u64.wrap (m : Int) = (m : Int) := by
  have e3 : (2 : Nat) ^ 64 = 18446744073709551616 := by decide
  rw [u64_mod]; omega
abbrev L_bs (f : Nat) (fr : Bool) (l : List Nd) (t : Int) (q : Bs) : ASt := ⟨envOf [(0, fNds fr l), (1, .v (.int .i64 t)), (2, .fn f []), (8, .v (.int .i64 l.length)), (9, .v (.int .i64 q.i)), (10, .v (.int .i64 q.j))], heapOf [], 1⟩
set_option maxHeartbeats 1000000 in
theorem bsearch_spec (f : Nat) (fr : Bool) (l : List Nd) (t : Int) (nb : Nat) (hl : l.length ≤ 140737488355328) (hf : ∀ (n : Nd) (nb : Nat), ASound Tryz.prog f [.agg (eNd fr n), .v (.int .i64 t)] nb (.ret (.v (.int .i64 (cmpI n.ino t))) [])) :
    ASound Tryz.prog 83 [fNds fr l, .v (.int .i64 t), .fn f []] nb (.ret (.tup [.v (.int .i64 (plc l t)), .v (.bool (decide (hasN l t)))]) []) := by
  refine ok_83.sound (by simp) ⟨al_fNds l, trivial, trivial, trivial⟩ ?_
  simp only [ac_83, fNds, TT, ↓reduceIte, Nat.reduceEqDiff, Nat.reduceAdd, Nat.reduceMul, reduceCtorEq, Nat.reduceLeDiff]
  refine AWc.family (L_bs f fr l t) (fun q => (q.i ≤ q.j ∧ q.j ≤ l.length ∧ q.j - q.i ≤ q.k) ∧ bsI (inoA l) t q.k q.i q.j = plc l t) (fun q => q.j - q.i) ⟨l.length, 0, l.length⟩ ⟨⟨Nat.zero_le _, Nat.le_refl _, Nat.le_refl _⟩, rfl⟩ ?_ ?_
  · refine Weak.calc [] (by decide) ?_ ?_ <;> simp [WT, al_Nds, ren_Nds, fNds]
  · rintro ⟨k, i, j⟩ ⟨⟨hi, hj, hk⟩, he⟩
    simp only at hi hj hk he
    by_cases hlt : i < j
    · obtain ⟨k, rfl⟩ : ∃ k', k = k' + 1 := ⟨k - 1, by omega⟩
      have g1 : ((i : Int) < (j : Int)) = True := eq_true (by omega)
      have w1 : IntKind.i64.wrap ((i : Int) + (j : Int)) = ((i + j : Nat) : Int) := by rw [wrap64 (by omega)]; omega
      have w2 := wu64 (m := i + j) (by omega)
      have w3 : IntKind.i64.wrap (((i + j) / 2 : Nat) : Int) = (((i + j) / 2 : Nat) : Int) := wrap64 (by omega)
      rw [bsI, if_pos hlt] at he
      generalize hm : (i + j) / 2 = m at he w3
      obtain ⟨n, hx, e1, e0⟩ := lt_at (show m < l.length by omega)
      obtain ⟨a0, a1, a2, a3, a4, a5⟩ := get_Nds (fr := fr) hx
      rw [inoA_at hx] at he
      have ho := hf n
      simp only [eNd, fEnts, fBks] at ho
      simp only [L_bs, fNds, g1, w1, w2, shr1, hm, w3, e1, e0, a0, a1, a2, a3, a4, a5, Int.toNat_natCast, TT, ↓reduceIte, Nat.reduceEqDiff, Nat.reduceAdd, Nat.reduceMul, reduceCtorEq, Nat.reduceLeDiff]
      refine ⟨_, _, _, rfl, ho _, ?_⟩
      by_cases h : n.ino < t
      · rw [if_pos h] at he
        have c1 : (cmpI n.ino t < 0) = True := eq_true (cmpI_neg.2 h)
        simp only [c1, decide_true, TT, ↓reduceIte, Nat.reduceEqDiff, Nat.reduceAdd, Nat.reduceMul, reduceCtorEq, Nat.reduceLeDiff]
        refine famC_next ⟨k, m + 1, j⟩ (by show j - (m + 1) < j - i; omega) ⟨⟨by show m + 1 ≤ j; omega, hj, by show j - (m + 1) ≤ k; omega⟩, he⟩ ?_
        refine Weak.calc [] (by decide) ?_ ?_ <;> simp [WT, al_Nds, ren_Nds, fNds, wrap64 (x := (m : Int) + 1) (by omega)]
      · rw [if_neg h] at he
        have c1 : (cmpI n.ino t < 0) = False := eq_false fun h9 => h (cmpI_neg.1 h9)
        simp only [c1, decide_false, TT, ↓reduceIte, Nat.reduceEqDiff, Nat.reduceAdd, Nat.reduceMul, reduceCtorEq, Nat.reduceLeDiff]
        refine famC_next ⟨k, i, m⟩ (by show m - i < j - i; omega) ⟨⟨by show i ≤ m; omega, by show m ≤ l.length; omega, by show m - i ≤ k; omega⟩, he⟩ ?_
        refine Weak.calc [] (by decide) ?_ ?_ <;> simp [WT, al_Nds, ren_Nds, fNds]
    · obtain rfl : i = j := by omega
      rw [bsI_stop hlt] at he
      subst he
      have g1 : ((plc l t : Int) < (plc l t : Int)) = False := eq_false (by omega)
      by_cases h9 : plc l t < l.length
      · have g2 : ((plc l t : Int) < (l.length : Int)) = True := eq_true (by omega)
        obtain ⟨n, hx, e1, e0⟩ := lt_at h9
        obtain ⟨a0, a1, a2, a3, a4, a5⟩ := get_Nds (fr := fr) hx
        have ho := hf n
        simp only [eNd, fEnts, fBks] at ho
        have hd : decide (hasN l t) = decide (cmpI n.ino t = 0) := by
          by_cases h : n.ino = t
          · rw [decide_eq_true (cmpI_zero.2 h), decide_eq_true ⟨h9, by rw [inoA_at hx, h]⟩]
          · rw [decide_eq_false fun h8 => h (cmpI_zero.1 h8), decide_eq_false fun h8 => h (by rw [← inoA_at hx]; exact h8.2)]
        rw [hd]
        simp only [L_bs, fNds, g1, g2, decide_true, e0, a0, a1, a2, a3, a4, a5, Int.toNat_natCast, TT, ↓reduceIte, Nat.reduceEqDiff, Nat.reduceAdd, Nat.reduceMul, reduceCtorEq, Nat.reduceLeDiff]
        refine ⟨_, _, _, rfl, ho _, ?_⟩
        simp only [TT, ↓reduceIte, Nat.reduceEqDiff, Nat.reduceAdd, Nat.reduceMul, reduceCtorEq, Nat.reduceLeDiff]
        exact Ends.data (.inr rfl) (by simp [ET]) ⟨trivial, trivial, trivial⟩
      · have g2 : ((plc l t : Int) < (l.length : Int)) = False := eq_false (by omega)
        have hd : decide (hasN l t) = false := decide_eq_false fun h => h9 h.1
        rw [hd]
        simp only [L_bs, fNds, g1, g2, decide_false, TT, ↓reduceIte, Nat.reduceEqDiff, Nat.reduceAdd, Nat.reduceMul, reduceCtorEq, Nat.reduceLeDiff]
        exact Ends.data (.inr rfl) (by simp [ET]) ⟨trivial, trivial, trivial⟩
/-- the state, at a pointer -/
def pFs (f fr : Bool) (s : FSt) : AV := .fp f [fNds fr s.nodes, .v (.int .i64 s.next)] 0
theorem al_pFs {f fr : Bool} {p : Nat → Prop} (s : FSt) : Al p (pFs f fr s) := ⟨al_fNds _, trivial, trivial⟩
theorem place_spec (f fr : Bool) (s : FSt) (t : Int) (nb : Nat) (hl : s.nodes.length ≤ 140737488355328) :
    ASound Tryz.prog 174 [pFs f fr s, .v (.int .i64 t)] nb (.ret (.tup [.v (.int .i64 (plc s.nodes t)), .v (.bool (decide (hasN s.nodes t)))]) []) := by
  refine ok_174.sound (by simp) ⟨al_pFs s, trivial, trivial⟩ ?_
  have h := fun nb => bsearch_spec 223 fr s.nodes t nb hl (fun n nb => cmpN2_spec fr n t nb)
  simp only [fNds] at h
  simp only [ac_174, pFs, fNds, List.getElem?_cons_zero, TT, ↓reduceIte, Nat.reduceEqDiff, Nat.reduceAdd, Nat.reduceMul, reduceCtorEq, Nat.reduceLeDiff]
  refine ⟨_, h _, ?_⟩
  simp only [TT, ↓reduceIte, Nat.reduceEqDiff, Nat.reduceAdd, Nat.reduceMul, reduceCtorEq, Nat.reduceLeDiff]
  exact Ends.data (.inr rfl) (by simp [ET]) ⟨trivial, trivial, trivial⟩
theorem node_spec (f fr : Bool) (s : FSt) (t : Int) (nb : Nat) (hl : s.nodes.length ≤ 140737488355328) (h : plc s.nodes t < s.nodes.length) :
    ASound Tryz.prog 116 [pFs f fr s, .v (.int .i64 t)] nb (.ret (.fp fr (eNds fr s.nodes) (plc s.nodes t * 6)) []) := by
  refine ok_116.sound (by simp) ⟨al_pFs s, trivial, trivial⟩ ?_
  have h1 := fun nb => place_spec f fr s t nb hl
  obtain ⟨n, hx, e1, e0⟩ := lt_at h
  simp only [pFs, fNds] at h1
  simp only [ac_116, pFs, fNds, List.getElem?_cons_zero, TT, ↓reduceIte, Nat.reduceEqDiff, Nat.reduceAdd, Nat.reduceMul, reduceCtorEq, Nat.reduceLeDiff]
  refine ⟨_, h1 _, ?_⟩
  simp only [e0, e1, Int.toNat_natCast, List.getElem?_cons_zero, TT, ↓reduceIte, Nat.reduceEqDiff, Nat.reduceAdd, Nat.reduceMul, reduceCtorEq, Nat.reduceLeDiff]
  exact Ends.data (.inr rfl) (by simp [ET]) (al_Nds _)
end Go.Proofs.YtonglhkiobibgaaGreatDoor
namespace Go.Proofs.YtonglhkiobibgaaGreatDoor
open Go.RowKit
set_option maxRecDepth 100000
theorem hasN_get {l : List Nd} {t : Int} (h : hasN l t) : ∃ n, l[plc l t]? = some n ∧ n ∈ l ∧ n.ino = t := by
  obtain ⟨n, hx⟩ : ∃ n, l[plc l t]? = some n := ⟨_, List.getElem?_eq_getElem h.1⟩
  exact ⟨n, hx, List.mem_of_getElem? hx, by rw [← inoA_at hx]; exact h.2⟩
def nodA (s : FSt) (t : Int) : Nd := match s.nodes[plc s.nodes t]? with | some n => n | none => ⟨0, false, 0, [], ⟨0, []⟩⟩
/-- every name leads to a node -/
def okE (s : FSt) : Prop := ∀ n ∈ s.nodes, n.entries.length ≤ 140737488355328 ∧ ∀ e ∈ n.entries, hasN s.nodes e.ino
def mxI (a b : Int) : Int := if a < b then b else a
theorem mxI_bd {a b k : Int} (h1 : 0 ≤ a) (h2 : a ≤ k) (h3 : 0 ≤ b) (h4 : b ≤ k) : 0 ≤ mxI a b ∧ mxI a b ≤ k := by unfold mxI; split <;> omega
def dpt (s : FSt) : Nat → Int → Int
  | 0, _ => 0
  | k + 1, t => if (nodA s t).dir = true then (nodA s t).entries.foldl (fun d e => mxI d (1 + dpt s k e.ino)) 0 else 0
theorem fold_bd {g : Ent → Int} {k : Int} (hg : ∀ e, 0 ≤ g e ∧ g e ≤ k) : ∀ (l : List Ent) (d : Int), 0 ≤ d → d ≤ k + 1 → 0 ≤ l.foldl (fun d e => mxI d (1 + g e)) d ∧ l.foldl (fun d e => mxI d (1 + g e)) d ≤ k + 1
  | [], d, h1, h2 => ⟨h1, h2⟩
  | e :: l, d, h1, h2 => by
    have h := hg e
    have hm := mxI_bd (a := d) (b := 1 + g e) (k := k + 1) h1 h2 (by omega) (by omega)
    exact fold_bd hg l _ hm.1 hm.2
theorem dpt_bd (s : FSt) : ∀ (k : Nat) (t : Int), 0 ≤ dpt s k t ∧ dpt s k t ≤ k
  | 0, t => ⟨Int.le_refl _, Int.le_refl _⟩
  | k + 1, t => by
    rw [dpt]
    split
    · have h := fold_bd (g := fun e => dpt s k e.ino) (fun e => dpt_bd s k e.ino) (nodA s t).entries 0 (Int.le_refl _) (by omega)
      exact ⟨h.1, by have := h.2; omega⟩
    · omega
abbrev dpI (s : FSt) (k : Nat) (n : Nd) (i : Nat) : Int := (n.entries.take i).foldl (fun d e => mxI d (1 + dpt s k e.ino)) 0
theorem dpI_s {s : FSt} {k : Nat} {n : Nd} {i : Nat} {e : Ent} (h : n.entries[i]? = some e) : dpI s k n (i + 1) = mxI (dpI s k n i) (1 + dpt s k e.ino) := by
  unfold dpI
  rw [take_snoc h, List.foldl_append]
  rfl
abbrev L_dp (f fr : Bool) (s : FSt) (k : Nat) (n : Nd) (i : Nat) : ASt := ⟨envOf [(0, pFs f fr s), (2, .v (.int .i64 k)), (8, .v (.int .i64 (dpI s k n i))), (26, fEnts fr n.entries), (27, .v (.int .i64 n.entries.length)), (28, .v (.int .i64 i))], heapOf [], 1⟩
set_option maxHeartbeats 1000000 in
theorem depth_spec (f fr : Bool) (s : FSt) (hl : s.nodes.length ≤ 140737488355328) (hok : okE s) (k : Nat) : ∀ (t left : Int) (nb : Nat), k ≤ 100 → left = (k : Int) - 1 → hasN s.nodes t →
    ASound Tryz.prog 88 [pFs f fr s, .v (.int .i64 t), .v (.int .i64 left)] nb (.ret (.v (.int .i64 (dpt s k t))) []) := by
  induction k with
  | zero =>
    intro t left nb hk hleft hh
    have hn := fun nb => node_spec f fr s t nb hl hh.1
    obtain ⟨n, hx, hmem, _⟩ := hasN_get hh
    obtain ⟨a0, a1, a2, a3, a4, a5⟩ := get_Nds (fr := fr) hx
    refine ok_88.sound (by simp) ⟨al_pFs s, trivial, trivial, trivial⟩ ?_
    simp only [pFs, fNds] at hn
    have g1 : (left < 0) = True := eq_true (by omega)
    simp only [ac_88, pFs, fNds, TT, ↓reduceIte, Nat.reduceEqDiff, Nat.reduceAdd, Nat.reduceMul, reduceCtorEq, Nat.reduceLeDiff]
    refine ⟨_, hn _, ?_⟩
    cases hd : n.dir <;> simp only [a1, hd, g1, decide_true, TT, ↓reduceIte, Nat.reduceEqDiff, Nat.reduceAdd, Nat.reduceMul, reduceCtorEq, Nat.reduceLeDiff] <;> exact Ends.data (.inr rfl) (by simp [ET, dpt]) trivial
  | succ k ih =>
    intro t left nb hk hleft hh
    have hn := fun nb => node_spec f fr s t nb hl hh.1
    obtain ⟨n, hx, hmem, _⟩ := hasN_get hh
    have hA : nodA s t = n := by rw [nodA, hx]
    obtain ⟨a0, a1, a2, a3, a4, a5⟩ := get_Nds (fr := fr) hx
    obtain ⟨hle, hoke⟩ := hok n hmem
    obtain rfl : left = (k : Int) := by omega
    refine ok_88.sound (by simp) ⟨al_pFs s, trivial, trivial, trivial⟩ ?_
    simp only [pFs, fNds] at hn
    have g1 : ((k : Int) < 0) = False := eq_false (by omega)
    simp only [ac_88, pFs, fNds, TT, ↓reduceIte, Nat.reduceEqDiff, Nat.reduceAdd, Nat.reduceMul, reduceCtorEq, Nat.reduceLeDiff]
    refine ⟨_, hn _, ?_⟩
    cases hd : n.dir
    · simp only [a1, hd, TT, ↓reduceIte, Nat.reduceEqDiff, Nat.reduceAdd, Nat.reduceMul, reduceCtorEq, Nat.reduceLeDiff]
      exact Ends.data (.inr rfl) (by simp [ET, dpt, hA, hd]) trivial
    · simp only [a1, a3, hd, g1, decide_false, TT, ↓reduceIte, Nat.reduceEqDiff, Nat.reduceAdd, Nat.reduceMul, reduceCtorEq, Nat.reduceLeDiff]
      refine AWc.family (L_dp f fr s k n) (fun i => i ≤ n.entries.length) (fun i => n.entries.length - i) 0 (Nat.zero_le _) ?_ ?_
      · refine Weak.calc [] (by decide) ?_ ?_ <;> simp [WT, dpI, pFs, fNds, al_Nds, ren_Nds, fEnts, al_Ents, ren_Ents]
      · intro i hi
        by_cases hlt : i < n.entries.length
        · obtain ⟨e, hx2, e1, e0⟩ := lt_at hlt
          obtain ⟨b0, b1⟩ := get_Ents hx2
          have hb := dpt_bd s k e.ino
          have hb2 := fold_bd (g := fun e => dpt s k e.ino) (fun e => dpt_bd s k e.ino) (n.entries.take i) 0 (Int.le_refl _) (by omega)
          have w1 : IntKind.i64.wrap ((k : Int) - 1) = (k : Int) - 1 := wrap64 (by omega)
          have w2 : IntKind.i64.wrap (1 + dpt s k e.ino) = 1 + dpt s k e.ino := wrap64 (by omega)
          have hi2 := fun nb => ih e.ino ((k : Int) - 1) nb (by omega) rfl (hoke e (List.mem_of_getElem? hx2))
          simp only [pFs, fNds] at hi2
          simp only [L_dp, pFs, fNds, fEnts, e1, e0, b0, b1, w1, Int.toNat_natCast, TT, ↓reduceIte, Nat.reduceEqDiff, Nat.reduceAdd, Nat.reduceMul, reduceCtorEq, Nat.reduceLeDiff]
          refine ⟨_, hi2 _, ?_⟩
          simp only [w2, TT, ↓reduceIte, Nat.reduceEqDiff, Nat.reduceAdd, Nat.reduceMul, reduceCtorEq, Nat.reduceLeDiff]
          refine famC_next (i + 1) (by omega) (by omega) ?_
          have hs := dpI_s (s := s) (k := k) hx2
          simp only [mxI] at hs
          refine Weak.calc [] (by decide) ?_ ?_ <;> simp [WT, hs, pFs, fNds, al_Nds, ren_Nds, fEnts, al_Ents, ren_Ents, wrap64 (x := (i : Int) + 1) (by omega)]
        · obtain rfl : i = n.entries.length := by omega
          have e1 : ¬ ((n.entries.length : Int) < (n.entries.length : Int)) := by omega
          have hd2 : dpt s (k + 1) t = dpI s k n n.entries.length := by rw [dpt, hA, if_pos hd, dpI, List.take_length]
          rw [hd2]
          simp only [L_dp, pFs, fNds, fEnts, e1, TT, ↓reduceIte, Nat.reduceEqDiff, Nat.reduceAdd, Nat.reduceMul, reduceCtorEq, Nat.reduceLeDiff]
          exact Ends.data (.inr rfl) (by simp [ET]) trivial
/-- a key more, if it is not there -/
def addK (t : Int) (l : List Int) : List Int := if t ∈ l then l else l ++ [t]
def encB (l : List Int) : List AV := l.flatMap fun k => [.v (.int .i64 k), .v (.bool true)]
theorem al_encB {p : Nat → Prop} (l : List Int) : AlL p (encB l) := AlL_flat (e := fun k => [AV.v (.int .i64 k), .v (.bool true)]) (fun _ => ⟨trivial, trivial, trivial⟩) l
theorem ren_encB {ρ : Nat → Nat} (l : List Int) : renL ρ (encB l) = encB l := renL_id (p := fun _ => False) (fun _ h => h.elim) (al_encB l)
theorem len_encB (l : List Int) : (encB l).length = l.length * 2 := flat_len (e := fun k => [AV.v (.int .i64 k), .v (.bool true)]) (k := 2) (fun _ => rfl) l
theorem mput_encB (t : Int) : ∀ l : List Int, mput t (.v (.bool true)) (encB l) = some (encB (addK t l))
  | [] => by simp [addK, encB, mput]
  | k :: l => by
    show mput t (.v (.bool true)) (.v (.int .i64 k) :: .v (.bool true) :: encB l) = _
    rw [mput]
    by_cases h : k = t
    · subst h; simp [addK, encB]
    · rw [if_neg h, mput_encB t l]
      have h' : ¬ t = k := fun h9 => h h9.symm
      by_cases h2 : t ∈ l <;> simp [addK, h2, h', encB]
def rch (s : FSt) : Nat → Int → List Int → List Int
  | 0, t, l => addK t l
  | k + 1, t, l => (nodA s t).entries.foldl (fun l e => rch s k e.ino l) (addK t l)
abbrev rcI (s : FSt) (k : Nat) (n : Nd) (l : List Int) (i : Nat) : List Int := (n.entries.take i).foldl (fun l e => rch s k e.ino l) l
theorem rcI_s {s : FSt} {k : Nat} {n : Nd} {l : List Int} {i : Nat} {e : Ent} (h : n.entries[i]? = some e) : rcI s k n l (i + 1) = rch s k e.ino (rcI s k n l i) := by
  unfold rcI
  rw [take_snoc h, List.foldl_append]
  rfl
abbrev L_rc (f fr y : Bool) (s : FSt) (k : Nat) (n : Nd) (l : List Int) (i : Nat) : ASt := ⟨envOf [(0, pFs f fr s), (2, .v (.int .i64 ((k + 1 : Nat) : Int))), (3, .mp 0), (19, fEnts fr n.entries), (20, .v (.int .i64 n.entries.length)), (21, .v (.int .i64 i))], heapOf [(0, .row y MAPE (encB (rcI s k n l i)))], 1⟩
set_option maxHeartbeats 1000000 in
theorem reached_spec (f fr y : Bool) (s : FSt) (hl : s.nodes.length ≤ 140737488355328) (hok : okE s) (k : Nat) : ∀ (t left : Int) (l : List Int) (id nb : Nat), id < nb → k ≤ 100 → left = (k : Int) → hasN s.nodes t →
    ASound Tryz.prog 87 [pFs f fr s, .v (.int .i64 t), .v (.int .i64 left), .mp id] nb (rowsM [(id, y, MAPE, encB l)] (.ret (.tup []) (outW [(id, y, MAPE, encB l)] [some (encB (rch s k t l))] ++ []))) := by
  induction k with
  | zero =>
    intro t left l id nb hid hk hleft hh
    obtain rfl : left = 0 := hleft
    refine ok_87.soundX 1 [(id, y, MAPE, encB l)] [some (encB (rch s 0 t l))] (by simp) ⟨al_pFs s, trivial, trivial, by simp [Al], trivial⟩ (by simp) (fun x hx => ?_) rfl (by simp) (fun k cl hk => ?_) ?_
    · simp at hx; subst hx; exact ⟨.inr rfl, al_encB _, hid⟩
    · rcases k with _ | k
      · decide
      · simp at hk
    · have hrn : rn [(id, 0)] id = 0 := by simp [rn]
      simp only [ac_87, pFs, fNds, renL, ren, hrn, rowsIn, ren_Nds, mput_encB, List.map_cons, List.map_nil, List.zipIdx_cons, List.zipIdx_nil, TT, ↓reduceIte, Nat.reduceEqDiff, Nat.reduceAdd, Nat.reduceMul, reduceCtorEq, Nat.reduceLeDiff]
      refine EndsX.data (r := .tup []) (.inl rfl) (by simp [ET]) trivial ?_
      exact ⟨⟨by simp [WT, rch], by simp, al_encB _⟩, trivial⟩
  | succ k ih =>
    intro t left l id nb hid hk hleft hh
    have hn := fun nb => node_spec f fr s t nb hl hh.1
    obtain ⟨n, hx, hmem, _⟩ := hasN_get hh
    have hA : nodA s t = n := by rw [nodA, hx]
    obtain ⟨a0, a1, a2, a3, a4, a5⟩ := get_Nds (fr := fr) hx
    obtain ⟨hle, hoke⟩ := hok n hmem
    subst hleft
    refine ok_87.soundX 1 [(id, y, MAPE, encB l)] [some (encB (rch s (k + 1) t l))] (by simp) ⟨al_pFs s, trivial, trivial, by simp [Al], trivial⟩ (by simp) (fun x hx => ?_) rfl (by simp) (fun k cl hk => ?_) ?_
    · simp at hx; subst hx; exact ⟨.inr rfl, al_encB _, hid⟩
    · rcases k with _ | k
      · decide
      · simp at hk
    · have g1 : ((0 : Int) < ((k + 1 : Nat) : Int)) = True := eq_true (by omega)
      have hrn : rn [(id, 0)] id = 0 := by simp [rn]
      simp only [pFs, fNds] at hn
      simp only [ac_87, pFs, fNds, renL, ren, hrn, rowsIn, ren_Nds, mput_encB, List.map_cons, List.map_nil, List.zipIdx_cons, List.zipIdx_nil, g1, decide_true, TT, ↓reduceIte, Nat.reduceEqDiff, Nat.reduceAdd, Nat.reduceMul, reduceCtorEq, Nat.reduceLeDiff]
      refine ⟨_, hn _, ?_⟩
      simp only [a3, TT, ↓reduceIte, Nat.reduceEqDiff, Nat.reduceAdd, Nat.reduceMul, reduceCtorEq, Nat.reduceLeDiff]
      refine AWc.family (L_rc f fr y s k n (addK t l)) (fun i => i ≤ n.entries.length) (fun i => n.entries.length - i) 0 (Nat.zero_le _) ?_ ?_
      · refine Weak.calc [(0, 0)] (by decide) ?_ ?_ <;> simp [WT, rcI, al_encB, ren_encB, pFs, fNds, al_Nds, ren_Nds, fEnts, al_Ents, ren_Ents]
      · intro i hi
        by_cases hlt : i < n.entries.length
        · obtain ⟨e, hx2, e1, e0⟩ := lt_at hlt
          obtain ⟨b0, b1⟩ := get_Ents hx2
          have w1 : IntKind.i64.wrap (((k + 1 : Nat) : Int) - 1) = (k : Int) := by rw [wrap64 (by omega)]; omega
          have hi2 := fun nb hid => ih e.ino (k : Int) (rcI s k n (addK t l) i) 0 nb hid (by omega) rfl (hoke e (List.mem_of_getElem? hx2))
          simp only [pFs, fNds, rowsM, outW, Option.map_some] at hi2
          simp only [L_rc, pFs, fNds, fEnts, e1, e0, b0, b1, w1, Int.toNat_natCast, TT, ↓reduceIte, Nat.reduceEqDiff, Nat.reduceAdd, Nat.reduceMul, reduceCtorEq, Nat.reduceLeDiff]
          refine ⟨_, hi2 _ (by decide), ?_⟩
          simp only [TT, ↓reduceIte, Nat.reduceEqDiff, Nat.reduceAdd, Nat.reduceMul, reduceCtorEq, Nat.reduceLeDiff]
          refine famC_next (i + 1) (by omega) (by omega) ?_
          refine Weak.calc [(0, 0)] (by decide) ?_ ?_ <;> simp [WT, rcI_s hx2, pFs, fNds, al_Nds, ren_Nds, fEnts, al_Ents, ren_Ents, al_encB, ren_encB, wrap64 (x := (i : Int) + 1) (by omega)]
        · obtain rfl : i = n.entries.length := by omega
          have e1 : ¬ ((n.entries.length : Int) < (n.entries.length : Int)) := by omega
          have hd2 : rch s (k + 1) t l = rcI s k n (addK t l) n.entries.length := by rw [rch, hA, rcI, List.take_length]
          rw [hd2]
          simp only [L_rc, pFs, fNds, fEnts, e1, TT, ↓reduceIte, Nat.reduceEqDiff, Nat.reduceAdd, Nat.reduceMul, reduceCtorEq, Nat.reduceLeDiff]
          refine EndsX.data (r := .tup []) (.inl rfl) (by simp [ET]) trivial ?_
          exact ⟨⟨by simp [WT], by simp, al_encB _⟩, trivial⟩
end Go.Proofs.YtonglhkiobibgaaGreatDoor
namespace Go.Proofs.YtonglhkiobibgaaGreatDoor
open Go.RowKit
set_option maxRecDepth 100000
theorem ixB_nn (c : UInt8) : ∀ l : List UInt8, 0 ≤ Lib.indexByte l c ↔ c ∈ l
  | [] => by simp [Lib.indexByte]
  | x :: r => by
    have h2 := ixB_nn c r
    have h3 := Lib.indexByte_ge r c
    rw [Lib.indexByte]
    by_cases h : x = c
    · subst h; simp
    · have h' : ¬ c = x := fun h9 => h h9.symm
      rw [if_neg (by simpa using h), List.mem_cons]
      by_cases h4 : Lib.indexByte r c = -1
      · rw [if_pos (by simpa using h4)]
        simp only [h', false_or, ← h2]; omega
      · rw [if_neg (by simpa using h4)]
        simp only [h', false_or, ← h2]; omega
set_option maxHeartbeats 1000000 in
theorem indexL_walk (s : ByteArray) (c : UInt8) (w : World) :
    Calls Tryz.prog 298 #[.string s, .int .u8 c.toNat] w fun e w' => e = .returned (.int .i64 (Lib.indexByte s.data.toList c)) ∧ w' = w := by
  have hx := @run_callFunc_extern Tryz.prog 307 _ Extern.BytealgIndexByte.indexByte Tryz.func307 (by kernel_rfl) (by kernel_rfl) (by kernel_rfl) (by kernel_rfl)
  have hc : ((c.toNat : Int)).toNat.toUInt8 = c := by simp
  go_enter Tryz.func298, Tryz.ntmps298
  go_wp2
  rw [Lib.run_indexByteString, hc]
  simp only [Result.andThen]
  rw [Oper.upon_value]
  go_wp2
  go_ret
  exact ⟨rfl, rfl⟩
theorem indexL_spec (s : ByteArray) (c : UInt8) (nb : Nat) : ASound Tryz.prog 298 [.v (.string s), .v (.int .u8 c.toNat)] nb (.ret (.v (.int .i64 (Lib.indexByte s.data.toList c))) []) := by
  refine ⟨by kernel_rfl, fun x us r R W hrun hr hfr hv => ?_⟩
  simp [AM.run] at hrun
  obtain ⟨rfl, _, rfl⟩ := hrun
  obtain ⟨u, us', rfl, hu, v, vs, rfl, hv, hn⟩ := hv
  rw [VRt] at hn
  subst hn
  rw [VR] at hu hv
  subst hu
  subst hv
  refine (indexL_walk s c x.w).mono ?_
  rintro ev w' ⟨rfl, rfl⟩
  exact ⟨_, x, rfl, rfl, rfl, Then.refl hr nb⟩
/-- a string of one octet -/
abbrev one (c : UInt8) : ByteArray := ByteArray.mk #[c]
theorem one_get (c : UInt8) : (ByteArray.mk #[c])[0]? = some c := rfl
theorem index1_spec (s : ByteArray) (c : UInt8) (nb : Nat) : ASound Tryz.prog 281 [.v (.string s), .v (.string (ByteArray.mk #[c]))] nb (.ret (.v (.int .i64 (Lib.indexByte s.data.toList c))) []) := by
  refine ok_281.sound (by simp) ⟨trivial, trivial, trivial⟩ ?_
  have hz : (((ByteArray.mk #[c]).size : Nat) : Int) = 1 := rfl
  have z2 : ((1 : Int) = 0) = False := eq_false (by decide)
  have z3 : ((1 : Int) = 1) = True := eq_true rfl
  have z1 : ((0 : Int) ≤ 0) = True := eq_true (Int.le_refl 0)
  have hc := fun nb => indexL_spec s c nb
  by_cases h : ByteArray.mk #[c] = s
  · have e : Lib.indexByte s.data.toList c = 0 := by subst h; simp [Lib.indexByte]
    simp only [ac_281, hz, z1, z2, z3, strOp, decide_eq_true h, e, decide_false, TT, ↓reduceIte, Nat.reduceEqDiff, Nat.reduceAdd, Nat.reduceMul, reduceCtorEq, Nat.reduceLeDiff]
    exact Ends.data (.inr rfl) (by simp [ET]) trivial
  simp only [ac_281, hz, z1, z2, z3, strOp, h, one_get, Int.toNat_zero, decide_true, decide_false, TT, ↓reduceIte, Nat.reduceEqDiff, Nat.reduceAdd, Nat.reduceMul, reduceCtorEq, Nat.reduceLeDiff]
  refine ⟨_, hc _, ?_⟩
  simp only [TT, ↓reduceIte, Nat.reduceEqDiff, Nat.reduceAdd, Nat.reduceMul, reduceCtorEq, Nat.reduceLeDiff]
  exact Ends.data (.inr rfl) (by simp [ET]) trivial
theorem indexS1_spec (s : ByteArray) (c : UInt8) (nb : Nat) : ASound Tryz.prog 251 [.v (.string s), .v (.string (ByteArray.mk #[c]))] nb (.ret (.v (.int .i64 (Lib.indexByte s.data.toList c))) []) := by
  refine ok_251.sound (by simp) ⟨trivial, trivial, trivial⟩ ?_
  simp only [ac_251, TT, ↓reduceIte, Nat.reduceEqDiff, Nat.reduceAdd, Nat.reduceMul, reduceCtorEq, Nat.reduceLeDiff]
  refine ⟨_, index1_spec s c _, ?_⟩
  simp only [TT, ↓reduceIte, Nat.reduceEqDiff, Nat.reduceAdd, Nat.reduceMul, reduceCtorEq, Nat.reduceLeDiff]
  exact Ends.data (.inr rfl) (by simp [ET]) trivial
theorem contains1_spec (s : ByteArray) (c : UInt8) (nb : Nat) : ASound Tryz.prog 252 [.v (.string s), .v (.string (ByteArray.mk #[c]))] nb (.ret (.v (.bool (decide (c ∈ s.data.toList)))) []) := by
  refine ok_252.sound (by simp) ⟨trivial, trivial, trivial⟩ ?_
  have hd : decide (0 ≤ Lib.indexByte s.data.toList c) = decide (c ∈ s.data.toList) := by
    by_cases h : c ∈ s.data.toList
    · rw [decide_eq_true h, decide_eq_true ((ixB_nn c _).2 h)]
    · rw [decide_eq_false h, decide_eq_false fun h9 => h ((ixB_nn c _).1 h9)]
  rw [← hd]
  simp only [ac_252, TT, ↓reduceIte, Nat.reduceEqDiff, Nat.reduceAdd, Nat.reduceMul, reduceCtorEq, Nat.reduceLeDiff]
  refine ⟨_, indexS1_spec s c _, ?_⟩
  simp only [TT, ↓reduceIte, Nat.reduceEqDiff, Nat.reduceAdd, Nat.reduceMul, reduceCtorEq, Nat.reduceLeDiff]
  exact Ends.data (.inr rfl) (by simp [ET]) trivial
/-- may a name be? -/
def nameE (s : ByteArray) : Int := if s = ByteArray.mk #[] ∨ s = ByteArray.mk #[46] ∨ s = ByteArray.mk #[46, 46] ∨ 16 < s.size ∨ 47 ∈ s.data.toList ∨ 0 ∈ s.data.toList then 106 else 0
theorem name_spec (s : ByteArray) (nb : Nat) : ASound Tryz.prog 219 [.v (.string s)] nb (.ret (.v (.int .i64 (nameE s))) []) := by
  refine ok_219.sound (by simp) ⟨trivial, trivial⟩ ?_
  by_cases c1 : s = ByteArray.mk #[]
  · have e : nameE s = 106 := if_pos (.inl c1)
    simp only [ac_219, c1 ▸ e, c1, strOp, decide_true, TT, ↓reduceIte, Nat.reduceEqDiff, Nat.reduceAdd, Nat.reduceMul, reduceCtorEq, Nat.reduceLeDiff]
    exact Ends.data (.inr rfl) (by simp [ET]) trivial
  by_cases c2 : s = ByteArray.mk #[46]
  · have e : nameE s = 106 := if_pos (.inr (.inl c2))
    simp only [ac_219, e, c1, decide_eq_true c2, strOp, decide_false, TT, ↓reduceIte, Nat.reduceEqDiff, Nat.reduceAdd, Nat.reduceMul, reduceCtorEq, Nat.reduceLeDiff]
    exact Ends.data (.inr rfl) (by simp [ET]) trivial
  by_cases c3 : s = ByteArray.mk #[46, 46]
  · have e : nameE s = 106 := if_pos (.inr (.inr (.inl c3)))
    simp only [ac_219, e, c1, c2, decide_eq_true c3, strOp, decide_false, TT, ↓reduceIte, Nat.reduceEqDiff, Nat.reduceAdd, Nat.reduceMul, reduceCtorEq, Nat.reduceLeDiff]
    exact Ends.data (.inr rfl) (by simp [ET]) trivial
  by_cases c4 : 16 < s.size
  · have e : nameE s = 106 := if_pos (.inr (.inr (.inr (.inl c4))))
    have d4 : ((16 : Int) < (s.size : Int)) = True := eq_true (by omega)
    simp only [ac_219, e, c1, c2, c3, d4, strOp, decide_false, decide_true, TT, ↓reduceIte, Nat.reduceEqDiff, Nat.reduceAdd, Nat.reduceMul, reduceCtorEq, Nat.reduceLeDiff]
    exact Ends.data (.inr rfl) (by simp [ET]) trivial
  have d4 : ((16 : Int) < (s.size : Int)) = False := eq_false (by omega)
  have k1 := fun nb => contains1_spec s 47 nb
  have k2 := fun nb => contains1_spec s 0 nb
  simp only [ac_219, c1, c2, c3, d4, strOp, decide_false, TT, ↓reduceIte, Nat.reduceEqDiff, Nat.reduceAdd, Nat.reduceMul, reduceCtorEq, Nat.reduceLeDiff]
  refine ⟨_, k1 _, ?_⟩
  by_cases c5 : (47 : UInt8) ∈ s.data.toList
  · have e : nameE s = 106 := if_pos (.inr (.inr (.inr (.inr (.inl c5)))))
    simp only [e, decide_eq_true c5, TT, ↓reduceIte, Nat.reduceEqDiff, Nat.reduceAdd, Nat.reduceMul, reduceCtorEq, Nat.reduceLeDiff]
    exact Ends.data (.inr rfl) (by simp [ET]) trivial
  simp only [decide_eq_false c5, TT, ↓reduceIte, Nat.reduceEqDiff, Nat.reduceAdd, Nat.reduceMul, reduceCtorEq, Nat.reduceLeDiff]
  refine ⟨_, k2 _, ?_⟩
  by_cases c6 : (0 : UInt8) ∈ s.data.toList
  · have e : nameE s = 106 := if_pos (.inr (.inr (.inr (.inr (.inr c6)))))
    simp only [e, decide_eq_true c6, TT, ↓reduceIte, Nat.reduceEqDiff, Nat.reduceAdd, Nat.reduceMul, reduceCtorEq, Nat.reduceLeDiff]
    exact Ends.data (.inr rfl) (by simp [ET]) trivial
  have e : nameE s = 0 := by
    rw [nameE, if_neg]
    intro h; rcases h with h | h | h | h | h | h <;> contradiction
  simp only [e, decide_eq_false c6, TT, ↓reduceIte, Nat.reduceEqDiff, Nat.reduceAdd, Nat.reduceMul, reduceCtorEq, Nat.reduceLeDiff]
  exact Ends.data (.inr rfl) (by simp [ET]) trivial
end Go.Proofs.YtonglhkiobibgaaGreatDoor
namespace Go.Proofs.YtonglhkiobibgaaGreatDoor
open Go.RowKit
set_option maxRecDepth 100000
abbrev aEnt (e : Ent) : AV := .agg [.v (.string e.name), .v (.int .i64 e.ino)]
def mayE (e : Ent) : Bool := decide (nameE e.name = 0) && (decide (1 ≤ e.ino) && decide (e.ino ≤ 2147483647))
theorem mayE_spec (e : Ent) (nb : Nat) : ASound Tryz.prog 186 [aEnt e] nb (.ret (.v (.bool (mayE e))) []) := by
  refine ok_186.sound (by simp) ⟨⟨trivial, trivial, trivial⟩, trivial⟩ ?_
  simp only [ac_186, aEnt, TT, ↓reduceIte, Nat.reduceEqDiff, Nat.reduceAdd, Nat.reduceMul, reduceCtorEq, Nat.reduceLeDiff]
  refine ⟨_, name_spec e.name _, ?_⟩
  by_cases h : nameE e.name = 0
  · by_cases h1 : 1 ≤ e.ino
    · simp only [h, h1, decide_true, TT, ↓reduceIte, Nat.reduceEqDiff, Nat.reduceAdd, Nat.reduceMul, reduceCtorEq, Nat.reduceLeDiff]
      exact Ends.data (.inr rfl) (by simp [ET, mayE, h, h1]) trivial
    · simp only [h, h1, decide_true, decide_false, TT, ↓reduceIte, Nat.reduceEqDiff, Nat.reduceAdd, Nat.reduceMul, reduceCtorEq, Nat.reduceLeDiff]
      exact Ends.data (.inr rfl) (by simp [ET, mayE, h, h1]) trivial
  · simp only [h, decide_false, TT, ↓reduceIte, Nat.reduceEqDiff, Nat.reduceAdd, Nat.reduceMul, reduceCtorEq, Nat.reduceLeDiff]
    exact Ends.data (.inr rfl) (by simp [ET, mayE, h]) trivial
def lessS (a b : ByteArray) : Bool := Op.bytesLess a.toList b.toList
/-- do the names rise, and may each entry be? -/
def okD : Option ByteArray → List Ent → Bool
  | _, [] => true
  | p, e :: r => mayE e && ((match p with | none => true | some q => lessS q e.name) && okD (some e.name) r)
def prevE (l : List Ent) (i : Nat) : Option ByteArray := if i = 0 then none else (l[i - 1]?).map Ent.name
theorem prevE_s {l : List Ent} {i : Nat} {e : Ent} (h : l[i]? = some e) : prevE l (i + 1) = some e.name := by simp [prevE, h]
theorem okD_drop {l : List Ent} {i : Nat} {e : Ent} (h : l[i]? = some e) : okD (prevE l i) (l.drop i) = (mayE e && ((match prevE l i with | none => true | some q => lessS q e.name) && okD (prevE l (i + 1)) (l.drop (i + 1)))) := by
  have hi := (List.getElem?_eq_some_iff.1 h)
  rw [List.drop_eq_getElem_cons hi.1, hi.2, prevE_s h]; rfl
def chkD (l : List Ent) : Int := if 63 < l.length then 9 else if okD none l = true then 0 else 9
abbrev L_dc (fr : Bool) (l : List Ent) (i : Nat) : ASt := ⟨envOf [(0, fEnts fr l), (8, fEnts fr l), (9, .v (.int .i64 l.length)), (10, .v (.int .i64 i))], heapOf [], 1⟩
set_option maxHeartbeats 2000000 in
theorem dchk_spec (fr : Bool) (l : List Ent) (nb : Nat) : ASound Tryz.prog 128 [fEnts fr l] nb (.ret (.v (.int .i64 (chkD l))) []) := by
  refine ok_128.sound (by simp) ⟨al_fEnts l, trivial⟩ ?_
  by_cases hl : 63 < l.length
  · have d : ((63 : Int) < (l.length : Int)) = True := eq_true (by omega)
    simp only [ac_128, fEnts, d, decide_true, TT, ↓reduceIte, Nat.reduceEqDiff, Nat.reduceAdd, Nat.reduceMul, reduceCtorEq, Nat.reduceLeDiff]
    exact Ends.data (.inr rfl) (by simp [ET, chkD, hl]) trivial
  have d : ((63 : Int) < (l.length : Int)) = False := eq_false (by omega)
  have e0 : chkD l = if okD none l = true then 0 else 9 := if_neg hl
  rw [e0]
  simp only [ac_128, fEnts, d, decide_false, TT, ↓reduceIte, Nat.reduceEqDiff, Nat.reduceAdd, Nat.reduceMul, reduceCtorEq, Nat.reduceLeDiff]
  refine AWc.family (L_dc fr l) (fun i => i ≤ l.length ∧ okD (prevE l i) (l.drop i) = okD none l) (fun i => l.length - i) 0 ⟨Nat.zero_le _, rfl⟩ ?_ ?_
  · refine Weak.calc [] (by decide) ?_ ?_ <;> simp [WT, al_Ents, ren_Ents, fEnts]
  · rintro i ⟨hi, he⟩
    by_cases hlt : i < l.length
    · obtain ⟨e, hx, e1, e0⟩ := lt_at hlt
      obtain ⟨b0, b1⟩ := get_Ents hx
      rw [okD_drop hx] at he
      simp only [L_dc, fEnts, e1, e0, b0, b1, Int.toNat_natCast, TT, ↓reduceIte, Nat.reduceEqDiff, Nat.reduceAdd, Nat.reduceMul, reduceCtorEq, Nat.reduceLeDiff]
      refine ⟨_, mayE_spec e _, ?_⟩
      cases hm : mayE e
      · rw [hm, Bool.false_and] at he
        simp only [TT, ↓reduceIte, Nat.reduceEqDiff, Nat.reduceAdd, Nat.reduceMul, reduceCtorEq, Nat.reduceLeDiff]
        exact ⟨by rfl, Ends.data (.inr rfl) (by simp [ET, ← he]) trivial⟩
      rw [hm, Bool.true_and] at he
      rcases Nat.eq_zero_or_pos i with h0 | h0
      · subst h0
        have g : ((0 : Int) < ((0 : Nat) : Int)) = False := eq_false (by omega)
        have w0 : IntKind.i64.wrap 1 = 1 := by rfl
        simp only [g, decide_false, TT, ↓reduceIte, Nat.reduceEqDiff, Nat.reduceAdd, Nat.reduceMul, reduceCtorEq, Nat.reduceLeDiff]
        refine ⟨by rfl, famC_next 1 (by omega) ⟨by omega, by rw [← he]; simp [prevE]⟩ ?_⟩
        refine Weak.calc [] (by decide) ?_ ?_ <;> simp [WT, w0, al_Ents, ren_Ents, fEnts]
      · have g : ((0 : Int) < (i : Int)) = True := eq_true (by omega)
        obtain ⟨p, hp, p1, p0⟩ := lt_at (show i - 1 < l.length by omega)
        obtain ⟨q0, q1⟩ := get_Ents hp
        have hpr : prevE l i = some p.name := by rw [prevE, if_neg (by omega), hp]; rfl
        rw [hpr] at he
        simp only [lessS] at he
        have w1 : IntKind.i64.wrap ((i : Int) - 1) = ((i - 1 : Nat) : Int) := by rw [wrap64 (by omega)]; omega
        simp only [g, decide_true, w1, p1, p0, q0, q1, Int.toNat_natCast, strOp, TT, ↓reduceIte, Nat.reduceEqDiff, Nat.reduceAdd, Nat.reduceMul, reduceCtorEq, Nat.reduceLeDiff]
        cases hls : Op.bytesLess p.name.toList e.name.toList
        · rw [hls] at he
          simp only [Bool.false_and] at he
          simp only [hls, Bool.not_true, Bool.not_false, TT, ↓reduceIte, Nat.reduceEqDiff, Nat.reduceAdd, Nat.reduceMul, reduceCtorEq, Nat.reduceLeDiff]
          exact ⟨by rfl, Ends.data (.inr rfl) (by simp [ET, ← he]) trivial⟩
        · rw [hls] at he
          simp only [Bool.true_and] at he
          simp only [hls, Bool.not_true, Bool.not_false, TT, ↓reduceIte, Nat.reduceEqDiff, Nat.reduceAdd, Nat.reduceMul, reduceCtorEq, Nat.reduceLeDiff]
          refine ⟨by rfl, famC_next (i + 1) (by omega) ⟨by omega, he⟩ ?_⟩
          refine Weak.calc [] (by decide) ?_ ?_ <;> simp [WT, al_Ents, ren_Ents, fEnts, wrap64 (x := (i : Int) + 1) (by omega)]
    · obtain rfl : i = l.length := by omega
      have e1 : ¬ ((l.length : Int) < (l.length : Int)) := by omega
      have h9 : okD none l = true := by rw [← he, List.drop_length]; rfl
      simp only [L_dc, fEnts, e1, TT, ↓reduceIte, Nat.reduceEqDiff, Nat.reduceAdd, Nat.reduceMul, reduceCtorEq, Nat.reduceLeDiff]
      exact Ends.data (.inr rfl) (by simp [ET, h9]) trivial
/-- may names be? -/
def namI : List ByteArray → Int
  | [] => 0
  | s :: r => if nameE s = 0 then namI r else nameE s
theorem namI_drop {l : List ByteArray} {i : Nat} {s : ByteArray} (h : l[i]? = some s) : namI (l.drop i) = if nameE s = 0 then namI (l.drop (i + 1)) else nameE s := by
  have hi := (List.getElem?_eq_some_iff.1 h)
  rw [List.drop_eq_getElem_cons hi.1, hi.2]; rfl
def namedL (l : List ByteArray) : Int := if namI l = 0 then (if 8 < l.length then 5 else 0) else namI l
abbrev L_nm (fr : Bool) (l : List ByteArray) (i : Nat) : ASt := ⟨envOf [(0, fS fr l), (6, fS fr l), (7, .v (.int .i64 l.length)), (8, .v (.int .i64 i))], heapOf [], 1⟩
theorem named_spec (fr : Bool) (l : List ByteArray) (nb : Nat) (hl : l.length ≤ 140737488355328) : ASound Tryz.prog 170 [fS fr l] nb (.ret (.v (.int .i64 (namedL l))) []) := by
  refine ok_170.sound (by simp) ⟨al_fS l, trivial⟩ ?_
  simp only [ac_170, fS, TT, ↓reduceIte, Nat.reduceEqDiff, Nat.reduceAdd, Nat.reduceMul, reduceCtorEq, Nat.reduceLeDiff]
  refine AWc.family (L_nm fr l) (fun i => i ≤ l.length ∧ namI (l.drop i) = namI l) (fun i => l.length - i) 0 ⟨Nat.zero_le _, rfl⟩ ?_ ?_
  · refine Weak.calc [] (by decide) ?_ ?_ <;> simp [WT, al_S, ren_S, fS]
  · rintro i ⟨hi, he⟩
    by_cases hlt : i < l.length
    · obtain ⟨s, hx, e1, e0⟩ := lt_at hlt
      rw [namI_drop hx] at he
      simp only [L_nm, fS, e1, e0, get_S hx, Int.toNat_natCast, TT, ↓reduceIte, Nat.reduceEqDiff, Nat.reduceAdd, Nat.reduceMul, reduceCtorEq, Nat.reduceLeDiff]
      refine ⟨_, name_spec s _, ?_⟩
      by_cases h : nameE s = 0
      · rw [if_pos h] at he
        simp only [h, decide_true, TT, ↓reduceIte, Nat.reduceEqDiff, Nat.reduceAdd, Nat.reduceMul, reduceCtorEq, Nat.reduceLeDiff]
        refine famC_next (i + 1) (by omega) ⟨by omega, he⟩ ?_
        refine Weak.calc [] (by decide) ?_ ?_ <;> simp [WT, al_S, ren_S, fS, wrap64 (x := (i : Int) + 1) (by omega)]
      · rw [if_neg h] at he
        have h2 : namedL l = nameE s := by rw [namedL, ← he, if_neg h]
        simp only [h, decide_false, h2, TT, ↓reduceIte, Nat.reduceEqDiff, Nat.reduceAdd, Nat.reduceMul, reduceCtorEq, Nat.reduceLeDiff]
        exact Ends.data (.inr rfl) (by simp [ET]) trivial
    · obtain rfl : i = l.length := by omega
      have e1 : ¬ ((l.length : Int) < (l.length : Int)) := by omega
      have h9 : namI l = 0 := by rw [← he, List.drop_length]; rfl
      have h8 : namedL l = if 8 < l.length then 5 else 0 := by rw [namedL, if_pos h9]
      rw [h8]
      by_cases h7 : 8 < l.length
      · have d : ((8 : Int) < (l.length : Int)) = True := eq_true (by omega)
        simp only [L_nm, fS, e1, d, TT, ↓reduceIte, Nat.reduceEqDiff, Nat.reduceAdd, Nat.reduceMul, reduceCtorEq, Nat.reduceLeDiff]
        exact Ends.data (.inr rfl) (by simp [ET, h7]) trivial
      · have d : ((8 : Int) < (l.length : Int)) = False := eq_false (by omega)
        simp only [L_nm, fS, e1, d, TT, ↓reduceIte, Nat.reduceEqDiff, Nat.reduceAdd, Nat.reduceMul, reduceCtorEq, Nat.reduceLeDiff]
        exact Ends.data (.inr rfl) (by simp [ET, h7]) trivial
end Go.Proofs.YtonglhkiobibgaaGreatDoor
namespace Go.Proofs.YtonglhkiobibgaaGreatDoor
open Go.RowKit Go.Extern.Stop Go.Stop Go.Extern
theorem tz_valueOf155 (t : Addr) (w : World) : (ReflectliteValue.unpack (.iface 324 (.pointer (some t)))).run Tryz.prog w
    = .ok (.agg #[.pointer (some ⟨4, 324, none⟩), .pointer (some ⟨w.heap.size, 0, none⟩), .int .u64 150]) (w.alloc (.cells #[.pointer (some t)] 324)) := by kernel_rfl
theorem tz_type155 (a : Addr) (w : World) : (ReflectliteValue.methodAny (ReflectliteValue.valueError "reflectlite.Value.Type" 0) (fun t _ _ _ => ReflectliteType.toType t) #[.agg #[.pointer (some ⟨4, 324, none⟩), .pointer (some a), .int .u64 150]]).run Tryz.prog w
    = .ok (.iface 342 (.agg #[.pointer (some ⟨4, 324, none⟩)])) w := by kernel_rfl
theorem tz_methodKind (h : Value) (w : World) : (Go.method 559 342 (.agg #[h]) "Kind").run Tryz.prog w = .ok (324, h) w := by kernel_rfl
theorem tz_kind155 (w : World) : ((ReflectliteType.abiMethod fun t => (fun a : Nat => Value.int IntKind.u8 (a : Int)) <$> Rtype.kind t) #[.pointer (some ⟨4, 324, none⟩)]).run Tryz.prog w = .ok (.int .u8 22) w := by kernel_rfl
theorem tz_kind153 (w : World) : ((ReflectliteType.abiMethod fun t => (fun a : Nat => Value.int IntKind.u8 (a : Int)) <$> Rtype.kind t) #[.pointer (some ⟨4, 323, none⟩)]).run Tryz.prog w = .ok (.int .u8 25) w := by kernel_rfl
theorem tz_rlm (z : Sem Value) (f : TypeId → Addr → Nat → Nat → Sem Value) (v : Value) :
    ReflectliteValue.method z f #[v] = (do match ← ReflectliteValue.parts v with | none => z | some (t, a, fl) => f t a fl (fl % 32)) := rfl
theorem tz_parts155 (a : Addr) (w : World) : (ReflectliteValue.parts (.agg #[.pointer (some ⟨4, 324, none⟩), .pointer (some a), .int .u64 150])).run Tryz.prog w = .ok (some (324, a, 150)) w := by kernel_rfl
theorem tz_isNil155 (a p : Addr) (W : World) (ha : W.cell? a = some (.pointer (some p))) :
    (ReflectliteValue.method (ReflectliteValue.valueError "reflectlite.Value.IsNil" 0) ReflectliteValue.isNil #[.agg #[.pointer (some ⟨4, 324, none⟩), .pointer (some a), .int .u64 150]]).run Tryz.prog W = .ok (.bool false) W := by
  rw [tz_rlm]
  simp only [Sem.run_bind, tz_parts155, Result.andThen]
  simp [ReflectliteValue.isNil, loadVar, isAgg, underlying, Tryz.underlying324, ha, Result.andThen]
theorem tz_methodElem (h : Value) (w : World) : (Go.method 559 342 (.agg #[h]) "Elem").run Tryz.prog w = .ok (337, .agg #[h]) w := by kernel_rfl
theorem tz_methodImplements (h : Value) (w : World) : (Go.method 559 342 (.agg #[h]) "Implements").run Tryz.prog w = .ok (338, .agg #[h]) w := by kernel_rfl
theorem tz_methodAssignableTo (h : Value) (w : World) : (Go.method 559 342 (.agg #[h]) "AssignableTo").run Tryz.prog w = .ok (335, .agg #[h]) w := by kernel_rfl
theorem tz_elem155 (w : World) : (ReflectliteType.method ReflectliteType.elem #[.agg #[.pointer (some ⟨4, 324, none⟩)]]).run Tryz.prog w = .ok (.iface 342 (.agg #[.pointer (some ⟨4, 323, none⟩)])) w := by kernel_rfl
theorem tz_implements153 (w : World) : (ReflectliteType.relation "Implements" ReflectliteType.implements_ #[.agg #[.pointer (some ⟨4, 323, none⟩)], .iface 342 (.agg #[.pointer (some ⟨4, 102, none⟩)])]).run Tryz.prog w = .ok (.bool true) w := by kernel_rfl
theorem tz_typeOf153 (v : Value) (w : World) : (ReflectliteType.typeOf #[.iface 323 v]).run Tryz.prog w = .ok (.iface 342 (.agg #[.pointer (some ⟨4, 323, none⟩)])) w := by kernel_rfl
theorem tz_assignable153 (w : World) : (ReflectliteType.relation "AssignableTo" ReflectliteType.assignableTo #[.agg #[.pointer (some ⟨4, 323, none⟩)], .iface 342 (.agg #[.pointer (some ⟨4, 323, none⟩)])]).run Tryz.prog w = .ok (.bool true) w := by kernel_rfl
theorem tz_valueOf153 (e : Int) (w : World) : (ReflectliteValue.unpack (.iface 323 (.agg #[.int .i64 e]))).run Tryz.prog w
    = .ok (.agg #[.pointer (some ⟨4, 323, none⟩), .pointer (some ⟨w.heap.size, 0, none⟩), .int .u64 153]) (w.alloc (.cells #[.int .i64 e] 323)) := by kernel_rfl
theorem tz_elemOf155 (w : World) : (Rtype.elem? 324).run Tryz.prog w = .ok (some 323) w := by kernel_rfl
theorem tz_mk153 (p : Addr) (w : World) : (ReflectliteValue.mk 323 p ReflectliteValue.flagAddr).run Tryz.prog w = .ok (.agg #[.pointer (some ⟨4, 323, none⟩), .pointer (some p), .int .u64 409]) w := by kernel_rfl
theorem tz_elemV155 (a p : Addr) (W : World) (ha : W.cell? a = some (.pointer (some p))) :
    (ReflectliteValue.method (ReflectliteValue.valueError "reflectlite.Value.Elem" 0) ReflectliteValue.elem #[.agg #[.pointer (some ⟨4, 324, none⟩), .pointer (some a), .int .u64 150]]).run Tryz.prog W
      = .ok (.agg #[.pointer (some ⟨4, 323, none⟩), .pointer (some p), .int .u64 409]) W := by
  rw [tz_rlm]
  simp only [Sem.run_bind, tz_parts155, Result.andThen]
  simp [ReflectliteValue.elem, loadVar, isAgg, underlying, Tryz.underlying324, ha, Result.andThen, tz_elemOf155, tz_mk153]
theorem tz_rls (v x : Value) : ReflectliteValue.set #[v, x] = (do
    let (some (dst, a, fl), some (src, b, _)) := (← ReflectliteValue.parts v, ← ReflectliteValue.parts x)
      | unsupported (.noEntry "extern/(internal/reflectlite.Value).Set.zeroValue")
    if fl / ReflectliteValue.flagAddr % 2 == 0 then unsupported (.noEntry "extern/(internal/reflectlite.Value).Set.unaddressable")
    let val ← loadVar src b
    if ← Rtype.directlyAssignable dst src then storeVar dst a val
    else if ← Rtype.implements dst src then
      if (← Rtype.kind src) == 20 then
        match val with
        | .nilIface => unsupported (.noEntry "extern/reflectlite: a nil value of one interface type handed on as a value of another")
        | _ => storeVar dst a val
      else storeVar dst a (.iface src val)
    else panicString ("reflectlite.Set: value of type " ++ (← Rtype.spelt src) ++ " is not assignable to type " ++ (← Rtype.spelt dst))
    pure (.tuple #[])) := rfl
theorem tz_parts153a (a : Addr) (w : World) : (ReflectliteValue.parts (.agg #[.pointer (some ⟨4, 323, none⟩), .pointer (some a), .int .u64 409])).run Tryz.prog w = .ok (some (323, a, 409)) w := by kernel_rfl
theorem tz_parts153 (a : Addr) (w : World) : (ReflectliteValue.parts (.agg #[.pointer (some ⟨4, 323, none⟩), .pointer (some a), .int .u64 153])).run Tryz.prog w = .ok (some (323, a, 153)) w := by kernel_rfl
theorem tz_direct153 (w : World) : (Rtype.directlyAssignable 323 323).run Tryz.prog w = .ok true w := by kernel_rfl
end Go.Proofs.YtonglhkiobibgaaGreatDoor
namespace Go.Proofs.YtonglhkiobibgaaGreatDoor
open Go.RowKit Go.Extern.Stop Go.Stop Go.Extern
theorem tz_set153 (ta b : Addr) (e : Int) (old : Value) (W : World) (hb : W.cell? b = some (.int .i64 e)) (ht : W.cell? ta = some old) (hf : W.frozen? ta = false) :
    (ReflectliteValue.set #[.agg #[.pointer (some ⟨4, 323, none⟩), .pointer (some ta), .int .u64 409], .agg #[.pointer (some ⟨4, 323, none⟩), .pointer (some b), .int .u64 153]]).run Tryz.prog W
      = .ok (.tuple #[]) (W.setCell ta (.int .i64 e)) := by
  rw [tz_rls]
  simp only [Sem.run_bind, tz_parts153a, tz_parts153, Result.andThen]
  simp [ReflectliteValue.flagAddr, loadVar, isAgg, underlying, Tryz.underlying323, hb, Result.andThen, tz_direct153, storeVar, Value.cells, storeCells, Addr.add, loadCells, loadCellsFrom]
  rw [run_store Tryz.prog W ta _ _ (by rfl)]
  simp [ht, hf]
set_option maxHeartbeats 4000000 in
theorem tz_as (e : Int) (t : Addr) (old : Value) (w : World) (hg : w.cell? ⟨0, 0, none⟩ = some (.iface 342 (.agg #[.pointer (some ⟨4, 102, none⟩)]))) (ht0 : w.cell? t = some old) (hf0 : w.frozen? t = false) :
    Calls Tryz.prog 123 #[.iface 323 (.agg #[.int .i64 e]), .iface 324 (.pointer (some t))] w fun ev w' => ev = .returned (.bool true) ∧ w' = ((((w.alloc (.cells #[.pointer (some t)] 324)).alloc (.cells #[.pointer (some ⟨4, 324, none⟩), .pointer (some ⟨w.heap.size, 0, none⟩), .int .u64 150] 281)).alloc (.cells #[.pointer (some ⟨4, 324, none⟩), .pointer (some ⟨w.heap.size, 0, none⟩), .int .u64 150] 281)).alloc (.cells #[.int .i64 e] 323)).setCell t (.int .i64 e) := by
  have h6 := @run_callFunc_extern Tryz.prog 181 _ (fun args => ReflectliteValue.unpack (args.getD 0 (.tuple #[]))) Tryz.func181 (by kernel_rfl) (by kernel_rfl) (by kernel_rfl) (by kernel_rfl)
  have h7 := @run_callFunc_extern Tryz.prog 182 _ (ReflectliteValue.methodAny (ReflectliteValue.valueError "reflectlite.Value.Type" 0) (fun t _ _ _ => ReflectliteType.toType t)) Tryz.func182 (by kernel_rfl) (by kernel_rfl) (by kernel_rfl) (by kernel_rfl)
  have h8 := @run_callFunc_extern Tryz.prog 183 _ (ReflectliteValue.method (ReflectliteValue.valueError "reflectlite.Value.IsNil" 0) ReflectliteValue.isNil) Tryz.func183 (by kernel_rfl) (by kernel_rfl) (by kernel_rfl) (by kernel_rfl)
  have h27 := @run_callFunc_extern Tryz.prog 324 _ (ReflectliteType.abiMethod fun t => do pure (.int .u8 (← Rtype.kind t))) Tryz.func324 (by kernel_rfl) (by kernel_rfl) (by kernel_rfl) (by kernel_rfl)
  have h37 := @run_callFunc_extern Tryz.prog 337 _ (ReflectliteType.method ReflectliteType.elem) Tryz.func337 (by kernel_rfl) (by kernel_rfl) (by kernel_rfl) (by kernel_rfl)
  have h38 := @run_callFunc_extern Tryz.prog 338 _ (ReflectliteType.relation "Implements" ReflectliteType.implements_) Tryz.func338 (by kernel_rfl) (by kernel_rfl) (by kernel_rfl) (by kernel_rfl)
  have h10 := @run_callFunc_extern Tryz.prog 227 _ ReflectliteType.typeOf Tryz.func227 (by kernel_rfl) (by kernel_rfl) (by kernel_rfl) (by kernel_rfl)
  have h35 := @run_callFunc_extern Tryz.prog 335 _ (ReflectliteType.relation "AssignableTo" ReflectliteType.assignableTo) Tryz.func335 (by kernel_rfl) (by kernel_rfl) (by kernel_rfl) (by kernel_rfl)
  have h11 := @run_callFunc_extern Tryz.prog 228 _ (ReflectliteValue.method (ReflectliteValue.valueError "reflectlite.Value.Elem" 0) ReflectliteValue.elem) Tryz.func228 (by kernel_rfl) (by kernel_rfl) (by kernel_rfl) (by kernel_rfl)
  have h12 := @run_callFunc_extern Tryz.prog 229 _ ReflectliteValue.set Tryz.func229 (by kernel_rfl) (by kernel_rfl) (by kernel_rfl) (by kernel_rfl)
  have tO := tz_typeOf153
  have mA := tz_methodAssignableTo
  have a25 := tz_assignable153
  have v25 := tz_valueOf153
  have f6 := tz_valueOf155
  have f7 := tz_type155
  have mK := tz_methodKind
  have mE := tz_methodElem
  have mI := tz_methodImplements
  have k27 := tz_kind155
  have k25 := tz_kind153
  have e27 := tz_elem155
  have i25 := tz_implements153
  have n8 := tz_isNil155 ⟨w.heap.size, 0, none⟩ t ((w.alloc (.cells #[.pointer (some t)] 324)).alloc (.cells #[.pointer (some ⟨4, 324, none⟩), .pointer (some ⟨w.heap.size, 0, none⟩), .int .u64 150] 281)) (by simp)
  have hlt : 0 < w.heap.size := by
    rcases Nat.eq_zero_or_pos w.heap.size with h0 | h
    · simp [World.cell?, h0] at hg
    · exact h
  have hg2 : ((w.alloc (.cells #[.pointer (some t)] 324)).alloc (.cells #[.pointer (some ⟨4, 324, none⟩), .pointer (some ⟨w.heap.size, 0, none⟩), .int .u64 150] 281)).cell? ⟨0, 0, none⟩ = some (.iface 342 (.agg #[.pointer (some ⟨4, 102, none⟩)])) := by
    rw [World.cell?_alloc_lt _ _ ⟨0, 0, none⟩ (by simp), World.cell?_alloc_lt _ _ ⟨0, 0, none⟩ hlt]; exact hg
  have htl : t.block < w.heap.size := by
    rcases Nat.lt_or_ge t.block w.heap.size with h | h
    · exact h
    · simp [World.cell?, Array.getElem?_eq_none h] at ht0
  have el := tz_elemV155 ⟨w.heap.size, 0, none⟩ t (((w.alloc (.cells #[.pointer (some t)] 324)).alloc (.cells #[.pointer (some ⟨4, 324, none⟩), .pointer (some ⟨w.heap.size, 0, none⟩), .int .u64 150] 281)).alloc (.cells #[.pointer (some ⟨4, 324, none⟩), .pointer (some ⟨w.heap.size, 0, none⟩), .int .u64 150] 281)) (by rw [World.cell?_alloc_lt _ _ ⟨w.heap.size, 0, none⟩ (by simp; omega)]; simp)
  have st := tz_set153 t ⟨w.heap.size + 1 + 1 + 1, 0, none⟩ e old ((((w.alloc (.cells #[.pointer (some t)] 324)).alloc (.cells #[.pointer (some ⟨4, 324, none⟩), .pointer (some ⟨w.heap.size, 0, none⟩), .int .u64 150] 281)).alloc (.cells #[.pointer (some ⟨4, 324, none⟩), .pointer (some ⟨w.heap.size, 0, none⟩), .int .u64 150] 281)).alloc (.cells #[.int .i64 e] 323))
    (by rw [World.cell?_alloc_at _ _ _ _ (by simp)]; rfl)
    (by rw [World.cell?_alloc_lt _ _ t (by simp; omega), World.cell?_alloc_lt _ _ t (by simp; omega), World.cell?_alloc_lt _ _ t (by simp; omega), World.cell?_alloc_lt _ _ t htl]; exact ht0)
    (by rw [World.frozen?_alloc_old _ _ t (by simp; omega), World.frozen?_alloc_old _ _ t (by simp; omega), World.frozen?_alloc_old _ _ t (by simp; omega), World.frozen?_alloc_old _ _ t (Nat.ne_of_lt htl)]; exact hf0)
  go_enter Tryz.func123, Tryz.ntmps123
  go_wp2
  refine wp_loop_rounds 1 ?_
  rw [rounds_succ]
  go_wp2
  go_ret
  exact ⟨rfl, rfl⟩
end Go.Proofs.YtonglhkiobibgaaGreatDoor
namespace Go.Proofs.YtonglhkiobibgaaGreatDoor
open Go.RowKit
set_option maxRecDepth 100000
end Go.Proofs.YtonglhkiobibgaaGreatDoor
namespace Go.Proofs.YtonglhkiobibgaaGreatDoor
open Go.RowKit
/-- one octet: its value, the code, the rest -/
def scOct : List Int → Int × Int × List Int
  | [] => (0, 8, [])
  | x :: r => (x, 0, r)
/-- a number in groups of 7 bits, from group k on -/
def scGrp (k acc : Nat) : List Int → Nat × Int × List Int
  | [] => (0, 8, [])
  | x :: r => if (k = 9 ∧ 1 < x) ∨ (0 < k ∧ x = 0) then (0, 4, r) else if x < 128 then (acc + (x % 128).toNat * 2 ^ (7 * k), 0, r) else scGrp (k + 1) (acc + (x % 128).toNat * 2 ^ (7 * k)) r
def scCnt (l : List Int) : Int × Int × List Int := ((scOct l).1, if (scOct l).2.1 = 0 ∧ 64 < (scOct l).1 then 3 else (scOct l).2.1, (scOct l).2.2)
/-- a number without its fold -/
def unzz (m : Nat) : Int := if m % 2 = 0 then ((m / 2 : Nat) : Int) else -((m / 2 : Nat) : Int) - 1
def scText (l : List Int) : List Int × Int × List Int :=
  if (scGrp 0 0 l).2.1 ≠ 0 then ([], (scGrp 0 0 l).2.1, (scGrp 0 0 l).2.2) else if 4096 < (scGrp 0 0 l).1 then ([], 5, (scGrp 0 0 l).2.2) else
  if (scGrp 0 0 l).2.2.length < (scGrp 0 0 l).1 then ([], 8, (scGrp 0 0 l).2.2) else ((scGrp 0 0 l).2.2.take (scGrp 0 0 l).1, 0, (scGrp 0 0 l).2.2.drop (scGrp 0 0 l).1)
/-- k times, until the first that fails -/
def scMany {α : Type} (f : List Int → α × Int × List Int) : Nat → List Int → List α × Int × List Int
  | 0, l => ([], 0, l)
  | k + 1, l => if (f l).2.1 ≠ 0 then ([(f l).1], (f l).2.1, (f l).2.2) else ((f l).1 :: (scMany f k (f l).2.2).1, (scMany f k (f l).2.2).2.1, (scMany f k (f l).2.2).2.2)
def scNum (l : List Int) : Int × Int × List Int := (unzz (scGrp 0 0 l).1, (scGrp 0 0 l).2.1, (scGrp 0 0 l).2.2)
def scList {α : Type} (f : List Int → α × Int × List Int) (l : List Int) : List α × Int × List Int := if (scCnt l).2.1 ≠ 0 then ([], (scCnt l).2.1, (scCnt l).2.2) else scMany f (scCnt l).1.toNat (scCnt l).2.2
def scNums := scList scNum
def scTexts := scList scText
def rec0 : Rec := ⟨0, [], []⟩
def scRec (l : List Int) : Rec × Int :=
  let k := scOct l
  if k.2.1 ≠ 0 then (rec0, k.2.1) else
  let n := scNums k.2.2
  if n.2.1 ≠ 0 then (rec0, n.2.1) else
  let t := scTexts n.2.2
  if t.2.1 ≠ 0 then (rec0, t.2.1) else
  if 0 < t.2.2.length then (rec0, 23) else (⟨k.1, n.1, t.1⟩, 0)
def dec (l : List Int) : Rec × Int := if (openB l).2 ≠ 0 then (rec0, (openB l).2) else scRec (openB l).1
theorem pow7 (k : Nat) : 2 ^ (7 * k) = 128 ^ k := by rw [Nat.pow_mul]
/-- what is read stays an octet's list; nothing grows -/
theorem scOct_rest (l : List Int) : (scOct l).2.2 = l.drop 1 := by cases l <;> rfl
theorem scGrp_rest : ∀ (l : List Int) (k acc : Nat), ∃ n, (scGrp k acc l).2.2 = l.drop n
  | [], k, acc => ⟨0, rfl⟩
  | x :: r, k, acc => by
    unfold scGrp
    split
    · exact ⟨1, rfl⟩
    · split
      · exact ⟨1, rfl⟩
      · obtain ⟨n, h⟩ := scGrp_rest r (k + 1) (acc + (x % 128).toNat * 2 ^ (7 * k))
        exact ⟨n + 1, by rw [h]; rfl⟩
theorem scText_rest (l : List Int) : ∃ n, (scText l).2.2 = l.drop n := by
  obtain ⟨n, h⟩ := scGrp_rest l 0 0
  unfold scText
  split
  · exact ⟨n, h⟩
  split
  · exact ⟨n, h⟩
  split
  · exact ⟨n, h⟩
  · exact ⟨n + (scGrp 0 0 l).1, by show List.drop _ _ = _; rw [h, List.drop_drop]⟩
theorem scMany_rest {α : Type} {f : List Int → α × Int × List Int} (hf : ∀ l, ∃ n, (f l).2.2 = l.drop n) : ∀ (k : Nat) (l : List Int), ∃ n, (scMany f k l).2.2 = l.drop n
  | 0, l => ⟨0, rfl⟩
  | k + 1, l => by
    obtain ⟨n, h⟩ := hf l
    unfold scMany
    split
    · exact ⟨n, h⟩
    · obtain ⟨m, h2⟩ := scMany_rest hf k (f l).2.2
      exact ⟨n + m, by show (scMany f k (f l).2.2).2.2 = _; rw [h2, h, List.drop_drop]⟩
theorem scCnt_rest (l : List Int) : (scCnt l).2.2 = l.drop 1 := scOct_rest l
theorem scList_rest {α : Type} {f : List Int → α × Int × List Int} (hf : ∀ l, ∃ n, (f l).2.2 = l.drop n) (l : List Int) : ∃ n, (scList f l).2.2 = l.drop n := by
  unfold scList
  split
  · exact ⟨1, scCnt_rest l⟩
  · obtain ⟨m, h⟩ := scMany_rest hf (scCnt l).1.toNat (scCnt l).2.2
    exact ⟨1 + m, by rw [h, scCnt_rest, List.drop_drop]⟩
theorem scGrp_lt : ∀ (l : List Int) (k acc : Nat), (∀ x ∈ l, 0 ≤ x ∧ x < 256) → acc < 2 ^ (7 * k) → k ≤ 9 → (scGrp k acc l).1 < 2 ^ 64
  | [], k, acc, _, _, _ => by show 0 < _; decide
  | x :: r, k, acc, hb, ha, hk => by
    have hx := hb x (by simp)
    have hm : (x % 128).toNat ≤ 127 := by omega
    have hp : 0 < 2 ^ (7 * k) := Nat.pow_pos (by decide)
    unfold scGrp
    split
    · show 0 < _; decide
    · rename_i hne
      by_cases hk9 : k = 9
      · subst hk9
        have hx1 : x ≤ 1 := by omega
        rw [if_pos (by omega)]
        have : (x % 128).toNat ≤ 1 := by omega
        show acc + _ < _
        have h3 : (x % 128).toNat * 2 ^ (7 * 9) ≤ 1 * 2 ^ (7 * 9) := Nat.mul_le_mul_right _ this
        have e1 : (2 : Nat) ^ (7 * 9) = 9223372036854775808 := by decide
        have e2 : (2 : Nat) ^ 64 = 18446744073709551616 := by decide
        rw [e1] at h3 ha ⊢; rw [e2]; omega
      · have h4 : acc + (x % 128).toNat * 2 ^ (7 * k) < 2 ^ (7 * (k + 1)) := by
          have h3 : (x % 128).toNat * 2 ^ (7 * k) ≤ 127 * 2 ^ (7 * k) := Nat.mul_le_mul_right _ hm
          rw [show 7 * (k + 1) = 7 * k + 7 from by omega, Nat.pow_add]
          omega
        split
        · show acc + _ < _
          exact Nat.lt_of_lt_of_le h4 (Nat.pow_le_pow_right (by decide) (by omega))
        · exact scGrp_lt r (k + 1) _ (fun y hy => hb y (by simp [hy])) h4 (by omega)
end Go.Proofs.YtonglhkiobibgaaGreatDoor
namespace Go.Proofs.YtonglhkiobibgaaGreatDoor
open Go.RowKit
set_option maxRecDepth 100000
/-- an error of octets, or none -/
def errV (e : Int) : AV := if e = 0 then .v .nilIface else .ifc 323 (.agg [.v (.int .i64 e)])
theorem errV_0 : errV 0 = .v .nilIface := rfl
theorem errV_ne {e : Int} (h : e ≠ 0) : errV e = .ifc 323 (.agg [.v (.int .i64 e)]) := if_neg h
theorem al_errV {p : Nat → Prop} (e : Int) : Al p (errV e) := by
  unfold errV; split
  · trivial
  · exact ⟨trivial, trivial⟩
abbrev scRow (y fr : Bool) (l : List Int) : AObj := .row y 232 [fB fr l]
theorem take_ok (y fr : Bool) (l : List Int) (n : Nat) (id nb : Nat) (hid : id < nb) (h : n ≤ l.length) :
    ASound Tryz.prog 240 [.op id 0, .v (.int .i64 n)] nb (rowM id (scRow y fr l) (.ret (.tup [fB fr (l.take n), .v .nilIface]) [(id, some (scRow y fr (l.drop n)))])) := by
  refine ok_240.soundR (by simp) ⟨rfl, trivial, trivial⟩ (by simp) ⟨al_B l, trivial⟩ ⟨al_B _, trivial⟩ rfl hid ?_
  have e1 : ¬ ((l.length : Int) < (n : Int)) := by omega
  have e2 : ((0 : Int) ≤ (n : Int) ∧ (n : Int) ≤ (l.length : Int)) = True := eq_true ⟨by omega, by omega⟩
  have e3 : ((0 : Int) ≤ (n : Int)) := by omega
  have e4 : ((n : Int) ≤ (l.length : Int)) := by omega
  have c1 : (l.take n).length = n := List.length_take_of_le h
  have c2 : (l.drop n).length = l.length - n := List.length_drop
  have d1 : (l.drop n).take (l.length - n) = l.drop n := List.take_of_length_le (by rw [c2]; exact Nat.le_refl _)
  simp only [ac_240, renL, ren, e1, e2, e3, e4, Nat.sub_zero, take_B, drop_B, tk_B, d1, TT, ↓reduceIte, Nat.reduceEqDiff, Nat.reduceAdd, Nat.reduceMul, reduceCtorEq, Nat.reduceLeDiff]
  exact EndsR.data (.inr rfl) (by simp [ET, c1]) ⟨al_B _, trivial, trivial⟩ (by simp [ET, c2])
theorem take_short (y fr : Bool) (l : List Int) (n : Nat) (id nb : Nat) (hid : id < nb) (h : l.length < n) :
    ASound Tryz.prog 240 [.op id 0, .v (.int .i64 n)] nb (rowM id (scRow y fr l) (.ret (.tup [fB true [], errV 8]) [(id, some (scRow y fr l))])) := by
  refine ok_240.soundR (by simp) ⟨rfl, trivial, trivial⟩ (by simp) ⟨al_B l, trivial⟩ ⟨al_B _, trivial⟩ rfl hid ?_
  have e1 : ((l.length : Int) < (n : Int)) := by omega
  simp only [ac_240, renL, ren, e1, TT, ↓reduceIte, Nat.reduceEqDiff, Nat.reduceAdd, Nat.reduceMul, reduceCtorEq, Nat.reduceLeDiff]
  exact EndsR.imp (r0 := .tup [.v (.slice none 0 0), errV 8]) (.inr rfl) (by simp [ET, errV]) ⟨trivial, al_errV 8, trivial⟩ (Imp.tupL ⟨Imp.nil true, Imp.refl _, trivial⟩) (by simp [ET])
theorem octet_spec (y fr : Bool) (l : List Int) (id nb : Nat) (hid : id < nb) (hb : okB l) :
    ASound Tryz.prog 211 [.op id 0] nb (rowM id (scRow y fr l) (.ret (.tup [.v (.int .i64 (scOct l).1), errV (scOct l).2.1]) [(id, some (scRow y fr (scOct l).2.2))])) := by
  refine ok_211.soundR (by simp) ⟨rfl, trivial⟩ (by simp) ⟨al_B l, trivial⟩ ⟨al_B _, trivial⟩ rfl hid ?_
  cases l with
  | nil =>
    simp only [ac_211, renL, ren, TT, ↓reduceIte, Nat.reduceEqDiff, Nat.reduceAdd, Nat.reduceMul, reduceCtorEq, Nat.reduceLeDiff]
    have h := fun nb h => take_short y fr [] 1 0 nb h (by decide)
    simp only [scRow, fB, List.length_cons, List.length_nil, List.drop_succ_cons, List.drop_zero, List.drop_nil, List.take_succ_cons, List.take_zero, Nat.zero_add] at h
    refine ⟨_, h _ (by decide), ?_⟩
    simp only [errV_ne (show (8 : Int) ≠ 0 by decide), TT, ↓reduceIte, Nat.reduceEqDiff, Nat.reduceAdd, Nat.reduceMul, reduceCtorEq, Nat.reduceLeDiff]
    exact EndsR.data (r := .tup [.v (.int .i64 0), errV 8]) (.inr rfl) (by simp [ET, errV]) ⟨trivial, al_errV 8, trivial⟩ (by simp [ET, scOct, eB])
  | cons x r =>
    have hx := hb x (by simp)
    have w1 : IntKind.i64.wrap x = x := wrap64 (by omega)
    simp only [ac_211, renL, ren, TT, ↓reduceIte, Nat.reduceEqDiff, Nat.reduceAdd, Nat.reduceMul, reduceCtorEq, Nat.reduceLeDiff]
    have h := fun nb h => take_ok y fr (x :: r) 1 0 nb h (by simp)
    simp only [scRow, fB, List.length_cons, List.length_nil, List.drop_succ_cons, List.drop_zero, List.drop_nil, List.take_succ_cons, List.take_zero, Nat.zero_add] at h
    refine ⟨_, h _ (by decide), ?_⟩
    have g0 : (eB [x])[Int.toNat 0]? = some (.v (.int .u8 x)) := rfl
    have g1 : ((0 : Int) ≤ 0 ∧ (0 : Int) < ((1 : Nat) : Int)) = True := eq_true ⟨by decide, by decide⟩
    simp only [List.drop_succ_cons, g0, g1, w1, TT, ↓reduceIte, Nat.reduceEqDiff, Nat.reduceAdd, Nat.reduceMul, reduceCtorEq, Nat.reduceLeDiff]
    exact EndsR.data (r := .tup [.v (.int .i64 x), errV 0]) (.inr rfl) (by simp [ET, errV]) ⟨trivial, al_errV 0, trivial⟩ (by simp [ET, scOct, eB])
end Go.Proofs.YtonglhkiobibgaaGreatDoor
namespace Go.Proofs.YtonglhkiobibgaaGreatDoor
open Go.RowKit
set_option maxRecDepth 100000
theorem sc_and {x : Int} (h : 0 ≤ x ∧ x < 256) : IntKind.i64.wrap ((BitVec.ofInt IntKind.i64.bits x &&& BitVec.ofInt IntKind.i64.bits 127).toNat : Int) = ((x % 128).toNat : Int) := by
  have h1 : (BitVec.ofInt IntKind.i64.bits x &&& BitVec.ofInt IntKind.i64.bits 127).toNat = (x % 128).toNat := by
    show (BitVec.ofInt 64 x &&& BitVec.ofInt 64 127).toNat = _
    rw [BitVec.toNat_and, ofInt64, ofInt64]
    rw [show ((127 : Int) % 18446744073709551616).toNat = 127 from rfl, and127]
    omega
  rw [h1, wrap64 (by omega)]
theorem sc_shl {m k : Nat} (hm : m * 2 ^ (7 * k) < 2 ^ 64) (hk : k ≤ 9) : shVal .shl .u64 (m : Int) (7 * (k : Int)) = some (.int .u64 ((m * 2 ^ (7 * k) : Nat) : Int)) := by
  simp only [shVal, if_neg (show ¬ (7 * (k : Int) < 0) by omega)]
  have e1 : min (7 * (k : Int)).toNat IntKind.u64.bits = 7 * k := by
    show min (7 * (k : Int)).toNat 64 = 7 * k
    omega
  congr 2
  show IntKind.u64.wrap ((m : Int) * 2 ^ min (7 * (k : Int)).toNat IntKind.u64.bits) = _
  rw [e1, u64_mod]
  have e2 : ((m : Int) * 2 ^ (7 * k)) = ((m * 2 ^ (7 * k) : Nat) : Int) := by push_cast; rfl
  have e3 : (2 : Nat) ^ 64 = 18446744073709551616 := by decide
  rw [e2]
  omega
theorem sc_or {a m k : Nat} (ha : a < 2 ^ (7 * k)) (hs : a + m * 2 ^ (7 * k) < 2 ^ 64) : IntKind.u64.wrap ((BitVec.ofInt IntKind.u64.bits (a : Int) ||| BitVec.ofInt IntKind.u64.bits ((m * 2 ^ (7 * k) : Nat) : Int)).toNat : Int) = ((a + m * 2 ^ (7 * k) : Nat) : Int) := by
  have e3 : (2 : Nat) ^ 64 = 18446744073709551616 := by decide
  have h1 : (BitVec.ofInt IntKind.u64.bits (a : Int) ||| BitVec.ofInt IntKind.u64.bits ((m * 2 ^ (7 * k) : Nat) : Int)).toNat = a + m * 2 ^ (7 * k) := by
    show (BitVec.ofInt 64 (a : Int) ||| BitVec.ofInt 64 ((m * 2 ^ (7 * k) : Nat) : Int)).toNat = _
    rw [BitVec.toNat_or, ofInt64, ofInt64]
    rw [show ((a : Int) % 18446744073709551616).toNat = a from by omega, show (((m * 2 ^ (7 * k) : Nat) : Int) % 18446744073709551616).toNat = m * 2 ^ (7 * k) from by omega]
    rw [Nat.or_comm, ← Nat.shiftLeft_eq, ← Nat.shiftLeft_add_eq_or_of_lt ha, Nat.add_comm]
  rw [h1, u64_mod]; omega
abbrev L_sg (y fr : Bool) (q : Nat × Nat × List Int) : ASt := ⟨envOf [(0, .op 0 0), (4, .v (.int .u64 q.2.1)), (5, .v (.int .i64 (7 * (q.1 : Int))))], heapOf [(0, scRow y fr q.2.2)], 1⟩
set_option maxHeartbeats 4000000 in
theorem scgroups_spec (y fr : Bool) (l : List Int) (id nb : Nat) (hid : id < nb) (hb : okB l) :
    ASound Tryz.prog 242 [.op id 0] nb (rowM id (scRow y fr l) (.ret (.tup [.v (.int .u64 (scGrp 0 0 l).1), errV (scGrp 0 0 l).2.1]) [(id, some (scRow y fr (scGrp 0 0 l).2.2))])) := by
  refine ok_242.soundR (by simp) ⟨rfl, trivial⟩ (by simp) ⟨al_B l, trivial⟩ ⟨al_B _, trivial⟩ rfl hid ?_
  simp only [ac_242, renL, ren, TT, ↓reduceIte, Nat.reduceEqDiff, Nat.reduceAdd, Nat.reduceMul, reduceCtorEq, Nat.reduceLeDiff]
  refine AWc.family (L_sg y fr) (fun q => scGrp q.1 q.2.1 q.2.2 = scGrp 0 0 l ∧ q.2.1 < 2 ^ (7 * q.1) ∧ q.1 ≤ 9 ∧ okB q.2.2) (fun q => q.2.2.length) (0, 0, l) ⟨rfl, by simp, by simp, hb⟩ ?_ ?_
  · refine Weak.calc [(0, 0)] (by decide) ?_ ?_ <;> simp [WT]
  · rintro ⟨k, a, s⟩ ⟨he, ha, hk, hs⟩
    simp only at he ha hk hs
    rw [← he]
    cases s with
    | nil =>
      have h := fun nb h => octet_spec y fr [] 0 nb h hs
      simp only [scRow, scOct, fB, List.length_cons, List.length_nil] at h
      simp only [L_sg, scRow, TT, ↓reduceIte, Nat.reduceEqDiff, Nat.reduceAdd, Nat.reduceMul, reduceCtorEq, Nat.reduceLeDiff]
      refine ⟨_, h _ (by omega), ?_⟩
      simp only [errV_ne (show (8 : Int) ≠ 0 by decide), TT, ↓reduceIte, Nat.reduceEqDiff, Nat.reduceAdd, Nat.reduceMul, reduceCtorEq, Nat.reduceLeDiff]
      exact EndsR.data (r := .tup [.v (.int .u64 0), errV 8]) (.inr rfl) (by simp [ET, errV]) ⟨trivial, al_errV 8, trivial⟩ (by simp [ET, scGrp, eB])
    | cons x r =>
      have hx := hs x (by simp)
      have hr : okB r := fun z hz => hs z (by simp [hz])
      have h := fun nb h => octet_spec y fr (x :: r) 0 nb h hs
      simp only [scRow, scOct, fB, List.length_cons, List.length_nil] at h
      have e3 : (2 : Nat) ^ 64 = 18446744073709551616 := by decide
      have hm : (x % 128).toNat ≤ 127 := by omega
      have hp : 0 < 2 ^ (7 * k) := Nat.pow_pos (by decide)
      have sd : ∀ h3 : a + (x % 128).toNat * 2 ^ (7 * k) < 2 ^ 64, (x % 128).toNat * 2 ^ (7 * k) < 2 ^ 64 := fun h3 => by omega
      have w7 : IntKind.i64.wrap (7 * (k : Int) + 7) = 7 * ((k + 1 : Nat) : Int) := by rw [wrap64 (by omega)]; omega
      have wu : IntKind.u64.wrap ((x % 128).toNat : Int) = ((x % 128).toNat : Int) := by rw [u64_mod]; omega
      by_cases hbad : (k = 9 ∧ 1 < x) ∨ (0 < k ∧ x = 0)
      · have hg : scGrp k a (x :: r) = (0, 4, r) := by rw [scGrp, if_pos hbad]
        rw [hg]
        by_cases k9 : k = 9
        · have f9 : (7 * (k : Int)) = 63 := by omega
          by_cases x1 : 1 < x
          · simp only [L_sg, scRow, TT, ↓reduceIte, Nat.reduceEqDiff, Nat.reduceAdd, Nat.reduceMul, reduceCtorEq, Nat.reduceLeDiff]
            refine ⟨_, h _ (by omega), ?_⟩
            simp only [errV_0, f9, x1, not_false_eq_true, TT, ↓reduceIte, Nat.reduceEqDiff, Nat.reduceAdd, Nat.reduceMul, reduceCtorEq, Nat.reduceLeDiff]
            exact EndsR.data (r := .tup [.v (.int .u64 0), errV 4]) (.inr rfl) (by simp [ET, errV]) ⟨trivial, al_errV 4, trivial⟩ (by simp [ET, eB])
          · have x0 : x = 0 := by omega
            subst x0
            have f0 : ((0 : Int) < 63) := by decide
            simp only [L_sg, scRow, TT, ↓reduceIte, Nat.reduceEqDiff, Nat.reduceAdd, Nat.reduceMul, reduceCtorEq, Nat.reduceLeDiff]
            refine ⟨_, h _ (by omega), ?_⟩
            simp only [errV_0, f9, x1, f0, not_false_eq_true, TT, ↓reduceIte, Nat.reduceEqDiff, Nat.reduceAdd, Nat.reduceMul, reduceCtorEq, Nat.reduceLeDiff]
            exact EndsR.data (r := .tup [.v (.int .u64 0), errV 4]) (.inr rfl) (by simp [ET, errV]) ⟨trivial, al_errV 4, trivial⟩ (by simp [ET, eB])
        · have f9 : ¬ (7 * (k : Int)) = 63 := by omega
          have x0 : x = 0 := by omega
          subst x0
          have f0 : ((0 : Int) < 7 * (k : Int)) := by omega
          simp only [L_sg, scRow, TT, ↓reduceIte, Nat.reduceEqDiff, Nat.reduceAdd, Nat.reduceMul, reduceCtorEq, Nat.reduceLeDiff]
          refine ⟨_, h _ (by omega), ?_⟩
          simp only [errV_0, f9, f0, not_false_eq_true, TT, ↓reduceIte, Nat.reduceEqDiff, Nat.reduceAdd, Nat.reduceMul, reduceCtorEq, Nat.reduceLeDiff]
          exact EndsR.data (r := .tup [.v (.int .u64 0), errV 4]) (.inr rfl) (by simp [ET, errV]) ⟨trivial, al_errV 4, trivial⟩ (by simp [ET, eB])
      · have hsum : a + (x % 128).toNat * 2 ^ (7 * k) < 2 ^ 64 := by
          by_cases k9 : k = 9
          · subst k9
            have h3 : (x % 128).toNat * 2 ^ (7 * 9) ≤ 1 * 2 ^ (7 * 9) := Nat.mul_le_mul_right _ (by omega)
            have e1 : (2 : Nat) ^ (7 * 9) = 9223372036854775808 := by decide
            rw [e1] at h3 ha ⊢; omega
          · have h3 : (x % 128).toNat * 2 ^ (7 * k) ≤ 127 * 2 ^ (7 * k) := Nat.mul_le_mul_right _ hm
            have h4 : 2 ^ (7 * k) ≤ 2 ^ 56 := Nat.pow_le_pow_right (by decide) (by omega)
            have e1 : (2 : Nat) ^ 56 = 72057594037927936 := by decide
            rw [e1] at h4; omega
        have ss := sc_shl (m := (x % 128).toNat) (sd hsum) hk
        have so := sc_or ha hsum
        have sa := sc_and hx
        by_cases k9 : k = 9
        · have f9 : (7 * (k : Int)) = 63 := by omega
          have x1 : ¬ 1 < x := by omega
          have x0 : ¬ x = 0 := by omega
          have f0 : ((0 : Int) < 63) := by decide
          have hlt : x < 128 := by omega
          have hg : scGrp k a (x :: r) = (a + (x % 128).toNat * 2 ^ (7 * k), 0, r) := by rw [scGrp, if_neg hbad, if_pos hlt]
          rw [hg]
          rw [f9] at ss
          simp only [L_sg, scRow, TT, ↓reduceIte, Nat.reduceEqDiff, Nat.reduceAdd, Nat.reduceMul, reduceCtorEq, Nat.reduceLeDiff]
          refine ⟨_, h _ (by omega), ?_⟩
          simp only [errV_0, f9, x1, x0, f0, hlt, sa, wu, ss, so, not_false_eq_true, TT, ↓reduceIte, Nat.reduceEqDiff, Nat.reduceAdd, Nat.reduceMul, reduceCtorEq, Nat.reduceLeDiff]
          exact EndsR.data (r := .tup [.v (.int .u64 (a + (x % 128).toNat * 2 ^ (7 * k) : Nat)), errV 0]) (.inr rfl) (by simp [ET, errV]) ⟨trivial, al_errV 0, trivial⟩ (by simp [ET, eB])
        · have f9 : ¬ (7 * (k : Int)) = 63 := by omega
          by_cases k0 : k = 0
          · have f0 : ¬ ((0 : Int) < 7 * (k : Int)) := by omega
            by_cases hlt : x < 128
            · have hg : scGrp k a (x :: r) = (a + (x % 128).toNat * 2 ^ (7 * k), 0, r) := by rw [scGrp, if_neg hbad, if_pos hlt]
              rw [hg]
              simp only [L_sg, scRow, TT, ↓reduceIte, Nat.reduceEqDiff, Nat.reduceAdd, Nat.reduceMul, reduceCtorEq, Nat.reduceLeDiff]
              refine ⟨_, h _ (by omega), ?_⟩
              simp only [errV_0, f9, f0, hlt, sa, wu, ss, so, not_false_eq_true, TT, ↓reduceIte, Nat.reduceEqDiff, Nat.reduceAdd, Nat.reduceMul, reduceCtorEq, Nat.reduceLeDiff]
              exact EndsR.data (r := .tup [.v (.int .u64 (a + (x % 128).toNat * 2 ^ (7 * k) : Nat)), errV 0]) (.inr rfl) (by simp [ET, errV]) ⟨trivial, al_errV 0, trivial⟩ (by simp [ET, eB])
            · have hg : scGrp k a (x :: r) = scGrp (k + 1) (a + (x % 128).toNat * 2 ^ (7 * k)) r := by rw [scGrp, if_neg hbad, if_neg hlt]
              have ha2 : a + (x % 128).toNat * 2 ^ (7 * k) < 2 ^ (7 * (k + 1)) := by
                have h3 : (x % 128).toNat * 2 ^ (7 * k) ≤ 127 * 2 ^ (7 * k) := Nat.mul_le_mul_right _ hm
                rw [show 7 * (k + 1) = 7 * k + 7 from by omega, Nat.pow_add]
                omega
              simp only [L_sg, scRow, TT, ↓reduceIte, Nat.reduceEqDiff, Nat.reduceAdd, Nat.reduceMul, reduceCtorEq, Nat.reduceLeDiff]
              refine ⟨_, h _ (by omega), ?_⟩
              simp only [errV_0, f9, f0, hlt, sa, wu, ss, so, w7, not_false_eq_true, TT, ↓reduceIte, Nat.reduceEqDiff, Nat.reduceAdd, Nat.reduceMul, reduceCtorEq, Nat.reduceLeDiff]
              refine famC_next (k + 1, a + (x % 128).toNat * 2 ^ (7 * k), r) (by simp) ⟨?_, ha2, by simp only; omega, hr⟩ ?_
              · simp only; rw [← hg, he]
              · refine Weak.calc [(0, 0)] (by decide) ?_ ?_ <;> simp [WT]
          · have f0 : ((0 : Int) < 7 * (k : Int)) := by omega
            have x0 : ¬ x = 0 := by omega
            by_cases hlt : x < 128
            · have hg : scGrp k a (x :: r) = (a + (x % 128).toNat * 2 ^ (7 * k), 0, r) := by rw [scGrp, if_neg hbad, if_pos hlt]
              rw [hg]
              simp only [L_sg, scRow, TT, ↓reduceIte, Nat.reduceEqDiff, Nat.reduceAdd, Nat.reduceMul, reduceCtorEq, Nat.reduceLeDiff]
              refine ⟨_, h _ (by omega), ?_⟩
              simp only [errV_0, f9, f0, x0, hlt, sa, wu, ss, so, not_false_eq_true, TT, ↓reduceIte, Nat.reduceEqDiff, Nat.reduceAdd, Nat.reduceMul, reduceCtorEq, Nat.reduceLeDiff]
              exact EndsR.data (r := .tup [.v (.int .u64 (a + (x % 128).toNat * 2 ^ (7 * k) : Nat)), errV 0]) (.inr rfl) (by simp [ET, errV]) ⟨trivial, al_errV 0, trivial⟩ (by simp [ET, eB])
            · have hg : scGrp k a (x :: r) = scGrp (k + 1) (a + (x % 128).toNat * 2 ^ (7 * k)) r := by rw [scGrp, if_neg hbad, if_neg hlt]
              have ha2 : a + (x % 128).toNat * 2 ^ (7 * k) < 2 ^ (7 * (k + 1)) := by
                have h3 : (x % 128).toNat * 2 ^ (7 * k) ≤ 127 * 2 ^ (7 * k) := Nat.mul_le_mul_right _ hm
                rw [show 7 * (k + 1) = 7 * k + 7 from by omega, Nat.pow_add]
                omega
              simp only [L_sg, scRow, TT, ↓reduceIte, Nat.reduceEqDiff, Nat.reduceAdd, Nat.reduceMul, reduceCtorEq, Nat.reduceLeDiff]
              refine ⟨_, h _ (by omega), ?_⟩
              simp only [errV_0, f9, f0, x0, hlt, sa, wu, ss, so, w7, not_false_eq_true, TT, ↓reduceIte, Nat.reduceEqDiff, Nat.reduceAdd, Nat.reduceMul, reduceCtorEq, Nat.reduceLeDiff]
              refine famC_next (k + 1, a + (x % 128).toNat * 2 ^ (7 * k), r) (by simp) ⟨?_, ha2, by simp only; omega, hr⟩ ?_
              · simp only; rw [← hg, he]
              · refine Weak.calc [(0, 0)] (by decide) ?_ ?_ <;> simp [WT]
end Go.Proofs.YtonglhkiobibgaaGreatDoor
namespace Go.Proofs.YtonglhkiobibgaaGreatDoor
open Go.RowKit
set_option maxRecDepth 100000
theorem count_spec (y fr : Bool) (l : List Int) (id nb : Nat) (hid : id < nb) (hb : okB l) :
    ASound Tryz.prog 241 [.op id 0, .v (.int .i64 64)] nb (rowM id (scRow y fr l) (.ret (.tup [.v (.int .i64 (scCnt l).1), errV (scCnt l).2.1]) [(id, some (scRow y fr (scCnt l).2.2))])) := by
  refine ok_241.soundR (by simp) ⟨rfl, trivial, trivial⟩ (by simp) ⟨al_B l, trivial⟩ ⟨al_B _, trivial⟩ rfl hid ?_
  have h := fun nb h => octet_spec y fr l 0 nb h hb
  simp only [scRow, fB] at h
  simp only [ac_241, renL, ren, scRow, TT, ↓reduceIte, Nat.reduceEqDiff, Nat.reduceAdd, Nat.reduceMul, reduceCtorEq, Nat.reduceLeDiff]
  refine ⟨_, h _ (by decide), ?_⟩
  cases l with
  | nil =>
    simp only [scOct, errV_ne (show (8 : Int) ≠ 0 by decide), TT, ↓reduceIte, Nat.reduceEqDiff, Nat.reduceAdd, Nat.reduceMul, reduceCtorEq, Nat.reduceLeDiff]
    exact EndsR.data (r := .tup [.v (.int .i64 0), errV 8]) (.inr rfl) (by simp [ET, errV]) ⟨trivial, al_errV 8, trivial⟩ (by simp [ET, scCnt, scOct, eB])
  | cons x r =>
    by_cases h6 : 64 < x
    · have hg : scCnt (x :: r) = (x, 3, r) := by simp [scCnt, scOct, h6]
      rw [hg]
      simp only [scOct, errV_0, h6, TT, ↓reduceIte, Nat.reduceEqDiff, Nat.reduceAdd, Nat.reduceMul, reduceCtorEq, Nat.reduceLeDiff]
      exact EndsR.data (r := .tup [.v (.int .i64 x), errV 3]) (.inr rfl) (by simp [ET, errV]) ⟨trivial, al_errV 3, trivial⟩ (by simp [ET, eB])
    · have hg : scCnt (x :: r) = (x, 0, r) := by simp [scCnt, scOct, h6]
      rw [hg]
      simp only [scOct, errV_0, h6, TT, ↓reduceIte, Nat.reduceEqDiff, Nat.reduceAdd, Nat.reduceMul, reduceCtorEq, Nat.reduceLeDiff]
      exact EndsR.data (r := .tup [.v (.int .i64 x), errV 0]) (.inr rfl) (by simp [ET, errV]) ⟨trivial, al_errV 0, trivial⟩ (by simp [ET, eB])
theorem okB_sc {l r : List Int} (hb : okB l) (h : ∃ n, r = l.drop n) : okB r := by obtain ⟨n, rfl⟩ := h; exact okB_drop hb n
theorem scText_err {l r : List Int} {m : Nat} {e : Int} (hq : scGrp 0 0 l = (m, e, r)) (he : e ≠ 0) : scText l = ([], e, r) := by simp [scText, hq, he]
theorem scText_long {l r : List Int} {m : Nat} (hq : scGrp 0 0 l = (m, 0, r)) (h : 4096 < m) : scText l = ([], 5, r) := by simp [scText, hq, h]
theorem scText_short {l r : List Int} {m : Nat} (hq : scGrp 0 0 l = (m, 0, r)) (h : ¬ 4096 < m) (h2 : r.length < m) : scText l = ([], 8, r) := by simp [scText, hq, h, h2]
theorem scText_ok {l r : List Int} {m : Nat} (hq : scGrp 0 0 l = (m, 0, r)) (h : ¬ 4096 < m) (h2 : ¬ r.length < m) : scText l = (r.take m, 0, r.drop m) := by simp [scText, hq, h, h2]
theorem sctext_spec (y fr : Bool) (l : List Int) (id nb : Nat) (hid : id < nb) (hb : okB l) :
    ASound Tryz.prog 243 [.op id 0] nb (rowM id (scRow y fr l) (.ret (.tup [fB true (scText l).1, errV (scText l).2.1]) [(id, some (scRow y fr (scText l).2.2))])) := by
  refine ok_243.soundR (by simp) ⟨rfl, trivial⟩ (by simp) ⟨al_B l, trivial⟩ ⟨al_B _, trivial⟩ rfl hid ?_
  have h := fun nb h => scgroups_spec y fr l 0 nb h hb
  rcases hq : scGrp 0 0 l with ⟨m, e, r⟩
  rw [hq] at h
  simp only [scRow, fB] at h
  simp only [ac_243, renL, ren, scRow, TT, ↓reduceIte, Nat.reduceEqDiff, Nat.reduceAdd, Nat.reduceMul, reduceCtorEq, Nat.reduceLeDiff]
  refine ⟨_, h _ (by decide), ?_⟩
  by_cases he : e = 0
  · subst he
    by_cases h4 : 4096 < m
    · have f4 : (4096 : Int) < (m : Int) := by omega
      rw [scText_long hq h4]
      simp only [errV_0, f4, TT, ↓reduceIte, Nat.reduceEqDiff, Nat.reduceAdd, Nat.reduceMul, reduceCtorEq, Nat.reduceLeDiff]
      exact EndsR.imp (r0 := .tup [.v (.slice none 0 0), errV 5]) (.inr rfl) (by simp [ET, errV]) ⟨trivial, al_errV 5, trivial⟩ (Imp.tupL ⟨Imp.nil true, Imp.refl _, trivial⟩) (by simp [ET])
    · have f4 : ¬ (4096 : Int) < (m : Int) := by omega
      have w1 : IntKind.i64.wrap (m : Int) = m := wrap64 (by omega)
      simp only [errV_0, f4, w1, TT, ↓reduceIte, Nat.reduceEqDiff, Nat.reduceAdd, Nat.reduceMul, reduceCtorEq, Nat.reduceLeDiff]
      by_cases hl : r.length < m
      · rw [scText_short hq h4 hl]
        have k := fun nb h => take_short y fr r m 0 nb h hl
        simp only [scRow, fB] at k
        refine ⟨_, k _ (by omega), ?_⟩
        simp only [TT, ↓reduceIte, Nat.reduceEqDiff, Nat.reduceAdd, Nat.reduceMul, reduceCtorEq, Nat.reduceLeDiff]
        refine ⟨_, bytesClone_spec true [] _ (by simp), ?_⟩
        simp only [TT, ↓reduceIte, Nat.reduceEqDiff, Nat.reduceAdd, Nat.reduceMul, reduceCtorEq, Nat.reduceLeDiff]
        exact EndsR.data (r := .tup [fB true [], errV 8]) (.inr rfl) (by simp [ET, fB]) ⟨al_B _, al_errV 8, trivial⟩ (by simp [ET])
      · rw [scText_ok hq h4 hl]
        have k := fun nb h => take_ok y fr r m 0 nb h (by omega)
        simp only [scRow, fB] at k
        refine ⟨_, k _ (by omega), ?_⟩
        simp only [TT, ↓reduceIte, Nat.reduceEqDiff, Nat.reduceAdd, Nat.reduceMul, reduceCtorEq, Nat.reduceLeDiff]
        refine ⟨_, bytesClone_spec fr (r.take m) _ (by rw [List.length_take]; omega), ?_⟩
        simp only [TT, ↓reduceIte, Nat.reduceEqDiff, Nat.reduceAdd, Nat.reduceMul, reduceCtorEq, Nat.reduceLeDiff]
        exact EndsR.data (r := .tup [fB true (r.take m), errV 0]) (.inr rfl) (by simp [ET, errV, fB]) ⟨al_B _, al_errV 0, trivial⟩ (by simp [ET])
  · rw [scText_err hq he]
    simp only [errV_ne he, TT, ↓reduceIte, Nat.reduceEqDiff, Nat.reduceAdd, Nat.reduceMul, reduceCtorEq, Nat.reduceLeDiff]
    exact EndsR.imp (r0 := .tup [.v (.slice none 0 0), errV e]) (.inr rfl) (by simp [ET, errV, he]) ⟨trivial, al_errV e, trivial⟩ (Imp.tupL ⟨Imp.nil true, by rw [errV_ne he]; exact Imp.refl _, trivial⟩) (by simp [ET])
end Go.Proofs.YtonglhkiobibgaaGreatDoor
namespace Go.Proofs.YtonglhkiobibgaaGreatDoor
open Go.RowKit
set_option maxRecDepth 100000
theorem ren_errV {ρ : Nat → Nat} (e : Int) : ren ρ (errV e) = errV e := by
  unfold errV; split <;> simp [ren, renL]
theorem many_go {α : Type} {f : List Int → α × Int × List Int} {N i : Nat} {rest : List Int} {out : List α} {R : List α × Int × List Int} (hR : R = (out ++ (scMany f (N - i) rest).1, (scMany f (N - i) rest).2)) (hi : i < N) (h0 : (f rest).2.1 = 0) :
    R = ((out ++ [(f rest).1]) ++ (scMany f (N - (i + 1)) (f rest).2.2).1, (scMany f (N - (i + 1)) (f rest).2.2).2) := by
  rw [hR, show N - i = (N - (i + 1)) + 1 from by omega, scMany, if_neg (by rw [h0]; simp)]
  simp
theorem many_stop {α : Type} {f : List Int → α × Int × List Int} {N i : Nat} {rest : List Int} {out : List α} {R : List α × Int × List Int} (hR : R = (out ++ (scMany f (N - i) rest).1, (scMany f (N - i) rest).2)) (hi : i < N) (h0 : (f rest).2.1 ≠ 0) :
    R = (out ++ [(f rest).1], (f rest).2.1, (f rest).2.2) := by
  rw [hR, show N - i = (N - (i + 1)) + 1 from by omega, scMany, if_pos h0]
theorem many_end {α : Type} {f : List Int → α × Int × List Int} {N : Nat} {rest : List Int} {out : List α} {R : List α × Int × List Int} (hR : R = (out ++ (scMany f (N - N) rest).1, (scMany f (N - N) rest).2)) : R = (out, 0, rest) := by
  rw [hR, Nat.sub_self, scMany]; simp
structure manyI {α : Type} (f : List Int → α × Int × List Int) (N : Nat) (R : List α × Int × List Int) (i : Nat) (out : List α) (e : Int) (rest : List Int) : Prop where
  len : out.length ≤ i
  le : i ≤ 64
  ok : okB rest
  st : (e = 0 ∧ N ≤ 64 ∧ i ≤ N ∧ R = (out ++ (scMany f (N - i) rest).1, (scMany f (N - i) rest).2)) ∨ (e ≠ 0 ∧ R = (out, e, rest))
theorem manyI.start {α : Type} (f : List Int → α × Int × List Int) (l : List Int) (hb : okB l) : manyI f (scCnt l).1.toNat (scList f l) 0 [] (scCnt l).2.1 (scCnt l).2.2 := by
  refine ⟨by simp, by omega, by rw [scCnt_rest]; exact okB_drop hb 1, ?_⟩
  unfold scList
  by_cases h : (scCnt l).2.1 = 0
  · left
    refine ⟨h, ?_, Nat.zero_le _, ?_⟩
    · unfold scCnt at h ⊢
      simp only at h ⊢
      split at h
      · simp at h
      · rename_i h2; rw [h] at h2; omega
    · rw [if_neg (by rw [h]; simp)]; simp
  · right
    exact ⟨h, by rw [if_pos h]⟩
theorem manyI.step {α : Type} {f : List Int → α × Int × List Int} {N : Nat} {R : List α × Int × List Int} {i : Nat} {out : List α} {rest : List Int} (h : manyI f N R i out 0 rest) (hi : i < N) (hf : ∃ n, (f rest).2.2 = rest.drop n) : manyI f N R (i + 1) (out ++ [(f rest).1]) (f rest).2.1 (f rest).2.2 := by
  rcases h.st with ⟨_, hN, hle, hR⟩ | ⟨h0, _⟩
  · refine ⟨?_, ?_, ?_, ?_⟩
    · rw [List.length_append, List.length_cons, List.length_nil]; have := h.len; omega
    · omega
    · exact okB_sc h.ok hf
    · by_cases h0 : (f rest).2.1 = 0
      · exact .inl ⟨h0, hN, by omega, many_go hR hi h0⟩
      · exact .inr ⟨h0, many_stop hR hi h0⟩
  · exact absurd rfl h0
theorem cnt_nn {l : List Int} (hb : okB l) : ((scCnt l).1.toNat : Int) = (scCnt l).1 := by
  cases l with
  | nil => rfl
  | cons x r => have := hb x (by simp); show (x.toNat : Int) = x; omega
theorem sh1 (m : Nat) : shVal .shr .u64 (m : Int) 1 = some (.int .u64 ((m / 2 : Nat) : Int)) := by
  have h : Int.fdiv (m : Int) (2 ^ min (Int.toNat 1) IntKind.u64.bits) = ((m / 2 : Nat) : Int) := by
    show Int.fdiv (m : Int) 2 = _
    rw [Int.fdiv_eq_ediv_of_nonneg _ (by decide)]
    omega
  simp only [shVal, if_neg (show ¬ ((1 : Int) < 0) by decide), h]
theorem and_1 {m : Nat} (h : m < 2 ^ 64) : IntKind.u64.wrap ((BitVec.ofInt IntKind.u64.bits (m : Int) &&& BitVec.ofInt IntKind.u64.bits 1).toNat : Int) = ((m % 2 : Nat) : Int) := by
  have e3 : (2 : Nat) ^ 64 = 18446744073709551616 := by decide
  have h1 : (BitVec.ofInt IntKind.u64.bits (m : Int) &&& BitVec.ofInt IntKind.u64.bits 1).toNat = m % 2 := by
    show (BitVec.ofInt 64 (m : Int) &&& BitVec.ofInt 64 1).toNat = _
    rw [BitVec.toNat_and, ofInt64, ofInt64, show ((1 : Int) % 18446744073709551616).toNat = 1 from rfl, show ((m : Int) % 18446744073709551616).toNat = m from by omega]
    exact Nat.and_two_pow_sub_one_eq_mod m 1
  rw [h1, u64_mod]; omega
theorem xor_unzz {m : Nat} (h : m < 2 ^ 64) : IntKind.i64.wrap ((BitVec.ofInt IntKind.i64.bits ((m / 2 : Nat) : Int) ^^^ BitVec.ofInt IntKind.i64.bits (-((m % 2 : Nat) : Int))).toNat : Int) = unzz m := by
  have e3 : (2 : Nat) ^ 64 = 18446744073709551616 := by decide
  show IntKind.i64.wrap ((BitVec.ofInt 64 ((m / 2 : Nat) : Int) ^^^ BitVec.ofInt 64 (-((m % 2 : Nat) : Int))).toNat : Int) = _
  unfold unzz
  by_cases h0 : m % 2 = 0
  · rw [h0, if_pos rfl, show BitVec.ofInt 64 (-((0 : Nat) : Int)) = 0#64 from by decide, BitVec.xor_zero, ofInt64, IntKind.wrap_i64]
    omega
  · have h1 : m % 2 = 1 := by omega
    rw [h1, if_neg (by decide), show BitVec.ofInt 64 (-((1 : Nat) : Int)) = BitVec.allOnes 64 from by decide, BitVec.xor_allOnes, BitVec.toNat_not, ofInt64, IntKind.wrap_i64]
    omega
structure Sm (α : Type) where
  i : Nat
  out : List α
  e : Int
  rest : List Int
abbrev L_sn (y fr : Bool) (N : Nat) (q : Sm Int) : ASt := ⟨envOf [(0, .op 0 0), (4, .v (.int .i64 N)), (5, errV q.e), (6, .os 1 0 q.out.length 1), (7, .v (.int .i64 q.i))], heapOf [(0, scRow y fr q.rest), (1, .row true 3 (eI q.out))], 2⟩
theorem scNum_rest (l : List Int) : ∃ n, (scNum l).2.2 = l.drop n := scGrp_rest l 0 0
set_option maxHeartbeats 2000000 in
theorem scnums_spec (y fr : Bool) (l : List Int) (id nb : Nat) (hid : id < nb) (hb : okB l) :
    ASound Tryz.prog 212 [.op id 0] nb (rowM id (scRow y fr l) (.ret (.tup [fI true (scNums l).1, errV (scNums l).2.1]) [(id, some (scRow y fr (scNums l).2.2))])) := by
  refine ok_212.soundR (by simp) ⟨rfl, trivial⟩ (by simp) ⟨al_B l, trivial⟩ ⟨al_B _, trivial⟩ rfl hid ?_
  have h := fun nb h => count_spec y fr l 0 nb h hb
  have hI := manyI.start scNum l hb
  rw [← cnt_nn hb] at h
  simp only [scNums]
  generalize (scCnt l).1.toNat = N at h hI
  generalize scList scNum l = R at hI ⊢
  generalize (scCnt l).2.1 = e0 at h hI
  generalize (scCnt l).2.2 = r0 at h hI
  simp only [scRow, fB] at h
  simp only [ac_212, renL, ren, scRow, TT, ↓reduceIte, Nat.reduceEqDiff, Nat.reduceAdd, Nat.reduceMul, reduceCtorEq, Nat.reduceLeDiff]
  refine ⟨_, h _ (by decide), ?_⟩
  simp only [TT, ↓reduceIte, Nat.reduceEqDiff, Nat.reduceAdd, Nat.reduceMul, reduceCtorEq, Nat.reduceLeDiff]
  refine AWc.family (L_sn y fr N) (fun q => manyI scNum N R q.i q.out q.e q.rest) (fun q => 64 - q.i) ⟨0, [], e0, r0⟩ hI ?_ ?_
  · refine Weak.trans (Weak.virtC 3 1 (l := [(0, .op 0 0), (4, .v (.int .i64 N)), (5, errV e0), (6, .os 1100001 0 0 1), (7, .v (.int .i64 0))]) (h := [(0, scRow y fr r0)]) ?_ ?_) (Weak.calc [(0, 0), (1100001, 1)] (by decide) ?_ ?_)
    all_goals simp [WT, al_errV, ren_errV, eI]
  · rintro ⟨i, out, e, rest⟩ hI
    simp only at hI
    by_cases he : e = 0
    · subst he
      by_cases hlt : i < N
      · have f1 : (i : Int) < (N : Int) := by omega
        have hb2 := hI.ok
        have hst := hI.step hlt (scNum_rest rest)
        have hl := hI.len
        have hN : N ≤ 64 := by
          rcases hI.st with ⟨_, h, _⟩ | ⟨h0, _⟩
          · exact h
          · exact absurd rfl h0
        have hm := scGrp_lt rest 0 0 hb2 (by decide) (by decide)
        have k := fun nb h => scgroups_spec y fr rest 0 nb h hb2
        unfold scNum at hst
        simp only at hst
        generalize scGrp 0 0 rest = q at hst hm k
        obtain ⟨m, e, r⟩ := q
        simp only at hst hm
        simp only [scRow, fB] at k
        have e3 : (2 : Nat) ^ 64 = 18446744073709551616 := by decide
        have w2 : IntKind.i64.wrap ((m / 2 : Nat) : Int) = ((m / 2 : Nat) : Int) := wrap64 (by omega)
        have w3 : IntKind.i64.wrap ((m % 2 : Nat) : Int) = ((m % 2 : Nat) : Int) := wrap64 (by omega)
        have w4 : IntKind.i64.wrap (0 - ((m % 2 : Nat) : Int)) = -((m % 2 : Nat) : Int) := by rw [wrap64 (by omega)]; omega
        simp only [L_sn, scRow, errV_0, f1, TT, ↓reduceIte, Nat.reduceEqDiff, Nat.reduceAdd, Nat.reduceMul, reduceCtorEq, Nat.reduceLeDiff]
        refine ⟨_, k _ (by omega), ?_⟩
        have hcs : eI out ++ [AV.v (.int .i64 (unzz m))] = eI (out ++ [unzz m]) := by rw [app_I]; rfl
        have hn : out.length + 1 = (out ++ [unzz m]).length := by simp
        simp only [len_I, sh1, and_1 hm, w2, w3, w4, xor_unzz hm, hcs, hn, TT, ↓reduceIte, Nat.reduceEqDiff, Nat.reduceAdd, Nat.reduceMul, reduceCtorEq, Nat.reduceLeDiff]
        rw [if_pos (by rw [← hn]; omega)]
        refine famC_next ⟨i + 1, out ++ [unzz m], e, r⟩ (show 64 - (i + 1) < 64 - i by omega) hst ?_
        refine Weak.calc [(0, 0), (2500002, 1)] (by decide) ?_ ?_ <;> simp [WT, al_errV, ren_errV, wrap64 (x := (i : Int) + 1) (by omega)]
      · have f1 : ¬ (i : Int) < (N : Int) := by omega
        have hR : R = (out, 0, rest) := by
          rcases hI.st with ⟨_, hN, hle, hR⟩ | ⟨h0, _⟩
          · obtain rfl : i = N := by omega
            exact many_end hR
          · exact absurd rfl h0
        rw [hR]
        simp only [L_sn, scRow, errV_0, f1, TT, ↓reduceIte, Nat.reduceEqDiff, Nat.reduceAdd, Nat.reduceMul, reduceCtorEq, Nat.reduceLeDiff]
        refine EndsR.weak (Weak.freezeC 1 rfl (l := [(2, fI true out), (3, .v .nilIface)]) (h := [(0, scRow y fr rest)]) ?_ ?_) (EndsR.data (.inr rfl) (by simp [ET, fI]) ⟨al_I _, trivial, trivial⟩ (by simp [ET, fB]))
        · simp [WT]
        · simp [WT]
    · have hR : R = (out, e, rest) := by
        rcases hI.st with ⟨h0, _⟩ | ⟨_, hR⟩
        · exact absurd h0 he
        · exact hR
      rw [hR]
      simp only [L_sn, scRow, errV_ne he, TT, ↓reduceIte, Nat.reduceEqDiff, Nat.reduceAdd, Nat.reduceMul, reduceCtorEq, Nat.reduceLeDiff]
      refine EndsR.weak (Weak.freezeC 1 rfl (l := [(2, fI true out), (3, errV e)]) (h := [(0, scRow y fr rest)]) ?_ ?_) (EndsR.data (.inr rfl) (by simp [ET, fI, errV_ne he]) ⟨al_I _, ⟨trivial, trivial⟩, trivial⟩ (by simp [ET, fB]))
      · simp [WT, errV_ne he]
      · simp [WT]
end Go.Proofs.YtonglhkiobibgaaGreatDoor
namespace Go.Proofs.YtonglhkiobibgaaGreatDoor
open Go.RowKit
set_option maxRecDepth 100000
abbrev L_st (y fr : Bool) (N : Nat) (q : Sm (List Int)) : ASt := ⟨envOf [(0, .op 0 0), (4, .v (.int .i64 N)), (5, errV q.e), (6, .os 1 0 q.out.length 1), (7, .v (.int .i64 q.i))], heapOf [(0, scRow y fr q.rest), (1, .row true 37 (eL true q.out))], 2⟩
set_option maxHeartbeats 2000000 in
theorem sctexts_spec (y fr : Bool) (l : List Int) (id nb : Nat) (hid : id < nb) (hb : okB l) :
    ASound Tryz.prog 213 [.op id 0] nb (rowM id (scRow y fr l) (.ret (.tup [fL true (scTexts l).1, errV (scTexts l).2.1]) [(id, some (scRow y fr (scTexts l).2.2))])) := by
  refine ok_213.soundR (by simp) ⟨rfl, trivial⟩ (by simp) ⟨al_B l, trivial⟩ ⟨al_B _, trivial⟩ rfl hid ?_
  have h := fun nb h => count_spec y fr l 0 nb h hb
  have hI := manyI.start scText l hb
  rw [← cnt_nn hb] at h
  simp only [scTexts]
  generalize (scCnt l).1.toNat = N at h hI
  generalize scList scText l = R at hI ⊢
  generalize (scCnt l).2.1 = e0 at h hI
  generalize (scCnt l).2.2 = r0 at h hI
  simp only [scRow, fB] at h
  simp only [ac_213, renL, ren, scRow, TT, ↓reduceIte, Nat.reduceEqDiff, Nat.reduceAdd, Nat.reduceMul, reduceCtorEq, Nat.reduceLeDiff]
  refine ⟨_, h _ (by decide), ?_⟩
  simp only [TT, ↓reduceIte, Nat.reduceEqDiff, Nat.reduceAdd, Nat.reduceMul, reduceCtorEq, Nat.reduceLeDiff]
  refine AWc.family (L_st y fr N) (fun q => manyI scText N R q.i q.out q.e q.rest) (fun q => 64 - q.i) ⟨0, [], e0, r0⟩ hI ?_ ?_
  · refine Weak.trans (Weak.virtC 37 1 (l := [(0, .op 0 0), (4, .v (.int .i64 N)), (5, errV e0), (6, .os 1100001 0 0 1), (7, .v (.int .i64 0))]) (h := [(0, scRow y fr r0)]) ?_ ?_) (Weak.calc [(0, 0), (1100001, 1)] (by decide) ?_ ?_)
    all_goals simp [WT, al_errV, ren_errV, eL]
  · rintro ⟨i, out, e, rest⟩ hI
    simp only at hI
    by_cases he : e = 0
    · subst he
      by_cases hlt : i < N
      · have f1 : (i : Int) < (N : Int) := by omega
        have hb2 := hI.ok
        have hst := hI.step hlt (scText_rest rest)
        have hl := hI.len
        have hN : N ≤ 64 := by
          rcases hI.st with ⟨_, h, _⟩ | ⟨h0, _⟩
          · exact h
          · exact absurd rfl h0
        have k := fun nb h => sctext_spec y fr rest 0 nb h hb2
        generalize scText rest = q at hst k
        obtain ⟨m, e, r⟩ := q
        simp only at hst
        simp only [scRow, fB] at k
        simp only [L_st, scRow, errV_0, f1, TT, ↓reduceIte, Nat.reduceEqDiff, Nat.reduceAdd, Nat.reduceMul, reduceCtorEq, Nat.reduceLeDiff]
        refine ⟨_, k _ (by omega), ?_⟩
        have hcs : eL true out ++ [AV.fs true (eB m) m.length] = eL true (out ++ [m]) := by rw [app_L]; rfl
        have hn : out.length + 1 = (out ++ [m]).length := by simp
        simp only [len_L, hcs, hn, TT, ↓reduceIte, Nat.reduceEqDiff, Nat.reduceAdd, Nat.reduceMul, reduceCtorEq, Nat.reduceLeDiff]
        rw [if_pos (by rw [← hn]; omega)]
        refine famC_next ⟨i + 1, out ++ [m], e, r⟩ (show 64 - (i + 1) < 64 - i by omega) hst ?_
        refine Weak.calc [(0, 0), (1800002, 1)] (by decide) ?_ ?_ <;> simp [WT, al_errV, ren_errV, wrap64 (x := (i : Int) + 1) (by omega)]
      · have f1 : ¬ (i : Int) < (N : Int) := by omega
        have hR : R = (out, 0, rest) := by
          rcases hI.st with ⟨_, hN, hle, hR⟩ | ⟨h0, _⟩
          · obtain rfl : i = N := by omega
            exact many_end hR
          · exact absurd rfl h0
        rw [hR]
        simp only [L_st, scRow, errV_0, f1, TT, ↓reduceIte, Nat.reduceEqDiff, Nat.reduceAdd, Nat.reduceMul, reduceCtorEq, Nat.reduceLeDiff]
        refine EndsR.weak (Weak.freezeC 1 rfl (l := [(2, fL true out), (3, .v .nilIface)]) (h := [(0, scRow y fr rest)]) ?_ ?_) (EndsR.data (.inr rfl) (by simp [ET, fL]) ⟨al_L _, trivial, trivial⟩ (by simp [ET, fB]))
        · simp [WT]
        · simp [WT]
    · have hR : R = (out, e, rest) := by
        rcases hI.st with ⟨h0, _⟩ | ⟨_, hR⟩
        · exact absurd h0 he
        · exact hR
      rw [hR]
      simp only [L_st, scRow, errV_ne he, TT, ↓reduceIte, Nat.reduceEqDiff, Nat.reduceAdd, Nat.reduceMul, reduceCtorEq, Nat.reduceLeDiff]
      refine EndsR.weak (Weak.freezeC 1 rfl (l := [(2, fL true out), (3, errV e)]) (h := [(0, scRow y fr rest)]) ?_ ?_) (EndsR.data (.inr rfl) (by simp [ET, fL, errV_ne he]) ⟨al_L _, ⟨trivial, trivial⟩, trivial⟩ (by simp [ET, fB]))
      · simp [WT, errV_ne he]
      · simp [WT]
end Go.Proofs.YtonglhkiobibgaaGreatDoor
