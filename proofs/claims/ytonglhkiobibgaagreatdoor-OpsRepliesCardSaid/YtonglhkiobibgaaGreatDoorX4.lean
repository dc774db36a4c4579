/- Merged texts: H7, H8, UJ, UK, UC, T3, KD, UD, UE, UF, UG, UH, UI, UL, UM, UN, UO, KE, UP, UQ, UR, US, H9, HA, NJ, HB, HC, HF, HG, HH. -/
import Derived.Test.YtonglhkiobibgaaGreatDoorX3
import Derived.Lib.Bytealg
import Derived.Test.YtonglhkiobibgaaGreatDoorProg
import Derived.WalkKit
import Derived.LaidEql
import Derived.Stop.Asserts
import Derived.RowKitTokens
import Derived.Test.YtonglhkiobibgaaGreatDoorX2
import Derived.Test.YtonglhkiobibgaaGreatDoorX1
set_option linter.unusedSimpArgs false
set_option linter.unusedVariables false
namespace Go.Proofs.YtonglhkiobibgaaGreatDoor
open Go.RowKit
set_option maxRecDepth 100000
theorem ixB_nn (c : UInt8) : ∀ l : List UInt8, 0 ≤ Lib.indexByte l c ↔ c ∈ l
  | [] => by simp [Lib.indexByte]
  | x :: r => by
    have h2 := ixB_nn c r
    have h3 := Lib.indexByte_ge r c
    rw [Lib.indexByte]
    by_cases h : x = c
    · subst h; simp
    · have h' : ¬ c = x := fun h9 => h h9.symm
      rw [if_neg (by simpa using h), List.mem_cons]
      by_cases h4 : Lib.indexByte r c = -1
      · rw [if_pos (by simpa using h4)]
        simp only [h', false_or, ← h2]; omega
      · rw [if_neg (by simpa using h4)]
        simp only [h', false_or, ← h2]; omega
set_option maxHeartbeats 1000000 in
theorem indexL_walk (s : ByteArray) (c : UInt8) (w : World) :
    Calls Tryz.prog 298 #[.string s, .int .u8 c.toNat] w fun e w' => e = .returned (.int .i64 (Lib.indexByte s.data.toList c)) ∧ w' = w := by
  have hx := @run_callFunc_extern Tryz.prog 307 _ Extern.BytealgIndexByte.indexByte Tryz.func307 (by kernel_rfl) (by kernel_rfl) (by kernel_rfl) (by kernel_rfl)
  have hc : ((c.toNat : Int)).toNat.toUInt8 = c := by simp
  go_enter Tryz.func298, Tryz.ntmps298
  go_wp2
  rw [Lib.run_indexByteString, hc]
  simp only [Result.andThen]
  rw [Oper.upon_value]
  go_wp2
  go_ret
  exact ⟨rfl, rfl⟩
theorem indexL_spec (s : ByteArray) (c : UInt8) (nb : Nat) : ASound Tryz.prog 298 [.v (.string s), .v (.int .u8 c.toNat)] nb (.ret (.v (.int .i64 (Lib.indexByte s.data.toList c))) []) := by
  refine ⟨by kernel_rfl, fun x us r R W hrun hr hfr hv => ?_⟩
  simp [AM.run] at hrun
  obtain ⟨rfl, _, rfl⟩ := hrun
  obtain ⟨u, us', rfl, hu, v, vs, rfl, hv, hn⟩ := hv
  rw [VRt] at hn
  subst hn
  rw [VR] at hu hv
  subst hu
  subst hv
  refine (indexL_walk s c x.w).mono ?_
  rintro ev w' ⟨rfl, rfl⟩
  exact ⟨_, x, rfl, rfl, rfl, Then.refl hr nb⟩
/-- a string of one octet -/
abbrev one (c : UInt8) : ByteArray := ByteArray.mk #[c]
theorem one_get (c : UInt8) : (ByteArray.mk #[c])[0]? = some c := rfl
theorem index1_spec (s : ByteArray) (c : UInt8) (nb : Nat) : ASound Tryz.prog 281 [.v (.string s), .v (.string (ByteArray.mk #[c]))] nb (.ret (.v (.int .i64 (Lib.indexByte s.data.toList c))) []) := by
  refine ok_281.sound (by simp) ⟨trivial, trivial, trivial⟩ ?_
  have hz : (((ByteArray.mk #[c]).size : Nat) : Int) = 1 := rfl
  have z2 : ((1 : Int) = 0) = False := eq_false (by decide)
  have z3 : ((1 : Int) = 1) = True := eq_true rfl
  have z1 : ((0 : Int) ≤ 0) = True := eq_true (Int.le_refl 0)
  have hc := fun nb => indexL_spec s c nb
  by_cases h : ByteArray.mk #[c] = s
  · have e : Lib.indexByte s.data.toList c = 0 := by subst h; simp [Lib.indexByte]
    simp only [ac_281, hz, z1, z2, z3, strOp, decide_eq_true h, e, decide_false, TT, ↓reduceIte, Nat.reduceEqDiff, Nat.reduceAdd, Nat.reduceMul, reduceCtorEq, Nat.reduceLeDiff]
    exact Ends.data (.inr rfl) (by simp [ET]) trivial
  simp only [ac_281, hz, z1, z2, z3, strOp, h, one_get, Int.toNat_zero, decide_true, decide_false, TT, ↓reduceIte, Nat.reduceEqDiff, Nat.reduceAdd, Nat.reduceMul, reduceCtorEq, Nat.reduceLeDiff]
  refine ⟨_, hc _, ?_⟩
  simp only [TT, ↓reduceIte, Nat.reduceEqDiff, Nat.reduceAdd, Nat.reduceMul, reduceCtorEq, Nat.reduceLeDiff]
  exact Ends.data (.inr rfl) (by simp [ET]) trivial
theorem indexS1_spec (s : ByteArray) (c : UInt8) (nb : Nat) : ASound Tryz.prog 251 [.v (.string s), .v (.string (ByteArray.mk #[c]))] nb (.ret (.v (.int .i64 (Lib.indexByte s.data.toList c))) []) := by
  refine ok_251.sound (by simp) ⟨trivial, trivial, trivial⟩ ?_
  simp only [ac_251, TT, ↓reduceIte, Nat.reduceEqDiff, Nat.reduceAdd, Nat.reduceMul, reduceCtorEq, Nat.reduceLeDiff]
  refine ⟨_, index1_spec s c _, ?_⟩
  simp only [TT, ↓reduceIte, Nat.reduceEqDiff, Nat.reduceAdd, Nat.reduceMul, reduceCtorEq, Nat.reduceLeDiff]
  exact Ends.data (.inr rfl) (by simp [ET]) trivial
theorem contains1_spec (s : ByteArray) (c : UInt8) (nb : Nat) : ASound Tryz.prog 252 [.v (.string s), .v (.string (ByteArray.mk #[c]))] nb (.ret (.v (.bool (decide (c ∈ s.data.toList)))) []) := by
  refine ok_252.sound (by simp) ⟨trivial, trivial, trivial⟩ ?_
  have hd : decide (0 ≤ Lib.indexByte s.data.toList c) = decide (c ∈ s.data.toList) := by
    by_cases h : c ∈ s.data.toList
    · rw [decide_eq_true h, decide_eq_true ((ixB_nn c _).2 h)]
    · rw [decide_eq_false h, decide_eq_false fun h9 => h ((ixB_nn c _).1 h9)]
  rw [← hd]
  simp only [ac_252, TT, ↓reduceIte, Nat.reduceEqDiff, Nat.reduceAdd, Nat.reduceMul, reduceCtorEq, Nat.reduceLeDiff]
  refine ⟨_, indexS1_spec s c _, ?_⟩
  simp only [TT, ↓reduceIte, Nat.reduceEqDiff, Nat.reduceAdd, Nat.reduceMul, reduceCtorEq, Nat.reduceLeDiff]
  exact Ends.data (.inr rfl) (by simp [ET]) trivial
/-- may a name be? -/
def nameE (s : ByteArray) : Int := if s = ByteArray.mk #[] ∨ s = ByteArray.mk #[46] ∨ s = ByteArray.mk #[46, 46] ∨ 16 < s.size ∨ 47 ∈ s.data.toList ∨ 0 ∈ s.data.toList then 106 else 0
theorem name_spec (s : ByteArray) (nb : Nat) : ASound Tryz.prog 219 [.v (.string s)] nb (.ret (.v (.int .i64 (nameE s))) []) := by
  refine ok_219.sound (by simp) ⟨trivial, trivial⟩ ?_
  by_cases c1 : s = ByteArray.mk #[]
  · have e : nameE s = 106 := if_pos (.inl c1)
    simp only [ac_219, c1 ▸ e, c1, strOp, decide_true, TT, ↓reduceIte, Nat.reduceEqDiff, Nat.reduceAdd, Nat.reduceMul, reduceCtorEq, Nat.reduceLeDiff]
    exact Ends.data (.inr rfl) (by simp [ET]) trivial
  by_cases c2 : s = ByteArray.mk #[46]
  · have e : nameE s = 106 := if_pos (.inr (.inl c2))
    simp only [ac_219, e, c1, decide_eq_true c2, strOp, decide_false, TT, ↓reduceIte, Nat.reduceEqDiff, Nat.reduceAdd, Nat.reduceMul, reduceCtorEq, Nat.reduceLeDiff]
    exact Ends.data (.inr rfl) (by simp [ET]) trivial
  by_cases c3 : s = ByteArray.mk #[46, 46]
  · have e : nameE s = 106 := if_pos (.inr (.inr (.inl c3)))
    simp only [ac_219, e, c1, c2, decide_eq_true c3, strOp, decide_false, TT, ↓reduceIte, Nat.reduceEqDiff, Nat.reduceAdd, Nat.reduceMul, reduceCtorEq, Nat.reduceLeDiff]
    exact Ends.data (.inr rfl) (by simp [ET]) trivial
  by_cases c4 : 16 < s.size
  · have e : nameE s = 106 := if_pos (.inr (.inr (.inr (.inl c4))))
    have d4 : ((16 : Int) < (s.size : Int)) = True := eq_true (by omega)
    simp only [ac_219, e, c1, c2, c3, d4, strOp, decide_false, decide_true, TT, ↓reduceIte, Nat.reduceEqDiff, Nat.reduceAdd, Nat.reduceMul, reduceCtorEq, Nat.reduceLeDiff]
    exact Ends.data (.inr rfl) (by simp [ET]) trivial
  have d4 : ((16 : Int) < (s.size : Int)) = False := eq_false (by omega)
  have k1 := fun nb => contains1_spec s 47 nb
  have k2 := fun nb => contains1_spec s 0 nb
  simp only [ac_219, c1, c2, c3, d4, strOp, decide_false, TT, ↓reduceIte, Nat.reduceEqDiff, Nat.reduceAdd, Nat.reduceMul, reduceCtorEq, Nat.reduceLeDiff]
  refine ⟨_, k1 _, ?_⟩
  by_cases c5 : (47 : UInt8) ∈ s.data.toList
  · have e : nameE s = 106 := if_pos (.inr (.inr (.inr (.inr (.inl c5)))))
    simp only [e, decide_eq_true c5, TT, ↓reduceIte, Nat.reduceEqDiff, Nat.reduceAdd, Nat.reduceMul, reduceCtorEq, Nat.reduceLeDiff]
    exact Ends.data (.inr rfl) (by simp [ET]) trivial
  simp only [decide_eq_false c5, TT, ↓reduceIte, Nat.reduceEqDiff, Nat.reduceAdd, Nat.reduceMul, reduceCtorEq, Nat.reduceLeDiff]
  refine ⟨_, k2 _, ?_⟩
  by_cases c6 : (0 : UInt8) ∈ s.data.toList
  · have e : nameE s = 106 := if_pos (.inr (.inr (.inr (.inr (.inr c6)))))
    simp only [e, decide_eq_true c6, TT, ↓reduceIte, Nat.reduceEqDiff, Nat.reduceAdd, Nat.reduceMul, reduceCtorEq, Nat.reduceLeDiff]
    exact Ends.data (.inr rfl) (by simp [ET]) trivial
  have e : nameE s = 0 := by
    rw [nameE, if_neg]
    intro h; rcases h with h | h | h | h | h | h <;> contradiction
  simp only [e, decide_eq_false c6, TT, ↓reduceIte, Nat.reduceEqDiff, Nat.reduceAdd, Nat.reduceMul, reduceCtorEq, Nat.reduceLeDiff]
  exact Ends.data (.inr rfl) (by simp [ET]) trivial
end Go.Proofs.YtonglhkiobibgaaGreatDoor
namespace Go.Proofs.YtonglhkiobibgaaGreatDoor
open Go.RowKit
set_option maxRecDepth 100000
abbrev aEnt (e : Ent) : AV := .agg [.v (.string e.name), .v (.int .i64 e.ino)]
def mayE (e : Ent) : Bool := decide (nameE e.name = 0) && (decide (1 ≤ e.ino) && decide (e.ino ≤ 2147483647))
theorem mayE_spec (e : Ent) (nb : Nat) : ASound Tryz.prog 186 [aEnt e] nb (.ret (.v (.bool (mayE e))) []) := by
  refine ok_186.sound (by simp) ⟨⟨trivial, trivial, trivial⟩, trivial⟩ ?_
  simp only [ac_186, aEnt, TT, ↓reduceIte, Nat.reduceEqDiff, Nat.reduceAdd, Nat.reduceMul, reduceCtorEq, Nat.reduceLeDiff]
  refine ⟨_, name_spec e.name _, ?_⟩
  by_cases h : nameE e.name = 0
  · by_cases h1 : 1 ≤ e.ino
    · simp only [h, h1, decide_true, TT, ↓reduceIte, Nat.reduceEqDiff, Nat.reduceAdd, Nat.reduceMul, reduceCtorEq, Nat.reduceLeDiff]
      exact Ends.data (.inr rfl) (by simp [ET, mayE, h, h1]) trivial
    · simp only [h, h1, decide_true, decide_false, TT, ↓reduceIte, Nat.reduceEqDiff, Nat.reduceAdd, Nat.reduceMul, reduceCtorEq, Nat.reduceLeDiff]
      exact Ends.data (.inr rfl) (by simp [ET, mayE, h, h1]) trivial
  · simp only [h, decide_false, TT, ↓reduceIte, Nat.reduceEqDiff, Nat.reduceAdd, Nat.reduceMul, reduceCtorEq, Nat.reduceLeDiff]
    exact Ends.data (.inr rfl) (by simp [ET, mayE, h]) trivial
def lessS (a b : ByteArray) : Bool := Op.bytesLess a.toList b.toList
/-- do the names rise, and may each entry be? -/
def okD : Option ByteArray → List Ent → Bool
  | _, [] => true
  | p, e :: r => mayE e && ((match p with | none => true | some q => lessS q e.name) && okD (some e.name) r)
def prevE (l : List Ent) (i : Nat) : Option ByteArray := if i = 0 then none else (l[i - 1]?).map Ent.name
theorem prevE_s {l : List Ent} {i : Nat} {e : Ent} (h : l[i]? = some e) : prevE l (i + 1) = some e.name := by simp [prevE, h]
theorem okD_drop {l : List Ent} {i : Nat} {e : Ent} (h : l[i]? = some e) : okD (prevE l i) (l.drop i) = (mayE e && ((match prevE l i with | none => true | some q => lessS q e.name) && okD (prevE l (i + 1)) (l.drop (i + 1)))) := by
  have hi := (List.getElem?_eq_some_iff.1 h)
  rw [List.drop_eq_getElem_cons hi.1, hi.2, prevE_s h]; rfl
def chkD (l : List Ent) : Int := if 63 < l.length then 9 else if okD none l = true then 0 else 9
abbrev L_dc (fr : Bool) (l : List Ent) (i : Nat) : ASt := ⟨envOf [(0, fEnts fr l), (8, fEnts fr l), (9, .v (.int .i64 l.length)), (10, .v (.int .i64 i))], heapOf [], 1⟩
set_option maxHeartbeats 2000000 in
theorem dchk_spec (fr : Bool) (l : List Ent) (nb : Nat) : ASound Tryz.prog 128 [fEnts fr l] nb (.ret (.v (.int .i64 (chkD l))) []) := by
  refine ok_128.sound (by simp) ⟨al_fEnts l, trivial⟩ ?_
  by_cases hl : 63 < l.length
  · have d : ((63 : Int) < (l.length : Int)) = True := eq_true (by omega)
    simp only [ac_128, fEnts, d, decide_true, TT, ↓reduceIte, Nat.reduceEqDiff, Nat.reduceAdd, Nat.reduceMul, reduceCtorEq, Nat.reduceLeDiff]
    exact Ends.data (.inr rfl) (by simp [ET, chkD, hl]) trivial
  have d : ((63 : Int) < (l.length : Int)) = False := eq_false (by omega)
  have e0 : chkD l = if okD none l = true then 0 else 9 := if_neg hl
  rw [e0]
  simp only [ac_128, fEnts, d, decide_false, TT, ↓reduceIte, Nat.reduceEqDiff, Nat.reduceAdd, Nat.reduceMul, reduceCtorEq, Nat.reduceLeDiff]
  refine AWc.family (L_dc fr l) (fun i => i ≤ l.length ∧ okD (prevE l i) (l.drop i) = okD none l) (fun i => l.length - i) 0 ⟨Nat.zero_le _, rfl⟩ ?_ ?_
  · refine Weak.calc [] (by decide) ?_ ?_ <;> simp [WT, al_Ents, ren_Ents, fEnts]
  · rintro i ⟨hi, he⟩
    by_cases hlt : i < l.length
    · obtain ⟨e, hx, e1, e0⟩ := lt_at hlt
      obtain ⟨b0, b1⟩ := get_Ents hx
      rw [okD_drop hx] at he
      simp only [L_dc, fEnts, e1, e0, b0, b1, Int.toNat_natCast, TT, ↓reduceIte, Nat.reduceEqDiff, Nat.reduceAdd, Nat.reduceMul, reduceCtorEq, Nat.reduceLeDiff]
      refine ⟨_, mayE_spec e _, ?_⟩
      cases hm : mayE e
      · rw [hm, Bool.false_and] at he
        simp only [TT, ↓reduceIte, Nat.reduceEqDiff, Nat.reduceAdd, Nat.reduceMul, reduceCtorEq, Nat.reduceLeDiff]
        exact ⟨by rfl, Ends.data (.inr rfl) (by simp [ET, ← he]) trivial⟩
      rw [hm, Bool.true_and] at he
      rcases Nat.eq_zero_or_pos i with h0 | h0
      · subst h0
        have g : ((0 : Int) < ((0 : Nat) : Int)) = False := eq_false (by omega)
        have w0 : IntKind.i64.wrap 1 = 1 := by rfl
        simp only [g, decide_false, TT, ↓reduceIte, Nat.reduceEqDiff, Nat.reduceAdd, Nat.reduceMul, reduceCtorEq, Nat.reduceLeDiff]
        refine ⟨by rfl, famC_next 1 (by omega) ⟨by omega, by rw [← he]; simp [prevE]⟩ ?_⟩
        refine Weak.calc [] (by decide) ?_ ?_ <;> simp [WT, w0, al_Ents, ren_Ents, fEnts]
      · have g : ((0 : Int) < (i : Int)) = True := eq_true (by omega)
        obtain ⟨p, hp, p1, p0⟩ := lt_at (show i - 1 < l.length by omega)
        obtain ⟨q0, q1⟩ := get_Ents hp
        have hpr : prevE l i = some p.name := by rw [prevE, if_neg (by omega), hp]; rfl
        rw [hpr] at he
        simp only [lessS] at he
        have w1 : IntKind.i64.wrap ((i : Int) - 1) = ((i - 1 : Nat) : Int) := by rw [wrap64 (by omega)]; omega
        simp only [g, decide_true, w1, p1, p0, q0, q1, Int.toNat_natCast, strOp, TT, ↓reduceIte, Nat.reduceEqDiff, Nat.reduceAdd, Nat.reduceMul, reduceCtorEq, Nat.reduceLeDiff]
        cases hls : Op.bytesLess p.name.toList e.name.toList
        · rw [hls] at he
          simp only [Bool.false_and] at he
          simp only [hls, Bool.not_true, Bool.not_false, TT, ↓reduceIte, Nat.reduceEqDiff, Nat.reduceAdd, Nat.reduceMul, reduceCtorEq, Nat.reduceLeDiff]
          exact ⟨by rfl, Ends.data (.inr rfl) (by simp [ET, ← he]) trivial⟩
        · rw [hls] at he
          simp only [Bool.true_and] at he
          simp only [hls, Bool.not_true, Bool.not_false, TT, ↓reduceIte, Nat.reduceEqDiff, Nat.reduceAdd, Nat.reduceMul, reduceCtorEq, Nat.reduceLeDiff]
          refine ⟨by rfl, famC_next (i + 1) (by omega) ⟨by omega, he⟩ ?_⟩
          refine Weak.calc [] (by decide) ?_ ?_ <;> simp [WT, al_Ents, ren_Ents, fEnts, wrap64 (x := (i : Int) + 1) (by omega)]
    · obtain rfl : i = l.length := by omega
      have e1 : ¬ ((l.length : Int) < (l.length : Int)) := by omega
      have h9 : okD none l = true := by rw [← he, List.drop_length]; rfl
      simp only [L_dc, fEnts, e1, TT, ↓reduceIte, Nat.reduceEqDiff, Nat.reduceAdd, Nat.reduceMul, reduceCtorEq, Nat.reduceLeDiff]
      exact Ends.data (.inr rfl) (by simp [ET, h9]) trivial
/-- may names be? -/
def namI : List ByteArray → Int
  | [] => 0
  | s :: r => if nameE s = 0 then namI r else nameE s
theorem namI_drop {l : List ByteArray} {i : Nat} {s : ByteArray} (h : l[i]? = some s) : namI (l.drop i) = if nameE s = 0 then namI (l.drop (i + 1)) else nameE s := by
  have hi := (List.getElem?_eq_some_iff.1 h)
  rw [List.drop_eq_getElem_cons hi.1, hi.2]; rfl
def namedL (l : List ByteArray) : Int := if namI l = 0 then (if 8 < l.length then 5 else 0) else namI l
abbrev L_nm (fr : Bool) (l : List ByteArray) (i : Nat) : ASt := ⟨envOf [(0, fS fr l), (6, fS fr l), (7, .v (.int .i64 l.length)), (8, .v (.int .i64 i))], heapOf [], 1⟩
theorem named_spec (fr : Bool) (l : List ByteArray) (nb : Nat) (hl : l.length ≤ 140737488355328) : ASound Tryz.prog 170 [fS fr l] nb (.ret (.v (.int .i64 (namedL l))) []) := by
  refine ok_170.sound (by simp) ⟨al_fS l, trivial⟩ ?_
  simp only [ac_170, fS, TT, ↓reduceIte, Nat.reduceEqDiff, Nat.reduceAdd, Nat.reduceMul, reduceCtorEq, Nat.reduceLeDiff]
  refine AWc.family (L_nm fr l) (fun i => i ≤ l.length ∧ namI (l.drop i) = namI l) (fun i => l.length - i) 0 ⟨Nat.zero_le _, rfl⟩ ?_ ?_
  · refine Weak.calc [] (by decide) ?_ ?_ <;> simp [WT, al_S, ren_S, fS]
  · rintro i ⟨hi, he⟩
    by_cases hlt : i < l.length
    · obtain ⟨s, hx, e1, e0⟩ := lt_at hlt
      rw [namI_drop hx] at he
      simp only [L_nm, fS, e1, e0, get_S hx, Int.toNat_natCast, TT, ↓reduceIte, Nat.reduceEqDiff, Nat.reduceAdd, Nat.reduceMul, reduceCtorEq, Nat.reduceLeDiff]
      refine ⟨_, name_spec s _, ?_⟩
      by_cases h : nameE s = 0
      · rw [if_pos h] at he
        simp only [h, decide_true, TT, ↓reduceIte, Nat.reduceEqDiff, Nat.reduceAdd, Nat.reduceMul, reduceCtorEq, Nat.reduceLeDiff]
        refine famC_next (i + 1) (by omega) ⟨by omega, he⟩ ?_
        refine Weak.calc [] (by decide) ?_ ?_ <;> simp [WT, al_S, ren_S, fS, wrap64 (x := (i : Int) + 1) (by omega)]
      · rw [if_neg h] at he
        have h2 : namedL l = nameE s := by rw [namedL, ← he, if_neg h]
        simp only [h, decide_false, h2, TT, ↓reduceIte, Nat.reduceEqDiff, Nat.reduceAdd, Nat.reduceMul, reduceCtorEq, Nat.reduceLeDiff]
        exact Ends.data (.inr rfl) (by simp [ET]) trivial
    · obtain rfl : i = l.length := by omega
      have e1 : ¬ ((l.length : Int) < (l.length : Int)) := by omega
      have h9 : namI l = 0 := by rw [← he, List.drop_length]; rfl
      have h8 : namedL l = if 8 < l.length then 5 else 0 := by rw [namedL, if_pos h9]
      rw [h8]
      by_cases h7 : 8 < l.length
      · have d : ((8 : Int) < (l.length : Int)) = True := eq_true (by omega)
        simp only [L_nm, fS, e1, d, TT, ↓reduceIte, Nat.reduceEqDiff, Nat.reduceAdd, Nat.reduceMul, reduceCtorEq, Nat.reduceLeDiff]
        exact Ends.data (.inr rfl) (by simp [ET, h7]) trivial
      · have d : ((8 : Int) < (l.length : Int)) = False := eq_false (by omega)
        simp only [L_nm, fS, e1, d, TT, ↓reduceIte, Nat.reduceEqDiff, Nat.reduceAdd, Nat.reduceMul, reduceCtorEq, Nat.reduceLeDiff]
        exact Ends.data (.inr rfl) (by simp [ET, h7]) trivial
end Go.Proofs.YtonglhkiobibgaaGreatDoor
namespace Go.Proofs.YtonglhkiobibgaaGreatDoor
open Go.RowKit Go.Extern.Stop Go.Stop Go.Extern
theorem tz_valueOf155 (t : Addr) (w : World) : (ReflectliteValue.unpack (.iface 324 (.pointer (some t)))).run Tryz.prog w
    = .ok (.agg #[.pointer (some ⟨4, 324, none⟩), .pointer (some ⟨w.heap.size, 0, none⟩), .int .u64 150]) (w.alloc (.cells #[.pointer (some t)] 324)) := by kernel_rfl
theorem tz_type155 (a : Addr) (w : World) : (ReflectliteValue.methodAny (ReflectliteValue.valueError "reflectlite.Value.Type" 0) (fun t _ _ _ => ReflectliteType.toType t) #[.agg #[.pointer (some ⟨4, 324, none⟩), .pointer (some a), .int .u64 150]]).run Tryz.prog w
    = .ok (.iface 342 (.agg #[.pointer (some ⟨4, 324, none⟩)])) w := by kernel_rfl
theorem tz_methodKind (h : Value) (w : World) : (Go.method 559 342 (.agg #[h]) "Kind").run Tryz.prog w = .ok (324, h) w := by kernel_rfl
theorem tz_kind155 (w : World) : ((ReflectliteType.abiMethod fun t => (fun a : Nat => Value.int IntKind.u8 (a : Int)) <$> Rtype.kind t) #[.pointer (some ⟨4, 324, none⟩)]).run Tryz.prog w = .ok (.int .u8 22) w := by kernel_rfl
theorem tz_kind153 (w : World) : ((ReflectliteType.abiMethod fun t => (fun a : Nat => Value.int IntKind.u8 (a : Int)) <$> Rtype.kind t) #[.pointer (some ⟨4, 323, none⟩)]).run Tryz.prog w = .ok (.int .u8 25) w := by kernel_rfl
theorem tz_rlm (z : Sem Value) (f : TypeId → Addr → Nat → Nat → Sem Value) (v : Value) :
    ReflectliteValue.method z f #[v] = (do match ← ReflectliteValue.parts v with | none => z | some (t, a, fl) => f t a fl (fl % 32)) := rfl
theorem tz_parts155 (a : Addr) (w : World) : (ReflectliteValue.parts (.agg #[.pointer (some ⟨4, 324, none⟩), .pointer (some a), .int .u64 150])).run Tryz.prog w = .ok (some (324, a, 150)) w := by kernel_rfl
theorem tz_isNil155 (a p : Addr) (W : World) (ha : W.cell? a = some (.pointer (some p))) :
    (ReflectliteValue.method (ReflectliteValue.valueError "reflectlite.Value.IsNil" 0) ReflectliteValue.isNil #[.agg #[.pointer (some ⟨4, 324, none⟩), .pointer (some a), .int .u64 150]]).run Tryz.prog W = .ok (.bool false) W := by
  rw [tz_rlm]
  simp only [Sem.run_bind, tz_parts155, Result.andThen]
  simp [ReflectliteValue.isNil, loadVar, isAgg, underlying, Tryz.underlying324, ha, Result.andThen]
theorem tz_methodElem (h : Value) (w : World) : (Go.method 559 342 (.agg #[h]) "Elem").run Tryz.prog w = .ok (337, .agg #[h]) w := by kernel_rfl
theorem tz_methodImplements (h : Value) (w : World) : (Go.method 559 342 (.agg #[h]) "Implements").run Tryz.prog w = .ok (338, .agg #[h]) w := by kernel_rfl
theorem tz_methodAssignableTo (h : Value) (w : World) : (Go.method 559 342 (.agg #[h]) "AssignableTo").run Tryz.prog w = .ok (335, .agg #[h]) w := by kernel_rfl
theorem tz_elem155 (w : World) : (ReflectliteType.method ReflectliteType.elem #[.agg #[.pointer (some ⟨4, 324, none⟩)]]).run Tryz.prog w = .ok (.iface 342 (.agg #[.pointer (some ⟨4, 323, none⟩)])) w := by kernel_rfl
theorem tz_implements153 (w : World) : (ReflectliteType.relation "Implements" ReflectliteType.implements_ #[.agg #[.pointer (some ⟨4, 323, none⟩)], .iface 342 (.agg #[.pointer (some ⟨4, 102, none⟩)])]).run Tryz.prog w = .ok (.bool true) w := by kernel_rfl
theorem tz_typeOf153 (v : Value) (w : World) : (ReflectliteType.typeOf #[.iface 323 v]).run Tryz.prog w = .ok (.iface 342 (.agg #[.pointer (some ⟨4, 323, none⟩)])) w := by kernel_rfl
theorem tz_assignable153 (w : World) : (ReflectliteType.relation "AssignableTo" ReflectliteType.assignableTo #[.agg #[.pointer (some ⟨4, 323, none⟩)], .iface 342 (.agg #[.pointer (some ⟨4, 323, none⟩)])]).run Tryz.prog w = .ok (.bool true) w := by kernel_rfl
theorem tz_valueOf153 (e : Int) (w : World) : (ReflectliteValue.unpack (.iface 323 (.agg #[.int .i64 e]))).run Tryz.prog w
    = .ok (.agg #[.pointer (some ⟨4, 323, none⟩), .pointer (some ⟨w.heap.size, 0, none⟩), .int .u64 153]) (w.alloc (.cells #[.int .i64 e] 323)) := by kernel_rfl
theorem tz_elemOf155 (w : World) : (Rtype.elem? 324).run Tryz.prog w = .ok (some 323) w := by kernel_rfl
theorem tz_mk153 (p : Addr) (w : World) : (ReflectliteValue.mk 323 p ReflectliteValue.flagAddr).run Tryz.prog w = .ok (.agg #[.pointer (some ⟨4, 323, none⟩), .pointer (some p), .int .u64 409]) w := by kernel_rfl
theorem tz_elemV155 (a p : Addr) (W : World) (ha : W.cell? a = some (.pointer (some p))) :
    (ReflectliteValue.method (ReflectliteValue.valueError "reflectlite.Value.Elem" 0) ReflectliteValue.elem #[.agg #[.pointer (some ⟨4, 324, none⟩), .pointer (some a), .int .u64 150]]).run Tryz.prog W
      = .ok (.agg #[.pointer (some ⟨4, 323, none⟩), .pointer (some p), .int .u64 409]) W := by
  rw [tz_rlm]
  simp only [Sem.run_bind, tz_parts155, Result.andThen]
  simp [ReflectliteValue.elem, loadVar, isAgg, underlying, Tryz.underlying324, ha, Result.andThen, tz_elemOf155, tz_mk153]
theorem tz_rls (v x : Value) : ReflectliteValue.set #[v, x] = (do
    let (some (dst, a, fl), some (src, b, _)) := (← ReflectliteValue.parts v, ← ReflectliteValue.parts x)
      | unsupported (.noEntry "extern/(internal/reflectlite.Value).Set.zeroValue")
    if fl / ReflectliteValue.flagAddr % 2 == 0 then unsupported (.noEntry "extern/(internal/reflectlite.Value).Set.unaddressable")
    let val ← loadVar src b
    if ← Rtype.directlyAssignable dst src then storeVar dst a val
    else if ← Rtype.implements dst src then
      if (← Rtype.kind src) == 20 then
        match val with
        | .nilIface => unsupported (.noEntry "extern/reflectlite: a nil value of one interface type handed on as a value of another")
        | _ => storeVar dst a val
      else storeVar dst a (.iface src val)
    else panicString ("reflectlite.Set: value of type " ++ (← Rtype.spelt src) ++ " is not assignable to type " ++ (← Rtype.spelt dst))
    pure (.tuple #[])) := rfl
theorem tz_parts153a (a : Addr) (w : World) : (ReflectliteValue.parts (.agg #[.pointer (some ⟨4, 323, none⟩), .pointer (some a), .int .u64 409])).run Tryz.prog w = .ok (some (323, a, 409)) w := by kernel_rfl
theorem tz_parts153 (a : Addr) (w : World) : (ReflectliteValue.parts (.agg #[.pointer (some ⟨4, 323, none⟩), .pointer (some a), .int .u64 153])).run Tryz.prog w = .ok (some (323, a, 153)) w := by kernel_rfl
theorem tz_direct153 (w : World) : (Rtype.directlyAssignable 323 323).run Tryz.prog w = .ok true w := by kernel_rfl
end Go.Proofs.YtonglhkiobibgaaGreatDoor
namespace Go.Proofs.YtonglhkiobibgaaGreatDoor
open Go.RowKit Go.Extern.Stop Go.Stop Go.Extern
theorem tz_set153 (ta b : Addr) (e : Int) (old : Value) (W : World) (hb : W.cell? b = some (.int .i64 e)) (ht : W.cell? ta = some old) (hf : W.frozen? ta = false) :
    (ReflectliteValue.set #[.agg #[.pointer (some ⟨4, 323, none⟩), .pointer (some ta), .int .u64 409], .agg #[.pointer (some ⟨4, 323, none⟩), .pointer (some b), .int .u64 153]]).run Tryz.prog W
      = .ok (.tuple #[]) (W.setCell ta (.int .i64 e)) := by
  rw [tz_rls]
  simp only [Sem.run_bind, tz_parts153a, tz_parts153, Result.andThen]
  simp [ReflectliteValue.flagAddr, loadVar, isAgg, underlying, Tryz.underlying323, hb, Result.andThen, tz_direct153, storeVar, Value.cells, storeCells, Addr.add, loadCells, loadCellsFrom]
  rw [run_store Tryz.prog W ta _ _ (by rfl)]
  simp [ht, hf]
set_option maxHeartbeats 4000000 in
theorem tz_as (e : Int) (t : Addr) (old : Value) (w : World) (hg : w.cell? ⟨0, 0, none⟩ = some (.iface 342 (.agg #[.pointer (some ⟨4, 102, none⟩)]))) (ht0 : w.cell? t = some old) (hf0 : w.frozen? t = false) :
    Calls Tryz.prog 123 #[.iface 323 (.agg #[.int .i64 e]), .iface 324 (.pointer (some t))] w fun ev w' => ev = .returned (.bool true) ∧ w' = ((((w.alloc (.cells #[.pointer (some t)] 324)).alloc (.cells #[.pointer (some ⟨4, 324, none⟩), .pointer (some ⟨w.heap.size, 0, none⟩), .int .u64 150] 281)).alloc (.cells #[.pointer (some ⟨4, 324, none⟩), .pointer (some ⟨w.heap.size, 0, none⟩), .int .u64 150] 281)).alloc (.cells #[.int .i64 e] 323)).setCell t (.int .i64 e) := by
  have h6 := @run_callFunc_extern Tryz.prog 181 _ (fun args => ReflectliteValue.unpack (args.getD 0 (.tuple #[]))) Tryz.func181 (by kernel_rfl) (by kernel_rfl) (by kernel_rfl) (by kernel_rfl)
  have h7 := @run_callFunc_extern Tryz.prog 182 _ (ReflectliteValue.methodAny (ReflectliteValue.valueError "reflectlite.Value.Type" 0) (fun t _ _ _ => ReflectliteType.toType t)) Tryz.func182 (by kernel_rfl) (by kernel_rfl) (by kernel_rfl) (by kernel_rfl)
  have h8 := @run_callFunc_extern Tryz.prog 183 _ (ReflectliteValue.method (ReflectliteValue.valueError "reflectlite.Value.IsNil" 0) ReflectliteValue.isNil) Tryz.func183 (by kernel_rfl) (by kernel_rfl) (by kernel_rfl) (by kernel_rfl)
  have h27 := @run_callFunc_extern Tryz.prog 324 _ (ReflectliteType.abiMethod fun t => do pure (.int .u8 (← Rtype.kind t))) Tryz.func324 (by kernel_rfl) (by kernel_rfl) (by kernel_rfl) (by kernel_rfl)
  have h37 := @run_callFunc_extern Tryz.prog 337 _ (ReflectliteType.method ReflectliteType.elem) Tryz.func337 (by kernel_rfl) (by kernel_rfl) (by kernel_rfl) (by kernel_rfl)
  have h38 := @run_callFunc_extern Tryz.prog 338 _ (ReflectliteType.relation "Implements" ReflectliteType.implements_) Tryz.func338 (by kernel_rfl) (by kernel_rfl) (by kernel_rfl) (by kernel_rfl)
  have h10 := @run_callFunc_extern Tryz.prog 227 _ ReflectliteType.typeOf Tryz.func227 (by kernel_rfl) (by kernel_rfl) (by kernel_rfl) (by kernel_rfl)
  have h35 := @run_callFunc_extern Tryz.prog 335 _ (ReflectliteType.relation "AssignableTo" ReflectliteType.assignableTo) Tryz.func335 (by kernel_rfl) (by kernel_rfl) (by kernel_rfl) (by kernel_rfl)
  have h11 := @run_callFunc_extern Tryz.prog 228 _ (ReflectliteValue.method (ReflectliteValue.valueError "reflectlite.Value.Elem" 0) ReflectliteValue.elem) Tryz.func228 (by kernel_rfl) (by kernel_rfl) (by kernel_rfl) (by kernel_rfl)
  have h12 := @run_callFunc_extern Tryz.prog 229 _ ReflectliteValue.set Tryz.func229 (by kernel_rfl) (by kernel_rfl) (by kernel_rfl) (by kernel_rfl)
  have tO := tz_typeOf153
  have mA := tz_methodAssignableTo
  have a25 := tz_assignable153
  have v25 := tz_valueOf153
  have f6 := tz_valueOf155
  have f7 := tz_type155
  have mK := tz_methodKind
  have mE := tz_methodElem
  have mI := tz_methodImplements
  have k27 := tz_kind155
  have k25 := tz_kind153
  have e27 := tz_elem155
  have i25 := tz_implements153
  have n8 := tz_isNil155 ⟨w.heap.size, 0, none⟩ t ((w.alloc (.cells #[.pointer (some t)] 324)).alloc (.cells #[.pointer (some ⟨4, 324, none⟩), .pointer (some ⟨w.heap.size, 0, none⟩), .int .u64 150] 281)) (by simp)
  have hlt : 0 < w.heap.size := by
    rcases Nat.eq_zero_or_pos w.heap.size with h0 | h
    · simp [World.cell?, h0] at hg
    · exact h
  have hg2 : ((w.alloc (.cells #[.pointer (some t)] 324)).alloc (.cells #[.pointer (some ⟨4, 324, none⟩), .pointer (some ⟨w.heap.size, 0, none⟩), .int .u64 150] 281)).cell? ⟨0, 0, none⟩ = some (.iface 342 (.agg #[.pointer (some ⟨4, 102, none⟩)])) := by
    rw [World.cell?_alloc_lt _ _ ⟨0, 0, none⟩ (by simp), World.cell?_alloc_lt _ _ ⟨0, 0, none⟩ hlt]; exact hg
  have htl : t.block < w.heap.size := by
    rcases Nat.lt_or_ge t.block w.heap.size with h | h
    · exact h
    · simp [World.cell?, Array.getElem?_eq_none h] at ht0
  have el := tz_elemV155 ⟨w.heap.size, 0, none⟩ t (((w.alloc (.cells #[.pointer (some t)] 324)).alloc (.cells #[.pointer (some ⟨4, 324, none⟩), .pointer (some ⟨w.heap.size, 0, none⟩), .int .u64 150] 281)).alloc (.cells #[.pointer (some ⟨4, 324, none⟩), .pointer (some ⟨w.heap.size, 0, none⟩), .int .u64 150] 281)) (by rw [World.cell?_alloc_lt _ _ ⟨w.heap.size, 0, none⟩ (by simp; omega)]; simp)
  have st := tz_set153 t ⟨w.heap.size + 1 + 1 + 1, 0, none⟩ e old ((((w.alloc (.cells #[.pointer (some t)] 324)).alloc (.cells #[.pointer (some ⟨4, 324, none⟩), .pointer (some ⟨w.heap.size, 0, none⟩), .int .u64 150] 281)).alloc (.cells #[.pointer (some ⟨4, 324, none⟩), .pointer (some ⟨w.heap.size, 0, none⟩), .int .u64 150] 281)).alloc (.cells #[.int .i64 e] 323))
    (by rw [World.cell?_alloc_at _ _ _ _ (by simp)]; rfl)
    (by rw [World.cell?_alloc_lt _ _ t (by simp; omega), World.cell?_alloc_lt _ _ t (by simp; omega), World.cell?_alloc_lt _ _ t (by simp; omega), World.cell?_alloc_lt _ _ t htl]; exact ht0)
    (by rw [World.frozen?_alloc_old _ _ t (by simp; omega), World.frozen?_alloc_old _ _ t (by simp; omega), World.frozen?_alloc_old _ _ t (by simp; omega), World.frozen?_alloc_old _ _ t (Nat.ne_of_lt htl)]; exact hf0)
  go_enter Tryz.func123, Tryz.ntmps123
  go_wp2
  refine wp_loop_rounds 1 ?_
  rw [rounds_succ]
  go_wp2
  go_ret
  exact ⟨rfl, rfl⟩
end Go.Proofs.YtonglhkiobibgaaGreatDoor
namespace Go.Proofs.YtonglhkiobibgaaGreatDoor
open Go.RowKit
set_option maxRecDepth 100000
end Go.Proofs.YtonglhkiobibgaaGreatDoor
namespace Go.Proofs.YtonglhkiobibgaaGreatDoor
open Go.RowKit
/-- one octet: its value, the code, the rest -/
def scOct : List Int → Int × Int × List Int
  | [] => (0, 8, [])
  | x :: r => (x, 0, r)
/-- a number in groups of 7 bits, from group k on -/
def scGrp (k acc : Nat) : List Int → Nat × Int × List Int
  | [] => (0, 8, [])
  | x :: r => if (k = 9 ∧ 1 < x) ∨ (0 < k ∧ x = 0) then (0, 4, r) else if x < 128 then (acc + (x % 128).toNat * 2 ^ (7 * k), 0, r) else scGrp (k + 1) (acc + (x % 128).toNat * 2 ^ (7 * k)) r
def scCnt (l : List Int) : Int × Int × List Int := ((scOct l).1, if (scOct l).2.1 = 0 ∧ 64 < (scOct l).1 then 3 else (scOct l).2.1, (scOct l).2.2)
/-- a number without its fold -/
def unzz (m : Nat) : Int := if m % 2 = 0 then ((m / 2 : Nat) : Int) else -((m / 2 : Nat) : Int) - 1
def scText (l : List Int) : List Int × Int × List Int :=
  if (scGrp 0 0 l).2.1 ≠ 0 then ([], (scGrp 0 0 l).2.1, (scGrp 0 0 l).2.2) else if 4096 < (scGrp 0 0 l).1 then ([], 5, (scGrp 0 0 l).2.2) else
  if (scGrp 0 0 l).2.2.length < (scGrp 0 0 l).1 then ([], 8, (scGrp 0 0 l).2.2) else ((scGrp 0 0 l).2.2.take (scGrp 0 0 l).1, 0, (scGrp 0 0 l).2.2.drop (scGrp 0 0 l).1)
/-- k times, until the first that fails -/
def scMany {α : Type} (f : List Int → α × Int × List Int) : Nat → List Int → List α × Int × List Int
  | 0, l => ([], 0, l)
  | k + 1, l => if (f l).2.1 ≠ 0 then ([(f l).1], (f l).2.1, (f l).2.2) else ((f l).1 :: (scMany f k (f l).2.2).1, (scMany f k (f l).2.2).2.1, (scMany f k (f l).2.2).2.2)
def scNum (l : List Int) : Int × Int × List Int := (unzz (scGrp 0 0 l).1, (scGrp 0 0 l).2.1, (scGrp 0 0 l).2.2)
def scList {α : Type} (f : List Int → α × Int × List Int) (l : List Int) : List α × Int × List Int := if (scCnt l).2.1 ≠ 0 then ([], (scCnt l).2.1, (scCnt l).2.2) else scMany f (scCnt l).1.toNat (scCnt l).2.2
def scNums := scList scNum
def scTexts := scList scText
def rec0 : Rec := ⟨0, [], []⟩
def scRec (l : List Int) : Rec × Int :=
  let k := scOct l
  if k.2.1 ≠ 0 then (rec0, k.2.1) else
  let n := scNums k.2.2
  if n.2.1 ≠ 0 then (rec0, n.2.1) else
  let t := scTexts n.2.2
  if t.2.1 ≠ 0 then (rec0, t.2.1) else
  if 0 < t.2.2.length then (rec0, 23) else (⟨k.1, n.1, t.1⟩, 0)
def dec (l : List Int) : Rec × Int := if (openB l).2 ≠ 0 then (rec0, (openB l).2) else scRec (openB l).1
/-- what is read stays an octet's list; nothing grows -/
theorem scOct_rest (l : List Int) : (scOct l).2.2 = l.drop 1 := by cases l <;> rfl
theorem scGrp_rest : ∀ (l : List Int) (k acc : Nat), ∃ n, (scGrp k acc l).2.2 = l.drop n
  | [], k, acc => ⟨0, rfl⟩
  | x :: r, k, acc => by
    unfold scGrp
    split
    · exact ⟨1, rfl⟩
    · split
      · exact ⟨1, rfl⟩
      · obtain ⟨n, h⟩ := scGrp_rest r (k + 1) (acc + (x % 128).toNat * 2 ^ (7 * k))
        exact ⟨n + 1, by rw [h]; rfl⟩
theorem scText_rest (l : List Int) : ∃ n, (scText l).2.2 = l.drop n := by
  obtain ⟨n, h⟩ := scGrp_rest l 0 0
  unfold scText
  split
  · exact ⟨n, h⟩
  split
  · exact ⟨n, h⟩
  split
  · exact ⟨n, h⟩
  · exact ⟨n + (scGrp 0 0 l).1, by show List.drop _ _ = _; rw [h, List.drop_drop]⟩
theorem scMany_rest {α : Type} {f : List Int → α × Int × List Int} (hf : ∀ l, ∃ n, (f l).2.2 = l.drop n) : ∀ (k : Nat) (l : List Int), ∃ n, (scMany f k l).2.2 = l.drop n
  | 0, l => ⟨0, rfl⟩
  | k + 1, l => by
    obtain ⟨n, h⟩ := hf l
    unfold scMany
    split
    · exact ⟨n, h⟩
    · obtain ⟨m, h2⟩ := scMany_rest hf k (f l).2.2
      exact ⟨n + m, by show (scMany f k (f l).2.2).2.2 = _; rw [h2, h, List.drop_drop]⟩
theorem scCnt_rest (l : List Int) : (scCnt l).2.2 = l.drop 1 := scOct_rest l
theorem scList_rest {α : Type} {f : List Int → α × Int × List Int} (hf : ∀ l, ∃ n, (f l).2.2 = l.drop n) (l : List Int) : ∃ n, (scList f l).2.2 = l.drop n := by
  unfold scList
  split
  · exact ⟨1, scCnt_rest l⟩
  · obtain ⟨m, h⟩ := scMany_rest hf (scCnt l).1.toNat (scCnt l).2.2
    exact ⟨1 + m, by rw [h, scCnt_rest, List.drop_drop]⟩
theorem scGrp_lt : ∀ (l : List Int) (k acc : Nat), (∀ x ∈ l, 0 ≤ x ∧ x < 256) → acc < 2 ^ (7 * k) → k ≤ 9 → (scGrp k acc l).1 < 2 ^ 64
  | [], k, acc, _, _, _ => by show 0 < _; decide
  | x :: r, k, acc, hb, ha, hk => by
    have hx := hb x (by simp)
    have hm : (x % 128).toNat ≤ 127 := by omega
    have hp : 0 < 2 ^ (7 * k) := Nat.pow_pos (by decide)
    unfold scGrp
    split
    · show 0 < _; decide
    · rename_i hne
      by_cases hk9 : k = 9
      · subst hk9
        have hx1 : x ≤ 1 := by omega
        rw [if_pos (by omega)]
        have : (x % 128).toNat ≤ 1 := by omega
        show acc + _ < _
        have h3 : (x % 128).toNat * 2 ^ (7 * 9) ≤ 1 * 2 ^ (7 * 9) := Nat.mul_le_mul_right _ this
        have e1 : (2 : Nat) ^ (7 * 9) = 9223372036854775808 := by decide
        have e2 : (2 : Nat) ^ 64 = 18446744073709551616 := by decide
        rw [e1] at h3 ha ⊢; rw [e2]; omega
      · have h4 : acc + (x % 128).toNat * 2 ^ (7 * k) < 2 ^ (7 * (k + 1)) := by
          have h3 : (x % 128).toNat * 2 ^ (7 * k) ≤ 127 * 2 ^ (7 * k) := Nat.mul_le_mul_right _ hm
          rw [show 7 * (k + 1) = 7 * k + 7 from by omega, Nat.pow_add]
          omega
        split
        · show acc + _ < _
          exact Nat.lt_of_lt_of_le h4 (Nat.pow_le_pow_right (by decide) (by omega))
        · exact scGrp_lt r (k + 1) _ (fun y hy => hb y (by simp [hy])) h4 (by omega)
end Go.Proofs.YtonglhkiobibgaaGreatDoor
namespace Go.Proofs.YtonglhkiobibgaaGreatDoor
open Go.RowKit
set_option maxRecDepth 100000
/-- an error of octets, or none -/
def errV (e : Int) : AV := if e = 0 then .v .nilIface else .ifc 323 (.agg [.v (.int .i64 e)])
theorem errV_0 : errV 0 = .v .nilIface := rfl
theorem errV_ne {e : Int} (h : e ≠ 0) : errV e = .ifc 323 (.agg [.v (.int .i64 e)]) := if_neg h
theorem al_errV {p : Nat → Prop} (e : Int) : Al p (errV e) := by
  unfold errV; split
  · trivial
  · exact ⟨trivial, trivial⟩
abbrev scRow (y fr : Bool) (l : List Int) : AObj := .row y 232 [fB fr l]
theorem take_ok (y fr : Bool) (l : List Int) (n : Nat) (id nb : Nat) (hid : id < nb) (h : n ≤ l.length) :
    ASound Tryz.prog 240 [.op id 0, .v (.int .i64 n)] nb (rowM id (scRow y fr l) (.ret (.tup [fB fr (l.take n), .v .nilIface]) [(id, some (scRow y fr (l.drop n)))])) := by
  refine ok_240.soundR (by simp) ⟨rfl, trivial, trivial⟩ (by simp) ⟨al_B l, trivial⟩ ⟨al_B _, trivial⟩ rfl hid ?_
  have e1 : ¬ ((l.length : Int) < (n : Int)) := by omega
  have e2 : ((0 : Int) ≤ (n : Int) ∧ (n : Int) ≤ (l.length : Int)) = True := eq_true ⟨by omega, by omega⟩
  have e3 : ((0 : Int) ≤ (n : Int)) := by omega
  have e4 : ((n : Int) ≤ (l.length : Int)) := by omega
  have c1 : (l.take n).length = n := List.length_take_of_le h
  have c2 : (l.drop n).length = l.length - n := List.length_drop
  have d1 : (l.drop n).take (l.length - n) = l.drop n := List.take_of_length_le (by rw [c2]; exact Nat.le_refl _)
  simp only [ac_240, renL, ren, e1, e2, e3, e4, Nat.sub_zero, take_B, drop_B, tk_B, d1, TT, ↓reduceIte, Nat.reduceEqDiff, Nat.reduceAdd, Nat.reduceMul, reduceCtorEq, Nat.reduceLeDiff]
  exact EndsR.data (.inr rfl) (by simp [ET, c1]) ⟨al_B _, trivial, trivial⟩ (by simp [ET, c2])
theorem take_short (y fr : Bool) (l : List Int) (n : Nat) (id nb : Nat) (hid : id < nb) (h : l.length < n) :
    ASound Tryz.prog 240 [.op id 0, .v (.int .i64 n)] nb (rowM id (scRow y fr l) (.ret (.tup [fB true [], errV 8]) [(id, some (scRow y fr l))])) := by
  refine ok_240.soundR (by simp) ⟨rfl, trivial, trivial⟩ (by simp) ⟨al_B l, trivial⟩ ⟨al_B _, trivial⟩ rfl hid ?_
  have e1 : ((l.length : Int) < (n : Int)) := by omega
  simp only [ac_240, renL, ren, e1, TT, ↓reduceIte, Nat.reduceEqDiff, Nat.reduceAdd, Nat.reduceMul, reduceCtorEq, Nat.reduceLeDiff]
  exact EndsR.imp (r0 := .tup [.v (.slice none 0 0), errV 8]) (.inr rfl) (by simp [ET, errV]) ⟨trivial, al_errV 8, trivial⟩ (Imp.tupL ⟨Imp.nil true, Imp.refl _, trivial⟩) (by simp [ET])
theorem octet_spec (y fr : Bool) (l : List Int) (id nb : Nat) (hid : id < nb) (hb : okB l) :
    ASound Tryz.prog 211 [.op id 0] nb (rowM id (scRow y fr l) (.ret (.tup [.v (.int .i64 (scOct l).1), errV (scOct l).2.1]) [(id, some (scRow y fr (scOct l).2.2))])) := by
  refine ok_211.soundR (by simp) ⟨rfl, trivial⟩ (by simp) ⟨al_B l, trivial⟩ ⟨al_B _, trivial⟩ rfl hid ?_
  cases l with
  | nil =>
    simp only [ac_211, renL, ren, TT, ↓reduceIte, Nat.reduceEqDiff, Nat.reduceAdd, Nat.reduceMul, reduceCtorEq, Nat.reduceLeDiff]
    have h := fun nb h => take_short y fr [] 1 0 nb h (by decide)
    simp only [scRow, fB, List.length_cons, List.length_nil, List.drop_succ_cons, List.drop_zero, List.drop_nil, List.take_succ_cons, List.take_zero, Nat.zero_add] at h
    refine ⟨_, h _ (by decide), ?_⟩
    simp only [errV_ne (show (8 : Int) ≠ 0 by decide), TT, ↓reduceIte, Nat.reduceEqDiff, Nat.reduceAdd, Nat.reduceMul, reduceCtorEq, Nat.reduceLeDiff]
    exact EndsR.data (r := .tup [.v (.int .i64 0), errV 8]) (.inr rfl) (by simp [ET, errV]) ⟨trivial, al_errV 8, trivial⟩ (by simp [ET, scOct, eB])
  | cons x r =>
    have hx := hb x (by simp)
    have w1 : IntKind.i64.wrap x = x := wrap64 (by omega)
    simp only [ac_211, renL, ren, TT, ↓reduceIte, Nat.reduceEqDiff, Nat.reduceAdd, Nat.reduceMul, reduceCtorEq, Nat.reduceLeDiff]
    have h := fun nb h => take_ok y fr (x :: r) 1 0 nb h (by simp)
    simp only [scRow, fB, List.length_cons, List.length_nil, List.drop_succ_cons, List.drop_zero, List.drop_nil, List.take_succ_cons, List.take_zero, Nat.zero_add] at h
    refine ⟨_, h _ (by decide), ?_⟩
    have g0 : (eB [x])[Int.toNat 0]? = some (.v (.int .u8 x)) := rfl
    have g1 : ((0 : Int) ≤ 0 ∧ (0 : Int) < ((1 : Nat) : Int)) = True := eq_true ⟨by decide, by decide⟩
    simp only [List.drop_succ_cons, g0, g1, w1, TT, ↓reduceIte, Nat.reduceEqDiff, Nat.reduceAdd, Nat.reduceMul, reduceCtorEq, Nat.reduceLeDiff]
    exact EndsR.data (r := .tup [.v (.int .i64 x), errV 0]) (.inr rfl) (by simp [ET, errV]) ⟨trivial, al_errV 0, trivial⟩ (by simp [ET, scOct, eB])
end Go.Proofs.YtonglhkiobibgaaGreatDoor
namespace Go.Proofs.YtonglhkiobibgaaGreatDoor
open Go.RowKit
set_option maxRecDepth 100000
theorem sc_and {x : Int} (h : 0 ≤ x ∧ x < 256) : IntKind.i64.wrap ((BitVec.ofInt IntKind.i64.bits x &&& BitVec.ofInt IntKind.i64.bits 127).toNat : Int) = ((x % 128).toNat : Int) := by
  have h1 : (BitVec.ofInt IntKind.i64.bits x &&& BitVec.ofInt IntKind.i64.bits 127).toNat = (x % 128).toNat := by
    show (BitVec.ofInt 64 x &&& BitVec.ofInt 64 127).toNat = _
    rw [BitVec.toNat_and, ofInt64, ofInt64]
    rw [show ((127 : Int) % 18446744073709551616).toNat = 127 from rfl, and127]
    omega
  rw [h1, wrap64 (by omega)]
theorem sc_shl {m k : Nat} (hm : m * 2 ^ (7 * k) < 2 ^ 64) (hk : k ≤ 9) : shVal .shl .u64 (m : Int) (7 * (k : Int)) = some (.int .u64 ((m * 2 ^ (7 * k) : Nat) : Int)) := by
  simp only [shVal, if_neg (show ¬ (7 * (k : Int) < 0) by omega)]
  have e1 : min (7 * (k : Int)).toNat IntKind.u64.bits = 7 * k := by
    show min (7 * (k : Int)).toNat 64 = 7 * k
    omega
  congr 2
  show IntKind.u64.wrap ((m : Int) * 2 ^ min (7 * (k : Int)).toNat IntKind.u64.bits) = _
  rw [e1, u64_mod]
  have e2 : ((m : Int) * 2 ^ (7 * k)) = ((m * 2 ^ (7 * k) : Nat) : Int) := by push_cast; rfl
  have e3 : (2 : Nat) ^ 64 = 18446744073709551616 := by decide
  rw [e2]
  omega
theorem sc_or {a m k : Nat} (ha : a < 2 ^ (7 * k)) (hs : a + m * 2 ^ (7 * k) < 2 ^ 64) : IntKind.u64.wrap ((BitVec.ofInt IntKind.u64.bits (a : Int) ||| BitVec.ofInt IntKind.u64.bits ((m * 2 ^ (7 * k) : Nat) : Int)).toNat : Int) = ((a + m * 2 ^ (7 * k) : Nat) : Int) := by
  have e3 : (2 : Nat) ^ 64 = 18446744073709551616 := by decide
  have h1 : (BitVec.ofInt IntKind.u64.bits (a : Int) ||| BitVec.ofInt IntKind.u64.bits ((m * 2 ^ (7 * k) : Nat) : Int)).toNat = a + m * 2 ^ (7 * k) := by
    show (BitVec.ofInt 64 (a : Int) ||| BitVec.ofInt 64 ((m * 2 ^ (7 * k) : Nat) : Int)).toNat = _
    rw [BitVec.toNat_or, ofInt64, ofInt64]
    rw [show ((a : Int) % 18446744073709551616).toNat = a from by omega, show (((m * 2 ^ (7 * k) : Nat) : Int) % 18446744073709551616).toNat = m * 2 ^ (7 * k) from by omega]
    rw [Nat.or_comm, ← Nat.shiftLeft_eq, ← Nat.shiftLeft_add_eq_or_of_lt ha, Nat.add_comm]
  rw [h1, u64_mod]; omega
abbrev L_sg (y fr : Bool) (q : Nat × Nat × List Int) : ASt := ⟨envOf [(0, .op 0 0), (4, .v (.int .u64 q.2.1)), (5, .v (.int .i64 (7 * (q.1 : Int))))], heapOf [(0, scRow y fr q.2.2)], 1⟩
set_option maxHeartbeats 4000000 in
theorem scgroups_spec (y fr : Bool) (l : List Int) (id nb : Nat) (hid : id < nb) (hb : okB l) :
    ASound Tryz.prog 242 [.op id 0] nb (rowM id (scRow y fr l) (.ret (.tup [.v (.int .u64 (scGrp 0 0 l).1), errV (scGrp 0 0 l).2.1]) [(id, some (scRow y fr (scGrp 0 0 l).2.2))])) := by
  refine ok_242.soundR (by simp) ⟨rfl, trivial⟩ (by simp) ⟨al_B l, trivial⟩ ⟨al_B _, trivial⟩ rfl hid ?_
  simp only [ac_242, renL, ren, TT, ↓reduceIte, Nat.reduceEqDiff, Nat.reduceAdd, Nat.reduceMul, reduceCtorEq, Nat.reduceLeDiff]
  refine AWc.family (L_sg y fr) (fun q => scGrp q.1 q.2.1 q.2.2 = scGrp 0 0 l ∧ q.2.1 < 2 ^ (7 * q.1) ∧ q.1 ≤ 9 ∧ okB q.2.2) (fun q => q.2.2.length) (0, 0, l) ⟨rfl, by simp, by simp, hb⟩ ?_ ?_
  · refine Weak.calc [(0, 0)] (by decide) ?_ ?_ <;> simp [WT]
  · rintro ⟨k, a, s⟩ ⟨he, ha, hk, hs⟩
    simp only at he ha hk hs
    rw [← he]
    cases s with
    | nil =>
      have h := fun nb h => octet_spec y fr [] 0 nb h hs
      simp only [scRow, scOct, fB, List.length_cons, List.length_nil] at h
      simp only [L_sg, scRow, TT, ↓reduceIte, Nat.reduceEqDiff, Nat.reduceAdd, Nat.reduceMul, reduceCtorEq, Nat.reduceLeDiff]
      refine ⟨_, h _ (by omega), ?_⟩
      simp only [errV_ne (show (8 : Int) ≠ 0 by decide), TT, ↓reduceIte, Nat.reduceEqDiff, Nat.reduceAdd, Nat.reduceMul, reduceCtorEq, Nat.reduceLeDiff]
      exact EndsR.data (r := .tup [.v (.int .u64 0), errV 8]) (.inr rfl) (by simp [ET, errV]) ⟨trivial, al_errV 8, trivial⟩ (by simp [ET, scGrp, eB])
    | cons x r =>
      have hx := hs x (by simp)
      have hr : okB r := fun z hz => hs z (by simp [hz])
      have h := fun nb h => octet_spec y fr (x :: r) 0 nb h hs
      simp only [scRow, scOct, fB, List.length_cons, List.length_nil] at h
      have e3 : (2 : Nat) ^ 64 = 18446744073709551616 := by decide
      have hm : (x % 128).toNat ≤ 127 := by omega
      have hp : 0 < 2 ^ (7 * k) := Nat.pow_pos (by decide)
      have sd : ∀ h3 : a + (x % 128).toNat * 2 ^ (7 * k) < 2 ^ 64, (x % 128).toNat * 2 ^ (7 * k) < 2 ^ 64 := fun h3 => by omega
      have w7 : IntKind.i64.wrap (7 * (k : Int) + 7) = 7 * ((k + 1 : Nat) : Int) := by rw [wrap64 (by omega)]; omega
      have wu : IntKind.u64.wrap ((x % 128).toNat : Int) = ((x % 128).toNat : Int) := by rw [u64_mod]; omega
      by_cases hbad : (k = 9 ∧ 1 < x) ∨ (0 < k ∧ x = 0)
      · have hg : scGrp k a (x :: r) = (0, 4, r) := by rw [scGrp, if_pos hbad]
        rw [hg]
        by_cases k9 : k = 9
        · have f9 : (7 * (k : Int)) = 63 := by omega
          by_cases x1 : 1 < x
          · simp only [L_sg, scRow, TT, ↓reduceIte, Nat.reduceEqDiff, Nat.reduceAdd, Nat.reduceMul, reduceCtorEq, Nat.reduceLeDiff]
            refine ⟨_, h _ (by omega), ?_⟩
            simp only [errV_0, f9, x1, not_false_eq_true, TT, ↓reduceIte, Nat.reduceEqDiff, Nat.reduceAdd, Nat.reduceMul, reduceCtorEq, Nat.reduceLeDiff]
            exact EndsR.data (r := .tup [.v (.int .u64 0), errV 4]) (.inr rfl) (by simp [ET, errV]) ⟨trivial, al_errV 4, trivial⟩ (by simp [ET, eB])
          · have x0 : x = 0 := by omega
            subst x0
            have f0 : ((0 : Int) < 63) := by decide
            simp only [L_sg, scRow, TT, ↓reduceIte, Nat.reduceEqDiff, Nat.reduceAdd, Nat.reduceMul, reduceCtorEq, Nat.reduceLeDiff]
            refine ⟨_, h _ (by omega), ?_⟩
            simp only [errV_0, f9, x1, f0, not_false_eq_true, TT, ↓reduceIte, Nat.reduceEqDiff, Nat.reduceAdd, Nat.reduceMul, reduceCtorEq, Nat.reduceLeDiff]
            exact EndsR.data (r := .tup [.v (.int .u64 0), errV 4]) (.inr rfl) (by simp [ET, errV]) ⟨trivial, al_errV 4, trivial⟩ (by simp [ET, eB])
        · have f9 : ¬ (7 * (k : Int)) = 63 := by omega
          have x0 : x = 0 := by omega
          subst x0
          have f0 : ((0 : Int) < 7 * (k : Int)) := by omega
          simp only [L_sg, scRow, TT, ↓reduceIte, Nat.reduceEqDiff, Nat.reduceAdd, Nat.reduceMul, reduceCtorEq, Nat.reduceLeDiff]
          refine ⟨_, h _ (by omega), ?_⟩
          simp only [errV_0, f9, f0, not_false_eq_true, TT, ↓reduceIte, Nat.reduceEqDiff, Nat.reduceAdd, Nat.reduceMul, reduceCtorEq, Nat.reduceLeDiff]
          exact EndsR.data (r := .tup [.v (.int .u64 0), errV 4]) (.inr rfl) (by simp [ET, errV]) ⟨trivial, al_errV 4, trivial⟩ (by simp [ET, eB])
      · have hsum : a + (x % 128).toNat * 2 ^ (7 * k) < 2 ^ 64 := by
          by_cases k9 : k = 9
          · subst k9
            have h3 : (x % 128).toNat * 2 ^ (7 * 9) ≤ 1 * 2 ^ (7 * 9) := Nat.mul_le_mul_right _ (by omega)
            have e1 : (2 : Nat) ^ (7 * 9) = 9223372036854775808 := by decide
            rw [e1] at h3 ha ⊢; omega
          · have h3 : (x % 128).toNat * 2 ^ (7 * k) ≤ 127 * 2 ^ (7 * k) := Nat.mul_le_mul_right _ hm
            have h4 : 2 ^ (7 * k) ≤ 2 ^ 56 := Nat.pow_le_pow_right (by decide) (by omega)
            have e1 : (2 : Nat) ^ 56 = 72057594037927936 := by decide
            rw [e1] at h4; omega
        have ss := sc_shl (m := (x % 128).toNat) (sd hsum) hk
        have so := sc_or ha hsum
        have sa := sc_and hx
        by_cases k9 : k = 9
        · have f9 : (7 * (k : Int)) = 63 := by omega
          have x1 : ¬ 1 < x := by omega
          have x0 : ¬ x = 0 := by omega
          have f0 : ((0 : Int) < 63) := by decide
          have hlt : x < 128 := by omega
          have hg : scGrp k a (x :: r) = (a + (x % 128).toNat * 2 ^ (7 * k), 0, r) := by rw [scGrp, if_neg hbad, if_pos hlt]
          rw [hg]
          rw [f9] at ss
          simp only [L_sg, scRow, TT, ↓reduceIte, Nat.reduceEqDiff, Nat.reduceAdd, Nat.reduceMul, reduceCtorEq, Nat.reduceLeDiff]
          refine ⟨_, h _ (by omega), ?_⟩
          simp only [errV_0, f9, x1, x0, f0, hlt, sa, wu, ss, so, not_false_eq_true, TT, ↓reduceIte, Nat.reduceEqDiff, Nat.reduceAdd, Nat.reduceMul, reduceCtorEq, Nat.reduceLeDiff]
          exact EndsR.data (r := .tup [.v (.int .u64 (a + (x % 128).toNat * 2 ^ (7 * k) : Nat)), errV 0]) (.inr rfl) (by simp [ET, errV]) ⟨trivial, al_errV 0, trivial⟩ (by simp [ET, eB])
        · have f9 : ¬ (7 * (k : Int)) = 63 := by omega
          by_cases k0 : k = 0
          · have f0 : ¬ ((0 : Int) < 7 * (k : Int)) := by omega
            by_cases hlt : x < 128
            · have hg : scGrp k a (x :: r) = (a + (x % 128).toNat * 2 ^ (7 * k), 0, r) := by rw [scGrp, if_neg hbad, if_pos hlt]
              rw [hg]
              simp only [L_sg, scRow, TT, ↓reduceIte, Nat.reduceEqDiff, Nat.reduceAdd, Nat.reduceMul, reduceCtorEq, Nat.reduceLeDiff]
              refine ⟨_, h _ (by omega), ?_⟩
              simp only [errV_0, f9, f0, hlt, sa, wu, ss, so, not_false_eq_true, TT, ↓reduceIte, Nat.reduceEqDiff, Nat.reduceAdd, Nat.reduceMul, reduceCtorEq, Nat.reduceLeDiff]
              exact EndsR.data (r := .tup [.v (.int .u64 (a + (x % 128).toNat * 2 ^ (7 * k) : Nat)), errV 0]) (.inr rfl) (by simp [ET, errV]) ⟨trivial, al_errV 0, trivial⟩ (by simp [ET, eB])
            · have hg : scGrp k a (x :: r) = scGrp (k + 1) (a + (x % 128).toNat * 2 ^ (7 * k)) r := by rw [scGrp, if_neg hbad, if_neg hlt]
              have ha2 : a + (x % 128).toNat * 2 ^ (7 * k) < 2 ^ (7 * (k + 1)) := by
                have h3 : (x % 128).toNat * 2 ^ (7 * k) ≤ 127 * 2 ^ (7 * k) := Nat.mul_le_mul_right _ hm
                rw [show 7 * (k + 1) = 7 * k + 7 from by omega, Nat.pow_add]
                omega
              simp only [L_sg, scRow, TT, ↓reduceIte, Nat.reduceEqDiff, Nat.reduceAdd, Nat.reduceMul, reduceCtorEq, Nat.reduceLeDiff]
              refine ⟨_, h _ (by omega), ?_⟩
              simp only [errV_0, f9, f0, hlt, sa, wu, ss, so, w7, not_false_eq_true, TT, ↓reduceIte, Nat.reduceEqDiff, Nat.reduceAdd, Nat.reduceMul, reduceCtorEq, Nat.reduceLeDiff]
              refine famC_next (k + 1, a + (x % 128).toNat * 2 ^ (7 * k), r) (by simp) ⟨?_, ha2, by simp only; omega, hr⟩ ?_
              · simp only; rw [← hg, he]
              · refine Weak.calc [(0, 0)] (by decide) ?_ ?_ <;> simp [WT]
          · have f0 : ((0 : Int) < 7 * (k : Int)) := by omega
            have x0 : ¬ x = 0 := by omega
            by_cases hlt : x < 128
            · have hg : scGrp k a (x :: r) = (a + (x % 128).toNat * 2 ^ (7 * k), 0, r) := by rw [scGrp, if_neg hbad, if_pos hlt]
              rw [hg]
              simp only [L_sg, scRow, TT, ↓reduceIte, Nat.reduceEqDiff, Nat.reduceAdd, Nat.reduceMul, reduceCtorEq, Nat.reduceLeDiff]
              refine ⟨_, h _ (by omega), ?_⟩
              simp only [errV_0, f9, f0, x0, hlt, sa, wu, ss, so, not_false_eq_true, TT, ↓reduceIte, Nat.reduceEqDiff, Nat.reduceAdd, Nat.reduceMul, reduceCtorEq, Nat.reduceLeDiff]
              exact EndsR.data (r := .tup [.v (.int .u64 (a + (x % 128).toNat * 2 ^ (7 * k) : Nat)), errV 0]) (.inr rfl) (by simp [ET, errV]) ⟨trivial, al_errV 0, trivial⟩ (by simp [ET, eB])
            · have hg : scGrp k a (x :: r) = scGrp (k + 1) (a + (x % 128).toNat * 2 ^ (7 * k)) r := by rw [scGrp, if_neg hbad, if_neg hlt]
              have ha2 : a + (x % 128).toNat * 2 ^ (7 * k) < 2 ^ (7 * (k + 1)) := by
                have h3 : (x % 128).toNat * 2 ^ (7 * k) ≤ 127 * 2 ^ (7 * k) := Nat.mul_le_mul_right _ hm
                rw [show 7 * (k + 1) = 7 * k + 7 from by omega, Nat.pow_add]
                omega
              simp only [L_sg, scRow, TT, ↓reduceIte, Nat.reduceEqDiff, Nat.reduceAdd, Nat.reduceMul, reduceCtorEq, Nat.reduceLeDiff]
              refine ⟨_, h _ (by omega), ?_⟩
              simp only [errV_0, f9, f0, x0, hlt, sa, wu, ss, so, w7, not_false_eq_true, TT, ↓reduceIte, Nat.reduceEqDiff, Nat.reduceAdd, Nat.reduceMul, reduceCtorEq, Nat.reduceLeDiff]
              refine famC_next (k + 1, a + (x % 128).toNat * 2 ^ (7 * k), r) (by simp) ⟨?_, ha2, by simp only; omega, hr⟩ ?_
              · simp only; rw [← hg, he]
              · refine Weak.calc [(0, 0)] (by decide) ?_ ?_ <;> simp [WT]
end Go.Proofs.YtonglhkiobibgaaGreatDoor
namespace Go.Proofs.YtonglhkiobibgaaGreatDoor
open Go.RowKit
set_option maxRecDepth 100000
theorem count_spec (y fr : Bool) (l : List Int) (id nb : Nat) (hid : id < nb) (hb : okB l) :
    ASound Tryz.prog 241 [.op id 0, .v (.int .i64 64)] nb (rowM id (scRow y fr l) (.ret (.tup [.v (.int .i64 (scCnt l).1), errV (scCnt l).2.1]) [(id, some (scRow y fr (scCnt l).2.2))])) := by
  refine ok_241.soundR (by simp) ⟨rfl, trivial, trivial⟩ (by simp) ⟨al_B l, trivial⟩ ⟨al_B _, trivial⟩ rfl hid ?_
  have h := fun nb h => octet_spec y fr l 0 nb h hb
  simp only [scRow, fB] at h
  simp only [ac_241, renL, ren, scRow, TT, ↓reduceIte, Nat.reduceEqDiff, Nat.reduceAdd, Nat.reduceMul, reduceCtorEq, Nat.reduceLeDiff]
  refine ⟨_, h _ (by decide), ?_⟩
  cases l with
  | nil =>
    simp only [scOct, errV_ne (show (8 : Int) ≠ 0 by decide), TT, ↓reduceIte, Nat.reduceEqDiff, Nat.reduceAdd, Nat.reduceMul, reduceCtorEq, Nat.reduceLeDiff]
    exact EndsR.data (r := .tup [.v (.int .i64 0), errV 8]) (.inr rfl) (by simp [ET, errV]) ⟨trivial, al_errV 8, trivial⟩ (by simp [ET, scCnt, scOct, eB])
  | cons x r =>
    by_cases h6 : 64 < x
    · have hg : scCnt (x :: r) = (x, 3, r) := by simp [scCnt, scOct, h6]
      rw [hg]
      simp only [scOct, errV_0, h6, TT, ↓reduceIte, Nat.reduceEqDiff, Nat.reduceAdd, Nat.reduceMul, reduceCtorEq, Nat.reduceLeDiff]
      exact EndsR.data (r := .tup [.v (.int .i64 x), errV 3]) (.inr rfl) (by simp [ET, errV]) ⟨trivial, al_errV 3, trivial⟩ (by simp [ET, eB])
    · have hg : scCnt (x :: r) = (x, 0, r) := by simp [scCnt, scOct, h6]
      rw [hg]
      simp only [scOct, errV_0, h6, TT, ↓reduceIte, Nat.reduceEqDiff, Nat.reduceAdd, Nat.reduceMul, reduceCtorEq, Nat.reduceLeDiff]
      exact EndsR.data (r := .tup [.v (.int .i64 x), errV 0]) (.inr rfl) (by simp [ET, errV]) ⟨trivial, al_errV 0, trivial⟩ (by simp [ET, eB])
theorem okB_sc {l r : List Int} (hb : okB l) (h : ∃ n, r = l.drop n) : okB r := by obtain ⟨n, rfl⟩ := h; exact okB_drop hb n
theorem scText_err {l r : List Int} {m : Nat} {e : Int} (hq : scGrp 0 0 l = (m, e, r)) (he : e ≠ 0) : scText l = ([], e, r) := by simp [scText, hq, he]
theorem scText_long {l r : List Int} {m : Nat} (hq : scGrp 0 0 l = (m, 0, r)) (h : 4096 < m) : scText l = ([], 5, r) := by simp [scText, hq, h]
theorem scText_short {l r : List Int} {m : Nat} (hq : scGrp 0 0 l = (m, 0, r)) (h : ¬ 4096 < m) (h2 : r.length < m) : scText l = ([], 8, r) := by simp [scText, hq, h, h2]
theorem scText_ok {l r : List Int} {m : Nat} (hq : scGrp 0 0 l = (m, 0, r)) (h : ¬ 4096 < m) (h2 : ¬ r.length < m) : scText l = (r.take m, 0, r.drop m) := by simp [scText, hq, h, h2]
theorem sctext_spec (y fr : Bool) (l : List Int) (id nb : Nat) (hid : id < nb) (hb : okB l) :
    ASound Tryz.prog 243 [.op id 0] nb (rowM id (scRow y fr l) (.ret (.tup [fB true (scText l).1, errV (scText l).2.1]) [(id, some (scRow y fr (scText l).2.2))])) := by
  refine ok_243.soundR (by simp) ⟨rfl, trivial⟩ (by simp) ⟨al_B l, trivial⟩ ⟨al_B _, trivial⟩ rfl hid ?_
  have h := fun nb h => scgroups_spec y fr l 0 nb h hb
  rcases hq : scGrp 0 0 l with ⟨m, e, r⟩
  rw [hq] at h
  simp only [scRow, fB] at h
  simp only [ac_243, renL, ren, scRow, TT, ↓reduceIte, Nat.reduceEqDiff, Nat.reduceAdd, Nat.reduceMul, reduceCtorEq, Nat.reduceLeDiff]
  refine ⟨_, h _ (by decide), ?_⟩
  by_cases he : e = 0
  · subst he
    by_cases h4 : 4096 < m
    · have f4 : (4096 : Int) < (m : Int) := by omega
      rw [scText_long hq h4]
      simp only [errV_0, f4, TT, ↓reduceIte, Nat.reduceEqDiff, Nat.reduceAdd, Nat.reduceMul, reduceCtorEq, Nat.reduceLeDiff]
      exact EndsR.imp (r0 := .tup [.v (.slice none 0 0), errV 5]) (.inr rfl) (by simp [ET, errV]) ⟨trivial, al_errV 5, trivial⟩ (Imp.tupL ⟨Imp.nil true, Imp.refl _, trivial⟩) (by simp [ET])
    · have f4 : ¬ (4096 : Int) < (m : Int) := by omega
      have w1 : IntKind.i64.wrap (m : Int) = m := wrap64 (by omega)
      simp only [errV_0, f4, w1, TT, ↓reduceIte, Nat.reduceEqDiff, Nat.reduceAdd, Nat.reduceMul, reduceCtorEq, Nat.reduceLeDiff]
      by_cases hl : r.length < m
      · rw [scText_short hq h4 hl]
        have k := fun nb h => take_short y fr r m 0 nb h hl
        simp only [scRow, fB] at k
        refine ⟨_, k _ (by omega), ?_⟩
        simp only [TT, ↓reduceIte, Nat.reduceEqDiff, Nat.reduceAdd, Nat.reduceMul, reduceCtorEq, Nat.reduceLeDiff]
        refine ⟨_, bytesClone_spec true [] _ (by simp), ?_⟩
        simp only [TT, ↓reduceIte, Nat.reduceEqDiff, Nat.reduceAdd, Nat.reduceMul, reduceCtorEq, Nat.reduceLeDiff]
        exact EndsR.data (r := .tup [fB true [], errV 8]) (.inr rfl) (by simp [ET, fB]) ⟨al_B _, al_errV 8, trivial⟩ (by simp [ET])
      · rw [scText_ok hq h4 hl]
        have k := fun nb h => take_ok y fr r m 0 nb h (by omega)
        simp only [scRow, fB] at k
        refine ⟨_, k _ (by omega), ?_⟩
        simp only [TT, ↓reduceIte, Nat.reduceEqDiff, Nat.reduceAdd, Nat.reduceMul, reduceCtorEq, Nat.reduceLeDiff]
        refine ⟨_, bytesClone_spec fr (r.take m) _ (by rw [List.length_take]; omega), ?_⟩
        simp only [TT, ↓reduceIte, Nat.reduceEqDiff, Nat.reduceAdd, Nat.reduceMul, reduceCtorEq, Nat.reduceLeDiff]
        exact EndsR.data (r := .tup [fB true (r.take m), errV 0]) (.inr rfl) (by simp [ET, errV, fB]) ⟨al_B _, al_errV 0, trivial⟩ (by simp [ET])
  · rw [scText_err hq he]
    simp only [errV_ne he, TT, ↓reduceIte, Nat.reduceEqDiff, Nat.reduceAdd, Nat.reduceMul, reduceCtorEq, Nat.reduceLeDiff]
    exact EndsR.imp (r0 := .tup [.v (.slice none 0 0), errV e]) (.inr rfl) (by simp [ET, errV, he]) ⟨trivial, al_errV e, trivial⟩ (Imp.tupL ⟨Imp.nil true, by rw [errV_ne he]; exact Imp.refl _, trivial⟩) (by simp [ET])
end Go.Proofs.YtonglhkiobibgaaGreatDoor
namespace Go.Proofs.YtonglhkiobibgaaGreatDoor
open Go.RowKit
set_option maxRecDepth 100000
theorem ren_errV {ρ : Nat → Nat} (e : Int) : ren ρ (errV e) = errV e := by
  unfold errV; split <;> simp [ren, renL]
theorem many_go {α : Type} {f : List Int → α × Int × List Int} {N i : Nat} {rest : List Int} {out : List α} {R : List α × Int × List Int} (hR : R = (out ++ (scMany f (N - i) rest).1, (scMany f (N - i) rest).2)) (hi : i < N) (h0 : (f rest).2.1 = 0) :
    R = ((out ++ [(f rest).1]) ++ (scMany f (N - (i + 1)) (f rest).2.2).1, (scMany f (N - (i + 1)) (f rest).2.2).2) := by
  rw [hR, show N - i = (N - (i + 1)) + 1 from by omega, scMany, if_neg (by rw [h0]; simp)]
  simp
theorem many_stop {α : Type} {f : List Int → α × Int × List Int} {N i : Nat} {rest : List Int} {out : List α} {R : List α × Int × List Int} (hR : R = (out ++ (scMany f (N - i) rest).1, (scMany f (N - i) rest).2)) (hi : i < N) (h0 : (f rest).2.1 ≠ 0) :
    R = (out ++ [(f rest).1], (f rest).2.1, (f rest).2.2) := by
  rw [hR, show N - i = (N - (i + 1)) + 1 from by omega, scMany, if_pos h0]
theorem many_end {α : Type} {f : List Int → α × Int × List Int} {N : Nat} {rest : List Int} {out : List α} {R : List α × Int × List Int} (hR : R = (out ++ (scMany f (N - N) rest).1, (scMany f (N - N) rest).2)) : R = (out, 0, rest) := by
  rw [hR, Nat.sub_self, scMany]; simp
structure manyI {α : Type} (f : List Int → α × Int × List Int) (N : Nat) (R : List α × Int × List Int) (i : Nat) (out : List α) (e : Int) (rest : List Int) : Prop where
  len : out.length ≤ i
  le : i ≤ 64
  ok : okB rest
  st : (e = 0 ∧ N ≤ 64 ∧ i ≤ N ∧ R = (out ++ (scMany f (N - i) rest).1, (scMany f (N - i) rest).2)) ∨ (e ≠ 0 ∧ R = (out, e, rest))
theorem manyI.start {α : Type} (f : List Int → α × Int × List Int) (l : List Int) (hb : okB l) : manyI f (scCnt l).1.toNat (scList f l) 0 [] (scCnt l).2.1 (scCnt l).2.2 := by
  refine ⟨by simp, by omega, by rw [scCnt_rest]; exact okB_drop hb 1, ?_⟩
  unfold scList
  by_cases h : (scCnt l).2.1 = 0
  · left
    refine ⟨h, ?_, Nat.zero_le _, ?_⟩
    · unfold scCnt at h ⊢
      simp only at h ⊢
      split at h
      · simp at h
      · rename_i h2; rw [h] at h2; omega
    · rw [if_neg (by rw [h]; simp)]; simp
  · right
    exact ⟨h, by rw [if_pos h]⟩
theorem manyI.step {α : Type} {f : List Int → α × Int × List Int} {N : Nat} {R : List α × Int × List Int} {i : Nat} {out : List α} {rest : List Int} (h : manyI f N R i out 0 rest) (hi : i < N) (hf : ∃ n, (f rest).2.2 = rest.drop n) : manyI f N R (i + 1) (out ++ [(f rest).1]) (f rest).2.1 (f rest).2.2 := by
  rcases h.st with ⟨_, hN, hle, hR⟩ | ⟨h0, _⟩
  · refine ⟨?_, ?_, ?_, ?_⟩
    · rw [List.length_append, List.length_cons, List.length_nil]; have := h.len; omega
    · omega
    · exact okB_sc h.ok hf
    · by_cases h0 : (f rest).2.1 = 0
      · exact .inl ⟨h0, hN, by omega, many_go hR hi h0⟩
      · exact .inr ⟨h0, many_stop hR hi h0⟩
  · exact absurd rfl h0
theorem cnt_nn {l : List Int} (hb : okB l) : ((scCnt l).1.toNat : Int) = (scCnt l).1 := by
  cases l with
  | nil => rfl
  | cons x r => have := hb x (by simp); show (x.toNat : Int) = x; omega
theorem sh1 (m : Nat) : shVal .shr .u64 (m : Int) 1 = some (.int .u64 ((m / 2 : Nat) : Int)) := by
  have h : Int.fdiv (m : Int) (2 ^ min (Int.toNat 1) IntKind.u64.bits) = ((m / 2 : Nat) : Int) := by
    show Int.fdiv (m : Int) 2 = _
    rw [Int.fdiv_eq_ediv_of_nonneg _ (by decide)]
    omega
  simp only [shVal, if_neg (show ¬ ((1 : Int) < 0) by decide), h]
theorem and_1 {m : Nat} (h : m < 2 ^ 64) : IntKind.u64.wrap ((BitVec.ofInt IntKind.u64.bits (m : Int) &&& BitVec.ofInt IntKind.u64.bits 1).toNat : Int) = ((m % 2 : Nat) : Int) := by
  have e3 : (2 : Nat) ^ 64 = 18446744073709551616 := by decide
  have h1 : (BitVec.ofInt IntKind.u64.bits (m : Int) &&& BitVec.ofInt IntKind.u64.bits 1).toNat = m % 2 := by
    show (BitVec.ofInt 64 (m : Int) &&& BitVec.ofInt 64 1).toNat = _
    rw [BitVec.toNat_and, ofInt64, ofInt64, show ((1 : Int) % 18446744073709551616).toNat = 1 from rfl, show ((m : Int) % 18446744073709551616).toNat = m from by omega]
    exact Nat.and_two_pow_sub_one_eq_mod m 1
  rw [h1, u64_mod]; omega
theorem xor_unzz {m : Nat} (h : m < 2 ^ 64) : IntKind.i64.wrap ((BitVec.ofInt IntKind.i64.bits ((m / 2 : Nat) : Int) ^^^ BitVec.ofInt IntKind.i64.bits (-((m % 2 : Nat) : Int))).toNat : Int) = unzz m := by
  have e3 : (2 : Nat) ^ 64 = 18446744073709551616 := by decide
  show IntKind.i64.wrap ((BitVec.ofInt 64 ((m / 2 : Nat) : Int) ^^^ BitVec.ofInt 64 (-((m % 2 : Nat) : Int))).toNat : Int) = _
  unfold unzz
  by_cases h0 : m % 2 = 0
  · rw [h0, if_pos rfl, show BitVec.ofInt 64 (-((0 : Nat) : Int)) = 0#64 from by decide, BitVec.xor_zero, ofInt64, IntKind.wrap_i64]
    omega
  · have h1 : m % 2 = 1 := by omega
    rw [h1, if_neg (by decide), show BitVec.ofInt 64 (-((1 : Nat) : Int)) = BitVec.allOnes 64 from by decide, BitVec.xor_allOnes, BitVec.toNat_not, ofInt64, IntKind.wrap_i64]
    omega
structure Sm (α : Type) where
  i : Nat
  out : List α
  e : Int
  rest : List Int
abbrev L_sn (y fr : Bool) (N : Nat) (q : Sm Int) : ASt := ⟨envOf [(0, .op 0 0), (4, .v (.int .i64 N)), (5, errV q.e), (6, .os 1 0 q.out.length 1), (7, .v (.int .i64 q.i))], heapOf [(0, scRow y fr q.rest), (1, .row true 3 (eI q.out))], 2⟩
theorem scNum_rest (l : List Int) : ∃ n, (scNum l).2.2 = l.drop n := scGrp_rest l 0 0
set_option maxHeartbeats 2000000 in
theorem scnums_spec (y fr : Bool) (l : List Int) (id nb : Nat) (hid : id < nb) (hb : okB l) :
    ASound Tryz.prog 212 [.op id 0] nb (rowM id (scRow y fr l) (.ret (.tup [fI true (scNums l).1, errV (scNums l).2.1]) [(id, some (scRow y fr (scNums l).2.2))])) := by
  refine ok_212.soundR (by simp) ⟨rfl, trivial⟩ (by simp) ⟨al_B l, trivial⟩ ⟨al_B _, trivial⟩ rfl hid ?_
  have h := fun nb h => count_spec y fr l 0 nb h hb
  have hI := manyI.start scNum l hb
  rw [← cnt_nn hb] at h
  simp only [scNums]
  generalize (scCnt l).1.toNat = N at h hI
  generalize scList scNum l = R at hI ⊢
  generalize (scCnt l).2.1 = e0 at h hI
  generalize (scCnt l).2.2 = r0 at h hI
  simp only [scRow, fB] at h
  simp only [ac_212, renL, ren, scRow, TT, ↓reduceIte, Nat.reduceEqDiff, Nat.reduceAdd, Nat.reduceMul, reduceCtorEq, Nat.reduceLeDiff]
  refine ⟨_, h _ (by decide), ?_⟩
  simp only [TT, ↓reduceIte, Nat.reduceEqDiff, Nat.reduceAdd, Nat.reduceMul, reduceCtorEq, Nat.reduceLeDiff]
  refine AWc.family (L_sn y fr N) (fun q => manyI scNum N R q.i q.out q.e q.rest) (fun q => 64 - q.i) ⟨0, [], e0, r0⟩ hI ?_ ?_
  · refine Weak.trans (Weak.virtC 3 1 (l := [(0, .op 0 0), (4, .v (.int .i64 N)), (5, errV e0), (6, .os 1100001 0 0 1), (7, .v (.int .i64 0))]) (h := [(0, scRow y fr r0)]) ?_ ?_) (Weak.calc [(0, 0), (1100001, 1)] (by decide) ?_ ?_)
    all_goals simp [WT, al_errV, ren_errV, eI]
  · rintro ⟨i, out, e, rest⟩ hI
    simp only at hI
    by_cases he : e = 0
    · subst he
      by_cases hlt : i < N
      · have f1 : (i : Int) < (N : Int) := by omega
        have hb2 := hI.ok
        have hst := hI.step hlt (scNum_rest rest)
        have hl := hI.len
        have hN : N ≤ 64 := by
          rcases hI.st with ⟨_, h, _⟩ | ⟨h0, _⟩
          · exact h
          · exact absurd rfl h0
        have hm := scGrp_lt rest 0 0 hb2 (by decide) (by decide)
        have k := fun nb h => scgroups_spec y fr rest 0 nb h hb2
        unfold scNum at hst
        simp only at hst
        generalize scGrp 0 0 rest = q at hst hm k
        obtain ⟨m, e, r⟩ := q
        simp only at hst hm
        simp only [scRow, fB] at k
        have e3 : (2 : Nat) ^ 64 = 18446744073709551616 := by decide
        have w2 : IntKind.i64.wrap ((m / 2 : Nat) : Int) = ((m / 2 : Nat) : Int) := wrap64 (by omega)
        have w3 : IntKind.i64.wrap ((m % 2 : Nat) : Int) = ((m % 2 : Nat) : Int) := wrap64 (by omega)
        have w4 : IntKind.i64.wrap (0 - ((m % 2 : Nat) : Int)) = -((m % 2 : Nat) : Int) := by rw [wrap64 (by omega)]; omega
        simp only [L_sn, scRow, errV_0, f1, TT, ↓reduceIte, Nat.reduceEqDiff, Nat.reduceAdd, Nat.reduceMul, reduceCtorEq, Nat.reduceLeDiff]
        refine ⟨_, k _ (by omega), ?_⟩
        have hcs : eI out ++ [AV.v (.int .i64 (unzz m))] = eI (out ++ [unzz m]) := by rw [app_I]; rfl
        have hn : out.length + 1 = (out ++ [unzz m]).length := by simp
        simp only [len_I, sh1, and_1 hm, w2, w3, w4, xor_unzz hm, hcs, hn, TT, ↓reduceIte, Nat.reduceEqDiff, Nat.reduceAdd, Nat.reduceMul, reduceCtorEq, Nat.reduceLeDiff]
        rw [if_pos (by rw [← hn]; omega)]
        refine famC_next ⟨i + 1, out ++ [unzz m], e, r⟩ (show 64 - (i + 1) < 64 - i by omega) hst ?_
        refine Weak.calc [(0, 0), (2500002, 1)] (by decide) ?_ ?_ <;> simp [WT, al_errV, ren_errV, wrap64 (x := (i : Int) + 1) (by omega)]
      · have f1 : ¬ (i : Int) < (N : Int) := by omega
        have hR : R = (out, 0, rest) := by
          rcases hI.st with ⟨_, hN, hle, hR⟩ | ⟨h0, _⟩
          · obtain rfl : i = N := by omega
            exact many_end hR
          · exact absurd rfl h0
        rw [hR]
        simp only [L_sn, scRow, errV_0, f1, TT, ↓reduceIte, Nat.reduceEqDiff, Nat.reduceAdd, Nat.reduceMul, reduceCtorEq, Nat.reduceLeDiff]
        refine EndsR.weak (Weak.freezeC 1 rfl (l := [(2, fI true out), (3, .v .nilIface)]) (h := [(0, scRow y fr rest)]) ?_ ?_) (EndsR.data (.inr rfl) (by simp [ET, fI]) ⟨al_I _, trivial, trivial⟩ (by simp [ET, fB]))
        · simp [WT]
        · simp [WT]
    · have hR : R = (out, e, rest) := by
        rcases hI.st with ⟨h0, _⟩ | ⟨_, hR⟩
        · exact absurd h0 he
        · exact hR
      rw [hR]
      simp only [L_sn, scRow, errV_ne he, TT, ↓reduceIte, Nat.reduceEqDiff, Nat.reduceAdd, Nat.reduceMul, reduceCtorEq, Nat.reduceLeDiff]
      refine EndsR.weak (Weak.freezeC 1 rfl (l := [(2, fI true out), (3, errV e)]) (h := [(0, scRow y fr rest)]) ?_ ?_) (EndsR.data (.inr rfl) (by simp [ET, fI, errV_ne he]) ⟨al_I _, ⟨trivial, trivial⟩, trivial⟩ (by simp [ET, fB]))
      · simp [WT, errV_ne he]
      · simp [WT]
end Go.Proofs.YtonglhkiobibgaaGreatDoor
namespace Go.Proofs.YtonglhkiobibgaaGreatDoor
open Go.RowKit
set_option maxRecDepth 100000
abbrev L_st (y fr : Bool) (N : Nat) (q : Sm (List Int)) : ASt := ⟨envOf [(0, .op 0 0), (4, .v (.int .i64 N)), (5, errV q.e), (6, .os 1 0 q.out.length 1), (7, .v (.int .i64 q.i))], heapOf [(0, scRow y fr q.rest), (1, .row true 37 (eL true q.out))], 2⟩
set_option maxHeartbeats 2000000 in
theorem sctexts_spec (y fr : Bool) (l : List Int) (id nb : Nat) (hid : id < nb) (hb : okB l) :
    ASound Tryz.prog 213 [.op id 0] nb (rowM id (scRow y fr l) (.ret (.tup [fL true (scTexts l).1, errV (scTexts l).2.1]) [(id, some (scRow y fr (scTexts l).2.2))])) := by
  refine ok_213.soundR (by simp) ⟨rfl, trivial⟩ (by simp) ⟨al_B l, trivial⟩ ⟨al_B _, trivial⟩ rfl hid ?_
  have h := fun nb h => count_spec y fr l 0 nb h hb
  have hI := manyI.start scText l hb
  rw [← cnt_nn hb] at h
  simp only [scTexts]
  generalize (scCnt l).1.toNat = N at h hI
  generalize scList scText l = R at hI ⊢
  generalize (scCnt l).2.1 = e0 at h hI
  generalize (scCnt l).2.2 = r0 at h hI
  simp only [scRow, fB] at h
  simp only [ac_213, renL, ren, scRow, TT, ↓reduceIte, Nat.reduceEqDiff, Nat.reduceAdd, Nat.reduceMul, reduceCtorEq, Nat.reduceLeDiff]
  refine ⟨_, h _ (by decide), ?_⟩
  simp only [TT, ↓reduceIte, Nat.reduceEqDiff, Nat.reduceAdd, Nat.reduceMul, reduceCtorEq, Nat.reduceLeDiff]
  refine AWc.family (L_st y fr N) (fun q => manyI scText N R q.i q.out q.e q.rest) (fun q => 64 - q.i) ⟨0, [], e0, r0⟩ hI ?_ ?_
  · refine Weak.trans (Weak.virtC 37 1 (l := [(0, .op 0 0), (4, .v (.int .i64 N)), (5, errV e0), (6, .os 1100001 0 0 1), (7, .v (.int .i64 0))]) (h := [(0, scRow y fr r0)]) ?_ ?_) (Weak.calc [(0, 0), (1100001, 1)] (by decide) ?_ ?_)
    all_goals simp [WT, al_errV, ren_errV, eL]
  · rintro ⟨i, out, e, rest⟩ hI
    simp only at hI
    by_cases he : e = 0
    · subst he
      by_cases hlt : i < N
      · have f1 : (i : Int) < (N : Int) := by omega
        have hb2 := hI.ok
        have hst := hI.step hlt (scText_rest rest)
        have hl := hI.len
        have hN : N ≤ 64 := by
          rcases hI.st with ⟨_, h, _⟩ | ⟨h0, _⟩
          · exact h
          · exact absurd rfl h0
        have k := fun nb h => sctext_spec y fr rest 0 nb h hb2
        generalize scText rest = q at hst k
        obtain ⟨m, e, r⟩ := q
        simp only at hst
        simp only [scRow, fB] at k
        simp only [L_st, scRow, errV_0, f1, TT, ↓reduceIte, Nat.reduceEqDiff, Nat.reduceAdd, Nat.reduceMul, reduceCtorEq, Nat.reduceLeDiff]
        refine ⟨_, k _ (by omega), ?_⟩
        have hcs : eL true out ++ [AV.fs true (eB m) m.length] = eL true (out ++ [m]) := by rw [app_L]; rfl
        have hn : out.length + 1 = (out ++ [m]).length := by simp
        simp only [len_L, hcs, hn, TT, ↓reduceIte, Nat.reduceEqDiff, Nat.reduceAdd, Nat.reduceMul, reduceCtorEq, Nat.reduceLeDiff]
        rw [if_pos (by rw [← hn]; omega)]
        refine famC_next ⟨i + 1, out ++ [m], e, r⟩ (show 64 - (i + 1) < 64 - i by omega) hst ?_
        refine Weak.calc [(0, 0), (1800002, 1)] (by decide) ?_ ?_ <;> simp [WT, al_errV, ren_errV, wrap64 (x := (i : Int) + 1) (by omega)]
      · have f1 : ¬ (i : Int) < (N : Int) := by omega
        have hR : R = (out, 0, rest) := by
          rcases hI.st with ⟨_, hN, hle, hR⟩ | ⟨h0, _⟩
          · obtain rfl : i = N := by omega
            exact many_end hR
          · exact absurd rfl h0
        rw [hR]
        simp only [L_st, scRow, errV_0, f1, TT, ↓reduceIte, Nat.reduceEqDiff, Nat.reduceAdd, Nat.reduceMul, reduceCtorEq, Nat.reduceLeDiff]
        refine EndsR.weak (Weak.freezeC 1 rfl (l := [(2, fL true out), (3, .v .nilIface)]) (h := [(0, scRow y fr rest)]) ?_ ?_) (EndsR.data (.inr rfl) (by simp [ET, fL]) ⟨al_L _, trivial, trivial⟩ (by simp [ET, fB]))
        · simp [WT]
        · simp [WT]
    · have hR : R = (out, e, rest) := by
        rcases hI.st with ⟨h0, _⟩ | ⟨_, hR⟩
        · exact absurd h0 he
        · exact hR
      rw [hR]
      simp only [L_st, scRow, errV_ne he, TT, ↓reduceIte, Nat.reduceEqDiff, Nat.reduceAdd, Nat.reduceMul, reduceCtorEq, Nat.reduceLeDiff]
      refine EndsR.weak (Weak.freezeC 1 rfl (l := [(2, fL true out), (3, errV e)]) (h := [(0, scRow y fr rest)]) ?_ ?_) (EndsR.data (.inr rfl) (by simp [ET, fL, errV_ne he]) ⟨al_L _, ⟨trivial, trivial⟩, trivial⟩ (by simp [ET, fB]))
      · simp [WT, errV_ne he]
      · simp [WT]
end Go.Proofs.YtonglhkiobibgaaGreatDoor
namespace Go.Proofs.YtonglhkiobibgaaGreatDoor
open Go.RowKit
set_option maxRecDepth 100000
def scRecR (l : List Int) : List Int :=
  if (scOct l).2.1 ≠ 0 then (scOct l).2.2 else if (scNums (scOct l).2.2).2.1 ≠ 0 then (scNums (scOct l).2.2).2.2 else (scTexts (scNums (scOct l).2.2).2.2).2.2
def anyR : AV := .agg [.any, .any, .any]
def recV (x : Rec × Int) : AV := if x.2 = 0 then aRec true x.1 else anyR
theorem recV_0 {r : Rec} : recV (r, 0) = aRec true r := rfl
theorem recV_ne {x : Rec × Int} (h : x.2 ≠ 0) : recV x = anyR := if_neg h
theorem imp_recE {a b c : AV} (e : Int) : Imp (.tup [.agg [a, b, c], errV e]) (.tup [anyR, errV e]) := Imp.tupL ⟨Imp.aggL ⟨Imp.any _, Imp.any _, Imp.any _, trivial⟩, Imp.refl _, trivial⟩
set_option maxHeartbeats 2000000 in
theorem record_spec (y fr : Bool) (l : List Int) (id nb : Nat) (hid : id < nb) (hb : okB l) :
    ASound Tryz.prog 156 [.op id 0] nb (rowM id (scRow y fr l) (.ret (.tup [recV (scRec l), errV (scRec l).2]) [(id, some (scRow y fr (scRecR l)))])) := by
  refine ok_156.soundR (by simp) ⟨rfl, trivial⟩ (by simp) ⟨al_B l, trivial⟩ ⟨al_B _, trivial⟩ rfl hid ?_
  have h1 := fun nb h => octet_spec y fr l 0 nb h hb
  have hb1 : okB (scOct l).2.2 := okB_sc hb ⟨1, scOct_rest l⟩
  rcases hk : scOct l with ⟨k, ek, r1⟩
  rw [hk] at h1 hb1
  simp only at hb1
  have h2 := fun nb h => scnums_spec y fr r1 0 nb h hb1
  have hb2 : okB (scNums r1).2.2 := okB_sc hb1 (scList_rest scNum_rest r1)
  rcases hn : scNums r1 with ⟨ns, en, r2⟩
  rw [hn] at h2 hb2
  simp only at hb2
  have h3 := fun nb h => sctexts_spec y fr r2 0 nb h hb2
  rcases ht : scTexts r2 with ⟨ts, et, r3⟩
  rw [ht] at h3
  simp only [scRow, fB, fI, fL] at h1 h2 h3
  simp only [ac_156, renL, ren, scRow, TT, ↓reduceIte, Nat.reduceEqDiff, Nat.reduceAdd, Nat.reduceMul, reduceCtorEq, Nat.reduceLeDiff]
  refine ⟨_, h1 _ (by decide), ?_⟩
  by_cases e1 : ek = 0
  · subst e1
    simp only [errV_0, TT, ↓reduceIte, Nat.reduceEqDiff, Nat.reduceAdd, Nat.reduceMul, reduceCtorEq, Nat.reduceLeDiff]
    refine ⟨_, h2 _ (by omega), ?_⟩
    by_cases e2 : en = 0
    · subst e2
      simp only [errV_0, TT, ↓reduceIte, Nat.reduceEqDiff, Nat.reduceAdd, Nat.reduceMul, reduceCtorEq, Nat.reduceLeDiff]
      refine ⟨_, h3 _ (by omega), ?_⟩
      by_cases e3 : et = 0
      · subst e3
        simp only [errV_0, TT, ↓reduceIte, Nat.reduceEqDiff, Nat.reduceAdd, Nat.reduceMul, reduceCtorEq, Nat.reduceLeDiff]
        have hR : scRecR l = r3 := by simp [scRecR, hk, hn, ht]
        by_cases e4 : 0 < r3.length
        · have f4 : (0 : Int) < (r3.length : Int) := by omega
          have hv : scRec l = (rec0, 23) := by simp [scRec, hk, hn, ht, e4]
          rw [hv, hR]
          simp only [f4, TT, ↓reduceIte, Nat.reduceEqDiff, Nat.reduceAdd, Nat.reduceMul, reduceCtorEq, Nat.reduceLeDiff]
          rw [recV_ne (show (rec0, 23).2 ≠ 0 from by decide)]
          exact EndsR.imp (r0 := .tup [.agg [.v (.int .i64 k), .fs true (eI ns) ns.length, .fs true (eL true ts) ts.length], errV 23]) (.inr rfl) (by simp [ET, errV]) ⟨⟨trivial, al_I _, al_L _, trivial⟩, al_errV _, trivial⟩ (imp_recE _) (by simp [ET])
        · have f4 : ¬ (0 : Int) < (r3.length : Int) := by omega
          have hv : scRec l = (⟨k, ns, ts⟩, 0) := by simp [scRec, hk, hn, ht, e4]
          rw [hv, hR]
          simp only [f4, recV_0, TT, ↓reduceIte, Nat.reduceEqDiff, Nat.reduceAdd, Nat.reduceMul, reduceCtorEq, Nat.reduceLeDiff]
          exact EndsR.data (r := .tup [aRec true ⟨k, ns, ts⟩, errV 0]) (.inr rfl) (by simp [ET, errV, aRec, fI, fL]) ⟨al_aRec _, al_errV 0, trivial⟩ (by simp [ET])
      · have hR : scRecR l = r3 := by simp [scRecR, hk, hn, ht]
        have hv : scRec l = (rec0, et) := by simp [scRec, hk, hn, ht, e3]
        rw [hv, hR]
        simp only [errV_ne e3, TT, ↓reduceIte, Nat.reduceEqDiff, Nat.reduceAdd, Nat.reduceMul, reduceCtorEq, Nat.reduceLeDiff]
        rw [recV_ne (show (rec0, et).2 ≠ 0 from e3)]
        exact EndsR.imp (r0 := .tup [.agg [.v (.int .i64 k), .fs true (eI ns) ns.length, .fs true (eL true ts) ts.length], errV et]) (.inr rfl) (by simp [ET, errV, e3]) ⟨⟨trivial, al_I _, al_L _, trivial⟩, al_errV _, trivial⟩ (by rw [← errV_ne e3]; exact imp_recE _) (by simp [ET])
    · have hR : scRecR l = r2 := by simp [scRecR, hk, hn, e2]
      have hv : scRec l = (rec0, en) := by simp [scRec, hk, hn, e2]
      rw [hv, hR]
      simp only [errV_ne e2, TT, ↓reduceIte, Nat.reduceEqDiff, Nat.reduceAdd, Nat.reduceMul, reduceCtorEq, Nat.reduceLeDiff]
      rw [recV_ne (show (rec0, en).2 ≠ 0 from e2)]
      exact EndsR.imp (r0 := .tup [.agg [.v (.int .i64 k), .fs true (eI ns) ns.length, .v (.slice none 0 0)], errV en]) (.inr rfl) (by simp [ET, errV, e2]) ⟨⟨trivial, al_I _, trivial, trivial⟩, al_errV _, trivial⟩ (by rw [← errV_ne e2]; exact imp_recE _) (by simp [ET])
  · have hR : scRecR l = r1 := by simp [scRecR, hk, e1]
    have hv : scRec l = (rec0, ek) := by simp [scRec, hk, e1]
    rw [hv, hR]
    simp only [errV_ne e1, TT, ↓reduceIte, Nat.reduceEqDiff, Nat.reduceAdd, Nat.reduceMul, reduceCtorEq, Nat.reduceLeDiff]
    rw [recV_ne (show (rec0, ek).2 ≠ 0 from e1)]
    exact EndsR.imp (r0 := .tup [.agg [.v (.int .i64 k), .v (.slice none 0 0), .v (.slice none 0 0)], errV ek]) (.inr rfl) (by simp [ET, errV, e1]) ⟨⟨trivial, trivial, trivial, trivial⟩, al_errV _, trivial⟩ (by rw [← errV_ne e1]; exact imp_recE _) (by simp [ET])
end Go.Proofs.YtonglhkiobibgaaGreatDoor
namespace Go.Proofs.YtonglhkiobibgaaGreatDoor
open Go.RowKit
set_option maxRecDepth 100000
set_option maxHeartbeats 4000000 in
theorem code_walk (e : Int) (w : World) (hg : w.cell? ⟨0, 0, none⟩ = some (.iface 342 (.agg #[.pointer (some ⟨4, 102, none⟩)]))) :
    Calls Tryz.prog 157 #[.iface 323 (.agg #[.int .i64 e])] w fun ev w' => ev = .returned (.int .i64 e) ∧ w' = ((((w.alloc (.cells #[.int .i64 e] 323)).alloc (.cells #[.pointer (some ⟨w.heap.size, 0, none⟩)] 324)).alloc (.cells #[.pointer (some ⟨4, 324, none⟩), .pointer (some ⟨w.heap.size + 1, 0, none⟩), .int .u64 150] 281)).alloc (.cells #[.pointer (some ⟨4, 324, none⟩), .pointer (some ⟨w.heap.size + 1, 0, none⟩), .int .u64 150] 281)).alloc (.cells #[.int .i64 e] 323) := by
  have hlt : 0 < w.heap.size := by
    rcases Nat.eq_zero_or_pos w.heap.size with h0 | h
    · simp [World.cell?, h0] at hg
    · exact h
  have hgA : (w.alloc (.cells #[.int .i64 0] 323)).cell? ⟨0, 0, none⟩ = some (.iface 342 (.agg #[.pointer (some ⟨4, 102, none⟩)])) := by
    rw [World.cell?_alloc_lt _ _ ⟨0, 0, none⟩ hlt]; exact hg
  have htA : (w.alloc (.cells #[.int .i64 0] 323)).cell? ⟨w.heap.size, 0, none⟩ = some (.int .i64 0) := by simp
  have hfA : (w.alloc (.cells #[.int .i64 0] 323)).frozen? ⟨w.heap.size, 0, none⟩ = false := by simp
  go_enter Tryz.func157, Tryz.ntmps157
  go_wp2_with (first | (go_at_call 123; refine (tz_as e _ (.int .i64 0) _ hgA htA hfA).mono ?_; rintro e w' ⟨rfl, rfl⟩))
  go_ret
  exact ⟨rfl, rfl⟩
theorem code_spec (e : Int) (nb : Nat) : ASound Tryz.prog 157 [.ifc 323 (.agg [.v (.int .i64 e)])] nb (.ret (.v (.int .i64 e)) []) := by
  refine ⟨by kernel_rfl, fun c us r R W hrun hr hfr hv => ?_⟩
  simp [AM.run] at hrun
  obtain ⟨rfl, _, rfl⟩ := hrun
  obtain ⟨u, us', rfl, ⟨v, rfl, vs, rfl, x, vs', rfl, _, hx, hn⟩, hn2⟩ := hv
  rw [VRl] at hn
  subst hn
  rw [VRt] at hn2
  subst hn2
  rw [VR] at hx
  subst hx
  have hg := (hr.gl 0 _ rfl).1
  refine (code_walk e c.w hg).mono ?_
  rintro ev w' ⟨rfl, hw⟩
  have step : ∀ (w : World) (o : Obj) (b : Nat), b < w.heap.size → (w.alloc o).heap[b]? = w.heap[b]? := fun w o b hb => Below.heap_alloc w o b hb
  have h1 : c.w.heap.size ≤ w'.heap.size := by rw [hw]; simp only [World.size_alloc]; omega
  have h2 : ∀ b, b < c.w.heap.size → w'.heap[b]? = c.w.heap[b]? := by
    intro b hb
    rw [hw]
    rw [step _ _ _ (by simp only [World.size_alloc]; omega), step _ _ _ (by simp only [World.size_alloc]; omega), step _ _ _ (by simp only [World.size_alloc]; omega), step _ _ _ (by simp only [World.size_alloc]; omega), step _ _ _ hb]
  have h3 : w'.output = c.w.output := by rw [hw]; rfl
  have h4 : w'.os = c.w.os := by rw [hw]; rfl
  have h5 : w'.tape = c.w.tape := by rw [hw]; rfl
  exact ⟨_, c.at w', rfl, rfl, rfl, Then.onlyW hr nb h1 h2 h3 h4 h5⟩
end Go.Proofs.YtonglhkiobibgaaGreatDoor
namespace Go.Proofs.YtonglhkiobibgaaGreatDoor
open Go.RowKit
set_option maxRecDepth 100000
theorem imp_rec0 (e : Int) : Imp (.tup [.agg [.v (.int .i64 0), .v (.slice none 0 0), .v (.slice none 0 0)], .v (.int .i64 e)]) (.tup [aRec true rec0, .v (.int .i64 e)]) :=
  Imp.tupL ⟨Imp.aggL ⟨Imp.refl _, Imp.nil true, Imp.nil true, trivial⟩, Imp.refl _, trivial⟩
theorem scRec_err {l : List Int} (h : (scRec l).2 ≠ 0) : (scRec l).1 = rec0 := by
  unfold scRec at h ⊢
  simp only at h ⊢
  split
  · rfl
  · split
    · rfl
    · split
      · rfl
      · split
        · rfl
        · rename_i a b c d
          rw [if_neg a, if_neg b, if_neg c, if_neg d] at h
          exact absurd rfl h
theorem okB_open {l : List Int} (h : okB l) : okB (openB l).1 := by
  unfold openB
  split
  · intro x hx; simp at hx
  · split
    · exact okB_take h _
    · intro x hx; simp at hx
set_option maxHeartbeats 2000000 in
theorem decode_spec (fr : Bool) (l : List Int) (nb : Nat) (hb : okB l) (h : l.length ≤ 140737488355320) : ASound Tryz.prog 98 [fB fr l] nb (.ret (.tup [aRec true (dec l).1, .v (.int .i64 (dec l).2)]) []) := by
  refine ok_98.sound (by simp) ⟨al_fB l, trivial⟩ ?_
  simp only [ac_98, TT, ↓reduceIte, Nat.reduceEqDiff, Nat.reduceAdd, Nat.reduceMul, reduceCtorEq, Nat.reduceLeDiff]
  refine ⟨_, open_spec fr l _ hb h, ?_⟩
  have hob := okB_open hb
  rcases ho : openB l with ⟨b, e⟩
  rw [ho] at hob
  simp only at hob
  simp only [TT, ↓reduceIte, Nat.reduceEqDiff, Nat.reduceAdd, Nat.reduceMul, reduceCtorEq, Nat.reduceLeDiff]
  by_cases he : e = 0
  · subst he
    have hd : dec l = scRec b := by simp [dec, ho]
    rw [hd]
    simp only [TT, ↓reduceIte, Nat.reduceEqDiff, Nat.reduceAdd, Nat.reduceMul, reduceCtorEq, Nat.reduceLeDiff]
    have k := fun id nb h => record_spec true true b id nb h hob
    simp only [scRow, fB] at k
    refine ⟨_, k _ _ (by omega), ?_⟩
    rcases hs : scRec b with ⟨r, e⟩
    by_cases e2 : e = 0
    · subst e2
      simp only [recV_0, errV_0, TT, ↓reduceIte, Nat.reduceEqDiff, Nat.reduceAdd, Nat.reduceMul, reduceCtorEq, Nat.reduceLeDiff]
      exact Ends.data (r := .tup [aRec true r, .v (.int .i64 0)]) (.inr rfl) (by simp [ET, aRec, fI, fL]) ⟨al_aRec _, trivial, trivial⟩
    · simp only [recV_ne (show (r, e).2 ≠ 0 from e2), errV_ne e2, anyR, TT, ↓reduceIte, Nat.reduceEqDiff, Nat.reduceAdd, Nat.reduceMul, reduceCtorEq, Nat.reduceLeDiff]
      refine ⟨_, code_spec e _, ?_⟩
      have hr0 : r = rec0 := by
        have := scRec_err (l := b) (by rw [hs]; exact e2)
        rw [hs] at this; exact this
      rw [hr0]
      simp only [TT, ↓reduceIte, Nat.reduceEqDiff, Nat.reduceAdd, Nat.reduceMul, reduceCtorEq, Nat.reduceLeDiff]
      exact Ends.imp (r0 := .tup [.agg [.v (.int .i64 0), .v (.slice none 0 0), .v (.slice none 0 0)], .v (.int .i64 e)]) (.inr rfl) (by simp [ET]) ⟨⟨trivial, trivial, trivial, trivial⟩, trivial, trivial⟩ (imp_rec0 e)
  · have hd : dec l = (rec0, e) := by simp [dec, ho, he]
    rw [hd]
    simp only [he, not_false_eq_true, TT, ↓reduceIte, Nat.reduceEqDiff, Nat.reduceAdd, Nat.reduceMul, reduceCtorEq, Nat.reduceLeDiff]
    exact Ends.imp (r0 := .tup [.agg [.v (.int .i64 0), .v (.slice none 0 0), .v (.slice none 0 0)], .v (.int .i64 e)]) (.inr rfl) (by simp [ET]) ⟨⟨trivial, trivial, trivial, trivial⟩, trivial, trivial⟩ (imp_rec0 e)
end Go.Proofs.YtonglhkiobibgaaGreatDoor
namespace Go.Proofs.YtonglhkiobibgaaGreatDoor
open Go.RowKit
set_option maxRecDepth 100000
/-- a rest of a list -/
def Suf (B r : List Int) : Prop := B.drop (B.length - r.length) = r
theorem Suf.le {B r : List Int} (h : Suf B r) : r.length ≤ B.length := by
  have := congrArg List.length h
  rw [List.length_drop] at this; omega
theorem Suf.self (B : List Int) : Suf B B := by unfold Suf; simp
theorem Suf.drop {B r : List Int} (h : Suf B r) (n : Nat) : Suf B (r.drop n) := by
  have hl := h.le
  unfold Suf at *
  rw [List.length_drop]
  by_cases hn : n ≤ r.length
  · conv => rhs; rw [← h, List.drop_drop]
    congr 1; omega
  · rw [List.drop_of_length_le (by omega), List.drop_of_length_le (l := r) (by omega)]
theorem Suf.ex {B r r' : List Int} (h : Suf B r) (hx : ∃ n, r' = r.drop n) : Suf B r' := by obtain ⟨n, rfl⟩ := hx; exact h.drop n
abbrev rdRow (y fr : Bool) (B r : List Int) (e : Int) : AObj := .row y 237 [fB fr B, .v (.int .i64 ((B.length - r.length : Nat) : Int)), .v (.int .i64 e)]
theorem rtake_err (y fr : Bool) (B r : List Int) (e n : Int) (id nb : Nat) (hid : id < nb) (he : e ≠ 0) :
    ASound Tryz.prog 163 [.op id 0, .v (.int .i64 n)] nb (rowM id (rdRow y fr B r e) (.ret (fB true []) [(id, some (rdRow y fr B r e))])) := by
  refine ok_163.soundR (by simp) ⟨rfl, trivial, trivial⟩ (by simp) ⟨al_B B, trivial, trivial, trivial⟩ ⟨al_B B, trivial, trivial, trivial⟩ rfl hid ?_
  simp only [ac_163, renL, ren, he, not_false_eq_true, TT, ↓reduceIte, Nat.reduceEqDiff, Nat.reduceAdd, Nat.reduceMul, reduceCtorEq, Nat.reduceLeDiff]
  exact EndsR.imp (r0 := .v (.slice none 0 0)) (.inr rfl) (by simp [ET]) trivial (Imp.nil true) (by simp [ET])
theorem rtake_short (y fr : Bool) (B r : List Int) (n : Nat) (id nb : Nat) (hid : id < nb) (hs : Suf B r) (hB : B.length ≤ 140737488355328) (h : r.length < n) :
    ASound Tryz.prog 163 [.op id 0, .v (.int .i64 n)] nb (rowM id (rdRow y fr B r 0) (.ret (fB true []) [(id, some (rdRow y fr B r 8))])) := by
  refine ok_163.soundR (by simp) ⟨rfl, trivial, trivial⟩ (by simp) ⟨al_B B, trivial, trivial, trivial⟩ ⟨al_B B, trivial, trivial, trivial⟩ rfl hid ?_
  have hl := hs.le
  have w1 : IntKind.i64.wrap ((B.length : Int) - ((B.length - r.length : Nat) : Int)) = (r.length : Int) := by rw [wrap64 (by omega)]; omega
  have e1 : (r.length : Int) < (n : Int) := by omega
  simp only [ac_163, renL, ren, w1, e1, TT, ↓reduceIte, Nat.reduceEqDiff, Nat.reduceAdd, Nat.reduceMul, reduceCtorEq, Nat.reduceLeDiff]
  refine ⟨by rfl, ?_⟩
  exact EndsR.imp (r0 := .v (.slice none 0 0)) (.inr rfl) (by simp [ET]) trivial (Imp.nil true) (by simp [ET])
theorem rtake_ok (y fr : Bool) (B r : List Int) (n : Nat) (id nb : Nat) (hid : id < nb) (hs : Suf B r) (hB : B.length ≤ 140737488355328) (h : n ≤ r.length) :
    ASound Tryz.prog 163 [.op id 0, .v (.int .i64 n)] nb (rowM id (rdRow y fr B r 0) (.ret (fB fr (r.take n)) [(id, some (rdRow y fr B (r.drop n) 0))])) := by
  refine ok_163.soundR (by simp) ⟨rfl, trivial, trivial⟩ (by simp) ⟨al_B B, trivial, trivial, trivial⟩ ⟨al_B B, trivial, trivial, trivial⟩ rfl hid ?_
  have hl := hs.le
  have w1 : IntKind.i64.wrap ((B.length : Int) - ((B.length - r.length : Nat) : Int)) = (r.length : Int) := by rw [wrap64 (by omega)]; omega
  have e1 : ¬ (r.length : Int) < (n : Int) := by omega
  have hd : (r.drop n).length = r.length - n := List.length_drop
  have w2 : IntKind.i64.wrap (((B.length - r.length : Nat) : Int) + (n : Int)) = ((B.length - (r.drop n).length : Nat) : Int) := by rw [wrap64 (by omega), hd]; omega
  have w3 : IntKind.i64.wrap (((B.length - (r.drop n).length : Nat) : Int) - (n : Int)) = ((B.length - r.length : Nat) : Int) := by rw [wrap64 (by omega), hd]; omega
  have c1 : ((0 : Int) ≤ ((B.length - r.length : Nat) : Int) ∧ ((B.length - r.length : Nat) : Int) ≤ ((B.length - (r.drop n).length : Nat) : Int) ∧ ((B.length - (r.drop n).length : Nat) : Int) ≤ (B.length : Int)) = True := eq_true ⟨by omega, by rw [hd]; omega, by omega⟩
  have n1 : (B.length - (r.drop n).length) - (B.length - r.length) = n := by rw [hd]; omega
  have hsd : B.drop (B.length - r.length) = r := hs
  simp only [ac_163, renL, ren, w1, e1, w2, w3, c1, n1, drop_B, take_B, hsd, not_true_eq_false, TT, ↓reduceIte, Nat.reduceEqDiff, Nat.reduceAdd, Nat.reduceMul, reduceCtorEq, Nat.reduceLeDiff]
  refine ⟨by rfl, by rfl, ?_⟩
  exact EndsR.data (r := fB fr (r.take n)) (.inr rfl) (by simp [ET, fB, List.length_take_of_le h]) (al_fB _) (by simp [ET])
theorem roct_err (y fr : Bool) (B r : List Int) (e : Int) (id nb : Nat) (hid : id < nb) (he : e ≠ 0) :
    ASound Tryz.prog 159 [.op id 0] nb (rowM id (rdRow y fr B r e) (.ret (.v (.int .i64 0)) [(id, some (rdRow y fr B r e))])) := by
  refine ok_159.soundR (by simp) ⟨rfl, trivial⟩ (by simp) ⟨al_B B, trivial, trivial, trivial⟩ ⟨al_B B, trivial, trivial, trivial⟩ rfl hid ?_
  have h := fun nb h => rtake_err y fr B r e 1 0 nb h he
  simp only [rdRow, fB] at h
  simp only [ac_159, renL, ren, TT, ↓reduceIte, Nat.reduceEqDiff, Nat.reduceAdd, Nat.reduceMul, reduceCtorEq, Nat.reduceLeDiff]
  refine ⟨_, h _ (by omega), ?_⟩
  simp only [he, not_false_eq_true, TT, ↓reduceIte, Nat.reduceEqDiff, Nat.reduceAdd, Nat.reduceMul, reduceCtorEq, Nat.reduceLeDiff]
  exact EndsR.data (.inr rfl) (by simp [ET]) trivial (by simp [ET])
theorem roct_spec (y fr : Bool) (B r : List Int) (id nb : Nat) (hid : id < nb) (hs : Suf B r) (hB : B.length ≤ 140737488355328) (hb : okB r) :
    ASound Tryz.prog 159 [.op id 0] nb (rowM id (rdRow y fr B r 0) (.ret (.v (.int .i64 (scOct r).1)) [(id, some (rdRow y fr B (scOct r).2.2 (scOct r).2.1))])) := by
  refine ok_159.soundR (by simp) ⟨rfl, trivial⟩ (by simp) ⟨al_B B, trivial, trivial, trivial⟩ ⟨al_B B, trivial, trivial, trivial⟩ rfl hid ?_
  cases r with
  | nil =>
    have h := fun nb h => rtake_short y fr B [] 1 0 nb h hs hB (by simp)
    simp only [rdRow, fB, List.length_nil, Nat.sub_zero] at h
    simp only [ac_159, renL, ren, Nat.sub_zero, TT, ↓reduceIte, Nat.reduceEqDiff, Nat.reduceAdd, Nat.reduceMul, reduceCtorEq, Nat.reduceLeDiff]
    refine ⟨_, h _ (by omega), ?_⟩
    have e8 : ¬ (8 : Int) = 0 := by decide
    simp only [e8, not_false_eq_true, TT, ↓reduceIte, Nat.reduceEqDiff, Nat.reduceAdd, Nat.reduceMul, reduceCtorEq, Nat.reduceLeDiff]
    exact EndsR.data (r := .v (.int .i64 0)) (.inr rfl) (by simp [ET]) trivial (by simp [ET, scOct])
  | cons x r =>
    have hx := hb x (by simp)
    have w1 : IntKind.i64.wrap x = x := wrap64 (by omega)
    have h := fun nb h => rtake_ok y fr B (x :: r) 1 0 nb h hs hB (by simp)
    simp only [rdRow, fB, List.length_cons, List.length_nil, List.drop_succ_cons, List.drop_zero, List.take_succ_cons, List.take_zero, Nat.zero_add] at h
    simp only [ac_159, renL, ren, TT, ↓reduceIte, Nat.reduceEqDiff, Nat.reduceAdd, Nat.reduceMul, reduceCtorEq, Nat.reduceLeDiff]
    refine ⟨_, h _ (by omega), ?_⟩
    have g0 : (eB [x])[Int.toNat 0]? = some (.v (.int .u8 x)) := rfl
    have g1 : ((0 : Int) ≤ 0 ∧ (0 : Int) < ((1 : Nat) : Int)) = True := eq_true ⟨by decide, by decide⟩
    simp only [g0, g1, w1, not_true_eq_false, TT, ↓reduceIte, Nat.reduceEqDiff, Nat.reduceAdd, Nat.reduceMul, reduceCtorEq, Nat.reduceLeDiff]
    exact EndsR.data (r := .v (.int .i64 x)) (.inr rfl) (by simp [ET]) trivial (by simp [ET, scOct])
theorem rcnt_err (y fr : Bool) (B r : List Int) (e : Int) (id nb : Nat) (hid : id < nb) (he : e ≠ 0) :
    ASound Tryz.prog 160 [.op id 0, .v (.int .i64 64)] nb (rowM id (rdRow y fr B r e) (.ret (.v (.int .i64 0)) [(id, some (rdRow y fr B r e))])) := by
  refine ok_160.soundR (by simp) ⟨rfl, trivial, trivial⟩ (by simp) ⟨al_B B, trivial, trivial, trivial⟩ ⟨al_B B, trivial, trivial, trivial⟩ rfl hid ?_
  have h := fun nb h => roct_err y fr B r e 0 nb h he
  simp only [rdRow, fB] at h
  simp only [ac_160, renL, ren, TT, ↓reduceIte, Nat.reduceEqDiff, Nat.reduceAdd, Nat.reduceMul, reduceCtorEq, Nat.reduceLeDiff]
  refine ⟨_, h _ (by omega), ?_⟩
  simp only [he, TT, ↓reduceIte, Nat.reduceEqDiff, Nat.reduceAdd, Nat.reduceMul, reduceCtorEq, Nat.reduceLeDiff]
  exact EndsR.data (.inr rfl) (by simp [ET]) trivial (by simp [ET])
theorem rcnt_spec (y fr : Bool) (B r : List Int) (id nb : Nat) (hid : id < nb) (hs : Suf B r) (hB : B.length ≤ 140737488355328) (hb : okB r) :
    ASound Tryz.prog 160 [.op id 0, .v (.int .i64 64)] nb (rowM id (rdRow y fr B r 0) (.ret (.v (.int .i64 (scCnt r).1)) [(id, some (rdRow y fr B (scCnt r).2.2 (scCnt r).2.1))])) := by
  refine ok_160.soundR (by simp) ⟨rfl, trivial, trivial⟩ (by simp) ⟨al_B B, trivial, trivial, trivial⟩ ⟨al_B B, trivial, trivial, trivial⟩ rfl hid ?_
  have h := fun nb h => roct_spec y fr B r 0 nb h hs hB hb
  simp only [rdRow, fB] at h
  simp only [ac_160, renL, ren, TT, ↓reduceIte, Nat.reduceEqDiff, Nat.reduceAdd, Nat.reduceMul, reduceCtorEq, Nat.reduceLeDiff]
  refine ⟨_, h _ (by omega), ?_⟩
  cases r with
  | nil =>
    have e8 : ¬ (8 : Int) = 0 := by decide
    simp only [scOct, e8, TT, ↓reduceIte, Nat.reduceEqDiff, Nat.reduceAdd, Nat.reduceMul, reduceCtorEq, Nat.reduceLeDiff]
    exact EndsR.data (r := .v (.int .i64 0)) (.inr rfl) (by simp [ET]) trivial (by simp [ET, scCnt, scOct])
  | cons x r =>
    by_cases h6 : 64 < x
    · have hg : scCnt (x :: r) = (x, 3, r) := by simp [scCnt, scOct, h6]
      rw [hg]
      simp only [scOct, h6, TT, ↓reduceIte, Nat.reduceEqDiff, Nat.reduceAdd, Nat.reduceMul, reduceCtorEq, Nat.reduceLeDiff]
      exact EndsR.data (r := .v (.int .i64 x)) (.inr rfl) (by simp [ET]) trivial (by simp [ET])
    · have hg : scCnt (x :: r) = (x, 0, r) := by simp [scCnt, scOct, h6]
      rw [hg]
      simp only [scOct, h6, TT, ↓reduceIte, Nat.reduceEqDiff, Nat.reduceAdd, Nat.reduceMul, reduceCtorEq, Nat.reduceLeDiff]
      exact EndsR.data (r := .v (.int .i64 x)) (.inr rfl) (by simp [ET]) trivial (by simp [ET])
end Go.Proofs.YtonglhkiobibgaaGreatDoor
namespace Go.Proofs.YtonglhkiobibgaaGreatDoor
open Go.RowKit
set_option maxRecDepth 100000
abbrev L_rg (y fr : Bool) (B : List Int) (q : Nat × Nat × List Int) : ASt := ⟨envOf [(0, .op 0 0), (3, .v (.int .u64 q.2.1)), (4, .v (.int .i64 (q.1 : Int)))], heapOf [(0, rdRow y fr B q.2.2 0)], 1⟩
set_option maxHeartbeats 4000000 in
theorem rgrp_spec (y fr : Bool) (B l : List Int) (id nb : Nat) (hid : id < nb) (hS : Suf B l) (hB : B.length ≤ 140737488355328) (hb : okB l) :
    ASound Tryz.prog 161 [.op id 0] nb (rowM id (rdRow y fr B l 0) (.ret (.v (.int .u64 (scGrp 0 0 l).1)) [(id, some (rdRow y fr B (scGrp 0 0 l).2.2 (scGrp 0 0 l).2.1))])) := by
  refine ok_161.soundR (by simp) ⟨rfl, trivial⟩ (by simp) ⟨al_B B, trivial, trivial, trivial⟩ ⟨al_B B, trivial, trivial, trivial⟩ rfl hid ?_
  simp only [ac_161, renL, ren, TT, ↓reduceIte, Nat.reduceEqDiff, Nat.reduceAdd, Nat.reduceMul, reduceCtorEq, Nat.reduceLeDiff]
  refine AWc.family (L_rg y fr B) (fun q => scGrp q.1 q.2.1 q.2.2 = scGrp 0 0 l ∧ q.2.1 < 2 ^ (7 * q.1) ∧ q.1 ≤ 9 ∧ okB q.2.2 ∧ Suf B q.2.2) (fun q => q.2.2.length) (0, 0, l) ⟨rfl, by simp, by simp, hb, hS⟩ ?_ ?_
  · refine Weak.calc [(0, 0)] (by decide) ?_ ?_ <;> simp [WT]
  · rintro ⟨k, a, s⟩ ⟨he, ha, hk, hs, hS⟩
    simp only at he ha hk hs hS
    rw [← he]
    have f10 : (k : Int) < 10 := by omega
    cases s with
    | nil =>
      have h := fun nb h => roct_spec y fr B [] 0 nb h hS hB hs
      simp only [rdRow, scOct, fB, List.length_cons, List.length_nil, Nat.sub_zero] at h
      simp only [L_rg, rdRow, f10, Nat.sub_zero, TT, ↓reduceIte, Nat.reduceEqDiff, Nat.reduceAdd, Nat.reduceMul, reduceCtorEq, Nat.reduceLeDiff]
      refine ⟨_, h _ (by omega), ?_⟩
      have e8 : ¬ (8 : Int) = 0 := by decide
      simp only [e8, not_false_eq_true, TT, ↓reduceIte, Nat.reduceEqDiff, Nat.reduceAdd, Nat.reduceMul, reduceCtorEq, Nat.reduceLeDiff]
      exact EndsR.data (r := .v (.int .u64 0)) (.inr rfl) (by simp [ET]) trivial (by simp [ET, scGrp])
    | cons x r =>
      have hx := hs x (by simp)
      have hr : okB r := fun z hz => hs z (by simp [hz])
      have hSr : Suf B r := hS.drop 1
      have h := fun nb h => roct_spec y fr B (x :: r) 0 nb h hS hB hs
      simp only [rdRow, scOct, fB, List.length_cons, List.length_nil] at h
      have e3 : (2 : Nat) ^ 64 = 18446744073709551616 := by decide
      have hm : (x % 128).toNat ≤ 127 := by omega
      have hp : 0 < 2 ^ (7 * k) := Nat.pow_pos (by decide)
      have sd : ∀ h3 : a + (x % 128).toNat * 2 ^ (7 * k) < 2 ^ 64, (x % 128).toNat * 2 ^ (7 * k) < 2 ^ 64 := fun h3 => by omega
      have w7 : IntKind.i64.wrap ((k : Int) + 1) = ((k + 1 : Nat) : Int) := by rw [wrap64 (by omega)]; omega
      have w8 : IntKind.i64.wrap (7 * (k : Int)) = 7 * (k : Int) := wrap64 (by omega)
      have wu : IntKind.u64.wrap ((x % 128).toNat : Int) = ((x % 128).toNat : Int) := by rw [u64_mod]; omega
      by_cases hbad : (k = 9 ∧ 1 < x) ∨ (0 < k ∧ x = 0)
      · have hg : scGrp k a (x :: r) = (0, 4, r) := by rw [scGrp, if_pos hbad]
        rw [hg]
        by_cases k9 : k = 9
        · have f9 : (k : Int) = 9 := by omega
          by_cases x1 : 1 < x
          · simp only [L_rg, rdRow, f10, TT, ↓reduceIte, Nat.reduceEqDiff, Nat.reduceAdd, Nat.reduceMul, reduceCtorEq, Nat.reduceLeDiff]
            refine ⟨_, h _ (by omega), ?_⟩
            simp only [f9, x1, not_false_eq_true, not_true_eq_false, TT, ↓reduceIte, Nat.reduceEqDiff, Nat.reduceAdd, Nat.reduceMul, reduceCtorEq, Nat.reduceLeDiff]
            exact EndsR.data (r := .v (.int .u64 0)) (.inr rfl) (by simp [ET]) trivial (by simp [ET])
          · have x0 : x = 0 := by omega
            subst x0
            have f0 : ((0 : Int) < 9) := by decide
            simp only [L_rg, rdRow, f10, TT, ↓reduceIte, Nat.reduceEqDiff, Nat.reduceAdd, Nat.reduceMul, reduceCtorEq, Nat.reduceLeDiff]
            refine ⟨_, h _ (by omega), ?_⟩
            simp only [f9, x1, f0, not_false_eq_true, not_true_eq_false, TT, ↓reduceIte, Nat.reduceEqDiff, Nat.reduceAdd, Nat.reduceMul, reduceCtorEq, Nat.reduceLeDiff]
            exact EndsR.data (r := .v (.int .u64 0)) (.inr rfl) (by simp [ET]) trivial (by simp [ET])
        · have f9 : ¬ (k : Int) = 9 := by omega
          have x0 : x = 0 := by omega
          subst x0
          have f0 : ((0 : Int) < (k : Int)) := by omega
          simp only [L_rg, rdRow, f10, TT, ↓reduceIte, Nat.reduceEqDiff, Nat.reduceAdd, Nat.reduceMul, reduceCtorEq, Nat.reduceLeDiff]
          refine ⟨_, h _ (by omega), ?_⟩
          simp only [f9, f0, not_false_eq_true, not_true_eq_false, TT, ↓reduceIte, Nat.reduceEqDiff, Nat.reduceAdd, Nat.reduceMul, reduceCtorEq, Nat.reduceLeDiff]
          exact EndsR.data (r := .v (.int .u64 0)) (.inr rfl) (by simp [ET]) trivial (by simp [ET])
      · have hsum : a + (x % 128).toNat * 2 ^ (7 * k) < 2 ^ 64 := by
          by_cases k9 : k = 9
          · subst k9
            have h3 : (x % 128).toNat * 2 ^ (7 * 9) ≤ 1 * 2 ^ (7 * 9) := Nat.mul_le_mul_right _ (by omega)
            have e1 : (2 : Nat) ^ (7 * 9) = 9223372036854775808 := by decide
            rw [e1] at h3 ha ⊢; omega
          · have h3 : (x % 128).toNat * 2 ^ (7 * k) ≤ 127 * 2 ^ (7 * k) := Nat.mul_le_mul_right _ hm
            have h4 : 2 ^ (7 * k) ≤ 2 ^ 56 := Nat.pow_le_pow_right (by decide) (by omega)
            have e1 : (2 : Nat) ^ 56 = 72057594037927936 := by decide
            rw [e1] at h4; omega
        have ss := sc_shl (m := (x % 128).toNat) (sd hsum) hk
        have so := sc_or ha hsum
        have sa := sc_and hx
        by_cases k9 : k = 9
        · have f9 : (k : Int) = 9 := by omega
          have x1 : ¬ 1 < x := by omega
          have x0 : ¬ x = 0 := by omega
          have f0 : ((0 : Int) < 9) := by decide
          have hlt : x < 128 := by omega
          have hg : scGrp k a (x :: r) = (a + (x % 128).toNat * 2 ^ (7 * k), 0, r) := by rw [scGrp, if_neg hbad, if_pos hlt]
          rw [hg]
          rw [f9] at ss w8
          simp only [L_rg, rdRow, f10, TT, ↓reduceIte, Nat.reduceEqDiff, Nat.reduceAdd, Nat.reduceMul, reduceCtorEq, Nat.reduceLeDiff]
          refine ⟨_, h _ (by omega), ?_⟩
          simp only [f9, x1, x0, f0, hlt, sa, wu, w8, ss, so, not_false_eq_true, not_true_eq_false, TT, ↓reduceIte, Nat.reduceEqDiff, Nat.reduceAdd, Nat.reduceMul, reduceCtorEq, Nat.reduceLeDiff]
          exact EndsR.data (r := .v (.int .u64 (a + (x % 128).toNat * 2 ^ (7 * k) : Nat))) (.inr rfl) (by simp [ET]) trivial (by simp [ET])
        · have f9 : ¬ (k : Int) = 9 := by omega
          by_cases k0 : k = 0
          · have f0 : ¬ ((0 : Int) < (k : Int)) := by omega
            by_cases x0 : x = 0
            · have hlt : x < 128 := by omega
              have hg : scGrp k a (x :: r) = (a + (x % 128).toNat * 2 ^ (7 * k), 0, r) := by rw [scGrp, if_neg hbad, if_pos hlt]
              rw [hg]
              subst x0
              simp only [L_rg, rdRow, f10, TT, ↓reduceIte, Nat.reduceEqDiff, Nat.reduceAdd, Nat.reduceMul, reduceCtorEq, Nat.reduceLeDiff]
              refine ⟨_, h _ (by omega), ?_⟩
              simp only [f9, f0, hlt, sa, wu, w8, ss, so, not_false_eq_true, not_true_eq_false, TT, ↓reduceIte, Nat.reduceEqDiff, Nat.reduceAdd, Nat.reduceMul, reduceCtorEq, Nat.reduceLeDiff]
              exact EndsR.data (r := .v (.int .u64 (a + ((0 : Int) % 128).toNat * 2 ^ (7 * k) : Nat))) (.inr rfl) (by simp [ET]) trivial (by simp [ET])
            · by_cases hlt : x < 128
              · have hg : scGrp k a (x :: r) = (a + (x % 128).toNat * 2 ^ (7 * k), 0, r) := by rw [scGrp, if_neg hbad, if_pos hlt]
                rw [hg]
                simp only [L_rg, rdRow, f10, TT, ↓reduceIte, Nat.reduceEqDiff, Nat.reduceAdd, Nat.reduceMul, reduceCtorEq, Nat.reduceLeDiff]
                refine ⟨_, h _ (by omega), ?_⟩
                simp only [f9, f0, x0, hlt, sa, wu, w8, ss, so, not_false_eq_true, not_true_eq_false, TT, ↓reduceIte, Nat.reduceEqDiff, Nat.reduceAdd, Nat.reduceMul, reduceCtorEq, Nat.reduceLeDiff]
                exact EndsR.data (r := .v (.int .u64 (a + (x % 128).toNat * 2 ^ (7 * k) : Nat))) (.inr rfl) (by simp [ET]) trivial (by simp [ET])
              · have hg : scGrp k a (x :: r) = scGrp (k + 1) (a + (x % 128).toNat * 2 ^ (7 * k)) r := by rw [scGrp, if_neg hbad, if_neg hlt]
                have ha2 : a + (x % 128).toNat * 2 ^ (7 * k) < 2 ^ (7 * (k + 1)) := by
                  have h3 : (x % 128).toNat * 2 ^ (7 * k) ≤ 127 * 2 ^ (7 * k) := Nat.mul_le_mul_right _ hm
                  rw [show 7 * (k + 1) = 7 * k + 7 from by omega, Nat.pow_add]
                  omega
                simp only [L_rg, rdRow, f10, TT, ↓reduceIte, Nat.reduceEqDiff, Nat.reduceAdd, Nat.reduceMul, reduceCtorEq, Nat.reduceLeDiff]
                refine ⟨_, h _ (by omega), ?_⟩
                simp only [f9, f0, x0, hlt, sa, wu, w8, ss, so, w7, not_false_eq_true, not_true_eq_false, TT, ↓reduceIte, Nat.reduceEqDiff, Nat.reduceAdd, Nat.reduceMul, reduceCtorEq, Nat.reduceLeDiff]
                refine famC_next (k + 1, a + (x % 128).toNat * 2 ^ (7 * k), r) (by simp) ⟨?_, ha2, by simp only; omega, hr, hSr⟩ ?_
                · simp only; rw [← hg, he]
                · refine Weak.calc [(0, 0)] (by decide) ?_ ?_ <;> simp [WT]
          · have f0 : ((0 : Int) < (k : Int)) := by omega
            have x0 : ¬ x = 0 := by omega
            by_cases hlt : x < 128
            · have hg : scGrp k a (x :: r) = (a + (x % 128).toNat * 2 ^ (7 * k), 0, r) := by rw [scGrp, if_neg hbad, if_pos hlt]
              rw [hg]
              simp only [L_rg, rdRow, f10, TT, ↓reduceIte, Nat.reduceEqDiff, Nat.reduceAdd, Nat.reduceMul, reduceCtorEq, Nat.reduceLeDiff]
              refine ⟨_, h _ (by omega), ?_⟩
              simp only [f9, f0, x0, hlt, sa, wu, w8, ss, so, not_false_eq_true, not_true_eq_false, TT, ↓reduceIte, Nat.reduceEqDiff, Nat.reduceAdd, Nat.reduceMul, reduceCtorEq, Nat.reduceLeDiff]
              exact EndsR.data (r := .v (.int .u64 (a + (x % 128).toNat * 2 ^ (7 * k) : Nat))) (.inr rfl) (by simp [ET]) trivial (by simp [ET])
            · have hg : scGrp k a (x :: r) = scGrp (k + 1) (a + (x % 128).toNat * 2 ^ (7 * k)) r := by rw [scGrp, if_neg hbad, if_neg hlt]
              have ha2 : a + (x % 128).toNat * 2 ^ (7 * k) < 2 ^ (7 * (k + 1)) := by
                have h3 : (x % 128).toNat * 2 ^ (7 * k) ≤ 127 * 2 ^ (7 * k) := Nat.mul_le_mul_right _ hm
                rw [show 7 * (k + 1) = 7 * k + 7 from by omega, Nat.pow_add]
                omega
              simp only [L_rg, rdRow, f10, TT, ↓reduceIte, Nat.reduceEqDiff, Nat.reduceAdd, Nat.reduceMul, reduceCtorEq, Nat.reduceLeDiff]
              refine ⟨_, h _ (by omega), ?_⟩
              simp only [f9, f0, x0, hlt, sa, wu, w8, ss, so, w7, not_false_eq_true, not_true_eq_false, TT, ↓reduceIte, Nat.reduceEqDiff, Nat.reduceAdd, Nat.reduceMul, reduceCtorEq, Nat.reduceLeDiff]
              refine famC_next (k + 1, a + (x % 128).toNat * 2 ^ (7 * k), r) (by simp) ⟨?_, ha2, by simp only; omega, hr, hSr⟩ ?_
              · simp only; rw [← hg, he]
              · refine Weak.calc [(0, 0)] (by decide) ?_ ?_ <;> simp [WT]
end Go.Proofs.YtonglhkiobibgaaGreatDoor
namespace Go.Proofs.YtonglhkiobibgaaGreatDoor
set_option maxRecDepth 100000
def ac_R5t : AC :=
(.seq (.block 4 (.seq (.reg false [⟨some 100, .mv (.tmp 6), none, [6], []⟩,
    ⟨some 101, .nilc (.tmp 100), none, [100], []⟩,
    ⟨some 102, .foff 2 (.tmp 101), none, [101], []⟩,
    ⟨some 103, .load false 1 (.tmp 102), none, [102], []⟩,
    ⟨some 104, .bin .neq (.tmp 103) (.const (.int .i64 (0))), none, [103], []⟩,
    ⟨some 99, .mv (.tmp 104), none, [104], []⟩] [2, 4, 6, 7, 99])
(.cond (.tmp 99)
(.seq (.reg true [⟨some 105, .build [(.int .i64 (0)), (.slice none 0 0), (.slice none 0 0)] [], none, [], []⟩,
    ⟨some 106, .mv (.tmp 6), none, [6], []⟩,
    ⟨some 107, .nilc (.tmp 106), none, [106], [1]⟩,
    ⟨some 108, .foff 2 (.tmp 107), none, [107], [2, 1]⟩,
    ⟨some 109, .load false 1 (.tmp 108), none, [108], [3, 2, 1]⟩,
    ⟨none, .store 3 (.tmp 2) (.tmp 105), none, [2, 105], [0]⟩,
    ⟨some 3, .mv (.tmp 109), none, [109], [4, 5, 0, 1, 2, 3]⟩] [2, 3])
.ret)
(.seq (.reg false [⟨some 111, .mv (.tmp 6), none, [6], []⟩,
    ⟨some 112, .nilc (.tmp 111), none, [111], []⟩,
    ⟨some 113, .foff 1 (.tmp 112), none, [112], []⟩,
    ⟨some 114, .load false 1 (.tmp 113), none, [113], []⟩,
    ⟨some 115, .mv (.tmp 4), none, [4], []⟩,
    ⟨some 116, .len false (.tmp 115), none, [115], []⟩,
    ⟨some 117, .bin .lss (.tmp 114) (.tmp 116), none, [114, 116], []⟩,
    ⟨some 110, .mv (.tmp 117), none, [117], []⟩] [2, 7, 110])
(.cond (.tmp 110)
(.seq (.reg false [⟨some 118, .build [(.int .i64 (0)), (.slice none 0 0), (.slice none 0 0)] [], none, [], []⟩,
    ⟨none, .store 3 (.tmp 2) (.tmp 118), none, [2, 118], []⟩,
    ⟨some 3, .mv (.const (.int .i64 (23))), none, [], []⟩] [2, 3])
.ret)
.skip)))))
(.seq (.reg false [⟨some 119, .load true 3 (.tmp 7), none, [7], []⟩,
    ⟨none, .store 3 (.tmp 2) (.tmp 119), none, [2, 119], []⟩,
    ⟨some 3, .mv (.const (.int .i64 (0))), none, [], []⟩] [2, 3])
.ret))
def ac_R5b : AC :=
(.seq (.reg false [⟨some 60, .mv (.tmp 6), none, [6], []⟩,
    ⟨some 61, .call 160 [(.tmp 60), (.const (.int .i64 (64)))], none, [60], []⟩,
    ⟨some 12, .mv (.tmp 61), none, [61], []⟩] [2, 4, 6, 7, 12])
(.seq (.seq (.reg false [⟨some 13, .mv (.const (.int .i64 (0))), none, [], []⟩] [2, 4, 6, 7, 12, 13])
(.block 2 (.loop (.seq (.seq (.reg false [⟨some 62, .mv (.tmp 13), none, [13], []⟩,
    ⟨some 63, .mv (.tmp 12), none, [12], []⟩,
    ⟨some 64, .bin .lss (.tmp 62) (.tmp 63), none, [62, 63], []⟩,
    ⟨some 65, .mv (.tmp 64), none, [64], []⟩,
    ⟨some 66, .mv (.tmp 6), some (65, true), [6, 65], []⟩,
    ⟨some 67, .nilc (.tmp 66), some (65, true), [66, 65], []⟩,
    ⟨some 68, .foff 2 (.tmp 67), some (65, true), [67, 65], []⟩,
    ⟨some 69, .load false 1 (.tmp 68), some (65, true), [68, 65], []⟩,
    ⟨some 70, .bin .eql (.tmp 69) (.const (.int .i64 (0))), some (65, true), [69, 65], []⟩,
    ⟨some 71, .pick (.tmp 65) (.tmp 70) (.const (.bool false)), none, [65, 70], []⟩] [2, 4, 6, 7, 12, 13, 71])
(.cond (.tmp 71)
.skip
(.exit 2)))
(.seq (.block 3 (.seq (.reg false [⟨some 74, .mv (.tmp 6), none, [6], []⟩,
    ⟨some 75, .call 161 [(.tmp 74)], none, [74], []⟩,
    ⟨some 14, .mv (.tmp 75), none, [75], []⟩] [2, 4, 6, 7, 12, 13, 14])
(.seq (.seq (.reg false [⟨some 76, .mv (.tmp 6), none, [6], []⟩,
    ⟨some 77, .nilc (.tmp 76), none, [76], []⟩,
    ⟨some 78, .foff 2 (.tmp 77), none, [77], []⟩,
    ⟨some 79, .load false 1 (.tmp 78), none, [78], []⟩,
    ⟨some 80, .bin .eql (.tmp 79) (.const (.int .i64 (0))), none, [79], []⟩,
    ⟨some 81, .mv (.tmp 80), none, [80], []⟩,
    ⟨some 82, .mv (.tmp 14), some (81, true), [14, 81], []⟩,
    ⟨some 83, .bin .gtr (.tmp 82) (.const (.int .u64 (4096))), some (81, true), [82, 81], []⟩,
    ⟨some 84, .pick (.tmp 81) (.tmp 83) (.const (.bool false)), none, [81, 83], []⟩] [2, 4, 6, 7, 12, 13, 14, 84])
(.cond (.tmp 84)
(.reg false [⟨some 85, .mv (.tmp 6), none, [6], []⟩,
    ⟨some 86, .nilc (.tmp 85), none, [85], []⟩,
    ⟨some 87, .foff 2 (.tmp 86), none, [86], []⟩,
    ⟨none, .store 1 (.tmp 87) (.const (.int .i64 (5))), none, [87], []⟩] [2, 4, 6, 7, 12, 13, 14])
.skip))
(.reg true [⟨some 88, .foff 2 (.tmp 7), none, [7], []⟩,
    ⟨some 89, .load false 1 (.tmp 88), none, [88], [0]⟩,
    ⟨some 90, .mv (.tmp 6), none, [6], []⟩,
    ⟨some 91, .mv (.tmp 14), none, [14], []⟩,
    ⟨some 92, .bin .and (.tmp 91) (.const (.int .u64 (8191))), none, [91], [3]⟩,
    ⟨some 93, .conv .i64 (.tmp 92), none, [92], [4, 3]⟩,
    ⟨some 94, .call 163 [(.tmp 90), (.tmp 93)], none, [90, 93], [2, 5, 4, 3]⟩,
    ⟨some 95, .call 162 [(.tmp 94)], none, [94], [6, 2, 5, 4, 3]⟩,
    ⟨some 96, .bslice 37 1 1 [(.slice none 0 0)] [(0, 1, (.tmp 95))], none, [95], [7, 6, 2, 5, 4, 3]⟩,
    ⟨some 97, .append 37 1 24 (.tmp 89) (.tmp 96), none, [89, 96], [1, 8, 7, 0, 6, 2, 5, 4, 3]⟩,
    ⟨some 98, .foff 2 (.tmp 7), none, [7], [0, 1, 2, 3, 4, 5, 6, 7, 8, 9]⟩,
    ⟨none, .store 1 (.tmp 98) (.tmp 97), none, [98, 97], [10, 9, 0, 1, 2, 3, 4, 5, 6, 7, 8]⟩] [2, 4, 6, 7, 12, 13]))))
(.reg false [⟨some 72, .mv (.tmp 13), none, [13], []⟩,
    ⟨some 73, .bin .add (.tmp 72) (.const (.int .i64 (1))), none, [72], []⟩,
    ⟨some 13, .mv (.tmp 73), none, [73], []⟩] [2, 4, 6, 7, 12, 13]))))))
(.weak ac_R5t)))
def ac_R5c : AC :=
(.seq (.reg false [⟨some 2, .new 156 [(.int .i64 (0)), (.slice none 0 0), (.slice none 0 0)], none, [], []⟩,
    ⟨some 3, .mv (.const (.int .i64 (0))), none, [], []⟩] [0, 2])
(.seq (.reg false [⟨some 16, .mv (.tmp 0), none, [0], []⟩,
    ⟨some 17, .call 158 [(.tmp 16)], none, [16], []⟩,
    ⟨some 15, .mv (.tmp 17), none, [17], []⟩,
    ⟨some 18, .ext 0 (.tmp 15), none, [15], []⟩,
    ⟨some 19, .ext 1 (.tmp 15), none, [15], []⟩,
    ⟨some 4, .mv (.tmp 18), none, [18], []⟩,
    ⟨some 5, .mv (.tmp 19), none, [19], []⟩] [2, 4, 5])
(.seq (.seq (.reg false [⟨some 20, .mv (.tmp 5), none, [5], []⟩,
    ⟨some 21, .bin .neq (.tmp 20) (.const (.int .i64 (0))), none, [20], []⟩] [2, 4, 5, 21])
(.cond (.tmp 21)
(.seq (.reg false [⟨some 22, .build [(.int .i64 (0)), (.slice none 0 0), (.slice none 0 0)] [], none, [], []⟩,
    ⟨some 23, .mv (.tmp 5), none, [5], []⟩,
    ⟨none, .store 3 (.tmp 2) (.tmp 22), none, [2, 22], []⟩,
    ⟨some 3, .mv (.tmp 23), none, [23], []⟩] [2, 3])
.ret)
.skip))
(.seq (.reg false [⟨some 24, .mv (.tmp 4), none, [4], []⟩,
    ⟨some 25, .build [(.slice none 0 0), (.int .i64 (0)), (.int .i64 (0))] [(0, 1, (.tmp 24))], none, [24], []⟩,
    ⟨some 26, .box 237 (.tmp 25), none, [25], []⟩,
    ⟨some 6, .mv (.tmp 26), none, [26], []⟩] [2, 4, 6])
(.seq (.reg false [⟨some 27, .mv (.tmp 6), none, [6], []⟩,
    ⟨some 28, .call 159 [(.tmp 27)], none, [27], []⟩,
    ⟨some 29, .build [(.int .i64 (0)), (.slice none 0 0), (.slice none 0 0)] [(0, 1, (.tmp 28))], none, [28], []⟩,
    ⟨some 7, .new 156 [(.int .i64 (0)), (.slice none 0 0), (.slice none 0 0)], none, [], []⟩,
    ⟨none, .store 3 (.tmp 7) (.tmp 29), none, [7, 29], []⟩] [2, 4, 6, 7])
(.seq (.reg false [⟨some 30, .mv (.tmp 6), none, [6], []⟩,
    ⟨some 31, .call 160 [(.tmp 30), (.const (.int .i64 (64)))], none, [30], []⟩,
    ⟨some 8, .mv (.tmp 31), none, [31], []⟩] [2, 4, 6, 7, 8])
(.seq (.seq (.reg false [⟨some 9, .mv (.const (.int .i64 (0))), none, [], []⟩] [2, 4, 6, 7, 8, 9])
(.block 0 (.loop (.seq (.seq (.reg false [⟨some 32, .mv (.tmp 9), none, [9], []⟩,
    ⟨some 33, .mv (.tmp 8), none, [8], []⟩,
    ⟨some 34, .bin .lss (.tmp 32) (.tmp 33), none, [32, 33], []⟩,
    ⟨some 35, .mv (.tmp 34), none, [34], []⟩,
    ⟨some 36, .mv (.tmp 6), some (35, true), [6, 35], []⟩,
    ⟨some 37, .nilc (.tmp 36), some (35, true), [36, 35], []⟩,
    ⟨some 38, .foff 2 (.tmp 37), some (35, true), [37, 35], []⟩,
    ⟨some 39, .load false 1 (.tmp 38), some (35, true), [38, 35], []⟩,
    ⟨some 40, .bin .eql (.tmp 39) (.const (.int .i64 (0))), some (35, true), [39, 35], []⟩,
    ⟨some 41, .pick (.tmp 35) (.tmp 40) (.const (.bool false)), none, [35, 40], []⟩] [2, 4, 6, 7, 8, 9, 41])
(.cond (.tmp 41)
.skip
(.exit 0)))
(.seq (.block 1 (.seq (.reg false [⟨some 44, .mv (.tmp 6), none, [6], []⟩,
    ⟨some 45, .call 161 [(.tmp 44)], none, [44], []⟩,
    ⟨some 10, .mv (.tmp 45), none, [45], []⟩] [2, 4, 6, 7, 8, 9, 10])
(.seq (.reg false [⟨some 46, .mv (.tmp 10), none, [10], []⟩,
    ⟨some 47, .bin .shr (.tmp 46) (.const (.int .u64 (1))), none, [46], []⟩,
    ⟨some 48, .conv .i64 (.tmp 47), none, [47], []⟩,
    ⟨some 11, .mv (.tmp 48), none, [48], []⟩] [2, 4, 6, 7, 8, 9, 10, 11])
(.seq (.seq (.reg false [⟨some 49, .mv (.tmp 10), none, [10], []⟩,
    ⟨some 50, .bin .and (.tmp 49) (.const (.int .u64 (1))), none, [49], []⟩,
    ⟨some 51, .bin .eql (.tmp 50) (.const (.int .u64 (1))), none, [50], []⟩] [2, 4, 6, 7, 8, 9, 11, 51])
(.cond (.tmp 51)
(.reg false [⟨some 52, .mv (.tmp 11), none, [11], []⟩,
    ⟨some 53, .un .xor (.tmp 52), none, [52], []⟩,
    ⟨some 11, .mv (.tmp 53), none, [53], []⟩] [2, 4, 6, 7, 8, 9, 11])
.skip))
(.reg false [⟨some 54, .foff 1 (.tmp 7), none, [7], []⟩,
    ⟨some 55, .load false 1 (.tmp 54), none, [54], []⟩,
    ⟨some 56, .mv (.tmp 11), none, [11], []⟩,
    ⟨some 57, .bslice 3 1 1 [(.int .i64 (0))] [(0, 1, (.tmp 56))], none, [56], []⟩,
    ⟨some 58, .append 3 1 8 (.tmp 55) (.tmp 57), none, [55, 57], []⟩,
    ⟨some 59, .foff 1 (.tmp 7), none, [7], []⟩,
    ⟨none, .store 1 (.tmp 59) (.tmp 58), none, [59, 58], []⟩] [2, 4, 6, 7, 8, 9])))))
(.reg false [⟨some 42, .mv (.tmp 9), none, [9], []⟩,
    ⟨some 43, .bin .add (.tmp 42) (.const (.int .i64 (1))), none, [42], []⟩,
    ⟨some 9, .mv (.tmp 43), none, [43], []⟩] [2, 4, 6, 7, 8, 9]))))))
(.weak ac_R5b))))))))
theorem ok_R5c : FnOk Tryz.prog 99 120 ac_R5c [.cell 2 true 3, .tmp 3] := ⟨Tryz.f99, Tryz.func99, by kernel_rfl, by kernel_rfl, by kernel_rfl, by kernel_rfl, by kernel_rfl⟩
end Go.Proofs.YtonglhkiobibgaaGreatDoor
namespace Go.Proofs.YtonglhkiobibgaaGreatDoor
open Go.RowKit
set_option maxRecDepth 100000
theorem copied_specF (fr : Bool) (l : List Int) (nb : Nat) (h : l.length ≤ 140737488355328) : ASound Tryz.prog 162 [fB fr l] nb (.ret (fB true l) []) := by
  refine ok_162.sound (by simp) ⟨al_fB l, trivial⟩ ?_
  simp only [ac_162, len_B, h, TT, ↓reduceIte, Nat.reduceEqDiff, Nat.reduceAdd, Nat.reduceMul, reduceCtorEq, Nat.reduceLeDiff]
  refine Ends.weak (Weak.freezeC 400000 rfl (l := [(2, fB true l)]) (h := []) ?_ ?_) (Ends.data (.inr rfl) (by simp [ET, fB]) (al_fB l))
  · simp [WT]
  · simp [WT]
/-- what the tail answers -/
def tailR (k : Int) (ns : List Int) (ts : List (List Int)) (e : Int) (rest : List Int) : Rec × Int := if e ≠ 0 then (rec0, e) else if 0 < rest.length then (rec0, 23) else (⟨k, ns, ts⟩, 0)
abbrev L_rt (b : List Int) (k : Int) (ns : List Int) (ts : List (List Int)) (e : Int) (rest : List Int) : ASt := ⟨envOf [(2, .op 0 0), (4, fB true b), (6, .op 1 0), (7, .op 2 0)],
  heapOf [(0, .row true 156 [.v (.int .i64 0), .v (.slice none 0 0), .v (.slice none 0 0)]), (1, rdRow true true b rest e), (2, .row true 156 [.v (.int .i64 k), .os 3 0 ns.length 1, .os 4 0 ts.length 1]), (3, .row true 3 (eI ns)), (4, .row true 37 (eL true ts))], 5⟩
set_option maxHeartbeats 2000000 in
theorem rdec_tail (b : List Int) (k : Int) (ns : List Int) (ts : List (List Int)) (e : Int) (rest : List Int) (nb : Nat) (hS : Suf b rest) :
    wpC Tryz.prog 120 0 ac_R5t (L_rt b k ns ts e rest) (Ends 120 [.cell 2 true 3, .tmp 3] nb (.tup [aRec true (tailR k ns ts e rest).1, .v (.int .i64 (tailR k ns ts e rest).2)]) []) := by
  have hl := hS.le
  by_cases he : e = 0
  · subst he
    by_cases h0 : 0 < rest.length
    · have hr : tailR k ns ts 0 rest = (rec0, 23) := by simp [tailR, h0]
      have f1 : ((b.length - rest.length : Nat) : Int) < (b.length : Int) := by omega
      rw [hr]
      simp only [ac_R5t, L_rt, rdRow, f1, not_true_eq_false, TT, ↓reduceIte, Nat.reduceEqDiff, Nat.reduceAdd, Nat.reduceMul, reduceCtorEq, Nat.reduceLeDiff]
      exact Ends.imp (r0 := .tup [.agg [.v (.int .i64 0), .v (.slice none 0 0), .v (.slice none 0 0)], .v (.int .i64 23)]) (.inr rfl) (by simp [ET]) ⟨⟨trivial, trivial, trivial, trivial⟩, trivial, trivial⟩ (imp_rec0 23)
    · have hr : tailR k ns ts 0 rest = (⟨k, ns, ts⟩, 0) := by simp [tailR, h0]
      have f1 : ¬ ((b.length - rest.length : Nat) : Int) < (b.length : Int) := by omega
      rw [hr]
      simp only [ac_R5t, L_rt, rdRow, f1, not_true_eq_false, TT, ↓reduceIte, Nat.reduceEqDiff, Nat.reduceAdd, Nat.reduceMul, reduceCtorEq, Nat.reduceLeDiff]
      refine Ends.weak (Weak.freezeC 3 rfl (l := [(2, .op 0 0), (3, .v (.int .i64 0))]) (h := [(0, .row true 156 [.v (.int .i64 k), fI true ns, .os 4 0 ts.length 1]), (4, .row true 37 (eL true ts))]) ?_ ?_) ?_
      · simp [WT]
      · simp [WT]
      refine Ends.weak (Weak.freezeC 4 rfl (l := [(2, .op 0 0), (3, .v (.int .i64 0))]) (h := [(0, .row true 156 [.v (.int .i64 k), fI true ns, fL true ts])]) ?_ ?_) (Ends.data (r := .tup [aRec true ⟨k, ns, ts⟩, .v (.int .i64 0)]) (.inr rfl) (by simp [ET, aRec]) ⟨al_aRec _, trivial, trivial⟩)
      · simp [WT]
      · simp [WT]
  · have hr : tailR k ns ts e rest = (rec0, e) := by simp [tailR, he]
    rw [hr]
    simp only [ac_R5t, L_rt, rdRow, he, not_false_eq_true, TT, ↓reduceIte, Nat.reduceEqDiff, Nat.reduceAdd, Nat.reduceMul, reduceCtorEq, Nat.reduceLeDiff]
    refine ⟨by rfl, ?_⟩
    exact Ends.imp (r0 := .tup [.agg [.v (.int .i64 0), .v (.slice none 0 0), .v (.slice none 0 0)], .v (.int .i64 e)]) (.inr rfl) (by simp [ET]) ⟨⟨trivial, trivial, trivial, trivial⟩, trivial, trivial⟩ (imp_rec0 e)
end Go.Proofs.YtonglhkiobibgaaGreatDoor
namespace Go.Proofs.YtonglhkiobibgaaGreatDoor
open Go.RowKit
set_option maxRecDepth 100000
theorem cnt_any {α : Type} (f : List Int → α × Int × List Int) (B r : List Int) (e : Int) (hS : Suf B r) (hB : B.length ≤ 140737488355328) (hb : okB r) : ∃ (N : Nat) (e0 : Int) (r0 : List Int),
    (∀ id nb, id < nb → ASound Tryz.prog 160 [.op id 0, .v (.int .i64 64)] nb (rowM id (rdRow true true B r e) (.ret (.v (.int .i64 (N : Int))) [(id, some (rdRow true true B r0 e0))]))) ∧
    manyI f N (if e ≠ 0 then ([], e, r) else scList f r) 0 [] e0 r0 ∧ Suf B r0 := by
  by_cases he : e = 0
  · subst he
    refine ⟨(scCnt r).1.toNat, (scCnt r).2.1, (scCnt r).2.2, fun id nb hid => ?_, ?_, ?_⟩
    · rw [cnt_nn hb]; exact rcnt_spec true true B r id nb hid hS hB hb
    · rw [if_neg (by simp)]; exact manyI.start f r hb
    · rw [scCnt_rest]; exact hS.drop 1
  · refine ⟨0, e, r, fun id nb hid => rcnt_err true true B r e id nb hid he, ⟨by simp, by omega, hb, .inr ⟨he, by rw [if_pos he]⟩⟩, hS⟩
theorem and_8191 {m : Nat} (h : m ≤ 4096) : IntKind.u64.wrap ((BitVec.ofInt IntKind.u64.bits (m : Int) &&& BitVec.ofInt IntKind.u64.bits 8191).toNat : Int) = (m : Int) := by
  have h1 : (BitVec.ofInt IntKind.u64.bits (m : Int) &&& BitVec.ofInt IntKind.u64.bits 8191).toNat = m := by
    show (BitVec.ofInt 64 (m : Int) &&& BitVec.ofInt 64 8191).toNat = _
    rw [BitVec.toNat_and, ofInt64, ofInt64, show ((8191 : Int) % 18446744073709551616).toNat = 8191 from rfl, show ((m : Int) % 18446744073709551616).toNat = m from by omega]
    have := Nat.and_two_pow_sub_one_eq_mod m 13
    rw [show 2 ^ 13 - 1 = 8191 from rfl, show 2 ^ 13 = 8192 from rfl] at this
    rw [this]; omega
  rw [h1, u64_mod]; omega
abbrev res0 : AObj := .row true 156 [.v (.int .i64 0), .v (.slice none 0 0), .v (.slice none 0 0)]
abbrev L_rb (b : List Int) (k : Int) (ns : List Int) (e : Int) (rest : List Int) : ASt := ⟨envOf [(2, .op 0 0), (4, fB true b), (6, .op 1 0), (7, .op 2 0)],
  heapOf [(0, res0), (1, rdRow true true b rest e), (2, .row true 156 [.v (.int .i64 k), .os 3 0 ns.length 1, .v (.slice none 0 0)]), (3, .row true 3 (eI ns))], 4⟩
abbrev L_rx (b : List Int) (k : Int) (ns : List Int) (N : Nat) (q : Sm (List Int)) : ASt := ⟨envOf [(2, .op 0 0), (4, fB true b), (6, .op 1 0), (7, .op 2 0), (12, .v (.int .i64 N)), (13, .v (.int .i64 q.i))],
  heapOf [(0, res0), (1, rdRow true true b q.rest q.e), (2, .row true 156 [.v (.int .i64 k), .os 3 0 ns.length 1, .os 4 0 q.out.length 1]), (3, .row true 3 (eI ns)), (4, .row true 37 (eL true q.out))], 5⟩
theorem manyI.fin {α : Type} {f : List Int → α × Int × List Int} {N i : Nat} {R : List α × Int × List Int} {out : List α} {e : Int} {rest : List Int} (h : manyI f N R i out e rest) (hx : ¬ i < N ∨ e ≠ 0) : R = (out, e, rest) := by
  rcases h.st with ⟨he, hN, hle, hR⟩ | ⟨h0, hR⟩
  · subst he
    have : i = N := by rcases hx with h1 | h1; omega; exact absurd rfl h1
    subst this
    exact many_end hR
  · exact hR
set_option maxHeartbeats 4000000 in
theorem rdec_b (b : List Int) (k : Int) (ns : List Int) (e : Int) (rest : List Int) (nb : Nat) (hS : Suf b rest) (hB : b.length ≤ 140737488355328) (hb : okB rest) (R : List (List Int) × Int × List Int) (hR : R = if e ≠ 0 then ([], e, rest) else scList scText rest) :
    wpC Tryz.prog 120 0 ac_R5b (L_rb b k ns e rest) (Ends 120 [.cell 2 true 3, .tmp 3] nb (.tup [aRec true (tailR k ns R.1 R.2.1 R.2.2).1, .v (.int .i64 (tailR k ns R.1 R.2.1 R.2.2).2)]) []) := by
  obtain ⟨N, e0, r0, hc, hI, hS0⟩ := cnt_any scText b rest e hS hB hb
  rw [← hR] at hI
  simp only [rdRow, fB] at hc
  simp only [ac_R5b, L_rb, res0, rdRow, TT, ↓reduceIte, Nat.reduceEqDiff, Nat.reduceAdd, Nat.reduceMul, reduceCtorEq, Nat.reduceLeDiff]
  refine ⟨_, hc _ _ (by omega), ?_⟩
  simp only [TT, ↓reduceIte, Nat.reduceEqDiff, Nat.reduceAdd, Nat.reduceMul, reduceCtorEq, Nat.reduceLeDiff]
  refine AWc.family (L_rx b k ns N) (fun q => manyI scText N R q.i q.out q.e q.rest ∧ Suf b q.rest) (fun q => 64 - q.i) ⟨0, [], e0, r0⟩ ⟨hI, hS0⟩ ?_ ?_
  · refine Weak.trans (Weak.virtC 37 1 (l := [(2, .op 0 0), (4, fB true b), (6, .op 1 0), (7, .op 2 0), (12, .v (.int .i64 N)), (13, .v (.int .i64 0))])
      (h := [(0, res0), (1, rdRow true true b r0 e0), (2, .row true 156 [.v (.int .i64 k), .os 3 0 ns.length 1, .os 400004 0 0 1]), (3, .row true 3 (eI ns))]) ?_ ?_) (Weak.calc [(0, 0), (1, 1), (2, 2), (3, 3), (400004, 4)] (by decide) ?_ ?_)
    all_goals simp [WT, eL]
  · rintro ⟨i, out, e, rest⟩ ⟨hI, hS⟩
    simp only at hI hS
    by_cases hlt : i < N
    · have f1 : (i : Int) < (N : Int) := by omega
      by_cases he : e = 0
      · subst he
        have hb2 := hI.ok
        have hN : N ≤ 64 := by
          rcases hI.st with ⟨_, h, _⟩ | ⟨h0, _⟩
          · exact h
          · exact absurd rfl h0
        have hst := hI.step hlt (scText_rest rest)
        have hl := hI.len
        have w1 : IntKind.i64.wrap ((i : Int) + 1) = ((i + 1 : Nat) : Int) := by rw [wrap64 (by omega)]; omega
        have hSt : Suf b (scText rest).2.2 := hS.ex (scText_rest rest)
        have hg := fun nb h => rgrp_spec true true b rest 1 nb h hS hB hb2
        have hSg : Suf b (scGrp 0 0 rest).2.2 := hS.ex (scGrp_rest rest 0 0)
        rcases hq : scGrp 0 0 rest with ⟨m, eg, r⟩
        rw [hq] at hg hSg
        simp only at hSg
        have hlr := hSg.le
        simp only [rdRow, fB] at hg
        have hcs : ∀ t : List Int, eL true out ++ [AV.fs true (eB t) t.length] = eL true (out ++ [t]) := fun t => by rw [app_L]; rfl
        have hn : ∀ t : List Int, out.length + 1 = (out ++ [t]).length := fun t => by simp
        have hle : out.length + 1 ≤ 65 := by omega
        have hcs0 : eL true out ++ [AV.fs true (eB []) 0] = eL true (out ++ [[]]) := hcs []
        have e0 : ∀ x : Int, x ≠ 0 → ¬ x = 0 := fun _ h => h
        simp only [L_rx, res0, rdRow, f1, TT, ↓reduceIte, Nat.reduceEqDiff, Nat.reduceAdd, Nat.reduceMul, reduceCtorEq, Nat.reduceLeDiff]
        refine ⟨_, hg _ (by omega), ?_⟩
        by_cases he : eg = 0
        · subst he
          by_cases h4 : 4096 < m
          · have f4 : (4096 : Int) < (m : Int) := by omega
            have hT := scText_long hq h4
            rw [hT] at hst hSt
            have ht := fun n nb h => rtake_err true true b r 5 n 1 nb h (by decide)
            simp only [rdRow, fB] at ht
            simp only [f4, TT, ↓reduceIte, Nat.reduceEqDiff, Nat.reduceAdd, Nat.reduceMul, reduceCtorEq, Nat.reduceLeDiff]
            refine ⟨_, ht _ _ (by omega), ?_⟩
            simp only [TT, ↓reduceIte, Nat.reduceEqDiff, Nat.reduceAdd, Nat.reduceMul, reduceCtorEq, Nat.reduceLeDiff]
            refine ⟨_, copied_specF true [] _ (by simp), ?_⟩
            simp only [len_L, hcs0, hn ([]), TT, ↓reduceIte, Nat.reduceEqDiff, Nat.reduceAdd, Nat.reduceMul, reduceCtorEq, Nat.reduceLeDiff]
            rw [if_pos (by rw [← hn]; omega)]
            refine ⟨by rfl, ?_⟩
            refine famC_next ⟨i + 1, out ++ [[]], 5, r⟩ (show 64 - (i + 1) < 64 - i by omega) ⟨hst, hSt⟩ ?_
            refine Weak.calc [(0, 0), (1, 1), (2, 2), (3, 3), (3500005, 4)] (by decide) ?_ ?_ <;> simp [WT, w1]
          · have f4 : ¬ (4096 : Int) < (m : Int) := by omega
            have wm : IntKind.i64.wrap (m : Int) = (m : Int) := wrap64 (by omega)
            by_cases h5 : r.length < m
            · have hT := scText_short hq h4 h5
              rw [hT] at hst hSt
              have ht := fun nb h => rtake_short true true b r m 1 nb h hSg hB h5
              simp only [rdRow, fB] at ht
              simp only [f4, and_8191 (show m ≤ 4096 by omega), wm, TT, ↓reduceIte, Nat.reduceEqDiff, Nat.reduceAdd, Nat.reduceMul, reduceCtorEq, Nat.reduceLeDiff]
              refine ⟨_, ht _ (by omega), ?_⟩
              simp only [TT, ↓reduceIte, Nat.reduceEqDiff, Nat.reduceAdd, Nat.reduceMul, reduceCtorEq, Nat.reduceLeDiff]
              refine ⟨_, copied_specF true [] _ (by simp), ?_⟩
              simp only [len_L, hcs0, hn ([]), TT, ↓reduceIte, Nat.reduceEqDiff, Nat.reduceAdd, Nat.reduceMul, reduceCtorEq, Nat.reduceLeDiff]
              rw [if_pos (by rw [← hn]; omega)]
              refine ⟨by rfl, ?_⟩
              refine famC_next ⟨i + 1, out ++ [[]], 8, r⟩ (show 64 - (i + 1) < 64 - i by omega) ⟨hst, hSt⟩ ?_
              refine Weak.calc [(0, 0), (1, 1), (2, 2), (3, 3), (3100005, 4)] (by decide) ?_ ?_ <;> simp [WT, w1]
            · have hT := scText_ok hq h4 h5
              rw [hT] at hst hSt
              have ht := fun nb h => rtake_ok true true b r m 1 nb h hSg hB (by omega)
              simp only [rdRow, fB] at ht
              simp only [f4, and_8191 (show m ≤ 4096 by omega), wm, TT, ↓reduceIte, Nat.reduceEqDiff, Nat.reduceAdd, Nat.reduceMul, reduceCtorEq, Nat.reduceLeDiff]
              refine ⟨_, ht _ (by omega), ?_⟩
              simp only [TT, ↓reduceIte, Nat.reduceEqDiff, Nat.reduceAdd, Nat.reduceMul, reduceCtorEq, Nat.reduceLeDiff]
              refine ⟨_, copied_specF true (r.take m) _ (by rw [List.length_take]; omega), ?_⟩
              simp only [len_L, hcs (r.take m), hn (r.take m), TT, ↓reduceIte, Nat.reduceEqDiff, Nat.reduceAdd, Nat.reduceMul, reduceCtorEq, Nat.reduceLeDiff]
              rw [if_pos (by rw [← hn]; omega)]
              refine ⟨by rfl, ?_⟩
              refine famC_next ⟨i + 1, out ++ [r.take m], 0, r.drop m⟩ (show 64 - (i + 1) < 64 - i by omega) ⟨hst, hSt⟩ ?_
              refine Weak.calc [(0, 0), (1, 1), (2, 2), (3, 3), (3100005, 4)] (by decide) ?_ ?_ <;> simp [WT, w1]
        · have hT := scText_err hq he
          rw [hT] at hst hSt
          have ht := fun n nb h => rtake_err true true b r eg n 1 nb h he
          simp only [rdRow, fB] at ht
          simp only [he, TT, ↓reduceIte, Nat.reduceEqDiff, Nat.reduceAdd, Nat.reduceMul, reduceCtorEq, Nat.reduceLeDiff]
          refine ⟨_, ht _ _ (by omega), ?_⟩
          simp only [TT, ↓reduceIte, Nat.reduceEqDiff, Nat.reduceAdd, Nat.reduceMul, reduceCtorEq, Nat.reduceLeDiff]
          refine ⟨_, copied_specF true [] _ (by simp), ?_⟩
          simp only [len_L, hcs0, hn ([]), TT, ↓reduceIte, Nat.reduceEqDiff, Nat.reduceAdd, Nat.reduceMul, reduceCtorEq, Nat.reduceLeDiff]
          rw [if_pos (by rw [← hn]; omega)]
          refine ⟨by rfl, ?_⟩
          refine famC_next ⟨i + 1, out ++ [[]], eg, r⟩ (show 64 - (i + 1) < 64 - i by omega) ⟨hst, hSt⟩ ?_
          refine Weak.calc [(0, 0), (1, 1), (2, 2), (3, 3), (3100005, 4)] (by decide) ?_ ?_ <;> simp [WT, w1]
      · have hfin := hI.fin (.inr he)
        rw [hfin]
        simp only [L_rx, res0, rdRow, f1, he, TT, ↓reduceIte, Nat.reduceEqDiff, Nat.reduceAdd, Nat.reduceMul, reduceCtorEq, Nat.reduceLeDiff]
        refine ⟨L_rt b k ns out e rest, ?_, rdec_tail b k ns out e rest nb hS⟩
        refine Weak.calc [(0, 0), (1, 1), (2, 2), (3, 3), (4, 4)] (by decide) ?_ ?_ <;> simp [WT]
    · have f1 : ¬ (i : Int) < (N : Int) := by omega
      have hfin := hI.fin (.inl hlt)
      rw [hfin]
      simp only [L_rx, res0, rdRow, f1, TT, ↓reduceIte, Nat.reduceEqDiff, Nat.reduceAdd, Nat.reduceMul, reduceCtorEq, Nat.reduceLeDiff]
      refine ⟨L_rt b k ns out e rest, ?_, rdec_tail b k ns out e rest nb hS⟩
      refine Weak.calc [(0, 0), (1, 1), (2, 2), (3, 3), (4, 4)] (by decide) ?_ ?_ <;> simp [WT]
end Go.Proofs.YtonglhkiobibgaaGreatDoor
namespace Go.Proofs.YtonglhkiobibgaaGreatDoor
open Go.RowKit
set_option maxRecDepth 100000
def rN (b : List Int) : List Int × Int × List Int := if (scOct b).2.1 ≠ 0 then ([], (scOct b).2.1, (scOct b).2.2) else scList scNum (scOct b).2.2
theorem scRec_tail (b : List Int) (R : List (List Int) × Int × List Int) (hR : R = if (rN b).2.1 ≠ 0 then ([], (rN b).2.1, (rN b).2.2) else scList scText (rN b).2.2) :
    tailR (scOct b).1 (rN b).1 R.1 R.2.1 R.2.2 = scRec b := by
  subst hR
  unfold scRec scNums scTexts
  by_cases h1 : (scOct b).2.1 = 0
  · have hN : rN b = scList scNum (scOct b).2.2 := by rw [rN, if_neg (by rw [h1]; simp)]
    rw [hN]
    simp only [if_neg (show ¬ (scOct b).2.1 ≠ 0 by rw [h1]; simp)]
    by_cases h2 : (scList scNum (scOct b).2.2).2.1 = 0
    · simp only [if_neg (show ¬ (scList scNum (scOct b).2.2).2.1 ≠ 0 by rw [h2]; simp)]
      rfl
    · simp only [if_pos (show (scList scNum (scOct b).2.2).2.1 ≠ 0 from h2)]
      rw [tailR, if_pos h2]
  · have hN : rN b = ([], (scOct b).2.1, (scOct b).2.2) := by rw [rN, if_pos h1]
    rw [hN]
    simp only [if_pos (show (scOct b).2.1 ≠ 0 from h1)]
    rw [tailR, if_pos h1]
theorem not_i64 {m : Nat} (h : m < 2 ^ 64) (h1 : m % 2 = 1) : IntKind.i64.wrap ((BitVec.ofInt IntKind.i64.bits (if IntKind.i64.signed = true then -1 else IntKind.i64.max) ^^^ BitVec.ofInt IntKind.i64.bits ((m / 2 : Nat) : Int)).toNat : Int) = unzz m := by
  have e3 : (2 : Nat) ^ 64 = 18446744073709551616 := by decide
  have hb : BitVec.ofInt 64 (if IntKind.i64.signed = true then -1 else IntKind.i64.max) = BitVec.allOnes 64 := by decide
  show IntKind.i64.wrap ((BitVec.ofInt 64 (if IntKind.i64.signed = true then -1 else IntKind.i64.max) ^^^ BitVec.ofInt 64 ((m / 2 : Nat) : Int)).toNat : Int) = _
  rw [hb, BitVec.allOnes_xor, BitVec.toNat_not, ofInt64, IntKind.wrap_i64]
  unfold unzz
  rw [if_neg (by omega)]
  omega
abbrev L_rn (b : List Int) (k : Int) (N : Nat) (q : Sm Int) : ASt := ⟨envOf [(2, .op 0 0), (4, fB true b), (6, .op 1 0), (7, .op 2 0), (8, .v (.int .i64 N)), (9, .v (.int .i64 q.i))],
  heapOf [(0, res0), (1, rdRow true true b q.rest q.e), (2, .row true 156 [.v (.int .i64 k), .os 3 0 q.out.length 1, .v (.slice none 0 0)]), (3, .row true 3 (eI q.out))], 4⟩
set_option maxHeartbeats 4000000 in
theorem rdecode_spec (fr : Bool) (l : List Int) (nb : Nat) (hb : okB l) (h : l.length ≤ 140737488355320) : ASound Tryz.prog 99 [fB fr l] nb (.ret (.tup [aRec true (dec l).1, .v (.int .i64 (dec l).2)]) []) := by
  refine ok_R5c.sound (by simp) ⟨al_fB l, trivial⟩ ?_
  simp only [ac_R5c, TT, ↓reduceIte, Nat.reduceEqDiff, Nat.reduceAdd, Nat.reduceMul, reduceCtorEq, Nat.reduceLeDiff]
  refine ⟨_, ropen_spec fr l _ hb h, ?_⟩
  have hob := okB_open hb
  have hlen : (openB l).1.length ≤ l.length := by
    unfold openB
    split
    · simp
    · split
      · simp only [List.length_take]; omega
      · simp
  rcases ho : openB l with ⟨b, e⟩
  rw [ho] at hob hlen
  simp only at hob hlen
  simp only [TT, ↓reduceIte, Nat.reduceEqDiff, Nat.reduceAdd, Nat.reduceMul, reduceCtorEq, Nat.reduceLeDiff]
  by_cases he : e = 0
  · subst he
    have hd : dec l = scRec b := by simp [dec, ho]
    rw [hd]
    have hB : b.length ≤ 140737488355328 := by omega
    have k := fun id nb h => roct_spec true true b b id nb h (Suf.self b) hB hob
    have hS1 : Suf b (scOct b).2.2 := by rw [scOct_rest]; exact (Suf.self b).drop 1
    have hb1 : okB (scOct b).2.2 := by rw [scOct_rest]; exact okB_drop hob 1
    obtain ⟨N, e0, r0, hc, hI, hS0⟩ := cnt_any scNum b (scOct b).2.2 (scOct b).2.1 hS1 hB hb1
    have htail := scRec_tail b
    rw [show (if (scOct b).2.1 ≠ 0 then ([], (scOct b).2.1, (scOct b).2.2) else scList scNum (scOct b).2.2) = rN b from rfl] at hI
    generalize scOct b = o at k hc htail
    obtain ⟨kd, ek, r1⟩ := o
    simp only at htail hc
    generalize rN b = R at hI htail
    simp only [rdRow, fB, Nat.sub_self, show ((0 : Nat) : Int) = 0 from rfl] at k hc
    simp only [not_true_eq_false, TT, ↓reduceIte, Nat.reduceEqDiff, Nat.reduceAdd, Nat.reduceMul, reduceCtorEq, Nat.reduceLeDiff]
    refine ⟨_, k _ _ (by omega), ?_⟩
    simp only [TT, ↓reduceIte, Nat.reduceEqDiff, Nat.reduceAdd, Nat.reduceMul, reduceCtorEq, Nat.reduceLeDiff]
    refine ⟨_, hc _ _ (by omega), ?_⟩
    simp only [TT, ↓reduceIte, Nat.reduceEqDiff, Nat.reduceAdd, Nat.reduceMul, reduceCtorEq, Nat.reduceLeDiff]
    refine AWc.family (L_rn b kd N) (fun q => manyI scNum N R q.i q.out q.e q.rest ∧ Suf b q.rest) (fun q => 64 - q.i) ⟨0, [], e0, r0⟩ ⟨hI, hS0⟩ ?_ ?_
    · refine Weak.trans (Weak.virtC 3 1 (l := [(2, .op 0 0), (4, fB true b), (6, .op 1300000 0), (7, .op 1800000 0), (8, .v (.int .i64 N)), (9, .v (.int .i64 0))])
        (h := [(0, res0), (1300000, rdRow true true b r0 e0), (1800000, .row true 156 [.v (.int .i64 kd), .os 2400000 0 0 1, .v (.slice none 0 0)])]) ?_ ?_) (Weak.calc [(0, 0), (1300000, 1), (1800000, 2), (2400000, 3)] (by decide) ?_ ?_)
      all_goals simp [WT, eI]
    · rintro ⟨i, out, e, rest⟩ ⟨hI, hS⟩
      simp only at hI hS
      have hb2 := hI.ok
      by_cases hlt : i < N
      · have f1 : (i : Int) < (N : Int) := by omega
        by_cases he : e = 0
        · subst he
          have hN : N ≤ 64 := by
            rcases hI.st with ⟨_, h, _⟩ | ⟨h0, _⟩
            · exact h
            · exact absurd rfl h0
          have hst := hI.step hlt (scNum_rest rest)
          have hl := hI.len
          have w1 : IntKind.i64.wrap ((i : Int) + 1) = ((i + 1 : Nat) : Int) := by rw [wrap64 (by omega)]; omega
          have hg := fun nb h => rgrp_spec true true b rest 1 nb h hS hB hb2
          have hSg : Suf b (scGrp 0 0 rest).2.2 := hS.ex (scGrp_rest rest 0 0)
          have hm := scGrp_lt rest 0 0 hb2 (by decide) (by decide)
          unfold scNum at hst
          simp only at hst
          generalize scGrp 0 0 rest = q at hg hSg hst hm
          obtain ⟨m, eg, r⟩ := q
          simp only at hst hm hSg
          simp only [rdRow, fB] at hg
          have e3 : (2 : Nat) ^ 64 = 18446744073709551616 := by decide
          have w2 : IntKind.i64.wrap ((m / 2 : Nat) : Int) = ((m / 2 : Nat) : Int) := wrap64 (by omega)
          have hcs : eI out ++ [AV.v (.int .i64 (unzz m))] = eI (out ++ [unzz m]) := by rw [app_I]; rfl
          have hn : out.length + 1 = (out ++ [unzz m]).length := by simp
          have hle : out.length + 1 ≤ 65 := by omega
          simp only [L_rn, res0, rdRow, f1, TT, ↓reduceIte, Nat.reduceEqDiff, Nat.reduceAdd, Nat.reduceMul, reduceCtorEq, Nat.reduceLeDiff]
          refine ⟨_, hg _ (by omega), ?_⟩
          by_cases h2 : m % 2 = 1
          · have f2 : ((m % 2 : Nat) : Int) = 1 := by omega
            simp only [sh1, w2, and_1 hm, f2, not_i64 hm h2, hcs, hn, len_I, TT, ↓reduceIte, Nat.reduceEqDiff, Nat.reduceAdd, Nat.reduceMul, reduceCtorEq, Nat.reduceLeDiff]
            rw [if_pos (by rw [← hn]; omega)]
            refine famC_next ⟨i + 1, out ++ [unzz m], eg, r⟩ (show 64 - (i + 1) < 64 - i by omega) ⟨hst, hSg⟩ ?_
            refine Weak.calc [(0, 0), (1, 1), (2, 2), (2700004, 3)] (by decide) ?_ ?_ <;> simp [WT, w1]
          · have f2 : ¬ ((m % 2 : Nat) : Int) = 1 := by omega
            have hu : unzz m = ((m / 2 : Nat) : Int) := by unfold unzz; rw [if_pos (by omega)]
            rw [hu] at hcs hn hst
            simp only [sh1, w2, and_1 hm, f2, hcs, hn, len_I, TT, ↓reduceIte, Nat.reduceEqDiff, Nat.reduceAdd, Nat.reduceMul, reduceCtorEq, Nat.reduceLeDiff]
            rw [if_pos (by rw [← hn]; omega)]
            refine famC_next ⟨i + 1, out ++ [((m / 2 : Nat) : Int)], eg, r⟩ (show 64 - (i + 1) < 64 - i by omega) ⟨hst, hSg⟩ ?_
            refine Weak.calc [(0, 0), (1, 1), (2, 2), (2400004, 3)] (by decide) ?_ ?_ <;> simp [WT, w1]
        · have hfin := hI.fin (.inr he)
          rw [hfin] at htail
          simp only at htail
          simp only [L_rn, res0, rdRow, f1, he, TT, ↓reduceIte, Nat.reduceEqDiff, Nat.reduceAdd, Nat.reduceMul, reduceCtorEq, Nat.reduceLeDiff]
          rw [← htail _ rfl]
          refine ⟨L_rb b kd out e rest, ?_, rdec_b b kd out e rest nb hS hB hb2 _ rfl⟩
          refine Weak.calc [(0, 0), (1, 1), (2, 2), (3, 3)] (by decide) ?_ ?_ <;> simp [WT]
      · have f1 : ¬ (i : Int) < (N : Int) := by omega
        have hfin := hI.fin (.inl hlt)
        rw [hfin] at htail
        simp only at htail
        simp only [L_rn, res0, rdRow, f1, TT, ↓reduceIte, Nat.reduceEqDiff, Nat.reduceAdd, Nat.reduceMul, reduceCtorEq, Nat.reduceLeDiff]
        rw [← htail _ rfl]
        refine ⟨L_rb b kd out e rest, ?_, rdec_b b kd out e rest nb hS hB hb2 _ rfl⟩
        refine Weak.calc [(0, 0), (1, 1), (2, 2), (3, 3)] (by decide) ?_ ?_ <;> simp [WT]
  · have hd : dec l = (rec0, e) := by simp [dec, ho, he]
    rw [hd]
    simp only [he, not_false_eq_true, TT, ↓reduceIte, Nat.reduceEqDiff, Nat.reduceAdd, Nat.reduceMul, reduceCtorEq, Nat.reduceLeDiff]
    exact Ends.imp (r0 := .tup [.agg [.v (.int .i64 0), .v (.slice none 0 0), .v (.slice none 0 0)], .v (.int .i64 e)]) (.inr rfl) (by simp [ET]) ⟨⟨trivial, trivial, trivial, trivial⟩, trivial, trivial⟩ (imp_rec0 e)
end Go.Proofs.YtonglhkiobibgaaGreatDoor
namespace Go.Proofs.YtonglhkiobibgaaGreatDoor
open Go.RowKit
set_option maxRecDepth 100000
def trL (l : List Int) : List Int := l.dropWhile fun x => decide (x = 0)
def trR (l : List Int) : List Int := (trL l.reverse).reverse
theorem trL_0 (l : List Int) : trL (0 :: l) = trL l := by simp [trL]
theorem trL_n {x : Int} (l : List Int) (h : x ≠ 0) : trL (x :: l) = x :: l := by simp [trL, h]
theorem trR_0 (l : List Int) : trR (l ++ [0]) = trR l := by simp [trR, trL]
theorem trR_n {x : Int} (l : List Int) (h : x ≠ 0) : trR (l ++ [x]) = l ++ [x] := by simp [trR, trL, h]
theorem trL_len (l : List Int) : (trL l).length ≤ l.length := by
  induction l with
  | nil => simp [trL]
  | cons x l ih =>
    by_cases h : x = 0
    · subst h; rw [trL_0, List.length_cons]; omega
    · rw [trL_n l h]; exact Nat.le_refl _
theorem trL_nil {l : List Int} : (trL l).length = 0 ↔ ∀ x ∈ l, x = 0 := by
  induction l with
  | nil => simp [trL]
  | cons x l ih =>
    by_cases h : x = 0
    · subst h; rw [trL_0, ih]; simp
    · rw [trL_n l h]; simp [h]
theorem trR_nil {l : List Int} : (trR l).length = 0 ↔ ∀ x ∈ l, x = 0 := by
  rw [trR, List.length_reverse, trL_nil]; simp
theorem trL_head {l r : List Int} {x : Int} (h : trL l = x :: r) : x ≠ 0 := by
  induction l with
  | nil => simp [trL] at h
  | cons y l ih =>
    by_cases hy : y = 0
    · subst hy; rw [trL_0] at h; exact ih h
    · rw [trL_n l hy] at h
      simp at h
      rw [← h.1]; exact hy
theorem trim_nil {l : List Int} : (trL (trR l)).length = 0 ↔ ∀ x ∈ l, x = 0 := by
  rw [trL_nil, ← trR_nil (l := l)]
  constructor
  · intro h
    by_cases h0 : (trR l).length = 0
    · exact h0
    · exfalso
      have hne : trR l ≠ [] := fun e => h0 (by rw [e]; rfl)
      have hd : trL l.reverse ≠ [] := fun e => hne (by rw [trR, e]; rfl)
      cases hq : trL l.reverse with
      | nil => exact hd hq
      | cons x r =>
        exact trL_head hq (h x (by rw [trR, hq]; simp))
  · intro h x hx
    rw [List.eq_nil_of_length_eq_zero h] at hx; cases hx
theorem le00 : ((0 : Int) ≤ 0) = True := eq_true (Int.le_refl 0)
abbrev L_tr (fr : Bool) (q : List Int) : ASt := ⟨envOf [(0, fB fr q), (1, .v (.int .u8 0))], heapOf [], 0⟩
theorem trimR_spec (fr : Bool) (l : List Int) (nb : Nat) (hB : l.length ≤ 140737488355328) : ASound Tryz.prog 259 [fB fr l, .v (.int .u8 0)] nb (.ret (fB fr (trR l)) []) := by
  refine ok_259.sound (by simp) ⟨al_fB l, trivial, trivial⟩ ?_
  simp only [ac_259, TT, ↓reduceIte, Nat.reduceEqDiff, Nat.reduceAdd, Nat.reduceMul, reduceCtorEq, Nat.reduceLeDiff]
  refine AWc.family (L_tr fr) (fun q => trR q = trR l ∧ q.length ≤ l.length) (fun q => q.length) l ⟨rfl, Nat.le_refl _⟩ ?_ ?_
  · refine Weak.calc [] (by decide) ?_ ?_ <;> simp [WT]
  · rintro q ⟨hq, hql⟩
    rcases List.eq_nil_or_concat q with h0 | ⟨p, x, h0⟩
    · subst h0
      have e1 : ¬ ((0 : Int) < ((0 : Nat) : Int)) := by decide
      rw [← hq]
      simp only [L_tr, List.length_nil, e1, TT, ↓reduceIte, Nat.reduceEqDiff, Nat.reduceAdd, Nat.reduceMul, reduceCtorEq, Nat.reduceLeDiff]
      exact Ends.data (r := .fs fr (eB []) 0) (.inr rfl) (by simp [ET]) (al_fB (fr := fr) [])
    · rw [List.concat_eq_append] at h0
      subst h0
      have hl : (p ++ [x]).length = p.length + 1 := by simp
      have e1 : ((0 : Int) < ((p.length + 1 : Nat) : Int)) := by omega
      have w1 : IntKind.i64.wrap (((p.length + 1 : Nat) : Int) - 1) = (p.length : Int) := by rw [wrap64 (by omega)]; omega
      have c1 : ((0 : Int) ≤ (p.length : Int) ∧ (p.length : Int) < ((p.length + 1 : Nat) : Int)) = True := eq_true ⟨by omega, by omega⟩
      have c2 : ((0 : Int) ≤ (p.length : Int) ∧ (p.length : Int) ≤ ((p.length + 1 : Nat) : Int)) = True := eq_true ⟨by omega, by omega⟩
      have g1 : (eB (p ++ [x]))[p.length]? = some (.v (.int .u8 x)) := get_B (by simp)
      have t1 : (p ++ [x]).take p.length = p := by simp
      by_cases hx : x = 0
      · subst hx
        simp only [L_tr, hl, e1, w1, c1, c2, Int.toNat_natCast, g1, take_B, t1, Nat.sub_zero, TT, ↓reduceIte, Nat.reduceEqDiff, Nat.reduceAdd, Nat.reduceMul, reduceCtorEq, Nat.reduceLeDiff]
        refine famC_next p (by simp only [List.length_append, List.length_cons, List.length_nil]; omega) ⟨?_, by omega⟩ ?_
        · rw [← hq, trR_0]
        · refine Weak.calc [] (by decide) ?_ ?_ <;> simp [WT]
      · simp only [L_tr, hl, e1, w1, c1, c2, Int.toNat_natCast, g1, hx, take_B, t1, TT, ↓reduceIte, Nat.reduceEqDiff, Nat.reduceAdd, Nat.reduceMul, reduceCtorEq, Nat.reduceLeDiff]
        rw [← hq, trR_n p hx, hl]
        exact Ends.data (r := .fs fr (eB (p ++ [x])) (p.length + 1)) (.inr rfl) (by simp [ET]) (al_B _)
theorem trimL_spec (fr : Bool) (l : List Int) (nb : Nat) (hB : l.length ≤ 140737488355328) : ASound Tryz.prog 258 [fB fr l, .v (.int .u8 0)] nb (.ret (fB fr (trL l)) []) := by
  refine ok_258.sound (by simp) ⟨al_fB l, trivial, trivial⟩ ?_
  simp only [ac_258, TT, ↓reduceIte, Nat.reduceEqDiff, Nat.reduceAdd, Nat.reduceMul, reduceCtorEq, Nat.reduceLeDiff]
  refine AWc.family (L_tr fr) (fun q => trL q = trL l ∧ q.length ≤ l.length) (fun q => q.length) l ⟨rfl, Nat.le_refl _⟩ ?_ ?_
  · refine Weak.calc [] (by decide) ?_ ?_ <;> simp [WT]
  · rintro q ⟨hq, hql⟩
    cases q with
    | nil =>
      have e1 : ¬ ((0 : Int) < ((0 : Nat) : Int)) := by decide
      have e2 : ((0 : Nat) : Int) = 0 := rfl
      rw [← hq]
      simp only [L_tr, List.length_nil, e1, e2, TT, ↓reduceIte, Nat.reduceEqDiff, Nat.reduceAdd, Nat.reduceMul, reduceCtorEq, Nat.reduceLeDiff]
      exact Ends.imp (r0 := .v (.slice none 0 0)) (.inr rfl) (by simp [ET]) trivial (Imp.nil fr)
    | cons x p =>
      have e1 : ((0 : Int) < ((p.length + 1 : Nat) : Int)) := by omega
      have e2 : ¬ ((p.length + 1 : Nat) : Int) = 0 := by omega
      have c1 : ((0 : Int) ≤ 0 ∧ (0 : Int) < ((p.length + 1 : Nat) : Int)) = True := eq_true ⟨by omega, by omega⟩
      have c2 : ((0 : Int) ≤ 1 ∧ (1 : Int) ≤ ((p.length + 1 : Nat) : Int)) = True := eq_true ⟨by omega, by omega⟩
      have g1 : (eB (x :: p))[Int.toNat 0]? = some (.v (.int .u8 x)) := rfl
      have t1 : (eB (x :: p)).drop (Int.toNat 1) = eB p := rfl
      have n1 : p.length + 1 - Int.toNat 1 = p.length := rfl
      by_cases hx : x = 0
      · subst hx
        simp only [L_tr, List.length_cons, e1, le00, c1, c2, g1, t1, n1, tk_B, TT, ↓reduceIte, Nat.reduceEqDiff, Nat.reduceAdd, Nat.reduceMul, reduceCtorEq, Nat.reduceLeDiff]
        refine famC_next p (by simp) ⟨?_, by rw [List.length_cons] at hql; omega⟩ ?_
        · rw [← hq, trL_0]
        · refine Weak.calc [] (by decide) ?_ ?_ <;> simp [WT]
      · rw [← hq, trL_n p hx]
        simp only [L_tr, List.length_cons, e1, e2, le00, c1, c2, g1, t1, n1, hx, tk_B, TT, ↓reduceIte, Nat.reduceEqDiff, Nat.reduceAdd, Nat.reduceMul, reduceCtorEq, Nat.reduceLeDiff]
        exact Ends.data (r := .fs fr (eB (x :: p)) (p.length + 1)) (.inr rfl) (by simp [ET]) (al_B _)
theorem trim_spec (fr : Bool) (l : List Int) (nb : Nat) (hB : l.length ≤ 140737488355328) : ASound Tryz.prog 224 [fB fr l, .v (.string (ByteArray.mk #[0]))] nb (.ret (fB fr (trL (trR l))) []) := by
  refine ok_224.sound (by simp) ⟨al_fB l, trivial, trivial⟩ ?_
  by_cases h0 : l.length = 0
  · have hl : l = [] := List.eq_nil_of_length_eq_zero h0
    subst hl
    have e2 : ((0 : Nat) : Int) = 0 := rfl
    simp only [ac_224, List.length_nil, e2, TT, ↓reduceIte, Nat.reduceEqDiff, Nat.reduceAdd, Nat.reduceMul, reduceCtorEq, Nat.reduceLeDiff]
    exact Ends.imp (r0 := .v (.slice none 0 0)) (.inr rfl) (by simp [ET]) trivial (Imp.nil fr)
  · have e2 : ¬ (l.length : Int) = 0 := by omega
    have s1 : strOp BinOp.eql (ByteArray.mk #[0]) (ByteArray.mk #[]) = some (.bool false) := by kernel_rfl
    have s2 : (ByteArray.mk #[0]).size = 1 := rfl
    have s3 : (ByteArray.mk #[0])[Int.toNat 0]? = some 0 := rfl
    have s4 : ((1 : Nat) : Int) = 1 := rfl
    have s5 : (((0 : UInt8).toNat : Nat) : Int) = 0 := rfl
    have s6 : (0 : Int) < 128 := by decide
    simp only [ac_224, e2, s1, s2, s3, s4, s5, s6, le00, TT, ↓reduceIte, Nat.reduceEqDiff, Nat.reduceAdd, Nat.reduceMul, reduceCtorEq, Nat.reduceLeDiff]
    have hr : (trR l).length ≤ l.length := by
      have := trL_len l.reverse
      rw [trR, List.length_reverse]; rw [List.length_reverse] at this; exact this
    refine ⟨_, trimR_spec fr l _ hB, ?_⟩
    simp only [s3, s5, le00, TT, ↓reduceIte, Nat.reduceEqDiff, Nat.reduceAdd, Nat.reduceMul, reduceCtorEq, Nat.reduceLeDiff]
    refine ⟨_, trimL_spec fr (trR l) _ (by omega), ?_⟩
    simp only [TT, ↓reduceIte, Nat.reduceEqDiff, Nat.reduceAdd, Nat.reduceMul, reduceCtorEq, Nat.reduceLeDiff]
    refine ⟨by rfl, ?_⟩
    exact Ends.data (r := fB fr (trL (trR l))) (.inr rfl) (by simp [ET, fB]) (al_fB _)
end Go.Proofs.YtonglhkiobibgaaGreatDoor
namespace Go.Proofs.YtonglhkiobibgaaGreatDoor
open Go.RowKit
set_option maxRecDepth 100000
def upE (a b : Int) : Int := (a + b - 1) / b
theorem upE_bd {a b : Int} (h1 : 0 ≤ a) (h2 : 1 ≤ b) : 0 ≤ upE a b ∧ upE a b ≤ a + b - 1 := ⟨Int.ediv_nonneg (by omega) (by omega), Int.ediv_le_self _ (by omega)⟩
theorem up_spec (a b : Int) (nb : Nat) (h1 : 0 ≤ a) (h2 : a ≤ 10000) (h3 : 1 ≤ b) (h4 : b ≤ 10000) : ASound Tryz.prog 180 [.v (.int .i64 a), .v (.int .i64 b)] nb (.ret (.v (.int .i64 (upE a b))) []) := by
  refine ok_180.sound (by simp) ⟨trivial, trivial, trivial⟩ ?_
  have w1 : IntKind.i64.wrap (a + b) = a + b := wrap64 (by omega)
  have w2 : IntKind.i64.wrap (a + b - 1) = a + b - 1 := wrap64 (by omega)
  have hb := upE_bd h1 h3
  have w3 : IntKind.i64.wrap ((a + b - 1).tdiv b) = upE a b := by
    rw [Int.tdiv_eq_ediv_of_nonneg (by omega)]
    exact wrap64 (by have := hb.1; have := hb.2; unfold upE at *; omega)
  have hz : (b = 0) = False := eq_false (by omega)
  simp only [ac_180, w1, w2, w3, hz, TT, ↓reduceIte, Nat.reduceEqDiff, Nat.reduceAdd, Nat.reduceMul, reduceCtorEq, Nat.reduceLeDiff]
  exact Ends.data (.inr rfl) (by simp [ET]) trivial
def nBl (z : Int) : Int := upE z 32
def mBl (z : Int) : Int := if 12 < nBl z then 1 + upE (nBl z - 12) 8 + 1 else if 4 < nBl z then 1 else 0
def blkE (z : Int) : Int := if z < 0 then 4 else if 2432 < z then 107 else 0
theorem blocks_spec (z : Int) (nb : Nat) : ASound Tryz.prog 176 [.v (.int .i64 z)] nb (.ret (.tup [.v (.int .i64 (if blkE z = 0 then nBl z else 0)), .v (.int .i64 (if blkE z = 0 then mBl z else 0)), .v (.int .i64 (blkE z))]) []) := by
  refine ok_176.sound (by simp) ⟨trivial, trivial⟩ ?_
  by_cases c1 : z < 0
  · have e : blkE z = 4 := if_pos c1
    simp only [ac_176, e, c1, decide_true, TT, ↓reduceIte, Nat.reduceEqDiff, Nat.reduceAdd, Nat.reduceMul, reduceCtorEq, Nat.reduceLeDiff]
    exact Ends.data (.inr rfl) (by simp [ET]) ⟨trivial, trivial, trivial, trivial⟩
  by_cases c2 : 2432 < z
  · have e : blkE z = 107 := by rw [blkE, if_neg c1, if_pos c2]
    simp only [ac_176, e, c1, c2, decide_true, decide_false, TT, ↓reduceIte, Nat.reduceEqDiff, Nat.reduceAdd, Nat.reduceMul, reduceCtorEq, Nat.reduceLeDiff]
    exact Ends.data (.inr rfl) (by simp [ET]) ⟨trivial, trivial, trivial, trivial⟩
  have e : blkE z = 0 := by rw [blkE, if_neg c1, if_neg c2]
  have hn : 0 ≤ nBl z ∧ nBl z ≤ 76 := ⟨(upE_bd (by omega) (by omega)).1, by unfold nBl upE; omega⟩
  simp only [ac_176, e, c1, c2, decide_false, if_true, TT, ↓reduceIte, Nat.reduceEqDiff, Nat.reduceAdd, Nat.reduceMul, reduceCtorEq, Nat.reduceLeDiff]
  refine ⟨_, up_spec z 32 _ (by omega) (by omega) (by omega) (by omega), ?_⟩
  have hnd : upE z 32 = nBl z := rfl
  rw [hnd]
  by_cases d1 : 12 < nBl z
  · have w1 : IntKind.i64.wrap (nBl z - 12) = nBl z - 12 := wrap64 (by omega)
    have hu := upE_bd (a := nBl z - 12) (b := 8) (by omega) (by omega)
    have w2 : IntKind.i64.wrap (1 + upE (nBl z - 12) 8) = 1 + upE (nBl z - 12) 8 := wrap64 (by omega)
    have w3 : IntKind.i64.wrap (1 + upE (nBl z - 12) 8 + 1) = 1 + upE (nBl z - 12) 8 + 1 := wrap64 (by omega)
    have em : mBl z = 1 + upE (nBl z - 12) 8 + 1 := if_pos d1
    simp only [d1, w1, em, decide_true, TT, ↓reduceIte, Nat.reduceEqDiff, Nat.reduceAdd, Nat.reduceMul, reduceCtorEq, Nat.reduceLeDiff]
    refine ⟨_, up_spec (nBl z - 12) 8 _ (by omega) (by omega) (by omega) (by omega), ?_⟩
    simp only [w2, w3, TT, ↓reduceIte, Nat.reduceEqDiff, Nat.reduceAdd, Nat.reduceMul, reduceCtorEq, Nat.reduceLeDiff]
    exact Ends.data (.inr rfl) (by simp [ET]) ⟨trivial, trivial, trivial, trivial⟩
  by_cases d2 : 4 < nBl z
  · have em : mBl z = 1 := by rw [mBl, if_neg d1, if_pos d2]
    have w : IntKind.i64.wrap (0 + 1) = 1 := by rfl
    simp only [d1, d2, em, w, decide_true, decide_false, TT, ↓reduceIte, Nat.reduceEqDiff, Nat.reduceAdd, Nat.reduceMul, reduceCtorEq, Nat.reduceLeDiff]
    exact Ends.data (.inr rfl) (by simp [ET]) ⟨trivial, trivial, trivial, trivial⟩
  · have em : mBl z = 0 := by rw [mBl, if_neg d1, if_neg d2]
    simp only [d1, d2, em, decide_false, TT, ↓reduceIte, Nat.reduceEqDiff, Nat.reduceAdd, Nat.reduceMul, reduceCtorEq, Nat.reduceLeDiff]
    exact Ends.data (.inr rfl) (by simp [ET]) ⟨trivial, trivial, trivial, trivial⟩
def zrB (l : List Int) : Bool := decide (∀ x ∈ l, x = 0)
theorem zero_spec (fr : Bool) (l : List Int) (nb : Nat) (hB : l.length ≤ 140737488355328) : ASound Tryz.prog 177 [fB fr l] nb (.ret (.v (.bool (zrB l))) []) := by
  refine ok_177.sound (by simp) ⟨al_fB l, trivial⟩ ?_
  have h := fun nb => trim_spec fr l nb hB
  simp only [fB] at h
  simp only [ac_177, fB, TT, ↓reduceIte, Nat.reduceEqDiff, Nat.reduceAdd, Nat.reduceMul, reduceCtorEq, Nat.reduceLeDiff]
  refine ⟨_, h _, ?_⟩
  have hd : decide (((trL (trR l)).length : Int) = 0) = zrB l := by
    unfold zrB
    by_cases h : ∀ x ∈ l, x = 0
    · rw [decide_eq_true h]; exact decide_eq_true (by have := trim_nil.2 h; omega)
    · rw [decide_eq_false h]; exact decide_eq_false fun h9 => h (trim_nil.1 (by omega))
  simp only [hd, TT, ↓reduceIte, Nat.reduceEqDiff, Nat.reduceAdd, Nat.reduceMul, reduceCtorEq, Nat.reduceLeDiff]
  exact Ends.data (.inr rfl) (by simp [ET]) trivial
/-- may blocks be, behind a place? -/
def okBk (z n : Int) : Int → List Bk → Bool
  | _, [] => true
  | p, b :: r => (decide (p < b.index) && (decide (b.index < n) && (decide (b.data.length = 32) && (!zrB b.data && (!(decide (z - 32 * b.index < 32)) || zrB (b.data.drop (z - 32 * b.index).toNat)))))) && okBk z n b.index r
theorem okBk_drop {z n p : Int} {l : List Bk} {i : Nat} {b : Bk} (h : l[i]? = some b) : okBk z n p (l.drop i) = ((decide (p < b.index) && (decide (b.index < n) && (decide (b.data.length = 32) && (!zrB b.data && (!(decide (z - 32 * b.index < 32)) || zrB (b.data.drop (z - 32 * b.index).toNat)))))) && okBk z n b.index (l.drop (i + 1))) := by
  have hi := (List.getElem?_eq_some_iff.1 h)
  rw [List.drop_eq_getElem_cons hi.1, hi.2, okBk]
def chkFl (f : Fl) : Int := if blkE f.size = 0 then (if okBk f.size (nBl f.size) (-1) f.blocks = true then 0 else 9) else 9
abbrev L_fc (fr : Bool) (f : Fl) (q : Nat × Int) : ASt := ⟨envOf [(1, .op 0 0), (3, .v (.int .i64 (nBl f.size))), (6, .v (.int .i64 q.2)), (20, fBks fr f.blocks), (21, .v (.int .i64 f.blocks.length)), (22, .v (.int .i64 q.1))], heapOf [(0, .row true 115 [.v (.int .i64 f.size), fBks fr f.blocks])], 1⟩
set_option maxHeartbeats 2000000 in
theorem fchk_spec (fr : Bool) (f : Fl) (nb : Nat) (hl : f.blocks.length ≤ 140737488355328) : ASound Tryz.prog 118 [aFl fr f] nb (.ret (.v (.int .i64 (chkFl f))) []) := by
  refine ok_118.sound (by simp) ⟨al_aFl f, trivial⟩ ?_
  simp only [ac_118, aFl, fBks, TT, ↓reduceIte, Nat.reduceEqDiff, Nat.reduceAdd, Nat.reduceMul, reduceCtorEq, Nat.reduceLeDiff]
  refine ⟨_, blocks_spec f.size _, ?_⟩
  by_cases c0 : ¬ (blkE f.size = 0)
  · have e : chkFl f = 9 := if_neg c0
    simp only [c0, e, decide_false, TT, ↓reduceIte, Nat.reduceEqDiff, Nat.reduceAdd, Nat.reduceMul, reduceCtorEq, Nat.reduceLeDiff]
    exact Ends.data (.inr rfl) (by simp [ET]) trivial
  replace c0 : blkE f.size = 0 := Decidable.not_not.1 c0
  have e0 : chkFl f = if okBk f.size (nBl f.size) (-1) f.blocks = true then 0 else 9 := if_pos c0
  have hz : 0 ≤ f.size ∧ f.size ≤ 2432 := by
    unfold blkE at c0
    split at c0
    · cases c0
    · split at c0
      · cases c0
      · omega
  have hn : 0 ≤ nBl f.size ∧ nBl f.size ≤ 76 ∧ 32 * (nBl f.size - 1) < f.size := by unfold nBl upE; omega
  rw [e0]
  simp only [c0, decide_true, if_true, TT, ↓reduceIte, Nat.reduceEqDiff, Nat.reduceAdd, Nat.reduceMul, reduceCtorEq, Nat.reduceLeDiff]
  refine AWc.family (L_fc fr f) (fun q => q.1 ≤ f.blocks.length ∧ -1 ≤ q.2 ∧ okBk f.size (nBl f.size) q.2 (f.blocks.drop q.1) = okBk f.size (nBl f.size) (-1) f.blocks) (fun q => f.blocks.length - q.1) (0, -1) ⟨Nat.zero_le _, Int.le_refl _, rfl⟩ ?_ ?_
  · refine Weak.calc [(0, 0)] (by decide) ?_ ?_ <;> simp [WT, al_Bks, ren_Bks, fBks]
  · rintro ⟨i, p⟩ ⟨hi, hp, he⟩
    simp only at hi hp he
    by_cases hlt : i < f.blocks.length
    · obtain ⟨b, hx, e1, e0⟩ := lt_at hlt
      obtain ⟨b0, b1⟩ := get_Bks (fr := fr) hx
      rw [okBk_drop hx] at he
      simp only [L_fc, fBks, e1, e0, b0, b1, Int.toNat_natCast, TT, ↓reduceIte, Nat.reduceEqDiff, Nat.reduceAdd, Nat.reduceMul, reduceCtorEq, Nat.reduceLeDiff]
      by_cases c1 : b.index ≤ p
      · have d1 : ¬ p < b.index := by omega
        simp only [c1, decide_true, TT, ↓reduceIte, Nat.reduceEqDiff, Nat.reduceAdd, Nat.reduceMul, reduceCtorEq, Nat.reduceLeDiff]
        exact Ends.data (.inr rfl) (by simp [ET, ← he, d1]) trivial
      by_cases c2 : nBl f.size ≤ b.index
      · have d2 : ¬ b.index < nBl f.size := by omega
        simp only [c1, c2, decide_true, decide_false, TT, ↓reduceIte, Nat.reduceEqDiff, Nat.reduceAdd, Nat.reduceMul, reduceCtorEq, Nat.reduceLeDiff]
        exact Ends.data (.inr rfl) (by simp [ET, ← he, d2]) trivial
      by_cases c3 : ¬ (b.data.length = 32)
      · have d3 : ((b.data.length : Int) = 32) = False := eq_false (by omega)
        simp only [c1, c2, d3, decide_false, Bool.not_false, TT, ↓reduceIte, Nat.reduceEqDiff, Nat.reduceAdd, Nat.reduceMul, reduceCtorEq, Nat.reduceLeDiff]
        exact Ends.data (.inr rfl) (by simp [ET, ← he, c3]) trivial
      replace c3 : b.data.length = 32 := Decidable.not_not.1 c3
      have d3 : ((b.data.length : Int) = 32) = True := eq_true (by omega)
      have hz1 := fun nb => zero_spec fr b.data nb (by omega)
      simp only [fB] at hz1
      simp only [c1, c2, d3, decide_false, decide_true, Bool.not_true, TT, ↓reduceIte, Nat.reduceEqDiff, Nat.reduceAdd, Nat.reduceMul, reduceCtorEq, Nat.reduceLeDiff]
      refine ⟨_, hz1 _, ?_⟩
      have d1 : p < b.index := by omega
      have d2 : b.index < nBl f.size := by omega
      rcases Bool.eq_false_or_eq_true (zrB b.data) with hzb | hzb
      · simp only [hzb, TT, ↓reduceIte, Nat.reduceEqDiff, Nat.reduceAdd, Nat.reduceMul, reduceCtorEq, Nat.reduceLeDiff]
        exact Ends.data (.inr rfl) (by simp [ET, ← he, hzb]) trivial
      have w1 : IntKind.i64.wrap (32 * b.index) = 32 * b.index := wrap64 (by omega)
      have w2 : IntKind.i64.wrap (f.size - 32 * b.index) = f.size - 32 * b.index := wrap64 (by omega)
      simp only [hzb, w1, w2, TT, ↓reduceIte, Nat.reduceEqDiff, Nat.reduceAdd, Nat.reduceMul, reduceCtorEq, Nat.reduceLeDiff]
      by_cases c4 : f.size - 32 * b.index < 32
      · obtain ⟨k, hk⟩ : ∃ k : Nat, f.size - 32 * b.index = (k : Int) := ⟨(f.size - 32 * b.index).toNat, by omega⟩
        have g1 : ((k : Int) < 32) = True := eq_true (by omega)
        have g2 : ((0 : Int) ≤ (k : Int)) = True := eq_true (by omega)
        have g3 : ((k : Int) ≤ (b.data.length : Int)) = True := eq_true (by omega)
        have hz2 := fun nb => zero_spec fr (b.data.drop k) nb (by rw [List.length_drop]; omega)
        simp only [fB, List.length_drop] at hz2
        have hdr : (eB b.data).drop k = eB (b.data.drop k) := by simp [eB]
        have htk : List.take (b.data.length - k) (eB (b.data.drop k)) = eB (b.data.drop k) := List.take_of_length_le (by simp [eB])
        rw [hk] at he
        simp only [hk, g1, g2, g3, hdr, htk, len_B, decide_true, and_self, Int.toNat_natCast, TT, ↓reduceIte, Nat.reduceEqDiff, Nat.reduceAdd, Nat.reduceMul, reduceCtorEq, Nat.reduceLeDiff]
        refine ⟨_, hz2 _, ?_⟩
        cases hzd : zrB (b.data.drop k)
        · simp only [Bool.not_false, TT, ↓reduceIte, Nat.reduceEqDiff, Nat.reduceAdd, Nat.reduceMul, reduceCtorEq, Nat.reduceLeDiff]
          exact Ends.data (.inr rfl) (by simp [ET, ← he, g1, hzd]) trivial
        · simp only [Bool.not_true, TT, ↓reduceIte, Nat.reduceEqDiff, Nat.reduceAdd, Nat.reduceMul, reduceCtorEq, Nat.reduceLeDiff]
          refine famC_next (i + 1, b.index) (by show f.blocks.length - (i + 1) < f.blocks.length - i; omega) ⟨by show i + 1 ≤ f.blocks.length; omega, by show -1 ≤ b.index; omega, by rw [← he]; simp [d1, d2, c3, hzb, hzd]⟩ ?_
          refine Weak.calc [(0, 0)] (by decide) ?_ ?_ <;> simp [WT, al_Bks, ren_Bks, fBks, wrap64 (x := (i : Int) + 1) (by omega)]
      · simp only [c4, decide_false, TT, ↓reduceIte, Nat.reduceEqDiff, Nat.reduceAdd, Nat.reduceMul, reduceCtorEq, Nat.reduceLeDiff]
        refine famC_next (i + 1, b.index) (by show f.blocks.length - (i + 1) < f.blocks.length - i; omega) ⟨by show i + 1 ≤ f.blocks.length; omega, by show -1 ≤ b.index; omega, by rw [← he]; simp [d1, d2, c3, hzb, c4]⟩ ?_
        refine Weak.calc [(0, 0)] (by decide) ?_ ?_ <;> simp [WT, al_Bks, ren_Bks, fBks, wrap64 (x := (i : Int) + 1) (by omega)]
    · obtain rfl : i = f.blocks.length := by omega
      have e1 : ¬ ((f.blocks.length : Int) < (f.blocks.length : Int)) := by omega
      have h9 : okBk f.size (nBl f.size) (-1) f.blocks = true := by rw [← he, List.drop_length]; rfl
      simp only [L_fc, fBks, e1, TT, ↓reduceIte, Nat.reduceEqDiff, Nat.reduceAdd, Nat.reduceMul, reduceCtorEq, Nat.reduceLeDiff]
      exact Ends.data (.inr rfl) (by simp [ET, h9]) trivial
def mayN (n : Nd) (k : Int) : Bool :=
  if chkD n.entries ≠ 0 ∨ chkFl n.file ≠ 0 ∨ n.links ≠ k then false
  else if (n.dir = true ∧ n.file.size ≠ 0) ∨ (n.dir = false ∧ 0 < n.entries.length) then false
  else if n.ino = 1 then n.dir && decide (k = 0)
  else if n.dir = true then decide (k = 1) else decide (1 ≤ k) && decide (k ≤ 16)
set_option maxHeartbeats 2000000 in
theorem may_spec (fr : Bool) (l : List Nd) (i : Nat) (n : Nd) (k : Int) (nb : Nat) (hx : l[i]? = some n) (hl : n.file.blocks.length ≤ 140737488355328) : ASound Tryz.prog 86 [.fp fr (eNds fr l) (i * 6), .v (.int .i64 k)] nb (.ret (.v (.bool (mayN n k))) []) := by
  refine ok_86.sound (by simp) ⟨al_Nds l, trivial, trivial⟩ ?_
  obtain ⟨a0, a1, a2, a3, a4, a5⟩ := get_Nds (fr := fr) hx
  have h1 := fun nb => dchk_spec fr n.entries nb
  have h2 := fun nb => fchk_spec fr n.file nb hl
  simp only [fEnts] at h1
  simp only [aFl, fBks] at h2
  simp only [ac_86, a3, TT, ↓reduceIte, Nat.reduceEqDiff, Nat.reduceAdd, Nat.reduceMul, reduceCtorEq, Nat.reduceLeDiff]
  refine ⟨_, h1 _, ?_⟩
  by_cases c1 : ¬ (chkD n.entries = 0)
  · have e : mayN n k = false := if_pos (.inl c1)
    simp only [c1, e, decide_false, Bool.not_false, TT, ↓reduceIte, Nat.reduceEqDiff, Nat.reduceAdd, Nat.reduceMul, reduceCtorEq, Nat.reduceLeDiff]
    exact Ends.data (.inr rfl) (by simp [ET]) trivial
  replace c1 : chkD n.entries = 0 := Decidable.not_not.1 c1
  simp only [c1, a4, a5, decide_true, Bool.not_true, TT, ↓reduceIte, Nat.reduceEqDiff, Nat.reduceAdd, Nat.reduceMul, reduceCtorEq, Nat.reduceLeDiff]
  refine ⟨_, h2 _, ?_⟩
  by_cases c2 : ¬ (chkFl n.file = 0)
  · have e : mayN n k = false := if_pos (.inr (.inl c2))
    simp only [c2, e, decide_false, Bool.not_false, TT, ↓reduceIte, Nat.reduceEqDiff, Nat.reduceAdd, Nat.reduceMul, reduceCtorEq, Nat.reduceLeDiff]
    exact Ends.data (.inr rfl) (by simp [ET]) trivial
  replace c2 : chkFl n.file = 0 := Decidable.not_not.1 c2
  simp only [c2, a2, decide_true, Bool.not_true, TT, ↓reduceIte, Nat.reduceEqDiff, Nat.reduceAdd, Nat.reduceMul, reduceCtorEq, Nat.reduceLeDiff]
  by_cases c3 : ¬ (n.links = k)
  · have e : mayN n k = false := if_pos (.inr (.inr c3))
    simp only [c3, e, decide_false, Bool.not_false, TT, ↓reduceIte, Nat.reduceEqDiff, Nat.reduceAdd, Nat.reduceMul, reduceCtorEq, Nat.reduceLeDiff]
    exact Ends.data (.inr rfl) (by simp [ET]) trivial
  replace c3 : n.links = k := Decidable.not_not.1 c3
  have e0 : mayN n k = if (n.dir = true ∧ n.file.size ≠ 0) ∨ (n.dir = false ∧ 0 < n.entries.length) then false else if n.ino = 1 then n.dir && decide (k = 0) else if n.dir = true then decide (k = 1) else decide (1 ≤ k) && decide (k ≤ 16) := if_neg (by simp [c1, c2, c3])
  rw [e0]
  simp only [c3, a0, a1, a3, a4, decide_true, Bool.not_true, TT, ↓reduceIte, Nat.reduceEqDiff, Nat.reduceAdd, Nat.reduceMul, reduceCtorEq, Nat.reduceLeDiff]
  cases hd : n.dir
  · by_cases c4 : 0 < n.entries.length
    · have g : ((0 : Int) < (n.entries.length : Int)) = True := eq_true (by omega)
      simp only [g, decide_true, Bool.not_false, TT, ↓reduceIte, Nat.reduceEqDiff, Nat.reduceAdd, Nat.reduceMul, reduceCtorEq, Nat.reduceLeDiff]
      exact Ends.data (.inr rfl) (by simp [ET, c4]) trivial
    · have g : ((0 : Int) < (n.entries.length : Int)) = False := eq_false (by omega)
      by_cases c5 : n.ino = 1
      · simp only [g, c5, decide_true, decide_false, Bool.not_false, TT, ↓reduceIte, Nat.reduceEqDiff, Nat.reduceAdd, Nat.reduceMul, reduceCtorEq, Nat.reduceLeDiff]
        exact Ends.data (.inr rfl) (by simp [ET, c4, c5]) trivial
      · by_cases c6 : 1 ≤ k
        · simp only [g, c5, c6, decide_true, decide_false, Bool.not_false, TT, ↓reduceIte, Nat.reduceEqDiff, Nat.reduceAdd, Nat.reduceMul, reduceCtorEq, Nat.reduceLeDiff]
          exact Ends.data (.inr rfl) (by simp [ET, c4, c5, c6]) trivial
        · simp only [g, c5, c6, decide_true, decide_false, Bool.not_false, TT, ↓reduceIte, Nat.reduceEqDiff, Nat.reduceAdd, Nat.reduceMul, reduceCtorEq, Nat.reduceLeDiff]
          exact Ends.data (.inr rfl) (by simp [ET, c4, c5, c6]) trivial
  · by_cases c4 : n.file.size = 0
    · by_cases c5 : n.ino = 1
      · simp only [c4, c5, decide_true, Bool.not_true, TT, ↓reduceIte, Nat.reduceEqDiff, Nat.reduceAdd, Nat.reduceMul, reduceCtorEq, Nat.reduceLeDiff]
        exact Ends.data (.inr rfl) (by simp [ET, c4, c5]) trivial
      · simp only [c4, c5, decide_true, decide_false, Bool.not_true, TT, ↓reduceIte, Nat.reduceEqDiff, Nat.reduceAdd, Nat.reduceMul, reduceCtorEq, Nat.reduceLeDiff]
        exact Ends.data (.inr rfl) (by simp [ET, c4, c5]) trivial
    · simp only [c4, decide_false, Bool.not_true, Bool.not_false, TT, ↓reduceIte, Nat.reduceEqDiff, Nat.reduceAdd, Nat.reduceMul, reduceCtorEq, Nat.reduceLeDiff]
      exact Ends.data (.inr rfl) (by simp [ET, c4]) trivial
end Go.Proofs.YtonglhkiobibgaaGreatDoor
namespace Go.Proofs.YtonglhkiobibgaaGreatDoor
open Go.RowKit
set_option maxRecDepth 100000
theorem bsI_inv {f : Nat → Int} {t : Int} {n : Nat} (mono : ∀ a b, a < b → b < n → f a < f b) : ∀ (k i j : Nat), i ≤ j → j ≤ n → j - i ≤ k → (∀ x, x < i → f x < t) → (∀ x, j ≤ x → x < n → t ≤ f x) →
    bsI f t k i j ≤ n ∧ (∀ x, x < bsI f t k i j → f x < t) ∧ (∀ x, bsI f t k i j ≤ x → x < n → t ≤ f x)
  | 0, i, j, h1, h2, h3, h4, h5 => by
    obtain rfl : i = j := by omega
    exact ⟨h2, h4, h5⟩
  | k + 1, i, j, h1, h2, h3, h4, h5 => by
    rw [bsI]
    by_cases hlt : i < j
    · rw [if_pos hlt]
      generalize hm : (i + j) / 2 = m
      have hm1 : i ≤ m ∧ m < j := by omega
      by_cases h : f m < t
      · rw [if_pos h]
        refine bsI_inv mono k (m + 1) j (by omega) h2 (by omega) (fun x hx => ?_) h5
        rcases Nat.lt_or_ge x m with h6 | h6
        · have := mono x m h6 (by omega); omega
        · obtain rfl : x = m := by omega
          exact h
      · rw [if_neg h]
        refine bsI_inv mono k i m (by omega) (by omega) (by omega) h4 (fun x hx hn => ?_)
        rcases Nat.lt_or_ge m x with h6 | h6
        · have := mono m x h6 hn; omega
        · obtain rfl : x = m := by omega
          omega
    · rw [if_neg hlt]
      obtain rfl : i = j := by omega
      exact ⟨h2, h4, h5⟩
def incN (l : List Nd) : Prop := ∀ a b, a < b → b < l.length → inoA l a < inoA l b
/-- what is there is found -/
theorem plc_eq {l : List Nd} (h : incN l) {i : Nat} {n : Nd} (hx : l[i]? = some n) : plc l n.ino = i := by
  have hi := (List.getElem?_eq_some_iff.1 hx).1
  obtain ⟨h1, h2, h3⟩ := bsI_inv (t := n.ino) h l.length 0 l.length (Nat.zero_le _) (Nat.le_refl _) (by omega) (fun x hx => by omega) (fun x h1 h2 => by omega)
  have e : inoA l i = n.ino := inoA_at hx
  rcases Nat.lt_trichotomy (plc l n.ino) i with h4 | h4 | h4
  · have h5 := h3 (plc l n.ino) (Nat.le_refl _) (by omega)
    have h6 := h (plc l n.ino) i h4 hi
    omega
  · exact h4
  · have h5 := h2 i h4
    omega
theorem hasN_of {l : List Nd} (h : incN l) {i : Nat} {n : Nd} (hx : l[i]? = some n) : hasN l n.ino := by
  have hi := (List.getElem?_eq_some_iff.1 hx).1
  have e := plc_eq h hx
  exact ⟨by omega, by rw [e]; exact inoA_at hx⟩
/-- one more for a key -/
def bumpM (t : Int) : List (Int × Int) → List (Int × Int)
  | [] => [(t, 1)]
  | (k, v) :: r => if k = t then (t, v + 1) :: r else (k, v) :: bumpM t r
def getM (t : Int) : List (Int × Int) → Int
  | [] => 0
  | (k, v) :: r => if k = t then v else getM t r
def encM (l : List (Int × Int)) : List AV := l.flatMap fun p => [.v (.int .i64 p.1), .v (.int .i64 p.2)]
theorem al_encM {p : Nat → Prop} (l : List (Int × Int)) : AlL p (encM l) := AlL_flat (e := fun p => [AV.v (.int .i64 p.1), .v (.int .i64 p.2)]) (fun _ => ⟨trivial, trivial, trivial⟩) l
theorem ren_encM {ρ : Nat → Nat} (l : List (Int × Int)) : renL ρ (encM l) = encM l := renL_id (p := fun _ => False) (fun _ h => h.elim) (al_encM l)
theorem mfind_encM (t : Int) : ∀ l : List (Int × Int), (mfind t (encM l) = some none ∧ getM t l = 0) ∨ mfind t (encM l) = some (some (.v (.int .i64 (getM t l))))
  | [] => .inl ⟨rfl, rfl⟩
  | (k, v) :: r => by
    show (mfind t (.v (.int .i64 k) :: .v (.int .i64 v) :: encM r) = _ ∧ _) ∨ mfind t (.v (.int .i64 k) :: .v (.int .i64 v) :: encM r) = _
    rw [mfind, getM]
    by_cases h : k = t
    · rw [if_pos h, if_pos h]; exact .inr rfl
    · rw [if_neg h, if_neg h]; exact mfind_encM t r
theorem mput_encM (t : Int) : ∀ l : List (Int × Int), mput t (.v (.int .i64 (getM t l + 1))) (encM l) = some (encM (bumpM t l))
  | [] => by simp [encM, bumpM, getM, mput]
  | (k, v) :: r => by
    show mput t _ (.v (.int .i64 k) :: .v (.int .i64 v) :: encM r) = _
    rw [mput, getM, bumpM]
    by_cases h : k = t
    · subst h; simp [encM]
    · rw [if_neg h, if_neg h, if_neg h, mput_encM t r]; simp [encM]
def lkM (ks : List Int) : List (Int × Int) := ks.foldl (fun l t => bumpM t l) []
theorem lkM_s (ks : List Int) (t : Int) : lkM (ks ++ [t]) = bumpM t (lkM ks) := by rw [lkM, List.foldl_append]; rfl
theorem getM_bump (t u : Int) : ∀ l : List (Int × Int), getM t (bumpM u l) = if u = t then getM t l + 1 else getM t l
  | [] => by
    by_cases h : u = t <;> simp [bumpM, getM, h]
  | (k, v) :: r => by
    rw [bumpM]
    by_cases h : k = u
    · subst h
      rw [if_pos rfl, getM, getM]
      by_cases h2 : k = t
      · rw [if_pos h2, if_pos h2, if_pos h2]
      · rw [if_neg h2, if_neg h2, if_neg h2]
    · rw [if_neg h, getM, getM, getM_bump t u r]
      by_cases h2 : k = t
      · have h3 : ¬ u = t := fun h9 => h (by omega)
        rw [if_pos h2, if_pos h2, if_neg h3]
      · rw [if_neg h2, if_neg h2]
theorem getM_foldl (t : Int) : ∀ (ks : List Int) (l : List (Int × Int)), getM t (ks.foldl (fun l t => bumpM t l) l) = getM t l + (ks.count t : Nat)
  | [], l => by simp
  | u :: ks, l => by
    rw [List.foldl_cons, getM_foldl t ks, getM_bump, List.count_cons]
    by_cases h : u = t
    · rw [if_pos h]; simp [h]; omega
    · rw [if_neg h]; simp [h]
theorem getM_lk (t : Int) (ks : List Int) : getM t (lkM ks) = (ks.count t : Nat) := by rw [lkM, getM_foldl]; simp [getM]
theorem getM_bd (t : Int) (ks : List Int) : 0 ≤ getM t (lkM ks) ∧ getM t (lkM ks) ≤ (ks.length : Int) := by
  rw [getM_lk]
  have := List.count_le_length (a := t) (l := ks)
  omega
/-- the numbers that the first nodes' names lead to -/
def inosN (l : List Nd) : List Int := l.flatMap fun n => n.entries.map Ent.ino
def ltO : Option Int → Int → Bool
  | none, _ => true
  | some q, x => decide (q < x)
def chk1 (s : FSt) : Option Int → List Nd → Bool
  | _, [] => true
  | p, n :: r => decide (n.ino < s.next) && (ltO p n.ino && (decide (∀ e ∈ n.entries, hasN s.nodes e.ino) && chk1 s (some n.ino) r))
def prevN (l : List Nd) (i : Nat) : Option Int := if i = 0 then none else (l[i - 1]?).map Nd.ino
theorem prevN_s {l : List Nd} {i : Nat} {n : Nd} (h : l[i]? = some n) : prevN l (i + 1) = some n.ino := by simp [prevN, h]
theorem chk1_drop {s : FSt} {l : List Nd} {i : Nat} {n : Nd} (h : l[i]? = some n) : chk1 s (prevN l i) (l.drop i) = (decide (n.ino < s.next) && (ltO (prevN l i) n.ino && (decide (∀ e ∈ n.entries, hasN s.nodes e.ino) && chk1 s (prevN l (i + 1)) (l.drop (i + 1))))) := by
  have hi := (List.getElem?_eq_some_iff.1 h)
  rw [List.drop_eq_getElem_cons hi.1, hi.2, prevN_s h]; rfl
def chk2 (s : FSt) (ks : List (Int × Int)) (l : List Nd) : Bool := decide (∀ n ∈ l, mayN n (getM n.ino ks) = true)
def chk3 (s : FSt) : Bool := decide ((rch s 8 1 []).length = s.nodes.length) && decide (dpt s 9 1 ≤ 8)
def badH (s : FSt) : Prop := s.next ≤ 1 ∨ 2147483647 < s.next ∨ s.nodes.length = 0 ∨ 128 < s.nodes.length ∨ inoA s.nodes 0 ≠ 1
instance (s : FSt) : Decidable (badH s) := by unfold badH; exact inferInstance
def chkFs (s : FSt) : Int := if badH s then 9 else if chk1 s none s.nodes = true ∧ chk2 s (lkM (inosN s.nodes)) s.nodes = true ∧ chk3 s = true then 0 else 9
theorem chk1_all {s : FSt} : ∀ {l : List Nd} {p : Option Int}, chk1 s p l = true → (∀ n ∈ l, n.ino < s.next ∧ ∀ e ∈ n.entries, hasN s.nodes e.ino) ∧ (∀ q, p = some q → ∀ n ∈ l, q < n.ino) ∧ ∀ a b, a < b → b < l.length → inoA l a < inoA l b
  | [], p, _ => ⟨by simp, by simp, fun a b _ hb => by simp at hb⟩
  | n :: r, p, h => by
    have h' : (decide (n.ino < s.next) && (ltO p n.ino && (decide (∀ e ∈ n.entries, hasN s.nodes e.ino) && chk1 s (some n.ino) r))) = true := h
    simp only [Bool.and_eq_true, decide_eq_true_eq] at h'
    obtain ⟨h1, h2, h3, h4⟩ := h'
    obtain ⟨g1, g2, g3⟩ := chk1_all h4
    have g4 := g2 n.ino rfl
    refine ⟨?_, ?_, ?_⟩
    · intro m hm
      rcases List.mem_cons.1 hm with rfl | hm
      · exact ⟨h1, h3⟩
      · exact g1 m hm
    · rintro q rfl m hm
      have h2' : q < n.ino := by simpa [ltO] using h2
      rcases List.mem_cons.1 hm with rfl | hm
      · exact h2'
      · have := g4 m hm; omega
    · intro a b hab hb
      cases b with
      | zero => omega
      | succ b =>
        have hb' : b < r.length := by simpa using hb
        obtain ⟨m, hm⟩ : ∃ m, r[b]? = some m := ⟨_, List.getElem?_eq_getElem hb'⟩
        have e2 : inoA (n :: r) (b + 1) = inoA r b := by simp [inoA]
        rw [e2]
        cases a with
        | zero =>
          have e1 : inoA (n :: r) 0 = n.ino := by simp [inoA]
          rw [e1, inoA_at hm]
          exact g4 m (List.mem_of_getElem? hm)
        | succ a =>
          have e1 : inoA (n :: r) (a + 1) = inoA r a := by simp [inoA]
          rw [e1]
          exact g3 a b (by omega) hb'
end Go.Proofs.YtonglhkiobibgaaGreatDoor
namespace Go.Proofs.YtonglhkiobibgaaGreatDoor
set_option maxRecDepth 100000
def ac_CK3 : AC :=
(.seq (.reg false [⟨some 115, .mkmap , none, [], []⟩,
    ⟨some 12, .mv (.tmp 115), none, [115], []⟩] [1, 12])
(.seq (.seq (.reg false [⟨some 116, .mv (.tmp 12), none, [12], []⟩,
    ⟨some 117, .call 87 [(.tmp 1), (.const (.int .i64 (1))), (.const (.int .i64 (8))), (.tmp 116)], none, [1, 116], []⟩] [1, 12])
(.seq (.reg false [⟨some 118, .mv (.tmp 12), none, [12], []⟩,
    ⟨some 119, .mlen (.tmp 118), none, [118], []⟩,
    ⟨some 120, .foff 0 (.tmp 1), none, [1], []⟩,
    ⟨some 121, .load false 1 (.tmp 120), none, [120], []⟩,
    ⟨some 122, .len false (.tmp 121), none, [121], []⟩,
    ⟨some 123, .bin .neq (.tmp 119) (.tmp 122), none, [119, 122], []⟩,
    ⟨some 124, .mv (.tmp 123), none, [123], []⟩,
    ⟨some 125, .call 88 [(.tmp 1), (.const (.int .i64 (1))), (.const (.int .i64 (8)))], some (124, false), [1, 124], []⟩,
    ⟨some 126, .bin .gtr (.tmp 125) (.const (.int .i64 (8))), some (124, false), [125, 124], []⟩,
    ⟨some 127, .pick (.tmp 124) (.const (.bool true)) (.tmp 126), none, [124, 126], []⟩] [127])
(.cond (.tmp 127)
(.seq (.reg false [⟨some 2, .mv (.const (.int .i64 (9))), none, [], []⟩] [2])
.ret)
.skip)))
(.seq (.reg false [⟨some 2, .mv (.const (.int .i64 (0))), none, [], []⟩] [2])
.ret)))
def ac_CK2 : AC :=
(.seq (.seq (.reg false [⟨some 95, .foff 0 (.tmp 1), none, [1], []⟩,
    ⟨some 96, .load false 1 (.tmp 95), none, [95], []⟩,
    ⟨some 97, .len false (.tmp 96), none, [96], []⟩,
    ⟨some 98, .mv (.const (.int .i64 (0))), none, [], []⟩] [1, 3, 97, 98])
(.block 4 (.loop (.seq (.reg false [⟨some 99, .bin .lss (.tmp 98) (.tmp 97), none, [98, 97], []⟩] [1, 3, 97, 98, 99])
(.seq (.cond (.tmp 99)
.skip
(.exit 4))
(.seq (.block 5 (.seq (.reg false [⟨some 100, .mv (.tmp 98), none, [98], []⟩,
    ⟨some 10, .mv (.tmp 100), none, [100], []⟩] [1, 3, 10, 97, 98])
(.seq (.reg false [⟨some 101, .foff 0 (.tmp 1), none, [1], []⟩,
    ⟨some 102, .load false 1 (.tmp 101), none, [101], []⟩,
    ⟨some 103, .mv (.tmp 10), none, [10], []⟩,
    ⟨some 104, .idx 6 (.tmp 102) (.tmp 103), none, [102, 103], []⟩,
    ⟨some 11, .mv (.tmp 104), none, [104], []⟩] [1, 3, 11, 97, 98])
(.seq (.reg false [⟨some 105, .mv (.tmp 11), none, [11], []⟩,
    ⟨some 106, .mv (.tmp 3), none, [3], []⟩,
    ⟨some 107, .mv (.tmp 11), none, [11], []⟩,
    ⟨some 108, .nilc (.tmp 107), none, [107], []⟩,
    ⟨some 109, .foff 0 (.tmp 108), none, [108], []⟩,
    ⟨some 110, .load false 1 (.tmp 109), none, [109], []⟩,
    ⟨some 111, .mlook (.int .i64 (0)) false (.tmp 106) (.tmp 110), none, [106, 110], []⟩,
    ⟨some 112, .call 86 [(.tmp 105), (.tmp 111)], none, [105, 111], []⟩,
    ⟨some 113, .un .not (.tmp 112), none, [112], []⟩] [1, 3, 97, 98, 113])
(.cond (.tmp 113)
(.seq (.reg false [⟨some 2, .mv (.const (.int .i64 (9))), none, [], []⟩] [2])
.ret)
.skip)))))
(.reg false [⟨some 114, .bin .add (.tmp 98) (.const (.int .i64 (1))), none, [98], []⟩,
    ⟨some 98, .mv (.tmp 114), none, [114], []⟩] [1, 3, 97, 98])))))))
(.weak ac_CK3))
def ac_CK1 : AC :=
(.seq (.seq (.reg false [⟨some 13, .foff 1 (.tmp 1), none, [1], []⟩,
    ⟨some 14, .load false 1 (.tmp 13), none, [13], []⟩,
    ⟨some 15, .bin .leq (.tmp 14) (.const (.int .i64 (1))), none, [14], []⟩,
    ⟨some 16, .mv (.tmp 15), none, [15], []⟩,
    ⟨some 17, .foff 1 (.tmp 1), some (16, false), [1, 16], []⟩,
    ⟨some 18, .load false 1 (.tmp 17), some (16, false), [17, 16], []⟩,
    ⟨some 19, .bin .gtr (.tmp 18) (.const (.int .i64 (2147483647))), some (16, false), [18, 16], []⟩,
    ⟨some 20, .pick (.tmp 16) (.const (.bool true)) (.tmp 19), none, [16, 19], []⟩,
    ⟨some 21, .mv (.tmp 20), none, [20], []⟩,
    ⟨some 22, .foff 0 (.tmp 1), some (21, false), [1, 21], []⟩,
    ⟨some 23, .load false 1 (.tmp 22), some (21, false), [22, 21], []⟩,
    ⟨some 24, .len false (.tmp 23), some (21, false), [23, 21], []⟩,
    ⟨some 25, .bin .eql (.tmp 24) (.const (.int .i64 (0))), some (21, false), [24, 21], []⟩,
    ⟨some 26, .pick (.tmp 21) (.const (.bool true)) (.tmp 25), none, [21, 25], []⟩,
    ⟨some 27, .mv (.tmp 26), none, [26], []⟩,
    ⟨some 28, .foff 0 (.tmp 1), some (27, false), [1, 27], []⟩,
    ⟨some 29, .load false 1 (.tmp 28), some (27, false), [28, 27], []⟩,
    ⟨some 30, .len false (.tmp 29), some (27, false), [29, 27], []⟩,
    ⟨some 31, .bin .gtr (.tmp 30) (.const (.int .i64 (128))), some (27, false), [30, 27], []⟩,
    ⟨some 32, .pick (.tmp 27) (.const (.bool true)) (.tmp 31), none, [27, 31], []⟩,
    ⟨some 33, .mv (.tmp 32), none, [32], []⟩,
    ⟨some 34, .foff 0 (.tmp 1), some (33, false), [1, 33], []⟩,
    ⟨some 35, .load false 1 (.tmp 34), some (33, false), [34, 33], []⟩,
    ⟨some 36, .idx 6 (.tmp 35) (.const (.int .i64 (0))), some (33, false), [35, 33], []⟩,
    ⟨some 37, .foff 0 (.tmp 36), some (33, false), [36, 33], []⟩,
    ⟨some 38, .load false 1 (.tmp 37), some (33, false), [37, 33], []⟩,
    ⟨some 39, .bin .neq (.tmp 38) (.const (.int .i64 (1))), some (33, false), [38, 33], []⟩,
    ⟨some 40, .pick (.tmp 33) (.const (.bool true)) (.tmp 39), none, [33, 39], []⟩] [1, 40])
(.cond (.tmp 40)
(.seq (.reg false [⟨some 2, .mv (.const (.int .i64 (9))), none, [], []⟩] [2])
.ret)
.skip))
(.seq (.reg false [⟨some 41, .mkmap , none, [], []⟩,
    ⟨some 3, .mv (.tmp 41), none, [41], []⟩] [1, 3])
(.seq (.seq (.reg false [⟨some 42, .foff 0 (.tmp 1), none, [1], []⟩,
    ⟨some 43, .load false 1 (.tmp 42), none, [42], []⟩,
    ⟨some 44, .len false (.tmp 43), none, [43], []⟩,
    ⟨some 45, .mv (.const (.int .i64 (0))), none, [], []⟩] [1, 3, 43, 44, 45])
(.block 0 (.loop (.seq (.reg false [⟨some 46, .bin .lss (.tmp 45) (.tmp 44), none, [45, 44], []⟩] [1, 3, 43, 44, 45, 46])
(.seq (.cond (.tmp 46)
.skip
(.exit 0))
(.seq (.block 1 (.seq (.reg false [⟨some 47, .mv (.tmp 45), none, [45], []⟩,
    ⟨some 48, .idx 6 (.tmp 43) (.tmp 45), none, [43, 45], []⟩,
    ⟨some 49, .load true 6 (.tmp 48), none, [48], []⟩,
    ⟨some 5, .new 118 [(.int .i64 (0)), (.bool false), (.int .i64 (0)), (.slice none 0 0), (.int .i64 (0)), (.slice none 0 0)], none, [], []⟩,
    ⟨some 4, .mv (.tmp 47), none, [47], []⟩,
    ⟨none, .store 6 (.tmp 5) (.tmp 49), none, [5, 49], []⟩] [1, 3, 4, 5, 43, 44, 45])
(.seq (.seq (.reg true [⟨some 50, .foff 0 (.tmp 5), none, [5], []⟩,
    ⟨some 51, .load false 1 (.tmp 50), none, [50], [0]⟩,
    ⟨some 52, .foff 1 (.tmp 1), none, [1], []⟩,
    ⟨some 53, .load false 1 (.tmp 52), none, [52], [2]⟩,
    ⟨some 54, .bin .geq (.tmp 51) (.tmp 53), none, [51, 53], [1, 3, 0, 2]⟩,
    ⟨some 55, .mv (.tmp 54), none, [54], [4, 1, 3, 0, 2]⟩,
    ⟨some 56, .mv (.tmp 4), some (55, false), [4, 55], [5, 4, 1, 3, 0, 2]⟩,
    ⟨some 57, .bin .gtr (.tmp 56) (.const (.int .i64 (0))), some (55, false), [56, 55], [6, 5, 4, 1, 3, 0, 2]⟩,
    ⟨some 58, .mv (.tmp 57), some (55, false), [57, 55], [7, 5, 6, 4, 1, 3, 0, 2]⟩,
    ⟨some 59, .foff 0 (.tmp 5), some (58, true), [5, 58], [8, 7, 5, 6, 4, 1, 3, 0, 2]⟩,
    ⟨some 60, .load false 1 (.tmp 59), some (58, true), [59, 58], [9, 8, 7, 5, 6, 4, 1, 3, 0, 2]⟩,
    ⟨some 61, .foff 0 (.tmp 1), some (58, true), [1, 58], [8, 7, 5, 6, 4, 1, 3, 0, 2]⟩,
    ⟨some 62, .load false 1 (.tmp 61), some (58, true), [61, 58], [11, 8, 7, 5, 6, 4, 1, 3, 0, 2]⟩,
    ⟨some 63, .mv (.tmp 4), some (58, true), [4, 58], [8, 7, 5, 6, 4, 1, 3, 0, 2]⟩,
    ⟨some 64, .bin .sub (.tmp 63) (.const (.int .i64 (1))), some (58, true), [63, 58], [13, 8, 7, 5, 6, 4, 1, 3, 0, 2]⟩,
    ⟨some 65, .idx 6 (.tmp 62) (.tmp 64), some (58, true), [62, 64, 58], [12, 14, 8, 11, 7, 5, 6, 4, 1, 3, 0, 2, 13]⟩,
    ⟨some 66, .foff 0 (.tmp 65), some (58, true), [65, 58], [15, 8, 12, 14, 11, 7, 5, 6, 4, 1, 3, 0, 2, 13]⟩,
    ⟨some 67, .load false 1 (.tmp 66), some (58, true), [66, 58], [16, 8, 15, 12, 14, 11, 7, 5, 6, 4, 1, 3, 0, 2, 13]⟩,
    ⟨some 68, .bin .leq (.tmp 60) (.tmp 67), some (58, true), [60, 67, 58], [10, 17, 8, 9, 7, 5, 6, 4, 1, 3, 0, 2, 16, 15, 12, 14, 11, 13]⟩,
    ⟨some 69, .pick (.tmp 58) (.tmp 68) (.const (.bool false)), some (55, false), [58, 68, 55], [8, 18, 5, 7, 6, 4, 1, 3, 0, 2, 10, 17, 9, 16, 15, 12, 14, 11, 13]⟩,
    ⟨some 70, .pick (.tmp 55) (.const (.bool true)) (.tmp 69), none, [55, 69], [5, 19, 4, 1, 3, 0, 2, 8, 18, 7, 6, 10, 17, 9, 16, 15, 12, 14, 11, 13]⟩] [1, 3, 5, 43, 44, 45, 70])
(.cond (.tmp 70)
(.seq (.reg false [⟨some 2, .mv (.const (.int .i64 (9))), none, [], []⟩] [2])
.ret)
.skip))
(.seq (.reg false [⟨some 71, .foff 3 (.tmp 5), none, [5], []⟩,
    ⟨some 72, .load false 1 (.tmp 71), none, [71], []⟩,
    ⟨some 73, .len false (.tmp 72), none, [72], []⟩,
    ⟨some 74, .mv (.const (.int .i64 (0))), none, [], []⟩] [1, 3, 43, 44, 45, 72, 73, 74])
(.block 2 (.loop (.seq (.reg false [⟨some 75, .bin .lss (.tmp 74) (.tmp 73), none, [74, 73], []⟩] [1, 3, 43, 44, 45, 72, 73, 74, 75])
(.seq (.cond (.tmp 75)
.skip
(.exit 2))
(.seq (.block 3 (.seq (.reg false [⟨some 76, .idx 2 (.tmp 72) (.tmp 74), none, [72, 74], []⟩,
    ⟨some 77, .load true 2 (.tmp 76), none, [76], []⟩,
    ⟨some 7, .new 134 [(.string (ByteArray.mk #[])), (.int .i64 (0))], none, [], []⟩,
    ⟨none, .store 2 (.tmp 7) (.tmp 77), none, [7, 77], []⟩] [1, 3, 7, 43, 44, 45, 72, 73, 74])
(.seq (.reg false [⟨some 78, .mv (.tmp 3), none, [3], []⟩,
    ⟨some 79, .foff 1 (.tmp 7), none, [7], []⟩,
    ⟨some 80, .load false 1 (.tmp 79), none, [79], []⟩,
    ⟨some 81, .mlook (.int .i64 (0)) false (.tmp 78) (.tmp 80), none, [78, 80], []⟩,
    ⟨some 82, .bin .add (.tmp 81) (.const (.int .i64 (1))), none, [81], []⟩,
    ⟨none, .mupd (.tmp 78) (.tmp 80) (.tmp 82), none, [78, 80, 82], []⟩] [1, 3, 7, 43, 44, 45, 72, 73, 74])
(.seq (.reg false [⟨some 84, .foff 0 (.tmp 1), none, [1], []⟩,
    ⟨some 85, .load false 1 (.tmp 84), none, [84], []⟩,
    ⟨some 86, .foff 1 (.tmp 7), none, [7], []⟩,
    ⟨some 87, .load false 1 (.tmp 86), none, [86], []⟩,
    ⟨some 88, .call 83 [(.tmp 85), (.tmp 87), (.func 84)], none, [85, 87], []⟩,
    ⟨some 83, .mv (.tmp 88), none, [88], []⟩,
    ⟨some 89, .ext 0 (.tmp 83), none, [83], []⟩,
    ⟨some 90, .ext 1 (.tmp 83), none, [83], []⟩,
    ⟨some 8, .mv (.tmp 89), none, [89], []⟩,
    ⟨some 9, .mv (.tmp 90), none, [90], []⟩] [1, 3, 9, 43, 44, 45, 72, 73, 74])
(.seq (.reg false [⟨some 91, .mv (.tmp 9), none, [9], []⟩,
    ⟨some 92, .un .not (.tmp 91), none, [91], []⟩] [1, 3, 43, 44, 45, 72, 73, 74, 92])
(.cond (.tmp 92)
(.seq (.reg false [⟨some 2, .mv (.const (.int .i64 (9))), none, [], []⟩] [2])
.ret)
.skip))))))
(.reg false [⟨some 93, .bin .add (.tmp 74) (.const (.int .i64 (1))), none, [74], []⟩,
    ⟨some 74, .mv (.tmp 93), none, [93], []⟩] [1, 3, 43, 44, 45, 72, 73, 74]))))))))))
(.reg false [⟨some 94, .bin .add (.tmp 45) (.const (.int .i64 (1))), none, [45], []⟩,
    ⟨some 45, .mv (.tmp 94), none, [94], []⟩] [1, 3, 43, 44, 45])))))))
(.weak ac_CK2))))
def ac_CKc : AC :=
(.seq (.reg false [⟨some 1, .box 28 (.tmp 0), none, [0], []⟩,
    ⟨some 2, .mv (.const (.int .i64 (0))), none, [], []⟩] [1])
(.weak ac_CK1))
theorem ok_CKc : FnOk Tryz.prog 32 128 ac_CKc [.tmp 2] := ⟨Tryz.f32, Tryz.func32, by kernel_rfl, by kernel_rfl, by kernel_rfl, by kernel_rfl, by kernel_rfl⟩
end Go.Proofs.YtonglhkiobibgaaGreatDoor
namespace Go.Proofs.YtonglhkiobibgaaGreatDoor
open Go.RowKit
set_option maxRecDepth 100000
set_option maxHeartbeats 1000000 in
theorem ck3_spec (fr : Bool) (s : FSt) (nb : Nat) (hl : s.nodes.length ≤ 140737488355328) (hok : okE s) (h1 : hasN s.nodes 1) :
    wpC Tryz.prog 128 0 ac_CK3 ⟨envOf [(1, pFs true fr s)], heapOf [], 1⟩ (Ends 128 [.tmp 2] nb (.v (.int .i64 (if chk3 s = true then 0 else 9))) []) := by
  have hr := fun nb id h => reached_spec true fr true s hl hok 8 1 8 [] id nb h (by decide) rfl h1
  have hd := fun nb => depth_spec true fr s hl hok 9 1 8 nb (by decide) (by decide) h1
  have e0 : encB [] = [] := rfl
  have hlen : (encB (rch s 8 1 [])).length / 2 = (rch s 8 1 []).length := by rw [len_encB]; omega
  simp only [pFs, fNds, rowsM, outW, Option.map_some, e0] at hr
  simp only [pFs, fNds] at hd
  simp only [ac_CK3, pFs, fNds, TT, ↓reduceIte, Nat.reduceEqDiff, Nat.reduceAdd, Nat.reduceMul, reduceCtorEq, Nat.reduceLeDiff]
  refine ⟨_, hr _ _ (by decide), ?_⟩
  by_cases c1 : (rch s 8 1 []).length = s.nodes.length
  · have g1 : (((rch s 8 1 []).length : Int) = (s.nodes.length : Int)) = True := eq_true (by omega)
    simp only [hlen, g1, decide_true, Bool.not_true, TT, ↓reduceIte, Nat.reduceEqDiff, Nat.reduceAdd, Nat.reduceMul, reduceCtorEq, Nat.reduceLeDiff]
    refine ⟨_, hd _, ?_⟩
    by_cases c2 : dpt s 9 1 ≤ 8
    · have g2 : (8 < dpt s 9 1) = False := eq_false (by omega)
      simp only [g2, decide_false, TT, ↓reduceIte, Nat.reduceEqDiff, Nat.reduceAdd, Nat.reduceMul, reduceCtorEq, Nat.reduceLeDiff]
      exact Ends.data (.inr rfl) (by simp [ET, chk3, c1, c2]) trivial
    · have g2 : (8 < dpt s 9 1) = True := eq_true (by omega)
      simp only [g2, decide_true, TT, ↓reduceIte, Nat.reduceEqDiff, Nat.reduceAdd, Nat.reduceMul, reduceCtorEq, Nat.reduceLeDiff]
      exact Ends.data (.inr rfl) (by simp [ET, chk3, c1, c2]) trivial
  · have g1 : (((rch s 8 1 []).length : Int) = (s.nodes.length : Int)) = False := eq_false (by omega)
    simp only [hlen, g1, decide_false, Bool.not_false, TT, ↓reduceIte, Nat.reduceEqDiff, Nat.reduceAdd, Nat.reduceMul, reduceCtorEq, Nat.reduceLeDiff]
    exact Ends.data (.inr rfl) (by simp [ET, chk3, c1]) trivial
theorem chk2_drop {s : FSt} {ks : List (Int × Int)} {l : List Nd} {i : Nat} {n : Nd} (h : l[i]? = some n) : chk2 s ks (l.drop i) = (mayN n (getM n.ino ks) && chk2 s ks (l.drop (i + 1))) := by
  have hi := (List.getElem?_eq_some_iff.1 h)
  rw [List.drop_eq_getElem_cons hi.1, hi.2]
  simp [chk2]
abbrev L_c2 (fr : Bool) (s : FSt) (ks : List (Int × Int)) (i : Nat) : ASt := ⟨envOf [(1, pFs true fr s), (3, .mp 0), (97, .v (.int .i64 s.nodes.length)), (98, .v (.int .i64 i))], heapOf [(0, .row true MAPE (encM ks))], 1⟩
set_option maxHeartbeats 1000000 in
theorem ck2_spec (fr : Bool) (s : FSt) (ks : List (Int × Int)) (nb : Nat) (hl : s.nodes.length ≤ 140737488355328) (hb : ∀ n ∈ s.nodes, n.file.blocks.length ≤ 140737488355328) (hok : okE s) (h1 : hasN s.nodes 1) :
    wpC Tryz.prog 128 0 ac_CK2 ⟨envOf [(1, pFs true fr s), (3, .mp 0)], heapOf [(0, .row true MAPE (encM ks))], 1⟩ (Ends 128 [.tmp 2] nb (.v (.int .i64 (if chk2 s ks s.nodes = true ∧ chk3 s = true then 0 else 9))) []) := by
  simp only [ac_CK2, pFs, fNds, TT, ↓reduceIte, Nat.reduceEqDiff, Nat.reduceAdd, Nat.reduceMul, reduceCtorEq, Nat.reduceLeDiff]
  refine AWc.family (L_c2 fr s ks) (fun i => i ≤ s.nodes.length ∧ chk2 s ks (s.nodes.drop i) = chk2 s ks s.nodes) (fun i => s.nodes.length - i) 0 ⟨Nat.zero_le _, rfl⟩ ?_ ?_
  · refine Weak.calc [(0, 0)] (by decide) ?_ ?_ <;> simp [WT, al_encM, ren_encM, pFs, fNds, al_Nds, ren_Nds]
  · rintro i ⟨hi, he⟩
    by_cases hlt : i < s.nodes.length
    · obtain ⟨n, hx, e1, e0⟩ := lt_at hlt
      obtain ⟨a0, a1, a2, a3, a4, a5⟩ := get_Nds (fr := fr) hx
      have hm := fun nb => may_spec fr s.nodes i n (getM n.ino ks) nb hx (hb n (List.mem_of_getElem? hx))
      rw [chk2_drop hx] at he
      rcases mfind_encM n.ino ks with ⟨hM, hg⟩ | hM
      · rw [hg] at hm
        simp only [L_c2, pFs, fNds, e1, e0, a0, hM, Int.toNat_natCast, TT, ↓reduceIte, Nat.reduceEqDiff, Nat.reduceAdd, Nat.reduceMul, reduceCtorEq, Nat.reduceLeDiff]
        refine ⟨_, hm _, ?_⟩
        cases hmy : mayN n 0
        · rw [hg, hmy, Bool.false_and] at he
          simp only [Bool.not_false, TT, ↓reduceIte, Nat.reduceEqDiff, Nat.reduceAdd, Nat.reduceMul, reduceCtorEq, Nat.reduceLeDiff]
          exact Ends.data (.inr rfl) (by simp [ET, ← he]) trivial
        · simp only [Bool.not_true, TT, ↓reduceIte, Nat.reduceEqDiff, Nat.reduceAdd, Nat.reduceMul, reduceCtorEq, Nat.reduceLeDiff]
          refine famC_next (i + 1) (by omega) ⟨by omega, by rw [← he, hg, hmy, Bool.true_and]⟩ ?_
          refine Weak.calc [(0, 0)] (by decide) ?_ ?_ <;> simp [WT, al_encM, ren_encM, pFs, fNds, al_Nds, ren_Nds, wrap64 (x := (i : Int) + 1) (by omega)]
      · simp only [L_c2, pFs, fNds, e1, e0, a0, hM, Int.toNat_natCast, TT, ↓reduceIte, Nat.reduceEqDiff, Nat.reduceAdd, Nat.reduceMul, reduceCtorEq, Nat.reduceLeDiff]
        refine ⟨_, hm _, ?_⟩
        cases hmy : mayN n (getM n.ino ks)
        · rw [hmy, Bool.false_and] at he
          simp only [Bool.not_false, TT, ↓reduceIte, Nat.reduceEqDiff, Nat.reduceAdd, Nat.reduceMul, reduceCtorEq, Nat.reduceLeDiff]
          exact Ends.data (.inr rfl) (by simp [ET, ← he]) trivial
        · simp only [Bool.not_true, TT, ↓reduceIte, Nat.reduceEqDiff, Nat.reduceAdd, Nat.reduceMul, reduceCtorEq, Nat.reduceLeDiff]
          refine famC_next (i + 1) (by omega) ⟨by omega, by rw [← he, hmy, Bool.true_and]⟩ ?_
          refine Weak.calc [(0, 0)] (by decide) ?_ ?_ <;> simp [WT, al_encM, ren_encM, pFs, fNds, al_Nds, ren_Nds, wrap64 (x := (i : Int) + 1) (by omega)]
    · obtain rfl : i = s.nodes.length := by omega
      have e1 : ¬ ((s.nodes.length : Int) < (s.nodes.length : Int)) := by omega
      have h9 : chk2 s ks s.nodes = true := by rw [← he, List.drop_length]; simp [chk2]
      simp only [L_c2, pFs, fNds, e1, TT, ↓reduceIte, Nat.reduceEqDiff, Nat.reduceAdd, Nat.reduceMul, reduceCtorEq, Nat.reduceLeDiff]
      refine ⟨⟨envOf [(1, pFs true fr s)], heapOf [], 1⟩, ?_, ?_⟩
      · refine Weak.calc [] (by decide) ?_ ?_ <;> simp [WT, pFs, fNds, al_Nds, ren_Nds]
      · have h := ck3_spec fr s nb hl hok h1
        have e : (if chk2 s ks s.nodes = true ∧ chk3 s = true then (0 : Int) else 9) = if chk3 s = true then 0 else 9 := by simp [h9]
        rw [e]
        exact h
end Go.Proofs.YtonglhkiobibgaaGreatDoor
namespace Go.Proofs.YtonglhkiobibgaaGreatDoor
open Go.RowKit
set_option maxRecDepth 100000
theorem inosN_len : ∀ {l : List Nd}, (∀ n ∈ l, n.entries.length ≤ 140737488355328) → (inosN l).length ≤ l.length * 140737488355328
  | [], _ => by simp [inosN]
  | n :: l, h => by
    have h1 := h n (by simp)
    have h2 := inosN_len (l := l) (fun m hm => h m (by simp [hm]))
    simp only [inosN, List.flatMap_cons, List.length_append, List.length_map, List.length_cons] at h2 ⊢
    omega
theorem inosN_s {l : List Nd} {i : Nat} {n : Nd} (h : l[i]? = some n) : inosN (l.take (i + 1)) = inosN (l.take i) ++ n.entries.map Ent.ino := by
  rw [take_snoc h, inosN, List.flatMap_append]; simp [inosN]
abbrev ksJ (s : FSt) (i : Nat) (n : Nd) (j : Nat) : List Int := inosN (s.nodes.take i) ++ (n.entries.take j).map Ent.ino
theorem ksJ_s {s : FSt} {i j : Nat} {n : Nd} {e : Ent} (h : n.entries[j]? = some e) : ksJ s i n (j + 1) = ksJ s i n j ++ [e.ino] := by
  unfold ksJ
  rw [take_snoc h]; simp
theorem ksJ_len {s : FSt} {i j : Nat} {n : Nd} (hi : i ≤ 128) (hb : ∀ n ∈ s.nodes, n.entries.length ≤ 140737488355328) (hj : j ≤ 140737488355328) : (ksJ s i n j).length ≤ 1000000000000000000 := by
  have h := inosN_len (l := s.nodes.take i) (fun n hn => hb n (List.mem_of_mem_take hn))
  have h2 : (s.nodes.take i).length ≤ i := by rw [List.length_take]; omega
  have h3 : (s.nodes.take i).length * 140737488355328 ≤ 128 * 140737488355328 := Nat.mul_le_mul_right _ (by omega)
  simp only [ksJ, List.length_append, List.length_map, List.length_take]
  omega
abbrev L_c1 (fr : Bool) (s : FSt) (i : Nat) : ASt := ⟨envOf [(1, pFs true fr s), (3, .mp 0), (43, fNds fr s.nodes), (44, .v (.int .i64 s.nodes.length)), (45, .v (.int .i64 i))], heapOf [(0, .row true MAPE (encM (lkM (inosN (s.nodes.take i)))))], 1⟩
abbrev L_c1j (fr : Bool) (s : FSt) (i : Nat) (n : Nd) (j : Nat) : ASt := ⟨envOf [(1, pFs true fr s), (3, .mp 0), (43, fNds fr s.nodes), (44, .v (.int .i64 s.nodes.length)), (45, .v (.int .i64 i)), (72, fEnts fr n.entries), (73, .v (.int .i64 n.entries.length)), (74, .v (.int .i64 j))], heapOf [(0, .row true MAPE (encM (lkM (ksJ s i n j))))], 1⟩
set_option maxHeartbeats 4000000 in
theorem fsCheck_spec (fr : Bool) (s : FSt) (nb : Nat) (hl : s.nodes.length ≤ 140737488355328) (hb : ∀ n ∈ s.nodes, n.entries.length ≤ 140737488355328 ∧ n.file.blocks.length ≤ 140737488355328) :
    ASound Tryz.prog 32 [aFs fr s] nb (.ret (.v (.int .i64 (chkFs s))) []) := by
  refine ok_CKc.sound (by simp) ⟨al_aFs s, trivial⟩ ?_
  simp only [ac_CKc, aFs, fNds, TT, ↓reduceIte, Nat.reduceEqDiff, Nat.reduceAdd, Nat.reduceMul, reduceCtorEq, Nat.reduceLeDiff]
  refine ⟨⟨envOf [(1, pFs true fr s)], heapOf [], 200000⟩, Weak.freezeC 0 rfl (l := [(1, pFs true fr s)]) (h := []) ?_ ?_, ?_⟩
  · simp [WT, pFs, fNds, okF, fzV, fzOne]
  · trivial
  by_cases c1 : s.next ≤ 1
  · have e : chkFs s = 9 := if_pos (.inl c1)
    simp only [ac_CK1, pFs, fNds, e, c1, decide_true, TT, ↓reduceIte, Nat.reduceEqDiff, Nat.reduceAdd, Nat.reduceMul, reduceCtorEq, Nat.reduceLeDiff]
    exact Ends.data (.inr rfl) (by simp [ET]) trivial
  by_cases c2 : 2147483647 < s.next
  · have e : chkFs s = 9 := if_pos (.inr (.inl c2))
    simp only [ac_CK1, pFs, fNds, e, c1, c2, decide_true, decide_false, TT, ↓reduceIte, Nat.reduceEqDiff, Nat.reduceAdd, Nat.reduceMul, reduceCtorEq, Nat.reduceLeDiff]
    exact Ends.data (.inr rfl) (by simp [ET]) trivial
  by_cases c3 : s.nodes.length = 0
  · have e : chkFs s = 9 := if_pos (.inr (.inr (.inl c3)))
    have g : ((s.nodes.length : Int) = 0) = True := eq_true (by omega)
    simp only [ac_CK1, pFs, fNds, e, c1, c2, g, decide_true, decide_false, TT, ↓reduceIte, Nat.reduceEqDiff, Nat.reduceAdd, Nat.reduceMul, reduceCtorEq, Nat.reduceLeDiff]
    exact Ends.data (.inr rfl) (by simp [ET]) trivial
  have g3 : ((s.nodes.length : Int) = 0) = False := eq_false (by omega)
  by_cases c4 : 128 < s.nodes.length
  · have e : chkFs s = 9 := if_pos (.inr (.inr (.inr (.inl c4))))
    have g : (128 < (s.nodes.length : Int)) = True := eq_true (by omega)
    simp only [ac_CK1, pFs, fNds, e, c1, c2, g3, g, decide_true, decide_false, TT, ↓reduceIte, Nat.reduceEqDiff, Nat.reduceAdd, Nat.reduceMul, reduceCtorEq, Nat.reduceLeDiff]
    exact Ends.data (.inr rfl) (by simp [ET]) trivial
  have g4 : (128 < (s.nodes.length : Int)) = False := eq_false (by omega)
  obtain ⟨n0, hx0, q1, q0⟩ := lt_at (show 0 < s.nodes.length by omega)
  obtain ⟨z0, _⟩ := get_Nds (fr := fr) hx0
  have q1' : ((0 : Int) < (s.nodes.length : Int)) = True := eq_true (by omega)
  have q0' : ((0 : Int) ≤ 0) = True := eq_true (by omega)
  have z0' : (eNds fr s.nodes)[0]? = some (.v (.int .i64 n0.ino)) := by simpa using z0
  by_cases c5 : ¬ n0.ino = 1
  · have e : chkFs s = 9 := if_pos (.inr (.inr (.inr (.inr (by rw [inoA_at hx0]; exact c5)))))
    simp only [ac_CK1, pFs, fNds, e, c1, c2, g3, g4, q1', q0', z0', z0, c5, Int.toNat_zero, Nat.zero_mul, decide_true, decide_false, Bool.not_false, TT, ↓reduceIte, Nat.reduceEqDiff, Nat.reduceAdd, Nat.reduceMul, reduceCtorEq, Nat.reduceLeDiff]
    exact Ends.data (.inr rfl) (by simp [ET]) trivial
  replace c5 : n0.ino = 1 := Decidable.not_not.1 c5
  have e : chkFs s = if chk1 s none s.nodes = true ∧ chk2 s (lkM (inosN s.nodes)) s.nodes = true ∧ chk3 s = true then 0 else 9 := by
    rw [chkFs, if_neg]
    rintro (h | h | h | h | h)
    · exact c1 h
    · exact c2 h
    · exact c3 h
    · exact c4 h
    · exact h (by rw [inoA_at hx0]; exact c5)
  rw [e]
  simp only [ac_CK1, pFs, fNds, c1, c2, g3, g4, q1', q0', z0', z0, c5, Int.toNat_zero, Nat.zero_mul, decide_true, decide_false, Bool.not_true, TT, ↓reduceIte, Nat.reduceEqDiff, Nat.reduceAdd, Nat.reduceMul, reduceCtorEq, Nat.reduceLeDiff]
  refine AWc.family (L_c1 fr s) (fun i => i ≤ s.nodes.length ∧ chk1 s (prevN s.nodes i) (s.nodes.drop i) = chk1 s none s.nodes) (fun i => s.nodes.length - i) 0 ⟨Nat.zero_le _, rfl⟩ ?_ ?_
  · refine Weak.calc [(3000000, 0)] (by decide) ?_ ?_ <;> simp [WT, inosN, lkM, encM, pFs, fNds, al_Nds, ren_Nds]
  · rintro i ⟨hi, he⟩
    by_cases hlt : i < s.nodes.length
    · obtain ⟨n, hx, e1, e0⟩ := lt_at hlt
      obtain ⟨a0, a1, a2, a3, a4, a5⟩ := get_Nds (fr := fr) hx
      have hmem := List.mem_of_getElem? hx
      rw [chk1_drop hx] at he
      have w1 : ¬ i = 0 → IntKind.i64.wrap ((i : Int) - 1) = ((i - 1 : Nat) : Int) := fun h => by rw [wrap64 (by omega)]; omega
      by_cases d1 : s.next ≤ n.ino
      · have hf : chk1 s none s.nodes = false := by rw [← he, decide_eq_false (show ¬ n.ino < s.next by omega), Bool.false_and]
        simp only [L_c1, pFs, fNds, e1, e0, a0, a1, a2, a3, a4, a5, d1, decide_true, Int.toNat_natCast, TT, ↓reduceIte, Nat.reduceEqDiff, Nat.reduceAdd, Nat.reduceMul, reduceCtorEq, Nat.reduceLeDiff]
        exact ⟨by rfl, Ends.data (.inr rfl) (by simp [ET, hf]) trivial⟩
      rw [decide_eq_true (show n.ino < s.next by omega), Bool.true_and] at he
      rcases Nat.eq_zero_or_pos i with h0 | h0
      · have g : ((0 : Int) < (i : Int)) = False := eq_false (by omega)
        have hpr : ltO (prevN s.nodes i) n.ino = true := by subst h0; rfl
        rw [hpr, Bool.true_and] at he
        simp only [L_c1, pFs, fNds, e1, e0, a0, a1, a2, a3, a4, a5, d1, g, decide_false, Int.toNat_natCast, TT, ↓reduceIte, Nat.reduceEqDiff, Nat.reduceAdd, Nat.reduceMul, reduceCtorEq, Nat.reduceLeDiff]
        refine ⟨by rfl, ?_⟩
        refine AWc.family (L_c1j fr s i n) (fun j => j ≤ n.entries.length ∧ ∀ e ∈ n.entries.take j, hasN s.nodes e.ino) (fun j => n.entries.length - j) 0 ⟨Nat.zero_le _, by simp⟩ ?_ ?_
        · refine Weak.calc [(0, 0)] (by decide) ?_ ?_ <;> simp [WT, ksJ, pFs, fNds, al_Nds, ren_Nds, fEnts, al_Ents, ren_Ents, al_encM, ren_encM]
        · rintro j ⟨hj, hall⟩
          by_cases hjl : j < n.entries.length
          · obtain ⟨x, hy, f1, f0⟩ := lt_at hjl
            obtain ⟨b0, b1⟩ := get_Ents hy
            have hbs := fun nb => bsearch_spec 84 fr s.nodes x.ino nb hl (fun n nb => cmpN1_spec fr n x.ino nb)
            simp only [fNds] at hbs
            have hbd := getM_bd x.ino (ksJ s i n j)
            have hkl := ksJ_len (s := s) (n := n) (i := i) (j := j) (by omega) (fun n hn => (hb n hn).1) (by have := (hb n hmem).1; omega)
            have hput := mput_encM x.ino (lkM (ksJ s i n j))
            rw [← lkM_s, ← ksJ_s hy] at hput
            have hjn := (hb n hmem).1
            rcases mfind_encM x.ino (lkM (ksJ s i n j)) with ⟨hM, hg⟩ | hM
            · have w2 : IntKind.i64.wrap (0 + 1) = getM x.ino (lkM (ksJ s i n j)) + 1 := by rw [hg]; rfl
              simp only [L_c1j, pFs, fNds, fEnts, f1, f0, b0, b1, hM, w2, hput, Int.toNat_natCast, TT, ↓reduceIte, Nat.reduceEqDiff, Nat.reduceAdd, Nat.reduceMul, reduceCtorEq, Nat.reduceLeDiff]
              refine ⟨_, hbs _, ?_⟩
              by_cases hh : hasN s.nodes x.ino
              · simp only [decide_eq_true hh, Bool.not_true, TT, ↓reduceIte, Nat.reduceEqDiff, Nat.reduceAdd, Nat.reduceMul, reduceCtorEq, Nat.reduceLeDiff]
                refine famC_next (j + 1) (by omega) ⟨by omega, fun e he2 => ?_⟩ ?_
                · rw [take_snoc hy] at he2
                  rcases List.mem_append.1 he2 with h3 | h3
                  · exact hall e h3
                  · have : e = x := by simpa using h3
                    rw [this]; exact hh
                · refine Weak.calc [(0, 0)] (by decide) ?_ ?_ <;> simp [WT, pFs, fNds, al_Nds, ren_Nds, fEnts, al_Ents, ren_Ents, al_encM, ren_encM, wrap64 (x := (j : Int) + 1) (by omega)]
              · have hf : chk1 s none s.nodes = false := by
                  rw [← he, decide_eq_false (fun h9 => hh (h9 x (List.mem_of_getElem? hy)))]; simp
                simp only [decide_eq_false hh, Bool.not_false, TT, ↓reduceIte, Nat.reduceEqDiff, Nat.reduceAdd, Nat.reduceMul, reduceCtorEq, Nat.reduceLeDiff]
                exact Ends.data (.inr rfl) (by simp [ET, hf]) trivial
            · have w2 : IntKind.i64.wrap (getM x.ino (lkM (ksJ s i n j)) + 1) = getM x.ino (lkM (ksJ s i n j)) + 1 := wrap64 (by omega)
              simp only [L_c1j, pFs, fNds, fEnts, f1, f0, b0, b1, hM, w2, hput, Int.toNat_natCast, TT, ↓reduceIte, Nat.reduceEqDiff, Nat.reduceAdd, Nat.reduceMul, reduceCtorEq, Nat.reduceLeDiff]
              refine ⟨_, hbs _, ?_⟩
              by_cases hh : hasN s.nodes x.ino
              · simp only [decide_eq_true hh, Bool.not_true, TT, ↓reduceIte, Nat.reduceEqDiff, Nat.reduceAdd, Nat.reduceMul, reduceCtorEq, Nat.reduceLeDiff]
                refine famC_next (j + 1) (by omega) ⟨by omega, fun e he2 => ?_⟩ ?_
                · rw [take_snoc hy] at he2
                  rcases List.mem_append.1 he2 with h3 | h3
                  · exact hall e h3
                  · have : e = x := by simpa using h3
                    rw [this]; exact hh
                · refine Weak.calc [(0, 0)] (by decide) ?_ ?_ <;> simp [WT, pFs, fNds, al_Nds, ren_Nds, fEnts, al_Ents, ren_Ents, al_encM, ren_encM, wrap64 (x := (j : Int) + 1) (by omega)]
              · have hf : chk1 s none s.nodes = false := by
                  rw [← he, decide_eq_false (fun h9 => hh (h9 x (List.mem_of_getElem? hy)))]; simp
                simp only [decide_eq_false hh, Bool.not_false, TT, ↓reduceIte, Nat.reduceEqDiff, Nat.reduceAdd, Nat.reduceMul, reduceCtorEq, Nat.reduceLeDiff]
                exact Ends.data (.inr rfl) (by simp [ET, hf]) trivial
          · obtain rfl : j = n.entries.length := by omega
            have f1 : ¬ ((n.entries.length : Int) < (n.entries.length : Int)) := by omega
            rw [List.take_length] at hall
            rw [decide_eq_true hall, Bool.true_and] at he
            simp only [L_c1j, pFs, fNds, fEnts, f1, TT, ↓reduceIte, Nat.reduceEqDiff, Nat.reduceAdd, Nat.reduceMul, reduceCtorEq, Nat.reduceLeDiff]
            refine famC_next (i + 1) (by omega) ⟨by omega, he⟩ ?_
            refine Weak.calc [(0, 0)] (by decide) ?_ ?_ <;> simp [WT, inosN_s hx, ksJ, pFs, fNds, al_Nds, ren_Nds, al_encM, ren_encM, wrap64 (x := (i : Int) + 1) (by omega)]
      · have g : ((0 : Int) < (i : Int)) = True := eq_true (by omega)
        obtain ⟨p, hp, p1, p0⟩ := lt_at (show i - 1 < s.nodes.length by omega)
        obtain ⟨y0, _⟩ := get_Nds (fr := fr) hp
        have hpr : prevN s.nodes i = some p.ino := by rw [prevN, if_neg (by omega), hp]; rfl
        rw [hpr, ltO] at he
        have w1' := w1 (by omega)
        by_cases d2 : n.ino ≤ p.ino
        · have hf : chk1 s none s.nodes = false := by rw [← he, decide_eq_false (show ¬ p.ino < n.ino by omega), Bool.false_and]
          simp only [L_c1, pFs, fNds, e1, e0, a0, a1, a2, a3, a4, a5, d1, d2, g, w1', p1, p0, y0, decide_true, decide_false, Int.toNat_natCast, TT, ↓reduceIte, Nat.reduceEqDiff, Nat.reduceAdd, Nat.reduceMul, reduceCtorEq, Nat.reduceLeDiff]
          exact ⟨by rfl, Ends.data (.inr rfl) (by simp [ET, hf]) trivial⟩
        rw [decide_eq_true (show p.ino < n.ino by omega), Bool.true_and] at he
        simp only [L_c1, pFs, fNds, e1, e0, a0, a1, a2, a3, a4, a5, d1, d2, g, w1', p1, p0, y0, decide_true, decide_false, Int.toNat_natCast, TT, ↓reduceIte, Nat.reduceEqDiff, Nat.reduceAdd, Nat.reduceMul, reduceCtorEq, Nat.reduceLeDiff]
        refine ⟨by rfl, ?_⟩
        refine AWc.family (L_c1j fr s i n) (fun j => j ≤ n.entries.length ∧ ∀ e ∈ n.entries.take j, hasN s.nodes e.ino) (fun j => n.entries.length - j) 0 ⟨Nat.zero_le _, by simp⟩ ?_ ?_
        · refine Weak.calc [(0, 0)] (by decide) ?_ ?_ <;> simp [WT, ksJ, pFs, fNds, al_Nds, ren_Nds, fEnts, al_Ents, ren_Ents, al_encM, ren_encM]
        · rintro j ⟨hj, hall⟩
          by_cases hjl : j < n.entries.length
          · obtain ⟨x, hy, f1, f0⟩ := lt_at hjl
            obtain ⟨b0, b1⟩ := get_Ents hy
            have hbs := fun nb => bsearch_spec 84 fr s.nodes x.ino nb hl (fun n nb => cmpN1_spec fr n x.ino nb)
            simp only [fNds] at hbs
            have hbd := getM_bd x.ino (ksJ s i n j)
            have hkl := ksJ_len (s := s) (n := n) (i := i) (j := j) (by omega) (fun n hn => (hb n hn).1) (by have := (hb n hmem).1; omega)
            have hput := mput_encM x.ino (lkM (ksJ s i n j))
            rw [← lkM_s, ← ksJ_s hy] at hput
            have hjn := (hb n hmem).1
            rcases mfind_encM x.ino (lkM (ksJ s i n j)) with ⟨hM, hg⟩ | hM
            · have w2 : IntKind.i64.wrap (0 + 1) = getM x.ino (lkM (ksJ s i n j)) + 1 := by rw [hg]; rfl
              simp only [L_c1j, pFs, fNds, fEnts, f1, f0, b0, b1, hM, w2, hput, Int.toNat_natCast, TT, ↓reduceIte, Nat.reduceEqDiff, Nat.reduceAdd, Nat.reduceMul, reduceCtorEq, Nat.reduceLeDiff]
              refine ⟨_, hbs _, ?_⟩
              by_cases hh : hasN s.nodes x.ino
              · simp only [decide_eq_true hh, Bool.not_true, TT, ↓reduceIte, Nat.reduceEqDiff, Nat.reduceAdd, Nat.reduceMul, reduceCtorEq, Nat.reduceLeDiff]
                refine famC_next (j + 1) (by omega) ⟨by omega, fun e he2 => ?_⟩ ?_
                · rw [take_snoc hy] at he2
                  rcases List.mem_append.1 he2 with h3 | h3
                  · exact hall e h3
                  · have : e = x := by simpa using h3
                    rw [this]; exact hh
                · refine Weak.calc [(0, 0)] (by decide) ?_ ?_ <;> simp [WT, pFs, fNds, al_Nds, ren_Nds, fEnts, al_Ents, ren_Ents, al_encM, ren_encM, wrap64 (x := (j : Int) + 1) (by omega)]
              · have hf : chk1 s none s.nodes = false := by
                  rw [← he, decide_eq_false (fun h9 => hh (h9 x (List.mem_of_getElem? hy)))]; simp
                simp only [decide_eq_false hh, Bool.not_false, TT, ↓reduceIte, Nat.reduceEqDiff, Nat.reduceAdd, Nat.reduceMul, reduceCtorEq, Nat.reduceLeDiff]
                exact Ends.data (.inr rfl) (by simp [ET, hf]) trivial
            · have w2 : IntKind.i64.wrap (getM x.ino (lkM (ksJ s i n j)) + 1) = getM x.ino (lkM (ksJ s i n j)) + 1 := wrap64 (by omega)
              simp only [L_c1j, pFs, fNds, fEnts, f1, f0, b0, b1, hM, w2, hput, Int.toNat_natCast, TT, ↓reduceIte, Nat.reduceEqDiff, Nat.reduceAdd, Nat.reduceMul, reduceCtorEq, Nat.reduceLeDiff]
              refine ⟨_, hbs _, ?_⟩
              by_cases hh : hasN s.nodes x.ino
              · simp only [decide_eq_true hh, Bool.not_true, TT, ↓reduceIte, Nat.reduceEqDiff, Nat.reduceAdd, Nat.reduceMul, reduceCtorEq, Nat.reduceLeDiff]
                refine famC_next (j + 1) (by omega) ⟨by omega, fun e he2 => ?_⟩ ?_
                · rw [take_snoc hy] at he2
                  rcases List.mem_append.1 he2 with h3 | h3
                  · exact hall e h3
                  · have : e = x := by simpa using h3
                    rw [this]; exact hh
                · refine Weak.calc [(0, 0)] (by decide) ?_ ?_ <;> simp [WT, pFs, fNds, al_Nds, ren_Nds, fEnts, al_Ents, ren_Ents, al_encM, ren_encM, wrap64 (x := (j : Int) + 1) (by omega)]
              · have hf : chk1 s none s.nodes = false := by
                  rw [← he, decide_eq_false (fun h9 => hh (h9 x (List.mem_of_getElem? hy)))]; simp
                simp only [decide_eq_false hh, Bool.not_false, TT, ↓reduceIte, Nat.reduceEqDiff, Nat.reduceAdd, Nat.reduceMul, reduceCtorEq, Nat.reduceLeDiff]
                exact Ends.data (.inr rfl) (by simp [ET, hf]) trivial
          · obtain rfl : j = n.entries.length := by omega
            have f1 : ¬ ((n.entries.length : Int) < (n.entries.length : Int)) := by omega
            rw [List.take_length] at hall
            rw [decide_eq_true hall, Bool.true_and] at he
            simp only [L_c1j, pFs, fNds, fEnts, f1, TT, ↓reduceIte, Nat.reduceEqDiff, Nat.reduceAdd, Nat.reduceMul, reduceCtorEq, Nat.reduceLeDiff]
            refine famC_next (i + 1) (by omega) ⟨by omega, he⟩ ?_
            refine Weak.calc [(0, 0)] (by decide) ?_ ?_ <;> simp [WT, inosN_s hx, ksJ, pFs, fNds, al_Nds, ren_Nds, al_encM, ren_encM, wrap64 (x := (i : Int) + 1) (by omega)]
    · obtain rfl : i = s.nodes.length := by omega
      have e1 : ¬ ((s.nodes.length : Int) < (s.nodes.length : Int)) := by omega
      have h9 : chk1 s none s.nodes = true := by rw [← he, List.drop_length]; rfl
      obtain ⟨hall, _, hinc⟩ := chk1_all h9
      have hok : okE s := fun n hn => ⟨(hb n hn).1, (hall n hn).2⟩
      have h1 : hasN s.nodes 1 := by have := hasN_of hinc hx0; rwa [c5] at this
      simp only [L_c1, pFs, fNds, e1, List.take_length, TT, ↓reduceIte, Nat.reduceEqDiff, Nat.reduceAdd, Nat.reduceMul, reduceCtorEq, Nat.reduceLeDiff]
      refine ⟨⟨envOf [(1, pFs true fr s), (3, .mp 0)], heapOf [(0, .row true MAPE (encM (lkM (inosN s.nodes))))], 1⟩, ?_, ?_⟩
      · refine Weak.calc [(0, 0)] (by decide) ?_ ?_ <;> simp [WT, pFs, fNds, al_Nds, ren_Nds, al_encM, ren_encM]
      · have h := ck2_spec fr s (lkM (inosN s.nodes)) nb hl (fun n hn => (hb n hn).2) hok h1
        have e : (if chk1 s none s.nodes = true ∧ chk2 s (lkM (inosN s.nodes)) s.nodes = true ∧ chk3 s = true then (0 : Int) else 9) = if chk2 s (lkM (inosN s.nodes)) s.nodes = true ∧ chk3 s = true then 0 else 9 := by simp [h9]
        rw [e]
        exact h
end Go.Proofs.YtonglhkiobibgaaGreatDoor
namespace Go.Proofs.YtonglhkiobibgaaGreatDoor
open Go.RowKit
set_option maxRecDepth 100000
theorem bless_irr : ∀ l : List UInt8, Op.bytesLess l l = false
  | [] => rfl
  | a :: l => by
    rw [Op.bytesLess, bless_irr l]
    simp
def cmpS (a b : ByteArray) : Int := if lessS a b = true then -1 else if a = b then 0 else 1
theorem cmpS_neg {a b : ByteArray} : cmpS a b < 0 ↔ lessS a b = true := by unfold cmpS; split <;> (try split) <;> simp_all
theorem cmpS_zero {a b : ByteArray} : cmpS a b = 0 ↔ a = b := by
  unfold cmpS
  by_cases h : a = b
  · subst h
    have : lessS a a = false := bless_irr _
    simp [this]
  · split <;> simp_all
theorem nanS_spec (a : ByteArray) (nb : Nat) : ASound Tryz.prog 282 [.v (.string a)] nb (.ret (.v (.bool false)) []) := by
  refine ok_282.sound (by simp) ⟨trivial, trivial⟩ ?_
  simp only [ac_282, strOp, decide_true, Bool.not_true, TT, ↓reduceIte, Nat.reduceEqDiff, Nat.reduceAdd, Nat.reduceMul, reduceCtorEq, Nat.reduceLeDiff]
  exact Ends.data (.inr rfl) (by simp [ET]) trivial
theorem cmpS_spec (a b : ByteArray) (nb : Nat) : ASound Tryz.prog 255 [.v (.string a), .v (.string b)] nb (.ret (.v (.int .i64 (cmpS a b))) []) := by
  refine ok_255.sound (by simp) ⟨trivial, trivial, trivial⟩ ?_
  simp only [ac_255, TT, ↓reduceIte, Nat.reduceEqDiff, Nat.reduceAdd, Nat.reduceMul, reduceCtorEq, Nat.reduceLeDiff]
  refine ⟨_, nanS_spec a _, ?_⟩
  simp only [TT, ↓reduceIte, Nat.reduceEqDiff, Nat.reduceAdd, Nat.reduceMul, reduceCtorEq, Nat.reduceLeDiff]
  refine ⟨_, nanS_spec b _, ?_⟩
  cases h1 : Op.bytesLess a.toList b.toList
  · by_cases h2 : a = b
    · simp only [strOp, h1, h2, decide_true, Bool.or_true, Bool.not_true, TT, ↓reduceIte, Nat.reduceEqDiff, Nat.reduceAdd, Nat.reduceMul, reduceCtorEq, Nat.reduceLeDiff]
      subst h2
      simp only [h1, TT, ↓reduceIte, Nat.reduceEqDiff, Nat.reduceAdd, Nat.reduceMul, reduceCtorEq, Nat.reduceLeDiff]
      exact Ends.data (.inr rfl) (by simp [ET, cmpS, lessS, h1]) trivial
    · simp only [strOp, h1, h2, decide_false, Bool.or_false, Bool.not_false, TT, ↓reduceIte, Nat.reduceEqDiff, Nat.reduceAdd, Nat.reduceMul, reduceCtorEq, Nat.reduceLeDiff]
      exact Ends.data (.inr rfl) (by simp [ET, cmpS, lessS, h1, h2]) trivial
  · simp only [strOp, h1, TT, ↓reduceIte, Nat.reduceEqDiff, Nat.reduceAdd, Nat.reduceMul, reduceCtorEq, Nat.reduceLeDiff]
    exact Ends.data (.inr rfl) (by simp [ET, cmpS, lessS, h1]) trivial
theorem cmpE_spec (e : Ent) (t : ByteArray) (nb : Nat) : ASound Tryz.prog 254 [aEnt e, .v (.string t)] nb (.ret (.v (.int .i64 (cmpS e.name t))) []) := by
  refine ok_254.sound (by simp) ⟨⟨trivial, trivial, trivial⟩, trivial, trivial⟩ ?_
  simp only [ac_254, aEnt, TT, ↓reduceIte, Nat.reduceEqDiff, Nat.reduceAdd, Nat.reduceMul, reduceCtorEq, Nat.reduceLeDiff]
  refine ⟨_, cmpS_spec _ _ _, ?_⟩
  simp only [TT, ↓reduceIte, Nat.reduceEqDiff, Nat.reduceAdd, Nat.reduceMul, reduceCtorEq, Nat.reduceLeDiff]
  exact Ends.data (.inr rfl) (by simp [ET]) trivial
/-- a search by halves -/
def bsP (p : Nat → Bool) : Nat → Nat → Nat → Nat
  | 0, i, _ => i
  | k + 1, i, j => if i < j then (if p ((i + j) / 2) = true then bsP p k ((i + j) / 2 + 1) j else bsP p k i ((i + j) / 2)) else i
theorem bsP_stop {p : Nat → Bool} {k i j : Nat} (h : ¬ i < j) : bsP p k i j = i := by
  cases k with
  | zero => rfl
  | succ k => rw [bsP, if_neg h]
def namA (l : List Ent) (h : Nat) : ByteArray := match l[h]? with | some e => e.name | none => ByteArray.mk #[]
theorem namA_at {l : List Ent} {h : Nat} {e : Ent} (x : l[h]? = some e) : namA l h = e.name := by rw [namA, x]
def plcE (l : List Ent) (t : ByteArray) : Nat := bsP (fun h => lessS (namA l h) t) l.length 0 l.length
abbrev hasE (l : List Ent) (t : ByteArray) : Prop := plcE l t < l.length ∧ namA l (plcE l t) = t
abbrev L_be (f : Nat) (fr : Bool) (l : List Ent) (t : ByteArray) (q : Bs) : ASt := ⟨envOf [(0, fEnts fr l), (1, .v (.string t)), (2, .fn f []), (8, .v (.int .i64 l.length)), (9, .v (.int .i64 q.i)), (10, .v (.int .i64 q.j))], heapOf [], 1⟩
set_option maxHeartbeats 1000000 in
theorem bsearchE_spec (fr : Bool) (l : List Ent) (t : ByteArray) (nb : Nat) (hl : l.length ≤ 140737488355328) :
    ASound Tryz.prog 253 [fEnts fr l, .v (.string t), .fn 254 []] nb (.ret (.tup [.v (.int .i64 (plcE l t)), .v (.bool (decide (hasE l t)))]) []) := by
  refine ok_253.sound (by simp) ⟨al_fEnts l, trivial, trivial, trivial⟩ ?_
  simp only [ac_253, fEnts, TT, ↓reduceIte, Nat.reduceEqDiff, Nat.reduceAdd, Nat.reduceMul, reduceCtorEq, Nat.reduceLeDiff]
  refine AWc.family (L_be 254 fr l t) (fun q => (q.i ≤ q.j ∧ q.j ≤ l.length ∧ q.j - q.i ≤ q.k) ∧ bsP (fun h => lessS (namA l h) t) q.k q.i q.j = plcE l t) (fun q => q.j - q.i) ⟨l.length, 0, l.length⟩ ⟨⟨Nat.zero_le _, Nat.le_refl _, Nat.le_refl _⟩, rfl⟩ ?_ ?_
  · refine Weak.calc [] (by decide) ?_ ?_ <;> simp [WT, al_Ents, ren_Ents, fEnts]
  · rintro ⟨k, i, j⟩ ⟨⟨hi, hj, hk⟩, he⟩
    simp only at hi hj hk he
    by_cases hlt : i < j
    · obtain ⟨k, rfl⟩ : ∃ k', k = k' + 1 := ⟨k - 1, by omega⟩
      have g1 : ((i : Int) < (j : Int)) = True := eq_true (by omega)
      have w1 : IntKind.i64.wrap ((i : Int) + (j : Int)) = ((i + j : Nat) : Int) := by rw [wrap64 (by omega)]; omega
      have w2 := wu64 (m := i + j) (by omega)
      have w3 : IntKind.i64.wrap (((i + j) / 2 : Nat) : Int) = (((i + j) / 2 : Nat) : Int) := wrap64 (by omega)
      rw [bsP, if_pos hlt] at he
      generalize hm : (i + j) / 2 = m at he w3
      obtain ⟨n, hx, e1, e0⟩ := lt_at (show m < l.length by omega)
      obtain ⟨a0, a1⟩ := get_Ents hx
      rw [namA_at hx] at he
      have ho := cmpE_spec n t
      simp only [L_be, fEnts, g1, w1, w2, shr1, hm, w3, e1, e0, a0, a1, Int.toNat_natCast, TT, ↓reduceIte, Nat.reduceEqDiff, Nat.reduceAdd, Nat.reduceMul, reduceCtorEq, Nat.reduceLeDiff]
      refine ⟨_, _, _, rfl, ho _, ?_⟩
      cases h : lessS n.name t
      · rw [if_neg (by rw [h]; decide)] at he
        have c1 : (cmpS n.name t < 0) = False := eq_false fun h9 => by rw [cmpS_neg, h] at h9; cases h9
        simp only [c1, decide_false, TT, ↓reduceIte, Nat.reduceEqDiff, Nat.reduceAdd, Nat.reduceMul, reduceCtorEq, Nat.reduceLeDiff]
        refine famC_next ⟨k, i, m⟩ (by show m - i < j - i; omega) ⟨⟨by show i ≤ m; omega, by show m ≤ l.length; omega, by show m - i ≤ k; omega⟩, he⟩ ?_
        refine Weak.calc [] (by decide) ?_ ?_ <;> simp [WT, al_Ents, ren_Ents, fEnts]
      · rw [if_pos h] at he
        have c1 : (cmpS n.name t < 0) = True := eq_true (cmpS_neg.2 h)
        simp only [c1, decide_true, TT, ↓reduceIte, Nat.reduceEqDiff, Nat.reduceAdd, Nat.reduceMul, reduceCtorEq, Nat.reduceLeDiff]
        refine famC_next ⟨k, m + 1, j⟩ (by show j - (m + 1) < j - i; omega) ⟨⟨by show m + 1 ≤ j; omega, hj, by show j - (m + 1) ≤ k; omega⟩, he⟩ ?_
        refine Weak.calc [] (by decide) ?_ ?_ <;> simp [WT, al_Ents, ren_Ents, fEnts, wrap64 (x := (m : Int) + 1) (by omega)]
    · obtain rfl : i = j := by omega
      rw [bsP_stop hlt] at he
      subst he
      have g1 : ((plcE l t : Int) < (plcE l t : Int)) = False := eq_false (by omega)
      by_cases h9 : plcE l t < l.length
      · have g2 : ((plcE l t : Int) < (l.length : Int)) = True := eq_true (by omega)
        obtain ⟨n, hx, e1, e0⟩ := lt_at h9
        obtain ⟨a0, a1⟩ := get_Ents hx
        have ho := cmpE_spec n t
        have hd : decide (hasE l t) = decide (cmpS n.name t = 0) := by
          by_cases h : n.name = t
          · rw [decide_eq_true (cmpS_zero.2 h), decide_eq_true ⟨h9, by rw [namA_at hx, h]⟩]
          · rw [decide_eq_false fun h8 => h (cmpS_zero.1 h8), decide_eq_false fun h8 => h (by rw [← namA_at hx]; exact h8.2)]
        rw [hd]
        simp only [L_be, fEnts, g1, g2, decide_true, e0, a0, a1, Int.toNat_natCast, TT, ↓reduceIte, Nat.reduceEqDiff, Nat.reduceAdd, Nat.reduceMul, reduceCtorEq, Nat.reduceLeDiff]
        refine ⟨_, _, _, rfl, ho _, ?_⟩
        simp only [TT, ↓reduceIte, Nat.reduceEqDiff, Nat.reduceAdd, Nat.reduceMul, reduceCtorEq, Nat.reduceLeDiff]
        exact Ends.data (.inr rfl) (by simp [ET]) ⟨trivial, trivial, trivial⟩
      · have g2 : ((plcE l t : Int) < (l.length : Int)) = False := eq_false (by omega)
        have hd : decide (hasE l t) = false := decide_eq_false fun h => h9 h.1
        rw [hd]
        simp only [L_be, fEnts, g1, g2, decide_false, TT, ↓reduceIte, Nat.reduceEqDiff, Nat.reduceAdd, Nat.reduceMul, reduceCtorEq, Nat.reduceLeDiff]
        exact Ends.data (.inr rfl) (by simp [ET]) ⟨trivial, trivial, trivial⟩
theorem search_spec (fr : Bool) (l : List Ent) (t : ByteArray) (nb : Nat) (hl : l.length ≤ 140737488355328) :
    ASound Tryz.prog 221 [fEnts fr l, .v (.string t)] nb (.ret (.tup [.v (.int .i64 (plcE l t)), .v (.bool (decide (hasE l t)))]) []) := by
  refine ok_221.sound (by simp) ⟨al_fEnts l, trivial, trivial⟩ ?_
  have h := fun nb => bsearchE_spec fr l t nb hl
  simp only [fEnts] at h
  simp only [ac_221, fEnts, TT, ↓reduceIte, Nat.reduceEqDiff, Nat.reduceAdd, Nat.reduceMul, reduceCtorEq, Nat.reduceLeDiff]
  refine ⟨_, h _, ?_⟩
  simp only [TT, ↓reduceIte, Nat.reduceEqDiff, Nat.reduceAdd, Nat.reduceMul, reduceCtorEq, Nat.reduceLeDiff]
  exact Ends.data (.inr rfl) (by simp [ET]) ⟨trivial, trivial, trivial⟩
def inoE (l : List Ent) (h : Nat) : Int := match l[h]? with | some e => e.ino | none => 0
/-- a name's number, whether it is there, and what is amiss -/
def findE (l : List Ent) (t : ByteArray) : Int × Bool × Int := if chkD l = 0 then (if hasE l t then (inoE l (plcE l t), true, 0) else (0, false, 0)) else (0, false, chkD l)
theorem dfind_spec (fr : Bool) (l : List Ent) (t : ByteArray) (nb : Nat) (hl : l.length ≤ 140737488355328) :
    ASound Tryz.prog 172 [fEnts fr l, .v (.string t)] nb (.ret (.tup [.v (.int .i64 (findE l t).1), .v (.bool (findE l t).2.1), .v (.int .i64 (findE l t).2.2)]) []) := by
  refine ok_172.sound (by simp) ⟨al_fEnts l, trivial, trivial⟩ ?_
  have h1 := fun nb => dchk_spec fr l nb
  have h2 := fun nb => search_spec fr l t nb hl
  simp only [fEnts] at h1 h2
  simp only [ac_172, fEnts, TT, ↓reduceIte, Nat.reduceEqDiff, Nat.reduceAdd, Nat.reduceMul, reduceCtorEq, Nat.reduceLeDiff]
  refine ⟨_, h1 _, ?_⟩
  by_cases c1 : ¬ chkD l = 0
  · have e : findE l t = (0, false, chkD l) := if_neg c1
    simp only [c1, e, decide_false, Bool.not_false, TT, ↓reduceIte, Nat.reduceEqDiff, Nat.reduceAdd, Nat.reduceMul, reduceCtorEq, Nat.reduceLeDiff]
    exact Ends.data (.inr rfl) (by simp [ET]) ⟨trivial, trivial, trivial, trivial⟩
  replace c1 : chkD l = 0 := Decidable.not_not.1 c1
  simp only [c1, decide_true, Bool.not_true, TT, ↓reduceIte, Nat.reduceEqDiff, Nat.reduceAdd, Nat.reduceMul, reduceCtorEq, Nat.reduceLeDiff]
  refine ⟨_, h2 _, ?_⟩
  by_cases c2 : hasE l t
  · obtain ⟨n, hx, e1, e0⟩ := lt_at c2.1
    obtain ⟨a0, a1⟩ := get_Ents hx
    have e : findE l t = (n.ino, true, 0) := by rw [findE, if_pos c1, if_pos c2, inoE, hx]
    simp only [e, decide_eq_true c2, Bool.not_true, e1, e0, a0, a1, Int.toNat_natCast, TT, ↓reduceIte, Nat.reduceEqDiff, Nat.reduceAdd, Nat.reduceMul, reduceCtorEq, Nat.reduceLeDiff]
    exact Ends.data (.inr rfl) (by simp [ET]) ⟨trivial, trivial, trivial, trivial⟩
  · have e : findE l t = (0, false, 0) := by rw [findE, if_pos c1, if_neg c2]
    simp only [e, decide_eq_false c2, Bool.not_false, TT, ↓reduceIte, Nat.reduceEqDiff, Nat.reduceAdd, Nat.reduceMul, reduceCtorEq, Nat.reduceLeDiff]
    exact Ends.data (.inr rfl) (by simp [ET]) ⟨trivial, trivial, trivial, trivial⟩
end Go.Proofs.YtonglhkiobibgaaGreatDoor
namespace Go.Proofs.YtonglhkiobibgaaGreatDoor
open Go.RowKit Go.Extern.Stop Go.Stop Go.Extern
theorem tf_valueOf155 (t : Addr) (w : World) : (ReflectliteValue.unpack (.iface 199 (.pointer (some t)))).run Tryz.prog w
    = .ok (.agg #[.pointer (some ⟨4, 199, none⟩), .pointer (some ⟨w.heap.size, 0, none⟩), .int .u64 150]) (w.alloc (.cells #[.pointer (some t)] 199)) := by kernel_rfl
theorem tf_type155 (a : Addr) (w : World) : (ReflectliteValue.methodAny (ReflectliteValue.valueError "reflectlite.Value.Type" 0) (fun t _ _ _ => ReflectliteType.toType t) #[.agg #[.pointer (some ⟨4, 199, none⟩), .pointer (some a), .int .u64 150]]).run Tryz.prog w
    = .ok (.iface 342 (.agg #[.pointer (some ⟨4, 199, none⟩)])) w := by kernel_rfl
theorem tf_kind155 (w : World) : ((ReflectliteType.abiMethod fun t => (fun a : Nat => Value.int IntKind.u8 (a : Int)) <$> Rtype.kind t) #[.pointer (some ⟨4, 199, none⟩)]).run Tryz.prog w = .ok (.int .u8 22) w := by kernel_rfl
theorem tf_kind153 (w : World) : ((ReflectliteType.abiMethod fun t => (fun a : Nat => Value.int IntKind.u8 (a : Int)) <$> Rtype.kind t) #[.pointer (some ⟨4, 195, none⟩)]).run Tryz.prog w = .ok (.int .u8 22) w := by kernel_rfl
theorem tf_parts155 (a : Addr) (w : World) : (ReflectliteValue.parts (.agg #[.pointer (some ⟨4, 199, none⟩), .pointer (some a), .int .u64 150])).run Tryz.prog w = .ok (some (199, a, 150)) w := by kernel_rfl
theorem tf_isNil155 (a p : Addr) (W : World) (ha : W.cell? a = some (.pointer (some p))) :
    (ReflectliteValue.method (ReflectliteValue.valueError "reflectlite.Value.IsNil" 0) ReflectliteValue.isNil #[.agg #[.pointer (some ⟨4, 199, none⟩), .pointer (some a), .int .u64 150]]).run Tryz.prog W = .ok (.bool false) W := by
  rw [tz_rlm]
  simp only [Sem.run_bind, tf_parts155, Result.andThen]
  simp [ReflectliteValue.isNil, loadVar, isAgg, underlying, Tryz.underlying199, ha, Result.andThen]
theorem tf_elem155 (w : World) : (ReflectliteType.method ReflectliteType.elem #[.agg #[.pointer (some ⟨4, 199, none⟩)]]).run Tryz.prog w = .ok (.iface 342 (.agg #[.pointer (some ⟨4, 195, none⟩)])) w := by kernel_rfl
theorem tf_implements153 (w : World) : (ReflectliteType.relation "Implements" ReflectliteType.implements_ #[.agg #[.pointer (some ⟨4, 195, none⟩)], .iface 342 (.agg #[.pointer (some ⟨4, 102, none⟩)])]).run Tryz.prog w = .ok (.bool true) w := by kernel_rfl
theorem tf_typeOf153 (v : Value) (w : World) : (ReflectliteType.typeOf #[.iface 195 v]).run Tryz.prog w = .ok (.iface 342 (.agg #[.pointer (some ⟨4, 195, none⟩)])) w := by kernel_rfl
theorem tf_assignable153 (w : World) : (ReflectliteType.relation "AssignableTo" ReflectliteType.assignableTo #[.agg #[.pointer (some ⟨4, 195, none⟩)], .iface 342 (.agg #[.pointer (some ⟨4, 195, none⟩)])]).run Tryz.prog w = .ok (.bool true) w := by kernel_rfl
theorem tf_valueOf153 (e : Addr) (w : World) : (ReflectliteValue.unpack (.iface 195 (.pointer (some e)))).run Tryz.prog w
    = .ok (.agg #[.pointer (some ⟨4, 195, none⟩), .pointer (some ⟨w.heap.size, 0, none⟩), .int .u64 150]) (w.alloc (.cells #[.pointer (some e)] 195)) := by kernel_rfl
theorem tf_elemOf155 (w : World) : (Rtype.elem? 199).run Tryz.prog w = .ok (some 195) w := by kernel_rfl
theorem tf_mk153 (p : Addr) (w : World) : (ReflectliteValue.mk 195 p ReflectliteValue.flagAddr).run Tryz.prog w = .ok (.agg #[.pointer (some ⟨4, 195, none⟩), .pointer (some p), .int .u64 406]) w := by kernel_rfl
theorem tf_elemV155 (a p : Addr) (W : World) (ha : W.cell? a = some (.pointer (some p))) :
    (ReflectliteValue.method (ReflectliteValue.valueError "reflectlite.Value.Elem" 0) ReflectliteValue.elem #[.agg #[.pointer (some ⟨4, 199, none⟩), .pointer (some a), .int .u64 150]]).run Tryz.prog W
      = .ok (.agg #[.pointer (some ⟨4, 195, none⟩), .pointer (some p), .int .u64 406]) W := by
  rw [tz_rlm]
  simp only [Sem.run_bind, tf_parts155, Result.andThen]
  simp [ReflectliteValue.elem, loadVar, isAgg, underlying, Tryz.underlying199, ha, Result.andThen, tf_elemOf155, tf_mk153]
theorem tf_parts153a (a : Addr) (w : World) : (ReflectliteValue.parts (.agg #[.pointer (some ⟨4, 195, none⟩), .pointer (some a), .int .u64 406])).run Tryz.prog w = .ok (some (195, a, 406)) w := by kernel_rfl
theorem tf_parts153 (a : Addr) (w : World) : (ReflectliteValue.parts (.agg #[.pointer (some ⟨4, 195, none⟩), .pointer (some a), .int .u64 150])).run Tryz.prog w = .ok (some (195, a, 150)) w := by kernel_rfl
theorem tf_direct153 (w : World) : (Rtype.directlyAssignable 195 195).run Tryz.prog w = .ok true w := by kernel_rfl
theorem tf_typeOfW (v : Value) (w : World) : (ReflectliteType.typeOf #[.iface 268 v]).run Tryz.prog w = .ok (.iface 342 (.agg #[.pointer (some ⟨4, 268, none⟩)])) w := by kernel_rfl
theorem tf_assignableW (w : World) : (ReflectliteType.relation "AssignableTo" ReflectliteType.assignableTo #[.agg #[.pointer (some ⟨4, 268, none⟩)], .iface 342 (.agg #[.pointer (some ⟨4, 195, none⟩)])]).run Tryz.prog w = .ok (.bool false) w := by kernel_rfl
theorem tf_set153 (ta b : Addr) (e : Addr) (old : Value) (W : World) (hb : W.cell? b = some (.pointer (some e))) (ht : W.cell? ta = some old) (hf : W.frozen? ta = false) :
    (ReflectliteValue.set #[.agg #[.pointer (some ⟨4, 195, none⟩), .pointer (some ta), .int .u64 406], .agg #[.pointer (some ⟨4, 195, none⟩), .pointer (some b), .int .u64 150]]).run Tryz.prog W
      = .ok (.tuple #[]) (W.setCell ta (.pointer (some e))) := by
  rw [tz_rls]
  simp only [Sem.run_bind, tf_parts153a, tf_parts153, Result.andThen]
  simp [ReflectliteValue.flagAddr, loadVar, isAgg, underlying, Tryz.underlying195, hb, Result.andThen, tf_direct153, storeVar, Value.cells, storeCells, Addr.add, loadCells, loadCellsFrom]
  rw [run_store Tryz.prog W ta _ _ (by rfl)]
  simp [ht, hf]
end Go.Proofs.YtonglhkiobibgaaGreatDoor
namespace Go.Proofs.YtonglhkiobibgaaGreatDoor
open Go.RowKit Go.Extern.Stop Go.Stop Go.Extern
set_option maxRecDepth 100000
theorem tf_noAs (v : Value) (xT : TypeId) (w : World) : (Instr.typeAssert (.iface 268 v) xT 347 true).run Tryz.prog w = .ok (.tuple #[.nilIface, .bool false]) w := run_typeAssert_lacksB Tryz.underlying347 (by kernel_rfl) (by kernel_rfl) v xT w
theorem tf_hasUn (v : Value) (xT : TypeId) (w : World) : (Instr.typeAssert (.iface 268 v) xT 350 true).run Tryz.prog w = .ok (.tuple #[.iface 268 v, .bool true]) w := run_typeAssert_hasB Tryz.underlying350 (by kernel_rfl) v xT w
theorem tf_methodUn (v : Value) (w : World) : (Go.method 559 268 v "Unwrap").run Tryz.prog w = .ok (329, v) w := by kernel_rfl
set_option maxHeartbeats 4000000 in
theorem tf_asw (op : ByteArray) (e : Addr) (t : Addr) (old : Value) (w : World) (hg : w.cell? ⟨0, 0, none⟩ = some (.iface 342 (.agg #[.pointer (some ⟨4, 102, none⟩)]))) (ht0 : w.cell? t = some old) (hf0 : w.frozen? t = false) :
    Calls Tryz.prog 123 #[.iface 268 (.agg #[.string op, .iface 195 (.pointer (some e))]), .iface 199 (.pointer (some t))] w fun ev w' => ev = .returned (.bool true) ∧ w' = (((((w.alloc (.cells #[.pointer (some t)] 199)).alloc (.cells #[.pointer (some ⟨4, 199, none⟩), .pointer (some ⟨w.heap.size, 0, none⟩), .int .u64 150] 281)).alloc (.cells #[.pointer (some ⟨4, 199, none⟩), .pointer (some ⟨w.heap.size, 0, none⟩), .int .u64 150] 281)).alloc (.cells #[.string op, .iface 195 (.pointer (some e))] 268)).alloc (.cells #[.pointer (some e)] 195)).setCell t (.pointer (some e)) := by
  have h6 := @run_callFunc_extern Tryz.prog 181 _ (fun args => ReflectliteValue.unpack (args.getD 0 (.tuple #[]))) Tryz.func181 (by kernel_rfl) (by kernel_rfl) (by kernel_rfl) (by kernel_rfl)
  have h7 := @run_callFunc_extern Tryz.prog 182 _ (ReflectliteValue.methodAny (ReflectliteValue.valueError "reflectlite.Value.Type" 0) (fun t _ _ _ => ReflectliteType.toType t)) Tryz.func182 (by kernel_rfl) (by kernel_rfl) (by kernel_rfl) (by kernel_rfl)
  have h8 := @run_callFunc_extern Tryz.prog 183 _ (ReflectliteValue.method (ReflectliteValue.valueError "reflectlite.Value.IsNil" 0) ReflectliteValue.isNil) Tryz.func183 (by kernel_rfl) (by kernel_rfl) (by kernel_rfl) (by kernel_rfl)
  have h27 := @run_callFunc_extern Tryz.prog 324 _ (ReflectliteType.abiMethod fun t => do pure (.int .u8 (← Rtype.kind t))) Tryz.func324 (by kernel_rfl) (by kernel_rfl) (by kernel_rfl) (by kernel_rfl)
  have h37 := @run_callFunc_extern Tryz.prog 337 _ (ReflectliteType.method ReflectliteType.elem) Tryz.func337 (by kernel_rfl) (by kernel_rfl) (by kernel_rfl) (by kernel_rfl)
  have h38 := @run_callFunc_extern Tryz.prog 338 _ (ReflectliteType.relation "Implements" ReflectliteType.implements_) Tryz.func338 (by kernel_rfl) (by kernel_rfl) (by kernel_rfl) (by kernel_rfl)
  have h10 := @run_callFunc_extern Tryz.prog 227 _ ReflectliteType.typeOf Tryz.func227 (by kernel_rfl) (by kernel_rfl) (by kernel_rfl) (by kernel_rfl)
  have h35 := @run_callFunc_extern Tryz.prog 335 _ (ReflectliteType.relation "AssignableTo" ReflectliteType.assignableTo) Tryz.func335 (by kernel_rfl) (by kernel_rfl) (by kernel_rfl) (by kernel_rfl)
  have h11 := @run_callFunc_extern Tryz.prog 228 _ (ReflectliteValue.method (ReflectliteValue.valueError "reflectlite.Value.Elem" 0) ReflectliteValue.elem) Tryz.func228 (by kernel_rfl) (by kernel_rfl) (by kernel_rfl) (by kernel_rfl)
  have h12 := @run_callFunc_extern Tryz.prog 229 _ ReflectliteValue.set Tryz.func229 (by kernel_rfl) (by kernel_rfl) (by kernel_rfl) (by kernel_rfl)
  have tO := tf_typeOf153
  have mA := tz_methodAssignableTo
  have tW := tf_typeOfW
  have aW := tf_assignableW
  have nA := tf_noAs
  have hU := tf_hasUn
  have mU := tf_methodUn
  have a25 := tf_assignable153
  have v25 := tf_valueOf153
  have f6 := tf_valueOf155
  have f7 := tf_type155
  have mK := tz_methodKind
  have mE := tz_methodElem
  have mI := tz_methodImplements
  have k27 := tf_kind155
  have k25 := tf_kind153
  have e27 := tf_elem155
  have i25 := tf_implements153
  have n8 := tf_isNil155 ⟨w.heap.size, 0, none⟩ t ((w.alloc (.cells #[.pointer (some t)] 199)).alloc (.cells #[.pointer (some ⟨4, 199, none⟩), .pointer (some ⟨w.heap.size, 0, none⟩), .int .u64 150] 281)) (by simp)
  have hlt : 0 < w.heap.size := by
    rcases Nat.eq_zero_or_pos w.heap.size with h0 | h
    · simp [World.cell?, h0] at hg
    · exact h
  have hg2 : ((w.alloc (.cells #[.pointer (some t)] 199)).alloc (.cells #[.pointer (some ⟨4, 199, none⟩), .pointer (some ⟨w.heap.size, 0, none⟩), .int .u64 150] 281)).cell? ⟨0, 0, none⟩ = some (.iface 342 (.agg #[.pointer (some ⟨4, 102, none⟩)])) := by
    rw [World.cell?_alloc_lt _ _ ⟨0, 0, none⟩ (by simp), World.cell?_alloc_lt _ _ ⟨0, 0, none⟩ hlt]; exact hg
  have htl : t.block < w.heap.size := by
    rcases Nat.lt_or_ge t.block w.heap.size with h | h
    · exact h
    · simp [World.cell?, Array.getElem?_eq_none h] at ht0
  have el := tf_elemV155 ⟨w.heap.size, 0, none⟩ t ((((w.alloc (.cells #[.pointer (some t)] 199)).alloc (.cells #[.pointer (some ⟨4, 199, none⟩), .pointer (some ⟨w.heap.size, 0, none⟩), .int .u64 150] 281)).alloc (.cells #[.pointer (some ⟨4, 199, none⟩), .pointer (some ⟨w.heap.size, 0, none⟩), .int .u64 150] 281)).alloc (.cells #[.string op, .iface 195 (.pointer (some e))] 268)) (by rw [World.cell?_alloc_lt _ _ ⟨w.heap.size, 0, none⟩ (by simp; omega), World.cell?_alloc_lt _ _ ⟨w.heap.size, 0, none⟩ (by simp; omega)]; simp)
  have st := tf_set153 t ⟨w.heap.size + 1 + 1 + 1 + 1, 0, none⟩ e old (((((w.alloc (.cells #[.pointer (some t)] 199)).alloc (.cells #[.pointer (some ⟨4, 199, none⟩), .pointer (some ⟨w.heap.size, 0, none⟩), .int .u64 150] 281)).alloc (.cells #[.pointer (some ⟨4, 199, none⟩), .pointer (some ⟨w.heap.size, 0, none⟩), .int .u64 150] 281)).alloc (.cells #[.string op, .iface 195 (.pointer (some e))] 268)).alloc (.cells #[.pointer (some e)] 195))
    (by rw [World.cell?_alloc_at _ _ _ _ (by simp)]; rfl)
    (by rw [World.cell?_alloc_lt _ _ t (by simp; omega), World.cell?_alloc_lt _ _ t (by simp; omega), World.cell?_alloc_lt _ _ t (by simp; omega), World.cell?_alloc_lt _ _ t (by simp; omega), World.cell?_alloc_lt _ _ t htl]; exact ht0)
    (by rw [World.frozen?_alloc_old _ _ t (by simp; omega), World.frozen?_alloc_old _ _ t (by simp; omega), World.frozen?_alloc_old _ _ t (by simp; omega), World.frozen?_alloc_old _ _ t (by simp; omega), World.frozen?_alloc_old _ _ t (Nat.ne_of_lt htl)]; exact hf0)
  go_enter Tryz.func123, Tryz.ntmps123
  go_wp2
  refine wp_loop_rounds 2 ?_
  rw [rounds_succ]
  go_wp2
  rw [rounds_succ]
  go_wp2
  go_ret
  exact ⟨rfl, rfl⟩
end Go.Proofs.YtonglhkiobibgaaGreatDoor
