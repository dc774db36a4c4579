/- Merged texts: HI, HJ, NK, HK, HD, HE, HL, HM, HN, HO, NL, HP, HQ, HR, HS, HT, HU, HV. -/
import Derived.Test.YtonglhkiobibgaaGreatDoorX4
import Derived.Test.YtonglhkiobibgaaGreatDoorX3
import Derived.Test.YtonglhkiobibgaaGreatDoorX1
import Derived.Test.YtonglhkiobibgaaGreatDoorProg
import Derived.Shelf.Abstract
import Derived.Shelf.RegionOpen
import Derived.WalkKit
import Derived.OwnWalkIn
import Derived.TacticsInMore
import Derived.LoopNIn
import Derived.LoopIn
import Derived.Lib.Hide
set_option linter.unusedSimpArgs false
set_option linter.unusedVariables false
namespace Go.Proofs.YtonglhkiobibgaaGreatDoor
open Go.RowKit
set_option maxRecDepth 100000
/-- what lay lies as it lay -/
structure Ext (w W : World) : Prop where
  size : w.heap.size ≤ W.heap.size
  block : ∀ b, b < w.heap.size → W.heap[b]? = w.heap[b]?
  out : W.output = w.output
  os : W.os = w.os
  tape : W.tape = w.tape
theorem Ext.refl (w : World) : Ext w w := ⟨Nat.le_refl _, fun _ _ => rfl, rfl, rfl, rfl⟩
theorem Ext.alloc {w W : World} (h : Ext w W) (o : Obj) : Ext w (W.alloc o) :=
  ⟨by rw [World.size_alloc]; exact Nat.le_succ_of_le h.size, fun b hb => (Below.heap_alloc _ _ _ (Nat.lt_of_lt_of_le hb h.size)).trans (h.block b hb), h.out, h.os, h.tape⟩
theorem Ext.set {w W : World} (h : Ext w W) {b : Nat} (hb : w.heap.size ≤ b) (v : Value) : Ext w (W.setCell ⟨b, 0, none⟩ v) :=
  ⟨by show _ ≤ (W.heap.modify b _).size; rw [Array.size_modify]; exact h.size, fun k hk => (Below.heap_setCell W ⟨b, 0, none⟩ v k (by show k ≠ b; omega)).trans (h.block k hk), h.out, h.os, h.tape⟩
theorem Ext.cell {w W : World} (h : Ext w W) {a : Addr} {v : Value} (ha : w.cell? a = some v) : W.cell? a = some v := by
  have hb : a.block < w.heap.size := by
    rcases Nat.lt_or_ge a.block w.heap.size with h | h
    · exact h
    · simp [World.cell?, Array.getElem?_eq_none h] at ha
  exact (World.cell?_of_block (h.block a.block hb)).trans ha
/-- what errors.As leaves: the target holds the error -/
theorem after_as {w X : World} {v old : Value} (h : Ext (w.alloc (.cells #[old] 195)) X) : Ext w (X.setCell ⟨w.heap.size, 0, none⟩ v) ∧ (X.setCell ⟨w.heap.size, 0, none⟩ v).cell? ⟨w.heap.size, 0, none⟩ = some v := by
  have h0 : Ext w X := ⟨by have := h.size; rw [World.size_alloc] at this; omega, fun b hb => (h.block b (by rw [World.size_alloc]; omega)).trans (Below.heap_alloc _ _ _ hb), h.out, h.os, h.tape⟩
  refine ⟨h0.set (Nat.le_refl _) v, World.cell?_setCell_same' _ _ _ (by rw [h.cell (show (w.alloc (.cells #[old] 195)).cell? ⟨w.heap.size, 0, none⟩ = some old by simp)]; rfl)⟩
set_option maxHeartbeats 4000000 in
theorem fcodeW_walk (op : ByteArray) (e : Addr) (cd : Int) (w : World) (hg : w.cell? ⟨0, 0, none⟩ = some (.iface 342 (.agg #[.pointer (some ⟨4, 102, none⟩)]))) (he : w.cell? e = some (.int .i64 cd)) :
    Calls Tryz.prog 79 #[.iface 268 (.agg #[.string op, .iface 195 (.pointer (some e))])] w fun ev w' => ev = .returned (.int .i64 cd) ∧ Ext w w' := by
  have hlt : 0 < w.heap.size := by
    rcases Nat.eq_zero_or_pos w.heap.size with h0 | h
    · simp [World.cell?, h0] at hg
    · exact h
  have hgA : (w.alloc (.cells #[.pointer none] 195)).cell? ⟨0, 0, none⟩ = some (.iface 342 (.agg #[.pointer (some ⟨4, 102, none⟩)])) := by
    rw [World.cell?_alloc_lt _ _ ⟨0, 0, none⟩ hlt]; exact hg
  have htA : (w.alloc (.cells #[.pointer none] 195)).cell? ⟨w.heap.size, 0, none⟩ = some (.pointer none) := by simp
  have hfA : (w.alloc (.cells #[.pointer none] 195)).frozen? ⟨w.heap.size, 0, none⟩ = false := by simp
  have hx : ∀ w', w' = _ → _ := fun w' (hw : w' = (((((((w.alloc (.cells #[.pointer none] 195)).alloc (.cells #[.pointer (some ⟨w.heap.size, 0, none⟩)] 199)).alloc (.cells #[.pointer (some ⟨4, 199, none⟩), .pointer (some ⟨(w.alloc (.cells #[.pointer none] 195)).heap.size, 0, none⟩), .int .u64 150] 281)).alloc (.cells #[.pointer (some ⟨4, 199, none⟩), .pointer (some ⟨(w.alloc (.cells #[.pointer none] 195)).heap.size, 0, none⟩), .int .u64 150] 281)).alloc (.cells #[.string op, .iface 195 (.pointer (some e))] 268)).alloc (.cells #[.pointer (some e)] 195)).setCell ⟨w.heap.size, 0, none⟩ (.pointer (some e)))) =>
    hw ▸ after_as (v := .pointer (some e)) ((((((Ext.refl _).alloc _).alloc _).alloc _).alloc _).alloc _)
  go_enter Tryz.func79, Tryz.ntmps79
  go_wp2_with (first | (go_at_call 123; refine (tf_asw op e _ (.pointer none) _ hgA htA hfA).mono ?_; rintro ev w' ⟨rfl, hw⟩; obtain ⟨k1, k2⟩ := hx w' hw; have k3 := k1.cell he; clear hw))
  go_ret
  exact ⟨rfl, k1⟩
theorem Ext.then {c : Cx} {w' : World} (h : Ext c.w w') (hr : HR c) (nb : Nat) : Then c nb [] (c.at w') := Then.onlyW hr nb h.size h.block h.out h.os h.tape
abbrev aFlt (f : Bool) (cd : Int) (at_ : ByteArray) : AV := .ifc 195 (.fp f [.v (.int .i64 cd), .v (.string at_)] 0)
abbrev aWrp (op : ByteArray) (f : Bool) (cd : Int) (at_ : ByteArray) : AV := .ifc 268 (.agg [.v (.string op), aFlt f cd at_])
theorem fcodeW_spec (op : ByteArray) (f : Bool) (cd : Int) (a : ByteArray) (nb : Nat) : ASound Tryz.prog 79 [aWrp op f cd a] nb (.ret (.v (.int .i64 cd)) []) := by
  refine ⟨by kernel_rfl, fun c us r R W hrun hr hfr hv => ?_⟩
  simp [AM.run] at hrun
  obtain ⟨rfl, _, rfl⟩ := hrun
  obtain ⟨u, us', rfl, ⟨v, rfl, vs, rfl, x, vs', rfl, _, hop, y, vs2, rfl, _, ⟨z, rfl, hx⟩, hn2⟩, hn⟩ := hv
  rw [VRl] at hn2
  subst hn2
  rw [VRt] at hn
  subst hn
  rw [VR] at hx
  obtain rfl : x = .string op := hop
  obtain ⟨b, o, rfl, hlt, ho, hm⟩ := hx
  simp only [VRm, Nat.add_zero] at hm
  obtain ⟨⟨v1, hc1, _, hv1⟩, _⟩ := hm
  obtain rfl : v1 = .int .i64 cd := hv1
  refine (fcodeW_walk op _ cd c.w (hr.gl 0 _ rfl).1 hc1).mono ?_
  rintro ev w' ⟨rfl, hw⟩
  exact ⟨_, c.at w', rfl, rfl, rfl, hw.then hr nb⟩
end Go.Proofs.YtonglhkiobibgaaGreatDoor
namespace Go.Proofs.YtonglhkiobibgaaGreatDoor
open Go.RowKit
set_option maxRecDepth 100000
theorem refuse_spec (cd : Int) (a : ByteArray) (nb : Nat) (h : cd ≠ 0) : ASound Tryz.prog 77 [.v (.int .i64 cd), .v (.string a)] nb (.ret (aFlt true cd a) []) := by
  refine ok_77.sound (by simp) ⟨trivial, trivial, trivial⟩ ?_
  have h' : (cd = 0) = False := eq_false h
  simp only [ac_77, h', decide_false, TT, ↓reduceIte, Nat.reduceEqDiff, Nat.reduceAdd, Nat.reduceMul, reduceCtorEq, Nat.reduceLeDiff]
  exact Ends.weak (Weak.ifcData (y := true) (e := 197) (off := 0) (cells := [.v (.int .i64 cd), .v (.string a)]) 4 195 600000 (by simp [ET]) (by simp [ET]) ⟨trivial, trivial, trivial⟩) (Ends.data (.inr rfl) (by simp [ET]) ⟨trivial, trivial, trivial⟩)
theorem wrap_spec (op : ByteArray) (f : Bool) (cd : Int) (a : ByteArray) (nb : Nat) : ASound Tryz.prog 114 [.v (.string op), aFlt f cd a] nb (.ret (aWrp op f cd a) []) := by
  refine ok_114.sound (by simp) ⟨trivial, ⟨trivial, trivial, trivial⟩, trivial⟩ ?_
  simp only [ac_114, aFlt, TT, ↓reduceIte, Nat.reduceEqDiff, Nat.reduceAdd, Nat.reduceMul, reduceCtorEq, Nat.reduceLeDiff]
  exact Ends.data (.inr rfl) (by simp [ET]) ⟨trivial, ⟨trivial, trivial, trivial⟩, trivial⟩
/-- where names lead: a number, or what is amiss at which name -/
def walkF (s : FSt) : Int → List ByteArray → Except (Int × ByteArray) Int
  | t, [] => .ok t
  | t, x :: r => if (nodA s t).dir = true then (if (findE (nodA s t).entries x).2.1 = true then walkF s (findE (nodA s t).entries x).1 r else .error (101, x)) else .error (103, x)
def aWalk : Except (Int × ByteArray) Int → AV
  | .ok t => .tup [.v (.int .i64 t), .v .nilIface]
  | .error (cd, x) => .tup [.v (.int .i64 0), aFlt true cd x]
theorem findE_has {s : FSt} (hok : okE s) {t : Int} (ht : hasN s.nodes t) {x : ByteArray} (h : (findE (nodA s t).entries x).2.1 = true) : hasN s.nodes (findE (nodA s t).entries x).1 := by
  obtain ⟨n, hx, hmem, _⟩ := hasN_get ht
  have hA : nodA s t = n := by rw [nodA, hx]
  rw [hA] at h ⊢
  unfold findE at h ⊢
  split at h
  · split at h
    · rename_i h1 h2
      rw [if_pos h1, if_pos h2]
      obtain ⟨e, he⟩ : ∃ e, n.entries[plcE n.entries x]? = some e := ⟨_, List.getElem?_eq_getElem h2.1⟩
      have : inoE n.entries (plcE n.entries x) = e.ino := by rw [inoE, he]
      show hasN s.nodes (inoE n.entries (plcE n.entries x))
      rw [this]
      exact (hok n hmem).2 e (List.mem_of_getElem? he)
    · simp at h
  · simp at h
theorem walkF_drop {s : FSt} {t : Int} {l : List ByteArray} {i : Nat} {x : ByteArray} (h : l[i]? = some x) : walkF s t (l.drop i) = if (nodA s t).dir = true then (if (findE (nodA s t).entries x).2.1 = true then walkF s (findE (nodA s t).entries x).1 (l.drop (i + 1)) else .error (101, x)) else .error (103, x) := by
  have hi := (List.getElem?_eq_some_iff.1 h)
  rw [List.drop_eq_getElem_cons hi.1, hi.2]; rfl
abbrev L_wk (f fr fl : Bool) (s : FSt) (l : List ByteArray) (q : Nat × Int) : ASt := ⟨envOf [(0, pFs f fr s), (6, .v (.int .i64 q.2)), (13, fS fl l), (14, .v (.int .i64 l.length)), (15, .v (.int .i64 q.1))], heapOf [], 1⟩
set_option maxHeartbeats 2000000 in
theorem walk_spec (f fr fl : Bool) (s : FSt) (l : List ByteArray) (nb : Nat) (hl : s.nodes.length ≤ 140737488355328) (hok : okE s) (h1 : hasN s.nodes 1) (hll : l.length ≤ 140737488355328) :
    ASound Tryz.prog 115 [pFs f fr s, fS fl l] nb (.ret (aWalk (walkF s 1 l)) []) := by
  refine ok_115.sound (by simp) ⟨al_pFs s, al_fS l, trivial⟩ ?_
  simp only [ac_115, pFs, fNds, fS, TT, ↓reduceIte, Nat.reduceEqDiff, Nat.reduceAdd, Nat.reduceMul, reduceCtorEq, Nat.reduceLeDiff]
  refine AWc.family (L_wk f fr fl s l) (fun q => q.1 ≤ l.length ∧ hasN s.nodes q.2 ∧ walkF s q.2 (l.drop q.1) = walkF s 1 l) (fun q => l.length - q.1) (0, 1) ⟨Nat.zero_le _, h1, rfl⟩ ?_ ?_
  · refine Weak.calc [] (by decide) ?_ ?_ <;> simp [WT, pFs, fNds, al_Nds, ren_Nds, fS, al_S, ren_S]
  · rintro ⟨i, t⟩ ⟨hi, ht, he⟩
    simp only at hi ht he
    by_cases hlt : i < l.length
    · obtain ⟨x, hx, e1, e0⟩ := lt_at hlt
      have hn := fun nb => node_spec f fr s t nb hl ht.1
      obtain ⟨n, hxn, hmem, _⟩ := hasN_get ht
      have hA : nodA s t = n := by rw [nodA, hxn]
      obtain ⟨a0, a1, a2, a3, a4, a5⟩ := get_Nds (fr := fr) hxn
      have hf := fun nb => dfind_spec fr n.entries x nb (hok n hmem).1
      rw [walkF_drop hx] at he
      have hfh := fun h => findE_has hok ht (x := x) h
      rw [hA] at he hfh
      simp only [pFs, fNds] at hn
      simp only [fEnts] at hf
      simp only [L_wk, pFs, fNds, fS, e1, e0, get_S hx, Int.toNat_natCast, TT, ↓reduceIte, Nat.reduceEqDiff, Nat.reduceAdd, Nat.reduceMul, reduceCtorEq, Nat.reduceLeDiff]
      refine ⟨_, hn _, ?_⟩
      cases hd : n.dir
      · rw [hd, if_neg (by decide)] at he
        simp only [a1, hd, Bool.not_false, TT, ↓reduceIte, Nat.reduceEqDiff, Nat.reduceAdd, Nat.reduceMul, reduceCtorEq, Nat.reduceLeDiff]
        refine ⟨_, refuse_spec 103 x _ (by decide), ?_⟩
        simp only [TT, ↓reduceIte, Nat.reduceEqDiff, Nat.reduceAdd, Nat.reduceMul, reduceCtorEq, Nat.reduceLeDiff]
        rw [← he]
        exact Ends.data (.inr rfl) (by simp [ET, aWalk]) ⟨trivial, ⟨trivial, trivial, trivial⟩, trivial⟩
      · rw [hd, if_pos rfl] at he
        simp only [a1, a3, hd, Bool.not_true, TT, ↓reduceIte, Nat.reduceEqDiff, Nat.reduceAdd, Nat.reduceMul, reduceCtorEq, Nat.reduceLeDiff]
        refine ⟨_, hf _, ?_⟩
        cases hb : (findE n.entries x).2.1
        · rw [hb, if_neg (by decide)] at he
          simp only [Bool.not_false, TT, ↓reduceIte, Nat.reduceEqDiff, Nat.reduceAdd, Nat.reduceMul, reduceCtorEq, Nat.reduceLeDiff]
          refine ⟨_, refuse_spec 101 x _ (by decide), ?_⟩
          simp only [TT, ↓reduceIte, Nat.reduceEqDiff, Nat.reduceAdd, Nat.reduceMul, reduceCtorEq, Nat.reduceLeDiff]
          rw [← he]
          exact Ends.data (.inr rfl) (by simp [ET, aWalk]) ⟨trivial, ⟨trivial, trivial, trivial⟩, trivial⟩
        · rw [hb, if_pos rfl] at he
          simp only [Bool.not_true, TT, ↓reduceIte, Nat.reduceEqDiff, Nat.reduceAdd, Nat.reduceMul, reduceCtorEq, Nat.reduceLeDiff]
          refine famC_next (i + 1, (findE n.entries x).1) (by show l.length - (i + 1) < l.length - i; omega) ⟨by show i + 1 ≤ l.length; omega, hfh hb, he⟩ ?_
          refine Weak.calc [] (by decide) ?_ ?_ <;> simp [WT, pFs, fNds, al_Nds, ren_Nds, fS, al_S, ren_S, wrap64 (x := (i : Int) + 1) (by omega)]
    · obtain rfl : i = l.length := by omega
      have e1 : ¬ ((l.length : Int) < (l.length : Int)) := by omega
      rw [List.drop_length] at he
      simp only [L_wk, pFs, fNds, fS, e1, TT, ↓reduceIte, Nat.reduceEqDiff, Nat.reduceAdd, Nat.reduceMul, reduceCtorEq, Nat.reduceLeDiff]
      rw [← he]
      exact Ends.data (.inr rfl) (by simp [ET, walkF, aWalk]) ⟨trivial, trivial, trivial⟩
end Go.Proofs.YtonglhkiobibgaaGreatDoor
namespace Go.Proofs.YtonglhkiobibgaaGreatDoor
set_option maxRecDepth 100000
def ac_FD1 : AC :=
(.seq (.seq (.reg false [⟨some 11, .load true 2 (.tmp 2), none, [2], []⟩,
    ⟨some 12, .call 32 [(.tmp 11)], none, [11], []⟩,
    ⟨some 6, .mv (.tmp 12), none, [12], []⟩] [1, 2, 6])
(.seq (.reg false [⟨some 13, .mv (.tmp 6), none, [6], []⟩,
    ⟨some 14, .bin .neq (.tmp 13) (.const (.int .i64 (0))), none, [13], []⟩] [1, 2, 6, 14])
(.cond (.tmp 14)
(.seq (.reg false [⟨some 15, .mv (.tmp 6), none, [6], []⟩,
    ⟨some 16, .mv (.tmp 1), none, [1], []⟩,
    ⟨some 17, .call 77 [(.tmp 15), (.tmp 16)], none, [15, 16], []⟩,
    ⟨some 4, .mv (.const (.pointer none)), none, [], []⟩,
    ⟨some 5, .mv (.tmp 17), none, [17], []⟩] [4, 5])
.ret)
.skip)))
(.seq (.reg false [⟨some 19, .mv (.tmp 1), none, [1], []⟩,
    ⟨some 20, .call 110 [(.tmp 19)], none, [19], []⟩,
    ⟨some 18, .mv (.tmp 20), none, [20], []⟩,
    ⟨some 21, .ext 0 (.tmp 18), none, [18], []⟩,
    ⟨some 22, .ext 1 (.tmp 18), none, [18], []⟩,
    ⟨some 7, .mv (.tmp 21), none, [21], []⟩,
    ⟨some 8, .mv (.tmp 22), none, [22], []⟩] [1, 2, 7, 8])
(.seq (.seq (.reg false [⟨some 23, .mv (.tmp 8), none, [8], []⟩,
    ⟨some 24, .bin .neq (.tmp 23) (.const (.int .i64 (0))), none, [23], []⟩] [1, 2, 7, 8, 24])
(.cond (.tmp 24)
(.seq (.reg false [⟨some 25, .mv (.tmp 8), none, [8], []⟩,
    ⟨some 26, .mv (.tmp 1), none, [1], []⟩,
    ⟨some 27, .call 77 [(.tmp 25), (.tmp 26)], none, [25, 26], []⟩,
    ⟨some 4, .mv (.const (.pointer none)), none, [], []⟩,
    ⟨some 5, .mv (.tmp 27), none, [27], []⟩] [4, 5])
.ret)
.skip))
(.seq (.reg false [⟨some 29, .mv (.tmp 7), none, [7], []⟩,
    ⟨some 30, .call 115 [(.tmp 2), (.tmp 29)], none, [2, 29], []⟩,
    ⟨some 28, .mv (.tmp 30), none, [30], []⟩,
    ⟨some 31, .ext 0 (.tmp 28), none, [28], []⟩,
    ⟨some 32, .ext 1 (.tmp 28), none, [28], []⟩,
    ⟨some 9, .mv (.tmp 31), none, [31], []⟩,
    ⟨some 10, .mv (.tmp 32), none, [32], []⟩] [2, 9, 10])
(.seq (.seq (.reg false [⟨some 33, .mv (.tmp 10), none, [10], []⟩,
    ⟨some 34, .isnil true .nilIface (.tmp 33), none, [33], []⟩] [2, 9, 10, 34])
(.cond (.tmp 34)
(.seq (.reg false [⟨some 35, .mv (.tmp 10), none, [10], []⟩,
    ⟨some 36, .call 114 [(.const (.string (ByteArray.mk #[102, 105, 110, 100]))), (.tmp 35)], none, [35], []⟩,
    ⟨some 4, .mv (.const (.pointer none)), none, [], []⟩,
    ⟨some 5, .mv (.tmp 36), none, [36], []⟩] [4, 5])
.ret)
.skip))
(.seq (.reg false [⟨some 37, .mv (.tmp 9), none, [9], []⟩,
    ⟨some 38, .call 116 [(.tmp 2), (.tmp 37)], none, [2, 37], []⟩,
    ⟨some 4, .mv (.tmp 38), none, [38], []⟩,
    ⟨some 5, .mv (.const .nilIface), none, [], []⟩] [4, 5])
.ret))))))
def ac_FDc : AC :=
(.seq (.reg false [⟨some 2, .box 28 (.tmp 0), none, [0], []⟩,
    ⟨some 4, .mv (.const (.pointer none)), none, [], []⟩,
    ⟨some 5, .mv (.const .nilIface), none, [], []⟩] [1, 2])
(.weak ac_FD1))
theorem ok_FDc : FnOk Tryz.prog 78 39 ac_FDc [.tmp 4, .tmp 5] := ⟨Tryz.f78, Tryz.func78, by kernel_rfl, by kernel_rfl, by kernel_rfl, by kernel_rfl, by kernel_rfl⟩
end Go.Proofs.YtonglhkiobibgaaGreatDoor
namespace Go.Proofs.YtonglhkiobibgaaGreatDoor
open Go.RowKit
set_option maxRecDepth 100000
theorem chk_ok {s : FSt} (h : chkFs s = 0) (hb : ∀ n ∈ s.nodes, n.entries.length ≤ 140737488355328) : okE s ∧ hasN s.nodes 1 := by
  unfold chkFs at h
  split at h
  · cases h
  · rename_i hbad
    split at h
    · rename_i hc
      obtain ⟨hall, _, hinc⟩ := chk1_all hc.1
      refine ⟨fun n hn => ⟨hb n hn, (hall n hn).2⟩, ?_⟩
      have h0 : ¬ s.nodes.length = 0 := fun h9 => hbad (.inr (.inr (.inl h9)))
      have h1 : inoA s.nodes 0 = 1 := Decidable.not_not.1 fun h9 => hbad (.inr (.inr (.inr (.inr h9))))
      obtain ⟨n, hx⟩ : ∃ n, s.nodes[0]? = some n := ⟨_, List.getElem?_eq_getElem (by omega)⟩
      have h2 := hasN_of hinc hx
      rw [inoA_at hx] at h1
      rwa [h1] at h2
    · cases h
theorem walkF_has {s : FSt} (hok : okE s) : ∀ {l : List ByteArray} {t u : Int}, hasN s.nodes t → walkF s t l = .ok u → hasN s.nodes u
  | [], t, u, h, e => by rw [walkF] at e; cases e; exact h
  | x :: r, t, u, h, e => by
    rw [walkF] at e
    split at e
    · split at e
      · rename_i h2
        exact walkF_has hok (findE_has hok h h2) e
      · cases e
    · cases e
def findS : ByteArray := ByteArray.mk #[102, 105, 110, 100]
def aFind (fr : Bool) (s : FSt) : Except (Int × ByteArray) Int → AV
  | .ok t => .tup [.fp fr (eNds fr s.nodes) (plc s.nodes t * 6), .v .nilIface]
  | .error (cd, x) => .tup [.v (.pointer none), aWrp findS true cd x]
set_option maxHeartbeats 1000000 in
theorem find_spec (fr : Bool) (s : FSt) (p : ByteArray) (l : List ByteArray) (nb : Nat) (hl : s.nodes.length ≤ 140737488355328) (hb : ∀ n ∈ s.nodes, n.entries.length ≤ 140737488355328 ∧ n.file.blocks.length ≤ 140737488355328)
    (hS : ∀ nb, ASound Tryz.prog 110 [.v (.string p)] nb (.ret (.tup [fS true l, .v (.int .i64 0)]) [])) (hc : chkFs s = 0) (hll : l.length ≤ 140737488355328) :
    ASound Tryz.prog 78 [aFs fr s, .v (.string p)] nb (.ret (aFind fr s (walkF s 1 l)) []) := by
  refine ok_FDc.sound (by simp) ⟨al_aFs s, trivial, trivial⟩ ?_
  obtain ⟨hok, h1⟩ := chk_ok hc (fun n hn => (hb n hn).1)
  have hk := fun nb => fsCheck_spec fr s nb hl hb
  have hw := fun nb => walk_spec true fr true s l nb hl hok h1 hll
  rw [hc] at hk
  simp only [aFs, fNds] at hk
  simp only [pFs, fNds] at hw
  simp only [ac_FDc, aFs, fNds, TT, ↓reduceIte, Nat.reduceEqDiff, Nat.reduceAdd, Nat.reduceMul, reduceCtorEq, Nat.reduceLeDiff]
  refine ⟨⟨envOf [(1, .v (.string p)), (2, pFs true fr s)], heapOf [], 300000⟩, Weak.freezeC 0 rfl (l := [(1, .v (.string p)), (2, pFs true fr s)]) (h := []) ?_ ?_, ?_⟩
  · simp [WT, pFs, fNds, okF, fzV, fzOne]
  · trivial
  simp only [ac_FD1, pFs, fNds, TT, ↓reduceIte, Nat.reduceEqDiff, Nat.reduceAdd, Nat.reduceMul, reduceCtorEq, Nat.reduceLeDiff]
  refine ⟨_, hk _, ?_⟩
  simp only [decide_true, Bool.not_true, TT, ↓reduceIte, Nat.reduceEqDiff, Nat.reduceAdd, Nat.reduceMul, reduceCtorEq, Nat.reduceLeDiff]
  refine ⟨_, hS _, ?_⟩
  simp only [decide_true, Bool.not_true, TT, ↓reduceIte, Nat.reduceEqDiff, Nat.reduceAdd, Nat.reduceMul, reduceCtorEq, Nat.reduceLeDiff]
  refine ⟨_, hw _, ?_⟩
  cases hr : walkF s 1 l with
  | ok t =>
    have ht := walkF_has hok h1 hr
    have hn := fun nb => node_spec true fr s t nb hl ht.1
    simp only [pFs, fNds] at hn
    simp only [aWalk, TT, ↓reduceIte, Nat.reduceEqDiff, Nat.reduceAdd, Nat.reduceMul, reduceCtorEq, Nat.reduceLeDiff]
    refine ⟨_, hn _, ?_⟩
    simp only [TT, ↓reduceIte, Nat.reduceEqDiff, Nat.reduceAdd, Nat.reduceMul, reduceCtorEq, Nat.reduceLeDiff]
    exact Ends.data (.inr rfl) (by simp [ET, aFind]) ⟨al_Nds _, trivial, trivial⟩
  | error q =>
    obtain ⟨cd, x⟩ := q
    have hwr := fun nb => wrap_spec findS true cd x nb
    simp only [findS, aFlt, aWrp] at hwr
    simp only [aWalk, TT, ↓reduceIte, Nat.reduceEqDiff, Nat.reduceAdd, Nat.reduceMul, reduceCtorEq, Nat.reduceLeDiff]
    refine ⟨_, hwr _, ?_⟩
    simp only [TT, ↓reduceIte, Nat.reduceEqDiff, Nat.reduceAdd, Nat.reduceMul, reduceCtorEq, Nat.reduceLeDiff]
    exact Ends.data (.inr rfl) (by simp [ET, aFind, aWrp, findS]) ⟨trivial, ⟨trivial, ⟨trivial, trivial, trivial⟩, trivial⟩, trivial⟩
theorem read0_spec (fr : Bool) (s : FSt) (p : ByteArray) (off n : Int) (l : List ByteArray) (cd : Int) (x : ByteArray) (nb : Nat) (hl : s.nodes.length ≤ 140737488355328) (hb : ∀ n ∈ s.nodes, n.entries.length ≤ 140737488355328 ∧ n.file.blocks.length ≤ 140737488355328)
    (hS : ∀ nb, ASound Tryz.prog 110 [.v (.string p)] nb (.ret (.tup [fS true l, .v (.int .i64 0)]) [])) (hc : chkFs s = 0) (hll : l.length ≤ 140737488355328) (hw : walkF s 1 l = .error (cd, x)) :
    ASound Tryz.prog 26 [aFs fr s, .v (.string p), .v (.int .i64 off), .v (.int .i64 n)] nb (.ret (.tup [.v (.slice none 0 0), .v (.int .i64 cd)]) []) := by
  refine ok_26.sound (by simp) ⟨al_aFs s, trivial, trivial, trivial, trivial⟩ ?_
  have hf := fun nb => find_spec fr s p l nb hl hb hS hc hll
  have hcd := fun nb => fcodeW_spec findS true cd x nb
  rw [hw] at hf
  simp only [aFs, fNds, aFind, aWrp] at hf
  simp only [aWrp] at hcd
  simp only [ac_26, aFs, fNds, TT, ↓reduceIte, Nat.reduceEqDiff, Nat.reduceAdd, Nat.reduceMul, reduceCtorEq, Nat.reduceLeDiff]
  refine ⟨_, hf _, ?_⟩
  simp only [TT, ↓reduceIte, Nat.reduceEqDiff, Nat.reduceAdd, Nat.reduceMul, reduceCtorEq, Nat.reduceLeDiff]
  refine ⟨_, hcd _, ?_⟩
  simp only [TT, ↓reduceIte, Nat.reduceEqDiff, Nat.reduceAdd, Nat.reduceMul, reduceCtorEq, Nat.reduceLeDiff]
  exact Ends.data (.inr rfl) (by simp [ET]) ⟨trivial, trivial, trivial⟩
end Go.Proofs.YtonglhkiobibgaaGreatDoor
namespace Go.Proofs.YtonglhkiobibgaaGreatDoor
open Go.RowKit Go.Shelf
attribute [local go_sem] Oper.semAt_some
set_option maxRecDepth 100000
theorem hasPrefix_spec (s p : ByteArray) (nb : Nat) : ASound Tryz.prog 248 [.v (.string s), .v (.string p)] nb (.ret (.v (.bool (decide (p.size ≤ s.size ∧ s.extract 0 p.size = p)))) []) := by
  refine ok_248.sound (by simp) ⟨trivial, trivial, trivial⟩ ?_
  by_cases h : p.size ≤ s.size
  · have g1 : ((p.size : Int) ≤ (s.size : Int)) = True := eq_true (by omega)
    have g2 : ((0 : Int) ≤ (p.size : Int)) = True := eq_true (by omega)
    simp only [ac_248, g1, g2, decide_true, and_self, Int.toNat_natCast, strOp, TT, ↓reduceIte, Nat.reduceEqDiff, Nat.reduceAdd, Nat.reduceMul, reduceCtorEq, Nat.reduceLeDiff]
    exact Ends.data (.inr rfl) (by simp [ET, h]) trivial
  · have g1 : ((p.size : Int) ≤ (s.size : Int)) = False := eq_false (by omega)
    simp only [ac_248, g1, decide_false, TT, ↓reduceIte, Nat.reduceEqDiff, Nat.reduceAdd, Nat.reduceMul, reduceCtorEq, Nat.reduceLeDiff]
    exact Ends.data (.inr rfl) (by simp [ET, h]) trivial
theorem cutPrefixL_spec (s p : ByteArray) (nb : Nat) (h : p.size ≤ s.size ∧ s.extract 0 p.size = p) : ASound Tryz.prog 217 [.v (.string s), .v (.string p)] nb (.ret (.tup [.v (.string (s.extract p.size s.size)), .v (.bool true)]) []) := by
  refine ok_217.sound (by simp) ⟨trivial, trivial, trivial⟩ ?_
  have hp := fun nb => hasPrefix_spec s p nb
  rw [decide_eq_true h] at hp
  have g1 : ((p.size : Int) ≤ (s.size : Int)) = True := eq_true (by have := h.1; omega)
  have g2 : ((0 : Int) ≤ (p.size : Int)) = True := eq_true (by omega)
  simp only [ac_217, TT, ↓reduceIte, Nat.reduceEqDiff, Nat.reduceAdd, Nat.reduceMul, reduceCtorEq, Nat.reduceLeDiff]
  refine ⟨_, hp _, ?_⟩
  simp only [g1, g2, and_self, Int.toNat_natCast, TT, ↓reduceIte, Nat.reduceEqDiff, Nat.reduceAdd, Nat.reduceMul, reduceCtorEq, Nat.reduceLeDiff]
  exact Ends.data (.inr rfl) (by simp [ET]) ⟨trivial, trivial, trivial⟩
theorem cutPrefix_spec (s p : ByteArray) (nb : Nat) (h : p.size ≤ s.size ∧ s.extract 0 p.size = p) : ASound Tryz.prog 168 [.v (.string s), .v (.string p)] nb (.ret (.tup [.v (.string (s.extract p.size s.size)), .v (.bool true)]) []) := by
  refine ok_168.sound (by simp) ⟨trivial, trivial, trivial⟩ ?_
  simp only [ac_168, TT, ↓reduceIte, Nat.reduceEqDiff, Nat.reduceAdd, Nat.reduceMul, reduceCtorEq, Nat.reduceLeDiff]
  refine ⟨_, cutPrefixL_spec s p _ h, ?_⟩
  simp only [TT, ↓reduceIte, Nat.reduceEqDiff, Nat.reduceAdd, Nat.reduceMul, reduceCtorEq, Nat.reduceLeDiff]
  exact Ends.data (.inr rfl) (by simp [ET]) ⟨trivial, trivial, trivial⟩
abbrev aSeq (f : Bool) (s p : ByteArray) : AV := .fn 249 [.fp f [.v (.string p)] 0, .fp f [.v (.string s)] 0, .fp f [.v (.int .i64 0)] 0]
theorem splitSeqL_spec (s p : ByteArray) (nb : Nat) : ASound Tryz.prog 218 [.v (.string s), .v (.string p), .v (.int .i64 0)] nb (.ret (aSeq true s p) []) := by
  refine ok_218.sound (by simp) ⟨trivial, trivial, trivial, trivial⟩ ?_
  simp only [ac_218, TT, ↓reduceIte, Nat.reduceEqDiff, Nat.reduceAdd, Nat.reduceMul, reduceCtorEq, Nat.reduceLeDiff]
  refine Ends.weak (Weak.fnData 6 249 [.op 100000 0, .op 0 0, .op 200000 0] [.fp true [.v (.string p)] 0, .fp true [.v (.string s)] 0, .fp true [.v (.int .i64 0)] 0] (by simp [s_envOf]) rfl ?_) (Ends.data (.inr rfl) (by simp [ET]) ⟨⟨trivial, trivial⟩, ⟨trivial, trivial⟩, ⟨trivial, trivial⟩, trivial⟩)
  intro j x' hj
  match j, hj with
  | 0, hj => cases hj; exact ⟨_, rfl, .inr ⟨100000, true, 9, [.v (.string p)], 0, rfl, by simp [WT], ⟨trivial, trivial⟩, rfl⟩⟩
  | 1, hj => cases hj; exact ⟨_, rfl, .inr ⟨0, true, 9, [.v (.string s)], 0, rfl, by simp [WT], ⟨trivial, trivial⟩, rfl⟩⟩
  | 2, hj => cases hj; exact ⟨_, rfl, .inr ⟨200000, true, 3, [.v (.int .i64 0)], 0, rfl, by simp [WT], ⟨trivial, trivial⟩, rfl⟩⟩
  | j + 3, hj => simp at hj
theorem splitSeq_spec (s p : ByteArray) (nb : Nat) : ASound Tryz.prog 169 [.v (.string s), .v (.string p)] nb (.ret (aSeq true s p) []) := by
  refine ok_169.sound (by simp) ⟨trivial, trivial, trivial⟩ ?_
  simp only [ac_169, TT, ↓reduceIte, Nat.reduceEqDiff, Nat.reduceAdd, Nat.reduceMul, reduceCtorEq, Nat.reduceLeDiff]
  refine ⟨_, splitSeqL_spec s p _, ?_⟩
  simp only [TT, ↓reduceIte, Nat.reduceEqDiff, Nat.reduceAdd, Nat.reduceMul, reduceCtorEq, Nat.reduceLeDiff]
  exact Ends.data (.inr rfl) (by simp [ET]) ⟨⟨trivial, trivial⟩, ⟨trivial, trivial⟩, ⟨trivial, trivial⟩, trivial⟩
set_option maxHeartbeats 1000000 in
theorem index_walk (s : ByteArray) (c : UInt8) (hne : [c] ≠ s.toList) (w : World) :
    Calls Tryz.prog 281 #[.string s, .string (ByteArray.mk #[c])] w fun e w' => e = .returned (.int .i64 (Lib.indexByte s.data.toList c)) ∧ w' = w := by
  have hne' : ([c] == s.toList) = false := by simpa using hne
  have hz : (ByteArray.mk #[c]).size = 1 := rfl
  have hg : (ByteArray.mk #[c])[0]? = some c := rfl
  go_enter Tryz.func281, Tryz.ntmps281
  go_wp2_with (go_at_call 298; refine (indexL_walk s c _).mono ?_; rintro e w' ⟨rfl, rfl⟩)
  go_ret
  exact ⟨rfl, rfl⟩
theorem indexS_walk (s : ByteArray) (c : UInt8) (hne : [c] ≠ s.toList) (w : World) :
    Calls Tryz.prog 251 #[.string s, .string (ByteArray.mk #[c])] w fun e w' => e = .returned (.int .i64 (Lib.indexByte s.data.toList c)) ∧ w' = w := by
  go_enter Tryz.func251, Tryz.ntmps251
  go_wp2_with (go_at_call 281; refine (index_walk s c hne _).mono ?_; rintro e w' ⟨rfl, rfl⟩)
  go_ret
  exact ⟨rfl, rfl⟩
set_option maxHeartbeats 4000000 in
/-- the iterator of a string without the octet: it yields the string, once -/
theorem split_in (l : Nat) (p1 p2 p3 : Addr) (s : ByteArray) (c : UInt8) (hne : [c] ≠ s.toList) (hno : Lib.indexByte s.data.toList c = -1)
    (J Jx : List (_root_.Fin 1) → World → Prop) (Kp : World → World → Prop)
    (W : World) (hJ : AbidesFrom W.heap.size J) (hJx : AbidesFrom W.heap.size Jx)
    (hY : ∀ pre (x : _root_.Fin 1) W1, J pre W1 → pre.length < 1 → YieldAt Fence.wide 1 Tryz.prog l #[.string s] W1 fun e W' => (e = .returned (.bool true) ∧ J (pre ++ [x]) W' ∧ Kp W1 W') ∨ (e = .returned (.bool false) ∧ Jx (pre ++ [x]) W'))
    (h1 : W.cell? p1 = some (.string (ByteArray.mk #[c]))) (h2 : W.cell? p2 = some (.string s)) (h3 : W.cell? p3 = some (.int .i64 0)) (hj : J [] W) :
    CallsIn Fence.wide 2 Tryz.prog 249 #[.func (.yield l) #[] #[], .pointer (some p1), .pointer (some p2), .pointer (some p3)] W fun e W' => (∃ v, e = .returned v) ∧
      ((∃ xs, xs = List.finRange 1 ∧ J xs W') ∨ (∃ pre, (∃ k, k < 1 ∧ pre = (List.finRange 1).take (k + 1)) ∧ Jx pre W')) := by
  have HY := Lib.hid hY
  have HJ := Lib.hid hJ
  have Hj := Lib.hid hj
  clear hY hJ hJx hj
  have hz : (ByteArray.mk #[c]).size = 1 := rfl
  refine callsIn_of_wp Tryz.func249 rfl trivial ?_ rfl
  simp only [Tryz.ntmps249, List.size_toArray, List.length_cons, List.length_nil, Nat.reduceAdd, Nat.reduceSub, Array.replicate_succ, Array.replicate_zero, List.push_toArray, List.append_toArray, List.nil_append, List.cons_append]
  have H1 := Lib.hid h1
  have H2 := Lib.hid h2
  have H3 := Lib.hid h3
  gi_wp2
  clear h1 h2 h3
  gi_loopw [7] (fun _ wr => Hid (J [] wr) ∧ Hid (wr.cell? p1 = some (.string (ByteArray.mk #[c]))) ∧ Hid (wr.cell? p2 = some (.string s)) ∧ Hid (wr.cell? p3 = some (.int .i64 0))) (fun _ _ => 0)
  case atStart => exact ⟨Hj, H1, H2, H3⟩
  case round =>
    obtain ⟨HJs, G1, G2, G3⟩ := hrel
    have y1 := G1.out
    have y2 := G2.out
    have y3 := G3.out
    gi_wp2_with fail
    refine ⟨trivial, (callsIn_wide.2 (indexS_walk s c hne _)).mono ?_⟩
    rintro e w5 ⟨rfl, rfl⟩
    rw [hno]
    gi_wp2_with fail
    obtain ⟨fn, tmps, assign, body, hy, hR⟩ := HY.out [] ⟨0, by decide⟩ w5 HJs.out (by simp)
    rw [hy, Oper.uponIn_round]
    refine ⟨fun h => (by cases h), hR.mono ?_⟩
    have hF : List.finRange 1 = [⟨0, by decide⟩] := rfl
    rintro e W3 (⟨rfl, hJ3, _⟩ | ⟨rfl, hJx3⟩)
    · gi_wp2_with fail
      go_end0
      exact ⟨⟨_, rfl⟩, .inl ⟨_, rfl, by rw [hF]; exact hJ3⟩⟩
    · gi_wp2_with fail
      go_end0
      exact ⟨⟨_, rfl⟩, .inr ⟨_, ⟨0, by decide, rfl⟩, by rw [hF]; exact hJx3⟩⟩
theorem split_iter (f : Bool) (s : ByteArray) (c : UInt8) (hne : [c] ≠ s.toList) (hno : Lib.indexByte s.data.toList c = -1) :
    IterA Tryz.prog 249 [.fp f [.v (.string (ByteArray.mk #[c]))] 0, .fp f [.v (.string s)] 0, .fp f [.v (.int .i64 0)] 0] [[.v (.string s)]] := by
  refine ⟨by rfl, fun x lb hr hv => ?_⟩
  simp only [VRt] at hv
  obtain ⟨u1, us, rfl, h1, u2, us2, rfl, h2, u3, us3, rfl, h3, rfl⟩ := hv
  rw [VR] at h1 h2 h3
  obtain ⟨b1, o1, rfl, hlt1, ho1, hm1⟩ := h1
  obtain ⟨b2, o2, rfl, hlt2, ho2, hm2⟩ := h2
  obtain ⟨b3, o3, rfl, hlt3, ho3, hm3⟩ := h3
  simp only [VRm, Nat.add_zero] at hm1 hm2 hm3
  obtain ⟨⟨v1, hc1, _, hv1⟩, _⟩ := hm1
  obtain ⟨⟨v2, hc2, _, hv2⟩, _⟩ := hm2
  obtain ⟨⟨v3, hc3, _, hv3⟩, _⟩ := hm3
  obtain rfl : v1 = .string (ByteArray.mk #[c]) := hv1
  obtain rfl : v2 = .string s := hv2
  obtain rfl : v3 = .int .i64 0 := hv3
  refine ⟨fun _ => [.string s], fun i => ?_, ?_⟩
  · match i with
    | ⟨0, _⟩ => simp only [VRt]; exact ⟨_, _, rfl, rfl, rfl⟩
  · intro l J Jx W hW hJ hJx hY hj
    refine split_in l ⟨b1, o1, none⟩ ⟨b2, o2, none⟩ ⟨b3, o3, none⟩ s c hne hno J Jx (Kc x) W hJ hJx hY ?_ ?_ ?_ hj
    · exact (World.cell?_of_block (hW.block b1 hlt1)).trans hc1
    · exact (World.cell?_of_block (hW.block b2 hlt2)).trans hc2
    · exact (World.cell?_of_block (hW.block b3 hlt3)).trans hc3
end Go.Proofs.YtonglhkiobibgaaGreatDoor
namespace Go.Proofs.YtonglhkiobibgaaGreatDoor
open Go.RowKit
set_option maxRecDepth 100000
theorem NoM.of : ∀ {l : List (Nat × AObj)}, (∀ i y e cells, (i, AObj.row y e cells) ∈ l → e ≠ MAPE) → NoM (heapOf l)
  | [], _ => fun i y e cells h => by simp [heapOf] at h
  | (j, o) :: r, h => fun i y e cells h2 => by
    rw [heapOf] at h2
    split at h2
    · cases h2; exact h j y e cells (by simp)
    · exact NoM.of (l := r) (fun i y e cells hm => h i y e cells (List.mem_cons_of_mem _ hm)) i y e cells h2
theorem named1_spec (r : ByteArray) (y : Bool) (id nb : Nat) (hn : nameE r = 0) (hid : id < nb) :
    ASound Tryz.prog 170 [.os id 0 1 1] nb (rowsM [(id, y, 9, [.v (.string r)])] (.ret (.v (.int .i64 0)) [])) := by
  refine ASound.borrow [] [(id, y, 9, [.v (.string r)])] ?_ (by simp) (by simp) trivial (by simp)
  have e : boL [(id, y, 9, [.v (.string r)])] [.os id 0 1 1] = [fS false [r]] := by simp [boL, bo, cellsAt, od, odL, fS, eS]
  have e2 : namedL [r] = 0 := by simp [namedL, namI, hn]
  have h := named_spec false [r] nb (by simp)
  rw [e2] at h
  rw [e]
  exact h
abbrev L_sq (s r : ByteArray) : ASt := ⟨envOf [(6, .op 0 0), (20, aSeq true r (ByteArray.mk #[47]))], heapOf [(0, .row true 45 [.v (.slice none 0 0)])], 2⟩
set_option maxHeartbeats 2000000 in
theorem split1_spec (s r : ByteArray) (nb : Nat) (hs : s.size ≤ 128) (h0 : 1 ≤ s.size) (h1 : s.extract 0 1 = ByteArray.mk #[47]) (h2 : s.extract 1 s.size = r) (hne : r ≠ ByteArray.mk #[]) (hno : Lib.indexByte r.data.toList 47 = -1) (hn1 : [47] ≠ r.toList) (hn : nameE r = 0) :
    ASound Tryz.prog 110 [.v (.string s)] nb (.ret (.tup [fS true [r], .v (.int .i64 0)]) []) := by
  refine ok_110.sound (by simp) ⟨trivial, trivial⟩ ?_
  have g1 : ((128 : Int) < (s.size : Int)) = False := eq_false (by omega)
  have hc := fun nb => cutPrefix_spec s (ByteArray.mk #[47]) nb ⟨h0, h1⟩
  have hz : (ByteArray.mk #[47]).size = 1 := rfl
  rw [hz, h2] at hc
  have hq := fun nb => splitSeq_spec r (ByteArray.mk #[47]) nb
  simp only [ac_110, g1, decide_false, TT, ↓reduceIte, Nat.reduceEqDiff, Nat.reduceAdd, Nat.reduceMul, reduceCtorEq, Nat.reduceLeDiff]
  refine ⟨_, hc _, ?_⟩
  simp only [Bool.not_true, TT, ↓reduceIte, Nat.reduceEqDiff, Nat.reduceAdd, Nat.reduceMul, reduceCtorEq, Nat.reduceLeDiff]
  refine ⟨_, hq _, ?_⟩
  simp only [TT, ↓reduceIte, Nat.reduceEqDiff, Nat.reduceAdd, Nat.reduceMul, reduceCtorEq, Nat.reduceLeDiff]
  refine AWc.weak (s' := L_sq s r) (Weak.calc [(1400000, 0)] (by decide) ?_ ?_) ?_
  · simp [WT]
  · simp [WT]
  refine AWc.range 1 (by omega) (by simp [WT, evA]) (split_iter true r 47 hn1 hno) rfl (fun l hl => ?_) (AlN.env (by simp [AlL, Al]))
    (fun pre => if pre = [] then (heapOf [(0, .row true 45 [.v (.slice none 0 0)])], 2) else (heapOf [(0, .row true 45 [.os 1 0 1 1]), (1, .row true 9 [.v (.string r)])], 2)) rfl (fun pre => by split <;> exact (by decide : 1 ≤ 2)) (fun pre => ?_) (fun _ _ _ _ => False) (fun _ _ _ _ h => h.elim) (fun pre i hpl => ?_) ?_ (fun j e σ nx _ hx => hx.elim)
  · simp at hl; subst hl; exact ⟨AlNL.of ⟨trivial, trivial⟩, rfl⟩
  · split
    · exact NoM.of (by rintro i y e cells h; simp at h; obtain ⟨_, _, rfl, _⟩ := h; decide)
    · exact NoM.of (by rintro i y e cells h; simp at h; rcases h with ⟨_, _, rfl, _⟩ | ⟨_, _, rfl, _⟩ <;> decide)
  · obtain rfl : pre = [] := by simpa using hpl
    have hi : ([[AV.v (.string r)]] : List (List AV))[i] = [.v (.string r)] := by
      match i with
      | ⟨0, _⟩ => rfl
    have hne2 : (r = ByteArray.mk #[]) = False := eq_false hne
    rw [hi]
    simp only [L_sq, bindP, mvE, strOp, hne2, decide_false, Bool.not_false, if_true, TT, ↓reduceIte, Nat.reduceEqDiff, Nat.reduceAdd, Nat.reduceMul, reduceCtorEq, Nat.reduceLeDiff]
    show Weak 34 1 _ ⟨envOf [], heapOf [(0, .row true 45 [.os 1 0 1 1]), (1, .row true 9 [.v (.string r)])], 2⟩
    refine Weak.calc [(0, 0), (500002, 1)] (by decide) ?_ ?_ <;> simp [WT]
  · have hF : List.finRange ([[AV.v (.string r)]] : List (List AV)).length ≠ [] := by show List.finRange 1 ≠ []; decide
    have hm := fun nb hid => named1_spec r true 1 nb hn hid
    simp only [rowsM] at hm
    simp only [L_sq, hF, if_false, TT, ↓reduceIte, Nat.reduceEqDiff, Nat.reduceAdd, Nat.reduceMul, reduceCtorEq, Nat.reduceLeDiff]
    refine ⟨_, hm _ (by decide), ?_⟩
    simp only [decide_true, Bool.not_true, TT, ↓reduceIte, Nat.reduceEqDiff, Nat.reduceAdd, Nat.reduceMul, reduceCtorEq, Nat.reduceLeDiff]
    refine Ends.weak (Weak.freezeC 1 rfl (l := [(2, .fs true [.v (.string r)] 1), (3, .v (.int .i64 0))]) (h := []) ?_ ?_) (Ends.data (.inr rfl) (by simp [ET, fS, eS]) ⟨⟨trivial, trivial⟩, trivial, trivial⟩)
    · simp [WT]
    · trivial
end Go.Proofs.YtonglhkiobibgaaGreatDoor
namespace Go.Proofs.YtonglhkiobibgaaGreatDoor
open Go.RowKit
set_option maxRecDepth 100000
theorem cloneN_ok (fr : Bool) (l : List Nd) (nb : Nat) (h0 : l ≠ []) (h : l.length ≤ 1000000000000) : ASound Tryz.prog 129 [fNds fr l] nb (.ret (.os nb 0 l.length 6) [(nb, some (.row true 118 (eNds fr l)))]) := by
  refine ok_129.sound (by simp) ⟨al_fNds l, trivial⟩ ?_
  have hn : ¬ l.length = 0 := fun e => h0 (List.eq_nil_of_length_eq_zero e)
  simp only [ac_129, fNds, len_Nds, hn, TT, ↓reduceIte, Nat.reduceEqDiff, Nat.reduceAdd, Nat.reduceMul, reduceCtorEq, Nat.reduceLeDiff]
  rw [if_pos (by omega)]
  exact Ends.rows1 (i := 500000) (r0 := .os 500000 0 l.length 6) (.inr rfl) (by simp [ET]) rfl (al_Nds l) (by simp [Al]) (by simp [ren, rn])
theorem cloneE_nil (fr : Bool) (nb : Nat) : ASound Tryz.prog 130 [.fs fr [] 0] nb (.ret (.fs true [] 0) []) := by
  refine ASound.nil1 fun A k => ?_
  refine ok_130.sound (by simp) ⟨trivial, trivial⟩ ?_
  cases A with
  | none =>
    simp only [ac_130, TT, ↓reduceIte, Nat.reduceEqDiff, Nat.reduceAdd, Nat.reduceMul, reduceCtorEq, Nat.reduceLeDiff]
    exact Ends.imp (r0 := .v (.slice none 0 0)) (.inr rfl) (by simp [ET]) trivial (Imp.nil true)
  | some A =>
    simp only [ac_130, TT, ↓reduceIte, Nat.reduceEqDiff, Nat.reduceAdd, Nat.reduceMul, reduceCtorEq, Nat.reduceLeDiff]
    refine Ends.weak (Weak.freezeC 500000 rfl (l := [(2, .fs true [] 0)]) (h := []) ?_ ?_) (Ends.data (.inr rfl) (by simp [ET]) trivial)
    · simp [WT]
    · simp [WT]
theorem cloneK_nil (fr : Bool) (nb : Nat) : ASound Tryz.prog 131 [.fs fr [] 0] nb (.ret (.fs true [] 0) []) := by
  refine ASound.nil1 fun A k => ?_
  refine ok_131.sound (by simp) ⟨trivial, trivial⟩ ?_
  cases A with
  | none =>
    simp only [ac_131, TT, ↓reduceIte, Nat.reduceEqDiff, Nat.reduceAdd, Nat.reduceMul, reduceCtorEq, Nat.reduceLeDiff]
    exact Ends.imp (r0 := .v (.slice none 0 0)) (.inr rfl) (by simp [ET]) trivial (Imp.nil true)
  | some A =>
    simp only [ac_131, TT, ↓reduceIte, Nat.reduceEqDiff, Nat.reduceAdd, Nat.reduceMul, reduceCtorEq, Nat.reduceLeDiff]
    refine Ends.weak (Weak.freezeC 500000 rfl (l := [(2, .fs true [] 0)]) (h := []) ?_ ?_) (Ends.data (.inr rfl) (by simp [ET]) trivial)
    · simp [WT]
    · simp [WT]
def cNew (a b : Bool) : List AV := [.v (.int .i64 1), .v (.bool true), .v (.int .i64 0), .fs a [] 0, .v (.int .i64 0), .fs b [] 0]
theorem eNew (fr : Bool) : eNds fr newF.nodes = cNew fr fr := by simp [eNds, newF, eNd, fEnts, eEnts, fBks, eBks, cNew]
def h_sm (a : Bool) : List (Nat × AObj) := [(0, .row true 28 [.os 2 0 1 6, .v (.int .i64 2)]), (1, .row true 28 [.v (.slice none 0 0), .v (.int .i64 0)]), (2, .row true 118 (cNew a a))]
abbrev L_sm (fr : Bool) (i : Nat) : ASt := ⟨envOf [(1, .op 0 0), (2, .op 1 0), (12, .v (.int .i64 1)), (13, .v (.int .i64 i))], heapOf (h_sm (if i = 0 then fr else true)), 3⟩
abbrev L_sm2 : ASt := ⟨envOf [(1, .op 0 0), (2, .op 1 0), (4, .op 2 0), (12, .v (.int .i64 1)), (13, .v (.int .i64 0)), (43, .v (.int .i64 0)), (44, .v (.int .i64 0))], heapOf (h_sm true), 3⟩
set_option maxHeartbeats 2000000 in
theorem same0_spec (fr : Bool) (nb : Nat) : ASound Tryz.prog 89 [aFs fr newF] nb (.ret (aFs true newF) []) := by
  refine ok_89.sound (by simp) ⟨al_aFs newF, trivial⟩ ?_
  have hc := fun nb => cloneN_ok fr newF.nodes nb (by simp [newF]) (by simp [newF])
  have hl : newF.nodes.length = 1 := rfl
  have hx : newF.next = 2 := rfl
  have z1 : ((0 : Int) < ((1 : Nat) : Int)) = True := eq_true (by decide)
  simp only [fNds, eNew, hl] at hc
  simp only [ac_89, aFs, fNds, eNew, hl, hx, TT, ↓reduceIte, Nat.reduceEqDiff, Nat.reduceAdd, Nat.reduceMul, reduceCtorEq, Nat.reduceLeDiff]
  refine ⟨_, hc _, ?_⟩
  simp only [TT, ↓reduceIte, Nat.reduceEqDiff, Nat.reduceAdd, Nat.reduceMul, reduceCtorEq, Nat.reduceLeDiff]
  refine AWc.family (L_sm fr) (fun i => i ≤ 1) (fun i => 1 - i) 0 (Nat.zero_le _) ?_ ?_
  · refine Weak.calc [(0, 0), (100000, 1), (400000, 2)] (by decide) ?_ ?_ <;> simp [WT, h_sm, cNew]
  · intro i hi
    rcases Nat.lt_or_ge 0 i with h | h
    · obtain rfl : i = 1 := by omega
      have e2 : ((1 : Int) < 1) = False := eq_false (by decide)
      simp only [L_sm, h_sm, cNew, Int.natCast_one, e2, show ¬ (1 : Nat) = 0 from by decide, if_false, TT, ↓reduceIte, Nat.reduceEqDiff, Nat.reduceAdd, Nat.reduceMul, reduceCtorEq, Nat.reduceLeDiff]
      refine Ends.weak (Weak.freezeC 2 rfl (l := [(2, .op 1 0)]) (h := [(1, .row true 28 [.fs true (cNew true true) 1, .v (.int .i64 2)])]) ?_ ?_) (Ends.data (.inr rfl) (by simp [ET, aFs, fNds, eNew, hl, hx, cNew]) ⟨⟨trivial, trivial, trivial, trivial, trivial, trivial, trivial⟩, trivial, trivial⟩)
      · simp [WT]
      · simp [WT, cNew]
    · obtain rfl : i = 0 := by omega
      have z0 : ((0 : Int) ≤ 0) = True := eq_true (by decide)
      have z2 : ((0 : Int) < 1) = True := eq_true (by decide)
      have z3 : ((0 : Int) < 0) = False := eq_false (by decide)
      have hE := fun nb => cloneE_nil fr nb
      have hK := fun nb => cloneK_nil fr nb
      simp only [L_sm, h_sm, cNew, if_true, Int.natCast_zero, Int.natCast_one, z0, z2, Int.toNat_zero, TT, ↓reduceIte, Nat.reduceEqDiff, Nat.reduceAdd, Nat.reduceMul, reduceCtorEq, Nat.reduceLeDiff]
      refine ⟨_, hE _, ?_⟩
      simp only [TT, ↓reduceIte, Nat.reduceEqDiff, Nat.reduceAdd, Nat.reduceMul, reduceCtorEq, Nat.reduceLeDiff]
      refine ⟨_, hK _, ?_⟩
      simp only [TT, ↓reduceIte, Nat.reduceEqDiff, Nat.reduceAdd, Nat.reduceMul, reduceCtorEq, Nat.reduceLeDiff]
      refine AWc.family (fun _ : Unit => L_sm2) (fun _ => True) (fun _ => 0) () trivial ?_ ?_
      · refine Weak.calc [(0, 0), (1, 1), (2, 2)] (by decide) ?_ ?_ <;> simp [WT, h_sm, cNew]
      · intro _ _
        simp only [L_sm2, h_sm, cNew, z3, TT, ↓reduceIte, Nat.reduceEqDiff, Nat.reduceAdd, Nat.reduceMul, reduceCtorEq, Nat.reduceLeDiff]
        refine famC_next 1 (by decide) (by decide) ?_
        refine Weak.calc [(0, 0), (1, 1), (2, 2)] (by decide) ?_ ?_ <;> simp [WT, h_sm, cNew, show IntKind.i64.wrap 1 = 1 from by rfl]
def pX : ByteArray := ByteArray.mk #[47, 120]
def rX : ByteArray := ByteArray.mk #[120]
theorem chk_new : chkFs newF = 0 := by kernel_rfl
theorem walk_new : walkF newF 1 [rX] = .error (101, rX) := by kernel_rfl
theorem name_x : nameE rX = 0 := by kernel_rfl
theorem split_x (nb : Nat) : ASound Tryz.prog 110 [.v (.string pX)] nb (.ret (.tup [fS true [rX], .v (.int .i64 0)]) []) :=
  split1_spec pX rX nb (by decide) (by decide) (by kernel_rfl) (by kernel_rfl) (by intro h; cases h) (by kernel_rfl) (by simp [rX]) name_x
theorem readX_spec (fr : Bool) (off n : Int) (nb : Nat) : ASound Tryz.prog 26 [aFs fr newF, .v (.string pX), .v (.int .i64 off), .v (.int .i64 n)] nb (.ret (.tup [.v (.slice none 0 0), .v (.int .i64 101)]) []) :=
  read0_spec fr newF pX off n [rX] 101 rX nb (by decide) (by simp [newF]) split_x chk_new (by simp) walk_new
end Go.Proofs.YtonglhkiobibgaaGreatDoor
namespace Go.Proofs.YtonglhkiobibgaaGreatDoor
open Go.RowKit
set_option maxRecDepth 100000
def repX : AV := .agg [.v (.int .i64 101), .v (.int .i64 0), .v (.slice none 0 0), .v (.slice none 0 0)]
set_option maxHeartbeats 1000000 in
theorem lookX_spec (fr fo : Bool) (o : OpD) (nb : Nat) (hk : o.kind = 9) (hp : o.path = pX) : ASound Tryz.prog 90 [aFs fr newF, aOp fo o] nb (.ret repX []) := by
  refine ok_90.sound (by simp) ⟨al_aFs newF, al_aOp o, trivial⟩ ?_
  have hr := fun nb => readX_spec fr o.off o.n nb
  simp only [aFs, fNds] at hr
  have g : ((9 : Int) = 9) = True := eq_true rfl
  simp only [ac_90, aFs, fNds, aOp, fB, hk, hp, g, decide_true, TT, ↓reduceIte, Nat.reduceEqDiff, Nat.reduceAdd, Nat.reduceMul, reduceCtorEq, Nat.reduceLeDiff]
  refine ⟨_, hr _, ?_⟩
  simp only [TT, ↓reduceIte, Nat.reduceEqDiff, Nat.reduceAdd, Nat.reduceMul, reduceCtorEq, Nat.reduceLeDiff]
  exact Ends.data (.inr rfl) (by simp [ET, repX]) ⟨trivial, trivial, trivial, trivial, trivial⟩
def opX : OpD := { kind := 9, path := pX, to := ByteArray.mk #[], off := 0, n := 9, data := [] }
theorem opchk_x : opChk opX = 0 := by kernel_rfl
set_option maxHeartbeats 1000000 in
theorem applyX_spec (fr fo : Bool) (nb : Nat) : ASound Tryz.prog 34 [aFs fr newF, aOp fo opX] nb (.ret (.tup [aFs true newF, repX, .v (.int .i64 0)]) []) := by
  refine ok_34.sound (by simp) ⟨al_aFs newF, al_aOp opX, trivial⟩ ?_
  have hk := fun nb => fsCheck_spec fr newF nb (by decide) (by simp [newF])
  have ho := fun nb => opCheck_spec fo opX nb
  have hs := fun nb => same0_spec fr nb
  have hl := fun nb => lookX_spec fr fo opX nb rfl rfl
  rw [chk_new] at hk
  rw [opchk_x] at ho
  have g : ((9 : Int) ≤ 9) = True := eq_true (by decide)
  have hkd : opX.kind = 9 := rfl
  simp only [aFs, fNds, aOp, fB, hkd] at hk ho hs hl
  simp only [ac_34, aFs, fNds, aOp, fB, hkd, TT, ↓reduceIte, Nat.reduceEqDiff, Nat.reduceAdd, Nat.reduceMul, reduceCtorEq, Nat.reduceLeDiff]
  refine ⟨_, hk _, ?_⟩
  simp only [decide_true, Bool.not_true, TT, ↓reduceIte, Nat.reduceEqDiff, Nat.reduceAdd, Nat.reduceMul, reduceCtorEq, Nat.reduceLeDiff]
  refine ⟨_, ho _, ?_⟩
  simp only [decide_true, Bool.not_true, g, TT, ↓reduceIte, Nat.reduceEqDiff, Nat.reduceAdd, Nat.reduceMul, reduceCtorEq, Nat.reduceLeDiff]
  refine ⟨_, hs _, ?_⟩
  simp only [TT, ↓reduceIte, Nat.reduceEqDiff, Nat.reduceAdd, Nat.reduceMul, reduceCtorEq, Nat.reduceLeDiff]
  refine ⟨_, hl _, ?_⟩
  simp only [repX, TT, ↓reduceIte, Nat.reduceEqDiff, Nat.reduceAdd, Nat.reduceMul, reduceCtorEq, Nat.reduceLeDiff]
  exact ⟨by rfl, Ends.data (.inr rfl) (by simp [ET, repX, aFs, fNds]) ⟨⟨al_fNds _, trivial, trivial⟩, ⟨trivial, trivial, trivial, trivial, trivial⟩, trivial, trivial⟩⟩
end Go.Proofs.YtonglhkiobibgaaGreatDoor
namespace Go.Proofs.YtonglhkiobibgaaGreatDoor
open Go.RowKit
set_option maxRecDepth 100000
theorem num11_spec (e : Int) (nb : Nat) : ASound Tryz.prog 35 [.v (.int .i64 e)] nb (.ret (.v (.int .i64 e)) []) := by
  refine ok_35.sound (by simp) ⟨trivial, trivial⟩ ?_
  simp only [ac_35, TT, ↓reduceIte, Nat.reduceEqDiff, Nat.reduceAdd, Nat.reduceMul, reduceCtorEq, Nat.reduceLeDiff]
  exact Ends.data (.inr rfl) (by simp [ET]) trivial
abbrev rawOp (k : Int) (p : ByteArray) (n : Int) : AV := .agg [.v (.int .i64 k), .v (.string p), .v (.string (ByteArray.mk #[])), .v (.int .i64 0), .v (.int .i64 n), nilA0]
theorem applyR_spec (fr : Bool) (nb : Nat) : ASound Tryz.prog 34 [aFs fr newF, rawOp 9 pX 9] nb (.ret (.tup [aFs true newF, repX, .v (.int .i64 0)]) []) :=
  (applyX_spec fr false nb).args ⟨Imp.refl _, Imp.aggL ⟨Imp.refl _, Imp.refl _, Imp.refl _, Imp.refl _, Imp.refl _, Imp.nil _, trivial⟩, trivial⟩
theorem encS_spec (nb : Nat) : ∃ l : List Int, 0 < l.length ∧ ASound Tryz.prog 43 [rawOp 12 (ByteArray.mk #[]) 0] nb (.ret (.tup [fB true l, .v (.int .i64 0)]) []) := by
  have h := opEncode_spec false ⟨12, ByteArray.mk #[], ByteArray.mk #[], 0, 0, []⟩ nb (by simp [i64ok]) (by simp [i64ok])
  have e1 : encO ⟨12, ByteArray.mk #[], ByteArray.mk #[], 0, 0, []⟩ = encode (opRec ⟨12, ByteArray.mk #[], ByteArray.mk #[], 0, 0, []⟩) := by rw [encO, if_pos (by decide)]
  have e2 : (encode (opRec ⟨12, ByteArray.mk #[], ByteArray.mk #[], 0, 0, []⟩)).2 = 0 := by rw [encode, if_pos (by decide)]
  have e3 : 0 < (encode (opRec ⟨12, ByteArray.mk #[], ByteArray.mk #[], 0, 0, []⟩)).1.length := by rw [encode, if_pos (by decide)]; simp [sealB, low_length]
  rw [e1, e2] at h
  exact ⟨_, e3, h.args ⟨Imp.aggL ⟨Imp.refl _, Imp.refl _, Imp.refl _, Imp.refl _, Imp.refl _, Imp.nil _, trivial⟩, trivial⟩⟩
theorem alive11 (nb : Nat) : ASound Tryz.prog 33 [] nb (.ret (.v (.bool true)) []) := by
  refine ok_33.sound (by simp) trivial ?_
  have hn := new_spec
  have ha := applyR_spec true
  simp only [aFs, fNds, rawOp, pX] at hn ha
  obtain ⟨l, hl, he⟩ := encS_spec 1400000
  simp only [rawOp] at he
  simp only [ac_33, TT, ↓reduceIte, Nat.reduceEqDiff, Nat.reduceAdd, Nat.reduceMul, reduceCtorEq, Nat.reduceLeDiff]
  refine ⟨_, hn _, ?_⟩
  simp only [TT, ↓reduceIte, Nat.reduceEqDiff, Nat.reduceAdd, Nat.reduceMul, reduceCtorEq, Nat.reduceLeDiff]
  refine ⟨_, ha _, ?_⟩
  simp only [repX, TT, ↓reduceIte, Nat.reduceEqDiff, Nat.reduceAdd, Nat.reduceMul, reduceCtorEq, Nat.reduceLeDiff]
  refine ⟨_, he, ?_⟩
  simp only [TT, ↓reduceIte, Nat.reduceEqDiff, Nat.reduceAdd, Nat.reduceMul, reduceCtorEq, Nat.reduceLeDiff]
  refine ⟨_, num11_spec _ _, ?_⟩
  simp only [TT, ↓reduceIte, Nat.reduceEqDiff, Nat.reduceAdd, Nat.reduceMul, reduceCtorEq, Nat.reduceLeDiff]
  refine ⟨_, num11_spec _ _, ?_⟩
  have w : IntKind.i64.wrap (0 + 0) = 0 := by rfl
  have g1 : ((0 : Int) = 0) = True := eq_true rfl
  have g2 : ((101 : Int) = 101) = True := eq_true rfl
  have g3 : ((0 : Int) < (l.length : Int)) = True := eq_true (by omega)
  simp only [w, g1, g2, g3, decide_true, TT, ↓reduceIte, Nat.reduceEqDiff, Nat.reduceAdd, Nat.reduceMul, reduceCtorEq, Nat.reduceLeDiff]
  exact Ends.data (.inr rfl) (by simp [ET]) trivial
end Go.Proofs.YtonglhkiobibgaaGreatDoor
namespace Go.Proofs.YtonglhkiobibgaaGreatDoor
open Go.RowKit
set_option maxRecDepth 100000
theorem len2 {α : Type} {l : List α} (h : l.length = 2) : ∃ a b, l = [a, b] := by
  match l, h with
  | [a, b], _ => exact ⟨a, b, rfl⟩
end Go.Proofs.YtonglhkiobibgaaGreatDoor
namespace Go.Proofs.YtonglhkiobibgaaGreatDoor
set_option maxRecDepth 100000
def ac_11 : AC :=
(.seq (.reg false [⟨some 2, .box 57 (.tmp 0), none, [0], []⟩,
    ⟨some 4, .mv (.const (.bool false)), none, [], []⟩] [1, 2])
(.seq (.reg true [⟨some 15, .load true 4 (.tmp 2), none, [2], []⟩,
    ⟨some 16, .mv (.tmp 1), none, [1], []⟩,
    ⟨some 17, .call 42 [(.tmp 16)], none, [16], [1]⟩,
    ⟨some 5, .new 57 [(.int .i64 (0)), (.int .i64 (0)), (.slice none 0 0), (.slice none 0 0)], none, [], []⟩,
    ⟨none, .store 4 (.tmp 5) (.tmp 15), none, [5, 15], [3, 0, 2, 1]⟩,
    ⟨some 6, .mv (.tmp 17), none, [17], [2, 4, 0, 1, 3]⟩] [1, 2, 5, 6])
(.seq (.reg true [⟨some 18, .foff 2 (.tmp 2), none, [2], []⟩,
    ⟨some 19, .load false 1 (.tmp 18), none, [18], [0]⟩,
    ⟨some 20, .call 42 [(.tmp 19)], none, [19], [1, 0]⟩,
    ⟨some 21, .foff 3 (.tmp 2), none, [2], []⟩,
    ⟨some 22, .load false 1 (.tmp 21), none, [21], [3]⟩,
    ⟨some 23, .call 50 [(.tmp 22)], none, [22], [4, 2, 3, 1, 0]⟩,
    ⟨some 24, .foff 2 (.tmp 5), none, [5], [0, 1, 2]⟩,
    ⟨none, .store 1 (.tmp 24) (.tmp 20), none, [24, 20], [6, 2, 5, 0, 1, 4, 3]⟩,
    ⟨some 25, .foff 3 (.tmp 5), none, [5], [0, 1, 2, 3, 4, 5, 6, 7]⟩,
    ⟨none, .store 1 (.tmp 25) (.tmp 23), none, [25, 23], [8, 5, 7, 0, 1, 2, 3, 4, 6]⟩] [1, 2, 5, 6])
(.seq (.reg false [⟨some 27, .load true 4 (.tmp 5), none, [5], []⟩,
    ⟨some 28, .call 51 [(.tmp 27)], none, [27], []⟩,
    ⟨some 26, .mv (.tmp 28), none, [28], []⟩,
    ⟨some 29, .ext 0 (.tmp 26), none, [26], []⟩,
    ⟨some 30, .ext 1 (.tmp 26), none, [26], []⟩,
    ⟨some 7, .mv (.tmp 29), none, [29], []⟩,
    ⟨some 8, .mv (.tmp 30), none, [30], []⟩] [1, 2, 5, 6, 7, 8])
(.seq (.reg false [⟨some 32, .load true 4 (.tmp 2), none, [2], []⟩,
    ⟨some 33, .call 52 [(.tmp 32)], none, [32], []⟩,
    ⟨some 31, .mv (.tmp 33), none, [33], []⟩,
    ⟨some 34, .ext 0 (.tmp 31), none, [31], []⟩,
    ⟨some 35, .ext 1 (.tmp 31), none, [31], []⟩,
    ⟨some 9, .mv (.tmp 34), none, [34], []⟩,
    ⟨some 10, .mv (.tmp 35), none, [35], []⟩] [1, 2, 5, 6, 7, 8, 9, 10])
(.seq (.reg false [⟨some 37, .mv (.tmp 6), none, [6], []⟩,
    ⟨some 38, .call 53 [(.tmp 37)], none, [37], []⟩,
    ⟨some 36, .mv (.tmp 38), none, [38], []⟩,
    ⟨some 39, .ext 0 (.tmp 36), none, [36], []⟩,
    ⟨some 40, .ext 1 (.tmp 36), none, [36], []⟩,
    ⟨some 11, .new 57 [(.int .i64 (0)), (.int .i64 (0)), (.slice none 0 0), (.slice none 0 0)], none, [], []⟩,
    ⟨none, .store 4 (.tmp 11) (.tmp 39), none, [11, 39], []⟩,
    ⟨some 12, .mv (.tmp 40), none, [40], []⟩] [1, 2, 5, 6, 7, 8, 9, 10, 11, 12])
(.seq (.reg false [⟨some 42, .mv (.tmp 1), none, [1], []⟩,
    ⟨some 43, .call 54 [(.tmp 42)], none, [42], []⟩,
    ⟨some 41, .mv (.tmp 43), none, [43], []⟩,
    ⟨some 44, .ext 0 (.tmp 41), none, [41], []⟩,
    ⟨some 45, .ext 1 (.tmp 41), none, [41], []⟩,
    ⟨some 13, .new 57 [(.int .i64 (0)), (.int .i64 (0)), (.slice none 0 0), (.slice none 0 0)], none, [], []⟩,
    ⟨none, .store 4 (.tmp 13) (.tmp 44), none, [13, 44], []⟩,
    ⟨some 14, .mv (.tmp 45), none, [45], []⟩] [1, 2, 5, 6, 7, 8, 9, 10, 11, 12, 13, 14])
(.seq (.reg false [⟨some 46, .mv (.tmp 7), none, [7], []⟩,
    ⟨some 47, .mv (.tmp 9), none, [9], []⟩,
    ⟨some 48, .call 27 [(.tmp 46), (.tmp 47)], none, [46, 47], []⟩,
    ⟨some 49, .mv (.tmp 48), none, [48], []⟩,
    ⟨some 50, .mv (.tmp 8), some (49, true), [8, 49], []⟩,
    ⟨some 51, .call 35 [(.tmp 50)], some (49, true), [50, 49], []⟩,
    ⟨some 52, .mv (.tmp 10), some (49, true), [10, 49], []⟩,
    ⟨some 53, .bin .eql (.tmp 51) (.tmp 52), some (49, true), [51, 52, 49], []⟩,
    ⟨some 54, .pick (.tmp 49) (.tmp 53) (.const (.bool false)), none, [49, 53], []⟩,
    ⟨some 55, .mv (.tmp 54), none, [54], []⟩,
    ⟨some 56, .load true 4 (.tmp 11), some (55, true), [11, 55], []⟩,
    ⟨some 57, .load true 4 (.tmp 13), some (55, true), [13, 55], []⟩,
    ⟨some 58, .call 40 [(.tmp 56), (.tmp 57)], some (55, true), [56, 57, 55], []⟩,
    ⟨some 59, .pick (.tmp 55) (.tmp 58) (.const (.bool false)), none, [55, 58], []⟩,
    ⟨some 60, .mv (.tmp 59), none, [59], []⟩,
    ⟨some 61, .mv (.tmp 12), some (60, true), [12, 60], []⟩,
    ⟨some 62, .call 35 [(.tmp 61)], some (60, true), [61, 60], []⟩,
    ⟨some 63, .mv (.tmp 14), some (60, true), [14, 60], []⟩,
    ⟨some 64, .bin .eql (.tmp 62) (.tmp 63), some (60, true), [62, 63, 60], []⟩,
    ⟨some 65, .pick (.tmp 60) (.tmp 64) (.const (.bool false)), none, [60, 64], []⟩,
    ⟨some 66, .mv (.tmp 65), none, [65], []⟩,
    ⟨some 67, .load true 4 (.tmp 5), some (66, true), [5, 66], []⟩,
    ⟨some 68, .load true 4 (.tmp 2), some (66, true), [2, 66], []⟩,
    ⟨some 69, .call 40 [(.tmp 67), (.tmp 68)], some (66, true), [67, 68, 66], []⟩,
    ⟨some 70, .pick (.tmp 66) (.tmp 69) (.const (.bool false)), none, [66, 69], []⟩,
    ⟨some 71, .mv (.tmp 70), none, [70], []⟩,
    ⟨some 72, .mv (.tmp 6), some (71, true), [6, 71], []⟩,
    ⟨some 73, .mv (.tmp 1), some (71, true), [1, 71], []⟩,
    ⟨some 74, .call 27 [(.tmp 72), (.tmp 73)], some (71, true), [72, 73, 71], []⟩,
    ⟨some 75, .pick (.tmp 71) (.tmp 74) (.const (.bool false)), none, [71, 74], []⟩,
    ⟨some 76, .mv (.tmp 75), none, [75], []⟩,
    ⟨some 77, .call 33 [], some (76, true), [76], []⟩,
    ⟨some 78, .pick (.tmp 76) (.tmp 77) (.const (.bool false)), none, [76, 77], []⟩,
    ⟨some 4, .mv (.tmp 78), none, [78], []⟩] [4])
.ret))))))))
theorem ok_11 : FnOk Tryz.prog 11 79 ac_11 [.tmp 4] := ⟨Tryz.f11, Tryz.func11, by kernel_rfl, by kernel_rfl, by kernel_rfl, by kernel_rfl, by kernel_rfl⟩
end Go.Proofs.YtonglhkiobibgaaGreatDoor
namespace Go.Proofs.YtonglhkiobibgaaGreatDoor
open Go.RowKit
set_option maxRecDepth 100000
theorem okR_of {r : Rec} (h : recE r = 0) : okR r := by
  unfold recE at h
  by_cases h1 : r.kind < 0 ∨ 255 < r.kind
  · rw [if_pos h1] at h; cases h
  rw [if_neg h1] at h
  by_cases h2 : 64 < r.nums.length ∨ 64 < r.texts.length
  · rw [if_pos h2] at h; cases h
  rw [if_neg h2] at h
  by_cases h3 : ∃ t ∈ r.texts, 4096 < t.length
  · rw [if_pos h3] at h; cases h
  exact ⟨h1, h2, fun t ht hl => h3 ⟨t, ht, hl⟩⟩
theorem encode_len {r : Rec} (hn : ∀ n ∈ r.nums, i64ok n) : (encode r).1.length ≤ 300004 := by
  rw [encode]
  split
  · rename_i h
    have h2 := h2_le (r := r) (okR_of h) hn r.texts.length
    rw [h2_all] at h2
    simp only [sealB, List.length_append, low_length]; omega
  · simp
end Go.Proofs.YtonglhkiobibgaaGreatDoor
namespace Go.Proofs.YtonglhkiobibgaaGreatDoor
open Go.RowKit
set_option maxRecDepth 100000
theorem copyS_spec (fr : Bool) (l : List ByteArray) (nb : Nat) (h : l.length ≤ 8796093022208) : ASound Tryz.prog 50 [fS fr l] nb (.ret (fS true l) []) := by
  refine ok_50.sound (by simp) ⟨al_fS l, trivial⟩ ?_
  have hm : (l.length * 16 ≤ 140737488355328) = True := eq_true (by omega)
  simp only [ac_50, fS, len_S, hm, if_true, TT, ↓reduceIte, Nat.reduceEqDiff, Nat.reduceAdd, Nat.reduceMul, reduceCtorEq, Nat.reduceLeDiff]
  refine Ends.weak (Weak.freezeC 400000 rfl (l := [(2, fS true l)]) (h := []) ?_ ?_) (Ends.data (.inr rfl) (by simp [ET, fS]) (al_fS l))
  · simp [WT, fS, tk_S]
  · simp [WT]
abbrev L_ss (fa fb : Bool) (l : List ByteArray) (i : Nat) : ASt := ⟨envOf [(0, fS fa l), (1, fS fb l), (5, .v (.int .i64 i))], heapOf [], 1⟩
theorem sameS_refl (fa fb : Bool) (l : List ByteArray) (nb : Nat) (h : l.length ≤ 140737488355328) : ASound Tryz.prog 95 [fS fa l, fS fb l] nb (.ret (.v (.bool true)) []) := by
  refine ok_95.sound (by simp) ⟨al_fS l, al_fS l, trivial⟩ ?_
  simp only [ac_95, fS, decide_true, Bool.not_true, TT, ↓reduceIte, Nat.reduceEqDiff, Nat.reduceAdd, Nat.reduceMul, reduceCtorEq, Nat.reduceLeDiff]
  refine AWc.family (L_ss fa fb l) (fun i => i ≤ l.length) (fun i => l.length - i) 0 (Nat.zero_le _) ?_ ?_
  · refine Weak.calc [] (by decide) ?_ ?_ <;> simp [WT, al_S, ren_S, fS]
  · intro i hi
    by_cases hlt : i < l.length
    · obtain ⟨x, hx, e1, e0⟩ := lt_at hlt
      simp only [L_ss, fS, e1, e0, get_S hx, Int.toNat_natCast, strOp, decide_true, Bool.not_true, TT, ↓reduceIte, Nat.reduceEqDiff, Nat.reduceAdd, Nat.reduceMul, reduceCtorEq, Nat.reduceLeDiff]
      refine ⟨by rfl, famC_next (i + 1) (by omega) (by omega) ?_⟩
      refine Weak.calc [] (by decide) ?_ ?_ <;> simp [WT, al_S, ren_S, fS, wrap64 (x := (i : Int) + 1) (by omega)]
    · obtain rfl : i = l.length := by omega
      have e1 : ¬ ((l.length : Int) < (l.length : Int)) := by omega
      simp only [L_ss, fS, e1, TT, ↓reduceIte, Nat.reduceEqDiff, Nat.reduceAdd, Nat.reduceMul, reduceCtorEq, Nat.reduceLeDiff]
      exact Ends.data (.inr rfl) (by simp [ET]) trivial
theorem sameRep_refl (fa fb : Bool) (r : RepD) (nb : Nat) (h : r.data.length ≤ 140737488355328) (hn : r.names.length ≤ 140737488355328) : ASound Tryz.prog 40 [aRep fa r, aRep fb r] nb (.ret (.v (.bool true)) []) := by
  refine ok_40.sound (by simp) ⟨al_aRep r, al_aRep r, trivial⟩ ?_
  have h1 := fun nb => sameBytes_spec fa fb r.data r.data nb h
  have h2 := fun nb => sameS_refl fa fb r.names nb hn
  simp only [fB, fS, decide_true] at h1 h2
  simp only [ac_40, aRep, fB, fS, decide_true, TT, ↓reduceIte, Nat.reduceEqDiff, Nat.reduceAdd, Nat.reduceMul, reduceCtorEq, Nat.reduceLeDiff]
  refine ⟨_, h1 _, ?_⟩
  simp only [TT, ↓reduceIte, Nat.reduceEqDiff, Nat.reduceAdd, Nat.reduceMul, reduceCtorEq, Nat.reduceLeDiff]
  refine ⟨_, h2 _, ?_⟩
  simp only [TT, ↓reduceIte, Nat.reduceEqDiff, Nat.reduceAdd, Nat.reduceMul, reduceCtorEq, Nat.reduceLeDiff]
  exact Ends.data (.inr rfl) (by simp [ET]) trivial
end Go.Proofs.YtonglhkiobibgaaGreatDoor
namespace Go.Proofs.YtonglhkiobibgaaGreatDoor
open Go.RowKit
set_option maxRecDepth 100000
abbrev L_rr (fr : Bool) (r : RepD) (i : Nat) : ASt := ⟨envOf [(1, .op 0 0), (3, .v (.int .i64 i))], heapOf [(0, .row true 57 [.v (.int .i64 r.err), .v (.int .i64 r.n), fB fr r.data, fS fr r.names])], 1⟩
set_option maxHeartbeats 2000000 in
theorem rreply_spec (fr : Bool) (r : RepD) (nb : Nat) : ASound Tryz.prog 102 [aRep fr r] nb (.ret (.v (.int .i64 (repChk r))) []) := by
  refine ok_102.sound (by simp) ⟨al_aRep r, trivial⟩ ?_
  by_cases c1 : r.err < 0
  · have e : repChk r = 4 := by rw [repChk, if_pos (.inl c1)]
    simp only [ac_102, aRep, fB, fS, c1, e, decide_true, TT, ↓reduceIte, Nat.reduceEqDiff, Nat.reduceAdd, Nat.reduceMul, reduceCtorEq, Nat.reduceLeDiff]
    exact Ends.data (.inr rfl) (by simp [ET]) trivial
  by_cases c2 : 65536 < r.err
  · have e : repChk r = 4 := by rw [repChk, if_pos (.inr (.inl c2))]
    simp only [ac_102, aRep, fB, fS, c1, c2, e, decide_true, decide_false, TT, ↓reduceIte, Nat.reduceEqDiff, Nat.reduceAdd, Nat.reduceMul, reduceCtorEq, Nat.reduceLeDiff]
    exact Ends.data (.inr rfl) (by simp [ET]) trivial
  by_cases c3 : r.n < 0
  · have e : repChk r = 4 := by rw [repChk, if_pos (.inr (.inr (.inl c3)))]
    simp only [ac_102, aRep, fB, fS, c1, c2, c3, e, decide_true, decide_false, TT, ↓reduceIte, Nat.reduceEqDiff, Nat.reduceAdd, Nat.reduceMul, reduceCtorEq, Nat.reduceLeDiff]
    exact Ends.data (.inr rfl) (by simp [ET]) trivial
  by_cases c4 : 2147483647 < r.n
  · have e : repChk r = 4 := by rw [repChk, if_pos (.inr (.inr (.inr c4)))]
    simp only [ac_102, aRep, fB, fS, c1, c2, c3, c4, e, decide_true, decide_false, TT, ↓reduceIte, Nat.reduceEqDiff, Nat.reduceAdd, Nat.reduceMul, reduceCtorEq, Nat.reduceLeDiff]
    exact Ends.data (.inr rfl) (by simp [ET]) trivial
  have e0 : repChk r = if 4096 < r.data.length then 5 else if 64 < r.names.length then 3 else if ∃ s ∈ r.names, 255 < s.size then 5 else 0 := by rw [repChk, if_neg (by omega)]
  by_cases c5 : 4096 < r.data.length
  · have e : repChk r = 5 := by rw [e0, if_pos c5]
    have d5 : ((4096 : Int) < (r.data.length : Int)) = True := eq_true (by omega)
    simp only [ac_102, aRep, fB, fS, c1, c2, c3, c4, d5, e, decide_true, decide_false, TT, ↓reduceIte, Nat.reduceEqDiff, Nat.reduceAdd, Nat.reduceMul, reduceCtorEq, Nat.reduceLeDiff]
    exact Ends.data (.inr rfl) (by simp [ET]) trivial
  have d5 : ((4096 : Int) < (r.data.length : Int)) = False := eq_false (by omega)
  by_cases c6 : 64 < r.names.length
  · have e : repChk r = 3 := by rw [e0, if_neg c5, if_pos c6]
    have d6 : ((64 : Int) < (r.names.length : Int)) = True := eq_true (by omega)
    simp only [ac_102, aRep, fB, fS, c1, c2, c3, c4, d5, d6, e, decide_true, decide_false, TT, ↓reduceIte, Nat.reduceEqDiff, Nat.reduceAdd, Nat.reduceMul, reduceCtorEq, Nat.reduceLeDiff]
    exact Ends.data (.inr rfl) (by simp [ET]) trivial
  have d6 : ((64 : Int) < (r.names.length : Int)) = False := eq_false (by omega)
  have e1 : repChk r = if ∃ s ∈ r.names, 255 < s.size then 5 else 0 := by rw [e0, if_neg c5, if_neg c6]
  rw [e1]
  simp only [ac_102, aRep, fB, fS, c1, c2, c3, c4, d5, d6, decide_false, TT, ↓reduceIte, Nat.reduceEqDiff, Nat.reduceAdd, Nat.reduceMul, reduceCtorEq, Nat.reduceLeDiff]
  refine AWc.family (L_rr fr r) (fun i => i ≤ r.names.length ∧ ¬ ∃ s ∈ r.names.take i, 255 < s.size) (fun i => r.names.length - i) 0 ⟨Nat.zero_le _, by simp⟩ ?_ ?_
  · refine Weak.calc [(0, 0)] (by decide) ?_ ?_ <;> simp [WT, al_S, ren_S, fS]
  · rintro i ⟨hi, he⟩
    by_cases hlt : i < r.names.length
    · obtain ⟨s, hx, g1, g0⟩ := lt_at hlt
      by_cases h : 255 < s.size
      · have t1 : ((255 : Int) < (s.size : Int)) = True := eq_true (by omega)
        have t2 : (∃ s ∈ r.names, 255 < s.size) := ⟨s, List.mem_of_getElem? hx, h⟩
        simp only [L_rr, fB, fS, g1, g0, get_S hx, Int.toNat_natCast, t1, decide_true, if_pos t2, TT, ↓reduceIte, Nat.reduceEqDiff, Nat.reduceAdd, Nat.reduceMul, reduceCtorEq, Nat.reduceLeDiff]
        exact Ends.data (.inr rfl) (by simp [ET]) trivial
      · have t1 : ((255 : Int) < (s.size : Int)) = False := eq_false (by omega)
        simp only [L_rr, fB, fS, g1, g0, get_S hx, Int.toNat_natCast, t1, decide_false, TT, ↓reduceIte, Nat.reduceEqDiff, Nat.reduceAdd, Nat.reduceMul, reduceCtorEq, Nat.reduceLeDiff]
        refine famC_next (i + 1) (by omega) ⟨by omega, ?_⟩ ?_
        · rw [take_snoc hx]
          rintro ⟨u, hu, hb⟩
          rcases List.mem_append.1 hu with h3 | h3
          · exact he ⟨u, h3, hb⟩
          · have : u = s := by simpa using h3
            rw [this] at hb; exact h hb
        · refine Weak.calc [(0, 0)] (by decide) ?_ ?_ <;> simp [WT, al_S, ren_S, fS, wrap64 (x := (i : Int) + 1) (by omega)]
    · obtain rfl : i = r.names.length := by omega
      have g1 : ¬ ((r.names.length : Int) < (r.names.length : Int)) := by omega
      rw [List.take_length] at he
      simp only [L_rr, fB, fS, g1, if_neg he, TT, ↓reduceIte, Nat.reduceEqDiff, Nat.reduceAdd, Nat.reduceMul, reduceCtorEq, Nat.reduceLeDiff]
      exact Ends.data (.inr rfl) (by simp [ET]) trivial
theorem rencodeR_b (fr : Bool) (r : RepD) (h1 : i64ok r.err) (h2 : i64ok r.n) (id1 id2 nb : Nat) (hne : id1 ≠ id2) : ASound Tryz.prog 97 [.agg [.v (.int .i64 0), .os id1 0 2 1, .os id2 0 (r.names.length + 1) 1]] nb
    (rowsM [(id1, true, 3, [.v (.int .i64 r.err), .v (.int .i64 r.n)]), (id2, true, 37, eTx fr r r.names.length)] (.ret (.tup [fB true (encode (repRec r)).1, .v (.int .i64 (encode (repRec r)).2)]) [])) := by
  refine ASound.borrow [] [(id1, true, 3, [.v (.int .i64 r.err), .v (.int .i64 r.n)]), (id2, true, 37, eTx fr r r.names.length)] ?_ (by simp [eTx]) (by simp) ⟨yg_fB _, trivial, trivial⟩ (by simp)
  have e : boL [(id1, true, 3, [.v (.int .i64 r.err), .v (.int .i64 r.n)]), (id2, true, 37, eTx fr r r.names.length)] [.agg [.v (.int .i64 0), .os id1 0 2 1, .os id2 0 (r.names.length + 1) 1]] = [aRec false (repRec r)] := by
    have e3 : (eTx fr r r.names.length).take (r.names.length + 1) = eTx fr r r.names.length := List.take_of_length_le (by rw [eTx_len fr r (Nat.le_refl _)]; exact Nat.le_refl _)
    simp [boL, bo, cellsAt, od, odL, fI, aRec, repRec, fL, eI, hne.symm, e3, od_eTx, txR]
  rw [e]
  exact rencode_spec false (repRec r) nb (by intro n hn; simp [repRec] at hn; rcases hn with rfl | rfl <;> assumption)
abbrev L_re (fr : Bool) (r : RepD) (i : Nat) : ASt := ⟨envOf [(1, .op 0 0), (5, .op 1 0), (6, .v (.int .i64 i))], heapOf [(0, .row true 57 [.v (.int .i64 r.err), .v (.int .i64 r.n), fB fr r.data, fS fr r.names]), (1, .row true 156 [.v (.int .i64 0), .os 2 0 2 1, .os 3 0 (i + 1) 1]), (2, .row true 3 [.v (.int .i64 r.err), .v (.int .i64 r.n)]), (3, .row true 37 (eTx fr r i))], 4⟩
set_option maxHeartbeats 2000000 in
theorem rRepEncode_spec (fr : Bool) (r : RepD) (nb : Nat) (h1 : i64ok r.err) (h2 : i64ok r.n) : ASound Tryz.prog 52 [aRep fr r] nb (.ret (.tup [fB true (encRep r).1, .v (.int .i64 (encRep r).2)]) []) := by
  refine ok_52.sound (by simp) ⟨al_aRep r, trivial⟩ ?_
  have hc := fun nb => rreply_spec fr r nb
  simp only [aRep, fB, fS] at hc
  simp only [ac_52, aRep, fB, fS, TT, ↓reduceIte, Nat.reduceEqDiff, Nat.reduceAdd, Nat.reduceMul, reduceCtorEq, Nat.reduceLeDiff]
  refine ⟨_, hc _, ?_⟩
  by_cases h0 : ¬ repChk r = 0
  · have e : encRep r = ([], repChk r) := by rw [encRep, if_neg h0]
    simp only [h0, e, decide_false, Bool.not_false, TT, ↓reduceIte, Nat.reduceEqDiff, Nat.reduceAdd, Nat.reduceMul, reduceCtorEq, Nat.reduceLeDiff]
    exact Ends.imp (.inr rfl) (r0 := .tup [.v (.slice none 0 0), .v (.int .i64 (repChk r))]) (by simp [ET]) ⟨trivial, trivial, trivial⟩ (nilE _)
  replace h0 : repChk r = 0 := Decidable.not_not.1 h0
  have e : encRep r = encode (repRec r) := by rw [encRep, if_pos h0]
  have hn : r.names.length ≤ 64 := by
    unfold repChk at h0
    split at h0
    · cases h0
    · split at h0
      · cases h0
      · split at h0
        · cases h0
        · omega
  simp only [h0, e, decide_true, Bool.not_true, TT, ↓reduceIte, Nat.reduceEqDiff, Nat.reduceAdd, Nat.reduceMul, reduceCtorEq, Nat.reduceLeDiff]
  refine AWc.family (L_re fr r) (fun i => i ≤ r.names.length) (fun i => r.names.length - i) 0 (Nat.zero_le _) ?_ ?_
  · refine Weak.calc [(0, 0), (1700000, 1), (1200000, 2), (1500000, 3)] (by decide) ?_ ?_ <;> simp [WT, al_S, ren_S, fS, eTx]
  · intro i hi
    by_cases hlt : i < r.names.length
    · obtain ⟨s, hx, g1, g0⟩ := lt_at hlt
      have ls := eTx_len fr r hi
      simp only [L_re, fB, fS, g1, g0, get_S hx, Int.toNat_natCast, ls, eTx_s fr r hx, TT, ↓reduceIte, Nat.reduceEqDiff, Nat.reduceAdd, Nat.reduceMul, reduceCtorEq, Nat.reduceLeDiff]
      rw [if_pos (by omega)]
      refine ⟨by rfl, famC_next (i + 1) (by omega) (by omega) ?_⟩
      refine Weak.calc [(0, 0), (1, 1), (2, 2), (1400004, 3)] (by decide) ?_ ?_ <;> simp [WT, al_S, ren_S, fS, al_eTx, ren_eTx, wrap64 (x := (i : Int) + 1) (by omega)]
    · obtain rfl : i = r.names.length := by omega
      have g1 : ¬ ((r.names.length : Int) < (r.names.length : Int)) := by omega
      simp only [L_re, fB, fS, g1, TT, ↓reduceIte, Nat.reduceEqDiff, Nat.reduceAdd, Nat.reduceMul, reduceCtorEq, Nat.reduceLeDiff]
      refine ⟨_, rencodeR_b fr r h1 h2 _ _ _ (by omega), ?_⟩
      simp only [TT, ↓reduceIte, Nat.reduceEqDiff, Nat.reduceAdd, Nat.reduceMul, reduceCtorEq, Nat.reduceLeDiff]
      exact Ends.data (.inr rfl) (by simp [ET]) ⟨al_fB _, trivial, trivial⟩
end Go.Proofs.YtonglhkiobibgaaGreatDoor
namespace Go.Proofs.YtonglhkiobibgaaGreatDoor
open Go.RowKit
set_option maxRecDepth 100000
theorem many_len {α : Type} {f : List Int → α × Int × List Int} : ∀ (k : Nat) (l : List Int), (scMany f k l).1.length ≤ k
  | 0, l => Nat.le_refl _
  | k + 1, l => by
    rw [scMany]
    split
    · show 1 ≤ k + 1; omega
    · have := many_len (f := f) k (f l).2.2
      show (_ :: _).length ≤ _
      rw [List.length_cons]; omega
theorem list_len {α : Type} {f : List Int → α × Int × List Int} (l : List Int) : (scList f l).1.length ≤ 64 := by
  unfold scList
  split
  · exact Nat.zero_le _
  · rename_i h
    have h0 : (scCnt l).2.1 = 0 := Decidable.not_not.1 h
    have h1 := many_len (f := f) (scCnt l).1.toNat (scCnt l).2.2
    have h2 : (scCnt l).1.toNat ≤ 64 := by
      unfold scCnt at h0 ⊢
      simp only at h0 ⊢
      split at h0
      · cases h0
      · rename_i h9
        have : ¬ 64 < (scOct l).1 := fun h8 => h9 ⟨h0, h8⟩
        omega
    omega
theorem unzz_ok {m : Nat} (h : m < 2 ^ 64) : i64ok (unzz m) := by
  have e3 : (2 : Nat) ^ 64 = 18446744073709551616 := by decide
  unfold unzz i64ok
  split <;> omega
theorem many_num : ∀ (k : Nat) (l : List Int), okB l → ∀ n ∈ (scMany scNum k l).1, i64ok n
  | 0, l, _ => fun n hn => by simp [scMany] at hn
  | k + 1, l, hb => by
    have h1 : i64ok (scNum l).1 := unzz_ok (scGrp_lt l 0 0 hb (by decide) (by decide))
    rw [scMany]
    split
    · intro n hn
      rcases List.mem_singleton.1 hn with rfl
      exact h1
    · have h2 := many_num k (scNum l).2.2 (okB_sc hb (scNum_rest l))
      intro n hn
      rcases List.mem_cons.1 hn with rfl | hn
      · exact h1
      · exact h2 n hn
theorem dec_facts {l : List Int} (hb : okB l) : (dec l).1.texts.length ≤ 64 ∧ ∀ n ∈ (dec l).1.nums, i64ok n := by
  have hr : (rec0).texts.length ≤ 64 ∧ ∀ n ∈ (rec0).nums, i64ok n := ⟨Nat.zero_le _, by simp [rec0]⟩
  unfold dec
  split
  · exact hr
  · have ho := okB_open hb
    generalize (openB l).1 = b at ho
    unfold scRec
    simp only
    split
    · exact hr
    · split
      · exact hr
      · split
        · exact hr
        · split
          · exact hr
          · refine ⟨list_len _, ?_⟩
            have h1 : okB (scOct b).2.2 := by rw [scOct_rest]; exact okB_drop ho 1
            show ∀ n ∈ (scList scNum (scOct b).2.2).1, i64ok n
            unfold scList
            split
            · intro n hn; cases hn
            · exact many_num _ _ (by rw [scCnt_rest]; exact okB_drop h1 1)
def rep0D : RepD := ⟨0, 0, [], []⟩
/-- the reply that a record tells -/
def repOf (r : Rec) : RepD × Int :=
  if r.kind = 0 then
    match r.nums, r.texts with
    | [a, b], d :: ts => if repChk ⟨a, b, d, ts.map strOf⟩ = 0 then (⟨a, b, d, ts.map strOf⟩, 0) else (rep0D, repChk ⟨a, b, d, ts.map strOf⟩)
    | _, _ => (rep0D, 3)
  else (rep0D, 22)
theorem repOf_bad {r : Rec} (hk : r.kind = 0) (h : ¬ (r.nums.length = 2 ∧ ¬ r.texts.length = 0)) : repOf r = (rep0D, 3) := by
  unfold repOf
  rw [if_pos hk]
  split
  · rename_i h1 h2; exact absurd ⟨by rw [h1]; rfl, by rw [h2]; simp⟩ h
  · rfl
def decR (l : List Int) : RepD × Int := if (dec l).2 = 0 then repOf (dec l).1 else (rep0D, (dec l).2)
theorem rep_recE {r : RepD} (h : repChk r = 0) (hn : r.names.length ≤ 63) : recE (repRec r) = 0 := by
  unfold repChk at h
  split at h
  · cases h
  · split at h
    · cases h
    · rename_i hd
      split at h
      · cases h
      · split at h
        · cases h
        · rename_i hs
          unfold recE repRec
          rw [if_neg (by simp), if_neg (by simp; omega), if_neg]
          rintro ⟨t, ht, hl⟩
          rcases List.mem_cons.1 ht with rfl | ht
          · exact hd hl
          · obtain ⟨s, hs1, rfl⟩ := List.mem_map.1 ht
            rw [octL_len] at hl
            exact hs ⟨s, hs1, by omega⟩
theorem encRep_err {r : RepD} (hn : r.names.length ≤ 63) : (encRep r).2 = repChk r := by
  unfold encRep
  split
  · rename_i h
    rw [encode, if_pos (rep_recE h hn), h]
  · rfl
theorem impRep (e : Int) : Imp (.tup [.agg [.v (.int .i64 0), .v (.int .i64 0), .v (.slice none 0 0), .v (.slice none 0 0)], .v (.int .i64 e)]) (.tup [aRep true rep0D, .v (.int .i64 e)]) :=
  Imp.tupL ⟨Imp.aggL ⟨Imp.refl _, Imp.refl _, Imp.nil true, Imp.nil true, trivial⟩, Imp.refl _, trivial⟩
end Go.Proofs.YtonglhkiobibgaaGreatDoor
namespace Go.Proofs.YtonglhkiobibgaaGreatDoor
open Go.RowKit
set_option maxRecDepth 100000
/-- the names that are read -/
abbrev nmS (ts : List (List Int)) : List ByteArray := ts.map strOf
theorem nm_s {ts : List (List Int)} {i : Nat} {t : List Int} (h : ts[i]? = some t) : eS (nmS (ts.take i)) ++ [.v (.string (strOf t))] = eS (nmS (ts.take (i + 1))) := by
  rw [take_snoc h]; simp [nmS, eS]
theorem nm_len {ts : List (List Int)} {i : Nat} (h : i ≤ ts.length) : (eS (nmS (ts.take i))).length = i := by
  rw [len_S, List.length_map, List.length_take]; omega
theorem repE_b (fr : Bool) (x : RepD) (id nb : Nat) (h1 : i64ok x.err) (h2 : i64ok x.n) (hl : x.names.length ≤ 140737488355328) (hne : x.names ≠ []) :
    ASound Tryz.prog 51 [.agg [.v (.int .i64 x.err), .v (.int .i64 x.n), fB fr x.data, .os id 0 x.names.length 1]] nb
      (rowsM [(id, true, 9, eS x.names)] (.ret (.tup [fB true (encRep x).1, .v (.int .i64 (encRep x).2)]) [])) := by
  refine ASound.borrow [] [(id, true, 9, eS x.names)] ?_ (by simpa [eS] using hne) (by simp) ⟨yg_fB _, trivial, trivial⟩ (by simp)
  have e : boL [(id, true, 9, eS x.names)] [.agg [.v (.int .i64 x.err), .v (.int .i64 x.n), fB fr x.data, .os id 0 x.names.length 1]] = [aRep false x] := by
    simp [boL, bo, cellsAt, od, odL, aRep, fB, od_B, fS, tk_S, od_S]
  rw [e]
  exact repEncode_spec false x nb h1 h2 hl
theorem repE_0 (fr : Bool) (a b : Int) (d : List Int) (nb : Nat) (h1 : i64ok a) (h2 : i64ok b) :
    ASound Tryz.prog 51 [.agg [.v (.int .i64 a), .v (.int .i64 b), fB fr d, .v (.slice none 0 0)]] nb (.ret (.tup [fB true (encRep ⟨a, b, d, []⟩).1, .v (.int .i64 (encRep ⟨a, b, d, []⟩).2)]) []) :=
  (repEncode_spec fr ⟨a, b, d, []⟩ nb h1 h2 (by simp)).args ⟨Imp.aggL ⟨Imp.refl _, Imp.refl _, Imp.refl _, Imp.nil _, trivial⟩, trivial⟩
abbrev zRep : AObj := .row true 57 [.v (.int .i64 0), .v (.int .i64 0), .v (.slice none 0 0), .v (.slice none 0 0)]
def L_rd (a b : Int) (d : List Int) (ts : List (List Int)) : Nat → ASt
  | 0 => ⟨envOf [(2, .op 0 0), (6, .op 1 0), (53, fL true ts), (54, .v (.int .i64 ts.length)), (55, .v (.int .i64 0))], heapOf [(0, zRep), (1, .row true 57 [.v (.int .i64 a), .v (.int .i64 b), fB true d, .v (.slice none 0 0)])], 3⟩
  | i + 1 => ⟨envOf [(2, .op 0 0), (6, .op 1 0), (53, fL true ts), (54, .v (.int .i64 ts.length)), (55, .v (.int .i64 ((i + 1 : Nat) : Int)))], heapOf [(0, zRep), (1, .row true 57 [.v (.int .i64 a), .v (.int .i64 b), fB true d, .os 2 0 (i + 1) 1]), (2, .row true 9 (eS (nmS (ts.take (i + 1)))))], 3⟩
set_option maxHeartbeats 4000000 in
theorem repDecode_spec (fr : Bool) (l : List Int) (nb : Nat) (hb : okB l) (h : l.length ≤ 140737488355320) : ASound Tryz.prog 53 [fB fr l] nb (.ret (.tup [aRep true (decR l).1, .v (.int .i64 (decR l).2)]) []) := by
  refine ok_53.sound (by simp) ⟨al_fB l, trivial⟩ ?_
  have hd := fun nb => decode_spec fr l nb hb h
  obtain ⟨hf1, hf2⟩ := dec_facts hb
  simp only [fB] at hd
  simp only [ac_53, fB, TT, ↓reduceIte, Nat.reduceEqDiff, Nat.reduceAdd, Nat.reduceMul, reduceCtorEq, Nat.reduceLeDiff]
  refine ⟨_, hd _, ?_⟩
  by_cases h0 : ¬ (dec l).2 = 0
  · have e : decR l = (rep0D, (dec l).2) := if_neg h0
    simp only [h0, e, decide_false, Bool.not_false, TT, ↓reduceIte, Nat.reduceEqDiff, Nat.reduceAdd, Nat.reduceMul, reduceCtorEq, Nat.reduceLeDiff]
    exact Ends.imp (.inr rfl) (r0 := .tup [.agg [.v (.int .i64 0), .v (.int .i64 0), .v (.slice none 0 0), .v (.slice none 0 0)], .v (.int .i64 (dec l).2)]) (by simp [ET]) ⟨⟨trivial, trivial, trivial, trivial, trivial⟩, trivial, trivial⟩ (impRep _)
  replace h0 : (dec l).2 = 0 := Decidable.not_not.1 h0
  have e : decR l = repOf (dec l).1 := if_pos h0
  rw [e]
  simp only [h0, decide_true, Bool.not_true, TT, ↓reduceIte, Nat.reduceEqDiff, Nat.reduceAdd, Nat.reduceMul, reduceCtorEq, Nat.reduceLeDiff]
  generalize (dec l).1 = R at hf1 hf2 ⊢
  obtain ⟨k, ns, ts⟩ := R
  simp only at hf1 hf2
  by_cases hk : ¬ k = 0
  · have e3 : repOf ⟨k, ns, ts⟩ = (rep0D, 22) := if_neg hk
    simp only [hk, e3, decide_false, Bool.not_false, TT, ↓reduceIte, Nat.reduceEqDiff, Nat.reduceAdd, Nat.reduceMul, reduceCtorEq, Nat.reduceLeDiff]
    exact Ends.imp (.inr rfl) (r0 := .tup [.agg [.v (.int .i64 0), .v (.int .i64 0), .v (.slice none 0 0), .v (.slice none 0 0)], .v (.int .i64 22)]) (by simp [ET]) ⟨⟨trivial, trivial, trivial, trivial, trivial⟩, trivial, trivial⟩ (impRep _)
  replace hk : k = 0 := Decidable.not_not.1 hk
  subst hk
  by_cases h2 : ¬ ns.length = 2
  · have g : ((ns.length : Int) = 2) = False := eq_false (by omega)
    have e3 : repOf ⟨0, ns, ts⟩ = (rep0D, 3) := repOf_bad rfl (fun h9 => h2 h9.1)
    simp only [g, e3, decide_true, decide_false, Bool.not_true, Bool.not_false, TT, ↓reduceIte, Nat.reduceEqDiff, Nat.reduceAdd, Nat.reduceMul, reduceCtorEq, Nat.reduceLeDiff]
    exact Ends.imp (.inr rfl) (r0 := .tup [.agg [.v (.int .i64 0), .v (.int .i64 0), .v (.slice none 0 0), .v (.slice none 0 0)], .v (.int .i64 3)]) (by simp [ET]) ⟨⟨trivial, trivial, trivial, trivial, trivial⟩, trivial, trivial⟩ (impRep _)
  replace h2 : ns.length = 2 := Decidable.not_not.1 h2
  have g2 : ((ns.length : Int) = 2) = True := eq_true (by omega)
  by_cases h3 : ts.length = 0
  · have g : ((ts.length : Int) = 0) = True := eq_true (by omega)
    have e3 : repOf ⟨0, ns, ts⟩ = (rep0D, 3) := repOf_bad rfl (fun h9 => h9.2 h3)
    simp only [g, g2, e3, decide_true, decide_false, Bool.not_true, Bool.not_false, TT, ↓reduceIte, Nat.reduceEqDiff, Nat.reduceAdd, Nat.reduceMul, reduceCtorEq, Nat.reduceLeDiff]
    exact Ends.imp (.inr rfl) (r0 := .tup [.agg [.v (.int .i64 0), .v (.int .i64 0), .v (.slice none 0 0), .v (.slice none 0 0)], .v (.int .i64 3)]) (by simp [ET]) ⟨⟨trivial, trivial, trivial, trivial, trivial⟩, trivial, trivial⟩ (impRep _)
  obtain ⟨a, b, rfl⟩ := len2 h2
  obtain ⟨d, ts, rfl⟩ : ∃ d r, ts = d :: r := by
    cases ts with
    | nil => exact absurd rfl h3
    | cons d r => exact ⟨d, r, rfl⟩
  have ha : i64ok a := hf2 a (by simp)
  have hbb : i64ok b := hf2 b (by simp)
  have hts : ts.length ≤ 63 := by simp at hf1; omega
  have g3 : (((ts.length + 1 : Nat) : Int) = 0) = False := eq_false (by omega)
  have eT : eL true (d :: ts) = .fs true (eB d) d.length :: eL true ts := by simp [eL, fB]
  have eN : eI [a, b] = [.v (.int .i64 a), .v (.int .i64 b)] := by simp [eI]
  have c2 : (([a, b].length : Nat) : Int) = 2 := rfl
  have lc : (d :: ts).length = ts.length + 1 := List.length_cons
  have z0 : ((0 : Int) ≤ 0) = True := eq_true (by decide)
  have z1 : ((0 : Int) ≤ 1) = True := eq_true (by decide)
  have l2 : ((0 : Int) < 2) = True := eq_true (by decide)
  have l2' : ((1 : Int) < 2) = True := eq_true (by decide)
  have l3 : ((0 : Int) < ((ts.length + 1 : Nat) : Int)) = True := eq_true (by omega)
  have l4 : ((1 : Int) ≤ ((ts.length + 1 : Nat) : Int)) = True := eq_true (by omega)
  have t1 : Int.toNat 1 = 1 := rfl
  have htk9 : List.take ts.length (eL true ts) = eL true ts := List.take_of_length_le (by rw [len_L]; exact Nat.le_refl _)
  have eo : repOf ⟨0, [a, b], d :: ts⟩ = if repChk ⟨a, b, d, ts.map strOf⟩ = 0 then (⟨a, b, d, ts.map strOf⟩, 0) else (rep0D, repChk ⟨a, b, d, ts.map strOf⟩) := rfl
  rw [eo]
  simp only [c2, g3, eT, eN, z0, z1, l2, l2', l3, l4, t1, lc, htk9, List.drop_succ_cons, List.drop_zero, Nat.add_sub_cancel, and_self, Int.toNat_zero, List.getElem?_cons_zero, List.getElem?_cons_succ, decide_true, decide_false, Bool.not_true, TT, ↓reduceIte, Nat.reduceEqDiff, Nat.reduceAdd, Nat.reduceMul, reduceCtorEq, Nat.reduceLeDiff]
  refine ⟨by rfl, ?_⟩
  have fin : ∀ (x : RepD), x = ⟨a, b, d, ts.map strOf⟩ → (encRep x).2 = repChk x := fun x hx => encRep_err (by rw [hx]; simpa using hts)
  refine AWc.family (L_rd a b d ts) (fun i => i ≤ ts.length) (fun i => ts.length - i) 0 (Nat.zero_le _) ?_ ?_
  · refine Weak.calc [(0, 0), (4100000, 1)] (by decide) ?_ ?_ <;> simp [WT, L_rd, al_L, ren_L, fL]
  · intro i hi
    by_cases hlt : i < ts.length
    · obtain ⟨t, hx, e1, e0⟩ := lt_at hlt
      cases i with
      | zero =>
        have e1' : ((0 : Int) < (ts.length : Int)) = True := eq_true (by omega)
        have hx0 : (eL true ts)[0]? = some (.fs true (eB t) t.length) := by have := at_Ls (fr := true) hx; exact this
        simp only [L_rd, fL, fB, e1', z0, hx0, Int.toNat_zero, ↓bytesOf_B, len_B, TT, ↓reduceIte, Nat.reduceEqDiff, Nat.reduceAdd, Nat.reduceMul, reduceCtorEq, Nat.reduceLeDiff]
        refine famC_next 1 (by omega) (by omega) ?_
        have w0 : IntKind.i64.wrap 1 = 1 := by rfl
        have ht1 : ts.take 1 = [t] := by
          cases ts with
          | nil => cases hx
          | cons u v => simp at hx; simp [hx]
        have hmap : List.take 1 (List.map ((fun s => AV.v (Value.string s)) ∘ strOf) ts) = [AV.v (.string (strOf t))] := by rw [← List.map_take, ht1]; rfl
        refine Weak.calc [(0, 0), (1, 1), (900003, 2)] (by decide) ?_ ?_ <;> simp [WT, L_rd, w0, hmap, eS, al_L, ren_L, fL, wrap64 (x := (0 : Int) + 1) (by omega)]
      | succ i =>
        have hl := nm_len hi
        simp only [L_rd, fL, fB, e1, e0, at_Ls hx, Int.toNat_natCast, ↓bytesOf_B, len_B, hl, nm_s hx, TT, ↓reduceIte, Nat.reduceEqDiff, Nat.reduceAdd, Nat.reduceMul, reduceCtorEq, Nat.reduceLeDiff]
        rw [if_pos (by omega)]
        refine famC_next (i + 2) (by omega) (by omega) ?_
        refine Weak.calc [(0, 0), (1, 1), (900003, 2)] (by decide) ?_ ?_ <;> simp [WT, L_rd, al_L, ren_L, fL, al_S, ren_S, wrap64 (x := (i : Int) + 1 + 1) (by omega)]
    · obtain rfl : i = ts.length := by omega
      cases ts with
      | nil =>
        have hE := fun nb => repE_0 true a b d nb ha hbb
        have hq := fin ⟨a, b, d, []⟩ rfl
        have z9 : ((0 : Int) < 0) = False := eq_false (by decide)
        simp only [fB, hq] at hE
        simp only [List.length_nil, L_rd, Int.natCast_zero, fB, fL, z9, decide_false, TT, ↓reduceIte, Nat.reduceEqDiff, Nat.reduceAdd, Nat.reduceMul, reduceCtorEq, Nat.reduceLeDiff]
        refine ⟨_, hE _, ?_⟩
        by_cases h9 : repChk ⟨a, b, d, []⟩ = 0
        · simp only [List.map_nil, h9, decide_true, Bool.not_true, if_true, TT, ↓reduceIte, Nat.reduceEqDiff, Nat.reduceAdd, Nat.reduceMul, reduceCtorEq, Nat.reduceLeDiff]
          exact Ends.imp (.inr rfl) (r0 := .tup [.agg [.v (.int .i64 a), .v (.int .i64 b), .fs true (eB d) d.length, .v (.slice none 0 0)], .v (.int .i64 0)]) (by simp [ET]) ⟨⟨trivial, trivial, al_B _, trivial, trivial⟩, trivial, trivial⟩
            (Imp.tupL ⟨Imp.aggL ⟨Imp.refl _, Imp.refl _, Imp.refl _, Imp.nil true, trivial⟩, Imp.refl _, trivial⟩)
        · simp only [List.map_nil, h9, decide_false, Bool.not_false, if_false, TT, ↓reduceIte, Nat.reduceEqDiff, Nat.reduceAdd, Nat.reduceMul, reduceCtorEq, Nat.reduceLeDiff]
          exact Ends.imp (.inr rfl) (r0 := .tup [.agg [.v (.int .i64 0), .v (.int .i64 0), .v (.slice none 0 0), .v (.slice none 0 0)], .v (.int .i64 (repChk ⟨a, b, d, []⟩))]) (by simp [ET]) ⟨⟨trivial, trivial, trivial, trivial, trivial⟩, trivial, trivial⟩ (impRep _)
      | cons u v =>
        have hE := fun nb => repE_b true ⟨a, b, d, strOf u :: v.map strOf⟩ 2 nb ha hbb (by simp; simp at hts; omega) (by simp)
        have hq := fin ⟨a, b, d, strOf u :: v.map strOf⟩ rfl
        have htk : (u :: v).take (v.length + 1) = u :: v := List.take_of_length_le (by simp)
        have hln : ((strOf u :: v.map strOf)).length = v.length + 1 := by simp
        have z9 : (((v.length + 1 : Nat) : Int) < ((v.length + 1 : Nat) : Int)) = False := eq_false (by omega)
        simp only [fB, hq, hln, rowsM] at hE
        have em : (u :: v).map strOf = (strOf u :: v.map strOf) := rfl
        rw [em]
        simp only [List.length_cons, L_rd, fB, fL, z9, htk, decide_false, TT, ↓reduceIte, Nat.reduceEqDiff, Nat.reduceAdd, Nat.reduceMul, reduceCtorEq, Nat.reduceLeDiff]
        refine ⟨_, hE _, ?_⟩
        by_cases h9 : repChk ⟨a, b, d, strOf u :: v.map strOf⟩ = 0
        · simp only [h9, decide_true, Bool.not_true, if_true, TT, ↓reduceIte, Nat.reduceEqDiff, Nat.reduceAdd, Nat.reduceMul, reduceCtorEq, Nat.reduceLeDiff]
          refine Ends.weak (Weak.freezeC 2 rfl (l := [(2, .op 0 0), (3, .v (.int .i64 0))]) (h := [(0, .row true 57 [.v (.int .i64 a), .v (.int .i64 b), .fs true (eB d) d.length, .fs true (eS ((strOf u :: v.map strOf))) (v.length + 1)])]) ?_ ?_) (Ends.data (.inr rfl) (by simp [ET, aRep, fB, fS]) ⟨al_aRep (fr := true) ⟨a, b, d, strOf u :: v.map strOf⟩, trivial, trivial⟩)
          · simp [WT]
          · have htk2 : List.take (v.length + 1) (eS ((strOf u :: v.map strOf))) = eS ((strOf u :: v.map strOf)) := List.take_of_length_le (by rw [len_S, hln]; exact Nat.le_refl _)
            simp [WT, htk2]
        · simp only [h9, decide_false, Bool.not_false, if_false, TT, ↓reduceIte, Nat.reduceEqDiff, Nat.reduceAdd, Nat.reduceMul, reduceCtorEq, Nat.reduceLeDiff]
          exact Ends.imp (.inr rfl) (r0 := .tup [.agg [.v (.int .i64 0), .v (.int .i64 0), .v (.slice none 0 0), .v (.slice none 0 0)], .v (.int .i64 (repChk ⟨a, b, d, strOf u :: v.map strOf⟩))]) (by simp [ET]) ⟨⟨trivial, trivial, trivial, trivial, trivial⟩, trivial, trivial⟩ (impRep _)
end Go.Proofs.YtonglhkiobibgaaGreatDoor
namespace Go.Proofs.YtonglhkiobibgaaGreatDoor
open Go.RowKit
set_option maxRecDepth 100000
theorem rrep_b (fr : Bool) (x : RepD) (id nb : Nat) (hne : x.names ≠ []) :
    ASound Tryz.prog 102 [.agg [.v (.int .i64 x.err), .v (.int .i64 x.n), fB fr x.data, .os id 0 x.names.length 1]] nb
      (rowsM [(id, true, 9, eS x.names)] (.ret (.v (.int .i64 (repChk x))) [])) := by
  refine ASound.borrow [] [(id, true, 9, eS x.names)] ?_ (by simpa [eS] using hne) (by simp) trivial (by simp)
  have e : boL [(id, true, 9, eS x.names)] [.agg [.v (.int .i64 x.err), .v (.int .i64 x.n), fB fr x.data, .os id 0 x.names.length 1]] = [aRep false x] := by
    simp [boL, bo, cellsAt, od, odL, aRep, fB, od_B, fS, tk_S, od_S]
  rw [e]
  exact rreply_spec false x nb
theorem rrep_0 (fr : Bool) (a b : Int) (d : List Int) (nb : Nat) :
    ASound Tryz.prog 102 [.agg [.v (.int .i64 a), .v (.int .i64 b), fB fr d, .v (.slice none 0 0)]] nb (.ret (.v (.int .i64 (repChk ⟨a, b, d, []⟩))) []) :=
  (rreply_spec fr ⟨a, b, d, []⟩ nb).args ⟨Imp.aggL ⟨Imp.refl _, Imp.refl _, Imp.refl _, Imp.nil _, trivial⟩, trivial⟩
def L_rf (a b : Int) (d : List Int) (ts : List (List Int)) : Nat → ASt
  | 0 => ⟨envOf [(2, .op 0 0), (4, .op 1 0), (6, .op 2 0), (7, .v (.int .i64 1))], heapOf [(0, zRep), (1, .row true 156 [.v (.int .i64 0), fI true [a, b], fL true (d :: ts)]), (2, .row true 57 [.v (.int .i64 a), .v (.int .i64 b), fB true d, .v (.slice none 0 0)])], 4⟩
  | i + 1 => ⟨envOf [(2, .op 0 0), (4, .op 1 0), (6, .op 2 0), (7, .v (.int .i64 ((i + 2 : Nat) : Int)))], heapOf [(0, zRep), (1, .row true 156 [.v (.int .i64 0), fI true [a, b], fL true (d :: ts)]), (2, .row true 57 [.v (.int .i64 a), .v (.int .i64 b), fB true d, .os 3 0 (i + 1) 1]), (3, .row true 9 (eS (nmS (ts.take (i + 1)))))], 4⟩
set_option maxHeartbeats 4000000 in
theorem rRepDecode_spec (fr : Bool) (l : List Int) (nb : Nat) (hb : okB l) (h : l.length ≤ 140737488355320) : ASound Tryz.prog 54 [fB fr l] nb (.ret (.tup [aRep true (decR l).1, .v (.int .i64 (decR l).2)]) []) := by
  refine ok_54.sound (by simp) ⟨al_fB l, trivial⟩ ?_
  have hd := fun nb => rdecode_spec fr l nb hb h
  obtain ⟨hf1, hf2⟩ := dec_facts hb
  simp only [fB] at hd
  simp only [ac_54, fB, TT, ↓reduceIte, Nat.reduceEqDiff, Nat.reduceAdd, Nat.reduceMul, reduceCtorEq, Nat.reduceLeDiff]
  refine ⟨_, hd _, ?_⟩
  by_cases h0 : ¬ (dec l).2 = 0
  · have e : decR l = (rep0D, (dec l).2) := if_neg h0
    simp only [h0, e, decide_false, Bool.not_false, TT, ↓reduceIte, Nat.reduceEqDiff, Nat.reduceAdd, Nat.reduceMul, reduceCtorEq, Nat.reduceLeDiff]
    exact Ends.imp (.inr rfl) (r0 := .tup [.agg [.v (.int .i64 0), .v (.int .i64 0), .v (.slice none 0 0), .v (.slice none 0 0)], .v (.int .i64 (dec l).2)]) (by simp [ET]) ⟨⟨trivial, trivial, trivial, trivial, trivial⟩, trivial, trivial⟩ (impRep _)
  replace h0 : (dec l).2 = 0 := Decidable.not_not.1 h0
  have e : decR l = repOf (dec l).1 := if_pos h0
  rw [e]
  simp only [h0, decide_true, Bool.not_true, TT, ↓reduceIte, Nat.reduceEqDiff, Nat.reduceAdd, Nat.reduceMul, reduceCtorEq, Nat.reduceLeDiff]
  generalize (dec l).1 = R at hf1 hf2 ⊢
  obtain ⟨k, ns, ts⟩ := R
  simp only at hf1 hf2
  by_cases hk : ¬ k = 0
  · have e3 : repOf ⟨k, ns, ts⟩ = (rep0D, 22) := if_neg hk
    simp only [hk, e3, decide_false, Bool.not_false, TT, ↓reduceIte, Nat.reduceEqDiff, Nat.reduceAdd, Nat.reduceMul, reduceCtorEq, Nat.reduceLeDiff]
    exact Ends.imp (.inr rfl) (r0 := .tup [.agg [.v (.int .i64 0), .v (.int .i64 0), .v (.slice none 0 0), .v (.slice none 0 0)], .v (.int .i64 22)]) (by simp [ET]) ⟨⟨trivial, trivial, trivial, trivial, trivial⟩, trivial, trivial⟩ (impRep _)
  replace hk : k = 0 := Decidable.not_not.1 hk
  subst hk
  by_cases h2 : ¬ ns.length = 2
  · have g : ((ns.length : Int) = 2) = False := eq_false (by omega)
    have e3 : repOf ⟨0, ns, ts⟩ = (rep0D, 3) := repOf_bad rfl (fun h9 => h2 h9.1)
    simp only [g, e3, decide_true, decide_false, Bool.not_true, Bool.not_false, TT, ↓reduceIte, Nat.reduceEqDiff, Nat.reduceAdd, Nat.reduceMul, reduceCtorEq, Nat.reduceLeDiff]
    exact Ends.imp (.inr rfl) (r0 := .tup [.agg [.v (.int .i64 0), .v (.int .i64 0), .v (.slice none 0 0), .v (.slice none 0 0)], .v (.int .i64 3)]) (by simp [ET]) ⟨⟨trivial, trivial, trivial, trivial, trivial⟩, trivial, trivial⟩ (impRep _)
  replace h2 : ns.length = 2 := Decidable.not_not.1 h2
  have g2 : ((ns.length : Int) = 2) = True := eq_true (by omega)
  by_cases h3 : ts.length = 0
  · have g : ((ts.length : Int) < 1) = True := eq_true (by omega)
    have e3 : repOf ⟨0, ns, ts⟩ = (rep0D, 3) := repOf_bad rfl (fun h9 => h9.2 h3)
    simp only [g, g2, e3, decide_true, decide_false, Bool.not_true, Bool.not_false, TT, ↓reduceIte, Nat.reduceEqDiff, Nat.reduceAdd, Nat.reduceMul, reduceCtorEq, Nat.reduceLeDiff]
    exact Ends.imp (.inr rfl) (r0 := .tup [.agg [.v (.int .i64 0), .v (.int .i64 0), .v (.slice none 0 0), .v (.slice none 0 0)], .v (.int .i64 3)]) (by simp [ET]) ⟨⟨trivial, trivial, trivial, trivial, trivial⟩, trivial, trivial⟩ (impRep _)
  obtain ⟨a, b, rfl⟩ := len2 h2
  obtain ⟨d, ts, rfl⟩ : ∃ d r, ts = d :: r := by
    cases ts with
    | nil => exact absurd rfl h3
    | cons d r => exact ⟨d, r, rfl⟩
  have ha : i64ok a := hf2 a (by simp)
  have hbb : i64ok b := hf2 b (by simp)
  have hts : ts.length ≤ 63 := by simp at hf1; omega
  have g3 : (((ts.length + 1 : Nat) : Int) < 1) = False := eq_false (by omega)
  have eT : eL true (d :: ts) = .fs true (eB d) d.length :: eL true ts := by simp [eL, fB]
  have eN : eI [a, b] = [.v (.int .i64 a), .v (.int .i64 b)] := by simp [eI]
  have c2 : (([a, b].length : Nat) : Int) = 2 := rfl
  have lc : (d :: ts).length = ts.length + 1 := List.length_cons
  have z0 : ((0 : Int) ≤ 0) = True := eq_true (by decide)
  have z1 : ((0 : Int) ≤ 1) = True := eq_true (by decide)
  have l2 : ((0 : Int) < 2) = True := eq_true (by decide)
  have l2' : ((1 : Int) < 2) = True := eq_true (by decide)
  have l3 : ((0 : Int) < ((ts.length + 1 : Nat) : Int)) = True := eq_true (by omega)
  have t1 : Int.toNat 1 = 1 := rfl
  have eo : repOf ⟨0, [a, b], d :: ts⟩ = if repChk ⟨a, b, d, ts.map strOf⟩ = 0 then (⟨a, b, d, ts.map strOf⟩, 0) else (rep0D, repChk ⟨a, b, d, ts.map strOf⟩) := rfl
  rw [eo]
  simp only [c2, g3, eT, eN, z0, z1, l2, l2', l3, t1, lc, Int.toNat_zero, List.getElem?_cons_zero, List.getElem?_cons_succ, decide_true, decide_false, Bool.not_true, TT, ↓reduceIte, Nat.reduceEqDiff, Nat.reduceAdd, Nat.reduceMul, reduceCtorEq, Nat.reduceLeDiff]
  refine ⟨by rfl, ?_⟩
  refine AWc.family (L_rf a b d ts) (fun i => i ≤ ts.length) (fun i => ts.length - i) 0 (Nat.zero_le _) ?_ ?_
  · refine Weak.calc [(0, 0), (700000, 1), (4100000, 2)] (by decide) ?_ ?_ <;> simp [WT, L_rf, eT, eN, al_L, ren_L, fL, fI]
  · intro i hi
    by_cases hlt : i < ts.length
    · obtain ⟨t, hx, _, _⟩ := lt_at hlt
      have hx1 : (d :: ts)[i + 1]? = some t := by simpa using hx
      obtain ⟨_, _, e1, e0⟩ := lt_at (show i + 1 < (d :: ts).length by rw [lc]; omega)
      cases i with
      | zero =>
        have e1' : ((1 : Int) < ((ts.length + 1 : Nat) : Int)) = True := eq_true (by omega)
        have hx0 := at_Ls (fr := true) hx1
        simp only [Nat.zero_add] at hx0
        simp only [L_rf, fL, fB, lc, e1', z1, hx0, t1, ↓bytesOf_B, len_B, TT, ↓reduceIte, Nat.reduceEqDiff, Nat.reduceAdd, Nat.reduceMul, reduceCtorEq, Nat.reduceLeDiff]
        refine ⟨by rfl, famC_next 1 (by omega) (by omega) ?_⟩
        have w0 : IntKind.i64.wrap 1 = 1 := by rfl
        have ht1 : ts.take 1 = [t] := by
          cases ts with
          | nil => cases hx
          | cons u v => simp at hx; simp [hx]
        have hmap : List.take 1 (List.map ((fun s => AV.v (Value.string s)) ∘ strOf) ts) = [AV.v (.string (strOf t))] := by rw [← List.map_take, ht1]; rfl
        refine Weak.calc [(0, 0), (1, 1), (2, 2), (1400004, 3)] (by decide) ?_ ?_ <;> simp [WT, L_rf, w0, show IntKind.i64.wrap 2 = 2 from by rfl, hmap, eS, al_L, ren_L, fL, fI, wrap64 (x := (1 : Int) + 1) (by omega)]
      | succ i =>
        have hl := nm_len hi
        have e1' : (((i + 2 : Nat) : Int) < ((ts.length + 1 : Nat) : Int)) = True := eq_true (by omega)
        simp only [L_rf, fL, fB, lc, e1', e0, at_Ls hx1, Int.toNat_natCast, ↓bytesOf_B, len_B, hl, nm_s hx, TT, ↓reduceIte, Nat.reduceEqDiff, Nat.reduceAdd, Nat.reduceMul, reduceCtorEq, Nat.reduceLeDiff]
        rw [if_pos (by omega)]
        refine ⟨by rfl, famC_next (i + 2) (by omega) (by omega) ?_⟩
        refine Weak.calc [(0, 0), (1, 1), (2, 2), (1400004, 3)] (by decide) ?_ ?_ <;> simp [WT, L_rf, al_L, ren_L, fL, fI, al_S, ren_S, wrap64 (x := (i : Int) + 2 + 1) (by omega), show ((i : Int) + 2 + 1 = (i : Int) + 1 + 2) from by omega, wrap64 (x := (i : Int) + 1 + 2) (by omega)]
    · obtain rfl : i = ts.length := by omega
      cases ts with
      | nil =>
        have hE := fun nb => rrep_0 true a b d nb
        have z9 : ((1 : Int) < ((0 + 1 : Nat) : Int)) = False := eq_false (by decide)
        have z8 : ((1 : Int) < 1) = False := eq_false (by decide)
        simp only [fB] at hE
        simp only [List.length_nil, L_rf, fB, fL, z9, z8, List.length_cons, decide_false, TT, ↓reduceIte, Nat.reduceEqDiff, Nat.reduceAdd, Nat.reduceMul, reduceCtorEq, Nat.reduceLeDiff]
        refine ⟨_, hE _, ?_⟩
        by_cases h9 : repChk ⟨a, b, d, []⟩ = 0
        · simp only [List.map_nil, h9, decide_true, Bool.not_true, if_true, TT, ↓reduceIte, Nat.reduceEqDiff, Nat.reduceAdd, Nat.reduceMul, reduceCtorEq, Nat.reduceLeDiff]
          exact Ends.imp (.inr rfl) (r0 := .tup [.agg [.v (.int .i64 a), .v (.int .i64 b), .fs true (eB d) d.length, .v (.slice none 0 0)], .v (.int .i64 0)]) (by simp [ET]) ⟨⟨trivial, trivial, al_B _, trivial, trivial⟩, trivial, trivial⟩
            (Imp.tupL ⟨Imp.aggL ⟨Imp.refl _, Imp.refl _, Imp.refl _, Imp.nil true, trivial⟩, Imp.refl _, trivial⟩)
        · simp only [List.map_nil, h9, decide_false, Bool.not_false, if_false, TT, ↓reduceIte, Nat.reduceEqDiff, Nat.reduceAdd, Nat.reduceMul, reduceCtorEq, Nat.reduceLeDiff]
          exact Ends.imp (.inr rfl) (r0 := .tup [.agg [.v (.int .i64 0), .v (.int .i64 0), .v (.slice none 0 0), .v (.slice none 0 0)], .v (.int .i64 (repChk ⟨a, b, d, []⟩))]) (by simp [ET]) ⟨⟨trivial, trivial, trivial, trivial, trivial⟩, trivial, trivial⟩ (impRep _)
      | cons u v =>
        have hE := fun nb => rrep_b true ⟨a, b, d, strOf u :: v.map strOf⟩ 3 nb (by simp)
        have htk : (u :: v).take (v.length + 1) = u :: v := List.take_of_length_le (by simp)
        have hln : ((strOf u :: v.map strOf)).length = v.length + 1 := by simp
        have z9 : (((v.length + 2 : Nat) : Int) < ((v.length + 1 + 1 : Nat) : Int)) = False := eq_false (by omega)
        simp only [fB, hln, rowsM] at hE
        have em : (u :: v).map strOf = (strOf u :: v.map strOf) := rfl
        have e8 : (u :: v).length = v.length + 1 := List.length_cons
        rw [em, e8]
        simp only [L_rf, fB, fL, z9, htk, List.length_cons, decide_false, TT, ↓reduceIte, Nat.reduceEqDiff, Nat.reduceAdd, Nat.reduceMul, reduceCtorEq, Nat.reduceLeDiff]
        refine ⟨_, hE _, ?_⟩
        by_cases h9 : repChk ⟨a, b, d, strOf u :: v.map strOf⟩ = 0
        · simp only [h9, decide_true, Bool.not_true, if_true, TT, ↓reduceIte, Nat.reduceEqDiff, Nat.reduceAdd, Nat.reduceMul, reduceCtorEq, Nat.reduceLeDiff]
          refine Ends.weak (Weak.freezeC 3 rfl (l := [(2, .op 0 0), (3, .v (.int .i64 0))]) (h := [(0, .row true 57 [.v (.int .i64 a), .v (.int .i64 b), .fs true (eB d) d.length, .fs true (eS ((strOf u :: v.map strOf))) (v.length + 1)])]) ?_ ?_) (Ends.data (.inr rfl) (by simp [ET, aRep, fB, fS]) ⟨al_aRep (fr := true) ⟨a, b, d, strOf u :: v.map strOf⟩, trivial, trivial⟩)
          · simp [WT]
          · have htk2 : List.take (v.length + 1) (eS ((strOf u :: v.map strOf))) = eS ((strOf u :: v.map strOf)) := List.take_of_length_le (by rw [len_S, hln]; exact Nat.le_refl _)
            simp [WT, htk2]
        · simp only [h9, decide_false, Bool.not_false, if_false, TT, ↓reduceIte, Nat.reduceEqDiff, Nat.reduceAdd, Nat.reduceMul, reduceCtorEq, Nat.reduceLeDiff]
          exact Ends.imp (.inr rfl) (r0 := .tup [.agg [.v (.int .i64 0), .v (.int .i64 0), .v (.slice none 0 0), .v (.slice none 0 0)], .v (.int .i64 (repChk ⟨a, b, d, strOf u :: v.map strOf⟩))]) (by simp [ET]) ⟨⟨trivial, trivial, trivial, trivial, trivial⟩, trivial, trivial⟩ (impRep _)
end Go.Proofs.YtonglhkiobibgaaGreatDoor
namespace Go.Proofs.YtonglhkiobibgaaGreatDoor
open Go.RowKit
set_option maxRecDepth 100000
theorem encRep_len {r : RepD} (h1 : i64ok r.err) (h2 : i64ok r.n) : (encRep r).1.length ≤ 300004 := by
  rw [encRep]
  split
  · exact encode_len (by intro n hn; simp [repRec] at hn; rcases hn with rfl | rfl <;> assumption)
  · simp
theorem repChk_ok {r : RepD} (h : repChk r = 0) : r.data.length ≤ 4096 ∧ r.names.length ≤ 64 := by
  unfold repChk at h
  split at h
  · cases h
  · split at h
    · cases h
    · split at h
      · cases h
      · omega
theorem decR_ok (l : List Int) : (decR l).1.data.length ≤ 4096 ∧ (decR l).1.names.length ≤ 64 := by
  have hz : rep0D.data.length ≤ 4096 ∧ rep0D.names.length ≤ 64 := by decide
  unfold decR
  split
  · unfold repOf
    split
    · split
      · split
        · rename_i h; exact repChk_ok h
        · exact hz
      · exact hz
    · exact hz
  · exact hz
set_option maxHeartbeats 4000000 in
theorem opsReplies_spec (fr fl : Bool) (r : RepD) (l : List Int) (nb : Nat) (h1 : i64ok r.err) (h2 : i64ok r.n) (hd : r.data.length ≤ 140737488355320) (hn : r.names.length ≤ 8796093022208) (hb : okB l) (hl : l.length ≤ 140737488355320) :
    ASound Tryz.prog 11 [aRep fr r, fB fl l] nb (.ret (.v (.bool true)) []) := by
  refine ok_11.sound (by simp) ⟨al_aRep r, al_fB l, trivial⟩ ?_
  have c1 := fun nb => copyBytes_spec fr r.data nb (by omega)
  have cS := fun nb => copyS_spec fr r.names nb hn
  have c2 := fun nb => copyBytes_spec fl l nb (by omega)
  have c3 := fun nb => repEncode_spec true r nb h1 h2 (by omega)
  have c4 := fun nb => rRepEncode_spec fr r nb h1 h2
  have c5 := fun nb => repDecode_spec true l nb hb hl
  have c6 := fun nb => rRepDecode_spec fl l nb hb hl
  have c7 := fun nb h => sameBytes_spec true true (encRep r).1 (encRep r).1 nb h
  have c8 := fun nb e => num11_spec e nb
  have c9 := fun nb h h' => sameRep_refl true true (decR l).1 nb h h'
  have cC := fun nb => sameRep_refl true fr r nb (by omega) (by omega)
  have cD := fun nb => sameBytes_spec true fl l l nb (by omega)
  have hEl := encRep_len h1 h2
  have hDl := decR_ok l
  generalize encRep r = E at *
  generalize decR l = D at *
  obtain ⟨E, e⟩ := E
  obtain ⟨D, f⟩ := D
  simp only [aRep, fB, fS, decide_true] at c1 cS c2 c3 c4 c5 c6 c7 c8 c9 cC cD
  simp only at hEl hDl
  simp only [ac_11, aRep, fB, fS, TT, ↓reduceIte, Nat.reduceEqDiff, Nat.reduceAdd, Nat.reduceMul, reduceCtorEq, Nat.reduceLeDiff]
  refine ⟨_, c2 _, ?_⟩
  simp only [TT, ↓reduceIte, Nat.reduceEqDiff, Nat.reduceAdd, Nat.reduceMul, reduceCtorEq, Nat.reduceLeDiff]
  refine ⟨by rfl, ?_⟩
  refine ⟨_, c1 _, ?_⟩
  simp only [TT, ↓reduceIte, Nat.reduceEqDiff, Nat.reduceAdd, Nat.reduceMul, reduceCtorEq, Nat.reduceLeDiff]
  refine ⟨_, cS _, ?_⟩
  simp only [TT, ↓reduceIte, Nat.reduceEqDiff, Nat.reduceAdd, Nat.reduceMul, reduceCtorEq, Nat.reduceLeDiff]
  refine ⟨by rfl, ?_⟩
  refine ⟨_, c3 _, ?_⟩
  simp only [TT, ↓reduceIte, Nat.reduceEqDiff, Nat.reduceAdd, Nat.reduceMul, reduceCtorEq, Nat.reduceLeDiff]
  refine ⟨_, c4 _, ?_⟩
  simp only [TT, ↓reduceIte, Nat.reduceEqDiff, Nat.reduceAdd, Nat.reduceMul, reduceCtorEq, Nat.reduceLeDiff]
  refine ⟨_, c5 _, ?_⟩
  simp only [TT, ↓reduceIte, Nat.reduceEqDiff, Nat.reduceAdd, Nat.reduceMul, reduceCtorEq, Nat.reduceLeDiff]
  refine ⟨_, c6 _, ?_⟩
  simp only [TT, ↓reduceIte, Nat.reduceEqDiff, Nat.reduceAdd, Nat.reduceMul, reduceCtorEq, Nat.reduceLeDiff]
  refine ⟨_, c7 _ (by omega), ?_⟩
  simp only [TT, ↓reduceIte, Nat.reduceEqDiff, Nat.reduceAdd, Nat.reduceMul, reduceCtorEq, Nat.reduceLeDiff]
  refine ⟨_, c8 _ _, ?_⟩
  simp only [TT, ↓reduceIte, Nat.reduceEqDiff, Nat.reduceAdd, Nat.reduceMul, reduceCtorEq, Nat.reduceLeDiff]
  refine ⟨_, c9 _ (by omega) (by omega), ?_⟩
  simp only [TT, ↓reduceIte, Nat.reduceEqDiff, Nat.reduceAdd, Nat.reduceMul, reduceCtorEq, Nat.reduceLeDiff]
  refine ⟨_, c8 _ _, ?_⟩
  simp only [TT, ↓reduceIte, Nat.reduceEqDiff, Nat.reduceAdd, Nat.reduceMul, reduceCtorEq, Nat.reduceLeDiff]
  refine ⟨_, cC _, ?_⟩
  simp only [TT, ↓reduceIte, Nat.reduceEqDiff, Nat.reduceAdd, Nat.reduceMul, reduceCtorEq, Nat.reduceLeDiff]
  refine ⟨_, cD _, ?_⟩
  simp only [TT, ↓reduceIte, Nat.reduceEqDiff, Nat.reduceAdd, Nat.reduceMul, reduceCtorEq, Nat.reduceLeDiff]
  refine ⟨_, alive11 _, ?_⟩
  simp only [TT, ↓reduceIte, Nat.reduceEqDiff, Nat.reduceAdd, Nat.reduceMul, reduceCtorEq, Nat.reduceLeDiff]
  exact Ends.data (.inr rfl) (by simp [ET]) trivial
end Go.Proofs.YtonglhkiobibgaaGreatDoor
