/- Merged texts: HJ, NK, HK, HD, HE, HL, HM, HN, HO, NL, HP. -/
import Derived.Test.YtonglhkiobibgaaGreatDoorX3
import Derived.Test.YtonglhkiobibgaaGreatDoorX4
import Derived.Test.YtonglhkiobibgaaGreatDoorX1
import Derived.Test.YtonglhkiobibgaaGreatDoorProg
import Derived.Shelf.Abstract
import Derived.Shelf.RegionOpen
import Derived.WalkKit
import Derived.OwnWalkIn
import Derived.TacticsInMore
import Derived.LoopNIn
import Derived.LoopIn
import Derived.Lib.Hide
set_option linter.unusedSimpArgs false
set_option linter.unusedVariables false
namespace Go.Proofs.YtonglhkiobibgaaGreatDoor
open Go.RowKit
set_option maxRecDepth 100000
theorem refuse_spec (cd : Int) (a : ByteArray) (nb : Nat) (h : cd ≠ 0) : ASound Tryz.prog 77 [.v (.int .i64 cd), .v (.string a)] nb (.ret (aFlt true cd a) []) := by
  refine ok_77.sound (by simp) ⟨trivial, trivial, trivial⟩ ?_
  have h' : (cd = 0) = False := eq_false h
  simp only [ac_77, h', decide_false, TT, ↓reduceIte, Nat.reduceEqDiff, Nat.reduceAdd, Nat.reduceMul, reduceCtorEq, Nat.reduceLeDiff]
  exact Ends.weak (Weak.ifcData (y := true) (e := 197) (off := 0) (cells := [.v (.int .i64 cd), .v (.string a)]) 4 195 600000 (by simp [ET]) (by simp [ET]) ⟨trivial, trivial, trivial⟩) (Ends.data (.inr rfl) (by simp [ET]) ⟨trivial, trivial, trivial⟩)
theorem wrap_spec (op : ByteArray) (f : Bool) (cd : Int) (a : ByteArray) (nb : Nat) : ASound Tryz.prog 114 [.v (.string op), aFlt f cd a] nb (.ret (aWrp op f cd a) []) := by
  refine ok_114.sound (by simp) ⟨trivial, ⟨trivial, trivial, trivial⟩, trivial⟩ ?_
  simp only [ac_114, aFlt, TT, ↓reduceIte, Nat.reduceEqDiff, Nat.reduceAdd, Nat.reduceMul, reduceCtorEq, Nat.reduceLeDiff]
  exact Ends.data (.inr rfl) (by simp [ET]) ⟨trivial, ⟨trivial, trivial, trivial⟩, trivial⟩
/-- where names lead: a number, or what is amiss at which name -/
def walkF (s : FSt) : Int → List ByteArray → Except (Int × ByteArray) Int
  | t, [] => .ok t
  | t, x :: r => if (nodA s t).dir = true then (if (findE (nodA s t).entries x).2.1 = true then walkF s (findE (nodA s t).entries x).1 r else .error (101, x)) else .error (103, x)
def aWalk : Except (Int × ByteArray) Int → AV
  | .ok t => .tup [.v (.int .i64 t), .v .nilIface]
  | .error (cd, x) => .tup [.v (.int .i64 0), aFlt true cd x]
theorem findE_has {s : FSt} (hok : okE s) {t : Int} (ht : hasN s.nodes t) {x : ByteArray} (h : (findE (nodA s t).entries x).2.1 = true) : hasN s.nodes (findE (nodA s t).entries x).1 := by
  obtain ⟨n, hx, hmem, _⟩ := hasN_get ht
  have hA : nodA s t = n := by rw [nodA, hx]
  rw [hA] at h ⊢
  unfold findE at h ⊢
  split at h
  · split at h
    · rename_i h1 h2
      rw [if_pos h1, if_pos h2]
      obtain ⟨e, he⟩ : ∃ e, n.entries[plcE n.entries x]? = some e := ⟨_, List.getElem?_eq_getElem h2.1⟩
      have : inoE n.entries (plcE n.entries x) = e.ino := by rw [inoE, he]
      show hasN s.nodes (inoE n.entries (plcE n.entries x))
      rw [this]
      exact (hok n hmem).2 e (List.mem_of_getElem? he)
    · simp at h
  · simp at h
theorem walkF_drop {s : FSt} {t : Int} {l : List ByteArray} {i : Nat} {x : ByteArray} (h : l[i]? = some x) : walkF s t (l.drop i) = if (nodA s t).dir = true then (if (findE (nodA s t).entries x).2.1 = true then walkF s (findE (nodA s t).entries x).1 (l.drop (i + 1)) else .error (101, x)) else .error (103, x) := by
  have hi := (List.getElem?_eq_some_iff.1 h)
  rw [List.drop_eq_getElem_cons hi.1, hi.2]; rfl
abbrev L_wk (f fr fl : Bool) (s : FSt) (l : List ByteArray) (q : Nat × Int) : ASt := ⟨envOf [(0, pFs f fr s), (6, .v (.int .i64 q.2)), (13, fS fl l), (14, .v (.int .i64 l.length)), (15, .v (.int .i64 q.1))], heapOf [], 1⟩
set_option maxHeartbeats 2000000 in
theorem walk_spec (f fr fl : Bool) (s : FSt) (l : List ByteArray) (nb : Nat) (hl : s.nodes.length ≤ 140737488355328) (hok : okE s) (h1 : hasN s.nodes 1) (hll : l.length ≤ 140737488355328) :
    ASound Tryz.prog 115 [pFs f fr s, fS fl l] nb (.ret (aWalk (walkF s 1 l)) []) := by
  refine ok_115.sound (by simp) ⟨al_pFs s, al_fS l, trivial⟩ ?_
  simp only [ac_115, pFs, fNds, fS, TT, ↓reduceIte, Nat.reduceEqDiff, Nat.reduceAdd, Nat.reduceMul, reduceCtorEq, Nat.reduceLeDiff]
  refine AWc.family (L_wk f fr fl s l) (fun q => q.1 ≤ l.length ∧ hasN s.nodes q.2 ∧ walkF s q.2 (l.drop q.1) = walkF s 1 l) (fun q => l.length - q.1) (0, 1) ⟨Nat.zero_le _, h1, rfl⟩ ?_ ?_
  · refine Weak.calc [] (by decide) ?_ ?_ <;> simp [WT, pFs, fNds, al_Nds, ren_Nds, fS, al_S, ren_S]
  · rintro ⟨i, t⟩ ⟨hi, ht, he⟩
    simp only at hi ht he
    by_cases hlt : i < l.length
    · obtain ⟨x, hx, e1, e0⟩ := lt_at hlt
      have hn := fun nb => node_spec f fr s t nb hl ht.1
      obtain ⟨n, hxn, hmem, _⟩ := hasN_get ht
      have hA : nodA s t = n := by rw [nodA, hxn]
      obtain ⟨a0, a1, a2, a3, a4, a5⟩ := get_Nds (fr := fr) hxn
      have hf := fun nb => dfind_spec fr n.entries x nb (hok n hmem).1
      rw [walkF_drop hx] at he
      have hfh := fun h => findE_has hok ht (x := x) h
      rw [hA] at he hfh
      simp only [pFs, fNds] at hn
      simp only [fEnts] at hf
      simp only [L_wk, pFs, fNds, fS, e1, e0, get_S hx, Int.toNat_natCast, TT, ↓reduceIte, Nat.reduceEqDiff, Nat.reduceAdd, Nat.reduceMul, reduceCtorEq, Nat.reduceLeDiff]
      refine ⟨_, hn _, ?_⟩
      cases hd : n.dir
      · rw [hd, if_neg (by decide)] at he
        simp only [a1, hd, Bool.not_false, TT, ↓reduceIte, Nat.reduceEqDiff, Nat.reduceAdd, Nat.reduceMul, reduceCtorEq, Nat.reduceLeDiff]
        refine ⟨_, refuse_spec 103 x _ (by decide), ?_⟩
        simp only [TT, ↓reduceIte, Nat.reduceEqDiff, Nat.reduceAdd, Nat.reduceMul, reduceCtorEq, Nat.reduceLeDiff]
        rw [← he]
        exact Ends.data (.inr rfl) (by simp [ET, aWalk]) ⟨trivial, ⟨trivial, trivial, trivial⟩, trivial⟩
      · rw [hd, if_pos rfl] at he
        simp only [a1, a3, hd, Bool.not_true, TT, ↓reduceIte, Nat.reduceEqDiff, Nat.reduceAdd, Nat.reduceMul, reduceCtorEq, Nat.reduceLeDiff]
        refine ⟨_, hf _, ?_⟩
        cases hb : (findE n.entries x).2.1
        · rw [hb, if_neg (by decide)] at he
          simp only [Bool.not_false, TT, ↓reduceIte, Nat.reduceEqDiff, Nat.reduceAdd, Nat.reduceMul, reduceCtorEq, Nat.reduceLeDiff]
          refine ⟨_, refuse_spec 101 x _ (by decide), ?_⟩
          simp only [TT, ↓reduceIte, Nat.reduceEqDiff, Nat.reduceAdd, Nat.reduceMul, reduceCtorEq, Nat.reduceLeDiff]
          rw [← he]
          exact Ends.data (.inr rfl) (by simp [ET, aWalk]) ⟨trivial, ⟨trivial, trivial, trivial⟩, trivial⟩
        · rw [hb, if_pos rfl] at he
          simp only [Bool.not_true, TT, ↓reduceIte, Nat.reduceEqDiff, Nat.reduceAdd, Nat.reduceMul, reduceCtorEq, Nat.reduceLeDiff]
          refine famC_next (i + 1, (findE n.entries x).1) (by show l.length - (i + 1) < l.length - i; omega) ⟨by show i + 1 ≤ l.length; omega, hfh hb, he⟩ ?_
          refine Weak.calc [] (by decide) ?_ ?_ <;> simp [WT, pFs, fNds, al_Nds, ren_Nds, fS, al_S, ren_S, wrap64 (x := (i : Int) + 1) (by omega)]
    · obtain rfl : i = l.length := by omega
      have e1 : ¬ ((l.length : Int) < (l.length : Int)) := by omega
      rw [List.drop_length] at he
      simp only [L_wk, pFs, fNds, fS, e1, TT, ↓reduceIte, Nat.reduceEqDiff, Nat.reduceAdd, Nat.reduceMul, reduceCtorEq, Nat.reduceLeDiff]
      rw [← he]
      exact Ends.data (.inr rfl) (by simp [ET, walkF, aWalk]) ⟨trivial, trivial, trivial⟩
end Go.Proofs.YtonglhkiobibgaaGreatDoor
namespace Go.Proofs.YtonglhkiobibgaaGreatDoor
set_option maxRecDepth 100000
def ac_FD1 : AC :=
(.seq (.seq (.reg false [⟨some 11, .load true 2 (.tmp 2), none, [2], []⟩,
    ⟨some 12, .call 32 [(.tmp 11)], none, [11], []⟩,
    ⟨some 6, .mv (.tmp 12), none, [12], []⟩] [1, 2, 6])
(.seq (.reg false [⟨some 13, .mv (.tmp 6), none, [6], []⟩,
    ⟨some 14, .bin .neq (.tmp 13) (.const (.int .i64 (0))), none, [13], []⟩] [1, 2, 6, 14])
(.cond (.tmp 14)
(.seq (.reg false [⟨some 15, .mv (.tmp 6), none, [6], []⟩,
    ⟨some 16, .mv (.tmp 1), none, [1], []⟩,
    ⟨some 17, .call 77 [(.tmp 15), (.tmp 16)], none, [15, 16], []⟩,
    ⟨some 4, .mv (.const (.pointer none)), none, [], []⟩,
    ⟨some 5, .mv (.tmp 17), none, [17], []⟩] [4, 5])
.ret)
.skip)))
(.seq (.reg false [⟨some 19, .mv (.tmp 1), none, [1], []⟩,
    ⟨some 20, .call 110 [(.tmp 19)], none, [19], []⟩,
    ⟨some 18, .mv (.tmp 20), none, [20], []⟩,
    ⟨some 21, .ext 0 (.tmp 18), none, [18], []⟩,
    ⟨some 22, .ext 1 (.tmp 18), none, [18], []⟩,
    ⟨some 7, .mv (.tmp 21), none, [21], []⟩,
    ⟨some 8, .mv (.tmp 22), none, [22], []⟩] [1, 2, 7, 8])
(.seq (.seq (.reg false [⟨some 23, .mv (.tmp 8), none, [8], []⟩,
    ⟨some 24, .bin .neq (.tmp 23) (.const (.int .i64 (0))), none, [23], []⟩] [1, 2, 7, 8, 24])
(.cond (.tmp 24)
(.seq (.reg false [⟨some 25, .mv (.tmp 8), none, [8], []⟩,
    ⟨some 26, .mv (.tmp 1), none, [1], []⟩,
    ⟨some 27, .call 77 [(.tmp 25), (.tmp 26)], none, [25, 26], []⟩,
    ⟨some 4, .mv (.const (.pointer none)), none, [], []⟩,
    ⟨some 5, .mv (.tmp 27), none, [27], []⟩] [4, 5])
.ret)
.skip))
(.seq (.reg false [⟨some 29, .mv (.tmp 7), none, [7], []⟩,
    ⟨some 30, .call 115 [(.tmp 2), (.tmp 29)], none, [2, 29], []⟩,
    ⟨some 28, .mv (.tmp 30), none, [30], []⟩,
    ⟨some 31, .ext 0 (.tmp 28), none, [28], []⟩,
    ⟨some 32, .ext 1 (.tmp 28), none, [28], []⟩,
    ⟨some 9, .mv (.tmp 31), none, [31], []⟩,
    ⟨some 10, .mv (.tmp 32), none, [32], []⟩] [2, 9, 10])
(.seq (.seq (.reg false [⟨some 33, .mv (.tmp 10), none, [10], []⟩,
    ⟨some 34, .isnil true .nilIface (.tmp 33), none, [33], []⟩] [2, 9, 10, 34])
(.cond (.tmp 34)
(.seq (.reg false [⟨some 35, .mv (.tmp 10), none, [10], []⟩,
    ⟨some 36, .call 114 [(.const (.string (ByteArray.mk #[102, 105, 110, 100]))), (.tmp 35)], none, [35], []⟩,
    ⟨some 4, .mv (.const (.pointer none)), none, [], []⟩,
    ⟨some 5, .mv (.tmp 36), none, [36], []⟩] [4, 5])
.ret)
.skip))
(.seq (.reg false [⟨some 37, .mv (.tmp 9), none, [9], []⟩,
    ⟨some 38, .call 116 [(.tmp 2), (.tmp 37)], none, [2, 37], []⟩,
    ⟨some 4, .mv (.tmp 38), none, [38], []⟩,
    ⟨some 5, .mv (.const .nilIface), none, [], []⟩] [4, 5])
.ret))))))
def ac_FDc : AC :=
(.seq (.reg false [⟨some 2, .box 28 (.tmp 0), none, [0], []⟩,
    ⟨some 4, .mv (.const (.pointer none)), none, [], []⟩,
    ⟨some 5, .mv (.const .nilIface), none, [], []⟩] [1, 2])
(.weak ac_FD1))
theorem ok_FDc : FnOk Tryz.prog 78 39 ac_FDc [.tmp 4, .tmp 5] := ⟨Tryz.f78, Tryz.func78, by kernel_rfl, by kernel_rfl, by kernel_rfl, by kernel_rfl, by kernel_rfl⟩
end Go.Proofs.YtonglhkiobibgaaGreatDoor
namespace Go.Proofs.YtonglhkiobibgaaGreatDoor
open Go.RowKit
set_option maxRecDepth 100000
theorem chk_ok {s : FSt} (h : chkFs s = 0) (hb : ∀ n ∈ s.nodes, n.entries.length ≤ 140737488355328) : okE s ∧ hasN s.nodes 1 := by
  unfold chkFs at h
  split at h
  · cases h
  · rename_i hbad
    split at h
    · rename_i hc
      obtain ⟨hall, _, hinc⟩ := chk1_all hc.1
      refine ⟨fun n hn => ⟨hb n hn, (hall n hn).2⟩, ?_⟩
      have h0 : ¬ s.nodes.length = 0 := fun h9 => hbad (.inr (.inr (.inl h9)))
      have h1 : inoA s.nodes 0 = 1 := Decidable.not_not.1 fun h9 => hbad (.inr (.inr (.inr (.inr h9))))
      obtain ⟨n, hx⟩ : ∃ n, s.nodes[0]? = some n := ⟨_, List.getElem?_eq_getElem (by omega)⟩
      have h2 := hasN_of hinc hx
      rw [inoA_at hx] at h1
      rwa [h1] at h2
    · cases h
theorem walkF_has {s : FSt} (hok : okE s) : ∀ {l : List ByteArray} {t u : Int}, hasN s.nodes t → walkF s t l = .ok u → hasN s.nodes u
  | [], t, u, h, e => by rw [walkF] at e; cases e; exact h
  | x :: r, t, u, h, e => by
    rw [walkF] at e
    split at e
    · split at e
      · rename_i h2
        exact walkF_has hok (findE_has hok h h2) e
      · cases e
    · cases e
def findS : ByteArray := ByteArray.mk #[102, 105, 110, 100]
def aFind (fr : Bool) (s : FSt) : Except (Int × ByteArray) Int → AV
  | .ok t => .tup [.fp fr (eNds fr s.nodes) (plc s.nodes t * 6), .v .nilIface]
  | .error (cd, x) => .tup [.v (.pointer none), aWrp findS true cd x]
set_option maxHeartbeats 1000000 in
theorem find_spec (fr : Bool) (s : FSt) (p : ByteArray) (l : List ByteArray) (nb : Nat) (hl : s.nodes.length ≤ 140737488355328) (hb : ∀ n ∈ s.nodes, n.entries.length ≤ 140737488355328 ∧ n.file.blocks.length ≤ 140737488355328)
    (hS : ∀ nb, ASound Tryz.prog 110 [.v (.string p)] nb (.ret (.tup [fS true l, .v (.int .i64 0)]) [])) (hc : chkFs s = 0) (hll : l.length ≤ 140737488355328) :
    ASound Tryz.prog 78 [aFs fr s, .v (.string p)] nb (.ret (aFind fr s (walkF s 1 l)) []) := by
  refine ok_FDc.sound (by simp) ⟨al_aFs s, trivial, trivial⟩ ?_
  obtain ⟨hok, h1⟩ := chk_ok hc (fun n hn => (hb n hn).1)
  have hk := fun nb => fsCheck_spec fr s nb hl hb
  have hw := fun nb => walk_spec true fr true s l nb hl hok h1 hll
  rw [hc] at hk
  simp only [aFs, fNds] at hk
  simp only [pFs, fNds] at hw
  simp only [ac_FDc, aFs, fNds, TT, ↓reduceIte, Nat.reduceEqDiff, Nat.reduceAdd, Nat.reduceMul, reduceCtorEq, Nat.reduceLeDiff]
  refine ⟨⟨envOf [(1, .v (.string p)), (2, pFs true fr s)], heapOf [], 300000⟩, Weak.freezeC 0 rfl (l := [(1, .v (.string p)), (2, pFs true fr s)]) (h := []) ?_ ?_, ?_⟩
  · simp [WT, pFs, fNds, okF, fzV, fzOne]
  · trivial
  simp only [ac_FD1, pFs, fNds, TT, ↓reduceIte, Nat.reduceEqDiff, Nat.reduceAdd, Nat.reduceMul, reduceCtorEq, Nat.reduceLeDiff]
  refine ⟨_, hk _, ?_⟩
  simp only [decide_true, Bool.not_true, TT, ↓reduceIte, Nat.reduceEqDiff, Nat.reduceAdd, Nat.reduceMul, reduceCtorEq, Nat.reduceLeDiff]
  refine ⟨_, hS _, ?_⟩
  simp only [decide_true, Bool.not_true, TT, ↓reduceIte, Nat.reduceEqDiff, Nat.reduceAdd, Nat.reduceMul, reduceCtorEq, Nat.reduceLeDiff]
  refine ⟨_, hw _, ?_⟩
  cases hr : walkF s 1 l with
  | ok t =>
    have ht := walkF_has hok h1 hr
    have hn := fun nb => node_spec true fr s t nb hl ht.1
    simp only [pFs, fNds] at hn
    simp only [aWalk, TT, ↓reduceIte, Nat.reduceEqDiff, Nat.reduceAdd, Nat.reduceMul, reduceCtorEq, Nat.reduceLeDiff]
    refine ⟨_, hn _, ?_⟩
    simp only [TT, ↓reduceIte, Nat.reduceEqDiff, Nat.reduceAdd, Nat.reduceMul, reduceCtorEq, Nat.reduceLeDiff]
    exact Ends.data (.inr rfl) (by simp [ET, aFind]) ⟨al_Nds _, trivial, trivial⟩
  | error q =>
    obtain ⟨cd, x⟩ := q
    have hwr := fun nb => wrap_spec findS true cd x nb
    simp only [findS, aFlt, aWrp] at hwr
    simp only [aWalk, TT, ↓reduceIte, Nat.reduceEqDiff, Nat.reduceAdd, Nat.reduceMul, reduceCtorEq, Nat.reduceLeDiff]
    refine ⟨_, hwr _, ?_⟩
    simp only [TT, ↓reduceIte, Nat.reduceEqDiff, Nat.reduceAdd, Nat.reduceMul, reduceCtorEq, Nat.reduceLeDiff]
    exact Ends.data (.inr rfl) (by simp [ET, aFind, aWrp, findS]) ⟨trivial, ⟨trivial, ⟨trivial, trivial, trivial⟩, trivial⟩, trivial⟩
theorem read0_spec (fr : Bool) (s : FSt) (p : ByteArray) (off n : Int) (l : List ByteArray) (cd : Int) (x : ByteArray) (nb : Nat) (hl : s.nodes.length ≤ 140737488355328) (hb : ∀ n ∈ s.nodes, n.entries.length ≤ 140737488355328 ∧ n.file.blocks.length ≤ 140737488355328)
    (hS : ∀ nb, ASound Tryz.prog 110 [.v (.string p)] nb (.ret (.tup [fS true l, .v (.int .i64 0)]) [])) (hc : chkFs s = 0) (hll : l.length ≤ 140737488355328) (hw : walkF s 1 l = .error (cd, x)) :
    ASound Tryz.prog 26 [aFs fr s, .v (.string p), .v (.int .i64 off), .v (.int .i64 n)] nb (.ret (.tup [.v (.slice none 0 0), .v (.int .i64 cd)]) []) := by
  refine ok_26.sound (by simp) ⟨al_aFs s, trivial, trivial, trivial, trivial⟩ ?_
  have hf := fun nb => find_spec fr s p l nb hl hb hS hc hll
  have hcd := fun nb => fcodeW_spec findS true cd x nb
  rw [hw] at hf
  simp only [aFs, fNds, aFind, aWrp] at hf
  simp only [aWrp] at hcd
  simp only [ac_26, aFs, fNds, TT, ↓reduceIte, Nat.reduceEqDiff, Nat.reduceAdd, Nat.reduceMul, reduceCtorEq, Nat.reduceLeDiff]
  refine ⟨_, hf _, ?_⟩
  simp only [TT, ↓reduceIte, Nat.reduceEqDiff, Nat.reduceAdd, Nat.reduceMul, reduceCtorEq, Nat.reduceLeDiff]
  refine ⟨_, hcd _, ?_⟩
  simp only [TT, ↓reduceIte, Nat.reduceEqDiff, Nat.reduceAdd, Nat.reduceMul, reduceCtorEq, Nat.reduceLeDiff]
  exact Ends.data (.inr rfl) (by simp [ET]) ⟨trivial, trivial, trivial⟩
end Go.Proofs.YtonglhkiobibgaaGreatDoor
namespace Go.Proofs.YtonglhkiobibgaaGreatDoor
open Go.RowKit Go.Shelf
attribute [local go_sem] Oper.semAt_some
set_option maxRecDepth 100000
theorem hasPrefix_spec (s p : ByteArray) (nb : Nat) : ASound Tryz.prog 248 [.v (.string s), .v (.string p)] nb (.ret (.v (.bool (decide (p.size ≤ s.size ∧ s.extract 0 p.size = p)))) []) := by
  refine ok_248.sound (by simp) ⟨trivial, trivial, trivial⟩ ?_
  by_cases h : p.size ≤ s.size
  · have g1 : ((p.size : Int) ≤ (s.size : Int)) = True := eq_true (by omega)
    have g2 : ((0 : Int) ≤ (p.size : Int)) = True := eq_true (by omega)
    simp only [ac_248, g1, g2, decide_true, and_self, Int.toNat_natCast, strOp, TT, ↓reduceIte, Nat.reduceEqDiff, Nat.reduceAdd, Nat.reduceMul, reduceCtorEq, Nat.reduceLeDiff]
    exact Ends.data (.inr rfl) (by simp [ET, h]) trivial
  · have g1 : ((p.size : Int) ≤ (s.size : Int)) = False := eq_false (by omega)
    simp only [ac_248, g1, decide_false, TT, ↓reduceIte, Nat.reduceEqDiff, Nat.reduceAdd, Nat.reduceMul, reduceCtorEq, Nat.reduceLeDiff]
    exact Ends.data (.inr rfl) (by simp [ET, h]) trivial
theorem cutPrefixL_spec (s p : ByteArray) (nb : Nat) (h : p.size ≤ s.size ∧ s.extract 0 p.size = p) : ASound Tryz.prog 217 [.v (.string s), .v (.string p)] nb (.ret (.tup [.v (.string (s.extract p.size s.size)), .v (.bool true)]) []) := by
  refine ok_217.sound (by simp) ⟨trivial, trivial, trivial⟩ ?_
  have hp := fun nb => hasPrefix_spec s p nb
  rw [decide_eq_true h] at hp
  have g1 : ((p.size : Int) ≤ (s.size : Int)) = True := eq_true (by have := h.1; omega)
  have g2 : ((0 : Int) ≤ (p.size : Int)) = True := eq_true (by omega)
  simp only [ac_217, TT, ↓reduceIte, Nat.reduceEqDiff, Nat.reduceAdd, Nat.reduceMul, reduceCtorEq, Nat.reduceLeDiff]
  refine ⟨_, hp _, ?_⟩
  simp only [g1, g2, and_self, Int.toNat_natCast, TT, ↓reduceIte, Nat.reduceEqDiff, Nat.reduceAdd, Nat.reduceMul, reduceCtorEq, Nat.reduceLeDiff]
  exact Ends.data (.inr rfl) (by simp [ET]) ⟨trivial, trivial, trivial⟩
theorem cutPrefix_spec (s p : ByteArray) (nb : Nat) (h : p.size ≤ s.size ∧ s.extract 0 p.size = p) : ASound Tryz.prog 168 [.v (.string s), .v (.string p)] nb (.ret (.tup [.v (.string (s.extract p.size s.size)), .v (.bool true)]) []) := by
  refine ok_168.sound (by simp) ⟨trivial, trivial, trivial⟩ ?_
  simp only [ac_168, TT, ↓reduceIte, Nat.reduceEqDiff, Nat.reduceAdd, Nat.reduceMul, reduceCtorEq, Nat.reduceLeDiff]
  refine ⟨_, cutPrefixL_spec s p _ h, ?_⟩
  simp only [TT, ↓reduceIte, Nat.reduceEqDiff, Nat.reduceAdd, Nat.reduceMul, reduceCtorEq, Nat.reduceLeDiff]
  exact Ends.data (.inr rfl) (by simp [ET]) ⟨trivial, trivial, trivial⟩
abbrev aSeq (f : Bool) (s p : ByteArray) : AV := .fn 249 [.fp f [.v (.string p)] 0, .fp f [.v (.string s)] 0, .fp f [.v (.int .i64 0)] 0]
theorem splitSeqL_spec (s p : ByteArray) (nb : Nat) : ASound Tryz.prog 218 [.v (.string s), .v (.string p), .v (.int .i64 0)] nb (.ret (aSeq true s p) []) := by
  refine ok_218.sound (by simp) ⟨trivial, trivial, trivial, trivial⟩ ?_
  simp only [ac_218, TT, ↓reduceIte, Nat.reduceEqDiff, Nat.reduceAdd, Nat.reduceMul, reduceCtorEq, Nat.reduceLeDiff]
  refine Ends.weak (Weak.fnData 6 249 [.op 100000 0, .op 0 0, .op 200000 0] [.fp true [.v (.string p)] 0, .fp true [.v (.string s)] 0, .fp true [.v (.int .i64 0)] 0] (by simp [s_envOf]) rfl ?_) (Ends.data (.inr rfl) (by simp [ET]) ⟨⟨trivial, trivial⟩, ⟨trivial, trivial⟩, ⟨trivial, trivial⟩, trivial⟩)
  intro j x' hj
  match j, hj with
  | 0, hj => cases hj; exact ⟨_, rfl, .inr ⟨100000, true, 9, [.v (.string p)], 0, rfl, by simp [WT], ⟨trivial, trivial⟩, rfl⟩⟩
  | 1, hj => cases hj; exact ⟨_, rfl, .inr ⟨0, true, 9, [.v (.string s)], 0, rfl, by simp [WT], ⟨trivial, trivial⟩, rfl⟩⟩
  | 2, hj => cases hj; exact ⟨_, rfl, .inr ⟨200000, true, 3, [.v (.int .i64 0)], 0, rfl, by simp [WT], ⟨trivial, trivial⟩, rfl⟩⟩
  | j + 3, hj => simp at hj
theorem splitSeq_spec (s p : ByteArray) (nb : Nat) : ASound Tryz.prog 169 [.v (.string s), .v (.string p)] nb (.ret (aSeq true s p) []) := by
  refine ok_169.sound (by simp) ⟨trivial, trivial, trivial⟩ ?_
  simp only [ac_169, TT, ↓reduceIte, Nat.reduceEqDiff, Nat.reduceAdd, Nat.reduceMul, reduceCtorEq, Nat.reduceLeDiff]
  refine ⟨_, splitSeqL_spec s p _, ?_⟩
  simp only [TT, ↓reduceIte, Nat.reduceEqDiff, Nat.reduceAdd, Nat.reduceMul, reduceCtorEq, Nat.reduceLeDiff]
  exact Ends.data (.inr rfl) (by simp [ET]) ⟨⟨trivial, trivial⟩, ⟨trivial, trivial⟩, ⟨trivial, trivial⟩, trivial⟩
set_option maxHeartbeats 1000000 in
theorem index_walk (s : ByteArray) (c : UInt8) (hne : [c] ≠ s.toList) (w : World) :
    Calls Tryz.prog 281 #[.string s, .string (ByteArray.mk #[c])] w fun e w' => e = .returned (.int .i64 (Lib.indexByte s.data.toList c)) ∧ w' = w := by
  have hne' : ([c] == s.toList) = false := by simpa using hne
  have hz : (ByteArray.mk #[c]).size = 1 := rfl
  have hg : (ByteArray.mk #[c])[0]? = some c := rfl
  go_enter Tryz.func281, Tryz.ntmps281
  go_wp2_with (go_at_call 298; refine (indexL_walk s c _).mono ?_; rintro e w' ⟨rfl, rfl⟩)
  go_ret
  exact ⟨rfl, rfl⟩
theorem indexS_walk (s : ByteArray) (c : UInt8) (hne : [c] ≠ s.toList) (w : World) :
    Calls Tryz.prog 251 #[.string s, .string (ByteArray.mk #[c])] w fun e w' => e = .returned (.int .i64 (Lib.indexByte s.data.toList c)) ∧ w' = w := by
  go_enter Tryz.func251, Tryz.ntmps251
  go_wp2_with (go_at_call 281; refine (index_walk s c hne _).mono ?_; rintro e w' ⟨rfl, rfl⟩)
  go_ret
  exact ⟨rfl, rfl⟩
set_option maxHeartbeats 4000000 in
/-- the iterator of a string without the octet: it yields the string, once -/
theorem split_in (l : Nat) (p1 p2 p3 : Addr) (s : ByteArray) (c : UInt8) (hne : [c] ≠ s.toList) (hno : Lib.indexByte s.data.toList c = -1)
    (J Jx : List (_root_.Fin 1) → World → Prop) (Kp : World → World → Prop)
    (W : World) (hJ : AbidesFrom W.heap.size J) (hJx : AbidesFrom W.heap.size Jx)
    (hY : ∀ pre (x : _root_.Fin 1) W1, J pre W1 → pre.length < 1 → YieldAt Fence.wide 1 Tryz.prog l #[.string s] W1 fun e W' => (e = .returned (.bool true) ∧ J (pre ++ [x]) W' ∧ Kp W1 W') ∨ (e = .returned (.bool false) ∧ Jx (pre ++ [x]) W'))
    (h1 : W.cell? p1 = some (.string (ByteArray.mk #[c]))) (h2 : W.cell? p2 = some (.string s)) (h3 : W.cell? p3 = some (.int .i64 0)) (hj : J [] W) :
    CallsIn Fence.wide 2 Tryz.prog 249 #[.func (.yield l) #[] #[], .pointer (some p1), .pointer (some p2), .pointer (some p3)] W fun e W' => (∃ v, e = .returned v) ∧
      ((∃ xs, xs = List.finRange 1 ∧ J xs W') ∨ (∃ pre, (∃ k, k < 1 ∧ pre = (List.finRange 1).take (k + 1)) ∧ Jx pre W')) := by
  have HY := Lib.hid hY
  have HJ := Lib.hid hJ
  have Hj := Lib.hid hj
  clear hY hJ hJx hj
  have hz : (ByteArray.mk #[c]).size = 1 := rfl
  refine callsIn_of_wp Tryz.func249 rfl trivial ?_ rfl
  simp only [Tryz.ntmps249, List.size_toArray, List.length_cons, List.length_nil, Nat.reduceAdd, Nat.reduceSub, Array.replicate_succ, Array.replicate_zero, List.push_toArray, List.append_toArray, List.nil_append, List.cons_append]
  have H1 := Lib.hid h1
  have H2 := Lib.hid h2
  have H3 := Lib.hid h3
  gi_wp2
  clear h1 h2 h3
  gi_loopw [7] (fun _ wr => Hid (J [] wr) ∧ Hid (wr.cell? p1 = some (.string (ByteArray.mk #[c]))) ∧ Hid (wr.cell? p2 = some (.string s)) ∧ Hid (wr.cell? p3 = some (.int .i64 0))) (fun _ _ => 0)
  case atStart => exact ⟨Hj, H1, H2, H3⟩
  case round =>
    obtain ⟨HJs, G1, G2, G3⟩ := hrel
    have y1 := G1.out
    have y2 := G2.out
    have y3 := G3.out
    gi_wp2_with fail
    refine ⟨trivial, (callsIn_wide.2 (indexS_walk s c hne _)).mono ?_⟩
    rintro e w5 ⟨rfl, rfl⟩
    rw [hno]
    gi_wp2_with fail
    obtain ⟨fn, tmps, assign, body, hy, hR⟩ := HY.out [] ⟨0, by decide⟩ w5 HJs.out (by simp)
    rw [hy, Oper.uponIn_round]
    refine ⟨fun h => (by cases h), hR.mono ?_⟩
    have hF : List.finRange 1 = [⟨0, by decide⟩] := rfl
    rintro e W3 (⟨rfl, hJ3, _⟩ | ⟨rfl, hJx3⟩)
    · gi_wp2_with fail
      go_end0
      exact ⟨⟨_, rfl⟩, .inl ⟨_, rfl, by rw [hF]; exact hJ3⟩⟩
    · gi_wp2_with fail
      go_end0
      exact ⟨⟨_, rfl⟩, .inr ⟨_, ⟨0, by decide, rfl⟩, by rw [hF]; exact hJx3⟩⟩
theorem split_iter (f : Bool) (s : ByteArray) (c : UInt8) (hne : [c] ≠ s.toList) (hno : Lib.indexByte s.data.toList c = -1) :
    IterA Tryz.prog 249 [.fp f [.v (.string (ByteArray.mk #[c]))] 0, .fp f [.v (.string s)] 0, .fp f [.v (.int .i64 0)] 0] [[.v (.string s)]] := by
  refine ⟨by rfl, fun x lb hr hv => ?_⟩
  simp only [VRt] at hv
  obtain ⟨u1, us, rfl, h1, u2, us2, rfl, h2, u3, us3, rfl, h3, rfl⟩ := hv
  rw [VR] at h1 h2 h3
  obtain ⟨b1, o1, rfl, hlt1, ho1, hm1⟩ := h1
  obtain ⟨b2, o2, rfl, hlt2, ho2, hm2⟩ := h2
  obtain ⟨b3, o3, rfl, hlt3, ho3, hm3⟩ := h3
  simp only [VRm, Nat.add_zero] at hm1 hm2 hm3
  obtain ⟨⟨v1, hc1, _, hv1⟩, _⟩ := hm1
  obtain ⟨⟨v2, hc2, _, hv2⟩, _⟩ := hm2
  obtain ⟨⟨v3, hc3, _, hv3⟩, _⟩ := hm3
  obtain rfl : v1 = .string (ByteArray.mk #[c]) := hv1
  obtain rfl : v2 = .string s := hv2
  obtain rfl : v3 = .int .i64 0 := hv3
  refine ⟨fun _ => [.string s], fun i => ?_, ?_⟩
  · match i with
    | ⟨0, _⟩ => simp only [VRt]; exact ⟨_, _, rfl, rfl, rfl⟩
  · intro l J Jx W hW hJ hJx hY hj
    refine split_in l ⟨b1, o1, none⟩ ⟨b2, o2, none⟩ ⟨b3, o3, none⟩ s c hne hno J Jx (Kc x) W hJ hJx hY ?_ ?_ ?_ hj
    · exact (World.cell?_of_block (hW.block b1 hlt1)).trans hc1
    · exact (World.cell?_of_block (hW.block b2 hlt2)).trans hc2
    · exact (World.cell?_of_block (hW.block b3 hlt3)).trans hc3
end Go.Proofs.YtonglhkiobibgaaGreatDoor
namespace Go.Proofs.YtonglhkiobibgaaGreatDoor
open Go.RowKit
set_option maxRecDepth 100000
theorem NoM.of : ∀ {l : List (Nat × AObj)}, (∀ i y e cells, (i, AObj.row y e cells) ∈ l → e ≠ MAPE) → NoM (heapOf l)
  | [], _ => fun i y e cells h => by simp [heapOf] at h
  | (j, o) :: r, h => fun i y e cells h2 => by
    rw [heapOf] at h2
    split at h2
    · cases h2; exact h j y e cells (by simp)
    · exact NoM.of (l := r) (fun i y e cells hm => h i y e cells (List.mem_cons_of_mem _ hm)) i y e cells h2
theorem named1_spec (r : ByteArray) (y : Bool) (id nb : Nat) (hn : nameE r = 0) (hid : id < nb) :
    ASound Tryz.prog 170 [.os id 0 1 1] nb (rowsM [(id, y, 9, [.v (.string r)])] (.ret (.v (.int .i64 0)) [])) := by
  refine ASound.borrow [] [(id, y, 9, [.v (.string r)])] ?_ (by simp) (by simp) trivial (by simp)
  have e : boL [(id, y, 9, [.v (.string r)])] [.os id 0 1 1] = [fS false [r]] := by simp [boL, bo, cellsAt, od, odL, fS, eS]
  have e2 : namedL [r] = 0 := by simp [namedL, namI, hn]
  have h := named_spec false [r] nb (by simp)
  rw [e2] at h
  rw [e]
  exact h
abbrev L_sq (s r : ByteArray) : ASt := ⟨envOf [(6, .op 0 0), (20, aSeq true r (ByteArray.mk #[47]))], heapOf [(0, .row true 45 [.v (.slice none 0 0)])], 2⟩
set_option maxHeartbeats 2000000 in
theorem split1_spec (s r : ByteArray) (nb : Nat) (hs : s.size ≤ 128) (h0 : 1 ≤ s.size) (h1 : s.extract 0 1 = ByteArray.mk #[47]) (h2 : s.extract 1 s.size = r) (hne : r ≠ ByteArray.mk #[]) (hno : Lib.indexByte r.data.toList 47 = -1) (hn1 : [47] ≠ r.toList) (hn : nameE r = 0) :
    ASound Tryz.prog 110 [.v (.string s)] nb (.ret (.tup [fS true [r], .v (.int .i64 0)]) []) := by
  refine ok_110.sound (by simp) ⟨trivial, trivial⟩ ?_
  have g1 : ((128 : Int) < (s.size : Int)) = False := eq_false (by omega)
  have hc := fun nb => cutPrefix_spec s (ByteArray.mk #[47]) nb ⟨h0, h1⟩
  have hz : (ByteArray.mk #[47]).size = 1 := rfl
  rw [hz, h2] at hc
  have hq := fun nb => splitSeq_spec r (ByteArray.mk #[47]) nb
  simp only [ac_110, g1, decide_false, TT, ↓reduceIte, Nat.reduceEqDiff, Nat.reduceAdd, Nat.reduceMul, reduceCtorEq, Nat.reduceLeDiff]
  refine ⟨_, hc _, ?_⟩
  simp only [Bool.not_true, TT, ↓reduceIte, Nat.reduceEqDiff, Nat.reduceAdd, Nat.reduceMul, reduceCtorEq, Nat.reduceLeDiff]
  refine ⟨_, hq _, ?_⟩
  simp only [TT, ↓reduceIte, Nat.reduceEqDiff, Nat.reduceAdd, Nat.reduceMul, reduceCtorEq, Nat.reduceLeDiff]
  refine AWc.weak (s' := L_sq s r) (Weak.calc [(1400000, 0)] (by decide) ?_ ?_) ?_
  · simp [WT]
  · simp [WT]
  refine AWc.range 1 (by omega) (by simp [WT, evA]) (split_iter true r 47 hn1 hno) rfl (fun l hl => ?_) (AlN.env (by simp [AlL, Al]))
    (fun pre => if pre = [] then (heapOf [(0, .row true 45 [.v (.slice none 0 0)])], 2) else (heapOf [(0, .row true 45 [.os 1 0 1 1]), (1, .row true 9 [.v (.string r)])], 2)) rfl (fun pre => by split <;> exact (by decide : 1 ≤ 2)) (fun pre => ?_) (fun _ _ _ _ => False) (fun _ _ _ _ h => h.elim) (fun pre i hpl => ?_) ?_ (fun j e σ nx _ hx => hx.elim)
  · simp at hl; subst hl; exact ⟨AlNL.of ⟨trivial, trivial⟩, rfl⟩
  · split
    · exact NoM.of (by rintro i y e cells h; simp at h; obtain ⟨_, _, rfl, _⟩ := h; decide)
    · exact NoM.of (by rintro i y e cells h; simp at h; rcases h with ⟨_, _, rfl, _⟩ | ⟨_, _, rfl, _⟩ <;> decide)
  · obtain rfl : pre = [] := by simpa using hpl
    have hi : ([[AV.v (.string r)]] : List (List AV))[i] = [.v (.string r)] := by
      match i with
      | ⟨0, _⟩ => rfl
    have hne2 : (r = ByteArray.mk #[]) = False := eq_false hne
    rw [hi]
    simp only [L_sq, bindP, mvE, strOp, hne2, decide_false, Bool.not_false, if_true, TT, ↓reduceIte, Nat.reduceEqDiff, Nat.reduceAdd, Nat.reduceMul, reduceCtorEq, Nat.reduceLeDiff]
    show Weak 34 1 _ ⟨envOf [], heapOf [(0, .row true 45 [.os 1 0 1 1]), (1, .row true 9 [.v (.string r)])], 2⟩
    refine Weak.calc [(0, 0), (500002, 1)] (by decide) ?_ ?_ <;> simp [WT]
  · have hF : List.finRange ([[AV.v (.string r)]] : List (List AV)).length ≠ [] := by show List.finRange 1 ≠ []; decide
    have hm := fun nb hid => named1_spec r true 1 nb hn hid
    simp only [rowsM] at hm
    simp only [L_sq, hF, if_false, TT, ↓reduceIte, Nat.reduceEqDiff, Nat.reduceAdd, Nat.reduceMul, reduceCtorEq, Nat.reduceLeDiff]
    refine ⟨_, hm _ (by decide), ?_⟩
    simp only [decide_true, Bool.not_true, TT, ↓reduceIte, Nat.reduceEqDiff, Nat.reduceAdd, Nat.reduceMul, reduceCtorEq, Nat.reduceLeDiff]
    refine Ends.weak (Weak.freezeC 1 rfl (l := [(2, .fs true [.v (.string r)] 1), (3, .v (.int .i64 0))]) (h := []) ?_ ?_) (Ends.data (.inr rfl) (by simp [ET, fS, eS]) ⟨⟨trivial, trivial⟩, trivial, trivial⟩)
    · simp [WT]
    · trivial
end Go.Proofs.YtonglhkiobibgaaGreatDoor
namespace Go.Proofs.YtonglhkiobibgaaGreatDoor
open Go.RowKit
set_option maxRecDepth 100000
theorem cloneN_ok (fr : Bool) (l : List Nd) (nb : Nat) (h0 : l ≠ []) (h : l.length ≤ 1000000000000) : ASound Tryz.prog 129 [fNds fr l] nb (.ret (.os nb 0 l.length 6) [(nb, some (.row true 118 (eNds fr l)))]) := by
  refine ok_129.sound (by simp) ⟨al_fNds l, trivial⟩ ?_
  have hn : ¬ l.length = 0 := fun e => h0 (List.eq_nil_of_length_eq_zero e)
  simp only [ac_129, fNds, len_Nds, hn, TT, ↓reduceIte, Nat.reduceEqDiff, Nat.reduceAdd, Nat.reduceMul, reduceCtorEq, Nat.reduceLeDiff]
  rw [if_pos (by omega)]
  exact Ends.rows1 (i := 500000) (r0 := .os 500000 0 l.length 6) (.inr rfl) (by simp [ET]) rfl (al_Nds l) (by simp [Al]) (by simp [ren, rn])
theorem cloneE_nil (fr : Bool) (nb : Nat) : ASound Tryz.prog 130 [.fs fr [] 0] nb (.ret (.fs true [] 0) []) := by
  refine ASound.nil1 fun A k => ?_
  refine ok_130.sound (by simp) ⟨trivial, trivial⟩ ?_
  cases A with
  | none =>
    simp only [ac_130, TT, ↓reduceIte, Nat.reduceEqDiff, Nat.reduceAdd, Nat.reduceMul, reduceCtorEq, Nat.reduceLeDiff]
    exact Ends.imp (r0 := .v (.slice none 0 0)) (.inr rfl) (by simp [ET]) trivial (Imp.nil true)
  | some A =>
    simp only [ac_130, TT, ↓reduceIte, Nat.reduceEqDiff, Nat.reduceAdd, Nat.reduceMul, reduceCtorEq, Nat.reduceLeDiff]
    refine Ends.weak (Weak.freezeC 500000 rfl (l := [(2, .fs true [] 0)]) (h := []) ?_ ?_) (Ends.data (.inr rfl) (by simp [ET]) trivial)
    · simp [WT]
    · simp [WT]
theorem cloneK_nil (fr : Bool) (nb : Nat) : ASound Tryz.prog 131 [.fs fr [] 0] nb (.ret (.fs true [] 0) []) := by
  refine ASound.nil1 fun A k => ?_
  refine ok_131.sound (by simp) ⟨trivial, trivial⟩ ?_
  cases A with
  | none =>
    simp only [ac_131, TT, ↓reduceIte, Nat.reduceEqDiff, Nat.reduceAdd, Nat.reduceMul, reduceCtorEq, Nat.reduceLeDiff]
    exact Ends.imp (r0 := .v (.slice none 0 0)) (.inr rfl) (by simp [ET]) trivial (Imp.nil true)
  | some A =>
    simp only [ac_131, TT, ↓reduceIte, Nat.reduceEqDiff, Nat.reduceAdd, Nat.reduceMul, reduceCtorEq, Nat.reduceLeDiff]
    refine Ends.weak (Weak.freezeC 500000 rfl (l := [(2, .fs true [] 0)]) (h := []) ?_ ?_) (Ends.data (.inr rfl) (by simp [ET]) trivial)
    · simp [WT]
    · simp [WT]
def cNew (a b : Bool) : List AV := [.v (.int .i64 1), .v (.bool true), .v (.int .i64 0), .fs a [] 0, .v (.int .i64 0), .fs b [] 0]
theorem eNew (fr : Bool) : eNds fr newF.nodes = cNew fr fr := by simp [eNds, newF, eNd, fEnts, eEnts, fBks, eBks, cNew]
def h_sm (a : Bool) : List (Nat × AObj) := [(0, .row true 28 [.os 2 0 1 6, .v (.int .i64 2)]), (1, .row true 28 [.v (.slice none 0 0), .v (.int .i64 0)]), (2, .row true 118 (cNew a a))]
abbrev L_sm (fr : Bool) (i : Nat) : ASt := ⟨envOf [(1, .op 0 0), (2, .op 1 0), (12, .v (.int .i64 1)), (13, .v (.int .i64 i))], heapOf (h_sm (if i = 0 then fr else true)), 3⟩
abbrev L_sm2 : ASt := ⟨envOf [(1, .op 0 0), (2, .op 1 0), (4, .op 2 0), (12, .v (.int .i64 1)), (13, .v (.int .i64 0)), (43, .v (.int .i64 0)), (44, .v (.int .i64 0))], heapOf (h_sm true), 3⟩
set_option maxHeartbeats 2000000 in
theorem same0_spec (fr : Bool) (nb : Nat) : ASound Tryz.prog 89 [aFs fr newF] nb (.ret (aFs true newF) []) := by
  refine ok_89.sound (by simp) ⟨al_aFs newF, trivial⟩ ?_
  have hc := fun nb => cloneN_ok fr newF.nodes nb (by simp [newF]) (by simp [newF])
  have hl : newF.nodes.length = 1 := rfl
  have hx : newF.next = 2 := rfl
  have z1 : ((0 : Int) < ((1 : Nat) : Int)) = True := eq_true (by decide)
  simp only [fNds, eNew, hl] at hc
  simp only [ac_89, aFs, fNds, eNew, hl, hx, TT, ↓reduceIte, Nat.reduceEqDiff, Nat.reduceAdd, Nat.reduceMul, reduceCtorEq, Nat.reduceLeDiff]
  refine ⟨_, hc _, ?_⟩
  simp only [TT, ↓reduceIte, Nat.reduceEqDiff, Nat.reduceAdd, Nat.reduceMul, reduceCtorEq, Nat.reduceLeDiff]
  refine AWc.family (L_sm fr) (fun i => i ≤ 1) (fun i => 1 - i) 0 (Nat.zero_le _) ?_ ?_
  · refine Weak.calc [(0, 0), (100000, 1), (400000, 2)] (by decide) ?_ ?_ <;> simp [WT, h_sm, cNew]
  · intro i hi
    rcases Nat.lt_or_ge 0 i with h | h
    · obtain rfl : i = 1 := by omega
      have e2 : ((1 : Int) < 1) = False := eq_false (by decide)
      simp only [L_sm, h_sm, cNew, Int.natCast_one, e2, show ¬ (1 : Nat) = 0 from by decide, if_false, TT, ↓reduceIte, Nat.reduceEqDiff, Nat.reduceAdd, Nat.reduceMul, reduceCtorEq, Nat.reduceLeDiff]
      refine Ends.weak (Weak.freezeC 2 rfl (l := [(2, .op 1 0)]) (h := [(1, .row true 28 [.fs true (cNew true true) 1, .v (.int .i64 2)])]) ?_ ?_) (Ends.data (.inr rfl) (by simp [ET, aFs, fNds, eNew, hl, hx, cNew]) ⟨⟨trivial, trivial, trivial, trivial, trivial, trivial, trivial⟩, trivial, trivial⟩)
      · simp [WT]
      · simp [WT, cNew]
    · obtain rfl : i = 0 := by omega
      have z0 : ((0 : Int) ≤ 0) = True := eq_true (by decide)
      have z2 : ((0 : Int) < 1) = True := eq_true (by decide)
      have z3 : ((0 : Int) < 0) = False := eq_false (by decide)
      have hE := fun nb => cloneE_nil fr nb
      have hK := fun nb => cloneK_nil fr nb
      simp only [L_sm, h_sm, cNew, if_true, Int.natCast_zero, Int.natCast_one, z0, z2, Int.toNat_zero, TT, ↓reduceIte, Nat.reduceEqDiff, Nat.reduceAdd, Nat.reduceMul, reduceCtorEq, Nat.reduceLeDiff]
      refine ⟨_, hE _, ?_⟩
      simp only [TT, ↓reduceIte, Nat.reduceEqDiff, Nat.reduceAdd, Nat.reduceMul, reduceCtorEq, Nat.reduceLeDiff]
      refine ⟨_, hK _, ?_⟩
      simp only [TT, ↓reduceIte, Nat.reduceEqDiff, Nat.reduceAdd, Nat.reduceMul, reduceCtorEq, Nat.reduceLeDiff]
      refine AWc.family (fun _ : Unit => L_sm2) (fun _ => True) (fun _ => 0) () trivial ?_ ?_
      · refine Weak.calc [(0, 0), (1, 1), (2, 2)] (by decide) ?_ ?_ <;> simp [WT, h_sm, cNew]
      · intro _ _
        simp only [L_sm2, h_sm, cNew, z3, TT, ↓reduceIte, Nat.reduceEqDiff, Nat.reduceAdd, Nat.reduceMul, reduceCtorEq, Nat.reduceLeDiff]
        refine famC_next 1 (by decide) (by decide) ?_
        refine Weak.calc [(0, 0), (1, 1), (2, 2)] (by decide) ?_ ?_ <;> simp [WT, h_sm, cNew, show IntKind.i64.wrap 1 = 1 from by rfl]
def pX : ByteArray := ByteArray.mk #[47, 120]
def rX : ByteArray := ByteArray.mk #[120]
theorem chk_new : chkFs newF = 0 := by kernel_rfl
theorem walk_new : walkF newF 1 [rX] = .error (101, rX) := by kernel_rfl
theorem name_x : nameE rX = 0 := by kernel_rfl
theorem split_x (nb : Nat) : ASound Tryz.prog 110 [.v (.string pX)] nb (.ret (.tup [fS true [rX], .v (.int .i64 0)]) []) :=
  split1_spec pX rX nb (by decide) (by decide) (by kernel_rfl) (by kernel_rfl) (by intro h; cases h) (by kernel_rfl) (by simp [rX]) name_x
theorem readX_spec (fr : Bool) (off n : Int) (nb : Nat) : ASound Tryz.prog 26 [aFs fr newF, .v (.string pX), .v (.int .i64 off), .v (.int .i64 n)] nb (.ret (.tup [.v (.slice none 0 0), .v (.int .i64 101)]) []) :=
  read0_spec fr newF pX off n [rX] 101 rX nb (by decide) (by simp [newF]) split_x chk_new (by simp) walk_new
end Go.Proofs.YtonglhkiobibgaaGreatDoor
namespace Go.Proofs.YtonglhkiobibgaaGreatDoor
open Go.RowKit
set_option maxRecDepth 100000
def repX : AV := .agg [.v (.int .i64 101), .v (.int .i64 0), .v (.slice none 0 0), .v (.slice none 0 0)]
set_option maxHeartbeats 1000000 in
theorem lookX_spec (fr fo : Bool) (o : OpD) (nb : Nat) (hk : o.kind = 9) (hp : o.path = pX) : ASound Tryz.prog 90 [aFs fr newF, aOp fo o] nb (.ret repX []) := by
  refine ok_90.sound (by simp) ⟨al_aFs newF, al_aOp o, trivial⟩ ?_
  have hr := fun nb => readX_spec fr o.off o.n nb
  simp only [aFs, fNds] at hr
  have g : ((9 : Int) = 9) = True := eq_true rfl
  simp only [ac_90, aFs, fNds, aOp, fB, hk, hp, g, decide_true, TT, ↓reduceIte, Nat.reduceEqDiff, Nat.reduceAdd, Nat.reduceMul, reduceCtorEq, Nat.reduceLeDiff]
  refine ⟨_, hr _, ?_⟩
  simp only [TT, ↓reduceIte, Nat.reduceEqDiff, Nat.reduceAdd, Nat.reduceMul, reduceCtorEq, Nat.reduceLeDiff]
  exact Ends.data (.inr rfl) (by simp [ET, repX]) ⟨trivial, trivial, trivial, trivial, trivial⟩
def opX : OpD := { kind := 9, path := pX, to := ByteArray.mk #[], off := 0, n := 9, data := [] }
theorem opchk_x : opChk opX = 0 := by kernel_rfl
set_option maxHeartbeats 1000000 in
theorem applyX_spec (fr fo : Bool) (nb : Nat) : ASound Tryz.prog 34 [aFs fr newF, aOp fo opX] nb (.ret (.tup [aFs true newF, repX, .v (.int .i64 0)]) []) := by
  refine ok_34.sound (by simp) ⟨al_aFs newF, al_aOp opX, trivial⟩ ?_
  have hk := fun nb => fsCheck_spec fr newF nb (by decide) (by simp [newF])
  have ho := fun nb => opCheck_spec fo opX nb
  have hs := fun nb => same0_spec fr nb
  have hl := fun nb => lookX_spec fr fo opX nb rfl rfl
  rw [chk_new] at hk
  rw [opchk_x] at ho
  have g : ((9 : Int) ≤ 9) = True := eq_true (by decide)
  have hkd : opX.kind = 9 := rfl
  simp only [aFs, fNds, aOp, fB, hkd] at hk ho hs hl
  simp only [ac_34, aFs, fNds, aOp, fB, hkd, TT, ↓reduceIte, Nat.reduceEqDiff, Nat.reduceAdd, Nat.reduceMul, reduceCtorEq, Nat.reduceLeDiff]
  refine ⟨_, hk _, ?_⟩
  simp only [decide_true, Bool.not_true, TT, ↓reduceIte, Nat.reduceEqDiff, Nat.reduceAdd, Nat.reduceMul, reduceCtorEq, Nat.reduceLeDiff]
  refine ⟨_, ho _, ?_⟩
  simp only [decide_true, Bool.not_true, g, TT, ↓reduceIte, Nat.reduceEqDiff, Nat.reduceAdd, Nat.reduceMul, reduceCtorEq, Nat.reduceLeDiff]
  refine ⟨_, hs _, ?_⟩
  simp only [TT, ↓reduceIte, Nat.reduceEqDiff, Nat.reduceAdd, Nat.reduceMul, reduceCtorEq, Nat.reduceLeDiff]
  refine ⟨_, hl _, ?_⟩
  simp only [repX, TT, ↓reduceIte, Nat.reduceEqDiff, Nat.reduceAdd, Nat.reduceMul, reduceCtorEq, Nat.reduceLeDiff]
  exact ⟨by rfl, Ends.data (.inr rfl) (by simp [ET, repX, aFs, fNds]) ⟨⟨al_fNds _, trivial, trivial⟩, ⟨trivial, trivial, trivial, trivial, trivial⟩, trivial, trivial⟩⟩
end Go.Proofs.YtonglhkiobibgaaGreatDoor
namespace Go.Proofs.YtonglhkiobibgaaGreatDoor
open Go.RowKit
set_option maxRecDepth 100000
theorem num11_spec (e : Int) (nb : Nat) : ASound Tryz.prog 35 [.v (.int .i64 e)] nb (.ret (.v (.int .i64 e)) []) := by
  refine ok_35.sound (by simp) ⟨trivial, trivial⟩ ?_
  simp only [ac_35, TT, ↓reduceIte, Nat.reduceEqDiff, Nat.reduceAdd, Nat.reduceMul, reduceCtorEq, Nat.reduceLeDiff]
  exact Ends.data (.inr rfl) (by simp [ET]) trivial
abbrev rawOp (k : Int) (p : ByteArray) (n : Int) : AV := .agg [.v (.int .i64 k), .v (.string p), .v (.string (ByteArray.mk #[])), .v (.int .i64 0), .v (.int .i64 n), nilA0]
theorem applyR_spec (fr : Bool) (nb : Nat) : ASound Tryz.prog 34 [aFs fr newF, rawOp 9 pX 9] nb (.ret (.tup [aFs true newF, repX, .v (.int .i64 0)]) []) :=
  (applyX_spec fr false nb).args ⟨Imp.refl _, Imp.aggL ⟨Imp.refl _, Imp.refl _, Imp.refl _, Imp.refl _, Imp.refl _, Imp.nil _, trivial⟩, trivial⟩
theorem encS_spec (nb : Nat) : ∃ l : List Int, 0 < l.length ∧ ASound Tryz.prog 43 [rawOp 12 (ByteArray.mk #[]) 0] nb (.ret (.tup [fB true l, .v (.int .i64 0)]) []) := by
  have h := opEncode_spec false ⟨12, ByteArray.mk #[], ByteArray.mk #[], 0, 0, []⟩ nb (by simp [i64ok]) (by simp [i64ok])
  have e1 : encO ⟨12, ByteArray.mk #[], ByteArray.mk #[], 0, 0, []⟩ = encode (opRec ⟨12, ByteArray.mk #[], ByteArray.mk #[], 0, 0, []⟩) := by rw [encO, if_pos (by decide)]
  have e2 : (encode (opRec ⟨12, ByteArray.mk #[], ByteArray.mk #[], 0, 0, []⟩)).2 = 0 := by rw [encode, if_pos (by decide)]
  have e3 : 0 < (encode (opRec ⟨12, ByteArray.mk #[], ByteArray.mk #[], 0, 0, []⟩)).1.length := by rw [encode, if_pos (by decide)]; simp [sealB, low_length]
  rw [e1, e2] at h
  exact ⟨_, e3, h.args ⟨Imp.aggL ⟨Imp.refl _, Imp.refl _, Imp.refl _, Imp.refl _, Imp.refl _, Imp.nil _, trivial⟩, trivial⟩⟩
theorem alive11 (nb : Nat) : ASound Tryz.prog 33 [] nb (.ret (.v (.bool true)) []) := by
  refine ok_33.sound (by simp) trivial ?_
  have hn := new_spec
  have ha := applyR_spec true
  simp only [aFs, fNds, rawOp, pX] at hn ha
  obtain ⟨l, hl, he⟩ := encS_spec 1400000
  simp only [rawOp] at he
  simp only [ac_33, TT, ↓reduceIte, Nat.reduceEqDiff, Nat.reduceAdd, Nat.reduceMul, reduceCtorEq, Nat.reduceLeDiff]
  refine ⟨_, hn _, ?_⟩
  simp only [TT, ↓reduceIte, Nat.reduceEqDiff, Nat.reduceAdd, Nat.reduceMul, reduceCtorEq, Nat.reduceLeDiff]
  refine ⟨_, ha _, ?_⟩
  simp only [repX, TT, ↓reduceIte, Nat.reduceEqDiff, Nat.reduceAdd, Nat.reduceMul, reduceCtorEq, Nat.reduceLeDiff]
  refine ⟨_, he, ?_⟩
  simp only [TT, ↓reduceIte, Nat.reduceEqDiff, Nat.reduceAdd, Nat.reduceMul, reduceCtorEq, Nat.reduceLeDiff]
  refine ⟨_, num11_spec _ _, ?_⟩
  simp only [TT, ↓reduceIte, Nat.reduceEqDiff, Nat.reduceAdd, Nat.reduceMul, reduceCtorEq, Nat.reduceLeDiff]
  refine ⟨_, num11_spec _ _, ?_⟩
  have w : IntKind.i64.wrap (0 + 0) = 0 := by rfl
  have g1 : ((0 : Int) = 0) = True := eq_true rfl
  have g2 : ((101 : Int) = 101) = True := eq_true rfl
  have g3 : ((0 : Int) < (l.length : Int)) = True := eq_true (by omega)
  simp only [w, g1, g2, g3, decide_true, TT, ↓reduceIte, Nat.reduceEqDiff, Nat.reduceAdd, Nat.reduceMul, reduceCtorEq, Nat.reduceLeDiff]
  exact Ends.data (.inr rfl) (by simp [ET]) trivial
end Go.Proofs.YtonglhkiobibgaaGreatDoor
namespace Go.Proofs.YtonglhkiobibgaaGreatDoor
open Go.RowKit
set_option maxRecDepth 100000
theorem own11_spec (fr : Bool) (o : OpD) (nb : Nat) (h : o.data.length ≤ 140737488355328) : ASound Tryz.prog 41 [aOp fr o] nb (.ret (aOp true o) []) := by
  refine ok_41.sound (by simp) ⟨al_aOp o, trivial⟩ ?_
  have hc := fun nb => copyBytes_spec fr o.data nb h
  simp only [fB] at hc
  simp only [ac_41, aOp, fB, TT, ↓reduceIte, Nat.reduceEqDiff, Nat.reduceAdd, Nat.reduceMul, reduceCtorEq, Nat.reduceLeDiff]
  refine ⟨_, hc _, ?_⟩
  simp only [TT, ↓reduceIte, Nat.reduceEqDiff, Nat.reduceAdd, Nat.reduceMul, reduceCtorEq, Nat.reduceLeDiff]
  exact Ends.data (.inr rfl) (by simp [ET, aOp, fB]) (al_aOp o)
set_option maxHeartbeats 1000000 in
theorem rOpCheck_spec (fr : Bool) (o : OpD) (nb : Nat) : ASound Tryz.prog 49 [aOp fr o] nb (.ret (.v (.int .i64 (opChk o))) []) := by
  refine ok_49.sound (by simp) ⟨al_aOp o, trivial⟩ ?_
  by_cases h1 : o.kind < 1
  · have e : opChk o = 22 := by rw [opChk, if_pos (.inl h1)]
    simp only [ac_49, aOp, fB, h1, e, decide_true, TT, ↓reduceIte, Nat.reduceEqDiff, Nat.reduceAdd, Nat.reduceMul, reduceCtorEq, Nat.reduceLeDiff]
    exact Ends.data (.inr rfl) (by simp [ET]) trivial
  by_cases h2 : 12 < o.kind
  · have e : opChk o = 22 := by rw [opChk, if_pos (.inr h2)]
    simp only [ac_49, aOp, fB, h1, h2, e, decide_true, decide_false, TT, ↓reduceIte, Nat.reduceEqDiff, Nat.reduceAdd, Nat.reduceMul, reduceCtorEq, Nat.reduceLeDiff]
    exact Ends.data (.inr rfl) (by simp [ET]) trivial
  have e0 : opChk o = if 255 < o.path.size ∨ 255 < o.to.size ∨ 4096 < o.data.length then 5 else 0 := by rw [opChk, if_neg (by omega)]
  by_cases h3 : 255 < o.path.size
  · have e : opChk o = 5 := by rw [e0, if_pos (by omega)]
    have g3 : ((255 : Int) < (o.path.size : Int)) = True := eq_true (by omega)
    simp only [ac_49, aOp, fB, h1, h2, g3, e, decide_true, decide_false, TT, ↓reduceIte, Nat.reduceEqDiff, Nat.reduceAdd, Nat.reduceMul, reduceCtorEq, Nat.reduceLeDiff]
    exact Ends.data (.inr rfl) (by simp [ET]) trivial
  have g3 : ((255 : Int) < (o.path.size : Int)) = False := eq_false (by omega)
  by_cases h4 : 255 < o.to.size
  · have e : opChk o = 5 := by rw [e0, if_pos (by omega)]
    have g4 : ((255 : Int) < (o.to.size : Int)) = True := eq_true (by omega)
    simp only [ac_49, aOp, fB, h1, h2, g3, g4, e, decide_true, decide_false, TT, ↓reduceIte, Nat.reduceEqDiff, Nat.reduceAdd, Nat.reduceMul, reduceCtorEq, Nat.reduceLeDiff]
    exact Ends.data (.inr rfl) (by simp [ET]) trivial
  have g4 : ((255 : Int) < (o.to.size : Int)) = False := eq_false (by omega)
  by_cases h5 : 4096 < o.data.length
  · have e : opChk o = 5 := by rw [e0, if_pos (by omega)]
    have g5 : ((4096 : Int) < (o.data.length : Int)) = True := eq_true (by omega)
    simp only [ac_49, aOp, fB, h1, h2, g3, g4, g5, e, decide_true, decide_false, TT, ↓reduceIte, Nat.reduceEqDiff, Nat.reduceAdd, Nat.reduceMul, reduceCtorEq, Nat.reduceLeDiff]
    exact Ends.data (.inr rfl) (by simp [ET]) trivial
  have g5 : ((4096 : Int) < (o.data.length : Int)) = False := eq_false (by omega)
  have e : opChk o = 0 := by rw [e0, if_neg (by omega)]
  simp only [ac_49, aOp, fB, h1, h2, g3, g4, g5, e, decide_false, TT, ↓reduceIte, Nat.reduceEqDiff, Nat.reduceAdd, Nat.reduceMul, reduceCtorEq, Nat.reduceLeDiff]
  exact Ends.data (.inr rfl) (by simp [ET]) trivial
theorem rencode_b (fr : Bool) (o : OpD) (h1 : i64ok o.off) (h2 : i64ok o.n) (id1 id2 nb : Nat) (hne : id1 ≠ id2) : ASound Tryz.prog 97 [.agg [.v (.int .i64 o.kind), .os id1 0 2 1, .os id2 0 3 1]] nb
    (rowsM [(id1, true, 3, [.v (.int .i64 o.off), .v (.int .i64 o.n)]), (id2, true, 37, [.fs true (octs o.path) o.path.size, .fs true (octs o.to) o.to.size, fB fr o.data])] (.ret (.tup [fB true (encode (opRec o)).1, .v (.int .i64 (encode (opRec o)).2)]) [])) := by
  refine ASound.borrow [] [(id1, true, 3, [.v (.int .i64 o.off), .v (.int .i64 o.n)]), (id2, true, 37, [.fs true (octs o.path) o.path.size, .fs true (octs o.to) o.to.size, fB fr o.data])] ?_ (by simp) (by simp) ⟨yg_fB _, trivial, trivial⟩ (by simp)
  have e : boL [(id1, true, 3, [.v (.int .i64 o.off), .v (.int .i64 o.n)]), (id2, true, 37, [.fs true (octs o.path) o.path.size, .fs true (octs o.to) o.to.size, fB fr o.data])] [.agg [.v (.int .i64 o.kind), .os id1 0 2 1, .os id2 0 3 1]] = [aRec false (opRec o)] := by
    simp [boL, bo, cellsAt, od, odL, od_fB, fI, aRec, opRec, fL, eL, eI, fB, hne.symm, od_B, octs_eq, octL_len]
  rw [e]
  exact rencode_spec false (opRec o) nb (by intro n hn; simp [opRec] at hn; rcases hn with rfl | rfl <;> assumption)
set_option maxHeartbeats 1000000 in
theorem rOpEncode_spec (fr : Bool) (o : OpD) (nb : Nat) (h1 : i64ok o.off) (h2 : i64ok o.n) : ASound Tryz.prog 44 [aOp fr o] nb (.ret (.tup [fB true (encO o).1, .v (.int .i64 (encO o).2)]) []) := by
  refine ok_44.sound (by simp) ⟨al_aOp o, trivial⟩ ?_
  have hc := rOpCheck_spec fr o
  simp only [aOp] at hc
  simp only [ac_44, aOp, TT, ↓reduceIte, Nat.reduceEqDiff, Nat.reduceAdd, Nat.reduceMul, reduceCtorEq, Nat.reduceLeDiff]
  refine ⟨_, hc _, ?_⟩
  simp only [TT, ↓reduceIte, Nat.reduceEqDiff, Nat.reduceAdd, Nat.reduceMul, reduceCtorEq, Nat.reduceLeDiff]
  by_cases h0 : opChk o = 0
  · have e : encO o = encode (opRec o) := by rw [encO, if_pos h0]
    simp only [h0, e, TT, ↓reduceIte, Nat.reduceEqDiff, Nat.reduceAdd, Nat.reduceMul, reduceCtorEq, Nat.reduceLeDiff]
    refine ⟨_, rencode_b fr o h1 h2 _ _ _ (by omega), ?_⟩
    simp only [TT, ↓reduceIte, Nat.reduceEqDiff, Nat.reduceAdd, Nat.reduceMul, reduceCtorEq, Nat.reduceLeDiff]
    exact Ends.data (.inr rfl) (by simp [ET]) ⟨al_fB _, trivial, trivial⟩
  · have e : encO o = ([], opChk o) := by rw [encO, if_neg h0]
    simp only [h0, e, TT, ↓reduceIte, Nat.reduceEqDiff, Nat.reduceAdd, Nat.reduceMul, reduceCtorEq, Nat.reduceLeDiff]
    exact Ends.imp (.inr rfl) (r0 := .tup [.v (.slice none 0 0), .v (.int .i64 (opChk o))]) (by simp [ET]) ⟨trivial, trivial, trivial⟩ (nilE _)
theorem len2 {α : Type} {l : List α} (h : l.length = 2) : ∃ a b, l = [a, b] := by
  match l, h with
  | [a, b], _ => exact ⟨a, b, rfl⟩
theorem len3 {α : Type} {l : List α} (h : l.length = 3) : ∃ a b c, l = [a, b, c] := by
  match l, h with
  | [a, b, c], _ => exact ⟨a, b, c, rfl⟩
def op0D : OpD := ⟨0, ByteArray.mk #[], ByteArray.mk #[], 0, 0, []⟩
/-- the op that a record tells -/
def opOf (r : Rec) : OpD × Int :=
  match r.nums, r.texts with
  | [a, b], [p, q, d] => if opChk ⟨r.kind, strOf p, strOf q, a, b, d⟩ = 0 then (⟨r.kind, strOf p, strOf q, a, b, d⟩, 0) else (op0D, opChk ⟨r.kind, strOf p, strOf q, a, b, d⟩)
  | _, _ => (op0D, 3)
theorem opOf_bad {r : Rec} (h : ¬ (r.nums.length = 2 ∧ r.texts.length = 3)) : opOf r = (op0D, 3) := by
  unfold opOf
  split
  · rename_i h1 h2; exact absurd ⟨by rw [h1]; rfl, by rw [h2]; rfl⟩ h
  · rfl
def decO (l : List Int) : OpD × Int := if (dec l).2 = 0 then opOf (dec l).1 else (op0D, (dec l).2)
theorem impOp (e : Int) : Imp (.tup [.agg [.v (.int .i64 0), .v (.string (ByteArray.mk #[])), .v (.string (ByteArray.mk #[])), .v (.int .i64 0), .v (.int .i64 0), .v (.slice none 0 0)], .v (.int .i64 e)]) (.tup [aOp true op0D, .v (.int .i64 e)]) :=
  Imp.tupL ⟨Imp.aggL ⟨Imp.refl _, Imp.refl _, Imp.refl _, Imp.refl _, Imp.refl _, Imp.nil true, trivial⟩, Imp.refl _, trivial⟩
set_option maxHeartbeats 2000000 in
theorem opDecode_spec (fr : Bool) (l : List Int) (nb : Nat) (hb : okB l) (h : l.length ≤ 140737488355320) : ASound Tryz.prog 45 [fB fr l] nb (.ret (.tup [aOp true (decO l).1, .v (.int .i64 (decO l).2)]) []) := by
  refine ok_45.sound (by simp) ⟨al_fB l, trivial⟩ ?_
  have hd := fun nb => decode_spec fr l nb hb h
  simp only [fB] at hd
  simp only [ac_45, fB, TT, ↓reduceIte, Nat.reduceEqDiff, Nat.reduceAdd, Nat.reduceMul, reduceCtorEq, Nat.reduceLeDiff]
  refine ⟨_, hd _, ?_⟩
  by_cases h0 : ¬ (dec l).2 = 0
  · have e : decO l = (op0D, (dec l).2) := if_neg h0
    simp only [h0, e, decide_false, Bool.not_false, TT, ↓reduceIte, Nat.reduceEqDiff, Nat.reduceAdd, Nat.reduceMul, reduceCtorEq, Nat.reduceLeDiff]
    exact Ends.imp (.inr rfl) (r0 := .tup [.agg [.v (.int .i64 0), .v (.string (ByteArray.mk #[])), .v (.string (ByteArray.mk #[])), .v (.int .i64 0), .v (.int .i64 0), .v (.slice none 0 0)], .v (.int .i64 (dec l).2)]) (by simp [ET]) ⟨⟨trivial, trivial, trivial, trivial, trivial, trivial, trivial⟩, trivial, trivial⟩ (impOp _)
  replace h0 : (dec l).2 = 0 := Decidable.not_not.1 h0
  have e : decO l = opOf (dec l).1 := if_pos h0
  rw [e]
  simp only [h0, decide_true, Bool.not_true, TT, ↓reduceIte, Nat.reduceEqDiff, Nat.reduceAdd, Nat.reduceMul, reduceCtorEq, Nat.reduceLeDiff]
  obtain ⟨k, ns, ts⟩ := (dec l).1
  by_cases h2 : ¬ ns.length = 2
  · have g : ((ns.length : Int) = 2) = False := eq_false (by omega)
    have e3 : opOf ⟨k, ns, ts⟩ = (op0D, 3) := opOf_bad (fun h9 => h2 h9.1)
    simp only [g, e3, decide_false, Bool.not_false, TT, ↓reduceIte, Nat.reduceEqDiff, Nat.reduceAdd, Nat.reduceMul, reduceCtorEq, Nat.reduceLeDiff]
    exact Ends.imp (.inr rfl) (r0 := .tup [.agg [.v (.int .i64 0), .v (.string (ByteArray.mk #[])), .v (.string (ByteArray.mk #[])), .v (.int .i64 0), .v (.int .i64 0), .v (.slice none 0 0)], .v (.int .i64 3)]) (by simp [ET]) ⟨⟨trivial, trivial, trivial, trivial, trivial, trivial, trivial⟩, trivial, trivial⟩ (impOp _)
  replace h2 : ns.length = 2 := Decidable.not_not.1 h2
  have g2 : ((ns.length : Int) = 2) = True := eq_true (by omega)
  by_cases h3 : ¬ ts.length = 3
  · have g : ((ts.length : Int) = 3) = False := eq_false (by omega)
    have e3 : opOf ⟨k, ns, ts⟩ = (op0D, 3) := opOf_bad (fun h9 => h3 h9.2)
    simp only [g, g2, e3, decide_true, decide_false, Bool.not_true, Bool.not_false, TT, ↓reduceIte, Nat.reduceEqDiff, Nat.reduceAdd, Nat.reduceMul, reduceCtorEq, Nat.reduceLeDiff]
    exact Ends.imp (.inr rfl) (r0 := .tup [.agg [.v (.int .i64 0), .v (.string (ByteArray.mk #[])), .v (.string (ByteArray.mk #[])), .v (.int .i64 0), .v (.int .i64 0), .v (.slice none 0 0)], .v (.int .i64 3)]) (by simp [ET]) ⟨⟨trivial, trivial, trivial, trivial, trivial, trivial, trivial⟩, trivial, trivial⟩ (impOp _)
  replace h3 : ts.length = 3 := Decidable.not_not.1 h3
  have g3 : ((ts.length : Int) = 3) = True := eq_true (by omega)
  obtain ⟨a, b, rfl⟩ := len2 h2
  obtain ⟨p, q, d, rfl⟩ := len3 h3
  have eT : eL true [p, q, d] = [.fs true (eB p) p.length, .fs true (eB q) q.length, .fs true (eB d) d.length] := by simp [eL, fB]
  have eN : eI [a, b] = [.v (.int .i64 a), .v (.int .i64 b)] := by simp [eI]
  have hc := fun nb => opCheck_spec true ⟨k, strOf p, strOf q, a, b, d⟩ nb
  simp only [aOp, fB] at hc
  have eo : opOf ⟨k, [a, b], [p, q, d]⟩ = if opChk ⟨k, strOf p, strOf q, a, b, d⟩ = 0 then (⟨k, strOf p, strOf q, a, b, d⟩, 0) else (op0D, opChk ⟨k, strOf p, strOf q, a, b, d⟩) := rfl
  rw [eo]
  have z0 : ((0 : Int) ≤ 0) = True := eq_true (by decide)
  have z1 : ((0 : Int) ≤ 1) = True := eq_true (by decide)
  have z2 : ((0 : Int) ≤ 2) = True := eq_true (by decide)
  have l2 : ((0 : Int) < 2) = True := eq_true (by decide)
  have l2' : ((1 : Int) < 2) = True := eq_true (by decide)
  have l3 : ((0 : Int) < 3) = True := eq_true (by decide)
  have l3' : ((1 : Int) < 3) = True := eq_true (by decide)
  have l3'' : ((2 : Int) < 3) = True := eq_true (by decide)
  have c2 : (([a, b].length : Nat) : Int) = 2 := rfl
  have c3 : (([p, q, d].length : Nat) : Int) = 3 := rfl
  have t1 : Int.toNat 1 = 1 := rfl
  have t2 : Int.toNat 2 = 2 := rfl
  simp only [c2, c3, eT, eN, z0, z1, z2, l2, l2', l3, l3', l3'', t1, t2, Int.toNat_zero, List.getElem?_cons_zero, List.getElem?_cons_succ, ↓bytesOf_B, len_B, decide_true, Bool.not_true, TT, ↓reduceIte, Nat.reduceEqDiff, Nat.reduceAdd, Nat.reduceMul, reduceCtorEq, Nat.reduceLeDiff]
  refine ⟨by rfl, ?_⟩
  refine ⟨_, hc _, ?_⟩
  by_cases h9 : opChk ⟨k, strOf p, strOf q, a, b, d⟩ = 0
  · simp only [h9, decide_true, Bool.not_true, if_true, TT, ↓reduceIte, Nat.reduceEqDiff, Nat.reduceAdd, Nat.reduceMul, reduceCtorEq, Nat.reduceLeDiff]
    exact Ends.data (.inr rfl) (by simp [ET, aOp, fB]) ⟨al_aOp (fr := true) ⟨k, strOf p, strOf q, a, b, d⟩, trivial, trivial⟩
  · simp only [h9, decide_false, Bool.not_false, if_false, TT, ↓reduceIte, Nat.reduceEqDiff, Nat.reduceAdd, Nat.reduceMul, reduceCtorEq, Nat.reduceLeDiff]
    exact Ends.imp (.inr rfl) (r0 := .tup [.agg [.v (.int .i64 0), .v (.string (ByteArray.mk #[])), .v (.string (ByteArray.mk #[])), .v (.int .i64 0), .v (.int .i64 0), .v (.slice none 0 0)], .v (.int .i64 (opChk ⟨k, strOf p, strOf q, a, b, d⟩))]) (by simp [ET]) ⟨⟨trivial, trivial, trivial, trivial, trivial, trivial, trivial⟩, trivial, trivial⟩ (impOp _)
set_option maxHeartbeats 2000000 in
theorem rOpDecode_spec (fr : Bool) (l : List Int) (nb : Nat) (hb : okB l) (h : l.length ≤ 140737488355320) : ASound Tryz.prog 46 [fB fr l] nb (.ret (.tup [aOp true (decO l).1, .v (.int .i64 (decO l).2)]) []) := by
  refine ok_46.sound (by simp) ⟨al_fB l, trivial⟩ ?_
  have hd := fun nb => rdecode_spec fr l nb hb h
  simp only [fB] at hd
  simp only [ac_46, fB, TT, ↓reduceIte, Nat.reduceEqDiff, Nat.reduceAdd, Nat.reduceMul, reduceCtorEq, Nat.reduceLeDiff]
  refine ⟨_, hd _, ?_⟩
  by_cases h0 : ¬ (dec l).2 = 0
  · have e : decO l = (op0D, (dec l).2) := if_neg h0
    simp only [h0, e, decide_false, Bool.not_false, TT, ↓reduceIte, Nat.reduceEqDiff, Nat.reduceAdd, Nat.reduceMul, reduceCtorEq, Nat.reduceLeDiff]
    exact Ends.imp (.inr rfl) (r0 := .tup [.agg [.v (.int .i64 0), .v (.string (ByteArray.mk #[])), .v (.string (ByteArray.mk #[])), .v (.int .i64 0), .v (.int .i64 0), .v (.slice none 0 0)], .v (.int .i64 (dec l).2)]) (by simp [ET]) ⟨⟨trivial, trivial, trivial, trivial, trivial, trivial, trivial⟩, trivial, trivial⟩ (impOp _)
  replace h0 : (dec l).2 = 0 := Decidable.not_not.1 h0
  have e : decO l = opOf (dec l).1 := if_pos h0
  rw [e]
  simp only [h0, decide_true, Bool.not_true, TT, ↓reduceIte, Nat.reduceEqDiff, Nat.reduceAdd, Nat.reduceMul, reduceCtorEq, Nat.reduceLeDiff]
  obtain ⟨k, ns, ts⟩ := (dec l).1
  by_cases h2 : ¬ ns.length = 2
  · have g : ((ns.length : Int) = 2) = False := eq_false (by omega)
    have e3 : opOf ⟨k, ns, ts⟩ = (op0D, 3) := opOf_bad (fun h9 => h2 h9.1)
    simp only [g, e3, decide_false, Bool.not_false, TT, ↓reduceIte, Nat.reduceEqDiff, Nat.reduceAdd, Nat.reduceMul, reduceCtorEq, Nat.reduceLeDiff]
    exact Ends.imp (.inr rfl) (r0 := .tup [.agg [.v (.int .i64 0), .v (.string (ByteArray.mk #[])), .v (.string (ByteArray.mk #[])), .v (.int .i64 0), .v (.int .i64 0), .v (.slice none 0 0)], .v (.int .i64 3)]) (by simp [ET]) ⟨⟨trivial, trivial, trivial, trivial, trivial, trivial, trivial⟩, trivial, trivial⟩ (impOp _)
  replace h2 : ns.length = 2 := Decidable.not_not.1 h2
  have g2 : ((ns.length : Int) = 2) = True := eq_true (by omega)
  by_cases h3 : ¬ ts.length = 3
  · have g : ((ts.length : Int) = 3) = False := eq_false (by omega)
    have e3 : opOf ⟨k, ns, ts⟩ = (op0D, 3) := opOf_bad (fun h9 => h3 h9.2)
    simp only [g, g2, e3, decide_true, decide_false, Bool.not_true, Bool.not_false, TT, ↓reduceIte, Nat.reduceEqDiff, Nat.reduceAdd, Nat.reduceMul, reduceCtorEq, Nat.reduceLeDiff]
    exact Ends.imp (.inr rfl) (r0 := .tup [.agg [.v (.int .i64 0), .v (.string (ByteArray.mk #[])), .v (.string (ByteArray.mk #[])), .v (.int .i64 0), .v (.int .i64 0), .v (.slice none 0 0)], .v (.int .i64 3)]) (by simp [ET]) ⟨⟨trivial, trivial, trivial, trivial, trivial, trivial, trivial⟩, trivial, trivial⟩ (impOp _)
  replace h3 : ts.length = 3 := Decidable.not_not.1 h3
  have g3 : ((ts.length : Int) = 3) = True := eq_true (by omega)
  obtain ⟨a, b, rfl⟩ := len2 h2
  obtain ⟨p, q, d, rfl⟩ := len3 h3
  have eT : eL true [p, q, d] = [.fs true (eB p) p.length, .fs true (eB q) q.length, .fs true (eB d) d.length] := by simp [eL, fB]
  have eN : eI [a, b] = [.v (.int .i64 a), .v (.int .i64 b)] := by simp [eI]
  have hc := fun nb => rOpCheck_spec true ⟨k, strOf p, strOf q, a, b, d⟩ nb
  simp only [aOp, fB] at hc
  have eo : opOf ⟨k, [a, b], [p, q, d]⟩ = if opChk ⟨k, strOf p, strOf q, a, b, d⟩ = 0 then (⟨k, strOf p, strOf q, a, b, d⟩, 0) else (op0D, opChk ⟨k, strOf p, strOf q, a, b, d⟩) := rfl
  rw [eo]
  have z0 : ((0 : Int) ≤ 0) = True := eq_true (by decide)
  have z1 : ((0 : Int) ≤ 1) = True := eq_true (by decide)
  have z2 : ((0 : Int) ≤ 2) = True := eq_true (by decide)
  have l2 : ((0 : Int) < 2) = True := eq_true (by decide)
  have l2' : ((1 : Int) < 2) = True := eq_true (by decide)
  have l3 : ((0 : Int) < 3) = True := eq_true (by decide)
  have l3' : ((1 : Int) < 3) = True := eq_true (by decide)
  have l3'' : ((2 : Int) < 3) = True := eq_true (by decide)
  have c2 : (([a, b].length : Nat) : Int) = 2 := rfl
  have c3 : (([p, q, d].length : Nat) : Int) = 3 := rfl
  have t1 : Int.toNat 1 = 1 := rfl
  have t2 : Int.toNat 2 = 2 := rfl
  simp only [c2, c3, eT, eN, z0, z1, z2, l2, l2', l3, l3', l3'', t1, t2, Int.toNat_zero, List.getElem?_cons_zero, List.getElem?_cons_succ, ↓bytesOf_B, len_B, decide_true, Bool.not_true, TT, ↓reduceIte, Nat.reduceEqDiff, Nat.reduceAdd, Nat.reduceMul, reduceCtorEq, Nat.reduceLeDiff]
  refine ⟨by rfl, ?_⟩
  refine ⟨_, hc _, ?_⟩
  by_cases h9 : opChk ⟨k, strOf p, strOf q, a, b, d⟩ = 0
  · simp only [h9, decide_true, Bool.not_true, if_true, TT, ↓reduceIte, Nat.reduceEqDiff, Nat.reduceAdd, Nat.reduceMul, reduceCtorEq, Nat.reduceLeDiff]
    exact Ends.data (.inr rfl) (by simp [ET, aOp, fB]) ⟨al_aOp (fr := true) ⟨k, strOf p, strOf q, a, b, d⟩, trivial, trivial⟩
  · simp only [h9, decide_false, Bool.not_false, if_false, TT, ↓reduceIte, Nat.reduceEqDiff, Nat.reduceAdd, Nat.reduceMul, reduceCtorEq, Nat.reduceLeDiff]
    exact Ends.imp (.inr rfl) (r0 := .tup [.agg [.v (.int .i64 0), .v (.string (ByteArray.mk #[])), .v (.string (ByteArray.mk #[])), .v (.int .i64 0), .v (.int .i64 0), .v (.slice none 0 0)], .v (.int .i64 (opChk ⟨k, strOf p, strOf q, a, b, d⟩))]) (by simp [ET]) ⟨⟨trivial, trivial, trivial, trivial, trivial, trivial, trivial⟩, trivial, trivial⟩ (impOp _)
theorem sameOp_refl (fa fb : Bool) (o : OpD) (nb : Nat) (h : o.data.length ≤ 140737488355328) : ASound Tryz.prog 47 [aOp fa o, aOp fb o] nb (.ret (.v (.bool true)) []) := by
  refine ok_47.sound (by simp) ⟨al_aOp o, al_aOp o, trivial⟩ ?_
  have hs := fun nb => sameBytes_spec fa fb o.data o.data nb h
  simp only [fB, decide_true] at hs
  simp only [ac_47, aOp, fB, strOp, decide_true, TT, ↓reduceIte, Nat.reduceEqDiff, Nat.reduceAdd, Nat.reduceMul, reduceCtorEq, Nat.reduceLeDiff]
  refine ⟨_, hs _, ?_⟩
  simp only [TT, ↓reduceIte, Nat.reduceEqDiff, Nat.reduceAdd, Nat.reduceMul, reduceCtorEq, Nat.reduceLeDiff]
  exact Ends.data (.inr rfl) (by simp [ET]) trivial
end Go.Proofs.YtonglhkiobibgaaGreatDoor
namespace Go.Proofs.YtonglhkiobibgaaGreatDoor
set_option maxRecDepth 100000
def ac_10 : AC :=
(.seq (.reg false [⟨some 2, .box 55 (.tmp 0), none, [0], []⟩,
    ⟨some 4, .mv (.const (.bool false)), none, [], []⟩] [1, 2])
(.seq (.reg false [⟨some 15, .load true 6 (.tmp 2), none, [2], []⟩,
    ⟨some 16, .call 41 [(.tmp 15)], none, [15], []⟩,
    ⟨some 17, .mv (.tmp 1), none, [1], []⟩,
    ⟨some 18, .call 42 [(.tmp 17)], none, [17], []⟩,
    ⟨some 5, .new 55 [(.int .i64 (0)), (.string (ByteArray.mk #[])), (.string (ByteArray.mk #[])), (.int .i64 (0)), (.int .i64 (0)), (.slice none 0 0)], none, [], []⟩,
    ⟨none, .store 6 (.tmp 5) (.tmp 16), none, [5, 16], []⟩,
    ⟨some 6, .mv (.tmp 18), none, [18], []⟩] [1, 2, 5, 6])
(.seq (.reg false [⟨some 20, .load true 6 (.tmp 5), none, [5], []⟩,
    ⟨some 21, .call 43 [(.tmp 20)], none, [20], []⟩,
    ⟨some 19, .mv (.tmp 21), none, [21], []⟩,
    ⟨some 22, .ext 0 (.tmp 19), none, [19], []⟩,
    ⟨some 23, .ext 1 (.tmp 19), none, [19], []⟩,
    ⟨some 7, .mv (.tmp 22), none, [22], []⟩,
    ⟨some 8, .mv (.tmp 23), none, [23], []⟩] [1, 2, 5, 6, 7, 8])
(.seq (.reg false [⟨some 25, .load true 6 (.tmp 2), none, [2], []⟩,
    ⟨some 26, .call 44 [(.tmp 25)], none, [25], []⟩,
    ⟨some 24, .mv (.tmp 26), none, [26], []⟩,
    ⟨some 27, .ext 0 (.tmp 24), none, [24], []⟩,
    ⟨some 28, .ext 1 (.tmp 24), none, [24], []⟩,
    ⟨some 9, .mv (.tmp 27), none, [27], []⟩,
    ⟨some 10, .mv (.tmp 28), none, [28], []⟩] [1, 2, 5, 6, 7, 8, 9, 10])
(.seq (.reg false [⟨some 30, .mv (.tmp 6), none, [6], []⟩,
    ⟨some 31, .call 45 [(.tmp 30)], none, [30], []⟩,
    ⟨some 29, .mv (.tmp 31), none, [31], []⟩,
    ⟨some 32, .ext 0 (.tmp 29), none, [29], []⟩,
    ⟨some 33, .ext 1 (.tmp 29), none, [29], []⟩,
    ⟨some 11, .new 55 [(.int .i64 (0)), (.string (ByteArray.mk #[])), (.string (ByteArray.mk #[])), (.int .i64 (0)), (.int .i64 (0)), (.slice none 0 0)], none, [], []⟩,
    ⟨none, .store 6 (.tmp 11) (.tmp 32), none, [11, 32], []⟩,
    ⟨some 12, .mv (.tmp 33), none, [33], []⟩] [1, 2, 5, 6, 7, 8, 9, 10, 11, 12])
(.seq (.reg false [⟨some 35, .mv (.tmp 1), none, [1], []⟩,
    ⟨some 36, .call 46 [(.tmp 35)], none, [35], []⟩,
    ⟨some 34, .mv (.tmp 36), none, [36], []⟩,
    ⟨some 37, .ext 0 (.tmp 34), none, [34], []⟩,
    ⟨some 38, .ext 1 (.tmp 34), none, [34], []⟩,
    ⟨some 13, .new 55 [(.int .i64 (0)), (.string (ByteArray.mk #[])), (.string (ByteArray.mk #[])), (.int .i64 (0)), (.int .i64 (0)), (.slice none 0 0)], none, [], []⟩,
    ⟨none, .store 6 (.tmp 13) (.tmp 37), none, [13, 37], []⟩,
    ⟨some 14, .mv (.tmp 38), none, [38], []⟩] [1, 2, 5, 6, 7, 8, 9, 10, 11, 12, 13, 14])
(.seq (.reg true [⟨some 39, .mv (.tmp 7), none, [7], []⟩,
    ⟨some 40, .mv (.tmp 9), none, [9], []⟩,
    ⟨some 41, .call 27 [(.tmp 39), (.tmp 40)], none, [39, 40], [0, 1]⟩,
    ⟨some 42, .mv (.tmp 41), none, [41], [2, 0, 1]⟩,
    ⟨some 43, .mv (.tmp 8), some (42, true), [8, 42], [3, 2, 0, 1]⟩,
    ⟨some 44, .call 35 [(.tmp 43)], some (42, true), [43, 42], [4, 3, 2, 0, 1]⟩,
    ⟨some 45, .mv (.tmp 10), some (42, true), [10, 42], [3, 2, 0, 1]⟩,
    ⟨some 46, .bin .eql (.tmp 44) (.tmp 45), some (42, true), [44, 45, 42], [5, 6, 3, 4, 2, 0, 1]⟩,
    ⟨some 47, .pick (.tmp 42) (.tmp 46) (.const (.bool false)), none, [42, 46], [3, 7, 2, 0, 1, 5, 6, 4]⟩,
    ⟨some 48, .mv (.tmp 47), none, [47], [8, 5, 3, 7, 2, 0, 1, 6, 4]⟩,
    ⟨some 49, .load true 6 (.tmp 11), some (48, true), [11, 48], [9, 8, 5, 3, 7, 2, 0, 1, 6, 4]⟩,
    ⟨some 50, .load true 6 (.tmp 13), some (48, true), [13, 48], [9, 8, 5, 3, 7, 2, 0, 1, 6, 4]⟩,
    ⟨some 51, .call 47 [(.tmp 49), (.tmp 50)], some (48, true), [49, 50, 48], [10, 11, 9, 8, 5, 3, 7, 2, 0, 1, 6, 4]⟩,
    ⟨some 52, .pick (.tmp 48) (.tmp 51) (.const (.bool false)), none, [48, 51], [9, 12, 8, 5, 3, 7, 2, 0, 1, 6, 4, 10, 11]⟩,
    ⟨some 53, .mv (.tmp 52), none, [52], [13, 12, 9, 8, 5, 3, 7, 2, 0, 1, 6, 4, 10, 11]⟩,
    ⟨some 54, .mv (.tmp 12), some (53, true), [12, 53], [14, 13, 12, 9, 8, 5, 3, 7, 2, 0, 1, 6, 4, 10, 11]⟩,
    ⟨some 55, .call 35 [(.tmp 54)], some (53, true), [54, 53], [15, 14, 13, 12, 9, 8, 5, 3, 7, 2, 0, 1, 6, 4, 10, 11]⟩,
    ⟨some 56, .mv (.tmp 14), some (53, true), [14, 53], [14, 13, 12, 9, 8, 5, 3, 7, 2, 0, 1, 6, 4, 10, 11]⟩,
    ⟨some 57, .bin .eql (.tmp 55) (.tmp 56), some (53, true), [55, 56, 53], [16, 17, 14, 15, 13, 12, 9, 8, 5, 3, 7, 2, 0, 1, 6, 4, 10, 11]⟩,
    ⟨some 58, .pick (.tmp 53) (.tmp 57) (.const (.bool false)), none, [53, 57], [14, 18, 13, 12, 9, 8, 5, 3, 7, 2, 0, 1, 6, 4, 10, 11, 16, 17, 15]⟩,
    ⟨some 59, .mv (.tmp 58), none, [58], [19, 16, 14, 18, 13, 12, 9, 8, 5, 3, 7, 2, 0, 1, 6, 4, 10, 11, 17, 15]⟩,
    ⟨some 60, .load true 6 (.tmp 5), some (59, true), [5, 59], [20, 19, 16, 14, 18, 13, 12, 9, 8, 5, 3, 7, 2, 0, 1, 6, 4, 10, 11, 17, 15]⟩,
    ⟨some 61, .call 48 [(.tmp 60)], some (59, true), [60, 59], [21, 20, 19, 16, 14, 18, 13, 12, 9, 8, 5, 3, 7, 2, 0, 1, 6, 4, 10, 11, 17, 15]⟩,
    ⟨some 62, .call 35 [(.tmp 61)], some (59, true), [61, 59], [22, 20, 21, 19, 16, 14, 18, 13, 12, 9, 8, 5, 3, 7, 2, 0, 1, 6, 4, 10, 11, 17, 15]⟩,
    ⟨some 63, .load true 6 (.tmp 2), some (59, true), [2, 59], [20, 19, 16, 14, 18, 13, 12, 9, 8, 5, 3, 7, 2, 0, 1, 6, 4, 10, 11, 17, 15]⟩,
    ⟨some 64, .call 49 [(.tmp 63)], some (59, true), [63, 59], [24, 23, 20, 19, 16, 14, 18, 13, 12, 9, 8, 5, 3, 7, 2, 0, 1, 6, 4, 10, 11, 17, 15, 22, 21]⟩,
    ⟨some 65, .bin .eql (.tmp 62) (.tmp 64), some (59, true), [62, 64, 59], [23, 25, 20, 22, 21, 19, 16, 14, 18, 13, 12, 9, 8, 5, 3, 7, 2, 0, 1, 6, 4, 10, 11, 17, 15, 24]⟩,
    ⟨some 66, .pick (.tmp 59) (.tmp 65) (.const (.bool false)), none, [59, 65], [20, 26, 19, 16, 14, 18, 13, 12, 9, 8, 5, 3, 7, 2, 0, 1, 6, 4, 10, 11, 17, 15, 23, 25, 22, 21, 24]⟩,
    ⟨some 67, .mv (.tmp 66), none, [66], [27, 25, 20, 26, 19, 16, 14, 18, 13, 12, 9, 8, 5, 3, 7, 2, 0, 1, 6, 4, 10, 11, 17, 15, 23, 22, 21, 24]⟩,
    ⟨some 68, .load true 6 (.tmp 5), some (67, true), [5, 67], [28, 27, 25, 20, 26, 19, 16, 14, 18, 13, 12, 9, 8, 5, 3, 7, 2, 0, 1, 6, 4, 10, 11, 17, 15, 23, 22, 21, 24]⟩,
    ⟨some 69, .load true 6 (.tmp 2), some (67, true), [2, 67], [28, 27, 25, 20, 26, 19, 16, 14, 18, 13, 12, 9, 8, 5, 3, 7, 2, 0, 1, 6, 4, 10, 11, 17, 15, 23, 22, 21, 24]⟩,
    ⟨some 70, .call 47 [(.tmp 68), (.tmp 69)], some (67, true), [68, 69, 67], [29, 30, 28, 27, 25, 20, 26, 19, 16, 14, 18, 13, 12, 9, 8, 5, 3, 7, 2, 0, 1, 6, 4, 10, 11, 17, 15, 23, 22, 21, 24]⟩,
    ⟨some 71, .pick (.tmp 67) (.tmp 70) (.const (.bool false)), none, [67, 70], [28, 31, 27, 25, 20, 26, 19, 16, 14, 18, 13, 12, 9, 8, 5, 3, 7, 2, 0, 1, 6, 4, 10, 11, 17, 15, 23, 22, 21, 24, 29, 30]⟩,
    ⟨some 72, .mv (.tmp 71), none, [71], [32, 31, 28, 27, 25, 20, 26, 19, 16, 14, 18, 13, 12, 9, 8, 5, 3, 7, 2, 0, 1, 6, 4, 10, 11, 17, 15, 23, 22, 21, 24, 29, 30]⟩,
    ⟨some 73, .mv (.tmp 6), some (72, true), [6, 72], [33, 32, 31, 28, 27, 25, 20, 26, 19, 16, 14, 18, 13, 12, 9, 8, 5, 3, 7, 2, 0, 1, 6, 4, 10, 11, 17, 15, 23, 22, 21, 24, 29, 30]⟩,
    ⟨some 74, .mv (.tmp 1), some (72, true), [1, 72], [33, 32, 31, 28, 27, 25, 20, 26, 19, 16, 14, 18, 13, 12, 9, 8, 5, 3, 7, 2, 0, 1, 6, 4, 10, 11, 17, 15, 23, 22, 21, 24, 29, 30]⟩,
    ⟨some 75, .call 27 [(.tmp 73), (.tmp 74)], some (72, true), [73, 74, 72], [34, 35, 33, 32, 31, 28, 27, 25, 20, 26, 19, 16, 14, 18, 13, 12, 9, 8, 5, 3, 7, 2, 0, 1, 6, 4, 10, 11, 17, 15, 23, 22, 21, 24, 29, 30]⟩,
    ⟨some 76, .pick (.tmp 72) (.tmp 75) (.const (.bool false)), none, [72, 75], [33, 36, 32, 31, 28, 27, 25, 20, 26, 19, 16, 14, 18, 13, 12, 9, 8, 5, 3, 7, 2, 0, 1, 6, 4, 10, 11, 17, 15, 23, 22, 21, 24, 29, 30, 34, 35]⟩,
    ⟨some 77, .mv (.tmp 76), none, [76], [37, 36, 33, 32, 31, 28, 27, 25, 20, 26, 19, 16, 14, 18, 13, 12, 9, 8, 5, 3, 7, 2, 0, 1, 6, 4, 10, 11, 17, 15, 23, 22, 21, 24, 29, 30, 34, 35]⟩,
    ⟨some 78, .call 33 [], some (77, true), [77], [38, 37, 36, 33, 32, 31, 28, 27, 25, 20, 26, 19, 16, 14, 18, 13, 12, 9, 8, 5, 3, 7, 2, 0, 1, 6, 4, 10, 11, 17, 15, 23, 22, 21, 24, 29, 30, 34, 35]⟩,
    ⟨some 79, .pick (.tmp 77) (.tmp 78) (.const (.bool false)), none, [77, 78], [38, 39, 37, 36, 33, 32, 31, 28, 27, 25, 20, 26, 19, 16, 14, 18, 13, 12, 9, 8, 5, 3, 7, 2, 0, 1, 6, 4, 10, 11, 17, 15, 23, 22, 21, 24, 29, 30, 34, 35]⟩,
    ⟨some 4, .mv (.tmp 79), none, [79], [40, 39, 0, 1, 2, 3, 4, 5, 6, 7, 8, 9, 10, 11, 12, 13, 14, 15, 16, 17, 18, 19, 20, 21, 22, 23, 24, 25, 26, 27, 28, 29, 30, 31, 32, 33, 34, 35, 36, 37, 38]⟩] [4])
.ret)))))))
theorem ok_10 : FnOk Tryz.prog 10 80 ac_10 [.tmp 4] := ⟨Tryz.f10, Tryz.func10, by kernel_rfl, by kernel_rfl, by kernel_rfl, by kernel_rfl, by kernel_rfl⟩
end Go.Proofs.YtonglhkiobibgaaGreatDoor
namespace Go.Proofs.YtonglhkiobibgaaGreatDoor
open Go.RowKit
set_option maxRecDepth 100000
theorem okR_of {r : Rec} (h : recE r = 0) : okR r := by
  unfold recE at h
  by_cases h1 : r.kind < 0 ∨ 255 < r.kind
  · rw [if_pos h1] at h; cases h
  rw [if_neg h1] at h
  by_cases h2 : 64 < r.nums.length ∨ 64 < r.texts.length
  · rw [if_pos h2] at h; cases h
  rw [if_neg h2] at h
  by_cases h3 : ∃ t ∈ r.texts, 4096 < t.length
  · rw [if_pos h3] at h; cases h
  exact ⟨h1, h2, fun t ht hl => h3 ⟨t, ht, hl⟩⟩
theorem encode_len {r : Rec} (hn : ∀ n ∈ r.nums, i64ok n) : (encode r).1.length ≤ 300004 := by
  rw [encode]
  split
  · rename_i h
    have h2 := h2_le (r := r) (okR_of h) hn r.texts.length
    rw [h2_all] at h2
    simp only [sealB, List.length_append, low_length]; omega
  · simp
theorem encO_len {o : OpD} (h1 : i64ok o.off) (h2 : i64ok o.n) : (encO o).1.length ≤ 300004 := by
  rw [encO]
  split
  · exact encode_len (by intro n hn; simp [opRec] at hn; rcases hn with rfl | rfl <;> assumption)
  · simp
theorem opChk_data {o : OpD} (h : opChk o = 0) : o.data.length ≤ 4096 := by
  unfold opChk at h
  split at h
  · cases h
  · split at h
    · cases h
    · omega
theorem decO_data (l : List Int) : (decO l).1.data.length ≤ 4096 := by
  unfold decO
  split
  · unfold opOf
    split
    · split
      · rename_i h; exact opChk_data h
      · exact Nat.zero_le _
    · exact Nat.zero_le _
  · exact Nat.zero_le _
set_option maxHeartbeats 4000000 in
theorem opsTells_spec (fo fl : Bool) (o : OpD) (l : List Int) (nb : Nat) (h1 : i64ok o.off) (h2 : i64ok o.n) (hd : o.data.length ≤ 140737488355320) (hb : okB l) (hl : l.length ≤ 140737488355320) :
    ASound Tryz.prog 10 [aOp fo o, fB fl l] nb (.ret (.v (.bool true)) []) := by
  refine ok_10.sound (by simp) ⟨al_aOp o, al_fB l, trivial⟩ ?_
  have c1 := fun nb => own11_spec fo o nb (by omega)
  have c2 := fun nb => copyBytes_spec fl l nb (by omega)
  have c3 := fun nb => opEncode_spec true o nb h1 h2
  have c4 := fun nb => rOpEncode_spec fo o nb h1 h2
  have c5 := fun nb => opDecode_spec true l nb hb hl
  have c6 := fun nb => rOpDecode_spec fl l nb hb hl
  have c7 := fun nb h => sameBytes_spec true true (encO o).1 (encO o).1 nb h
  have c8 := fun nb e => num11_spec e nb
  have c9 := fun nb h => sameOp_refl true true (decO l).1 nb h
  have cA := fun nb => opCheck_spec true o nb
  have cB := fun nb => rOpCheck_spec fo o nb
  have cC := fun nb => sameOp_refl true fo o nb (by omega)
  have cD := fun nb => sameBytes_spec true fl l l nb (by omega)
  have hEl := encO_len h1 h2
  have hDl := decO_data l
  generalize encO o = E at *
  generalize decO l = D at *
  obtain ⟨E, e⟩ := E
  obtain ⟨D, f⟩ := D
  simp only [aOp, fB, decide_true] at c1 c2 c3 c4 c5 c6 c7 c8 c9 cA cB cC cD
  simp only [ac_10, aOp, fB, TT, ↓reduceIte, Nat.reduceEqDiff, Nat.reduceAdd, Nat.reduceMul, reduceCtorEq, Nat.reduceLeDiff]
  refine ⟨_, c1 _, ?_⟩
  simp only [TT, ↓reduceIte, Nat.reduceEqDiff, Nat.reduceAdd, Nat.reduceMul, reduceCtorEq, Nat.reduceLeDiff]
  refine ⟨_, c2 _, ?_⟩
  simp only [TT, ↓reduceIte, Nat.reduceEqDiff, Nat.reduceAdd, Nat.reduceMul, reduceCtorEq, Nat.reduceLeDiff]
  refine ⟨_, c3 _, ?_⟩
  simp only [TT, ↓reduceIte, Nat.reduceEqDiff, Nat.reduceAdd, Nat.reduceMul, reduceCtorEq, Nat.reduceLeDiff]
  refine ⟨_, c4 _, ?_⟩
  simp only [TT, ↓reduceIte, Nat.reduceEqDiff, Nat.reduceAdd, Nat.reduceMul, reduceCtorEq, Nat.reduceLeDiff]
  refine ⟨_, c5 _, ?_⟩
  simp only [TT, ↓reduceIte, Nat.reduceEqDiff, Nat.reduceAdd, Nat.reduceMul, reduceCtorEq, Nat.reduceLeDiff]
  refine ⟨_, c6 _, ?_⟩
  simp only [TT, ↓reduceIte, Nat.reduceEqDiff, Nat.reduceAdd, Nat.reduceMul, reduceCtorEq, Nat.reduceLeDiff]
  refine ⟨_, c7 _ (by simp only at hEl; omega), ?_⟩
  simp only [TT, ↓reduceIte, Nat.reduceEqDiff, Nat.reduceAdd, Nat.reduceMul, reduceCtorEq, Nat.reduceLeDiff]
  refine ⟨_, c8 _ _, ?_⟩
  simp only [TT, ↓reduceIte, Nat.reduceEqDiff, Nat.reduceAdd, Nat.reduceMul, reduceCtorEq, Nat.reduceLeDiff]
  refine ⟨_, c9 _ (by simp only at hDl; omega), ?_⟩
  simp only [TT, ↓reduceIte, Nat.reduceEqDiff, Nat.reduceAdd, Nat.reduceMul, reduceCtorEq, Nat.reduceLeDiff]
  refine ⟨_, c8 _ _, ?_⟩
  simp only [TT, ↓reduceIte, Nat.reduceEqDiff, Nat.reduceAdd, Nat.reduceMul, reduceCtorEq, Nat.reduceLeDiff]
  refine ⟨_, cA _, ?_⟩
  simp only [TT, ↓reduceIte, Nat.reduceEqDiff, Nat.reduceAdd, Nat.reduceMul, reduceCtorEq, Nat.reduceLeDiff]
  refine ⟨_, c8 _ _, ?_⟩
  simp only [TT, ↓reduceIte, Nat.reduceEqDiff, Nat.reduceAdd, Nat.reduceMul, reduceCtorEq, Nat.reduceLeDiff]
  refine ⟨_, cB _, ?_⟩
  simp only [TT, ↓reduceIte, Nat.reduceEqDiff, Nat.reduceAdd, Nat.reduceMul, reduceCtorEq, Nat.reduceLeDiff]
  refine ⟨_, cC _, ?_⟩
  simp only [TT, ↓reduceIte, Nat.reduceEqDiff, Nat.reduceAdd, Nat.reduceMul, reduceCtorEq, Nat.reduceLeDiff]
  refine ⟨_, cD _, ?_⟩
  simp only [TT, ↓reduceIte, Nat.reduceEqDiff, Nat.reduceAdd, Nat.reduceMul, reduceCtorEq, Nat.reduceLeDiff]
  refine ⟨_, alive11 _, ?_⟩
  simp only [TT, ↓reduceIte, Nat.reduceEqDiff, Nat.reduceAdd, Nat.reduceMul, reduceCtorEq, Nat.reduceLeDiff]
  exact ⟨by rfl, Ends.data (.inr rfl) (by simp [ET]) trivial⟩
end Go.Proofs.YtonglhkiobibgaaGreatDoor
