/- Merged texts: IB, IC, IP, IQ, IR, IS, IT, IU, IV, IW, IX, IY, IZ, P1, P2, P3, RE, ID, NP, P4. -/
import Derived.Test.YtonglhkiobibgaaGreatDoorX4
import Derived.Test.YtonglhkiobibgaaGreatDoorX2
import Derived.Test.YtonglhkiobibgaaGreatDoorX3
import Derived.Test.YtonglhkiobibgaaGreatDoorX1
import Derived.Test.YtonglhkiobibgaaGreatDoorProg
set_option linter.unusedSimpArgs false
set_option linter.unusedVariables false
namespace Go.Proofs.YtonglhkiobibgaaGreatDoor
open Go.RowKit
theorem bless_trans : ∀ {a b c : List UInt8}, Op.bytesLess a b = true → Op.bytesLess b c = true → Op.bytesLess a c = true
  | a, [], c, h, _ => by cases a <;> simp [Op.bytesLess] at h
  | [], b :: y, [], _, h => by simp [Op.bytesLess] at h
  | [], b :: y, c :: z, _, _ => rfl
  | a :: x, b :: y, [], _, h => by simp [Op.bytesLess] at h
  | a :: x, b :: y, c :: z, h1, h2 => by
    simp only [Op.bytesLess, Bool.or_eq_true, Bool.and_eq_true, decide_eq_true_eq, beq_iff_eq] at h1 h2 ⊢
    rcases h1 with h1 | ⟨rfl, h1⟩ <;> rcases h2 with h2 | ⟨rfl, h2⟩
    · exact .inl (UInt8.lt_trans h1 h2)
    · exact .inl h1
    · exact .inl h2
    · exact .inr ⟨rfl, bless_trans h1 h2⟩
theorem lessS_trans {a b c : ByteArray} (h : lessS a b = true) (k : lessS b c = true) : lessS a c = true := bless_trans h k
theorem lessS_irr (a : ByteArray) : lessS a a = false := bless_irr _
theorem okD_all : ∀ {l : List Ent} {p : Option ByteArray}, okD p l = true → (∀ e ∈ l, mayE e = true) ∧ (∀ q, p = some q → ∀ e ∈ l, lessS q e.name = true) ∧ ∀ (a b : Nat) (x y : Ent), a < b → l[a]? = some x → l[b]? = some y → lessS x.name y.name = true
  | [], p, _ => ⟨by simp, by simp, fun a b x y _ h => by simp at h⟩
  | e :: r, p, h => by
    have h' : (mayE e && ((match (generalizing := false) p with | none => true | some q => lessS q e.name) && okD (some e.name) r)) = true := h
    simp only [Bool.and_eq_true] at h'
    obtain ⟨h1, h2, h3⟩ := h'
    obtain ⟨g1, g2, g3⟩ := okD_all h3
    refine ⟨fun x hx => ?_, ?_, ?_⟩
    · rcases List.mem_cons.1 hx with rfl | hx
      · exact h1
      · exact g1 x hx
    · rintro q rfl x hx
      have h2' : lessS q e.name = true := h2
      rcases List.mem_cons.1 hx with rfl | hx
      · exact h2'
      · exact lessS_trans h2' (g2 _ rfl x hx)
    · intro a b x y hab hx hy
      cases b with
      | zero => omega
      | succ b =>
        simp only [List.getElem?_cons_succ] at hy
        cases a with
        | zero =>
          simp only [List.getElem?_cons_zero, Option.some.injEq] at hx
          subst hx
          exact g2 _ rfl y (List.mem_of_getElem? hy)
        | succ a =>
          simp only [List.getElem?_cons_succ] at hx
          exact g3 a b x y (by omega) hx hy
theorem bsP_at {p : Nat → Bool} {m : Nat} (h1 : ∀ x, x < m → p x = true) : ∀ (k i j : Nat), (∀ x, m ≤ x → x < j → p x = false) → i ≤ m → m ≤ j → j - i ≤ k → bsP p k i j = m
  | 0, i, j, _, hi, hj, hk => by rw [bsP]; omega
  | k + 1, i, j, h2, hi, hj, hk => by
    rw [bsP]
    by_cases hlt : i < j
    · rw [if_pos hlt]
      generalize hq : (i + j) / 2 = q
      have hq1 : i ≤ q ∧ q < j := by omega
      rcases Nat.lt_or_ge q m with h | h
      · rw [if_pos (h1 q h)]
        exact bsP_at h1 k (q + 1) j h2 (by omega) hj (by omega)
      · rw [if_neg (by rw [h2 q h hq1.2]; decide)]
        exact bsP_at h1 k i q (fun x hx hxq => h2 x hx (by omega)) hi h (by omega)
    · rw [if_neg hlt]; omega
theorem chkD_ok {l : List Ent} (h : chkD l = 0) : l.length ≤ 63 ∧ okD none l = true := by
  unfold chkD at h
  split at h
  · cases h
  · split at h
    · rename_i h1 h2; exact ⟨by omega, h2⟩
    · cases h
/-- what is there is found -/
theorem plcE_eq {l : List Ent} (h : okD none l = true) {i : Nat} {e : Ent} (hx : l[i]? = some e) : plcE l e.name = i := by
  obtain ⟨_, _, g3⟩ := okD_all h
  have hi := (List.getElem?_eq_some_iff.1 hx).1
  refine bsP_at (fun x hxi => ?_) _ _ _ (fun x hix hxl => ?_) (Nat.zero_le _) (by omega) (by omega)
  · obtain ⟨y, hy⟩ : ∃ y, l[x]? = some y := ⟨_, List.getElem?_eq_getElem (by omega)⟩
    show lessS (namA l x) e.name = true
    rw [namA_at hy]; exact g3 x i y e hxi hy hx
  · obtain ⟨y, hy⟩ : ∃ y, l[x]? = some y := ⟨_, List.getElem?_eq_getElem hxl⟩
    show lessS (namA l x) e.name = false
    rw [namA_at hy]
    rcases Nat.lt_or_ge i x with h9 | h9
    · have h8 := g3 i x e y h9 hx hy
      cases h7 : lessS y.name e.name
      · rfl
      · have h6 := lessS_trans h8 h7
        rw [lessS_irr] at h6; cases h6
    · obtain rfl : x = i := by omega
      rw [hx] at hy; cases hy
      exact lessS_irr _
theorem findE_mem {l : List Ent} (h : chkD l = 0) {i : Nat} {e : Ent} (hx : l[i]? = some e) : findE l e.name = (e.ino, true, 0) := by
  obtain ⟨_, h2⟩ := chkD_ok h
  have h3 := plcE_eq h2 hx
  have hi := (List.getElem?_eq_some_iff.1 hx).1
  rw [findE, if_pos h, if_pos ⟨by rw [h3]; exact hi, by rw [h3]; exact namA_at hx⟩, h3, inoE, hx]
theorem fold_ge (g : Ent → Int) : ∀ (l : List Ent) (d : Int), d ≤ l.foldl (fun d e => mxI d (1 + g e)) d ∧ ∀ e ∈ l, 1 + g e ≤ l.foldl (fun d e => mxI d (1 + g e)) d
  | [], d => ⟨Int.le_refl _, by simp⟩
  | x :: l, d => by
    obtain ⟨h1, h2⟩ := fold_ge g l (mxI d (1 + g x))
    have h3 : d ≤ mxI d (1 + g x) ∧ 1 + g x ≤ mxI d (1 + g x) := by unfold mxI; split <;> omega
    rw [List.foldl_cons]
    refine ⟨by omega, fun e he => ?_⟩
    rcases List.mem_cons.1 he with rfl | he
    · omega
    · exact h2 e he
theorem dpt_ge {s : FSt} {k : Nat} {t : Int} {e : Ent} (hd : (nodA s t).dir = true) (he : e ∈ (nodA s t).entries) : 1 + dpt s k e.ino ≤ dpt s (k + 1) t := by
  rw [dpt, if_pos hd]
  exact (fold_ge (fun e => dpt s k e.ino) _ 0).2 e he
theorem findE_of {l : List Ent} {x : ByteArray} (h : (findE l x).2.1 = true) : ∃ e ∈ l, (findE l x).1 = e.ino ∧ e.name = x := by
  unfold findE at h ⊢
  split at h
  · split at h
    · rename_i h1 h2
      rw [if_pos h1, if_pos h2]
      obtain ⟨e, he⟩ : ∃ e, l[plcE l x]? = some e := ⟨_, List.getElem?_eq_getElem h2.1⟩
      exact ⟨e, List.mem_of_getElem? he, by show inoE l _ = _; rw [inoE, he], by rw [← h2.2, namA_at he]⟩
    · simp at h
  · simp at h
/-- a walk goes no deeper than the state is deep -/
theorem walk_dpt {s : FSt} : ∀ {l : List ByteArray} {t u : Int} {k : Nat}, walkF s t l = .ok u → l.length ≤ k → (l.length : Int) + dpt s (k - l.length) u ≤ dpt s k t
  | [], t, u, k, h, _ => by rw [walkF] at h; cases h; simp
  | x :: r, t, u, k, h, hk => by
    rw [walkF] at h
    split at h
    · rename_i h1
      split at h
      · rename_i h2
        obtain ⟨e, he, e1, _⟩ := findE_of h2
        simp only [List.length_cons] at hk ⊢
        obtain ⟨k, rfl⟩ : ∃ k', k = k' + 1 := ⟨k - 1, by omega⟩
        have h3 := walk_dpt (k := k) h (by omega)
        rw [e1] at h3
        have h4 := dpt_ge (k := k) h1 he
        rw [show k + 1 - (r.length + 1) = k - r.length from by omega]
        omega
      · cases h
    · cases h
theorem walk_snoc {s : FSt} {x : ByteArray} : ∀ {l : List ByteArray} {t u : Int}, walkF s t l = .ok u → walkF s t (l ++ [x]) = walkF s u [x]
  | [], t, u, h => by rw [walkF] at h; cases h; rfl
  | y :: r, t, u, h => by
    rw [walkF] at h
    split at h
    · rename_i h1
      split at h
      · rename_i h2
        rw [List.cons_append, walkF, if_pos h1, if_pos h2]
        exact walk_snoc h
      · cases h
    · cases h
theorem chk_parts {s : FSt} (h : chkFs s = 0) : ¬ badH s ∧ chk1 s none s.nodes = true ∧ (∀ n ∈ s.nodes, mayN n (getM n.ino (lkM (inosN s.nodes))) = true) ∧ (rch s 8 1 []).length = s.nodes.length ∧ dpt s 9 1 ≤ 8 := by
  unfold chkFs at h
  split at h
  · cases h
  · rename_i hb
    split at h
    · rename_i hc
      obtain ⟨h1, h2, h3⟩ := hc
      unfold chk2 at h2
      unfold chk3 at h3
      rw [Bool.and_eq_true] at h3
      exact ⟨hb, h1, of_decide_eq_true h2, of_decide_eq_true h3.1, of_decide_eq_true h3.2⟩
    · cases h
theorem mayN_ok {n : Nd} {k : Int} (h : mayN n k = true) : chkD n.entries = 0 ∧ chkFl n.file = 0 ∧ n.links = k ∧ (n.ino = 1 → n.dir = true ∧ k = 0) ∧ (n.ino ≠ 1 → 1 ≤ k) ∧ (n.dir = true → n.file.size = 0) ∧ (n.dir = false → n.entries = []) ∧ k ≤ 16 := by
  unfold mayN at h
  split at h
  · cases h
  · rename_i h1
    split at h
    · cases h
    · rename_i h2
      rw [not_or, not_or] at h1
      obtain ⟨a1, a2, a3⟩ := h1
      replace a1 := Decidable.not_not.1 a1
      replace a2 := Decidable.not_not.1 a2
      replace a3 := Decidable.not_not.1 a3
      have b1 : n.dir = true → n.file.size = 0 := fun hd => Decidable.not_not.1 fun h9 => h2 (.inl ⟨hd, h9⟩)
      have b2 : n.dir = false → n.entries = [] := fun hd => by
        cases he : n.entries with
        | nil => rfl
        | cons x r => exact absurd (.inr ⟨hd, by rw [he]; simp⟩) h2
      split at h
      · rename_i h3
        rw [Bool.and_eq_true, decide_eq_true_eq] at h
        exact ⟨a1, a2, a3, fun _ => h, fun h9 => absurd h3 h9, b1, b2, by omega⟩
      · rename_i h3
        split at h
        · have := of_decide_eq_true h
          exact ⟨a1, a2, a3, fun h9 => absurd h9 h3, fun _ => by omega, b1, b2, by omega⟩
        · rw [Bool.and_eq_true, decide_eq_true_eq, decide_eq_true_eq] at h
          exact ⟨a1, a2, a3, fun h9 => absurd h9 h3, fun _ => h.1, b1, b2, h.2⟩
theorem mem_inos {l : List Nd} {n : Nd} {e : Ent} (hn : n ∈ l) (he : e ∈ n.entries) : e.ino ∈ inosN l := List.mem_flatMap.2 ⟨n, hn, List.mem_map.2 ⟨e, he, rfl⟩⟩
/-- what an entry names: not the root; a node with a name at least -/
theorem named_ok {s : FSt} (h : chkFs s = 0) {n : Nd} {e : Ent} (hn : n ∈ s.nodes) (he : e ∈ n.entries) : 1 < e.ino ∧ 1 ≤ (nodA s e.ino).links ∧ (nodA s e.ino).ino = e.ino ∧ hasN s.nodes e.ino := by
  obtain ⟨_, h1, h2, _, _⟩ := chk_parts h
  obtain ⟨g1, _, _⟩ := chk1_all h1
  have hh := (g1 n hn).2 e he
  obtain ⟨m, hx, hm, hi⟩ := hasN_get hh
  have hA : nodA s e.ino = m := by rw [nodA, hx]
  have hk : 1 ≤ getM e.ino (lkM (inosN s.nodes)) := by
    rw [getM_lk]
    have := List.count_pos_iff.2 (mem_inos hn he)
    omega
  have hd := (mayN_ok (h2 n hn)).1
  have hme := (okD_all (chkD_ok hd).2).1 e he
  obtain ⟨_, _, a3, a4, _⟩ := mayN_ok (h2 m hm)
  rw [hi] at a3 a4
  have h1e : 1 ≤ e.ino := by
    unfold mayE at hme
    simp only [Bool.and_eq_true, decide_eq_true_eq] at hme
    exact hme.2.1
  refine ⟨?_, by rw [hA, a3]; exact hk, by rw [hA]; exact hi, hh⟩
  rcases Int.lt_or_eq_of_le h1e with h9 | h9
  · exact h9
  · have := (a4 h9.symm).2; omega
/-- what a directory names is found behind its path -/
theorem child_ok {s : FSt} (h : chkFs s = 0) {p : ByteArray} {l : List ByteArray} {u : Int} (hs : splitP p = (l, 0)) (hw : walkF s 1 l = .ok u) (hu : hasN s.nodes u) (hd : (nodA s u).dir = true) {i : Nat} {e : Ent} (he : (nodA s u).entries[i]? = some e)
    (hz : p.size + 1 + e.name.size ≤ 128) : splitP (p ++ ByteArray.mk #[47] ++ e.name) = (l ++ [e.name], 0) ∧ walkF s 1 (l ++ [e.name]) = .ok e.ino := by
  obtain ⟨_, _, h2, _, h5⟩ := chk_parts h
  obtain ⟨n, hx, hn, _⟩ := hasN_get hu
  have hA : nodA s u = n := by rw [nodA, hx]
  have hD : chkD (nodA s u).entries = 0 := by rw [hA]; exact (mayN_ok (h2 n hn)).1
  have hme := (okD_all (chkD_ok hD).2).1 e (List.mem_of_getElem? he)
  have hne : nameE e.name = 0 := by
    unfold mayE at hme
    simp only [Bool.and_eq_true, decide_eq_true_eq] at hme
    exact hme.1
  obtain ⟨_, _, _, _, _, hl⟩ := split_len hs
  have h6 := walk_dpt (k := 9) hw (by omega)
  have h7 : 1 ≤ dpt s (9 - l.length) u := by
    obtain ⟨k, hk⟩ : ∃ k, 9 - l.length = k + 1 := ⟨8 - l.length, by omega⟩
    rw [hk]
    have := dpt_ge (k := k) hd (List.mem_of_getElem? he)
    have := (dpt_bd s k e.ino).1
    omega
  refine ⟨split_snoc hs hne hz (by omega), ?_⟩
  rw [walk_snoc hw, walkF, if_pos hd, findE_mem hD he]
  rfl
end Go.Proofs.YtonglhkiobibgaaGreatDoor
namespace Go.Proofs.YtonglhkiobibgaaGreatDoor
open Go.RowKit
set_option maxRecDepth 100000
/-- where a path leads: a node's number, or an error's -/
def findC (s : FSt) (p : ByteArray) : Except Int Int :=
  if chkFs s = 0 then (if (splitP p).2 = 0 then (match walkF s 1 (splitP p).1 with | .ok t => .ok t | .error q => .error q.1) else .error (splitP p).2) else .error (chkFs s)
def aFindG (fr : Bool) (s : FSt) (p : ByteArray) : AV :=
  if chkFs s = 0 then (if (splitP p).2 = 0 then aFind fr s (walkF s 1 (splitP p).1) else .tup [.v (.pointer none), aFlt true (splitP p).2 p]) else .tup [.v (.pointer none), aFlt true (chkFs s) p]
def okFs (s : FSt) : Prop := s.nodes.length ≤ 140737488355328 ∧ ∀ n ∈ s.nodes, n.entries.length ≤ 140737488355328 ∧ n.file.blocks.length ≤ 140737488355328
theorem splitP_len (p : ByteArray) : (splitP p).1.length ≤ 140737488355328 := by
  by_cases h : (splitP p).2 = 0
  · have := (split_len (p := p) (l := (splitP p).1) (by rw [← h])).2.2.2.2.2
    omega
  · unfold splitP at h ⊢
    split
    · simp
    · split
      · split
        · rename_i h1 h2 h3
          rw [if_neg h1, if_pos h2, if_pos h3] at h; exact absurd rfl h
        · simp
      · simp
set_option maxHeartbeats 1000000 in
theorem findG_spec (fr : Bool) (s : FSt) (p : ByteArray) (nb : Nat) (hs : okFs s) : ASound Tryz.prog 78 [aFs fr s, .v (.string p)] nb (.ret (aFindG fr s p) []) := by
  obtain ⟨hl, hb⟩ := hs
  by_cases hc : chkFs s = 0
  · by_cases he : (splitP p).2 = 0
    · have hS := fun nb => split_spec p nb
      rw [he] at hS
      have h := find_spec fr s p (splitP p).1 nb hl hb hS hc (splitP_len p)
      rw [aFindG, if_pos hc, if_pos he]
      exact h
    · rw [aFindG, if_pos hc, if_neg he]
      refine ok_FDc.sound (by simp) ⟨al_aFs s, trivial, trivial⟩ ?_
      have hk := fun nb => fsCheck_spec fr s nb hl hb
      have hS := fun nb => split_spec p nb
      have hr := fun nb => refuse_spec (splitP p).2 p nb he
      rw [hc] at hk
      simp only [aFs, fNds] at hk
      simp only [ac_FDc, aFs, fNds, TT, ↓reduceIte, Nat.reduceEqDiff, Nat.reduceAdd, Nat.reduceMul, reduceCtorEq, Nat.reduceLeDiff]
      refine ⟨⟨envOf [(1, .v (.string p)), (2, pFs true fr s)], heapOf [], 300000⟩, Weak.freezeC 0 rfl (l := [(1, .v (.string p)), (2, pFs true fr s)]) (h := []) ?_ ?_, ?_⟩
      · simp [WT, pFs, fNds, okF, fzV, fzOne]
      · trivial
      simp only [ac_FD1, pFs, fNds, TT, ↓reduceIte, Nat.reduceEqDiff, Nat.reduceAdd, Nat.reduceMul, reduceCtorEq, Nat.reduceLeDiff]
      refine ⟨_, hk _, ?_⟩
      simp only [decide_true, Bool.not_true, TT, ↓reduceIte, Nat.reduceEqDiff, Nat.reduceAdd, Nat.reduceMul, reduceCtorEq, Nat.reduceLeDiff]
      refine ⟨_, hS _, ?_⟩
      simp only [decide_eq_false he, Bool.not_false, TT, ↓reduceIte, Nat.reduceEqDiff, Nat.reduceAdd, Nat.reduceMul, reduceCtorEq, Nat.reduceLeDiff]
      refine ⟨_, hr _, ?_⟩
      simp only [TT, ↓reduceIte, Nat.reduceEqDiff, Nat.reduceAdd, Nat.reduceMul, reduceCtorEq, Nat.reduceLeDiff]
      exact Ends.data (.inr rfl) (by simp [ET]) ⟨trivial, ⟨trivial, trivial, trivial⟩, trivial⟩
  · rw [aFindG, if_neg hc]
    refine ok_FDc.sound (by simp) ⟨al_aFs s, trivial, trivial⟩ ?_
    have hk := fun nb => fsCheck_spec fr s nb hl hb
    have hr := fun nb => refuse_spec (chkFs s) p nb hc
    simp only [aFs, fNds] at hk
    simp only [ac_FDc, aFs, fNds, TT, ↓reduceIte, Nat.reduceEqDiff, Nat.reduceAdd, Nat.reduceMul, reduceCtorEq, Nat.reduceLeDiff]
    refine ⟨⟨envOf [(1, .v (.string p)), (2, pFs true fr s)], heapOf [], 300000⟩, Weak.freezeC 0 rfl (l := [(1, .v (.string p)), (2, pFs true fr s)]) (h := []) ?_ ?_, ?_⟩
    · simp [WT, pFs, fNds, okF, fzV, fzOne]
    · trivial
    simp only [ac_FD1, pFs, fNds, TT, ↓reduceIte, Nat.reduceEqDiff, Nat.reduceAdd, Nat.reduceMul, reduceCtorEq, Nat.reduceLeDiff]
    refine ⟨_, hk _, ?_⟩
    simp only [decide_eq_false hc, Bool.not_false, TT, ↓reduceIte, Nat.reduceEqDiff, Nat.reduceAdd, Nat.reduceMul, reduceCtorEq, Nat.reduceLeDiff]
    refine ⟨_, hr _, ?_⟩
    simp only [TT, ↓reduceIte, Nat.reduceEqDiff, Nat.reduceAdd, Nat.reduceMul, reduceCtorEq, Nat.reduceLeDiff]
    exact Ends.data (.inr rfl) (by simp [ET]) ⟨trivial, ⟨trivial, trivial, trivial⟩, trivial⟩
/-- what find says, by what it leads to -/
theorem findG_cases (fr : Bool) (s : FSt) (p : ByteArray) (hs : okFs s) : (∃ t n, findC s p = .ok t ∧ aFindG fr s p = .tup [.fp fr (eNds fr s.nodes) (plc s.nodes t * 6), .v .nilIface] ∧ s.nodes[plc s.nodes t]? = some n ∧ n.ino = t ∧ nodA s t = n) ∨
    ∃ cd x, findC s p = .error cd ∧ cd ≠ 0 ∧ (aFindG fr s p = .tup [.v (.pointer none), aFlt true cd x] ∨ aFindG fr s p = .tup [.v (.pointer none), aWrp findS true cd x]) := by
  unfold findC aFindG
  by_cases hc : chkFs s = 0
  · rw [if_pos hc, if_pos hc]
    by_cases he : (splitP p).2 = 0
    · rw [if_pos he, if_pos he]
      obtain ⟨hok, h1⟩ := chk_ok hc (fun n hn => (hs.2 n hn).1)
      cases hw : walkF s 1 (splitP p).1 with
      | ok t =>
        obtain ⟨n, hx, _, hi⟩ := hasN_get (walkF_has hok h1 hw)
        exact .inl ⟨t, n, rfl, rfl, hx, hi, by rw [nodA, hx]⟩
      | error q =>
        obtain ⟨cd, x⟩ := q
        refine .inr ⟨cd, x, rfl, ?_, .inr rfl⟩
        have : ∀ {l : List ByteArray} {t : Int}, walkF s t l = .error (cd, x) → cd ≠ 0 := by
          intro l
          induction l with
          | nil => intro t h; rw [walkF] at h; cases h
          | cons y r ih =>
            intro t h
            rw [walkF] at h
            split at h
            · split at h
              · exact ih h
              · cases h; decide
            · cases h; decide
        exact this hw
    · rw [if_neg he, if_neg he]; exact .inr ⟨_, _, rfl, he, .inl rfl⟩
  · rw [if_neg hc, if_neg hc]; exact .inr ⟨_, _, rfl, hc, .inl rfl⟩
def findR (s : FSt) (p : ByteArray) : Int × Int := match findC s p with | .ok t => (t, 0) | .error cd => (0, cd)
theorem find_full (fr : Bool) (s : FSt) (p : ByteArray) (nb : Nat) (hs : okFs s) : ASound Tryz.prog 30 [aFs fr s, .v (.string p)] nb (.ret (.tup [.v (.int .i64 (findR s p).1), .v (.int .i64 (findR s p).2)]) []) := by
  refine ok_30.sound (by simp) ⟨al_aFs s, trivial, trivial⟩ ?_
  have hf := fun nb => findG_spec fr s p nb hs
  simp only [aFs, fNds] at hf
  rcases findG_cases fr s p hs with ⟨t, n, e1, e2, hx, hi, _⟩ | ⟨cd, x, e1, hcd, e2 | e2⟩
  · obtain ⟨a0, a1, a2, a3, a4, a5⟩ := get_Nds (fr := fr) hx
    rw [e2] at hf
    simp only [ac_30, aFs, fNds, findR, e1, TT, ↓reduceIte, Nat.reduceEqDiff, Nat.reduceAdd, Nat.reduceMul, reduceCtorEq, Nat.reduceLeDiff]
    refine ⟨_, hf _, ?_⟩
    simp only [a0, hi, TT, ↓reduceIte, Nat.reduceEqDiff, Nat.reduceAdd, Nat.reduceMul, reduceCtorEq, Nat.reduceLeDiff]
    exact Ends.data (.inr rfl) (by simp [ET]) ⟨trivial, trivial, trivial⟩
  · have hcd := fun nb => fcode_spec true cd x nb
    rw [e2] at hf
    simp only [ac_30, aFs, fNds, findR, e1, TT, ↓reduceIte, Nat.reduceEqDiff, Nat.reduceAdd, Nat.reduceMul, reduceCtorEq, Nat.reduceLeDiff]
    refine ⟨_, hf _, ?_⟩
    simp only [TT, ↓reduceIte, Nat.reduceEqDiff, Nat.reduceAdd, Nat.reduceMul, reduceCtorEq, Nat.reduceLeDiff]
    refine ⟨_, hcd _, ?_⟩
    simp only [TT, ↓reduceIte, Nat.reduceEqDiff, Nat.reduceAdd, Nat.reduceMul, reduceCtorEq, Nat.reduceLeDiff]
    exact Ends.data (.inr rfl) (by simp [ET]) ⟨trivial, trivial, trivial⟩
  · have hcd := fun nb => fcodeW_spec findS true cd x nb
    rw [e2] at hf
    simp only [ac_30, aFs, fNds, findR, e1, aWrp, TT, ↓reduceIte, Nat.reduceEqDiff, Nat.reduceAdd, Nat.reduceMul, reduceCtorEq, Nat.reduceLeDiff] at hf hcd ⊢
    refine ⟨_, hf _, ?_⟩
    simp only [TT, ↓reduceIte, Nat.reduceEqDiff, Nat.reduceAdd, Nat.reduceMul, reduceCtorEq, Nat.reduceLeDiff]
    refine ⟨_, hcd _, ?_⟩
    simp only [TT, ↓reduceIte, Nat.reduceEqDiff, Nat.reduceAdd, Nat.reduceMul, reduceCtorEq, Nat.reduceLeDiff]
    exact Ends.data (.inr rfl) (by simp [ET]) ⟨trivial, trivial, trivial⟩
structure StT where
  ino : Int
  dir : Bool
  n : Int
  links : Int
  err : Int
def statR (s : FSt) (p : ByteArray) : StT := match findC s p with
  | .ok t => if (nodA s t).dir = true then ⟨t, true, (nodA s t).entries.length, (nodA s t).links, 0⟩ else ⟨t, false, (nodA s t).file.size, (nodA s t).links, 0⟩
  | .error cd => ⟨0, false, 0, 0, cd⟩
theorem stat_full (fr : Bool) (s : FSt) (p : ByteArray) (nb : Nat) (hs : okFs s) : ASound Tryz.prog 29 [aFs fr s, .v (.string p)] nb
    (.ret (.tup [.v (.int .i64 (statR s p).ino), .v (.bool (statR s p).dir), .v (.int .i64 (statR s p).n), .v (.int .i64 (statR s p).links), .v (.int .i64 (statR s p).err)]) []) := by
  refine ok_29.sound (by simp) ⟨al_aFs s, trivial, trivial⟩ ?_
  have hf := fun nb => findG_spec fr s p nb hs
  simp only [aFs, fNds] at hf
  rcases findG_cases fr s p hs with ⟨t, n, e1, e2, hx, hi, hA⟩ | ⟨cd, x, e1, hcd, e2 | e2⟩
  · obtain ⟨a0, a1, a2, a3, a4, a5⟩ := get_Nds (fr := fr) hx
    rw [e2] at hf
    cases hd : n.dir
    · simp only [ac_29, aFs, fNds, statR, e1, hA, hd, Bool.false_eq_true, if_false, TT, ↓reduceIte, Nat.reduceEqDiff, Nat.reduceAdd, Nat.reduceMul, reduceCtorEq, Nat.reduceLeDiff]
      refine ⟨_, hf _, ?_⟩
      simp only [a0, a1, a2, a3, a4, hi, hd, TT, ↓reduceIte, Nat.reduceEqDiff, Nat.reduceAdd, Nat.reduceMul, reduceCtorEq, Nat.reduceLeDiff]
      exact ⟨by rfl, Ends.data (.inr rfl) (by simp [ET]) ⟨trivial, trivial, trivial, trivial, trivial, trivial⟩⟩
    · simp only [ac_29, aFs, fNds, statR, e1, hA, hd, if_true, TT, ↓reduceIte, Nat.reduceEqDiff, Nat.reduceAdd, Nat.reduceMul, reduceCtorEq, Nat.reduceLeDiff]
      refine ⟨_, hf _, ?_⟩
      simp only [a0, a1, a2, a3, a4, hi, hd, TT, ↓reduceIte, Nat.reduceEqDiff, Nat.reduceAdd, Nat.reduceMul, reduceCtorEq, Nat.reduceLeDiff]
      exact ⟨by rfl, Ends.data (.inr rfl) (by simp [ET]) ⟨trivial, trivial, trivial, trivial, trivial, trivial⟩⟩
  · have hcd := fun nb => fcode_spec true cd x nb
    rw [e2] at hf
    simp only [ac_29, aFs, fNds, statR, e1, TT, ↓reduceIte, Nat.reduceEqDiff, Nat.reduceAdd, Nat.reduceMul, reduceCtorEq, Nat.reduceLeDiff]
    refine ⟨_, hf _, ?_⟩
    simp only [TT, ↓reduceIte, Nat.reduceEqDiff, Nat.reduceAdd, Nat.reduceMul, reduceCtorEq, Nat.reduceLeDiff]
    refine ⟨_, hcd _, ?_⟩
    simp only [TT, ↓reduceIte, Nat.reduceEqDiff, Nat.reduceAdd, Nat.reduceMul, reduceCtorEq, Nat.reduceLeDiff]
    exact Ends.data (.inr rfl) (by simp [ET]) ⟨trivial, trivial, trivial, trivial, trivial, trivial⟩
  · have hcd := fun nb => fcodeW_spec findS true cd x nb
    rw [e2] at hf
    simp only [ac_29, aFs, fNds, statR, e1, aWrp, TT, ↓reduceIte, Nat.reduceEqDiff, Nat.reduceAdd, Nat.reduceMul, reduceCtorEq, Nat.reduceLeDiff] at hf hcd ⊢
    refine ⟨_, hf _, ?_⟩
    simp only [TT, ↓reduceIte, Nat.reduceEqDiff, Nat.reduceAdd, Nat.reduceMul, reduceCtorEq, Nat.reduceLeDiff]
    refine ⟨_, hcd _, ?_⟩
    simp only [TT, ↓reduceIte, Nat.reduceEqDiff, Nat.reduceAdd, Nat.reduceMul, reduceCtorEq, Nat.reduceLeDiff]
    exact Ends.data (.inr rfl) (by simp [ET]) ⟨trivial, trivial, trivial, trivial, trivial, trivial⟩
end Go.Proofs.YtonglhkiobibgaaGreatDoor
namespace Go.Proofs.YtonglhkiobibgaaGreatDoor
open Go.RowKit
set_option maxRecDepth 100000
/-- an error: what it is wrapped in, from without, its code, where -/
structure Er where
  ops : List ByteArray
  cd : Int
  at_ : ByteArray
def aErr : List ByteArray → Int → ByteArray → AV
  | [], cd, a => aFlt true cd a
  | op :: r, cd, a => .ifc 268 (.agg [.v (.string op), aErr r cd a])
def erA (e : Er) : AV := aErr e.ops e.cd e.at_
theorem al_err {p : Nat → Prop} : ∀ (l : List ByteArray) (cd : Int) (a : ByteArray), Al p (aErr l cd a)
  | [], _, _ => ⟨trivial, trivial, trivial⟩
  | _ :: r, cd, a => ⟨trivial, al_err r cd a, trivial⟩
theorem err_ifc : ∀ (l : List ByteArray) (cd : Int) (a : ByteArray), ∃ t x, aErr l cd a = .ifc t x ∧ ∀ p, Al p x
  | [], _, _ => ⟨_, _, rfl, fun p => ⟨trivial, trivial, trivial⟩⟩
  | _ :: r, cd, a => ⟨_, _, rfl, fun p => ⟨trivial, al_err r cd a, trivial⟩⟩
theorem wrapE_spec (op : ByteArray) (l : List ByteArray) (cd : Int) (a : ByteArray) (nb : Nat) : ASound Tryz.prog 114 [.v (.string op), aErr l cd a] nb (.ret (aErr (op :: l) cd a) []) := by
  obtain ⟨t, x, e, hx⟩ := err_ifc l cd a
  have e2 : aErr (op :: l) cd a = .ifc 268 (.agg [.v (.string op), .ifc t x]) := by rw [aErr, e]
  rw [e2, e]
  refine ok_114.sound (by simp) ⟨trivial, hx _, trivial⟩ ?_
  simp only [ac_114, TT, ↓reduceIte, Nat.reduceEqDiff, Nat.reduceAdd, Nat.reduceMul, reduceCtorEq, Nat.reduceLeDiff]
  exact Ends.data (.inr rfl) (by simp [ET]) ⟨trivial, hx _, trivial⟩
def parentB : ByteArray := ByteArray.mk #[112, 97, 114, 101, 110, 116]
def lastB (l : List ByteArray) : ByteArray := (l[l.length - 1]?).getD (ByteArray.mk #[])
/-- a name in a directory: the directory, the name, what it names -/
def spotF (s : FSt) (l : List ByteArray) : Except Er (Int × ByteArray × Int) :=
  match walkF s 1 (l.take (l.length - 1)) with
  | .error (cd, x) => .error ⟨[parentB], cd, x⟩
  | .ok h => if (nodA s h).dir = true then .ok (h, lastB l, (findE (nodA s h).entries (lastB l)).1) else .error ⟨[], 103, lastB l⟩
def aSpt (h : Int) (x : ByteArray) (k : Int) : AV := .agg [.v (.int .i64 h), .v (.string x), .v (.int .i64 k)]
def aSpot : Except Er (Int × ByteArray × Int) → AV
  | .ok (h, x, k) => .tup [aSpt h x k, .v .nilIface]
  | .error e => .tup [aSpt 0 (ByteArray.mk #[]) 0, erA e]
set_option maxHeartbeats 2000000 in
theorem spot_spec (f fr fl : Bool) (s : FSt) (l : List ByteArray) (nb : Nat) (hl : s.nodes.length ≤ 140737488355328) (hok : okE s) (h1 : hasN s.nodes 1) (hll : l.length ≤ 140737488355328) (h0 : l ≠ []) :
    ASound Tryz.prog 112 [pFs f fr s, fS fl l] nb (.ret (aSpot (spotF s l)) []) := by
  have hpos : 0 < l.length := List.length_pos_iff.2 h0
  refine ok_112.sound (by simp) ⟨al_pFs s, al_fS l, trivial⟩ ?_
  have w1 : IntKind.i64.wrap ((l.length : Int) - 1) = ((l.length - 1 : Nat) : Int) := by rw [wrap64 (by omega)]; omega
  have hw := fun nb => walk_spec f fr fl s (l.take (l.length - 1)) nb hl hok h1 (by rw [List.length_take]; omega)
  have htl : (l.take (l.length - 1)).length = l.length - 1 := by rw [List.length_take]; omega
  obtain ⟨x, hx, e1, e0⟩ := lt_at (show l.length - 1 < l.length by omega)
  have hlb : lastB l = x := by rw [lastB, hx]; rfl
  have g1 : (0 : Int) ≤ ((l.length - 1 : Nat) : Int) ∧ ((l.length - 1 : Nat) : Int) ≤ (l.length : Int) := by omega
  simp only [pFs, fNds, fS, htl] at hw
  simp only [ac_112, pFs, fNds, fS, w1, TT, ↓reduceIte, Nat.reduceEqDiff, Nat.reduceAdd, Nat.reduceMul, reduceCtorEq, Nat.reduceLeDiff]
  have htk : (eS l).take (l.length - 1) = eS (l.take (l.length - 1)) := by simp [eS, List.map_take]
  rw [if_pos g1]
  simp only [htk, Nat.sub_zero, List.drop_zero, TT, ↓reduceIte, Nat.reduceEqDiff, Nat.reduceAdd, Nat.reduceMul, reduceCtorEq, Nat.reduceLeDiff]
  refine ⟨_, hw _, ?_⟩
  cases hwk : walkF s 1 (l.take (l.length - 1)) with
  | error q =>
    obtain ⟨cd, xn⟩ := q
    have e : spotF s l = .error ⟨[parentB], cd, xn⟩ := by rw [spotF, hwk]
    rw [e]
    simp only [aWalk, aFlt, TT, ↓reduceIte, Nat.reduceEqDiff, Nat.reduceAdd, Nat.reduceMul, reduceCtorEq, Nat.reduceLeDiff]
    refine ⟨_, wrapE_spec _ [] cd xn _, ?_⟩
    simp only [aErr, aFlt, TT, ↓reduceIte, Nat.reduceEqDiff, Nat.reduceAdd, Nat.reduceMul, reduceCtorEq, Nat.reduceLeDiff]
    exact Ends.data (.inr rfl) (by simp [ET, aSpot, aSpt, erA, aErr, parentB]) ⟨⟨trivial, trivial, trivial, trivial⟩, al_err _ _ _, trivial⟩
  | ok h =>
    have ht := walkF_has hok h1 hwk
    have hn := fun nb => node_spec f fr s h nb hl ht.1
    obtain ⟨n, hxn, hmem, _⟩ := hasN_get ht
    have hA : nodA s h = n := by rw [nodA, hxn]
    obtain ⟨a0, a1, a2, a3, a4, a5⟩ := get_Nds (fr := fr) hxn
    have hf := fun nb => dfind_spec fr n.entries x nb (hok n hmem).1
    simp only [pFs, fNds] at hn
    simp only [fEnts] at hf
    simp only [aWalk, TT, ↓reduceIte, Nat.reduceEqDiff, Nat.reduceAdd, Nat.reduceMul, reduceCtorEq, Nat.reduceLeDiff]
    refine ⟨_, hn _, ?_⟩
    cases hd : n.dir
    · have e : spotF s l = .error ⟨[], 103, x⟩ := by rw [spotF, hwk]; simp only; rw [hA, hd, if_neg (by decide), hlb]
      rw [e]
      simp only [a1, hd, Bool.not_false, e1, e0, get_S hx, Int.toNat_natCast, TT, ↓reduceIte, Nat.reduceEqDiff, Nat.reduceAdd, Nat.reduceMul, reduceCtorEq, Nat.reduceLeDiff]
      refine ⟨_, refuse_spec 103 x _ (by decide), ?_⟩
      simp only [TT, ↓reduceIte, Nat.reduceEqDiff, Nat.reduceAdd, Nat.reduceMul, reduceCtorEq, Nat.reduceLeDiff]
      exact Ends.data (.inr rfl) (by simp [ET, aSpot, aSpt, erA, aErr]) ⟨⟨trivial, trivial, trivial, trivial⟩, al_err _ _ _, trivial⟩
    · have e : spotF s l = .ok (h, x, (findE n.entries x).1) := by rw [spotF, hwk]; simp only; rw [hA, hd, if_pos rfl, hlb]
      rw [e]
      simp only [a1, a3, hd, Bool.not_true, e1, e0, get_S hx, Int.toNat_natCast, TT, ↓reduceIte, Nat.reduceEqDiff, Nat.reduceAdd, Nat.reduceMul, reduceCtorEq, Nat.reduceLeDiff]
      refine ⟨_, hf _, ?_⟩
      simp only [get_S hx, e1, e0, Int.toNat_natCast, TT, ↓reduceIte, Nat.reduceEqDiff, Nat.reduceAdd, Nat.reduceMul, reduceCtorEq, Nat.reduceLeDiff]
      exact ⟨by rfl, Ends.data (.inr rfl) (by simp [ET, aSpot, aSpt]) ⟨⟨trivial, trivial, trivial, trivial⟩, trivial, trivial⟩⟩
abbrev rwsT (iS iN : Nat) (s : FSt) : List RW := [(iS, true, 28, [.os iN 0 s.nodes.length 6, .v (.int .i64 s.next)]), (iN, true, 118, eNds true s.nodes)]
theorem odB : ∀ l : List Int, odL (eB l) = eB l
  | [] => rfl
  | x :: l => by
    show od (.v _) :: odL (eB l) = _
    rw [odB l]; rfl
theorem odS : ∀ l : List ByteArray, odL (eS l) = eS l
  | [] => rfl
  | x :: l => by
    show od (.v _) :: odL (eS l) = _
    rw [odS l]; rfl
theorem odEnts : ∀ l : List Ent, odL (eEnts l) = eEnts l
  | [] => rfl
  | x :: l => by
    show od (.v _) :: od (.v _) :: odL (eEnts l) = _
    rw [odEnts l]; rfl
theorem odBks (fr : Bool) : ∀ l : List Bk, odL (eBks fr l) = eBks false l
  | [] => rfl
  | x :: l => by
    show od (.v _) :: od (.fs fr (eB x.data) x.data.length) :: odL (eBks fr l) = _
    rw [odBks fr l, od, od, odB]; rfl
theorem odNds (fr : Bool) : ∀ l : List Nd, odL (eNds fr l) = eNds false l
  | [] => rfl
  | x :: l => by
    show od (.v _) :: od (.v _) :: od (.v _) :: od (.fs fr (eEnts x.entries) x.entries.length) :: od (.v _) :: od (.fs fr (eBks fr x.file.blocks) x.file.blocks.length) :: odL (eNds fr l) = _
    rw [odNds fr l]
    simp only [od, odEnts, odBks]
    rfl
theorem boT {iS iN : Nat} (hne : iS ≠ iN) (s : FSt) (rest : List AV) : boDL 2 (rwsT iS iN s) (.op iS 0 :: rest) = pFs false false s :: boDL 2 (rwsT iS iN s) rest := by
  have hn : List.take (s.nodes.length * 6) (eNds true s.nodes) = eNds true s.nodes := tk_Nds _
  simp [boDL, boWL, boW, cellsAt, hne, hne.symm, pFs, fNds, hn, odNds, od]
theorem yg_err (S : Nat → Prop) : ∀ (l : List ByteArray) (cd : Int) (a : ByteArray), Yg S (aErr l cd a)
  | [], _, _ => ⟨rfl, trivial, trivial, trivial⟩
  | _ :: r, cd, a => ⟨trivial, yg_err S r cd a, trivial⟩
theorem spot_h (fl : Bool) (s : FSt) (l : List ByteArray) (iS iN nb : Nat) (hne : iS ≠ iN) (hl : s.nodes.length ≤ 140737488355328) (hok : okE s) (h1 : hasN s.nodes 1) (hll : l.length ≤ 140737488355328) (h0 : l ≠ []) :
    ASound Tryz.prog 112 [.op iS 0, fS fl l] nb (rowsM (rwsT iS iN s) (.ret (aSpot (spotF s l)) [])) := by
  refine ASound.borrowD 1 [] (rwsT iS iN s) ?_ (by simp) ?_ (by simp)
  · rw [boT hne]
    have e : boDL 2 (rwsT iS iN s) [fS fl l] = [fS false l] := by simp [boDL, boWL, boW, fS, od, odS]
    rw [e]
    exact spot_spec false false false s l nb hl hok h1 hll h0
  · cases spotF s l with
    | error e => exact ⟨⟨trivial, trivial, trivial, trivial⟩, yg_err _ _ _ _, trivial⟩
    | ok q => exact ⟨⟨trivial, trivial, trivial, trivial⟩, trivial, trivial⟩
theorem walk_h (fl : Bool) (s : FSt) (l : List ByteArray) (iS iN nb : Nat) (hne : iS ≠ iN) (hl : s.nodes.length ≤ 140737488355328) (hok : okE s) (h1 : hasN s.nodes 1) (hll : l.length ≤ 140737488355328) :
    ASound Tryz.prog 115 [.op iS 0, fS fl l] nb (rowsM (rwsT iS iN s) (.ret (aWalk (walkF s 1 l)) [])) := by
  refine ASound.borrowD 1 [] (rwsT iS iN s) ?_ (by simp) ?_ (by simp)
  · rw [boT hne]
    have e : boDL 2 (rwsT iS iN s) [fS fl l] = [fS false l] := by simp [boDL, boWL, boW, fS, od, odS]
    rw [e]
    exact walk_spec false false false s l nb hl hok h1 hll
  · cases walkF s 1 l with
    | error e => exact ⟨trivial, ⟨rfl, trivial, trivial, trivial⟩, trivial⟩
    | ok q => exact ⟨trivial, trivial, trivial⟩
theorem place_h (s : FSt) (t : Int) (iS iN nb : Nat) (hne : iS ≠ iN) (hl : s.nodes.length ≤ 140737488355328) :
    ASound Tryz.prog 174 [.op iS 0, .v (.int .i64 t)] nb (rowsM (rwsT iS iN s) (.ret (.tup [.v (.int .i64 (plc s.nodes t)), .v (.bool (decide (hasN s.nodes t)))]) [])) := by
  refine ASound.borrowD 1 [] (rwsT iS iN s) ?_ (by simp) ⟨trivial, trivial, trivial⟩ (by simp)
  rw [boT hne]
  exact place_spec false false s t nb hl
end Go.Proofs.YtonglhkiobibgaaGreatDoor
namespace Go.Proofs.YtonglhkiobibgaaGreatDoor
open Go.RowKit
set_option maxRecDepth 100000
section
variable {iS iN : Nat}
theorem rnT0 : rn [(iS, 0), (iN, 1)] iS = 0 := by simp [rn]
theorem rnT1 (hne : iS ≠ iN) : rn [(iS, 0), (iN, 1)] iN = 1 := by simp [rn, hne]
theorem hneT (hne : iS ≠ iN) {s : FSt} {nb : Nat} (h0 : s.nodes ≠ []) (hS : iS < nb) (hN : iN < nb) : ∀ x ∈ rwsT iS iN s, (x.2.2.2 ≠ [] ∨ x.2.2.1 = MAPE) ∧ AlL (fun i => i ∈ (rwsT iS iN s).map (·.1)) x.2.2.2 ∧ x.1 < nb := fun x hx => by
  simp only [List.mem_cons, List.not_mem_nil, or_false] at hx
  rcases hx with rfl | rfl
  · exact ⟨.inl (by simp), ⟨by simp [Al], trivial, trivial⟩, hS⟩
  · refine ⟨.inl (fun e => h0 ?_), al_Nds _, hN⟩
    have := len_Nds (fr := true) s.nodes
    rw [show eNds true s.nodes = [] from e] at this
    simp only [List.length_nil] at this
    exact List.eq_nil_of_length_eq_zero (by omega)
theorem hkmT {a b : List AV} : ∀ (k : Nat) cl, ([some a, some b] : List (Option (List AV)))[k]? = some (some cl) → k < 2 := fun k cl hk => by
  rcases k with _ | _ | k
  · decide
  · decide
  · simp at hk
end
abbrev outT (iN : Nat) (s : FSt) : List (Option (List AV)) := [some [.os iN 0 s.nodes.length 6, .v (.int .i64 s.next)], some (eNds true s.nodes)]
set_option maxHeartbeats 1000000 in
theorem node_h (s : FSt) (t : Int) (iS iN nb : Nat) (hne : iS ≠ iN) (hS : iS < nb) (hN : iN < nb) (hl : s.nodes.length ≤ 140737488355328) (h0 : s.nodes ≠ []) (h : plc s.nodes t < s.nodes.length) :
    ASound Tryz.prog 116 [.op iS 0, .v (.int .i64 t)] nb (rowsM (rwsT iS iN s) (.ret (.op iN (plc s.nodes t * 6)) (outW (rwsT iS iN s) (outT iN s) ++ []))) := by
  refine ok_116.soundZ 2 (rwsT iS iN s) (outT iN s) (by simp) ⟨by simp [Al], trivial, trivial⟩ (by simp [hne]) (hneT hne h0 hS hN) rfl (by simp) hkmT ?_
  obtain ⟨n, hx, e1, e0⟩ := lt_at h
  simp only [ac_116, renL, ren, rowsIn, inZ, rnT0, rnT1 hne, ren_Nds, List.map_cons, List.map_nil, List.zipIdx_cons, List.zipIdx_nil, Nat.zero_add, List.length_cons, List.length_nil, TT, ↓reduceIte, Nat.reduceEqDiff, Nat.reduceAdd, Nat.reduceMul, reduceCtorEq, Nat.reduceLeDiff]
  refine ⟨_, place_h s t 0 1 _ (by decide) hl, ?_⟩
  simp only [rowsM, rwsT, e0, e1, Int.toNat_natCast, TT, ↓reduceIte, Nat.reduceEqDiff, Nat.reduceAdd, Nat.reduceMul, reduceCtorEq, Nat.reduceLeDiff]
  exact EndsZ.keep2 (c0 := [.os 1 0 s.nodes.length 6, .v (.int .i64 s.next)]) (c1 := eNds true s.nodes) (r0 := .op 1 (plc s.nodes t * 6)) (.inr rfl) (by simp [ET]) (by simp [ET]) (by simp [ET]) ⟨.inr rfl, trivial, trivial⟩ (al_Nds _) (by simp [renL, ren, ρZ]) (ren_Nds _) (.inr rfl) (by simp [ren, ρZ]; exact Imp.refl _)
def aOE : Option Er → AV
  | none => .v .nilIface
  | some e => erA e
/-- a name for a number, in a directory -/
def enterF (s : FSt) (h : Int) (x : ByteArray) (j : Int) : FSt × Option Er :=
  if (addE (nodA s h).entries ⟨x, j⟩).2 = 0 then (⟨s.nodes.set (plc s.nodes h) { nodA s h with entries := (addE (nodA s h).entries ⟨x, j⟩).1 }, s.next⟩, none) else (s, some ⟨[], (addE (nodA s h).entries ⟨x, j⟩).2, x⟩)
theorem nds_set {l : List Nd} {i : Nat} {n : Nd} (h : l[i]? = some n) (es : List Ent) : (eNds true l).set (i * 6 + 3) (.fs true (eEnts es) es.length) = eNds true (l.set i { n with entries := es }) := by
  have hi := (List.getElem?_eq_some_iff.1 h).1
  have hA : (eNds true (l.take i)).length = i * 6 := by rw [len_Nds, List.length_take]; omega
  have h2 : (l.set i { n with entries := es })[i]? = some { n with entries := es } := by rw [List.getElem?_set_self hi]
  rw [nds_mid true h, nds_mid true h2, mid_set hA 3 (by simp [eNd])]
  have e1 : (l.set i { n with entries := es }).take i = l.take i := by rw [List.take_set_of_le (Nat.le_refl _)]
  have e2 : (l.set i { n with entries := es }).drop (i + 1) = l.drop (i + 1) := by rw [List.drop_set_of_lt (by omega)]
  rw [e1, e2]
  rfl
set_option maxHeartbeats 1000000 in
theorem enter_h (s : FSt) (h : Int) (x : ByteArray) (k j : Int) (iS iN nb : Nat) (hne : iS ≠ iN) (hS : iS < nb) (hN : iN < nb) (hl : s.nodes.length ≤ 140737488355328) (h0 : s.nodes ≠ []) (hh : hasN s.nodes h)
    (hadd : ∀ nb, ASound Tryz.prog 173 [fEnts true (nodA s h).entries, aEnt ⟨x, j⟩] nb (.ret (.tup [fEnts true (addE (nodA s h).entries ⟨x, j⟩).1, .v (.int .i64 (addE (nodA s h).entries ⟨x, j⟩).2)]) [])) :
    ASound Tryz.prog 113 [.op iS 0, aSpt h x k, .v (.int .i64 j)] nb (rowsM (rwsT iS iN s) (.ret (aOE (enterF s h x j).2) (outW (rwsT iS iN s) (outT iN (enterF s h x j).1) ++ []))) := by
  obtain ⟨n, hx, hmem, _⟩ := hasN_get hh
  have hA : nodA s h = n := by rw [nodA, hx]
  obtain ⟨a0, a1, a2, a3, a4, a5⟩ := get_Nds (fr := true) hx
  rw [hA] at hadd
  refine ok_113.soundZ 2 (rwsT iS iN s) (outT iN (enterF s h x j).1) (by simp) ⟨by simp [Al], ⟨trivial, trivial, trivial, trivial⟩, trivial, trivial⟩ (by simp [hne]) (hneT hne h0 hS hN) rfl (by simp) hkmT ?_
  simp only [fEnts, aEnt] at hadd
  simp only [ac_113, aSpt, renL, ren, rowsIn, inZ, rnT0, rnT1 hne, ren_Nds, List.map_cons, List.map_nil, List.zipIdx_cons, List.zipIdx_nil, Nat.zero_add, List.length_cons, List.length_nil, TT, ↓reduceIte, Nat.reduceEqDiff, Nat.reduceAdd, Nat.reduceMul, reduceCtorEq, Nat.reduceLeDiff]
  refine ⟨_, node_h s h 0 1 _ (by decide) (by decide) (by decide) hl h0 hh.1, ?_⟩
  simp only [rowsM, rwsT, outW, outT, Option.map_some, List.append_nil, a3, TT, ↓reduceIte, Nat.reduceEqDiff, Nat.reduceAdd, Nat.reduceMul, reduceCtorEq, Nat.reduceLeDiff]
  refine ⟨_, hadd _, ?_⟩
  simp only [TT, ↓reduceIte, Nat.reduceEqDiff, Nat.reduceAdd, Nat.reduceMul, reduceCtorEq, Nat.reduceLeDiff]
  refine ⟨by rfl, ?_⟩
  by_cases c : ¬ (addE n.entries ⟨x, j⟩).2 = 0
  · have e : enterF s h x j = (s, some ⟨[], (addE n.entries ⟨x, j⟩).2, x⟩) := by rw [enterF, hA, if_neg c]
    simp only [c, e, decide_false, Bool.not_false, TT, ↓reduceIte, Nat.reduceEqDiff, Nat.reduceAdd, Nat.reduceMul, reduceCtorEq, Nat.reduceLeDiff]
    refine ⟨_, refuse_spec (addE n.entries ⟨x, j⟩).2 x _ c, ?_⟩
    simp only [aFlt, TT, ↓reduceIte, Nat.reduceEqDiff, Nat.reduceAdd, Nat.reduceMul, reduceCtorEq, Nat.reduceLeDiff]
    exact EndsZ.keep2 (c0 := [.os 1 0 s.nodes.length 6, .v (.int .i64 s.next)]) (c1 := eNds true s.nodes) (r0 := erA ⟨[], (addE n.entries ⟨x, j⟩).2, x⟩) (.inr rfl) (by simp [ET, erA, aErr]) (by simp [ET]) (by simp [ET]) ⟨.inr rfl, trivial, trivial⟩ (al_Nds _) (by simp [renL, ren, ρZ]) (ren_Nds _) (al_err _ _ _) (Imp.refl _)
  · replace c : (addE n.entries ⟨x, j⟩).2 = 0 := Decidable.not_not.1 c
    have e : enterF s h x j = (⟨s.nodes.set (plc s.nodes h) { n with entries := (addE n.entries ⟨x, j⟩).1 }, s.next⟩, none) := by rw [enterF, hA, if_pos c]
    have hlt := (List.getElem?_eq_some_iff.1 hx).1
    have h4 : plc s.nodes h * 6 + 3 + 1 ≤ s.nodes.length * 6 := by omega
    simp only [c, e, decide_true, Bool.not_true, nds_set hx, len_Nds, h4, TT, ↓reduceIte, Nat.reduceEqDiff, Nat.reduceAdd, Nat.reduceMul, reduceCtorEq, Nat.reduceLeDiff]
    rw [if_neg (by simp)]
    refine EndsZ.keep2 (c0 := [.os 1 0 s.nodes.length 6, .v (.int .i64 s.next)]) (c1 := eNds true (s.nodes.set (plc s.nodes h) { n with entries := (addE n.entries ⟨x, j⟩).1 })) (r0 := .v .nilIface) (.inr rfl) (by simp [ET]) (by simp [ET]) (by simp [ET]) ⟨.inr rfl, trivial, trivial⟩ (al_Nds _) (by simp [renL, ren, ρZ]) (ren_Nds _) trivial (Imp.refl _)
end Go.Proofs.YtonglhkiobibgaaGreatDoor
namespace Go.Proofs.YtonglhkiobibgaaGreatDoor
open Go.RowKit
set_option maxRecDepth 100000
theorem ImpL.rfl' : ∀ l : List AV, ImpL l l
  | [] => trivial
  | a :: l => ⟨Imp.refl a, ImpL.rfl' l⟩
theorem ImpL.app : ∀ {a b c d : List AV}, ImpL a b → ImpL c d → ImpL (a ++ c) (b ++ d)
  | [], [], _, _, _, h => h
  | _ :: _, _ :: _, _, _, h1, h2 => ⟨h1.1, ImpL.app h1.2 h2⟩
  | [], _ :: _, _, _, h, _ => h.elim
  | _ :: _, [], _, _, h, _ => h.elim
section
variable {N : Nat}
theorem keepNone {S : Nat → Prop} {ρ : Nat → Nat} {σ : Heap} : ∀ (rws : List RW) (out : List (Option (List AV))) (k : Nat), (∀ x ∈ out, x = none) → out.length = rws.length → keepOkZ S ρ rws out k σ
  | [], [], _, _, _ => trivial
  | x :: r, none :: b, k, h8, h9 => keepNone r b (k + 1) (fun z hz => h8 z (by simp [hz])) (by simpa using h9)
  | x :: r, some a :: b, k, h8, _ => by have := h8 (some a) (by simp); cases this
  | [], _ :: _, _, _, h => by simp at h
  | _ :: _, [], _, _, h => by simp at h
/-- a body's end that hands back the state's box; the nodes lie in a row that is new, or the old one -/
theorem EndsZ.kbox {nb el i n : Nat} {nx : Int} {rs : List RV} {x0 : RW} {rws : List RW} {outs : List (Option (List AV))} {cells c : List AV} {r r0 : AV} {e : Exit} {s : ASt} (hne : ∀ x ∈ rws, x.1 ≠ x0.1) (he : e = .normal ∨ e = .ret) (h : (resL s rs).map tupOf = some r0) (hout : ∀ x ∈ outs, x = none) (hol : outs.length = rws.length) (hi : 1 ≤ i)
    (h0 : s.σ 0 = some (.row x0.2.1 x0.2.2.1 [.os i 0 n 6, .v (.int .i64 nx)])) (h1 : s.σ i = some (.row true el cells)) (hal : ∀ p, AlL p cells) (hc : ImpL cells c) (ha : ∀ p, Al p r0) (hr : Imp r0 r) :
    EndsZ N 1 rs (x0 :: rws) (some [.os nb 0 n 6, .v (.int .i64 nx)] :: outs) nb r [(nb, some (.row true el c))] e s := by
  obtain ⟨l, h2, h3⟩ := Option.map_eq_some_iff.1 h
  have hρi : ∀ ids, ρZ ids 1 [i] nb i = nb := fun ids => by unfold ρZ; rw [if_neg (by omega)]; simp [rn]
  have idr : ∀ {a : AV} (ρ : Nat → Nat), (∀ p, Al p a) → ren ρ a = a := fun {a} ρ h => ren_id (p := fun _ => False) (fun _ h => h.elim) (h _)
  have idl : ∀ {a : List AV} (ρ : Nat → Nat), (∀ p, AlL p a) → renL ρ a = a := fun {a} ρ h => renL_id (p := fun _ => False) (fun _ h => h.elim) (h _)
  refine ⟨he, s, Weak.refl s, [i], by simpa using hi, ⟨⟨_, h0, ?_⟩, keepNone rws outs 1 hout hol⟩, ⟨by simp, by simp, ⟨l, h2, by rw [h3]; exact ha _, by rw [h3, idr _ ha]; exact hr⟩, [(true, el, c)], rfl, rfl, fun k j hk => ?_⟩⟩
  · refine ⟨⟨.inr (by simp), trivial, trivial⟩, rfl, fun j a' hj => ?_⟩
    rcases j with _ | _ | j
    · cases hj
      exact ⟨_, rfl, by rw [ren, hρi]; exact Imp.refl _⟩
    · cases hj
      exact ⟨_, rfl, Imp.refl _⟩
    · simp at hj
  · rcases k with _ | k
    · simp at hk
      subst hk
      obtain ⟨g1, g2⟩ := ImpL_get hc
      refine ⟨true, el, cells, h1, hal _, c, rfl, g1, fun q a' hq => ?_⟩
      obtain ⟨a, k1, k2⟩ := g2 q a' hq
      exact ⟨a, k1, by rw [idr _ (fun p => AlL_iff.1 (hal p) a (List.mem_of_getElem? k1))]; exact k2⟩
    · simp at hk
end
def enterB : ByteArray := ByteArray.mk #[101, 110, 116, 101, 114]
def slashB : ByteArray := ByteArray.mk #[47]
def makeF (s : FSt) (l : List ByteArray) (d : Bool) : FSt × Option Er :=
  if l = [] then (s, some ⟨[], 102, slashB⟩) else
  match spotF s l with
  | .error e => (s, some e)
  | .ok (h, x, k) => if k ≠ 0 then (s, some ⟨[], 102, x⟩) else if 128 ≤ s.nodes.length ∨ 2147483647 ≤ s.next then (s, some ⟨[], 109, x⟩) else
    match enterF s h x s.next with
    | (s1, some e) => (s1, some ⟨enterB :: e.ops, e.cd, e.at_⟩)
    | (s1, none) => (⟨s1.nodes ++ [⟨s.next, d, 1, [], ⟨0, []⟩⟩], s.next + 1⟩, none)
theorem spotF_ok {s : FSt} (hok : okE s) (h1 : hasN s.nodes 1) {l : List ByteArray} {h k : Int} {x : ByteArray} (e : spotF s l = .ok (h, x, k)) : hasN s.nodes h ∧ (nodA s h).dir = true ∧ x = lastB l ∧ k = (findE (nodA s h).entries x).1 := by
  unfold spotF at e
  cases hw : walkF s 1 (l.take (l.length - 1)) with
  | error q => rw [hw] at e; cases e
  | ok t =>
    rw [hw] at e
    simp only at e
    split at e
    · rename_i hd
      simp only [Except.ok.injEq, Prod.mk.injEq] at e
      obtain ⟨rfl, rfl, rfl⟩ := e
      exact ⟨walkF_has hok h1 hw, hd, rfl, rfl⟩
    · cases e
theorem enterF_len (s : FSt) (h : Int) (x : ByteArray) (j : Int) : (enterF s h x j).1.nodes.length = s.nodes.length ∧ (enterF s h x j).1.next = s.next := by
  unfold enterF
  split
  · simp
  · simp
abbrev outM (nb : Nat) (s : FSt) : List (Option (List AV)) := [some [.os nb 0 s.nodes.length 6, .v (.int .i64 s.next)], none]
abbrev newM (nb : Nat) (s : FSt) : List (Nat × Option AObj) := [(nb, some (.row true 118 (eNds true s.nodes)))]
theorem hkmM {a : List AV} : ∀ (k : Nat) cl, ([some a, none] : List (Option (List AV)))[k]? = some (some cl) → k < 1 := fun k cl hk => by
  rcases k with _ | _ | k
  · decide
  · simp at hk
  · simp at hk
set_option maxHeartbeats 2000000 in
theorem make_h (s : FSt) (l : List ByteArray) (d : Bool) (fl : Bool) (iS iN nb : Nat) (hne : iS ≠ iN) (hS : iS < nb) (hN : iN < nb) (hl : s.nodes.length ≤ 1000) (h0 : s.nodes ≠ []) (hok : okE s) (h1 : hasN s.nodes 1) (hll : l.length ≤ 1000)
    (hadd : ∀ h x k, spotF s l = .ok (h, x, k) → k = 0 → ∀ nb, ASound Tryz.prog 173 [fEnts true (nodA s h).entries, aEnt ⟨x, s.next⟩] nb (.ret (.tup [fEnts true (addE (nodA s h).entries ⟨x, s.next⟩).1, .v (.int .i64 (addE (nodA s h).entries ⟨x, s.next⟩).2)]) []))
    (hnx : 0 ≤ s.next ∧ s.next ≤ 2147483647) :
    ASound Tryz.prog 61 [.op iS 0, fS fl l, .v (.bool d)] nb (rowsM (rwsT iS iN s) (.ret (aOE (makeF s l d).2) (outW (rwsT iS iN s) (outM nb (makeF s l d).1) ++ newM nb (makeF s l d).1))) := by
  refine ok_61.soundZ 1 (rwsT iS iN s) (outM nb (makeF s l d).1) (by simp) ⟨by simp [Al], al_S _, trivial, trivial⟩ (by simp [hne]) (hneT hne h0 hS hN) rfl (by simp) hkmM ?_
  simp only [ac_61, fS, ren_S, renL, ren, rowsIn, inZ, rnT0, rnT1 hne, ren_Nds, List.map_cons, List.map_nil, List.zipIdx_cons, List.zipIdx_nil, Nat.zero_add, List.length_cons, List.length_nil, TT, ↓reduceIte, Nat.reduceEqDiff, Nat.reduceAdd, Nat.reduceMul, reduceCtorEq, Nat.reduceLeDiff]
  by_cases c0 : l = []
  · have e : makeF s l d = (s, some ⟨[], 102, slashB⟩) := by rw [makeF, if_pos c0]
    have c0' : l.length = 0 := by simp [c0]
    simp only [c0', e, TT, ↓reduceIte, Nat.reduceEqDiff, Nat.reduceAdd, Nat.reduceMul, reduceCtorEq, Nat.reduceLeDiff]
    rw [if_pos (by simp)]
    refine ⟨_, refuse_spec 102 slashB _ (by decide), ?_⟩
    simp only [aFlt, TT, ↓reduceIte, Nat.reduceEqDiff, Nat.reduceAdd, Nat.reduceMul, reduceCtorEq, Nat.reduceLeDiff]
    exact EndsZ.kbox (i := 1) (cells := eNds true s.nodes) (r0 := erA ⟨[], 102, slashB⟩) (by simp [hne.symm]) (.inr rfl) (by simp [ET, erA, aErr, slashB, enterB]) (by simp) rfl (by decide) (by simp [ET]) (by simp [ET]) (fun _ => al_Nds _) (ImpL.rfl' _) (fun _ => al_err _ _ _) (Imp.refl _)
  have c0' : ¬ (l.length : Int) = 0 := fun h => c0 (List.eq_nil_of_length_eq_zero (by omega))
  rw [if_neg c0']
  refine ⟨_, spot_h fl s l 0 1 _ (by decide) (by omega) hok h1 (by omega) c0, ?_⟩
  cases hsp : spotF s l with
  | error er =>
    have e : makeF s l d = (s, some er) := by rw [makeF, if_neg c0, hsp]
    obtain ⟨t, x, ei, hx⟩ := err_ifc er.ops er.cd er.at_
    simp only [rowsM, rwsT, aSpot, aSpt, erA, ei, e, TT, ↓reduceIte, Nat.reduceEqDiff, Nat.reduceAdd, Nat.reduceMul, reduceCtorEq, Nat.reduceLeDiff]
    exact EndsZ.kbox (i := 1) (cells := eNds true s.nodes) (r0 := erA er) (by simp [hne.symm]) (.inr rfl) (by simp [ET, erA, aErr, slashB, enterB, ei]) (by simp) rfl (by decide) (by simp [ET]) (by simp [ET]) (fun _ => al_Nds _) (ImpL.rfl' _) (fun _ => al_err _ _ _) (Imp.refl _)
  | ok q =>
    obtain ⟨h, x, k⟩ := q
    have hs := hadd h x k hsp
    simp only [rowsM, rwsT, aSpot, aSpt, TT, ↓reduceIte, Nat.reduceEqDiff, Nat.reduceAdd, Nat.reduceMul, reduceCtorEq, Nat.reduceLeDiff]
    by_cases c1 : k = 0
    case neg =>
      have e : makeF s l d = (s, some ⟨[], 102, x⟩) := by rw [makeF, if_neg c0, hsp]; simp only; rw [if_pos c1]
      rw [if_pos c1, e]
      refine ⟨_, refuse_spec 102 x _ (by decide), ?_⟩
      simp only [aFlt, TT, ↓reduceIte, Nat.reduceEqDiff, Nat.reduceAdd, Nat.reduceMul, reduceCtorEq, Nat.reduceLeDiff]
      exact EndsZ.kbox (i := 1) (cells := eNds true s.nodes) (r0 := erA ⟨[], 102, x⟩) (by simp [hne.symm]) (.inr rfl) (by simp [ET, erA, aErr, slashB, enterB]) (by simp) rfl (by decide) (by simp [ET]) (by simp [ET]) (fun _ => al_Nds _) (ImpL.rfl' _) (fun _ => al_err _ _ _) (Imp.refl _)
    subst c1
    rw [if_neg (by simp)]
    by_cases c2 : 128 ≤ s.nodes.length
    · have e : makeF s l d = (s, some ⟨[], 109, x⟩) := by rw [makeF, if_neg c0, hsp]; simp only; rw [if_neg (by simp), if_pos (.inl c2)]
      have g : (128 : Int) ≤ (s.nodes.length : Int) := by omega
      rw [if_neg (by omega), e]
      refine ⟨_, refuse_spec 109 x _ (by decide), ?_⟩
      simp only [aFlt, TT, ↓reduceIte, Nat.reduceEqDiff, Nat.reduceAdd, Nat.reduceMul, reduceCtorEq, Nat.reduceLeDiff]
      exact EndsZ.kbox (i := 1) (cells := eNds true s.nodes) (r0 := erA ⟨[], 109, x⟩) (by simp [hne.symm]) (.inr rfl) (by simp [ET, erA, aErr, slashB, enterB]) (by simp) rfl (by decide) (by simp [ET]) (by simp [ET]) (fun _ => al_Nds _) (ImpL.rfl' _) (fun _ => al_err _ _ _) (Imp.refl _)
    have g : ¬ (128 : Int) ≤ (s.nodes.length : Int) := by omega
    by_cases c3 : 2147483647 ≤ s.next
    · have e : makeF s l d = (s, some ⟨[], 109, x⟩) := by rw [makeF, if_neg c0, hsp]; simp only; rw [if_neg (by simp), if_pos (.inr c3)]
      rw [if_pos (by omega), if_pos c3, e]
      refine ⟨_, refuse_spec 109 x _ (by decide), ?_⟩
      simp only [aFlt, TT, ↓reduceIte, Nat.reduceEqDiff, Nat.reduceAdd, Nat.reduceMul, reduceCtorEq, Nat.reduceLeDiff]
      exact EndsZ.kbox (i := 1) (cells := eNds true s.nodes) (r0 := erA ⟨[], 109, x⟩) (by simp [hne.symm]) (.inr rfl) (by simp [ET, erA, aErr, slashB, enterB]) (by simp) rfl (by decide) (by simp [ET]) (by simp [ET]) (fun _ => al_Nds _) (ImpL.rfl' _) (fun _ => al_err _ _ _) (Imp.refl _)
    rw [if_pos (by omega), if_neg c3]
    obtain ⟨hh, _, _, _⟩ := spotF_ok hok h1 hsp
    refine ⟨_, enter_h s h x 0 s.next 0 1 _ (by decide) (by decide) (by decide) (by omega) h0 hh (hs rfl), ?_⟩
    cases hen : enterF s h x s.next with
    | mk s1 oe =>
    cases oe with
    | some er =>
      have e : makeF s l d = (s1, some ⟨enterB :: er.ops, er.cd, er.at_⟩) := by
        rw [makeF, if_neg c0, hsp]; simp only; rw [if_neg (by simp), if_neg (by omega), hen]
      obtain ⟨t, z, ei, hz⟩ := err_ifc er.ops er.cd er.at_
      simp only [rowsM, rwsT, outW, outT, aOE, erA, ei, e, Option.map_some, List.append_nil, TT, ↓reduceIte, Nat.reduceEqDiff, Nat.reduceAdd, Nat.reduceMul, reduceCtorEq, Nat.reduceLeDiff]
      refine ⟨by rfl, ?_⟩
      rw [← ei]
      refine ⟨_, wrapE_spec enterB er.ops er.cd er.at_ _, ?_⟩
      obtain ⟨t2, z2, ei2, hz2⟩ := err_ifc (enterB :: er.ops) er.cd er.at_
      simp only [ei2, TT, ↓reduceIte, Nat.reduceEqDiff, Nat.reduceAdd, Nat.reduceMul, reduceCtorEq, Nat.reduceLeDiff]
      exact EndsZ.kbox (i := 1) (cells := eNds true s1.nodes) (r0 := .ifc t2 z2) (by simp [hne.symm]) (.inr rfl) (by simp [ET]) (by simp) rfl (by decide) (by simp [ET]) (by simp [ET]) (fun _ => al_Nds _) (ImpL.rfl' _) (fun _ => hz2 _) (Imp.refl _)
    | none =>
      have hlen : s1.nodes.length = s.nodes.length := by have := enterF_len s h x s.next; rw [hen] at this; exact this.1
      have hnx1 : s1.next = s.next := by have := enterF_len s h x s.next; rw [hen] at this; exact this.2
      have e : makeF s l d = (⟨s1.nodes ++ [⟨s.next, d, 1, [], ⟨0, []⟩⟩], s.next + 1⟩, none) := by
        rw [makeF, if_neg c0, hsp]; simp only; rw [if_neg (by simp), if_neg (by omega), hen]
      rw [e]
      simp only [rowsM, rwsT, outW, outT, Option.map_some, List.append_nil, aOE, TT, ↓reduceIte, Nat.reduceEqDiff, Nat.reduceAdd, Nat.reduceMul, reduceCtorEq, Nat.reduceLeDiff]
      refine ⟨by rfl, ?_⟩
      rw [if_pos ⟨len_Nds _, by omega⟩]
      refine ⟨by rfl, ?_⟩
      rw [hnx1, wrap64 (x := s.next + 1) (by omega)]
      have hcat : eNds true (s1.nodes ++ [⟨s.next, d, 1, [], ⟨0, []⟩⟩]) = eNds true s1.nodes ++ [.v (.int .i64 s.next), .v (.bool d), .v (.int .i64 1), .fs true [] 0, .v (.int .i64 0), .fs true [] 0] := by
        simp only [eNds, List.flatMap_append, List.flatMap_cons, List.flatMap_nil, List.append_nil, eNd, fEnts, eEnts, fBks, eBks, List.length_nil]
      simp only [outM, newM, hcat, List.length_append, List.length_cons, List.length_nil, Nat.zero_add]
      refine EndsZ.kbox (i := 5600002) (n := s1.nodes.length + 1) (cells := eNds true s1.nodes ++ [.v (.int .i64 s.next), .v (.bool d), .v (.int .i64 1), .v (.slice none 0 0), .v (.int .i64 0), .v (.slice none 0 0)]) (r0 := .v .nilIface) (by simp [hne.symm]) (.inr rfl) (by simp [ET]) (by simp) rfl (by decide) ?_ ?_ (fun _ => ?_) ?_ (fun _ => trivial) (Imp.refl _)
      · simp [ET]
      · simp [ET]
      · rw [AlL_append]; exact ⟨al_Nds _, trivial, trivial, trivial, trivial, trivial, trivial, trivial⟩
      · exact (ImpL.rfl' _).app ⟨Imp.refl _, Imp.refl _, Imp.refl _, Imp.nil true, Imp.refl _, Imp.nil true, trivial⟩
end Go.Proofs.YtonglhkiobibgaaGreatDoor
namespace Go.Proofs.YtonglhkiobibgaaGreatDoor
open Go.RowKit
set_option maxRecDepth 100000
/-- an entry less -/
def remE (l : List Ent) (x : ByteArray) : List Ent × Int :=
  if chkD l ≠ 0 then ([], chkD l) else if ¬ hasE l x then ([], 101) else (l.eraseIdx (plcE l x), 0)
def leaveF (s : FSt) (h : Int) (x : ByteArray) : FSt := ⟨s.nodes.set (plc s.nodes h) { nodA s h with entries := (remE (nodA s h).entries x).1 }, s.next⟩
def dropF (s : FSt) (h : Int) (x : ByteArray) (k : Int) : FSt :=
  let t := leaveF s h x
  if 1 < (nodA t k).links then ⟨t.nodes.set (plc t.nodes k) { nodA t k with links := (nodA t k).links - 1 }, t.next⟩ else ⟨t.nodes.eraseIdx (plc t.nodes k), t.next⟩
/-- why a name cannot be removed -/
def removeE (s : FSt) (l : List ByteArray) (d : Bool) : Option Er :=
  if l = [] then some ⟨[], if d then 108 else 104, slashB⟩ else
  match walkF s 1 l with
  | .error (cd, x) => some ⟨[], cd, x⟩
  | .ok t => if d = true ∧ (nodA s t).dir = false then some ⟨[], 103, lastB l⟩ else if d = false ∧ (nodA s t).dir = true then some ⟨[], 104, lastB l⟩ else if (nodA s t).entries ≠ [] then some ⟨[], 105, lastB l⟩ else
    match spotF s l with
    | .error e => some e
    | .ok _ => none
def removeF (s : FSt) (l : List ByteArray) (d : Bool) : FSt × Option Er :=
  match removeE s l d with
  | some e => (s, some e)
  | none => match spotF s l with
    | .error e => (s, some e)
    | .ok (h, x, k) => (dropF s h x k, none)
abbrev DropOk (s : FSt) (h : Int) (x : ByteArray) (k : Int) : Prop := ∀ iS iN nb : Nat, iS ≠ iN → iS < nb → iN < nb → ASound Tryz.prog 117 [.op iS 0, aSpt h x k] nb (rowsM (rwsT iS iN s) (.ret (.tup []) (outW (rwsT iS iN s) (outM nb (dropF s h x k)) ++ newM nb (dropF s h x k))))
set_option maxHeartbeats 2000000 in
theorem remove_h (s : FSt) (l : List ByteArray) (d : Bool) (fl : Bool) (iS iN nb : Nat) (hne : iS ≠ iN) (hS : iS < nb) (hN : iN < nb) (hl : s.nodes.length ≤ 1000) (h0 : s.nodes ≠ []) (hok : okE s) (h1 : hasN s.nodes 1) (hll : l.length ≤ 1000)
    (hdrop : removeE s l d = none → ∀ h x k, spotF s l = .ok (h, x, k) → DropOk s h x k) :
    ASound Tryz.prog 66 [.op iS 0, fS fl l, .v (.bool d)] nb (rowsM (rwsT iS iN s) (.ret (aOE (removeF s l d).2) (outW (rwsT iS iN s) (outM nb (removeF s l d).1) ++ newM nb (removeF s l d).1))) := by
  refine ok_66.soundZ 1 (rwsT iS iN s) (outM nb (removeF s l d).1) (by simp) ⟨by simp [Al], al_S _, trivial, trivial⟩ (by simp [hne]) (hneT hne h0 hS hN) rfl (by simp) hkmM ?_
  simp only [ac_66, fS, ren_S, renL, ren, rowsIn, inZ, rnT0, rnT1 hne, ren_Nds, List.map_cons, List.map_nil, List.zipIdx_cons, List.zipIdx_nil, Nat.zero_add, List.length_cons, List.length_nil, TT, ↓reduceIte, Nat.reduceEqDiff, Nat.reduceAdd, Nat.reduceMul, reduceCtorEq, Nat.reduceLeDiff]
  have er_ : ∀ er, removeE s l d = some er → removeF s l d = (s, some er) := fun er h => by rw [removeF, h]
  by_cases c0 : l = []
  · have e := er_ ⟨[], if d then 108 else 104, slashB⟩ (by rw [removeE, if_pos c0])
    rw [if_pos (by simp [c0]), e]
    cases d
    · simp only [TT, ↓reduceIte, Nat.reduceEqDiff, Nat.reduceAdd, Nat.reduceMul, reduceCtorEq, Nat.reduceLeDiff]
      refine ⟨_, refuse_spec 104 slashB _ (by decide), ?_⟩
      simp only [aFlt, TT, ↓reduceIte, Nat.reduceEqDiff, Nat.reduceAdd, Nat.reduceMul, reduceCtorEq, Nat.reduceLeDiff]
      exact EndsZ.kbox (i := 1) (cells := eNds true s.nodes) (r0 := erA ⟨[], 104, slashB⟩) (by simp [hne.symm]) (.inr rfl) (by simp [ET, erA, aErr, slashB]) (by simp) rfl (by decide) (by simp [ET]) (by simp [ET]) (fun _ => al_Nds _) (ImpL.rfl' _) (fun _ => al_err _ _ _) (Imp.refl _)
    · simp only [TT, ↓reduceIte, Nat.reduceEqDiff, Nat.reduceAdd, Nat.reduceMul, reduceCtorEq, Nat.reduceLeDiff]
      refine ⟨_, refuse_spec 108 slashB _ (by decide), ?_⟩
      simp only [aFlt, TT, ↓reduceIte, Nat.reduceEqDiff, Nat.reduceAdd, Nat.reduceMul, reduceCtorEq, Nat.reduceLeDiff]
      exact EndsZ.kbox (i := 1) (cells := eNds true s.nodes) (r0 := erA ⟨[], 108, slashB⟩) (by simp [hne.symm]) (.inr rfl) (by simp [ET, erA, aErr, slashB]) (by simp) rfl (by decide) (by simp [ET]) (by simp [ET]) (fun _ => al_Nds _) (ImpL.rfl' _) (fun _ => al_err _ _ _) (Imp.refl _)
  have c0' : ¬ (l.length : Int) = 0 := fun h => c0 (List.eq_nil_of_length_eq_zero (by omega))
  have hpos : 0 < l.length := List.length_pos_iff.2 c0
  have w1 : IntKind.i64.wrap ((l.length : Int) - 1) = ((l.length - 1 : Nat) : Int) := by rw [wrap64 (by omega)]; omega
  obtain ⟨x, hx, e1, e0⟩ := lt_at (show l.length - 1 < l.length by omega)
  have hlb : lastB l = x := by rw [lastB, hx]; rfl
  rw [if_neg c0']
  refine ⟨_, walk_h fl s l 0 1 _ (by decide) (by omega) hok h1 (by omega), ?_⟩
  cases hw : walkF s 1 l with
  | error q =>
    obtain ⟨cd, xn⟩ := q
    have e := er_ ⟨[], cd, xn⟩ (by rw [removeE, if_neg c0, hw])
    rw [e]
    simp only [rowsM, rwsT, aWalk, aFlt, TT, ↓reduceIte, Nat.reduceEqDiff, Nat.reduceAdd, Nat.reduceMul, reduceCtorEq, Nat.reduceLeDiff]
    exact EndsZ.kbox (i := 1) (cells := eNds true s.nodes) (r0 := erA ⟨[], cd, xn⟩) (by simp [hne.symm]) (.inr rfl) (by simp [ET, erA, aErr, slashB]) (by simp) rfl (by decide) (by simp [ET]) (by simp [ET]) (fun _ => al_Nds _) (ImpL.rfl' _) (fun _ => al_err _ _ _) (Imp.refl _)
  | ok t =>
    have ht := walkF_has hok h1 hw
    obtain ⟨n, hxn, hmem, _⟩ := hasN_get ht
    have hA : nodA s t = n := by rw [nodA, hxn]
    obtain ⟨a0, a1, a2, a3, a4, a5⟩ := get_Nds (fr := true) hxn
    have hnd := fun nb h8 h9 => node_h s t 0 1 nb (by decide) h8 h9 (by omega) h0 ht.1
    simp only [rowsM, rwsT, outW, outT, Option.map_some, List.append_nil] at hnd
    simp only [rowsM, rwsT, aWalk, TT, ↓reduceIte, Nat.reduceEqDiff, Nat.reduceAdd, Nat.reduceMul, reduceCtorEq, Nat.reduceLeDiff]
    refine ⟨_, hnd _ (by decide) (by decide), ?_⟩
    cases d
    · cases hd : n.dir
      · by_cases c5 : n.entries ≠ []
        · have e := er_ ⟨[], 105, lastB l⟩ (by rw [removeE, if_neg c0, hw]; simp only; rw [hA, hd, if_neg (by decide), if_neg (by decide), if_pos c5])
          have c5' : (0 : Int) < (n.entries.length : Int) := by have := List.length_pos_iff.2 c5; omega
          simp only [a1, a3, hd, Bool.not_false, Bool.not_true, w1, e1, e0, get_S hx, hlb, e, Int.toNat_natCast, TT, ↓reduceIte, Nat.reduceEqDiff, Nat.reduceAdd, Nat.reduceMul, reduceCtorEq, Nat.reduceLeDiff]
          rw [if_pos c5']
          refine ⟨_, refuse_spec 105 x _ (by decide), ?_⟩
          simp only [aFlt, hlb, TT, ↓reduceIte, Nat.reduceEqDiff, Nat.reduceAdd, Nat.reduceMul, reduceCtorEq, Nat.reduceLeDiff]
          exact EndsZ.kbox (i := 1) (cells := eNds true s.nodes) (r0 := erA ⟨[], 105, x⟩) (by simp [hne.symm]) (.inr rfl) (by simp [ET, erA, aErr, slashB]) (by simp) rfl (by decide) (by simp [ET]) (by simp [ET]) (fun _ => al_Nds _) (ImpL.rfl' _) (fun _ => al_err _ _ _) (Imp.refl _)
        · have c6 : n.entries = [] := Classical.not_not.1 c5
          have c5' : ¬ (0 : Int) < (n.entries.length : Int) := by simp [c6]
          simp only [a1, a3, hd, Bool.not_false, Bool.not_true, w1, e1, e0, get_S hx, hlb, Int.toNat_natCast, TT, ↓reduceIte, Nat.reduceEqDiff, Nat.reduceAdd, Nat.reduceMul, reduceCtorEq, Nat.reduceLeDiff]
          rw [if_neg c5']
          refine ⟨_, spot_h fl s l 0 1 _ (by decide) (by omega) hok h1 (by omega) c0, ?_⟩
          cases hsp : spotF s l with
          | error er =>
            have e := er_ er (by rw [removeE, if_neg c0, hw]; simp only; rw [hA, hd, if_neg (by decide), if_neg (by decide), if_neg (by simp [c6]), hsp])
            rw [e]
            obtain ⟨t2, z2, ei2, hz2⟩ := err_ifc er.ops er.cd er.at_
            simp only [rowsM, rwsT, aSpot, aSpt, erA, ei2, TT, ↓reduceIte, Nat.reduceEqDiff, Nat.reduceAdd, Nat.reduceMul, reduceCtorEq, Nat.reduceLeDiff]
            exact EndsZ.kbox (i := 1) (cells := eNds true s.nodes) (r0 := .ifc t2 z2) (by simp [hne.symm]) (.inr rfl) (by simp [ET]) (by simp) rfl (by decide) (by simp [ET]) (by simp [ET]) (fun _ => al_Nds _) (ImpL.rfl' _) (fun _ => hz2 _) (by simp only [aOE, erA, ei2]; exact Imp.refl _)
          | ok q =>
            obtain ⟨hh, xx, kk⟩ := q
            have hre : removeE s l false = none := (by rw [removeE, if_neg c0, hw]; simp only; rw [hA, hd, if_neg (by decide), if_neg (by decide), if_neg (by simp [c6]), hsp])
            have e : removeF s l false = (dropF s hh xx kk, none) := by rw [removeF, hre]; simp only; rw [hsp]
            rw [e]
            simp only [rowsM, rwsT, aSpot, aSpt, TT, ↓reduceIte, Nat.reduceEqDiff, Nat.reduceAdd, Nat.reduceMul, reduceCtorEq, Nat.reduceLeDiff]
            refine ⟨_, hdrop hre hh xx kk hsp 0 1 _ (by decide) (by decide) (by decide), ?_⟩
            simp only [rowsM, rwsT, outW, outM, newM, Option.map_some, Option.map_none, List.cons_append, List.nil_append, List.append_nil, TT, ↓reduceIte, Nat.reduceEqDiff, Nat.reduceAdd, Nat.reduceMul, reduceCtorEq, Nat.reduceLeDiff]
            exact EndsZ.kbox (i := 5600002) (cells := eNds true (dropF s hh xx kk).nodes) (r0 := .v .nilIface) (by simp [hne.symm]) (.inr rfl) (by simp [ET]) (by simp) rfl (by decide) (by simp [ET]) (by simp [ET]) (fun _ => al_Nds _) (ImpL.rfl' _) (fun _ => trivial) (Imp.refl _)
      · have e := er_ ⟨[], 104, lastB l⟩ (by rw [removeE, if_neg c0, hw]; simp only; rw [hA, hd, if_neg (by decide), if_pos (by simp)])
        simp only [a1, hd, Bool.not_false, Bool.not_true, w1, e1, e0, get_S hx, hlb, e, Int.toNat_natCast, TT, ↓reduceIte, Nat.reduceEqDiff, Nat.reduceAdd, Nat.reduceMul, reduceCtorEq, Nat.reduceLeDiff]
        refine ⟨_, refuse_spec 104 x _ (by decide), ?_⟩
        simp only [aFlt, hlb, TT, ↓reduceIte, Nat.reduceEqDiff, Nat.reduceAdd, Nat.reduceMul, reduceCtorEq, Nat.reduceLeDiff]
        exact EndsZ.kbox (i := 1) (cells := eNds true s.nodes) (r0 := erA ⟨[], 104, x⟩) (by simp [hne.symm]) (.inr rfl) (by simp [ET, erA, aErr, slashB]) (by simp) rfl (by decide) (by simp [ET]) (by simp [ET]) (fun _ => al_Nds _) (ImpL.rfl' _) (fun _ => al_err _ _ _) (Imp.refl _)
    · cases hd : n.dir
      · have e := er_ ⟨[], 103, lastB l⟩ (by rw [removeE, if_neg c0, hw]; simp only; rw [hA, hd, if_pos (by simp)])
        simp only [a1, hd, Bool.not_false, Bool.not_true, w1, e1, e0, get_S hx, hlb, e, Int.toNat_natCast, TT, ↓reduceIte, Nat.reduceEqDiff, Nat.reduceAdd, Nat.reduceMul, reduceCtorEq, Nat.reduceLeDiff]
        refine ⟨_, refuse_spec 103 x _ (by decide), ?_⟩
        simp only [aFlt, hlb, TT, ↓reduceIte, Nat.reduceEqDiff, Nat.reduceAdd, Nat.reduceMul, reduceCtorEq, Nat.reduceLeDiff]
        exact EndsZ.kbox (i := 1) (cells := eNds true s.nodes) (r0 := erA ⟨[], 103, x⟩) (by simp [hne.symm]) (.inr rfl) (by simp [ET, erA, aErr, slashB]) (by simp) rfl (by decide) (by simp [ET]) (by simp [ET]) (fun _ => al_Nds _) (ImpL.rfl' _) (fun _ => al_err _ _ _) (Imp.refl _)
      · by_cases c5 : n.entries ≠ []
        · have e := er_ ⟨[], 105, lastB l⟩ (by rw [removeE, if_neg c0, hw]; simp only; rw [hA, hd, if_neg (by decide), if_neg (by decide), if_pos c5])
          have c5' : (0 : Int) < (n.entries.length : Int) := by have := List.length_pos_iff.2 c5; omega
          simp only [a1, a3, hd, Bool.not_false, Bool.not_true, w1, e1, e0, get_S hx, hlb, e, Int.toNat_natCast, TT, ↓reduceIte, Nat.reduceEqDiff, Nat.reduceAdd, Nat.reduceMul, reduceCtorEq, Nat.reduceLeDiff]
          rw [if_pos c5']
          refine ⟨_, refuse_spec 105 x _ (by decide), ?_⟩
          simp only [aFlt, hlb, TT, ↓reduceIte, Nat.reduceEqDiff, Nat.reduceAdd, Nat.reduceMul, reduceCtorEq, Nat.reduceLeDiff]
          exact EndsZ.kbox (i := 1) (cells := eNds true s.nodes) (r0 := erA ⟨[], 105, x⟩) (by simp [hne.symm]) (.inr rfl) (by simp [ET, erA, aErr, slashB]) (by simp) rfl (by decide) (by simp [ET]) (by simp [ET]) (fun _ => al_Nds _) (ImpL.rfl' _) (fun _ => al_err _ _ _) (Imp.refl _)
        · have c6 : n.entries = [] := Classical.not_not.1 c5
          have c5' : ¬ (0 : Int) < (n.entries.length : Int) := by simp [c6]
          simp only [a1, a3, hd, Bool.not_false, Bool.not_true, w1, e1, e0, get_S hx, hlb, Int.toNat_natCast, TT, ↓reduceIte, Nat.reduceEqDiff, Nat.reduceAdd, Nat.reduceMul, reduceCtorEq, Nat.reduceLeDiff]
          rw [if_neg c5']
          refine ⟨_, spot_h fl s l 0 1 _ (by decide) (by omega) hok h1 (by omega) c0, ?_⟩
          cases hsp : spotF s l with
          | error er =>
            have e := er_ er (by rw [removeE, if_neg c0, hw]; simp only; rw [hA, hd, if_neg (by decide), if_neg (by decide), if_neg (by simp [c6]), hsp])
            rw [e]
            obtain ⟨t2, z2, ei2, hz2⟩ := err_ifc er.ops er.cd er.at_
            simp only [rowsM, rwsT, aSpot, aSpt, erA, ei2, TT, ↓reduceIte, Nat.reduceEqDiff, Nat.reduceAdd, Nat.reduceMul, reduceCtorEq, Nat.reduceLeDiff]
            exact EndsZ.kbox (i := 1) (cells := eNds true s.nodes) (r0 := .ifc t2 z2) (by simp [hne.symm]) (.inr rfl) (by simp [ET]) (by simp) rfl (by decide) (by simp [ET]) (by simp [ET]) (fun _ => al_Nds _) (ImpL.rfl' _) (fun _ => hz2 _) (by simp only [aOE, erA, ei2]; exact Imp.refl _)
          | ok q =>
            obtain ⟨hh, xx, kk⟩ := q
            have hre : removeE s l true = none := (by rw [removeE, if_neg c0, hw]; simp only; rw [hA, hd, if_neg (by decide), if_neg (by decide), if_neg (by simp [c6]), hsp])
            have e : removeF s l true = (dropF s hh xx kk, none) := by rw [removeF, hre]; simp only; rw [hsp]
            rw [e]
            simp only [rowsM, rwsT, aSpot, aSpt, TT, ↓reduceIte, Nat.reduceEqDiff, Nat.reduceAdd, Nat.reduceMul, reduceCtorEq, Nat.reduceLeDiff]
            refine ⟨_, hdrop hre hh xx kk hsp 0 1 _ (by decide) (by decide) (by decide), ?_⟩
            simp only [rowsM, rwsT, outW, outM, newM, Option.map_some, Option.map_none, List.cons_append, List.nil_append, List.append_nil, TT, ↓reduceIte, Nat.reduceEqDiff, Nat.reduceAdd, Nat.reduceMul, reduceCtorEq, Nat.reduceLeDiff]
            exact EndsZ.kbox (i := 5600002) (cells := eNds true (dropF s hh xx kk).nodes) (r0 := .v .nilIface) (by simp [hne.symm]) (.inr rfl) (by simp [ET]) (by simp) rfl (by decide) (by simp [ET]) (by simp [ET]) (fun _ => al_Nds _) (ImpL.rfl' _) (fun _ => trivial) (Imp.refl _)
end Go.Proofs.YtonglhkiobibgaaGreatDoor
namespace Go.Proofs.YtonglhkiobibgaaGreatDoor
open Go.RowKit
set_option maxRecDepth 100000
def fileF (s : FSt) (l : List ByteArray) : Except Er Int :=
  match walkF s 1 l with
  | .error (cd, x) => .error ⟨[], cd, x⟩
  | .ok t => if (nodA s t).dir = true then .error ⟨[], 104, slashB⟩ else .ok t
def aFile (s : FSt) (iN : Nat) : Except Er Int → AV
  | .error e => .tup [.v (.pointer none), erA e]
  | .ok t => .tup [.op iN (plc s.nodes t * 6), .v .nilIface]
set_option maxHeartbeats 2000000 in
theorem file_h (s : FSt) (l : List ByteArray) (fl : Bool) (iS iN nb : Nat) (hne : iS ≠ iN) (hS : iS < nb) (hN : iN < nb) (hl : s.nodes.length ≤ 1000) (h0 : s.nodes ≠ []) (hok : okE s) (h1 : hasN s.nodes 1) (hll : l.length ≤ 1000) :
    ASound Tryz.prog 75 [.op iS 0, fS fl l] nb (rowsM (rwsT iS iN s) (.ret (aFile s iN (fileF s l)) (outW (rwsT iS iN s) (outT iN s) ++ []))) := by
  refine ok_75.soundZ 2 (rwsT iS iN s) (outT iN s) (by simp) ⟨by simp [Al], al_S _, trivial⟩ (by simp [hne]) (hneT hne h0 hS hN) rfl (by simp) hkmT ?_
  simp only [ac_75, fS, ren_S, renL, ren, rowsIn, inZ, rnT0, rnT1 hne, ren_Nds, List.map_cons, List.map_nil, List.zipIdx_cons, List.zipIdx_nil, Nat.zero_add, List.length_cons, List.length_nil, TT, ↓reduceIte, Nat.reduceEqDiff, Nat.reduceAdd, Nat.reduceMul, reduceCtorEq, Nat.reduceLeDiff]
  refine ⟨_, walk_h fl s l 0 1 _ (by decide) (by omega) hok h1 (by omega), ?_⟩
  cases hw : walkF s 1 l with
  | error q =>
    obtain ⟨cd, xn⟩ := q
    have e : fileF s l = .error ⟨[], cd, xn⟩ := by rw [fileF, hw]
    rw [e]
    simp only [rowsM, rwsT, aWalk, aFlt, TT, ↓reduceIte, Nat.reduceEqDiff, Nat.reduceAdd, Nat.reduceMul, reduceCtorEq, Nat.reduceLeDiff]
    exact EndsZ.keep2 (c0 := [.os 1 0 s.nodes.length 6, .v (.int .i64 s.next)]) (c1 := eNds true s.nodes) (r0 := .tup [.v (.pointer none), erA ⟨[], cd, xn⟩]) (.inr rfl) (by simp [ET, erA, aErr]) (by simp [ET]) (by simp [ET]) ⟨.inr rfl, trivial, trivial⟩ (al_Nds _) (by simp [renL, ren, ρZ]) (ren_Nds _) ⟨trivial, al_err _ _ _, trivial⟩ (Imp.refl _)
  | ok t =>
    have ht := walkF_has hok h1 hw
    obtain ⟨n, hxn, hmem, _⟩ := hasN_get ht
    have hA : nodA s t = n := by rw [nodA, hxn]
    obtain ⟨a0, a1, a2, a3, a4, a5⟩ := get_Nds (fr := true) hxn
    have hnd := fun nb h8 h9 => node_h s t 0 1 nb (by decide) h8 h9 (by omega) h0 ht.1
    simp only [rowsM, rwsT, outW, outT, Option.map_some, List.append_nil] at hnd
    simp only [rowsM, rwsT, aWalk, TT, ↓reduceIte, Nat.reduceEqDiff, Nat.reduceAdd, Nat.reduceMul, reduceCtorEq, Nat.reduceLeDiff]
    refine ⟨_, hnd _ (by decide) (by decide), ?_⟩
    cases hd : n.dir
    · have e : fileF s l = .ok t := by rw [fileF, hw]; simp only; rw [hA, hd, if_neg (by decide)]
      rw [e]
      simp only [a1, hd, TT, ↓reduceIte, Nat.reduceEqDiff, Nat.reduceAdd, Nat.reduceMul, reduceCtorEq, Nat.reduceLeDiff]
      exact EndsZ.keep2 (c0 := [.os 1 0 s.nodes.length 6, .v (.int .i64 s.next)]) (c1 := eNds true s.nodes) (r0 := .tup [.op 1 (plc s.nodes t * 6), .v .nilIface]) (.inr rfl) (by simp [ET]) (by simp [ET]) (by simp [ET]) ⟨.inr rfl, trivial, trivial⟩ (al_Nds _) (by simp [renL, ren, ρZ]) (ren_Nds _) ⟨.inr rfl, trivial, trivial⟩ (by simp [ren, renL, ρZ]; exact Imp.refl _)
    · have e : fileF s l = .error ⟨[], 104, slashB⟩ := by rw [fileF, hw]; simp only; rw [hA, hd, if_pos rfl]
      rw [e]
      simp only [a1, hd, TT, ↓reduceIte, Nat.reduceEqDiff, Nat.reduceAdd, Nat.reduceMul, reduceCtorEq, Nat.reduceLeDiff]
      refine ⟨_, refuse_spec 104 slashB _ (by decide), ?_⟩
      simp only [aFlt, TT, ↓reduceIte, Nat.reduceEqDiff, Nat.reduceAdd, Nat.reduceMul, reduceCtorEq, Nat.reduceLeDiff]
      exact EndsZ.keep2 (c0 := [.os 1 0 s.nodes.length 6, .v (.int .i64 s.next)]) (c1 := eNds true s.nodes) (r0 := .tup [.v (.pointer none), erA ⟨[], 104, slashB⟩]) (.inr rfl) (by simp [ET, erA, aErr]) (by simp [ET]) (by simp [ET]) ⟨.inr rfl, trivial, trivial⟩ (al_Nds _) (by simp [renL, ren, ρZ]) (ren_Nds _) ⟨trivial, al_err _ _ _, trivial⟩ (Imp.refl _)
abbrev rwsV0 (iV iM : Nat) : List RW := [(iV, true, 275, [.v (.int .i64 0), .mp iM]), (iM, true, MAPE, [])]
def padB (d : List Int) : List Int := d ++ List.replicate (32 - d.length) 0
abbrev L_vw (fr : Bool) (d : List Int) : Nat → ASt
  | 0 => ⟨envOf [(0, .op 0 0), (1, .v (.int .i64 0)), (2, .fs fr (eB d) d.length)], heapOf [(0, .row true 275 [.v (.int .i64 d.length), .mp 1]), (1, .row true MAPE [])], 2⟩
  | _ + 1 => ⟨envOf [(0, .op 0 0), (1, .v (.int .i64 d.length)), (2, .fs fr [] 0)], heapOf [(0, .row true 275 [.v (.int .i64 d.length), .mp 1]), (1, .row true MAPE (encU [⟨0, padB d⟩]))], 2⟩
set_option maxHeartbeats 2000000 in
theorem vwrite0 (fr : Bool) (d : List Int) (h1 : 1 ≤ d.length) (h32 : d.length ≤ 32) (iV iM nb : Nat) (hne : iV ≠ iM) (hV : iV < nb) (hM : iM < nb) :
    ASound Tryz.prog 122 [.op iV 0, .v (.int .i64 0), fB fr d] nb (rowsM (rwsV0 iV iM) (.ret (.tup []) (outW (rwsV0 iV iM) [some [.v (.int .i64 d.length), .mp iM], some (encU [⟨0, padB d⟩])] ++ []))) := by
  have hr0 : rn [(iV, 0), (iM, 1)] iV = 0 := by simp [rn]
  have hr1 : rn [(iV, 0), (iM, 1)] iM = 1 := by simp [rn, hne]
  refine ok_122.soundZ 2 (rwsV0 iV iM) [some [.v (.int .i64 d.length), .mp iM], some (encU [⟨0, padB d⟩])] (by simp) ⟨by simp [Al], trivial, al_B _, trivial⟩ (by simp [hne]) (fun x hx => ?_) rfl (by simp) hkmT ?_
  · simp only [List.mem_cons, List.not_mem_nil, or_false] at hx
    rcases hx with rfl | rfl
    · exact ⟨.inl (by simp), ⟨trivial, by simp [Al], trivial⟩, hV⟩
    · exact ⟨.inr rfl, trivial, hM⟩
  have w1 : IntKind.i64.wrap (0 + (d.length : Int)) = (d.length : Int) := by rw [wrap64 (by omega)]; omega
  simp only [ac_122, fB, ren_B, renL, ren, rowsIn, inZ, hr0, hr1, w1, List.map_cons, List.map_nil, List.zipIdx_cons, List.zipIdx_nil, Nat.zero_add, List.length_cons, List.length_nil, TT, ↓reduceIte, Nat.reduceEqDiff, Nat.reduceAdd, Nat.reduceMul, reduceCtorEq, Nat.reduceLeDiff]
  have g0 : (0 : Int) < (d.length : Int) := by omega
  rw [if_pos g0]
  refine AWc.family (L_vw fr d) (fun i => i ≤ 1) (fun i => 1 - i) 0 (Nat.zero_le _) ?_ ?_
  · refine Weak.calc [(0, 0), (1, 1)] (by decide) ?_ ?_
    · simp [WT, al_B, ren_B]
    · simp [WT]
  · intro i hi
    rcases i with _ | i
    · have w0 : IntKind.i64.wrap 0 = 0 := wrap64 (x := 0) (by omega)
      have z32 : ((32 : Int) = 0) = False := eq_false (by decide)
      have hmin : Nat.min d.length 32 = d.length := Nat.min_eq_left h32
      simp only [L_vw, g0, z32, w0, Int.zero_tdiv, Int.zero_tmod, if_false, TT, ↓reduceIte, Nat.reduceEqDiff, Nat.reduceAdd, Nat.reduceMul, reduceCtorEq, Nat.reduceLeDiff]
      rw [if_pos (by decide)]
      refine ⟨by rfl, ?_⟩
      have hz : (List.replicate (Int.toNat 32) [AV.v (.int .u8 0)]).flatten = eB (List.replicate 32 0) := by rfl
      have hdr : List.drop d.length (eB d) = [] := by rw [List.drop_eq_nil_iff]; simp [eB]
      have htd : List.take d.length (eB d) = eB d := List.take_of_length_le (by simp [eB])
      have hset : setN (eB (List.replicate 32 0)) 0 (eB d) = eB (padB d) := by rw [setN_B (by simpa using h32), List.drop_replicate]; rfl
      rw [hz]
      have z2 : (0 : Int) ≤ 0 ∧ (0 : Int) ≤ ((32 : Nat) : Int) := by decide
      have z3 : (eB d).length = d.length * 1 := by simp [eB]
      have z4 : ((1 = 1 ∧ 0 < 32) ∧ 0 + 32 ≤ (eB (List.replicate 32 0)).length) := by simp [eB]
      simp only [show Int.toNat 32 = 32 from rfl, Int.toNat_zero, TT, ↓reduceIte, Nat.reduceEqDiff, Nat.reduceAdd, Nat.reduceMul, reduceCtorEq, Nat.reduceLeDiff]
      rw [if_pos z2]
      simp only [TT, ↓reduceIte, Nat.reduceEqDiff, Nat.reduceAdd, Nat.reduceMul, reduceCtorEq, Nat.reduceLeDiff]
      have hmin2 : Nat.min d.length (32 - 0) = d.length := hmin
      rw [if_pos (by simp [eB]), if_pos (by simp [eB])]
      simp only [hmin2, htd, hset]
      rw [if_pos ⟨by omega, by omega⟩]
      simp only [hdr, Nat.sub_self, List.take_nil, TT, ↓reduceIte, Nat.reduceEqDiff, Nat.reduceAdd, Nat.reduceMul, reduceCtorEq, Nat.reduceLeDiff]
      refine famC_next 1 (by omega) (by omega) ?_
      refine Weak.trans (Weak.freezeUC 2100002 (y := true) (e := 5) (cells := eB (padB d)) (by simp [ET]) (l := [(0, .op 0 0), (1, .v (.int .i64 d.length)), (2, .fs fr [] 0)]) (h := [(0, .row true 275 [.v (.int .i64 d.length), .mp 1]), (1, .row true MAPE (encU [⟨0, padB d⟩]))]) ?_ ?_) (Weak.calc [(0, 0), (1, 1)] (by decide) ?_ ?_)
      · simp [okFU, fzVU, fzOneU, ET, w1, wrap64 (x := (d.length : Int)) (by omega)]
      · have hpl : (padB d).length = 32 := by simp [padB]; omega
        have htp : List.take (32 * 1) (eB (padB d)) = eB (padB d) := List.take_of_length_le (by simp [eB, hpl])
        refine ⟨⟨by decide, ?_⟩, ⟨by decide, ?_⟩, trivial⟩
        · simp [rowFzU, ET]
        · simp only [rowFzU, ET]
          refine ⟨⟨rfl, rfl⟩, .inr (.inr ⟨1, 32, 1, rfl, ?_⟩)⟩
          rw [htp]
          simp [encU, eU, hpl]
      · simp [WT]
      · simp [WT, al_U, ren_U]
    · have n0 : ¬ (0 : Int) < ((0 : Nat) : Int) := by decide
      simp only [L_vw, TT, ↓reduceIte, Nat.reduceEqDiff, Nat.reduceAdd, Nat.reduceMul, reduceCtorEq, Nat.reduceLeDiff]
      rw [if_neg n0]
      exact EndsZ.keep2 (c0 := [.v (.int .i64 d.length), .mp 1]) (c1 := encU [⟨0, padB d⟩]) (r0 := .tup []) (.inl rfl) (by simp [ET]) (by simp [ET]) (by simp [ET]) ⟨trivial, .inr rfl, trivial⟩ (al_U _) (by simp [renL, ren, ρZ]) (ren_U _) trivial (Imp.refl _)
end Go.Proofs.YtonglhkiobibgaaGreatDoor
namespace Go.Proofs.YtonglhkiobibgaaGreatDoor
open Go.RowKit
set_option maxRecDepth 100000
theorem span0 (n : Int) (h1 : 1 ≤ n) (h2 : n ≤ 2432) : ∃ a b : Int, ∀ nb, ASound Tryz.prog 121 [.v (.int .i64 0), .v (.int .i64 n)] nb (.ret (.tup [.v (.int .i64 a), .v (.int .i64 b), .v (.int .i64 0)]) []) := by
  refine ⟨0, nBl n, fun nb => ?_⟩
  refine ok_121.sound (by simp) ⟨trivial, trivial, trivial⟩ ?_
  have w0 : IntKind.i64.wrap 0 = 0 := wrap64 (x := 0) (by omega)
  have w1 : IntKind.i64.wrap (2432 - 0) = 2432 := wrap64 (x := 2432) (by omega)
  have w2 : IntKind.i64.wrap (0 + n) = n := by rw [wrap64 (by omega)]; omega
  have z32 : ((32 : Int) = 0) = False := eq_false (by decide)
  have c1 : (n < 0) = False := eq_false (by omega)
  have c2 : ((0 : Int) < 0) = False := eq_false (by omega)
  have c3 : (2432 < (0 : Int)) = False := eq_false (by omega)
  have c4 : (2432 < n) = False := eq_false (by omega)
  have c5 : (n = 0) = False := eq_false (by omega)
  have hn : 0 ≤ nBl n ∧ nBl n ≤ 76 := ⟨(upE_bd (by omega) (by omega)).1, by unfold nBl upE; omega⟩
  have w3 : IntKind.i64.wrap (nBl n - 0) = nBl n := by rw [wrap64 (by omega)]; omega
  simp only [ac_121, w0, w1, w2, z32, c1, c2, c3, c4, c5, decide_false, if_false, Int.zero_tdiv, TT, ↓reduceIte, Nat.reduceEqDiff, Nat.reduceAdd, Nat.reduceMul, reduceCtorEq, Nat.reduceLeDiff]
  refine ⟨_, up_spec n 32 _ (by omega) (by omega) (by omega) (by omega), ?_⟩
  have hnd : upE n 32 = nBl n := rfl
  rw [hnd]
  simp only [w3, TT, ↓reduceIte, Nat.reduceEqDiff, Nat.reduceAdd, Nat.reduceMul, reduceCtorEq, Nat.reduceLeDiff]
  exact Ends.data (.inr rfl) (by simp [ET]) ⟨trivial, trivial, trivial, trivial⟩
set_option maxHeartbeats 2000000 in
theorem fwrite0 (fr f2 : Bool) (d : List Int) (nb : Nat) (h1 : 1 ≤ d.length) (h32 : d.length ≤ 32) (hz : zrB (padB d) = false) :
    ASound Tryz.prog 76 [aFl fr ⟨0, []⟩, .v (.int .i64 0), fB f2 d] nb (.ret (.tup [aFl true ⟨d.length, [⟨0, padB d⟩]⟩, .v (.int .i64 0)]) []) := by
  refine ok_76.sound (by simp) ⟨al_aFl _, trivial, al_fB d, trivial⟩ ?_
  have hc : chkFl ⟨0, []⟩ = 0 := by decide
  have hck := fun nb => fchk_spec fr ⟨0, []⟩ nb (by simp)
  have hlk := fun nb => look_spec fr ⟨0, []⟩ nb hc
  have hpl : (padB d).length = 32 := by simp [padB]; omega
  have c2 : ((0 : Int) < 0) = False := eq_false (by omega)
  have c5 : ((d.length : Int) = 0) = False := eq_false (by omega)
  have e0 : eBks fr [] = [] := rfl
  have e1 : encU [] = [] := rfl
  simp only [aFl, fBks, hc, e0, e1, List.length_nil] at hck hlk
  simp only [ac_76, aFl, fBks, fB, e0, List.length_nil, TT, ↓reduceIte, Nat.reduceEqDiff, Nat.reduceAdd, Nat.reduceMul, reduceCtorEq, Nat.reduceLeDiff]
  refine ⟨_, hck _, ?_⟩
  simp only [TT, ↓reduceIte, Nat.reduceEqDiff, Nat.reduceAdd, Nat.reduceMul, reduceCtorEq, Nat.reduceLeDiff]
  refine ⟨_, hlk _, ?_⟩
  simp only [c2, c5, decide_false, TT, ↓reduceIte, Nat.reduceEqDiff, Nat.reduceAdd, Nat.reduceMul, reduceCtorEq, Nat.reduceLeDiff]
  obtain ⟨a, b, hsp⟩ := span0 d.length (by omega) (by omega)
  refine ⟨_, hsp _, ?_⟩
  simp only [TT, ↓reduceIte, Nat.reduceEqDiff, Nat.reduceAdd, Nat.reduceMul, reduceCtorEq, Nat.reduceLeDiff]
  have hvw := fun nb h8 h9 => vwrite0 f2 d h1 h32 900000 900001 nb (by decide) h8 h9
  simp only [rowsM, outW, rwsV0, fB, List.append_nil, Option.map_some] at hvw
  refine ⟨_, hvw _ (by decide) (by decide), ?_⟩
  simp only [TT, ↓reduceIte, Nat.reduceEqDiff, Nat.reduceAdd, Nat.reduceMul, reduceCtorEq, Nat.reduceLeDiff]
  have hfi := fun nb h8 h9 => file_spec (d.length : Int) [⟨0, padB d⟩] [⟨0, padB d⟩] (by simp [hz]) (by simp) (by simp) (by simp [hpl]) (by simp) 900000 900001 nb true true (by decide) h8 h9
  simp only [rowsM, outW, rwsF, List.append_nil, Option.map_some, aFl, fBks] at hfi
  refine ⟨_, hfi _ (by decide) (by decide), ?_⟩
  simp only [TT, ↓reduceIte, Nat.reduceEqDiff, Nat.reduceAdd, Nat.reduceMul, reduceCtorEq, Nat.reduceLeDiff]
  exact Ends.data (.inr rfl) (by simp [ET]) ⟨⟨trivial, al_Bks _, trivial⟩, trivial, trivial⟩
end Go.Proofs.YtonglhkiobibgaaGreatDoor
namespace Go.Proofs.YtonglhkiobibgaaGreatDoor
open Go.RowKit
set_option maxRecDepth 100000
def eNm (ls : List (List ByteArray)) : List AV := ls.map fun l => fS true l
theorem al_Nm {p : Nat → Prop} (ls : List (List ByteArray)) : AlL p (eNm ls) := AlL_map (e := fun l => fS true l) (fun l => al_S l) ls
theorem ren_Nm {ρ : Nat → Nat} (ls : List (List ByteArray)) : renL ρ (eNm ls) = eNm ls := renL_id (p := fun _ => False) (fun _ h => h.elim) (al_Nm ls)
theorem len_Nm (ls : List (List ByteArray)) : (eNm ls).length = ls.length := by simp [eNm]
abbrev rwsD (iS iN iL : Nat) (s : FSt) (ls : List (List ByteArray)) : List RW := [(iS, true, 28, [.os iN 0 s.nodes.length 6, .v (.int .i64 s.next)]), (iN, true, 118, eNds true s.nodes), (iL, true, 45, eNm ls)]
abbrev outD (nb : Nat) (s : FSt) : List (Option (List AV)) := [some [.os nb 0 s.nodes.length 6, .v (.int .i64 s.next)], none, none]
/-- what a change does to a state that is held -/
def DoOk (f : FuncId) (caps : List AV) (s : FSt) (ls : List (List ByteArray)) (r : FSt × Option Er) : Prop :=
  ∀ iS iN iL nb : Nat, iS ≠ iN → iS ≠ iL → iN ≠ iL → iS < nb → iN < nb → iL < nb →
    ASound Tryz.prog f ([.op iS 0, .os iL 0 ls.length 1] ++ caps) nb (rowsM (rwsD iS iN iL s ls) (.ret (aOE r.2) (outW (rwsD iS iN iL s ls) (outD nb r.1) ++ newM nb r.1)))
def CodeOk (e : Er) : Prop := ∀ nb, ASound Tryz.prog 79 [erA e] nb (.ret (.v (.int .i64 e.cd)) [])
theorem code0 (cd : Int) (a : ByteArray) : CodeOk ⟨[], cd, a⟩ := fun nb => fcode_spec true cd a nb
def splitsE : List ByteArray → Int
  | [] => 0
  | p :: r => if (splitP p).2 ≠ 0 then (splitP p).2 else splitsE r
def splitsL (ps : List ByteArray) : List (List ByteArray) := ps.map fun p => (splitP p).1
def zeroS : FSt := ⟨[], 0⟩
def chgF (s : FSt) (ps : List ByteArray) (do_ : FSt × Option Er) : FSt × Int :=
  if chkFs s ≠ 0 then (zeroS, chkFs s) else if splitsE ps ≠ 0 then (zeroS, splitsE ps) else
  match do_ with
  | (_, some e) => (zeroS, e.cd)
  | (t, none) => (t, 0)
theorem chkFs_all {s : FSt} (h : chkFs s = 0) : s.nodes ≠ [] ∧ s.nodes.length ≤ 128 ∧ 2 ≤ s.next ∧ s.next ≤ 2147483647 ∧ okE s ∧ hasN s.nodes 1 ∧ (∀ n ∈ s.nodes, n.entries.length ≤ 63 ∧ chkD n.entries = 0 ∧ chkFl n.file = 0) := by
  obtain ⟨h1, h2, h3, h4, h5⟩ := chk_parts h
  unfold badH at h1
  have hn : ∀ n ∈ s.nodes, n.entries.length ≤ 63 ∧ chkD n.entries = 0 ∧ chkFl n.file = 0 := fun n hn => by
    obtain ⟨k1, k2, _⟩ := mayN_ok (h3 n hn)
    refine ⟨?_, k1, k2⟩
    unfold chkD at k1
    split at k1
    · cases k1
    · omega
  obtain ⟨g1, g2⟩ := chk_ok h (fun n hm => by have := (hn n hm).1; omega)
  refine ⟨fun e => h1 (.inr (.inr (.inl (by simp [e])))), by omega, by omega, by omega, g1, g2, hn⟩
theorem imp_zeroS (c : Int) : Imp (.tup [.agg [.v (.slice none 0 0), .v (.int .i64 0)], .v (.int .i64 c)]) (.tup [aFs true zeroS, .v (.int .i64 c)]) :=
  Imp.tupL ⟨Imp.aggL ⟨Imp.nil true, Imp.refl _, trivial⟩, Imp.refl _, trivial⟩
abbrev L_ch (g : FuncId) (caps : List AV) (fr f2 : Bool) (s : FSt) (ps : List ByteArray) (i : Nat) : ASt := ⟨envOf [(2, .fn g caps), (3, .op 0 0), (6, .op 1 0), (9, .os 2 0 i 1), (22, fS f2 ps), (23, .v (.int .i64 ps.length)), (24, .v (.int .i64 i))],
  heapOf [(0, .row true 28 [fNds fr s.nodes, .v (.int .i64 s.next)]), (1, .row true 28 [.v (.slice none 0 0), .v (.int .i64 0)]), (2, .row true 45 (eNm (splitsL (ps.take i))))], 3⟩
set_option maxHeartbeats 2000000 in
theorem change_spec (g : FuncId) (caps : List AV) (hcaps : ∀ p, AlL p caps) (fr f2 : Bool) (s : FSt) (ps : List ByteArray) (r : FSt × Option Er) (nb : Nat) (hs : okFs s) (hps : ps.length ≤ 1000) (hp0 : ps ≠ [])
    (hdo : chkFs s = 0 → splitsE ps = 0 → DoOk g caps s (splitsL ps) r) (hcd : ∀ e, r.2 = some e → CodeOk e) :
    ASound Tryz.prog 59 [aFs fr s, fS f2 ps, .fn g caps] nb (.ret (.tup [aFs true (chgF s ps r).1, .v (.int .i64 (chgF s ps r).2)]) []) := by
  refine ok_59.sound (by simp) ⟨al_aFs s, al_fS ps, hcaps _, trivial⟩ ?_
  have hck := fun nb => fsCheck_spec fr s nb hs.1 hs.2
  simp only [aFs, fNds] at hck
  simp only [ac_59, aFs, fNds, TT, ↓reduceIte, Nat.reduceEqDiff, Nat.reduceAdd, Nat.reduceMul, reduceCtorEq, Nat.reduceLeDiff]
  refine ⟨_, hck _, ?_⟩
  by_cases c1 : ¬ chkFs s = 0
  · have e : chgF s ps r = (zeroS, chkFs s) := by unfold chgF; exact if_pos c1
    simp only [c1, e, decide_false, Bool.not_false, TT, ↓reduceIte, Nat.reduceEqDiff, Nat.reduceAdd, Nat.reduceMul, reduceCtorEq, Nat.reduceLeDiff]
    exact Ends.imp (r0 := .tup [.agg [.v (.slice none 0 0), .v (.int .i64 0)], .v (.int .i64 (chkFs s))]) (.inr rfl) (by simp [ET]) ⟨⟨trivial, trivial, trivial⟩, trivial, trivial⟩ (imp_zeroS _)
  replace c1 : chkFs s = 0 := Decidable.not_not.1 c1
  obtain ⟨n0, n128, nx2, nxm, hok, h1, hnd⟩ := chkFs_all c1
  obtain ⟨t, oe⟩ := r
  simp only [c1, decide_true, Bool.not_true, fS, TT, ↓reduceIte, Nat.reduceEqDiff, Nat.reduceAdd, Nat.reduceMul, reduceCtorEq, Nat.reduceLeDiff]
  have hren : ∀ ρ, renL ρ caps = caps := fun ρ => renL_id (p := fun _ => False) (fun _ h => h.elim) (hcaps _)
  refine AWc.family (L_ch g caps fr f2 s ps) (fun i => i ≤ ps.length ∧ splitsE ps = splitsE (ps.drop i)) (fun i => ps.length - i) 0 ⟨Nat.zero_le _, by rw [List.drop_zero]⟩ ?_ ?_
  · refine Weak.trans (Weak.virtC 45 1 (l := [(2, .fn g caps), (3, .op 0 0), (6, .op 100000 0), (9, .os 1200000 0 0 1), (22, .fs f2 (eS ps) ps.length), (23, .v (.int .i64 ps.length)), (24, .v (.int .i64 0))]) (h := [(0, .row true 28 [.fs fr (eNds fr s.nodes) s.nodes.length, .v (.int .i64 s.next)]), (100000, .row true 28 [.v (.slice none 0 0), .v (.int .i64 0)])]) ?_ ?_) (Weak.calc [(0, 0), (100000, 1), (1200000, 2)] (by decide) ?_ ?_)
    · simp [WT]
    · simp [WT]
    · simp [WT, fS, al_S, ren_S, hcaps, hren, Al, ren]
    · simp [WT, fNds, al_Nds, ren_Nds, splitsL, eNm]
  · rintro i ⟨hi, hsp⟩
    by_cases hlt : i < ps.length
    · obtain ⟨p, hx, e1, e0⟩ := lt_at hlt
      have hS := fun nb => split_spec p nb
      simp only [fS] at hS
      simp only [L_ch, fNds, fS, e1, e0, get_S hx, Int.toNat_natCast, TT, ↓reduceIte, Nat.reduceEqDiff, Nat.reduceAdd, Nat.reduceMul, reduceCtorEq, Nat.reduceLeDiff]
      refine ⟨_, hS _, ?_⟩
      have hdr : splitsE (ps.drop i) = if (splitP p).2 ≠ 0 then (splitP p).2 else splitsE (ps.drop (i + 1)) := by
        have hi2 := (List.getElem?_eq_some_iff.1 hx)
        rw [List.drop_eq_getElem_cons hi2.1, hi2.2]; rfl
      by_cases c2 : ¬ (splitP p).2 = 0
      · have e2 : splitsE ps = (splitP p).2 := by rw [hsp, hdr, if_pos c2]
        have e : chgF s ps (t, oe) = (zeroS, (splitP p).2) := by unfold chgF; rw [if_neg (by simp [c1]), if_pos (by rw [e2]; exact c2), e2]
        simp only [c2, e, decide_false, Bool.not_false, TT, ↓reduceIte, Nat.reduceEqDiff, Nat.reduceAdd, Nat.reduceMul, reduceCtorEq, Nat.reduceLeDiff]
        exact Ends.imp (r0 := .tup [.agg [.v (.slice none 0 0), .v (.int .i64 0)], .v (.int .i64 (splitP p).2)]) (.inr rfl) (by simp [ET]) ⟨⟨trivial, trivial, trivial⟩, trivial, trivial⟩ (imp_zeroS _)
      · replace c2 : (splitP p).2 = 0 := Decidable.not_not.1 c2
        rw [if_neg (by simp [c2])] at hdr
        have hs1 : splitsL (ps.take (i + 1)) = splitsL (ps.take i) ++ [(splitP p).1] := by simp [splitsL, take_snoc hx]
        have hs2 : eNm (splitsL (ps.take (i + 1))) = eNm (splitsL (ps.take i)) ++ [.fs true (eS (splitP p).1) (splitP p).1.length] := by rw [hs1]; simp [eNm, fS]
        simp only [c2, decide_true, Bool.not_true, TT, ↓reduceIte, Nat.reduceEqDiff, Nat.reduceAdd, Nat.reduceMul, reduceCtorEq, Nat.reduceLeDiff]
        rw [if_pos ⟨by rw [len_Nm]; simp [splitsL]; omega, by omega⟩]
        refine famC_next (i + 1) (by omega) ⟨by omega, by rw [hsp, hdr]⟩ ?_
        refine Weak.calc [(0, 0), (1, 1), (1600003, 2)] (by decide) ?_ ?_
        · simp [WT, fS, al_S, ren_S, hcaps, hren, Al, ren, wrap64 (x := (i : Int) + 1) (by omega)]
        · simp [WT, fNds, al_Nds, ren_Nds, hs2, AlL_append, renL_append, al_Nm, ren_Nm, al_S, ren_S]
    · obtain rfl : i = ps.length := by omega
      have e1 : ¬ ((ps.length : Int) < (ps.length : Int)) := by omega
      have hall : splitsE ps = 0 := by rw [hsp, List.drop_length]; rfl
      have hc := fun nb => clone_spec fr s nb n0 (by omega) (fun n hm => by obtain ⟨k1, _, k3⟩ := hnd n hm; exact ⟨by omega, k3⟩)
      simp only [aFs, fNds] at hc
      simp only [L_ch, fNds, fS, e1, List.take_length, TT, ↓reduceIte, Nat.reduceEqDiff, Nat.reduceAdd, Nat.reduceMul, reduceCtorEq, Nat.reduceLeDiff]
      refine ⟨_, hc _, ?_⟩
      simp only [TT, ↓reduceIte, Nat.reduceEqDiff, Nat.reduceAdd, Nat.reduceMul, reduceCtorEq, Nat.reduceLeDiff]
      have hlen : (splitsL ps).length = ps.length := by simp [splitsL]
      have hd := fun nb h7 h8 h9 => hdo c1 hall 200003 200004 2 nb (by decide) (by decide) (by decide) h7 h8 h9
      rw [hlen] at hd
      refine ⟨_, _, _, rfl, hd _ (by decide) (by decide) (by decide), ?_⟩
      simp only [rowsM, outW, rwsD, List.append_nil, Option.map_some, Option.map_none, List.cons_append, List.nil_append, TT, ↓reduceIte, Nat.reduceEqDiff, Nat.reduceAdd, Nat.reduceMul, reduceCtorEq, Nat.reduceLeDiff]
      cases oe with
      | some er =>
        have e : chgF s ps (t, some er) = (zeroS, er.cd) := by unfold chgF; rw [if_neg (by simp [c1]), if_neg (by simp [hall])]
        obtain ⟨tt, x, ei, hxx⟩ := err_ifc er.ops er.cd er.at_
        have hco := hcd er rfl
        unfold CodeOk at hco
        simp only [erA, ei] at hco
        simp only [aOE, erA, ei, e, TT, ↓reduceIte, Nat.reduceEqDiff, Nat.reduceAdd, Nat.reduceMul, reduceCtorEq, Nat.reduceLeDiff]
        refine ⟨_, hco _, ?_⟩
        simp only [TT, ↓reduceIte, Nat.reduceEqDiff, Nat.reduceAdd, Nat.reduceMul, reduceCtorEq, Nat.reduceLeDiff]
        exact Ends.imp (r0 := .tup [.agg [.v (.slice none 0 0), .v (.int .i64 0)], .v (.int .i64 er.cd)]) (.inr rfl) (by simp [ET]) ⟨⟨trivial, trivial, trivial⟩, trivial, trivial⟩ (imp_zeroS _)
      | none =>
        have e : chgF s ps (t, none) = (t, 0) := by unfold chgF; rw [if_neg (by simp [c1]), if_neg (by simp [hall])]
        simp only [aOE, e, TT, ↓reduceIte, Nat.reduceEqDiff, Nat.reduceAdd, Nat.reduceMul, reduceCtorEq, Nat.reduceLeDiff]
        refine Ends.weak (Weak.freezeC 700003 (y := true) (e := 118) (cells := eNds true t.nodes) (by simp [ET]) (l := [(6, .op 1 0), (7, .v (.int .i64 0))]) (h := [(1, .row true 28 [.fs true (eNds true t.nodes) t.nodes.length, .v (.int .i64 t.next)])]) ?_ ?_) (Ends.data (.inr rfl) (by simp [ET]) ⟨⟨al_Nds _, trivial, trivial⟩, trivial, trivial⟩)
        · simp [okF, fzV, fzOne, ET]
        · refine ⟨⟨by decide, ?_⟩, trivial⟩
          simp only [rowFz, ET]
          exact ⟨⟨rfl, rfl⟩, .inr (.inr ⟨0, t.nodes.length, 6, rfl, by rw [tk_Nds]; rfl⟩)⟩
end Go.Proofs.YtonglhkiobibgaaGreatDoor
namespace Go.Proofs.YtonglhkiobibgaaGreatDoor
open Go.RowKit
set_option maxRecDepth 100000
section
variable {iS iN iL : Nat}
theorem rnD0 : rn [(iS, 0), (iN, 1), (iL, 2)] iS = 0 := by simp [rn]
theorem rnD1 (hne : iS ≠ iN) : rn [(iS, 0), (iN, 1), (iL, 2)] iN = 1 := by simp [rn, hne]
theorem rnD2 (h1 : iS ≠ iL) (h2 : iN ≠ iL) : rn [(iS, 0), (iN, 1), (iL, 2)] iL = 2 := by simp [rn, h1, h2]
theorem hneD {s : FSt} {ls : List (List ByteArray)} {nb : Nat} (h0 : s.nodes ≠ []) (h1 : ls ≠ []) (hS : iS < nb) (hN : iN < nb) (hL : iL < nb) : ∀ x ∈ rwsD iS iN iL s ls, (x.2.2.2 ≠ [] ∨ x.2.2.1 = MAPE) ∧ AlL (fun i => i ∈ (rwsD iS iN iL s ls).map (·.1)) x.2.2.2 ∧ x.1 < nb := fun x hx => by
  simp only [List.mem_cons, List.not_mem_nil, or_false] at hx
  rcases hx with rfl | rfl | rfl
  · exact ⟨.inl (by simp), ⟨by simp [Al], trivial, trivial⟩, hS⟩
  · refine ⟨.inl (fun e => h0 ?_), al_Nds _, hN⟩
    have := len_Nds (fr := true) s.nodes
    rw [show eNds true s.nodes = [] from e] at this
    simp only [List.length_nil] at this
    exact List.eq_nil_of_length_eq_zero (by omega)
  · exact ⟨.inl (by simpa [eNm] using h1), al_Nm _, hL⟩
theorem hkmD {a : List AV} : ∀ (k : Nat) cl, ([some a, none, none] : List (Option (List AV)))[k]? = some (some cl) → k < 1 := fun k cl hk => by
  rcases k with _ | _ | _ | k <;> simp at hk
  decide
end
theorem al_OE {p : Nat → Prop} (o : Option Er) : Al p (aOE o) := by
  cases o with
  | none => trivial
  | some e => exact al_err _ _ _
set_option maxHeartbeats 1000000 in
theorem do_create (s : FSt) (l : List ByteArray) (hl : s.nodes.length ≤ 1000) (h0 : s.nodes ≠ []) (hok : okE s) (h1 : hasN s.nodes 1) (hll : l.length ≤ 1000)
    (hadd : ∀ h x k, spotF s l = .ok (h, x, k) → k = 0 → ∀ nb, ASound Tryz.prog 173 [fEnts true (nodA s h).entries, aEnt ⟨x, s.next⟩] nb (.ret (.tup [fEnts true (addE (nodA s h).entries ⟨x, s.next⟩).1, .v (.int .i64 (addE (nodA s h).entries ⟨x, s.next⟩).2)]) []))
    (hnx : 0 ≤ s.next ∧ s.next ≤ 2147483647) : DoOk 60 [] s [l] (makeF s l false) := by
  intro iS iN iL nb n1 n2 n3 hS hN hL
  have hmk := fun nb h8 h9 => make_h s l false true 0 1 nb (by decide) h8 h9 hl h0 hok h1 hll hadd hnx
  simp only [rowsM, outW, rwsT, outM, newM, fS, Option.map_some, Option.map_none, List.cons_append, List.nil_append, List.append_nil] at hmk
  refine ok_60.soundZ 1 (rwsD iS iN iL s [l]) (outD nb (makeF s l false).1) (by simp) ⟨by simp [Al], by simp [Al], trivial⟩ (by simp [n1, n2, n3]) (hneD h0 (by simp) hS hN hL) rfl (by simp) hkmD ?_
  simp only [ac_60, eNm, fS, ren_S, renL, ren, rowsIn, inZ, rnD0, rnD1 n1, rnD2 n2 n3, ren_Nds, List.map_cons, List.map_nil, List.zipIdx_cons, List.zipIdx_nil, Nat.zero_add, List.length_cons, List.length_nil, List.cons_append, List.nil_append, List.append_nil, TT, ↓reduceIte, Nat.reduceEqDiff, Nat.reduceAdd, Nat.reduceMul, reduceCtorEq, Nat.reduceLeDiff]
  rw [if_pos (by decide)]
  simp only [Int.toNat_zero, List.getElem?_cons_zero, TT, ↓reduceIte, Nat.reduceEqDiff, Nat.reduceAdd, Nat.reduceMul, reduceCtorEq, Nat.reduceLeDiff]
  refine ⟨_, hmk _ (by decide) (by decide), ?_⟩
  simp only [TT, ↓reduceIte, Nat.reduceEqDiff, Nat.reduceAdd, Nat.reduceMul, reduceCtorEq, Nat.reduceLeDiff]
  exact EndsZ.kbox (i := 500003) (cells := eNds true (makeF s l false).1.nodes) (r0 := aOE (makeF s l false).2) (by simp [n1.symm, n2.symm]) (.inr rfl) (by simp [ET]) (by simp) rfl (by decide) (by simp [ET]) (by simp [ET]) (fun _ => al_Nds _) (ImpL.rfl' _) (fun _ => al_OE _) (Imp.refl _)
set_option maxHeartbeats 1000000 in
theorem do_mkdir (s : FSt) (l : List ByteArray) (hl : s.nodes.length ≤ 1000) (h0 : s.nodes ≠ []) (hok : okE s) (h1 : hasN s.nodes 1) (hll : l.length ≤ 1000)
    (hadd : ∀ h x k, spotF s l = .ok (h, x, k) → k = 0 → ∀ nb, ASound Tryz.prog 173 [fEnts true (nodA s h).entries, aEnt ⟨x, s.next⟩] nb (.ret (.tup [fEnts true (addE (nodA s h).entries ⟨x, s.next⟩).1, .v (.int .i64 (addE (nodA s h).entries ⟨x, s.next⟩).2)]) []))
    (hnx : 0 ≤ s.next ∧ s.next ≤ 2147483647) : DoOk 64 [] s [l] (makeF s l true) := by
  intro iS iN iL nb n1 n2 n3 hS hN hL
  have hmk := fun nb h8 h9 => make_h s l true true 0 1 nb (by decide) h8 h9 hl h0 hok h1 hll hadd hnx
  simp only [rowsM, outW, rwsT, outM, newM, fS, Option.map_some, Option.map_none, List.cons_append, List.nil_append, List.append_nil] at hmk
  refine ok_64.soundZ 1 (rwsD iS iN iL s [l]) (outD nb (makeF s l true).1) (by simp) ⟨by simp [Al], by simp [Al], trivial⟩ (by simp [n1, n2, n3]) (hneD h0 (by simp) hS hN hL) rfl (by simp) hkmD ?_
  simp only [ac_64, eNm, fS, ren_S, renL, ren, rowsIn, inZ, rnD0, rnD1 n1, rnD2 n2 n3, ren_Nds, List.map_cons, List.map_nil, List.zipIdx_cons, List.zipIdx_nil, Nat.zero_add, List.length_cons, List.length_nil, List.cons_append, List.nil_append, List.append_nil, TT, ↓reduceIte, Nat.reduceEqDiff, Nat.reduceAdd, Nat.reduceMul, reduceCtorEq, Nat.reduceLeDiff]
  rw [if_pos (by decide)]
  simp only [Int.toNat_zero, List.getElem?_cons_zero, TT, ↓reduceIte, Nat.reduceEqDiff, Nat.reduceAdd, Nat.reduceMul, reduceCtorEq, Nat.reduceLeDiff]
  refine ⟨_, hmk _ (by decide) (by decide), ?_⟩
  simp only [TT, ↓reduceIte, Nat.reduceEqDiff, Nat.reduceAdd, Nat.reduceMul, reduceCtorEq, Nat.reduceLeDiff]
  exact EndsZ.kbox (i := 500003) (cells := eNds true (makeF s l true).1.nodes) (r0 := aOE (makeF s l true).2) (by simp [n1.symm, n2.symm]) (.inr rfl) (by simp [ET]) (by simp) rfl (by decide) (by simp [ET]) (by simp [ET]) (fun _ => al_Nds _) (ImpL.rfl' _) (fun _ => al_OE _) (Imp.refl _)
set_option maxHeartbeats 1000000 in
theorem do_unlink (s : FSt) (l : List ByteArray) (hl : s.nodes.length ≤ 1000) (h0 : s.nodes ≠ []) (hok : okE s) (h1 : hasN s.nodes 1) (hll : l.length ≤ 1000)
    (hdrop : removeE s l false = none → ∀ h x k, spotF s l = .ok (h, x, k) → DropOk s h x k) : DoOk 65 [] s [l] (removeF s l false) := by
  intro iS iN iL nb n1 n2 n3 hS hN hL
  have hmk := fun nb h8 h9 => remove_h s l false true 0 1 nb (by decide) h8 h9 hl h0 hok h1 hll hdrop
  simp only [rowsM, outW, rwsT, outM, newM, fS, Option.map_some, Option.map_none, List.cons_append, List.nil_append, List.append_nil] at hmk
  refine ok_65.soundZ 1 (rwsD iS iN iL s [l]) (outD nb (removeF s l false).1) (by simp) ⟨by simp [Al], by simp [Al], trivial⟩ (by simp [n1, n2, n3]) (hneD h0 (by simp) hS hN hL) rfl (by simp) hkmD ?_
  simp only [ac_65, eNm, fS, ren_S, renL, ren, rowsIn, inZ, rnD0, rnD1 n1, rnD2 n2 n3, ren_Nds, List.map_cons, List.map_nil, List.zipIdx_cons, List.zipIdx_nil, Nat.zero_add, List.length_cons, List.length_nil, List.cons_append, List.nil_append, List.append_nil, TT, ↓reduceIte, Nat.reduceEqDiff, Nat.reduceAdd, Nat.reduceMul, reduceCtorEq, Nat.reduceLeDiff]
  rw [if_pos (by decide)]
  simp only [Int.toNat_zero, List.getElem?_cons_zero, TT, ↓reduceIte, Nat.reduceEqDiff, Nat.reduceAdd, Nat.reduceMul, reduceCtorEq, Nat.reduceLeDiff]
  refine ⟨_, hmk _ (by decide) (by decide), ?_⟩
  simp only [TT, ↓reduceIte, Nat.reduceEqDiff, Nat.reduceAdd, Nat.reduceMul, reduceCtorEq, Nat.reduceLeDiff]
  exact EndsZ.kbox (i := 500003) (cells := eNds true (removeF s l false).1.nodes) (r0 := aOE (removeF s l false).2) (by simp [n1.symm, n2.symm]) (.inr rfl) (by simp [ET]) (by simp) rfl (by decide) (by simp [ET]) (by simp [ET]) (fun _ => al_Nds _) (ImpL.rfl' _) (fun _ => al_OE _) (Imp.refl _)
set_option maxHeartbeats 1000000 in
theorem do_rmdir (s : FSt) (l : List ByteArray) (hl : s.nodes.length ≤ 1000) (h0 : s.nodes ≠ []) (hok : okE s) (h1 : hasN s.nodes 1) (hll : l.length ≤ 1000)
    (hdrop : removeE s l true = none → ∀ h x k, spotF s l = .ok (h, x, k) → DropOk s h x k) : DoOk 67 [] s [l] (removeF s l true) := by
  intro iS iN iL nb n1 n2 n3 hS hN hL
  have hmk := fun nb h8 h9 => remove_h s l true true 0 1 nb (by decide) h8 h9 hl h0 hok h1 hll hdrop
  simp only [rowsM, outW, rwsT, outM, newM, fS, Option.map_some, Option.map_none, List.cons_append, List.nil_append, List.append_nil] at hmk
  refine ok_67.soundZ 1 (rwsD iS iN iL s [l]) (outD nb (removeF s l true).1) (by simp) ⟨by simp [Al], by simp [Al], trivial⟩ (by simp [n1, n2, n3]) (hneD h0 (by simp) hS hN hL) rfl (by simp) hkmD ?_
  simp only [ac_67, eNm, fS, ren_S, renL, ren, rowsIn, inZ, rnD0, rnD1 n1, rnD2 n2 n3, ren_Nds, List.map_cons, List.map_nil, List.zipIdx_cons, List.zipIdx_nil, Nat.zero_add, List.length_cons, List.length_nil, List.cons_append, List.nil_append, List.append_nil, TT, ↓reduceIte, Nat.reduceEqDiff, Nat.reduceAdd, Nat.reduceMul, reduceCtorEq, Nat.reduceLeDiff]
  rw [if_pos (by decide)]
  simp only [Int.toNat_zero, List.getElem?_cons_zero, TT, ↓reduceIte, Nat.reduceEqDiff, Nat.reduceAdd, Nat.reduceMul, reduceCtorEq, Nat.reduceLeDiff]
  refine ⟨_, hmk _ (by decide) (by decide), ?_⟩
  simp only [TT, ↓reduceIte, Nat.reduceEqDiff, Nat.reduceAdd, Nat.reduceMul, reduceCtorEq, Nat.reduceLeDiff]
  exact EndsZ.kbox (i := 500003) (cells := eNds true (removeF s l true).1.nodes) (r0 := aOE (removeF s l true).2) (by simp [n1.symm, n2.symm]) (.inr rfl) (by simp [ET]) (by simp) rfl (by decide) (by simp [ET]) (by simp [ET]) (fun _ => al_Nds _) (ImpL.rfl' _) (fun _ => al_OE _) (Imp.refl _)
end Go.Proofs.YtonglhkiobibgaaGreatDoor
namespace Go.Proofs.YtonglhkiobibgaaGreatDoor
open Go.RowKit
set_option maxRecDepth 100000
theorem refuse0_spec (a : ByteArray) (nb : Nat) : ASound Tryz.prog 77 [.v (.int .i64 0), .v (.string a)] nb (.ret (.v .nilIface) []) := by
  refine ok_77.sound (by simp) ⟨trivial, trivial, trivial⟩ ?_
  simp only [ac_77, decide_true, TT, ↓reduceIte, Nat.reduceEqDiff, Nat.reduceAdd, Nat.reduceMul, reduceCtorEq, Nat.reduceLeDiff]
  exact Ends.data (.inr rfl) (by simp [ET]) trivial
def setFl (s : FSt) (t : Int) (f : Fl) : FSt := ⟨s.nodes.set (plc s.nodes t) { nodA s t with file := f }, s.next⟩
/-- a file's octets changed, by whatever W says of its node -/
def writeF (s : FSt) (l : List ByteArray) (p : ByteArray) (W : Int → Fl × Int) : FSt × Option Er :=
  match fileF s l with
  | .error e => (s, some e)
  | .ok t => (setFl s t (W t).1, if (W t).2 = 0 then none else some ⟨[], (W t).2, p⟩)
theorem nds_setF {l : List Nd} {i : Nat} {n : Nd} (h : l[i]? = some n) (f : Fl) : setN (eNds true l) (i * 6 + 4) [.v (.int .i64 f.size), .fs true (eBks true f.blocks) f.blocks.length] = eNds true (l.set i { n with file := f }) := by
  have hi := (List.getElem?_eq_some_iff.1 h).1
  have hA : (eNds true (l.take i)).length = i * 6 := by rw [len_Nds, List.length_take]; omega
  have h2 : (l.set i { n with file := f })[i]? = some { n with file := f } := by rw [List.getElem?_set_self hi]
  rw [nds_mid true h, nds_mid true h2, mid_setN hA _ _ 4 (by simp [eNd])]
  have e1 : (l.set i { n with file := f }).take i = l.take i := by rw [List.take_set_of_le (Nat.le_refl _)]
  have e2 : (l.set i { n with file := f }).drop (i + 1) = l.drop (i + 1) := by rw [List.drop_set_of_lt (by omega)]
  rw [e1, e2]
  rfl
theorem fileF_ok {s : FSt} (hok : okE s) (h1 : hasN s.nodes 1) {l : List ByteArray} {t : Int} (e : fileF s l = .ok t) : hasN s.nodes t ∧ (nodA s t).dir = false ∧ walkF s 1 l = .ok t := by
  unfold fileF at e
  cases hw : walkF s 1 l with
  | error q => rw [hw] at e; cases e
  | ok u =>
    rw [hw] at e
    simp only at e
    split at e
    · cases e
    · rename_i hd
      cases e
      exact ⟨walkF_has hok h1 hw, by simpa using hd, rfl⟩
def capsW (off : Int) (d : List Int) (p : ByteArray) : List AV := [.fp false [.v (.int .i64 off)] 0, .fp false [.fs false (eB d) d.length] 0, .fp false [.v (.string p)] 0]
theorem al_capsW (off : Int) (d : List Int) (p : ByteArray) : ∀ q, AlL q (capsW off d p) := fun q => ⟨⟨trivial, trivial⟩, ⟨al_B d, trivial⟩, ⟨trivial, trivial⟩, trivial⟩
theorem ren_capsW (off : Int) (d : List Int) (p : ByteArray) (ρ : Nat → Nat) : renL ρ (capsW off d p) = capsW off d p := renL_id (p := fun _ => False) (fun _ h => h.elim) (al_capsW _ _ _ _)
set_option maxHeartbeats 2000000 in
theorem do_write (s : FSt) (l : List ByteArray) (off : Int) (d : List Int) (p : ByteArray) (W : Int → Fl × Int) (hl : s.nodes.length ≤ 1000) (h0 : s.nodes ≠ []) (hok : okE s) (h1 : hasN s.nodes 1) (hll : l.length ≤ 1000)
    (hW : ∀ t, fileF s l = .ok t → ∀ nb, ASound Tryz.prog 76 [aFl true (nodA s t).file, .v (.int .i64 off), fB false d] nb (.ret (.tup [aFl true (W t).1, .v (.int .i64 (W t).2)]) [])) :
    DoOk 74 (capsW off d p) s [l] (writeF s l p W) := by
  intro iS iN iL nb n1 n2 n3 hS hN hL
  have hfi := fun nb h8 h9 => file_h s l true 0 1 nb (by decide) h8 h9 hl h0 hok h1 hll
  simp only [rowsM, outW, rwsT, outT, fS, Option.map_some, Option.map_none, List.cons_append, List.nil_append, List.append_nil] at hfi
  refine ok_74.soundZ 1 (rwsD iS iN iL s [l]) (outD nb (writeF s l p W).1) (by simp [capsW]) ⟨by simp [Al], by simp [Al], al_capsW _ _ _ _⟩ (by simp [n1, n2, n3]) (hneD h0 (by simp) hS hN hL) rfl (by simp) hkmD ?_
  have hrc : ∀ ρ, renL ρ ([.op iS 0, .os iL 0 1 1] ++ capsW off d p) = [ren ρ (.op iS 0), ren ρ (.os iL 0 1 1)] ++ capsW off d p := fun ρ => by rw [renL_append, ren_capsW]; rfl
  simp only [List.length_cons, List.length_nil, Nat.zero_add]
  rw [hrc]
  simp only [ac_74, capsW, eNm, fS, ren_S, renL, ren, rowsIn, inZ, rnD0, rnD1 n1, rnD2 n2 n3, ren_Nds, List.map_cons, List.map_nil, List.zipIdx_cons, List.zipIdx_nil, Nat.zero_add, List.length_cons, List.length_nil, List.cons_append, List.nil_append, List.append_nil, TT, ↓reduceIte, Nat.reduceEqDiff, Nat.reduceAdd, Nat.reduceMul, reduceCtorEq, Nat.reduceLeDiff]
  rw [if_pos (by decide)]
  simp only [Int.toNat_zero, List.getElem?_cons_zero, TT, ↓reduceIte, Nat.reduceEqDiff, Nat.reduceAdd, Nat.reduceMul, reduceCtorEq, Nat.reduceLeDiff]
  refine ⟨_, hfi _ (by decide) (by decide), ?_⟩
  cases hf : fileF s l with
  | error e =>
    obtain ⟨tt, x, ei, hxx⟩ := err_ifc e.ops e.cd e.at_
    have ew : writeF s l p W = (s, some e) := by unfold writeF; rw [hf]
    rw [ew]
    simp only [aFile, erA, ei, TT, ↓reduceIte, Nat.reduceEqDiff, Nat.reduceAdd, Nat.reduceMul, reduceCtorEq, Nat.reduceLeDiff]
    exact EndsZ.kbox (i := 1) (cells := eNds true s.nodes) (r0 := .ifc tt x) (by simp [n1.symm, n2.symm]) (.inr rfl) (by simp [ET]) (by simp) rfl (by decide) (by simp [ET]) (by simp [ET]) (fun _ => al_Nds _) (ImpL.rfl' _) (fun _ => hxx _) (by simp only [aOE, erA, ei]; exact Imp.refl _)
  | ok t =>
    obtain ⟨ht, hdir, _⟩ := fileF_ok hok h1 hf
    obtain ⟨n, hx, hmem, _⟩ := hasN_get ht
    have hA : nodA s t = n := by rw [nodA, hx]
    obtain ⟨a0, a1, a2, a3, a4, a5⟩ := get_Nds (fr := true) hx
    have hw := hW t hf
    rw [hA] at hw
    simp only [aFl, fBks, fB] at hw
    have a5' : (eNds true s.nodes)[plc s.nodes t * 6 + 4 + 1]? = some (.fs true (eBks true n.file.blocks) n.file.blocks.length) := a5
    simp only [aFile, a4, a5', TT, ↓reduceIte, Nat.reduceEqDiff, Nat.reduceAdd, Nat.reduceMul, reduceCtorEq, Nat.reduceLeDiff]
    refine ⟨_, hw _, ?_⟩
    simp only [TT, ↓reduceIte, Nat.reduceEqDiff, Nat.reduceAdd, Nat.reduceMul, reduceCtorEq, Nat.reduceLeDiff]
    refine ⟨by rfl, ?_⟩
    have hst := nds_setF hx (W t).1
    simp only [setN] at hst
    have hle : plc s.nodes t * 6 + 4 + 2 ≤ (eNds true s.nodes).length := by rw [len_Nds]; have := (List.getElem?_eq_some_iff.1 hx).1; omega
    have ew : writeF s l p W = (setFl s t (W t).1, if (W t).2 = 0 then none else some ⟨[], (W t).2, p⟩) := by unfold writeF; rw [hf]
    have esf : setFl s t (W t).1 = ⟨s.nodes.set (plc s.nodes t) { n with file := (W t).1 }, s.next⟩ := by unfold setFl; rw [hA]
    rw [if_pos hle]
    simp only [hst]
    generalize hs1 : setFl s t (W t).1 = s1 at *
    have hn1 : s1.nodes = s.nodes.set (plc s.nodes t) { n with file := (W t).1 } := by rw [esf]
    have hl1 : s1.nodes.length = s.nodes.length := by rw [hn1]; simp
    have hx1 : s1.next = s.next := by rw [esf]
    rw [← hn1]
    by_cases c : (W t).2 = 0
    · have ew2 : writeF s l p W = (s1, none) := by rw [ew, if_pos c]
      rw [c, ew2]
      refine ⟨_, refuse0_spec p _, ?_⟩
      simp only [TT, ↓reduceIte, Nat.reduceEqDiff, Nat.reduceAdd, Nat.reduceMul, reduceCtorEq, Nat.reduceLeDiff]
      exact EndsZ.kbox (i := 1) (cells := eNds true s1.nodes) (r0 := .v .nilIface) (by simp [n1.symm, n2.symm]) (.inr rfl) (by simp [ET]) (by simp) rfl (by decide) (by simp [ET, hl1, hx1]) (by simp [ET]) (fun _ => al_Nds _) (ImpL.rfl' _) (fun _ => trivial) (Imp.refl _)
    · have ew2 : writeF s l p W = (s1, some ⟨[], (W t).2, p⟩) := by rw [ew, if_neg c]
      rw [ew2]
      refine ⟨_, refuse_spec (W t).2 p _ c, ?_⟩
      simp only [aFlt, TT, ↓reduceIte, Nat.reduceEqDiff, Nat.reduceAdd, Nat.reduceMul, reduceCtorEq, Nat.reduceLeDiff]
      exact EndsZ.kbox (i := 1) (cells := eNds true s1.nodes) (r0 := erA ⟨[], (W t).2, p⟩) (by simp [n1.symm, n2.symm]) (.inr rfl) (by simp [ET, erA, aErr]) (by simp) rfl (by decide) (by simp [ET, hl1, hx1]) (by simp [ET]) (fun _ => al_Nds _) (ImpL.rfl' _) (fun _ => al_err _ _ _) (Imp.refl _)
section
variable {S : Nat → Prop}
theorem yg_Ents : ∀ l : List Ent, YgL S (eEnts l)
  | [] => trivial
  | _ :: l => ⟨trivial, trivial, yg_Ents l⟩
theorem yg_Bks : ∀ l : List Bk, YgL S (eBks true l)
  | [] => trivial
  | b :: l => ⟨trivial, ⟨rfl, yg_B b.data⟩, yg_Bks l⟩
theorem yg_Nds : ∀ l : List Nd, YgL S (eNds true l)
  | [] => trivial
  | n :: l => ⟨trivial, trivial, trivial, ⟨rfl, yg_Ents n.entries⟩, trivial, ⟨rfl, yg_Bks n.file.blocks⟩, yg_Nds l⟩
theorem yg_aFs (s : FSt) : Yg S (aFs true s) := ⟨⟨rfl, yg_Nds _⟩, trivial, trivial⟩
end
/-- change, its one path in a row that the caller holds -/
theorem change_h (i : Nat) (g : FuncId) (fr : Bool) (s : FSt) (p : ByteArray) (r : FSt × Option Er) (nb : Nat) (hi : i < nb) (hs : okFs s) (hdo : chkFs s = 0 → splitsE [p] = 0 → DoOk g [] s (splitsL [p]) r) (hcd : ∀ e, r.2 = some e → CodeOk e) :
    ASound Tryz.prog 59 [aFs fr s, .os i 0 1 1, .fn g []] nb (rowsM [(i, true, 9, [.v (.string p)])] (.ret (.tup [aFs true (chgF s [p] r).1, .v (.int .i64 (chgF s [p] r).2)]) [])) := by
  refine ASound.borrowD 0 [] [(i, true, 9, [.v (.string p)])] ?_ (by simp) ?_ (by simp)
  · have e : boDL 1 [(i, true, 9, [.v (.string p)])] [aFs fr s, .os i 0 1 1, .fn g []] = [aFs false s, fS false [p], .fn g []] := by
      simp [boDL, boWL, boW, cellsAt, od, odL, fS, eS, aFs, fNds, odNds]
    rw [e]
    exact change_spec g [] (fun _ => trivial) false false s [p] r nb hs (by simp) (by simp) hdo hcd
  · exact ⟨yg_aFs _, trivial, trivial⟩
set_option maxHeartbeats 1000000 in
theorem fsCreate_spec (fr : Bool) (s : FSt) (p : ByteArray) (r : FSt × Option Er) (nb : Nat) (hs : okFs s) (hdo : chkFs s = 0 → splitsE [p] = 0 → DoOk 60 [] s (splitsL [p]) r) (hcd : ∀ e, r.2 = some e → CodeOk e) :
    ASound Tryz.prog 16 [aFs fr s, .v (.string p)] nb (.ret (.tup [aFs true (chgF s [p] r).1, .v (.int .i64 (chgF s [p] r).2)]) []) := by
  refine ok_16.sound (by simp) ⟨al_aFs s, trivial, trivial⟩ ?_
  have hc := fun i nb h9 => change_h i 60 fr s p r nb h9 hs hdo hcd
  simp only [rowsM, aFs, fNds] at hc
  simp only [ac_16, aFs, fNds, TT, ↓reduceIte, Nat.reduceEqDiff, Nat.reduceAdd, Nat.reduceMul, reduceCtorEq, Nat.reduceLeDiff]
  refine ⟨_, hc 500000 _ (by decide), ?_⟩
  simp only [TT, ↓reduceIte, Nat.reduceEqDiff, Nat.reduceAdd, Nat.reduceMul, reduceCtorEq, Nat.reduceLeDiff]
  exact Ends.data (.inr rfl) (by simp [ET]) ⟨⟨al_Nds _, trivial, trivial⟩, trivial, trivial⟩
set_option maxHeartbeats 1000000 in
theorem fsMkdir_spec (fr : Bool) (s : FSt) (p : ByteArray) (r : FSt × Option Er) (nb : Nat) (hs : okFs s) (hdo : chkFs s = 0 → splitsE [p] = 0 → DoOk 64 [] s (splitsL [p]) r) (hcd : ∀ e, r.2 = some e → CodeOk e) :
    ASound Tryz.prog 18 [aFs fr s, .v (.string p)] nb (.ret (.tup [aFs true (chgF s [p] r).1, .v (.int .i64 (chgF s [p] r).2)]) []) := by
  refine ok_18.sound (by simp) ⟨al_aFs s, trivial, trivial⟩ ?_
  have hc := fun i nb h9 => change_h i 64 fr s p r nb h9 hs hdo hcd
  simp only [rowsM, aFs, fNds] at hc
  simp only [ac_18, aFs, fNds, TT, ↓reduceIte, Nat.reduceEqDiff, Nat.reduceAdd, Nat.reduceMul, reduceCtorEq, Nat.reduceLeDiff]
  refine ⟨_, hc 500000 _ (by decide), ?_⟩
  simp only [TT, ↓reduceIte, Nat.reduceEqDiff, Nat.reduceAdd, Nat.reduceMul, reduceCtorEq, Nat.reduceLeDiff]
  exact Ends.data (.inr rfl) (by simp [ET]) ⟨⟨al_Nds _, trivial, trivial⟩, trivial, trivial⟩
set_option maxHeartbeats 1000000 in
theorem fsUnlink_spec (fr : Bool) (s : FSt) (p : ByteArray) (r : FSt × Option Er) (nb : Nat) (hs : okFs s) (hdo : chkFs s = 0 → splitsE [p] = 0 → DoOk 65 [] s (splitsL [p]) r) (hcd : ∀ e, r.2 = some e → CodeOk e) :
    ASound Tryz.prog 20 [aFs fr s, .v (.string p)] nb (.ret (.tup [aFs true (chgF s [p] r).1, .v (.int .i64 (chgF s [p] r).2)]) []) := by
  refine ok_20.sound (by simp) ⟨al_aFs s, trivial, trivial⟩ ?_
  have hc := fun i nb h9 => change_h i 65 fr s p r nb h9 hs hdo hcd
  simp only [rowsM, aFs, fNds] at hc
  simp only [ac_20, aFs, fNds, TT, ↓reduceIte, Nat.reduceEqDiff, Nat.reduceAdd, Nat.reduceMul, reduceCtorEq, Nat.reduceLeDiff]
  refine ⟨_, hc 500000 _ (by decide), ?_⟩
  simp only [TT, ↓reduceIte, Nat.reduceEqDiff, Nat.reduceAdd, Nat.reduceMul, reduceCtorEq, Nat.reduceLeDiff]
  exact Ends.data (.inr rfl) (by simp [ET]) ⟨⟨al_Nds _, trivial, trivial⟩, trivial, trivial⟩
set_option maxHeartbeats 1000000 in
theorem fsRmdir_spec (fr : Bool) (s : FSt) (p : ByteArray) (r : FSt × Option Er) (nb : Nat) (hs : okFs s) (hdo : chkFs s = 0 → splitsE [p] = 0 → DoOk 67 [] s (splitsL [p]) r) (hcd : ∀ e, r.2 = some e → CodeOk e) :
    ASound Tryz.prog 21 [aFs fr s, .v (.string p)] nb (.ret (.tup [aFs true (chgF s [p] r).1, .v (.int .i64 (chgF s [p] r).2)]) []) := by
  refine ok_21.sound (by simp) ⟨al_aFs s, trivial, trivial⟩ ?_
  have hc := fun i nb h9 => change_h i 67 fr s p r nb h9 hs hdo hcd
  simp only [rowsM, aFs, fNds] at hc
  simp only [ac_21, aFs, fNds, TT, ↓reduceIte, Nat.reduceEqDiff, Nat.reduceAdd, Nat.reduceMul, reduceCtorEq, Nat.reduceLeDiff]
  refine ⟨_, hc 500000 _ (by decide), ?_⟩
  simp only [TT, ↓reduceIte, Nat.reduceEqDiff, Nat.reduceAdd, Nat.reduceMul, reduceCtorEq, Nat.reduceLeDiff]
  exact Ends.data (.inr rfl) (by simp [ET]) ⟨⟨al_Nds _, trivial, trivial⟩, trivial, trivial⟩
theorem chgF_err {s : FSt} {ps : List ByteArray} {r : FSt × Option Er} (h : (chgF s ps r).2 ≠ 0) : (chgF s ps r).1 = zeroS := by
  unfold chgF at h ⊢
  split
  · rfl
  · split
    · rfl
    · rename_i h1 h2
      rw [if_neg h1, if_neg h2] at h
      obtain ⟨t, oe⟩ := r
      cases oe with
      | none => exact absurd rfl h
      | some e => rfl
/-- change, its one path and the captures of what it is handed in rows that the caller holds -/
theorem change_hw (i a b c : Nat) (fr f2 : Bool) (s : FSt) (p : ByteArray) (off : Int) (d : List Int) (r : FSt × Option Er) (nb : Nat) (hi : i ≠ a ∧ i ≠ b ∧ i ≠ c ∧ a ≠ b ∧ a ≠ c ∧ b ≠ c) (hs : okFs s) (hdo : chkFs s = 0 → splitsE [p] = 0 → DoOk 74 (capsW off d p) s (splitsL [p]) r) (hcd : ∀ e, r.2 = some e → CodeOk e) :
    ASound Tryz.prog 59 [aFs fr s, .os i 0 1 1, .fn 74 [.op a 0, .op b 0, .op c 0]] nb (rowsM [(i, true, 9, [.v (.string p)]), (a, true, 3, [.v (.int .i64 off)]), (b, true, 37, [fB f2 d]), (c, true, 9, [.v (.string p)])] (.ret (.tup [aFs true (chgF s [p] r).1, .v (.int .i64 (chgF s [p] r).2)]) [])) := by
  obtain ⟨h1, h2, h3, h4, h5, h6⟩ := hi
  refine ASound.borrowD 0 [] [(i, true, 9, [.v (.string p)]), (a, true, 3, [.v (.int .i64 off)]), (b, true, 37, [fB f2 d]), (c, true, 9, [.v (.string p)])] ?_ (by simp) ?_ (by simp)
  · have e : boDL 1 [(i, true, 9, [.v (.string p)]), (a, true, 3, [.v (.int .i64 off)]), (b, true, 37, [fB f2 d]), (c, true, 9, [.v (.string p)])] [aFs fr s, .os i 0 1 1, .fn 74 [.op a 0, .op b 0, .op c 0]] = [aFs false s, fS false [p], .fn 74 (capsW off d p)] := by
      simp [boDL, boWL, boW, cellsAt, od, odL, odB, fB, fS, eS, aFs, fNds, odNds, capsW, h1.symm, h2.symm, h3.symm, h4.symm, h5.symm, h6.symm]
    rw [e]
    exact change_spec 74 (capsW off d p) (al_capsW off d p) false false s [p] r nb hs (by simp) (by simp) hdo hcd
  · exact ⟨yg_aFs _, trivial, trivial⟩
set_option maxHeartbeats 1000000 in
theorem fsWrite_spec (fr f2 : Bool) (s : FSt) (p : ByteArray) (off : Int) (d : List Int) (r : FSt × Option Er) (nb : Nat) (hs : okFs s) (hdo : chkFs s = 0 → splitsE [p] = 0 → DoOk 74 (capsW off d p) s (splitsL [p]) r) (hcd : ∀ e, r.2 = some e → CodeOk e) :
    ASound Tryz.prog 25 [aFs fr s, .v (.string p), .v (.int .i64 off), fB f2 d] nb (.ret (.tup [aFs true (chgF s [p] r).1, .v (.int .i64 (if (chgF s [p] r).2 = 0 then d.length else 0)), .v (.int .i64 (chgF s [p] r).2)]) []) := by
  refine ok_25.sound (by simp) ⟨al_aFs s, trivial, trivial, al_fB d, trivial⟩ ?_
  have hc := fun i a b c nb h9 => change_hw i a b c fr f2 s p off d r nb h9 hs hdo hcd
  simp only [rowsM, aFs, fNds, fB] at hc
  simp only [ac_25, aFs, fNds, fB, TT, ↓reduceIte, Nat.reduceEqDiff, Nat.reduceAdd, Nat.reduceMul, reduceCtorEq, Nat.reduceLeDiff]
  refine ⟨_, hc 900000 200000 300000 100000 _ (by decide), ?_⟩
  by_cases c : (chgF s [p] r).2 = 0
  · rw [if_pos c]
    simp only [c, decide_true, Bool.not_true, TT, ↓reduceIte, Nat.reduceEqDiff, Nat.reduceAdd, Nat.reduceMul, reduceCtorEq, Nat.reduceLeDiff]
    exact ⟨by rfl, Ends.data (.inr rfl) (by simp [ET]) ⟨⟨al_Nds _, trivial, trivial⟩, trivial, trivial, trivial⟩⟩
  · have hz := chgF_err c
    rw [if_neg c]
    simp only [c, hz, decide_false, Bool.not_false, TT, ↓reduceIte, Nat.reduceEqDiff, Nat.reduceAdd, Nat.reduceMul, reduceCtorEq, Nat.reduceLeDiff]
    exact Ends.imp (r0 := .tup [.agg [.v (.slice none 0 0), .v (.int .i64 0)], .v (.int .i64 0), .v (.int .i64 (chgF s [p] r).2)]) (.inr rfl) (by simp [ET]) ⟨⟨trivial, trivial, trivial⟩, trivial, trivial, trivial⟩ (Imp.tupL ⟨Imp.aggL ⟨Imp.nil true, Imp.refl _, trivial⟩, Imp.refl _, Imp.refl _, trivial⟩)
end Go.Proofs.YtonglhkiobibgaaGreatDoor
namespace Go.Proofs.YtonglhkiobibgaaGreatDoor
open Go.RowKit
set_option maxRecDepth 100000
def putB (o : List Int) (a : Nat) (src : List Int) : List Int := o.take a ++ (src.take (min src.length (o.length - a)) ++ o.drop (a + min src.length (o.length - a)))
theorem putB_len {o src : List Int} {a : Nat} (h : a ≤ o.length) : (putB o a src).length = o.length := by
  unfold putB
  simp only [List.length_append, List.length_take, List.length_drop]
  omega
def pos0 (x : Int) : Nat := (if x < 0 then 0 else x).toNat
def rdStep (off : Int) (o : List Int) (b : Bk) : List Int :=
  if 32 * b.index - off + 32 ≤ 0 ∨ (o.length : Int) ≤ 32 * b.index - off then o else putB o (pos0 (32 * b.index - off)) (b.data.drop (pos0 (-(32 * b.index - off))))
theorem rdStep_len (off : Int) (o : List Int) (b : Bk) : (rdStep off o b).length = o.length := by
  unfold rdStep
  split
  · rfl
  · rename_i h
    refine putB_len ?_
    unfold pos0
    split <;> omega
def rdL (f : Fl) (off : Int) (m : Nat) (i : Nat) : List Int := (f.blocks.take i).foldl (rdStep off) (List.replicate m 0)
theorem rdL_len (f : Fl) (off : Int) (m : Nat) (i : Nat) : (rdL f off m i).length = m := by
  have aux : ∀ (l : List Bk) (o : List Int), (l.foldl (rdStep off) o).length = o.length := by
    intro l
    induction l with
    | nil => intro o; rfl
    | cons b l ih => intro o; rw [List.foldl_cons, ih, rdStep_len]
  unfold rdL
  rw [aux]; simp
theorem rdL_s {f : Fl} {off : Int} {m i : Nat} {b : Bk} (h : f.blocks[i]? = some b) : rdL f off m (i + 1) = rdStep off (rdL f off m i) b := by
  unfold rdL
  rw [take_snoc h, List.foldl_append]; rfl
def rdM (f : Fl) (off n : Int) : Nat := (if f.size - off < n then f.size - off else n).toNat
def readB (f : Fl) (off n : Int) : List Int × Int :=
  if chkFl f ≠ 0 then ([], chkFl f) else if off < 0 ∨ n < 0 then ([], 4) else if f.size ≤ off then ([], 0) else (rdL f off (rdM f off n) f.blocks.length, 0)
theorem setB {o src : List Int} {a : Nat} (h : a ≤ o.length) : setN (eB o) a ((eB src).take (Nat.min src.length (o.length - a))) = eB (putB o a src) := by
  have e0 : Nat.min src.length (o.length - a) = min src.length (o.length - a) := rfl
  rw [e0]
  have e : (eB src).take (min src.length (o.length - a)) = eB (src.take (min src.length (o.length - a))) := by simp [eB, List.map_take]
  rw [e, setN_app (by rw [len_B, len_B, List.length_take]; omega)]
  unfold putB
  rw [len_B, List.length_take, Nat.min_eq_left (Nat.min_le_left _ _)]
  simp [eB, List.map_take, List.map_drop]
abbrev L_rf (fr : Bool) (f : Fl) (off : Int) (m i : Nat) : ASt := ⟨envOf [(1, .v (.int .i64 off)), (2, .v (.int .i64 m)), (9, .os 0 0 m 1), (35, fBks fr f.blocks), (36, .v (.int .i64 f.blocks.length)), (37, .v (.int .i64 i))], heapOf [(0, .row true 5 (eB (rdL f off m i)))], 1⟩
set_option maxHeartbeats 4000000 in
theorem fread_spec (fr : Bool) (f : Fl) (off n : Int) (nb : Nat) (hbl : f.blocks.length ≤ 140737488355328) (hn : 1 ≤ n ∨ off = 0) (hoff : off ≤ 9223372036854775807 ∧ n ≤ 9223372036854775807) :
    ASound Tryz.prog 80 [aFl fr f, .v (.int .i64 off), .v (.int .i64 n)] nb (.ret (.tup [fB true (readB f off n).1, .v (.int .i64 (readB f off n).2)]) []) := by
  refine ok_80.sound (by simp) ⟨al_aFl f, trivial, trivial, trivial⟩ ?_
  have hnil : ∀ c : Int, Imp (.tup [.v (.slice none 0 0), .v (.int .i64 c)]) (.tup [.fs true [] 0, .v (.int .i64 c)]) := fun c => Imp.tupL ⟨Imp.nil true, Imp.refl _, trivial⟩
  have hck := fun nb => fchk_spec fr f nb hbl
  simp only [aFl, fBks] at hck
  simp only [ac_80, aFl, fBks, fB, TT, ↓reduceIte, Nat.reduceEqDiff, Nat.reduceAdd, Nat.reduceMul, reduceCtorEq, Nat.reduceLeDiff]
  refine ⟨_, hck _, ?_⟩
  by_cases c1 : ¬ chkFl f = 0
  · have e : readB f off n = ([], chkFl f) := by unfold readB; rw [if_pos c1]
    simp only [c1, e, decide_false, Bool.not_false, TT, ↓reduceIte, Nat.reduceEqDiff, Nat.reduceAdd, Nat.reduceMul, reduceCtorEq, Nat.reduceLeDiff]
    exact Ends.imp (r0 := .tup [.v (.slice none 0 0), .v (.int .i64 (chkFl f))]) (.inr rfl) (by simp [ET]) ⟨trivial, trivial, trivial⟩ (hnil _)
  replace c1 : chkFl f = 0 := Decidable.not_not.1 c1
  obtain ⟨z0, z1, hb, hinc⟩ := chkFl_ok c1
  simp only [c1, decide_true, Bool.not_true, TT, ↓reduceIte, Nat.reduceEqDiff, Nat.reduceAdd, Nat.reduceMul, reduceCtorEq, Nat.reduceLeDiff]
  by_cases c2 : off < 0 ∨ n < 0
  · have e : readB f off n = ([], 4) := by unfold readB; rw [if_neg (by simp [c1]), if_pos c2]
    rw [if_pos (by split <;> omega), e]
    exact Ends.imp (r0 := .tup [.v (.slice none 0 0), .v (.int .i64 4)]) (.inr rfl) (by simp [ET]) ⟨trivial, trivial, trivial⟩ (hnil _)
  rw [if_neg (by split <;> omega)]
  by_cases c3 : f.size ≤ off
  · have e : readB f off n = ([], 0) := by unfold readB; rw [if_neg (by simp [c1]), if_neg c2, if_pos c3]
    rw [if_pos c3, e]
    exact Ends.imp (r0 := .tup [.v (.slice none 0 0), .v (.int .i64 0)]) (.inr rfl) (by simp [ET]) ⟨trivial, trivial, trivial⟩ (hnil _)
  rw [if_neg c3]
  have e : readB f off n = (rdL f off (rdM f off n) f.blocks.length, 0) := by unfold readB; rw [if_neg (by simp [c1]), if_neg c2, if_neg c3]
  have w1 : IntKind.i64.wrap (f.size - off) = f.size - off := wrap64 (by omega)
  have hm : (if f.size - off < n then f.size - off else n) = (rdM f off n : Int) := by unfold rdM; split <;> omega
  have hmle : (rdM f off n : Int) ≤ 2432 := by rw [← hm]; split <;> omega
  have hm1 : off ≠ 0 → 1 ≤ rdM f off n := by
    intro h
    have : (1 : Int) ≤ (rdM f off n : Int) := by rw [← hm]; split <;> omega
    omega
  rw [e]
  generalize rdM f off n = m at *
  rw [w1, hm, if_pos ⟨by omega, by omega, by omega, by omega⟩]
  have hnm : Int.toNat (m : Int) = m := Int.toNat_natCast m
  refine AWc.family (L_rf fr f off m) (fun i => i ≤ f.blocks.length) (fun i => f.blocks.length - i) 0 (Nat.zero_le _) ?_ ?_
  · rw [hnm, rep_B]
    refine Weak.calc [(2400000, 0)] (by decide) ?_ ?_
    · simp [WT, al_Bks, ren_Bks, fBks]
    · simp [WT, rdL, al_B, ren_B]
  · intro i hi
    by_cases hlt : i < f.blocks.length
    · obtain ⟨b, hx, e1, e0⟩ := lt_at hlt
      obtain ⟨b0, b1⟩ := get_Bks (fr := fr) hx
      obtain ⟨k1, k2, k3, _, _⟩ := hb b (List.mem_of_getElem? hx)
      have h76 := nBl_le z0 z1
      simp only [L_rf, fBks, e1, e0, b0, b1, Int.toNat_natCast, TT, ↓reduceIte, Nat.reduceEqDiff, Nat.reduceAdd, Nat.reduceMul, reduceCtorEq, Nat.reduceLeDiff]
      have hz := rdL_s (off := off) (m := m) hx
      have hlo := rdL_len f off m i
      unfold rdStep at hz
      rw [hlo] at hz
      have w2 : IntKind.i64.wrap (32 * b.index) = 32 * b.index := wrap64 (by omega)
      have w3 : IntKind.i64.wrap (32 * b.index - off) = 32 * b.index - off := wrap64 (by omega)
      have w4 : IntKind.i64.wrap (32 * b.index - off + 32) = 32 * b.index - off + 32 := wrap64 (by omega)
      have w5 : IntKind.i64.wrap (0 - (32 * b.index - off)) = -(32 * b.index - off) := by rw [wrap64 (by omega)]; omega
      rw [w2, w3, w4]
      have hoff0 : 0 ≤ off := by omega
      have hoff1 : off ≤ 2432 := by omega
      generalize ha : 32 * b.index - off = a at *
      by_cases d1 : a + 32 ≤ 0
      · rw [if_pos (.inl d1)] at hz
        rw [if_neg (by omega)]
        refine famC_next (i + 1) (by omega) (by omega) ?_
        refine Weak.calc [(0, 0)] (by decide) ?_ ?_
        · simp [WT, al_Bks, ren_Bks, fBks, wrap64 (x := (i : Int) + 1) (by omega)]
        · simp [WT, hz, al_B, ren_B]
      rw [if_pos d1]
      by_cases d2 : (m : Int) ≤ a
      · rw [if_pos (.inr d2)] at hz
        rw [if_pos d2]
        refine famC_next (i + 1) (by omega) (by omega) ?_
        refine Weak.calc [(0, 0)] (by decide) ?_ ?_
        · simp [WT, al_Bks, ren_Bks, fBks, wrap64 (x := (i : Int) + 1) (by omega)]
        · simp [WT, hz, al_B, ren_B]
      rw [if_neg d2]
      rw [if_neg (by omega)] at hz
      have hpa : (if a < 0 then 0 else a) = (pos0 a : Int) := by unfold pos0; split <;> omega
      have hpn : (if -a < 0 then 0 else -a) = (pos0 (-a) : Int) := by unfold pos0; split <;> omega
      have hm2 : 1 ≤ m := by
        by_cases h9 : off = 0
        · omega
        · exact hm1 h9
      have hp1' : (pos0 a : Int) < m := by rw [← hpa]; split <;> omega
      have hp2' : (pos0 (-a) : Int) ≤ 32 := by rw [← hpn]; split <;> omega
      have hp1 : pos0 a < m := by omega
      have hp2 : pos0 (-a) ≤ 32 := by omega
      rw [hpa]
      rw [if_pos ⟨by omega, by omega⟩]
      simp only [Int.toNat_natCast, TT, ↓reduceIte, Nat.reduceEqDiff, Nat.reduceAdd, Nat.reduceMul, reduceCtorEq, Nat.reduceLeDiff]
      rw [w5, hpn, if_pos ⟨by omega, by omega⟩]
      simp only [Int.toNat_natCast, TT, ↓reduceIte, Nat.reduceEqDiff, Nat.reduceAdd, Nat.reduceMul, reduceCtorEq, Nat.reduceLeDiff]
      have hsl : List.take (b.data.length - pos0 (-a)) (List.drop (pos0 (-a)) (eB b.data)) = eB (b.data.drop (pos0 (-a))) := by
        rw [List.take_of_length_le (by simp [eB])]; simp [eB, List.map_drop]
      have hsn : b.data.length - pos0 (-a) = (b.data.drop (pos0 (-a))).length := by rw [List.length_drop]
      rw [hsl, hsn]
      rw [if_pos (len_B _), if_pos ⟨by omega, by rw [len_B, hlo]; omega⟩]
      have hset := setB (o := rdL f off m i) (src := b.data.drop (pos0 (-a))) (a := pos0 a) (by rw [hlo]; omega)
      rw [hlo] at hset
      rw [hset, ← hz]
      refine ⟨by rfl, famC_next (i + 1) (by omega) (by omega) ?_⟩
      refine Weak.calc [(0, 0)] (by decide) ?_ ?_
      · simp [WT, al_Bks, ren_Bks, fBks, wrap64 (x := (i : Int) + 1) (by omega)]
      · simp [WT, al_B, ren_B]
    · obtain rfl : i = f.blocks.length := by omega
      have e1 : ¬ ((f.blocks.length : Int) < (f.blocks.length : Int)) := by omega
      simp only [L_rf, fBks, e1, TT, ↓reduceIte, Nat.reduceEqDiff, Nat.reduceAdd, Nat.reduceMul, reduceCtorEq, Nat.reduceLeDiff]
      have hlen := rdL_len f off m f.blocks.length
      have htk : (eB (rdL f off m f.blocks.length)).take (m * 1) = eB (rdL f off m f.blocks.length) := List.take_of_length_le (by rw [len_B, hlen]; omega)
      rw [hlen]
      refine Ends.weak (Weak.freezeC 0 (y := true) (e := 5) (cells := eB (rdL f off m f.blocks.length)) (by simp [ET]) (l := [(6, .fs true (eB (rdL f off m f.blocks.length)) m), (7, .v (.int .i64 0))]) (h := []) ?_ ?_) (Ends.data (.inr rfl) (by simp [ET]) ⟨al_B _, trivial, trivial⟩)
      · simp [okF, fzV, fzOne, ET]
        rw [Nat.mul_one] at htk; exact htk.symm
      · trivial
end Go.Proofs.YtonglhkiobibgaaGreatDoor
namespace Go.Proofs.YtonglhkiobibgaaGreatDoor
open Go.RowKit
set_option maxRecDepth 100000
def readR (s : FSt) (p : ByteArray) (off n : Int) : List Int × Int := match findC s p with
  | .error cd => ([], cd)
  | .ok t => if (nodA s t).dir = true then ([], 104) else readB (nodA s t).file off n
theorem read_full (fr : Bool) (s : FSt) (p : ByteArray) (off n : Int) (nb : Nat) (hs : okFs s) (hn : 1 ≤ n ∨ off = 0) (hoff : off ≤ 9223372036854775807 ∧ n ≤ 9223372036854775807) :
    ASound Tryz.prog 26 [aFs fr s, .v (.string p), .v (.int .i64 off), .v (.int .i64 n)] nb (.ret (.tup [fB true (readR s p off n).1, .v (.int .i64 (readR s p off n).2)]) []) := by
  refine ok_26.sound (by simp) ⟨al_aFs s, trivial, trivial, trivial, trivial⟩ ?_
  have hnil : ∀ c : Int, Imp (.tup [.v (.slice none 0 0), .v (.int .i64 c)]) (.tup [.fs true [] 0, .v (.int .i64 c)]) := fun c => Imp.tupL ⟨Imp.nil true, Imp.refl _, trivial⟩
  have hf := fun nb => findG_spec fr s p nb hs
  simp only [aFs, fNds] at hf
  rcases findG_cases fr s p hs with ⟨t, n', e1, e2, hx, hi, hA⟩ | ⟨cd, x, e1, hcd, e2 | e2⟩
  · obtain ⟨a0, a1, a2, a3, a4, a5⟩ := get_Nds (fr := fr) hx
    have a5' : (eNds fr s.nodes)[plc s.nodes t * 6 + 4 + 1]? = some (.fs fr (eBks fr n'.file.blocks) n'.file.blocks.length) := a5
    rw [e2] at hf
    cases hd : n'.dir
    · have e : readR s p off n = readB n'.file off n := by unfold readR; rw [e1]; simp only; rw [hA, hd, if_neg (by decide)]
      have hr := fun nb => fread_spec fr n'.file off n nb (hs.2 n' (List.mem_of_getElem? hx)).2 hn hoff
      simp only [aFl, fBks, fB] at hr
      rw [e]
      simp only [ac_26, aFs, fNds, fB, TT, ↓reduceIte, Nat.reduceEqDiff, Nat.reduceAdd, Nat.reduceMul, reduceCtorEq, Nat.reduceLeDiff]
      refine ⟨_, hf _, ?_⟩
      simp only [a1, a4, a5', hd, TT, ↓reduceIte, Nat.reduceEqDiff, Nat.reduceAdd, Nat.reduceMul, reduceCtorEq, Nat.reduceLeDiff]
      refine ⟨_, hr _, ?_⟩
      simp only [TT, ↓reduceIte, Nat.reduceEqDiff, Nat.reduceAdd, Nat.reduceMul, reduceCtorEq, Nat.reduceLeDiff]
      exact Ends.data (.inr rfl) (by simp [ET]) ⟨al_B _, trivial, trivial⟩
    · have e : readR s p off n = ([], 104) := by unfold readR; rw [e1]; simp only; rw [hA, hd, if_pos rfl]
      rw [e]
      simp only [ac_26, aFs, fNds, fB, TT, ↓reduceIte, Nat.reduceEqDiff, Nat.reduceAdd, Nat.reduceMul, reduceCtorEq, Nat.reduceLeDiff]
      refine ⟨_, hf _, ?_⟩
      simp only [a1, hd, TT, ↓reduceIte, Nat.reduceEqDiff, Nat.reduceAdd, Nat.reduceMul, reduceCtorEq, Nat.reduceLeDiff]
      exact Ends.imp (r0 := .tup [.v (.slice none 0 0), .v (.int .i64 104)]) (.inr rfl) (by simp [ET]) ⟨trivial, trivial, trivial⟩ (hnil _)
  · have hcd := fun nb => fcode_spec true cd x nb
    have e : readR s p off n = ([], cd) := by unfold readR; rw [e1]
    rw [e2] at hf
    rw [e]
    simp only [ac_26, aFs, fNds, fB, TT, ↓reduceIte, Nat.reduceEqDiff, Nat.reduceAdd, Nat.reduceMul, reduceCtorEq, Nat.reduceLeDiff]
    refine ⟨_, hf _, ?_⟩
    simp only [TT, ↓reduceIte, Nat.reduceEqDiff, Nat.reduceAdd, Nat.reduceMul, reduceCtorEq, Nat.reduceLeDiff]
    refine ⟨_, hcd _, ?_⟩
    simp only [TT, ↓reduceIte, Nat.reduceEqDiff, Nat.reduceAdd, Nat.reduceMul, reduceCtorEq, Nat.reduceLeDiff]
    exact Ends.imp (r0 := .tup [.v (.slice none 0 0), .v (.int .i64 cd)]) (.inr rfl) (by simp [ET]) ⟨trivial, trivial, trivial⟩ (hnil _)
  · have hcd := fun nb => fcodeW_spec findS true cd x nb
    have e : readR s p off n = ([], cd) := by unfold readR; rw [e1]
    rw [e2] at hf
    rw [e]
    simp only [ac_26, aFs, fNds, fB, aWrp, TT, ↓reduceIte, Nat.reduceEqDiff, Nat.reduceAdd, Nat.reduceMul, reduceCtorEq, Nat.reduceLeDiff] at hf hcd ⊢
    refine ⟨_, hf _, ?_⟩
    simp only [TT, ↓reduceIte, Nat.reduceEqDiff, Nat.reduceAdd, Nat.reduceMul, reduceCtorEq, Nat.reduceLeDiff]
    refine ⟨_, hcd _, ?_⟩
    simp only [TT, ↓reduceIte, Nat.reduceEqDiff, Nat.reduceAdd, Nat.reduceMul, reduceCtorEq, Nat.reduceLeDiff]
    exact Ends.imp (r0 := .tup [.v (.slice none 0 0), .v (.int .i64 cd)]) (.inr rfl) (by simp [ET]) ⟨trivial, trivial, trivial⟩ (hnil _)
end Go.Proofs.YtonglhkiobibgaaGreatDoor
namespace Go.Proofs.YtonglhkiobibgaaGreatDoor
open Go.RowKit
set_option maxRecDepth 100000
def qA : ByteArray := ByteArray.mk #[47, 97]
def qF : ByteArray := ByteArray.mk #[47, 97, 47, 102]
def nA : ByteArray := ByteArray.mk #[97]
def nF : ByteArray := ByteArray.mk #[102]
def f0 : Fl := ⟨0, []⟩
def fHi : Fl := ⟨2, [⟨0, padB [104, 105]⟩]⟩
def s1 : FSt := ⟨[⟨1, true, 0, [⟨nA, 2⟩], f0⟩, ⟨2, true, 1, [], f0⟩], 3⟩
def s2 (f : Fl) : FSt := ⟨[⟨1, true, 0, [⟨nA, 2⟩], f0⟩, ⟨2, true, 1, [⟨nF, 3⟩], f0⟩, ⟨3, false, 1, [], f⟩], 4⟩
theorem spA : splitP qA = ([nA], 0) := by decide
theorem spF : splitP qF = ([nA, nF], 0) := by decide
theorem ck0 : chkFs newF = 0 := by decide
theorem ck1 : chkFs s1 = 0 := by decide
theorem ck2 : chkFs (s2 f0) = 0 := by decide
theorem ck3 : chkFs (s2 fHi) = 0 := by decide
theorem mk1 : makeF newF [nA] true = (s1, none) := by kernel_rfl
theorem mk2 : makeF s1 [nA, nF] false = (s2 f0, none) := by kernel_rfl
theorem wr3 (W : Int → Fl × Int) (h : W 3 = (fHi, 0)) (p : ByteArray) : writeF (s2 f0) [nA, nF] p W = (s2 fHi, none) := by
  have e : fileF (s2 f0) [nA, nF] = .ok 3 := by kernel_rfl
  unfold writeF
  rw [e]
  have e2 : setFl (s2 f0) 3 fHi = s2 fHi := by kernel_rfl
  show (setFl (s2 f0) 3 (W 3).1, if (W 3).2 = 0 then none else some (⟨[], (W 3).2, p⟩ : Er)) = _
  rw [h, if_pos rfl, e2]
theorem rm4 : removeE (s2 fHi) [nA] false = some ⟨[], 104, nA⟩ := by kernel_rfl
theorem rm5 : removeE (s2 fHi) [nA] true = some ⟨[], 105, nA⟩ := by kernel_rfl
theorem rd3 : readR (s2 fHi) qF 0 9 = ([104, 105], 0) := by kernel_rfl
theorem okFs_of {s : FSt} (h : decide (s.nodes.length ≤ 1000 ∧ ∀ n ∈ s.nodes, n.entries.length ≤ 1000 ∧ n.file.blocks.length ≤ 1000) = true) : okFs s := by
  have h := of_decide_eq_true h
  exact ⟨by omega, fun n hn => by have := h.2 n hn; omega⟩
theorem okF0 : okFs newF := okFs_of (by decide)
theorem okF1 : okFs s1 := okFs_of (by decide)
theorem okF2 : okFs (s2 f0) := okFs_of (by decide)
theorem okF3 : okFs (s2 fHi) := okFs_of (by decide)
theorem add_nil (s : FSt) (l : List ByteArray) (hl : ∀ h x k, spotF s l = .ok (h, x, k) → (nodA s h).entries = []) : ∀ h x k, spotF s l = .ok (h, x, k) → k = 0 → ∀ nb, ASound Tryz.prog 173 [fEnts true (nodA s h).entries, aEnt ⟨x, s.next⟩] nb (.ret (.tup [fEnts true (addE (nodA s h).entries ⟨x, s.next⟩).1, .v (.int .i64 (addE (nodA s h).entries ⟨x, s.next⟩).2)]) []) := by
  intro h x k e _ nb
  rw [hl h x k e]
  have h0 : plcE [] x = 0 := rfl
  exact dadd_spec true [] ⟨x, s.next⟩ nb (by simp) (by simp [h0]) (fun _ _ _ _ _ => insAt_end (l := []) _ (by simp))
theorem spE (p : ByteArray) (l : List ByteArray) (h : splitP p = (l, 0)) : splitsE [p] = 0 ∧ splitsL [p] = [l] := by simp [splitsE, splitsL, h]
theorem chg_ok {s t : FSt} {p : ByteArray} {l : List ByteArray} (hc : chkFs s = 0) (hp : splitP p = (l, 0)) : chgF s [p] (t, none) = (t, 0) := by
  unfold chgF
  rw [if_neg (by simp [hc]), if_neg (by simp [(spE p l hp).1])]
theorem chg_er {s t : FSt} {p : ByteArray} {l : List ByteArray} {e : Er} (hc : chkFs s = 0) (hp : splitP p = (l, 0)) : chgF s [p] (t, some e) = (zeroS, e.cd) := by
  unfold chgF
  rw [if_neg (by simp [hc]), if_neg (by simp [(spE p l hp).1])]
theorem mkdirA (fr : Bool) (nb : Nat) : ASound Tryz.prog 18 [aFs fr newF, .v (.string qA)] nb (.ret (.tup [aFs true s1, .v (.int .i64 0)]) []) := by
  obtain ⟨n0, n128, x2, xm, hok, h1, _⟩ := chkFs_all ck0
  have h := fsMkdir_spec fr newF qA (s1, none) nb okF0 (fun _ _ => by
    rw [(spE qA _ spA).2, ← mk1]
    exact do_mkdir newF [nA] (by omega) n0 hok h1 (by simp) (add_nil newF [nA] (fun h x k e => by
      have e2 : spotF newF [nA] = .ok (1, nA, 0) := by kernel_rfl
      have e3 : (nodA newF 1).entries = [] := by kernel_rfl
      rw [e2] at e; cases e; exact e3)) (by omega)) (fun e he => by cases he)
  rw [chg_ok ck0 spA] at h
  exact h
theorem createF (fr : Bool) (nb : Nat) : ASound Tryz.prog 16 [aFs fr s1, .v (.string qF)] nb (.ret (.tup [aFs true (s2 f0), .v (.int .i64 0)]) []) := by
  obtain ⟨n0, n128, x2, xm, hok, h1, _⟩ := chkFs_all ck1
  have h := fsCreate_spec fr s1 qF (s2 f0, none) nb okF1 (fun _ _ => by
    rw [(spE qF _ spF).2, ← mk2]
    exact do_create s1 [nA, nF] (by omega) n0 hok h1 (by simp) (add_nil s1 [nA, nF] (fun h x k e => by
      have e2 : spotF s1 [nA, nF] = .ok (2, nF, 0) := by kernel_rfl
      have e3 : (nodA s1 2).entries = [] := by kernel_rfl
      rw [e2] at e; cases e; exact e3)) (by omega)) (fun e he => by cases he)
  rw [chg_ok ck1 spF] at h
  exact h
theorem writeHi (fr f2 : Bool) (nb : Nat) : ASound Tryz.prog 25 [aFs fr (s2 f0), .v (.string qF), .v (.int .i64 0), fB f2 [104, 105]] nb (.ret (.tup [aFs true (s2 fHi), .v (.int .i64 2), .v (.int .i64 0)]) []) := by
  obtain ⟨n0, n128, x2, xm, hok, h1, _⟩ := chkFs_all ck2
  have h := fsWrite_spec fr f2 (s2 f0) qF 0 [104, 105] (s2 fHi, none) nb okF2 (fun _ _ => by
    rw [(spE qF _ spF).2, ← wr3 (fun _ => (fHi, 0)) rfl qF]
    exact do_write (s2 f0) [nA, nF] 0 [104, 105] qF (fun _ => (fHi, 0)) (by omega) n0 hok h1 (by simp) (fun t e nb => by
      have e2 : fileF (s2 f0) [nA, nF] = .ok 3 := by kernel_rfl
      rw [e2] at e; cases e
      have e3 : (nodA (s2 f0) 3).file = ⟨0, []⟩ := by kernel_rfl
      rw [e3]
      exact fwrite0 true false [104, 105] nb (by decide) (by decide) (by decide))) (fun e he => by cases he)
  rw [chg_ok ck2 spF] at h
  exact h
theorem unlinkA (fr : Bool) (nb : Nat) : ASound Tryz.prog 20 [aFs fr (s2 fHi), .v (.string qA)] nb (.ret (.tup [aFs true zeroS, .v (.int .i64 104)]) []) := by
  obtain ⟨n0, n128, x2, xm, hok, h1, _⟩ := chkFs_all ck3
  have e1 : removeF (s2 fHi) [nA] false = (s2 fHi, some ⟨[], 104, nA⟩) := by unfold removeF; rw [rm4]
  have h := fsUnlink_spec fr (s2 fHi) qA (s2 fHi, some ⟨[], 104, nA⟩) nb okF3 (fun _ _ => by
    rw [(spE qA _ spA).2, ← e1]
    exact do_unlink (s2 fHi) [nA] (by omega) n0 hok h1 (by simp) (fun e => by rw [rm4] at e; cases e)) (fun e he => by cases he; exact code0 _ _)
  rw [chg_er ck3 spA] at h
  exact h
theorem rmdirA (fr : Bool) (nb : Nat) : ASound Tryz.prog 21 [aFs fr (s2 fHi), .v (.string qA)] nb (.ret (.tup [aFs true zeroS, .v (.int .i64 105)]) []) := by
  obtain ⟨n0, n128, x2, xm, hok, h1, _⟩ := chkFs_all ck3
  have e1 : removeF (s2 fHi) [nA] true = (s2 fHi, some ⟨[], 105, nA⟩) := by unfold removeF; rw [rm5]
  have h := fsRmdir_spec fr (s2 fHi) qA (s2 fHi, some ⟨[], 105, nA⟩) nb okF3 (fun _ _ => by
    rw [(spE qA _ spA).2, ← e1]
    exact do_rmdir (s2 fHi) [nA] (by omega) n0 hok h1 (by simp) (fun e => by rw [rm5] at e; cases e)) (fun e he => by cases he; exact code0 _ _)
  rw [chg_er ck3 spA] at h
  exact h
theorem readHi (fr : Bool) (nb : Nat) : ASound Tryz.prog 26 [aFs fr (s2 fHi), .v (.string qF), .v (.int .i64 0), .v (.int .i64 9)] nb (.ret (.tup [fB true [104, 105], .v (.int .i64 0)]) []) := by
  have h := read_full fr (s2 fHi) qF 0 9 nb okF3 (.inl (by decide)) ⟨by decide, by decide⟩
  rw [rd3] at h
  exact h
end Go.Proofs.YtonglhkiobibgaaGreatDoor
namespace Go.Proofs.YtonglhkiobibgaaGreatDoor
open Go.RowKit
set_option maxRecDepth 100000
theorem num10_spec (e : Int) (nb : Nat) : ASound Tryz.prog 19 [.v (.int .i64 e)] nb (.ret (.v (.int .i64 e)) []) := by
  refine ok_19.sound (by simp) ⟨trivial, trivial⟩ ?_
  simp only [ac_19, TT, ↓reduceIte, Nat.reduceEqDiff, Nat.reduceAdd, Nat.reduceMul, reduceCtorEq, Nat.reduceLeDiff]
  exact Ends.data (.inr rfl) (by simp [ET]) trivial
set_option maxHeartbeats 2000000 in
theorem alive10 (nb : Nat) : ASound Tryz.prog 15 [] nb (.ret (.v (.bool true)) []) := by
  refine ok_15.sound (by simp) trivial ?_
  have g0 := new_spec
  have g1 := mkdirA true
  have g2 := createF true
  have g3 := fun f2 => writeHi true f2
  have g4 := readHi true
  have g5 := unlinkA true
  have g6 := rmdirA true
  have eb : eB [104, 105] = [.v (.int .u8 104), .v (.int .u8 105)] := rfl
  simp only [aFs, fNds, qA, qF, fB, eb, List.length_cons, List.length_nil] at g0 g1 g2 g3 g4 g5 g6
  simp only [ac_15, TT, ↓reduceIte, Nat.reduceEqDiff, Nat.reduceAdd, Nat.reduceMul, reduceCtorEq, Nat.reduceLeDiff]
  refine ⟨_, g0 _, ?_⟩
  simp only [TT, ↓reduceIte, Nat.reduceEqDiff, Nat.reduceAdd, Nat.reduceMul, reduceCtorEq, Nat.reduceLeDiff]
  refine ⟨_, g1 _, ?_⟩
  simp only [TT, ↓reduceIte, Nat.reduceEqDiff, Nat.reduceAdd, Nat.reduceMul, reduceCtorEq, Nat.reduceLeDiff]
  refine ⟨_, g2 _, ?_⟩
  simp only [TT, ↓reduceIte, Nat.reduceEqDiff, Nat.reduceAdd, Nat.reduceMul, reduceCtorEq, Nat.reduceLeDiff]
  rw [if_pos (by decide)]
  refine ⟨_, g3 _ _, ?_⟩
  simp only [TT, ↓reduceIte, Nat.reduceEqDiff, Nat.reduceAdd, Nat.reduceMul, reduceCtorEq, Nat.reduceLeDiff]
  refine ⟨_, g4 _, ?_⟩
  simp only [TT, ↓reduceIte, Nat.reduceEqDiff, Nat.reduceAdd, Nat.reduceMul, reduceCtorEq, Nat.reduceLeDiff]
  refine ⟨_, g5 _, ?_⟩
  simp only [TT, ↓reduceIte, Nat.reduceEqDiff, Nat.reduceAdd, Nat.reduceMul, reduceCtorEq, Nat.reduceLeDiff]
  refine ⟨_, g6 _, ?_⟩
  simp only [TT, ↓reduceIte, Nat.reduceEqDiff, Nat.reduceAdd, Nat.reduceMul, reduceCtorEq, Nat.reduceLeDiff]
  refine ⟨_, num10_spec _ _, ?_⟩
  simp only [TT, ↓reduceIte, Nat.reduceEqDiff, Nat.reduceAdd, Nat.reduceMul, reduceCtorEq, Nat.reduceLeDiff]
  refine ⟨_, num10_spec _ _, ?_⟩
  simp only [TT, ↓reduceIte, Nat.reduceEqDiff, Nat.reduceAdd, Nat.reduceMul, reduceCtorEq, Nat.reduceLeDiff]
  refine ⟨_, num10_spec _ _, ?_⟩
  simp only [TT, ↓reduceIte, Nat.reduceEqDiff, Nat.reduceAdd, Nat.reduceMul, reduceCtorEq, Nat.reduceLeDiff]
  refine ⟨_, num10_spec _ _, ?_⟩
  simp only [TT, ↓reduceIte, Nat.reduceEqDiff, Nat.reduceAdd, Nat.reduceMul, reduceCtorEq, Nat.reduceLeDiff]
  have w : IntKind.i64.wrap (0 + 0) = 0 := by rfl
  simp only [w, TT, ↓reduceIte, Nat.reduceEqDiff, Nat.reduceAdd, Nat.reduceMul, reduceCtorEq, Nat.reduceLeDiff]
  have ws : strOp BinOp.eql (strOf [104, 105]) (ByteArray.mk #[104, 105]) = some (.bool true) := by kernel_rfl
  simp only [ws, TT, ↓reduceIte, Nat.reduceEqDiff, Nat.reduceAdd, Nat.reduceMul, reduceCtorEq, Nat.reduceLeDiff]
  refine ⟨_, num10_spec _ _, ?_⟩
  simp only [TT, ↓reduceIte, Nat.reduceEqDiff, Nat.reduceAdd, Nat.reduceMul, reduceCtorEq, Nat.reduceLeDiff]
  refine ⟨_, num10_spec _ _, ?_⟩
  simp only [TT, ↓reduceIte, Nat.reduceEqDiff, Nat.reduceAdd, Nat.reduceMul, reduceCtorEq, Nat.reduceLeDiff]
  exact Ends.data (.inr rfl) (by simp [ET]) trivial
end Go.Proofs.YtonglhkiobibgaaGreatDoor
namespace Go.Proofs.YtonglhkiobibgaaGreatDoor
open Go.RowKit
set_option maxRecDepth 100000
abbrev L_o8 (fr : Bool) (l : List Ent) (i : Nat) : ASt := ⟨envOf [(0, fEnts fr l), (3, .os 0 0 i 2), (4, .v (.int .i64 i))], heapOf [(0, .row true 134 (eEnts (l.take i)))], 1⟩
set_option maxHeartbeats 1000000 in
theorem of08_spec (fr : Bool) (l : List Ent) (nb : Nat) (hl : l.length * 24 ≤ 140737488355328) : ASound Tryz.prog 62 [fEnts fr l] nb (.ret (fEnts true l) []) := by
  refine ok_62.sound (by simp) ⟨al_fEnts l, trivial⟩ ?_
  simp only [ac_62, fEnts, TT, ↓reduceIte, Nat.reduceEqDiff, Nat.reduceAdd, Nat.reduceMul, reduceCtorEq, Nat.reduceLeDiff]
  refine AWc.family (L_o8 fr l) (fun i => i ≤ l.length) (fun i => l.length - i) 0 (Nat.zero_le _) ?_ ?_
  · refine Weak.trans (Weak.virtC 134 2 (l := [(0, .fs fr (eEnts l) l.length), (3, .os 300000 0 0 2), (4, .v (.int .i64 0))]) (h := []) ?_ ?_) (Weak.calc [(300000, 0)] (by decide) ?_ ?_)
    · simp [WT]
    · simp [WT]
    · simp [WT, fEnts, al_Ents, ren_Ents]
    · simp [WT, eEnts]
  · intro i hi
    by_cases hlt : i < l.length
    · obtain ⟨e, hx, e1, e0⟩ := lt_at hlt
      obtain ⟨b0, b1⟩ := get_Ents hx
      have hs : eEnts (l.take (i + 1)) = eEnts (l.take i) ++ [.v (.string e.name), .v (.int .i64 e.ino)] := by rw [take_snoc hx]; simp [eEnts, eEnt]
      simp only [L_o8, fEnts, e1, e0, b0, b1, Int.toNat_natCast, TT, ↓reduceIte, Nat.reduceEqDiff, Nat.reduceAdd, Nat.reduceMul, reduceCtorEq, Nat.reduceLeDiff]
      rw [if_pos ⟨by rw [len_Ents, List.length_take]; omega, by omega⟩]
      refine famC_next (i + 1) (by omega) (by omega) ?_
      refine Weak.calc [(1000001, 0)] (by decide) ?_ ?_
      · simp [WT, fEnts, al_Ents, ren_Ents, wrap64 (x := (i : Int) + 1) (by omega)]
      · simp [WT, hs, AlL_append, renL_append, al_Ents, ren_Ents]
    · obtain rfl : i = l.length := by omega
      have e1 : ¬ ((l.length : Int) < (l.length : Int)) := by omega
      simp only [L_o8, fEnts, e1, List.take_length, TT, ↓reduceIte, Nat.reduceEqDiff, Nat.reduceAdd, Nat.reduceMul, reduceCtorEq, Nat.reduceLeDiff]
      refine Ends.weak (Weak.freezeC 0 (y := true) (e := 134) (cells := eEnts l) (by simp [ET]) (l := [(2, .fs true (eEnts l) l.length)]) (h := []) ?_ ?_) (Ends.data (.inr rfl) (by simp [ET]) (al_Ents _))
      · simp [okF, fzV, fzOne, ET, tk_Ents]
      · trivial
abbrev L_o7 (fr : Bool) (f : Fl) (i : Nat) : ASt := ⟨envOf [(1, .op 0 0), (2, .op 1 0), (3, .op 2 0), (4, .v (.int .i64 i))], heapOf [(0, .row true 108 [.v (.int .i64 f.size), fBks fr f.blocks]), (1, .row true 115 [.v (.int .i64 0), .v (.slice none 0 0)]), (2, .row true 115 [.v (.int .i64 f.size), .os 3 0 i 2]), (3, .row true 183 (eBks true (f.blocks.take i)))], 4⟩
set_option maxHeartbeats 1000000 in
theorem of07_spec (fr : Bool) (f : Fl) (nb : Nat) (hl : f.blocks.length * 32 ≤ 140737488355328) (hd : ∀ b ∈ f.blocks, b.data.length ≤ 140737488355328) : ASound Tryz.prog 63 [aFl fr f] nb (.ret (aFl true f) []) := by
  refine ok_63.sound (by simp) ⟨al_aFl f, trivial⟩ ?_
  simp only [ac_63, aFl, fBks, TT, ↓reduceIte, Nat.reduceEqDiff, Nat.reduceAdd, Nat.reduceMul, reduceCtorEq, Nat.reduceLeDiff]
  refine AWc.family (L_o7 fr f) (fun i => i ≤ f.blocks.length) (fun i => f.blocks.length - i) 0 (Nat.zero_le _) ?_ ?_
  · refine Weak.trans (Weak.virtC 183 2 (l := [(1, .op 0 0), (2, .op 100000 0), (3, .op 500000 0), (4, .v (.int .i64 0))]) (h := [(0, .row true 108 [.v (.int .i64 f.size), .fs fr (eBks fr f.blocks) f.blocks.length]), (100000, .row true 115 [.v (.int .i64 0), .v (.slice none 0 0)]), (500000, .row true 115 [.v (.int .i64 f.size), .os 800000 0 0 2])]) ?_ ?_) (Weak.calc [(0, 0), (100000, 1), (500000, 2), (800000, 3)] (by decide) ?_ ?_)
    · simp [WT]
    · simp [WT]
    · simp [WT]
    · have z : eBks true [] = [] := rfl
      simp [WT, fBks, al_Bks, ren_Bks, z]
  · intro i hi
    by_cases hlt : i < f.blocks.length
    · obtain ⟨b, hx, e1, e0⟩ := lt_at hlt
      obtain ⟨b0, b1⟩ := get_Bks (fr := fr) hx
      have hc := fun nb => copyBytes_spec fr b.data nb (hd b (List.mem_of_getElem? hx))
      simp only [fB] at hc
      have hs : eBks true (f.blocks.take (i + 1)) = eBks true (f.blocks.take i) ++ [.v (.int .i64 b.index), .fs true (eB b.data) b.data.length] := by rw [take_snoc hx]; simp [eBks, eBk]
      simp only [L_o7, fBks, e1, e0, b0, b1, Int.toNat_natCast, TT, ↓reduceIte, Nat.reduceEqDiff, Nat.reduceAdd, Nat.reduceMul, reduceCtorEq, Nat.reduceLeDiff]
      refine ⟨_, hc _, ?_⟩
      simp only [TT, ↓reduceIte, Nat.reduceEqDiff, Nat.reduceAdd, Nat.reduceMul, reduceCtorEq, Nat.reduceLeDiff]
      rw [if_pos ⟨by rw [len_Bks, List.length_take]; omega, by omega⟩]
      refine ⟨by rfl, famC_next (i + 1) (by omega) (by omega) ?_⟩
      refine Weak.calc [(0, 0), (1, 1), (2, 2), (2200004, 3)] (by decide) ?_ ?_
      · simp [WT, wrap64 (x := (i : Int) + 1) (by omega)]
      · simp [WT, hs, AlL_append, renL_append, fBks, al_Bks, ren_Bks, al_B, ren_B]
    · obtain rfl : i = f.blocks.length := by omega
      have e1 : ¬ ((f.blocks.length : Int) < (f.blocks.length : Int)) := by omega
      simp only [L_o7, fBks, e1, List.take_length, TT, ↓reduceIte, Nat.reduceEqDiff, Nat.reduceAdd, Nat.reduceMul, reduceCtorEq, Nat.reduceLeDiff]
      refine Ends.weak (Weak.freezeC 3 (y := true) (e := 183) (cells := eBks true f.blocks) (by simp [ET]) (l := [(2, .op 1 0)]) (h := [(1, .row true 115 [.v (.int .i64 f.size), .fs true (eBks true f.blocks) f.blocks.length])]) ?_ ?_) (Ends.data (.inr rfl) (by simp [ET]) ⟨trivial, al_Bks _, trivial⟩)
      · simp [okF, fzV, fzOne, ET]
      · refine ⟨⟨by decide, ?_⟩, trivial⟩
        simp only [rowFz, ET]
        exact ⟨⟨rfl, rfl⟩, .inr (.inr ⟨1, f.blocks.length, 2, rfl, by rw [tk_Bks]; rfl⟩)⟩
abbrev L_o10 (fr : Bool) (s : FSt) (i : Nat) : ASt := ⟨envOf [(1, .op 0 0), (2, .op 1 0), (3, .op 2 0), (4, .v (.int .i64 i))], heapOf [(0, .row true 24 [fNds fr s.nodes, .v (.int .i64 s.next)]), (1, .row true 28 [.v (.slice none 0 0), .v (.int .i64 0)]), (2, .row true 28 [.os 3 0 i 6, .v (.int .i64 s.next)]), (3, .row true 118 (eNds true (s.nodes.take i)))], 4⟩
/-- lengths as a program's memory bounds them -/
def okIn (s : FSt) : Prop := s.nodes.length * 80 ≤ 140737488355328 ∧ ∀ n ∈ s.nodes, n.entries.length * 24 ≤ 140737488355328 ∧ n.file.blocks.length * 32 ≤ 140737488355328 ∧ ∀ b ∈ n.file.blocks, b.data.length ≤ 140737488355328
theorem okIn.fs {s : FSt} (h : okIn s) : okFs s := ⟨by have := h.1; omega, fun n hn => by have := h.2 n hn; omega⟩
set_option maxHeartbeats 2000000 in
theorem of10_spec (fr : Bool) (s : FSt) (nb : Nat) (hs : okIn s) : ASound Tryz.prog 17 [aFs fr s] nb (.ret (aFs true s) []) := by
  refine ok_17.sound (by simp) ⟨al_aFs s, trivial⟩ ?_
  simp only [ac_17, aFs, fNds, TT, ↓reduceIte, Nat.reduceEqDiff, Nat.reduceAdd, Nat.reduceMul, reduceCtorEq, Nat.reduceLeDiff]
  refine AWc.family (L_o10 fr s) (fun i => i ≤ s.nodes.length) (fun i => s.nodes.length - i) 0 (Nat.zero_le _) ?_ ?_
  · refine Weak.trans (Weak.virtC 118 6 (l := [(1, .op 0 0), (2, .op 100000 0), (3, .op 500000 0), (4, .v (.int .i64 0))]) (h := [(0, .row true 24 [.fs fr (eNds fr s.nodes) s.nodes.length, .v (.int .i64 s.next)]), (100000, .row true 28 [.v (.slice none 0 0), .v (.int .i64 0)]), (500000, .row true 28 [.os 800000 0 0 6, .v (.int .i64 s.next)])]) ?_ ?_) (Weak.calc [(0, 0), (100000, 1), (500000, 2), (800000, 3)] (by decide) ?_ ?_)
    · simp [WT]
    · simp [WT]
    · simp [WT]
    · have z : eNds true [] = [] := rfl
      simp [WT, fNds, al_Nds, ren_Nds, z]
  · intro i hi
    by_cases hlt : i < s.nodes.length
    · obtain ⟨n, hx, e1, e0⟩ := lt_at hlt
      obtain ⟨a0, a1, a2, a3, a4, a5⟩ := get_Nds (fr := fr) hx
      obtain ⟨k1, k2, k3⟩ := hs.2 n (List.mem_of_getElem? hx)
      have hsz := hs.1
      have h8 := fun nb => of08_spec fr n.entries nb k1
      have h7 := fun nb => of07_spec fr n.file nb k2 k3
      simp only [fEnts, aFl, fBks] at h8 h7
      have hs2 : eNds true (s.nodes.take (i + 1)) = eNds true (s.nodes.take i) ++ [.v (.int .i64 n.ino), .v (.bool n.dir), .v (.int .i64 n.links), .fs true (eEnts n.entries) n.entries.length, .v (.int .i64 n.file.size), .fs true (eBks true n.file.blocks) n.file.blocks.length] := by rw [take_snoc hx]; simp [eNds, eNd, fEnts, fBks]
      simp only [L_o10, fNds, e1, e0, a0, a1, a2, a3, a4, a5, Int.toNat_natCast, TT, ↓reduceIte, Nat.reduceEqDiff, Nat.reduceAdd, Nat.reduceMul, reduceCtorEq, Nat.reduceLeDiff]
      refine ⟨_, h8 _, ?_⟩
      simp only [TT, ↓reduceIte, Nat.reduceEqDiff, Nat.reduceAdd, Nat.reduceMul, reduceCtorEq, Nat.reduceLeDiff]
      refine ⟨_, h7 _, ?_⟩
      simp only [TT, ↓reduceIte, Nat.reduceEqDiff, Nat.reduceAdd, Nat.reduceMul, reduceCtorEq, Nat.reduceLeDiff]
      rw [if_pos ⟨by rw [len_Nds, List.length_take]; omega, by omega⟩]
      refine ⟨by rfl, famC_next (i + 1) (by omega) (by omega) ?_⟩
      refine Weak.calc [(0, 0), (1, 1), (2, 2), (2800004, 3)] (by decide) ?_ ?_
      · simp [WT, wrap64 (x := (i : Int) + 1) (by omega)]
      · simp [WT, hs2, AlL_append, renL_append, fNds, al_Nds, ren_Nds, al_Ents, ren_Ents, al_Bks, ren_Bks]
    · obtain rfl : i = s.nodes.length := by omega
      have e1 : ¬ ((s.nodes.length : Int) < (s.nodes.length : Int)) := by omega
      simp only [L_o10, fNds, e1, List.take_length, TT, ↓reduceIte, Nat.reduceEqDiff, Nat.reduceAdd, Nat.reduceMul, reduceCtorEq, Nat.reduceLeDiff]
      refine Ends.weak (Weak.freezeC 3 (y := true) (e := 118) (cells := eNds true s.nodes) (by simp [ET]) (l := [(2, .op 1 0)]) (h := [(1, .row true 28 [.fs true (eNds true s.nodes) s.nodes.length, .v (.int .i64 s.next)])]) ?_ ?_) (Ends.data (.inr rfl) (by simp [ET]) ⟨al_Nds _, trivial, trivial⟩)
      · simp [okF, fzV, fzOne, ET]
      · refine ⟨⟨by decide, ?_⟩, trivial⟩
        simp only [rowFz, ET]
        exact ⟨⟨rfl, rfl⟩, .inr (.inr ⟨0, s.nodes.length, 6, rfl, by rw [tk_Nds]; rfl⟩)⟩
end Go.Proofs.YtonglhkiobibgaaGreatDoor
namespace Go.Proofs.YtonglhkiobibgaaGreatDoor
open Go.RowKit
set_option maxRecDepth 100000
theorem rdt_ent : Rd Tryz.prog 180 (fun _ e => eEnt e) (fun e => e.name.size ≤ maxLen ∧ wf64 e.ino) :=
  (rd_struct Tryz.underlying180 (by kernel_rfl) (RdF.cons (c := 1) rfl (by kernel_rfl) rdt_str (RdF.cons (c := 1) rfl (by kernel_rfl) rdt_num RdF.nil))).map
    (fun x => (⟨x.1, x.2.1⟩ : Ent)) (fun b => (b.name, b.ino, ())) (fun fr b => rfl) (fun fr b => rfl) fun a h => ⟨h.1, h.2.1⟩
theorem rdt_ents : Rd Tryz.prog 105 (fun fr l => [fEnts fr l]) (fun l => l.length * 24 ≤ reachB ∧ ∀ x ∈ l, x.name.size ≤ maxLen ∧ wf64 x.ino) :=
  rd_slice (B := 24) Tryz.underlying105 (by kernel_rfl) (by kernel_rfl) (by rw [show Tryz.prog.cellsOf 180 = 2 from by kernel_rfl]; decide) rdt_ent
def okBk7 (b : Bk) : Prop := wf64 b.index ∧ okBytes b.data
theorem rdt_bk : Rd Tryz.prog 182 (fun fr b => eBk fr b) okBk7 :=
  (rd_struct Tryz.underlying182 (by kernel_rfl) (RdF.cons (c := 1) rfl (by kernel_rfl) rdt_num (RdF.cons (c := 1) rfl (by kernel_rfl) rdt_bytes RdF.nil))).map
    (fun x => (⟨x.1, x.2.1⟩ : Bk)) (fun b => (b.index, b.data, ())) (fun fr b => rfl) (fun fr b => rfl) fun a h => ⟨h.1, h.2.1⟩
theorem rdt_bks : Rd Tryz.prog 106 (fun fr l => [fBks fr l]) (fun l => l.length * 32 ≤ reachB ∧ ∀ x ∈ l, okBk7 x) :=
  rd_slice (B := 32) Tryz.underlying106 (by kernel_rfl) (by kernel_rfl) (by rw [show Tryz.prog.cellsOf 182 = 2 from by kernel_rfl]; decide) rdt_bk
structure okFl7 (f : Fl) : Prop where
  z : wf64 f.size
  b : f.blocks.length * 32 ≤ reachB
  d : ∀ x ∈ f.blocks, okBk7 x
theorem rdt_fl : Rd Tryz.prog 108 (fun fr (f : Fl) => [.v (.int .i64 f.size), fBks fr f.blocks]) okFl7 :=
  (rd_struct Tryz.underlying108 (by kernel_rfl) (RdF.cons (c := 1) rfl (by kernel_rfl) rdt_num (RdF.cons (c := 1) rfl (by kernel_rfl) rdt_bks RdF.nil))).map
    (fun x => (⟨x.1, x.2.1⟩ : Fl)) (fun b => (b.size, b.blocks, ())) (fun fr b => rfl) (fun fr b => rfl) fun a h => ⟨h.1, h.2.1.1, h.2.1.2⟩
theorem rdt_bool : Rd Tryz.prog 4 (fun _ x => [.v (.bool x)]) (fun _ => True) := rd_bool Tryz.underlying4 (by kernel_rfl)
structure okNd7 (n : Nd) : Prop where
  i : wf64 n.ino
  l : wf64 n.links
  e : n.entries.length * 24 ≤ reachB
  f : okFl7 n.file
theorem rdt_nd : Rd Tryz.prog 110 (fun fr n => eNd fr n) okNd7 :=
  (rd_struct Tryz.underlying110 (by kernel_rfl) (RdF.cons (c := 1) rfl (by kernel_rfl) rdt_num (RdF.cons (c := 1) rfl (by kernel_rfl) rdt_bool (RdF.cons (c := 1) rfl (by kernel_rfl) rdt_num (RdF.cons (c := 1) rfl (by kernel_rfl) rdt_ents (RdF.cons (c := 2) rfl (by kernel_rfl) rdt_fl RdF.nil)))))).map
    (fun x => (⟨x.1, x.2.1, x.2.2.1, x.2.2.2.1, x.2.2.2.2.1⟩ : Nd)) (fun b => (b.ino, b.dir, b.links, b.entries, b.file, ())) (fun fr b => rfl) (fun fr b => rfl) fun a h => ⟨h.1, h.2.2.1, h.2.2.2.1.1, h.2.2.2.2.1⟩
theorem rdt_nds : Rd Tryz.prog 22 (fun fr l => [fNds fr l]) (fun l => l.length * 80 ≤ reachB ∧ ∀ x ∈ l, okNd7 x) :=
  rd_slice (B := 80) Tryz.underlying22 (by kernel_rfl) (by kernel_rfl) (by rw [show Tryz.prog.cellsOf 110 = 6 from by kernel_rfl]; decide) rdt_nd
structure okSt7 (s : FSt) : Prop where
  n : s.nodes.length * 80 ≤ reachB
  d : ∀ x ∈ s.nodes, okNd7 x
  x : wf64 s.next
theorem rdt_fs : Rd Tryz.prog 24 (fun fr (s : FSt) => [fNds fr s.nodes, .v (.int .i64 s.next)]) okSt7 :=
  (rd_struct Tryz.underlying24 (by kernel_rfl) (RdF.cons (c := 1) rfl (by kernel_rfl) rdt_nds (RdF.cons (c := 1) rfl (by kernel_rfl) rdt_num RdF.nil))).map
    (fun x => (⟨x.1, x.2.1⟩ : FSt)) (fun b => (b.nodes, b.next, ())) (fun fr b => rfl) (fun fr b => rfl) fun a h => ⟨h.1.1, h.1.2, h.2.1⟩
theorem open_fs {H : Type} {enc : TypeId × Value → H} {W : World} {base : Nat} {v : Value} {d : DataW H} {ps : List MemPlace} (hv : Value.okWide Tryz.prog W .any base 24 v) (h : DataW.Trod enc Tryz.prog W 0 (fun _ => true) true 24 v d ps)
    (hw : (d.weights Tryz.prog 24).all (· ≤ reachBytes) = true) : ∃ s, okSt7 s ∧ VR (cx0 W) (aFs false s) v := by
  simp only [Value.okWide, Tryz.underlying24] at hv
  obtain ⟨cs, rfl, _, _⟩ := hv
  obtain ⟨fuel, h⟩ := h
  obtain ⟨s, h1, h2⟩ := rdt_fs.rd h hw
  refine ⟨s, h1, ?_⟩
  rw [aFs, VR]
  exact ⟨_, rfl, h2⟩
theorem open_str {H : Type} {enc : TypeId × Value → H} {W : World} {base : Nat} {v : Value} {d : DataW H} {ps : List MemPlace} (hv : Value.okWide Tryz.prog W .any base 9 v) (h : DataW.Trod enc Tryz.prog W 0 (fun _ => true) true 9 v d ps)
    (hw : (d.weights Tryz.prog 9).all (· ≤ reachBytes) = true) : ∃ s, s.size ≤ maxLen ∧ VR (cx0 W) (.v (.string s)) v := by
  have hc : v.cells.toList = [v] := by
    cases v <;> first | rfl | (exfalso; simp [Value.okWide, Cell.okWide, Cell.ok, Tryz.underlying9] at hv)
  obtain ⟨fuel, h⟩ := h
  obtain ⟨s, h1, h2⟩ := rdt_str.rd h hw
  refine ⟨s, h1, ?_⟩
  rw [hc, VRl] at h2
  obtain ⟨u, us, e, _, h3, _⟩ := h2
  cases e
  exact h3
theorem okSt7.inn {s : FSt} (h : okSt7 s) : okIn s := by
  have h1 := h.n
  unfold reachB at h1
  refine ⟨by omega, fun n hn => ?_⟩
  obtain ⟨_, _, e, f⟩ := h.d n hn
  have f1 := f.b
  unfold reachB at e f1
  exact ⟨by omega, by omega, fun b hb => by have := okBytes_le (f.d b hb).2; omega⟩
end Go.Proofs.YtonglhkiobibgaaGreatDoor
namespace Go.Proofs.YtonglhkiobibgaaGreatDoor
open Go.RowKit
set_option maxRecDepth 100000
def listR (s : FSt) (p : ByteArray) : List ByteArray × Int := match findC s p with
  | .ok t => if (nodA s t).dir = true then ((nodA s t).entries.map Ent.name, 0) else ([], 103)
  | .error cd => ([], cd)
abbrev L_ls (fr : Bool) (l : List Ent) (i : Nat) : ASt := ⟨envOf [(8, .os 0 0 i 1), (31, fEnts fr l), (32, .v (.int .i64 l.length)), (33, .v (.int .i64 i))], heapOf [(0, .row true 9 (eS ((l.take i).map Ent.name)))], 1⟩
set_option maxHeartbeats 2000000 in
theorem list_full (fr : Bool) (s : FSt) (p : ByteArray) (nb : Nat) (hs : okFs s) (hsm : ∀ n ∈ s.nodes, n.entries.length ≤ 8796093022200) : ASound Tryz.prog 28 [aFs fr s, .v (.string p)] nb (.ret (.tup [fS true (listR s p).1, .v (.int .i64 (listR s p).2)]) []) := by
  refine ok_28.sound (by simp) ⟨al_aFs s, trivial, trivial⟩ ?_
  have hf := fun nb => findG_spec fr s p nb hs
  simp only [aFs, fNds] at hf
  rcases findG_cases fr s p hs with ⟨t, n, e1, e2, hx, hi, hA⟩ | ⟨cd, x, e1, hcd, e2 | e2⟩
  · obtain ⟨a0, a1, a2, a3, a4, a5⟩ := get_Nds (fr := fr) hx
    rw [e2] at hf
    cases hd : n.dir
    · have e3 : listR s p = ([], 103) := by simp only [listR, e1, hA, hd]; rfl
      rw [e3]
      simp only [ac_28, aFs, fNds, TT, ↓reduceIte, Nat.reduceEqDiff, Nat.reduceAdd, Nat.reduceMul, reduceCtorEq, Nat.reduceLeDiff]
      refine ⟨_, hf _, ?_⟩
      simp only [a1, hd, Bool.not_false, TT, ↓reduceIte, Nat.reduceEqDiff, Nat.reduceAdd, Nat.reduceMul, reduceCtorEq, Nat.reduceLeDiff]
      exact Ends.imp (.inr rfl) (r0 := .tup [.v (.slice none 0 0), .v (.int .i64 103)]) (by simp [ET]) ⟨trivial, trivial, trivial⟩ (Imp.tupL ⟨Imp.nil true, Imp.refl _, trivial⟩)
    · have e3 : listR s p = (n.entries.map Ent.name, 0) := by simp only [listR, e1, hA, hd]; rfl
      rw [e3]
      have hnl := hsm n (List.mem_of_getElem? hx)
      simp only [ac_28, aFs, fNds, TT, ↓reduceIte, Nat.reduceEqDiff, Nat.reduceAdd, Nat.reduceMul, reduceCtorEq, Nat.reduceLeDiff]
      refine ⟨_, hf _, ?_⟩
      simp only [a1, a3, hd, Bool.not_true, TT, ↓reduceIte, Nat.reduceEqDiff, Nat.reduceAdd, Nat.reduceMul, reduceCtorEq, Nat.reduceLeDiff]
      refine AWc.family (L_ls fr n.entries) (fun i => i ≤ n.entries.length) (fun i => n.entries.length - i) 0 (Nat.zero_le _) ?_ ?_
      · refine Weak.trans (Weak.virtC 9 1 (l := [(8, .os 2700000 0 0 1), (31, .fs fr (eEnts n.entries) n.entries.length), (32, .v (.int .i64 n.entries.length)), (33, .v (.int .i64 0))]) (h := []) ?_ ?_) (Weak.calc [(2700000, 0)] (by decide) ?_ ?_)
        · exact ⟨.inr ⟨rfl, rfl⟩, .inl rfl, .inl rfl, .inl rfl, trivial⟩
        · trivial
        · simp [WT, fEnts, al_Ents, ren_Ents]
        · simp [WT, eS]
      · intro i hi
        by_cases hlt : i < n.entries.length
        · obtain ⟨e, hxe, e1, e0⟩ := lt_at hlt
          obtain ⟨b0, b1⟩ := get_Ents hxe
          have hlen : (eS ((n.entries.take i).map Ent.name)).length = i := by rw [len_S, List.length_map, List.length_take]; omega
          have hm : ((i + 1) * 16 ≤ 140737488355328) = True := eq_true (by omega)
          have hsn : eS ((n.entries.take (i + 1)).map Ent.name) = eS ((n.entries.take i).map Ent.name) ++ [.v (.string e.name)] := by
            rw [take_snoc hxe, List.map_append]; simp [eS]
          simp only [L_ls, fEnts, e1, e0, b0, b1, hlen, hm, Int.toNat_natCast, TT, ↓reduceIte, Nat.reduceEqDiff, Nat.reduceAdd, Nat.reduceMul, reduceCtorEq, Nat.reduceLeDiff]
          refine famC_next (i + 1) (by omega) (by omega) ?_
          simp only [L_ls, hsn]
          refine Weak.calc [(900001, 0)] (by decide) ?_ ?_ <;> simp [WT, al_S, ren_S, fEnts, al_Ents, ren_Ents, wrap64 (x := (i : Int) + 1) (by omega)]
        · obtain rfl : i = n.entries.length := by omega
          have e1 : ¬ ((n.entries.length : Int) < (n.entries.length : Int)) := by omega
          simp only [L_ls, fEnts, e1, TT, ↓reduceIte, Nat.reduceEqDiff, Nat.reduceAdd, Nat.reduceMul, reduceCtorEq, Nat.reduceLeDiff]
          refine Ends.weak (Weak.freezeC 0 rfl (l := [(4, fS true (n.entries.map Ent.name)), (5, .v (.int .i64 0))]) (h := []) ?_ ?_) (Ends.data (.inr rfl) (by simp [ET]) ⟨al_S _, trivial, trivial⟩)
          · have h9 : List.take n.entries.length (eS (n.entries.map Ent.name)) = eS (n.entries.map Ent.name) := List.take_of_length_le (by rw [len_S, List.length_map]; exact Nat.le_refl _)
            simp [WT, fS, List.take_length, h9]
          · trivial
  · have hcd := fun nb => fcode_spec true cd x nb
    rw [e2] at hf
    have e3 : listR s p = ([], cd) := by simp only [listR, e1]
    rw [e3]
    simp only [ac_28, aFs, fNds, TT, ↓reduceIte, Nat.reduceEqDiff, Nat.reduceAdd, Nat.reduceMul, reduceCtorEq, Nat.reduceLeDiff]
    refine ⟨_, hf _, ?_⟩
    simp only [TT, ↓reduceIte, Nat.reduceEqDiff, Nat.reduceAdd, Nat.reduceMul, reduceCtorEq, Nat.reduceLeDiff]
    refine ⟨_, hcd _, ?_⟩
    simp only [TT, ↓reduceIte, Nat.reduceEqDiff, Nat.reduceAdd, Nat.reduceMul, reduceCtorEq, Nat.reduceLeDiff]
    exact Ends.imp (.inr rfl) (r0 := .tup [.v (.slice none 0 0), .v (.int .i64 cd)]) (by simp [ET]) ⟨trivial, trivial, trivial⟩ (Imp.tupL ⟨Imp.nil true, Imp.refl _, trivial⟩)
  · have hcd := fun nb => fcodeW_spec findS true cd x nb
    rw [e2] at hf
    have e3 : listR s p = ([], cd) := by simp only [listR, e1]
    rw [e3]
    simp only [ac_28, aFs, fNds, aWrp, TT, ↓reduceIte, Nat.reduceEqDiff, Nat.reduceAdd, Nat.reduceMul, reduceCtorEq, Nat.reduceLeDiff] at hf hcd ⊢
    refine ⟨_, hf _, ?_⟩
    simp only [TT, ↓reduceIte, Nat.reduceEqDiff, Nat.reduceAdd, Nat.reduceMul, reduceCtorEq, Nat.reduceLeDiff]
    refine ⟨_, hcd _, ?_⟩
    simp only [TT, ↓reduceIte, Nat.reduceEqDiff, Nat.reduceAdd, Nat.reduceMul, reduceCtorEq, Nat.reduceLeDiff]
    exact Ends.imp (.inr rfl) (r0 := .tup [.v (.slice none 0 0), .v (.int .i64 cd)]) (by simp [ET]) ⟨trivial, trivial, trivial⟩ (Imp.tupL ⟨Imp.nil true, Imp.refl _, trivial⟩)
end Go.Proofs.YtonglhkiobibgaaGreatDoor
namespace Go.Proofs.YtonglhkiobibgaaGreatDoor
set_option maxRecDepth 100000
def ac_5 : AC :=
(.seq (.reg false [⟨some 2, .box 24 (.tmp 0), none, [0], []⟩,
    ⟨some 4, .mv (.const (.bool false)), none, [], []⟩] [1, 2])
(.seq (.seq (.reg false [⟨some 20, .call 15 [], none, [], []⟩,
    ⟨some 21, .un .not (.tmp 20), none, [20], []⟩] [1, 2, 21])
(.cond (.tmp 21)
(.seq (.reg false [⟨some 4, .mv (.const (.bool false)), none, [], []⟩] [4])
.ret)
.skip))
(.seq (.reg false [⟨some 23, .load true 2 (.tmp 2), none, [2], []⟩,
    ⟨some 24, .call 17 [(.tmp 23)], none, [23], []⟩,
    ⟨some 25, .mv (.tmp 1), none, [1], []⟩,
    ⟨some 26, .call 28 [(.tmp 24), (.tmp 25)], none, [24, 25], []⟩,
    ⟨some 22, .mv (.tmp 26), none, [26], []⟩,
    ⟨some 27, .ext 0 (.tmp 22), none, [22], []⟩,
    ⟨some 28, .ext 1 (.tmp 22), none, [22], []⟩,
    ⟨some 5, .mv (.tmp 27), none, [27], []⟩,
    ⟨some 6, .mv (.tmp 28), none, [28], []⟩] [1, 2, 5, 6])
(.seq (.seq (.reg false [⟨some 29, .mv (.tmp 6), none, [6], []⟩,
    ⟨some 30, .call 19 [(.tmp 29)], none, [29], []⟩,
    ⟨some 31, .bin .neq (.tmp 30) (.const (.int .i64 (0))), none, [30], []⟩] [1, 2, 5, 31])
(.cond (.tmp 31)
(.seq (.reg false [⟨some 32, .mv (.tmp 5), none, [5], []⟩,
    ⟨some 33, .len false (.tmp 32), none, [32], []⟩,
    ⟨some 34, .bin .eql (.tmp 33) (.const (.int .i64 (0))), none, [33], []⟩,
    ⟨some 4, .mv (.tmp 34), none, [34], []⟩] [4])
.ret)
.skip))
(.seq (.reg false [⟨some 36, .load true 2 (.tmp 2), none, [2], []⟩,
    ⟨some 37, .call 17 [(.tmp 36)], none, [36], []⟩,
    ⟨some 38, .mv (.tmp 1), none, [1], []⟩,
    ⟨some 39, .call 29 [(.tmp 37), (.tmp 38)], none, [37, 38], []⟩,
    ⟨some 35, .mv (.tmp 39), none, [39], []⟩,
    ⟨some 40, .ext 0 (.tmp 35), none, [35], []⟩,
    ⟨some 41, .ext 1 (.tmp 35), none, [35], []⟩,
    ⟨some 42, .ext 2 (.tmp 35), none, [35], []⟩,
    ⟨some 43, .ext 3 (.tmp 35), none, [35], []⟩,
    ⟨some 44, .ext 4 (.tmp 35), none, [35], []⟩,
    ⟨some 7, .mv (.tmp 40), none, [40], []⟩,
    ⟨some 8, .mv (.tmp 41), none, [41], []⟩,
    ⟨some 9, .mv (.tmp 42), none, [42], []⟩,
    ⟨some 10, .mv (.tmp 43), none, [43], []⟩,
    ⟨some 11, .mv (.tmp 44), none, [44], []⟩] [1, 2, 5, 8, 9, 11])
(.seq (.seq (.reg false [⟨some 45, .mv (.tmp 11), none, [11], []⟩,
    ⟨some 46, .call 19 [(.tmp 45)], none, [45], []⟩,
    ⟨some 47, .bin .neq (.tmp 46) (.const (.int .i64 (0))), none, [46], []⟩,
    ⟨some 48, .mv (.tmp 47), none, [47], []⟩,
    ⟨some 49, .mv (.tmp 8), some (48, false), [8, 48], []⟩,
    ⟨some 50, .un .not (.tmp 49), some (48, false), [49, 48], []⟩,
    ⟨some 51, .pick (.tmp 48) (.const (.bool true)) (.tmp 50), none, [48, 50], []⟩,
    ⟨some 52, .mv (.tmp 51), none, [51], []⟩,
    ⟨some 53, .mv (.tmp 9), some (52, false), [9, 52], []⟩,
    ⟨some 54, .mv (.tmp 5), some (52, false), [5, 52], []⟩,
    ⟨some 55, .len false (.tmp 54), some (52, false), [54, 52], []⟩,
    ⟨some 56, .bin .neq (.tmp 53) (.tmp 55), some (52, false), [53, 55, 52], []⟩,
    ⟨some 57, .pick (.tmp 52) (.const (.bool true)) (.tmp 56), none, [52, 56], []⟩] [1, 2, 5, 57])
(.cond (.tmp 57)
(.seq (.reg false [⟨some 4, .mv (.const (.bool false)), none, [], []⟩] [4])
.ret)
.skip))
(.seq (.seq (.reg false [⟨some 12, .mv (.const (.int .i64 (0))), none, [], []⟩] [1, 2, 5, 12])
(.block 0 (.loop (.seq (.seq (.reg false [⟨some 58, .mv (.tmp 12), none, [12], []⟩,
    ⟨some 59, .mv (.tmp 5), none, [5], []⟩,
    ⟨some 60, .len false (.tmp 59), none, [59], []⟩,
    ⟨some 61, .bin .lss (.tmp 58) (.tmp 60), none, [58, 60], []⟩] [1, 2, 5, 12, 61])
(.cond (.tmp 61)
.skip
(.exit 0)))
(.seq (.block 1 (.seq (.seq (.reg true [⟨some 64, .mv (.tmp 12), none, [12], []⟩,
    ⟨some 65, .bin .gtr (.tmp 64) (.const (.int .i64 (0))), none, [64], [0]⟩,
    ⟨some 66, .mv (.tmp 65), none, [65], [1, 0]⟩,
    ⟨some 67, .mv (.tmp 5), some (66, true), [5, 66], [2, 1, 0]⟩,
    ⟨some 68, .mv (.tmp 12), some (66, true), [12, 66], [2, 1, 0]⟩,
    ⟨some 69, .idx 1 (.tmp 67) (.tmp 68), some (66, true), [67, 68, 66], [3, 4, 2, 1, 0]⟩,
    ⟨some 70, .load false 1 (.tmp 69), some (66, true), [69, 66], [5, 2, 3, 4, 1, 0]⟩,
    ⟨some 71, .mv (.tmp 5), some (66, true), [5, 66], [2, 1, 0]⟩,
    ⟨some 72, .mv (.tmp 12), some (66, true), [12, 66], [2, 1, 0]⟩,
    ⟨some 73, .bin .sub (.tmp 72) (.const (.int .i64 (1))), some (66, true), [72, 66], [8, 2, 1, 0]⟩,
    ⟨some 74, .idx 1 (.tmp 71) (.tmp 73), some (66, true), [71, 73, 66], [7, 9, 2, 1, 0, 8]⟩,
    ⟨some 75, .load false 1 (.tmp 74), some (66, true), [74, 66], [10, 2, 7, 9, 1, 0, 8]⟩,
    ⟨some 76, .bin .leq (.tmp 70) (.tmp 75), some (66, true), [70, 75, 66], [6, 11, 2, 5, 3, 4, 1, 0, 10, 7, 9, 8]⟩,
    ⟨some 77, .pick (.tmp 66) (.tmp 76) (.const (.bool false)), none, [66, 76], [2, 12, 1, 0, 6, 11, 5, 3, 4, 10, 7, 9, 8]⟩] [1, 2, 5, 12, 77])
(.cond (.tmp 77)
(.seq (.reg false [⟨some 4, .mv (.const (.bool false)), none, [], []⟩] [4])
.ret)
.skip))
(.seq (.seq (.reg false [⟨some 78, .mv (.tmp 1), none, [1], []⟩,
    ⟨some 79, .len true (.tmp 78), none, [78], []⟩,
    ⟨some 80, .bin .add (.tmp 79) (.const (.int .i64 (1))), none, [79], []⟩,
    ⟨some 81, .mv (.tmp 5), none, [5], []⟩,
    ⟨some 82, .mv (.tmp 12), none, [12], []⟩,
    ⟨some 83, .idx 1 (.tmp 81) (.tmp 82), none, [81, 82], []⟩,
    ⟨some 84, .load false 1 (.tmp 83), none, [83], []⟩,
    ⟨some 85, .len true (.tmp 84), none, [84], []⟩,
    ⟨some 86, .bin .add (.tmp 80) (.tmp 85), none, [80, 85], []⟩,
    ⟨some 87, .bin .gtr (.tmp 86) (.const (.int .i64 (128))), none, [86], []⟩] [1, 2, 5, 12, 87])
(.cond (.tmp 87)
(.exit 1)
.skip))
(.seq (.reg true [⟨some 89, .load true 2 (.tmp 2), none, [2], []⟩,
    ⟨some 90, .call 17 [(.tmp 89)], none, [89], [0]⟩,
    ⟨some 91, .mv (.tmp 1), none, [1], []⟩,
    ⟨some 92, .bin .add (.tmp 91) (.const (.string (ByteArray.mk #[47]))), none, [91], [2]⟩,
    ⟨some 93, .mv (.tmp 5), none, [5], []⟩,
    ⟨some 94, .mv (.tmp 12), none, [12], []⟩,
    ⟨some 95, .idx 1 (.tmp 93) (.tmp 94), none, [93, 94], [4, 5]⟩,
    ⟨some 96, .load false 1 (.tmp 95), none, [95], [6, 4, 5]⟩,
    ⟨some 97, .bin .add (.tmp 92) (.tmp 96), none, [92, 96], [3, 7, 2, 6, 4, 5]⟩,
    ⟨some 98, .call 30 [(.tmp 90), (.tmp 97)], none, [90, 97], [1, 8, 0, 3, 7, 2, 6, 4, 5]⟩,
    ⟨some 88, .mv (.tmp 98), none, [98], [9, 1, 8, 0, 3, 7, 2, 6, 4, 5]⟩,
    ⟨some 99, .ext 0 (.tmp 88), none, [88], [10, 9, 1, 8, 0, 3, 7, 2, 6, 4, 5]⟩,
    ⟨some 100, .ext 1 (.tmp 88), none, [88], [10, 9, 1, 8, 0, 3, 7, 2, 6, 4, 5]⟩,
    ⟨some 13, .mv (.tmp 99), none, [99], [11, 9, 0, 1, 2, 3, 4, 5, 6, 7, 8, 10]⟩,
    ⟨some 14, .mv (.tmp 100), none, [100], [12, 13, 0, 1, 2, 3, 4, 5, 6, 7, 8, 9, 10, 11]⟩] [1, 2, 5, 12, 13, 14])
(.seq (.reg true [⟨some 102, .load true 2 (.tmp 2), none, [2], []⟩,
    ⟨some 103, .call 17 [(.tmp 102)], none, [102], [0]⟩,
    ⟨some 104, .mv (.tmp 1), none, [1], []⟩,
    ⟨some 105, .bin .add (.tmp 104) (.const (.string (ByteArray.mk #[47]))), none, [104], [2]⟩,
    ⟨some 106, .mv (.tmp 5), none, [5], []⟩,
    ⟨some 107, .mv (.tmp 12), none, [12], []⟩,
    ⟨some 108, .idx 1 (.tmp 106) (.tmp 107), none, [106, 107], [4, 5]⟩,
    ⟨some 109, .load false 1 (.tmp 108), none, [108], [6, 4, 5]⟩,
    ⟨some 110, .bin .add (.tmp 105) (.tmp 109), none, [105, 109], [3, 7, 2, 6, 4, 5]⟩,
    ⟨some 111, .call 29 [(.tmp 103), (.tmp 110)], none, [103, 110], [1, 8, 0, 3, 7, 2, 6, 4, 5]⟩,
    ⟨some 101, .mv (.tmp 111), none, [111], [9, 1, 8, 0, 3, 7, 2, 6, 4, 5]⟩,
    ⟨some 112, .ext 0 (.tmp 101), none, [101], [10, 9, 1, 8, 0, 3, 7, 2, 6, 4, 5]⟩,
    ⟨some 113, .ext 1 (.tmp 101), none, [101], [10, 9, 1, 8, 0, 3, 7, 2, 6, 4, 5]⟩,
    ⟨some 114, .ext 2 (.tmp 101), none, [101], [10, 9, 1, 8, 0, 3, 7, 2, 6, 4, 5]⟩,
    ⟨some 115, .ext 3 (.tmp 101), none, [101], [10, 9, 1, 8, 0, 3, 7, 2, 6, 4, 5]⟩,
    ⟨some 116, .ext 4 (.tmp 101), none, [101], [10, 9, 1, 8, 0, 3, 7, 2, 6, 4, 5]⟩,
    ⟨some 15, .mv (.tmp 112), none, [112], [11, 9, 0, 1, 2, 3, 4, 5, 6, 7, 8, 10]⟩,
    ⟨some 16, .mv (.tmp 113), none, [113], [12, 16, 0, 1, 2, 3, 4, 5, 6, 7, 8, 9, 10, 11]⟩,
    ⟨some 17, .mv (.tmp 114), none, [114], [13, 17, 0, 1, 2, 3, 4, 5, 6, 7, 8, 9, 10, 11, 12, 16]⟩,
    ⟨some 18, .mv (.tmp 115), none, [115], [14, 18, 0, 1, 2, 3, 4, 5, 6, 7, 8, 9, 10, 11, 12, 13, 16, 17]⟩,
    ⟨some 19, .mv (.tmp 116), none, [116], [15, 19, 0, 1, 2, 3, 4, 5, 6, 7, 8, 9, 10, 11, 12, 13, 14, 16, 17, 18]⟩] [1, 2, 5, 12, 13, 14, 15, 18, 19])
(.seq (.reg false [⟨some 117, .mv (.tmp 14), none, [14], []⟩,
    ⟨some 118, .call 19 [(.tmp 117)], none, [117], []⟩,
    ⟨some 119, .mv (.tmp 19), none, [19], []⟩,
    ⟨some 120, .call 19 [(.tmp 119)], none, [119], []⟩,
    ⟨some 121, .bin .add (.tmp 118) (.tmp 120), none, [118, 120], []⟩,
    ⟨some 122, .bin .neq (.tmp 121) (.const (.int .i64 (0))), none, [121], []⟩,
    ⟨some 123, .mv (.tmp 122), none, [122], []⟩,
    ⟨some 124, .mv (.tmp 15), some (123, false), [15, 123], []⟩,
    ⟨some 125, .mv (.tmp 13), some (123, false), [13, 123], []⟩,
    ⟨some 126, .bin .neq (.tmp 124) (.tmp 125), some (123, false), [124, 125, 123], []⟩,
    ⟨some 127, .pick (.tmp 123) (.const (.bool true)) (.tmp 126), none, [123, 126], []⟩,
    ⟨some 128, .mv (.tmp 127), none, [127], []⟩,
    ⟨some 129, .mv (.tmp 13), some (128, false), [13, 128], []⟩,
    ⟨some 130, .bin .leq (.tmp 129) (.const (.int .i64 (1))), some (128, false), [129, 128], []⟩,
    ⟨some 131, .pick (.tmp 128) (.const (.bool true)) (.tmp 130), none, [128, 130], []⟩,
    ⟨some 132, .mv (.tmp 131), none, [131], []⟩,
    ⟨some 133, .mv (.tmp 18), some (132, false), [18, 132], []⟩,
    ⟨some 134, .bin .lss (.tmp 133) (.const (.int .i64 (1))), some (132, false), [133, 132], []⟩,
    ⟨some 135, .pick (.tmp 132) (.const (.bool true)) (.tmp 134), none, [132, 134], []⟩] [1, 2, 5, 12, 135])
(.cond (.tmp 135)
(.seq (.reg false [⟨some 4, .mv (.const (.bool false)), none, [], []⟩] [4])
.ret)
.skip)))))))
(.reg false [⟨some 62, .mv (.tmp 12), none, [12], []⟩,
    ⟨some 63, .bin .add (.tmp 62) (.const (.int .i64 (1))), none, [62], []⟩,
    ⟨some 12, .mv (.tmp 63), none, [63], []⟩] [1, 2, 5, 12]))))))
(.seq (.reg false [⟨some 4, .mv (.const (.bool true)), none, [], []⟩] [4])
.ret))))))))
theorem ok_5 : FnOk Tryz.prog 5 136 ac_5 [.tmp 4] := ⟨Tryz.f5, Tryz.func5, by kernel_rfl, by kernel_rfl, by kernel_rfl, by kernel_rfl, by kernel_rfl⟩
end Go.Proofs.YtonglhkiobibgaaGreatDoor
namespace Go.Proofs.YtonglhkiobibgaaGreatDoor
open Go.RowKit
set_option maxRecDepth 100000
abbrev L_fl (fr : Bool) (s : FSt) (p : ByteArray) (ns : List ByteArray) (i : Nat) : ASt := ⟨envOf [(1, .v (.string p)), (2, .op 0 0), (5, fS true ns), (12, .v (.int .i64 i))], heapOf [(0, .row true 24 [fNds fr s.nodes, .v (.int .i64 s.next)])], 1⟩
theorem less_not {a b : ByteArray} (h : lessS b a = true) : strOp BinOp.leq a b = some (.bool false) := by
  have h1 : lessS a b = false := by
    cases h9 : lessS a b with
    | false => rfl
    | true => have := lessS_trans h9 h; rw [lessS_irr] at this; cases this
  have h2 : a ≠ b := fun e => by rw [e, lessS_irr] at h; cases h
  show some (Value.bool (Op.bytesLess a.toList b.toList || decide (a = b))) = _
  have h1' : Op.bytesLess a.toList b.toList = false := h1
  rw [h1', decide_eq_false h2]; rfl
set_option maxHeartbeats 8000000 in
theorem fsLists_spec (fr : Bool) (s : FSt) (p : ByteArray) (nb : Nat) (hs : okIn s) : ASound Tryz.prog 5 [aFs fr s, .v (.string p)] nb (.ret (.v (.bool true)) []) := by
  refine ok_5.sound (by simp) ⟨al_aFs s, trivial, trivial⟩ ?_
  have hof := fun nb => of10_spec fr s nb hs
  have hli := fun nb => list_full true s p nb hs.fs (fun n hn => by have := (hs.2 n hn).1; omega)
  have hst := fun p nb => stat_full true s p nb hs.fs
  have hfi := fun p nb => find_full true s p nb hs.fs
  simp only [aFs, fNds, fS] at hof hli hst hfi
  have hw00 : IntKind.i64.wrap (0 + 0) = 0 := by rfl
  simp only [ac_5, aFs, fNds, TT, ↓reduceIte, Nat.reduceEqDiff, Nat.reduceAdd, Nat.reduceMul, reduceCtorEq, Nat.reduceLeDiff]
  refine ⟨_, alive10 _, ?_⟩
  simp only [Bool.not_true, TT, ↓reduceIte, Nat.reduceEqDiff, Nat.reduceAdd, Nat.reduceMul, reduceCtorEq, Nat.reduceLeDiff]
  refine ⟨_, hof _, ?_⟩
  simp only [TT, ↓reduceIte, Nat.reduceEqDiff, Nat.reduceAdd, Nat.reduceMul, reduceCtorEq, Nat.reduceLeDiff]
  refine ⟨_, hli _, ?_⟩
  simp only [TT, ↓reduceIte, Nat.reduceEqDiff, Nat.reduceAdd, Nat.reduceMul, reduceCtorEq, Nat.reduceLeDiff]
  refine ⟨_, num10_spec _ _, ?_⟩
  cases hc : findC s p with
  | error cd =>
    have hcd : cd ≠ 0 := by
      rcases findG_cases true s p hs.fs with ⟨t, n, e1, _⟩ | ⟨cd', x, e1, h9, _⟩
      · rw [hc] at e1; cases e1
      · rw [hc] at e1; cases e1; exact h9
    have e : listR s p = ([], cd) := by unfold listR; rw [hc]
    rw [e]
    simp only [hcd, decide_false, Bool.not_false, eS, List.map_nil, List.length_nil, TT, ↓reduceIte, Nat.reduceEqDiff, Nat.reduceAdd, Nat.reduceMul, reduceCtorEq, Nat.reduceLeDiff]
    exact Ends.data (.inr rfl) (by simp [ET]) trivial
  | ok t =>
    have hF : chkFs s = 0 ∧ (splitP p).2 = 0 ∧ walkF s 1 (splitP p).1 = .ok t := by
      unfold findC at hc
      split at hc
      · rename_i h1
        split at hc
        · rename_i h2
          cases hw : walkF s 1 (splitP p).1 with
          | ok u => rw [hw] at hc; cases hc; exact ⟨h1, h2, rfl⟩
          | error q => rw [hw] at hc; cases hc
        · cases hc
      · cases hc
    obtain ⟨hck, hsp2, hwk⟩ := hF
    obtain ⟨n0, n128, _, _, hok, h1, hnd⟩ := chkFs_all hck
    have hu := walkF_has hok h1 hwk
    obtain ⟨n, hx, hmem, hino⟩ := hasN_get hu
    have hA : nodA s t = n := by rw [nodA, hx]
    have hsp : splitP p = ((splitP p).1, 0) := by rw [← hsp2]
    cases hd : n.dir
    · have e : listR s p = ([], 103) := by unfold listR; rw [hc]; simp only; rw [hA, hd, if_neg (by decide)]
      rw [e]
      simp only [show ((103 : Int) = 0) = False from eq_false (by decide), decide_false, Bool.not_false, eS, List.map_nil, List.length_nil, TT, ↓reduceIte, Nat.reduceEqDiff, Nat.reduceAdd, Nat.reduceMul, reduceCtorEq, Nat.reduceLeDiff]
      exact Ends.data (.inr rfl) (by simp [ET]) trivial
    have e : listR s p = (n.entries.map Ent.name, 0) := by unfold listR; rw [hc]; simp only; rw [hA, hd, if_pos rfl]
    have es : statR s p = ⟨t, true, n.entries.length, n.links, 0⟩ := by unfold statR; rw [hc]; simp only; rw [hA, hd, if_pos rfl]
    have hl63 := (hnd n hmem).1
    have hD := (hnd n hmem).2.1
    have hs0 := hst p
    rw [es] at hs0
    rw [e]
    simp only [decide_true, Bool.not_true, List.length_map, TT, ↓reduceIte, Nat.reduceEqDiff, Nat.reduceAdd, Nat.reduceMul, reduceCtorEq, Nat.reduceLeDiff]
    refine ⟨_, hof _, ?_⟩
    simp only [TT, ↓reduceIte, Nat.reduceEqDiff, Nat.reduceAdd, Nat.reduceMul, reduceCtorEq, Nat.reduceLeDiff]
    refine ⟨_, hs0 _, ?_⟩
    simp only [TT, ↓reduceIte, Nat.reduceEqDiff, Nat.reduceAdd, Nat.reduceMul, reduceCtorEq, Nat.reduceLeDiff]
    refine ⟨_, num10_spec _ _, ?_⟩
    simp only [decide_true, Bool.not_true, List.length_map, TT, ↓reduceIte, Nat.reduceEqDiff, Nat.reduceAdd, Nat.reduceMul, reduceCtorEq, Nat.reduceLeDiff]
    refine AWc.family (L_fl fr s p (n.entries.map Ent.name)) (fun i => i ≤ n.entries.length) (fun i => n.entries.length - i) 0 (Nat.zero_le _) ?_ ?_
    · refine Weak.calc [(0, 0)] (by decide) ?_ ?_
      · simp [WT, fS, al_S, ren_S]
      · simp [WT, fNds, al_Nds, ren_Nds]
    · intro i hi
      by_cases hlt : i < n.entries.length
      · obtain ⟨en, hxe, e1, e0⟩ := lt_at hlt
        have hgs : (n.entries.map Ent.name)[i]? = some en.name := by rw [List.getElem?_map, hxe]; rfl
        have hen : en ∈ n.entries := List.mem_of_getElem? hxe
        obtain ⟨m1, m2, m3, m4⟩ := named_ok hck hmem hen
        have hme := (okD_all (chkD_ok hD).2).1 en hen
        have hnz : en.name.size ≤ 16 := by
          unfold mayE at hme
          simp only [Bool.and_eq_true, decide_eq_true_eq] at hme
          have := hme.1
          unfold nameE at this
          split at this
          · cases this
          · rename_i h9
            simp only [not_or] at h9
            omega
        have hpz := (split_len hsp).1
        have w1 : IntKind.i64.wrap ((p.size : Int) + 1) = (p.size : Int) + 1 := wrap64 (by omega)
        have w2 : IntKind.i64.wrap ((p.size : Int) + 1 + en.name.size) = (p.size : Int) + 1 + en.name.size := wrap64 (by omega)
        by_cases hi0 : i = 0
        · have hpos : ¬ (0 : Int) < (i : Int) := by omega
          simp only [L_fl, fNds, fS, e1, e0, hpos, get_S hgs, decide_false, List.length_map, Int.toNat_natCast, TT, ↓reduceIte, Nat.reduceEqDiff, Nat.reduceAdd, Nat.reduceMul, reduceCtorEq, Nat.reduceLeDiff]
          refine ⟨by rfl, ?_⟩
          rw [w1, w2]
          by_cases hz : (128 : Int) < (p.size : Int) + 1 + en.name.size
          · rw [if_pos hz]
            refine famC_next (i + 1) (by omega) (by omega) ?_
            refine Weak.calc [(0, 0)] (by decide) ?_ ?_
            · simp [WT, fS, al_S, ren_S, wrap64 (x := (i : Int) + 1) (by omega)]
            · simp [WT, fNds, al_Nds, ren_Nds]
          · rw [if_neg hz]
            obtain ⟨hc1, hc2⟩ := child_ok hck hsp hwk hu (by rw [hA]; exact hd) (by rw [hA]; exact hxe) (by omega)
            have hfc : findC s (p ++ ByteArray.mk #[47] ++ en.name) = .ok en.ino := by unfold findC; rw [if_pos hck, hc1]; simp only; rw [if_pos trivial, hc2]
            have hfr : findR s (p ++ ByteArray.mk #[47] ++ en.name) = (en.ino, 0) := by unfold findR; rw [hfc]
            have hsr : (statR s (p ++ ByteArray.mk #[47] ++ en.name)).ino = en.ino ∧ (statR s (p ++ ByteArray.mk #[47] ++ en.name)).links = (nodA s en.ino).links ∧ (statR s (p ++ ByteArray.mk #[47] ++ en.name)).err = 0 := by
              unfold statR; rw [hfc]; simp only; split <;> exact ⟨rfl, rfl, rfl⟩
            have hf1 := hfi (p ++ ByteArray.mk #[47] ++ en.name)
            have hs1 := hst (p ++ ByteArray.mk #[47] ++ en.name)
            rw [hfr] at hf1
            rw [hsr.1, hsr.2.1, hsr.2.2] at hs1
            refine ⟨_, hof _, ?_⟩
            simp only [e1, e0, get_S hgs, Int.toNat_natCast, TT, ↓reduceIte, Nat.reduceEqDiff, Nat.reduceAdd, Nat.reduceMul, reduceCtorEq, Nat.reduceLeDiff]
            have z1 : (ByteArray.mk #[47]).size = 1 := rfl
            have z2 : (p ++ ByteArray.mk #[47]).size = p.size + 1 := by rw [ByteArray.size_append, z1]
            have hsa : strOp BinOp.add p (ByteArray.mk #[47]) = some (.string (p ++ ByteArray.mk #[47])) := if_pos (by omega)
            have hsb : strOp BinOp.add (p ++ ByteArray.mk #[47]) en.name = some (.string (p ++ ByteArray.mk #[47] ++ en.name)) := if_pos (by omega)
            simp only [hsa, hsb, e1, e0, get_S hgs, Int.toNat_natCast, TT, ↓reduceIte, Nat.reduceEqDiff, Nat.reduceAdd, Nat.reduceMul, reduceCtorEq, Nat.reduceLeDiff]
            refine ⟨_, hf1 _, ?_⟩
            simp only [TT, ↓reduceIte, Nat.reduceEqDiff, Nat.reduceAdd, Nat.reduceMul, reduceCtorEq, Nat.reduceLeDiff]
            refine ⟨by rfl, ?_⟩
            refine ⟨_, hof _, ?_⟩
            simp only [hsa, hsb, e1, e0, get_S hgs, Int.toNat_natCast, TT, ↓reduceIte, Nat.reduceEqDiff, Nat.reduceAdd, Nat.reduceMul, reduceCtorEq, Nat.reduceLeDiff]
            refine ⟨_, hs1 _, ?_⟩
            simp only [TT, ↓reduceIte, Nat.reduceEqDiff, Nat.reduceAdd, Nat.reduceMul, reduceCtorEq, Nat.reduceLeDiff]
            refine ⟨by rfl, ?_⟩
            refine ⟨_, num10_spec _ _, ?_⟩
            simp only [TT, ↓reduceIte, Nat.reduceEqDiff, Nat.reduceAdd, Nat.reduceMul, reduceCtorEq, Nat.reduceLeDiff]
            refine ⟨_, num10_spec _ _, ?_⟩
            have q1 : (en.ino ≤ 1) = False := eq_false (by omega)
            have q2 : ((nodA s en.ino).links < 1) = False := eq_false (by omega)
            simp only [hw00, q1, q2, decide_true, decide_false, Bool.not_true, Bool.not_false, TT, ↓reduceIte, Nat.reduceEqDiff, Nat.reduceAdd, Nat.reduceMul, reduceCtorEq, Nat.reduceLeDiff]
            refine famC_next (i + 1) (by omega) (by omega) ?_
            refine Weak.calc [(0, 0)] (by decide) ?_ ?_
            · simp [WT, fS, al_S, ren_S, wrap64 (x := (i : Int) + 1) (by omega)]
            · simp [WT, fNds, al_Nds, ren_Nds]
        · obtain ⟨e', hx'⟩ : ∃ e', n.entries[i - 1]? = some e' := ⟨_, List.getElem?_eq_getElem (by omega)⟩
          have hgs' : (n.entries.map Ent.name)[i - 1]? = some e'.name := by rw [List.getElem?_map, hx']; rfl
          have hle := less_not ((okD_all (chkD_ok hD).2).2.2 (i - 1) i e' en (by omega) hx' hxe)
          have hpos : (0 : Int) < (i : Int) := by omega
          have w0 : IntKind.i64.wrap ((i : Int) - 1) = ((i - 1 : Nat) : Int) := by rw [wrap64 (by omega)]; omega
          have e2 : (0 : Int) ≤ ((i - 1 : Nat) : Int) ∧ ((i - 1 : Nat) : Int) < (n.entries.length : Int) := by omega
          simp only [L_fl, fNds, fS, e1, e0, hpos, w0, e2, get_S hgs, get_S hgs', hle, List.length_map, Int.toNat_natCast, TT, ↓reduceIte, Nat.reduceEqDiff, Nat.reduceAdd, Nat.reduceMul, reduceCtorEq, Nat.reduceLeDiff]
          refine ⟨by rfl, ?_⟩
          rw [w1, w2]
          by_cases hz : (128 : Int) < (p.size : Int) + 1 + en.name.size
          · rw [if_pos hz]
            refine famC_next (i + 1) (by omega) (by omega) ?_
            refine Weak.calc [(0, 0)] (by decide) ?_ ?_
            · simp [WT, fS, al_S, ren_S, wrap64 (x := (i : Int) + 1) (by omega)]
            · simp [WT, fNds, al_Nds, ren_Nds]
          · rw [if_neg hz]
            obtain ⟨hc1, hc2⟩ := child_ok hck hsp hwk hu (by rw [hA]; exact hd) (by rw [hA]; exact hxe) (by omega)
            have hfc : findC s (p ++ ByteArray.mk #[47] ++ en.name) = .ok en.ino := by unfold findC; rw [if_pos hck, hc1]; simp only; rw [if_pos trivial, hc2]
            have hfr : findR s (p ++ ByteArray.mk #[47] ++ en.name) = (en.ino, 0) := by unfold findR; rw [hfc]
            have hsr : (statR s (p ++ ByteArray.mk #[47] ++ en.name)).ino = en.ino ∧ (statR s (p ++ ByteArray.mk #[47] ++ en.name)).links = (nodA s en.ino).links ∧ (statR s (p ++ ByteArray.mk #[47] ++ en.name)).err = 0 := by
              unfold statR; rw [hfc]; simp only; split <;> exact ⟨rfl, rfl, rfl⟩
            have hf1 := hfi (p ++ ByteArray.mk #[47] ++ en.name)
            have hs1 := hst (p ++ ByteArray.mk #[47] ++ en.name)
            rw [hfr] at hf1
            rw [hsr.1, hsr.2.1, hsr.2.2] at hs1
            refine ⟨_, hof _, ?_⟩
            simp only [e1, e0, get_S hgs, Int.toNat_natCast, TT, ↓reduceIte, Nat.reduceEqDiff, Nat.reduceAdd, Nat.reduceMul, reduceCtorEq, Nat.reduceLeDiff]
            have z1 : (ByteArray.mk #[47]).size = 1 := rfl
            have z2 : (p ++ ByteArray.mk #[47]).size = p.size + 1 := by rw [ByteArray.size_append, z1]
            have hsa : strOp BinOp.add p (ByteArray.mk #[47]) = some (.string (p ++ ByteArray.mk #[47])) := if_pos (by omega)
            have hsb : strOp BinOp.add (p ++ ByteArray.mk #[47]) en.name = some (.string (p ++ ByteArray.mk #[47] ++ en.name)) := if_pos (by omega)
            simp only [hsa, hsb, e1, e0, get_S hgs, Int.toNat_natCast, TT, ↓reduceIte, Nat.reduceEqDiff, Nat.reduceAdd, Nat.reduceMul, reduceCtorEq, Nat.reduceLeDiff]
            refine ⟨_, hf1 _, ?_⟩
            simp only [TT, ↓reduceIte, Nat.reduceEqDiff, Nat.reduceAdd, Nat.reduceMul, reduceCtorEq, Nat.reduceLeDiff]
            refine ⟨by rfl, ?_⟩
            refine ⟨_, hof _, ?_⟩
            simp only [hsa, hsb, e1, e0, get_S hgs, Int.toNat_natCast, TT, ↓reduceIte, Nat.reduceEqDiff, Nat.reduceAdd, Nat.reduceMul, reduceCtorEq, Nat.reduceLeDiff]
            refine ⟨_, hs1 _, ?_⟩
            simp only [TT, ↓reduceIte, Nat.reduceEqDiff, Nat.reduceAdd, Nat.reduceMul, reduceCtorEq, Nat.reduceLeDiff]
            refine ⟨by rfl, ?_⟩
            refine ⟨_, num10_spec _ _, ?_⟩
            simp only [TT, ↓reduceIte, Nat.reduceEqDiff, Nat.reduceAdd, Nat.reduceMul, reduceCtorEq, Nat.reduceLeDiff]
            refine ⟨_, num10_spec _ _, ?_⟩
            have q1 : (en.ino ≤ 1) = False := eq_false (by omega)
            have q2 : ((nodA s en.ino).links < 1) = False := eq_false (by omega)
            simp only [hw00, q1, q2, decide_true, decide_false, Bool.not_true, Bool.not_false, TT, ↓reduceIte, Nat.reduceEqDiff, Nat.reduceAdd, Nat.reduceMul, reduceCtorEq, Nat.reduceLeDiff]
            refine famC_next (i + 1) (by omega) (by omega) ?_
            refine Weak.calc [(0, 0)] (by decide) ?_ ?_
            · simp [WT, fS, al_S, ren_S, wrap64 (x := (i : Int) + 1) (by omega)]
            · simp [WT, fNds, al_Nds, ren_Nds]
      · obtain rfl : i = n.entries.length := by omega
        have e1 : ¬ ((n.entries.length : Int) < (n.entries.length : Int)) := by omega
        simp only [L_fl, fNds, fS, e1, List.length_map, TT, ↓reduceIte, Nat.reduceEqDiff, Nat.reduceAdd, Nat.reduceMul, reduceCtorEq, Nat.reduceLeDiff]
        exact Ends.data (.inr rfl) (by simp [ET]) trivial
end Go.Proofs.YtonglhkiobibgaaGreatDoor
