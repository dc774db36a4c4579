/- Merged texts: E0, K4, E1, E2, E3. -/
import Derived.Test.YtfoeddmbhmfjcaaXH
import Derived.Test.YtfoeddmbhmfjcaaXD
import Derived.Test.YtfoeddmbhmfjcaaProg
set_option linter.unusedSimpArgs false
set_option linter.unusedVariables false
/- Plain: states that may be stay so; what the program's cleaning makes of a log. -/
namespace Go.Proofs.Ytfoeddmbhmfjcaa
open Go.RowKit
theorem chk_t {s : St} (g : Good s) : chk s = true := (chk_iff s).2 g
theorem put_ok {t : St} {b : Blk} (g : Good t) (hb : mayBlk b = true) : putErr t b = if t.opn.length = 8 then 51 else 0 := by
  unfold putErr; rw [if_pos (chk_t g), if_pos hb]
theorem putSt_ok {t : St} {b : Blk} (h : putErr t b = 0) : putSt t b = ⟨t.segs, t.held, t.opn ++ [b], t.next⟩ := by unfold putSt; rw [if_pos h]
theorem good_put {t : St} {b : Blk} (g : Good t) (hb : mayBlk b = true) (h : putErr t b = 0) : Good (putSt t b) := by
  rw [putSt_ok h]
  rw [put_ok g hb] at h
  have h8 : t.opn.length ≠ 8 := by intro e; rw [if_pos e] at h; cases h
  have h9 := g.opn8
  exact ⟨g.n1, g.n64, g.held, g.next1, g.nextM, by simp; omega, by simp [hb]; simpa using g.opnMay, g.seg, g.dist⟩
theorem sl_facts {t : St} (h : slErr t = 0) : chk t = true ∧ t.opn.length ≠ 0 ∧ t.next ≠ 1099511627776 ∧ ∃ k, sealAt t = some k ∧ slAt t = k ∧ slSt t = sealSt t k := by
  have h0 := h
  unfold slErr at h
  split at h
  · rename_i hc
    refine ⟨hc, ?_⟩
    split at h
    · cases h
    · rename_i ho
      refine ⟨ho, ?_⟩
      cases hs : sealAt t with
      | none => rw [hs] at h; cases h
      | some k =>
        rw [hs] at h
        simp only at h
        split at h
        · cases h
        · rename_i hn
          have e : slAt t = k := by unfold slAt; rw [if_pos h0, hs]; rfl
          exact ⟨hn, k, rfl, e, by unfold slSt; rw [if_pos h0, e]⟩
  · cases h
theorem sealAt_free {t : St} {k : Nat} (h : sealAt t = some k) : ∃ x, t.segs[k]? = some x ∧ freeB x = true := by
  unfold sealAt at h
  have := List.find?_some h
  unfold sealOk at this
  split at this
  · rename_i x hd hx _
    exact ⟨x, hx, by simp at this; exact this.1⟩
  · cases this
theorem good_seal {t : St} (g : Good t) (h : slErr t = 0) : Good (slSt t) := by
  obtain ⟨hc, ho, hn, k, hk, _, e⟩ := sl_facts h
  have hlt := sealAt_lt hk
  have hM := g.nextM
  rw [e]
  unfold sealSt
  have get : ∀ (i : Nat) (x : Sg), (t.segs.set k ⟨t.next, t.opn⟩)[i]? = some x → (i = k ∧ x = ⟨t.next, t.opn⟩) ∨ (i ≠ k ∧ t.segs[i]? = some x) := by
    intro i x hx
    by_cases hi : i = k
    · subst hi; rw [List.getElem?_set_self hlt] at hx; exact .inl ⟨rfl, (Option.some.inj hx).symm⟩
    · rw [List.getElem?_set_ne (Ne.symm hi)] at hx; exact .inr ⟨hi, hx⟩
  refine ⟨by simp; exact g.n1, by simp; exact g.n64, by simp; exact g.held, by have := g.next1; show 1 ≤ t.next + 1; omega, by show t.next + 1 ≤ _; omega, by simp, by simp, fun i x hx hf => ?_, fun i j x y hx hy hfx hfy e => ?_⟩
  · rcases get i x hx with ⟨_, rfl⟩ | ⟨_, hx⟩
    · refine ⟨?_, by show t.next < t.next + 1; omega⟩
      have h1 := g.next1
      have h2 := g.opn8
      simp only [sgOk, Bool.and_eq_true, decide_eq_true_eq]
      exact ⟨⟨h1, hM, by omega, h2⟩, g.opnMay⟩
    · obtain ⟨h1, h2⟩ := g.seg i x hx hf
      exact ⟨h1, by show x.seq < t.next + 1; omega⟩
  · rcases get i x hx with ⟨rfl, rfl⟩ | ⟨hi, hx2⟩
    · rcases get j y hy with ⟨rfl, rfl⟩ | ⟨hj, hy⟩
      · rfl
      · have := (g.seg j y hy hfy).2; have e' : t.next = y.seq := e; omega
    · rcases get j y hy with ⟨rfl, rfl⟩ | ⟨hj, hy2⟩
      · have := (g.seg i x hx2 hfx).2; have e' : x.seq = t.next := e; omega
      · exact g.dist i j x y hx2 hy2 hfx hfy e
theorem seal_opn {t : St} (h : slErr t = 0) : (slSt t).opn = [] := by
  obtain ⟨_, _, _, k, _, _, e⟩ := sl_facts h
  rw [e]; rfl
/-- a slot that is in use stays as it is -/
theorem seal_slot {t : St} (h : slErr t = 0) {i : Nat} {x : Sg} (hx : t.segs[i]? = some x) (hf : freeB x = false) : (slSt t).segs[i]? = some x := by
  obtain ⟨_, _, _, k, hk, _, e⟩ := sl_facts h
  obtain ⟨y, hy, hfy⟩ := sealAt_free hk
  rw [e]
  unfold sealSt
  have : k ≠ i := by intro e; subst e; rw [hx] at hy; cases hy; rw [hf] at hfy; cases hfy
  simp only [List.getElem?_set_ne this, hx]
theorem put_slot {t : St} {b : Blk} (h : putErr t b = 0) : (putSt t b).segs = t.segs := by rw [putSt_ok h]
theorem sl_err {t : St} (g : Good t) (ho : t.opn.length ≠ 0) : slErr t = 0 ∨ slErr t = 51 := by
  unfold slErr
  rw [if_pos (chk_t g), if_neg ho]
  split
  · exact .inr rfl
  · split
    · exact .inr rfl
    · exact .inl rfl
/-- the blocks, put anew -/
def clGo : List Blk → St → St × Int
  | [], t => (t, 0)
  | b :: l, t => if putErr t b = 0 then clGo l (putSt t b) else if slErr t = 0 then clGo l (putSt (slSt t) b) else (St.zero, slErr t)
def clEnd (l : List Blk) (t : St) : St × Int := if l.length = 0 then (t, 0) else if slErr t = 0 then (slSt t, 0) else (St.zero, slErr t)
def clFree (slot : Int) (q : St × Int) : St × Int := if q.2 = 0 then (frSt q.1 slot, frErr q.1 slot) else (St.zero, q.2)
def clPut (l : List Blk) (t : St) : St × Int := if (clGo l t).2 = 0 then clEnd l (clGo l t).1 else (St.zero, (clGo l t).2)
/-- what a cleaning makes of a log -/
def cl (s : St) (slot seq : Int) : St × Int :=
  if liveErr s slot = 0 then (match s.segs[slot.toNat]? with
    | some x => if x.seq = seq then clFree slot (clPut (liveL s slot) s) else (St.zero, 81)
    | none => (St.zero, 81)) else (St.zero, liveErr s slot)
/-- all is well on the way: the slot stays; an error is 51 -/
theorem clGo_facts : ∀ (l : List Blk) (t : St), Good t → (∀ b ∈ l, mayBlk b = true) → ((clGo l t).2 = 0 ∨ (clGo l t).2 = 51) ∧
    ((clGo l t).2 = 0 → Good (clGo l t).1 ∧ (l ≠ [] → (clGo l t).1.opn.length ≠ 0) ∧ ∀ (i : Nat) (x : Sg), t.segs[i]? = some x → freeB x = false → (clGo l t).1.segs[i]? = some x)
  | [], t, g, _ => ⟨.inl rfl, fun _ => ⟨g, fun h => absurd rfl h, fun i x hx _ => hx⟩⟩
  | b :: l, t, g, hm => by
    have hb := hm b (by simp)
    have hl : ∀ b ∈ l, mayBlk b = true := fun c hc => hm c (by simp [hc])
    have ne : ∀ {t' : St}, putErr t' b = 0 → (clGo l (putSt t' b)).2 = 0 → Good (putSt t' b) → (clGo l (putSt t' b)).1.opn.length ≠ 0 := by
      intro t' h1 h2 h3
      cases l with
      | nil => simp only [clGo, putSt_ok h1]; simp
      | cons c l => exact ((clGo_facts (c :: l) _ h3 hl).2 h2).2.1 (by simp)
    by_cases h0 : putErr t b = 0
    · have gp := good_put g hb h0
      have ih := clGo_facts l _ gp hl
      simp only [clGo, if_pos h0]
      refine ⟨ih.1, fun h => ⟨(ih.2 h).1, fun _ => ne h0 h gp, fun i x hx hf => (ih.2 h).2.2 i x (by rw [put_slot h0]; exact hx) hf⟩⟩
    · have h8 : t.opn.length = 8 := by rw [put_ok g hb] at h0; by_cases e : t.opn.length = 8; · exact e
                                       · rw [if_neg e] at h0; exact absurd rfl h0
      by_cases h1 : slErr t = 0
      · have gs := good_seal g h1
        have h2 : putErr (slSt t) b = 0 := by rw [put_ok gs hb, seal_opn h1]; rfl
        have gp := good_put gs hb h2
        have ih := clGo_facts l _ gp hl
        simp only [clGo, if_neg h0, if_pos h1]
        refine ⟨ih.1, fun h => ⟨(ih.2 h).1, fun _ => ne h2 h gp, fun i x hx hf => (ih.2 h).2.2 i x (by rw [put_slot h2]; exact seal_slot h1 hx hf) hf⟩⟩
      · simp only [clGo, if_neg h0, if_neg h1]
        refine ⟨sl_err g (by omega), fun h => absurd h h1⟩
theorem clPut_facts (l : List Blk) (t : St) (g : Good t) (hm : ∀ b ∈ l, mayBlk b = true) : ((clPut l t).2 = 0 ∨ (clPut l t).2 = 51) ∧
    ((clPut l t).2 = 0 → Good (clPut l t).1 ∧ ∀ (i : Nat) (x : Sg), t.segs[i]? = some x → freeB x = false → (clPut l t).1.segs[i]? = some x) := by
  obtain ⟨h1, h2⟩ := clGo_facts l t g hm
  unfold clPut
  by_cases h0 : (clGo l t).2 = 0
  · rw [if_pos h0]
    obtain ⟨h3, h4, h5⟩ := h2 h0
    unfold clEnd
    by_cases hl : l.length = 0
    · rw [if_pos hl]; exact ⟨.inl rfl, fun _ => ⟨h3, h5⟩⟩
    · rw [if_neg hl]
      have ho := h4 (fun e => hl (by rw [e]; rfl))
      by_cases hs : slErr (clGo l t).1 = 0
      · rw [if_pos hs]; exact ⟨.inl rfl, fun _ => ⟨good_seal h3 hs, fun i x hx hf => seal_slot hs (h5 i x hx hf) hf⟩⟩
      · rw [if_neg hs]; exact ⟨sl_err h3 ho, fun h => absurd h hs⟩
  · rw [if_neg h0]; exact ⟨h1, fun h => absurd h h0⟩
theorem fr_err {t : St} {slot : Int} (h : liveErr t slot = 0) : frErr t slot = 0 ∨ frErr t slot = 91 := by
  unfold frErr; rw [if_pos h]; split
  · exact .inl rfl
  · exact .inr rfl
theorem live_may {s : St} {slot : Int} : ∀ b ∈ liveL s slot, mayBlk b = true := by
  intro b hb
  rw [← live_eq] at hb
  unfold rlive at hb
  split at hb
  · rename_i hu
    obtain ⟨hc, k, x, rfl, hx, hf⟩ := usedE_0 hu
    rw [Int.toNat_natCast, hx] at hb
    have g := (rchk_iff s).1 hc
    have h1 := (g.seg k x hx (by rw [← freeB'_eq]; exact hf)).1
    simp only [sgOk, Bool.and_eq_true, List.all_eq_true] at h1
    exact h1.2 b (keepL_mem hb)
  · simp at hb
/-- the errors of a cleaning behind the first two -/
theorem cl_err {s : St} {slot seq : Int} {x : Sg} (h : liveErr s slot = 0) (hx : s.segs[slot.toNat]? = some x) (hq : x.seq = seq) : (cl s slot seq).2 = 0 ∨ (cl s slot seq).2 = 51 ∨ (cl s slot seq).2 = 91 := by
  have hu := h
  rw [← used_eq] at hu
  obtain ⟨hc, k, y, rfl, hy, hf⟩ := usedE_0 hu
  have g := (rchk_iff s).1 hc
  rw [Int.toNat_natCast] at hx
  rw [hx] at hy; cases hy
  unfold cl
  rw [if_pos h, Int.toNat_natCast, hx]
  simp only [hq, if_true]
  obtain ⟨h1, h2⟩ := clPut_facts (liveL s k) s g live_may
  unfold clFree
  by_cases h0 : (clPut (liveL s k) s).2 = 0
  · rw [if_pos h0]
    obtain ⟨h3, h4⟩ := h2 h0
    have h5 : liveErr (clPut (liveL s k) s).1 k = 0 := by
      unfold liveErr
      rw [if_pos (chk_t h3), slot_at (h4 k x hx hf)]
      rw [freeB'_eq] at hf
      simp [hf]
    rcases fr_err h5 with h6 | h6
    · exact .inl h6
    · exact .inr (.inr h6)
  · rw [if_neg h0]
    rcases h1 with h1 | h1
    · exact absurd h1 h0
    · exact .inr (.inl h1)
end Go.Proofs.Ytfoeddmbhmfjcaa
/- Functions of the program, compiled. -/
namespace Go.Proofs.Ytfoeddmbhmfjcaa
set_option maxRecDepth 100000
def ac_33 : AC :=
(.seq (.reg false [⟨some 2, .box 36 (.tmp 0), none, [0], []⟩,
    ⟨some 3, .box 66 (.tmp 1), none, [1], []⟩,
    ⟨some 4, .new 36 [(.slice none 0 0), (.slice none 0 0), (.slice none 0 0), (.int .i64 (0))], none, [], []⟩,
    ⟨some 5, .mv (.const (.int .i64 (0))), none, [], []⟩] [2, 3, 4])
(.seq (.reg false [⟨some 13, .load true 4 (.tmp 2), none, [2], []⟩,
    ⟨some 14, .foff 0 (.tmp 3), none, [3], []⟩,
    ⟨some 15, .load false 1 (.tmp 14), none, [14], []⟩,
    ⟨some 16, .call 21 [(.tmp 13), (.tmp 15)], none, [13, 15], []⟩,
    ⟨some 12, .mv (.tmp 16), none, [16], []⟩,
    ⟨some 17, .ext 0 (.tmp 12), none, [12], []⟩,
    ⟨some 18, .ext 1 (.tmp 12), none, [12], []⟩,
    ⟨some 6, .mv (.tmp 17), none, [17], []⟩,
    ⟨some 7, .mv (.tmp 18), none, [18], []⟩] [2, 3, 4, 6, 7])
(.seq (.seq (.reg false [⟨some 19, .mv (.tmp 7), none, [7], []⟩,
    ⟨some 20, .bin .neq (.tmp 19) (.const (.int .i64 (0))), none, [19], []⟩] [2, 3, 4, 6, 7, 20])
(.cond (.tmp 20)
(.seq (.reg false [⟨some 21, .build [(.slice none 0 0), (.slice none 0 0), (.slice none 0 0), (.int .i64 (0))] [], none, [], []⟩,
    ⟨some 22, .mv (.tmp 7), none, [7], []⟩,
    ⟨none, .store 4 (.tmp 4) (.tmp 21), none, [4, 21], []⟩,
    ⟨some 5, .mv (.tmp 22), none, [22], []⟩] [4, 5])
.ret)
.skip))
(.seq (.seq (.reg true [⟨some 23, .foff 0 (.tmp 2), none, [2], []⟩,
    ⟨some 24, .load false 1 (.tmp 23), none, [23], [0]⟩,
    ⟨some 25, .foff 0 (.tmp 3), none, [3], []⟩,
    ⟨some 26, .load false 1 (.tmp 25), none, [25], [2]⟩,
    ⟨some 27, .idx 2 (.tmp 24) (.tmp 26), none, [24, 26], [1, 3, 0, 2]⟩,
    ⟨some 28, .foff 0 (.tmp 27), none, [27], [4, 1, 3, 0, 2]⟩,
    ⟨some 29, .load false 1 (.tmp 28), none, [28], [5, 4, 1, 3, 0, 2]⟩,
    ⟨some 30, .foff 1 (.tmp 3), none, [3], []⟩,
    ⟨some 31, .load false 1 (.tmp 30), none, [30], [7]⟩,
    ⟨some 32, .bin .neq (.tmp 29) (.tmp 31), none, [29, 31], [6, 8, 5, 4, 1, 3, 0, 2, 7]⟩] [2, 3, 4, 6, 32])
(.cond (.tmp 32)
(.seq (.reg false [⟨some 33, .build [(.slice none 0 0), (.slice none 0 0), (.slice none 0 0), (.int .i64 (0))] [], none, [], []⟩,
    ⟨none, .store 4 (.tmp 4) (.tmp 33), none, [4, 33], []⟩,
    ⟨some 5, .mv (.const (.int .i64 (81))), none, [], []⟩] [4, 5])
.ret)
.skip))
(.seq (.reg false [⟨some 34, .load true 4 (.tmp 2), none, [2], []⟩,
    ⟨some 8, .new 36 [(.slice none 0 0), (.slice none 0 0), (.slice none 0 0), (.int .i64 (0))], none, [], []⟩,
    ⟨none, .store 4 (.tmp 8) (.tmp 34), none, [8, 34], []⟩] [3, 4, 6, 8])
(.seq (.seq (.reg false [⟨some 9, .mv (.const (.int .i64 (0))), none, [], []⟩] [3, 4, 6, 8, 9])
(.block 0 (.loop (.seq (.seq (.reg false [⟨some 35, .mv (.tmp 9), none, [9], []⟩,
    ⟨some 36, .mv (.tmp 6), none, [6], []⟩,
    ⟨some 37, .len false (.tmp 36), none, [36], []⟩,
    ⟨some 38, .bin .lss (.tmp 35) (.tmp 37), none, [35, 37], []⟩] [3, 4, 6, 8, 9, 38])
(.cond (.tmp 38)
.skip
(.exit 0)))
(.block 1 (.seq (.reg true [⟨some 40, .load true 4 (.tmp 8), none, [8], []⟩,
    ⟨some 41, .mv (.tmp 6), none, [6], []⟩,
    ⟨some 42, .mv (.tmp 9), none, [9], []⟩,
    ⟨some 43, .idx 3 (.tmp 41) (.tmp 42), none, [41, 42], [1, 2]⟩,
    ⟨some 44, .load true 3 (.tmp 43), none, [43], [3, 1, 2]⟩,
    ⟨some 45, .call 30 [(.tmp 40), (.tmp 44)], none, [40, 44], [0, 4, 3, 1, 2]⟩,
    ⟨some 39, .mv (.tmp 45), none, [45], [5, 0, 4, 3, 1, 2]⟩,
    ⟨some 46, .ext 0 (.tmp 39), none, [39], [6, 5, 0, 4, 3, 1, 2]⟩,
    ⟨some 47, .ext 1 (.tmp 39), none, [39], [6, 5, 0, 4, 3, 1, 2]⟩,
    ⟨some 10, .new 36 [(.slice none 0 0), (.slice none 0 0), (.slice none 0 0), (.int .i64 (0))], none, [], []⟩,
    ⟨none, .store 4 (.tmp 10) (.tmp 46), none, [10, 46], [9, 7, 5, 0, 1, 2, 3, 4, 6]⟩,
    ⟨some 11, .mv (.tmp 47), none, [47], [8, 10, 0, 1, 2, 3, 4, 5, 6, 7, 9]⟩] [3, 4, 6, 8, 9, 10, 11])
(.seq (.seq (.reg false [⟨some 48, .mv (.tmp 11), none, [11], []⟩,
    ⟨some 49, .bin .eql (.tmp 48) (.const (.int .i64 (0))), none, [48], []⟩] [3, 4, 6, 8, 9, 10, 49])
(.cond (.tmp 49)
(.seq (.reg false [⟨some 50, .load true 4 (.tmp 10), none, [10], []⟩,
    ⟨none, .store 4 (.tmp 8) (.tmp 50), none, [8, 50], []⟩] [3, 4, 6, 8, 9])
(.seq (.reg false [⟨some 51, .mv (.tmp 9), none, [9], []⟩,
    ⟨some 52, .bin .add (.tmp 51) (.const (.int .i64 (1))), none, [51], []⟩,
    ⟨some 9, .mv (.tmp 52), none, [52], []⟩] [3, 4, 6, 8, 9])
(.exit 1)))
.skip))
(.seq (.reg false [⟨some 54, .load true 4 (.tmp 8), none, [8], []⟩,
    ⟨some 55, .call 19 [(.tmp 54)], none, [54], []⟩,
    ⟨some 53, .mv (.tmp 55), none, [55], []⟩,
    ⟨some 56, .ext 0 (.tmp 53), none, [53], []⟩,
    ⟨some 57, .ext 1 (.tmp 53), none, [53], []⟩,
    ⟨some 58, .ext 2 (.tmp 53), none, [53], []⟩,
    ⟨none, .store 4 (.tmp 8) (.tmp 56), none, [8, 56], []⟩,
    ⟨some 11, .mv (.tmp 58), none, [58], []⟩] [3, 4, 6, 8, 9, 11])
(.seq (.reg false [⟨some 59, .mv (.tmp 11), none, [11], []⟩,
    ⟨some 60, .bin .neq (.tmp 59) (.const (.int .i64 (0))), none, [59], []⟩] [3, 4, 6, 8, 9, 11, 60])
(.cond (.tmp 60)
(.seq (.reg false [⟨some 61, .build [(.slice none 0 0), (.slice none 0 0), (.slice none 0 0), (.int .i64 (0))] [], none, [], []⟩,
    ⟨some 62, .mv (.tmp 11), none, [11], []⟩,
    ⟨none, .store 4 (.tmp 4) (.tmp 61), none, [4, 61], []⟩,
    ⟨some 5, .mv (.tmp 62), none, [62], []⟩] [4, 5])
.ret)
.skip))))))))))
(.seq (.seq (.reg false [⟨some 63, .mv (.tmp 6), none, [6], []⟩,
    ⟨some 64, .len false (.tmp 63), none, [63], []⟩,
    ⟨some 65, .bin .gtr (.tmp 64) (.const (.int .i64 (0))), none, [64], []⟩] [3, 4, 8, 65])
(.cond (.tmp 65)
(.seq (.reg false [⟨some 67, .load true 4 (.tmp 8), none, [8], []⟩,
    ⟨some 68, .call 19 [(.tmp 67)], none, [67], []⟩,
    ⟨some 66, .mv (.tmp 68), none, [68], []⟩,
    ⟨some 69, .ext 0 (.tmp 66), none, [66], []⟩,
    ⟨some 70, .ext 1 (.tmp 66), none, [66], []⟩,
    ⟨some 71, .ext 2 (.tmp 66), none, [66], []⟩,
    ⟨none, .store 4 (.tmp 8) (.tmp 69), none, [8, 69], []⟩,
    ⟨some 7, .mv (.tmp 71), none, [71], []⟩] [3, 4, 7, 8])
(.seq (.reg false [⟨some 72, .mv (.tmp 7), none, [7], []⟩,
    ⟨some 73, .bin .neq (.tmp 72) (.const (.int .i64 (0))), none, [72], []⟩] [3, 4, 7, 8, 73])
(.cond (.tmp 73)
(.seq (.reg false [⟨some 74, .build [(.slice none 0 0), (.slice none 0 0), (.slice none 0 0), (.int .i64 (0))] [], none, [], []⟩,
    ⟨some 75, .mv (.tmp 7), none, [7], []⟩,
    ⟨none, .store 4 (.tmp 4) (.tmp 74), none, [4, 74], []⟩,
    ⟨some 5, .mv (.tmp 75), none, [75], []⟩] [4, 5])
.ret)
.skip)))
.skip))
(.seq (.seq (.reg false [⟨some 77, .load true 4 (.tmp 8), none, [8], []⟩,
    ⟨some 78, .foff 0 (.tmp 3), none, [3], []⟩,
    ⟨some 79, .load false 1 (.tmp 78), none, [78], []⟩,
    ⟨some 80, .call 23 [(.tmp 77), (.tmp 79)], none, [77, 79], []⟩,
    ⟨some 76, .mv (.tmp 80), none, [80], []⟩,
    ⟨some 81, .ext 0 (.tmp 76), none, [76], []⟩,
    ⟨some 82, .ext 1 (.tmp 76), none, [76], []⟩,
    ⟨none, .store 4 (.tmp 8) (.tmp 81), none, [8, 81], []⟩,
    ⟨some 7, .mv (.tmp 82), none, [82], []⟩] [4, 7, 8])
(.seq (.reg false [⟨some 83, .mv (.tmp 7), none, [7], []⟩,
    ⟨some 84, .bin .neq (.tmp 83) (.const (.int .i64 (0))), none, [83], []⟩] [4, 7, 8, 84])
(.cond (.tmp 84)
(.seq (.reg false [⟨some 85, .build [(.slice none 0 0), (.slice none 0 0), (.slice none 0 0), (.int .i64 (0))] [], none, [], []⟩,
    ⟨some 86, .mv (.tmp 7), none, [7], []⟩,
    ⟨none, .store 4 (.tmp 4) (.tmp 85), none, [4, 85], []⟩,
    ⟨some 5, .mv (.tmp 86), none, [86], []⟩] [4, 5])
.ret)
.skip)))
(.seq (.reg false [⟨some 87, .load true 4 (.tmp 8), none, [8], []⟩,
    ⟨none, .store 4 (.tmp 4) (.tmp 87), none, [4, 87], []⟩,
    ⟨some 5, .mv (.const (.int .i64 (0))), none, [], []⟩] [4, 5])
.ret)))))))))
theorem ok_33 : FnOk Try.prog 33 88 ac_33 [.cell 4 true 4, .tmp 5] := ⟨Try.f33, Try.func33, by kernel_rfl, by kernel_rfl, by kernel_rfl, by kernel_rfl, by kernel_rfl⟩
def ac_6 : AC :=
(.seq (.reg false [⟨some 3, .box 32 (.tmp 0), none, [0], []⟩,
    ⟨some 6, .mv (.const (.bool false)), none, [], []⟩] [1, 2, 3])
(.seq (.seq (.reg false [⟨some 9, .call 15 [], none, [], []⟩,
    ⟨some 10, .un .not (.tmp 9), none, [9], []⟩] [1, 2, 3, 10])
(.cond (.tmp 10)
(.seq (.reg false [⟨some 6, .mv (.const (.bool false)), none, [], []⟩] [6])
.ret)
.skip))
(.seq (.reg false [⟨some 12, .load true 4 (.tmp 3), none, [3], []⟩,
    ⟨some 13, .call 18 [(.tmp 12)], none, [12], []⟩,
    ⟨some 14, .mv (.tmp 1), none, [1], []⟩,
    ⟨some 15, .mv (.tmp 2), none, [2], []⟩,
    ⟨some 16, .build [(.int .i64 (0)), (.int .i64 (0))] [(0, 1, (.tmp 14)), (1, 1, (.tmp 15))], none, [14, 15], []⟩,
    ⟨some 17, .call 33 [(.tmp 13), (.tmp 16)], none, [13, 16], []⟩,
    ⟨some 11, .mv (.tmp 17), none, [17], []⟩,
    ⟨some 18, .ext 0 (.tmp 11), none, [11], []⟩,
    ⟨some 19, .ext 1 (.tmp 11), none, [11], []⟩,
    ⟨some 7, .new 36 [(.slice none 0 0), (.slice none 0 0), (.slice none 0 0), (.int .i64 (0))], none, [], []⟩,
    ⟨none, .store 4 (.tmp 7) (.tmp 18), none, [7, 18], []⟩,
    ⟨some 8, .mv (.tmp 19), none, [19], []⟩] [1, 2, 3, 7, 8])
(.seq (.block 0 (.seq (.reg false [⟨some 21, .load true 4 (.tmp 3), none, [3], []⟩,
    ⟨some 22, .call 34 [(.tmp 21)], none, [21], []⟩,
    ⟨some 23, .bin .neq (.tmp 22) (.const (.int .i64 (0))), none, [22], []⟩,
    ⟨some 20, .mv (.tmp 23), none, [23], []⟩] [1, 2, 3, 7, 8, 20])
(.cond (.tmp 20)
(.seq (.reg false [⟨some 24, .mv (.tmp 8), none, [8], []⟩,
    ⟨some 25, .call 17 [(.tmp 24)], none, [24], []⟩,
    ⟨some 26, .bin .eql (.tmp 25) (.const (.int .i64 (9))), none, [25], []⟩,
    ⟨some 6, .mv (.tmp 26), none, [26], []⟩] [6])
.ret)
(.seq (.reg false [⟨some 28, .mv (.tmp 1), none, [1], []⟩,
    ⟨some 29, .bin .lss (.tmp 28) (.const (.int .i64 (0))), none, [28], []⟩,
    ⟨some 30, .mv (.tmp 29), none, [29], []⟩,
    ⟨some 31, .mv (.tmp 1), some (30, false), [1, 30], []⟩,
    ⟨some 32, .foff 0 (.tmp 3), some (30, false), [3, 30], []⟩,
    ⟨some 33, .load false 1 (.tmp 32), some (30, false), [32, 30], []⟩,
    ⟨some 34, .len false (.tmp 33), some (30, false), [33, 30], []⟩,
    ⟨some 35, .bin .geq (.tmp 31) (.tmp 34), some (30, false), [31, 34, 30], []⟩,
    ⟨some 36, .pick (.tmp 30) (.const (.bool true)) (.tmp 35), none, [30, 35], []⟩,
    ⟨some 37, .mv (.tmp 36), none, [36], []⟩,
    ⟨some 38, .foff 0 (.tmp 3), some (37, false), [3, 37], []⟩,
    ⟨some 39, .load false 1 (.tmp 38), some (37, false), [38, 37], []⟩,
    ⟨some 40, .mv (.tmp 1), some (37, false), [1, 37], []⟩,
    ⟨some 41, .idx 2 (.tmp 39) (.tmp 40), some (37, false), [39, 40, 37], []⟩,
    ⟨some 42, .foff 0 (.tmp 41), some (37, false), [41, 37], []⟩,
    ⟨some 43, .load false 1 (.tmp 42), some (37, false), [42, 37], []⟩,
    ⟨some 44, .bin .eql (.tmp 43) (.const (.int .i64 (0))), some (37, false), [43, 37], []⟩,
    ⟨some 45, .pick (.tmp 37) (.const (.bool true)) (.tmp 44), none, [37, 44], []⟩,
    ⟨some 27, .mv (.tmp 45), none, [45], []⟩] [1, 2, 3, 7, 8, 27])
(.cond (.tmp 27)
(.seq (.reg false [⟨some 46, .mv (.tmp 8), none, [8], []⟩,
    ⟨some 47, .call 17 [(.tmp 46)], none, [46], []⟩,
    ⟨some 48, .bin .eql (.tmp 47) (.const (.int .i64 (71))), none, [47], []⟩,
    ⟨some 6, .mv (.tmp 48), none, [48], []⟩] [6])
.ret)
(.seq (.reg false [⟨some 50, .foff 0 (.tmp 3), none, [3], []⟩,
    ⟨some 51, .load false 1 (.tmp 50), none, [50], []⟩,
    ⟨some 52, .mv (.tmp 1), none, [1], []⟩,
    ⟨some 53, .idx 2 (.tmp 51) (.tmp 52), none, [51, 52], []⟩,
    ⟨some 54, .foff 0 (.tmp 53), none, [53], []⟩,
    ⟨some 55, .load false 1 (.tmp 54), none, [54], []⟩,
    ⟨some 56, .mv (.tmp 2), none, [2], []⟩,
    ⟨some 57, .bin .neq (.tmp 55) (.tmp 56), none, [55, 56], []⟩,
    ⟨some 49, .mv (.tmp 57), none, [57], []⟩] [7, 8, 49])
(.cond (.tmp 49)
(.seq (.reg false [⟨some 58, .mv (.tmp 8), none, [8], []⟩,
    ⟨some 59, .call 17 [(.tmp 58)], none, [58], []⟩,
    ⟨some 60, .bin .eql (.tmp 59) (.const (.int .i64 (81))), none, [59], []⟩,
    ⟨some 61, .mv (.tmp 60), none, [60], []⟩,
    ⟨some 62, .foff 0 (.tmp 7), some (61, true), [7, 61], []⟩,
    ⟨some 63, .load false 1 (.tmp 62), some (61, true), [62, 61], []⟩,
    ⟨some 64, .len false (.tmp 63), some (61, true), [63, 61], []⟩,
    ⟨some 65, .bin .eql (.tmp 64) (.const (.int .i64 (0))), some (61, true), [64, 61], []⟩,
    ⟨some 66, .pick (.tmp 61) (.tmp 65) (.const (.bool false)), none, [61, 65], []⟩,
    ⟨some 6, .mv (.tmp 66), none, [66], []⟩] [6])
.ret)
.skip)))))))
(.seq (.reg false [⟨some 67, .mv (.tmp 8), none, [8], []⟩,
    ⟨some 68, .call 17 [(.tmp 67)], none, [67], []⟩,
    ⟨some 69, .bin .neq (.tmp 68) (.const (.int .i64 (81))), none, [68], []⟩,
    ⟨some 70, .mv (.tmp 69), none, [69], []⟩,
    ⟨some 71, .mv (.tmp 8), some (70, true), [8, 70], []⟩,
    ⟨some 72, .call 17 [(.tmp 71)], some (70, true), [71, 70], []⟩,
    ⟨some 73, .bin .neq (.tmp 72) (.const (.int .i64 (71))), some (70, true), [72, 70], []⟩,
    ⟨some 74, .pick (.tmp 70) (.tmp 73) (.const (.bool false)), none, [70, 73], []⟩,
    ⟨some 6, .mv (.tmp 74), none, [74], []⟩] [6])
.ret)))))
theorem ok_6 : FnOk Try.prog 6 75 ac_6 [.tmp 6] := ⟨Try.f6, Try.func6, by kernel_rfl, by kernel_rfl, by kernel_rfl, by kernel_rfl, by kernel_rfl⟩
def ac_15 : AC :=
(.seq (.reg false [⟨some 0, .mv (.const (.bool false)), none, [], []⟩] [])
(.seq (.reg false [⟨some 4, .call 16 [(.const (.int .i64 (1))), (.const (.int .i64 (2))), (.const (.int .i64 (9)))], none, [], []⟩,
    ⟨some 3, .mv (.tmp 4), none, [4], []⟩,
    ⟨some 5, .ext 0 (.tmp 3), none, [3], []⟩,
    ⟨some 6, .ext 1 (.tmp 3), none, [3], []⟩,
    ⟨some 1, .mv (.tmp 5), none, [5], []⟩,
    ⟨some 2, .mv (.tmp 6), none, [6], []⟩] [1, 2])
(.seq (.reg false [⟨some 7, .mv (.tmp 2), none, [2], []⟩,
    ⟨some 8, .call 17 [(.tmp 7)], none, [7], []⟩,
    ⟨some 9, .bin .eql (.tmp 8) (.const (.int .i64 (0))), none, [8], []⟩,
    ⟨some 10, .mv (.tmp 9), none, [9], []⟩,
    ⟨some 11, .mv (.tmp 1), some (10, true), [1, 10], []⟩,
    ⟨some 12, .bin .eql (.tmp 11) (.const (.int .i64 (307))), some (10, true), [11, 10], []⟩,
    ⟨some 13, .pick (.tmp 10) (.tmp 12) (.const (.bool false)), none, [10, 12], []⟩,
    ⟨some 0, .mv (.tmp 13), none, [13], []⟩] [0])
.ret)))
theorem ok_15 : FnOk Try.prog 15 14 ac_15 [.tmp 0] := ⟨Try.f15, Try.func15, by kernel_rfl, by kernel_rfl, by kernel_rfl, by kernel_rfl, by kernel_rfl⟩
def ac_48 : AC :=
(.seq (.reg false [⟨some 6, .mv (.const (.bool false)), none, [], []⟩] [0, 1, 2])
(.seq (.reg false [⟨some 7, .mv (.tmp 0), none, [0], []⟩,
    ⟨some 8, .mv (.tmp 1), none, [1], []⟩,
    ⟨some 9, .bin .geq (.tmp 7) (.tmp 8), none, [7, 8], []⟩,
    ⟨some 10, .mv (.tmp 9), none, [9], []⟩,
    ⟨some 11, .mv (.tmp 0), some (10, true), [0, 10], []⟩,
    ⟨some 12, .mv (.tmp 2), some (10, true), [2, 10], []⟩,
    ⟨some 13, .bin .leq (.tmp 11) (.tmp 12), some (10, true), [11, 12, 10], []⟩,
    ⟨some 14, .pick (.tmp 10) (.tmp 13) (.const (.bool false)), none, [10, 13], []⟩,
    ⟨some 6, .mv (.tmp 14), none, [14], []⟩] [6])
.ret))
theorem ok_48 : FnOk Try.prog 48 15 ac_48 [.tmp 6] := ⟨Try.f48, Try.func48, by kernel_rfl, by kernel_rfl, by kernel_rfl, by kernel_rfl, by kernel_rfl⟩
def ac_16 : AC :=
(.seq (.reg false [⟨some 6, .mv (.const (.int .i64 (0))), none, [], []⟩,
    ⟨some 7, .mv (.const (.int .i64 (0))), none, [], []⟩] [0, 1, 2])
(.seq (.seq (.reg false [⟨some 10, .mv (.tmp 0), none, [0], []⟩,
    ⟨some 11, .call 48 [(.tmp 10), (.const (.int .i64 (1))), (.const (.int .i64 (1099511627776)))], none, [10], []⟩,
    ⟨some 12, .un .not (.tmp 11), none, [11], []⟩,
    ⟨some 13, .mv (.tmp 12), none, [12], []⟩,
    ⟨some 14, .mv (.tmp 1), some (13, false), [1, 13], []⟩,
    ⟨some 15, .call 48 [(.tmp 14), (.const (.int .i64 (0))), (.const (.int .i64 (8)))], some (13, false), [14, 13], []⟩,
    ⟨some 16, .un .not (.tmp 15), some (13, false), [15, 13], []⟩,
    ⟨some 17, .pick (.tmp 13) (.const (.bool true)) (.tmp 16), none, [13, 16], []⟩,
    ⟨some 18, .mv (.tmp 17), none, [17], []⟩,
    ⟨some 19, .mv (.tmp 2), some (18, false), [2, 18], []⟩,
    ⟨some 20, .mv (.tmp 0), some (18, false), [0, 18], []⟩,
    ⟨some 21, .call 48 [(.tmp 19), (.tmp 20), (.const (.int .i64 (1099511627776)))], some (18, false), [19, 20, 18], []⟩,
    ⟨some 22, .un .not (.tmp 21), some (18, false), [21, 18], []⟩,
    ⟨some 23, .pick (.tmp 18) (.const (.bool true)) (.tmp 22), none, [18, 22], []⟩] [0, 1, 2, 23])
(.cond (.tmp 23)
(.seq (.reg false [⟨some 6, .mv (.const (.int .i64 (0))), none, [], []⟩,
    ⟨some 7, .mv (.const (.int .i64 (4))), none, [], []⟩] [6, 7])
.ret)
.skip))
(.seq (.reg false [⟨some 24, .mv (.tmp 1), none, [1], []⟩,
    ⟨some 25, .bin .sub (.const (.int .i64 (8))) (.tmp 24), none, [24], []⟩,
    ⟨some 26, .mv (.tmp 1), none, [1], []⟩,
    ⟨some 27, .bin .add (.const (.int .i64 (8))) (.tmp 26), none, [26], []⟩,
    ⟨some 8, .mv (.tmp 25), none, [25], []⟩,
    ⟨some 9, .mv (.tmp 27), none, [27], []⟩] [0, 2, 8, 9])
(.seq (.reg false [⟨some 28, .mv (.tmp 8), none, [8], []⟩,
    ⟨some 29, .bin .mul (.const (.int .i64 (64))) (.tmp 28), none, [28], []⟩,
    ⟨some 30, .mv (.tmp 2), none, [2], []⟩,
    ⟨some 31, .mv (.tmp 0), none, [0], []⟩,
    ⟨some 32, .bin .sub (.tmp 30) (.tmp 31), none, [30, 31], []⟩,
    ⟨some 33, .bin .mul (.tmp 29) (.tmp 32), none, [29, 32], []⟩,
    ⟨some 34, .mv (.tmp 9), none, [9], []⟩,
    ⟨some 35, .bin .quo (.tmp 33) (.tmp 34), none, [33, 34], []⟩,
    ⟨some 6, .mv (.tmp 35), none, [35], []⟩,
    ⟨some 7, .mv (.const (.int .i64 (0))), none, [], []⟩] [6, 7])
.ret))))
theorem ok_16 : FnOk Try.prog 16 36 ac_16 [.tmp 6, .tmp 7] := ⟨Try.f16, Try.func16, by kernel_rfl, by kernel_rfl, by kernel_rfl, by kernel_rfl, by kernel_rfl⟩
end Go.Proofs.Ytfoeddmbhmfjcaa
/- The program's Clean. -/
namespace Go.Proofs.Ytfoeddmbhmfjcaa
open Go.RowKit
set_option maxRecDepth 100000
def aRec (slot seq : Int) : AV := .agg [.v (.int .i64 slot), .v (.int .i64 seq)]
theorem live_blkok {s : St} {slot : Int} (hok : okSt s) : ∀ b ∈ liveL s slot, okBlk b := by
  intro b hb
  rw [← live_eq] at hb
  unfold rlive at hb
  split at hb
  · rename_i hu
    obtain ⟨hc, k, x, rfl, hx, hf⟩ := usedE_0 hu
    rw [Int.toNat_natCast, hx] at hb
    exact (hok.1.2 x (List.mem_of_getElem? hx)).2.2 b (keepL_mem hb)
  · simp at hb
abbrev L_clean (l : List Blk) (slot seq : Int) (k : Nat × St) : ASt := ⟨envOf [(3, .op 0 0), (4, .op 1 0), (6, fBlks true l), (8, .op 2 0), (9, .v (.int .i64 k.1))],
  heapOf [(0, .row true 66 [.v (.int .i64 slot), .v (.int .i64 seq)]), (1, .row true 36 [.v (.slice none 0 0), .v (.slice none 0 0), .v (.slice none 0 0), .v (.int .i64 0)]), (2, stRow 36 true k.2)], 3⟩
set_option maxHeartbeats 2000000 in
theorem clean_spec (s : St) (slot seq : Int) (nb : Nat) (hok : okSt s) : ASound Try.prog 33 [aSt true s, aRec slot seq] nb (.ret (.tup [aSt true (cl s slot seq).1, .v (.int .i64 (cl s slot seq).2)]) []) := by
  refine ok_33.sound (by simp) ⟨al_aSt s, ⟨trivial, trivial, trivial⟩, trivial⟩ ?_
  simp only [ac_33, aRec, s_seq, s_skip, s_ret, s_exit, s_block, s_weak, s_cond, s_reg, s_seqC, s_seqC_exit, s_seqC_ret, s_blockK_normal, s_blockK_ret, s_blockK_exit, s_regC_text, s_regC_draw, s_nil, s_none, s_some, s_cont, s_guard, s_guardU, s_condC, s_kret, s_kfail, s_krd, s_rdK, s_consK, s_kite, s_mv, s_pick, s_new, s_box, s_build, s_bslice, s_load, s_store, s_foff, s_idx, s_fld, s_bin, s_beq, s_isnil, s_un, s_conv, s_len, s_slen, s_append, s_ext, s_slice, s_mksl, s_clo, s_nilc, s_sconv, s_b2s, s_mm, s_call, s_callv, s_tmp, s_const, s_func, s_put, s_put0, s_know, s_envOf0, s_envOf, s_heapOf0, s_heapOf, s_put1, s_app0, s_app1, s_famC_exit, s_famC_ret, boxA, cellsOf, foffA, loadA, ldA, idxA, fldA, binA, binVal, isSh, intVal, lenA, slenA, pickA, storeA, setN, getN, fillA, extA, beqA, isnilA, unA, unVal, convA, nilA, sconvA, b2sA, b2sOf, bytesOf, mmA, srcA, appA, sliceA, lohi, mkslA, List.map_cons, List.map_nil, envA, ↓reduceIte, Nat.reduceEqDiff, Nat.reduceAdd, Nat.reduceMul, List.length_cons, List.length_nil, List.getElem?_cons_zero, List.getElem?_cons_succ, Option.getD_some, Option.getD_none, List.getElem?_nil, Bool.not_true, Bool.not_false, decide_eq_true_eq, decide_eq_false_iff_not, Bool.true_eq_false, Bool.false_eq_true, List.set_cons_zero, List.set_cons_succ, Nat.zero_add, Nat.add_zero, Nat.zero_mul, Int.toNat_natCast, and_self, and_true, true_and, if_true, if_false, reduceCtorEq, Nat.le_refl, Nat.reduceLeDiff, Bool.not_eq_eq_eq_not, fB, fBools, fBlks, fSegs, aBlk, aSg, aSt, stRow, List.drop_zero, List.take_succ_cons, List.take_zero, List.take_nil, Nat.mul_one, Nat.one_mul, List.cons_append, List.nil_append]
  refine ⟨_, logLive_A true s slot _ hok, ?_⟩
  simp only [s_seq, s_skip, s_ret, s_exit, s_block, s_weak, s_cond, s_reg, s_seqC, s_seqC_exit, s_seqC_ret, s_blockK_normal, s_blockK_ret, s_blockK_exit, s_regC_text, s_regC_draw, s_nil, s_none, s_some, s_cont, s_guard, s_guardU, s_condC, s_kret, s_kfail, s_krd, s_rdK, s_consK, s_kite, s_mv, s_pick, s_new, s_box, s_build, s_bslice, s_load, s_store, s_foff, s_idx, s_fld, s_bin, s_beq, s_isnil, s_un, s_conv, s_len, s_slen, s_append, s_ext, s_slice, s_mksl, s_clo, s_nilc, s_sconv, s_b2s, s_mm, s_call, s_callv, s_tmp, s_const, s_func, s_put, s_put0, s_know, s_envOf0, s_envOf, s_heapOf0, s_heapOf, s_put1, s_app0, s_app1, s_famC_exit, s_famC_ret, boxA, cellsOf, foffA, loadA, ldA, idxA, fldA, binA, binVal, isSh, intVal, lenA, slenA, pickA, storeA, setN, getN, fillA, extA, beqA, isnilA, unA, unVal, convA, nilA, sconvA, b2sA, b2sOf, bytesOf, mmA, srcA, appA, sliceA, lohi, mkslA, List.map_cons, List.map_nil, envA, ↓reduceIte, Nat.reduceEqDiff, Nat.reduceAdd, Nat.reduceMul, List.length_cons, List.length_nil, List.getElem?_cons_zero, List.getElem?_cons_succ, Option.getD_some, Option.getD_none, List.getElem?_nil, Bool.not_true, Bool.not_false, decide_eq_true_eq, decide_eq_false_iff_not, Bool.true_eq_false, Bool.false_eq_true, List.set_cons_zero, List.set_cons_succ, Nat.zero_add, Nat.add_zero, Nat.zero_mul, Int.toNat_natCast, and_self, and_true, true_and, if_true, if_false, reduceCtorEq, Nat.le_refl, Nat.reduceLeDiff, Bool.not_eq_eq_eq_not, fB, fBools, fBlks, fSegs, aBlk, aSg, aSt, stRow, List.drop_zero, List.take_succ_cons, List.take_zero, List.take_nil, Nat.mul_one, Nat.one_mul, List.cons_append, List.nil_append]
  by_cases hu : liveErr s slot = 0
  · have hu' := hu
    rw [← used_eq] at hu'
    obtain ⟨hc, i, x, rfl, hx, hf⟩ := usedE_0 hu'
    have g := (rchk_iff s).1 hc
    have hlt : i < s.segs.length := by rw [List.getElem?_eq_some_iff] at hx; exact hx.1
    have e1 : (i : Int) < (s.segs.length : Int) := by omega
    have e0 : (0 : Int) ≤ (i : Int) := by omega
    obtain ⟨g0, g1⟩ := get_Segs (fr := true) hx
    have hcl : cl s i seq = if x.seq = seq then clFree i (clPut (liveL s i) s) else (St.zero, 81) := by
      unfold cl
      rw [if_pos hu, Int.toNat_natCast, hx]
    simp only [hu, e1, e0, g0, not_true, s_seq, s_skip, s_ret, s_exit, s_block, s_weak, s_cond, s_reg, s_seqC, s_seqC_exit, s_seqC_ret, s_blockK_normal, s_blockK_ret, s_blockK_exit, s_regC_text, s_regC_draw, s_nil, s_none, s_some, s_cont, s_guard, s_guardU, s_condC, s_kret, s_kfail, s_krd, s_rdK, s_consK, s_kite, s_mv, s_pick, s_new, s_box, s_build, s_bslice, s_load, s_store, s_foff, s_idx, s_fld, s_bin, s_beq, s_isnil, s_un, s_conv, s_len, s_slen, s_append, s_ext, s_slice, s_mksl, s_clo, s_nilc, s_sconv, s_b2s, s_mm, s_call, s_callv, s_tmp, s_const, s_func, s_put, s_put0, s_know, s_envOf0, s_envOf, s_heapOf0, s_heapOf, s_put1, s_app0, s_app1, s_famC_exit, s_famC_ret, boxA, cellsOf, foffA, loadA, ldA, idxA, fldA, binA, binVal, isSh, intVal, lenA, slenA, pickA, storeA, setN, getN, fillA, extA, beqA, isnilA, unA, unVal, convA, nilA, sconvA, b2sA, b2sOf, bytesOf, mmA, srcA, appA, sliceA, lohi, mkslA, List.map_cons, List.map_nil, envA, ↓reduceIte, Nat.reduceEqDiff, Nat.reduceAdd, Nat.reduceMul, List.length_cons, List.length_nil, List.getElem?_cons_zero, List.getElem?_cons_succ, Option.getD_some, Option.getD_none, List.getElem?_nil, Bool.not_true, Bool.not_false, decide_eq_true_eq, decide_eq_false_iff_not, Bool.true_eq_false, Bool.false_eq_true, List.set_cons_zero, List.set_cons_succ, Nat.zero_add, Nat.add_zero, Nat.zero_mul, Int.toNat_natCast, and_self, and_true, true_and, if_true, if_false, reduceCtorEq, Nat.le_refl, Nat.reduceLeDiff, Bool.not_eq_eq_eq_not, fB, fBools, fBlks, fSegs, aBlk, aSg, aSt, stRow, List.drop_zero, List.take_succ_cons, List.take_zero, List.take_nil, Nat.mul_one, Nat.one_mul, List.cons_append, List.nil_append]
    by_cases hq : x.seq = seq
    · rw [if_pos hq] at hcl
      simp only [hq, not_true, s_seq, s_skip, s_ret, s_exit, s_block, s_weak, s_cond, s_reg, s_seqC, s_seqC_exit, s_seqC_ret, s_blockK_normal, s_blockK_ret, s_blockK_exit, s_regC_text, s_regC_draw, s_nil, s_none, s_some, s_cont, s_guard, s_guardU, s_condC, s_kret, s_kfail, s_krd, s_rdK, s_consK, s_kite, s_mv, s_pick, s_new, s_box, s_build, s_bslice, s_load, s_store, s_foff, s_idx, s_fld, s_bin, s_beq, s_isnil, s_un, s_conv, s_len, s_slen, s_append, s_ext, s_slice, s_mksl, s_clo, s_nilc, s_sconv, s_b2s, s_mm, s_call, s_callv, s_tmp, s_const, s_func, s_put, s_put0, s_know, s_envOf0, s_envOf, s_heapOf0, s_heapOf, s_put1, s_app0, s_app1, s_famC_exit, s_famC_ret, boxA, cellsOf, foffA, loadA, ldA, idxA, fldA, binA, binVal, isSh, intVal, lenA, slenA, pickA, storeA, setN, getN, fillA, extA, beqA, isnilA, unA, unVal, convA, nilA, sconvA, b2sA, b2sOf, bytesOf, mmA, srcA, appA, sliceA, lohi, mkslA, List.map_cons, List.map_nil, envA, ↓reduceIte, Nat.reduceEqDiff, Nat.reduceAdd, Nat.reduceMul, List.length_cons, List.length_nil, List.getElem?_cons_zero, List.getElem?_cons_succ, Option.getD_some, Option.getD_none, List.getElem?_nil, Bool.not_true, Bool.not_false, decide_eq_true_eq, decide_eq_false_iff_not, Bool.true_eq_false, Bool.false_eq_true, List.set_cons_zero, List.set_cons_succ, Nat.zero_add, Nat.add_zero, Nat.zero_mul, Int.toNat_natCast, and_self, and_true, true_and, if_true, if_false, reduceCtorEq, Nat.le_refl, Nat.reduceLeDiff, Bool.not_eq_eq_eq_not, fB, fBools, fBlks, fSegs, aBlk, aSg, aSt, stRow, List.drop_zero, List.take_succ_cons, List.take_zero, List.take_nil, Nat.mul_one, Nat.one_mul, List.cons_append, List.nil_append]
      have hm := live_may (s := s) (slot := (i : Int))
      have hbo := live_blkok (slot := (i : Int)) hok
      have hl8 := (live_len s (i : Int)).1
      generalize liveL s (i : Int) = l at hcl hm hbo hl8 ⊢
      refine ⟨by rfl, ?_⟩
      refine AWc.family (L_clean l i seq) (fun k => k.1 ≤ l.length ∧ Good k.2 ∧ okSt k.2 ∧ clGo (l.drop k.1) k.2 = clGo l s) (fun k => 2 * (l.length - k.1) + (if k.2.opn.length = 8 then 1 else 0)) (0, s) ⟨Nat.zero_le _, g, hok, rfl⟩ ?_ ?_
      · refine Weak.calc [(64, 0), (128, 1), (1664, 2)] (by decide) ?_ ?_ <;> simp [hq, tk_B, tk_Bools, tk_Blks, tk_Segs, AlL_append, renL_append, okL, okH, rowIs, okV, okHV, rowVt, vtL, okF, okHF, rowFz, fzL, fzV, fzOne, nilLike, oldLike, rn, s_envOf, s_envOf0, s_heapOf, s_heapOf0, s_put, s_put0, s_put1, s_app0, s_app1, Al, AlL, ren, renL, al_B, al_Bools, al_Blks, al_Segs, ren_B, ren_Bools, ren_Blks, ren_Segs, fB, fBools, fBlks, fSegs]
      · rintro ⟨k, t⟩ ⟨hk, gt, okt, hgo⟩
        simp only at hk gt okt hgo
        by_cases hlt : k < l.length
        · obtain ⟨b, hb, e1, e0⟩ := lt_at hlt
          have hbm := List.mem_of_getElem? hb
          obtain ⟨g0, g1, g2, g3⟩ := get_Blks3 (fr := true) hb
          have e3 : k * 3 + 3 ≤ l.length * 3 := by omega
          have hd : l.drop k = b :: l.drop (k + 1) := by
            rw [List.getElem?_eq_some_iff] at hb
            obtain ⟨h1, rfl⟩ := hb
            exact List.drop_eq_getElem_cons h1
          rw [hd] at hgo
          simp only [L_clean, g0, g1, g2, g3, e1, e0, e3, len_Blks, s_seq, s_skip, s_ret, s_exit, s_block, s_weak, s_cond, s_reg, s_seqC, s_seqC_exit, s_seqC_ret, s_blockK_normal, s_blockK_ret, s_blockK_exit, s_regC_text, s_regC_draw, s_nil, s_none, s_some, s_cont, s_guard, s_guardU, s_condC, s_kret, s_kfail, s_krd, s_rdK, s_consK, s_kite, s_mv, s_pick, s_new, s_box, s_build, s_bslice, s_load, s_store, s_foff, s_idx, s_fld, s_bin, s_beq, s_isnil, s_un, s_conv, s_len, s_slen, s_append, s_ext, s_slice, s_mksl, s_clo, s_nilc, s_sconv, s_b2s, s_mm, s_call, s_callv, s_tmp, s_const, s_func, s_put, s_put0, s_know, s_envOf0, s_envOf, s_heapOf0, s_heapOf, s_put1, s_app0, s_app1, s_famC_exit, s_famC_ret, boxA, cellsOf, foffA, loadA, ldA, idxA, fldA, binA, binVal, isSh, intVal, lenA, slenA, pickA, storeA, setN, getN, fillA, extA, beqA, isnilA, unA, unVal, convA, nilA, sconvA, b2sA, b2sOf, bytesOf, mmA, srcA, appA, sliceA, lohi, mkslA, List.map_cons, List.map_nil, envA, ↓reduceIte, Nat.reduceEqDiff, Nat.reduceAdd, Nat.reduceMul, List.length_cons, List.length_nil, List.getElem?_cons_zero, List.getElem?_cons_succ, Option.getD_some, Option.getD_none, List.getElem?_nil, Bool.not_true, Bool.not_false, decide_eq_true_eq, decide_eq_false_iff_not, Bool.true_eq_false, Bool.false_eq_true, List.set_cons_zero, List.set_cons_succ, Nat.zero_add, Nat.add_zero, Nat.zero_mul, Int.toNat_natCast, and_self, and_true, true_and, if_true, if_false, reduceCtorEq, Nat.le_refl, Nat.reduceLeDiff, Bool.not_eq_eq_eq_not, fB, fBools, fBlks, fSegs, aBlk, aSg, aSt, stRow, List.drop_zero, List.take_succ_cons, List.take_zero, List.take_nil, Nat.mul_one, Nat.one_mul, List.cons_append, List.nil_append]
          refine ⟨_, logPut_A true true t b _ okt (hbo b hbm), ?_⟩
          simp only [s_seq, s_skip, s_ret, s_exit, s_block, s_weak, s_cond, s_reg, s_seqC, s_seqC_exit, s_seqC_ret, s_blockK_normal, s_blockK_ret, s_blockK_exit, s_regC_text, s_regC_draw, s_nil, s_none, s_some, s_cont, s_guard, s_guardU, s_condC, s_kret, s_kfail, s_krd, s_rdK, s_consK, s_kite, s_mv, s_pick, s_new, s_box, s_build, s_bslice, s_load, s_store, s_foff, s_idx, s_fld, s_bin, s_beq, s_isnil, s_un, s_conv, s_len, s_slen, s_append, s_ext, s_slice, s_mksl, s_clo, s_nilc, s_sconv, s_b2s, s_mm, s_call, s_callv, s_tmp, s_const, s_func, s_put, s_put0, s_know, s_envOf0, s_envOf, s_heapOf0, s_heapOf, s_put1, s_app0, s_app1, s_famC_exit, s_famC_ret, boxA, cellsOf, foffA, loadA, ldA, idxA, fldA, binA, binVal, isSh, intVal, lenA, slenA, pickA, storeA, setN, getN, fillA, extA, beqA, isnilA, unA, unVal, convA, nilA, sconvA, b2sA, b2sOf, bytesOf, mmA, srcA, appA, sliceA, lohi, mkslA, List.map_cons, List.map_nil, envA, ↓reduceIte, Nat.reduceEqDiff, Nat.reduceAdd, Nat.reduceMul, List.length_cons, List.length_nil, List.getElem?_cons_zero, List.getElem?_cons_succ, Option.getD_some, Option.getD_none, List.getElem?_nil, Bool.not_true, Bool.not_false, decide_eq_true_eq, decide_eq_false_iff_not, Bool.true_eq_false, Bool.false_eq_true, List.set_cons_zero, List.set_cons_succ, Nat.zero_add, Nat.add_zero, Nat.zero_mul, Int.toNat_natCast, and_self, and_true, true_and, if_true, if_false, reduceCtorEq, Nat.le_refl, Nat.reduceLeDiff, Bool.not_eq_eq_eq_not, fB, fBools, fBlks, fSegs, aBlk, aSg, aSt, stRow, List.drop_zero, List.take_succ_cons, List.take_zero, List.take_nil, Nat.mul_one, Nat.one_mul, List.cons_append, List.nil_append]
          refine ⟨by rfl, ?_⟩
          by_cases hp : putErr t b = 0
          · simp only [hp, s_seq, s_skip, s_ret, s_exit, s_block, s_weak, s_cond, s_reg, s_seqC, s_seqC_exit, s_seqC_ret, s_blockK_normal, s_blockK_ret, s_blockK_exit, s_regC_text, s_regC_draw, s_nil, s_none, s_some, s_cont, s_guard, s_guardU, s_condC, s_kret, s_kfail, s_krd, s_rdK, s_consK, s_kite, s_mv, s_pick, s_new, s_box, s_build, s_bslice, s_load, s_store, s_foff, s_idx, s_fld, s_bin, s_beq, s_isnil, s_un, s_conv, s_len, s_slen, s_append, s_ext, s_slice, s_mksl, s_clo, s_nilc, s_sconv, s_b2s, s_mm, s_call, s_callv, s_tmp, s_const, s_func, s_put, s_put0, s_know, s_envOf0, s_envOf, s_heapOf0, s_heapOf, s_put1, s_app0, s_app1, s_famC_exit, s_famC_ret, boxA, cellsOf, foffA, loadA, ldA, idxA, fldA, binA, binVal, isSh, intVal, lenA, slenA, pickA, storeA, setN, getN, fillA, extA, beqA, isnilA, unA, unVal, convA, nilA, sconvA, b2sA, b2sOf, bytesOf, mmA, srcA, appA, sliceA, lohi, mkslA, List.map_cons, List.map_nil, envA, ↓reduceIte, Nat.reduceEqDiff, Nat.reduceAdd, Nat.reduceMul, List.length_cons, List.length_nil, List.getElem?_cons_zero, List.getElem?_cons_succ, Option.getD_some, Option.getD_none, List.getElem?_nil, Bool.not_true, Bool.not_false, decide_eq_true_eq, decide_eq_false_iff_not, Bool.true_eq_false, Bool.false_eq_true, List.set_cons_zero, List.set_cons_succ, Nat.zero_add, Nat.add_zero, Nat.zero_mul, Int.toNat_natCast, and_self, and_true, true_and, if_true, if_false, reduceCtorEq, Nat.le_refl, Nat.reduceLeDiff, Bool.not_eq_eq_eq_not, fB, fBools, fBlks, fSegs, aBlk, aSg, aSt, stRow, List.drop_zero, List.take_succ_cons, List.take_zero, List.take_nil, Nat.mul_one, Nat.one_mul, List.cons_append, List.nil_append]
            refine famC_next (k + 1, putSt t b) (by simp only; split <;> split <;> omega) ⟨by simp only; omega, good_put gt (hm b hbm) hp, okSt_put okt (hbo b hbm), by rw [← hgo]; simp [clGo, hp]⟩ ?_
            refine Weak.calc [(0, 0), (1, 1), (2, 2)] (by decide) ?_ ?_ <;> simp [tk_B, tk_Bools, tk_Blks, tk_Segs, AlL_append, renL_append, okL, okH, rowIs, okV, okHV, rowVt, vtL, okF, okHF, rowFz, fzL, fzV, fzOne, nilLike, oldLike, rn, s_envOf, s_envOf0, s_heapOf, s_heapOf0, s_put, s_put0, s_put1, s_app0, s_app1, Al, AlL, ren, renL, al_B, al_Bools, al_Blks, al_Segs, ren_B, ren_Bools, ren_Blks, ren_Segs, fB, fBools, fBlks, fSegs, wrap64 (x := (k : Int) + 1) (by omega)]
          · simp only [hp, s_seq, s_skip, s_ret, s_exit, s_block, s_weak, s_cond, s_reg, s_seqC, s_seqC_exit, s_seqC_ret, s_blockK_normal, s_blockK_ret, s_blockK_exit, s_regC_text, s_regC_draw, s_nil, s_none, s_some, s_cont, s_guard, s_guardU, s_condC, s_kret, s_kfail, s_krd, s_rdK, s_consK, s_kite, s_mv, s_pick, s_new, s_box, s_build, s_bslice, s_load, s_store, s_foff, s_idx, s_fld, s_bin, s_beq, s_isnil, s_un, s_conv, s_len, s_slen, s_append, s_ext, s_slice, s_mksl, s_clo, s_nilc, s_sconv, s_b2s, s_mm, s_call, s_callv, s_tmp, s_const, s_func, s_put, s_put0, s_know, s_envOf0, s_envOf, s_heapOf0, s_heapOf, s_put1, s_app0, s_app1, s_famC_exit, s_famC_ret, boxA, cellsOf, foffA, loadA, ldA, idxA, fldA, binA, binVal, isSh, intVal, lenA, slenA, pickA, storeA, setN, getN, fillA, extA, beqA, isnilA, unA, unVal, convA, nilA, sconvA, b2sA, b2sOf, bytesOf, mmA, srcA, appA, sliceA, lohi, mkslA, List.map_cons, List.map_nil, envA, ↓reduceIte, Nat.reduceEqDiff, Nat.reduceAdd, Nat.reduceMul, List.length_cons, List.length_nil, List.getElem?_cons_zero, List.getElem?_cons_succ, Option.getD_some, Option.getD_none, List.getElem?_nil, Bool.not_true, Bool.not_false, decide_eq_true_eq, decide_eq_false_iff_not, Bool.true_eq_false, Bool.false_eq_true, List.set_cons_zero, List.set_cons_succ, Nat.zero_add, Nat.add_zero, Nat.zero_mul, Int.toNat_natCast, and_self, and_true, true_and, if_true, if_false, reduceCtorEq, Nat.le_refl, Nat.reduceLeDiff, Bool.not_eq_eq_eq_not, fB, fBools, fBlks, fSegs, aBlk, aSg, aSt, stRow, List.drop_zero, List.take_succ_cons, List.take_zero, List.take_nil, Nat.mul_one, Nat.one_mul, List.cons_append, List.nil_append]
            refine ⟨_, logSeal_A true t _ okt, ?_⟩
            simp only [s_seq, s_skip, s_ret, s_exit, s_block, s_weak, s_cond, s_reg, s_seqC, s_seqC_exit, s_seqC_ret, s_blockK_normal, s_blockK_ret, s_blockK_exit, s_regC_text, s_regC_draw, s_nil, s_none, s_some, s_cont, s_guard, s_guardU, s_condC, s_kret, s_kfail, s_krd, s_rdK, s_consK, s_kite, s_mv, s_pick, s_new, s_box, s_build, s_bslice, s_load, s_store, s_foff, s_idx, s_fld, s_bin, s_beq, s_isnil, s_un, s_conv, s_len, s_slen, s_append, s_ext, s_slice, s_mksl, s_clo, s_nilc, s_sconv, s_b2s, s_mm, s_call, s_callv, s_tmp, s_const, s_func, s_put, s_put0, s_know, s_envOf0, s_envOf, s_heapOf0, s_heapOf, s_put1, s_app0, s_app1, s_famC_exit, s_famC_ret, boxA, cellsOf, foffA, loadA, ldA, idxA, fldA, binA, binVal, isSh, intVal, lenA, slenA, pickA, storeA, setN, getN, fillA, extA, beqA, isnilA, unA, unVal, convA, nilA, sconvA, b2sA, b2sOf, bytesOf, mmA, srcA, appA, sliceA, lohi, mkslA, List.map_cons, List.map_nil, envA, ↓reduceIte, Nat.reduceEqDiff, Nat.reduceAdd, Nat.reduceMul, List.length_cons, List.length_nil, List.getElem?_cons_zero, List.getElem?_cons_succ, Option.getD_some, Option.getD_none, List.getElem?_nil, Bool.not_true, Bool.not_false, decide_eq_true_eq, decide_eq_false_iff_not, Bool.true_eq_false, Bool.false_eq_true, List.set_cons_zero, List.set_cons_succ, Nat.zero_add, Nat.add_zero, Nat.zero_mul, Int.toNat_natCast, and_self, and_true, true_and, if_true, if_false, reduceCtorEq, Nat.le_refl, Nat.reduceLeDiff, Bool.not_eq_eq_eq_not, fB, fBools, fBlks, fSegs, aBlk, aSg, aSt, stRow, List.drop_zero, List.take_succ_cons, List.take_zero, List.take_nil, Nat.mul_one, Nat.one_mul, List.cons_append, List.nil_append]
            have h8 : t.opn.length = 8 := by
              have := put_ok gt (hm b hbm)
              by_cases e : t.opn.length = 8
              · exact e
              · rw [if_neg e] at this; exact absurd this hp
            by_cases hs : slErr t = 0
            · simp only [hs, not_true, s_seq, s_skip, s_ret, s_exit, s_block, s_weak, s_cond, s_reg, s_seqC, s_seqC_exit, s_seqC_ret, s_blockK_normal, s_blockK_ret, s_blockK_exit, s_regC_text, s_regC_draw, s_nil, s_none, s_some, s_cont, s_guard, s_guardU, s_condC, s_kret, s_kfail, s_krd, s_rdK, s_consK, s_kite, s_mv, s_pick, s_new, s_box, s_build, s_bslice, s_load, s_store, s_foff, s_idx, s_fld, s_bin, s_beq, s_isnil, s_un, s_conv, s_len, s_slen, s_append, s_ext, s_slice, s_mksl, s_clo, s_nilc, s_sconv, s_b2s, s_mm, s_call, s_callv, s_tmp, s_const, s_func, s_put, s_put0, s_know, s_envOf0, s_envOf, s_heapOf0, s_heapOf, s_put1, s_app0, s_app1, s_famC_exit, s_famC_ret, boxA, cellsOf, foffA, loadA, ldA, idxA, fldA, binA, binVal, isSh, intVal, lenA, slenA, pickA, storeA, setN, getN, fillA, extA, beqA, isnilA, unA, unVal, convA, nilA, sconvA, b2sA, b2sOf, bytesOf, mmA, srcA, appA, sliceA, lohi, mkslA, List.map_cons, List.map_nil, envA, ↓reduceIte, Nat.reduceEqDiff, Nat.reduceAdd, Nat.reduceMul, List.length_cons, List.length_nil, List.getElem?_cons_zero, List.getElem?_cons_succ, Option.getD_some, Option.getD_none, List.getElem?_nil, Bool.not_true, Bool.not_false, decide_eq_true_eq, decide_eq_false_iff_not, Bool.true_eq_false, Bool.false_eq_true, List.set_cons_zero, List.set_cons_succ, Nat.zero_add, Nat.add_zero, Nat.zero_mul, Int.toNat_natCast, and_self, and_true, true_and, if_true, if_false, reduceCtorEq, Nat.le_refl, Nat.reduceLeDiff, Bool.not_eq_eq_eq_not, fB, fBools, fBlks, fSegs, aBlk, aSg, aSt, stRow, List.drop_zero, List.take_succ_cons, List.take_zero, List.take_nil, Nat.mul_one, Nat.one_mul, List.cons_append, List.nil_append]
              have gs := good_seal gt hs
              have h2 : putErr (slSt t) b = 0 := by rw [put_ok gs (hm b hbm), seal_opn hs]; rfl
              refine famC_next (k, slSt t) (by simp only [seal_opn hs, h8]; simp) ⟨by simp only; omega, gs, okSt_seal okt, by rw [← hgo]; simp only; rw [hd]; simp [clGo, hp, hs, h2]⟩ ?_
              refine Weak.calc [(0, 0), (1, 1), (2, 2)] (by decide) ?_ ?_ <;> simp [tk_B, tk_Bools, tk_Blks, tk_Segs, AlL_append, renL_append, okL, okH, rowIs, okV, okHV, rowVt, vtL, okF, okHF, rowFz, fzL, fzV, fzOne, nilLike, oldLike, rn, s_envOf, s_envOf0, s_heapOf, s_heapOf0, s_put, s_put0, s_put1, s_app0, s_app1, Al, AlL, ren, renL, al_B, al_Bools, al_Blks, al_Segs, ren_B, ren_Bools, ren_Blks, ren_Segs, fB, fBools, fBlks, fSegs]
            · simp only [hs, not_false_eq_true, s_seq, s_skip, s_ret, s_exit, s_block, s_weak, s_cond, s_reg, s_seqC, s_seqC_exit, s_seqC_ret, s_blockK_normal, s_blockK_ret, s_blockK_exit, s_regC_text, s_regC_draw, s_nil, s_none, s_some, s_cont, s_guard, s_guardU, s_condC, s_kret, s_kfail, s_krd, s_rdK, s_consK, s_kite, s_mv, s_pick, s_new, s_box, s_build, s_bslice, s_load, s_store, s_foff, s_idx, s_fld, s_bin, s_beq, s_isnil, s_un, s_conv, s_len, s_slen, s_append, s_ext, s_slice, s_mksl, s_clo, s_nilc, s_sconv, s_b2s, s_mm, s_call, s_callv, s_tmp, s_const, s_func, s_put, s_put0, s_know, s_envOf0, s_envOf, s_heapOf0, s_heapOf, s_put1, s_app0, s_app1, s_famC_exit, s_famC_ret, boxA, cellsOf, foffA, loadA, ldA, idxA, fldA, binA, binVal, isSh, intVal, lenA, slenA, pickA, storeA, setN, getN, fillA, extA, beqA, isnilA, unA, unVal, convA, nilA, sconvA, b2sA, b2sOf, bytesOf, mmA, srcA, appA, sliceA, lohi, mkslA, List.map_cons, List.map_nil, envA, ↓reduceIte, Nat.reduceEqDiff, Nat.reduceAdd, Nat.reduceMul, List.length_cons, List.length_nil, List.getElem?_cons_zero, List.getElem?_cons_succ, Option.getD_some, Option.getD_none, List.getElem?_nil, Bool.not_true, Bool.not_false, decide_eq_true_eq, decide_eq_false_iff_not, Bool.true_eq_false, Bool.false_eq_true, List.set_cons_zero, List.set_cons_succ, Nat.zero_add, Nat.add_zero, Nat.zero_mul, Int.toNat_natCast, and_self, and_true, true_and, if_true, if_false, reduceCtorEq, Nat.le_refl, Nat.reduceLeDiff, Bool.not_eq_eq_eq_not, fB, fBools, fBlks, fSegs, aBlk, aSg, aSt, stRow, List.drop_zero, List.take_succ_cons, List.take_zero, List.take_nil, Nat.mul_one, Nat.one_mul, List.cons_append, List.nil_append]
              have hg2 : clGo l s = (St.zero, slErr t) := by rw [← hgo]; simp [clGo, hp, hs]
              rw [hcl, clPut, hg2]
              simp only [hs, if_false, clFree]
              exact Ends.zero (by simp [resL, resOne, tupOf, getN, s_envOf, s_envOf0, s_heapOf, s_heapOf0, s_put1, s_app0, s_app1])
        · obtain rfl : k = l.length := by omega
          have e1 : ¬ ((l.length : Int) < (l.length : Int)) := by omega
          rw [List.drop_length] at hgo
          have hg2 : clGo l s = (t, 0) := by rw [← hgo]; rfl
          simp only [L_clean, e1, s_seq, s_skip, s_ret, s_exit, s_block, s_weak, s_cond, s_reg, s_seqC, s_seqC_exit, s_seqC_ret, s_blockK_normal, s_blockK_ret, s_blockK_exit, s_regC_text, s_regC_draw, s_nil, s_none, s_some, s_cont, s_guard, s_guardU, s_condC, s_kret, s_kfail, s_krd, s_rdK, s_consK, s_kite, s_mv, s_pick, s_new, s_box, s_build, s_bslice, s_load, s_store, s_foff, s_idx, s_fld, s_bin, s_beq, s_isnil, s_un, s_conv, s_len, s_slen, s_append, s_ext, s_slice, s_mksl, s_clo, s_nilc, s_sconv, s_b2s, s_mm, s_call, s_callv, s_tmp, s_const, s_func, s_put, s_put0, s_know, s_envOf0, s_envOf, s_heapOf0, s_heapOf, s_put1, s_app0, s_app1, s_famC_exit, s_famC_ret, boxA, cellsOf, foffA, loadA, ldA, idxA, fldA, binA, binVal, isSh, intVal, lenA, slenA, pickA, storeA, setN, getN, fillA, extA, beqA, isnilA, unA, unVal, convA, nilA, sconvA, b2sA, b2sOf, bytesOf, mmA, srcA, appA, sliceA, lohi, mkslA, List.map_cons, List.map_nil, envA, ↓reduceIte, Nat.reduceEqDiff, Nat.reduceAdd, Nat.reduceMul, List.length_cons, List.length_nil, List.getElem?_cons_zero, List.getElem?_cons_succ, Option.getD_some, Option.getD_none, List.getElem?_nil, Bool.not_true, Bool.not_false, decide_eq_true_eq, decide_eq_false_iff_not, Bool.true_eq_false, Bool.false_eq_true, List.set_cons_zero, List.set_cons_succ, Nat.zero_add, Nat.add_zero, Nat.zero_mul, Int.toNat_natCast, and_self, and_true, true_and, if_true, if_false, reduceCtorEq, Nat.le_refl, Nat.reduceLeDiff, Bool.not_eq_eq_eq_not, fB, fBools, fBlks, fSegs, aBlk, aSg, aSt, stRow, List.drop_zero, List.take_succ_cons, List.take_zero, List.take_nil, Nat.mul_one, Nat.one_mul, List.cons_append, List.nil_append]
          by_cases hl0 : l.length = 0
          · have e2 : ¬ (0 : Int) < (l.length : Int) := by omega
            simp only [e2, s_seq, s_skip, s_ret, s_exit, s_block, s_weak, s_cond, s_reg, s_seqC, s_seqC_exit, s_seqC_ret, s_blockK_normal, s_blockK_ret, s_blockK_exit, s_regC_text, s_regC_draw, s_nil, s_none, s_some, s_cont, s_guard, s_guardU, s_condC, s_kret, s_kfail, s_krd, s_rdK, s_consK, s_kite, s_mv, s_pick, s_new, s_box, s_build, s_bslice, s_load, s_store, s_foff, s_idx, s_fld, s_bin, s_beq, s_isnil, s_un, s_conv, s_len, s_slen, s_append, s_ext, s_slice, s_mksl, s_clo, s_nilc, s_sconv, s_b2s, s_mm, s_call, s_callv, s_tmp, s_const, s_func, s_put, s_put0, s_know, s_envOf0, s_envOf, s_heapOf0, s_heapOf, s_put1, s_app0, s_app1, s_famC_exit, s_famC_ret, boxA, cellsOf, foffA, loadA, ldA, idxA, fldA, binA, binVal, isSh, intVal, lenA, slenA, pickA, storeA, setN, getN, fillA, extA, beqA, isnilA, unA, unVal, convA, nilA, sconvA, b2sA, b2sOf, bytesOf, mmA, srcA, appA, sliceA, lohi, mkslA, List.map_cons, List.map_nil, envA, ↓reduceIte, Nat.reduceEqDiff, Nat.reduceAdd, Nat.reduceMul, List.length_cons, List.length_nil, List.getElem?_cons_zero, List.getElem?_cons_succ, Option.getD_some, Option.getD_none, List.getElem?_nil, Bool.not_true, Bool.not_false, decide_eq_true_eq, decide_eq_false_iff_not, Bool.true_eq_false, Bool.false_eq_true, List.set_cons_zero, List.set_cons_succ, Nat.zero_add, Nat.add_zero, Nat.zero_mul, Int.toNat_natCast, and_self, and_true, true_and, if_true, if_false, reduceCtorEq, Nat.le_refl, Nat.reduceLeDiff, Bool.not_eq_eq_eq_not, fB, fBools, fBlks, fSegs, aBlk, aSg, aSt, stRow, List.drop_zero, List.take_succ_cons, List.take_zero, List.take_nil, Nat.mul_one, Nat.one_mul, List.cons_append, List.nil_append]
            have hc2 : cl s i seq = (frSt t i, frErr t i) := by rw [hcl, clPut, hg2]; simp [clEnd, hl0, clFree]
            rw [hc2]
            refine ⟨_, logFree_A true t i _ okt, ?_⟩
            simp only [s_seq, s_skip, s_ret, s_exit, s_block, s_weak, s_cond, s_reg, s_seqC, s_seqC_exit, s_seqC_ret, s_blockK_normal, s_blockK_ret, s_blockK_exit, s_regC_text, s_regC_draw, s_nil, s_none, s_some, s_cont, s_guard, s_guardU, s_condC, s_kret, s_kfail, s_krd, s_rdK, s_consK, s_kite, s_mv, s_pick, s_new, s_box, s_build, s_bslice, s_load, s_store, s_foff, s_idx, s_fld, s_bin, s_beq, s_isnil, s_un, s_conv, s_len, s_slen, s_append, s_ext, s_slice, s_mksl, s_clo, s_nilc, s_sconv, s_b2s, s_mm, s_call, s_callv, s_tmp, s_const, s_func, s_put, s_put0, s_know, s_envOf0, s_envOf, s_heapOf0, s_heapOf, s_put1, s_app0, s_app1, s_famC_exit, s_famC_ret, boxA, cellsOf, foffA, loadA, ldA, idxA, fldA, binA, binVal, isSh, intVal, lenA, slenA, pickA, storeA, setN, getN, fillA, extA, beqA, isnilA, unA, unVal, convA, nilA, sconvA, b2sA, b2sOf, bytesOf, mmA, srcA, appA, sliceA, lohi, mkslA, List.map_cons, List.map_nil, envA, ↓reduceIte, Nat.reduceEqDiff, Nat.reduceAdd, Nat.reduceMul, List.length_cons, List.length_nil, List.getElem?_cons_zero, List.getElem?_cons_succ, Option.getD_some, Option.getD_none, List.getElem?_nil, Bool.not_true, Bool.not_false, decide_eq_true_eq, decide_eq_false_iff_not, Bool.true_eq_false, Bool.false_eq_true, List.set_cons_zero, List.set_cons_succ, Nat.zero_add, Nat.add_zero, Nat.zero_mul, Int.toNat_natCast, and_self, and_true, true_and, if_true, if_false, reduceCtorEq, Nat.le_refl, Nat.reduceLeDiff, Bool.not_eq_eq_eq_not, fB, fBools, fBlks, fSegs, aBlk, aSg, aSt, stRow, List.drop_zero, List.take_succ_cons, List.take_zero, List.take_nil, Nat.mul_one, Nat.one_mul, List.cons_append, List.nil_append]
            by_cases hfr : frErr t i = 0
            · simp only [hfr, not_true, s_seq, s_skip, s_ret, s_exit, s_block, s_weak, s_cond, s_reg, s_seqC, s_seqC_exit, s_seqC_ret, s_blockK_normal, s_blockK_ret, s_blockK_exit, s_regC_text, s_regC_draw, s_nil, s_none, s_some, s_cont, s_guard, s_guardU, s_condC, s_kret, s_kfail, s_krd, s_rdK, s_consK, s_kite, s_mv, s_pick, s_new, s_box, s_build, s_bslice, s_load, s_store, s_foff, s_idx, s_fld, s_bin, s_beq, s_isnil, s_un, s_conv, s_len, s_slen, s_append, s_ext, s_slice, s_mksl, s_clo, s_nilc, s_sconv, s_b2s, s_mm, s_call, s_callv, s_tmp, s_const, s_func, s_put, s_put0, s_know, s_envOf0, s_envOf, s_heapOf0, s_heapOf, s_put1, s_app0, s_app1, s_famC_exit, s_famC_ret, boxA, cellsOf, foffA, loadA, ldA, idxA, fldA, binA, binVal, isSh, intVal, lenA, slenA, pickA, storeA, setN, getN, fillA, extA, beqA, isnilA, unA, unVal, convA, nilA, sconvA, b2sA, b2sOf, bytesOf, mmA, srcA, appA, sliceA, lohi, mkslA, List.map_cons, List.map_nil, envA, ↓reduceIte, Nat.reduceEqDiff, Nat.reduceAdd, Nat.reduceMul, List.length_cons, List.length_nil, List.getElem?_cons_zero, List.getElem?_cons_succ, Option.getD_some, Option.getD_none, List.getElem?_nil, Bool.not_true, Bool.not_false, decide_eq_true_eq, decide_eq_false_iff_not, Bool.true_eq_false, Bool.false_eq_true, List.set_cons_zero, List.set_cons_succ, Nat.zero_add, Nat.add_zero, Nat.zero_mul, Int.toNat_natCast, and_self, and_true, true_and, if_true, if_false, reduceCtorEq, Nat.le_refl, Nat.reduceLeDiff, Bool.not_eq_eq_eq_not, fB, fBools, fBlks, fSegs, aBlk, aSg, aSt, stRow, List.drop_zero, List.take_succ_cons, List.take_zero, List.take_nil, Nat.mul_one, Nat.one_mul, List.cons_append, List.nil_append]
              exact Ends.data (.inr rfl) (by simp [resL, resOne, tupOf, getN, s_envOf, s_envOf0, s_heapOf, s_heapOf0, s_put1, s_app0, s_app1]) ⟨al_aSt (frSt t i), trivial, trivial⟩
            · simp only [hfr, not_false_eq_true, s_seq, s_skip, s_ret, s_exit, s_block, s_weak, s_cond, s_reg, s_seqC, s_seqC_exit, s_seqC_ret, s_blockK_normal, s_blockK_ret, s_blockK_exit, s_regC_text, s_regC_draw, s_nil, s_none, s_some, s_cont, s_guard, s_guardU, s_condC, s_kret, s_kfail, s_krd, s_rdK, s_consK, s_kite, s_mv, s_pick, s_new, s_box, s_build, s_bslice, s_load, s_store, s_foff, s_idx, s_fld, s_bin, s_beq, s_isnil, s_un, s_conv, s_len, s_slen, s_append, s_ext, s_slice, s_mksl, s_clo, s_nilc, s_sconv, s_b2s, s_mm, s_call, s_callv, s_tmp, s_const, s_func, s_put, s_put0, s_know, s_envOf0, s_envOf, s_heapOf0, s_heapOf, s_put1, s_app0, s_app1, s_famC_exit, s_famC_ret, boxA, cellsOf, foffA, loadA, ldA, idxA, fldA, binA, binVal, isSh, intVal, lenA, slenA, pickA, storeA, setN, getN, fillA, extA, beqA, isnilA, unA, unVal, convA, nilA, sconvA, b2sA, b2sOf, bytesOf, mmA, srcA, appA, sliceA, lohi, mkslA, List.map_cons, List.map_nil, envA, ↓reduceIte, Nat.reduceEqDiff, Nat.reduceAdd, Nat.reduceMul, List.length_cons, List.length_nil, List.getElem?_cons_zero, List.getElem?_cons_succ, Option.getD_some, Option.getD_none, List.getElem?_nil, Bool.not_true, Bool.not_false, decide_eq_true_eq, decide_eq_false_iff_not, Bool.true_eq_false, Bool.false_eq_true, List.set_cons_zero, List.set_cons_succ, Nat.zero_add, Nat.add_zero, Nat.zero_mul, Int.toNat_natCast, and_self, and_true, true_and, if_true, if_false, reduceCtorEq, Nat.le_refl, Nat.reduceLeDiff, Bool.not_eq_eq_eq_not, fB, fBools, fBlks, fSegs, aBlk, aSg, aSt, stRow, List.drop_zero, List.take_succ_cons, List.take_zero, List.take_nil, Nat.mul_one, Nat.one_mul, List.cons_append, List.nil_append]
              rw [show frSt t i = St.zero from if_neg hfr]
              exact Ends.zero (by simp [resL, resOne, tupOf, getN, s_envOf, s_envOf0, s_heapOf, s_heapOf0, s_put1, s_app0, s_app1])
          · have e2 : (0 : Int) < (l.length : Int) := by omega
            simp only [e2, s_seq, s_skip, s_ret, s_exit, s_block, s_weak, s_cond, s_reg, s_seqC, s_seqC_exit, s_seqC_ret, s_blockK_normal, s_blockK_ret, s_blockK_exit, s_regC_text, s_regC_draw, s_nil, s_none, s_some, s_cont, s_guard, s_guardU, s_condC, s_kret, s_kfail, s_krd, s_rdK, s_consK, s_kite, s_mv, s_pick, s_new, s_box, s_build, s_bslice, s_load, s_store, s_foff, s_idx, s_fld, s_bin, s_beq, s_isnil, s_un, s_conv, s_len, s_slen, s_append, s_ext, s_slice, s_mksl, s_clo, s_nilc, s_sconv, s_b2s, s_mm, s_call, s_callv, s_tmp, s_const, s_func, s_put, s_put0, s_know, s_envOf0, s_envOf, s_heapOf0, s_heapOf, s_put1, s_app0, s_app1, s_famC_exit, s_famC_ret, boxA, cellsOf, foffA, loadA, ldA, idxA, fldA, binA, binVal, isSh, intVal, lenA, slenA, pickA, storeA, setN, getN, fillA, extA, beqA, isnilA, unA, unVal, convA, nilA, sconvA, b2sA, b2sOf, bytesOf, mmA, srcA, appA, sliceA, lohi, mkslA, List.map_cons, List.map_nil, envA, ↓reduceIte, Nat.reduceEqDiff, Nat.reduceAdd, Nat.reduceMul, List.length_cons, List.length_nil, List.getElem?_cons_zero, List.getElem?_cons_succ, Option.getD_some, Option.getD_none, List.getElem?_nil, Bool.not_true, Bool.not_false, decide_eq_true_eq, decide_eq_false_iff_not, Bool.true_eq_false, Bool.false_eq_true, List.set_cons_zero, List.set_cons_succ, Nat.zero_add, Nat.add_zero, Nat.zero_mul, Int.toNat_natCast, and_self, and_true, true_and, if_true, if_false, reduceCtorEq, Nat.le_refl, Nat.reduceLeDiff, Bool.not_eq_eq_eq_not, fB, fBools, fBlks, fSegs, aBlk, aSg, aSt, stRow, List.drop_zero, List.take_succ_cons, List.take_zero, List.take_nil, Nat.mul_one, Nat.one_mul, List.cons_append, List.nil_append]
            refine ⟨_, logSeal_A true t _ okt, ?_⟩
            simp only [s_seq, s_skip, s_ret, s_exit, s_block, s_weak, s_cond, s_reg, s_seqC, s_seqC_exit, s_seqC_ret, s_blockK_normal, s_blockK_ret, s_blockK_exit, s_regC_text, s_regC_draw, s_nil, s_none, s_some, s_cont, s_guard, s_guardU, s_condC, s_kret, s_kfail, s_krd, s_rdK, s_consK, s_kite, s_mv, s_pick, s_new, s_box, s_build, s_bslice, s_load, s_store, s_foff, s_idx, s_fld, s_bin, s_beq, s_isnil, s_un, s_conv, s_len, s_slen, s_append, s_ext, s_slice, s_mksl, s_clo, s_nilc, s_sconv, s_b2s, s_mm, s_call, s_callv, s_tmp, s_const, s_func, s_put, s_put0, s_know, s_envOf0, s_envOf, s_heapOf0, s_heapOf, s_put1, s_app0, s_app1, s_famC_exit, s_famC_ret, boxA, cellsOf, foffA, loadA, ldA, idxA, fldA, binA, binVal, isSh, intVal, lenA, slenA, pickA, storeA, setN, getN, fillA, extA, beqA, isnilA, unA, unVal, convA, nilA, sconvA, b2sA, b2sOf, bytesOf, mmA, srcA, appA, sliceA, lohi, mkslA, List.map_cons, List.map_nil, envA, ↓reduceIte, Nat.reduceEqDiff, Nat.reduceAdd, Nat.reduceMul, List.length_cons, List.length_nil, List.getElem?_cons_zero, List.getElem?_cons_succ, Option.getD_some, Option.getD_none, List.getElem?_nil, Bool.not_true, Bool.not_false, decide_eq_true_eq, decide_eq_false_iff_not, Bool.true_eq_false, Bool.false_eq_true, List.set_cons_zero, List.set_cons_succ, Nat.zero_add, Nat.add_zero, Nat.zero_mul, Int.toNat_natCast, and_self, and_true, true_and, if_true, if_false, reduceCtorEq, Nat.le_refl, Nat.reduceLeDiff, Bool.not_eq_eq_eq_not, fB, fBools, fBlks, fSegs, aBlk, aSg, aSt, stRow, List.drop_zero, List.take_succ_cons, List.take_zero, List.take_nil, Nat.mul_one, Nat.one_mul, List.cons_append, List.nil_append]
            by_cases hs : slErr t = 0
            · simp only [hs, not_true, s_seq, s_skip, s_ret, s_exit, s_block, s_weak, s_cond, s_reg, s_seqC, s_seqC_exit, s_seqC_ret, s_blockK_normal, s_blockK_ret, s_blockK_exit, s_regC_text, s_regC_draw, s_nil, s_none, s_some, s_cont, s_guard, s_guardU, s_condC, s_kret, s_kfail, s_krd, s_rdK, s_consK, s_kite, s_mv, s_pick, s_new, s_box, s_build, s_bslice, s_load, s_store, s_foff, s_idx, s_fld, s_bin, s_beq, s_isnil, s_un, s_conv, s_len, s_slen, s_append, s_ext, s_slice, s_mksl, s_clo, s_nilc, s_sconv, s_b2s, s_mm, s_call, s_callv, s_tmp, s_const, s_func, s_put, s_put0, s_know, s_envOf0, s_envOf, s_heapOf0, s_heapOf, s_put1, s_app0, s_app1, s_famC_exit, s_famC_ret, boxA, cellsOf, foffA, loadA, ldA, idxA, fldA, binA, binVal, isSh, intVal, lenA, slenA, pickA, storeA, setN, getN, fillA, extA, beqA, isnilA, unA, unVal, convA, nilA, sconvA, b2sA, b2sOf, bytesOf, mmA, srcA, appA, sliceA, lohi, mkslA, List.map_cons, List.map_nil, envA, ↓reduceIte, Nat.reduceEqDiff, Nat.reduceAdd, Nat.reduceMul, List.length_cons, List.length_nil, List.getElem?_cons_zero, List.getElem?_cons_succ, Option.getD_some, Option.getD_none, List.getElem?_nil, Bool.not_true, Bool.not_false, decide_eq_true_eq, decide_eq_false_iff_not, Bool.true_eq_false, Bool.false_eq_true, List.set_cons_zero, List.set_cons_succ, Nat.zero_add, Nat.add_zero, Nat.zero_mul, Int.toNat_natCast, and_self, and_true, true_and, if_true, if_false, reduceCtorEq, Nat.le_refl, Nat.reduceLeDiff, Bool.not_eq_eq_eq_not, fB, fBools, fBlks, fSegs, aBlk, aSg, aSt, stRow, List.drop_zero, List.take_succ_cons, List.take_zero, List.take_nil, Nat.mul_one, Nat.one_mul, List.cons_append, List.nil_append]
              have hc2 : cl s i seq = (frSt (slSt t) i, frErr (slSt t) i) := by rw [hcl, clPut, hg2]; simp [clEnd, hl0, hs, clFree]
              rw [hc2]
              refine ⟨_, logFree_A true (slSt t) i _ (okSt_seal okt), ?_⟩
              simp only [s_seq, s_skip, s_ret, s_exit, s_block, s_weak, s_cond, s_reg, s_seqC, s_seqC_exit, s_seqC_ret, s_blockK_normal, s_blockK_ret, s_blockK_exit, s_regC_text, s_regC_draw, s_nil, s_none, s_some, s_cont, s_guard, s_guardU, s_condC, s_kret, s_kfail, s_krd, s_rdK, s_consK, s_kite, s_mv, s_pick, s_new, s_box, s_build, s_bslice, s_load, s_store, s_foff, s_idx, s_fld, s_bin, s_beq, s_isnil, s_un, s_conv, s_len, s_slen, s_append, s_ext, s_slice, s_mksl, s_clo, s_nilc, s_sconv, s_b2s, s_mm, s_call, s_callv, s_tmp, s_const, s_func, s_put, s_put0, s_know, s_envOf0, s_envOf, s_heapOf0, s_heapOf, s_put1, s_app0, s_app1, s_famC_exit, s_famC_ret, boxA, cellsOf, foffA, loadA, ldA, idxA, fldA, binA, binVal, isSh, intVal, lenA, slenA, pickA, storeA, setN, getN, fillA, extA, beqA, isnilA, unA, unVal, convA, nilA, sconvA, b2sA, b2sOf, bytesOf, mmA, srcA, appA, sliceA, lohi, mkslA, List.map_cons, List.map_nil, envA, ↓reduceIte, Nat.reduceEqDiff, Nat.reduceAdd, Nat.reduceMul, List.length_cons, List.length_nil, List.getElem?_cons_zero, List.getElem?_cons_succ, Option.getD_some, Option.getD_none, List.getElem?_nil, Bool.not_true, Bool.not_false, decide_eq_true_eq, decide_eq_false_iff_not, Bool.true_eq_false, Bool.false_eq_true, List.set_cons_zero, List.set_cons_succ, Nat.zero_add, Nat.add_zero, Nat.zero_mul, Int.toNat_natCast, and_self, and_true, true_and, if_true, if_false, reduceCtorEq, Nat.le_refl, Nat.reduceLeDiff, Bool.not_eq_eq_eq_not, fB, fBools, fBlks, fSegs, aBlk, aSg, aSt, stRow, List.drop_zero, List.take_succ_cons, List.take_zero, List.take_nil, Nat.mul_one, Nat.one_mul, List.cons_append, List.nil_append]
              by_cases hfr : frErr (slSt t) i = 0
              · simp only [hfr, not_true, s_seq, s_skip, s_ret, s_exit, s_block, s_weak, s_cond, s_reg, s_seqC, s_seqC_exit, s_seqC_ret, s_blockK_normal, s_blockK_ret, s_blockK_exit, s_regC_text, s_regC_draw, s_nil, s_none, s_some, s_cont, s_guard, s_guardU, s_condC, s_kret, s_kfail, s_krd, s_rdK, s_consK, s_kite, s_mv, s_pick, s_new, s_box, s_build, s_bslice, s_load, s_store, s_foff, s_idx, s_fld, s_bin, s_beq, s_isnil, s_un, s_conv, s_len, s_slen, s_append, s_ext, s_slice, s_mksl, s_clo, s_nilc, s_sconv, s_b2s, s_mm, s_call, s_callv, s_tmp, s_const, s_func, s_put, s_put0, s_know, s_envOf0, s_envOf, s_heapOf0, s_heapOf, s_put1, s_app0, s_app1, s_famC_exit, s_famC_ret, boxA, cellsOf, foffA, loadA, ldA, idxA, fldA, binA, binVal, isSh, intVal, lenA, slenA, pickA, storeA, setN, getN, fillA, extA, beqA, isnilA, unA, unVal, convA, nilA, sconvA, b2sA, b2sOf, bytesOf, mmA, srcA, appA, sliceA, lohi, mkslA, List.map_cons, List.map_nil, envA, ↓reduceIte, Nat.reduceEqDiff, Nat.reduceAdd, Nat.reduceMul, List.length_cons, List.length_nil, List.getElem?_cons_zero, List.getElem?_cons_succ, Option.getD_some, Option.getD_none, List.getElem?_nil, Bool.not_true, Bool.not_false, decide_eq_true_eq, decide_eq_false_iff_not, Bool.true_eq_false, Bool.false_eq_true, List.set_cons_zero, List.set_cons_succ, Nat.zero_add, Nat.add_zero, Nat.zero_mul, Int.toNat_natCast, and_self, and_true, true_and, if_true, if_false, reduceCtorEq, Nat.le_refl, Nat.reduceLeDiff, Bool.not_eq_eq_eq_not, fB, fBools, fBlks, fSegs, aBlk, aSg, aSt, stRow, List.drop_zero, List.take_succ_cons, List.take_zero, List.take_nil, Nat.mul_one, Nat.one_mul, List.cons_append, List.nil_append]
                exact Ends.data (.inr rfl) (by simp [resL, resOne, tupOf, getN, s_envOf, s_envOf0, s_heapOf, s_heapOf0, s_put1, s_app0, s_app1]) ⟨al_aSt (frSt (slSt t) i), trivial, trivial⟩
              · simp only [hfr, not_false_eq_true, s_seq, s_skip, s_ret, s_exit, s_block, s_weak, s_cond, s_reg, s_seqC, s_seqC_exit, s_seqC_ret, s_blockK_normal, s_blockK_ret, s_blockK_exit, s_regC_text, s_regC_draw, s_nil, s_none, s_some, s_cont, s_guard, s_guardU, s_condC, s_kret, s_kfail, s_krd, s_rdK, s_consK, s_kite, s_mv, s_pick, s_new, s_box, s_build, s_bslice, s_load, s_store, s_foff, s_idx, s_fld, s_bin, s_beq, s_isnil, s_un, s_conv, s_len, s_slen, s_append, s_ext, s_slice, s_mksl, s_clo, s_nilc, s_sconv, s_b2s, s_mm, s_call, s_callv, s_tmp, s_const, s_func, s_put, s_put0, s_know, s_envOf0, s_envOf, s_heapOf0, s_heapOf, s_put1, s_app0, s_app1, s_famC_exit, s_famC_ret, boxA, cellsOf, foffA, loadA, ldA, idxA, fldA, binA, binVal, isSh, intVal, lenA, slenA, pickA, storeA, setN, getN, fillA, extA, beqA, isnilA, unA, unVal, convA, nilA, sconvA, b2sA, b2sOf, bytesOf, mmA, srcA, appA, sliceA, lohi, mkslA, List.map_cons, List.map_nil, envA, ↓reduceIte, Nat.reduceEqDiff, Nat.reduceAdd, Nat.reduceMul, List.length_cons, List.length_nil, List.getElem?_cons_zero, List.getElem?_cons_succ, Option.getD_some, Option.getD_none, List.getElem?_nil, Bool.not_true, Bool.not_false, decide_eq_true_eq, decide_eq_false_iff_not, Bool.true_eq_false, Bool.false_eq_true, List.set_cons_zero, List.set_cons_succ, Nat.zero_add, Nat.add_zero, Nat.zero_mul, Int.toNat_natCast, and_self, and_true, true_and, if_true, if_false, reduceCtorEq, Nat.le_refl, Nat.reduceLeDiff, Bool.not_eq_eq_eq_not, fB, fBools, fBlks, fSegs, aBlk, aSg, aSt, stRow, List.drop_zero, List.take_succ_cons, List.take_zero, List.take_nil, Nat.mul_one, Nat.one_mul, List.cons_append, List.nil_append]
                rw [show frSt (slSt t) i = St.zero from if_neg hfr]
                exact Ends.zero (by simp [resL, resOne, tupOf, getN, s_envOf, s_envOf0, s_heapOf, s_heapOf0, s_put1, s_app0, s_app1])
            · simp only [hs, not_false_eq_true, s_seq, s_skip, s_ret, s_exit, s_block, s_weak, s_cond, s_reg, s_seqC, s_seqC_exit, s_seqC_ret, s_blockK_normal, s_blockK_ret, s_blockK_exit, s_regC_text, s_regC_draw, s_nil, s_none, s_some, s_cont, s_guard, s_guardU, s_condC, s_kret, s_kfail, s_krd, s_rdK, s_consK, s_kite, s_mv, s_pick, s_new, s_box, s_build, s_bslice, s_load, s_store, s_foff, s_idx, s_fld, s_bin, s_beq, s_isnil, s_un, s_conv, s_len, s_slen, s_append, s_ext, s_slice, s_mksl, s_clo, s_nilc, s_sconv, s_b2s, s_mm, s_call, s_callv, s_tmp, s_const, s_func, s_put, s_put0, s_know, s_envOf0, s_envOf, s_heapOf0, s_heapOf, s_put1, s_app0, s_app1, s_famC_exit, s_famC_ret, boxA, cellsOf, foffA, loadA, ldA, idxA, fldA, binA, binVal, isSh, intVal, lenA, slenA, pickA, storeA, setN, getN, fillA, extA, beqA, isnilA, unA, unVal, convA, nilA, sconvA, b2sA, b2sOf, bytesOf, mmA, srcA, appA, sliceA, lohi, mkslA, List.map_cons, List.map_nil, envA, ↓reduceIte, Nat.reduceEqDiff, Nat.reduceAdd, Nat.reduceMul, List.length_cons, List.length_nil, List.getElem?_cons_zero, List.getElem?_cons_succ, Option.getD_some, Option.getD_none, List.getElem?_nil, Bool.not_true, Bool.not_false, decide_eq_true_eq, decide_eq_false_iff_not, Bool.true_eq_false, Bool.false_eq_true, List.set_cons_zero, List.set_cons_succ, Nat.zero_add, Nat.add_zero, Nat.zero_mul, Int.toNat_natCast, and_self, and_true, true_and, if_true, if_false, reduceCtorEq, Nat.le_refl, Nat.reduceLeDiff, Bool.not_eq_eq_eq_not, fB, fBools, fBlks, fSegs, aBlk, aSg, aSt, stRow, List.drop_zero, List.take_succ_cons, List.take_zero, List.take_nil, Nat.mul_one, Nat.one_mul, List.cons_append, List.nil_append]
              have hc2 : cl s i seq = (St.zero, slErr t) := by rw [hcl, clPut, hg2]; simp [clEnd, hl0, hs, clFree]
              rw [hc2]
              exact Ends.zero (by simp [resL, resOne, tupOf, getN, s_envOf, s_envOf0, s_heapOf, s_heapOf0, s_put1, s_app0, s_app1])
    · rw [if_neg hq] at hcl
      simp only [hq, not_false_eq_true, s_seq, s_skip, s_ret, s_exit, s_block, s_weak, s_cond, s_reg, s_seqC, s_seqC_exit, s_seqC_ret, s_blockK_normal, s_blockK_ret, s_blockK_exit, s_regC_text, s_regC_draw, s_nil, s_none, s_some, s_cont, s_guard, s_guardU, s_condC, s_kret, s_kfail, s_krd, s_rdK, s_consK, s_kite, s_mv, s_pick, s_new, s_box, s_build, s_bslice, s_load, s_store, s_foff, s_idx, s_fld, s_bin, s_beq, s_isnil, s_un, s_conv, s_len, s_slen, s_append, s_ext, s_slice, s_mksl, s_clo, s_nilc, s_sconv, s_b2s, s_mm, s_call, s_callv, s_tmp, s_const, s_func, s_put, s_put0, s_know, s_envOf0, s_envOf, s_heapOf0, s_heapOf, s_put1, s_app0, s_app1, s_famC_exit, s_famC_ret, boxA, cellsOf, foffA, loadA, ldA, idxA, fldA, binA, binVal, isSh, intVal, lenA, slenA, pickA, storeA, setN, getN, fillA, extA, beqA, isnilA, unA, unVal, convA, nilA, sconvA, b2sA, b2sOf, bytesOf, mmA, srcA, appA, sliceA, lohi, mkslA, List.map_cons, List.map_nil, envA, ↓reduceIte, Nat.reduceEqDiff, Nat.reduceAdd, Nat.reduceMul, List.length_cons, List.length_nil, List.getElem?_cons_zero, List.getElem?_cons_succ, Option.getD_some, Option.getD_none, List.getElem?_nil, Bool.not_true, Bool.not_false, decide_eq_true_eq, decide_eq_false_iff_not, Bool.true_eq_false, Bool.false_eq_true, List.set_cons_zero, List.set_cons_succ, Nat.zero_add, Nat.add_zero, Nat.zero_mul, Int.toNat_natCast, and_self, and_true, true_and, if_true, if_false, reduceCtorEq, Nat.le_refl, Nat.reduceLeDiff, Bool.not_eq_eq_eq_not, fB, fBools, fBlks, fSegs, aBlk, aSg, aSt, stRow, List.drop_zero, List.take_succ_cons, List.take_zero, List.take_nil, Nat.mul_one, Nat.one_mul, List.cons_append, List.nil_append]
      refine ⟨by rfl, ?_⟩
      rw [hcl]
      exact Ends.zero (by simp [resL, resOne, tupOf, getN, s_envOf, s_envOf0, s_heapOf, s_heapOf0, s_put1, s_app0, s_app1])
  · have hcl : cl s slot seq = (St.zero, liveErr s slot) := by unfold cl; rw [if_neg hu]
    simp only [hu, not_false_eq_true, s_seq, s_skip, s_ret, s_exit, s_block, s_weak, s_cond, s_reg, s_seqC, s_seqC_exit, s_seqC_ret, s_blockK_normal, s_blockK_ret, s_blockK_exit, s_regC_text, s_regC_draw, s_nil, s_none, s_some, s_cont, s_guard, s_guardU, s_condC, s_kret, s_kfail, s_krd, s_rdK, s_consK, s_kite, s_mv, s_pick, s_new, s_box, s_build, s_bslice, s_load, s_store, s_foff, s_idx, s_fld, s_bin, s_beq, s_isnil, s_un, s_conv, s_len, s_slen, s_append, s_ext, s_slice, s_mksl, s_clo, s_nilc, s_sconv, s_b2s, s_mm, s_call, s_callv, s_tmp, s_const, s_func, s_put, s_put0, s_know, s_envOf0, s_envOf, s_heapOf0, s_heapOf, s_put1, s_app0, s_app1, s_famC_exit, s_famC_ret, boxA, cellsOf, foffA, loadA, ldA, idxA, fldA, binA, binVal, isSh, intVal, lenA, slenA, pickA, storeA, setN, getN, fillA, extA, beqA, isnilA, unA, unVal, convA, nilA, sconvA, b2sA, b2sOf, bytesOf, mmA, srcA, appA, sliceA, lohi, mkslA, List.map_cons, List.map_nil, envA, ↓reduceIte, Nat.reduceEqDiff, Nat.reduceAdd, Nat.reduceMul, List.length_cons, List.length_nil, List.getElem?_cons_zero, List.getElem?_cons_succ, Option.getD_some, Option.getD_none, List.getElem?_nil, Bool.not_true, Bool.not_false, decide_eq_true_eq, decide_eq_false_iff_not, Bool.true_eq_false, Bool.false_eq_true, List.set_cons_zero, List.set_cons_succ, Nat.zero_add, Nat.add_zero, Nat.zero_mul, Int.toNat_natCast, and_self, and_true, true_and, if_true, if_false, reduceCtorEq, Nat.le_refl, Nat.reduceLeDiff, Bool.not_eq_eq_eq_not, fB, fBools, fBlks, fSegs, aBlk, aSg, aSt, stRow, List.drop_zero, List.take_succ_cons, List.take_zero, List.take_nil, Nat.mul_one, Nat.one_mul, List.cons_append, List.nil_append]
    rw [hcl]
    exact Ends.zero (by simp [resL, resOne, tupOf, getN, s_envOf, s_envOf0, s_heapOf, s_heapOf0, s_put1, s_app0, s_app1])
end Go.Proofs.Ytfoeddmbhmfjcaa
/- Score; alive of law 16; CleanNever. -/
namespace Go.Proofs.Ytfoeddmbhmfjcaa
open Go.RowKit
set_option maxRecDepth 100000
theorem within_spec (n low high : Int) (nb : Nat) : ASound Try.prog 48 [.v (.int .i64 n), .v (.int .i64 low), .v (.int .i64 high)] nb (.ret (.v (.bool (decide (low ≤ n ∧ n ≤ high)))) []) := by
  refine ok_48.sound (by simp) ⟨trivial, trivial, trivial, trivial⟩ ?_
  simp only [ac_48, s_seq, s_skip, s_ret, s_exit, s_block, s_weak, s_cond, s_reg, s_seqC, s_seqC_exit, s_seqC_ret, s_blockK_normal, s_blockK_ret, s_blockK_exit, s_regC_text, s_regC_draw, s_nil, s_none, s_some, s_cont, s_guard, s_guardU, s_condC, s_kret, s_kfail, s_krd, s_rdK, s_consK, s_kite, s_mv, s_pick, s_new, s_box, s_build, s_bslice, s_load, s_store, s_foff, s_idx, s_fld, s_bin, s_beq, s_isnil, s_un, s_conv, s_len, s_slen, s_append, s_ext, s_slice, s_mksl, s_clo, s_nilc, s_sconv, s_b2s, s_mm, s_call, s_callv, s_tmp, s_const, s_func, s_put, s_put0, s_know, s_envOf0, s_envOf, s_heapOf0, s_heapOf, s_put1, s_app0, s_app1, s_famC_exit, s_famC_ret, boxA, cellsOf, foffA, loadA, ldA, idxA, fldA, binA, binVal, isSh, intVal, lenA, slenA, pickA, storeA, setN, getN, fillA, extA, beqA, isnilA, unA, unVal, convA, nilA, sconvA, b2sA, b2sOf, bytesOf, mmA, srcA, appA, sliceA, lohi, mkslA, List.map_cons, List.map_nil, envA, ↓reduceIte, Nat.reduceEqDiff, Nat.reduceAdd, Nat.reduceMul, List.length_cons, List.length_nil, List.getElem?_cons_zero, List.getElem?_cons_succ, Option.getD_some, Option.getD_none, List.getElem?_nil, Bool.not_true, Bool.not_false, decide_eq_true_eq, decide_eq_false_iff_not, Bool.true_eq_false, Bool.false_eq_true, List.set_cons_zero, List.set_cons_succ, Nat.zero_add, Nat.add_zero, Nat.zero_mul, Int.toNat_natCast, and_self, and_true, true_and, if_true, if_false, reduceCtorEq, Nat.le_refl, Nat.reduceLeDiff, Bool.not_eq_eq_eq_not, fB, fBools, fBlks, fSegs, aBlk, aSg, aSt, stRow, List.drop_zero, List.take_succ_cons, List.take_zero, List.take_nil, Nat.mul_one, Nat.one_mul, List.cons_append, List.nil_append]
  by_cases h1 : low ≤ n
  · simp only [h1, s_seq, s_skip, s_ret, s_exit, s_block, s_weak, s_cond, s_reg, s_seqC, s_seqC_exit, s_seqC_ret, s_blockK_normal, s_blockK_ret, s_blockK_exit, s_regC_text, s_regC_draw, s_nil, s_none, s_some, s_cont, s_guard, s_guardU, s_condC, s_kret, s_kfail, s_krd, s_rdK, s_consK, s_kite, s_mv, s_pick, s_new, s_box, s_build, s_bslice, s_load, s_store, s_foff, s_idx, s_fld, s_bin, s_beq, s_isnil, s_un, s_conv, s_len, s_slen, s_append, s_ext, s_slice, s_mksl, s_clo, s_nilc, s_sconv, s_b2s, s_mm, s_call, s_callv, s_tmp, s_const, s_func, s_put, s_put0, s_know, s_envOf0, s_envOf, s_heapOf0, s_heapOf, s_put1, s_app0, s_app1, s_famC_exit, s_famC_ret, boxA, cellsOf, foffA, loadA, ldA, idxA, fldA, binA, binVal, isSh, intVal, lenA, slenA, pickA, storeA, setN, getN, fillA, extA, beqA, isnilA, unA, unVal, convA, nilA, sconvA, b2sA, b2sOf, bytesOf, mmA, srcA, appA, sliceA, lohi, mkslA, List.map_cons, List.map_nil, envA, ↓reduceIte, Nat.reduceEqDiff, Nat.reduceAdd, Nat.reduceMul, List.length_cons, List.length_nil, List.getElem?_cons_zero, List.getElem?_cons_succ, Option.getD_some, Option.getD_none, List.getElem?_nil, Bool.not_true, Bool.not_false, decide_eq_true_eq, decide_eq_false_iff_not, Bool.true_eq_false, Bool.false_eq_true, List.set_cons_zero, List.set_cons_succ, Nat.zero_add, Nat.add_zero, Nat.zero_mul, Int.toNat_natCast, and_self, and_true, true_and, if_true, if_false, reduceCtorEq, Nat.le_refl, Nat.reduceLeDiff, Bool.not_eq_eq_eq_not, fB, fBools, fBlks, fSegs, aBlk, aSg, aSt, stRow, List.drop_zero, List.take_succ_cons, List.take_zero, List.take_nil, Nat.mul_one, Nat.one_mul, List.cons_append, List.nil_append]
    exact Ends.data (.inr rfl) (by simp [h1, resL, resOne, tupOf, getN, s_envOf, s_envOf0, s_heapOf, s_heapOf0, s_put1, s_app0, s_app1]) trivial
  · simp only [h1, s_seq, s_skip, s_ret, s_exit, s_block, s_weak, s_cond, s_reg, s_seqC, s_seqC_exit, s_seqC_ret, s_blockK_normal, s_blockK_ret, s_blockK_exit, s_regC_text, s_regC_draw, s_nil, s_none, s_some, s_cont, s_guard, s_guardU, s_condC, s_kret, s_kfail, s_krd, s_rdK, s_consK, s_kite, s_mv, s_pick, s_new, s_box, s_build, s_bslice, s_load, s_store, s_foff, s_idx, s_fld, s_bin, s_beq, s_isnil, s_un, s_conv, s_len, s_slen, s_append, s_ext, s_slice, s_mksl, s_clo, s_nilc, s_sconv, s_b2s, s_mm, s_call, s_callv, s_tmp, s_const, s_func, s_put, s_put0, s_know, s_envOf0, s_envOf, s_heapOf0, s_heapOf, s_put1, s_app0, s_app1, s_famC_exit, s_famC_ret, boxA, cellsOf, foffA, loadA, ldA, idxA, fldA, binA, binVal, isSh, intVal, lenA, slenA, pickA, storeA, setN, getN, fillA, extA, beqA, isnilA, unA, unVal, convA, nilA, sconvA, b2sA, b2sOf, bytesOf, mmA, srcA, appA, sliceA, lohi, mkslA, List.map_cons, List.map_nil, envA, ↓reduceIte, Nat.reduceEqDiff, Nat.reduceAdd, Nat.reduceMul, List.length_cons, List.length_nil, List.getElem?_cons_zero, List.getElem?_cons_succ, Option.getD_some, Option.getD_none, List.getElem?_nil, Bool.not_true, Bool.not_false, decide_eq_true_eq, decide_eq_false_iff_not, Bool.true_eq_false, Bool.false_eq_true, List.set_cons_zero, List.set_cons_succ, Nat.zero_add, Nat.add_zero, Nat.zero_mul, Int.toNat_natCast, and_self, and_true, true_and, if_true, if_false, reduceCtorEq, Nat.le_refl, Nat.reduceLeDiff, Bool.not_eq_eq_eq_not, fB, fBools, fBlks, fSegs, aBlk, aSg, aSt, stRow, List.drop_zero, List.take_succ_cons, List.take_zero, List.take_nil, Nat.mul_one, Nat.one_mul, List.cons_append, List.nil_append]
    exact Ends.data (.inr rfl) (by simp [h1, resL, resOne, tupOf, getN, s_envOf, s_envOf0, s_heapOf, s_heapOf0, s_put1, s_app0, s_app1]) trivial
def scOk (seq live next : Int) : Bool := decide ((1 ≤ seq ∧ seq ≤ 1099511627776) ∧ (0 ≤ live ∧ live ≤ 8) ∧ (seq ≤ next ∧ next ≤ 1099511627776))
def scV (seq live next : Int) : Int := if scOk seq live next = true then (64 * (8 - live) * (next - seq)).tdiv (8 + live) else 0
def scE (seq live next : Int) : Int := if scOk seq live next = true then 0 else 4
theorem sc_size {a b c : Int} (h1 : 0 ≤ a) (h2 : a ≤ 8) (h3 : 0 ≤ b) (h4 : b ≤ 1099511627776) : 0 ≤ 64 * a * b ∧ 64 * a * b ≤ 562949953421312 := by
  refine ⟨Int.mul_nonneg (by omega) h3, ?_⟩
  have h5 : 64 * a * b ≤ 512 * b := Int.mul_le_mul_of_nonneg_right (by omega) h3
  omega
theorem score_spec (seq live next : Int) (nb : Nat) : ASound Try.prog 16 [.v (.int .i64 seq), .v (.int .i64 live), .v (.int .i64 next)] nb (.ret (.tup [.v (.int .i64 (scV seq live next)), .v (.int .i64 (scE seq live next))]) []) := by
  refine ok_16.sound (by simp) ⟨trivial, trivial, trivial, trivial⟩ ?_
  simp only [ac_16, s_seq, s_skip, s_ret, s_exit, s_block, s_weak, s_cond, s_reg, s_seqC, s_seqC_exit, s_seqC_ret, s_blockK_normal, s_blockK_ret, s_blockK_exit, s_regC_text, s_regC_draw, s_nil, s_none, s_some, s_cont, s_guard, s_guardU, s_condC, s_kret, s_kfail, s_krd, s_rdK, s_consK, s_kite, s_mv, s_pick, s_new, s_box, s_build, s_bslice, s_load, s_store, s_foff, s_idx, s_fld, s_bin, s_beq, s_isnil, s_un, s_conv, s_len, s_slen, s_append, s_ext, s_slice, s_mksl, s_clo, s_nilc, s_sconv, s_b2s, s_mm, s_call, s_callv, s_tmp, s_const, s_func, s_put, s_put0, s_know, s_envOf0, s_envOf, s_heapOf0, s_heapOf, s_put1, s_app0, s_app1, s_famC_exit, s_famC_ret, boxA, cellsOf, foffA, loadA, ldA, idxA, fldA, binA, binVal, isSh, intVal, lenA, slenA, pickA, storeA, setN, getN, fillA, extA, beqA, isnilA, unA, unVal, convA, nilA, sconvA, b2sA, b2sOf, bytesOf, mmA, srcA, appA, sliceA, lohi, mkslA, List.map_cons, List.map_nil, envA, ↓reduceIte, Nat.reduceEqDiff, Nat.reduceAdd, Nat.reduceMul, List.length_cons, List.length_nil, List.getElem?_cons_zero, List.getElem?_cons_succ, Option.getD_some, Option.getD_none, List.getElem?_nil, Bool.not_true, Bool.not_false, decide_eq_true_eq, decide_eq_false_iff_not, Bool.true_eq_false, Bool.false_eq_true, List.set_cons_zero, List.set_cons_succ, Nat.zero_add, Nat.add_zero, Nat.zero_mul, Int.toNat_natCast, and_self, and_true, true_and, if_true, if_false, reduceCtorEq, Nat.le_refl, Nat.reduceLeDiff, Bool.not_eq_eq_eq_not, fB, fBools, fBlks, fSegs, aBlk, aSg, aSt, stRow, List.drop_zero, List.take_succ_cons, List.take_zero, List.take_nil, Nat.mul_one, Nat.one_mul, List.cons_append, List.nil_append]
  refine ⟨_, within_spec seq 1 1099511627776 _, ?_⟩
  by_cases h1 : 1 ≤ seq ∧ seq ≤ 1099511627776
  · simp only [h1, decide_true, Bool.not_true, s_seq, s_skip, s_ret, s_exit, s_block, s_weak, s_cond, s_reg, s_seqC, s_seqC_exit, s_seqC_ret, s_blockK_normal, s_blockK_ret, s_blockK_exit, s_regC_text, s_regC_draw, s_nil, s_none, s_some, s_cont, s_guard, s_guardU, s_condC, s_kret, s_kfail, s_krd, s_rdK, s_consK, s_kite, s_mv, s_pick, s_new, s_box, s_build, s_bslice, s_load, s_store, s_foff, s_idx, s_fld, s_bin, s_beq, s_isnil, s_un, s_conv, s_len, s_slen, s_append, s_ext, s_slice, s_mksl, s_clo, s_nilc, s_sconv, s_b2s, s_mm, s_call, s_callv, s_tmp, s_const, s_func, s_put, s_put0, s_know, s_envOf0, s_envOf, s_heapOf0, s_heapOf, s_put1, s_app0, s_app1, s_famC_exit, s_famC_ret, boxA, cellsOf, foffA, loadA, ldA, idxA, fldA, binA, binVal, isSh, intVal, lenA, slenA, pickA, storeA, setN, getN, fillA, extA, beqA, isnilA, unA, unVal, convA, nilA, sconvA, b2sA, b2sOf, bytesOf, mmA, srcA, appA, sliceA, lohi, mkslA, List.map_cons, List.map_nil, envA, ↓reduceIte, Nat.reduceEqDiff, Nat.reduceAdd, Nat.reduceMul, List.length_cons, List.length_nil, List.getElem?_cons_zero, List.getElem?_cons_succ, Option.getD_some, Option.getD_none, List.getElem?_nil, Bool.not_true, Bool.not_false, decide_eq_true_eq, decide_eq_false_iff_not, Bool.true_eq_false, Bool.false_eq_true, List.set_cons_zero, List.set_cons_succ, Nat.zero_add, Nat.add_zero, Nat.zero_mul, Int.toNat_natCast, and_self, and_true, true_and, if_true, if_false, reduceCtorEq, Nat.le_refl, Nat.reduceLeDiff, Bool.not_eq_eq_eq_not, fB, fBools, fBlks, fSegs, aBlk, aSg, aSt, stRow, List.drop_zero, List.take_succ_cons, List.take_zero, List.take_nil, Nat.mul_one, Nat.one_mul, List.cons_append, List.nil_append]
    refine ⟨_, within_spec live 0 8 _, ?_⟩
    by_cases h2 : 0 ≤ live ∧ live ≤ 8
    · simp only [h2, decide_true, Bool.not_true, s_seq, s_skip, s_ret, s_exit, s_block, s_weak, s_cond, s_reg, s_seqC, s_seqC_exit, s_seqC_ret, s_blockK_normal, s_blockK_ret, s_blockK_exit, s_regC_text, s_regC_draw, s_nil, s_none, s_some, s_cont, s_guard, s_guardU, s_condC, s_kret, s_kfail, s_krd, s_rdK, s_consK, s_kite, s_mv, s_pick, s_new, s_box, s_build, s_bslice, s_load, s_store, s_foff, s_idx, s_fld, s_bin, s_beq, s_isnil, s_un, s_conv, s_len, s_slen, s_append, s_ext, s_slice, s_mksl, s_clo, s_nilc, s_sconv, s_b2s, s_mm, s_call, s_callv, s_tmp, s_const, s_func, s_put, s_put0, s_know, s_envOf0, s_envOf, s_heapOf0, s_heapOf, s_put1, s_app0, s_app1, s_famC_exit, s_famC_ret, boxA, cellsOf, foffA, loadA, ldA, idxA, fldA, binA, binVal, isSh, intVal, lenA, slenA, pickA, storeA, setN, getN, fillA, extA, beqA, isnilA, unA, unVal, convA, nilA, sconvA, b2sA, b2sOf, bytesOf, mmA, srcA, appA, sliceA, lohi, mkslA, List.map_cons, List.map_nil, envA, ↓reduceIte, Nat.reduceEqDiff, Nat.reduceAdd, Nat.reduceMul, List.length_cons, List.length_nil, List.getElem?_cons_zero, List.getElem?_cons_succ, Option.getD_some, Option.getD_none, List.getElem?_nil, Bool.not_true, Bool.not_false, decide_eq_true_eq, decide_eq_false_iff_not, Bool.true_eq_false, Bool.false_eq_true, List.set_cons_zero, List.set_cons_succ, Nat.zero_add, Nat.add_zero, Nat.zero_mul, Int.toNat_natCast, and_self, and_true, true_and, if_true, if_false, reduceCtorEq, Nat.le_refl, Nat.reduceLeDiff, Bool.not_eq_eq_eq_not, fB, fBools, fBlks, fSegs, aBlk, aSg, aSt, stRow, List.drop_zero, List.take_succ_cons, List.take_zero, List.take_nil, Nat.mul_one, Nat.one_mul, List.cons_append, List.nil_append]
      refine ⟨_, within_spec next seq 1099511627776 _, ?_⟩
      by_cases h3 : seq ≤ next ∧ next ≤ 1099511627776
      · have ok : scOk seq live next = true := by simp only [scOk, h1, h2, h3]; decide
        have s1 := sc_size (c := 0) (a := 8 - live) (b := next - seq) (by omega) (by omega) (by omega) (by omega)
        have w1 : IntKind.i64.wrap (8 - live) = 8 - live := wrap64 (by omega)
        have w2 : IntKind.i64.wrap (8 + live) = 8 + live := wrap64 (by omega)
        have w3 : IntKind.i64.wrap (64 * (8 - live)) = 64 * (8 - live) := wrap64 (by omega)
        have w4 : IntKind.i64.wrap (next - seq) = next - seq := wrap64 (by omega)
        have w5 : IntKind.i64.wrap (64 * (8 - live) * (next - seq)) = 64 * (8 - live) * (next - seq) := wrap64 (by omega)
        have e8 : ¬ (8 + live = 0) := by omega
        have d1 : 0 ≤ (64 * (8 - live) * (next - seq)).tdiv (8 + live) := Int.tdiv_nonneg s1.1 (by omega)
        have d2 : (64 * (8 - live) * (next - seq)).tdiv (8 + live) ≤ 64 * (8 - live) * (next - seq) := Int.tdiv_le_self _ s1.1
        have w6 : IntKind.i64.wrap ((64 * (8 - live) * (next - seq)).tdiv (8 + live)) = (64 * (8 - live) * (next - seq)).tdiv (8 + live) := wrap64 (by omega)
        rw [show scV seq live next = _ from if_pos ok, show scE seq live next = _ from if_pos ok]
        simp only [h3, decide_true, Bool.not_true, w1, w2, w3, w4, w5, w6, e8, s_seq, s_skip, s_ret, s_exit, s_block, s_weak, s_cond, s_reg, s_seqC, s_seqC_exit, s_seqC_ret, s_blockK_normal, s_blockK_ret, s_blockK_exit, s_regC_text, s_regC_draw, s_nil, s_none, s_some, s_cont, s_guard, s_guardU, s_condC, s_kret, s_kfail, s_krd, s_rdK, s_consK, s_kite, s_mv, s_pick, s_new, s_box, s_build, s_bslice, s_load, s_store, s_foff, s_idx, s_fld, s_bin, s_beq, s_isnil, s_un, s_conv, s_len, s_slen, s_append, s_ext, s_slice, s_mksl, s_clo, s_nilc, s_sconv, s_b2s, s_mm, s_call, s_callv, s_tmp, s_const, s_func, s_put, s_put0, s_know, s_envOf0, s_envOf, s_heapOf0, s_heapOf, s_put1, s_app0, s_app1, s_famC_exit, s_famC_ret, boxA, cellsOf, foffA, loadA, ldA, idxA, fldA, binA, binVal, isSh, intVal, lenA, slenA, pickA, storeA, setN, getN, fillA, extA, beqA, isnilA, unA, unVal, convA, nilA, sconvA, b2sA, b2sOf, bytesOf, mmA, srcA, appA, sliceA, lohi, mkslA, List.map_cons, List.map_nil, envA, ↓reduceIte, Nat.reduceEqDiff, Nat.reduceAdd, Nat.reduceMul, List.length_cons, List.length_nil, List.getElem?_cons_zero, List.getElem?_cons_succ, Option.getD_some, Option.getD_none, List.getElem?_nil, Bool.not_true, Bool.not_false, decide_eq_true_eq, decide_eq_false_iff_not, Bool.true_eq_false, Bool.false_eq_true, List.set_cons_zero, List.set_cons_succ, Nat.zero_add, Nat.add_zero, Nat.zero_mul, Int.toNat_natCast, and_self, and_true, true_and, if_true, if_false, reduceCtorEq, Nat.le_refl, Nat.reduceLeDiff, Bool.not_eq_eq_eq_not, fB, fBools, fBlks, fSegs, aBlk, aSg, aSt, stRow, List.drop_zero, List.take_succ_cons, List.take_zero, List.take_nil, Nat.mul_one, Nat.one_mul, List.cons_append, List.nil_append]
        exact Ends.data (.inr rfl) (by simp [w6, resL, resOne, tupOf, getN, s_envOf, s_envOf0, s_heapOf, s_heapOf0, s_put1, s_app0, s_app1]) ⟨trivial, trivial, trivial⟩
      · have ok : ¬ scOk seq live next = true := by simp only [scOk, h3]; simp
        rw [show scV seq live next = _ from if_neg ok, show scE seq live next = _ from if_neg ok]
        simp only [h3, decide_false, Bool.not_false, s_seq, s_skip, s_ret, s_exit, s_block, s_weak, s_cond, s_reg, s_seqC, s_seqC_exit, s_seqC_ret, s_blockK_normal, s_blockK_ret, s_blockK_exit, s_regC_text, s_regC_draw, s_nil, s_none, s_some, s_cont, s_guard, s_guardU, s_condC, s_kret, s_kfail, s_krd, s_rdK, s_consK, s_kite, s_mv, s_pick, s_new, s_box, s_build, s_bslice, s_load, s_store, s_foff, s_idx, s_fld, s_bin, s_beq, s_isnil, s_un, s_conv, s_len, s_slen, s_append, s_ext, s_slice, s_mksl, s_clo, s_nilc, s_sconv, s_b2s, s_mm, s_call, s_callv, s_tmp, s_const, s_func, s_put, s_put0, s_know, s_envOf0, s_envOf, s_heapOf0, s_heapOf, s_put1, s_app0, s_app1, s_famC_exit, s_famC_ret, boxA, cellsOf, foffA, loadA, ldA, idxA, fldA, binA, binVal, isSh, intVal, lenA, slenA, pickA, storeA, setN, getN, fillA, extA, beqA, isnilA, unA, unVal, convA, nilA, sconvA, b2sA, b2sOf, bytesOf, mmA, srcA, appA, sliceA, lohi, mkslA, List.map_cons, List.map_nil, envA, ↓reduceIte, Nat.reduceEqDiff, Nat.reduceAdd, Nat.reduceMul, List.length_cons, List.length_nil, List.getElem?_cons_zero, List.getElem?_cons_succ, Option.getD_some, Option.getD_none, List.getElem?_nil, Bool.not_true, Bool.not_false, decide_eq_true_eq, decide_eq_false_iff_not, Bool.true_eq_false, Bool.false_eq_true, List.set_cons_zero, List.set_cons_succ, Nat.zero_add, Nat.add_zero, Nat.zero_mul, Int.toNat_natCast, and_self, and_true, true_and, if_true, if_false, reduceCtorEq, Nat.le_refl, Nat.reduceLeDiff, Bool.not_eq_eq_eq_not, fB, fBools, fBlks, fSegs, aBlk, aSg, aSt, stRow, List.drop_zero, List.take_succ_cons, List.take_zero, List.take_nil, Nat.mul_one, Nat.one_mul, List.cons_append, List.nil_append]
        exact Ends.data (.inr rfl) (by simp [resL, resOne, tupOf, getN, s_envOf, s_envOf0, s_heapOf, s_heapOf0, s_put1, s_app0, s_app1]) ⟨trivial, trivial, trivial⟩
    · have ok : ¬ scOk seq live next = true := by simp only [scOk, h2]; simp
      rw [show scV seq live next = _ from if_neg ok, show scE seq live next = _ from if_neg ok]
      simp only [h2, decide_false, Bool.not_false, s_seq, s_skip, s_ret, s_exit, s_block, s_weak, s_cond, s_reg, s_seqC, s_seqC_exit, s_seqC_ret, s_blockK_normal, s_blockK_ret, s_blockK_exit, s_regC_text, s_regC_draw, s_nil, s_none, s_some, s_cont, s_guard, s_guardU, s_condC, s_kret, s_kfail, s_krd, s_rdK, s_consK, s_kite, s_mv, s_pick, s_new, s_box, s_build, s_bslice, s_load, s_store, s_foff, s_idx, s_fld, s_bin, s_beq, s_isnil, s_un, s_conv, s_len, s_slen, s_append, s_ext, s_slice, s_mksl, s_clo, s_nilc, s_sconv, s_b2s, s_mm, s_call, s_callv, s_tmp, s_const, s_func, s_put, s_put0, s_know, s_envOf0, s_envOf, s_heapOf0, s_heapOf, s_put1, s_app0, s_app1, s_famC_exit, s_famC_ret, boxA, cellsOf, foffA, loadA, ldA, idxA, fldA, binA, binVal, isSh, intVal, lenA, slenA, pickA, storeA, setN, getN, fillA, extA, beqA, isnilA, unA, unVal, convA, nilA, sconvA, b2sA, b2sOf, bytesOf, mmA, srcA, appA, sliceA, lohi, mkslA, List.map_cons, List.map_nil, envA, ↓reduceIte, Nat.reduceEqDiff, Nat.reduceAdd, Nat.reduceMul, List.length_cons, List.length_nil, List.getElem?_cons_zero, List.getElem?_cons_succ, Option.getD_some, Option.getD_none, List.getElem?_nil, Bool.not_true, Bool.not_false, decide_eq_true_eq, decide_eq_false_iff_not, Bool.true_eq_false, Bool.false_eq_true, List.set_cons_zero, List.set_cons_succ, Nat.zero_add, Nat.add_zero, Nat.zero_mul, Int.toNat_natCast, and_self, and_true, true_and, if_true, if_false, reduceCtorEq, Nat.le_refl, Nat.reduceLeDiff, Bool.not_eq_eq_eq_not, fB, fBools, fBlks, fSegs, aBlk, aSg, aSt, stRow, List.drop_zero, List.take_succ_cons, List.take_zero, List.take_nil, Nat.mul_one, Nat.one_mul, List.cons_append, List.nil_append]
      exact Ends.data (.inr rfl) (by simp [resL, resOne, tupOf, getN, s_envOf, s_envOf0, s_heapOf, s_heapOf0, s_put1, s_app0, s_app1]) ⟨trivial, trivial, trivial⟩
  · have ok : ¬ scOk seq live next = true := by simp only [scOk, h1]; simp
    rw [show scV seq live next = _ from if_neg ok, show scE seq live next = _ from if_neg ok]
    simp only [h1, decide_false, Bool.not_false, s_seq, s_skip, s_ret, s_exit, s_block, s_weak, s_cond, s_reg, s_seqC, s_seqC_exit, s_seqC_ret, s_blockK_normal, s_blockK_ret, s_blockK_exit, s_regC_text, s_regC_draw, s_nil, s_none, s_some, s_cont, s_guard, s_guardU, s_condC, s_kret, s_kfail, s_krd, s_rdK, s_consK, s_kite, s_mv, s_pick, s_new, s_box, s_build, s_bslice, s_load, s_store, s_foff, s_idx, s_fld, s_bin, s_beq, s_isnil, s_un, s_conv, s_len, s_slen, s_append, s_ext, s_slice, s_mksl, s_clo, s_nilc, s_sconv, s_b2s, s_mm, s_call, s_callv, s_tmp, s_const, s_func, s_put, s_put0, s_know, s_envOf0, s_envOf, s_heapOf0, s_heapOf, s_put1, s_app0, s_app1, s_famC_exit, s_famC_ret, boxA, cellsOf, foffA, loadA, ldA, idxA, fldA, binA, binVal, isSh, intVal, lenA, slenA, pickA, storeA, setN, getN, fillA, extA, beqA, isnilA, unA, unVal, convA, nilA, sconvA, b2sA, b2sOf, bytesOf, mmA, srcA, appA, sliceA, lohi, mkslA, List.map_cons, List.map_nil, envA, ↓reduceIte, Nat.reduceEqDiff, Nat.reduceAdd, Nat.reduceMul, List.length_cons, List.length_nil, List.getElem?_cons_zero, List.getElem?_cons_succ, Option.getD_some, Option.getD_none, List.getElem?_nil, Bool.not_true, Bool.not_false, decide_eq_true_eq, decide_eq_false_iff_not, Bool.true_eq_false, Bool.false_eq_true, List.set_cons_zero, List.set_cons_succ, Nat.zero_add, Nat.add_zero, Nat.zero_mul, Int.toNat_natCast, and_self, and_true, true_and, if_true, if_false, reduceCtorEq, Nat.le_refl, Nat.reduceLeDiff, Bool.not_eq_eq_eq_not, fB, fBools, fBlks, fSegs, aBlk, aSg, aSt, stRow, List.drop_zero, List.take_succ_cons, List.take_zero, List.take_nil, Nat.mul_one, Nat.one_mul, List.cons_append, List.nil_append]
    exact Ends.data (.inr rfl) (by simp [resL, resOne, tupOf, getN, s_envOf, s_envOf0, s_heapOf, s_heapOf0, s_put1, s_app0, s_app1]) ⟨trivial, trivial, trivial⟩
theorem alive16_spec (nb : Nat) : ASound Try.prog 15 [] nb (.ret (.v (.bool true)) []) := by
  refine ok_15.sound (by simp) trivial ?_
  simp only [ac_15, s_seq, s_skip, s_ret, s_exit, s_block, s_weak, s_cond, s_reg, s_seqC, s_seqC_exit, s_seqC_ret, s_blockK_normal, s_blockK_ret, s_blockK_exit, s_regC_text, s_regC_draw, s_nil, s_none, s_some, s_cont, s_guard, s_guardU, s_condC, s_kret, s_kfail, s_krd, s_rdK, s_consK, s_kite, s_mv, s_pick, s_new, s_box, s_build, s_bslice, s_load, s_store, s_foff, s_idx, s_fld, s_bin, s_beq, s_isnil, s_un, s_conv, s_len, s_slen, s_append, s_ext, s_slice, s_mksl, s_clo, s_nilc, s_sconv, s_b2s, s_mm, s_call, s_callv, s_tmp, s_const, s_func, s_put, s_put0, s_know, s_envOf0, s_envOf, s_heapOf0, s_heapOf, s_put1, s_app0, s_app1, s_famC_exit, s_famC_ret, boxA, cellsOf, foffA, loadA, ldA, idxA, fldA, binA, binVal, isSh, intVal, lenA, slenA, pickA, storeA, setN, getN, fillA, extA, beqA, isnilA, unA, unVal, convA, nilA, sconvA, b2sA, b2sOf, bytesOf, mmA, srcA, appA, sliceA, lohi, mkslA, List.map_cons, List.map_nil, envA, ↓reduceIte, Nat.reduceEqDiff, Nat.reduceAdd, Nat.reduceMul, List.length_cons, List.length_nil, List.getElem?_cons_zero, List.getElem?_cons_succ, Option.getD_some, Option.getD_none, List.getElem?_nil, Bool.not_true, Bool.not_false, decide_eq_true_eq, decide_eq_false_iff_not, Bool.true_eq_false, Bool.false_eq_true, List.set_cons_zero, List.set_cons_succ, Nat.zero_add, Nat.add_zero, Nat.zero_mul, Int.toNat_natCast, and_self, and_true, true_and, if_true, if_false, reduceCtorEq, Nat.le_refl, Nat.reduceLeDiff, Bool.not_eq_eq_eq_not, fB, fBools, fBlks, fSegs, aBlk, aSg, aSt, stRow, List.drop_zero, List.take_succ_cons, List.take_zero, List.take_nil, Nat.mul_one, Nat.one_mul, List.cons_append, List.nil_append]
  refine ⟨_, score_spec 1 2 9 _, ?_⟩
  rw [show scV 1 2 9 = 307 from by kernel_rfl, show scE 1 2 9 = 0 from by kernel_rfl]
  simp only [s_seq, s_skip, s_ret, s_exit, s_block, s_weak, s_cond, s_reg, s_seqC, s_seqC_exit, s_seqC_ret, s_blockK_normal, s_blockK_ret, s_blockK_exit, s_regC_text, s_regC_draw, s_nil, s_none, s_some, s_cont, s_guard, s_guardU, s_condC, s_kret, s_kfail, s_krd, s_rdK, s_consK, s_kite, s_mv, s_pick, s_new, s_box, s_build, s_bslice, s_load, s_store, s_foff, s_idx, s_fld, s_bin, s_beq, s_isnil, s_un, s_conv, s_len, s_slen, s_append, s_ext, s_slice, s_mksl, s_clo, s_nilc, s_sconv, s_b2s, s_mm, s_call, s_callv, s_tmp, s_const, s_func, s_put, s_put0, s_know, s_envOf0, s_envOf, s_heapOf0, s_heapOf, s_put1, s_app0, s_app1, s_famC_exit, s_famC_ret, boxA, cellsOf, foffA, loadA, ldA, idxA, fldA, binA, binVal, isSh, intVal, lenA, slenA, pickA, storeA, setN, getN, fillA, extA, beqA, isnilA, unA, unVal, convA, nilA, sconvA, b2sA, b2sOf, bytesOf, mmA, srcA, appA, sliceA, lohi, mkslA, List.map_cons, List.map_nil, envA, ↓reduceIte, Nat.reduceEqDiff, Nat.reduceAdd, Nat.reduceMul, List.length_cons, List.length_nil, List.getElem?_cons_zero, List.getElem?_cons_succ, Option.getD_some, Option.getD_none, List.getElem?_nil, Bool.not_true, Bool.not_false, decide_eq_true_eq, decide_eq_false_iff_not, Bool.true_eq_false, Bool.false_eq_true, List.set_cons_zero, List.set_cons_succ, Nat.zero_add, Nat.add_zero, Nat.zero_mul, Int.toNat_natCast, and_self, and_true, true_and, if_true, if_false, reduceCtorEq, Nat.le_refl, Nat.reduceLeDiff, Bool.not_eq_eq_eq_not, fB, fBools, fBlks, fSegs, aBlk, aSg, aSt, stRow, List.drop_zero, List.take_succ_cons, List.take_zero, List.take_nil, Nat.mul_one, Nat.one_mul, List.cons_append, List.nil_append]
  refine ⟨_, num16_spec 0 _, ?_⟩
  simp only [s_seq, s_skip, s_ret, s_exit, s_block, s_weak, s_cond, s_reg, s_seqC, s_seqC_exit, s_seqC_ret, s_blockK_normal, s_blockK_ret, s_blockK_exit, s_regC_text, s_regC_draw, s_nil, s_none, s_some, s_cont, s_guard, s_guardU, s_condC, s_kret, s_kfail, s_krd, s_rdK, s_consK, s_kite, s_mv, s_pick, s_new, s_box, s_build, s_bslice, s_load, s_store, s_foff, s_idx, s_fld, s_bin, s_beq, s_isnil, s_un, s_conv, s_len, s_slen, s_append, s_ext, s_slice, s_mksl, s_clo, s_nilc, s_sconv, s_b2s, s_mm, s_call, s_callv, s_tmp, s_const, s_func, s_put, s_put0, s_know, s_envOf0, s_envOf, s_heapOf0, s_heapOf, s_put1, s_app0, s_app1, s_famC_exit, s_famC_ret, boxA, cellsOf, foffA, loadA, ldA, idxA, fldA, binA, binVal, isSh, intVal, lenA, slenA, pickA, storeA, setN, getN, fillA, extA, beqA, isnilA, unA, unVal, convA, nilA, sconvA, b2sA, b2sOf, bytesOf, mmA, srcA, appA, sliceA, lohi, mkslA, List.map_cons, List.map_nil, envA, ↓reduceIte, Nat.reduceEqDiff, Nat.reduceAdd, Nat.reduceMul, List.length_cons, List.length_nil, List.getElem?_cons_zero, List.getElem?_cons_succ, Option.getD_some, Option.getD_none, List.getElem?_nil, Bool.not_true, Bool.not_false, decide_eq_true_eq, decide_eq_false_iff_not, Bool.true_eq_false, Bool.false_eq_true, List.set_cons_zero, List.set_cons_succ, Nat.zero_add, Nat.add_zero, Nat.zero_mul, Int.toNat_natCast, and_self, and_true, true_and, if_true, if_false, reduceCtorEq, Nat.le_refl, Nat.reduceLeDiff, Bool.not_eq_eq_eq_not, fB, fBools, fBlks, fSegs, aBlk, aSg, aSt, stRow, List.drop_zero, List.take_succ_cons, List.take_zero, List.take_nil, Nat.mul_one, Nat.one_mul, List.cons_append, List.nil_append]
  exact Ends.data (.inr rfl) (by simp [resL, resOne, tupOf, getN, s_envOf, s_envOf0, s_heapOf, s_heapOf0, s_put1, s_app0, s_app1]) trivial
end Go.Proofs.Ytfoeddmbhmfjcaa
/- CleanNever. -/
namespace Go.Proofs.Ytfoeddmbhmfjcaa
open Go.RowKit
set_option maxRecDepth 100000
theorem cl_bad {s : St} {slot seq : Int} {e : Int} (h : liveErr s slot = e) (he : e ≠ 0) : cl s slot seq = (St.zero, e) := by
  unfold cl; rw [if_neg (by rw [h]; exact he), h]
theorem liveErr_out {s : St} {slot : Int} (hc : chk s = true) (h : slot < 0 ∨ (s.segs.length : Int) ≤ slot) : liveErr s slot = 71 := by
  unfold liveErr
  rw [if_pos hc]
  rcases h with h | h
  · rw [slot_neg h]; rfl
  · rw [slot_big h]; rfl
theorem liveErr_in {s : St} {k : Nat} {x : Sg} (hc : chk s = true) (hx : s.segs[k]? = some x) : liveErr s (k : Int) = if x.seq = 0 then 71 else 0 := by
  have g := (chk_iff s).1 hc
  unfold liveErr
  rw [if_pos hc, slot_at hx]
  by_cases hq : x.seq = 0
  · have hf : freeB x = true := by
      cases hf : freeB x with
      | true => rfl
      | false =>
        have h1 := (g.seg k x hx hf).1
        simp only [sgOk, Bool.and_eq_true, decide_eq_true_eq] at h1
        omega
    rw [if_pos hq, if_pos hf]; rfl
  · have hf : freeB x = false := by simp [freeB, hq]
    rw [if_neg hq, hf]; rfl
set_option maxHeartbeats 1000000 in
theorem cleanNever_spec (fr : Bool) (s : St) (slot seq : Int) (nb : Nat) (hok : okSt s) : ASound Try.prog 6 [aSt fr s, .v (.int .i64 slot), .v (.int .i64 seq)] nb (.ret (.v (.bool true)) []) := by
  refine ok_6.sound (by simp) ⟨al_aSt s, trivial, trivial, trivial⟩ ?_
  simp only [ac_6, s_seq, s_skip, s_ret, s_exit, s_block, s_weak, s_cond, s_reg, s_seqC, s_seqC_exit, s_seqC_ret, s_blockK_normal, s_blockK_ret, s_blockK_exit, s_regC_text, s_regC_draw, s_nil, s_none, s_some, s_cont, s_guard, s_guardU, s_condC, s_kret, s_kfail, s_krd, s_rdK, s_consK, s_kite, s_mv, s_pick, s_new, s_box, s_build, s_bslice, s_load, s_store, s_foff, s_idx, s_fld, s_bin, s_beq, s_isnil, s_un, s_conv, s_len, s_slen, s_append, s_ext, s_slice, s_mksl, s_clo, s_nilc, s_sconv, s_b2s, s_mm, s_call, s_callv, s_tmp, s_const, s_func, s_put, s_put0, s_know, s_envOf0, s_envOf, s_heapOf0, s_heapOf, s_put1, s_app0, s_app1, s_famC_exit, s_famC_ret, boxA, cellsOf, foffA, loadA, ldA, idxA, fldA, binA, binVal, isSh, intVal, lenA, slenA, pickA, storeA, setN, getN, fillA, extA, beqA, isnilA, unA, unVal, convA, nilA, sconvA, b2sA, b2sOf, bytesOf, mmA, srcA, appA, sliceA, lohi, mkslA, List.map_cons, List.map_nil, envA, ↓reduceIte, Nat.reduceEqDiff, Nat.reduceAdd, Nat.reduceMul, List.length_cons, List.length_nil, List.getElem?_cons_zero, List.getElem?_cons_succ, Option.getD_some, Option.getD_none, List.getElem?_nil, Bool.not_true, Bool.not_false, decide_eq_true_eq, decide_eq_false_iff_not, Bool.true_eq_false, Bool.false_eq_true, List.set_cons_zero, List.set_cons_succ, Nat.zero_add, Nat.add_zero, Nat.zero_mul, Int.toNat_natCast, and_self, and_true, true_and, if_true, if_false, reduceCtorEq, Nat.le_refl, Nat.reduceLeDiff, Bool.not_eq_eq_eq_not, fB, fBools, fBlks, fSegs, aBlk, aSg, aSt, stRow, List.drop_zero, List.take_succ_cons, List.take_zero, List.take_nil, Nat.mul_one, Nat.one_mul, List.cons_append, List.nil_append]
  refine ⟨_, alive16_spec _, ?_⟩
  simp only [s_seq, s_skip, s_ret, s_exit, s_block, s_weak, s_cond, s_reg, s_seqC, s_seqC_exit, s_seqC_ret, s_blockK_normal, s_blockK_ret, s_blockK_exit, s_regC_text, s_regC_draw, s_nil, s_none, s_some, s_cont, s_guard, s_guardU, s_condC, s_kret, s_kfail, s_krd, s_rdK, s_consK, s_kite, s_mv, s_pick, s_new, s_box, s_build, s_bslice, s_load, s_store, s_foff, s_idx, s_fld, s_bin, s_beq, s_isnil, s_un, s_conv, s_len, s_slen, s_append, s_ext, s_slice, s_mksl, s_clo, s_nilc, s_sconv, s_b2s, s_mm, s_call, s_callv, s_tmp, s_const, s_func, s_put, s_put0, s_know, s_envOf0, s_envOf, s_heapOf0, s_heapOf, s_put1, s_app0, s_app1, s_famC_exit, s_famC_ret, boxA, cellsOf, foffA, loadA, ldA, idxA, fldA, binA, binVal, isSh, intVal, lenA, slenA, pickA, storeA, setN, getN, fillA, extA, beqA, isnilA, unA, unVal, convA, nilA, sconvA, b2sA, b2sOf, bytesOf, mmA, srcA, appA, sliceA, lohi, mkslA, List.map_cons, List.map_nil, envA, ↓reduceIte, Nat.reduceEqDiff, Nat.reduceAdd, Nat.reduceMul, List.length_cons, List.length_nil, List.getElem?_cons_zero, List.getElem?_cons_succ, Option.getD_some, Option.getD_none, List.getElem?_nil, Bool.not_true, Bool.not_false, decide_eq_true_eq, decide_eq_false_iff_not, Bool.true_eq_false, Bool.false_eq_true, List.set_cons_zero, List.set_cons_succ, Nat.zero_add, Nat.add_zero, Nat.zero_mul, Int.toNat_natCast, and_self, and_true, true_and, if_true, if_false, reduceCtorEq, Nat.le_refl, Nat.reduceLeDiff, Bool.not_eq_eq_eq_not, fB, fBools, fBlks, fSegs, aBlk, aSg, aSt, stRow, List.drop_zero, List.take_succ_cons, List.take_zero, List.take_nil, Nat.mul_one, Nat.one_mul, List.cons_append, List.nil_append]
  refine ⟨_, ofSt_spec fr s _ (ok_sz hok), ?_⟩
  simp only [s_seq, s_skip, s_ret, s_exit, s_block, s_weak, s_cond, s_reg, s_seqC, s_seqC_exit, s_seqC_ret, s_blockK_normal, s_blockK_ret, s_blockK_exit, s_regC_text, s_regC_draw, s_nil, s_none, s_some, s_cont, s_guard, s_guardU, s_condC, s_kret, s_kfail, s_krd, s_rdK, s_consK, s_kite, s_mv, s_pick, s_new, s_box, s_build, s_bslice, s_load, s_store, s_foff, s_idx, s_fld, s_bin, s_beq, s_isnil, s_un, s_conv, s_len, s_slen, s_append, s_ext, s_slice, s_mksl, s_clo, s_nilc, s_sconv, s_b2s, s_mm, s_call, s_callv, s_tmp, s_const, s_func, s_put, s_put0, s_know, s_envOf0, s_envOf, s_heapOf0, s_heapOf, s_put1, s_app0, s_app1, s_famC_exit, s_famC_ret, boxA, cellsOf, foffA, loadA, ldA, idxA, fldA, binA, binVal, isSh, intVal, lenA, slenA, pickA, storeA, setN, getN, fillA, extA, beqA, isnilA, unA, unVal, convA, nilA, sconvA, b2sA, b2sOf, bytesOf, mmA, srcA, appA, sliceA, lohi, mkslA, List.map_cons, List.map_nil, envA, ↓reduceIte, Nat.reduceEqDiff, Nat.reduceAdd, Nat.reduceMul, List.length_cons, List.length_nil, List.getElem?_cons_zero, List.getElem?_cons_succ, Option.getD_some, Option.getD_none, List.getElem?_nil, Bool.not_true, Bool.not_false, decide_eq_true_eq, decide_eq_false_iff_not, Bool.true_eq_false, Bool.false_eq_true, List.set_cons_zero, List.set_cons_succ, Nat.zero_add, Nat.add_zero, Nat.zero_mul, Int.toNat_natCast, and_self, and_true, true_and, if_true, if_false, reduceCtorEq, Nat.le_refl, Nat.reduceLeDiff, Bool.not_eq_eq_eq_not, fB, fBools, fBlks, fSegs, aBlk, aSg, aSt, stRow, List.drop_zero, List.take_succ_cons, List.take_zero, List.take_nil, Nat.mul_one, Nat.one_mul, List.cons_append, List.nil_append]
  refine ⟨_, clean_spec s slot seq _ hok, ?_⟩
  simp only [s_seq, s_skip, s_ret, s_exit, s_block, s_weak, s_cond, s_reg, s_seqC, s_seqC_exit, s_seqC_ret, s_blockK_normal, s_blockK_ret, s_blockK_exit, s_regC_text, s_regC_draw, s_nil, s_none, s_some, s_cont, s_guard, s_guardU, s_condC, s_kret, s_kfail, s_krd, s_rdK, s_consK, s_kite, s_mv, s_pick, s_new, s_box, s_build, s_bslice, s_load, s_store, s_foff, s_idx, s_fld, s_bin, s_beq, s_isnil, s_un, s_conv, s_len, s_slen, s_append, s_ext, s_slice, s_mksl, s_clo, s_nilc, s_sconv, s_b2s, s_mm, s_call, s_callv, s_tmp, s_const, s_func, s_put, s_put0, s_know, s_envOf0, s_envOf, s_heapOf0, s_heapOf, s_put1, s_app0, s_app1, s_famC_exit, s_famC_ret, boxA, cellsOf, foffA, loadA, ldA, idxA, fldA, binA, binVal, isSh, intVal, lenA, slenA, pickA, storeA, setN, getN, fillA, extA, beqA, isnilA, unA, unVal, convA, nilA, sconvA, b2sA, b2sOf, bytesOf, mmA, srcA, appA, sliceA, lohi, mkslA, List.map_cons, List.map_nil, envA, ↓reduceIte, Nat.reduceEqDiff, Nat.reduceAdd, Nat.reduceMul, List.length_cons, List.length_nil, List.getElem?_cons_zero, List.getElem?_cons_succ, Option.getD_some, Option.getD_none, List.getElem?_nil, Bool.not_true, Bool.not_false, decide_eq_true_eq, decide_eq_false_iff_not, Bool.true_eq_false, Bool.false_eq_true, List.set_cons_zero, List.set_cons_succ, Nat.zero_add, Nat.add_zero, Nat.zero_mul, Int.toNat_natCast, and_self, and_true, true_and, if_true, if_false, reduceCtorEq, Nat.le_refl, Nat.reduceLeDiff, Bool.not_eq_eq_eq_not, fB, fBools, fBlks, fSegs, aBlk, aSg, aSt, stRow, List.drop_zero, List.take_succ_cons, List.take_zero, List.take_nil, Nat.mul_one, Nat.one_mul, List.cons_append, List.nil_append]
  refine ⟨_, rCheck_spec fr s _, ?_⟩
  rw [rchk_eq]
  cases hc : chk s with
  | false =>
    have e1 : liveErr s slot = 9 := by unfold liveErr; rw [hc]; rfl
    rw [cl_bad e1 (by decide)]
    simp only [show errN false = 9 from rfl, Int.reduceEq, not_false_eq_true, s_seq, s_skip, s_ret, s_exit, s_block, s_weak, s_cond, s_reg, s_seqC, s_seqC_exit, s_seqC_ret, s_blockK_normal, s_blockK_ret, s_blockK_exit, s_regC_text, s_regC_draw, s_nil, s_none, s_some, s_cont, s_guard, s_guardU, s_condC, s_kret, s_kfail, s_krd, s_rdK, s_consK, s_kite, s_mv, s_pick, s_new, s_box, s_build, s_bslice, s_load, s_store, s_foff, s_idx, s_fld, s_bin, s_beq, s_isnil, s_un, s_conv, s_len, s_slen, s_append, s_ext, s_slice, s_mksl, s_clo, s_nilc, s_sconv, s_b2s, s_mm, s_call, s_callv, s_tmp, s_const, s_func, s_put, s_put0, s_know, s_envOf0, s_envOf, s_heapOf0, s_heapOf, s_put1, s_app0, s_app1, s_famC_exit, s_famC_ret, boxA, cellsOf, foffA, loadA, ldA, idxA, fldA, binA, binVal, isSh, intVal, lenA, slenA, pickA, storeA, setN, getN, fillA, extA, beqA, isnilA, unA, unVal, convA, nilA, sconvA, b2sA, b2sOf, bytesOf, mmA, srcA, appA, sliceA, lohi, mkslA, List.map_cons, List.map_nil, envA, ↓reduceIte, Nat.reduceEqDiff, Nat.reduceAdd, Nat.reduceMul, List.length_cons, List.length_nil, List.getElem?_cons_zero, List.getElem?_cons_succ, Option.getD_some, Option.getD_none, List.getElem?_nil, Bool.not_true, Bool.not_false, decide_eq_true_eq, decide_eq_false_iff_not, Bool.true_eq_false, Bool.false_eq_true, List.set_cons_zero, List.set_cons_succ, Nat.zero_add, Nat.add_zero, Nat.zero_mul, Int.toNat_natCast, and_self, and_true, true_and, if_true, if_false, reduceCtorEq, Nat.le_refl, Nat.reduceLeDiff, Bool.not_eq_eq_eq_not, fB, fBools, fBlks, fSegs, aBlk, aSg, aSt, stRow, List.drop_zero, List.take_succ_cons, List.take_zero, List.take_nil, Nat.mul_one, Nat.one_mul, List.cons_append, List.nil_append]
    refine ⟨_, num16_spec 9 _, ?_⟩
    simp only [s_seq, s_skip, s_ret, s_exit, s_block, s_weak, s_cond, s_reg, s_seqC, s_seqC_exit, s_seqC_ret, s_blockK_normal, s_blockK_ret, s_blockK_exit, s_regC_text, s_regC_draw, s_nil, s_none, s_some, s_cont, s_guard, s_guardU, s_condC, s_kret, s_kfail, s_krd, s_rdK, s_consK, s_kite, s_mv, s_pick, s_new, s_box, s_build, s_bslice, s_load, s_store, s_foff, s_idx, s_fld, s_bin, s_beq, s_isnil, s_un, s_conv, s_len, s_slen, s_append, s_ext, s_slice, s_mksl, s_clo, s_nilc, s_sconv, s_b2s, s_mm, s_call, s_callv, s_tmp, s_const, s_func, s_put, s_put0, s_know, s_envOf0, s_envOf, s_heapOf0, s_heapOf, s_put1, s_app0, s_app1, s_famC_exit, s_famC_ret, boxA, cellsOf, foffA, loadA, ldA, idxA, fldA, binA, binVal, isSh, intVal, lenA, slenA, pickA, storeA, setN, getN, fillA, extA, beqA, isnilA, unA, unVal, convA, nilA, sconvA, b2sA, b2sOf, bytesOf, mmA, srcA, appA, sliceA, lohi, mkslA, List.map_cons, List.map_nil, envA, ↓reduceIte, Nat.reduceEqDiff, Nat.reduceAdd, Nat.reduceMul, List.length_cons, List.length_nil, List.getElem?_cons_zero, List.getElem?_cons_succ, Option.getD_some, Option.getD_none, List.getElem?_nil, Bool.not_true, Bool.not_false, decide_eq_true_eq, decide_eq_false_iff_not, Bool.true_eq_false, Bool.false_eq_true, List.set_cons_zero, List.set_cons_succ, Nat.zero_add, Nat.add_zero, Nat.zero_mul, Int.toNat_natCast, and_self, and_true, true_and, if_true, if_false, reduceCtorEq, Nat.le_refl, Nat.reduceLeDiff, Bool.not_eq_eq_eq_not, fB, fBools, fBlks, fSegs, aBlk, aSg, aSt, stRow, List.drop_zero, List.take_succ_cons, List.take_zero, List.take_nil, Nat.mul_one, Nat.one_mul, List.cons_append, List.nil_append]
    exact Ends.data (.inr rfl) (by simp [resL, resOne, tupOf, getN, s_envOf, s_envOf0, s_heapOf, s_heapOf0, s_put1, s_app0, s_app1]) trivial
  | true =>
    have g := (chk_iff s).1 hc
    simp only [show errN true = 0 from rfl, not_true, s_seq, s_skip, s_ret, s_exit, s_block, s_weak, s_cond, s_reg, s_seqC, s_seqC_exit, s_seqC_ret, s_blockK_normal, s_blockK_ret, s_blockK_exit, s_regC_text, s_regC_draw, s_nil, s_none, s_some, s_cont, s_guard, s_guardU, s_condC, s_kret, s_kfail, s_krd, s_rdK, s_consK, s_kite, s_mv, s_pick, s_new, s_box, s_build, s_bslice, s_load, s_store, s_foff, s_idx, s_fld, s_bin, s_beq, s_isnil, s_un, s_conv, s_len, s_slen, s_append, s_ext, s_slice, s_mksl, s_clo, s_nilc, s_sconv, s_b2s, s_mm, s_call, s_callv, s_tmp, s_const, s_func, s_put, s_put0, s_know, s_envOf0, s_envOf, s_heapOf0, s_heapOf, s_put1, s_app0, s_app1, s_famC_exit, s_famC_ret, boxA, cellsOf, foffA, loadA, ldA, idxA, fldA, binA, binVal, isSh, intVal, lenA, slenA, pickA, storeA, setN, getN, fillA, extA, beqA, isnilA, unA, unVal, convA, nilA, sconvA, b2sA, b2sOf, bytesOf, mmA, srcA, appA, sliceA, lohi, mkslA, List.map_cons, List.map_nil, envA, ↓reduceIte, Nat.reduceEqDiff, Nat.reduceAdd, Nat.reduceMul, List.length_cons, List.length_nil, List.getElem?_cons_zero, List.getElem?_cons_succ, Option.getD_some, Option.getD_none, List.getElem?_nil, Bool.not_true, Bool.not_false, decide_eq_true_eq, decide_eq_false_iff_not, Bool.true_eq_false, Bool.false_eq_true, List.set_cons_zero, List.set_cons_succ, Nat.zero_add, Nat.add_zero, Nat.zero_mul, Int.toNat_natCast, and_self, and_true, true_and, if_true, if_false, reduceCtorEq, Nat.le_refl, Nat.reduceLeDiff, Bool.not_eq_eq_eq_not, fB, fBools, fBlks, fSegs, aBlk, aSg, aSt, stRow, List.drop_zero, List.take_succ_cons, List.take_zero, List.take_nil, Nat.mul_one, Nat.one_mul, List.cons_append, List.nil_append]
    by_cases h0 : slot < 0
    · rw [cl_bad (liveErr_out hc (.inl h0)) (by decide)]
      simp only [h0, s_seq, s_skip, s_ret, s_exit, s_block, s_weak, s_cond, s_reg, s_seqC, s_seqC_exit, s_seqC_ret, s_blockK_normal, s_blockK_ret, s_blockK_exit, s_regC_text, s_regC_draw, s_nil, s_none, s_some, s_cont, s_guard, s_guardU, s_condC, s_kret, s_kfail, s_krd, s_rdK, s_consK, s_kite, s_mv, s_pick, s_new, s_box, s_build, s_bslice, s_load, s_store, s_foff, s_idx, s_fld, s_bin, s_beq, s_isnil, s_un, s_conv, s_len, s_slen, s_append, s_ext, s_slice, s_mksl, s_clo, s_nilc, s_sconv, s_b2s, s_mm, s_call, s_callv, s_tmp, s_const, s_func, s_put, s_put0, s_know, s_envOf0, s_envOf, s_heapOf0, s_heapOf, s_put1, s_app0, s_app1, s_famC_exit, s_famC_ret, boxA, cellsOf, foffA, loadA, ldA, idxA, fldA, binA, binVal, isSh, intVal, lenA, slenA, pickA, storeA, setN, getN, fillA, extA, beqA, isnilA, unA, unVal, convA, nilA, sconvA, b2sA, b2sOf, bytesOf, mmA, srcA, appA, sliceA, lohi, mkslA, List.map_cons, List.map_nil, envA, ↓reduceIte, Nat.reduceEqDiff, Nat.reduceAdd, Nat.reduceMul, List.length_cons, List.length_nil, List.getElem?_cons_zero, List.getElem?_cons_succ, Option.getD_some, Option.getD_none, List.getElem?_nil, Bool.not_true, Bool.not_false, decide_eq_true_eq, decide_eq_false_iff_not, Bool.true_eq_false, Bool.false_eq_true, List.set_cons_zero, List.set_cons_succ, Nat.zero_add, Nat.add_zero, Nat.zero_mul, Int.toNat_natCast, and_self, and_true, true_and, if_true, if_false, reduceCtorEq, Nat.le_refl, Nat.reduceLeDiff, Bool.not_eq_eq_eq_not, fB, fBools, fBlks, fSegs, aBlk, aSg, aSt, stRow, List.drop_zero, List.take_succ_cons, List.take_zero, List.take_nil, Nat.mul_one, Nat.one_mul, List.cons_append, List.nil_append]
      refine ⟨_, num16_spec 71 _, ?_⟩
      simp only [s_seq, s_skip, s_ret, s_exit, s_block, s_weak, s_cond, s_reg, s_seqC, s_seqC_exit, s_seqC_ret, s_blockK_normal, s_blockK_ret, s_blockK_exit, s_regC_text, s_regC_draw, s_nil, s_none, s_some, s_cont, s_guard, s_guardU, s_condC, s_kret, s_kfail, s_krd, s_rdK, s_consK, s_kite, s_mv, s_pick, s_new, s_box, s_build, s_bslice, s_load, s_store, s_foff, s_idx, s_fld, s_bin, s_beq, s_isnil, s_un, s_conv, s_len, s_slen, s_append, s_ext, s_slice, s_mksl, s_clo, s_nilc, s_sconv, s_b2s, s_mm, s_call, s_callv, s_tmp, s_const, s_func, s_put, s_put0, s_know, s_envOf0, s_envOf, s_heapOf0, s_heapOf, s_put1, s_app0, s_app1, s_famC_exit, s_famC_ret, boxA, cellsOf, foffA, loadA, ldA, idxA, fldA, binA, binVal, isSh, intVal, lenA, slenA, pickA, storeA, setN, getN, fillA, extA, beqA, isnilA, unA, unVal, convA, nilA, sconvA, b2sA, b2sOf, bytesOf, mmA, srcA, appA, sliceA, lohi, mkslA, List.map_cons, List.map_nil, envA, ↓reduceIte, Nat.reduceEqDiff, Nat.reduceAdd, Nat.reduceMul, List.length_cons, List.length_nil, List.getElem?_cons_zero, List.getElem?_cons_succ, Option.getD_some, Option.getD_none, List.getElem?_nil, Bool.not_true, Bool.not_false, decide_eq_true_eq, decide_eq_false_iff_not, Bool.true_eq_false, Bool.false_eq_true, List.set_cons_zero, List.set_cons_succ, Nat.zero_add, Nat.add_zero, Nat.zero_mul, Int.toNat_natCast, and_self, and_true, true_and, if_true, if_false, reduceCtorEq, Nat.le_refl, Nat.reduceLeDiff, Bool.not_eq_eq_eq_not, fB, fBools, fBlks, fSegs, aBlk, aSg, aSt, stRow, List.drop_zero, List.take_succ_cons, List.take_zero, List.take_nil, Nat.mul_one, Nat.one_mul, List.cons_append, List.nil_append]
      exact Ends.data (.inr rfl) (by simp [resL, resOne, tupOf, getN, s_envOf, s_envOf0, s_heapOf, s_heapOf0, s_put1, s_app0, s_app1]) trivial
    · obtain ⟨k, rfl⟩ : ∃ k : Nat, slot = k := ⟨slot.toNat, by omega⟩
      by_cases hl : (s.segs.length : Int) ≤ (k : Int)
      · rw [cl_bad (liveErr_out hc (.inr hl)) (by decide)]
        simp only [h0, hl, s_seq, s_skip, s_ret, s_exit, s_block, s_weak, s_cond, s_reg, s_seqC, s_seqC_exit, s_seqC_ret, s_blockK_normal, s_blockK_ret, s_blockK_exit, s_regC_text, s_regC_draw, s_nil, s_none, s_some, s_cont, s_guard, s_guardU, s_condC, s_kret, s_kfail, s_krd, s_rdK, s_consK, s_kite, s_mv, s_pick, s_new, s_box, s_build, s_bslice, s_load, s_store, s_foff, s_idx, s_fld, s_bin, s_beq, s_isnil, s_un, s_conv, s_len, s_slen, s_append, s_ext, s_slice, s_mksl, s_clo, s_nilc, s_sconv, s_b2s, s_mm, s_call, s_callv, s_tmp, s_const, s_func, s_put, s_put0, s_know, s_envOf0, s_envOf, s_heapOf0, s_heapOf, s_put1, s_app0, s_app1, s_famC_exit, s_famC_ret, boxA, cellsOf, foffA, loadA, ldA, idxA, fldA, binA, binVal, isSh, intVal, lenA, slenA, pickA, storeA, setN, getN, fillA, extA, beqA, isnilA, unA, unVal, convA, nilA, sconvA, b2sA, b2sOf, bytesOf, mmA, srcA, appA, sliceA, lohi, mkslA, List.map_cons, List.map_nil, envA, ↓reduceIte, Nat.reduceEqDiff, Nat.reduceAdd, Nat.reduceMul, List.length_cons, List.length_nil, List.getElem?_cons_zero, List.getElem?_cons_succ, Option.getD_some, Option.getD_none, List.getElem?_nil, Bool.not_true, Bool.not_false, decide_eq_true_eq, decide_eq_false_iff_not, Bool.true_eq_false, Bool.false_eq_true, List.set_cons_zero, List.set_cons_succ, Nat.zero_add, Nat.add_zero, Nat.zero_mul, Int.toNat_natCast, and_self, and_true, true_and, if_true, if_false, reduceCtorEq, Nat.le_refl, Nat.reduceLeDiff, Bool.not_eq_eq_eq_not, fB, fBools, fBlks, fSegs, aBlk, aSg, aSt, stRow, List.drop_zero, List.take_succ_cons, List.take_zero, List.take_nil, Nat.mul_one, Nat.one_mul, List.cons_append, List.nil_append]
        refine ⟨_, num16_spec 71 _, ?_⟩
        simp only [s_seq, s_skip, s_ret, s_exit, s_block, s_weak, s_cond, s_reg, s_seqC, s_seqC_exit, s_seqC_ret, s_blockK_normal, s_blockK_ret, s_blockK_exit, s_regC_text, s_regC_draw, s_nil, s_none, s_some, s_cont, s_guard, s_guardU, s_condC, s_kret, s_kfail, s_krd, s_rdK, s_consK, s_kite, s_mv, s_pick, s_new, s_box, s_build, s_bslice, s_load, s_store, s_foff, s_idx, s_fld, s_bin, s_beq, s_isnil, s_un, s_conv, s_len, s_slen, s_append, s_ext, s_slice, s_mksl, s_clo, s_nilc, s_sconv, s_b2s, s_mm, s_call, s_callv, s_tmp, s_const, s_func, s_put, s_put0, s_know, s_envOf0, s_envOf, s_heapOf0, s_heapOf, s_put1, s_app0, s_app1, s_famC_exit, s_famC_ret, boxA, cellsOf, foffA, loadA, ldA, idxA, fldA, binA, binVal, isSh, intVal, lenA, slenA, pickA, storeA, setN, getN, fillA, extA, beqA, isnilA, unA, unVal, convA, nilA, sconvA, b2sA, b2sOf, bytesOf, mmA, srcA, appA, sliceA, lohi, mkslA, List.map_cons, List.map_nil, envA, ↓reduceIte, Nat.reduceEqDiff, Nat.reduceAdd, Nat.reduceMul, List.length_cons, List.length_nil, List.getElem?_cons_zero, List.getElem?_cons_succ, Option.getD_some, Option.getD_none, List.getElem?_nil, Bool.not_true, Bool.not_false, decide_eq_true_eq, decide_eq_false_iff_not, Bool.true_eq_false, Bool.false_eq_true, List.set_cons_zero, List.set_cons_succ, Nat.zero_add, Nat.add_zero, Nat.zero_mul, Int.toNat_natCast, and_self, and_true, true_and, if_true, if_false, reduceCtorEq, Nat.le_refl, Nat.reduceLeDiff, Bool.not_eq_eq_eq_not, fB, fBools, fBlks, fSegs, aBlk, aSg, aSt, stRow, List.drop_zero, List.take_succ_cons, List.take_zero, List.take_nil, Nat.mul_one, Nat.one_mul, List.cons_append, List.nil_append]
        exact Ends.data (.inr rfl) (by simp [resL, resOne, tupOf, getN, s_envOf, s_envOf0, s_heapOf, s_heapOf0, s_put1, s_app0, s_app1]) trivial
      · obtain ⟨x, hx, e1, e0⟩ := lt_at (show k < s.segs.length by omega)
        obtain ⟨g0, g1⟩ := get_Segs (fr := fr) hx
        have hle := liveErr_in hc hx
        by_cases hq : x.seq = 0
        · rw [if_pos hq] at hle
          rw [cl_bad hle (by decide)]
          simp only [h0, hl, e1, e0, g0, hq, s_seq, s_skip, s_ret, s_exit, s_block, s_weak, s_cond, s_reg, s_seqC, s_seqC_exit, s_seqC_ret, s_blockK_normal, s_blockK_ret, s_blockK_exit, s_regC_text, s_regC_draw, s_nil, s_none, s_some, s_cont, s_guard, s_guardU, s_condC, s_kret, s_kfail, s_krd, s_rdK, s_consK, s_kite, s_mv, s_pick, s_new, s_box, s_build, s_bslice, s_load, s_store, s_foff, s_idx, s_fld, s_bin, s_beq, s_isnil, s_un, s_conv, s_len, s_slen, s_append, s_ext, s_slice, s_mksl, s_clo, s_nilc, s_sconv, s_b2s, s_mm, s_call, s_callv, s_tmp, s_const, s_func, s_put, s_put0, s_know, s_envOf0, s_envOf, s_heapOf0, s_heapOf, s_put1, s_app0, s_app1, s_famC_exit, s_famC_ret, boxA, cellsOf, foffA, loadA, ldA, idxA, fldA, binA, binVal, isSh, intVal, lenA, slenA, pickA, storeA, setN, getN, fillA, extA, beqA, isnilA, unA, unVal, convA, nilA, sconvA, b2sA, b2sOf, bytesOf, mmA, srcA, appA, sliceA, lohi, mkslA, List.map_cons, List.map_nil, envA, ↓reduceIte, Nat.reduceEqDiff, Nat.reduceAdd, Nat.reduceMul, List.length_cons, List.length_nil, List.getElem?_cons_zero, List.getElem?_cons_succ, Option.getD_some, Option.getD_none, List.getElem?_nil, Bool.not_true, Bool.not_false, decide_eq_true_eq, decide_eq_false_iff_not, Bool.true_eq_false, Bool.false_eq_true, List.set_cons_zero, List.set_cons_succ, Nat.zero_add, Nat.add_zero, Nat.zero_mul, Int.toNat_natCast, and_self, and_true, true_and, if_true, if_false, reduceCtorEq, Nat.le_refl, Nat.reduceLeDiff, Bool.not_eq_eq_eq_not, fB, fBools, fBlks, fSegs, aBlk, aSg, aSt, stRow, List.drop_zero, List.take_succ_cons, List.take_zero, List.take_nil, Nat.mul_one, Nat.one_mul, List.cons_append, List.nil_append]
          refine ⟨_, num16_spec 71 _, ?_⟩
          simp only [s_seq, s_skip, s_ret, s_exit, s_block, s_weak, s_cond, s_reg, s_seqC, s_seqC_exit, s_seqC_ret, s_blockK_normal, s_blockK_ret, s_blockK_exit, s_regC_text, s_regC_draw, s_nil, s_none, s_some, s_cont, s_guard, s_guardU, s_condC, s_kret, s_kfail, s_krd, s_rdK, s_consK, s_kite, s_mv, s_pick, s_new, s_box, s_build, s_bslice, s_load, s_store, s_foff, s_idx, s_fld, s_bin, s_beq, s_isnil, s_un, s_conv, s_len, s_slen, s_append, s_ext, s_slice, s_mksl, s_clo, s_nilc, s_sconv, s_b2s, s_mm, s_call, s_callv, s_tmp, s_const, s_func, s_put, s_put0, s_know, s_envOf0, s_envOf, s_heapOf0, s_heapOf, s_put1, s_app0, s_app1, s_famC_exit, s_famC_ret, boxA, cellsOf, foffA, loadA, ldA, idxA, fldA, binA, binVal, isSh, intVal, lenA, slenA, pickA, storeA, setN, getN, fillA, extA, beqA, isnilA, unA, unVal, convA, nilA, sconvA, b2sA, b2sOf, bytesOf, mmA, srcA, appA, sliceA, lohi, mkslA, List.map_cons, List.map_nil, envA, ↓reduceIte, Nat.reduceEqDiff, Nat.reduceAdd, Nat.reduceMul, List.length_cons, List.length_nil, List.getElem?_cons_zero, List.getElem?_cons_succ, Option.getD_some, Option.getD_none, List.getElem?_nil, Bool.not_true, Bool.not_false, decide_eq_true_eq, decide_eq_false_iff_not, Bool.true_eq_false, Bool.false_eq_true, List.set_cons_zero, List.set_cons_succ, Nat.zero_add, Nat.add_zero, Nat.zero_mul, Int.toNat_natCast, and_self, and_true, true_and, if_true, if_false, reduceCtorEq, Nat.le_refl, Nat.reduceLeDiff, Bool.not_eq_eq_eq_not, fB, fBools, fBlks, fSegs, aBlk, aSg, aSt, stRow, List.drop_zero, List.take_succ_cons, List.take_zero, List.take_nil, Nat.mul_one, Nat.one_mul, List.cons_append, List.nil_append]
          exact Ends.data (.inr rfl) (by simp [resL, resOne, tupOf, getN, s_envOf, s_envOf0, s_heapOf, s_heapOf0, s_put1, s_app0, s_app1]) trivial
        · rw [if_neg hq] at hle
          by_cases hs : x.seq = seq
          · have hce := cl_err (seq := seq) hle (by rw [Int.toNat_natCast]; exact hx) hs
            simp only [h0, hl, e1, e0, g0, hq, hs, not_true, s_seq, s_skip, s_ret, s_exit, s_block, s_weak, s_cond, s_reg, s_seqC, s_seqC_exit, s_seqC_ret, s_blockK_normal, s_blockK_ret, s_blockK_exit, s_regC_text, s_regC_draw, s_nil, s_none, s_some, s_cont, s_guard, s_guardU, s_condC, s_kret, s_kfail, s_krd, s_rdK, s_consK, s_kite, s_mv, s_pick, s_new, s_box, s_build, s_bslice, s_load, s_store, s_foff, s_idx, s_fld, s_bin, s_beq, s_isnil, s_un, s_conv, s_len, s_slen, s_append, s_ext, s_slice, s_mksl, s_clo, s_nilc, s_sconv, s_b2s, s_mm, s_call, s_callv, s_tmp, s_const, s_func, s_put, s_put0, s_know, s_envOf0, s_envOf, s_heapOf0, s_heapOf, s_put1, s_app0, s_app1, s_famC_exit, s_famC_ret, boxA, cellsOf, foffA, loadA, ldA, idxA, fldA, binA, binVal, isSh, intVal, lenA, slenA, pickA, storeA, setN, getN, fillA, extA, beqA, isnilA, unA, unVal, convA, nilA, sconvA, b2sA, b2sOf, bytesOf, mmA, srcA, appA, sliceA, lohi, mkslA, List.map_cons, List.map_nil, envA, ↓reduceIte, Nat.reduceEqDiff, Nat.reduceAdd, Nat.reduceMul, List.length_cons, List.length_nil, List.getElem?_cons_zero, List.getElem?_cons_succ, Option.getD_some, Option.getD_none, List.getElem?_nil, Bool.not_true, Bool.not_false, decide_eq_true_eq, decide_eq_false_iff_not, Bool.true_eq_false, Bool.false_eq_true, List.set_cons_zero, List.set_cons_succ, Nat.zero_add, Nat.add_zero, Nat.zero_mul, Int.toNat_natCast, and_self, and_true, true_and, if_true, if_false, reduceCtorEq, Nat.le_refl, Nat.reduceLeDiff, Bool.not_eq_eq_eq_not, fB, fBools, fBlks, fSegs, aBlk, aSg, aSt, stRow, List.drop_zero, List.take_succ_cons, List.take_zero, List.take_nil, Nat.mul_one, Nat.one_mul, List.cons_append, List.nil_append]
            generalize cl s k seq = q at hce ⊢
            obtain ⟨q1, q2⟩ := q
            simp only at hce
            have n1 : ¬ q2 = 81 := by omega
            have n2 : ¬ q2 = 71 := by omega
            have hq2 : ¬ seq = 0 := by rw [← hs]; exact hq
            simp only [hq2, s_seq, s_skip, s_ret, s_exit, s_block, s_weak, s_cond, s_reg, s_seqC, s_seqC_exit, s_seqC_ret, s_blockK_normal, s_blockK_ret, s_blockK_exit, s_regC_text, s_regC_draw, s_nil, s_none, s_some, s_cont, s_guard, s_guardU, s_condC, s_kret, s_kfail, s_krd, s_rdK, s_consK, s_kite, s_mv, s_pick, s_new, s_box, s_build, s_bslice, s_load, s_store, s_foff, s_idx, s_fld, s_bin, s_beq, s_isnil, s_un, s_conv, s_len, s_slen, s_append, s_ext, s_slice, s_mksl, s_clo, s_nilc, s_sconv, s_b2s, s_mm, s_call, s_callv, s_tmp, s_const, s_func, s_put, s_put0, s_know, s_envOf0, s_envOf, s_heapOf0, s_heapOf, s_put1, s_app0, s_app1, s_famC_exit, s_famC_ret, boxA, cellsOf, foffA, loadA, ldA, idxA, fldA, binA, binVal, isSh, intVal, lenA, slenA, pickA, storeA, setN, getN, fillA, extA, beqA, isnilA, unA, unVal, convA, nilA, sconvA, b2sA, b2sOf, bytesOf, mmA, srcA, appA, sliceA, lohi, mkslA, List.map_cons, List.map_nil, envA, ↓reduceIte, Nat.reduceEqDiff, Nat.reduceAdd, Nat.reduceMul, List.length_cons, List.length_nil, List.getElem?_cons_zero, List.getElem?_cons_succ, Option.getD_some, Option.getD_none, List.getElem?_nil, Bool.not_true, Bool.not_false, decide_eq_true_eq, decide_eq_false_iff_not, Bool.true_eq_false, Bool.false_eq_true, List.set_cons_zero, List.set_cons_succ, Nat.zero_add, Nat.add_zero, Nat.zero_mul, Int.toNat_natCast, and_self, and_true, true_and, if_true, if_false, reduceCtorEq, Nat.le_refl, Nat.reduceLeDiff, Bool.not_eq_eq_eq_not, fB, fBools, fBlks, fSegs, aBlk, aSg, aSt, stRow, List.drop_zero, List.take_succ_cons, List.take_zero, List.take_nil, Nat.mul_one, Nat.one_mul, List.cons_append, List.nil_append]
            refine ⟨_, num16_spec q2 _, ?_⟩
            simp only [n1, decide_false, Bool.not_false, s_seq, s_skip, s_ret, s_exit, s_block, s_weak, s_cond, s_reg, s_seqC, s_seqC_exit, s_seqC_ret, s_blockK_normal, s_blockK_ret, s_blockK_exit, s_regC_text, s_regC_draw, s_nil, s_none, s_some, s_cont, s_guard, s_guardU, s_condC, s_kret, s_kfail, s_krd, s_rdK, s_consK, s_kite, s_mv, s_pick, s_new, s_box, s_build, s_bslice, s_load, s_store, s_foff, s_idx, s_fld, s_bin, s_beq, s_isnil, s_un, s_conv, s_len, s_slen, s_append, s_ext, s_slice, s_mksl, s_clo, s_nilc, s_sconv, s_b2s, s_mm, s_call, s_callv, s_tmp, s_const, s_func, s_put, s_put0, s_know, s_envOf0, s_envOf, s_heapOf0, s_heapOf, s_put1, s_app0, s_app1, s_famC_exit, s_famC_ret, boxA, cellsOf, foffA, loadA, ldA, idxA, fldA, binA, binVal, isSh, intVal, lenA, slenA, pickA, storeA, setN, getN, fillA, extA, beqA, isnilA, unA, unVal, convA, nilA, sconvA, b2sA, b2sOf, bytesOf, mmA, srcA, appA, sliceA, lohi, mkslA, List.map_cons, List.map_nil, envA, ↓reduceIte, Nat.reduceEqDiff, Nat.reduceAdd, Nat.reduceMul, List.length_cons, List.length_nil, List.getElem?_cons_zero, List.getElem?_cons_succ, Option.getD_some, Option.getD_none, List.getElem?_nil, Bool.not_true, Bool.not_false, decide_eq_true_eq, decide_eq_false_iff_not, Bool.true_eq_false, Bool.false_eq_true, List.set_cons_zero, List.set_cons_succ, Nat.zero_add, Nat.add_zero, Nat.zero_mul, Int.toNat_natCast, and_self, and_true, true_and, if_true, if_false, reduceCtorEq, Nat.le_refl, Nat.reduceLeDiff, Bool.not_eq_eq_eq_not, fB, fBools, fBlks, fSegs, aBlk, aSg, aSt, stRow, List.drop_zero, List.take_succ_cons, List.take_zero, List.take_nil, Nat.mul_one, Nat.one_mul, List.cons_append, List.nil_append]
            refine ⟨_, num16_spec q2 _, ?_⟩
            simp only [n2, decide_false, Bool.not_false, s_seq, s_skip, s_ret, s_exit, s_block, s_weak, s_cond, s_reg, s_seqC, s_seqC_exit, s_seqC_ret, s_blockK_normal, s_blockK_ret, s_blockK_exit, s_regC_text, s_regC_draw, s_nil, s_none, s_some, s_cont, s_guard, s_guardU, s_condC, s_kret, s_kfail, s_krd, s_rdK, s_consK, s_kite, s_mv, s_pick, s_new, s_box, s_build, s_bslice, s_load, s_store, s_foff, s_idx, s_fld, s_bin, s_beq, s_isnil, s_un, s_conv, s_len, s_slen, s_append, s_ext, s_slice, s_mksl, s_clo, s_nilc, s_sconv, s_b2s, s_mm, s_call, s_callv, s_tmp, s_const, s_func, s_put, s_put0, s_know, s_envOf0, s_envOf, s_heapOf0, s_heapOf, s_put1, s_app0, s_app1, s_famC_exit, s_famC_ret, boxA, cellsOf, foffA, loadA, ldA, idxA, fldA, binA, binVal, isSh, intVal, lenA, slenA, pickA, storeA, setN, getN, fillA, extA, beqA, isnilA, unA, unVal, convA, nilA, sconvA, b2sA, b2sOf, bytesOf, mmA, srcA, appA, sliceA, lohi, mkslA, List.map_cons, List.map_nil, envA, ↓reduceIte, Nat.reduceEqDiff, Nat.reduceAdd, Nat.reduceMul, List.length_cons, List.length_nil, List.getElem?_cons_zero, List.getElem?_cons_succ, Option.getD_some, Option.getD_none, List.getElem?_nil, Bool.not_true, Bool.not_false, decide_eq_true_eq, decide_eq_false_iff_not, Bool.true_eq_false, Bool.false_eq_true, List.set_cons_zero, List.set_cons_succ, Nat.zero_add, Nat.add_zero, Nat.zero_mul, Int.toNat_natCast, and_self, and_true, true_and, if_true, if_false, reduceCtorEq, Nat.le_refl, Nat.reduceLeDiff, Bool.not_eq_eq_eq_not, fB, fBools, fBlks, fSegs, aBlk, aSg, aSt, stRow, List.drop_zero, List.take_succ_cons, List.take_zero, List.take_nil, Nat.mul_one, Nat.one_mul, List.cons_append, List.nil_append]
            exact Ends.data (.inr rfl) (by simp [resL, resOne, tupOf, getN, s_envOf, s_envOf0, s_heapOf, s_heapOf0, s_put1, s_app0, s_app1]) trivial
          · have hcl : cl s k seq = (St.zero, 81) := by unfold cl; rw [if_pos hle, Int.toNat_natCast, hx]; simp [hs]
            rw [hcl]
            simp only [h0, hl, e1, e0, g0, hq, hs, not_false_eq_true, s_seq, s_skip, s_ret, s_exit, s_block, s_weak, s_cond, s_reg, s_seqC, s_seqC_exit, s_seqC_ret, s_blockK_normal, s_blockK_ret, s_blockK_exit, s_regC_text, s_regC_draw, s_nil, s_none, s_some, s_cont, s_guard, s_guardU, s_condC, s_kret, s_kfail, s_krd, s_rdK, s_consK, s_kite, s_mv, s_pick, s_new, s_box, s_build, s_bslice, s_load, s_store, s_foff, s_idx, s_fld, s_bin, s_beq, s_isnil, s_un, s_conv, s_len, s_slen, s_append, s_ext, s_slice, s_mksl, s_clo, s_nilc, s_sconv, s_b2s, s_mm, s_call, s_callv, s_tmp, s_const, s_func, s_put, s_put0, s_know, s_envOf0, s_envOf, s_heapOf0, s_heapOf, s_put1, s_app0, s_app1, s_famC_exit, s_famC_ret, boxA, cellsOf, foffA, loadA, ldA, idxA, fldA, binA, binVal, isSh, intVal, lenA, slenA, pickA, storeA, setN, getN, fillA, extA, beqA, isnilA, unA, unVal, convA, nilA, sconvA, b2sA, b2sOf, bytesOf, mmA, srcA, appA, sliceA, lohi, mkslA, List.map_cons, List.map_nil, envA, ↓reduceIte, Nat.reduceEqDiff, Nat.reduceAdd, Nat.reduceMul, List.length_cons, List.length_nil, List.getElem?_cons_zero, List.getElem?_cons_succ, Option.getD_some, Option.getD_none, List.getElem?_nil, Bool.not_true, Bool.not_false, decide_eq_true_eq, decide_eq_false_iff_not, Bool.true_eq_false, Bool.false_eq_true, List.set_cons_zero, List.set_cons_succ, Nat.zero_add, Nat.add_zero, Nat.zero_mul, Int.toNat_natCast, and_self, and_true, true_and, if_true, if_false, reduceCtorEq, Nat.le_refl, Nat.reduceLeDiff, Bool.not_eq_eq_eq_not, fB, fBools, fBlks, fSegs, aBlk, aSg, aSt, stRow, List.drop_zero, List.take_succ_cons, List.take_zero, List.take_nil, Nat.mul_one, Nat.one_mul, List.cons_append, List.nil_append]
            refine ⟨_, num16_spec 81 _, ?_⟩
            simp only [St.zero, s_seq, s_skip, s_ret, s_exit, s_block, s_weak, s_cond, s_reg, s_seqC, s_seqC_exit, s_seqC_ret, s_blockK_normal, s_blockK_ret, s_blockK_exit, s_regC_text, s_regC_draw, s_nil, s_none, s_some, s_cont, s_guard, s_guardU, s_condC, s_kret, s_kfail, s_krd, s_rdK, s_consK, s_kite, s_mv, s_pick, s_new, s_box, s_build, s_bslice, s_load, s_store, s_foff, s_idx, s_fld, s_bin, s_beq, s_isnil, s_un, s_conv, s_len, s_slen, s_append, s_ext, s_slice, s_mksl, s_clo, s_nilc, s_sconv, s_b2s, s_mm, s_call, s_callv, s_tmp, s_const, s_func, s_put, s_put0, s_know, s_envOf0, s_envOf, s_heapOf0, s_heapOf, s_put1, s_app0, s_app1, s_famC_exit, s_famC_ret, boxA, cellsOf, foffA, loadA, ldA, idxA, fldA, binA, binVal, isSh, intVal, lenA, slenA, pickA, storeA, setN, getN, fillA, extA, beqA, isnilA, unA, unVal, convA, nilA, sconvA, b2sA, b2sOf, bytesOf, mmA, srcA, appA, sliceA, lohi, mkslA, List.map_cons, List.map_nil, envA, ↓reduceIte, Nat.reduceEqDiff, Nat.reduceAdd, Nat.reduceMul, List.length_cons, List.length_nil, List.getElem?_cons_zero, List.getElem?_cons_succ, Option.getD_some, Option.getD_none, List.getElem?_nil, Bool.not_true, Bool.not_false, decide_eq_true_eq, decide_eq_false_iff_not, Bool.true_eq_false, Bool.false_eq_true, List.set_cons_zero, List.set_cons_succ, Nat.zero_add, Nat.add_zero, Nat.zero_mul, Int.toNat_natCast, and_self, and_true, true_and, if_true, if_false, reduceCtorEq, Nat.le_refl, Nat.reduceLeDiff, Bool.not_eq_eq_eq_not, fB, fBools, fBlks, fSegs, aBlk, aSg, aSt, stRow, List.drop_zero, List.take_succ_cons, List.take_zero, List.take_nil, Nat.mul_one, Nat.one_mul, List.cons_append, List.nil_append]
            exact Ends.data (.inr rfl) (by simp [resL, resOne, tupOf, getN, s_envOf, s_envOf0, s_heapOf, s_heapOf0, s_put1, s_app0, s_app1]) trivial
end Go.Proofs.Ytfoeddmbhmfjcaa
